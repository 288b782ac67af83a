/- Printed functions of the program, out of print.sh, told more shortly. No condition. -/
import Derived.Test.YtgcipecdaimjfaaCmp
import Derived.Test.YtgcipecdaimjfaaPFnDeviceLogsx0
import Derived.Test.YtgcipecdaimjfaaPFnDeviceLogsx1
import Derived.Test.YtgcipecdaimjfaaPFnDeviceLogsx5
import Derived.Test.YtgcipecdaimjfaaPFnDeviceLogsx9
namespace Go.Proofs.Ytgcipecdaimjfaa.PFnDeviceLogs
open Go.Proofs.Ytgcipecdaimjfaa
open Go.RowKit Go.Proofs.YtgcipecdaimjfaaW.PrintWords Go.Proofs.YtgcipecdaimjfaaW.PrintLast Go.Proofs.YtgcipecdaimjfaaW.PrintMore
attribute [local go_sem] max2_int min2_int max_two min_two max_three min_three max_four min_four   -- for this text's walks alone
set_option linter.unusedVariables false
set_option linter.unusedSimpArgs false

attribute [local go_sem high] eqA86
/-! ### spec_l19Store: function 141 -/
def spec_l19Store.f (a0 : Int) : Option (Int × Int × Int × Int) := some (1, a0, wrap64 (500 + a0), 0)
set_option maxHeartbeats 8000000 in
set_option maxRecDepth 100000 in
theorem spec_l19Store.calls (a0 : Int) (r1 : Int) (r2 : Int) (r3 : Int) (r4 : Int) (w : World) (h : spec_l19Store.f a0 = some (r1, r2, r3, r4)) :
    Calls Try.prog 141 #[.int .i64 a0] w fun e w' => e = .returned (.agg #[.int .i64 r1, .int .i64 r2, .int .i64 r3, .int .i64 r4]) ∧ Below w.heap.size w w' := by
 have hu84 := Try.underlying84
 have HB := Aside0.mk (Below.refl w.heap.size w)
 have H : (some (1, a0, wrap64 (500 + a0), 0)) = some (r1, r2, r3, r4) := h
 clear h
 simp only [Option.some.injEq, Prod.mk.injEq] at H
 obtain ⟨rfl, rfl, rfl, rfl⟩ := H
 go_enter Try.func141, Try.ntmps141
 go_wp2_with (first | ((with_reducible refine gate_dst (N := 2) rfl ?_); refine box_event ?hg (N := 2) ?hd (cs := #[.int .i64 0, .int .i64 0, .int .i64 0, .int .i64 0]) (t := 84) ?hr ?_; (case hd => rfl); (case hg => rfl); (case hr => first | (go_simp; done) | (go_simp; rfl)); intro gb337 hg w2 hbox hb; have n0_ := Aside0.mk (below_step (Cmp.g HB.out) hb); have n1_ := Aside0.mk (hbox); have n2_ := Aside0.mk ((by rw [hg]; exact (below_size (Cmp.g HB.out)) : w.heap.size ≤ gb337)); have n3_ := Aside0.mk ((by rw [hg]; exact (below_size (Cmp.g HB.out)) : w.heap.size ≤ gb337)); clear HB; have HB := n0_; have BK337 := n1_; have GW337 := n2_; have GE337 := n3_; clear n0_ n1_ n2_ n3_; clear hb hbox hg; have hcz3_0 : w2.cell? ⟨gb337, 0, none⟩ = some (.int .i64 0) := (blk_cell BK337.out 0).trans rfl; have hcz3_1 : w2.cell? ⟨gb337, 1, none⟩ = some (.int .i64 0) := (blk_cell BK337.out 1).trans rfl; have hcz3_2 : w2.cell? ⟨gb337, 2, none⟩ = some (.int .i64 0) := (blk_cell BK337.out 2).trans rfl; have hcz3_3 : w2.cell? ⟨gb337, 3, none⟩ = some (.int .i64 0) := (blk_cell BK337.out 3).trans rfl; have hfz3_0 := blk_frozen BK337.out 0; have hfz3_1 := blk_frozen BK337.out 1; have hfz3_2 := blk_frozen BK337.out 2; have hfz3_3 := blk_frozen BK337.out 3))
 refine bodyPost_ret (results_cell_row rfl _ _ gb337 84 #[.int .i64 1, .int .i64 a0, .int .i64 (wrap64 (500 + a0)), .int .i64 0] (0, 0) _ rfl (by (with_reducible repeat (first | refine blk_drewN ?_ _ | refine blk_drew ?_ | refine blk_alloc ?_ _)); refine blk_put (cs := #[.int .i64 1, .int .i64 a0, .int .i64 (wrap64 (500 + a0)), .int .i64 0]) ?_ 3 _ rfl; (with_reducible repeat (first | refine blk_drewN ?_ _ | refine blk_drew ?_ | refine blk_alloc ?_ _)); refine blk_put (cs := #[.int .i64 1, .int .i64 a0, .int .i64 0, .int .i64 0]) ?_ 2 _ rfl; (with_reducible repeat (first | refine blk_drewN ?_ _ | refine blk_drew ?_ | refine blk_alloc ?_ _)); refine blk_put (cs := #[.int .i64 1, .int .i64 0, .int .i64 0, .int .i64 0]) ?_ 1 _ rfl; (with_reducible repeat (first | refine blk_drewN ?_ _ | refine blk_drew ?_ | refine blk_alloc ?_ _)); refine blk_put (cs := #[.int .i64 0, .int .i64 0, .int .i64 0, .int .i64 0]) ?_ 0 _ rfl; (with_reducible repeat (first | refine blk_drewN ?_ _ | refine blk_drew ?_ | refine blk_alloc ?_ _)); exact BK337.out) Try.underlying84 rfl (by kernel_rfl)) rfl ?_
 exact ⟨by first | rfl | (simp [errW_none, errW_some] <;> rfl) | (simp [*, errW_none, errW_some] <;> rfl), Cmp.g HB.out⟩

/-! ### spec_l19Log: function 100 -/
mutual
def spec_l19Log.l0 : Nat → List (S86) → Int → List Int → Int → Int → Option ((List (S86)) × Int × Int)
  | 0, _, _, _, _, _ => none
  | k + 1, x5, x6, x1000, x1001, x1002 => if x6 > 0 then ((spec_l1Below.f x1000 x1001 x1002 6).bind fun bt344 => ((spec_l1Below.f x1000 bt344.2.1 bt344.2.2 6).bind fun bt347 => (if (x5.length : Int) = 0 then (spec_l19Log.j1 k x5 x6 bt344.1 bt344.1 x1000 bt347.2.1 bt347.2.2) else (spec_l19Log.j1 k x5 x6 bt344.1 bt347.1 x1000 bt347.2.1 bt347.2.2)))) else (some (x5, x1001, x1002))
def spec_l19Log.j1 : Nat → List (S86) → Int → Int → Int → List Int → Int → Int → Option ((List (S86)) × Int × Int)
  | 0, _, _, _, _, _, _, _ => none
  | k + 1, x5, x6, x7, x8, x1000, x1001, x1002 => if (x5.length : Int) > 1 then ((spec_l1Once.f x1000 x1001 x1002 4).bind fun bt350 => (spec_l19Log.j2 k x5 x6 x7 x8 1 bt350.1 x1000 bt350.2.1 bt350.2.2)) else (spec_l19Log.j2 k x5 x6 x7 x8 1 false x1000 x1001 x1002)
def spec_l19Log.j2 : Nat → List (S86) → Int → Int → Int → Int → Bool → List Int → Int → Int → Option ((List (S86)) × Int × Int)
  | 0, _, _, _, _, _, _, _, _, _ => none
  | k + 1, x5, x6, x7, x8, x9, x32, x1000, x1001, x1002 => if x32 = true then (spec_l19Log.j3 k x5 x6 x7 x8 2 x1000 x1001 x1002) else (spec_l19Log.j3 k x5 x6 x7 x8 x9 x1000 x1001 x1002)
def spec_l19Log.j3 : Nat → List (S86) → Int → Int → Int → Int → List Int → Int → Int → Option ((List (S86)) × Int × Int)
  | 0, _, _, _, _, _, _, _, _ => none
  | k + 1, x5, x6, x7, x8, x9, x1000, x1001, x1002 => (spec_l19Store.f x7).bind fun bt353 => ((spec_DevicePublic.f k bt353.1 bt353.2.1 bt353.2.2.1 bt353.2.2.2).bind fun t357 => ((spec_l19Store.f x8).bind fun bt358 => ((spec_AppendEntry.f k x5 x9 t357 bt358.1 bt358.2.1 bt358.2.2.1 bt358.2.2.2).bind fun bt362 => (spec_l19Log.l0 k bt362.1 (wrap64 (x6 - 1)) x1000 x1001 x1002))))
end
def spec_l19Log.f (k : Nat) (s0_0 : List Int) (s0_1 : Int) (s0_2 : Int) (a1 : Int) : Option ((List (S86)) × Int × Int) := (spec_l1Below.f s0_0 s0_1 s0_2 a1).bind fun bt341 => (spec_l19Log.l0 k (([] : List (S86))) bt341.1 s0_0 bt341.2.1 bt341.2.2)
theorem spec_l19Log.mono_l : ∀ k, (∀ y0 y1 y2 y3 y4, LeO (spec_l19Log.l0 k y0 y1 y2 y3 y4) (spec_l19Log.l0 (k + 1) y0 y1 y2 y3 y4)) ∧ (∀ y0 y1 y2 y3 y4 y5 y6, LeO (spec_l19Log.j1 k y0 y1 y2 y3 y4 y5 y6) (spec_l19Log.j1 (k + 1) y0 y1 y2 y3 y4 y5 y6)) ∧ (∀ y0 y1 y2 y3 y4 y5 y6 y7 y8, LeO (spec_l19Log.j2 k y0 y1 y2 y3 y4 y5 y6 y7 y8) (spec_l19Log.j2 (k + 1) y0 y1 y2 y3 y4 y5 y6 y7 y8)) ∧ (∀ y0 y1 y2 y3 y4 y5 y6 y7, LeO (spec_l19Log.j3 k y0 y1 y2 y3 y4 y5 y6 y7) (spec_l19Log.j3 (k + 1) y0 y1 y2 y3 y4 y5 y6 y7))
  | 0 => ⟨fun _ _ _ _ _ r h => by simp [spec_l19Log.l0] at h, fun _ _ _ _ _ _ _ r h => by simp [spec_l19Log.j1] at h, fun _ _ _ _ _ _ _ _ _ r h => by simp [spec_l19Log.j2] at h, fun _ _ _ _ _ _ _ _ r h => by simp [spec_l19Log.j3] at h⟩
  | k + 1 => by
    obtain ⟨ih0, ih1, ih2, ih3⟩ := spec_l19Log.mono_l k
    refine ⟨?_, ?_, ?_, ?_⟩
    · intro y0 y1 y2 y3 y4
      unfold spec_l19Log.l0
      repeat' first
      | (with_reducible exact ih0 _ _ _ _ _)
      | (with_reducible exact ih1 _ _ _ _ _ _ _)
      | (with_reducible exact ih2 _ _ _ _ _ _ _ _ _)
      | (with_reducible exact ih3 _ _ _ _ _ _ _ _)
      | (with_reducible exact spec_AppendEntry.mono _ _ _ _ _ _ _ _)
      | (with_reducible exact spec_DevicePublic.mono _ _ _ _ _)
      | (with_reducible exact LeO.refl _)
      | (with_reducible exact LeO.none _)
      | (with_reducible refine LeO.ite ?_ ?_)
      | (with_reducible refine LeO.bind ?_ (fun _ => ?_))
      | exact ih0 _ _ _ _ _
      | exact ih1 _ _ _ _ _ _ _
      | exact ih2 _ _ _ _ _ _ _ _ _
      | exact ih3 _ _ _ _ _ _ _ _
      | exact spec_AppendEntry.mono _ _ _ _ _ _ _ _
      | exact spec_DevicePublic.mono _ _ _ _ _
      | exact LeO.none _
      | refine LeO.ite ?_ ?_
      | refine LeO.bind ?_ (fun _ => ?_)
    · intro y0 y1 y2 y3 y4 y5 y6
      unfold spec_l19Log.j1
      repeat' first
      | (with_reducible exact ih0 _ _ _ _ _)
      | (with_reducible exact ih1 _ _ _ _ _ _ _)
      | (with_reducible exact ih2 _ _ _ _ _ _ _ _ _)
      | (with_reducible exact ih3 _ _ _ _ _ _ _ _)
      | (with_reducible exact spec_AppendEntry.mono _ _ _ _ _ _ _ _)
      | (with_reducible exact spec_DevicePublic.mono _ _ _ _ _)
      | (with_reducible exact LeO.refl _)
      | (with_reducible exact LeO.none _)
      | (with_reducible refine LeO.ite ?_ ?_)
      | (with_reducible refine LeO.bind ?_ (fun _ => ?_))
      | exact ih0 _ _ _ _ _
      | exact ih1 _ _ _ _ _ _ _
      | exact ih2 _ _ _ _ _ _ _ _ _
      | exact ih3 _ _ _ _ _ _ _ _
      | exact spec_AppendEntry.mono _ _ _ _ _ _ _ _
      | exact spec_DevicePublic.mono _ _ _ _ _
      | exact LeO.none _
      | refine LeO.ite ?_ ?_
      | refine LeO.bind ?_ (fun _ => ?_)
    · intro y0 y1 y2 y3 y4 y5 y6 y7 y8
      unfold spec_l19Log.j2
      repeat' first
      | (with_reducible exact ih0 _ _ _ _ _)
      | (with_reducible exact ih1 _ _ _ _ _ _ _)
      | (with_reducible exact ih2 _ _ _ _ _ _ _ _ _)
      | (with_reducible exact ih3 _ _ _ _ _ _ _ _)
      | (with_reducible exact spec_AppendEntry.mono _ _ _ _ _ _ _ _)
      | (with_reducible exact spec_DevicePublic.mono _ _ _ _ _)
      | (with_reducible exact LeO.refl _)
      | (with_reducible exact LeO.none _)
      | (with_reducible refine LeO.ite ?_ ?_)
      | (with_reducible refine LeO.bind ?_ (fun _ => ?_))
      | exact ih0 _ _ _ _ _
      | exact ih1 _ _ _ _ _ _ _
      | exact ih2 _ _ _ _ _ _ _ _ _
      | exact ih3 _ _ _ _ _ _ _ _
      | exact spec_AppendEntry.mono _ _ _ _ _ _ _ _
      | exact spec_DevicePublic.mono _ _ _ _ _
      | exact LeO.none _
      | refine LeO.ite ?_ ?_
      | refine LeO.bind ?_ (fun _ => ?_)
    · intro y0 y1 y2 y3 y4 y5 y6 y7
      unfold spec_l19Log.j3
      repeat' first
      | (with_reducible exact ih0 _ _ _ _ _)
      | (with_reducible exact ih1 _ _ _ _ _ _ _)
      | (with_reducible exact ih2 _ _ _ _ _ _ _ _ _)
      | (with_reducible exact ih3 _ _ _ _ _ _ _ _)
      | (with_reducible exact spec_AppendEntry.mono _ _ _ _ _ _ _ _)
      | (with_reducible exact spec_DevicePublic.mono _ _ _ _ _)
      | (with_reducible exact LeO.refl _)
      | (with_reducible exact LeO.none _)
      | (with_reducible refine LeO.ite ?_ ?_)
      | (with_reducible refine LeO.bind ?_ (fun _ => ?_))
      | exact ih0 _ _ _ _ _
      | exact ih1 _ _ _ _ _ _ _
      | exact ih2 _ _ _ _ _ _ _ _ _
      | exact ih3 _ _ _ _ _ _ _ _
      | exact spec_AppendEntry.mono _ _ _ _ _ _ _ _
      | exact spec_DevicePublic.mono _ _ _ _ _
      | exact LeO.none _
      | refine LeO.ite ?_ ?_
      | refine LeO.bind ?_ (fun _ => ?_)
theorem spec_l19Log.mono : ∀ a0 a1 a2 a3 k, LeO (spec_l19Log.f k a0 a1 a2 a3) (spec_l19Log.f (k + 1) a0 a1 a2 a3) := by
  intro a0 a1 a2 a3 k
  obtain ⟨ih0, ih1, ih2, ih3⟩ := spec_l19Log.mono_l k
  unfold spec_l19Log.f
  repeat' first
      | (with_reducible exact ih0 _ _ _ _ _)
      | (with_reducible exact ih1 _ _ _ _ _ _ _)
      | (with_reducible exact ih2 _ _ _ _ _ _ _ _ _)
      | (with_reducible exact ih3 _ _ _ _ _ _ _ _)
      | (with_reducible exact spec_AppendEntry.mono _ _ _ _ _ _ _ _)
      | (with_reducible exact spec_DevicePublic.mono _ _ _ _ _)
      | (with_reducible exact LeO.refl _)
      | (with_reducible exact LeO.none _)
      | (with_reducible refine LeO.ite ?_ ?_)
      | (with_reducible refine LeO.bind ?_ (fun _ => ?_))
      | exact ih0 _ _ _ _ _
      | exact ih1 _ _ _ _ _ _ _
      | exact ih2 _ _ _ _ _ _ _ _ _
      | exact ih3 _ _ _ _ _ _ _ _
      | exact spec_AppendEntry.mono _ _ _ _ _ _ _ _
      | exact spec_DevicePublic.mono _ _ _ _ _
      | exact LeO.none _
      | refine LeO.ite ?_ ?_
      | refine LeO.bind ?_ (fun _ => ?_)
set_option maxHeartbeats 8000000 in
set_option maxRecDepth 100000 in
theorem spec_l19Log.calls (k : Nat) (g : Nat) (s0_0 : List Int) (s0_1 : Int) (s0_2 : Int) (a1 : Int) (r1 : List (S86)) (r2 : Int) (r3 : Int) (w0 w : World) (hI : IsS146 w0 w g s0_0 s0_1 s0_2) (hB : Below w0.heap.size w0 w) (h : spec_l19Log.f k s0_0 s0_1 s0_2 a1 = some (r1, r2, r3)) :
    Calls Try.prog 100 #[.pointer (some ⟨g, 0, none⟩), .int .i64 a1] w fun e w' => ∃ v0_ : Value, e = .returned (v0_) ∧ Kd.R k86 86 w' w.heap.size (fun _ => True) v0_ r1 ∧ IsS146 w0 w' g s0_0 r2 r3 ∧ Below w0.heap.size w0 w' ∧ KeepBut w w' g none := by
 have HI0 := Aside0.mk hI
 have HK := Aside0.mk (KeepBut.refl w g none)
 have HL := Aside0.mk hB.size; clear hI; have HW0 := Aside0.mk hB.size; have HB := Aside0.mk hB; clear hB
 have H : ((spec_l1Below.f s0_0 s0_1 s0_2 a1).bind fun bt341 => (spec_l19Log.l0 k (([] : List (S86))) bt341.1 s0_0 bt341.2.1 bt341.2.2)) = some (r1, r2, r3) := h
 clear h
 obtain ⟨y338, hy338⟩ : ∃ y_ : List (S86), y_ = (([] : List (S86))) := ⟨_, rfl⟩
 replace H : ((spec_l1Below.f s0_0 s0_1 s0_2 a1).bind fun bt341 => (spec_l19Log.l0 k y338 bt341.1 s0_0 bt341.2.1 bt341.2.2)) = some (r1, r2, r3) := by first | (rw [hy338]; with_reducible exact H) | (have H2_ := (Option.bind_some _ _).symm.trans H; rw [hy338]; with_reducible exact H2_) | (have H2_ := (Option.bind_some _ _).symm.trans H; with_reducible exact H2_) | with_reducible exact H | (rw [hy338]; exact H) | exact H
 have Ny338 := Aside0.mk hy338; clear hy338; replace H := Option.bind_eq_some_iff.mp H; obtain ⟨⟨t341, t342, t343⟩, A30, H⟩ := H; (try dsimp only at H); have A3 := Aside0.mk A30; clear A30
 have H' := Aside0.mk H
 clear H
 go_enter Try.func100, Try.ntmps100
 go_wp2_with (first | ((with_reducible refine gate_dst (N := 10) rfl ?_); refine Kd.R_lit k86 _ 86 ?hg (N := 10) ?hd (xs := ([] : List (S86))) (inner := []) (ok := fun _ => True) (okp := fun _ => True) ?hr ?hp (fun _ hk => hk) trivial (Below.refl _ _) (Nat.le_refl _) (by simp) ?_; (case hd => rfl); (case hg => rfl); (case hr => first | (go_simp; done) | (go_simp; rfl)); (case hp => exact (Reps.none _ _)); intro v339 w4 ho5 hb hg_ hnew_; clear hg_ hnew_; (first | rw [← Ny338.out] at ho5 | (simp only [Int.reduceToNat] at ho5; rw [← Ny338.out] at ho5)); have n0_ := Aside0.mk (Kd.R_lower ho5 (keep_size (w := w) (g := g) (row := none) (by repeat (first | (with_reducible first | exact HK.out | apply KeepBut.set_ | apply keep_drewN | apply keep_drew | apply keep_alloc) | exact HK.out)))); have n1_ := Aside0.mk (IsS146.below (by repeat (first | (with_reducible first | exact HI0.out | apply IsS146.alloc | apply IsS146.drewN | apply IsS146.drew | apply IsS146.set_1 | apply IsS146.set_2) | exact HI0.out)) hb); have n2_ := Aside0.mk (KeepBut.trans (by repeat (first | (with_reducible first | exact HK.out | apply KeepBut.set_ | apply keep_drewN | apply keep_drew | apply keep_alloc) | exact HK.out)) (KeepBut.of_below hb g none) (.inl rfl)); have n3_ := Aside0.mk (below_step (by repeat (first | (with_reducible first | exact HB.out | apply below_alloc | apply pw_below_drewN | apply below_drew1 | refine below_set ?_ (IsS146.ge HI0.out)) | exact HB.out)) hb); clear HI0; clear HK; clear HB; have HO340 := n0_; have HI0 := n1_; have HK := n2_; have HB := n3_; clear n0_ n1_ n2_ n3_; clear hb ho5) | ((with_reducible refine gate_callee (f := 106) rfl ?_); refine goesL_ (some 13) rfl rfl Try.func106 (by kernel_rfl) rfl #[.pointer (some ⟨g, 0, none⟩), .int .i64 a1] rfl Cmp.q ?_; (with_reducible refine (spec_l1Below.calls g s0_0 s0_1 s0_2 a1 t341 t342 t343 w0 _ ?side1 ?side2 A3.out).mono ?_); (case side1 => repeat (first | (with_reducible first | exact HI0.out | apply IsS146.alloc | apply IsS146.drewN | apply IsS146.drew | apply IsS146.set_1 | apply IsS146.set_2) | exact HI0.out)); (case side2 => repeat (first | (with_reducible first | exact HB.out | apply below_alloc | apply pw_below_drewN | apply below_drew1 | refine below_set ?_ (IsS146.ge HI0.out)) | exact HB.out)); rintro e w6 ⟨rfl, hi, hb, hk⟩; refine ⟨_, rfl, ?_⟩; have n0_ := Aside0.mk (Kd.R_mono (Kd.R_keep (IsS146.apart (show IsS146 w0 _ g s0_0 s0_1 s0_2 from by repeat (first | (with_reducible first | exact HI0.out | apply IsS146.alloc | apply IsS146.drewN | apply IsS146.drew | apply IsS146.set_1 | apply IsS146.set_2) | exact HI0.out)) (Cmp.rr HO340.out) (by decide)) hk (fun _ h => h.2)) (fun _ h => h.1)); have n1_ := Aside0.mk (KeepBut.trans (by repeat (first | (with_reducible first | exact HK.out | apply KeepBut.set_ | apply keep_drewN | apply keep_drew | apply keep_alloc) | exact HK.out)) hk (.inl rfl)); have n2_ := Aside0.mk (hb); have n3_ := Aside0.mk (hi); clear HO340; clear HK; clear HB; clear HI0; have HO340 := n0_; have HK := n1_; have HB := n2_; have HI0 := n3_; clear n0_ n1_ n2_ n3_; (try clear hb); (try clear hb2); (try clear hk); (try clear hi)))
 go_loopg [5, 6] k (fun kq v5 v6 w' => ∃ (x5_1 : List (S86)) (x6_1 : Int) (x1001_1 : Int) (x1002_1 : Int), v6 = .int .i64 x6_1 ∧ Aside0 (spec_l19Log.l0 kq x5_1 x6_1 s0_0 x1001_1 x1002_1 = some (r1, r2, r3)) ∧ Aside0 (kq ≤ k) ∧ Aside0 (Kd.R k86 86 w' w.heap.size (fun _ => True) v5 x5_1) ∧ Aside0 (IsS146 w0 w' g s0_0 x1001_1 x1002_1) ∧ Aside0 (KeepBut w w' g none) ∧ Aside0 (Below w0.heap.size w0 w'))
 case atStart => exact ⟨(y338), (t341), (t342), (t343), (by first | rfl | simp | simp [*]), H', ⟨Nat.le_refl _⟩, ⟨by (with_reducible repeat (first | apply Kd.R_alloc | apply Kd.R_drewN | apply Kd.R_drew)); exact HO340.out⟩, ⟨by repeat (first | (with_reducible first | exact HI0.out | apply IsS146.alloc | apply IsS146.drewN | apply IsS146.drew | apply IsS146.set_1 | apply IsS146.set_2) | exact HI0.out)⟩, ⟨by repeat (first | (with_reducible first | exact HK.out | apply KeepBut.set_ | apply keep_drewN | apply keep_drew | apply keep_alloc) | exact HK.out)⟩, ⟨by repeat (first | (with_reducible first | exact HB.out | apply below_alloc | apply pw_below_drewN | apply below_drew1 | refine below_set ?_ (IsS146.ge HI0.out)) | exact HB.out)⟩⟩
 case round =>
  clear H'
  (try clear c1); (try clear p2)
  obtain ⟨x5_1, x6_1, x1001_1, x1002_1, rfl, HA, HK1, HO_5, HI0, HK, HB⟩ := hrel
  cases gk with
  | zero => exact absurd HA.out (by simp [spec_l19Log.l0])
  | succ k1 =>
   have H := HA.out; clear HA
   simp only [spec_l19Log.l0] at H
   by_cases c7 : x6_1 > 0
   ·rw [if_pos c7] at H; have c7b0 : decide (0 < x6_1) = true := decide_eq_true c7; clear c7; replace H := Option.bind_eq_some_iff.mp H; obtain ⟨⟨t344, t345, t346⟩, A80, H⟩ := H; (try dsimp only at H); have A8 := Aside0.mk A80; clear A80; replace H := Option.bind_eq_some_iff.mp H; obtain ⟨⟨t347, t348, t349⟩, A90, H⟩ := H; (try dsimp only at H); have A9 := Aside0.mk A90; clear A90; have HC10 := Aside0.mk H; clear H
    go_upto_if 24 with (first | ((with_reducible refine gate_callee (f := 106) rfl ?_); refine goesL_ (some 19) rfl rfl Try.func106 (by kernel_rfl) rfl #[.pointer (some ⟨g, 0, none⟩), .int .i64 6] rfl Cmp.q ?_; (with_reducible refine (spec_l1Below.calls g s0_0 x1001_1 x1002_1 6 t344 t345 t346 w0 _ ?side1 ?side2 A8.out).mono ?_); (case side1 => repeat (first | (with_reducible first | exact HI0.out | apply IsS146.alloc | apply IsS146.drewN | apply IsS146.drew | apply IsS146.set_1 | apply IsS146.set_2) | exact HI0.out)); (case side2 => repeat (first | (with_reducible first | exact HB.out | apply below_alloc | apply pw_below_drewN | apply below_drew1 | refine below_set ?_ (IsS146.ge HI0.out)) | exact HB.out)); rintro e w11 ⟨rfl, hi, hb, hk⟩; refine ⟨_, rfl, ?_⟩; have n0_ := Aside0.mk (Kd.R_mono (Kd.R_keep (IsS146.apart (show IsS146 w0 _ g s0_0 x1001_1 x1002_1 from by repeat (first | (with_reducible first | exact HI0.out | apply IsS146.alloc | apply IsS146.drewN | apply IsS146.drew | apply IsS146.set_1 | apply IsS146.set_2) | exact HI0.out)) (Cmp.rr HO_5.out) (by decide)) hk (fun _ h => h.2)) (fun _ h => h.1)); have n1_ := Aside0.mk (KeepBut.trans (by repeat (first | (with_reducible first | exact HK.out | apply KeepBut.set_ | apply keep_drewN | apply keep_drew | apply keep_alloc) | exact HK.out)) hk (.inl rfl)); have n2_ := Aside0.mk (hb); have n3_ := Aside0.mk (hi); clear HO_5; clear HK; clear HB; clear HI0; have HO_5 := n0_; have HK := n1_; have HB := n2_; have HI0 := n3_; clear n0_ n1_ n2_ n3_; (try clear hb); (try clear hb2); (try clear hk); (try clear hi)) | ((with_reducible refine gate_callee (f := 106) rfl ?_); refine goesL_ (some 21) rfl rfl Try.func106 (by kernel_rfl) rfl #[.pointer (some ⟨g, 0, none⟩), .int .i64 6] rfl Cmp.q ?_; (with_reducible refine (spec_l1Below.calls g s0_0 t345 t346 6 t347 t348 t349 w0 _ ?side1 ?side2 A9.out).mono ?_); (case side1 => repeat (first | (with_reducible first | exact HI0.out | apply IsS146.alloc | apply IsS146.drewN | apply IsS146.drew | apply IsS146.set_1 | apply IsS146.set_2) | exact HI0.out)); (case side2 => repeat (first | (with_reducible first | exact HB.out | apply below_alloc | apply pw_below_drewN | apply below_drew1 | refine below_set ?_ (IsS146.ge HI0.out)) | exact HB.out)); rintro e w12 ⟨rfl, hi, hb, hk⟩; refine ⟨_, rfl, ?_⟩; have n0_ := Aside0.mk (Kd.R_mono (Kd.R_keep (IsS146.apart (show IsS146 w0 _ g s0_0 t345 t346 from by repeat (first | (with_reducible first | exact HI0.out | apply IsS146.alloc | apply IsS146.drewN | apply IsS146.drew | apply IsS146.set_1 | apply IsS146.set_2) | exact HI0.out)) (Cmp.rr HO_5.out) (by decide)) hk (fun _ h => h.2)) (fun _ h => h.1)); have n1_ := Aside0.mk (KeepBut.trans (by repeat (first | (with_reducible first | exact HK.out | apply KeepBut.set_ | apply keep_drewN | apply keep_drew | apply keep_alloc) | exact HK.out)) hk (.inl rfl)); have n2_ := Aside0.mk (hb); have n3_ := Aside0.mk (hi); clear HO_5; clear HK; clear HB; clear HI0; have HO_5 := n0_; have HK := n1_; have HB := n2_; have HI0 := n3_; clear n0_ n1_ n2_ n3_; (try clear hb); (try clear hb2); (try clear hk); (try clear hi); obtain ⟨Ao13, co13, eo13⟩ := Kd.R_slice HO_5.out; subst eo13))
    (try simp only [Act.put, List.setIfInBounds_toArray, List.set_cons_zero, List.set_cons_succ])
    go_cut [8] (fun v8 wc => ∃ (kq : Nat) (x8_9 : Int), v8 = .int .i64 x8_9 ∧ Aside0 (spec_l19Log.j1 kq x5_1 x6_1 t344 x8_9 s0_0 t348 t349 = some (r1, r2, r3)) ∧ Aside0 (kq ≤ k1) ∧ Aside0 (Kd.R k86 86 wc w.heap.size (fun _ => True) (.slice Ao13 x5_1.length co13) x5_1) ∧ Aside0 (IsS146 w0 wc g s0_0 t348 t349) ∧ Aside0 (KeepBut w wc g none) ∧ Aside0 (Below w0.heap.size w0 wc))
    case first =>
     have H := HC10.out; clear HC10
     by_cases c14 : (x5_1.length : Int) = 0
     ·rw [if_pos c14] at H
      have c14b0 : ((x5_1.length : Int) == 0) = true := beq_iff_eq.mpr c14
      have c14b1 : ((x5_1.length : Int) != 0) = false := bne_eq_false_iff_eq.mpr c14
      clear c14
      (first | rw [c14b0] | (simp only [i64_w, i32_w]; rw [c14b0]) | skip)
      have H' := Aside0.mk H
      clear H
      go_wp2
      go_meet
      case rel => exact ⟨_, (t344), (by first | rfl | simp | simp [*]), H', ⟨by have := HK1.out; first | omega | exact Nat.le_refl _⟩, ⟨by (with_reducible repeat (first | apply Kd.R_alloc | apply Kd.R_drewN | apply Kd.R_drew)); exact HO_5.out⟩, ⟨by repeat (first | (with_reducible first | exact HI0.out | apply IsS146.alloc | apply IsS146.drewN | apply IsS146.drew | apply IsS146.set_1 | apply IsS146.set_2) | exact HI0.out)⟩, ⟨by repeat (first | (with_reducible first | exact HK.out | apply KeepBut.set_ | apply keep_drewN | apply keep_drew | apply keep_alloc) | exact HK.out)⟩, ⟨by repeat (first | (with_reducible first | exact HB.out | apply below_alloc | apply pw_below_drewN | apply below_drew1 | refine below_set ?_ (IsS146.ge HI0.out)) | exact HB.out)⟩⟩
     ·rw [if_neg c14] at H
      have c14b0 : ((x5_1.length : Int) == 0) = false := beq_eq_false_iff_ne.mpr c14
      have c14b1 : ((x5_1.length : Int) != 0) = true := bne_iff_ne.mpr c14
      have c14b2 : ¬ (x5_1 = []) := fun h_ => c14 (by rw [h_]; rfl)
      (first | rw [c14b0] | (simp only [i64_w, i32_w]; rw [c14b0]) | skip)
      have H' := Aside0.mk H
      clear H
      go_wp2
      go_meet
      case rel => exact ⟨_, (t347), (by first | rfl | simp | simp [*]), H', ⟨by have := HK1.out; first | omega | exact Nat.le_refl _⟩, ⟨by (with_reducible repeat (first | apply Kd.R_alloc | apply Kd.R_drewN | apply Kd.R_drew)); exact HO_5.out⟩, ⟨by repeat (first | (with_reducible first | exact HI0.out | apply IsS146.alloc | apply IsS146.drewN | apply IsS146.drew | apply IsS146.set_1 | apply IsS146.set_2) | exact HI0.out)⟩, ⟨by repeat (first | (with_reducible first | exact HK.out | apply KeepBut.set_ | apply keep_drewN | apply keep_drew | apply keep_alloc) | exact HK.out)⟩, ⟨by repeat (first | (with_reducible first | exact HB.out | apply below_alloc | apply pw_below_drewN | apply below_drew1 | refine below_set ?_ (IsS146.ge HI0.out)) | exact HB.out)⟩⟩
    case rest =>
     clear HC10; (try clear c1); (try clear p2); (try clear c7); (try clear c7b0); (try clear c10); (try clear c14); (try clear c14b0); (try clear c14b1); (try clear c14b2); (try clear p2)
     obtain ⟨kq, x8_9, rfl, HA, HJ9, HO_5, HI0, HK, HB⟩ := hcut
     cases kq with
     | zero => exact absurd HA.out (by simp [spec_l19Log.j1])
     | succ kj9 =>
      have H := HA.out; clear HA
      simp only [spec_l19Log.j1] at H
      have HC15 := Aside0.mk H; clear H
      go_upto_region 10 with (fail)
      go_cut [32] (fun v32 wc => ∃ (kq : Nat) (x32_14 : Bool) (x1001_14 : Int) (x1002_14 : Int), v32 = .bool x32_14 ∧ Aside0 (spec_l19Log.j2 kq x5_1 x6_1 t344 x8_9 1 x32_14 s0_0 x1001_14 x1002_14 = some (r1, r2, r3)) ∧ Aside0 (kq ≤ kj9) ∧ Aside0 (Kd.R k86 86 wc w.heap.size (fun _ => True) (.slice Ao13 x5_1.length co13) x5_1) ∧ Aside0 (IsS146 w0 wc g s0_0 x1001_14 x1002_14) ∧ Aside0 (KeepBut w wc g none) ∧ Aside0 (Below w0.heap.size w0 wc))
      case first =>
       have H := HC15.out; clear HC15
       by_cases c16 : (x5_1.length : Int) > 1
       ·rw [if_pos c16] at H
        have c16b0 : decide (1 < (x5_1.length : Int)) = true := decide_eq_true c16
        have c16b1 : decide (1 < x5_1.length) = true := decide_eq_true (by omega)
        clear c16
        (first | rw [c16b0] | (simp only [i64_w, i32_w]; rw [c16b0]) | skip)
        replace H := Option.bind_eq_some_iff.mp H; obtain ⟨⟨t350, t351, t352⟩, A170, H⟩ := H; (try dsimp only at H); have A17 := Aside0.mk A170; clear A170
        have H' := Aside0.mk H
        clear H
        go_wp2_with (first | (go_at_call 55; (with_reducible refine (spec_l1Once.calls g s0_0 t348 t349 4 t350 t351 t352 w0 _ ?side1 ?side2 A17.out).mono ?_); (case side1 => repeat (first | (with_reducible first | exact HI0.out | apply IsS146.alloc | apply IsS146.drewN | apply IsS146.drew | apply IsS146.set_1 | apply IsS146.set_2) | exact HI0.out)); (case side2 => repeat (first | (with_reducible first | exact HB.out | apply below_alloc | apply pw_below_drewN | apply below_drew1 | refine below_set ?_ (IsS146.ge HI0.out)) | exact HB.out)); rintro e w18 ⟨rfl, hi, hb, hk⟩; have n0_ := Aside0.mk (Kd.R_mono (Kd.R_keep (IsS146.apart (show IsS146 w0 _ g s0_0 t348 t349 from by repeat (first | (with_reducible first | exact HI0.out | apply IsS146.alloc | apply IsS146.drewN | apply IsS146.drew | apply IsS146.set_1 | apply IsS146.set_2) | exact HI0.out)) (Cmp.rr HO_5.out) (by decide)) hk (fun _ h => h.2)) (fun _ h => h.1)); have n1_ := Aside0.mk (KeepBut.trans (by repeat (first | (with_reducible first | exact HK.out | apply KeepBut.set_ | apply keep_drewN | apply keep_drew | apply keep_alloc) | exact HK.out)) hk (.inl rfl)); have n2_ := Aside0.mk (hb); have n3_ := Aside0.mk (hi); clear HO_5; clear HK; clear HB; clear HI0; have HO_5 := n0_; have HK := n1_; have HB := n2_; have HI0 := n3_; clear n0_ n1_ n2_ n3_; (try clear hb); (try clear hb2); (try clear hk); (try clear hi)))
        go_meet
        case rel => exact ⟨_, (t350), (t351), (t352), (by first | rfl | simp | simp [*]), H', ⟨by have := HK1.out; have := HJ9.out; first | omega | exact Nat.le_refl _⟩, ⟨by (with_reducible repeat (first | apply Kd.R_alloc | apply Kd.R_drewN | apply Kd.R_drew)); exact HO_5.out⟩, ⟨by repeat (first | (with_reducible first | exact HI0.out | apply IsS146.alloc | apply IsS146.drewN | apply IsS146.drew | apply IsS146.set_1 | apply IsS146.set_2) | exact HI0.out)⟩, ⟨by repeat (first | (with_reducible first | exact HK.out | apply KeepBut.set_ | apply keep_drewN | apply keep_drew | apply keep_alloc) | exact HK.out)⟩, ⟨by repeat (first | (with_reducible first | exact HB.out | apply below_alloc | apply pw_below_drewN | apply below_drew1 | refine below_set ?_ (IsS146.ge HI0.out)) | exact HB.out)⟩⟩
       ·rw [if_neg c16] at H
        have c16b0 : decide (1 < (x5_1.length : Int)) = false := decide_eq_false c16
        have c16b1 : decide (1 < x5_1.length) = false := decide_eq_false (by omega)
        clear c16
        (first | rw [c16b0] | (simp only [i64_w, i32_w]; rw [c16b0]) | skip)
        have H' := Aside0.mk H
        clear H
        go_wp2
        go_meet
        case rel => exact ⟨_, (false), (t348), (t349), (by first | rfl | simp | simp [*]), H', ⟨by have := HK1.out; have := HJ9.out; first | omega | exact Nat.le_refl _⟩, ⟨by (with_reducible repeat (first | apply Kd.R_alloc | apply Kd.R_drewN | apply Kd.R_drew)); exact HO_5.out⟩, ⟨by repeat (first | (with_reducible first | exact HI0.out | apply IsS146.alloc | apply IsS146.drewN | apply IsS146.drew | apply IsS146.set_1 | apply IsS146.set_2) | exact HI0.out)⟩, ⟨by repeat (first | (with_reducible first | exact HK.out | apply KeepBut.set_ | apply keep_drewN | apply keep_drew | apply keep_alloc) | exact HK.out)⟩, ⟨by repeat (first | (with_reducible first | exact HB.out | apply below_alloc | apply pw_below_drewN | apply below_drew1 | refine below_set ?_ (IsS146.ge HI0.out)) | exact HB.out)⟩⟩
      case rest =>
       clear HC15; (try clear c1); (try clear p2); (try clear c7); (try clear c7b0); (try clear c10); (try clear c14); (try clear c14b0); (try clear c14b1); (try clear c14b2); (try clear c16); (try clear c16b0); (try clear c16b1); (try clear p2)
       obtain ⟨kq, x32_14, x1001_14, x1002_14, rfl, HA, HJ14, HO_5, HI0, HK, HB⟩ := hcut
       cases kq with
       | zero => exact absurd HA.out (by simp [spec_l19Log.j2])
       | succ kj14 =>
        have H := HA.out; clear HA
        simp only [spec_l19Log.j2] at H
        have HC19 := Aside0.mk H; clear H
        go_upto_if 32 with (fail)
        go_cut [9] (fun v9 wc => ∃ (kq : Nat) (x9_18 : Int), v9 = .int .i64 x9_18 ∧ Aside0 (spec_l19Log.j3 kq x5_1 x6_1 t344 x8_9 x9_18 s0_0 x1001_14 x1002_14 = some (r1, r2, r3)) ∧ Aside0 (kq ≤ kj14) ∧ Aside0 (Kd.R k86 86 wc w.heap.size (fun _ => True) (.slice Ao13 x5_1.length co13) x5_1) ∧ Aside0 (IsS146 w0 wc g s0_0 x1001_14 x1002_14) ∧ Aside0 (KeepBut w wc g none) ∧ Aside0 (Below w0.heap.size w0 wc))
        case first =>
         have H := HC19.out; clear HC19
         by_cases c20 : x32_14 = true
         ·subst c20; rw [if_pos rfl] at H
          have H' := Aside0.mk H
          clear H
          go_wp2
          go_meet
          case rel => exact ⟨_, (2), (by first | rfl | simp | simp [*]), H', ⟨by have := HK1.out; have := HJ9.out; have := HJ14.out; first | omega | exact Nat.le_refl _⟩, ⟨by (with_reducible repeat (first | apply Kd.R_alloc | apply Kd.R_drewN | apply Kd.R_drew)); exact HO_5.out⟩, ⟨by repeat (first | (with_reducible first | exact HI0.out | apply IsS146.alloc | apply IsS146.drewN | apply IsS146.drew | apply IsS146.set_1 | apply IsS146.set_2) | exact HI0.out)⟩, ⟨by repeat (first | (with_reducible first | exact HK.out | apply KeepBut.set_ | apply keep_drewN | apply keep_drew | apply keep_alloc) | exact HK.out)⟩, ⟨by repeat (first | (with_reducible first | exact HB.out | apply below_alloc | apply pw_below_drewN | apply below_drew1 | refine below_set ?_ (IsS146.ge HI0.out)) | exact HB.out)⟩⟩
         ·replace c20 := Bool.eq_false_iff.mpr c20
          subst c20
          have H1 : (spec_l19Log.j3 kj14 x5_1 x6_1 t344 x8_9 1 s0_0 x1001_14 x1002_14) = some (r1, r2, r3) := by rw [if_neg (show ¬ (false = true) by decide)] at H; exact H
          clear H; have H := H1; clear H1
          have H' := Aside0.mk H
          clear H
          go_wp2
          go_meet
          case rel => exact ⟨_, (1), (by first | rfl | simp | simp [*]), H', ⟨by have := HK1.out; have := HJ9.out; have := HJ14.out; first | omega | exact Nat.le_refl _⟩, ⟨by (with_reducible repeat (first | apply Kd.R_alloc | apply Kd.R_drewN | apply Kd.R_drew)); exact HO_5.out⟩, ⟨by repeat (first | (with_reducible first | exact HI0.out | apply IsS146.alloc | apply IsS146.drewN | apply IsS146.drew | apply IsS146.set_1 | apply IsS146.set_2) | exact HI0.out)⟩, ⟨by repeat (first | (with_reducible first | exact HK.out | apply KeepBut.set_ | apply keep_drewN | apply keep_drew | apply keep_alloc) | exact HK.out)⟩, ⟨by repeat (first | (with_reducible first | exact HB.out | apply below_alloc | apply pw_below_drewN | apply below_drew1 | refine below_set ?_ (IsS146.ge HI0.out)) | exact HB.out)⟩⟩
        case rest =>
         clear HC19; (try clear c1); (try clear c2); (try clear p2); (try clear c7); (try clear c7b0); (try clear c10); (try clear c14); (try clear c14b0); (try clear c14b1); (try clear c14b2); (try clear c16); (try clear c16b0); (try clear c16b1); (try clear c20); (try clear p2)
         obtain ⟨kq, x9_18, rfl, HA, HJ18, HO_5, HI0, HK, HB⟩ := hcut
         cases kq with
         | zero => exact absurd HA.out (by simp [spec_l19Log.j3])
         | succ kj18 =>
          have H := HA.out; clear HA
          simp only [spec_l19Log.j3] at H
          replace H := Option.bind_eq_some_iff.mp H; obtain ⟨⟨t353, t354, t355, t356⟩, A210, H⟩ := H; (try dsimp only at H); have A21 := Aside0.mk A210; clear A210; replace H := Option.bind_eq_some_iff.mp H; obtain ⟨t357, A220, H⟩ := H; (try dsimp only at H); have A22 := Aside0.mk A220; clear A220; replace H := Option.bind_eq_some_iff.mp H; obtain ⟨⟨t358, t359, t360, t361⟩, A230, H⟩ := H; (try dsimp only at H); have A23 := Aside0.mk A230; clear A230; replace H := Option.bind_eq_some_iff.mp H; obtain ⟨⟨t362, t365⟩, A240, H⟩ := H; (try dsimp only at H); have A24 := Aside0.mk A240; clear A240
          have H' := Aside0.mk H
          clear H
          go_wp2_with (first | ((with_reducible refine gate_callee (f := 141) rfl ?_); refine goesL_ (some 37) rfl rfl Try.func141 (by kernel_rfl) rfl #[.int .i64 t344] rfl Cmp.q ?_; (with_reducible refine (spec_l19Store.calls t344 t353 t354 t355 t356 _ A21.out).mono ?_); rintro e w25 ⟨rfl, hb⟩; refine ⟨_, rfl, ?_⟩; have n0_ := Aside0.mk (Kd.R_below (Cmp.rr HO_5.out) hb); have n1_ := Aside0.mk (IsS146.below (by repeat (first | (with_reducible first | exact HI0.out | apply IsS146.alloc | apply IsS146.drewN | apply IsS146.drew | apply IsS146.set_1 | apply IsS146.set_2) | exact HI0.out)) hb); have n2_ := Aside0.mk (KeepBut.trans (by repeat (first | (with_reducible first | exact HK.out | apply KeepBut.set_ | apply keep_drewN | apply keep_drew | apply keep_alloc) | exact HK.out)) (KeepBut.of_below hb g none) (.inl rfl)); have n3_ := Aside0.mk (below_step (by repeat (first | (with_reducible first | exact HB.out | apply below_alloc | apply pw_below_drewN | apply below_drew1 | refine below_set ?_ (IsS146.ge HI0.out)) | exact HB.out)) hb); clear HO_5; clear HI0; clear HK; clear HB; have HO_5 := n0_; have HI0 := n1_; have HK := n2_; have HB := n3_; clear n0_ n1_ n2_ n3_; (try clear hb); (try clear hb2); (try clear hk); (try clear hi)) | ((with_reducible refine gate_callee (f := 40) rfl ?_); refine goesL_ (some 38) rfl rfl Try.func40 (by kernel_rfl) rfl #[.agg #[.int .i64 t353, .int .i64 t354, .int .i64 t355, .int .i64 t356]] rfl Cmp.q ?_; (with_reducible refine (spec_DevicePublic.calls kj18 t353 t354 t355 t356 t357 _ A22.out).mono ?_); rintro e w26 ⟨rfl, hb⟩; refine ⟨_, rfl, ?_⟩; have n0_ := Aside0.mk (Kd.R_below (Cmp.rr HO_5.out) hb); have n1_ := Aside0.mk (IsS146.below (by repeat (first | (with_reducible first | exact HI0.out | apply IsS146.alloc | apply IsS146.drewN | apply IsS146.drew | apply IsS146.set_1 | apply IsS146.set_2) | exact HI0.out)) hb); have n2_ := Aside0.mk (KeepBut.trans (by repeat (first | (with_reducible first | exact HK.out | apply KeepBut.set_ | apply keep_drewN | apply keep_drew | apply keep_alloc) | exact HK.out)) (KeepBut.of_below hb g none) (.inl rfl)); have n3_ := Aside0.mk (below_step (by repeat (first | (with_reducible first | exact HB.out | apply below_alloc | apply pw_below_drewN | apply below_drew1 | refine below_set ?_ (IsS146.ge HI0.out)) | exact HB.out)) hb); clear HO_5; clear HI0; clear HK; clear HB; have HO_5 := n0_; have HI0 := n1_; have HK := n2_; have HB := n3_; clear n0_ n1_ n2_ n3_; (try clear hb); (try clear hb2); (try clear hk); (try clear hi)) | ((with_reducible refine gate_callee (f := 141) rfl ?_); refine goesL_ (some 40) rfl rfl Try.func141 (by kernel_rfl) rfl #[.int .i64 x8_9] rfl Cmp.q ?_; (with_reducible refine (spec_l19Store.calls x8_9 t358 t359 t360 t361 _ A23.out).mono ?_); rintro e w27 ⟨rfl, hb⟩; refine ⟨_, rfl, ?_⟩; have n0_ := Aside0.mk (Kd.R_below (Cmp.rr HO_5.out) hb); have n1_ := Aside0.mk (IsS146.below (by repeat (first | (with_reducible first | exact HI0.out | apply IsS146.alloc | apply IsS146.drewN | apply IsS146.drew | apply IsS146.set_1 | apply IsS146.set_2) | exact HI0.out)) hb); have n2_ := Aside0.mk (KeepBut.trans (by repeat (first | (with_reducible first | exact HK.out | apply KeepBut.set_ | apply keep_drewN | apply keep_drew | apply keep_alloc) | exact HK.out)) (KeepBut.of_below hb g none) (.inl rfl)); have n3_ := Aside0.mk (below_step (by repeat (first | (with_reducible first | exact HB.out | apply below_alloc | apply pw_below_drewN | apply below_drew1 | refine below_set ?_ (IsS146.ge HI0.out)) | exact HB.out)) hb); clear HO_5; clear HI0; clear HK; clear HB; have HO_5 := n0_; have HI0 := n1_; have HK := n2_; have HB := n3_; clear n0_ n1_ n2_ n3_; (try clear hb); (try clear hb2); (try clear hk); (try clear hi)) | ((with_reducible refine gate_callee (f := 140) rfl ?_); refine goesL_ (some 41) rfl rfl Try.func140 (by kernel_rfl) rfl #[.slice Ao13 x5_1.length co13, .int .i64 x9_18, .int .i64 t357, .agg #[.int .i64 t358, .int .i64 t359, .int .i64 t360, .int .i64 t361]] rfl Cmp.q ?_; (with_reducible refine (spec_AppendEntry.calls kj18 _ _ x5_1 x9_18 t357 t358 t359 t360 t361 t362 t365 _ ?side1 ?side2 A24.out).mono ?_); (case side1 => exact Cmp.rc (Kd.R_reads' HO_5.out).2.2); (case side2 => exact (Kd.R_reads' HO_5.out).2.1); rintro e w28 ⟨v363, rfl, ho0, hb⟩; refine ⟨_, rfl, ?_⟩; have n0_ := Aside0.mk (Kd.R_elder' (Cmp.rr HO_5.out) (Kd.R_base ho0) hb); have n1_ := Aside0.mk (Kd.R_lower (Kd.R_new' ho0 (Kd.R_lt (Cmp.rr HO_5.out))) (keep_size (w := w) (g := g) (row := none) (by repeat (first | (with_reducible first | exact HK.out | apply KeepBut.set_ | apply keep_drewN | apply keep_drew | apply keep_alloc) | exact HK.out)))); have n2_ := Aside0.mk (IsS146.below (by repeat (first | (with_reducible first | exact HI0.out | apply IsS146.alloc | apply IsS146.drewN | apply IsS146.drew | apply IsS146.set_1 | apply IsS146.set_2) | exact HI0.out)) hb); have n3_ := Aside0.mk (KeepBut.trans (by repeat (first | (with_reducible first | exact HK.out | apply KeepBut.set_ | apply keep_drewN | apply keep_drew | apply keep_alloc) | exact HK.out)) (KeepBut.of_below hb g none) (.inl rfl)); have n4_ := Aside0.mk (below_step (by repeat (first | (with_reducible first | exact HB.out | apply below_alloc | apply pw_below_drewN | apply below_drew1 | refine below_set ?_ (IsS146.ge HI0.out)) | exact HB.out)) hb); clear HO_5; clear HI0; clear HK; clear HB; have HO_5 := n0_; have HO364 := n1_; have HI0 := n2_; have HK := n3_; have HB := n4_; clear n0_ n1_ n2_ n3_ n4_; (try clear hb); (try clear hb2); (try clear hk); (try clear hi); (try clear ho0)))
          go_roundg kj18
          case measure => have := HK1.out; have := HJ9.out; have := HJ14.out; have := HJ18.out; omega
          case rel => exact ⟨(t362), (wrap64 (x6_1 - 1)), (x1001_14), (x1002_14), (by first | rfl | simp | simp [*]), H', ⟨by have := HK1.out; have := HJ9.out; have := HJ14.out; have := HJ18.out; omega⟩, ⟨by (with_reducible repeat (first | apply Kd.R_alloc | apply Kd.R_drewN | apply Kd.R_drew)); exact Kd.R_mono HO364.out (fun _ hk => trivial)⟩, ⟨by repeat (first | (with_reducible first | exact HI0.out | apply IsS146.alloc | apply IsS146.drewN | apply IsS146.drew | apply IsS146.set_1 | apply IsS146.set_2) | exact HI0.out)⟩, ⟨by repeat (first | (with_reducible first | exact HK.out | apply KeepBut.set_ | apply keep_drewN | apply keep_drew | apply keep_alloc) | exact HK.out)⟩, ⟨by repeat (first | (with_reducible first | exact HB.out | apply below_alloc | apply pw_below_drewN | apply below_drew1 | refine below_set ?_ (IsS146.ge HI0.out)) | exact HB.out)⟩⟩
   ·rw [if_neg c7] at H; have c7b0 : decide (0 < x6_1) = false := decide_eq_false c7; clear c7
    simp only [Option.some.injEq, Prod.mk.injEq] at H
    obtain ⟨rfl, rfl, rfl⟩ := H
    go_wp2
    go_ret
    exact ⟨_, by first | rfl | (simp [errW_none, errW_some] <;> rfl) | (simp [*, errW_none, errW_some] <;> rfl), by (with_reducible repeat (first | apply Kd.R_alloc | apply Kd.R_drewN | apply Kd.R_drew)); exact HO_5.out, by repeat (first | (with_reducible first | exact HI0.out | apply IsS146.alloc | apply IsS146.drewN | apply IsS146.drew | apply IsS146.set_1 | apply IsS146.set_2) | exact HI0.out), by repeat (first | (with_reducible first | exact HB.out | apply below_alloc | apply pw_below_drewN | apply below_drew1 | refine below_set ?_ (IsS146.ge HI0.out)) | exact HB.out), by repeat (first | (with_reducible first | exact HK.out | apply KeepBut.set_ | apply keep_drewN | apply keep_drew | apply keep_alloc) | exact HK.out)⟩

/-! ### spec_l1Size: function 101 -/
def spec_l1Size.f (l0 : List Int) (a1 : Int) : Option (Int) := if (wrap64 (3 + (wrap64 ((l0.length : Int) / 12)))) > a1 then (some a1) else (some (wrap64 (3 + (wrap64 ((l0.length : Int) / 12)))))
set_option maxHeartbeats 8000000 in
set_option maxRecDepth 100000 in
theorem spec_l1Size.calls (A0 : Option Addr) (c0 : Nat) (l0 : List Int) (a1 : Int) (r : Int) (w : World) (hr0 : Kd.C (Kd.int .u8) w A0 l0.length l0) (hc0 : l0.length ≤ c0) (h : spec_l1Size.f l0 a1 = some r) :
    Calls Try.prog 101 #[.slice A0 l0.length c0, .int .i64 a1] w fun e w' => e = .returned (.int .i64 r) ∧ Drawn0 w w' := by
 have HR0 := Aside0.mk hr0; have HC0 := Aside0.mk hc0; clear hr0 hc0
 have H : (if (wrap64 (3 + (wrap64 ((l0.length : Int) / 12)))) > a1 then (some a1) else (some (wrap64 (3 + (wrap64 ((l0.length : Int) / 12)))))) = some r := h
 clear h
 by_cases c3 : (wrap64 (3 + (wrap64 ((l0.length : Int) / 12)))) > a1
 ·rw [if_pos c3] at H
  have c3b0 : decide (a1 < (wrap64 (3 + (wrap64 ((l0.length : Int) / 12))))) = true := decide_eq_true c3
  clear c3
  obtain rfl := Option.some.inj H
  go_enter Try.func101, Try.ntmps101
  go_wp2
  go_ret
  exact ⟨by first | rfl | (simp; done) | (simp [*]; done), by repeat (first | exact Drawn0.refl _ | apply Drawn0.step)⟩
 ·rw [if_neg c3] at H
  have c3b0 : decide (a1 < (wrap64 (3 + (wrap64 ((l0.length : Int) / 12))))) = false := decide_eq_false c3
  clear c3
  obtain rfl := Option.some.inj H
  go_enter Try.func101, Try.ntmps101
  go_wp2
  go_ret
  exact ⟨by first | rfl | (simp; done) | (simp [*]; done), by repeat (first | exact Drawn0.refl _ | apply Drawn0.step)⟩

/-! ### spec_DrawLog: function 36 -/
def spec_DrawLog.f (k : Nat) (l0 : List Int) : Option ((List (S86))) := (spec_l1New.f k l0).bind fun bt366 => ((spec_l1Size.f l0 12).bind fun t370 => ((spec_l19Log.f k bt366.1 bt366.2.1 bt366.2.2 (wrap64 (6 + t370))).bind fun bt371 => (some bt371.1)))
theorem spec_DrawLog.mono : ∀ a0 k, LeO (spec_DrawLog.f k a0) (spec_DrawLog.f (k + 1) a0) := by
  intro a0 k
  unfold spec_DrawLog.f
  repeat' first
      | (with_reducible exact spec_l19Log.mono _ _ _ _ _)
      | (with_reducible exact spec_l1New.mono _ _)
      | (with_reducible exact LeO.refl _)
      | (with_reducible exact LeO.none _)
      | (with_reducible refine LeO.ite ?_ ?_)
      | (with_reducible refine LeO.bind ?_ (fun _ => ?_))
      | exact spec_l19Log.mono _ _ _ _ _
      | exact spec_l1New.mono _ _
      | exact LeO.none _
      | refine LeO.ite ?_ ?_
      | refine LeO.bind ?_ (fun _ => ?_)
set_option maxHeartbeats 8000000 in
set_option maxRecDepth 100000 in
theorem spec_DrawLog.calls (k : Nat) (A0 : Option Addr) (c0 : Nat) (l0 : List Int) (r : List (S86)) (w : World) (hr0 : Kd.C (Kd.int .u8) w A0 l0.length l0) (hc0 : l0.length ≤ c0) (h : spec_DrawLog.f k l0 = some r) :
    Calls Try.prog 36 #[.slice A0 l0.length c0] w fun e w' => ∃ v0_ : Value, e = .returned (v0_) ∧ Kd.R k86 86 w' w.heap.size (fun _ => True) v0_ r ∧ Below w.heap.size w w' := by
 have HR0 := Aside0.mk hr0; have HC0 := Aside0.mk hc0; clear hr0 hc0
 have HB := Aside0.mk (Below.refl w.heap.size w)
 have H : ((spec_l1New.f k l0).bind fun bt366 => ((spec_l1Size.f l0 12).bind fun t370 => ((spec_l19Log.f k bt366.1 bt366.2.1 bt366.2.2 (wrap64 (6 + t370))).bind fun bt371 => (some bt371.1)))) = some r := h
 clear h; replace H := Option.bind_eq_some_iff.mp H; obtain ⟨⟨t366, t367, t368⟩, A20, H⟩ := H; (try dsimp only at H); have A2 := Aside0.mk A20; clear A20; replace H := Option.bind_eq_some_iff.mp H; obtain ⟨t370, A30, H⟩ := H; (try dsimp only at H); have A3 := Aside0.mk A30; clear A30; replace H := Option.bind_eq_some_iff.mp H; obtain ⟨⟨t371, t374, t375⟩, A40, H⟩ := H; (try dsimp only at H); have A4 := Aside0.mk A40; clear A40
 obtain rfl := Option.some.inj H
 go_enter Try.func36, Try.ntmps36
 go_wp2_with (first | ((with_reducible refine gate_callee (f := 50) rfl ?_); refine goesL_ (some 5) rfl rfl Try.func50 (by kernel_rfl) rfl #[.slice A0 l0.length c0] rfl Cmp.q ?_; (with_reducible refine (spec_l1New.calls k _ _ l0 t366 t367 t368 w _ ?side1 ?side2 ?side3 A2.out).mono ?_); (case side1 => repeat (first | (with_reducible first | exact HB.out | apply below_alloc | apply pw_below_drewN | apply below_drew1) | exact HB.out)); (case side2 => exact HR0.out); (case side3 => exact HC0.out); rintro e w5 ⟨g369, rfl, hi, hb, hb2⟩; refine ⟨_, rfl, ?_⟩; have n0_ := Aside0.mk (hb); have n1_ := Aside0.mk (hi); clear HB; have HB := n0_; have HI369 := n1_; clear n0_ n1_; (try clear hb); (try clear hb2); (try clear hk); (try clear hi)) | ((with_reducible refine gate_callee (f := 101) rfl ?_); refine goesL_ (some 8) rfl rfl Try.func101 (by kernel_rfl) rfl #[.slice A0 l0.length c0, .int .i64 12] rfl Cmp.q ?_; (with_reducible refine (spec_l1Size.calls _ _ l0 12 t370 _ ?side1 ?side2 A3.out).mono ?_); (case side1 => exact Cmp.rc (Kd.C_below HR0.out HB.out)); (case side2 => exact HC0.out); rintro e w' ⟨rfl, ⟨nd, rfl⟩⟩; refine ⟨_, rfl, ?_⟩) | ((with_reducible refine gate_callee (f := 100) rfl ?_); refine goesL_ (some 10) rfl rfl Try.func100 (by kernel_rfl) rfl #[.pointer (some ⟨g369, 0, none⟩), .int .i64 (wrap64 (6 + t370))] rfl Cmp.q ?_; (with_reducible refine (spec_l19Log.calls k g369 t366 t367 t368 (wrap64 (6 + t370)) t371 t374 t375 w _ ?side1 ?side2 A4.out).mono ?_); (case side1 => repeat (first | (with_reducible first | exact HI369.out | apply IsS146.alloc | apply IsS146.drewN | apply IsS146.drew | apply IsS146.set_1 | apply IsS146.set_2) | exact HI369.out)); (case side2 => repeat (first | (with_reducible first | exact HB.out | apply below_alloc | apply pw_below_drewN | apply below_drew1 | refine below_set ?_ (IsS146.ge HI369.out)) | exact HB.out)); rintro e w6 ⟨v372, rfl, ho0, hi, hb, hk⟩; refine ⟨_, rfl, ?_⟩; have n0_ := Aside0.mk (Kd.R_lower ho0 (below_size (by repeat (first | (with_reducible first | exact HB.out | apply below_alloc | apply pw_below_drewN | apply below_drew1 | refine below_set ?_ (IsS146.ge HI369.out)) | exact HB.out)))); have n1_ := Aside0.mk (hb); have n2_ := Aside0.mk (hi); clear HB; clear HI369; have HO373 := n0_; have HB := n1_; have HI369 := n2_; clear n0_ n1_ n2_; (try clear hb); (try clear hb2); (try clear hk); (try clear hi); (try clear ho0)))
 go_ret
 exact ⟨_, by first | rfl | (simp [errW_none, errW_some] <;> rfl) | (simp [*, errW_none, errW_some] <;> rfl), by (with_reducible repeat (first | apply Kd.R_alloc | apply Kd.R_drewN | apply Kd.R_drew)); exact HO373.out, by repeat (first | (with_reducible first | exact HB.out | apply below_alloc | apply pw_below_drewN | apply below_drew1 | refine below_set ?_ (IsS146.ge HI369.out)) | exact HB.out)⟩

/-! ### laws_at: function 39 -/
def laws_at.f (l0 : List Int) (a1 : Int) : Option (Int) := if a1 < (l0.length : Int) then (if 0 ≤ a1 then (some (wrap64 (rd l0 a1))) else (none)) else (some (Int.tmod (wrap64 ((wrap64 (a1 * 31)) + (wrap64 ((l0.length : Int) * 7)))) 256))
set_option maxHeartbeats 8000000 in
set_option maxRecDepth 100000 in
theorem laws_at.calls (A0 : Option Addr) (c0 : Nat) (l0 : List Int) (a1 : Int) (r : Int) (w : World) (hr0 : Kd.C (Kd.int .u8) w A0 l0.length l0) (hc0 : l0.length ≤ c0) (h : laws_at.f l0 a1 = some r) :
    Calls Try.prog 39 #[.slice A0 l0.length c0, .int .i64 a1] w fun e w' => e = .returned (.int .i64 r) ∧ Drawn0 w w' := by
 have HR0 := Aside0.mk hr0; have HC0 := Aside0.mk hc0; clear hr0 hc0
 have H : (if a1 < (l0.length : Int) then (if 0 ≤ a1 then (some (wrap64 (rd l0 a1))) else (none)) else (some (Int.tmod (wrap64 ((wrap64 (a1 * 31)) + (wrap64 ((l0.length : Int) * 7)))) 256))) = some r := h
 clear h
 by_cases c3 : a1 < (l0.length : Int)
 ·rw [if_pos c3] at H
  have c3b0 : decide (a1 < (l0.length : Int)) = true := decide_eq_true c3
  clear c3
  by_cases c4 : 0 ≤ a1
  ·rw [if_pos c4] at H; have c4b0 : decide (0 ≤ a1) = true := decide_eq_true c4; clear c4
   obtain rfl := Option.some.inj H
   have p376 : 0 ≤ (a1 : Int) := of_decide_eq_true Cmp.d
   have q376 : a1 < (l0.length : Int) := of_decide_eq_true Cmp.d
   obtain ⟨ad376, e376, hx376_0⟩ := Kd.at_int HR0.out a1 p376 q376
   cases e376; replace p376 := eq_true p376; replace q376 := eq_true q376
   go_enter Try.func39, Try.ntmps39
   go_wp2
   go_ret
   exact ⟨by first | rfl | (simp; done) | (simp [*]; done), by repeat (first | exact Drawn0.refl _ | apply Drawn0.step)⟩
  ·rw [if_neg c4] at H; exact absurd H (by simp)
 ·rw [if_neg c3] at H
  have c3b0 : decide (a1 < (l0.length : Int)) = false := decide_eq_false c3
  clear c3
  obtain rfl := Option.some.inj H
  go_enter Try.func39, Try.ntmps39
  go_wp2
  go_ret
  exact ⟨by first | rfl | (simp; done) | (simp [*]; done), by repeat (first | exact Drawn0.refl _ | apply Drawn0.step)⟩

/-! ### impl_ExtendsLog: function 41 -/
def impl_ExtendsLog.l0 : Nat → List (S86) → List (S86) → Int → Int → Option (Bool)
  | 0, _, _, _, _ => none
  | k + 1, x0, x1, x12, x13 => if x13 < x12 then (if 0 ≤ x13 then (if x13 < (x0.length : Int) then (if x13 < (x1.length : Int) then (if (!(((rd_T86 x0 x13).f0) == ((rd_T86 x1 x13).f0)) || (!(((rd_T86 x0 x13).f1) == ((rd_T86 x1 x13).f1)) || (!(((rd_T86 x0 x13).f2) == ((rd_T86 x1 x13).f2)) || (!(((rd_T86 x0 x13).f3) == ((rd_T86 x1 x13).f3)) || (!(((rd_T86 x0 x13).f4) == ((rd_T86 x1 x13).f4)) || (!(((rd_T86 x0 x13).f5) == ((rd_T86 x1 x13).f5)))))))) = true then (some false) else (impl_ExtendsLog.l0 k x0 x1 x12 (wrap64 (x13 + 1)))) else (none)) else (none)) else (none)) else (some true)
def impl_ExtendsLog.f (k : Nat) (l0 : List (S86)) (l1 : List (S86)) : Option (Bool) := if (l0.length : Int) < (l1.length : Int) then (some false) else (impl_ExtendsLog.l0 k l0 l1 (l1.length : Int) 0)
theorem impl_ExtendsLog.mono_l : ∀ k, (∀ y0 y1 y2 y3, LeO (impl_ExtendsLog.l0 k y0 y1 y2 y3) (impl_ExtendsLog.l0 (k + 1) y0 y1 y2 y3))
  | 0 => fun _ _ _ _ r h => by simp [impl_ExtendsLog.l0] at h
  | k + 1 => by
    have ih0 := impl_ExtendsLog.mono_l k
    · intro y0 y1 y2 y3
      unfold impl_ExtendsLog.l0
      repeat' first
      | (with_reducible exact ih0 _ _ _ _)
      | (with_reducible exact LeO.refl _)
      | (with_reducible exact LeO.none _)
      | (with_reducible refine LeO.ite ?_ ?_)
      | (with_reducible refine LeO.bind ?_ (fun _ => ?_))
      | exact ih0 _ _ _ _
      | exact LeO.none _
      | refine LeO.ite ?_ ?_
      | refine LeO.bind ?_ (fun _ => ?_)
theorem impl_ExtendsLog.mono : ∀ a0 a1 k, LeO (impl_ExtendsLog.f k a0 a1) (impl_ExtendsLog.f (k + 1) a0 a1) := by
  intro a0 a1 k
  have ih0 := impl_ExtendsLog.mono_l k
  unfold impl_ExtendsLog.f
  repeat' first
      | (with_reducible exact ih0 _ _ _ _)
      | (with_reducible exact LeO.refl _)
      | (with_reducible exact LeO.none _)
      | (with_reducible refine LeO.ite ?_ ?_)
      | (with_reducible refine LeO.bind ?_ (fun _ => ?_))
      | exact ih0 _ _ _ _
      | exact LeO.none _
      | refine LeO.ite ?_ ?_
      | refine LeO.bind ?_ (fun _ => ?_)
set_option maxHeartbeats 8000000 in
set_option maxRecDepth 100000 in
theorem impl_ExtendsLog.calls (k : Nat) (A0 : Option Addr) (c0 : Nat) (l0 : List (S86)) (A1 : Option Addr) (c1 : Nat) (l1 : List (S86)) (r : Bool) (w : World) (hr0 : Kd.C k86 w A0 l0.length l0) (hc0 : l0.length ≤ c0) (hr1 : Kd.C k86 w A1 l1.length l1) (hc1 : l1.length ≤ c1) (h : impl_ExtendsLog.f k l0 l1 = some r) :
    Calls Try.prog 41 #[.slice A0 l0.length c0, .slice A1 l1.length c1] w fun e w' => e = .returned (.bool r) ∧ Drawn0 w w' := by
 have hu86 := Try.underlying86; have HR0 := Aside0.mk hr0; have HC0 := Aside0.mk hc0; clear hr0 hc0; have HR1 := Aside0.mk hr1; have HC1 := Aside0.mk hc1; clear hr1 hc1
 have H : (if (l0.length : Int) < (l1.length : Int) then (some false) else (impl_ExtendsLog.l0 k l0 l1 (l1.length : Int) 0)) = some r := h
 clear h
 by_cases c3 : (l0.length : Int) < (l1.length : Int)
 ·rw [if_pos c3] at H
  have c3b0 : decide ((l0.length : Int) < (l1.length : Int)) = true := decide_eq_true c3
  have c3b1 : decide (l0.length < l1.length) = true := decide_eq_true (Int.ofNat_lt.mp c3)
  clear c3
  obtain rfl := Option.some.inj H
  go_enter Try.func41, Try.ntmps41
  go_wp2
  repeat (go_quiet (fail); try go_wp2)
  go_ret
  exact ⟨by first | rfl | (simp; done) | (simp [*]; done), by repeat (first | exact Drawn0.refl _ | apply Drawn0.step)⟩
 ·rw [if_neg c3] at H
  have c3b0 : decide ((l0.length : Int) < (l1.length : Int)) = false := decide_eq_false c3
  have c3b1 : decide (l0.length < l1.length) = false := decide_eq_false (fun h => c3 (Int.ofNat_lt.mpr h))
  clear c3
  have H' := Aside0.mk H
  clear H
  go_enter Try.func41, Try.ntmps41
  go_wp2
  repeat (go_quiet (fail); try go_wp2)
  go_loopg [13] k (fun kq v13 w' => ∃ (x13_1 : Int), v13 = .int .i64 x13_1 ∧ Aside0 (impl_ExtendsLog.l0 kq l0 l1 (l1.length : Int) x13_1 = some r) ∧ Aside0 (kq ≤ k) ∧ Drawn0 w w')
  case atStart => exact ⟨(0), (by first | rfl | simp | simp [*]), H', ⟨Nat.le_refl _⟩, by repeat (first | exact Drawn0.refl _ | apply Drawn0.step)⟩
  case round =>
   clear H'
   (try clear c1); (try clear p2); (try clear c3); (try clear c3b0); (try clear c3b1)
   obtain ⟨x13_1, rfl, HA, HK1, ⟨m1, rfl⟩⟩ := hrel
   cases gk with
   | zero => exact absurd HA.out (by simp [impl_ExtendsLog.l0])
   | succ k1 =>
    have H := HA.out; clear HA
    simp only [impl_ExtendsLog.l0] at H
    by_cases c4 : x13_1 < (l1.length : Int)
    ·rw [if_pos c4] at H
     have c4b0 : decide (x13_1 < (l1.length : Int)) = true := decide_eq_true c4
     clear c4
     by_cases c5 : 0 ≤ x13_1
     ·rw [if_pos c5] at H; have c5b0 : decide (0 ≤ x13_1) = true := decide_eq_true c5; clear c5
      by_cases c6 : x13_1 < (l0.length : Int)
      ·rw [if_pos c6] at H
       have c6b0 : decide (x13_1 < (l0.length : Int)) = true := decide_eq_true c6
       clear c6
       by_cases c7 : x13_1 < (l1.length : Int)
       ·rw [if_pos c7] at H
        have c7b0 : decide (x13_1 < (l1.length : Int)) = true := decide_eq_true c7
        clear c7
        by_cases c8 : (!(((rd_T86 l0 x13_1).f0) == ((rd_T86 l1 x13_1).f0)) || (!(((rd_T86 l0 x13_1).f1) == ((rd_T86 l1 x13_1).f1)) || (!(((rd_T86 l0 x13_1).f2) == ((rd_T86 l1 x13_1).f2)) || (!(((rd_T86 l0 x13_1).f3) == ((rd_T86 l1 x13_1).f3)) || (!(((rd_T86 l0 x13_1).f4) == ((rd_T86 l1 x13_1).f4)) || (!(((rd_T86 l0 x13_1).f5) == ((rd_T86 l1 x13_1).f5)))))))) = true
        ·rw [if_pos c8] at H
         have c8b0 : (!(((rd_T86 l0 x13_1).f0) == ((rd_T86 l1 x13_1).f0)) || (!(((rd_T86 l0 x13_1).f1) == ((rd_T86 l1 x13_1).f1)) || (!(((rd_T86 l0 x13_1).f2) == ((rd_T86 l1 x13_1).f2)) || (!(((rd_T86 l0 x13_1).f3) == ((rd_T86 l1 x13_1).f3)) || (!(((rd_T86 l0 x13_1).f4) == ((rd_T86 l1 x13_1).f4)) || (!(((rd_T86 l0 x13_1).f5) == ((rd_T86 l1 x13_1).f5)))))))) = true := c8
         clear c8
         obtain rfl := Option.some.inj H
         have p377 : 0 ≤ (x13_1 : Int) := of_decide_eq_true Cmp.d
         have q377 : x13_1 < (l0.length : Int) := of_decide_eq_true Cmp.d
         obtain ⟨ad377, e377, hx377_0, hx377_1, hx377_2, hx377_3, hx377_4, hx377_5⟩ := at_T86 HR0.out x13_1 p377 q377
         cases e377; replace p377 := eq_true p377; replace q377 := eq_true q377
         have p378 : 0 ≤ (x13_1 : Int) := of_decide_eq_true Cmp.d
         have q378 : x13_1 < (l1.length : Int) := of_decide_eq_true Cmp.d
         obtain ⟨ad378, e378, hx378_0, hx378_1, hx378_2, hx378_3, hx378_4, hx378_5⟩ := at_T86 HR1.out x13_1 p378 q378
         cases e378; replace p378 := eq_true p378; replace q378 := eq_true q378
         go_wp2
         repeat (go_quiet (fail); try go_wp2)
         go_ret
         exact ⟨by first | rfl | (simp; done) | (simp [*]; done), by repeat (first | exact Drawn0.refl _ | apply Drawn0.step)⟩
        ·rw [if_neg c8] at H
         have c8b0 : (!(((rd_T86 l0 x13_1).f0) == ((rd_T86 l1 x13_1).f0)) || (!(((rd_T86 l0 x13_1).f1) == ((rd_T86 l1 x13_1).f1)) || (!(((rd_T86 l0 x13_1).f2) == ((rd_T86 l1 x13_1).f2)) || (!(((rd_T86 l0 x13_1).f3) == ((rd_T86 l1 x13_1).f3)) || (!(((rd_T86 l0 x13_1).f4) == ((rd_T86 l1 x13_1).f4)) || (!(((rd_T86 l0 x13_1).f5) == ((rd_T86 l1 x13_1).f5)))))))) = false := by simpa using c8
         clear c8
         have H' := Aside0.mk H
         clear H
         have p377 : 0 ≤ (x13_1 : Int) := of_decide_eq_true Cmp.d
         have q377 : x13_1 < (l0.length : Int) := of_decide_eq_true Cmp.d
         obtain ⟨ad377, e377, hx377_0, hx377_1, hx377_2, hx377_3, hx377_4, hx377_5⟩ := at_T86 HR0.out x13_1 p377 q377
         cases e377; replace p377 := eq_true p377; replace q377 := eq_true q377
         have p378 : 0 ≤ (x13_1 : Int) := of_decide_eq_true Cmp.d
         have q378 : x13_1 < (l1.length : Int) := of_decide_eq_true Cmp.d
         obtain ⟨ad378, e378, hx378_0, hx378_1, hx378_2, hx378_3, hx378_4, hx378_5⟩ := at_T86 HR1.out x13_1 p378 q378
         cases e378; replace p378 := eq_true p378; replace q378 := eq_true q378
         go_wp2
         repeat (go_quiet (fail); try go_wp2)
         go_roundg k1
         case measure => have := HK1.out; omega
         case rel => exact ⟨(wrap64 (x13_1 + 1)), (by first | rfl | simp | simp [*]), H', ⟨by have := HK1.out; omega⟩, by repeat (first | exact Drawn0.refl _ | apply Drawn0.step)⟩
       ·rw [if_neg c7] at H; exact absurd H (by simp)
      ·rw [if_neg c6] at H; exact absurd H (by simp)
     ·rw [if_neg c5] at H; exact absurd H (by simp)
    ·rw [if_neg c4] at H
     have c4b0 : decide (x13_1 < (l1.length : Int)) = false := decide_eq_false c4
     clear c4
     obtain rfl := Option.some.inj H
     go_wp2
     repeat (go_quiet (fail); try go_wp2)
     go_ret
     exact ⟨by first | rfl | (simp; done) | (simp [*]; done), by repeat (first | exact Drawn0.refl _ | apply Drawn0.step)⟩

/-! ### impl_EpochOf: function 43 -/
def impl_EpochOf.l0 : Nat → Int → List (S86) → Int → Int → Option (Int)
  | 0, _, _, _, _ => none
  | k + 1, x3, x6, x7, x8 => if x8 < x7 then (if 0 ≤ x8 then (if x8 < (x6.length : Int) then (if ((rd_T86 x6 x8).f1) = 2 then (impl_EpochOf.l0 k (wrap64 (x3 + 1)) x6 x7 (wrap64 (x8 + 1))) else (impl_EpochOf.l0 k x3 x6 x7 (wrap64 (x8 + 1)))) else (none)) else (none)) else (some x3)
def impl_EpochOf.f (k : Nat) (l0 : List (S86)) : Option (Int) := impl_EpochOf.l0 k 0 l0 (l0.length : Int) 0
theorem impl_EpochOf.mono_l : ∀ k, (∀ y0 y1 y2 y3, LeO (impl_EpochOf.l0 k y0 y1 y2 y3) (impl_EpochOf.l0 (k + 1) y0 y1 y2 y3))
  | 0 => fun _ _ _ _ r h => by simp [impl_EpochOf.l0] at h
  | k + 1 => by
    have ih0 := impl_EpochOf.mono_l k
    · intro y0 y1 y2 y3
      unfold impl_EpochOf.l0
      repeat' first
      | (with_reducible exact ih0 _ _ _ _)
      | (with_reducible exact LeO.refl _)
      | (with_reducible exact LeO.none _)
      | (with_reducible refine LeO.ite ?_ ?_)
      | (with_reducible refine LeO.bind ?_ (fun _ => ?_))
      | exact ih0 _ _ _ _
      | exact LeO.none _
      | refine LeO.ite ?_ ?_
      | refine LeO.bind ?_ (fun _ => ?_)
theorem impl_EpochOf.mono : ∀ a0 k, LeO (impl_EpochOf.f k a0) (impl_EpochOf.f (k + 1) a0) := by
  intro a0 k
  have ih0 := impl_EpochOf.mono_l k
  unfold impl_EpochOf.f
  repeat' first
      | (with_reducible exact ih0 _ _ _ _)
      | (with_reducible exact LeO.refl _)
      | (with_reducible exact LeO.none _)
      | (with_reducible refine LeO.ite ?_ ?_)
      | (with_reducible refine LeO.bind ?_ (fun _ => ?_))
      | exact ih0 _ _ _ _
      | exact LeO.none _
      | refine LeO.ite ?_ ?_
      | refine LeO.bind ?_ (fun _ => ?_)
set_option maxHeartbeats 8000000 in
set_option maxRecDepth 100000 in
theorem impl_EpochOf.calls (k : Nat) (A0 : Option Addr) (c0 : Nat) (l0 : List (S86)) (r : Int) (w : World) (hr0 : Kd.C k86 w A0 l0.length l0) (hc0 : l0.length ≤ c0) (h : impl_EpochOf.f k l0 = some r) :
    Calls Try.prog 43 #[.slice A0 l0.length c0] w fun e w' => e = .returned (.int .i64 r) ∧ Below w.heap.size w w' := by
 have hu86 := Try.underlying86; have HR0 := Aside0.mk hr0; have HC0 := Aside0.mk hc0; clear hr0 hc0
 have HB := Aside0.mk (Below.refl w.heap.size w)
 have H : (impl_EpochOf.l0 k 0 l0 (l0.length : Int) 0) = some r := h
 clear h
 have H' := Aside0.mk H
 clear H
 go_enter Try.func43, Try.ntmps43
 go_wp2
 go_loopg [3, 8] k (fun kq v3 v8 w' => ∃ (x3_1 : Int) (x8_1 : Int), v3 = .int .i64 x3_1 ∧ v8 = .int .i64 x8_1 ∧ Aside0 (impl_EpochOf.l0 kq x3_1 l0 (l0.length : Int) x8_1 = some r) ∧ Aside0 (kq ≤ k) ∧ Aside0 (Below w.heap.size w w'))
 case atStart => exact ⟨(0), (0), (by first | rfl | simp | simp [*]), (by first | rfl | simp | simp [*]), H', ⟨Nat.le_refl _⟩, ⟨Cmp.g HB.out⟩⟩
 case round =>
  clear H'
  obtain ⟨x3_1, x8_1, rfl, rfl, HA, HK1, HB⟩ := hrel
  cases gk with
  | zero => exact absurd HA.out (by simp [impl_EpochOf.l0])
  | succ k1 =>
   have H := HA.out; clear HA
   simp only [impl_EpochOf.l0] at H
   by_cases c2 : x8_1 < (l0.length : Int)
   ·rw [if_pos c2] at H
    have c2b0 : decide (x8_1 < (l0.length : Int)) = true := decide_eq_true c2
    clear c2
    by_cases c3 : 0 ≤ x8_1
    ·rw [if_pos c3] at H; have c3b0 : decide (0 ≤ x8_1) = true := decide_eq_true c3; clear c3
     by_cases c4 : x8_1 < (l0.length : Int)
     ·rw [if_pos c4] at H
      have c4b0 : decide (x8_1 < (l0.length : Int)) = true := decide_eq_true c4
      clear c4
      by_cases c5 : ((rd_T86 l0 x8_1).f1) = 2
      ·rw [if_pos c5] at H; have c5b0 : (((rd_T86 l0 x8_1).f1) == 2) = true := beq_iff_eq.mpr c5; have c5b1 : (((rd_T86 l0 x8_1).f1) != 2) = false := bne_eq_false_iff_eq.mpr c5; clear c5
       have H' := Aside0.mk H
       clear H
       have p379 : 0 ≤ (x8_1 : Int) := of_decide_eq_true Cmp.d
       have q379 : x8_1 < (l0.length : Int) := of_decide_eq_true Cmp.d
       obtain ⟨ad379, e379, hx379_0, hx379_1, hx379_2, hx379_3, hx379_4, hx379_5⟩ := at_T86 HR0.out x8_1 p379 q379
       cases e379
       replace hx379_0 := (HB.out.cell (World.block_lt_of_cell? w _ hx379_0)).trans hx379_0
       replace hx379_1 := (HB.out.cell (World.block_lt_of_cell? w _ hx379_1)).trans hx379_1
       replace hx379_2 := (HB.out.cell (World.block_lt_of_cell? w _ hx379_2)).trans hx379_2
       replace hx379_3 := (HB.out.cell (World.block_lt_of_cell? w _ hx379_3)).trans hx379_3
       replace hx379_4 := (HB.out.cell (World.block_lt_of_cell? w _ hx379_4)).trans hx379_4
       replace hx379_5 := (HB.out.cell (World.block_lt_of_cell? w _ hx379_5)).trans hx379_5
       replace p379 := eq_true p379; replace q379 := eq_true q379
       go_wp2_with (first | ((with_reducible refine gate_dst (N := 5) rfl ?_); refine box_event ?hg (N := 5) ?hd (cs := #[.int .i64 0, .int .i64 0, .int .i64 0, .int .i64 0, .int .i64 0, .int .i64 0]) (t := 86) ?hr ?_; (case hd => rfl); (case hg => rfl); (case hr => first | (go_simp; done) | (go_simp; rfl)); intro gb380 hg w6 hbox hb; have n0_ := Aside0.mk (below_step (Cmp.g HB.out) hb); have n1_ := Aside0.mk (hbox); have n2_ := Aside0.mk ((by rw [hg]; exact (below_size (Cmp.g HB.out)) : w.heap.size ≤ gb380)); have n3_ := Aside0.mk ((by rw [hg]; exact (below_size (Cmp.g HB.out)) : w.heap.size ≤ gb380)); clear HB; have HB := n0_; have BK380 := n1_; have GW380 := n2_; have GE380 := n3_; clear n0_ n1_ n2_ n3_; clear hb hbox hg; have hcz7_0 : w6.cell? ⟨gb380, 0, none⟩ = some (.int .i64 0) := (blk_cell BK380.out 0).trans rfl; have hcz7_1 : w6.cell? ⟨gb380, 1, none⟩ = some (.int .i64 0) := (blk_cell BK380.out 1).trans rfl; have hcz7_2 : w6.cell? ⟨gb380, 2, none⟩ = some (.int .i64 0) := (blk_cell BK380.out 2).trans rfl; have hcz7_3 : w6.cell? ⟨gb380, 3, none⟩ = some (.int .i64 0) := (blk_cell BK380.out 3).trans rfl; have hcz7_4 : w6.cell? ⟨gb380, 4, none⟩ = some (.int .i64 0) := (blk_cell BK380.out 4).trans rfl; have hcz7_5 : w6.cell? ⟨gb380, 5, none⟩ = some (.int .i64 0) := (blk_cell BK380.out 5).trans rfl; have hfz7_0 := blk_frozen BK380.out 0; have hfz7_1 := blk_frozen BK380.out 1; have hfz7_2 := blk_frozen BK380.out 2; have hfz7_3 := blk_frozen BK380.out 3; have hfz7_4 := blk_frozen BK380.out 4; have hfz7_5 := blk_frozen BK380.out 5))
       go_roundg k1
       case measure => have := HK1.out; omega
       case rel => exact ⟨(wrap64 (x3_1 + 1)), (wrap64 (x8_1 + 1)), (by first | rfl | simp | simp [*]), (by first | rfl | simp | simp [*]), H', ⟨by have := HK1.out; omega⟩, ⟨Cmp.g HB.out⟩⟩
      ·rw [if_neg c5] at H; have c5b0 : (((rd_T86 l0 x8_1).f1) == 2) = false := beq_eq_false_iff_ne.mpr c5; have c5b1 : (((rd_T86 l0 x8_1).f1) != 2) = true := bne_iff_ne.mpr c5
       have H' := Aside0.mk H
       clear H
       have p379 : 0 ≤ (x8_1 : Int) := of_decide_eq_true Cmp.d
       have q379 : x8_1 < (l0.length : Int) := of_decide_eq_true Cmp.d
       obtain ⟨ad379, e379, hx379_0, hx379_1, hx379_2, hx379_3, hx379_4, hx379_5⟩ := at_T86 HR0.out x8_1 p379 q379
       cases e379
       replace hx379_0 := (HB.out.cell (World.block_lt_of_cell? w _ hx379_0)).trans hx379_0
       replace hx379_1 := (HB.out.cell (World.block_lt_of_cell? w _ hx379_1)).trans hx379_1
       replace hx379_2 := (HB.out.cell (World.block_lt_of_cell? w _ hx379_2)).trans hx379_2
       replace hx379_3 := (HB.out.cell (World.block_lt_of_cell? w _ hx379_3)).trans hx379_3
       replace hx379_4 := (HB.out.cell (World.block_lt_of_cell? w _ hx379_4)).trans hx379_4
       replace hx379_5 := (HB.out.cell (World.block_lt_of_cell? w _ hx379_5)).trans hx379_5
       replace p379 := eq_true p379; replace q379 := eq_true q379
       go_wp2_with (first | ((with_reducible refine gate_dst (N := 5) rfl ?_); refine box_event ?hg (N := 5) ?hd (cs := #[.int .i64 0, .int .i64 0, .int .i64 0, .int .i64 0, .int .i64 0, .int .i64 0]) (t := 86) ?hr ?_; (case hd => rfl); (case hg => rfl); (case hr => first | (go_simp; done) | (go_simp; rfl)); intro gb380 hg w8 hbox hb; have n0_ := Aside0.mk (below_step (Cmp.g HB.out) hb); have n1_ := Aside0.mk (hbox); have n2_ := Aside0.mk ((by rw [hg]; exact (below_size (Cmp.g HB.out)) : w.heap.size ≤ gb380)); have n3_ := Aside0.mk ((by rw [hg]; exact (below_size (Cmp.g HB.out)) : w.heap.size ≤ gb380)); clear HB; have HB := n0_; have BK380 := n1_; have GW380 := n2_; have GE380 := n3_; clear n0_ n1_ n2_ n3_; clear hb hbox hg; have hcz9_0 : w8.cell? ⟨gb380, 0, none⟩ = some (.int .i64 0) := (blk_cell BK380.out 0).trans rfl; have hcz9_1 : w8.cell? ⟨gb380, 1, none⟩ = some (.int .i64 0) := (blk_cell BK380.out 1).trans rfl; have hcz9_2 : w8.cell? ⟨gb380, 2, none⟩ = some (.int .i64 0) := (blk_cell BK380.out 2).trans rfl; have hcz9_3 : w8.cell? ⟨gb380, 3, none⟩ = some (.int .i64 0) := (blk_cell BK380.out 3).trans rfl; have hcz9_4 : w8.cell? ⟨gb380, 4, none⟩ = some (.int .i64 0) := (blk_cell BK380.out 4).trans rfl; have hcz9_5 : w8.cell? ⟨gb380, 5, none⟩ = some (.int .i64 0) := (blk_cell BK380.out 5).trans rfl; have hfz9_0 := blk_frozen BK380.out 0; have hfz9_1 := blk_frozen BK380.out 1; have hfz9_2 := blk_frozen BK380.out 2; have hfz9_3 := blk_frozen BK380.out 3; have hfz9_4 := blk_frozen BK380.out 4; have hfz9_5 := blk_frozen BK380.out 5))
       go_roundg k1
       case measure => have := HK1.out; omega
       case rel => exact ⟨(x3_1), (wrap64 (x8_1 + 1)), (by first | rfl | simp | simp [*]), (by first | rfl | simp | simp [*]), H', ⟨by have := HK1.out; omega⟩, ⟨Cmp.g HB.out⟩⟩
     ·rw [if_neg c4] at H; exact absurd H (by simp)
    ·rw [if_neg c3] at H; exact absurd H (by simp)
   ·rw [if_neg c2] at H
    have c2b0 : decide (x8_1 < (l0.length : Int)) = false := decide_eq_false c2
    clear c2
    obtain rfl := Option.some.inj H
    go_wp2
    go_ret
    exact ⟨by first | rfl | (simp [errW_none, errW_some] <;> rfl) | (simp [*, errW_none, errW_some] <;> rfl), Cmp.g HB.out⟩

end Go.Proofs.Ytgcipecdaimjfaa.PFnDeviceLogs

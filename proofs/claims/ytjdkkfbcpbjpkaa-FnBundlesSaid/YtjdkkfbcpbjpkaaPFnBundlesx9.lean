/- Printed functions of the program (by a changed copy of the printer). No condition. -/
import Derived.Test.YtjdkkfbcpbjpkaaCmp
import Derived.Test.YtjdkkfbcpbjpkaaPFnBundlesx0
import Derived.Test.YtjdkkfbcpbjpkaaPFnBundlesx6
import Derived.Test.YtjdkkfbcpbjpkaaPFnBundlesx7
import Derived.Test.YtjdkkfbcpbjpkaaPFnBundlesx8
namespace Go.Proofs.Ytjdkkfbcpbjpkaa.PFnBundles
open Go.Proofs.Ytjdkkfbcpbjpkaa
open Go.RowKit Go.Proofs.YtjdkkfbcpbjpkaaW.PrintWords Go.Proofs.YtjdkkfbcpbjpkaaW.PrintLast Go.Proofs.YtjdkkfbcpbjpkaaW.PrintMore
attribute [local go_sem] max2_int min2_int max_two min_two max_three min_three max_four min_four   -- for this text's walks alone
set_option linter.unusedVariables false
set_option linter.unusedSimpArgs false
/-! ### impl_MergeBundles: function 37 -/
mutual
def impl_MergeBundles.j0 : Nat → Bool → List (S116) → List (S116) → Option ((List (S116)) × Bool)
  | 0, _, _, _ => none
  | k + 1, x18, x306000, x307000 => if x18 = true then ((impl_copyBundle.f x306000).bind fun t310 => (some (t310, false))) else (impl_MergeBundles.l0 k 0 0 x306000 x307000 ([] : List (S116)))
def impl_MergeBundles.l0 : Nat → Int → Int → List (S116) → List (S116) → List (S116) → Option ((List (S116)) × Bool)
  | 0, _, _, _, _, _ => none
  | k + 1, x7, x8, x306000, x307000, x314000 => if x7 < (x306000.length : Int) then (impl_MergeBundles.j2 k x7 x8 true x306000 x307000 x314000) else (impl_MergeBundles.j2 k x7 x8 (decide (x8 < (x307000.length : Int))) x306000 x307000 x314000)
def impl_MergeBundles.j2 : Nat → Int → Int → Bool → List (S116) → List (S116) → List (S116) → Option ((List (S116)) × Bool)
  | 0, _, _, _, _, _, _ => none
  | k + 1, x7, x8, x33, x306000, x307000, x314000 => if x33 = true then (if x8 = (x307000.length : Int) then (impl_MergeBundles.j3 k x7 x8 true x306000 x307000 x314000) else (if x7 < (x306000.length : Int) then (if 0 ≤ x7 then (if 0 ≤ x8 then (if x8 < (x307000.length : Int) then ((impl_entryBefore.f ((rd_T116 x306000 x7).f0) ((rd_T116 x306000 x7).f1) ((rd_T116 x306000 x7).f2) ((rd_T116 x306000 x7).f3) ((rd_T116 x307000 x8).f0) ((rd_T116 x307000 x8).f1) ((rd_T116 x307000 x8).f2) ((rd_T116 x307000 x8).f3)).bind fun t316 => (impl_MergeBundles.j3 k x7 x8 t316 x306000 x307000 x314000)) else (none)) else (none)) else (none)) else (impl_MergeBundles.j3 k x7 x8 false x306000 x307000 x314000))) else ((impl_IsBundle.f k x314000).bind fun t344 => (if t344 = true then (some (x314000, true)) else ((impl_copyBundle.f x306000).bind fun t345 => (some (t345, false)))))
def impl_MergeBundles.j3 : Nat → Int → Int → Bool → List (S116) → List (S116) → List (S116) → Option ((List (S116)) × Bool)
  | 0, _, _, _, _, _, _ => none
  | k + 1, x7, x8, x71, x306000, x307000, x314000 => if x71 = true then (if 0 ≤ x7 then (if x7 < (x306000.length : Int) then (if x314000.length < 4398046511104 then (impl_MergeBundles.l0 k (wrap64 (x7 + 1)) x8 x306000 x307000 (x314000 ++ [(⟨(rd_T116 x306000 x7).f0, (rd_T116 x306000 x7).f1, (rd_T116 x306000 x7).f2, (rd_T116 x306000 x7).f3⟩ : S116)])) else (none)) else (none)) else (none)) else (if x7 = (x306000.length : Int) then (impl_MergeBundles.j4 k x7 x8 true x306000 x307000 x314000) else (if 0 ≤ x8 then (if x8 < (x307000.length : Int) then (if 0 ≤ x7 then (if x7 < (x306000.length : Int) then ((impl_entryBefore.f ((rd_T116 x307000 x8).f0) ((rd_T116 x307000 x8).f1) ((rd_T116 x307000 x8).f2) ((rd_T116 x307000 x8).f3) ((rd_T116 x306000 x7).f0) ((rd_T116 x306000 x7).f1) ((rd_T116 x306000 x7).f2) ((rd_T116 x306000 x7).f3)).bind fun t323 => (impl_MergeBundles.j4 k x7 x8 t323 x306000 x307000 x314000)) else (none)) else (none)) else (none)) else (none)))
def impl_MergeBundles.j4 : Nat → Int → Int → Bool → List (S116) → List (S116) → List (S116) → Option ((List (S116)) × Bool)
  | 0, _, _, _, _, _, _ => none
  | k + 1, x7, x8, x109, x306000, x307000, x314000 => if x109 = true then (if 0 ≤ x8 then (if x8 < (x307000.length : Int) then (if x314000.length < 4398046511104 then (impl_MergeBundles.l0 k x7 (wrap64 (x8 + 1)) x306000 x307000 (x314000 ++ [(⟨(rd_T116 x307000 x8).f0, (rd_T116 x307000 x8).f1, (rd_T116 x307000 x8).f2, (rd_T116 x307000 x8).f3⟩ : S116)])) else (none)) else (none)) else (none)) else (if 0 ≤ x7 then (if x7 < (x306000.length : Int) then (if 0 ≤ x8 then (if x8 < (x307000.length : Int) then (if ((rd_T116 x307000 x8).f2) > ((rd_T116 x306000 x7).f2) then (if x314000.length < 4398046511104 then (impl_MergeBundles.l0 k (wrap64 (x7 + 1)) (wrap64 (x8 + 1)) x306000 x307000 (x314000 ++ [(⟨(rd_T116 x307000 x8).f0, (rd_T116 x307000 x8).f1, (rd_T116 x307000 x8).f2, (rd_T116 x307000 x8).f3⟩ : S116)])) else (none)) else (if ((rd_T116 x307000 x8).f2) = ((rd_T116 x306000 x7).f2) then (if (rd_T116 x307000 x8).f3 = true then (if x314000.length < 4398046511104 then (impl_MergeBundles.l0 k (wrap64 (x7 + 1)) (wrap64 (x8 + 1)) x306000 x307000 (x314000 ++ [(⟨(rd_T116 x307000 x8).f0, (rd_T116 x307000 x8).f1, (rd_T116 x307000 x8).f2, (rd_T116 x307000 x8).f3⟩ : S116)])) else (none)) else (if x314000.length < 4398046511104 then (impl_MergeBundles.l0 k (wrap64 (x7 + 1)) (wrap64 (x8 + 1)) x306000 x307000 (x314000 ++ [(⟨(rd_T116 x306000 x7).f0, (rd_T116 x306000 x7).f1, (rd_T116 x306000 x7).f2, (rd_T116 x306000 x7).f3⟩ : S116)])) else (none))) else (if x314000.length < 4398046511104 then (impl_MergeBundles.l0 k (wrap64 (x7 + 1)) (wrap64 (x8 + 1)) x306000 x307000 (x314000 ++ [(⟨(rd_T116 x306000 x7).f0, (rd_T116 x306000 x7).f1, (rd_T116 x306000 x7).f2, (rd_T116 x306000 x7).f3⟩ : S116)])) else (none)))) else (none)) else (none)) else (none)) else (none))
end
def impl_MergeBundles.f (k : Nat) (l0_0 : List (S116)) (l1_0 : List (S116)) : Option ((List (S116)) × Bool) := (impl_IsBundle.f k l0_0).bind fun t308 => (if t308 = true then ((impl_IsBundle.f k l1_0).bind fun t309 => (impl_MergeBundles.j0 k (!t309) l0_0 l1_0)) else (impl_MergeBundles.j0 k true l0_0 l1_0))
theorem impl_MergeBundles.mono_l : ∀ k, (∀ y0 y1 y2, LeO (impl_MergeBundles.j0 k y0 y1 y2) (impl_MergeBundles.j0 (k + 1) y0 y1 y2)) ∧ (∀ y0 y1 y2 y3 y4, LeO (impl_MergeBundles.l0 k y0 y1 y2 y3 y4) (impl_MergeBundles.l0 (k + 1) y0 y1 y2 y3 y4)) ∧ (∀ y0 y1 y2 y3 y4 y5, LeO (impl_MergeBundles.j2 k y0 y1 y2 y3 y4 y5) (impl_MergeBundles.j2 (k + 1) y0 y1 y2 y3 y4 y5)) ∧ (∀ y0 y1 y2 y3 y4 y5, LeO (impl_MergeBundles.j3 k y0 y1 y2 y3 y4 y5) (impl_MergeBundles.j3 (k + 1) y0 y1 y2 y3 y4 y5)) ∧ (∀ y0 y1 y2 y3 y4 y5, LeO (impl_MergeBundles.j4 k y0 y1 y2 y3 y4 y5) (impl_MergeBundles.j4 (k + 1) y0 y1 y2 y3 y4 y5))
 | 0 => ⟨fun _ _ _ r h => by simp [impl_MergeBundles.j0] at h, fun _ _ _ _ _ r h => by simp [impl_MergeBundles.l0] at h, fun _ _ _ _ _ _ r h => by simp [impl_MergeBundles.j2] at h, fun _ _ _ _ _ _ r h => by simp [impl_MergeBundles.j3] at h, fun _ _ _ _ _ _ r h => by simp [impl_MergeBundles.j4] at h⟩
 | k + 1 => by
    obtain ⟨ih0, ih1, ih2, ih3, ih4⟩ := impl_MergeBundles.mono_l k
    refine ⟨?_, ?_, ?_, ?_, ?_⟩
    · intro y0 y1 y2
      unfold impl_MergeBundles.j0
      repeat' first
 | (with_reducible exact ih0 _ _ _)
 | (with_reducible exact ih1 _ _ _ _ _)
 | (with_reducible exact ih2 _ _ _ _ _ _)
 | (with_reducible exact ih3 _ _ _ _ _ _)
 | (with_reducible exact ih4 _ _ _ _ _ _)
 | (with_reducible exact impl_IsBundle.mono _ _)
 | (with_reducible exact LeO.refl _)
 | (with_reducible exact LeO.none _)
 | (with_reducible refine LeO.ite ?_ ?_)
 | (with_reducible refine LeO.bind ?_ (fun _ => ?_))
    · intro y0 y1 y2 y3 y4
      unfold impl_MergeBundles.l0
      repeat' first
 | (with_reducible exact ih0 _ _ _)
 | (with_reducible exact ih1 _ _ _ _ _)
 | (with_reducible exact ih2 _ _ _ _ _ _)
 | (with_reducible exact ih3 _ _ _ _ _ _)
 | (with_reducible exact ih4 _ _ _ _ _ _)
 | (with_reducible exact impl_IsBundle.mono _ _)
 | (with_reducible exact LeO.refl _)
 | (with_reducible exact LeO.none _)
 | (with_reducible refine LeO.ite ?_ ?_)
 | (with_reducible refine LeO.bind ?_ (fun _ => ?_))
    · intro y0 y1 y2 y3 y4 y5
      unfold impl_MergeBundles.j2
      repeat' first
 | (with_reducible exact ih0 _ _ _)
 | (with_reducible exact ih1 _ _ _ _ _)
 | (with_reducible exact ih2 _ _ _ _ _ _)
 | (with_reducible exact ih3 _ _ _ _ _ _)
 | (with_reducible exact ih4 _ _ _ _ _ _)
 | (with_reducible exact impl_IsBundle.mono _ _)
 | (with_reducible exact LeO.refl _)
 | (with_reducible exact LeO.none _)
 | (with_reducible refine LeO.ite ?_ ?_)
 | (with_reducible refine LeO.bind ?_ (fun _ => ?_))
    · intro y0 y1 y2 y3 y4 y5
      unfold impl_MergeBundles.j3
      repeat' first
 | (with_reducible exact ih0 _ _ _)
 | (with_reducible exact ih1 _ _ _ _ _)
 | (with_reducible exact ih2 _ _ _ _ _ _)
 | (with_reducible exact ih3 _ _ _ _ _ _)
 | (with_reducible exact ih4 _ _ _ _ _ _)
 | (with_reducible exact impl_IsBundle.mono _ _)
 | (with_reducible exact LeO.refl _)
 | (with_reducible exact LeO.none _)
 | (with_reducible refine LeO.ite ?_ ?_)
 | (with_reducible refine LeO.bind ?_ (fun _ => ?_))
    · intro y0 y1 y2 y3 y4 y5
      unfold impl_MergeBundles.j4
      repeat' first
 | (with_reducible exact ih0 _ _ _)
 | (with_reducible exact ih1 _ _ _ _ _)
 | (with_reducible exact ih2 _ _ _ _ _ _)
 | (with_reducible exact ih3 _ _ _ _ _ _)
 | (with_reducible exact ih4 _ _ _ _ _ _)
 | (with_reducible exact impl_IsBundle.mono _ _)
 | (with_reducible exact LeO.refl _)
 | (with_reducible exact LeO.none _)
 | (with_reducible refine LeO.ite ?_ ?_)
 | (with_reducible refine LeO.bind ?_ (fun _ => ?_))
theorem impl_MergeBundles.mono : ∀ a0 a1 k, LeO (impl_MergeBundles.f k a0 a1) (impl_MergeBundles.f (k + 1) a0 a1) := by
  intro a0 a1 k
  obtain ⟨ih0, ih1, ih2, ih3, ih4⟩ := impl_MergeBundles.mono_l k
  unfold impl_MergeBundles.f
  repeat' first
 | (with_reducible exact ih0 _ _ _)
 | (with_reducible exact ih1 _ _ _ _ _)
 | (with_reducible exact ih2 _ _ _ _ _ _)
 | (with_reducible exact ih3 _ _ _ _ _ _)
 | (with_reducible exact ih4 _ _ _ _ _ _)
 | (with_reducible exact impl_IsBundle.mono _ _)
 | (with_reducible exact LeO.refl _)
 | (with_reducible exact LeO.none _)
 | (with_reducible refine LeO.ite ?_ ?_)
 | (with_reducible refine LeO.bind ?_ (fun _ => ?_))
def impl_MergeBundles.T14 : Bool × List (List Nat × List Nat) := (true, [([], []), ([], []), ([1], [1]), ([2], [2]), ([0, 3], [0, 3]), ([4], [4]), ([5], [5]), ([5], [5]), ([7, 5], [5, 7]), ([8, 5], [5, 8]), ([6, 9, 5], [5, 6, 9]), ([10, 5, 5], [5, 10]), ([11], [11]), ([12, 11], [11, 12]), ([11], [11]), ([13, 14, 11], [11, 13, 14]), ([15, 11], [11, 15]), ([11], [11]), ([17, 11], [11, 17]), ([11], [11]), ([18, 19, 11], [11, 18, 19]), ([20, 11], [11, 20]), ([16, 21, 11, 11], [11, 16, 21]), ([11, 22, 5], [5, 11, 22]), ([5, 23], [5, 23]), ([24, 22], [24])])
def impl_MergeBundles.B14 : List Nat := [0, 0, 2, 6, 15, 31, 63, 63, 191, 447, 1023, 2047, 4095, 8191, 4095, 32767, 65535, 4095, 135167, 4095, 921599, 1970175, 4194303, 8388607, 16777215, 33554431]
theorem impl_MergeBundles.tab14 : rtab .any (opsOf Try.f37 14) = impl_MergeBundles.T14 := by kernel_rfl
theorem impl_MergeBundles.bits14 : waitsOk impl_MergeBundles.T14.2 impl_MergeBundles.B14 = true := by kernel_rfl
def impl_MergeBundles.T15 : Bool × List (List Nat × List Nat) := (true, [([], []), ([0], [0]), ([], []), ([2], [2]), ([], []), ([3, 4], [3, 4]), ([5], [5]), ([6], [6]), ([1, 7], [1, 7]), ([0, 1, 2, 3, 4, 5, 6, 7, 8], []), ([9, 8, 8, 0, 1, 2, 3, 4, 5, 6, 7, 8], [8, 9])])
def impl_MergeBundles.B15 : List Nat := [0, 1, 0, 4, 0, 28, 60, 124, 255, 511, 1023]
theorem impl_MergeBundles.tab15 : rtab .any (opsOf Try.f37 15) = impl_MergeBundles.T15 := by kernel_rfl
theorem impl_MergeBundles.bits15 : waitsOk impl_MergeBundles.T15.2 impl_MergeBundles.B15 = true := by kernel_rfl
def impl_MergeBundles.T17 : Bool × List (List Nat × List Nat) := (true, [([], []), ([], []), ([1], [1]), ([2], [2]), ([0, 3], [0, 3]), ([4], [4]), ([5], [5]), ([6, 5], [5, 6]), ([5], [5]), ([7, 8, 5], [5, 7, 8]), ([9, 5], [5, 9]), ([5], [5]), ([11, 5], [5, 11]), ([5], [5]), ([12, 13, 5], [5, 12, 13]), ([14, 5], [5, 14]), ([10, 15, 5, 5], [5, 10, 15]), ([5, 16], [5, 16]), ([17, 16], [17])])
def impl_MergeBundles.B17 : List Nat := [0, 0, 2, 6, 15, 31, 63, 127, 63, 511, 1023, 63, 2111, 63, 14399, 30783, 65535, 131071, 262143]
theorem impl_MergeBundles.tab17 : rtab .any (opsOf Try.f37 17) = impl_MergeBundles.T17 := by kernel_rfl
theorem impl_MergeBundles.bits17 : waitsOk impl_MergeBundles.T17.2 impl_MergeBundles.B17 = true := by kernel_rfl
def impl_MergeBundles.T18 : Bool × List (List Nat × List Nat) := (true, [([], []), ([0], [0]), ([], []), ([2], [2]), ([], []), ([3, 4], [3, 4]), ([5], [5]), ([6], [6]), ([1, 7], [1, 7]), ([0, 1, 2, 3, 4, 5, 6, 7, 8], []), ([9, 8, 8, 0, 1, 2, 3, 4, 5, 6, 7, 8], [8, 9])])
def impl_MergeBundles.B18 : List Nat := [0, 1, 0, 4, 0, 28, 60, 124, 255, 511, 1023]
theorem impl_MergeBundles.tab18 : rtab .any (opsOf Try.f37 18) = impl_MergeBundles.T18 := by kernel_rfl
theorem impl_MergeBundles.bits18 : waitsOk impl_MergeBundles.T18.2 impl_MergeBundles.B18 = true := by kernel_rfl
set_option maxHeartbeats 8000000 in
set_option maxRecDepth 100000 in
theorem impl_MergeBundles.calls (k : Nat) (A0_0 : Option Addr) (c0_0 : Nat) (l0_0 : List (S116)) (A1_0 : Option Addr) (c1_0 : Nat) (l1_0 : List (S116)) (r1 : List (S116)) (r2 : Bool) (w : World) (hr0_0 : Kd.C k116 w A0_0 l0_0.length l0_0) (hc0_0 : l0_0.length ≤ c0_0) (hr1_0 : Kd.C k116 w A1_0 l1_0.length l1_0) (hc1_0 : l1_0.length ≤ c1_0) (h : impl_MergeBundles.f k l0_0 l1_0 = some (r1, r2)) :
    Calls Try.prog 37 #[.agg #[.slice A0_0 l0_0.length c0_0], .agg #[.slice A1_0 l1_0.length c1_0]] w fun e w' => ∃ v0_ : Value, e = .returned (.tuple #[.agg #[v0_], .bool r2]) ∧ Kd.R k116 116 w' w.heap.size (fun _ => True) v0_ r1 ∧ Below w.heap.size w w' := by
 have hu73 := Try.underlying73; have hu116 := Try.underlying116; have Eq := Cmp.A hr0_0; have HC0_0 := Cmp.A hc0_0; clear hr0_0 hc0_0; have Fb := Cmp.A hr1_0; have HC1_0 := Cmp.A hc1_0; clear hr1_0 hc1_0
 have HB := Cmp.A (Below.refl w.heap.size w)
 have H : ((impl_IsBundle.f k l0_0).bind fun Jx => (if Jx = true then ((impl_IsBundle.f k l1_0).bind fun J2 => (impl_MergeBundles.j0 k (!J2) l0_0 l1_0)) else (impl_MergeBundles.j0 k true l0_0 l1_0))) = some (r1, r2) := h
 clear h; have HC3 := Cmp.A H; clear H
 go_enter Try.func37, Try.ntmps37
 go_upto_region 1 with (first | ((with_reducible refine gate_dst (N := 2) rfl ?_); (try (refine gate_guard (by rfl) ?_; dsimp only)); refine box_event ?hg (N := 2) ?hd (cs := #[.slice A0_0 l0_0.length c0_0]) (t := 73) ?hr ?_; (case hd => rfl); (case hg => rfl); (case hr => first | (go_simp; done) | (go_simp; rfl)); intro Dh hg w4 hbox hb; have D3 := Cmp.A (hbox); have Uk := Cmp.gw hg HB; have Ug := Cmp.gw hg HB; replace HB := Cmp.bs HB hb; clear hb hbox hg) | ((with_reducible refine gate_dst (N := 3) rfl ?_); (try (refine gate_guard (by rfl) ?_; dsimp only)); refine box_event ?hg (N := 3) ?hd (cs := #[.slice A1_0 l1_0.length c1_0]) (t := 73) ?hr ?_; (case hd => rfl); (case hg => rfl); (case hr => first | (go_simp; done) | (go_simp; rfl)); intro Do hg w5 hbox hb; have D5 := Cmp.A (hbox); have Ul := Cmp.gw hg HB; have Uh := Cmp.gw hg HB; have Du := Cmp.nl hg D3; have Dv := Cmp.ng hg D3; replace D3 := Cmp.be D3 hb; replace HB := Cmp.bs HB hb; clear hb hbox hg) | ((with_reducible refine gate_dst (N := 4) rfl ?_); (try (refine gate_guard (by rfl) ?_; dsimp only)); refine box_event ?hg (N := 4) ?hd (cs := #[.slice none 0 0]) (t := 73) ?hr ?_; (case hd => rfl); (case hg => rfl); (case hr => first | (go_simp; done) | (go_simp; rfl)); intro Dp hg w6 hbox hb; have D7 := Cmp.A (hbox); have Um := Cmp.gw hg HB; have Ui := Cmp.gw hg HB; have Dq := Cmp.nl hg D3; have Ds := Cmp.ng hg D3; have Dy := Cmp.nl hg D5; have Dz := Cmp.ng hg D5; replace D3 := Cmp.be D3 hb; replace D5 := Cmp.be D5 hb; replace HB := Cmp.bs HB hb; clear hb hbox hg))
 (try simp only [Act.put, List.setIfInBounds_toArray, List.set_cons_zero, List.set_cons_succ])
 go_cut [18] (fun v18 wc => ∃ (kq : Nat) (Gq : Bool), v18 = .bool Gq ∧ Aside0 (impl_MergeBundles.j0 kq Gq l0_0 l1_0 = some (r1, r2)) ∧ Aside0 (kq ≤ k) ∧ Aside0 (wc.heap[Dh]? = some (.cells #[(.slice A0_0 l0_0.length c0_0)] 73 (0, 0))) ∧ Aside0 (wc.heap[Do]? = some (.cells #[(.slice A1_0 l1_0.length c1_0)] 73 (0, 0))) ∧ Aside0 (wc.heap[Dp]? = some (.cells #[(.slice none 0 0)] 73 (0, 0))) ∧ Aside0 (Below w.heap.size w wc))
 case first =>
  have H := HC3.out; clear HC3; replace H := Option.bind_eq_some_iff.mp H; obtain ⟨Jx, Ue, H⟩ := H; (try dsimp only at H); have A7 := Cmp.A Ue; clear Ue
  by_cases c8 : Jx = true
  ·subst c8; rw [if_pos rfl] at H; replace H := Option.bind_eq_some_iff.mp H; obtain ⟨J2, Uf, H⟩ := H; (try dsimp only at H); have A9 := Cmp.A Uf; clear Uf
   have H' := Cmp.A H
   clear H; have Uo := Du.out; have Vd := Dv.out; have Up := Dq.out; have Ve := Ds.out
   have Fv := Cmp.c0 D3
   have Fy := blk_frozen D3.out 0
   go_wp2_with (first | ((with_reducible refine gate_callee (f := 40) rfl ?_); refine goesL_ (some 12) rfl rfl Try.func40 (by kernel_rfl) rfl #[.agg #[.slice A0_0 l0_0.length c0_0]] rfl Cmp.q ?_; (with_reducible refine (impl_IsBundle.calls k _ _ l0_0 true _ ?side1 ?side2 A7.out).mono ?_); (case side1 => exact Cmp.rc (Kd.C_below Eq.out HB.out)); (case side2 => exact HC0_0.out); rintro e w13 ⟨rfl, hb⟩; refine ⟨_, rfl, ?_⟩; replace D3 := Cmp.be D3 hb; replace D5 := Cmp.be D5 hb; replace D7 := Cmp.be D7 hb; replace HB := Cmp.bs HB hb; (try clear hb); (try clear hb2); (try clear hk); (try clear hi); have Uq := Dy.out; have Vf := Dz.out; have Fw := Cmp.c0 D5; have Fz := blk_frozen D5.out 0) | (go_at_call 40; (with_reducible refine (impl_IsBundle.calls k _ _ l1_0 J2 _ ?side1 ?side2 A9.out).mono ?_); (case side1 => exact Cmp.rc (Kd.C_below Fb.out HB.out)); (case side2 => exact HC1_0.out); rintro e w16 ⟨rfl, hb⟩; replace D3 := Cmp.be D3 hb; replace D5 := Cmp.be D5 hb; replace D7 := Cmp.be D7 hb; replace HB := Cmp.bs HB hb; (try clear hb); (try clear hb2); (try clear hk); (try clear hi)))
   go_meet
   case rel => exact ⟨_, (!J2), (by first | rfl | simp | simp [*]), H', ⟨by first | omega | exact Nat.le_refl _⟩, Cmp.bq D3, Cmp.bq D5, Cmp.bq D7, ⟨Cmp.g HB.out⟩⟩
  ·replace c8 := Bool.eq_false_iff.mpr c8
   subst c8
   have H1 : (impl_MergeBundles.j0 k true l0_0 l1_0) = some (r1, r2) := by rw [if_neg (show ¬ (false = true) by decide)] at H; exact H
   clear H; have H := H1; clear H1
   have H' := Cmp.A H
   clear H; have Ur := Du.out; have Vg := Dv.out; have Us := Dq.out; have Vh := Ds.out
   have Fx := Cmp.c0 D3
   have G0 := blk_frozen D3.out 0
   go_wp2_with (first | ((with_reducible refine gate_callee (f := 40) rfl ?_); refine goesL_ (some 12) rfl rfl Try.func40 (by kernel_rfl) rfl #[.agg #[.slice A0_0 l0_0.length c0_0]] rfl Cmp.q ?_; (with_reducible refine (impl_IsBundle.calls k _ _ l0_0 false _ ?side1 ?side2 A7.out).mono ?_); (case side1 => exact Cmp.rc (Kd.C_below Eq.out HB.out)); (case side2 => exact HC0_0.out); rintro e w20 ⟨rfl, hb⟩; refine ⟨_, rfl, ?_⟩; replace D3 := Cmp.be D3 hb; replace D5 := Cmp.be D5 hb; replace D7 := Cmp.be D7 hb; replace HB := Cmp.bs HB hb; (try clear hb); (try clear hb2); (try clear hk); (try clear hi)))
   go_meet
   case rel => exact ⟨_, (true), (by first | rfl | simp | simp [*]), H', ⟨by first | omega | exact Nat.le_refl _⟩, Cmp.bq D3, Cmp.bq D5, Cmp.bq D7, ⟨Cmp.g HB.out⟩⟩
 case rest =>
  clear HC3; (try clear c1); (try clear p2); (try clear c3); (try clear c4); (try clear c8); (try clear c10); (try clear c11); (try clear c14); (try clear c17); (try clear c18); (try clear Fv); (try clear Fw); (try clear Fx); (try clear Fy); (try clear Fz); (try clear G0)
  obtain ⟨kq, Gq, rfl, HA, HJ2, D3, D5, D7, HB⟩ := hcut
  cases kq with
  | zero => exact absurd HA.out (by simp [impl_MergeBundles.j0])
  | succ kj2 =>
   have H := HA.out; clear HA
   simp only [impl_MergeBundles.j0] at H
   by_cases c21 : Gq = true
   ·subst c21; rw [if_pos rfl] at H; replace H := Option.bind_eq_some_iff.mp H; obtain ⟨Jy, K2, H⟩ := H; (try dsimp only at H); have X2 := Cmp.A K2; clear K2
    simp only [Option.some.injEq, Prod.mk.injEq] at H
    obtain ⟨rfl, rfl⟩ := H; have Ut := Du.out; have Vi := Dv.out; have Uu := Dq.out; have Vj := Ds.out
    have G4 : wc.cell? ⟨Dh, 0, none⟩ = some (.slice A0_0 l0_0.length c0_0) := (blk_cell D3.out 0).trans rfl
    have G7 := blk_frozen D3.out 0
    go_wp2_with (first | ((with_reducible refine gate_callee (f := 66) rfl ?_); refine goesL_ (some 20) rfl rfl Try.func66 (by kernel_rfl) rfl #[.agg #[.slice A0_0 l0_0.length c0_0]] rfl Cmp.q ?_; (with_reducible refine (impl_copyBundle.calls _ _ l0_0 Jy _ ?side1 ?side2 X2.out).mono ?_); (case side1 => exact Cmp.rc (Kd.C_below Eq.out HB.out)); (case side2 => exact HC0_0.out); rintro e w26 ⟨v311, rfl, K0, hb⟩; refine ⟨_, rfl, ?_⟩; have Jh := Cmp.A (Kd.R_lower K0 (below_size (Cmp.g HB.out))); replace D3 := Cmp.be D3 hb; replace D5 := Cmp.be D5 hb; replace D7 := Cmp.be D7 hb; replace HB := Cmp.bs HB hb; (try clear hb); (try clear hb2); (try clear hk); (try clear hi); (try clear K0); obtain ⟨K6, Kh, Pr⟩ := Kd.R_slice Jh.out; subst Pr; have Uv := Dz.out; have Vk := Dy.out; have G5 := Cmp.c0 D7; have G8 := blk_frozen D7.out 0))
    refine bodyPost_ret (results_ct rfl _ _ Dp 73 #[.slice K6 Jy.length Kh] (0, 0) _ rfl (Cmp.bw D7.out) Try.underlying73 rfl (by kernel_rfl)) rfl ?_
    exact ⟨_, by first | rfl | (simp [errW_none, errW_some] <;> rfl) | (simp [*, errW_none, errW_some] <;> rfl), by (with_reducible repeat (first | apply Kd.R_alloc | apply Kd.R_drewN | apply Kd.R_drew)); exact Kd.R_mono (Kd.R_far (p := ⟨Dp, 0, none⟩) (Kd.R_types Jh.out D7.out (by decide)) (fun _ hk => hk.2) (.slice K6 Jy.length Kh)) (fun _ hk => trivial), Cmp.g HB.out⟩
   ·replace c21 := Bool.eq_false_iff.mpr c21
    subst c21
    have H1 : (impl_MergeBundles.l0 kj2 0 0 l0_0 l1_0 ([] : List (S116))) = some (r1, r2) := by rw [if_neg (show ¬ (false = true) by decide)] at H; exact H
    clear H; have H := H1; clear H1
    have H' := Cmp.A H
    clear H
    go_wp2_with (first | ((with_reducible refine gate_dst (N := 6) rfl ?_); (try (refine gate_guard (by rfl) ?_; dsimp only)); refine box_event ?hg (N := 6) ?hd (cs := #[.slice none 0 0]) (t := 73) ?hr ?_; (case hd => rfl); (case hg => rfl); (case hr => first | (go_simp; done) | (go_simp; rfl)); intro Di hg w30 hbox hb; have D6 := Cmp.A (hbox); have Un := Cmp.gw hg HB; have Uj := Cmp.gw hg HB; have Dr := Cmp.nl hg D3; have Dt := Cmp.ng hg D3; have Dw := Cmp.nl hg D5; have Dx := Cmp.ng hg D5; have E0 := Cmp.nl hg D7; have E1 := Cmp.ng hg D7; replace D3 := Cmp.be D3 hb; replace D5 := Cmp.be D5 hb; replace D7 := Cmp.be D7 hb; replace HB := Cmp.bs HB hb; clear hb hbox hg; have Uw := Dt.out; have Vl := Dr.out; have Ux := Dx.out; have Vm := Dw.out; have Uy := E1.out; have Vn := E0.out; have G6 := Cmp.c0 D6; have G9 := blk_frozen D6.out 0))
    go_loopg [7, 8] kj2 (fun kq v7 v8 w' => ∃ (D1 : Int) (D2 : Int) (D8 : List (S116)) (Df : Value), v7 = .int .i64 D1 ∧ v8 = .int .i64 D2 ∧ Aside0 (impl_MergeBundles.l0 kq D1 D2 l0_0 l1_0 D8 = some (r1, r2)) ∧ Aside0 (kq ≤ kj2) ∧ Aside0 (Kd.R k116 116 w' w.heap.size (fun _ => True) Df D8) ∧ Aside0 (w'.heap[Dh]? = some (.cells #[(.slice A0_0 l0_0.length c0_0)] 73 (0, 0))) ∧ Aside0 (w'.heap[Do]? = some (.cells #[(.slice A1_0 l1_0.length c1_0)] 73 (0, 0))) ∧ Aside0 (w'.heap[Dp]? = some (.cells #[(.slice none 0 0)] 73 (0, 0))) ∧ Aside0 (w'.heap[Di]? = some (.cells #[Df] 73 (0, 0))) ∧ Aside0 (Below w.heap.size w w'))
    case atStart => exact ⟨(0), (0), (([] : List (S116))), (.slice none 0 0), (by first | rfl | simp | simp [*]), (by first | rfl | simp | simp [*]), H', ⟨Nat.le_refl _⟩, ⟨by first | exact Kd.R_nil _ _ _ _ _ | exact Kd.N_nil _ _ _ _ _ | exact Kd.V_nil _ _ _ _ _ | exact Kd.Q_nil _ _ _ _ _ | exact Kd.S_nil _ _ _ _ _⟩, ⟨Cmp.bw D3.out⟩, ⟨Cmp.bw D5.out⟩, ⟨Cmp.bw D7.out⟩, ⟨Cmp.bw D6.out⟩, ⟨Cmp.g HB.out⟩⟩
    case round =>
     clear H'
     (try clear c1); (try clear c2); (try clear p2); (try clear c3); (try clear c4); (try clear c6); (try clear c8); (try clear c10); (try clear c11); (try clear c14); (try clear c17); (try clear c18); (try clear c21); (try clear c23); (try clear c24); (try clear c28); (try clear c31); (try clear c32); (try clear c33); (try clear Fv); (try clear Fw); (try clear Fx); (try clear G4); (try clear G5); (try clear G6); (try clear Fy); (try clear Fz); (try clear G0); (try clear G7); (try clear G8); (try clear G9); (try clear p2)
     obtain ⟨D1, D2, D8, Df, rfl, rfl, HA, HK2, D0, D3, D5, D7, D6, HB⟩ := hrel
     cases gk with
     | zero => exact absurd HA.out (by simp [impl_MergeBundles.l0])
     | succ k2 =>
      have H := HA.out; clear HA
      simp only [impl_MergeBundles.l0] at H
      have Ju := Cmp.A H; clear H
      go_upto_region 6 with (fail)
      go_cut [33] (fun v33 wc => ∃ (kq : Nat) (G1 : Bool), v33 = .bool G1 ∧ Aside0 (impl_MergeBundles.j2 kq D1 D2 G1 l0_0 l1_0 D8 = some (r1, r2)) ∧ Aside0 (kq ≤ k2) ∧ Aside0 (Kd.R k116 116 wc w.heap.size (fun _ => True) Df D8) ∧ Aside0 (wc.heap[Dh]? = some (.cells #[(.slice A0_0 l0_0.length c0_0)] 73 (0, 0))) ∧ Aside0 (wc.heap[Do]? = some (.cells #[(.slice A1_0 l1_0.length c1_0)] 73 (0, 0))) ∧ Aside0 (wc.heap[Dp]? = some (.cells #[(.slice none 0 0)] 73 (0, 0))) ∧ Aside0 (wc.heap[Di]? = some (.cells #[Df] 73 (0, 0))) ∧ Aside0 (Below w.heap.size w wc))
      case first =>
       have H := Ju.out; clear Ju
       by_cases c36 : D1 < (l0_0.length : Int)
       ·rw [if_pos c36] at H
        have c36b0 : decide (D1 < (l0_0.length : Int)) = true := decide_eq_true c36
        clear c36
        (first | rw [c36b0] | (simp only [i64_w, i32_w]; rw [c36b0]) | skip)
        have H' := Cmp.A H
        clear H; have Uz := Du.out; have Vo := Dv.out; have V0 := Dq.out; have Vp := Ds.out; have V1 := Dr.out; have Vq := Dt.out
        have Gw : wr.cell? ⟨Dh, 0, none⟩ = some (.slice A0_0 l0_0.length c0_0) := (blk_cell D3.out 0).trans rfl
        have Gz := blk_frozen D3.out 0
        go_wp2
        go_meet
        case rel => exact ⟨_, (true), (by first | rfl | simp | simp [*]), H', ⟨by have := HJ2.out; have := HK2.out; first | omega | exact Nat.le_refl _⟩, ⟨Cmp.rr D0.out⟩, Cmp.bq D3, Cmp.bq D5, Cmp.bq D7, Cmp.bq D6, ⟨Cmp.g HB.out⟩⟩
       ·rw [if_neg c36] at H
        have c36b0 : decide (D1 < (l0_0.length : Int)) = false := decide_eq_false c36
        clear c36
        (first | rw [c36b0] | (simp only [i64_w, i32_w]; rw [c36b0]) | skip)
        have H' := Cmp.A H
        clear H; have V2 := Du.out; have Vr := Dv.out; have V3 := Dq.out; have Vs := Ds.out; have V4 := Dr.out; have Vt := Dt.out
        have Gx : wr.cell? ⟨Dh, 0, none⟩ = some (.slice A0_0 l0_0.length c0_0) := (blk_cell D3.out 0).trans rfl
        have J0 := blk_frozen D3.out 0; have V5 := Dy.out; have Vu := Dz.out; have V6 := Dw.out; have Vv := Dx.out
        have Gy : wr.cell? ⟨Do, 0, none⟩ = some (.slice A1_0 l1_0.length c1_0) := (blk_cell D5.out 0).trans rfl
        have J1 := blk_frozen D5.out 0
        go_wp2
        go_meet
        case rel => exact ⟨_, (decide (D2 < (l1_0.length : Int))), (by first | rfl | simp | simp [*]), H', ⟨by have := HJ2.out; have := HK2.out; first | omega | exact Nat.le_refl _⟩, ⟨Cmp.rr D0.out⟩, Cmp.bq D3, Cmp.bq D5, Cmp.bq D7, Cmp.bq D6, ⟨Cmp.g HB.out⟩⟩
      case rest =>
       clear Ju; (try clear c1); (try clear c2); (try clear p2); (try clear c3); (try clear c4); (try clear c6); (try clear c8); (try clear c10); (try clear c11); (try clear c14); (try clear c17); (try clear c18); (try clear c21); (try clear c23); (try clear c24); (try clear c28); (try clear c31); (try clear c32); (try clear c33); (try clear c36); (try clear c36b0); (try clear c37); (try clear c38); (try clear c39); (try clear c40); (try clear c41); (try clear c42); (try clear c43); (try clear c45); (try clear c46); (try clear Fv); (try clear Fw); (try clear Fx); (try clear G4); (try clear G5); (try clear G6); (try clear Gw); (try clear Gx); (try clear Gy); (try clear Fy); (try clear Fz); (try clear G0); (try clear G7); (try clear G8); (try clear G9); (try clear Gz); (try clear J0); (try clear J1); (try clear p2)
       obtain ⟨kq, G1, rfl, HA, HJ34, D0, D3, D5, D7, D6, HB⟩ := hcut
       cases kq with
       | zero => exact absurd HA.out (by simp [impl_MergeBundles.j2])
       | succ kj34 =>
        have H := HA.out; clear HA
        simp only [impl_MergeBundles.j2] at H
        by_cases c48 : G1 = true
        ·subst c48; rw [if_pos rfl] at H; have Jv := Cmp.A H; clear H
         go_upto_region 14 with (fail)
         go_cut [71] (fun v71 wc => ∃ (kq : Nat) (G2 : Bool), v71 = .bool G2 ∧ Aside0 (impl_MergeBundles.j3 kq D1 D2 G2 l0_0 l1_0 D8 = some (r1, r2)) ∧ Aside0 (kq ≤ kj34) ∧ Aside0 (Kd.R k116 116 wc w.heap.size (fun _ => True) Df D8) ∧ Aside0 (wc.heap[Dh]? = some (.cells #[(.slice A0_0 l0_0.length c0_0)] 73 (0, 0))) ∧ Aside0 (wc.heap[Do]? = some (.cells #[(.slice A1_0 l1_0.length c1_0)] 73 (0, 0))) ∧ Aside0 (wc.heap[Dp]? = some (.cells #[(.slice none 0 0)] 73 (0, 0))) ∧ Aside0 (wc.heap[Di]? = some (.cells #[Df] 73 (0, 0))) ∧ Aside0 (Below w.heap.size w wc))
         case first =>
          have H := Jv.out; clear Jv
          by_cases c50 : D2 = (l1_0.length : Int)
          ·rw [if_pos c50] at H
           have c50b0 : (D2 == (l1_0.length : Int)) = true := beq_iff_eq.mpr c50
           have c50b1 : (D2 != (l1_0.length : Int)) = false := bne_eq_false_iff_eq.mpr c50
           clear c50
           (first | rw [c50b0] | (simp only [i64_w, i32_w]; rw [c50b0]) | skip)
           have H' := Cmp.A H
           clear H
           try go_wp2
           replace D0 := Cmp.A (Kd.R_drew D0.out); replace D3 := Cmp.A (blk_drew D3.out); replace D5 := Cmp.A (blk_drew D5.out); replace D7 := Cmp.A (blk_drew D7.out); replace D6 := Cmp.A (blk_drew D6.out); replace HB := Cmp.A (below_drew1 HB.out)
           refine start_ (n := 26) (S := fun w' => w'.cell? ⟨Do, 0, none⟩ = some (.slice A1_0 l1_0.length c1_0)) (ds := []) (Cmp.bm 0 26) (by kernel_rfl) rfl rfl (Cmp.c0 D5 :) (fun hHeld => ?_); refine with_tabW impl_MergeBundles.tab14 impl_MergeBundles.bits14 (fun HT_ HW_ => ?_)
           generalize wc.drew = w51 at D0 D3 D5 D7 D6 HB hHeld ⊢
           refine Cmp.pu HT_ 0 72 (Cmp.bm 1 25) ?_; refine Cmp.pu HT_ 1 73 (Cmp.bm 2 24) ?_
           refine take_ (i := 2) (N := some 74) (v := ?_) (a' := ?_) (Cmp.bm 3 23) rfl rfl (take_ofW HT_.out HW_.out (by kernel_rfl)) (fun _ _ _ h => h) (Or.inl ⟨by rfl, ?_⟩) hHeld ?_ ?_
           rotate_left
           ·intro w' s0
            go_simp; with_reducible rfl
           rotate_left
           ·simp only [Act.put, Cmp.s, Cmp.z, Cmp.c, i64_w, i32_w]; rfl
           refine Cmp.pu HT_ 3 75 (Cmp.bm 4 22) ?_; refine Cmp.pu HT_ 4 76 (Cmp.bm 5 21) ?_; refine Cmp.pu HT_ 5 77 (Cmp.bm 6 20) ?_; refine Cmp.pv HT_ 6 78 (Cmp.bm 7 19) ?_; refine Cmp.pv HT_ 7 79 (Cmp.bm 8 18) ?_; refine Cmp.pv HT_ 8 80 (Cmp.bm 9 17) ?_; refine Cmp.pv HT_ 9 81 (Cmp.bm 10 16) ?_; refine Cmp.pv HT_ 10 82 (Cmp.bm 11 15) ?_; refine Cmp.pv HT_ 11 83 (Cmp.bm 12 14) ?_; refine Cmp.pv HT_ 12 84 (Cmp.bm 13 13) ?_; refine Cmp.pv HT_ 13 85 (Cmp.bm 14 12) ?_; refine Cmp.pv HT_ 14 86 (Cmp.bm 15 11) ?_; refine Cmp.pv HT_ 15 87 (Cmp.bm 16 10) ?_; refine Cmp.pv HT_ 16 88 (Cmp.bm 17 9) ?_; refine Cmp.pv HT_ 17 89 (Cmp.bm 18 8) ?_; refine Cmp.pv HT_ 18 90 (Cmp.bm 19 7) ?_; refine Cmp.pv HT_ 19 91 (Cmp.bm 20 6) ?_; refine Cmp.pv HT_ 20 92 (Cmp.bm 21 5) ?_; refine Cmp.pv HT_ 21 93 (Cmp.bm 22 4) ?_; refine Cmp.pv HT_ 22 94 (Cmp.bm 23 3) ?_; refine Cmp.pv HT_ 23 95 (Cmp.bm 24 2) ?_; refine Cmp.pu HT_ 24 96 (Cmp.bm 25 1) ?_; refine Cmp.pu HT_ 25 71 (Cmp.bm 26 0) ?_
           refine done_ (done_of HT_.out (by kernel_rfl)) ?_
           try go_wp2
           go_meet
           case rel => exact ⟨_, (true), (by first | rfl | simp | simp [*]), H', ⟨by have := HJ2.out; have := HK2.out; have := HJ34.out; first | omega | exact Nat.le_refl _⟩, ⟨Cmp.rr D0.out⟩, Cmp.bq D3, Cmp.bq D5, Cmp.bq D7, Cmp.bq D6, ⟨Cmp.g HB.out⟩⟩
          ·rw [if_neg c50] at H
           have c50b0 : (D2 == (l1_0.length : Int)) = false := beq_eq_false_iff_ne.mpr c50
           have c50b1 : (D2 != (l1_0.length : Int)) = true := bne_iff_ne.mpr c50
           (first | rw [c50b0] | (simp only [i64_w, i32_w]; rw [c50b0]) | skip)
           by_cases c52 : D1 < (l0_0.length : Int)
           ·rw [if_pos c52] at H
            have c52b0 : decide (D1 < (l0_0.length : Int)) = true := decide_eq_true c52
            clear c52
            by_cases c53 : 0 ≤ D1
            ·rw [if_pos c53] at H; have c53b0 : decide (0 ≤ D1) = true := decide_eq_true c53; clear c53
             by_cases c54 : 0 ≤ D2
             ·rw [if_pos c54] at H; have c54b0 : decide (0 ≤ D2) = true := decide_eq_true c54; clear c54
              by_cases c55 : D2 < (l1_0.length : Int)
              ·rw [if_pos c55] at H
               have c55b0 : decide (D2 < (l1_0.length : Int)) = true := decide_eq_true c55
               clear c55; replace H := Option.bind_eq_some_iff.mp H; obtain ⟨Pn, K3, H⟩ := H; (try dsimp only at H); have X3 := Cmp.A K3; clear K3
               have H' := Cmp.A H
               clear H
               try go_wp2
               replace D0 := Cmp.A (Kd.R_drew D0.out); replace D3 := Cmp.A (blk_drew D3.out); replace D5 := Cmp.A (blk_drew D5.out); replace D7 := Cmp.A (blk_drew D7.out); replace D6 := Cmp.A (blk_drew D6.out); replace HB := Cmp.A (below_drew1 HB.out)
               have p314 : 0 ≤ (D1 : Int) := of_decide_eq_true Cmp.d
               have q314 : D1 < (l0_0.length : Int) := of_decide_eq_true Cmp.d
               obtain ⟨Fc, e314, Er, Es, Et, Eu⟩ := at_T116 Eq.out D1 p314 q314
               have Gd := Eu; have Gc := Et; have Gb := Es; have Ga := Er; cases e314
               replace Er := Cmp.hc HB Er
               replace Es := Cmp.hc HB Es
               replace Et := Cmp.hc HB Et
               replace Eu := Cmp.hc HB Eu
               replace p314 := eq_true p314; replace q314 := eq_true q314
               have p315 : 0 ≤ (D2 : Int) := of_decide_eq_true Cmp.d
               have q315 : D2 < (l1_0.length : Int) := of_decide_eq_true Cmp.d
               obtain ⟨Fd, e315, Ev, Ew, Ex, Ey⟩ := at_T116 Fb.out D2 p315 q315
               have Gh := Ey; have Gg := Ex; have Gf := Ew; have Ge := Ev; cases e315
               replace Ev := Cmp.hc HB Ev
               replace Ew := Cmp.hc HB Ew
               replace Ex := Cmp.hc HB Ex
               replace Ey := Cmp.hc HB Ey
               replace p315 := eq_true p315; replace q315 := eq_true q315
               refine start_ (n := 26) (S := fun w' => w'.cell? ⟨Do, 0, none⟩ = some (.slice (some Fd) l1_0.length c1_0) ∧ w'.cell? ⟨Dh, 0, none⟩ = some (.slice (some Fc) l0_0.length c0_0) ∧ w'.cell? (Fc.add ((D1).toNat * 4)) = some (.int .i64 ((rd_T116 l0_0 D1).f0)) ∧ w'.cell? ⟨(Fc.add ((D1).toNat * 4)).block, (Fc.add ((D1).toNat * 4)).off + 1, none⟩ = some (.int .i64 ((rd_T116 l0_0 D1).f1)) ∧ w'.cell? ⟨(Fc.add ((D1).toNat * 4)).block, (Fc.add ((D1).toNat * 4)).off + 2, none⟩ = some (.int .i64 ((rd_T116 l0_0 D1).f2)) ∧ w'.cell? ⟨(Fc.add ((D1).toNat * 4)).block, (Fc.add ((D1).toNat * 4)).off + 3, none⟩ = some (.bool ((rd_T116 l0_0 D1).f3)) ∧ w'.cell? (Fd.add ((D2).toNat * 4)) = some (.int .i64 ((rd_T116 l1_0 D2).f0)) ∧ w'.cell? ⟨(Fd.add ((D2).toNat * 4)).block, (Fd.add ((D2).toNat * 4)).off + 1, none⟩ = some (.int .i64 ((rd_T116 l1_0 D2).f1)) ∧ w'.cell? ⟨(Fd.add ((D2).toNat * 4)).block, (Fd.add ((D2).toNat * 4)).off + 2, none⟩ = some (.int .i64 ((rd_T116 l1_0 D2).f2)) ∧ w'.cell? ⟨(Fd.add ((D2).toNat * 4)).block, (Fd.add ((D2).toNat * 4)).off + 3, none⟩ = some (.bool ((rd_T116 l1_0 D2).f3))) (ds := []) (Cmp.bm 0 26) (by kernel_rfl) rfl rfl ⟨(Cmp.c0 D5 :), (Cmp.c0 D3 :), (Cmp.hc HB Ga :), (Cmp.hc HB Gb :), (Cmp.hc HB Gc :), (Cmp.hc HB Gd :), (Cmp.hc HB Ge :), (Cmp.hc HB Gf :), (Cmp.hc HB Gg :), (Cmp.hc HB Gh :)⟩ (fun hHeld => ?_); refine with_tabW impl_MergeBundles.tab14 impl_MergeBundles.bits14 (fun HT_ HW_ => ?_)
               generalize wc.drew = w57 at D0 D3 D5 D7 D6 HB Er Es Et Eu Ev Ew Ex Ey hHeld ⊢
               refine Cmp.pu HT_ 0 72 (Cmp.bm 1 25) ?_; refine Cmp.pu HT_ 1 73 (Cmp.bm 2 24) ?_; refine Cmp.tk HT_ HW_ hHeld 2 74 (Cmp.bm 3 23) ?_; refine Cmp.pu HT_ 3 75 (Cmp.bm 4 22) ?_; refine Cmp.pu HT_ 4 76 (Cmp.bm 5 21) ?_; refine Cmp.pu HT_ 5 77 (Cmp.bm 6 20) ?_; refine Cmp.pu HT_ 6 78 (Cmp.bm 7 19) ?_; refine Cmp.pu HT_ 7 79 (Cmp.bm 8 18) ?_; refine Cmp.tk HT_ HW_ hHeld 8 80 (Cmp.bm 9 17) ?_; refine Cmp.pu HT_ 9 81 (Cmp.bm 10 16) ?_; refine Cmp.pu HT_ 10 82 (Cmp.bm 11 15) ?_; refine Cmp.pu HT_ 11 83 (Cmp.bm 12 14) ?_; refine Cmp.pu HT_ 12 84 (Cmp.bm 13 13) ?_; refine Cmp.pu HT_ 14 86 (Cmp.bb 26 24575) ?_; refine Cmp.pu HT_ 17 89 (Cmp.bb 26 155647) ?_; refine Cmp.pu HT_ 19 91 (Cmp.bb 26 679935) ?_; refine Cmp.tk HT_ HW_ hHeld 13 85 (Cmp.bb 26 688127) ?_; refine Cmp.pu HT_ 15 87 (Cmp.bb 26 720895) ?_; refine Cmp.tk HT_ HW_ hHeld 16 88 (Cmp.bb 26 786431) ?_; refine Cmp.tk HT_ HW_ hHeld 18 90 (Cmp.bm 20 6) ?_; refine Cmp.pu HT_ 20 92 (Cmp.bm 21 5) ?_; refine Cmp.tk HT_ HW_ hHeld 21 93 (Cmp.bm 22 4) ?_
               refine one_ (i := 22) (N := some 94) (Cmp.bm 23 3) rfl rfl (one_of HT_.out (by kernel_rfl)) (by decide) (fun K hK => ?_)
               refine goes_ Try.func67 (by kernel_rfl) rfl #[.agg #[.int .i64 ((rd_T116 l0_0 D1).f0), .int .i64 ((rd_T116 l0_0 D1).f1), .int .i64 ((rd_T116 l0_0 D1).f2), .bool ((rd_T116 l0_0 D1).f3)], .agg #[.int .i64 ((rd_T116 l1_0 D2).f0), .int .i64 ((rd_T116 l1_0 D2).f1), .int .i64 ((rd_T116 l1_0 D2).f2), .bool ((rd_T116 l1_0 D2).f3)]] (by rfl) rfl rfl Cmp.q ?_
               with_reducible refine (impl_entryBefore.calls ((rd_T116 l0_0 D1).f0) ((rd_T116 l0_0 D1).f1) ((rd_T116 l0_0 D1).f2) ((rd_T116 l0_0 D1).f3) ((rd_T116 l1_0 D2).f0) ((rd_T116 l1_0 D2).f1) ((rd_T116 l1_0 D2).f2) ((rd_T116 l1_0 D2).f3) Pn _ X3.out).mono ?_
               rintro e w58 ⟨rfl, hb⟩; refine ⟨_, rfl, ?_⟩
               replace D0 := Cmp.A (Kd.R_below (Cmp.rr D0.out) hb); replace D3 := Cmp.be D3 hb; replace D5 := Cmp.be D5 hb; replace D7 := Cmp.be D7 hb; replace D6 := Cmp.be D6 hb; replace HB := Cmp.A (below_step (Cmp.g HB.out) hb); (try clear hb); (try clear hb2); (try clear hk); (try clear hi)
               refine hK.out _ _ ⟨(Cmp.c0 D5 :), (Cmp.c0 D3 :), (Cmp.hc HB Ga :), (Cmp.hc HB Gb :), (Cmp.hc HB Gc :), (Cmp.hc HB Gd :), (Cmp.hc HB Ge :), (Cmp.hc HB Gf :), (Cmp.hc HB Gg :), (Cmp.hc HB Gh :)⟩ (fun hHeld => ?_)
               clear hK K
               refine Cmp.no ?_
               refine Cmp.pu HT_ 23 95 (Cmp.bm 24 2) ?_; refine Cmp.pu HT_ 24 96 (Cmp.bm 25 1) ?_; refine Cmp.pu HT_ 25 71 (Cmp.bm 26 0) ?_
               refine done_ (done_of HT_.out (by kernel_rfl)) ?_
               try go_wp2
               go_meet
               case rel => exact ⟨_, (Pn), (by first | rfl | simp | simp [*]), H', ⟨by have := HJ2.out; have := HK2.out; have := HJ34.out; first | omega | exact Nat.le_refl _⟩, ⟨Cmp.rr D0.out⟩, Cmp.bq D3, Cmp.bq D5, Cmp.bq D7, Cmp.bq D6, ⟨Cmp.g HB.out⟩⟩
              ·rw [if_neg c55] at H; exact absurd H (by simp)
             ·rw [if_neg c54] at H; exact absurd H (by simp)
            ·rw [if_neg c53] at H; exact absurd H (by simp)
           ·rw [if_neg c52] at H
            have c52b0 : decide (D1 < (l0_0.length : Int)) = false := decide_eq_false c52
            clear c52
            have H' := Cmp.A H
            clear H
            try go_wp2
            replace D0 := Cmp.A (Kd.R_drew D0.out); replace D3 := Cmp.A (blk_drew D3.out); replace D5 := Cmp.A (blk_drew D5.out); replace D7 := Cmp.A (blk_drew D7.out); replace D6 := Cmp.A (blk_drew D6.out); replace HB := Cmp.A (below_drew1 HB.out)
            refine start_ (n := 26) (S := fun w' => w'.cell? ⟨Do, 0, none⟩ = some (.slice A1_0 l1_0.length c1_0) ∧ w'.cell? ⟨Dh, 0, none⟩ = some (.slice A0_0 l0_0.length c0_0)) (ds := []) (Cmp.bm 0 26) (by kernel_rfl) rfl rfl ⟨(Cmp.c0 D5 :), (Cmp.c0 D3 :)⟩ (fun hHeld => ?_); refine with_tabW impl_MergeBundles.tab14 impl_MergeBundles.bits14 (fun HT_ HW_ => ?_)
            generalize wc.drew = w59 at D0 D3 D5 D7 D6 HB hHeld ⊢
            refine Cmp.pu HT_ 0 72 (Cmp.bm 1 25) ?_; refine Cmp.pu HT_ 1 73 (Cmp.bm 2 24) ?_; refine Cmp.tk HT_ HW_ hHeld 2 74 (Cmp.bm 3 23) ?_; refine Cmp.pu HT_ 3 75 (Cmp.bm 4 22) ?_; refine Cmp.pu HT_ 4 76 (Cmp.bm 5 21) ?_; refine Cmp.pu HT_ 5 77 (Cmp.bm 6 20) ?_; refine Cmp.pu HT_ 6 78 (Cmp.bm 7 19) ?_; refine Cmp.pu HT_ 7 79 (Cmp.bm 8 18) ?_; refine Cmp.tk HT_ HW_ hHeld 8 80 (Cmp.bm 9 17) ?_; refine Cmp.pu HT_ 9 81 (Cmp.bm 10 16) ?_; refine Cmp.pu HT_ 10 82 (Cmp.bm 11 15) ?_; refine Cmp.pu HT_ 11 83 (Cmp.bm 12 14) ?_; refine Cmp.pv HT_ 12 84 (Cmp.bm 13 13) ?_; refine Cmp.pv HT_ 13 85 (Cmp.bm 14 12) ?_; refine Cmp.pv HT_ 14 86 (Cmp.bm 15 11) ?_; refine Cmp.pv HT_ 15 87 (Cmp.bm 16 10) ?_; refine Cmp.pv HT_ 16 88 (Cmp.bm 17 9) ?_; refine Cmp.pv HT_ 17 89 (Cmp.bm 18 8) ?_; refine Cmp.pv HT_ 18 90 (Cmp.bm 19 7) ?_; refine Cmp.pv HT_ 19 91 (Cmp.bm 20 6) ?_; refine Cmp.pv HT_ 20 92 (Cmp.bm 21 5) ?_; refine Cmp.pv HT_ 21 93 (Cmp.bm 22 4) ?_; refine Cmp.pv HT_ 22 94 (Cmp.bm 23 3) ?_; refine Cmp.pu HT_ 23 95 (Cmp.bm 24 2) ?_; refine Cmp.pu HT_ 24 96 (Cmp.bm 25 1) ?_; refine Cmp.pu HT_ 25 71 (Cmp.bm 26 0) ?_
            refine done_ (done_of HT_.out (by kernel_rfl)) ?_
            try go_wp2
            go_meet
            case rel => exact ⟨_, (false), (by first | rfl | simp | simp [*]), H', ⟨by have := HJ2.out; have := HK2.out; have := HJ34.out; first | omega | exact Nat.le_refl _⟩, ⟨Cmp.rr D0.out⟩, Cmp.bq D3, Cmp.bq D5, Cmp.bq D7, Cmp.bq D6, ⟨Cmp.g HB.out⟩⟩
         case rest =>
          clear Jv; (try clear c1); (try clear p2); (try clear p3); (try clear q3); (try clear hx3); (try clear c5); (try clear c6); (try clear p31); (try clear q31); (try clear hx31); (try clear c50); (try clear c50b0); (try clear c50b1); (try clear c52); (try clear c52b0); (try clear c53); (try clear c53b0); (try clear c54); (try clear c54b0); (try clear c55); (try clear c55b0); (try clear Er); (try clear Es); (try clear Et); (try clear Eu); (try clear Ev); (try clear Ew); (try clear Ex); (try clear Ey); (try clear p314); (try clear p315); (try clear q314); (try clear q315)
          obtain ⟨kq, G2, rfl, HA, HJ48, D0, D3, D5, D7, D6, HB⟩ := hcut
          cases kq with
          | zero => exact absurd HA.out (by simp [impl_MergeBundles.j3])
          | succ kj48 =>
           have H := HA.out; clear HA
           simp only [impl_MergeBundles.j3] at H
           by_cases c60 : G2 = true
           ·subst c60; rw [if_pos rfl] at H
            by_cases c61 : 0 ≤ D1
            ·rw [if_pos c61] at H; have c61b0 : decide (0 ≤ D1) = true := decide_eq_true c61; clear c61
             by_cases c62 : D1 < (l0_0.length : Int)
             ·rw [if_pos c62] at H
              have c62b0 : decide (D1 < (l0_0.length : Int)) = true := decide_eq_true c62
              clear c62
              by_cases c63 : D8.length < 4398046511104
              ·rw [if_pos c63] at H; have LMc63 := Cmp.A c63; clear c63
               obtain ⟨J4, hy318⟩ : ∃ y_ : List (S116), y_ = (D8 ++ [(⟨(rd_T116 l0_0 D1).f0, (rd_T116 l0_0 D1).f1, (rd_T116 l0_0 D1).f2, (rd_T116 l0_0 D1).f3⟩ : S116)]) := ⟨_, rfl⟩
               replace H : (impl_MergeBundles.l0 kj48 (wrap64 (D1 + 1)) D2 l0_0 l1_0 J4) = some (r1, r2) := Cmp.hy hy318 H
               have K9 := Cmp.A hy318; clear hy318
               have H' := Cmp.A H
               clear H
               try go_wp2
               replace D0 := Cmp.A (Kd.R_drew D0.out); replace D3 := Cmp.A (blk_drew D3.out); replace D5 := Cmp.A (blk_drew D5.out); replace D7 := Cmp.A (blk_drew D7.out); replace D6 := Cmp.A (blk_drew D6.out); replace HB := Cmp.A (below_drew1 HB.out)
               have p317 : 0 ≤ (D1 : Int) := of_decide_eq_true Cmp.d
               have q317 : D1 < (l0_0.length : Int) := of_decide_eq_true Cmp.d
               obtain ⟨Fe, e317, Ez, F0, F1, F2⟩ := at_T116 Eq.out D1 p317 q317
               have Fl := F2; have Fk := F1; have Fj := F0; have Fi := Ez; cases e317
               replace Ez := Cmp.hc HB Ez
               replace F0 := Cmp.hc HB F0
               replace F1 := Cmp.hc HB F1
               replace F2 := Cmp.hc HB F2
               replace p317 := eq_true p317; replace q317 := eq_true q317
               refine start_ (n := 11) (S := fun w' => w'.cell? ⟨Di, 0, none⟩ = some (Df) ∧ w'.cell? ⟨Dh, 0, none⟩ = some (.slice (some Fe) l0_0.length c0_0) ∧ w'.cell? (Fe.add ((D1).toNat * 4)) = some (.int .i64 ((rd_T116 l0_0 D1).f0)) ∧ w'.cell? ⟨(Fe.add ((D1).toNat * 4)).block, (Fe.add ((D1).toNat * 4)).off + 1, none⟩ = some (.int .i64 ((rd_T116 l0_0 D1).f1)) ∧ w'.cell? ⟨(Fe.add ((D1).toNat * 4)).block, (Fe.add ((D1).toNat * 4)).off + 2, none⟩ = some (.int .i64 ((rd_T116 l0_0 D1).f2)) ∧ w'.cell? ⟨(Fe.add ((D1).toNat * 4)).block, (Fe.add ((D1).toNat * 4)).off + 3, none⟩ = some (.bool ((rd_T116 l0_0 D1).f3))) (ds := [10]) (Cmp.bm 0 11) (by kernel_rfl) rfl rfl ⟨(Cmp.c0 D6 :), (Cmp.c0 D3 :), (Cmp.hc HB Fi :), (Cmp.hc HB Fj :), (Cmp.hc HB Fk :), (Cmp.hc HB Fl :)⟩ (fun hHeld => ?_); refine with_tabW impl_MergeBundles.tab15 impl_MergeBundles.bits15 (fun HT_ HW_ => ?_)
               generalize wc.drew = w64 at D0 D3 D5 D7 D6 HB Ez F0 F1 F2 hHeld ⊢
               refine Cmp.pu HT_ 0 97 (Cmp.bm 1 10) ?_; refine Cmp.pu HT_ 2 99 (Cmp.bb 11 5) ?_; refine Cmp.pu HT_ 4 101 (Cmp.bb 11 21) ?_; refine Cmp.tk HT_ HW_ hHeld 1 98 (Cmp.bb 11 23) ?_; refine Cmp.tk HT_ HW_ hHeld 3 100 (Cmp.bm 5 6) ?_; refine Cmp.pu HT_ 5 102 (Cmp.bm 6 5) ?_; refine Cmp.tk HT_ HW_ hHeld 6 103 (Cmp.bm 7 4) ?_
               refine one_ (i := 7) (N := some 104) (Cmp.bm 8 3) rfl rfl (one_of HT_.out (by kernel_rfl)) (by decide) (fun K hK => ?_)
               refine value_ (w1 := ?_) (v := ?_) (by rfl) rfl ?_ ?_
               rotate_left 2
               ·go_simp
                constructor
                ·rfl
                ·rfl
               refine hK.out _ _ ⟨(blk_cell (blk_alloc D6.out _) 0).trans rfl, (blk_cell (blk_alloc D3.out _) 0).trans rfl, (World.cell?_alloc_lt _ _ _ (World.block_lt_of_cell? _ _ ((Cmp.hc HB Fi :)))).trans ((Cmp.hc HB Fi :)), (World.cell?_alloc_lt _ _ _ (World.block_lt_of_cell? _ _ ((Cmp.hc HB Fj :)))).trans ((Cmp.hc HB Fj :)), (World.cell?_alloc_lt _ _ _ (World.block_lt_of_cell? _ _ ((Cmp.hc HB Fk :)))).trans ((Cmp.hc HB Fk :)), (World.cell?_alloc_lt _ _ _ (World.block_lt_of_cell? _ _ ((Cmp.hc HB Fl :)))).trans ((Cmp.hc HB Fl :))⟩ (fun hHeld => ?_)
               clear hK K
               refine Cmp.no ?_
               refine one_ (i := 8) (N := some 105) (Cmp.bm 9 2) rfl rfl (one_of HT_.out (by kernel_rfl)) (by decide) (fun K hK => ?_)
               refine Kd.R_append_step k116 (w0 := w) w.heap.size (by rfl) (.tmp 98) (.tmp 104) 71 116 (.agg #[(.int .i64 0), (.int .i64 0), (.int .i64 0), (.bool false)]) 32 rfl Try.underlying71 info116 rfl (by decide) (by omega) Df D8 (⟨(rd_T116 l0_0 D1).f0, (rd_T116 l0_0 D1).f1, (rd_T116 l0_0 D1).f2, (rd_T116 l0_0 D1).f3⟩ : S116) [.int .i64 ((rd_T116 l0_0 D1).f0), .int .i64 ((rd_T116 l0_0 D1).f1), .int .i64 ((rd_T116 l0_0 D1).f2), .bool ((rd_T116 l0_0 D1).f3)] (fun _ => True) (fun _ => False) rfl rfl ?aP (fun _ hk => hk.elim) ?aF ?aO ?aB ?aS ?aL ?_
               (case aP => exact k116_mkM _ _ _ (⟨(rd_T116 l0_0 D1).f0, (rd_T116 l0_0 D1).f1, (rd_T116 l0_0 D1).f2, (rd_T116 l0_0 D1).f3⟩ : S116))
               (case aB => exact (Cmp.g HB.out))
               (case aF => exact (fun _ _ => trivial))
               (case aO => exact (Cmp.rr D0.out))
               (case aS => exact (below_size (Cmp.g HB.out)))
               (case aL => have := LMc63.out; omega)
               intro v319 w65 ho hb hg hat
               rw [← K9.out] at ho
               have Ji := Cmp.A (ho); replace D3 := Cmp.bg D3 hg (Kd.R_ne D0.out D3.out (by decide)); replace D5 := Cmp.bg D5 hg (Kd.R_ne D0.out D5.out (by decide)); replace D7 := Cmp.bg D7 hg (Kd.R_ne D0.out D7.out (by decide)); replace D6 := Cmp.bg D6 hg (Kd.R_ne D0.out D6.out (by decide)); replace HB := Cmp.A (hb); clear D0; clear ho hb hg hat
               obtain ⟨K7, Ki, Kr⟩ := Kd.R_slice Ji.out
               (first | subst Kr | (injection Kr with f1_ f2_ f3_; have f4_ := f1_.symm; have f5_ := f3_.symm; clear f1_ f2_ f3_; subst f4_; subst f5_))
               refine hK.out _ _ ⟨(Cmp.c0 D6 :), (Cmp.c0 D3 :), (Cmp.hc HB Fi :), (Cmp.hc HB Fj :), (Cmp.hc HB Fk :), (Cmp.hc HB Fl :)⟩ (fun hHeld => ?_)
               clear hK K
               refine Cmp.no ?_
               refine Cmp.pu HT_ 9 106 (Cmp.bm 10 1) ?_
               refine last_ (i := 10) (N := none) (Cmp.bm 11 0) rfl rfl (one_of HT_.out (by kernel_rfl)) (by decide) (fun K hK => ?_)
               have hs67 : w65.cell? ⟨Di, 0, none⟩ = some (Df) := (blk_cell D6.out 0).trans rfl
               have hfs67 := blk_frozen D6.out 0; have hns67_0 := Dr.out; have hns67_1 := Dw.out; have hns67_2 := E0.out; have hms67_0 := Dt.out; have hms67_1 := Dx.out; have hms67_2 := E1.out
               refine skip_ (w1 := ?_) (by rfl) rfl ?_ ?_
               rotate_left
               ·go_simp; rfl
               refine hK.out _ _ ?_
               clear hK K
               refine done_ (done_of HT_.out (by kernel_rfl)) ?_
               try go_wp2
               go_roundg kj48
               case measure => have := HJ2.out; have := HK2.out; have := HJ34.out; have := HJ48.out; omega
               case rel => exact ⟨(wrap64 (D1 + 1)), (D2), (J4), (.slice K7 J4.length Ki), (by first | rfl | simp | simp [*]), (by first | rfl | simp | simp [*]), H', ⟨by have := HJ2.out; have := HK2.out; have := HJ34.out; have := HJ48.out; omega⟩, ⟨Cmp.rm (Kd.R_far (p := ⟨Di, 0, none⟩) (Kd.R_types Ji.out D6.out (by decide)) (fun _ hk => hk.2) (.slice K7 J4.length Ki)) (fun _ hk => trivial)⟩, ⟨Cmp.bw D3.out⟩, ⟨Cmp.bw D5.out⟩, ⟨Cmp.bw D7.out⟩, ⟨Cmp.bw D6.out⟩, ⟨Cmp.g HB.out⟩⟩
              ·rw [if_neg c63] at H; exact absurd H (by simp)
             ·rw [if_neg c62] at H; exact absurd H (by simp)
            ·rw [if_neg c61] at H; exact absurd H (by simp)
           ·replace c60 := Bool.eq_false_iff.mpr c60
            subst c60
            have H1 : (if D1 = (l0_0.length : Int) then (impl_MergeBundles.j4 kj48 D1 D2 true l0_0 l1_0 D8) else (if 0 ≤ D2 then (if D2 < (l1_0.length : Int) then (if 0 ≤ D1 then (if D1 < (l0_0.length : Int) then ((impl_entryBefore.f ((rd_T116 l1_0 D2).f0) ((rd_T116 l1_0 D2).f1) ((rd_T116 l1_0 D2).f2) ((rd_T116 l1_0 D2).f3) ((rd_T116 l0_0 D1).f0) ((rd_T116 l0_0 D1).f1) ((rd_T116 l0_0 D1).f2) ((rd_T116 l0_0 D1).f3)).bind fun J3 => (impl_MergeBundles.j4 kj48 D1 D2 J3 l0_0 l1_0 D8)) else (none)) else (none)) else (none)) else (none))) = some (r1, r2) := by rw [if_neg (show ¬ (false = true) by decide)] at H; exact H
            clear H; have H := H1; clear H1; have Jw := Cmp.A H; clear H
            go_upto_region 17 with (fail)
            go_cut [109] (fun v109 wc => ∃ (kq : Nat) (Fu : Bool), v109 = .bool Fu ∧ Aside0 (impl_MergeBundles.j4 kq D1 D2 Fu l0_0 l1_0 D8 = some (r1, r2)) ∧ Aside0 (kq ≤ kj48) ∧ Aside0 (Kd.R k116 116 wc w.heap.size (fun _ => True) Df D8) ∧ Aside0 (wc.heap[Dh]? = some (.cells #[(.slice A0_0 l0_0.length c0_0)] 73 (0, 0))) ∧ Aside0 (wc.heap[Do]? = some (.cells #[(.slice A1_0 l1_0.length c1_0)] 73 (0, 0))) ∧ Aside0 (wc.heap[Dp]? = some (.cells #[(.slice none 0 0)] 73 (0, 0))) ∧ Aside0 (wc.heap[Di]? = some (.cells #[Df] 73 (0, 0))) ∧ Aside0 (Below w.heap.size w wc))
            case first =>
             have H := Jw.out; clear Jw
             by_cases c69 : D1 = (l0_0.length : Int)
             ·rw [if_pos c69] at H
              have c69b0 : (D1 == (l0_0.length : Int)) = true := beq_iff_eq.mpr c69
              have c69b1 : (D1 != (l0_0.length : Int)) = false := bne_eq_false_iff_eq.mpr c69
              clear c69
              (first | rw [c69b0] | (simp only [i64_w, i32_w]; rw [c69b0]) | skip)
              have H' := Cmp.A H
              clear H
              try go_wp2
              replace D0 := Cmp.A (Kd.R_drew D0.out); replace D3 := Cmp.A (blk_drew D3.out); replace D5 := Cmp.A (blk_drew D5.out); replace D7 := Cmp.A (blk_drew D7.out); replace D6 := Cmp.A (blk_drew D6.out); replace HB := Cmp.A (below_drew1 HB.out)
              refine start_ (n := 19) (S := fun w' => w'.cell? ⟨Dh, 0, none⟩ = some (.slice A0_0 l0_0.length c0_0)) (ds := []) (Cmp.bm 0 19) (by kernel_rfl) rfl rfl (Cmp.c0 D3 :) (fun hHeld => ?_); refine with_tabW impl_MergeBundles.tab17 impl_MergeBundles.bits17 (fun HT_ HW_ => ?_)
              generalize wc.drew = w70 at D0 D3 D5 D7 D6 HB hHeld ⊢
              refine Cmp.pu HT_ 0 110 (Cmp.bm 1 18) ?_; refine Cmp.pu HT_ 1 111 (Cmp.bm 2 17) ?_
              refine take_ (i := 2) (N := some 112) (v := ?_) (a' := ?_) (Cmp.bm 3 16) rfl rfl (take_ofW HT_.out HW_.out (by kernel_rfl)) (fun _ _ _ h => h) (Or.inl ⟨by rfl, ?_⟩) hHeld ?_ ?_
              rotate_left
              ·intro w' s0
               go_simp; with_reducible rfl
              rotate_left
              ·simp only [Act.put, Cmp.s, Cmp.z, Cmp.c, i64_w, i32_w]; rfl
              refine Cmp.pu HT_ 3 113 (Cmp.bm 4 15) ?_; refine Cmp.pu HT_ 4 114 (Cmp.bm 5 14) ?_; refine Cmp.pu HT_ 5 115 (Cmp.bm 6 13) ?_; refine Cmp.pv HT_ 6 116 (Cmp.bm 7 12) ?_; refine Cmp.pv HT_ 7 117 (Cmp.bm 8 11) ?_; refine Cmp.pv HT_ 8 118 (Cmp.bm 9 10) ?_; refine Cmp.pv HT_ 9 119 (Cmp.bm 10 9) ?_; refine Cmp.pv HT_ 10 120 (Cmp.bm 11 8) ?_; refine Cmp.pv HT_ 11 121 (Cmp.bm 12 7) ?_; refine Cmp.pv HT_ 12 122 (Cmp.bm 13 6) ?_; refine Cmp.pv HT_ 13 123 (Cmp.bm 14 5) ?_; refine Cmp.pv HT_ 14 124 (Cmp.bm 15 4) ?_; refine Cmp.pv HT_ 15 125 (Cmp.bm 16 3) ?_; refine Cmp.pv HT_ 16 126 (Cmp.bm 17 2) ?_; refine Cmp.pu HT_ 17 127 (Cmp.bm 18 1) ?_; refine Cmp.pu HT_ 18 109 (Cmp.bm 19 0) ?_
              refine done_ (done_of HT_.out (by kernel_rfl)) ?_
              try go_wp2
              go_meet
              case rel => exact ⟨_, (true), (by first | rfl | simp | simp [*]), H', ⟨by have := HJ2.out; have := HK2.out; have := HJ34.out; have := HJ48.out; first | omega | exact Nat.le_refl _⟩, ⟨Cmp.rr D0.out⟩, Cmp.bq D3, Cmp.bq D5, Cmp.bq D7, Cmp.bq D6, ⟨Cmp.g HB.out⟩⟩
             ·rw [if_neg c69] at H
              have c69b0 : (D1 == (l0_0.length : Int)) = false := beq_eq_false_iff_ne.mpr c69
              have c69b1 : (D1 != (l0_0.length : Int)) = true := bne_iff_ne.mpr c69
              (first | rw [c69b0] | (simp only [i64_w, i32_w]; rw [c69b0]) | skip)
              by_cases c71 : 0 ≤ D2
              ·rw [if_pos c71] at H; have c71b0 : decide (0 ≤ D2) = true := decide_eq_true c71; clear c71
               by_cases c72 : D2 < (l1_0.length : Int)
               ·rw [if_pos c72] at H
                have c72b0 : decide (D2 < (l1_0.length : Int)) = true := decide_eq_true c72
                clear c72
                by_cases c73 : 0 ≤ D1
                ·rw [if_pos c73] at H; have c73b0 : decide (0 ≤ D1) = true := decide_eq_true c73; clear c73
                 by_cases c74 : D1 < (l0_0.length : Int)
                 ·rw [if_pos c74] at H
                  have c74b0 : decide (D1 < (l0_0.length : Int)) = true := decide_eq_true c74
                  clear c74; replace H := Option.bind_eq_some_iff.mp H; obtain ⟨J3, K4, H⟩ := H; (try dsimp only at H); have X4 := Cmp.A K4; clear K4
                  have H' := Cmp.A H
                  clear H
                  try go_wp2
                  replace D0 := Cmp.A (Kd.R_drew D0.out); replace D3 := Cmp.A (blk_drew D3.out); replace D5 := Cmp.A (blk_drew D5.out); replace D7 := Cmp.A (blk_drew D7.out); replace D6 := Cmp.A (blk_drew D6.out); replace HB := Cmp.A (below_drew1 HB.out)
                  have p321 : 0 ≤ (D2 : Int) := of_decide_eq_true Cmp.d
                  have q321 : D2 < (l1_0.length : Int) := of_decide_eq_true Cmp.d
                  obtain ⟨Ff, e321, F3, F4, F5, F6⟩ := at_T116 Fb.out D2 p321 q321
                  have Gl := F6; have Gk := F5; have Gj := F4; have Gi := F3; cases e321
                  replace F3 := Cmp.hc HB F3
                  replace F4 := Cmp.hc HB F4
                  replace F5 := Cmp.hc HB F5
                  replace F6 := Cmp.hc HB F6
                  replace p321 := eq_true p321; replace q321 := eq_true q321
                  have p322 : 0 ≤ (D1 : Int) := of_decide_eq_true Cmp.d
                  have q322 : D1 < (l0_0.length : Int) := of_decide_eq_true Cmp.d
                  obtain ⟨Fg, e322, F7, F8, F9, Fa⟩ := at_T116 Eq.out D1 p322 q322
                  have Gp := Fa; have Go := F9; have Gn := F8; have Gm := F7; cases e322
                  replace F7 := Cmp.hc HB F7
                  replace F8 := Cmp.hc HB F8
                  replace F9 := Cmp.hc HB F9
                  replace Fa := Cmp.hc HB Fa
                  replace p322 := eq_true p322; replace q322 := eq_true q322
                  refine start_ (n := 19) (S := fun w' => w'.cell? ⟨Dh, 0, none⟩ = some (.slice (some Fg) l0_0.length c0_0) ∧ w'.cell? ⟨Do, 0, none⟩ = some (.slice (some Ff) l1_0.length c1_0) ∧ w'.cell? (Ff.add ((D2).toNat * 4)) = some (.int .i64 ((rd_T116 l1_0 D2).f0)) ∧ w'.cell? ⟨(Ff.add ((D2).toNat * 4)).block, (Ff.add ((D2).toNat * 4)).off + 1, none⟩ = some (.int .i64 ((rd_T116 l1_0 D2).f1)) ∧ w'.cell? ⟨(Ff.add ((D2).toNat * 4)).block, (Ff.add ((D2).toNat * 4)).off + 2, none⟩ = some (.int .i64 ((rd_T116 l1_0 D2).f2)) ∧ w'.cell? ⟨(Ff.add ((D2).toNat * 4)).block, (Ff.add ((D2).toNat * 4)).off + 3, none⟩ = some (.bool ((rd_T116 l1_0 D2).f3)) ∧ w'.cell? (Fg.add ((D1).toNat * 4)) = some (.int .i64 ((rd_T116 l0_0 D1).f0)) ∧ w'.cell? ⟨(Fg.add ((D1).toNat * 4)).block, (Fg.add ((D1).toNat * 4)).off + 1, none⟩ = some (.int .i64 ((rd_T116 l0_0 D1).f1)) ∧ w'.cell? ⟨(Fg.add ((D1).toNat * 4)).block, (Fg.add ((D1).toNat * 4)).off + 2, none⟩ = some (.int .i64 ((rd_T116 l0_0 D1).f2)) ∧ w'.cell? ⟨(Fg.add ((D1).toNat * 4)).block, (Fg.add ((D1).toNat * 4)).off + 3, none⟩ = some (.bool ((rd_T116 l0_0 D1).f3))) (ds := []) (Cmp.bm 0 19) (by kernel_rfl) rfl rfl ⟨(Cmp.c0 D3 :), (Cmp.c0 D5 :), (Cmp.hc HB Gi :), (Cmp.hc HB Gj :), (Cmp.hc HB Gk :), (Cmp.hc HB Gl :), (Cmp.hc HB Gm :), (Cmp.hc HB Gn :), (Cmp.hc HB Go :), (Cmp.hc HB Gp :)⟩ (fun hHeld => ?_); refine with_tabW impl_MergeBundles.tab17 impl_MergeBundles.bits17 (fun HT_ HW_ => ?_)
                  generalize wc.drew = w76 at D0 D3 D5 D7 D6 HB F3 F4 F5 F6 F7 F8 F9 Fa hHeld ⊢
                  refine Cmp.pu HT_ 0 110 (Cmp.bm 1 18) ?_; refine Cmp.pu HT_ 1 111 (Cmp.bm 2 17) ?_; refine Cmp.tk HT_ HW_ hHeld 2 112 (Cmp.bm 3 16) ?_; refine Cmp.pu HT_ 3 113 (Cmp.bm 4 15) ?_; refine Cmp.pu HT_ 4 114 (Cmp.bm 5 14) ?_; refine Cmp.pu HT_ 5 115 (Cmp.bm 6 13) ?_; refine Cmp.pu HT_ 6 116 (Cmp.bm 7 12) ?_; refine Cmp.pu HT_ 8 118 (Cmp.bb 19 383) ?_; refine Cmp.pu HT_ 11 121 (Cmp.bb 19 2431) ?_; refine Cmp.pu HT_ 13 123 (Cmp.bb 19 10623) ?_; refine Cmp.tk HT_ HW_ hHeld 7 117 (Cmp.bb 19 10751) ?_; refine Cmp.pu HT_ 9 119 (Cmp.bb 19 11263) ?_; refine Cmp.tk HT_ HW_ hHeld 10 120 (Cmp.bb 19 12287) ?_; refine Cmp.tk HT_ HW_ hHeld 12 122 (Cmp.bm 14 5) ?_; refine Cmp.pu HT_ 14 124 (Cmp.bm 15 4) ?_; refine Cmp.tk HT_ HW_ hHeld 15 125 (Cmp.bm 16 3) ?_
                  refine one_ (i := 16) (N := some 126) (Cmp.bm 17 2) rfl rfl (one_of HT_.out (by kernel_rfl)) (by decide) (fun K hK => ?_)
                  refine goes_ Try.func67 (by kernel_rfl) rfl #[.agg #[.int .i64 ((rd_T116 l1_0 D2).f0), .int .i64 ((rd_T116 l1_0 D2).f1), .int .i64 ((rd_T116 l1_0 D2).f2), .bool ((rd_T116 l1_0 D2).f3)], .agg #[.int .i64 ((rd_T116 l0_0 D1).f0), .int .i64 ((rd_T116 l0_0 D1).f1), .int .i64 ((rd_T116 l0_0 D1).f2), .bool ((rd_T116 l0_0 D1).f3)]] (by rfl) rfl rfl Cmp.q ?_
                  with_reducible refine (impl_entryBefore.calls ((rd_T116 l1_0 D2).f0) ((rd_T116 l1_0 D2).f1) ((rd_T116 l1_0 D2).f2) ((rd_T116 l1_0 D2).f3) ((rd_T116 l0_0 D1).f0) ((rd_T116 l0_0 D1).f1) ((rd_T116 l0_0 D1).f2) ((rd_T116 l0_0 D1).f3) J3 _ X4.out).mono ?_
                  rintro e w77 ⟨rfl, hb⟩; refine ⟨_, rfl, ?_⟩
                  replace D0 := Cmp.A (Kd.R_below (Cmp.rr D0.out) hb); replace D3 := Cmp.be D3 hb; replace D5 := Cmp.be D5 hb; replace D7 := Cmp.be D7 hb; replace D6 := Cmp.be D6 hb; replace HB := Cmp.A (below_step (Cmp.g HB.out) hb); (try clear hb); (try clear hb2); (try clear hk); (try clear hi)
                  refine hK.out _ _ ⟨(Cmp.c0 D3 :), (Cmp.c0 D5 :), (Cmp.hc HB Gi :), (Cmp.hc HB Gj :), (Cmp.hc HB Gk :), (Cmp.hc HB Gl :), (Cmp.hc HB Gm :), (Cmp.hc HB Gn :), (Cmp.hc HB Go :), (Cmp.hc HB Gp :)⟩ (fun hHeld => ?_)
                  clear hK K
                  refine Cmp.no ?_
                  refine Cmp.pu HT_ 17 127 (Cmp.bm 18 1) ?_; refine Cmp.pu HT_ 18 109 (Cmp.bm 19 0) ?_
                  refine done_ (done_of HT_.out (by kernel_rfl)) ?_
                  try go_wp2
                  go_meet
                  case rel => exact ⟨_, (J3), (by first | rfl | simp | simp [*]), H', ⟨by have := HJ2.out; have := HK2.out; have := HJ34.out; have := HJ48.out; first | omega | exact Nat.le_refl _⟩, ⟨Cmp.rr D0.out⟩, Cmp.bq D3, Cmp.bq D5, Cmp.bq D7, Cmp.bq D6, ⟨Cmp.g HB.out⟩⟩
                 ·rw [if_neg c74] at H; exact absurd H (by simp)
                ·rw [if_neg c73] at H; exact absurd H (by simp)
               ·rw [if_neg c72] at H; exact absurd H (by simp)
              ·rw [if_neg c71] at H; exact absurd H (by simp)
            case rest =>
             clear Jw; (try clear c1); (try clear p2); (try clear p3); (try clear q3); (try clear hx3); (try clear c6); (try clear p6); (try clear c7); (try clear p31); (try clear q31); (try clear hx31); (try clear p32); (try clear q32); (try clear hx32); (try clear c60); (try clear c61); (try clear c62); (try clear c63); (try clear p64); (try clear c67); (try clear c69); (try clear c69b0); (try clear c69b1); (try clear c71); (try clear c71b0); (try clear c72); (try clear c72b0); (try clear c73); (try clear c73b0); (try clear c74); (try clear c74b0); (try clear Ez); (try clear F0); (try clear F1); (try clear F2); (try clear F3); (try clear F4); (try clear F5); (try clear F6); (try clear F7); (try clear F8); (try clear F9); (try clear Fa); (try clear p317); (try clear p321); (try clear p322); (try clear q317); (try clear q321); (try clear q322)
             obtain ⟨kq, Fu, rfl, HA, HJ67, D0, D3, D5, D7, D6, HB⟩ := hcut
             cases kq with
             | zero => exact absurd HA.out (by simp [impl_MergeBundles.j4])
             | succ kj67 =>
              have H := HA.out; clear HA
              simp only [impl_MergeBundles.j4] at H
              by_cases c78 : Fu = true
              ·subst c78; rw [if_pos rfl] at H
               by_cases c79 : 0 ≤ D2
               ·rw [if_pos c79] at H; have c79b0 : decide (0 ≤ D2) = true := decide_eq_true c79; clear c79
                by_cases c80 : D2 < (l1_0.length : Int)
                ·rw [if_pos c80] at H
                 have c80b0 : decide (D2 < (l1_0.length : Int)) = true := decide_eq_true c80
                 clear c80
                 by_cases c81 : D8.length < 4398046511104
                 ·rw [if_pos c81] at H; have LMc81 := Cmp.A c81; clear c81
                  obtain ⟨J5, hy325⟩ : ∃ y_ : List (S116), y_ = (D8 ++ [(⟨(rd_T116 l1_0 D2).f0, (rd_T116 l1_0 D2).f1, (rd_T116 l1_0 D2).f2, (rd_T116 l1_0 D2).f3⟩ : S116)]) := ⟨_, rfl⟩
                  replace H : (impl_MergeBundles.l0 kj67 D1 (wrap64 (D2 + 1)) l0_0 l1_0 J5) = some (r1, r2) := Cmp.hy hy325 H
                  have Ka := Cmp.A hy325; clear hy325
                  have H' := Cmp.A H
                  clear H
                  try go_wp2
                  replace D0 := Cmp.A (Kd.R_drew D0.out); replace D3 := Cmp.A (blk_drew D3.out); replace D5 := Cmp.A (blk_drew D5.out); replace D7 := Cmp.A (blk_drew D7.out); replace D6 := Cmp.A (blk_drew D6.out); replace HB := Cmp.A (below_drew1 HB.out)
                  have p324 : 0 ≤ (D2 : Int) := of_decide_eq_true Cmp.d
                  have q324 : D2 < (l1_0.length : Int) := of_decide_eq_true Cmp.d
                  obtain ⟨Fh, e324, Fq, Fr, Fs, Ft⟩ := at_T116 Fb.out D2 p324 q324
                  have Fp := Ft; have Fo := Fs; have Fn := Fr; have Fm := Fq; cases e324
                  replace Fq := Cmp.hc HB Fq
                  replace Fr := Cmp.hc HB Fr
                  replace Fs := Cmp.hc HB Fs
                  replace Ft := Cmp.hc HB Ft
                  replace p324 := eq_true p324; replace q324 := eq_true q324
                  refine start_ (n := 11) (S := fun w' => w'.cell? ⟨Di, 0, none⟩ = some (Df) ∧ w'.cell? ⟨Do, 0, none⟩ = some (.slice (some Fh) l1_0.length c1_0) ∧ w'.cell? (Fh.add ((D2).toNat * 4)) = some (.int .i64 ((rd_T116 l1_0 D2).f0)) ∧ w'.cell? ⟨(Fh.add ((D2).toNat * 4)).block, (Fh.add ((D2).toNat * 4)).off + 1, none⟩ = some (.int .i64 ((rd_T116 l1_0 D2).f1)) ∧ w'.cell? ⟨(Fh.add ((D2).toNat * 4)).block, (Fh.add ((D2).toNat * 4)).off + 2, none⟩ = some (.int .i64 ((rd_T116 l1_0 D2).f2)) ∧ w'.cell? ⟨(Fh.add ((D2).toNat * 4)).block, (Fh.add ((D2).toNat * 4)).off + 3, none⟩ = some (.bool ((rd_T116 l1_0 D2).f3))) (ds := [10]) (Cmp.bm 0 11) (by kernel_rfl) rfl rfl ⟨(Cmp.c0 D6 :), (Cmp.c0 D5 :), (Cmp.hc HB Fm :), (Cmp.hc HB Fn :), (Cmp.hc HB Fo :), (Cmp.hc HB Fp :)⟩ (fun hHeld => ?_); refine with_tabW impl_MergeBundles.tab18 impl_MergeBundles.bits18 (fun HT_ HW_ => ?_)
                  generalize wc.drew = w82 at D0 D3 D5 D7 D6 HB Fq Fr Fs Ft hHeld ⊢
                  refine Cmp.pu HT_ 0 128 (Cmp.bm 1 10) ?_; refine Cmp.pu HT_ 2 130 (Cmp.bb 11 5) ?_; refine Cmp.pu HT_ 4 132 (Cmp.bb 11 21) ?_; refine Cmp.tk HT_ HW_ hHeld 1 129 (Cmp.bb 11 23) ?_; refine Cmp.tk HT_ HW_ hHeld 3 131 (Cmp.bm 5 6) ?_; refine Cmp.pu HT_ 5 133 (Cmp.bm 6 5) ?_; refine Cmp.tk HT_ HW_ hHeld 6 134 (Cmp.bm 7 4) ?_
                  refine one_ (i := 7) (N := some 135) (Cmp.bm 8 3) rfl rfl (one_of HT_.out (by kernel_rfl)) (by decide) (fun K hK => ?_)
                  refine value_ (w1 := ?_) (v := ?_) (by rfl) rfl ?_ ?_
                  rotate_left 2
                  ·go_simp
                   constructor
                   ·rfl
                   ·rfl
                  refine hK.out _ _ ⟨(blk_cell (blk_alloc D6.out _) 0).trans rfl, (blk_cell (blk_alloc D5.out _) 0).trans rfl, (World.cell?_alloc_lt _ _ _ (World.block_lt_of_cell? _ _ ((Cmp.hc HB Fm :)))).trans ((Cmp.hc HB Fm :)), (World.cell?_alloc_lt _ _ _ (World.block_lt_of_cell? _ _ ((Cmp.hc HB Fn :)))).trans ((Cmp.hc HB Fn :)), (World.cell?_alloc_lt _ _ _ (World.block_lt_of_cell? _ _ ((Cmp.hc HB Fo :)))).trans ((Cmp.hc HB Fo :)), (World.cell?_alloc_lt _ _ _ (World.block_lt_of_cell? _ _ ((Cmp.hc HB Fp :)))).trans ((Cmp.hc HB Fp :))⟩ (fun hHeld => ?_)
                  clear hK K
                  refine Cmp.no ?_
                  refine one_ (i := 8) (N := some 136) (Cmp.bm 9 2) rfl rfl (one_of HT_.out (by kernel_rfl)) (by decide) (fun K hK => ?_)
                  refine Kd.R_append_step k116 (w0 := w) w.heap.size (by rfl) (.tmp 129) (.tmp 135) 71 116 (.agg #[(.int .i64 0), (.int .i64 0), (.int .i64 0), (.bool false)]) 32 rfl Try.underlying71 info116 rfl (by decide) (by omega) Df D8 (⟨(rd_T116 l1_0 D2).f0, (rd_T116 l1_0 D2).f1, (rd_T116 l1_0 D2).f2, (rd_T116 l1_0 D2).f3⟩ : S116) [.int .i64 ((rd_T116 l1_0 D2).f0), .int .i64 ((rd_T116 l1_0 D2).f1), .int .i64 ((rd_T116 l1_0 D2).f2), .bool ((rd_T116 l1_0 D2).f3)] (fun _ => True) (fun _ => False) rfl rfl ?aP (fun _ hk => hk.elim) ?aF ?aO ?aB ?aS ?aL ?_
                  (case aP => exact k116_mkM _ _ _ (⟨(rd_T116 l1_0 D2).f0, (rd_T116 l1_0 D2).f1, (rd_T116 l1_0 D2).f2, (rd_T116 l1_0 D2).f3⟩ : S116))
                  (case aB => exact (Cmp.g HB.out))
                  (case aF => exact (fun _ _ => trivial))
                  (case aO => exact (Cmp.rr D0.out))
                  (case aS => exact (below_size (Cmp.g HB.out)))
                  (case aL => have := LMc81.out; omega)
                  intro v326 w83 ho hb hg hat
                  rw [← Ka.out] at ho
                  have Jj := Cmp.A (ho); replace D3 := Cmp.bg D3 hg (Kd.R_ne D0.out D3.out (by decide)); replace D5 := Cmp.bg D5 hg (Kd.R_ne D0.out D5.out (by decide)); replace D7 := Cmp.bg D7 hg (Kd.R_ne D0.out D7.out (by decide)); replace D6 := Cmp.bg D6 hg (Kd.R_ne D0.out D6.out (by decide)); replace HB := Cmp.A (hb); clear D0; clear ho hb hg hat
                  obtain ⟨K8, Kj, Ks⟩ := Kd.R_slice Jj.out
                  (first | subst Ks | (injection Ks with f1_ f2_ f3_; have f4_ := f1_.symm; have f5_ := f3_.symm; clear f1_ f2_ f3_; subst f4_; subst f5_))
                  refine hK.out _ _ ⟨(Cmp.c0 D6 :), (Cmp.c0 D5 :), (Cmp.hc HB Fm :), (Cmp.hc HB Fn :), (Cmp.hc HB Fo :), (Cmp.hc HB Fp :)⟩ (fun hHeld => ?_)
                  clear hK K
                  refine Cmp.no ?_
                  refine Cmp.pu HT_ 9 137 (Cmp.bm 10 1) ?_
                  refine last_ (i := 10) (N := none) (Cmp.bm 11 0) rfl rfl (one_of HT_.out (by kernel_rfl)) (by decide) (fun K hK => ?_)
                  have hs85 : w83.cell? ⟨Di, 0, none⟩ = some (Df) := (blk_cell D6.out 0).trans rfl
                  have hfs85 := blk_frozen D6.out 0; have hns85_0 := Dr.out; have hns85_1 := Dw.out; have hns85_2 := E0.out; have hms85_0 := Dt.out; have hms85_1 := Dx.out; have hms85_2 := E1.out
                  refine skip_ (w1 := ?_) (by rfl) rfl ?_ ?_
                  rotate_left
                  ·go_simp; rfl
                  refine hK.out _ _ ?_
                  clear hK K
                  refine done_ (done_of HT_.out (by kernel_rfl)) ?_
                  try go_wp2
                  go_roundg kj67
                  case measure => have := HJ2.out; have := HK2.out; have := HJ34.out; have := HJ48.out; have := HJ67.out; omega
                  case rel => exact ⟨(D1), (wrap64 (D2 + 1)), (J5), (.slice K8 J5.length Kj), (by first | rfl | simp | simp [*]), (by first | rfl | simp | simp [*]), H', ⟨by have := HJ2.out; have := HK2.out; have := HJ34.out; have := HJ48.out; have := HJ67.out; omega⟩, ⟨Cmp.rm (Kd.R_far (p := ⟨Di, 0, none⟩) (Kd.R_types Jj.out D6.out (by decide)) (fun _ hk => hk.2) (.slice K8 J5.length Kj)) (fun _ hk => trivial)⟩, ⟨Cmp.bw D3.out⟩, ⟨Cmp.bw D5.out⟩, ⟨Cmp.bw D7.out⟩, ⟨Cmp.bw D6.out⟩, ⟨Cmp.g HB.out⟩⟩
                 ·rw [if_neg c81] at H; exact absurd H (by simp)
                ·rw [if_neg c80] at H; exact absurd H (by simp)
               ·rw [if_neg c79] at H; exact absurd H (by simp)
              ·replace c78 := Bool.eq_false_iff.mpr c78
               subst c78
               have H1 : (if 0 ≤ D1 then (if D1 < (l0_0.length : Int) then (if 0 ≤ D2 then (if D2 < (l1_0.length : Int) then (if ((rd_T116 l1_0 D2).f2) > ((rd_T116 l0_0 D1).f2) then (if D8.length < 4398046511104 then (impl_MergeBundles.l0 kj67 (wrap64 (D1 + 1)) (wrap64 (D2 + 1)) l0_0 l1_0 (D8 ++ [(⟨(rd_T116 l1_0 D2).f0, (rd_T116 l1_0 D2).f1, (rd_T116 l1_0 D2).f2, (rd_T116 l1_0 D2).f3⟩ : S116)])) else (none)) else (if ((rd_T116 l1_0 D2).f2) = ((rd_T116 l0_0 D1).f2) then (if (rd_T116 l1_0 D2).f3 = true then (if D8.length < 4398046511104 then (impl_MergeBundles.l0 kj67 (wrap64 (D1 + 1)) (wrap64 (D2 + 1)) l0_0 l1_0 (D8 ++ [(⟨(rd_T116 l1_0 D2).f0, (rd_T116 l1_0 D2).f1, (rd_T116 l1_0 D2).f2, (rd_T116 l1_0 D2).f3⟩ : S116)])) else (none)) else (if D8.length < 4398046511104 then (impl_MergeBundles.l0 kj67 (wrap64 (D1 + 1)) (wrap64 (D2 + 1)) l0_0 l1_0 (D8 ++ [(⟨(rd_T116 l0_0 D1).f0, (rd_T116 l0_0 D1).f1, (rd_T116 l0_0 D1).f2, (rd_T116 l0_0 D1).f3⟩ : S116)])) else (none))) else (if D8.length < 4398046511104 then (impl_MergeBundles.l0 kj67 (wrap64 (D1 + 1)) (wrap64 (D2 + 1)) l0_0 l1_0 (D8 ++ [(⟨(rd_T116 l0_0 D1).f0, (rd_T116 l0_0 D1).f1, (rd_T116 l0_0 D1).f2, (rd_T116 l0_0 D1).f3⟩ : S116)])) else (none)))) else (none)) else (none)) else (none)) else (none)) = some (r1, r2) := by rw [if_neg (show ¬ (false = true) by decide)] at H; exact H
               clear H; have H := H1; clear H1
               by_cases c86 : 0 ≤ D1
               ·rw [if_pos c86] at H; have c86b0 : decide (0 ≤ D1) = true := decide_eq_true c86; clear c86
                by_cases c87 : D1 < (l0_0.length : Int)
                ·rw [if_pos c87] at H
                 have c87b0 : decide (D1 < (l0_0.length : Int)) = true := decide_eq_true c87
                 clear c87
                 by_cases c88 : 0 ≤ D2
                 ·rw [if_pos c88] at H; have c88b0 : decide (0 ≤ D2) = true := decide_eq_true c88; clear c88
                  by_cases c89 : D2 < (l1_0.length : Int)
                  ·rw [if_pos c89] at H
                   have c89b0 : decide (D2 < (l1_0.length : Int)) = true := decide_eq_true c89
                   clear c89
                   by_cases c90 : ((rd_T116 l1_0 D2).f2) > ((rd_T116 l0_0 D1).f2)
                   ·rw [if_pos c90] at H; have c90b0 : decide (((rd_T116 l0_0 D1).f2) < ((rd_T116 l1_0 D2).f2)) = true := decide_eq_true c90; clear c90
                    by_cases c91 : D8.length < 4398046511104
                    ·rw [if_pos c91] at H; have LMc91 := Cmp.A c91; clear c91
                     obtain ⟨J6, hy332⟩ : ∃ y_ : List (S116), y_ = (D8 ++ [(⟨(rd_T116 l1_0 D2).f0, (rd_T116 l1_0 D2).f1, (rd_T116 l1_0 D2).f2, (rd_T116 l1_0 D2).f3⟩ : S116)]) := ⟨_, rfl⟩
                     replace H : (impl_MergeBundles.l0 kj67 (wrap64 (D1 + 1)) (wrap64 (D2 + 1)) l0_0 l1_0 J6) = some (r1, r2) := Cmp.hy hy332 H
                     have Kb := Cmp.A hy332; clear hy332
                     have H' := Cmp.A H
                     clear H; have V7 := Du.out; have Vw := Dv.out; have V8 := Dq.out; have Vx := Ds.out; have V9 := Dr.out; have Vy := Dt.out
                     have Po : wc.cell? ⟨Dh, 0, none⟩ = some (.slice A0_0 l0_0.length c0_0) := (blk_cell D3.out 0).trans rfl
                     have Pp := blk_frozen D3.out 0
                     have p328 : 0 ≤ (D1 : Int) := of_decide_eq_true Cmp.d
                     have q328 : D1 < (l0_0.length : Int) := of_decide_eq_true Cmp.d
                     obtain ⟨E4, e328, E5, E6, E7, E2⟩ := at_T116 Eq.out D1 p328 q328
                     cases e328
                     replace E5 := Cmp.hc HB E5
                     replace E6 := Cmp.hc HB E6
                     replace E7 := Cmp.hc HB E7
                     replace E2 := Cmp.hc HB E2
                     replace p328 := eq_true p328; replace q328 := eq_true q328
                     go_wp2_with (first | ((with_reducible refine gate_dst (N := 9) rfl ?_); (try (refine gate_guard (by rfl) ?_; dsimp only)); refine box_event ?hg (N := 9) ?hd (cs := #[.int .i64 0, .int .i64 0, .int .i64 0, .bool false]) (t := 116) ?hr ?_; (case hd => rfl); (case hg => rfl); (case hr => first | (go_simp; done) | (go_simp; rfl)); intro D4 hg w96 hbox hb; have Da := Cmp.A (hbox); have E3 := Cmp.gw hg HB; have Gs := Cmp.gw hg HB; have E8 := Cmp.nl hg D3; have Eg := Cmp.ng hg D3; have Ea := Cmp.nl hg D5; have Eh := Cmp.ng hg D5; have Ec := Cmp.nl hg D7; have Ei := Cmp.ng hg D7; have Ee := Cmp.nl hg D6; have Ej := Cmp.ng hg D6; replace D0 := Cmp.A (Kd.R_below (Kd.R_elderB (Cmp.rr D0.out) D4 (Nat.le_of_eq hg.symm)) hb); replace D3 := Cmp.be D3 hb; replace D5 := Cmp.be D5 hb; replace D7 := Cmp.be D7 hb; replace D6 := Cmp.be D6 hb; replace HB := Cmp.bs HB hb; clear hb hbox hg; have Va := Eg.out; have Vz := E8.out; have Vb := Eh.out; have X0 := Ea.out; have Vc := Ei.out; have X1 := Ec.out; have Ps := Ej.out; have Rl := Ee.out; obtain ⟨Kt, Ku, Kv, Kw⟩ := Cmp.q4 Da; obtain ⟨Mq, Mr, Ms, Mt⟩ := Cmp.f4 Da; have Pt := Dy.out; have Rm := Dz.out; have Pu := Dw.out; have Rn := Dx.out; have Kx := Cmp.c0 D5; have Mu := blk_frozen D5.out 0; have p330 : 0 ≤ (D2 : Int) := of_decide_eq_true Cmp.d; have q330 : D2 < (l1_0.length : Int) := of_decide_eq_true Cmp.d; obtain ⟨Dn, e330, D9, Dd, De, Dc⟩ := at_T116 Fb.out D2 p330 q330; cases e330; have Dj : Dn.block ≠ D4 := Cmp.bn D9 E3; have Dk : Dn.block ≠ D4 := Cmp.bn D9 E3; have Dl : Dn.block ≠ D4 := Cmp.bn D9 E3; have Dm : Dn.block ≠ D4 := Cmp.bn D9 E3; replace D9 := Cmp.hc HB D9; replace Dd := Cmp.hc HB Dd; replace De := Cmp.hc HB De; replace Dc := Cmp.hc HB Dc; replace D9 := Cmp.cf (p := ⟨D4, 0, none⟩) Dj (.int .i64 ((rd_T116 l0_0 D1).f0)) D9; replace Dd := Cmp.cf (p := ⟨D4, 0, none⟩) Dj (.int .i64 ((rd_T116 l0_0 D1).f0)) Dd; replace De := Cmp.cf (p := ⟨D4, 0, none⟩) Dj (.int .i64 ((rd_T116 l0_0 D1).f0)) De; replace Dc := Cmp.cf (p := ⟨D4, 0, none⟩) Dj (.int .i64 ((rd_T116 l0_0 D1).f0)) Dc; replace D9 := Cmp.cf (p := ⟨D4, 1, none⟩) Dk (.int .i64 ((rd_T116 l0_0 D1).f1)) D9; replace Dd := Cmp.cf (p := ⟨D4, 1, none⟩) Dk (.int .i64 ((rd_T116 l0_0 D1).f1)) Dd; replace De := Cmp.cf (p := ⟨D4, 1, none⟩) Dk (.int .i64 ((rd_T116 l0_0 D1).f1)) De; replace Dc := Cmp.cf (p := ⟨D4, 1, none⟩) Dk (.int .i64 ((rd_T116 l0_0 D1).f1)) Dc; replace D9 := Cmp.cf (p := ⟨D4, 2, none⟩) Dl (.int .i64 ((rd_T116 l0_0 D1).f2)) D9; replace Dd := Cmp.cf (p := ⟨D4, 2, none⟩) Dl (.int .i64 ((rd_T116 l0_0 D1).f2)) Dd; replace De := Cmp.cf (p := ⟨D4, 2, none⟩) Dl (.int .i64 ((rd_T116 l0_0 D1).f2)) De; replace Dc := Cmp.cf (p := ⟨D4, 2, none⟩) Dl (.int .i64 ((rd_T116 l0_0 D1).f2)) Dc; replace D9 := Cmp.cf (p := ⟨D4, 3, none⟩) Dm (.bool ((rd_T116 l0_0 D1).f3)) D9; replace Dd := Cmp.cf (p := ⟨D4, 3, none⟩) Dm (.bool ((rd_T116 l0_0 D1).f3)) Dd; replace De := Cmp.cf (p := ⟨D4, 3, none⟩) Dm (.bool ((rd_T116 l0_0 D1).f3)) De; replace Dc := Cmp.cf (p := ⟨D4, 3, none⟩) Dm (.bool ((rd_T116 l0_0 D1).f3)) Dc; clear Dj; clear Dk; clear Dl; clear Dm; replace p330 := eq_true p330; replace q330 := eq_true q330) | ((with_reducible refine gate_dst (N := 10) rfl ?_); (try (refine gate_guard (by rfl) ?_; dsimp only)); refine box_event ?hg (N := 10) ?hd (cs := #[.int .i64 0, .int .i64 0, .int .i64 0, .bool false]) (t := 116) ?hr ?_; (case hd => rfl); (case hg => rfl); (case hr => first | (go_simp; done) | (go_simp; rfl)); intro Db hg w105 hbox hb; have Dg := Cmp.A (hbox); have Gu := Cmp.gw hg HB; have Gt := Cmp.gw hg HB; have E9 := Cmp.A ((by rw [hg]; exact Nat.ne_of_lt (blk_lt (g := Dh) (o := .cells #[.slice (some E4) l0_0.length c0_0] 73 (0, 0)) (Cmp.bw D3.out)) : Dh ≠ Db)); have El := Cmp.A ((by rw [hg]; exact Nat.ne_of_gt (blk_lt (g := Dh) (o := .cells #[.slice (some E4) l0_0.length c0_0] 73 (0, 0)) (Cmp.bw D3.out)) : Db ≠ Dh)); have Eb := Cmp.A ((by rw [hg]; exact Nat.ne_of_lt (blk_lt (g := Do) (o := .cells #[.slice (some Dn) l1_0.length c1_0] 73 (0, 0)) (Cmp.bw D5.out)) : Do ≠ Db)); have Em := Cmp.A ((by rw [hg]; exact Nat.ne_of_gt (blk_lt (g := Do) (o := .cells #[.slice (some Dn) l1_0.length c1_0] 73 (0, 0)) (Cmp.bw D5.out)) : Db ≠ Do)); have Ed := Cmp.A ((by rw [hg]; exact Nat.ne_of_lt (blk_lt (g := Dp) (o := .cells #[.slice none 0 0] 73 (0, 0)) (Cmp.bw D7.out)) : Dp ≠ Db)); have En := Cmp.A ((by rw [hg]; exact Nat.ne_of_gt (blk_lt (g := Dp) (o := .cells #[.slice none 0 0] 73 (0, 0)) (Cmp.bw D7.out)) : Db ≠ Dp)); have Ef := Cmp.A ((by rw [hg]; exact Nat.ne_of_lt (blk_lt (g := Di) (o := .cells #[Df] 73 (0, 0)) (Cmp.bw D6.out)) : Di ≠ Db)); have Eo := Cmp.A ((by rw [hg]; exact Nat.ne_of_gt (blk_lt (g := Di) (o := .cells #[Df] 73 (0, 0)) (Cmp.bw D6.out)) : Db ≠ Di)); have Ek := Cmp.A ((by rw [hg]; exact Nat.ne_of_lt (blk_lt (g := D4) (o := .cells #[.int .i64 ((rd_T116 l0_0 D1).f0), .int .i64 ((rd_T116 l0_0 D1).f1), .int .i64 ((rd_T116 l0_0 D1).f2), .bool ((rd_T116 l0_0 D1).f3)] 116 (0, 0)) (Cmp.bw Da.out)) : D4 ≠ Db)); have Ep := Cmp.A ((by rw [hg]; exact Nat.ne_of_gt (blk_lt (g := D4) (o := .cells #[.int .i64 ((rd_T116 l0_0 D1).f0), .int .i64 ((rd_T116 l0_0 D1).f1), .int .i64 ((rd_T116 l0_0 D1).f2), .bool ((rd_T116 l0_0 D1).f3)] 116 (0, 0)) (Cmp.bw Da.out)) : Db ≠ D4)); replace D0 := Cmp.A (Kd.R_below (Kd.R_elderB (Cmp.rm (Kd.R_far (p := ⟨D4, 3, none⟩) (Kd.R_far (p := ⟨D4, 2, none⟩) (Kd.R_far (p := ⟨D4, 1, none⟩) (Kd.R_far (p := ⟨D4, 0, none⟩) (Kd.R_mono D0.out (fun k_ hk => (⟨hk, hk.2⟩ : _ ∧ k_ ≠ D4))) (fun _ hk => hk.2) (.int .i64 ((rd_T116 l0_0 D1).f0))) (fun _ hk => hk.2) (.int .i64 ((rd_T116 l0_0 D1).f1))) (fun _ hk => hk.2) (.int .i64 ((rd_T116 l0_0 D1).f2))) (fun _ hk => hk.2) (.bool ((rd_T116 l0_0 D1).f3))) (fun _ h_ => h_.1)) Db (Nat.le_of_eq hg.symm)) hb); replace D3 := Cmp.A (blk_below (g := Dh) (o := .cells #[.slice (some E4) l0_0.length c0_0] 73 (0, 0)) (Cmp.bw D3.out) hb); replace D5 := Cmp.A (blk_below (g := Do) (o := .cells #[.slice (some Dn) l1_0.length c1_0] 73 (0, 0)) (Cmp.bw D5.out) hb); replace D7 := Cmp.A (blk_below (g := Dp) (o := .cells #[.slice none 0 0] 73 (0, 0)) (Cmp.bw D7.out) hb); replace D6 := Cmp.A (blk_below (g := Di) (o := .cells #[Df] 73 (0, 0)) (Cmp.bw D6.out) hb); replace Da := Cmp.A (blk_below (g := D4) (o := .cells #[.int .i64 ((rd_T116 l0_0 D1).f0), .int .i64 ((rd_T116 l0_0 D1).f1), .int .i64 ((rd_T116 l0_0 D1).f2), .bool ((rd_T116 l0_0 D1).f3)] 116 (0, 0)) (Cmp.bw Da.out) hb); replace HB := Cmp.bs HB hb; clear hb hbox hg; have Pv := El.out; have Ro := E9.out; have Pw := Em.out; have Rp := Eb.out; have Px := En.out; have Rq := Ed.out; have Py := Eo.out; have Rr := Ef.out; have Pz := Ep.out; have Rs := Ek.out; obtain ⟨Ky, Kz, L0, L1⟩ := Cmp.q4 Dg; obtain ⟨Mv, Mw, Mx, My⟩ := Cmp.f4 Dg; obtain ⟨L2, L3, L4, L5⟩ := Cmp.q4 Da; obtain ⟨Mz, N0, N1, N2⟩ := Cmp.f4 Da; have Q0 := E1.out; have Rt := E0.out; have L6 := Cmp.c0 D6; have N3 := blk_frozen D6.out 0) | ((with_reducible refine gate_builtin (b := .append) (xs := #[.tmp 62, .tmp 64]) rfl ?_); (try (refine gate_guard (by rfl) ?_; dsimp only)); at_builtin; refine Kd.R_append k116 (w0 := w) w.heap.size rfl (.tmp 62) (.tmp 64) 71 116 (.agg #[(.int .i64 0), (.int .i64 0), (.int .i64 0), (.bool false)]) 32 rfl Try.underlying71 info116 rfl (by decide) (by omega) Df D8 (⟨(rd_T116 l1_0 D2).f0, (rd_T116 l1_0 D2).f1, (rd_T116 l1_0 D2).f2, (rd_T116 l1_0 D2).f3⟩ : S116) [.int .i64 ((rd_T116 l1_0 D2).f0), .int .i64 ((rd_T116 l1_0 D2).f1), .int .i64 ((rd_T116 l1_0 D2).f2), .bool ((rd_T116 l1_0 D2).f3)] (fun k_ => k_ ≠ D4 ∧ k_ ≠ Db) (fun _ => False) rfl (by first | (go_simp; done) | (go_simp; rfl)) ?aP (fun _ hk => hk.elim) ?aF ?aO ?aB ?aS ?aL ?_; (case aP => exact k116_mkM _ _ _ (⟨(rd_T116 l1_0 D2).f0, (rd_T116 l1_0 D2).f1, (rd_T116 l1_0 D2).f2, (rd_T116 l1_0 D2).f3⟩ : S116)); (case aB => exact (Cmp.g HB.out)); (case aF => exact (fun k_ hk => ⟨Kd.freshB (g := D4) (o := .cells #[.int .i64 ((rd_T116 l1_0 D2).f0), .int .i64 ((rd_T116 l1_0 D2).f1), .int .i64 ((rd_T116 l1_0 D2).f2), .bool ((rd_T116 l1_0 D2).f3)] 116 (0, 0)) (Cmp.bw Da.out) k_ hk, Kd.freshB (g := Db) (o := .cells #[.int .i64 ((rd_T116 l1_0 D2).f0), .int .i64 ((rd_T116 l1_0 D2).f1), .int .i64 ((rd_T116 l1_0 D2).f2), .bool ((rd_T116 l1_0 D2).f3)] 116 (0, 0)) (Cmp.bw Dg.out) k_ hk⟩)); (case aO => exact (Cmp.rm (Kd.R_far (p := ⟨D4, 3, none⟩) (Kd.R_far (p := ⟨D4, 2, none⟩) (Kd.R_far (p := ⟨D4, 1, none⟩) (Kd.R_far (p := ⟨D4, 0, none⟩) (Kd.R_far (p := ⟨Db, 3, none⟩) (Kd.R_far (p := ⟨Db, 2, none⟩) (Kd.R_far (p := ⟨Db, 1, none⟩) (Kd.R_far (p := ⟨Db, 0, none⟩) (Kd.R_mono (Kd.R_mono D0.out (fun k_ hk => (⟨hk, hk.2⟩ : _ ∧ k_ ≠ Db))) (fun k_ hk => (⟨hk, hk.1.1.2⟩ : _ ∧ k_ ≠ D4))) (fun _ hk => hk.1.2) (.int .i64 ((rd_T116 l1_0 D2).f0))) (fun _ hk => hk.1.2) (.int .i64 ((rd_T116 l1_0 D2).f1))) (fun _ hk => hk.1.2) (.int .i64 ((rd_T116 l1_0 D2).f2))) (fun _ hk => hk.1.2) (.bool ((rd_T116 l1_0 D2).f3))) (fun _ hk => hk.2) (.int .i64 ((rd_T116 l1_0 D2).f0))) (fun _ hk => hk.2) (.int .i64 ((rd_T116 l1_0 D2).f1))) (fun _ hk => hk.2) (.int .i64 ((rd_T116 l1_0 D2).f2))) (fun _ hk => hk.2) (.bool ((rd_T116 l1_0 D2).f3))) (fun _ hk => ⟨hk.1.1.1.2, hk.1.1.2⟩))); (case aS => exact (below_size (Cmp.g HB.out))); (case aL => have := LMc91.out; omega); intro v333 w115 ho hb hg hat; rw [← Kb.out] at ho; have Jk := Cmp.A (ho); replace D3 := Cmp.A (blk_grown (g := Dh) (o := .cells #[.slice (some E4) l0_0.length c0_0] 73 (0, 0)) (Cmp.bw D3.out) hg (Kd.R_ne D0.out D3.out (by decide))); replace D5 := Cmp.A (blk_grown (g := Do) (o := .cells #[.slice (some Dn) l1_0.length c1_0] 73 (0, 0)) (Cmp.bw D5.out) hg (Kd.R_ne D0.out D5.out (by decide))); replace D7 := Cmp.A (blk_grown (g := Dp) (o := .cells #[.slice none 0 0] 73 (0, 0)) (Cmp.bw D7.out) hg (Kd.R_ne D0.out D7.out (by decide))); replace D6 := Cmp.A (blk_grown (g := Di) (o := .cells #[Df] 73 (0, 0)) (Cmp.bw D6.out) hg (Kd.R_ne D0.out D6.out (by decide))); replace Da := Cmp.A (blk_grown (g := D4) (o := .cells #[.int .i64 ((rd_T116 l1_0 D2).f0), .int .i64 ((rd_T116 l1_0 D2).f1), .int .i64 ((rd_T116 l1_0 D2).f2), .bool ((rd_T116 l1_0 D2).f3)] 116 (0, 0)) (Cmp.bw Da.out) hg (Kd.R_away D0.out (fun _ hk => hk.1.2))); replace Dg := Cmp.A (blk_grown (g := Db) (o := .cells #[.int .i64 ((rd_T116 l1_0 D2).f0), .int .i64 ((rd_T116 l1_0 D2).f1), .int .i64 ((rd_T116 l1_0 D2).f2), .bool ((rd_T116 l1_0 D2).f3)] 116 (0, 0)) (Cmp.bw Dg.out) hg (Kd.R_away D0.out (fun _ hk => hk.2))); replace HB := Cmp.A (hb); clear D0; clear ho hb hg hat; obtain ⟨Jc, Jp, Kk⟩ := Kd.R_slice Jk.out; subst Kk; have L7 := Cmp.c0 D6; have N4 := blk_frozen D6.out 0))
                     go_roundg kj67
                     case measure => have := HJ2.out; have := HK2.out; have := HJ34.out; have := HJ48.out; have := HJ67.out; omega
                     case rel => exact ⟨(wrap64 (D1 + 1)), (wrap64 (D2 + 1)), (J6), (.slice Jc J6.length Jp), (by first | rfl | simp | simp [*]), (by first | rfl | simp | simp [*]), H', ⟨by have := HJ2.out; have := HK2.out; have := HJ34.out; have := HJ48.out; have := HJ67.out; omega⟩, ⟨Cmp.rm (Kd.R_far (p := ⟨Di, 0, none⟩) (Kd.R_types Jk.out D6.out (by decide)) (fun _ hk => hk.2) (.slice Jc J6.length Jp)) (fun _ hk => trivial)⟩, ⟨Cmp.bw D3.out⟩, ⟨Cmp.bw D5.out⟩, ⟨Cmp.bw D7.out⟩, ⟨Cmp.bw D6.out⟩, ⟨Cmp.g HB.out⟩⟩
                    ·rw [if_neg c91] at H; exact absurd H (by simp)
                   ·rw [if_neg c90] at H; have c90b0 : decide (((rd_T116 l0_0 D1).f2) < ((rd_T116 l1_0 D2).f2)) = false := decide_eq_false c90; clear c90
                    by_cases c118 : ((rd_T116 l1_0 D2).f2) = ((rd_T116 l0_0 D1).f2)
                    ·rw [if_pos c118] at H; have c118b0 : (((rd_T116 l1_0 D2).f2) == ((rd_T116 l0_0 D1).f2)) = true := beq_iff_eq.mpr c118; have c118b1 : (((rd_T116 l1_0 D2).f2) != ((rd_T116 l0_0 D1).f2)) = false := bne_eq_false_iff_eq.mpr c118; clear c118
                     obtain ⟨bq119, hbq119⟩ : ∃ b_ : Bool, b_ = ((rd_T116 l1_0 D2).f3) := ⟨_, rfl⟩
                     replace H : (if bq119 = true then (if D8.length < 4398046511104 then (impl_MergeBundles.l0 kj67 (wrap64 (D1 + 1)) (wrap64 (D2 + 1)) l0_0 l1_0 (D8 ++ [(⟨(rd_T116 l1_0 D2).f0, (rd_T116 l1_0 D2).f1, (rd_T116 l1_0 D2).f2, bq119⟩ : S116)])) else (none)) else (if D8.length < 4398046511104 then (impl_MergeBundles.l0 kj67 (wrap64 (D1 + 1)) (wrap64 (D2 + 1)) l0_0 l1_0 (D8 ++ [(⟨(rd_T116 l0_0 D1).f0, (rd_T116 l0_0 D1).f1, (rd_T116 l0_0 D1).f2, (rd_T116 l0_0 D1).f3⟩ : S116)])) else (none))) = some (r1, r2) := by rw [← hbq119] at H; exact H
                     have Nbq119 := Cmp.A hbq119; clear hbq119
                     by_cases c120 : bq119 = true
                     ·subst c120; rw [if_pos rfl] at H
                      by_cases c121 : D8.length < 4398046511104
                      ·rw [if_pos c121] at H; have LMc121 := Cmp.A c121; clear c121
                       obtain ⟨J7, hy335⟩ : ∃ y_ : List (S116), y_ = (D8 ++ [(⟨(rd_T116 l1_0 D2).f0, (rd_T116 l1_0 D2).f1, (rd_T116 l1_0 D2).f2, true⟩ : S116)]) := ⟨_, rfl⟩
                       replace H : (impl_MergeBundles.l0 kj67 (wrap64 (D1 + 1)) (wrap64 (D2 + 1)) l0_0 l1_0 J7) = some (r1, r2) := Cmp.hy hy335 H
                       have Kc := Cmp.A hy335; clear hy335
                       have H' := Cmp.A H
                       clear H; have Q1 := Du.out; have Ru := Dv.out; have Q2 := Dq.out; have Rv := Ds.out; have Q3 := Dr.out; have Rw := Dt.out
                       have L8 : wc.cell? ⟨Dh, 0, none⟩ = some (.slice A0_0 l0_0.length c0_0) := (blk_cell D3.out 0).trans rfl
                       have N5 := blk_frozen D3.out 0
                       have p328 : 0 ≤ (D1 : Int) := of_decide_eq_true Cmp.d
                       have q328 : D1 < (l0_0.length : Int) := of_decide_eq_true Cmp.d
                       obtain ⟨E4, e328, E5, E6, E7, E2⟩ := at_T116 Eq.out D1 p328 q328
                       (try rw [← Nbq119.out] at E2)
                       cases e328
                       replace E5 := Cmp.hc HB E5
                       replace E6 := Cmp.hc HB E6
                       replace E7 := Cmp.hc HB E7
                       replace E2 := Cmp.hc HB E2
                       replace p328 := eq_true p328; replace q328 := eq_true q328
                       go_wp2_with (first | ((with_reducible refine gate_dst (N := 9) rfl ?_); (try (refine gate_guard (by rfl) ?_; dsimp only)); refine box_event ?hg (N := 9) ?hd (cs := #[.int .i64 0, .int .i64 0, .int .i64 0, .bool false]) (t := 116) ?hr ?_; (case hd => rfl); (case hg => rfl); (case hr => first | (go_simp; done) | (go_simp; rfl)); intro D4 hg w126 hbox hb; have Da := Cmp.A (hbox); have E3 := Cmp.gw hg HB; have Gs := Cmp.gw hg HB; have E8 := Cmp.nl hg D3; have Eg := Cmp.ng hg D3; have Ea := Cmp.nl hg D5; have Eh := Cmp.ng hg D5; have Ec := Cmp.nl hg D7; have Ei := Cmp.ng hg D7; have Ee := Cmp.nl hg D6; have Ej := Cmp.ng hg D6; replace D0 := Cmp.A (Kd.R_below (Kd.R_elderB (Cmp.rr D0.out) D4 (Nat.le_of_eq hg.symm)) hb); replace D3 := Cmp.be D3 hb; replace D5 := Cmp.be D5 hb; replace D7 := Cmp.be D7 hb; replace D6 := Cmp.be D6 hb; replace HB := Cmp.bs HB hb; clear hb hbox hg; have Q4 := Eg.out; have Rx := E8.out; have Q5 := Eh.out; have Ry := Ea.out; have Q6 := Ei.out; have Rz := Ec.out; have Q7 := Ej.out; have S0 := Ee.out; obtain ⟨L9, La, Lb, Lc⟩ := Cmp.q4 Da; obtain ⟨N6, N7, N8, N9⟩ := Cmp.f4 Da; have Q8 := Dy.out; have S1 := Dz.out; have Q9 := Dw.out; have S2 := Dx.out; have Ld := Cmp.c0 D5; have Na := blk_frozen D5.out 0; have p330 : 0 ≤ (D2 : Int) := of_decide_eq_true Cmp.d; have q330 : D2 < (l1_0.length : Int) := of_decide_eq_true Cmp.d; obtain ⟨Dn, e330, D9, Dd, De, Dc⟩ := at_T116 Fb.out D2 p330 q330; (try rw [← Nbq119.out] at Dc); cases e330; have Dj : Dn.block ≠ D4 := Cmp.bn D9 E3; have Dk : Dn.block ≠ D4 := Cmp.bn D9 E3; have Dl : Dn.block ≠ D4 := Cmp.bn D9 E3; have Dm : Dn.block ≠ D4 := Cmp.bn D9 E3; replace D9 := Cmp.hc HB D9; replace Dd := Cmp.hc HB Dd; replace De := Cmp.hc HB De; replace Dc := Cmp.hc HB Dc; replace D9 := Cmp.cf (p := ⟨D4, 0, none⟩) Dj (.int .i64 ((rd_T116 l0_0 D1).f0)) D9; replace Dd := Cmp.cf (p := ⟨D4, 0, none⟩) Dj (.int .i64 ((rd_T116 l0_0 D1).f0)) Dd; replace De := Cmp.cf (p := ⟨D4, 0, none⟩) Dj (.int .i64 ((rd_T116 l0_0 D1).f0)) De; replace Dc := Cmp.cf (p := ⟨D4, 0, none⟩) Dj (.int .i64 ((rd_T116 l0_0 D1).f0)) Dc; replace D9 := Cmp.cf (p := ⟨D4, 1, none⟩) Dk (.int .i64 ((rd_T116 l0_0 D1).f1)) D9; replace Dd := Cmp.cf (p := ⟨D4, 1, none⟩) Dk (.int .i64 ((rd_T116 l0_0 D1).f1)) Dd; replace De := Cmp.cf (p := ⟨D4, 1, none⟩) Dk (.int .i64 ((rd_T116 l0_0 D1).f1)) De; replace Dc := Cmp.cf (p := ⟨D4, 1, none⟩) Dk (.int .i64 ((rd_T116 l0_0 D1).f1)) Dc; replace D9 := Cmp.cf (p := ⟨D4, 2, none⟩) Dl (.int .i64 ((rd_T116 l0_0 D1).f2)) D9; replace Dd := Cmp.cf (p := ⟨D4, 2, none⟩) Dl (.int .i64 ((rd_T116 l0_0 D1).f2)) Dd; replace De := Cmp.cf (p := ⟨D4, 2, none⟩) Dl (.int .i64 ((rd_T116 l0_0 D1).f2)) De; replace Dc := Cmp.cf (p := ⟨D4, 2, none⟩) Dl (.int .i64 ((rd_T116 l0_0 D1).f2)) Dc; replace D9 := Cmp.cf (p := ⟨D4, 3, none⟩) Dm (.bool ((rd_T116 l0_0 D1).f3)) D9; replace Dd := Cmp.cf (p := ⟨D4, 3, none⟩) Dm (.bool ((rd_T116 l0_0 D1).f3)) Dd; replace De := Cmp.cf (p := ⟨D4, 3, none⟩) Dm (.bool ((rd_T116 l0_0 D1).f3)) De; replace Dc := Cmp.cf (p := ⟨D4, 3, none⟩) Dm (.bool ((rd_T116 l0_0 D1).f3)) Dc; clear Dj; clear Dk; clear Dl; clear Dm; replace p330 := eq_true p330; replace q330 := eq_true q330) | ((with_reducible refine gate_dst (N := 10) rfl ?_); (try (refine gate_guard (by rfl) ?_; dsimp only)); refine box_event ?hg (N := 10) ?hd (cs := #[.int .i64 0, .int .i64 0, .int .i64 0, .bool false]) (t := 116) ?hr ?_; (case hd => rfl); (case hg => rfl); (case hr => first | (go_simp; done) | (go_simp; rfl)); intro Db hg w135 hbox hb; have Dg := Cmp.A (hbox); have Gu := Cmp.gw hg HB; have Gt := Cmp.gw hg HB; have E9 := Cmp.A ((by rw [hg]; exact Nat.ne_of_lt (blk_lt (g := Dh) (o := .cells #[.slice (some E4) l0_0.length c0_0] 73 (0, 0)) (Cmp.bw D3.out)) : Dh ≠ Db)); have El := Cmp.A ((by rw [hg]; exact Nat.ne_of_gt (blk_lt (g := Dh) (o := .cells #[.slice (some E4) l0_0.length c0_0] 73 (0, 0)) (Cmp.bw D3.out)) : Db ≠ Dh)); have Eb := Cmp.A ((by rw [hg]; exact Nat.ne_of_lt (blk_lt (g := Do) (o := .cells #[.slice (some Dn) l1_0.length c1_0] 73 (0, 0)) (Cmp.bw D5.out)) : Do ≠ Db)); have Em := Cmp.A ((by rw [hg]; exact Nat.ne_of_gt (blk_lt (g := Do) (o := .cells #[.slice (some Dn) l1_0.length c1_0] 73 (0, 0)) (Cmp.bw D5.out)) : Db ≠ Do)); have Ed := Cmp.A ((by rw [hg]; exact Nat.ne_of_lt (blk_lt (g := Dp) (o := .cells #[.slice none 0 0] 73 (0, 0)) (Cmp.bw D7.out)) : Dp ≠ Db)); have En := Cmp.A ((by rw [hg]; exact Nat.ne_of_gt (blk_lt (g := Dp) (o := .cells #[.slice none 0 0] 73 (0, 0)) (Cmp.bw D7.out)) : Db ≠ Dp)); have Ef := Cmp.A ((by rw [hg]; exact Nat.ne_of_lt (blk_lt (g := Di) (o := .cells #[Df] 73 (0, 0)) (Cmp.bw D6.out)) : Di ≠ Db)); have Eo := Cmp.A ((by rw [hg]; exact Nat.ne_of_gt (blk_lt (g := Di) (o := .cells #[Df] 73 (0, 0)) (Cmp.bw D6.out)) : Db ≠ Di)); have Ek := Cmp.A ((by rw [hg]; exact Nat.ne_of_lt (blk_lt (g := D4) (o := .cells #[.int .i64 ((rd_T116 l0_0 D1).f0), .int .i64 ((rd_T116 l0_0 D1).f1), .int .i64 ((rd_T116 l0_0 D1).f2), .bool ((rd_T116 l0_0 D1).f3)] 116 (0, 0)) (Cmp.bw Da.out)) : D4 ≠ Db)); have Ep := Cmp.A ((by rw [hg]; exact Nat.ne_of_gt (blk_lt (g := D4) (o := .cells #[.int .i64 ((rd_T116 l0_0 D1).f0), .int .i64 ((rd_T116 l0_0 D1).f1), .int .i64 ((rd_T116 l0_0 D1).f2), .bool ((rd_T116 l0_0 D1).f3)] 116 (0, 0)) (Cmp.bw Da.out)) : Db ≠ D4)); replace D0 := Cmp.A (Kd.R_below (Kd.R_elderB (Cmp.rm (Kd.R_far (p := ⟨D4, 3, none⟩) (Kd.R_far (p := ⟨D4, 2, none⟩) (Kd.R_far (p := ⟨D4, 1, none⟩) (Kd.R_far (p := ⟨D4, 0, none⟩) (Kd.R_mono D0.out (fun k_ hk => (⟨hk, hk.2⟩ : _ ∧ k_ ≠ D4))) (fun _ hk => hk.2) (.int .i64 ((rd_T116 l0_0 D1).f0))) (fun _ hk => hk.2) (.int .i64 ((rd_T116 l0_0 D1).f1))) (fun _ hk => hk.2) (.int .i64 ((rd_T116 l0_0 D1).f2))) (fun _ hk => hk.2) (.bool ((rd_T116 l0_0 D1).f3))) (fun _ h_ => h_.1)) Db (Nat.le_of_eq hg.symm)) hb); replace D3 := Cmp.A (blk_below (g := Dh) (o := .cells #[.slice (some E4) l0_0.length c0_0] 73 (0, 0)) (Cmp.bw D3.out) hb); replace D5 := Cmp.A (blk_below (g := Do) (o := .cells #[.slice (some Dn) l1_0.length c1_0] 73 (0, 0)) (Cmp.bw D5.out) hb); replace D7 := Cmp.A (blk_below (g := Dp) (o := .cells #[.slice none 0 0] 73 (0, 0)) (Cmp.bw D7.out) hb); replace D6 := Cmp.A (blk_below (g := Di) (o := .cells #[Df] 73 (0, 0)) (Cmp.bw D6.out) hb); replace Da := Cmp.A (blk_below (g := D4) (o := .cells #[.int .i64 ((rd_T116 l0_0 D1).f0), .int .i64 ((rd_T116 l0_0 D1).f1), .int .i64 ((rd_T116 l0_0 D1).f2), .bool ((rd_T116 l0_0 D1).f3)] 116 (0, 0)) (Cmp.bw Da.out) hb); replace HB := Cmp.bs HB hb; clear hb hbox hg; have Qa := El.out; have S3 := E9.out; have Qb := Em.out; have S4 := Eb.out; have Qc := En.out; have S5 := Ed.out; have Qd := Eo.out; have S6 := Ef.out; have Qe := Ep.out; have S7 := Ek.out; obtain ⟨Le, Lf, Lg, Lh⟩ := Cmp.q4 Dg; obtain ⟨Nb, Nc, Nd, Ne⟩ := Cmp.f4 Dg; obtain ⟨Li, Lj, Lk, Ll⟩ := Cmp.q4 Da; obtain ⟨Nf, Ng, Nh, Ni⟩ := Cmp.f4 Da; have Qf := E1.out; have S8 := E0.out; have Lm := Cmp.c0 D6; have Nj := blk_frozen D6.out 0) | ((with_reducible refine gate_builtin (b := .append) (xs := #[.tmp 62, .tmp 64]) rfl ?_); (try (refine gate_guard (by rfl) ?_; dsimp only)); at_builtin; refine Kd.R_append k116 (w0 := w) w.heap.size rfl (.tmp 62) (.tmp 64) 71 116 (.agg #[(.int .i64 0), (.int .i64 0), (.int .i64 0), (.bool false)]) 32 rfl Try.underlying71 info116 rfl (by decide) (by omega) Df D8 (⟨(rd_T116 l1_0 D2).f0, (rd_T116 l1_0 D2).f1, (rd_T116 l1_0 D2).f2, true⟩ : S116) [.int .i64 ((rd_T116 l1_0 D2).f0), .int .i64 ((rd_T116 l1_0 D2).f1), .int .i64 ((rd_T116 l1_0 D2).f2), .bool true] (fun k_ => k_ ≠ D4 ∧ k_ ≠ Db) (fun _ => False) rfl (by first | (go_simp; done) | (go_simp; rfl)) ?aP (fun _ hk => hk.elim) ?aF ?aO ?aB ?aS ?aL ?_; (case aP => exact k116_mkM _ _ _ (⟨(rd_T116 l1_0 D2).f0, (rd_T116 l1_0 D2).f1, (rd_T116 l1_0 D2).f2, true⟩ : S116)); (case aB => exact (Cmp.g HB.out)); (case aF => exact (fun k_ hk => ⟨Kd.freshB (g := D4) (o := .cells #[.int .i64 ((rd_T116 l1_0 D2).f0), .int .i64 ((rd_T116 l1_0 D2).f1), .int .i64 ((rd_T116 l1_0 D2).f2), .bool true] 116 (0, 0)) (Cmp.bw Da.out) k_ hk, Kd.freshB (g := Db) (o := .cells #[.int .i64 ((rd_T116 l1_0 D2).f0), .int .i64 ((rd_T116 l1_0 D2).f1), .int .i64 ((rd_T116 l1_0 D2).f2), .bool true] 116 (0, 0)) (Cmp.bw Dg.out) k_ hk⟩)); (case aO => exact (Cmp.rm (Kd.R_far (p := ⟨D4, 3, none⟩) (Kd.R_far (p := ⟨D4, 2, none⟩) (Kd.R_far (p := ⟨D4, 1, none⟩) (Kd.R_far (p := ⟨D4, 0, none⟩) (Kd.R_far (p := ⟨Db, 3, none⟩) (Kd.R_far (p := ⟨Db, 2, none⟩) (Kd.R_far (p := ⟨Db, 1, none⟩) (Kd.R_far (p := ⟨Db, 0, none⟩) (Kd.R_mono (Kd.R_mono D0.out (fun k_ hk => (⟨hk, hk.2⟩ : _ ∧ k_ ≠ Db))) (fun k_ hk => (⟨hk, hk.1.1.2⟩ : _ ∧ k_ ≠ D4))) (fun _ hk => hk.1.2) (.int .i64 ((rd_T116 l1_0 D2).f0))) (fun _ hk => hk.1.2) (.int .i64 ((rd_T116 l1_0 D2).f1))) (fun _ hk => hk.1.2) (.int .i64 ((rd_T116 l1_0 D2).f2))) (fun _ hk => hk.1.2) (.bool true)) (fun _ hk => hk.2) (.int .i64 ((rd_T116 l1_0 D2).f0))) (fun _ hk => hk.2) (.int .i64 ((rd_T116 l1_0 D2).f1))) (fun _ hk => hk.2) (.int .i64 ((rd_T116 l1_0 D2).f2))) (fun _ hk => hk.2) (.bool true)) (fun _ hk => ⟨hk.1.1.1.2, hk.1.1.2⟩))); (case aS => exact (below_size (Cmp.g HB.out))); (case aL => have := LMc121.out; omega); intro v336 w145 ho hb hg hat; rw [← Kc.out] at ho; have Jl := Cmp.A (ho); replace D3 := Cmp.A (blk_grown (g := Dh) (o := .cells #[.slice (some E4) l0_0.length c0_0] 73 (0, 0)) (Cmp.bw D3.out) hg (Kd.R_ne D0.out D3.out (by decide))); replace D5 := Cmp.A (blk_grown (g := Do) (o := .cells #[.slice (some Dn) l1_0.length c1_0] 73 (0, 0)) (Cmp.bw D5.out) hg (Kd.R_ne D0.out D5.out (by decide))); replace D7 := Cmp.A (blk_grown (g := Dp) (o := .cells #[.slice none 0 0] 73 (0, 0)) (Cmp.bw D7.out) hg (Kd.R_ne D0.out D7.out (by decide))); replace D6 := Cmp.A (blk_grown (g := Di) (o := .cells #[Df] 73 (0, 0)) (Cmp.bw D6.out) hg (Kd.R_ne D0.out D6.out (by decide))); replace Da := Cmp.A (blk_grown (g := D4) (o := .cells #[.int .i64 ((rd_T116 l1_0 D2).f0), .int .i64 ((rd_T116 l1_0 D2).f1), .int .i64 ((rd_T116 l1_0 D2).f2), .bool true] 116 (0, 0)) (Cmp.bw Da.out) hg (Kd.R_away D0.out (fun _ hk => hk.1.2))); replace Dg := Cmp.A (blk_grown (g := Db) (o := .cells #[.int .i64 ((rd_T116 l1_0 D2).f0), .int .i64 ((rd_T116 l1_0 D2).f1), .int .i64 ((rd_T116 l1_0 D2).f2), .bool true] 116 (0, 0)) (Cmp.bw Dg.out) hg (Kd.R_away D0.out (fun _ hk => hk.2))); replace HB := Cmp.A (hb); clear D0; clear ho hb hg hat; obtain ⟨Jd, Jq, Kl⟩ := Kd.R_slice Jl.out; subst Kl; have Ln := Cmp.c0 D6; have Nk := blk_frozen D6.out 0))
                       go_roundg kj67
                       case measure => have := HJ2.out; have := HK2.out; have := HJ34.out; have := HJ48.out; have := HJ67.out; omega
                       case rel => exact ⟨(wrap64 (D1 + 1)), (wrap64 (D2 + 1)), (J7), (.slice Jd J7.length Jq), (by first | rfl | simp | simp [*]), (by first | rfl | simp | simp [*]), H', ⟨by have := HJ2.out; have := HK2.out; have := HJ34.out; have := HJ48.out; have := HJ67.out; omega⟩, ⟨Cmp.rm (Kd.R_far (p := ⟨Di, 0, none⟩) (Kd.R_types Jl.out D6.out (by decide)) (fun _ hk => hk.2) (.slice Jd J7.length Jq)) (fun _ hk => trivial)⟩, ⟨Cmp.bw D3.out⟩, ⟨Cmp.bw D5.out⟩, ⟨Cmp.bw D7.out⟩, ⟨Cmp.bw D6.out⟩, ⟨Cmp.g HB.out⟩⟩
                      ·rw [if_neg c121] at H; exact absurd H (by simp)
                     ·replace c120 := Bool.eq_false_iff.mpr c120
                      subst c120
                      have H1 : (if D8.length < 4398046511104 then (impl_MergeBundles.l0 kj67 (wrap64 (D1 + 1)) (wrap64 (D2 + 1)) l0_0 l1_0 (D8 ++ [(⟨(rd_T116 l0_0 D1).f0, (rd_T116 l0_0 D1).f1, (rd_T116 l0_0 D1).f2, (rd_T116 l0_0 D1).f3⟩ : S116)])) else (none)) = some (r1, r2) := by rw [if_neg (show ¬ (false = true) by decide)] at H; exact H
                      clear H; have H := H1; clear H1
                      by_cases c148 : D8.length < 4398046511104
                      ·rw [if_pos c148] at H; have LMc148 := Cmp.A c148; clear c148
                       obtain ⟨J8, hy338⟩ : ∃ y_ : List (S116), y_ = (D8 ++ [(⟨(rd_T116 l0_0 D1).f0, (rd_T116 l0_0 D1).f1, (rd_T116 l0_0 D1).f2, (rd_T116 l0_0 D1).f3⟩ : S116)]) := ⟨_, rfl⟩
                       replace H : (impl_MergeBundles.l0 kj67 (wrap64 (D1 + 1)) (wrap64 (D2 + 1)) l0_0 l1_0 J8) = some (r1, r2) := Cmp.hy hy338 H
                       have Ke := Cmp.A hy338; clear hy338
                       have H' := Cmp.A H
                       clear H; have Qg := Du.out; have S9 := Dv.out; have Qh := Dq.out; have Sa := Ds.out; have Qi := Dr.out; have Sb := Dt.out
                       have Lo : wc.cell? ⟨Dh, 0, none⟩ = some (.slice A0_0 l0_0.length c0_0) := (blk_cell D3.out 0).trans rfl
                       have Nl := blk_frozen D3.out 0
                       have p328 : 0 ≤ (D1 : Int) := of_decide_eq_true Cmp.d
                       have q328 : D1 < (l0_0.length : Int) := of_decide_eq_true Cmp.d
                       obtain ⟨E4, e328, E5, E6, E7, E2⟩ := at_T116 Eq.out D1 p328 q328
                       (try rw [← Nbq119.out] at E2)
                       cases e328
                       replace E5 := Cmp.hc HB E5
                       replace E6 := Cmp.hc HB E6
                       replace E7 := Cmp.hc HB E7
                       replace E2 := Cmp.hc HB E2
                       replace p328 := eq_true p328; replace q328 := eq_true q328
                       go_wp2_with (first | ((with_reducible refine gate_dst (N := 9) rfl ?_); (try (refine gate_guard (by rfl) ?_; dsimp only)); refine box_event ?hg (N := 9) ?hd (cs := #[.int .i64 0, .int .i64 0, .int .i64 0, .bool false]) (t := 116) ?hr ?_; (case hd => rfl); (case hg => rfl); (case hr => first | (go_simp; done) | (go_simp; rfl)); intro D4 hg w153 hbox hb; have Da := Cmp.A (hbox); have E3 := Cmp.gw hg HB; have Gs := Cmp.gw hg HB; have E8 := Cmp.nl hg D3; have Eg := Cmp.ng hg D3; have Ea := Cmp.nl hg D5; have Eh := Cmp.ng hg D5; have Ec := Cmp.nl hg D7; have Ei := Cmp.ng hg D7; have Ee := Cmp.nl hg D6; have Ej := Cmp.ng hg D6; replace D0 := Cmp.A (Kd.R_below (Kd.R_elderB (Cmp.rr D0.out) D4 (Nat.le_of_eq hg.symm)) hb); replace D3 := Cmp.be D3 hb; replace D5 := Cmp.be D5 hb; replace D7 := Cmp.be D7 hb; replace D6 := Cmp.be D6 hb; replace HB := Cmp.bs HB hb; clear hb hbox hg; have Qj := Eg.out; have Sc := E8.out; have Qk := Eh.out; have Sd := Ea.out; have Ql := Ei.out; have Se := Ec.out; have Qm := Ej.out; have Sf := Ee.out; obtain ⟨Lp, Lq, Lr, Ls⟩ := Cmp.q4 Da; obtain ⟨Nm, Nn, No, Np⟩ := Cmp.f4 Da; have Qn := Dy.out; have Sg := Dz.out; have Qo := Dw.out; have Sh := Dx.out; have Lt := Cmp.c0 D5; have Nq := blk_frozen D5.out 0; have p330 : 0 ≤ (D2 : Int) := of_decide_eq_true Cmp.d; have q330 : D2 < (l1_0.length : Int) := of_decide_eq_true Cmp.d; obtain ⟨Dn, e330, D9, Dd, De, Dc⟩ := at_T116 Fb.out D2 p330 q330; (try rw [← Nbq119.out] at Dc); cases e330; have Dj : Dn.block ≠ D4 := Cmp.bn D9 E3; have Dk : Dn.block ≠ D4 := Cmp.bn D9 E3; have Dl : Dn.block ≠ D4 := Cmp.bn D9 E3; have Dm : Dn.block ≠ D4 := Cmp.bn D9 E3; replace D9 := Cmp.hc HB D9; replace Dd := Cmp.hc HB Dd; replace De := Cmp.hc HB De; replace Dc := Cmp.hc HB Dc; replace D9 := Cmp.cf (p := ⟨D4, 0, none⟩) Dj (.int .i64 ((rd_T116 l0_0 D1).f0)) D9; replace Dd := Cmp.cf (p := ⟨D4, 0, none⟩) Dj (.int .i64 ((rd_T116 l0_0 D1).f0)) Dd; replace De := Cmp.cf (p := ⟨D4, 0, none⟩) Dj (.int .i64 ((rd_T116 l0_0 D1).f0)) De; replace Dc := Cmp.cf (p := ⟨D4, 0, none⟩) Dj (.int .i64 ((rd_T116 l0_0 D1).f0)) Dc; replace D9 := Cmp.cf (p := ⟨D4, 1, none⟩) Dk (.int .i64 ((rd_T116 l0_0 D1).f1)) D9; replace Dd := Cmp.cf (p := ⟨D4, 1, none⟩) Dk (.int .i64 ((rd_T116 l0_0 D1).f1)) Dd; replace De := Cmp.cf (p := ⟨D4, 1, none⟩) Dk (.int .i64 ((rd_T116 l0_0 D1).f1)) De; replace Dc := Cmp.cf (p := ⟨D4, 1, none⟩) Dk (.int .i64 ((rd_T116 l0_0 D1).f1)) Dc; replace D9 := Cmp.cf (p := ⟨D4, 2, none⟩) Dl (.int .i64 ((rd_T116 l0_0 D1).f2)) D9; replace Dd := Cmp.cf (p := ⟨D4, 2, none⟩) Dl (.int .i64 ((rd_T116 l0_0 D1).f2)) Dd; replace De := Cmp.cf (p := ⟨D4, 2, none⟩) Dl (.int .i64 ((rd_T116 l0_0 D1).f2)) De; replace Dc := Cmp.cf (p := ⟨D4, 2, none⟩) Dl (.int .i64 ((rd_T116 l0_0 D1).f2)) Dc; replace D9 := Cmp.cf (p := ⟨D4, 3, none⟩) Dm (.bool ((rd_T116 l0_0 D1).f3)) D9; replace Dd := Cmp.cf (p := ⟨D4, 3, none⟩) Dm (.bool ((rd_T116 l0_0 D1).f3)) Dd; replace De := Cmp.cf (p := ⟨D4, 3, none⟩) Dm (.bool ((rd_T116 l0_0 D1).f3)) De; replace Dc := Cmp.cf (p := ⟨D4, 3, none⟩) Dm (.bool ((rd_T116 l0_0 D1).f3)) Dc; clear Dj; clear Dk; clear Dl; clear Dm; replace p330 := eq_true p330; replace q330 := eq_true q330) | ((with_reducible refine gate_dst (N := 10) rfl ?_); (try (refine gate_guard (by rfl) ?_; dsimp only)); refine box_event ?hg (N := 10) ?hd (cs := #[.int .i64 0, .int .i64 0, .int .i64 0, .bool false]) (t := 116) ?hr ?_; (case hd => rfl); (case hg => rfl); (case hr => first | (go_simp; done) | (go_simp; rfl)); intro Db hg w162 hbox hb; have Dg := Cmp.A (hbox); have Gu := Cmp.gw hg HB; have Gt := Cmp.gw hg HB; have E9 := Cmp.A ((by rw [hg]; exact Nat.ne_of_lt (blk_lt (g := Dh) (o := .cells #[.slice (some E4) l0_0.length c0_0] 73 (0, 0)) (Cmp.bw D3.out)) : Dh ≠ Db)); have El := Cmp.A ((by rw [hg]; exact Nat.ne_of_gt (blk_lt (g := Dh) (o := .cells #[.slice (some E4) l0_0.length c0_0] 73 (0, 0)) (Cmp.bw D3.out)) : Db ≠ Dh)); have Eb := Cmp.A ((by rw [hg]; exact Nat.ne_of_lt (blk_lt (g := Do) (o := .cells #[.slice (some Dn) l1_0.length c1_0] 73 (0, 0)) (Cmp.bw D5.out)) : Do ≠ Db)); have Em := Cmp.A ((by rw [hg]; exact Nat.ne_of_gt (blk_lt (g := Do) (o := .cells #[.slice (some Dn) l1_0.length c1_0] 73 (0, 0)) (Cmp.bw D5.out)) : Db ≠ Do)); have Ed := Cmp.A ((by rw [hg]; exact Nat.ne_of_lt (blk_lt (g := Dp) (o := .cells #[.slice none 0 0] 73 (0, 0)) (Cmp.bw D7.out)) : Dp ≠ Db)); have En := Cmp.A ((by rw [hg]; exact Nat.ne_of_gt (blk_lt (g := Dp) (o := .cells #[.slice none 0 0] 73 (0, 0)) (Cmp.bw D7.out)) : Db ≠ Dp)); have Ef := Cmp.A ((by rw [hg]; exact Nat.ne_of_lt (blk_lt (g := Di) (o := .cells #[Df] 73 (0, 0)) (Cmp.bw D6.out)) : Di ≠ Db)); have Eo := Cmp.A ((by rw [hg]; exact Nat.ne_of_gt (blk_lt (g := Di) (o := .cells #[Df] 73 (0, 0)) (Cmp.bw D6.out)) : Db ≠ Di)); have Ek := Cmp.A ((by rw [hg]; exact Nat.ne_of_lt (blk_lt (g := D4) (o := .cells #[.int .i64 ((rd_T116 l0_0 D1).f0), .int .i64 ((rd_T116 l0_0 D1).f1), .int .i64 ((rd_T116 l0_0 D1).f2), .bool ((rd_T116 l0_0 D1).f3)] 116 (0, 0)) (Cmp.bw Da.out)) : D4 ≠ Db)); have Ep := Cmp.A ((by rw [hg]; exact Nat.ne_of_gt (blk_lt (g := D4) (o := .cells #[.int .i64 ((rd_T116 l0_0 D1).f0), .int .i64 ((rd_T116 l0_0 D1).f1), .int .i64 ((rd_T116 l0_0 D1).f2), .bool ((rd_T116 l0_0 D1).f3)] 116 (0, 0)) (Cmp.bw Da.out)) : Db ≠ D4)); replace D0 := Cmp.A (Kd.R_below (Kd.R_elderB (Cmp.rm (Kd.R_far (p := ⟨D4, 3, none⟩) (Kd.R_far (p := ⟨D4, 2, none⟩) (Kd.R_far (p := ⟨D4, 1, none⟩) (Kd.R_far (p := ⟨D4, 0, none⟩) (Kd.R_mono D0.out (fun k_ hk => (⟨hk, hk.2⟩ : _ ∧ k_ ≠ D4))) (fun _ hk => hk.2) (.int .i64 ((rd_T116 l0_0 D1).f0))) (fun _ hk => hk.2) (.int .i64 ((rd_T116 l0_0 D1).f1))) (fun _ hk => hk.2) (.int .i64 ((rd_T116 l0_0 D1).f2))) (fun _ hk => hk.2) (.bool ((rd_T116 l0_0 D1).f3))) (fun _ h_ => h_.1)) Db (Nat.le_of_eq hg.symm)) hb); replace D3 := Cmp.A (blk_below (g := Dh) (o := .cells #[.slice (some E4) l0_0.length c0_0] 73 (0, 0)) (Cmp.bw D3.out) hb); replace D5 := Cmp.A (blk_below (g := Do) (o := .cells #[.slice (some Dn) l1_0.length c1_0] 73 (0, 0)) (Cmp.bw D5.out) hb); replace D7 := Cmp.A (blk_below (g := Dp) (o := .cells #[.slice none 0 0] 73 (0, 0)) (Cmp.bw D7.out) hb); replace D6 := Cmp.A (blk_below (g := Di) (o := .cells #[Df] 73 (0, 0)) (Cmp.bw D6.out) hb); replace Da := Cmp.A (blk_below (g := D4) (o := .cells #[.int .i64 ((rd_T116 l0_0 D1).f0), .int .i64 ((rd_T116 l0_0 D1).f1), .int .i64 ((rd_T116 l0_0 D1).f2), .bool ((rd_T116 l0_0 D1).f3)] 116 (0, 0)) (Cmp.bw Da.out) hb); replace HB := Cmp.bs HB hb; clear hb hbox hg; have Qp := El.out; have Si := E9.out; have Qq := Em.out; have Sj := Eb.out; have Qr := En.out; have Sk := Ed.out; have Qs := Eo.out; have Sl := Ef.out; have Qt := Ep.out; have Sm := Ek.out; obtain ⟨Lu, Lv, Lw, Lx⟩ := Cmp.q4 Dg; obtain ⟨Nr, Ns, Nt, Nu⟩ := Cmp.f4 Dg; obtain ⟨Ly, Lz, M0, M1⟩ := Cmp.q4 Da; obtain ⟨Nv, Nw, Nx, Ny⟩ := Cmp.f4 Da; have Qu := E1.out; have Sn := E0.out; have M2 := Cmp.c0 D6; have Nz := blk_frozen D6.out 0) | ((with_reducible refine gate_builtin (b := .append) (xs := #[.tmp 62, .tmp 64]) rfl ?_); (try (refine gate_guard (by rfl) ?_; dsimp only)); at_builtin; refine Kd.R_append k116 (w0 := w) w.heap.size rfl (.tmp 62) (.tmp 64) 71 116 (.agg #[(.int .i64 0), (.int .i64 0), (.int .i64 0), (.bool false)]) 32 rfl Try.underlying71 info116 rfl (by decide) (by omega) Df D8 (⟨(rd_T116 l0_0 D1).f0, (rd_T116 l0_0 D1).f1, (rd_T116 l0_0 D1).f2, (rd_T116 l0_0 D1).f3⟩ : S116) [.int .i64 ((rd_T116 l0_0 D1).f0), .int .i64 ((rd_T116 l0_0 D1).f1), .int .i64 ((rd_T116 l0_0 D1).f2), .bool ((rd_T116 l0_0 D1).f3)] (fun k_ => k_ ≠ D4 ∧ k_ ≠ Db) (fun _ => False) rfl (by first | (go_simp; done) | (go_simp; rfl)) ?aP (fun _ hk => hk.elim) ?aF ?aO ?aB ?aS ?aL ?_; (case aP => exact k116_mkM _ _ _ (⟨(rd_T116 l0_0 D1).f0, (rd_T116 l0_0 D1).f1, (rd_T116 l0_0 D1).f2, (rd_T116 l0_0 D1).f3⟩ : S116)); (case aB => exact (Cmp.g HB.out)); (case aF => exact (fun k_ hk => ⟨Kd.freshB (g := D4) (o := .cells #[.int .i64 ((rd_T116 l0_0 D1).f0), .int .i64 ((rd_T116 l0_0 D1).f1), .int .i64 ((rd_T116 l0_0 D1).f2), .bool ((rd_T116 l0_0 D1).f3)] 116 (0, 0)) (Cmp.bw Da.out) k_ hk, Kd.freshB (g := Db) (o := .cells #[.int .i64 ((rd_T116 l1_0 D2).f0), .int .i64 ((rd_T116 l1_0 D2).f1), .int .i64 ((rd_T116 l1_0 D2).f2), .bool false] 116 (0, 0)) (Cmp.bw Dg.out) k_ hk⟩)); (case aO => exact (Cmp.rm (Kd.R_far (p := ⟨Db, 3, none⟩) (Kd.R_far (p := ⟨Db, 2, none⟩) (Kd.R_far (p := ⟨Db, 1, none⟩) (Kd.R_far (p := ⟨Db, 0, none⟩) (Kd.R_mono D0.out (fun k_ hk => (⟨hk, hk.2⟩ : _ ∧ k_ ≠ Db))) (fun _ hk => hk.2) (.int .i64 ((rd_T116 l1_0 D2).f0))) (fun _ hk => hk.2) (.int .i64 ((rd_T116 l1_0 D2).f1))) (fun _ hk => hk.2) (.int .i64 ((rd_T116 l1_0 D2).f2))) (fun _ hk => hk.2) (.bool false)) (fun _ hk => ⟨hk.1.1.2, hk.1.2⟩))); (case aS => exact (below_size (Cmp.g HB.out))); (case aL => have := LMc148.out; omega); intro v339 w172 ho hb hg hat; rw [← Ke.out] at ho; have Jm := Cmp.A (ho); replace D3 := Cmp.A (blk_grown (g := Dh) (o := .cells #[.slice (some E4) l0_0.length c0_0] 73 (0, 0)) (Cmp.bw D3.out) hg (Kd.R_ne D0.out D3.out (by decide))); replace D5 := Cmp.A (blk_grown (g := Do) (o := .cells #[.slice (some Dn) l1_0.length c1_0] 73 (0, 0)) (Cmp.bw D5.out) hg (Kd.R_ne D0.out D5.out (by decide))); replace D7 := Cmp.A (blk_grown (g := Dp) (o := .cells #[.slice none 0 0] 73 (0, 0)) (Cmp.bw D7.out) hg (Kd.R_ne D0.out D7.out (by decide))); replace D6 := Cmp.A (blk_grown (g := Di) (o := .cells #[Df] 73 (0, 0)) (Cmp.bw D6.out) hg (Kd.R_ne D0.out D6.out (by decide))); replace Da := Cmp.A (blk_grown (g := D4) (o := .cells #[.int .i64 ((rd_T116 l0_0 D1).f0), .int .i64 ((rd_T116 l0_0 D1).f1), .int .i64 ((rd_T116 l0_0 D1).f2), .bool ((rd_T116 l0_0 D1).f3)] 116 (0, 0)) (Cmp.bw Da.out) hg (Kd.R_away D0.out (fun _ hk => hk.1.2))); replace Dg := Cmp.A (blk_grown (g := Db) (o := .cells #[.int .i64 ((rd_T116 l1_0 D2).f0), .int .i64 ((rd_T116 l1_0 D2).f1), .int .i64 ((rd_T116 l1_0 D2).f2), .bool false] 116 (0, 0)) (Cmp.bw Dg.out) hg (Kd.R_away D0.out (fun _ hk => hk.2))); replace HB := Cmp.A (hb); clear D0; clear ho hb hg hat; obtain ⟨Je, Jr, Km⟩ := Kd.R_slice Jm.out; subst Km; have M3 := Cmp.c0 D6; have P0 := blk_frozen D6.out 0))
                       go_roundg kj67
                       case measure => have := HJ2.out; have := HK2.out; have := HJ34.out; have := HJ48.out; have := HJ67.out; omega
                       case rel => exact ⟨(wrap64 (D1 + 1)), (wrap64 (D2 + 1)), (J8), (.slice Je J8.length Jr), (by first | rfl | simp | simp [*]), (by first | rfl | simp | simp [*]), H', ⟨by have := HJ2.out; have := HK2.out; have := HJ34.out; have := HJ48.out; have := HJ67.out; omega⟩, ⟨Cmp.rm (Kd.R_far (p := ⟨Di, 0, none⟩) (Kd.R_types Jm.out D6.out (by decide)) (fun _ hk => hk.2) (.slice Je J8.length Jr)) (fun _ hk => trivial)⟩, ⟨Cmp.bw D3.out⟩, ⟨Cmp.bw D5.out⟩, ⟨Cmp.bw D7.out⟩, ⟨Cmp.bw D6.out⟩, ⟨Cmp.g HB.out⟩⟩
                      ·rw [if_neg c148] at H; exact absurd H (by simp)
                    ·rw [if_neg c118] at H; have c118b0 : (((rd_T116 l1_0 D2).f2) == ((rd_T116 l0_0 D1).f2)) = false := beq_eq_false_iff_ne.mpr c118; have c118b1 : (((rd_T116 l1_0 D2).f2) != ((rd_T116 l0_0 D1).f2)) = true := bne_iff_ne.mpr c118
                     by_cases c175 : D8.length < 4398046511104
                     ·rw [if_pos c175] at H; have LMc175 := Cmp.A c175; clear c175
                      obtain ⟨J9, hy341⟩ : ∃ y_ : List (S116), y_ = (D8 ++ [(⟨(rd_T116 l0_0 D1).f0, (rd_T116 l0_0 D1).f1, (rd_T116 l0_0 D1).f2, (rd_T116 l0_0 D1).f3⟩ : S116)]) := ⟨_, rfl⟩
                      replace H : (impl_MergeBundles.l0 kj67 (wrap64 (D1 + 1)) (wrap64 (D2 + 1)) l0_0 l1_0 J9) = some (r1, r2) := Cmp.hy hy341 H
                      have Kf := Cmp.A hy341; clear hy341
                      have H' := Cmp.A H
                      clear H; have Qv := Du.out; have So := Dv.out; have Qw := Dq.out; have Sp := Ds.out; have Qx := Dr.out; have Sq := Dt.out
                      have M4 : wc.cell? ⟨Dh, 0, none⟩ = some (.slice A0_0 l0_0.length c0_0) := (blk_cell D3.out 0).trans rfl
                      have P1 := blk_frozen D3.out 0
                      have p328 : 0 ≤ (D1 : Int) := of_decide_eq_true Cmp.d
                      have q328 : D1 < (l0_0.length : Int) := of_decide_eq_true Cmp.d
                      obtain ⟨E4, e328, E5, E6, E7, E2⟩ := at_T116 Eq.out D1 p328 q328
                      cases e328
                      replace E5 := Cmp.hc HB E5
                      replace E6 := Cmp.hc HB E6
                      replace E7 := Cmp.hc HB E7
                      replace E2 := Cmp.hc HB E2
                      replace p328 := eq_true p328; replace q328 := eq_true q328
                      go_wp2_with (first | ((with_reducible refine gate_dst (N := 9) rfl ?_); (try (refine gate_guard (by rfl) ?_; dsimp only)); refine box_event ?hg (N := 9) ?hd (cs := #[.int .i64 0, .int .i64 0, .int .i64 0, .bool false]) (t := 116) ?hr ?_; (case hd => rfl); (case hg => rfl); (case hr => first | (go_simp; done) | (go_simp; rfl)); intro D4 hg w180 hbox hb; have Da := Cmp.A (hbox); have E3 := Cmp.gw hg HB; have Gs := Cmp.gw hg HB; have E8 := Cmp.nl hg D3; have Eg := Cmp.ng hg D3; have Ea := Cmp.nl hg D5; have Eh := Cmp.ng hg D5; have Ec := Cmp.nl hg D7; have Ei := Cmp.ng hg D7; have Ee := Cmp.nl hg D6; have Ej := Cmp.ng hg D6; replace D0 := Cmp.A (Kd.R_below (Kd.R_elderB (Cmp.rr D0.out) D4 (Nat.le_of_eq hg.symm)) hb); replace D3 := Cmp.be D3 hb; replace D5 := Cmp.be D5 hb; replace D7 := Cmp.be D7 hb; replace D6 := Cmp.be D6 hb; replace HB := Cmp.bs HB hb; clear hb hbox hg; have Qy := Eg.out; have Sr := E8.out; have Qz := Eh.out; have Ss := Ea.out; have R0 := Ei.out; have St := Ec.out; have R1 := Ej.out; have Su := Ee.out; obtain ⟨M5, M6, M7, M8⟩ := Cmp.q4 Da; obtain ⟨P2, P3, P4, P5⟩ := Cmp.f4 Da; have R2 := Dy.out; have Sv := Dz.out; have R3 := Dw.out; have Sw := Dx.out; have M9 := Cmp.c0 D5; have P6 := blk_frozen D5.out 0; have p330 : 0 ≤ (D2 : Int) := of_decide_eq_true Cmp.d; have q330 : D2 < (l1_0.length : Int) := of_decide_eq_true Cmp.d; obtain ⟨Dn, e330, D9, Dd, De, Dc⟩ := at_T116 Fb.out D2 p330 q330; cases e330; have Dj : Dn.block ≠ D4 := Cmp.bn D9 E3; have Dk : Dn.block ≠ D4 := Cmp.bn D9 E3; have Dl : Dn.block ≠ D4 := Cmp.bn D9 E3; have Dm : Dn.block ≠ D4 := Cmp.bn D9 E3; replace D9 := Cmp.hc HB D9; replace Dd := Cmp.hc HB Dd; replace De := Cmp.hc HB De; replace Dc := Cmp.hc HB Dc; replace D9 := Cmp.cf (p := ⟨D4, 0, none⟩) Dj (.int .i64 ((rd_T116 l0_0 D1).f0)) D9; replace Dd := Cmp.cf (p := ⟨D4, 0, none⟩) Dj (.int .i64 ((rd_T116 l0_0 D1).f0)) Dd; replace De := Cmp.cf (p := ⟨D4, 0, none⟩) Dj (.int .i64 ((rd_T116 l0_0 D1).f0)) De; replace Dc := Cmp.cf (p := ⟨D4, 0, none⟩) Dj (.int .i64 ((rd_T116 l0_0 D1).f0)) Dc; replace D9 := Cmp.cf (p := ⟨D4, 1, none⟩) Dk (.int .i64 ((rd_T116 l0_0 D1).f1)) D9; replace Dd := Cmp.cf (p := ⟨D4, 1, none⟩) Dk (.int .i64 ((rd_T116 l0_0 D1).f1)) Dd; replace De := Cmp.cf (p := ⟨D4, 1, none⟩) Dk (.int .i64 ((rd_T116 l0_0 D1).f1)) De; replace Dc := Cmp.cf (p := ⟨D4, 1, none⟩) Dk (.int .i64 ((rd_T116 l0_0 D1).f1)) Dc; replace D9 := Cmp.cf (p := ⟨D4, 2, none⟩) Dl (.int .i64 ((rd_T116 l0_0 D1).f2)) D9; replace Dd := Cmp.cf (p := ⟨D4, 2, none⟩) Dl (.int .i64 ((rd_T116 l0_0 D1).f2)) Dd; replace De := Cmp.cf (p := ⟨D4, 2, none⟩) Dl (.int .i64 ((rd_T116 l0_0 D1).f2)) De; replace Dc := Cmp.cf (p := ⟨D4, 2, none⟩) Dl (.int .i64 ((rd_T116 l0_0 D1).f2)) Dc; replace D9 := Cmp.cf (p := ⟨D4, 3, none⟩) Dm (.bool ((rd_T116 l0_0 D1).f3)) D9; replace Dd := Cmp.cf (p := ⟨D4, 3, none⟩) Dm (.bool ((rd_T116 l0_0 D1).f3)) Dd; replace De := Cmp.cf (p := ⟨D4, 3, none⟩) Dm (.bool ((rd_T116 l0_0 D1).f3)) De; replace Dc := Cmp.cf (p := ⟨D4, 3, none⟩) Dm (.bool ((rd_T116 l0_0 D1).f3)) Dc; clear Dj; clear Dk; clear Dl; clear Dm; replace p330 := eq_true p330; replace q330 := eq_true q330) | ((with_reducible refine gate_dst (N := 10) rfl ?_); (try (refine gate_guard (by rfl) ?_; dsimp only)); refine box_event ?hg (N := 10) ?hd (cs := #[.int .i64 0, .int .i64 0, .int .i64 0, .bool false]) (t := 116) ?hr ?_; (case hd => rfl); (case hg => rfl); (case hr => first | (go_simp; done) | (go_simp; rfl)); intro Db hg w189 hbox hb; have Dg := Cmp.A (hbox); have Gu := Cmp.gw hg HB; have Gt := Cmp.gw hg HB; have E9 := Cmp.A ((by rw [hg]; exact Nat.ne_of_lt (blk_lt (g := Dh) (o := .cells #[.slice (some E4) l0_0.length c0_0] 73 (0, 0)) (Cmp.bw D3.out)) : Dh ≠ Db)); have El := Cmp.A ((by rw [hg]; exact Nat.ne_of_gt (blk_lt (g := Dh) (o := .cells #[.slice (some E4) l0_0.length c0_0] 73 (0, 0)) (Cmp.bw D3.out)) : Db ≠ Dh)); have Eb := Cmp.A ((by rw [hg]; exact Nat.ne_of_lt (blk_lt (g := Do) (o := .cells #[.slice (some Dn) l1_0.length c1_0] 73 (0, 0)) (Cmp.bw D5.out)) : Do ≠ Db)); have Em := Cmp.A ((by rw [hg]; exact Nat.ne_of_gt (blk_lt (g := Do) (o := .cells #[.slice (some Dn) l1_0.length c1_0] 73 (0, 0)) (Cmp.bw D5.out)) : Db ≠ Do)); have Ed := Cmp.A ((by rw [hg]; exact Nat.ne_of_lt (blk_lt (g := Dp) (o := .cells #[.slice none 0 0] 73 (0, 0)) (Cmp.bw D7.out)) : Dp ≠ Db)); have En := Cmp.A ((by rw [hg]; exact Nat.ne_of_gt (blk_lt (g := Dp) (o := .cells #[.slice none 0 0] 73 (0, 0)) (Cmp.bw D7.out)) : Db ≠ Dp)); have Ef := Cmp.A ((by rw [hg]; exact Nat.ne_of_lt (blk_lt (g := Di) (o := .cells #[Df] 73 (0, 0)) (Cmp.bw D6.out)) : Di ≠ Db)); have Eo := Cmp.A ((by rw [hg]; exact Nat.ne_of_gt (blk_lt (g := Di) (o := .cells #[Df] 73 (0, 0)) (Cmp.bw D6.out)) : Db ≠ Di)); have Ek := Cmp.A ((by rw [hg]; exact Nat.ne_of_lt (blk_lt (g := D4) (o := .cells #[.int .i64 ((rd_T116 l0_0 D1).f0), .int .i64 ((rd_T116 l0_0 D1).f1), .int .i64 ((rd_T116 l0_0 D1).f2), .bool ((rd_T116 l0_0 D1).f3)] 116 (0, 0)) (Cmp.bw Da.out)) : D4 ≠ Db)); have Ep := Cmp.A ((by rw [hg]; exact Nat.ne_of_gt (blk_lt (g := D4) (o := .cells #[.int .i64 ((rd_T116 l0_0 D1).f0), .int .i64 ((rd_T116 l0_0 D1).f1), .int .i64 ((rd_T116 l0_0 D1).f2), .bool ((rd_T116 l0_0 D1).f3)] 116 (0, 0)) (Cmp.bw Da.out)) : Db ≠ D4)); replace D0 := Cmp.A (Kd.R_below (Kd.R_elderB (Cmp.rm (Kd.R_far (p := ⟨D4, 3, none⟩) (Kd.R_far (p := ⟨D4, 2, none⟩) (Kd.R_far (p := ⟨D4, 1, none⟩) (Kd.R_far (p := ⟨D4, 0, none⟩) (Kd.R_mono D0.out (fun k_ hk => (⟨hk, hk.2⟩ : _ ∧ k_ ≠ D4))) (fun _ hk => hk.2) (.int .i64 ((rd_T116 l0_0 D1).f0))) (fun _ hk => hk.2) (.int .i64 ((rd_T116 l0_0 D1).f1))) (fun _ hk => hk.2) (.int .i64 ((rd_T116 l0_0 D1).f2))) (fun _ hk => hk.2) (.bool ((rd_T116 l0_0 D1).f3))) (fun _ h_ => h_.1)) Db (Nat.le_of_eq hg.symm)) hb); replace D3 := Cmp.A (blk_below (g := Dh) (o := .cells #[.slice (some E4) l0_0.length c0_0] 73 (0, 0)) (Cmp.bw D3.out) hb); replace D5 := Cmp.A (blk_below (g := Do) (o := .cells #[.slice (some Dn) l1_0.length c1_0] 73 (0, 0)) (Cmp.bw D5.out) hb); replace D7 := Cmp.A (blk_below (g := Dp) (o := .cells #[.slice none 0 0] 73 (0, 0)) (Cmp.bw D7.out) hb); replace D6 := Cmp.A (blk_below (g := Di) (o := .cells #[Df] 73 (0, 0)) (Cmp.bw D6.out) hb); replace Da := Cmp.A (blk_below (g := D4) (o := .cells #[.int .i64 ((rd_T116 l0_0 D1).f0), .int .i64 ((rd_T116 l0_0 D1).f1), .int .i64 ((rd_T116 l0_0 D1).f2), .bool ((rd_T116 l0_0 D1).f3)] 116 (0, 0)) (Cmp.bw Da.out) hb); replace HB := Cmp.bs HB hb; clear hb hbox hg; have R4 := El.out; have Sx := E9.out; have R5 := Em.out; have Sy := Eb.out; have R6 := En.out; have Sz := Ed.out; have R7 := Eo.out; have U0 := Ef.out; have R8 := Ep.out; have U1 := Ek.out; obtain ⟨Ma, Mb, Mc, Md⟩ := Cmp.q4 Dg; obtain ⟨P7, P8, P9, Pa⟩ := Cmp.f4 Dg; obtain ⟨Me, Mf, Mg, Mh⟩ := Cmp.q4 Da; obtain ⟨Pb, Pc, Pd, Pe⟩ := Cmp.f4 Da; have R9 := E1.out; have U2 := E0.out; have Mi := Cmp.c0 D6; have Pf := blk_frozen D6.out 0) | ((with_reducible refine gate_builtin (b := .append) (xs := #[.tmp 62, .tmp 64]) rfl ?_); (try (refine gate_guard (by rfl) ?_; dsimp only)); at_builtin; refine Kd.R_append k116 (w0 := w) w.heap.size rfl (.tmp 62) (.tmp 64) 71 116 (.agg #[(.int .i64 0), (.int .i64 0), (.int .i64 0), (.bool false)]) 32 rfl Try.underlying71 info116 rfl (by decide) (by omega) Df D8 (⟨(rd_T116 l0_0 D1).f0, (rd_T116 l0_0 D1).f1, (rd_T116 l0_0 D1).f2, (rd_T116 l0_0 D1).f3⟩ : S116) [.int .i64 ((rd_T116 l0_0 D1).f0), .int .i64 ((rd_T116 l0_0 D1).f1), .int .i64 ((rd_T116 l0_0 D1).f2), .bool ((rd_T116 l0_0 D1).f3)] (fun k_ => k_ ≠ D4 ∧ k_ ≠ Db) (fun _ => False) rfl (by first | (go_simp; done) | (go_simp; rfl)) ?aP (fun _ hk => hk.elim) ?aF ?aO ?aB ?aS ?aL ?_; (case aP => exact k116_mkM _ _ _ (⟨(rd_T116 l0_0 D1).f0, (rd_T116 l0_0 D1).f1, (rd_T116 l0_0 D1).f2, (rd_T116 l0_0 D1).f3⟩ : S116)); (case aB => exact (Cmp.g HB.out)); (case aF => exact (fun k_ hk => ⟨Kd.freshB (g := D4) (o := .cells #[.int .i64 ((rd_T116 l0_0 D1).f0), .int .i64 ((rd_T116 l0_0 D1).f1), .int .i64 ((rd_T116 l0_0 D1).f2), .bool ((rd_T116 l0_0 D1).f3)] 116 (0, 0)) (Cmp.bw Da.out) k_ hk, Kd.freshB (g := Db) (o := .cells #[.int .i64 ((rd_T116 l1_0 D2).f0), .int .i64 ((rd_T116 l1_0 D2).f1), .int .i64 ((rd_T116 l1_0 D2).f2), .bool ((rd_T116 l1_0 D2).f3)] 116 (0, 0)) (Cmp.bw Dg.out) k_ hk⟩)); (case aO => exact (Cmp.rm (Kd.R_far (p := ⟨Db, 3, none⟩) (Kd.R_far (p := ⟨Db, 2, none⟩) (Kd.R_far (p := ⟨Db, 1, none⟩) (Kd.R_far (p := ⟨Db, 0, none⟩) (Kd.R_mono D0.out (fun k_ hk => (⟨hk, hk.2⟩ : _ ∧ k_ ≠ Db))) (fun _ hk => hk.2) (.int .i64 ((rd_T116 l1_0 D2).f0))) (fun _ hk => hk.2) (.int .i64 ((rd_T116 l1_0 D2).f1))) (fun _ hk => hk.2) (.int .i64 ((rd_T116 l1_0 D2).f2))) (fun _ hk => hk.2) (.bool ((rd_T116 l1_0 D2).f3))) (fun _ hk => ⟨hk.1.1.2, hk.1.2⟩))); (case aS => exact (below_size (Cmp.g HB.out))); (case aL => have := LMc175.out; omega); intro v342 w199 ho hb hg hat; rw [← Kf.out] at ho; have Jn := Cmp.A (ho); replace D3 := Cmp.A (blk_grown (g := Dh) (o := .cells #[.slice (some E4) l0_0.length c0_0] 73 (0, 0)) (Cmp.bw D3.out) hg (Kd.R_ne D0.out D3.out (by decide))); replace D5 := Cmp.A (blk_grown (g := Do) (o := .cells #[.slice (some Dn) l1_0.length c1_0] 73 (0, 0)) (Cmp.bw D5.out) hg (Kd.R_ne D0.out D5.out (by decide))); replace D7 := Cmp.A (blk_grown (g := Dp) (o := .cells #[.slice none 0 0] 73 (0, 0)) (Cmp.bw D7.out) hg (Kd.R_ne D0.out D7.out (by decide))); replace D6 := Cmp.A (blk_grown (g := Di) (o := .cells #[Df] 73 (0, 0)) (Cmp.bw D6.out) hg (Kd.R_ne D0.out D6.out (by decide))); replace Da := Cmp.A (blk_grown (g := D4) (o := .cells #[.int .i64 ((rd_T116 l0_0 D1).f0), .int .i64 ((rd_T116 l0_0 D1).f1), .int .i64 ((rd_T116 l0_0 D1).f2), .bool ((rd_T116 l0_0 D1).f3)] 116 (0, 0)) (Cmp.bw Da.out) hg (Kd.R_away D0.out (fun _ hk => hk.1.2))); replace Dg := Cmp.A (blk_grown (g := Db) (o := .cells #[.int .i64 ((rd_T116 l1_0 D2).f0), .int .i64 ((rd_T116 l1_0 D2).f1), .int .i64 ((rd_T116 l1_0 D2).f2), .bool ((rd_T116 l1_0 D2).f3)] 116 (0, 0)) (Cmp.bw Dg.out) hg (Kd.R_away D0.out (fun _ hk => hk.2))); replace HB := Cmp.A (hb); clear D0; clear ho hb hg hat; obtain ⟨Jf, Js, Kn⟩ := Kd.R_slice Jn.out; subst Kn; have Mj := Cmp.c0 D6; have Pg := blk_frozen D6.out 0))
                      go_roundg kj67
                      case measure => have := HJ2.out; have := HK2.out; have := HJ34.out; have := HJ48.out; have := HJ67.out; omega
                      case rel => exact ⟨(wrap64 (D1 + 1)), (wrap64 (D2 + 1)), (J9), (.slice Jf J9.length Js), (by first | rfl | simp | simp [*]), (by first | rfl | simp | simp [*]), H', ⟨by have := HJ2.out; have := HK2.out; have := HJ34.out; have := HJ48.out; have := HJ67.out; omega⟩, ⟨Cmp.rm (Kd.R_far (p := ⟨Di, 0, none⟩) (Kd.R_types Jn.out D6.out (by decide)) (fun _ hk => hk.2) (.slice Jf J9.length Js)) (fun _ hk => trivial)⟩, ⟨Cmp.bw D3.out⟩, ⟨Cmp.bw D5.out⟩, ⟨Cmp.bw D7.out⟩, ⟨Cmp.bw D6.out⟩, ⟨Cmp.g HB.out⟩⟩
                     ·rw [if_neg c175] at H; exact absurd H (by simp)
                  ·rw [if_neg c89] at H; exact absurd H (by simp)
                 ·rw [if_neg c88] at H; exact absurd H (by simp)
                ·rw [if_neg c87] at H; exact absurd H (by simp)
               ·rw [if_neg c86] at H; exact absurd H (by simp)
        ·replace c48 := Bool.eq_false_iff.mpr c48
         subst c48
         have H1 : ((impl_IsBundle.f kj34 D8).bind fun Jz => (if Jz = true then (some (D8, true)) else ((impl_copyBundle.f l0_0).bind fun G3 => (some (G3, false))))) = some (r1, r2) := by rw [if_neg (show ¬ (false = true) by decide)] at H; exact H
         clear H; have H := H1; clear H1; replace H := Option.bind_eq_some_iff.mp H; obtain ⟨Jz, Ja, H⟩ := H; (try dsimp only at H); have K1 := Cmp.A Ja; clear Ja
         by_cases c203 : Jz = true
         ·subst c203; rw [if_pos rfl] at H
          simp only [Option.some.injEq, Prod.mk.injEq] at H
          obtain ⟨rfl, rfl⟩ := H; have Ra := Dt.out; have U3 := Dr.out; have Rb := Dx.out; have U4 := Dw.out; have Rc := E1.out; have U5 := E0.out
          have Mk : wc.cell? ⟨Di, 0, none⟩ = some (Df) := (blk_cell D6.out 0).trans rfl
          have Ph := blk_frozen D6.out 0
          obtain ⟨Gr, Gv, Ko⟩ := Kd.R_slice D0.out
          subst Ko
          go_wp2_with (first | ((with_reducible refine gate_callee (f := 40) rfl ?_); refine goesL_ (some 141) rfl rfl Try.func40 (by kernel_rfl) rfl #[.agg #[.slice Gr D8.length Gv]] rfl Cmp.q ?_; (with_reducible refine (impl_IsBundle.calls kj34 _ _ D8 true _ ?side1 ?side2 K1.out).mono ?_); (case side1 => exact Cmp.rc (Kd.R_reads' D0.out).2.2); (case side2 => exact (Kd.R_reads' D0.out).2.1); rintro e w209 ⟨rfl, hb⟩; refine ⟨_, rfl, ?_⟩; replace D0 := Cmp.A (Kd.R_below (Cmp.rr D0.out) hb); replace D3 := Cmp.be D3 hb; replace D5 := Cmp.be D5 hb; replace D7 := Cmp.be D7 hb; replace D6 := Cmp.be D6 hb; replace HB := Cmp.bs HB hb; (try clear hb); (try clear hb2); (try clear hk); (try clear hi); have Ml := Cmp.c0 D6; have Pi := blk_frozen D6.out 0; have Rd := Ds.out; have U6 := Dq.out; have Re := Dz.out; have U7 := Dy.out; have Mm := Cmp.c0 D7; have Pj := blk_frozen D7.out 0))
          refine bodyPost_ret (results_ct rfl _ _ Dp 73 #[.slice Gr D8.length Gv] (0, 0) _ rfl (Cmp.bw D7.out) Try.underlying73 rfl (by kernel_rfl)) rfl ?_
          exact ⟨_, by first | rfl | (simp [errW_none, errW_some] <;> rfl) | (simp [*, errW_none, errW_some] <;> rfl), by (with_reducible repeat (first | apply Kd.R_alloc | apply Kd.R_drewN | apply Kd.R_drew)); exact Kd.R_mono (Kd.R_far (p := ⟨Dp, 0, none⟩) (Kd.R_types D0.out D7.out (by decide)) (fun _ hk => hk.2) (.slice Gr D8.length Gv)) (fun _ hk => trivial), Cmp.g HB.out⟩
         ·replace c203 := Bool.eq_false_iff.mpr c203
          subst c203
          have H1 : ((impl_copyBundle.f l0_0).bind fun G3 => (some (G3, false))) = some (r1, r2) := by rw [if_neg (show ¬ (false = true) by decide)] at H; exact H
          clear H; have H := H1; clear H1; replace H := Option.bind_eq_some_iff.mp H; obtain ⟨G3, Jb, H⟩ := H; (try dsimp only at H); have Pq := Cmp.A Jb; clear Jb
          simp only [Option.some.injEq, Prod.mk.injEq] at H
          obtain ⟨rfl, rfl⟩ := H; have Rf := Dt.out; have U8 := Dr.out; have Rg := Dx.out; have U9 := Dw.out; have Rh := E1.out; have Ua := E0.out
          have Mn : wc.cell? ⟨Di, 0, none⟩ = some (Df) := (blk_cell D6.out 0).trans rfl
          have Pk := blk_frozen D6.out 0
          obtain ⟨K5, Kg, Kp⟩ := Kd.R_slice D0.out
          subst Kp
          go_wp2_with (first | ((with_reducible refine gate_callee (f := 40) rfl ?_); refine goesL_ (some 141) rfl rfl Try.func40 (by kernel_rfl) rfl #[.agg #[.slice K5 D8.length Kg]] rfl Cmp.q ?_; (with_reducible refine (impl_IsBundle.calls kj34 _ _ D8 false _ ?side1 ?side2 K1.out).mono ?_); (case side1 => exact Cmp.rc (Kd.R_reads' D0.out).2.2); (case side2 => exact (Kd.R_reads' D0.out).2.1); rintro e w220 ⟨rfl, hb⟩; refine ⟨_, rfl, ?_⟩; replace D0 := Cmp.A (Kd.R_below (Cmp.rr D0.out) hb); replace D3 := Cmp.be D3 hb; replace D5 := Cmp.be D5 hb; replace D7 := Cmp.be D7 hb; replace D6 := Cmp.be D6 hb; replace HB := Cmp.bs HB hb; (try clear hb); (try clear hb2); (try clear hk); (try clear hi); have Ri := Du.out; have Ub := Dv.out; have Rj := Dq.out; have Uc := Ds.out; have Mo := Cmp.c0 D3; have Pl := blk_frozen D3.out 0) | ((with_reducible refine gate_callee (f := 66) rfl ?_); refine goesL_ (some 144) rfl rfl Try.func66 (by kernel_rfl) rfl #[.agg #[.slice A0_0 l0_0.length c0_0]] rfl Cmp.q ?_; (with_reducible refine (impl_copyBundle.calls _ _ l0_0 G3 _ ?side1 ?side2 Pq.out).mono ?_); (case side1 => exact Cmp.rc (Kd.C_below Eq.out HB.out)); (case side2 => exact HC0_0.out); rintro e w224 ⟨v346, rfl, K0, hb⟩; refine ⟨_, rfl, ?_⟩; have Jo := Cmp.A (Kd.R_lower (Kd.R_new' K0 (Kd.R_lt (Cmp.rr D0.out))) (below_size (Cmp.g HB.out))); replace D0 := Cmp.A (Kd.R_elder' (Cmp.rr D0.out) (Kd.R_base K0) hb); replace D3 := Cmp.be D3 hb; replace D5 := Cmp.be D5 hb; replace D7 := Cmp.be D7 hb; replace D6 := Cmp.be D6 hb; replace HB := Cmp.bs HB hb; (try clear hb); (try clear hb2); (try clear hk); (try clear hi); (try clear K0); obtain ⟨Jg, Jt, Kq⟩ := Kd.R_slice Jo.out; subst Kq; have Rk := Dz.out; have Ud := Dy.out; have Mp := Cmp.c0 D7; have Pm := blk_frozen D7.out 0))
          refine bodyPost_ret (results_ct rfl _ _ Dp 73 #[.slice Jg G3.length Jt] (0, 0) _ rfl (Cmp.bw D7.out) Try.underlying73 rfl (by kernel_rfl)) rfl ?_
          exact ⟨_, by first | rfl | (simp [errW_none, errW_some] <;> rfl) | (simp [*, errW_none, errW_some] <;> rfl), by (with_reducible repeat (first | apply Kd.R_alloc | apply Kd.R_drewN | apply Kd.R_drew)); exact Kd.R_mono (Kd.R_far (p := ⟨Dp, 0, none⟩) (Kd.R_types Jo.out D7.out (by decide)) (fun _ hk => hk.2) (.slice Jg G3.length Jt)) (fun _ hk => trivial), Cmp.g HB.out⟩
end Go.Proofs.Ytjdkkfbcpbjpkaa.PFnBundles

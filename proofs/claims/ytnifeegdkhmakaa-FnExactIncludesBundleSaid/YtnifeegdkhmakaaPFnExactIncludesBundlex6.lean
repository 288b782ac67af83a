/- Printed functions of the program, out of print.sh, told more shortly. No condition. -/
import Derived.Test.YtnifeegdkhmakaaCmp
import Derived.Test.YtnifeegdkhmakaaPFnExactIncludesBundlex0
import Derived.Test.YtnifeegdkhmakaaPFnExactIncludesBundlex3
import Derived.Test.YtnifeegdkhmakaaPFnExactIncludesBundlex5
namespace Go.Proofs.Ytnifeegdkhmakaa.PFnExactIncludesBundle
open Go.Proofs.Ytnifeegdkhmakaa
open Go.RowKit Go.Proofs.YtnifeegdkhmakaaW.PrintWords Go.Proofs.YtnifeegdkhmakaaW.PrintLast Go.Proofs.YtnifeegdkhmakaaW.PrintMore
attribute [local go_sem] max2_int min2_int max_two min_two max_three min_three max_four min_four   -- for this text's walks alone
set_option linter.unusedVariables false
set_option linter.unusedSimpArgs false

/-! ### spec_l17Set: function 43 -/
def spec_l17Set.l0 : Nat → Int → List (S64) → Int → Int → Int → Bool → Option ((List (S64)))
  | 0, _, _, _, _, _, _ => none
  | k + 1, x7, x150000, x151000, x151001, x151002, x151003 => if x7 < (x150000.length : Int) then (if 0 ≤ x7 then ((spec_l17Less.f ((rd_T64 x150000 x7).f0) ((rd_T64 x150000 x7).f1) ((rd_T64 x150000 x7).f2) ((rd_T64 x150000 x7).f3) x151000 x151001).bind fun t159 => (if t159 = true then (spec_l17Set.l0 k (wrap64 (x7 + 1)) x150000 x151000 x151001 x151002 x151003) else ((some (([] : List (S64)) : List (S64))).bind fun y160 => (if x7 ≤ (x150000.length : Int) then ((some (x150000.take (x7 : Int).toNat : List (S64))).bind fun y163 => (if y160.length + y163.length < 4398046511104 then ((some (y160 ++ y163 : List (S64))).bind fun y167 => ((some (([(⟨x151000, x151001, x151002, x151003⟩ : S64)] : List (S64)) : List (S64))).bind fun y170 => (if y167.length + y170.length < 4398046511104 then ((some (y167 ++ y170 : List (S64))).bind fun y173 => ((some (x150000.drop (x7 : Int).toNat : List (S64))).bind fun y176 => (if y173.length + y176.length < 4398046511104 then (some (y173 ++ y176)) else (none)))) else (none)))) else (none))) else (none))))) else (none)) else ((some (([] : List (S64)) : List (S64))).bind fun y183 => (if 0 ≤ x7 then (if x7 ≤ (x150000.length : Int) then ((some (x150000.take (x7 : Int).toNat : List (S64))).bind fun y186 => (if y183.length + y186.length < 4398046511104 then ((some (y183 ++ y186 : List (S64))).bind fun y190 => ((some (([(⟨x151000, x151001, x151002, x151003⟩ : S64)] : List (S64)) : List (S64))).bind fun y193 => (if y190.length + y193.length < 4398046511104 then ((some (y190 ++ y193 : List (S64))).bind fun y196 => ((some (x150000.drop (x7 : Int).toNat : List (S64))).bind fun y199 => (if y196.length + y199.length < 4398046511104 then (some (y196 ++ y199)) else (none)))) else (none)))) else (none))) else (none)) else (none)))
def spec_l17Set.f (k : Nat) (l0_0 : List (S64)) (a1_0 : Int) (a1_1 : Int) (a1_2 : Int) (a1_3 : Bool) : Option ((List (S64))) := (spec_l17Copy.f l0_0).bind fun t152 => ((spec_FindEntry.f k l0_0 a1_0 a1_1).bind fun t156 => (if t156 ≥ 0 then (if 0 ≤ t156 then (if t156 < (t152.length : Int) then (some (t152.set (t156 : Int).toNat (⟨a1_0, a1_1, a1_2, a1_3⟩ : S64))) else (none)) else (none)) else (spec_l17Set.l0 k 0 l0_0 a1_0 a1_1 a1_2 a1_3)))
theorem spec_l17Set.mono_l : ∀ k, (∀ y0 y1 y2 y3 y4 y5, LeO (spec_l17Set.l0 k y0 y1 y2 y3 y4 y5) (spec_l17Set.l0 (k + 1) y0 y1 y2 y3 y4 y5))
  | 0 => fun _ _ _ _ _ _ r h => by simp [spec_l17Set.l0] at h
  | k + 1 => by
    have ih0 := spec_l17Set.mono_l k
    · intro y0 y1 y2 y3 y4 y5
      unfold spec_l17Set.l0
      repeat' first
      | (with_reducible exact ih0 _ _ _ _ _ _)
      | (with_reducible exact spec_FindEntry.mono _ _ _ _)
      | (with_reducible exact LeO.refl _)
      | (with_reducible exact LeO.none _)
      | (with_reducible refine LeO.ite ?_ ?_)
      | (with_reducible refine LeO.bind ?_ (fun _ => ?_))
      | exact ih0 _ _ _ _ _ _
      | exact spec_FindEntry.mono _ _ _ _
      | exact LeO.none _
      | refine LeO.ite ?_ ?_
      | refine LeO.bind ?_ (fun _ => ?_)
theorem spec_l17Set.mono : ∀ a0 a1 a2 a3 a4 k, LeO (spec_l17Set.f k a0 a1 a2 a3 a4) (spec_l17Set.f (k + 1) a0 a1 a2 a3 a4) := by
  intro a0 a1 a2 a3 a4 k
  have ih0 := spec_l17Set.mono_l k
  unfold spec_l17Set.f
  repeat' first
      | (with_reducible exact ih0 _ _ _ _ _ _)
      | (with_reducible exact spec_FindEntry.mono _ _ _ _)
      | (with_reducible exact LeO.refl _)
      | (with_reducible exact LeO.none _)
      | (with_reducible refine LeO.ite ?_ ?_)
      | (with_reducible refine LeO.bind ?_ (fun _ => ?_))
      | exact ih0 _ _ _ _ _ _
      | exact spec_FindEntry.mono _ _ _ _
      | exact LeO.none _
      | refine LeO.ite ?_ ?_
      | refine LeO.bind ?_ (fun _ => ?_)
def spec_l17Set.T7 : Bool × List (List Nat × List Nat) := (true, [([], []), ([], []), ([1], [1]), ([2], [2]), ([0, 3], [0, 3]), ([4], [4]), ([5], [5]), ([6, 5], [5, 6]), ([5], [5]), ([7, 8, 5], [5, 7, 8]), ([9, 5], [5, 9]), ([5], [5]), ([11, 5], [5, 11]), ([5], [5]), ([13, 5], [5, 13]), ([10, 12, 14, 5, 5], [5, 10, 12, 14]), ([5, 15], [5, 15])])
def spec_l17Set.B7 : List Nat := [0, 0, 2, 6, 15, 31, 63, 127, 63, 511, 1023, 63, 2111, 63, 8255, 32767, 65535]
theorem spec_l17Set.tab7 : rtab .any (opsOf Try.f43 7) = spec_l17Set.T7 := by kernel_rfl
theorem spec_l17Set.bits7 : waitsOk spec_l17Set.T7.2 spec_l17Set.B7 = true := by kernel_rfl
def spec_l17Set.T9 : Bool × List (List Nat × List Nat) := (true, [([], []), ([], []), ([1], [1]), ([], []), ([2, 3], [2, 3]), ([0, 4], [0, 4]), ([], []), ([6], [6]), ([5, 7, 5], [5, 7]), ([], []), ([9], [9]), ([], []), ([10, 11], [10, 11]), ([8, 12, 8], [8, 12]), ([0, 1, 2, 3, 4, 5, 6, 7, 8, 9, 10, 11, 12, 13], []), ([14, 13, 13, 0, 1, 2, 3, 4, 5, 6, 7, 8, 9, 10, 11, 12, 13], [13, 14])])
def spec_l17Set.B9 : List Nat := [0, 0, 2, 0, 14, 31, 0, 64, 255, 0, 512, 0, 3584, 8191, 16383, 32767]
theorem spec_l17Set.tab9 : rtab .any (opsOf Try.f43 9) = spec_l17Set.T9 := by kernel_rfl
theorem spec_l17Set.bits9 : waitsOk spec_l17Set.T9.2 spec_l17Set.B9 = true := by kernel_rfl
set_option maxHeartbeats 8000000 in
set_option maxRecDepth 100000 in
theorem spec_l17Set.calls (k : Nat) (A0_0 : Option Addr) (c0_0 : Nat) (l0_0 : List (S64)) (a1_0 : Int) (a1_1 : Int) (a1_2 : Int) (a1_3 : Bool) (r : List (S64)) (w : World) (hr0_0 : Kd.C k64 w A0_0 l0_0.length l0_0) (hc0_0 : l0_0.length ≤ c0_0) (h : spec_l17Set.f k l0_0 a1_0 a1_1 a1_2 a1_3 = some r) :
    Calls Try.prog 43 #[.agg #[.slice A0_0 l0_0.length c0_0], .agg #[.int .i64 a1_0, .int .i64 a1_1, .int .i64 a1_2, .bool a1_3]] w fun e w' => ∃ v0_ : Value, e = .returned (.agg #[v0_]) ∧ Kd.R k64 64 w' w.heap.size (fun _ => True) v0_ r ∧ Below w.heap.size w w' := by
 have hu39 := Try.underlying39; have hu64 := Try.underlying64; have HR0_0 := Aside0.mk hr0_0; have HC0_0 := Aside0.mk hc0_0; clear hr0_0 hc0_0
 have HB := Aside0.mk (Below.refl w.heap.size w)
 have H : ((spec_l17Copy.f l0_0).bind fun t152 => ((spec_FindEntry.f k l0_0 a1_0 a1_1).bind fun t156 => (if t156 ≥ 0 then (if 0 ≤ t156 then (if t156 < (t152.length : Int) then (some (t152.set (t156 : Int).toNat (⟨a1_0, a1_1, a1_2, a1_3⟩ : S64))) else (none)) else (none)) else (spec_l17Set.l0 k 0 l0_0 a1_0 a1_1 a1_2 a1_3)))) = some r := h
 clear h; replace H := Option.bind_eq_some_iff.mp H; obtain ⟨t152, A30, H⟩ := H; (try dsimp only at H); have A3 := Aside0.mk A30; clear A30; replace H := Option.bind_eq_some_iff.mp H; obtain ⟨t156, A40, H⟩ := H; (try dsimp only at H); have A4 := Aside0.mk A40; clear A40
 by_cases c5 : t156 ≥ 0
 ·rw [if_pos c5] at H; have c5b0 : decide (0 ≤ t156) = true := decide_eq_true c5; clear c5
  by_cases c6 : 0 ≤ t156
  ·rw [if_pos c6] at H; have c6b0 : decide (0 ≤ t156) = true := decide_eq_true c6; clear c6
   by_cases c7 : t156 < (t152.length : Int)
   ·rw [if_pos c7] at H
    have c7b0 : decide (t156 < (t152.length : Int)) = true := decide_eq_true c7
    clear c7
    obtain ⟨y157, hy157⟩ : ∃ y_ : List (S64), y_ = (t152.set (t156 : Int).toNat (⟨a1_0, a1_1, a1_2, a1_3⟩ : S64)) := ⟨_, rfl⟩
    replace H : (some y157) = some r := by first | (rw [hy157]; with_reducible exact H) | (have H2_ := (Option.bind_some _ _).symm.trans H; rw [hy157]; with_reducible exact H2_) | (have H2_ := (Option.bind_some _ _).symm.trans H; with_reducible exact H2_) | with_reducible exact H | (rw [hy157]; exact H) | exact H
    have Ny157 := Aside0.mk hy157; clear hy157
    obtain rfl := Option.some.inj H
    go_enter Try.func43, Try.ntmps43
    go_wp2_with (first | ((with_reducible refine gate_dst (N := 2) rfl ?_); refine box_event ?hg (N := 2) ?hd (cs := #[.slice A0_0 l0_0.length c0_0]) (t := 39) ?hr ?_; (case hd => rfl); (case hg => rfl); (case hr => first | (go_simp; done) | (go_simp; rfl)); intro gb149 hg w9 hbox hb; have n0_ := Aside0.mk (below_step (Cmp.g HB.out) hb); have n1_ := Aside0.mk (hbox); have n2_ := Aside0.mk ((by rw [hg]; exact (below_size (Cmp.g HB.out)) : w.heap.size ≤ gb149)); have n3_ := Aside0.mk ((by rw [hg]; exact (below_size (Cmp.g HB.out)) : w.heap.size ≤ gb149)); clear HB; have HB := n0_; have BK149 := n1_; have GW149 := n2_; have GE149 := n3_; clear n0_ n1_ n2_ n3_; clear hb hbox hg) | ((with_reducible refine gate_dst (N := 3) rfl ?_); refine box_event ?hg (N := 3) ?hd (cs := #[.int .i64 a1_0, .int .i64 a1_1, .int .i64 a1_2, .bool a1_3]) (t := 64) ?hr ?_; (case hd => rfl); (case hg => rfl); (case hr => first | (go_simp; done) | (go_simp; rfl)); intro gb150 hg w10 hbox hb; have n0_ := Aside0.mk (blk_below (g := gb149) (o := .cells #[.slice A0_0 l0_0.length c0_0] 39 (0, 0)) (Cmp.b BK149.out) hb); have n1_ := Aside0.mk (below_step (Cmp.g HB.out) hb); have n2_ := Aside0.mk (hbox); have n3_ := Aside0.mk ((by rw [hg]; exact (below_size (Cmp.g HB.out)) : w.heap.size ≤ gb150)); have n4_ := Aside0.mk ((by rw [hg]; exact (below_size (Cmp.g HB.out)) : w.heap.size ≤ gb150)); have n5_ := Aside0.mk ((by rw [hg]; exact Nat.ne_of_lt (blk_lt (g := gb149) (o := .cells #[.slice A0_0 l0_0.length c0_0] 39 (0, 0)) (Cmp.b BK149.out)) : gb149 ≠ gb150)); have n6_ := Aside0.mk ((by rw [hg]; exact Nat.ne_of_gt (blk_lt (g := gb149) (o := .cells #[.slice A0_0 l0_0.length c0_0] 39 (0, 0)) (Cmp.b BK149.out)) : gb150 ≠ gb149)); clear BK149; clear HB; have BK149 := n0_; have HB := n1_; have BK150 := n2_; have GW150 := n3_; have GE150 := n4_; have NB149_150 := n5_; have NB150_149 := n6_; clear n0_ n1_ n2_ n3_ n4_ n5_ n6_; clear hb hbox hg) | ((with_reducible refine gate_dst (N := 4) rfl ?_); refine box_event ?hg (N := 4) ?hd (cs := #[.slice none 0 0]) (t := 39) ?hr ?_; (case hd => rfl); (case hg => rfl); (case hr => first | (go_simp; done) | (go_simp; rfl)); intro gb151 hg w11 hbox hb; have n0_ := Aside0.mk (blk_below (g := gb149) (o := .cells #[.slice A0_0 l0_0.length c0_0] 39 (0, 0)) (Cmp.b BK149.out) hb); have n1_ := Aside0.mk (blk_below (g := gb150) (o := .cells #[.int .i64 a1_0, .int .i64 a1_1, .int .i64 a1_2, .bool a1_3] 64 (0, 0)) (Cmp.b BK150.out) hb); have n2_ := Aside0.mk (below_step (Cmp.g HB.out) hb); have n3_ := Aside0.mk (hbox); have n4_ := Aside0.mk ((by rw [hg]; exact (below_size (Cmp.g HB.out)) : w.heap.size ≤ gb151)); have n5_ := Aside0.mk ((by rw [hg]; exact (below_size (Cmp.g HB.out)) : w.heap.size ≤ gb151)); have n6_ := Aside0.mk ((by rw [hg]; exact Nat.ne_of_lt (blk_lt (g := gb149) (o := .cells #[.slice A0_0 l0_0.length c0_0] 39 (0, 0)) (Cmp.b BK149.out)) : gb149 ≠ gb151)); have n7_ := Aside0.mk ((by rw [hg]; exact Nat.ne_of_gt (blk_lt (g := gb149) (o := .cells #[.slice A0_0 l0_0.length c0_0] 39 (0, 0)) (Cmp.b BK149.out)) : gb151 ≠ gb149)); have n8_ := Aside0.mk ((by rw [hg]; exact Nat.ne_of_lt (blk_lt (g := gb150) (o := .cells #[.int .i64 a1_0, .int .i64 a1_1, .int .i64 a1_2, .bool a1_3] 64 (0, 0)) (Cmp.b BK150.out)) : gb150 ≠ gb151)); have n9_ := Aside0.mk ((by rw [hg]; exact Nat.ne_of_gt (blk_lt (g := gb150) (o := .cells #[.int .i64 a1_0, .int .i64 a1_1, .int .i64 a1_2, .bool a1_3] 64 (0, 0)) (Cmp.b BK150.out)) : gb151 ≠ gb150)); clear BK149; clear BK150; clear HB; have BK149 := n0_; have BK150 := n1_; have HB := n2_; have BK151 := n3_; have GW151 := n4_; have GE151 := n5_; have NB149_151 := n6_; have NB151_149 := n7_; have NB150_151 := n8_; have NB151_150 := n9_; clear n0_ n1_ n2_ n3_ n4_ n5_ n6_ n7_ n8_ n9_; clear hb hbox hg; have hnb12 := NB149_150.out; have hnc12 := NB150_149.out; have hnb13 := NB149_151.out; have hnc13 := NB151_149.out; have hcz14_0 : w11.cell? ⟨gb149, 0, none⟩ = some (.slice A0_0 l0_0.length c0_0) := (blk_cell BK149.out 0).trans rfl; have hfz14_0 := blk_frozen BK149.out 0) | ((with_reducible refine gate_callee (f := 42) rfl ?_); refine goesL_ (some 9) rfl rfl Try.func42 (by kernel_rfl) rfl #[.agg #[.slice A0_0 l0_0.length c0_0]] rfl Cmp.q ?_; (with_reducible refine (spec_l17Copy.calls _ _ l0_0 t152 _ ?side1 ?side2 A3.out).mono ?_); (case side1 => exact Cmp.rc (Kd.C_below HR0_0.out HB.out)); (case side2 => exact HC0_0.out); rintro e w15 ⟨v153, rfl, ho0, hb⟩; refine ⟨_, rfl, ?_⟩; have n0_ := Aside0.mk (Kd.R_lower (Kd.R_newB ho0 (g := gb150) (o := .cells #[.int .i64 a1_0, .int .i64 a1_1, .int .i64 a1_2, .bool a1_3] 64 (0, 0)) (Cmp.b BK150.out)) (below_size (Cmp.g HB.out))); have n1_ := Aside0.mk (blk_below (g := gb149) (o := .cells #[.slice A0_0 l0_0.length c0_0] 39 (0, 0)) (Cmp.b BK149.out) hb); have n2_ := Aside0.mk (blk_below (g := gb150) (o := .cells #[.int .i64 a1_0, .int .i64 a1_1, .int .i64 a1_2, .bool a1_3] 64 (0, 0)) (Cmp.b BK150.out) hb); have n3_ := Aside0.mk (blk_below (g := gb151) (o := .cells #[.slice none 0 0] 39 (0, 0)) (Cmp.b BK151.out) hb); have n4_ := Aside0.mk (below_step (Cmp.g HB.out) hb); clear BK149; clear BK150; clear BK151; clear HB; have HO154 := n0_; have BK149 := n1_; have BK150 := n2_; have BK151 := n3_; have HB := n4_; clear n0_ n1_ n2_ n3_ n4_; (try clear hb); (try clear hb2); (try clear hk); (try clear hi); (try clear ho0)) | ((with_reducible refine gate_dst (N := 5) rfl ?_); refine box_event ?hg (N := 5) ?hd (cs := #[.slice none 0 0]) (t := 39) ?hr ?_; (case hd => rfl); (case hg => rfl); (case hr => first | (go_simp; done) | (go_simp; rfl)); intro gb155 hg w16 hbox hb; have n0_ := Aside0.mk (Kd.R_below (Cmp.rr HO154.out) hb); have n1_ := Aside0.mk (blk_below (g := gb149) (o := .cells #[.slice A0_0 l0_0.length c0_0] 39 (0, 0)) (Cmp.b BK149.out) hb); have n2_ := Aside0.mk (blk_below (g := gb150) (o := .cells #[.int .i64 a1_0, .int .i64 a1_1, .int .i64 a1_2, .bool a1_3] 64 (0, 0)) (Cmp.b BK150.out) hb); have n3_ := Aside0.mk (blk_below (g := gb151) (o := .cells #[.slice none 0 0] 39 (0, 0)) (Cmp.b BK151.out) hb); have n4_ := Aside0.mk (below_step (Cmp.g HB.out) hb); have n5_ := Aside0.mk (hbox); have n6_ := Aside0.mk ((by rw [hg]; exact (below_size (Cmp.g HB.out)) : w.heap.size ≤ gb155)); have n7_ := Aside0.mk ((by rw [hg]; exact (below_size (Cmp.g HB.out)) : w.heap.size ≤ gb155)); have n8_ := Aside0.mk ((by rw [hg]; exact Nat.ne_of_lt (blk_lt (g := gb149) (o := .cells #[.slice A0_0 l0_0.length c0_0] 39 (0, 0)) (Cmp.b BK149.out)) : gb149 ≠ gb155)); have n9_ := Aside0.mk ((by rw [hg]; exact Nat.ne_of_gt (blk_lt (g := gb149) (o := .cells #[.slice A0_0 l0_0.length c0_0] 39 (0, 0)) (Cmp.b BK149.out)) : gb155 ≠ gb149)); have n10_ := Aside0.mk ((by rw [hg]; exact Nat.ne_of_lt (blk_lt (g := gb150) (o := .cells #[.int .i64 a1_0, .int .i64 a1_1, .int .i64 a1_2, .bool a1_3] 64 (0, 0)) (Cmp.b BK150.out)) : gb150 ≠ gb155)); have n11_ := Aside0.mk ((by rw [hg]; exact Nat.ne_of_gt (blk_lt (g := gb150) (o := .cells #[.int .i64 a1_0, .int .i64 a1_1, .int .i64 a1_2, .bool a1_3] 64 (0, 0)) (Cmp.b BK150.out)) : gb155 ≠ gb150)); have n12_ := Aside0.mk ((by rw [hg]; exact Nat.ne_of_lt (blk_lt (g := gb151) (o := .cells #[.slice none 0 0] 39 (0, 0)) (Cmp.b BK151.out)) : gb151 ≠ gb155)); have n13_ := Aside0.mk ((by rw [hg]; exact Nat.ne_of_gt (blk_lt (g := gb151) (o := .cells #[.slice none 0 0] 39 (0, 0)) (Cmp.b BK151.out)) : gb155 ≠ gb151)); clear HO154; clear BK149; clear BK150; clear BK151; clear HB; have HO154 := n0_; have BK149 := n1_; have BK150 := n2_; have BK151 := n3_; have HB := n4_; have BK155 := n5_; have GW155 := n6_; have GE155 := n7_; have NB149_155 := n8_; have NB155_149 := n9_; have NB150_155 := n10_; have NB155_150 := n11_; have NB151_155 := n12_; have NB155_151 := n13_; clear n0_ n1_ n2_ n3_ n4_ n5_ n6_ n7_ n8_ n9_ n10_ n11_ n12_ n13_; clear hb hbox hg; obtain ⟨Ao17, co17, eo17⟩ := Kd.R_slice HO154.out; subst eo17; have hnb18 := NB155_149.out; have hnc18 := NB149_155.out; have hnb19 := NB155_150.out; have hnc19 := NB150_155.out; have hnb20 := NB155_151.out; have hnc20 := NB151_155.out; have hcz21_0 : w16.cell? ⟨gb155, 0, none⟩ = some (.slice none 0 0) := (blk_cell BK155.out 0).trans rfl; have hfz21_0 := blk_frozen BK155.out 0; have hcz22_0 : w16.cell? ⟨gb149, 0, none⟩ = some (.slice A0_0 l0_0.length c0_0) := (blk_cell BK149.out 0).trans rfl; have hfz22_0 := blk_frozen BK149.out 0; have hnb23 := NB150_151.out; have hnc23 := NB151_150.out; have hcz24_0 : w16.cell? ⟨gb150, 0, none⟩ = some (.int .i64 a1_0) := (blk_cell BK150.out 0).trans rfl; have hcz24_1 : w16.cell? ⟨gb150, 1, none⟩ = some (.int .i64 a1_1) := (blk_cell BK150.out 1).trans rfl; have hcz24_2 : w16.cell? ⟨gb150, 2, none⟩ = some (.int .i64 a1_2) := (blk_cell BK150.out 2).trans rfl; have hcz24_3 : w16.cell? ⟨gb150, 3, none⟩ = some (.bool a1_3) := (blk_cell BK150.out 3).trans rfl; have hfz24_0 := blk_frozen BK150.out 0; have hfz24_1 := blk_frozen BK150.out 1; have hfz24_2 := blk_frozen BK150.out 2; have hfz24_3 := blk_frozen BK150.out 3) | ((with_reducible refine gate_callee (f := 40) rfl ?_); refine goesL_ (some 15) rfl rfl Try.func40 (by kernel_rfl) rfl #[.agg #[.slice A0_0 l0_0.length c0_0], .int .i64 a1_0, .int .i64 a1_1] rfl Cmp.q ?_; (with_reducible refine (spec_FindEntry.calls k _ _ l0_0 a1_0 a1_1 t156 _ ?side1 ?side2 A4.out).mono ?_); (case side1 => exact Kd.C_below HR0_0.out (Cmp.g HB.out)); (case side2 => exact HC0_0.out); rintro e w25 ⟨rfl, hb⟩; refine ⟨_, rfl, ?_⟩; have n0_ := Aside0.mk (Kd.R_below (by (with_reducible repeat (first | apply Kd.R_alloc | apply Kd.R_drewN | apply Kd.R_drew)); exact (Kd.R_mono (Kd.R_far (p := ⟨gb155, 0, none⟩) (Kd.R_types HO154.out BK155.out (by decide)) (fun _ hk => hk.2) (.slice Ao17 t152.length co17)) (fun _ h_ => h_.1))) hb); have n1_ := Aside0.mk (blk_below (g := gb149) (o := .cells #[.slice A0_0 l0_0.length c0_0] 39 (0, 0)) (by (with_reducible repeat (first | refine blk_drewN ?_ _ | refine blk_drew ?_ | refine blk_alloc ?_ _)); refine blk_far ?_ NB149_155.out _; (with_reducible repeat (first | refine blk_drewN ?_ _ | refine blk_drew ?_ | refine blk_alloc ?_ _)); exact BK149.out) hb); have n2_ := Aside0.mk (blk_below (g := gb150) (o := .cells #[.int .i64 a1_0, .int .i64 a1_1, .int .i64 a1_2, .bool a1_3] 64 (0, 0)) (by (with_reducible repeat (first | refine blk_drewN ?_ _ | refine blk_drew ?_ | refine blk_alloc ?_ _)); refine blk_far ?_ NB150_155.out _; (with_reducible repeat (first | refine blk_drewN ?_ _ | refine blk_drew ?_ | refine blk_alloc ?_ _)); exact BK150.out) hb); have n3_ := Aside0.mk (blk_below (g := gb151) (o := .cells #[.slice none 0 0] 39 (0, 0)) (by (with_reducible repeat (first | refine blk_drewN ?_ _ | refine blk_drew ?_ | refine blk_alloc ?_ _)); refine blk_far ?_ NB151_155.out _; (with_reducible repeat (first | refine blk_drewN ?_ _ | refine blk_drew ?_ | refine blk_alloc ?_ _)); exact BK151.out) hb); have n4_ := Aside0.mk (blk_below (g := gb155) (o := .cells #[.slice Ao17 t152.length co17] 39 (0, 0)) (by (with_reducible repeat (first | refine blk_drewN ?_ _ | refine blk_drew ?_ | refine blk_alloc ?_ _)); refine blk_put (cs := #[.slice none 0 0]) ?_ 0 _ rfl; (with_reducible repeat (first | refine blk_drewN ?_ _ | refine blk_drew ?_ | refine blk_alloc ?_ _)); exact BK155.out) hb); have n5_ := Aside0.mk (below_step (Cmp.g HB.out) hb); clear HO154; clear BK149; clear BK150; clear BK151; clear BK155; clear HB; have HO154 := n0_; have BK149 := n1_; have BK150 := n2_; have BK151 := n3_; have BK155 := n4_; have HB := n5_; clear n0_ n1_ n2_ n3_ n4_ n5_; (try clear hb); (try clear hb2); (try clear hk); (try clear hi); have hcz26_0 : w25.cell? ⟨gb155, 0, none⟩ = some (.slice Ao17 t152.length co17) := (blk_cell BK155.out 0).trans rfl; have hfz26_0 := blk_frozen BK155.out 0; have hcz27_0 : w25.cell? ⟨gb150, 0, none⟩ = some (.int .i64 a1_0) := (blk_cell BK150.out 0).trans rfl; have hcz27_1 : w25.cell? ⟨gb150, 1, none⟩ = some (.int .i64 a1_1) := (blk_cell BK150.out 1).trans rfl; have hcz27_2 : w25.cell? ⟨gb150, 2, none⟩ = some (.int .i64 a1_2) := (blk_cell BK150.out 2).trans rfl; have hcz27_3 : w25.cell? ⟨gb150, 3, none⟩ = some (.bool a1_3) := (blk_cell BK150.out 3).trans rfl; have hfz27_0 := blk_frozen BK150.out 0; have hfz27_1 := blk_frozen BK150.out 1; have hfz27_2 := blk_frozen BK150.out 2; have hfz27_3 := blk_frozen BK150.out 3; have p8 : 0 ≤ (t156 : Int) := of_decide_eq_true Cmp.d; have q8 : (t156 : Int) < ((t152.length : Int) : Int) := of_decide_eq_true Cmp.d; obtain ⟨go8, co8, eo8, gb8, gl8, cl8, HG8⟩ := Kd.R_form HO154.out (by omega); (first | cases eo8 | (injection eo8 with ea_ en_ ec_; (first | subst ea_ | (injection ea_ with ea_; subst ea_)); subst ec_; clear en_)); have GB8 := Aside0.mk gb8; have GG8 := Aside0.mk HG8; clear gb8 gl8 HG8; obtain ⟨ce8, hcl8, hM8, hcc8, hfr8⟩ := Kd.R_elem HO154.out z64 (t156 : Int) p8 q8; obtain rfl := k64_openM hM8; have hx8_0 : w25.cell? ⟨go8, (t156 : Int).toNat * 4, none⟩ = some (.int .i64 ((rd_T64 t152 t156).f0)) := hcc8 0 _ rfl; have hx8_1 : w25.cell? ⟨go8, (t156 : Int).toNat * 4 + 1, none⟩ = some (.int .i64 ((rd_T64 t152 t156).f1)) := hcc8 1 _ rfl; have hx8_2 : w25.cell? ⟨go8, (t156 : Int).toNat * 4 + 2, none⟩ = some (.int .i64 ((rd_T64 t152 t156).f2)) := hcc8 2 _ rfl; have hx8_3 : w25.cell? ⟨go8, (t156 : Int).toNat * 4 + 3, none⟩ = some (.bool ((rd_T64 t152 t156).f3)) := hcc8 3 _ rfl; have hf8_0 : w25.frozen? ⟨go8, (t156 : Int).toNat * 4, none⟩ = false := hfr8 0; have hf8_1 : w25.frozen? ⟨go8, (t156 : Int).toNat * 4 + 1, none⟩ = false := hfr8 1; have hf8_2 : w25.frozen? ⟨go8, (t156 : Int).toNat * 4 + 2, none⟩ = false := hfr8 2; have hf8_3 : w25.frozen? ⟨go8, (t156 : Int).toNat * 4 + 3, none⟩ = false := hfr8 3; clear hcl8 hcc8 hfr8 hM8; replace p8 := eq_true p8; replace q8 := eq_true q8; have n_ := Aside0.mk (Kd.R_mono (ok' := (fun k_ => k_ ≠ gb150)) HO154.out (fun k_ hk => hk.2)); clear HO154; have HO154 := n_; clear n_; have HX28 := Aside0.mk (show Kd.R k64 64 w25 w.heap.size (fun k_ => k_ ≠ gb150) (.slice (some ⟨go8, 0, none⟩) t152.length co17) t152 from (Cmp.rr HO154.out)); obtain ⟨ce28, hcl28, hM28, hcc28, hfr28⟩ := Kd.R_elem HX28.out z64 (t156 : Int) (of_decide_eq_true Cmp.d) (by have h_ : (t156 : Int) < ((t152.length : Int) : Int) := of_decide_eq_true Cmp.d; first | exact h_ | (have e_ := (Kd.R_reads' HO154.out).1; omega) | simpa using h_); obtain rfl := k64_openM hM28; have HP28 := Kd.R_seg HX28.out (t156 : Int) (of_decide_eq_true Cmp.d) (by have h_ : (t156 : Int) < ((t152.length : Int) : Int) := of_decide_eq_true Cmp.d; first | exact h_ | (have e_ := (Kd.R_reads' HO154.out).1; omega) | simpa using h_) (seg := [.int .i64 a1_0, .int .i64 a1_1, .int .i64 a1_2, .bool a1_3]) (j := 0) hcl28 hcc28 (show 4 ≤ 4 from by decide) (x' := (⟨a1_0, a1_1, a1_2, a1_3⟩ : S64)) (k64_mkM _ _ _ (⟨a1_0, a1_1, a1_2, a1_3⟩ : S64) ) (fun _ hk => hk); have hx28_0 := hcc28 0 _ rfl; (try simp only [show (k64).sz = 4 from rfl, Nat.mul_one, Nat.add_zero] at hx28_0); have hf28_0 := hfr28 0; (try simp only [show (k64).sz = 4 from rfl, Nat.mul_one, Nat.add_zero] at hf28_0); have hx28_1 := hcc28 1 _ rfl; (try simp only [show (k64).sz = 4 from rfl, Nat.mul_one, Nat.add_zero] at hx28_1); have hf28_1 := hfr28 1; (try simp only [show (k64).sz = 4 from rfl, Nat.mul_one, Nat.add_zero] at hf28_1); have hx28_2 := hcc28 2 _ rfl; (try simp only [show (k64).sz = 4 from rfl, Nat.mul_one, Nat.add_zero] at hx28_2); have hf28_2 := hfr28 2; (try simp only [show (k64).sz = 4 from rfl, Nat.mul_one, Nat.add_zero] at hf28_2); have hx28_3 := hcc28 3 _ rfl; (try simp only [show (k64).sz = 4 from rfl, Nat.mul_one, Nat.add_zero] at hx28_3); have hf28_3 := hfr28 3; (try simp only [show (k64).sz = 4 from rfl, Nat.mul_one, Nat.add_zero] at hf28_3); clear hcl28 hcc28 hfr28 hM28) | ((with_reducible refine gate_store (t := 64) (p := 22) rfl ?_); refine store_event (t := 64) (p := 22) (v := ?vo_w29) (w1 := ((((w25.setCell ⟨go8, (t156 : Int).toNat * 4, none⟩ (.int .i64 a1_0)).setCell ⟨go8, (t156 : Int).toNat * 4 + 1, none⟩ (.int .i64 a1_1)).setCell ⟨go8, (t156 : Int).toNat * 4 + 2, none⟩ (.int .i64 a1_2)).setCell ⟨go8, (t156 : Int).toNat * 4 + 3, none⟩ (.bool a1_3))) ?hg ?ho ?hn ?hr ?_; (case ho => rfl); (case hg => rfl); (case hn => rfl); (case hr => first | (go_simp; done) | (go_simp; rfl)); intro w29 hw; have hg : w25.grownBy w29 (some go8) := (by rw [hw]; exact HP28.2); have hp_ : Kd.R k64 64 w29 w.heap.size (fun k_ => k_ ≠ gb150) (.slice (some ⟨go8, 0, none⟩) t152.length co17) y157 := (by rw [hw, Ny157.out]; exact HP28.1); clear HP28; have n0_ := Aside0.mk (blk_grown (g := gb149) (o := .cells #[.slice A0_0 l0_0.length c0_0] 39 (0, 0)) (Cmp.b BK149.out) hg (Kd.R_ne HO154.out BK149.out (by decide))); have n1_ := Aside0.mk (blk_grown (g := gb150) (o := .cells #[.int .i64 a1_0, .int .i64 a1_1, .int .i64 a1_2, .bool a1_3] 64 (0, 0)) (Cmp.b BK150.out) hg (Kd.R_away HO154.out (fun _ hk => hk))); have n2_ := Aside0.mk (blk_grown (g := gb151) (o := .cells #[.slice none 0 0] 39 (0, 0)) (Cmp.b BK151.out) hg (Kd.R_ne HO154.out BK151.out (by decide))); have n3_ := Aside0.mk (hp_); have n4_ := Aside0.mk (blk_grown (g := gb155) (o := .cells #[.slice (some ⟨go8, 0, none⟩) t152.length co17] 39 (0, 0)) (Cmp.b BK155.out) hg (Kd.R_ne HO154.out BK155.out (by decide))); have n5_ := Aside0.mk ((by rw [hw]; exact below_set (below_set (below_set (below_set (HB.out) GB8.out) GB8.out) GB8.out) GB8.out : Below w.heap.size w w29)); clear BK149; clear BK150; clear BK151; clear HO154; clear BK155; clear HB; have BK149 := n0_; have BK150 := n1_; have BK151 := n2_; have HO154 := n3_; have BK155 := n4_; have HB := n5_; clear n0_ n1_ n2_ n3_ n4_ n5_; clear hg hw hp_; have hcz30_0 : w29.cell? ⟨gb155, 0, none⟩ = some (.slice (some ⟨go8, 0, none⟩) t152.length co17) := (blk_cell BK155.out 0).trans rfl; have hfz30_0 := blk_frozen BK155.out 0; have hcz31_0 : w29.cell? ⟨gb151, 0, none⟩ = some (.slice none 0 0) := (blk_cell BK151.out 0).trans rfl; have hfz31_0 := blk_frozen BK151.out 0))
    refine bodyPost_ret (results_cell_row rfl _ _ gb151 39 #[.slice (some ⟨go8, 0, none⟩) t152.length co17] (0, 0) _ rfl (by (with_reducible repeat (first | refine blk_drewN ?_ _ | refine blk_drew ?_ | refine blk_alloc ?_ _)); refine blk_put (cs := #[.slice none 0 0]) ?_ 0 _ rfl; (with_reducible repeat (first | refine blk_drewN ?_ _ | refine blk_drew ?_ | refine blk_alloc ?_ _)); exact BK151.out) Try.underlying39 rfl (by kernel_rfl)) rfl ?_
    exact ⟨_, by first | rfl | (simp [errW_none, errW_some] <;> rfl) | (simp [*, errW_none, errW_some] <;> rfl), by (with_reducible repeat (first | apply Kd.R_alloc | apply Kd.R_drewN | apply Kd.R_drew)); exact Kd.R_mono (Kd.R_far (p := ⟨gb151, 0, none⟩) (Kd.R_types HO154.out BK151.out (by decide)) (fun _ hk => hk.2) (.slice (some ⟨go8, 0, none⟩) t152.length co17)) (fun _ hk => trivial), Cmp.g HB.out⟩
   ·rw [if_neg c7] at H; exact absurd H (by simp)
  ·rw [if_neg c6] at H; exact absurd H (by simp)
 ·rw [if_neg c5] at H; have c5b0 : decide (0 ≤ t156) = false := decide_eq_false c5; clear c5
  have H' := Aside0.mk H
  clear H
  go_enter Try.func43, Try.ntmps43
  go_wp2_with (first | ((with_reducible refine gate_dst (N := 2) rfl ?_); refine box_event ?hg (N := 2) ?hd (cs := #[.slice A0_0 l0_0.length c0_0]) (t := 39) ?hr ?_; (case hd => rfl); (case hg => rfl); (case hr => first | (go_simp; done) | (go_simp; rfl)); intro gb149 hg w32 hbox hb; have n0_ := Aside0.mk (below_step (Cmp.g HB.out) hb); have n1_ := Aside0.mk (hbox); have n2_ := Aside0.mk ((by rw [hg]; exact (below_size (Cmp.g HB.out)) : w.heap.size ≤ gb149)); have n3_ := Aside0.mk ((by rw [hg]; exact (below_size (Cmp.g HB.out)) : w.heap.size ≤ gb149)); clear HB; have HB := n0_; have BK149 := n1_; have GW149 := n2_; have GE149 := n3_; clear n0_ n1_ n2_ n3_; clear hb hbox hg) | ((with_reducible refine gate_dst (N := 3) rfl ?_); refine box_event ?hg (N := 3) ?hd (cs := #[.int .i64 a1_0, .int .i64 a1_1, .int .i64 a1_2, .bool a1_3]) (t := 64) ?hr ?_; (case hd => rfl); (case hg => rfl); (case hr => first | (go_simp; done) | (go_simp; rfl)); intro gb150 hg w33 hbox hb; have n0_ := Aside0.mk (blk_below (g := gb149) (o := .cells #[.slice A0_0 l0_0.length c0_0] 39 (0, 0)) (Cmp.b BK149.out) hb); have n1_ := Aside0.mk (below_step (Cmp.g HB.out) hb); have n2_ := Aside0.mk (hbox); have n3_ := Aside0.mk ((by rw [hg]; exact (below_size (Cmp.g HB.out)) : w.heap.size ≤ gb150)); have n4_ := Aside0.mk ((by rw [hg]; exact (below_size (Cmp.g HB.out)) : w.heap.size ≤ gb150)); have n5_ := Aside0.mk ((by rw [hg]; exact Nat.ne_of_lt (blk_lt (g := gb149) (o := .cells #[.slice A0_0 l0_0.length c0_0] 39 (0, 0)) (Cmp.b BK149.out)) : gb149 ≠ gb150)); have n6_ := Aside0.mk ((by rw [hg]; exact Nat.ne_of_gt (blk_lt (g := gb149) (o := .cells #[.slice A0_0 l0_0.length c0_0] 39 (0, 0)) (Cmp.b BK149.out)) : gb150 ≠ gb149)); clear BK149; clear HB; have BK149 := n0_; have HB := n1_; have BK150 := n2_; have GW150 := n3_; have GE150 := n4_; have NB149_150 := n5_; have NB150_149 := n6_; clear n0_ n1_ n2_ n3_ n4_ n5_ n6_; clear hb hbox hg) | ((with_reducible refine gate_dst (N := 4) rfl ?_); refine box_event ?hg (N := 4) ?hd (cs := #[.slice none 0 0]) (t := 39) ?hr ?_; (case hd => rfl); (case hg => rfl); (case hr => first | (go_simp; done) | (go_simp; rfl)); intro gb151 hg w34 hbox hb; have n0_ := Aside0.mk (blk_below (g := gb149) (o := .cells #[.slice A0_0 l0_0.length c0_0] 39 (0, 0)) (Cmp.b BK149.out) hb); have n1_ := Aside0.mk (blk_below (g := gb150) (o := .cells #[.int .i64 a1_0, .int .i64 a1_1, .int .i64 a1_2, .bool a1_3] 64 (0, 0)) (Cmp.b BK150.out) hb); have n2_ := Aside0.mk (below_step (Cmp.g HB.out) hb); have n3_ := Aside0.mk (hbox); have n4_ := Aside0.mk ((by rw [hg]; exact (below_size (Cmp.g HB.out)) : w.heap.size ≤ gb151)); have n5_ := Aside0.mk ((by rw [hg]; exact (below_size (Cmp.g HB.out)) : w.heap.size ≤ gb151)); have n6_ := Aside0.mk ((by rw [hg]; exact Nat.ne_of_lt (blk_lt (g := gb149) (o := .cells #[.slice A0_0 l0_0.length c0_0] 39 (0, 0)) (Cmp.b BK149.out)) : gb149 ≠ gb151)); have n7_ := Aside0.mk ((by rw [hg]; exact Nat.ne_of_gt (blk_lt (g := gb149) (o := .cells #[.slice A0_0 l0_0.length c0_0] 39 (0, 0)) (Cmp.b BK149.out)) : gb151 ≠ gb149)); have n8_ := Aside0.mk ((by rw [hg]; exact Nat.ne_of_lt (blk_lt (g := gb150) (o := .cells #[.int .i64 a1_0, .int .i64 a1_1, .int .i64 a1_2, .bool a1_3] 64 (0, 0)) (Cmp.b BK150.out)) : gb150 ≠ gb151)); have n9_ := Aside0.mk ((by rw [hg]; exact Nat.ne_of_gt (blk_lt (g := gb150) (o := .cells #[.int .i64 a1_0, .int .i64 a1_1, .int .i64 a1_2, .bool a1_3] 64 (0, 0)) (Cmp.b BK150.out)) : gb151 ≠ gb150)); clear BK149; clear BK150; clear HB; have BK149 := n0_; have BK150 := n1_; have HB := n2_; have BK151 := n3_; have GW151 := n4_; have GE151 := n5_; have NB149_151 := n6_; have NB151_149 := n7_; have NB150_151 := n8_; have NB151_150 := n9_; clear n0_ n1_ n2_ n3_ n4_ n5_ n6_ n7_ n8_ n9_; clear hb hbox hg; have hnb35 := NB149_150.out; have hnc35 := NB150_149.out; have hnb36 := NB149_151.out; have hnc36 := NB151_149.out; have hcz37_0 : w34.cell? ⟨gb149, 0, none⟩ = some (.slice A0_0 l0_0.length c0_0) := (blk_cell BK149.out 0).trans rfl; have hfz37_0 := blk_frozen BK149.out 0) | ((with_reducible refine gate_callee (f := 42) rfl ?_); refine goesL_ (some 9) rfl rfl Try.func42 (by kernel_rfl) rfl #[.agg #[.slice A0_0 l0_0.length c0_0]] rfl Cmp.q ?_; (with_reducible refine (spec_l17Copy.calls _ _ l0_0 t152 _ ?side1 ?side2 A3.out).mono ?_); (case side1 => exact Cmp.rc (Kd.C_below HR0_0.out HB.out)); (case side2 => exact HC0_0.out); rintro e w38 ⟨v153, rfl, ho0, hb⟩; refine ⟨_, rfl, ?_⟩; have n0_ := Aside0.mk (Kd.R_lower (Kd.R_newB ho0 (g := gb150) (o := .cells #[.int .i64 a1_0, .int .i64 a1_1, .int .i64 a1_2, .bool a1_3] 64 (0, 0)) (Cmp.b BK150.out)) (below_size (Cmp.g HB.out))); have n1_ := Aside0.mk (blk_below (g := gb149) (o := .cells #[.slice A0_0 l0_0.length c0_0] 39 (0, 0)) (Cmp.b BK149.out) hb); have n2_ := Aside0.mk (blk_below (g := gb150) (o := .cells #[.int .i64 a1_0, .int .i64 a1_1, .int .i64 a1_2, .bool a1_3] 64 (0, 0)) (Cmp.b BK150.out) hb); have n3_ := Aside0.mk (blk_below (g := gb151) (o := .cells #[.slice none 0 0] 39 (0, 0)) (Cmp.b BK151.out) hb); have n4_ := Aside0.mk (below_step (Cmp.g HB.out) hb); clear BK149; clear BK150; clear BK151; clear HB; have HO154 := n0_; have BK149 := n1_; have BK150 := n2_; have BK151 := n3_; have HB := n4_; clear n0_ n1_ n2_ n3_ n4_; (try clear hb); (try clear hb2); (try clear hk); (try clear hi); (try clear ho0)) | ((with_reducible refine gate_dst (N := 5) rfl ?_); refine box_event ?hg (N := 5) ?hd (cs := #[.slice none 0 0]) (t := 39) ?hr ?_; (case hd => rfl); (case hg => rfl); (case hr => first | (go_simp; done) | (go_simp; rfl)); intro gb155 hg w39 hbox hb; have n0_ := Aside0.mk (Kd.R_below (Cmp.rr HO154.out) hb); have n1_ := Aside0.mk (blk_below (g := gb149) (o := .cells #[.slice A0_0 l0_0.length c0_0] 39 (0, 0)) (Cmp.b BK149.out) hb); have n2_ := Aside0.mk (blk_below (g := gb150) (o := .cells #[.int .i64 a1_0, .int .i64 a1_1, .int .i64 a1_2, .bool a1_3] 64 (0, 0)) (Cmp.b BK150.out) hb); have n3_ := Aside0.mk (blk_below (g := gb151) (o := .cells #[.slice none 0 0] 39 (0, 0)) (Cmp.b BK151.out) hb); have n4_ := Aside0.mk (below_step (Cmp.g HB.out) hb); have n5_ := Aside0.mk (hbox); have n6_ := Aside0.mk ((by rw [hg]; exact (below_size (Cmp.g HB.out)) : w.heap.size ≤ gb155)); have n7_ := Aside0.mk ((by rw [hg]; exact (below_size (Cmp.g HB.out)) : w.heap.size ≤ gb155)); have n8_ := Aside0.mk ((by rw [hg]; exact Nat.ne_of_lt (blk_lt (g := gb149) (o := .cells #[.slice A0_0 l0_0.length c0_0] 39 (0, 0)) (Cmp.b BK149.out)) : gb149 ≠ gb155)); have n9_ := Aside0.mk ((by rw [hg]; exact Nat.ne_of_gt (blk_lt (g := gb149) (o := .cells #[.slice A0_0 l0_0.length c0_0] 39 (0, 0)) (Cmp.b BK149.out)) : gb155 ≠ gb149)); have n10_ := Aside0.mk ((by rw [hg]; exact Nat.ne_of_lt (blk_lt (g := gb150) (o := .cells #[.int .i64 a1_0, .int .i64 a1_1, .int .i64 a1_2, .bool a1_3] 64 (0, 0)) (Cmp.b BK150.out)) : gb150 ≠ gb155)); have n11_ := Aside0.mk ((by rw [hg]; exact Nat.ne_of_gt (blk_lt (g := gb150) (o := .cells #[.int .i64 a1_0, .int .i64 a1_1, .int .i64 a1_2, .bool a1_3] 64 (0, 0)) (Cmp.b BK150.out)) : gb155 ≠ gb150)); have n12_ := Aside0.mk ((by rw [hg]; exact Nat.ne_of_lt (blk_lt (g := gb151) (o := .cells #[.slice none 0 0] 39 (0, 0)) (Cmp.b BK151.out)) : gb151 ≠ gb155)); have n13_ := Aside0.mk ((by rw [hg]; exact Nat.ne_of_gt (blk_lt (g := gb151) (o := .cells #[.slice none 0 0] 39 (0, 0)) (Cmp.b BK151.out)) : gb155 ≠ gb151)); clear HO154; clear BK149; clear BK150; clear BK151; clear HB; have HO154 := n0_; have BK149 := n1_; have BK150 := n2_; have BK151 := n3_; have HB := n4_; have BK155 := n5_; have GW155 := n6_; have GE155 := n7_; have NB149_155 := n8_; have NB155_149 := n9_; have NB150_155 := n10_; have NB155_150 := n11_; have NB151_155 := n12_; have NB155_151 := n13_; clear n0_ n1_ n2_ n3_ n4_ n5_ n6_ n7_ n8_ n9_ n10_ n11_ n12_ n13_; clear hb hbox hg; obtain ⟨Ao40, co40, eo40⟩ := Kd.R_slice HO154.out; subst eo40; have hnb41 := NB155_149.out; have hnc41 := NB149_155.out; have hnb42 := NB155_150.out; have hnc42 := NB150_155.out; have hnb43 := NB155_151.out; have hnc43 := NB151_155.out; have hcz44_0 : w39.cell? ⟨gb155, 0, none⟩ = some (.slice none 0 0) := (blk_cell BK155.out 0).trans rfl; have hfz44_0 := blk_frozen BK155.out 0; have hcz45_0 : w39.cell? ⟨gb149, 0, none⟩ = some (.slice A0_0 l0_0.length c0_0) := (blk_cell BK149.out 0).trans rfl; have hfz45_0 := blk_frozen BK149.out 0; have hnb46 := NB150_151.out; have hnc46 := NB151_150.out; have hcz47_0 : w39.cell? ⟨gb150, 0, none⟩ = some (.int .i64 a1_0) := (blk_cell BK150.out 0).trans rfl; have hcz47_1 : w39.cell? ⟨gb150, 1, none⟩ = some (.int .i64 a1_1) := (blk_cell BK150.out 1).trans rfl; have hcz47_2 : w39.cell? ⟨gb150, 2, none⟩ = some (.int .i64 a1_2) := (blk_cell BK150.out 2).trans rfl; have hcz47_3 : w39.cell? ⟨gb150, 3, none⟩ = some (.bool a1_3) := (blk_cell BK150.out 3).trans rfl; have hfz47_0 := blk_frozen BK150.out 0; have hfz47_1 := blk_frozen BK150.out 1; have hfz47_2 := blk_frozen BK150.out 2; have hfz47_3 := blk_frozen BK150.out 3) | ((with_reducible refine gate_callee (f := 40) rfl ?_); refine goesL_ (some 15) rfl rfl Try.func40 (by kernel_rfl) rfl #[.agg #[.slice A0_0 l0_0.length c0_0], .int .i64 a1_0, .int .i64 a1_1] rfl Cmp.q ?_; (with_reducible refine (spec_FindEntry.calls k _ _ l0_0 a1_0 a1_1 t156 _ ?side1 ?side2 A4.out).mono ?_); (case side1 => exact Kd.C_below HR0_0.out (Cmp.g HB.out)); (case side2 => exact HC0_0.out); rintro e w48 ⟨rfl, hb⟩; refine ⟨_, rfl, ?_⟩; have n0_ := Aside0.mk (Kd.R_below (by (with_reducible repeat (first | apply Kd.R_alloc | apply Kd.R_drewN | apply Kd.R_drew)); exact (Kd.R_mono (Kd.R_far (p := ⟨gb155, 0, none⟩) (Kd.R_types HO154.out BK155.out (by decide)) (fun _ hk => hk.2) (.slice Ao40 t152.length co40)) (fun _ h_ => h_.1))) hb); have n1_ := Aside0.mk (blk_below (g := gb149) (o := .cells #[.slice A0_0 l0_0.length c0_0] 39 (0, 0)) (by (with_reducible repeat (first | refine blk_drewN ?_ _ | refine blk_drew ?_ | refine blk_alloc ?_ _)); refine blk_far ?_ NB149_155.out _; (with_reducible repeat (first | refine blk_drewN ?_ _ | refine blk_drew ?_ | refine blk_alloc ?_ _)); exact BK149.out) hb); have n2_ := Aside0.mk (blk_below (g := gb150) (o := .cells #[.int .i64 a1_0, .int .i64 a1_1, .int .i64 a1_2, .bool a1_3] 64 (0, 0)) (by (with_reducible repeat (first | refine blk_drewN ?_ _ | refine blk_drew ?_ | refine blk_alloc ?_ _)); refine blk_far ?_ NB150_155.out _; (with_reducible repeat (first | refine blk_drewN ?_ _ | refine blk_drew ?_ | refine blk_alloc ?_ _)); exact BK150.out) hb); have n3_ := Aside0.mk (blk_below (g := gb151) (o := .cells #[.slice none 0 0] 39 (0, 0)) (by (with_reducible repeat (first | refine blk_drewN ?_ _ | refine blk_drew ?_ | refine blk_alloc ?_ _)); refine blk_far ?_ NB151_155.out _; (with_reducible repeat (first | refine blk_drewN ?_ _ | refine blk_drew ?_ | refine blk_alloc ?_ _)); exact BK151.out) hb); have n4_ := Aside0.mk (blk_below (g := gb155) (o := .cells #[.slice Ao40 t152.length co40] 39 (0, 0)) (by (with_reducible repeat (first | refine blk_drewN ?_ _ | refine blk_drew ?_ | refine blk_alloc ?_ _)); refine blk_put (cs := #[.slice none 0 0]) ?_ 0 _ rfl; (with_reducible repeat (first | refine blk_drewN ?_ _ | refine blk_drew ?_ | refine blk_alloc ?_ _)); exact BK155.out) hb); have n5_ := Aside0.mk (below_step (Cmp.g HB.out) hb); clear HO154; clear BK149; clear BK150; clear BK151; clear BK155; clear HB; have HO154 := n0_; have BK149 := n1_; have BK150 := n2_; have BK151 := n3_; have BK155 := n4_; have HB := n5_; clear n0_ n1_ n2_ n3_ n4_ n5_; (try clear hb); (try clear hb2); (try clear hk); (try clear hi)))
  go_loopg [7] k (fun kq v7 w' => ∃ (x7_1 : Int), v7 = .int .i64 x7_1 ∧ Aside0 (spec_l17Set.l0 kq x7_1 l0_0 a1_0 a1_1 a1_2 a1_3 = some r) ∧ Aside0 (kq ≤ k) ∧ Aside0 (Kd.R k64 64 w' w.heap.size (fun k_ => k_ ≠ gb150) (.slice Ao40 t152.length co40) t152) ∧ Aside0 (w'.heap[gb149]? = some (.cells #[(.slice A0_0 l0_0.length c0_0)] 39 (0, 0))) ∧ Aside0 (w'.heap[gb150]? = some (.cells #[.int .i64 a1_0, .int .i64 a1_1, .int .i64 a1_2, .bool a1_3] 64 (0, 0))) ∧ Aside0 (w'.heap[gb151]? = some (.cells #[(.slice none 0 0)] 39 (0, 0))) ∧ Aside0 (w'.heap[gb155]? = some (.cells #[(.slice Ao40 t152.length co40)] 39 (0, 0))) ∧ Aside0 (Below w.heap.size w w'))
  case atStart => exact ⟨(0), (by first | rfl | simp | simp [*]), H', ⟨Nat.le_refl _⟩, ⟨by (with_reducible repeat (first | apply Kd.R_alloc | apply Kd.R_drewN | apply Kd.R_drew)); exact Kd.R_mono HO154.out (fun _ hk => hk.2)⟩, ⟨by (with_reducible repeat (first | refine blk_drewN ?_ _ | refine blk_drew ?_ | refine blk_alloc ?_ _)); exact BK149.out⟩, ⟨by (with_reducible repeat (first | refine blk_drewN ?_ _ | refine blk_drew ?_ | refine blk_alloc ?_ _)); exact BK150.out⟩, ⟨by (with_reducible repeat (first | refine blk_drewN ?_ _ | refine blk_drew ?_ | refine blk_alloc ?_ _)); exact BK151.out⟩, ⟨by (with_reducible repeat (first | refine blk_drewN ?_ _ | refine blk_drew ?_ | refine blk_alloc ?_ _)); exact BK155.out⟩, ⟨Cmp.g HB.out⟩⟩
  case round =>
   clear H'
   (try clear c1); (try clear c2); (try clear p2); (try clear hx2); (try clear hf2); (try clear c3); (try clear c4); (try clear c5); (try clear c5b0); (try clear c6); (try clear c6b0); (try clear c7); (try clear c7b0); (try clear c8); (try clear p8); (try clear q8); (try clear hx8); (try clear hf8); (try clear c12); (try clear c13); (try clear c18); (try clear c19); (try clear c20); (try clear c23); (try clear c28); (try clear hx28); (try clear hf28); (try clear c35); (try clear c36); (try clear c40); (try clear c41); (try clear c42); (try clear c43); (try clear c46); (try clear hcz14_0); (try clear hcz21_0); (try clear hcz22_0); (try clear hcz24_0); (try clear hcz24_1); (try clear hcz24_2); (try clear hcz24_3); (try clear hcz26_0); (try clear hcz27_0); (try clear hcz27_1); (try clear hcz27_2); (try clear hcz27_3); (try clear hcz30_0); (try clear hcz31_0); (try clear hcz37_0); (try clear hcz44_0); (try clear hcz45_0); (try clear hcz47_0); (try clear hcz47_1); (try clear hcz47_2); (try clear hcz47_3); (try clear hfz14_0); (try clear hfz21_0); (try clear hfz22_0); (try clear hfz24_0); (try clear hfz24_1); (try clear hfz24_2); (try clear hfz24_3); (try clear hfz26_0); (try clear hfz27_0); (try clear hfz27_1); (try clear hfz27_2); (try clear hfz27_3); (try clear hfz30_0); (try clear hfz31_0); (try clear hfz37_0); (try clear hfz44_0); (try clear hfz45_0); (try clear hfz47_0); (try clear hfz47_1); (try clear hfz47_2); (try clear hfz47_3); (try clear hx28_0); (try clear hx28_1); (try clear hx28_2); (try clear hx28_3); (try clear hx8_0); (try clear hx8_1); (try clear hx8_2); (try clear hx8_3); (try clear p8); (try clear q8)
   obtain ⟨x7_1, rfl, HA, HK1, HO_156000, BK149, BK150, BK151, BK155, HB⟩ := hrel
   cases gk with
   | zero => exact absurd HA.out (by simp [spec_l17Set.l0])
   | succ k1 =>
    have H := HA.out; clear HA
    simp only [spec_l17Set.l0] at H
    by_cases c49 : x7_1 < (l0_0.length : Int)
    ·rw [if_pos c49] at H
     have c49b0 : decide (x7_1 < (l0_0.length : Int)) = true := decide_eq_true c49
     clear c49
     by_cases c50 : 0 ≤ x7_1
     ·rw [if_pos c50] at H; have c50b0 : decide (0 ≤ x7_1) = true := decide_eq_true c50; clear c50; replace H := Option.bind_eq_some_iff.mp H; obtain ⟨t159, A510, H⟩ := H; (try dsimp only at H); have A51 := Aside0.mk A510; clear A510
      by_cases c52 : t159 = true
      ·subst c52; rw [if_pos rfl] at H
       have H' := Aside0.mk H
       clear H
       try go_wp2
       have n0_ := Aside0.mk (Kd.R_drew HO_156000.out); have n1_ := Aside0.mk (blk_drew BK149.out); have n2_ := Aside0.mk (blk_drew BK150.out); have n3_ := Aside0.mk (blk_drew BK151.out); have n4_ := Aside0.mk (blk_drew BK155.out); have n5_ := Aside0.mk (below_drew1 HB.out); clear HO_156000; clear BK149; clear BK150; clear BK151; clear BK155; clear HB; have HO_156000 := n0_; have BK149 := n1_; have BK150 := n2_; have BK151 := n3_; have BK155 := n4_; have HB := n5_; clear n0_ n1_ n2_ n3_ n4_ n5_
       have p158 : 0 ≤ (x7_1 : Int) := of_decide_eq_true Cmp.d
       have q158 : x7_1 < (l0_0.length : Int) := of_decide_eq_true Cmp.d
       obtain ⟨ad158, e158, hx158_0, hx158_1, hx158_2, hx158_3⟩ := at_T64 HR0_0.out x7_1 p158 q158
       have hw158_3 := hx158_3; have hw158_2 := hx158_2; have hw158_1 := hx158_1; have hw158_0 := hx158_0; cases e158
       replace hx158_0 := (HB.out.cell (World.block_lt_of_cell? w _ hx158_0)).trans hx158_0
       replace hx158_1 := (HB.out.cell (World.block_lt_of_cell? w _ hx158_1)).trans hx158_1
       replace hx158_2 := (HB.out.cell (World.block_lt_of_cell? w _ hx158_2)).trans hx158_2
       replace hx158_3 := (HB.out.cell (World.block_lt_of_cell? w _ hx158_3)).trans hx158_3
       replace p158 := eq_true p158; replace q158 := eq_true q158
       refine start_ (n := 17) (S := fun w' => w'.cell? ⟨gb149, 0, none⟩ = some (.slice (some ad158) l0_0.length c0_0) ∧ w'.cell? ⟨gb150, 0, none⟩ = some (.int .i64 a1_0) ∧ w'.cell? ⟨gb150, 1, none⟩ = some (.int .i64 a1_1) ∧ w'.cell? ⟨gb150, 2, none⟩ = some (.int .i64 a1_2) ∧ w'.cell? ⟨gb150, 3, none⟩ = some (.bool a1_3) ∧ w'.cell? (ad158.add ((x7_1).toNat * 4)) = some (.int .i64 ((rd_T64 l0_0 x7_1).f0)) ∧ w'.cell? ⟨(ad158.add ((x7_1).toNat * 4)).block, (ad158.add ((x7_1).toNat * 4)).off + 1, none⟩ = some (.int .i64 ((rd_T64 l0_0 x7_1).f1)) ∧ w'.cell? ⟨(ad158.add ((x7_1).toNat * 4)).block, (ad158.add ((x7_1).toNat * 4)).off + 2, none⟩ = some (.int .i64 ((rd_T64 l0_0 x7_1).f2)) ∧ w'.cell? ⟨(ad158.add ((x7_1).toNat * 4)).block, (ad158.add ((x7_1).toNat * 4)).off + 3, none⟩ = some (.bool ((rd_T64 l0_0 x7_1).f3))) (ds := []) (Cmp.bm 0 17) (by kernel_rfl) rfl rfl ⟨(blk_cell BK149.out 0).trans rfl, (blk_cell BK150.out 0).trans rfl, (blk_cell BK150.out 1).trans rfl, (blk_cell BK150.out 2).trans rfl, (blk_cell BK150.out 3).trans rfl, ((HB.out.cell (World.block_lt_of_cell? w _ hw158_0)).trans hw158_0), ((HB.out.cell (World.block_lt_of_cell? w _ hw158_1)).trans hw158_1), ((HB.out.cell (World.block_lt_of_cell? w _ hw158_2)).trans hw158_2), ((HB.out.cell (World.block_lt_of_cell? w _ hw158_3)).trans hw158_3)⟩ (fun hHeld => ?_); refine with_tabW spec_l17Set.tab7 spec_l17Set.bits7 (fun HT_ HW_ => ?_)
       generalize wr.drew = w53 at HO_156000 BK149 BK150 BK151 BK155 HB hx158_0 hx158_1 hx158_2 hx158_3 hHeld ⊢
       refine Cmp.pu HT_ 0 24 (Cmp.bm 1 16) ?_; refine Cmp.pu HT_ 1 25 (Cmp.bm 2 15) ?_; refine Cmp.tk HT_ HW_ hHeld 2 26 (Cmp.bm 3 14) ?_; refine Cmp.pu HT_ 3 27 (Cmp.bm 4 13) ?_; refine Cmp.pu HT_ 4 28 (Cmp.bm 5 12) ?_; refine Cmp.pu HT_ 5 29 (Cmp.bm 6 11) ?_; refine Cmp.pu HT_ 6 30 (Cmp.bm 7 10) ?_; refine Cmp.pu HT_ 8 32 (Cmp.bb 17 383) ?_; refine Cmp.pu HT_ 11 35 (Cmp.bb 17 2431) ?_; refine Cmp.pu HT_ 13 37 (Cmp.bb 17 10623) ?_; refine Cmp.tk HT_ HW_ hHeld 7 31 (Cmp.bb 17 10751) ?_; refine Cmp.pu HT_ 9 33 (Cmp.bb 17 11263) ?_; refine Cmp.tk HT_ HW_ hHeld 10 34 (Cmp.bb 17 12287) ?_; refine Cmp.tk HT_ HW_ hHeld 12 36 (Cmp.bm 14 3) ?_; refine Cmp.tk HT_ HW_ hHeld 14 38 (Cmp.bm 15 2) ?_
       refine one_ (i := 15) (N := some 39) (Cmp.bm 16 1) rfl rfl (one_of HT_.out (by kernel_rfl)) (by decide) (fun K hK => ?_)
       refine goes_ Try.func61 (by kernel_rfl) rfl #[.agg #[.int .i64 ((rd_T64 l0_0 x7_1).f0), .int .i64 ((rd_T64 l0_0 x7_1).f1), .int .i64 ((rd_T64 l0_0 x7_1).f2), .bool ((rd_T64 l0_0 x7_1).f3)], .int .i64 a1_0, .int .i64 a1_1] (by rfl) rfl rfl Cmp.q ?_
       with_reducible refine (spec_l17Less.calls ((rd_T64 l0_0 x7_1).f0) ((rd_T64 l0_0 x7_1).f1) ((rd_T64 l0_0 x7_1).f2) ((rd_T64 l0_0 x7_1).f3) a1_0 a1_1 true _ A51.out).mono ?_
       rintro e w54 ⟨rfl, hb⟩; refine ⟨_, rfl, ?_⟩
       have n0_ := Aside0.mk (Kd.R_below (Cmp.rr HO_156000.out) hb)
       have n1_ := Aside0.mk (blk_below (g := gb149) (o := .cells #[.slice (some ad158) l0_0.length c0_0] 39 (0, 0)) (Cmp.b BK149.out) hb)
       have n2_ := Aside0.mk (blk_below (g := gb150) (o := .cells #[.int .i64 a1_0, .int .i64 a1_1, .int .i64 a1_2, .bool a1_3] 64 (0, 0)) (Cmp.b BK150.out) hb)
       have n3_ := Aside0.mk (blk_below (g := gb151) (o := .cells #[.slice none 0 0] 39 (0, 0)) (Cmp.b BK151.out) hb)
       have n4_ := Aside0.mk (blk_below (g := gb155) (o := .cells #[.slice Ao40 t152.length co40] 39 (0, 0)) (Cmp.b BK155.out) hb)
       have n5_ := Aside0.mk (below_step (Cmp.g HB.out) hb)
       clear HO_156000; clear BK149; clear BK150; clear BK151; clear BK155; clear HB; have HO_156000 := n0_; have BK149 := n1_; have BK150 := n2_; have BK151 := n3_; have BK155 := n4_; have HB := n5_; clear n0_ n1_ n2_ n3_ n4_ n5_; (try clear hb); (try clear hb2); (try clear hk); (try clear hi)
       refine hK.out _ _ ⟨(blk_cell BK149.out 0).trans rfl, (blk_cell BK150.out 0).trans rfl, (blk_cell BK150.out 1).trans rfl, (blk_cell BK150.out 2).trans rfl, (blk_cell BK150.out 3).trans rfl, ((HB.out.cell (World.block_lt_of_cell? w _ hw158_0)).trans hw158_0), ((HB.out.cell (World.block_lt_of_cell? w _ hw158_1)).trans hw158_1), ((HB.out.cell (World.block_lt_of_cell? w _ hw158_2)).trans hw158_2), ((HB.out.cell (World.block_lt_of_cell? w _ hw158_3)).trans hw158_3)⟩ (fun hHeld => ?_)
       clear hK K
       refine norm_ (a' := ?_) ?_ ?_
       rotate_left
       ·show Act.put _ (some 39) _ = _
        simp only [Act.put, Cmp.s, Cmp.z, Cmp.c, i64_w, i32_w]; rfl
       refine Cmp.pu HT_ 16 40 (Cmp.bm 17 0) ?_
       refine done_ (done_of HT_.out (by kernel_rfl)) ?_
       try go_wp2
       go_roundg k1
       case measure => have := HK1.out; omega
       case rel => exact ⟨(wrap64 (x7_1 + 1)), (by first | rfl | simp | simp [*]), H', ⟨by have := HK1.out; omega⟩, ⟨by (with_reducible repeat (first | apply Kd.R_alloc | apply Kd.R_drewN | apply Kd.R_drew)); exact HO_156000.out⟩, ⟨by (with_reducible repeat (first | refine blk_drewN ?_ _ | refine blk_drew ?_ | refine blk_alloc ?_ _)); exact BK149.out⟩, ⟨by (with_reducible repeat (first | refine blk_drewN ?_ _ | refine blk_drew ?_ | refine blk_alloc ?_ _)); exact BK150.out⟩, ⟨by (with_reducible repeat (first | refine blk_drewN ?_ _ | refine blk_drew ?_ | refine blk_alloc ?_ _)); exact BK151.out⟩, ⟨by (with_reducible repeat (first | refine blk_drewN ?_ _ | refine blk_drew ?_ | refine blk_alloc ?_ _)); exact BK155.out⟩, ⟨Cmp.g HB.out⟩⟩
      ·replace c52 := Bool.eq_false_iff.mpr c52
       subst c52
       have H1 : ((some (([] : List (S64)) : List (S64))).bind fun y160 => (if x7_1 ≤ (l0_0.length : Int) then ((some (l0_0.take (x7_1 : Int).toNat : List (S64))).bind fun y163 => (if y160.length + y163.length < 4398046511104 then ((some (y160 ++ y163 : List (S64))).bind fun y167 => ((some (([(⟨a1_0, a1_1, a1_2, a1_3⟩ : S64)] : List (S64)) : List (S64))).bind fun y170 => (if y167.length + y170.length < 4398046511104 then ((some (y167 ++ y170 : List (S64))).bind fun y173 => ((some (l0_0.drop (x7_1 : Int).toNat : List (S64))).bind fun y176 => (if y173.length + y176.length < 4398046511104 then (some (y173 ++ y176)) else (none)))) else (none)))) else (none))) else (none))) = some r := by rw [if_neg (show ¬ (false = true) by decide)] at H; exact H
       clear H; have H := H1; clear H1
       obtain ⟨y160, hy160⟩ : ∃ y_ : List (S64), y_ = (([] : List (S64))) := ⟨_, rfl⟩
       replace H : (if x7_1 ≤ (l0_0.length : Int) then ((some (l0_0.take (x7_1 : Int).toNat : List (S64))).bind fun y163 => (if y160.length + y163.length < 4398046511104 then ((some (y160 ++ y163 : List (S64))).bind fun y167 => ((some (([(⟨a1_0, a1_1, a1_2, a1_3⟩ : S64)] : List (S64)) : List (S64))).bind fun y170 => (if y167.length + y170.length < 4398046511104 then ((some (y167 ++ y170 : List (S64))).bind fun y173 => ((some (l0_0.drop (x7_1 : Int).toNat : List (S64))).bind fun y176 => (if y173.length + y176.length < 4398046511104 then (some (y173 ++ y176)) else (none)))) else (none)))) else (none))) else (none)) = some r := by first | (rw [hy160]; with_reducible exact H) | (have H2_ := (Option.bind_some _ _).symm.trans H; rw [hy160]; with_reducible exact H2_) | (have H2_ := (Option.bind_some _ _).symm.trans H; with_reducible exact H2_) | with_reducible exact H | (rw [hy160]; exact H) | exact H
       have Ny160 := Aside0.mk hy160; clear hy160
       have c55b0 := eq_true (of_decide_eq_true Cmp.d : 0 ≤ x7_1)
       by_cases c56 : x7_1 ≤ (l0_0.length : Int)
       ·rw [if_pos c56] at H
        have c56b0 := eq_true c56
        have c56b1 : decide (x7_1 ≤ (l0_0.length : Int)) = true := decide_eq_true c56
        clear c56
        obtain ⟨y163, hy163⟩ : ∃ y_ : List (S64), y_ = (l0_0.take (x7_1 : Int).toNat) := ⟨_, rfl⟩
        replace H : (if y160.length + y163.length < 4398046511104 then ((some (y160 ++ y163 : List (S64))).bind fun y167 => ((some (([(⟨a1_0, a1_1, a1_2, a1_3⟩ : S64)] : List (S64)) : List (S64))).bind fun y170 => (if y167.length + y170.length < 4398046511104 then ((some (y167 ++ y170 : List (S64))).bind fun y173 => ((some (l0_0.drop (x7_1 : Int).toNat : List (S64))).bind fun y176 => (if y173.length + y176.length < 4398046511104 then (some (y173 ++ y176)) else (none)))) else (none)))) else (none)) = some r := by first | (rw [hy163]; with_reducible exact H) | (have H2_ := (Option.bind_some _ _).symm.trans H; rw [hy163]; with_reducible exact H2_) | (have H2_ := (Option.bind_some _ _).symm.trans H; with_reducible exact H2_) | with_reducible exact H | (rw [hy163]; exact H) | exact H
        have Ny163 := Aside0.mk hy163; clear hy163
        by_cases c57 : y160.length + y163.length < 4398046511104
        ·rw [if_pos c57] at H; have LMc57 := Aside0.mk c57; clear c57
         obtain ⟨y167, hy167⟩ : ∃ y_ : List (S64), y_ = (y160 ++ y163) := ⟨_, rfl⟩
         replace H : ((some (([(⟨a1_0, a1_1, a1_2, a1_3⟩ : S64)] : List (S64)) : List (S64))).bind fun y170 => (if y167.length + y170.length < 4398046511104 then ((some (y167 ++ y170 : List (S64))).bind fun y173 => ((some (l0_0.drop (x7_1 : Int).toNat : List (S64))).bind fun y176 => (if y173.length + y176.length < 4398046511104 then (some (y173 ++ y176)) else (none)))) else (none))) = some r := by first | (rw [hy167]; with_reducible exact H) | (have H2_ := (Option.bind_some _ _).symm.trans H; rw [hy167]; with_reducible exact H2_) | (have H2_ := (Option.bind_some _ _).symm.trans H; with_reducible exact H2_) | with_reducible exact H | (rw [hy167]; exact H) | exact H
         have Ny167 := Aside0.mk hy167; clear hy167
         obtain ⟨y170, hy170⟩ : ∃ y_ : List (S64), y_ = (([(⟨a1_0, a1_1, a1_2, a1_3⟩ : S64)] : List (S64))) := ⟨_, rfl⟩
         replace H : (if y167.length + y170.length < 4398046511104 then ((some (y167 ++ y170 : List (S64))).bind fun y173 => ((some (l0_0.drop (x7_1 : Int).toNat : List (S64))).bind fun y176 => (if y173.length + y176.length < 4398046511104 then (some (y173 ++ y176)) else (none)))) else (none)) = some r := by first | (rw [hy170]; with_reducible exact H) | (have H2_ := (Option.bind_some _ _).symm.trans H; rw [hy170]; with_reducible exact H2_) | (have H2_ := (Option.bind_some _ _).symm.trans H; with_reducible exact H2_) | with_reducible exact H | (rw [hy170]; exact H) | exact H
         have Ny170 := Aside0.mk hy170; clear hy170
         by_cases c58 : y167.length + y170.length < 4398046511104
         ·rw [if_pos c58] at H; have LMc58 := Aside0.mk c58; clear c58
          obtain ⟨y173, hy173⟩ : ∃ y_ : List (S64), y_ = (y167 ++ y170) := ⟨_, rfl⟩
          replace H : ((some (l0_0.drop (x7_1 : Int).toNat : List (S64))).bind fun y176 => (if y173.length + y176.length < 4398046511104 then (some (y173 ++ y176)) else (none))) = some r := by first | (rw [hy173]; with_reducible exact H) | (have H2_ := (Option.bind_some _ _).symm.trans H; rw [hy173]; with_reducible exact H2_) | (have H2_ := (Option.bind_some _ _).symm.trans H; with_reducible exact H2_) | with_reducible exact H | (rw [hy173]; exact H) | exact H
          have Ny173 := Aside0.mk hy173; clear hy173
          have c59b0 := eq_true (of_decide_eq_true Cmp.d : 0 ≤ x7_1)
          have c60b0 := eq_true (of_decide_eq_true Cmp.d : x7_1 ≤ (l0_0.length : Int))
          obtain ⟨y176, hy176⟩ : ∃ y_ : List (S64), y_ = (l0_0.drop (x7_1 : Int).toNat) := ⟨_, rfl⟩
          replace H : (if y173.length + y176.length < 4398046511104 then (some (y173 ++ y176)) else (none)) = some r := by first | (rw [hy176]; with_reducible exact H) | (have H2_ := (Option.bind_some _ _).symm.trans H; rw [hy176]; with_reducible exact H2_) | (have H2_ := (Option.bind_some _ _).symm.trans H; with_reducible exact H2_) | with_reducible exact H | (rw [hy176]; exact H) | exact H
          have Ny176 := Aside0.mk hy176; clear hy176
          by_cases c61 : y173.length + y176.length < 4398046511104
          ·rw [if_pos c61] at H; have LMc61 := Aside0.mk c61; clear c61
           obtain ⟨y180, hy180⟩ : ∃ y_ : List (S64), y_ = (y173 ++ y176) := ⟨_, rfl⟩
           replace H : (some y180) = some r := by first | (rw [hy180]; with_reducible exact H) | (have H2_ := (Option.bind_some _ _).symm.trans H; rw [hy180]; with_reducible exact H2_) | (have H2_ := (Option.bind_some _ _).symm.trans H; with_reducible exact H2_) | with_reducible exact H | (rw [hy180]; exact H) | exact H
           have Ny180 := Aside0.mk hy180; clear hy180
           obtain rfl := Option.some.inj H
           try go_wp2
           have n0_ := Aside0.mk (Kd.R_drew HO_156000.out); have n1_ := Aside0.mk (blk_drew BK149.out); have n2_ := Aside0.mk (blk_drew BK150.out); have n3_ := Aside0.mk (blk_drew BK151.out); have n4_ := Aside0.mk (blk_drew BK155.out); have n5_ := Aside0.mk (below_drew1 HB.out); clear HO_156000; clear BK149; clear BK150; clear BK151; clear BK155; clear HB; have HO_156000 := n0_; have BK149 := n1_; have BK150 := n2_; have BK151 := n3_; have BK155 := n4_; have HB := n5_; clear n0_ n1_ n2_ n3_ n4_ n5_
           have p158 : 0 ≤ (x7_1 : Int) := of_decide_eq_true Cmp.d
           have q158 : x7_1 < (l0_0.length : Int) := of_decide_eq_true Cmp.d
           obtain ⟨ad158, e158, hx158_0, hx158_1, hx158_2, hx158_3⟩ := at_T64 HR0_0.out x7_1 p158 q158
           have hw158_3 := hx158_3; have hw158_2 := hx158_2; have hw158_1 := hx158_1; have hw158_0 := hx158_0; cases e158
           replace hx158_0 := (HB.out.cell (World.block_lt_of_cell? w _ hx158_0)).trans hx158_0
           replace hx158_1 := (HB.out.cell (World.block_lt_of_cell? w _ hx158_1)).trans hx158_1
           replace hx158_2 := (HB.out.cell (World.block_lt_of_cell? w _ hx158_2)).trans hx158_2
           replace hx158_3 := (HB.out.cell (World.block_lt_of_cell? w _ hx158_3)).trans hx158_3
           replace p158 := eq_true p158; replace q158 := eq_true q158
           refine start_ (n := 17) (S := fun w' => w'.cell? ⟨gb149, 0, none⟩ = some (.slice (some ad158) l0_0.length c0_0) ∧ w'.cell? ⟨gb150, 0, none⟩ = some (.int .i64 a1_0) ∧ w'.cell? ⟨gb150, 1, none⟩ = some (.int .i64 a1_1) ∧ w'.cell? ⟨gb150, 2, none⟩ = some (.int .i64 a1_2) ∧ w'.cell? ⟨gb150, 3, none⟩ = some (.bool a1_3) ∧ w'.cell? (ad158.add ((x7_1).toNat * 4)) = some (.int .i64 ((rd_T64 l0_0 x7_1).f0)) ∧ w'.cell? ⟨(ad158.add ((x7_1).toNat * 4)).block, (ad158.add ((x7_1).toNat * 4)).off + 1, none⟩ = some (.int .i64 ((rd_T64 l0_0 x7_1).f1)) ∧ w'.cell? ⟨(ad158.add ((x7_1).toNat * 4)).block, (ad158.add ((x7_1).toNat * 4)).off + 2, none⟩ = some (.int .i64 ((rd_T64 l0_0 x7_1).f2)) ∧ w'.cell? ⟨(ad158.add ((x7_1).toNat * 4)).block, (ad158.add ((x7_1).toNat * 4)).off + 3, none⟩ = some (.bool ((rd_T64 l0_0 x7_1).f3))) (ds := []) (Cmp.bm 0 17) (by kernel_rfl) rfl rfl ⟨(blk_cell BK149.out 0).trans rfl, (blk_cell BK150.out 0).trans rfl, (blk_cell BK150.out 1).trans rfl, (blk_cell BK150.out 2).trans rfl, (blk_cell BK150.out 3).trans rfl, ((HB.out.cell (World.block_lt_of_cell? w _ hw158_0)).trans hw158_0), ((HB.out.cell (World.block_lt_of_cell? w _ hw158_1)).trans hw158_1), ((HB.out.cell (World.block_lt_of_cell? w _ hw158_2)).trans hw158_2), ((HB.out.cell (World.block_lt_of_cell? w _ hw158_3)).trans hw158_3)⟩ (fun hHeld => ?_); refine with_tabW spec_l17Set.tab7 spec_l17Set.bits7 (fun HT_ HW_ => ?_)
           generalize wr.drew = w62 at HO_156000 BK149 BK150 BK151 BK155 HB hx158_0 hx158_1 hx158_2 hx158_3 hHeld ⊢
           refine Cmp.pu HT_ 0 24 (Cmp.bm 1 16) ?_; refine Cmp.pu HT_ 1 25 (Cmp.bm 2 15) ?_; refine Cmp.tk HT_ HW_ hHeld 2 26 (Cmp.bm 3 14) ?_; refine Cmp.pu HT_ 3 27 (Cmp.bm 4 13) ?_; refine Cmp.pu HT_ 4 28 (Cmp.bm 5 12) ?_; refine Cmp.pu HT_ 5 29 (Cmp.bm 6 11) ?_; refine Cmp.pu HT_ 6 30 (Cmp.bm 7 10) ?_; refine Cmp.pu HT_ 8 32 (Cmp.bb 17 383) ?_; refine Cmp.pu HT_ 11 35 (Cmp.bb 17 2431) ?_; refine Cmp.pu HT_ 13 37 (Cmp.bb 17 10623) ?_; refine Cmp.tk HT_ HW_ hHeld 7 31 (Cmp.bb 17 10751) ?_; refine Cmp.pu HT_ 9 33 (Cmp.bb 17 11263) ?_; refine Cmp.tk HT_ HW_ hHeld 10 34 (Cmp.bb 17 12287) ?_; refine Cmp.tk HT_ HW_ hHeld 12 36 (Cmp.bm 14 3) ?_; refine Cmp.tk HT_ HW_ hHeld 14 38 (Cmp.bm 15 2) ?_
           refine one_ (i := 15) (N := some 39) (Cmp.bm 16 1) rfl rfl (one_of HT_.out (by kernel_rfl)) (by decide) (fun K hK => ?_)
           refine goes_ Try.func61 (by kernel_rfl) rfl #[.agg #[.int .i64 ((rd_T64 l0_0 x7_1).f0), .int .i64 ((rd_T64 l0_0 x7_1).f1), .int .i64 ((rd_T64 l0_0 x7_1).f2), .bool ((rd_T64 l0_0 x7_1).f3)], .int .i64 a1_0, .int .i64 a1_1] (by rfl) rfl rfl Cmp.q ?_
           with_reducible refine (spec_l17Less.calls ((rd_T64 l0_0 x7_1).f0) ((rd_T64 l0_0 x7_1).f1) ((rd_T64 l0_0 x7_1).f2) ((rd_T64 l0_0 x7_1).f3) a1_0 a1_1 false _ A51.out).mono ?_
           rintro e w63 ⟨rfl, hb⟩; refine ⟨_, rfl, ?_⟩
           have n0_ := Aside0.mk (Kd.R_below (Cmp.rr HO_156000.out) hb)
           have n1_ := Aside0.mk (blk_below (g := gb149) (o := .cells #[.slice (some ad158) l0_0.length c0_0] 39 (0, 0)) (Cmp.b BK149.out) hb)
           have n2_ := Aside0.mk (blk_below (g := gb150) (o := .cells #[.int .i64 a1_0, .int .i64 a1_1, .int .i64 a1_2, .bool a1_3] 64 (0, 0)) (Cmp.b BK150.out) hb)
           have n3_ := Aside0.mk (blk_below (g := gb151) (o := .cells #[.slice none 0 0] 39 (0, 0)) (Cmp.b BK151.out) hb)
           have n4_ := Aside0.mk (blk_below (g := gb155) (o := .cells #[.slice Ao40 t152.length co40] 39 (0, 0)) (Cmp.b BK155.out) hb)
           have n5_ := Aside0.mk (below_step (Cmp.g HB.out) hb)
           clear HO_156000; clear BK149; clear BK150; clear BK151; clear BK155; clear HB; have HO_156000 := n0_; have BK149 := n1_; have BK150 := n2_; have BK151 := n3_; have BK155 := n4_; have HB := n5_; clear n0_ n1_ n2_ n3_ n4_ n5_; (try clear hb); (try clear hb2); (try clear hk); (try clear hi)
           refine hK.out _ _ ⟨(blk_cell BK149.out 0).trans rfl, (blk_cell BK150.out 0).trans rfl, (blk_cell BK150.out 1).trans rfl, (blk_cell BK150.out 2).trans rfl, (blk_cell BK150.out 3).trans rfl, ((HB.out.cell (World.block_lt_of_cell? w _ hw158_0)).trans hw158_0), ((HB.out.cell (World.block_lt_of_cell? w _ hw158_1)).trans hw158_1), ((HB.out.cell (World.block_lt_of_cell? w _ hw158_2)).trans hw158_2), ((HB.out.cell (World.block_lt_of_cell? w _ hw158_3)).trans hw158_3)⟩ (fun hHeld => ?_)
           clear hK K
           refine norm_ (a' := ?_) ?_ ?_
           rotate_left
           ·show Act.put _ (some 39) _ = _
            simp only [Act.put, Cmp.s, Cmp.z, Cmp.c, i64_w, i32_w]; rfl
           refine Cmp.pu HT_ 16 40 (Cmp.bm 17 0) ?_
           refine done_ (done_of HT_.out (by kernel_rfl)) ?_
           try go_wp2
           have n0_ := Aside0.mk (Kd.R_drew HO_156000.out); have n1_ := Aside0.mk (blk_drew BK149.out); have n2_ := Aside0.mk (blk_drew BK150.out); have n3_ := Aside0.mk (blk_drew BK151.out); have n4_ := Aside0.mk (blk_drew BK155.out); have n5_ := Aside0.mk (below_drew1 HB.out); clear HO_156000; clear BK149; clear BK150; clear BK151; clear BK155; clear HB; have HO_156000 := n0_; have BK149 := n1_; have BK150 := n2_; have BK151 := n3_; have BK155 := n4_; have HB := n5_; clear n0_ n1_ n2_ n3_ n4_ n5_
           have q65 : (x7_1 : Int) ≤ ((l0_0.length : Int) : Int) := of_decide_eq_true Cmp.d
           obtain ⟨i065, hi065, _, hsz65, _⟩ := info_parts info64
           have hroom65 : l0_0.length ≤ c0_0 := HC0_0.out
           have hC65 : Kd.C k64 _ (some ad158) l0_0.length l0_0 := HR0_0.out
           have hcut65 := cut_to (P := Try.prog) 37 64 .i64 Try.underlying37 hi065 (some ad158) l0_0.length c0_0 x7_1 (of_decide_eq_true Cmp.d) q65 hroom65
           have hr65 := Kd.C_take (m := (x7_1 : Int).toNat) hC65 (by omega)
           have hy65 : y163.length = (x7_1 : Int).toNat := (by rw [Ny163.out, List.length_take]; omega)
           rw [← Ny163.out] at hr65
           rw [← hy65] at hcut65
           have HR166 := Aside0.mk hr65
           have HC166 := Aside0.mk (show y163.length ≤ c0_0 from by omega)
           clear hr65 hC65 hroom65 hi065 hsz65; have KY65 := Aside0.mk hy65; clear hy65; replace q65 := eq_true q65
           have q66 : (x7_1 : Int) ≤ ((l0_0.length : Int) : Int) := of_decide_eq_true Cmp.d
           obtain ⟨i066, hi066, _, hsz66, _⟩ := info_parts info64
           have hroom66 : l0_0.length ≤ c0_0 := HC0_0.out
           have hC66 : Kd.C k64 _ (some ad158) l0_0.length l0_0 := HR0_0.out
           have q066 : (0 : Int) ≤ (x7_1 : Int) := of_decide_eq_true Cmp.d
           have hcut66 := cut_from (P := Try.prog) 37 64 .i64 Try.underlying37 hi066 4 hsz66 (some ad158) l0_0.length c0_0 x7_1 q066 q66
           have hr66 := Kd.C_drop (m := (x7_1 : Int).toNat) (c := c0_0) hC66 (by omega) hroom66
           obtain ⟨A66, hA66⟩ : ∃ A1, A1 = (if c0_0 = (x7_1 : Int).toNat then (some ad158) else ((some ad158) : Option Addr).map (·.add ((x7_1 : Int).toNat * 4))) := ⟨_, rfl⟩
           obtain ⟨c66, hc66⟩ : ∃ c1, c1 = c0_0 - (x7_1 : Int).toNat := ⟨_, rfl⟩
           have hy66 : y176.length = l0_0.length - (x7_1 : Int).toNat := (by rw [Ny176.out, List.length_drop] <;> omega)
           rw [show (l0_0).drop (x7_1 : Int).toNat = y176 from Ny176.out.symm] at hr66
           replace hr66 : Kd.C k64 _ A66 y176.length y176 := (by rw [hA66]; exact hr66)
           rw [← hy66, ← hA66, ← hc66] at hcut66
           have HR179 := Aside0.mk hr66
           have HC179 := Aside0.mk (show y176.length ≤ c66 from by rw [hy66, hc66]; exact Nat.sub_le_sub_right hroom66 _)
           clear hr66 hC66 hroom66 hi066 hsz66 hc66; have KY66 := Aside0.mk hy66; have KA66 := Aside0.mk hA66; clear hy66 hA66; replace q66 := eq_true q66
           refine start_ (n := 16) (S := fun w' => w'.cell? ⟨gb149, 0, none⟩ = some (.slice (some ad158) l0_0.length c0_0) ∧ w'.cell? ⟨gb150, 0, none⟩ = some (.int .i64 a1_0) ∧ w'.cell? ⟨gb150, 1, none⟩ = some (.int .i64 a1_1) ∧ w'.cell? ⟨gb150, 2, none⟩ = some (.int .i64 a1_2) ∧ w'.cell? ⟨gb150, 3, none⟩ = some (.bool a1_3)) (ds := []) (Cmp.bm 0 16) (by kernel_rfl) rfl rfl ⟨(blk_cell BK149.out 0).trans rfl, (blk_cell BK150.out 0).trans rfl, (blk_cell BK150.out 1).trans rfl, (blk_cell BK150.out 2).trans rfl, (blk_cell BK150.out 3).trans rfl⟩ (fun hHeld => ?_); refine with_tabW spec_l17Set.tab9 spec_l17Set.bits9 (fun HT_ HW_ => ?_)
           generalize w63.drew = w64 at HO_156000 BK149 BK150 BK151 BK155 HB HR166 HR179 hHeld ⊢
           refine Cmp.pu HT_ 1 44 (Cmp.bb 16 2) ?_; refine Cmp.pu HT_ 3 46 (Cmp.bb 16 10) ?_; refine Cmp.pu HT_ 9 52 (Cmp.bb 16 522) ?_; refine Cmp.pu HT_ 11 54 (Cmp.bb 16 2570) ?_; refine Cmp.tk HT_ HW_ hHeld 2 45 (Cmp.bb 16 2574) ?_; refine Cmp.pu HT_ 4 47 (Cmp.bb 16 2590) ?_; refine Cmp.tk HT_ HW_ hHeld 6 49 (Cmp.bb 16 2654) ?_; refine Cmp.tk HT_ HW_ hHeld 10 53 (Cmp.bb 16 3678) ?_; refine Cmp.pu HT_ 12 55 (Cmp.bb 16 7774) ?_
           refine join_ (σ := Value × Value × Value) 4 (Cmp.bb 16 7935) (fun s_ => [(43, s_.1), (48, s_.2.1), (50, s_.2.2)]) (fun s_ w' => (w'.cell? ⟨gb149, 0, none⟩ = some (.slice (some ad158) l0_0.length c0_0) ∧ w'.cell? ⟨gb150, 0, none⟩ = some (.int .i64 a1_0) ∧ w'.cell? ⟨gb150, 1, none⟩ = some (.int .i64 a1_1) ∧ w'.cell? ⟨gb150, 2, none⟩ = some (.int .i64 a1_2) ∧ w'.cell? ⟨gb150, 3, none⟩ = some (.bool a1_3)) ∧ (Kd.R k64 64 w' w.heap.size (fun k_ => some k_ ≠ (s_.2.2 : Value).ownBlock ∧ some k_ ≠ (.slice Ao40 t152.length co40 : Value).ownBlock ∧ k_ ≠ gb150) s_.2.1 y167) ∧ (Kd.R k64 64 w' w.heap.size (fun k_ => some k_ ≠ (s_.2.1 : Value).ownBlock ∧ some k_ ≠ (.slice Ao40 t152.length co40 : Value).ownBlock ∧ k_ ≠ gb150) s_.2.2 y170) ∧ (Kd.R k64 64 w' w.heap.size (fun k_ => some k_ ≠ (s_.2.1 : Value).ownBlock ∧ some k_ ≠ (s_.2.2 : Value).ownBlock ∧ k_ ≠ gb150) (.slice Ao40 t152.length co40) t152) ∧ (w'.heap[gb149]? = some (.cells #[.slice (some ad158) l0_0.length c0_0] 39 (0, 0))) ∧ (w'.heap[gb150]? = some (.cells #[.int .i64 a1_0, .int .i64 a1_1, .int .i64 a1_2, .bool a1_3] 64 (0, 0))) ∧ (w'.heap[gb151]? = some (.cells #[.slice none 0 0] 39 (0, 0))) ∧ (w'.heap[gb155]? = some (.cells #[.slice Ao40 t152.length co40] 39 (0, 0))) ∧ (Below w.heap.size w w')) ?_ ?_
           rotate_left
           ·intro hCont
            refine two_ (i := 0) (j := 7) (Ni := some 43) (Nj := some 50) (Cmp.bb 16 7775) (Cmp.bb 16 7902) rfl rfl rfl rfl (two_of HT_.out (by kernel_rfl)) (by decide) (by decide) (fun K hK => ?_) (fun K hK => ?_)
            ·skip
             refine Kd.R_lit_step k64 _ 64 ?hg (N := 43) ?hd (xs := ([] : List (S64))) (inner := []) (ok := fun _ => True) (okp := fun _ => True) ?hr ?hp (fun _ hk => hk) trivial (Below.refl _ _) (Nat.le_refl _) (by simp) ?_; (case hd => rfl); (case hg => rfl); (case hr => first | (go_simp; done) | (go_simp; rfl)); (case hp => exact (Reps.none _ _))
             intro v161 w67 ho68 hb hg_ hnew_
             clear hg_ hnew_
             (first | rw [← Ny160.out] at ho68 | (simp only [Int.reduceToNat] at ho68; rw [← Ny160.out] at ho68))
             have n0_ := Aside0.mk (Kd.R_elder' (Cmp.rr HO_156000.out) (Kd.R_base ho68) hb)
             have n1_ := Aside0.mk (Kd.R_lower (Kd.R_newB (Kd.R_new' ho68 (Kd.R_lt (Cmp.rr HO_156000.out))) (g := gb150) (o := .cells #[.int .i64 a1_0, .int .i64 a1_1, .int .i64 a1_2, .bool a1_3] 64 (0, 0)) (Cmp.b BK150.out)) (below_size (Cmp.g HB.out)))
             have n2_ := Aside0.mk (blk_below (g := gb149) (o := .cells #[.slice (some ad158) l0_0.length c0_0] 39 (0, 0)) (Cmp.b BK149.out) hb)
             have n3_ := Aside0.mk (blk_below (g := gb150) (o := .cells #[.int .i64 a1_0, .int .i64 a1_1, .int .i64 a1_2, .bool a1_3] 64 (0, 0)) (Cmp.b BK150.out) hb)
             have n4_ := Aside0.mk (blk_below (g := gb151) (o := .cells #[.slice none 0 0] 39 (0, 0)) (Cmp.b BK151.out) hb)
             have n5_ := Aside0.mk (blk_below (g := gb155) (o := .cells #[.slice Ao40 t152.length co40] 39 (0, 0)) (Cmp.b BK155.out) hb)
             have n6_ := Aside0.mk (below_step (Cmp.g HB.out) hb)
             clear HO_156000; clear BK149; clear BK150; clear BK151; clear BK155; clear HB; have HO_156000 := n0_; have HO162 := n1_; have BK149 := n2_; have BK150 := n3_; have BK151 := n4_; have BK155 := n5_; have HB := n6_; clear n0_ n1_ n2_ n3_ n4_ n5_ n6_; clear hb ho68
             refine hK.out _ _ ⟨(blk_cell BK149.out 0).trans rfl, (blk_cell BK150.out 0).trans rfl, (blk_cell BK150.out 1).trans rfl, (blk_cell BK150.out 2).trans rfl, (blk_cell BK150.out 3).trans rfl⟩ (fun hHeld => ?_)
             clear hK K
             refine norm_ (a' := ?_) ?_ ?_
             rotate_left
             ·show Act.put _ (some 43) _ = _
              simp only [Act.put, Cmp.s, Cmp.z, Cmp.c, i64_w, i32_w]; rfl
             refine two_ (i := 5) (j := 7) (Ni := some 48) (Nj := some 50) (Cmp.bb 16 7807) (Cmp.bb 16 7903) rfl rfl rfl rfl (two_of HT_.out (by kernel_rfl)) (by decide) (by decide) (fun K hK => ?_) (fun K hK => ?_)
             ·skip
              refine Kd.R_append_rows_step k64 (w0 := w) w.heap.size (by rfl) (.tmp 43) (.tmp 47) 37 64 (.agg #[(.int .i64 0), (.int .i64 0), (.int .i64 0), (.bool false)]) 32 rfl Try.underlying37 info64 rfl (by decide) (by omega) v161 y160 y163 _ _ _ (fun k_ => some k_ ≠ (.slice Ao40 t152.length co40 : Value).ownBlock ∧ k_ ≠ gb150) (fun _ => False) rfl rfl ?aO ?aR (fun _ _ h => h) (fun _ h => h.elim) ?aF ?aB ?aS ?aL ?_
              (case aR => repeat (first | exact (Kd.C_below HR166.out HB.out) | (with_reducible refine Kd.C_alloc ?_ _) | (with_reducible refine Kd.C_drewN ?_ _) | (with_reducible refine Kd.C_drew ?_)))
              (case aB => exact (Cmp.g HB.out))
              (case aF => exact (fun k_ hk => ⟨Kd.fresh' (Kd.R_lt (Cmp.rr HO_156000.out)) k_ hk, Kd.freshB (g := gb150) (o := .cells #[.int .i64 a1_0, .int .i64 a1_1, .int .i64 a1_2, .bool a1_3] 64 (0, 0)) (Cmp.b BK150.out) k_ hk⟩))
              (case aO => exact (by (with_reducible repeat (first | apply Kd.R_alloc | apply Kd.R_drewN | apply Kd.R_drew)); exact Kd.R_mono HO162.out (fun _ hk => ⟨hk.1.2, hk.2⟩)))
              (case aS => exact (below_size (Cmp.g HB.out)))
              (case aL => have := LMc57.out; omega)
              intro v168 w69 ho hb hg hat
              rw [← Ny167.out] at ho
              have n0_ := Aside0.mk (Kd.R_after (ok := (fun k_ => k_ ≠ gb150)) (Cmp.rr HO_156000.out) hg hat)
              have n1_ := Aside0.mk (blk_grown (g := gb149) (o := .cells #[.slice (some ad158) l0_0.length c0_0] 39 (0, 0)) (Cmp.b BK149.out) hg (Kd.R_ne HO162.out BK149.out (by decide)))
              have n2_ := Aside0.mk (blk_grown (g := gb150) (o := .cells #[.int .i64 a1_0, .int .i64 a1_1, .int .i64 a1_2, .bool a1_3] 64 (0, 0)) (Cmp.b BK150.out) hg (Kd.R_away HO162.out (fun _ hk => hk.2)))
              have n3_ := Aside0.mk (blk_grown (g := gb151) (o := .cells #[.slice none 0 0] 39 (0, 0)) (Cmp.b BK151.out) hg (Kd.R_ne HO162.out BK151.out (by decide)))
              have n4_ := Aside0.mk (blk_grown (g := gb155) (o := .cells #[.slice Ao40 t152.length co40] 39 (0, 0)) (Cmp.b BK155.out) hg (Kd.R_ne HO162.out BK155.out (by decide)))
              have n5_ := Aside0.mk (hb)
              have n6_ := Aside0.mk (ho)
              clear HO_156000; clear BK149; clear BK150; clear BK151; clear BK155; clear HB; clear HO162; have HO_156000 := n0_; have BK149 := n1_; have BK150 := n2_; have BK151 := n3_; have BK155 := n4_; have HB := n5_; have HO169 := n6_; clear n0_ n1_ n2_ n3_ n4_ n5_ n6_; clear ho hb hg hat
              refine hK.out _ _ ⟨(blk_cell BK149.out 0).trans rfl, (blk_cell BK150.out 0).trans rfl, (blk_cell BK150.out 1).trans rfl, (blk_cell BK150.out 2).trans rfl, (blk_cell BK150.out 3).trans rfl⟩ (fun hHeld => ?_)
              clear hK K
              refine norm_ (a' := ?_) ?_ ?_
              rotate_left
              ·show Act.put _ (some 48) _ = _
               simp only [Act.put, Cmp.s, Cmp.z, Cmp.c, i64_w, i32_w]; rfl
              refine one_ (i := 7) (N := some 50) (Cmp.bb 16 7935) rfl rfl (one_of HT_.out (by kernel_rfl)) (by decide) (fun K hK => ?_)
              refine Kd.R_lit_step k64 _ 64 ?hg (N := 50) ?hd (xs := ([(⟨a1_0, a1_1, a1_2, a1_3⟩ : S64)] : List (S64))) (inner := [.int .i64 a1_0, .int .i64 a1_1, .int .i64 a1_2, .bool a1_3]) (ok := fun _ => True) (okp := fun _ => True) ?hr ?hp (fun _ hk => hk) trivial (Below.refl _ _) (Nat.le_refl _) (by simp) ?_; (case hd => rfl); (case hg => rfl); (case hr => first | (go_simp; done) | (go_simp; rfl)); (case hp => exact (Reps.c4 (show Kd.M k64 _ _ _ (⟨a1_0, a1_1, a1_2, a1_3⟩ : S64) [.int .i64 a1_0, .int .i64 a1_1, .int .i64 a1_2, .bool a1_3] from (k64_mkM _ _ _ (⟨a1_0, a1_1, a1_2, a1_3⟩ : S64) )) (Reps.none _ _)))
              intro v171 w70 ho71 hb hg_ hnew_
              clear hg_ hnew_
              (first | rw [← Ny170.out] at ho71 | (simp only [Int.reduceToNat] at ho71; rw [← Ny170.out] at ho71))
              have n0_ := Aside0.mk (Kd.R_elder' (Cmp.rr HO_156000.out) (Kd.R_base ho71) hb)
              have n1_ := Aside0.mk (Kd.R_elder' (Cmp.rr HO169.out) (Kd.R_base ho71) hb)
              have n2_ := Aside0.mk (Kd.R_lower (Kd.R_newB (Kd.R_new' (Kd.R_new' ho71 (Kd.R_lt (Cmp.rr HO_156000.out))) (Kd.R_lt (Cmp.rr HO169.out))) (g := gb150) (o := .cells #[.int .i64 a1_0, .int .i64 a1_1, .int .i64 a1_2, .bool a1_3] 64 (0, 0)) (Cmp.b BK150.out)) (below_size (Cmp.g HB.out)))
              have n3_ := Aside0.mk (blk_below (g := gb149) (o := .cells #[.slice (some ad158) l0_0.length c0_0] 39 (0, 0)) (Cmp.b BK149.out) hb)
              have n4_ := Aside0.mk (blk_below (g := gb150) (o := .cells #[.int .i64 a1_0, .int .i64 a1_1, .int .i64 a1_2, .bool a1_3] 64 (0, 0)) (Cmp.b BK150.out) hb)
              have n5_ := Aside0.mk (blk_below (g := gb151) (o := .cells #[.slice none 0 0] 39 (0, 0)) (Cmp.b BK151.out) hb)
              have n6_ := Aside0.mk (blk_below (g := gb155) (o := .cells #[.slice Ao40 t152.length co40] 39 (0, 0)) (Cmp.b BK155.out) hb)
              have n7_ := Aside0.mk (below_step (Cmp.g HB.out) hb)
              clear HO_156000; clear HO169; clear BK149; clear BK150; clear BK151; clear BK155; clear HB; have HO_156000 := n0_; have HO169 := n1_; have HO172 := n2_; have BK149 := n3_; have BK150 := n4_; have BK151 := n5_; have BK155 := n6_; have HB := n7_; clear n0_ n1_ n2_ n3_ n4_ n5_ n6_ n7_; clear hb ho71
              refine hK.out _ _ ⟨(blk_cell BK149.out 0).trans rfl, (blk_cell BK150.out 0).trans rfl, (blk_cell BK150.out 1).trans rfl, (blk_cell BK150.out 2).trans rfl, (blk_cell BK150.out 3).trans rfl⟩ (fun hHeld => ?_)
              clear hK K
              refine norm_ (a' := ?_) ?_ ?_
              rotate_left
              ·show Act.put _ (some 50) _ = _
               simp only [Act.put, Cmp.s, Cmp.z, Cmp.c, i64_w, i32_w]; rfl
              exact norm_ (by simp only [putAll, Act.put, List.setIfInBounds_toArray, List.set_cons_zero, List.set_cons_succ]) (hCont (v161, v168, v171) _ ⟨hHeld, (by (with_reducible repeat (first | apply Kd.R_alloc | apply Kd.R_drewN | apply Kd.R_drew)); exact Kd.R_mono HO169.out (fun _ hk => ⟨hk.2, ⟨hk.1.1, hk.1.2⟩⟩)), (by (with_reducible repeat (first | apply Kd.R_alloc | apply Kd.R_drewN | apply Kd.R_drew)); exact Kd.R_mono HO172.out (fun _ hk => ⟨hk.1.2, ⟨hk.1.1.2, hk.2⟩⟩)), (by (with_reducible repeat (first | apply Kd.R_alloc | apply Kd.R_drewN | apply Kd.R_drew)); exact Kd.R_mono HO_156000.out (fun _ hk => ⟨hk.1.2, ⟨hk.2, hk.1.1⟩⟩)), (Cmp.b BK149.out), (Cmp.b BK150.out), (Cmp.b BK151.out), (Cmp.b BK155.out), (Cmp.g HB.out)⟩)
             ·skip
              refine Kd.R_lit_step k64 _ 64 ?hg (N := 50) ?hd (xs := ([(⟨a1_0, a1_1, a1_2, a1_3⟩ : S64)] : List (S64))) (inner := [.int .i64 a1_0, .int .i64 a1_1, .int .i64 a1_2, .bool a1_3]) (ok := fun _ => True) (okp := fun _ => True) ?hr ?hp (fun _ hk => hk) trivial (Below.refl _ _) (Nat.le_refl _) (by simp) ?_; (case hd => rfl); (case hg => rfl); (case hr => first | (go_simp; done) | (go_simp; rfl)); (case hp => exact (Reps.c4 (show Kd.M k64 _ _ _ (⟨a1_0, a1_1, a1_2, a1_3⟩ : S64) [.int .i64 a1_0, .int .i64 a1_1, .int .i64 a1_2, .bool a1_3] from (k64_mkM _ _ _ (⟨a1_0, a1_1, a1_2, a1_3⟩ : S64) )) (Reps.none _ _)))
              intro v171 w69 ho70 hb hg_ hnew_
              clear hg_ hnew_
              (first | rw [← Ny170.out] at ho70 | (simp only [Int.reduceToNat] at ho70; rw [← Ny170.out] at ho70))
              have n0_ := Aside0.mk (Kd.R_elder' (Cmp.rr HO_156000.out) (Kd.R_base ho70) hb)
              have n1_ := Aside0.mk (Kd.R_elder' (Cmp.rr HO162.out) (Kd.R_base ho70) hb)
              have n2_ := Aside0.mk (Kd.R_lower (Kd.R_newB (Kd.R_new' (Kd.R_new' ho70 (Kd.R_lt (Cmp.rr HO_156000.out))) (Kd.R_lt (Cmp.rr HO162.out))) (g := gb150) (o := .cells #[.int .i64 a1_0, .int .i64 a1_1, .int .i64 a1_2, .bool a1_3] 64 (0, 0)) (Cmp.b BK150.out)) (below_size (Cmp.g HB.out)))
              have n3_ := Aside0.mk (blk_below (g := gb149) (o := .cells #[.slice (some ad158) l0_0.length c0_0] 39 (0, 0)) (Cmp.b BK149.out) hb)
              have n4_ := Aside0.mk (blk_below (g := gb150) (o := .cells #[.int .i64 a1_0, .int .i64 a1_1, .int .i64 a1_2, .bool a1_3] 64 (0, 0)) (Cmp.b BK150.out) hb)
              have n5_ := Aside0.mk (blk_below (g := gb151) (o := .cells #[.slice none 0 0] 39 (0, 0)) (Cmp.b BK151.out) hb)
              have n6_ := Aside0.mk (blk_below (g := gb155) (o := .cells #[.slice Ao40 t152.length co40] 39 (0, 0)) (Cmp.b BK155.out) hb)
              have n7_ := Aside0.mk (below_step (Cmp.g HB.out) hb)
              clear HO_156000; clear HO162; clear BK149; clear BK150; clear BK151; clear BK155; clear HB; have HO_156000 := n0_; have HO162 := n1_; have HO172 := n2_; have BK149 := n3_; have BK150 := n4_; have BK151 := n5_; have BK155 := n6_; have HB := n7_; clear n0_ n1_ n2_ n3_ n4_ n5_ n6_ n7_; clear hb ho70
              refine hK.out _ _ ⟨(blk_cell BK149.out 0).trans rfl, (blk_cell BK150.out 0).trans rfl, (blk_cell BK150.out 1).trans rfl, (blk_cell BK150.out 2).trans rfl, (blk_cell BK150.out 3).trans rfl⟩ (fun hHeld => ?_)
              clear hK K
              refine norm_ (a' := ?_) ?_ ?_
              rotate_left
              ·show Act.put _ (some 50) _ = _
               simp only [Act.put, Cmp.s, Cmp.z, Cmp.c, i64_w, i32_w]; rfl
              refine one_ (i := 5) (N := some 48) (Cmp.bb 16 7935) rfl rfl (one_of HT_.out (by kernel_rfl)) (by decide) (fun K hK => ?_)
              refine Kd.R_append_rows_step k64 (w0 := w) w.heap.size (by rfl) (.tmp 43) (.tmp 47) 37 64 (.agg #[(.int .i64 0), (.int .i64 0), (.int .i64 0), (.bool false)]) 32 rfl Try.underlying37 info64 rfl (by decide) (by omega) v161 y160 y163 _ _ _ (fun k_ => some k_ ≠ (.slice Ao40 t152.length co40 : Value).ownBlock ∧ some k_ ≠ (v171 : Value).ownBlock ∧ k_ ≠ gb150) (fun _ => False) rfl rfl ?aO ?aR (fun _ _ h => h) (fun _ h => h.elim) ?aF ?aB ?aS ?aL ?_
              (case aR => repeat (first | exact (Kd.C_below HR166.out HB.out) | (with_reducible refine Kd.C_alloc ?_ _) | (with_reducible refine Kd.C_drewN ?_ _) | (with_reducible refine Kd.C_drew ?_)))
              (case aB => exact (Cmp.g HB.out))
              (case aF => exact (fun k_ hk => ⟨Kd.fresh' (Kd.R_lt (Cmp.rr HO_156000.out)) k_ hk, Kd.fresh' (Kd.R_lt (Cmp.rr HO172.out)) k_ hk, Kd.freshB (g := gb150) (o := .cells #[.int .i64 a1_0, .int .i64 a1_1, .int .i64 a1_2, .bool a1_3] 64 (0, 0)) (Cmp.b BK150.out) k_ hk⟩))
              (case aO => exact (by (with_reducible repeat (first | apply Kd.R_alloc | apply Kd.R_drewN | apply Kd.R_drew)); exact Kd.R_mono HO162.out (fun _ hk => ⟨hk.1.1.2, ⟨hk.2, hk.1.2⟩⟩)))
              (case aS => exact (below_size (Cmp.g HB.out)))
              (case aL => have := LMc57.out; omega)
              intro v168 w71 ho hb hg hat
              rw [← Ny167.out] at ho
              have n0_ := Aside0.mk (Kd.R_after (ok := (fun k_ => some k_ ≠ (v171 : Value).ownBlock ∧ k_ ≠ gb150)) (by (with_reducible repeat (first | apply Kd.R_alloc | apply Kd.R_drewN | apply Kd.R_drew)); exact Kd.R_mono HO_156000.out (fun _ hk => ⟨⟨hk.2, hk.1.1⟩, hk.1.2⟩)) hg hat)
              have n1_ := Aside0.mk (blk_grown (g := gb149) (o := .cells #[.slice (some ad158) l0_0.length c0_0] 39 (0, 0)) (Cmp.b BK149.out) hg (Kd.R_ne HO162.out BK149.out (by decide)))
              have n2_ := Aside0.mk (blk_grown (g := gb150) (o := .cells #[.int .i64 a1_0, .int .i64 a1_1, .int .i64 a1_2, .bool a1_3] 64 (0, 0)) (Cmp.b BK150.out) hg (Kd.R_away HO162.out (fun _ hk => hk.1.2)))
              have n3_ := Aside0.mk (blk_grown (g := gb151) (o := .cells #[.slice none 0 0] 39 (0, 0)) (Cmp.b BK151.out) hg (Kd.R_ne HO162.out BK151.out (by decide)))
              have n4_ := Aside0.mk (blk_grown (g := gb155) (o := .cells #[.slice Ao40 t152.length co40] 39 (0, 0)) (Cmp.b BK155.out) hg (Kd.R_ne HO162.out BK155.out (by decide)))
              have n5_ := Aside0.mk (Kd.R_after (ok := (fun k_ => some k_ ≠ (.slice Ao40 t152.length co40 : Value).ownBlock ∧ k_ ≠ gb150)) (by (with_reducible repeat (first | apply Kd.R_alloc | apply Kd.R_drewN | apply Kd.R_drew)); exact Kd.R_mono HO172.out (fun _ hk => ⟨⟨hk.1.1.2, hk.2⟩, hk.1.2⟩)) hg hat)
              have n6_ := Aside0.mk (hb)
              have n7_ := Aside0.mk (ho)
              clear HO_156000; clear BK149; clear BK150; clear BK151; clear BK155; clear HO172; clear HB; clear HO162; have HO_156000 := n0_; have BK149 := n1_; have BK150 := n2_; have BK151 := n3_; have BK155 := n4_; have HO172 := n5_; have HB := n6_; have HO169 := n7_; clear n0_ n1_ n2_ n3_ n4_ n5_ n6_ n7_; clear ho hb hg hat
              refine hK.out _ _ ⟨(blk_cell BK149.out 0).trans rfl, (blk_cell BK150.out 0).trans rfl, (blk_cell BK150.out 1).trans rfl, (blk_cell BK150.out 2).trans rfl, (blk_cell BK150.out 3).trans rfl⟩ (fun hHeld => ?_)
              clear hK K
              refine norm_ (a' := ?_) ?_ ?_
              rotate_left
              ·show Act.put _ (some 48) _ = _
               simp only [Act.put, Cmp.s, Cmp.z, Cmp.c, i64_w, i32_w]; rfl
              exact norm_ (by simp only [putAll, Act.put, List.setIfInBounds_toArray, List.set_cons_zero, List.set_cons_succ]) (hCont (v161, v168, v171) _ ⟨hHeld, (by (with_reducible repeat (first | apply Kd.R_alloc | apply Kd.R_drewN | apply Kd.R_drew)); exact Kd.R_mono HO169.out (fun _ hk => ⟨hk.2.1, ⟨hk.1, hk.2.2⟩⟩)), (by (with_reducible repeat (first | apply Kd.R_alloc | apply Kd.R_drewN | apply Kd.R_drew)); exact Kd.R_mono HO172.out (fun _ hk => ⟨hk.2, ⟨hk.1.1, hk.1.2⟩⟩)), (by (with_reducible repeat (first | apply Kd.R_alloc | apply Kd.R_drewN | apply Kd.R_drew)); exact Kd.R_mono HO_156000.out (fun _ hk => ⟨hk.2, ⟨hk.1.1, hk.1.2⟩⟩)), (Cmp.b BK149.out), (Cmp.b BK150.out), (Cmp.b BK151.out), (Cmp.b BK155.out), (Cmp.g HB.out)⟩)
            ·skip
             refine Kd.R_lit_step k64 _ 64 ?hg (N := 50) ?hd (xs := ([(⟨a1_0, a1_1, a1_2, a1_3⟩ : S64)] : List (S64))) (inner := [.int .i64 a1_0, .int .i64 a1_1, .int .i64 a1_2, .bool a1_3]) (ok := fun _ => True) (okp := fun _ => True) ?hr ?hp (fun _ hk => hk) trivial (Below.refl _ _) (Nat.le_refl _) (by simp) ?_; (case hd => rfl); (case hg => rfl); (case hr => first | (go_simp; done) | (go_simp; rfl)); (case hp => exact (Reps.c4 (show Kd.M k64 _ _ _ (⟨a1_0, a1_1, a1_2, a1_3⟩ : S64) [.int .i64 a1_0, .int .i64 a1_1, .int .i64 a1_2, .bool a1_3] from (k64_mkM _ _ _ (⟨a1_0, a1_1, a1_2, a1_3⟩ : S64) )) (Reps.none _ _)))
             intro v171 w67 ho68 hb hg_ hnew_
             clear hg_ hnew_
             (first | rw [← Ny170.out] at ho68 | (simp only [Int.reduceToNat] at ho68; rw [← Ny170.out] at ho68))
             have n0_ := Aside0.mk (Kd.R_elder' (Cmp.rr HO_156000.out) (Kd.R_base ho68) hb)
             have n1_ := Aside0.mk (Kd.R_lower (Kd.R_newB (Kd.R_new' ho68 (Kd.R_lt (Cmp.rr HO_156000.out))) (g := gb150) (o := .cells #[.int .i64 a1_0, .int .i64 a1_1, .int .i64 a1_2, .bool a1_3] 64 (0, 0)) (Cmp.b BK150.out)) (below_size (Cmp.g HB.out)))
             have n2_ := Aside0.mk (blk_below (g := gb149) (o := .cells #[.slice (some ad158) l0_0.length c0_0] 39 (0, 0)) (Cmp.b BK149.out) hb)
             have n3_ := Aside0.mk (blk_below (g := gb150) (o := .cells #[.int .i64 a1_0, .int .i64 a1_1, .int .i64 a1_2, .bool a1_3] 64 (0, 0)) (Cmp.b BK150.out) hb)
             have n4_ := Aside0.mk (blk_below (g := gb151) (o := .cells #[.slice none 0 0] 39 (0, 0)) (Cmp.b BK151.out) hb)
             have n5_ := Aside0.mk (blk_below (g := gb155) (o := .cells #[.slice Ao40 t152.length co40] 39 (0, 0)) (Cmp.b BK155.out) hb)
             have n6_ := Aside0.mk (below_step (Cmp.g HB.out) hb)
             clear HO_156000; clear BK149; clear BK150; clear BK151; clear BK155; clear HB; have HO_156000 := n0_; have HO172 := n1_; have BK149 := n2_; have BK150 := n3_; have BK151 := n4_; have BK155 := n5_; have HB := n6_; clear n0_ n1_ n2_ n3_ n4_ n5_ n6_; clear hb ho68
             refine hK.out _ _ ⟨(blk_cell BK149.out 0).trans rfl, (blk_cell BK150.out 0).trans rfl, (blk_cell BK150.out 1).trans rfl, (blk_cell BK150.out 2).trans rfl, (blk_cell BK150.out 3).trans rfl⟩ (fun hHeld => ?_)
             clear hK K
             refine norm_ (a' := ?_) ?_ ?_
             rotate_left
             ·show Act.put _ (some 50) _ = _
              simp only [Act.put, Cmp.s, Cmp.z, Cmp.c, i64_w, i32_w]; rfl
             refine one_ (i := 0) (N := some 43) (Cmp.bb 16 7903) rfl rfl (one_of HT_.out (by kernel_rfl)) (by decide) (fun K hK => ?_)
             refine Kd.R_lit_step k64 _ 64 ?hg (N := 43) ?hd (xs := ([] : List (S64))) (inner := []) (ok := fun _ => True) (okp := fun _ => True) ?hr ?hp (fun _ hk => hk) trivial (Below.refl _ _) (Nat.le_refl _) (by simp) ?_; (case hd => rfl); (case hg => rfl); (case hr => first | (go_simp; done) | (go_simp; rfl)); (case hp => exact (Reps.none _ _))
             intro v161 w69 ho70 hb hg_ hnew_
             clear hg_ hnew_
             (first | rw [← Ny160.out] at ho70 | (simp only [Int.reduceToNat] at ho70; rw [← Ny160.out] at ho70))
             have n0_ := Aside0.mk (Kd.R_elder' (Cmp.rr HO_156000.out) (Kd.R_base ho70) hb)
             have n1_ := Aside0.mk (Kd.R_elder' (Cmp.rr HO172.out) (Kd.R_base ho70) hb)
             have n2_ := Aside0.mk (Kd.R_lower (Kd.R_newB (Kd.R_new' (Kd.R_new' ho70 (Kd.R_lt (Cmp.rr HO_156000.out))) (Kd.R_lt (Cmp.rr HO172.out))) (g := gb150) (o := .cells #[.int .i64 a1_0, .int .i64 a1_1, .int .i64 a1_2, .bool a1_3] 64 (0, 0)) (Cmp.b BK150.out)) (below_size (Cmp.g HB.out)))
             have n3_ := Aside0.mk (blk_below (g := gb149) (o := .cells #[.slice (some ad158) l0_0.length c0_0] 39 (0, 0)) (Cmp.b BK149.out) hb)
             have n4_ := Aside0.mk (blk_below (g := gb150) (o := .cells #[.int .i64 a1_0, .int .i64 a1_1, .int .i64 a1_2, .bool a1_3] 64 (0, 0)) (Cmp.b BK150.out) hb)
             have n5_ := Aside0.mk (blk_below (g := gb151) (o := .cells #[.slice none 0 0] 39 (0, 0)) (Cmp.b BK151.out) hb)
             have n6_ := Aside0.mk (blk_below (g := gb155) (o := .cells #[.slice Ao40 t152.length co40] 39 (0, 0)) (Cmp.b BK155.out) hb)
             have n7_ := Aside0.mk (below_step (Cmp.g HB.out) hb)
             clear HO_156000; clear HO172; clear BK149; clear BK150; clear BK151; clear BK155; clear HB; have HO_156000 := n0_; have HO172 := n1_; have HO162 := n2_; have BK149 := n3_; have BK150 := n4_; have BK151 := n5_; have BK155 := n6_; have HB := n7_; clear n0_ n1_ n2_ n3_ n4_ n5_ n6_ n7_; clear hb ho70
             refine hK.out _ _ ⟨(blk_cell BK149.out 0).trans rfl, (blk_cell BK150.out 0).trans rfl, (blk_cell BK150.out 1).trans rfl, (blk_cell BK150.out 2).trans rfl, (blk_cell BK150.out 3).trans rfl⟩ (fun hHeld => ?_)
             clear hK K
             refine norm_ (a' := ?_) ?_ ?_
             rotate_left
             ·show Act.put _ (some 43) _ = _
              simp only [Act.put, Cmp.s, Cmp.z, Cmp.c, i64_w, i32_w]; rfl
             refine one_ (i := 5) (N := some 48) (Cmp.bb 16 7935) rfl rfl (one_of HT_.out (by kernel_rfl)) (by decide) (fun K hK => ?_)
             refine Kd.R_append_rows_step k64 (w0 := w) w.heap.size (by rfl) (.tmp 43) (.tmp 47) 37 64 (.agg #[(.int .i64 0), (.int .i64 0), (.int .i64 0), (.bool false)]) 32 rfl Try.underlying37 info64 rfl (by decide) (by omega) v161 y160 y163 _ _ _ (fun k_ => some k_ ≠ (.slice Ao40 t152.length co40 : Value).ownBlock ∧ some k_ ≠ (v171 : Value).ownBlock ∧ k_ ≠ gb150) (fun _ => False) rfl rfl ?aO ?aR (fun _ _ h => h) (fun _ h => h.elim) ?aF ?aB ?aS ?aL ?_
             (case aR => repeat (first | exact (Kd.C_below HR166.out HB.out) | (with_reducible refine Kd.C_alloc ?_ _) | (with_reducible refine Kd.C_drewN ?_ _) | (with_reducible refine Kd.C_drew ?_)))
             (case aB => exact (Cmp.g HB.out))
             (case aF => exact (fun k_ hk => ⟨Kd.fresh' (Kd.R_lt (Cmp.rr HO_156000.out)) k_ hk, Kd.fresh' (Kd.R_lt (Cmp.rr HO172.out)) k_ hk, Kd.freshB (g := gb150) (o := .cells #[.int .i64 a1_0, .int .i64 a1_1, .int .i64 a1_2, .bool a1_3] 64 (0, 0)) (Cmp.b BK150.out) k_ hk⟩))
             (case aO => exact (by (with_reducible repeat (first | apply Kd.R_alloc | apply Kd.R_drewN | apply Kd.R_drew)); exact Kd.R_mono HO162.out (fun _ hk => ⟨hk.1.1.2, ⟨hk.1.2, hk.2⟩⟩)))
             (case aS => exact (below_size (Cmp.g HB.out)))
             (case aL => have := LMc57.out; omega)
             intro v168 w71 ho hb hg hat
             rw [← Ny167.out] at ho
             have n0_ := Aside0.mk (Kd.R_after (ok := (fun k_ => some k_ ≠ (v171 : Value).ownBlock ∧ k_ ≠ gb150)) (by (with_reducible repeat (first | apply Kd.R_alloc | apply Kd.R_drewN | apply Kd.R_drew)); exact Kd.R_mono HO_156000.out (fun _ hk => ⟨⟨hk.1.2, hk.1.1⟩, hk.2⟩)) hg hat)
             have n1_ := Aside0.mk (blk_grown (g := gb149) (o := .cells #[.slice (some ad158) l0_0.length c0_0] 39 (0, 0)) (Cmp.b BK149.out) hg (Kd.R_ne HO162.out BK149.out (by decide)))
             have n2_ := Aside0.mk (blk_grown (g := gb150) (o := .cells #[.int .i64 a1_0, .int .i64 a1_1, .int .i64 a1_2, .bool a1_3] 64 (0, 0)) (Cmp.b BK150.out) hg (Kd.R_away HO162.out (fun _ hk => hk.2)))
             have n3_ := Aside0.mk (blk_grown (g := gb151) (o := .cells #[.slice none 0 0] 39 (0, 0)) (Cmp.b BK151.out) hg (Kd.R_ne HO162.out BK151.out (by decide)))
             have n4_ := Aside0.mk (blk_grown (g := gb155) (o := .cells #[.slice Ao40 t152.length co40] 39 (0, 0)) (Cmp.b BK155.out) hg (Kd.R_ne HO162.out BK155.out (by decide)))
             have n5_ := Aside0.mk (Kd.R_after (ok := (fun k_ => some k_ ≠ (.slice Ao40 t152.length co40 : Value).ownBlock ∧ k_ ≠ gb150)) (by (with_reducible repeat (first | apply Kd.R_alloc | apply Kd.R_drewN | apply Kd.R_drew)); exact Kd.R_mono HO172.out (fun _ hk => ⟨⟨hk.1.1.2, hk.1.2⟩, hk.2⟩)) hg hat)
             have n6_ := Aside0.mk (hb)
             have n7_ := Aside0.mk (ho)
             clear HO_156000; clear BK149; clear BK150; clear BK151; clear BK155; clear HO172; clear HB; clear HO162; have HO_156000 := n0_; have BK149 := n1_; have BK150 := n2_; have BK151 := n3_; have BK155 := n4_; have HO172 := n5_; have HB := n6_; have HO169 := n7_; clear n0_ n1_ n2_ n3_ n4_ n5_ n6_ n7_; clear ho hb hg hat
             refine hK.out _ _ ⟨(blk_cell BK149.out 0).trans rfl, (blk_cell BK150.out 0).trans rfl, (blk_cell BK150.out 1).trans rfl, (blk_cell BK150.out 2).trans rfl, (blk_cell BK150.out 3).trans rfl⟩ (fun hHeld => ?_)
             clear hK K
             refine norm_ (a' := ?_) ?_ ?_
             rotate_left
             ·show Act.put _ (some 48) _ = _
              simp only [Act.put, Cmp.s, Cmp.z, Cmp.c, i64_w, i32_w]; rfl
             exact norm_ (by simp only [putAll, Act.put, List.setIfInBounds_toArray, List.set_cons_zero, List.set_cons_succ]) (hCont (v161, v168, v171) _ ⟨hHeld, (by (with_reducible repeat (first | apply Kd.R_alloc | apply Kd.R_drewN | apply Kd.R_drew)); exact Kd.R_mono HO169.out (fun _ hk => ⟨hk.2.1, ⟨hk.1, hk.2.2⟩⟩)), (by (with_reducible repeat (first | apply Kd.R_alloc | apply Kd.R_drewN | apply Kd.R_drew)); exact Kd.R_mono HO172.out (fun _ hk => ⟨hk.2, ⟨hk.1.1, hk.1.2⟩⟩)), (by (with_reducible repeat (first | apply Kd.R_alloc | apply Kd.R_drewN | apply Kd.R_drew)); exact Kd.R_mono HO_156000.out (fun _ hk => ⟨hk.2, ⟨hk.1.1, hk.1.2⟩⟩)), (Cmp.b BK149.out), (Cmp.b BK150.out), (Cmp.b BK151.out), (Cmp.b BK155.out), (Cmp.g HB.out)⟩)
           rintro ⟨v161, v168, v171⟩ w72 ⟨hS_, h0_, h1_, h2_, h3_, h4_, h5_, h6_, h7_⟩
           have n0_ : Aside0 (Kd.R k64 64 w72 w.heap.size (fun k_ => some k_ ≠ (v171 : Value).ownBlock ∧ some k_ ≠ (.slice Ao40 t152.length co40 : Value).ownBlock ∧ k_ ≠ gb150) v168 y167) := ⟨h0_⟩
           have n1_ : Aside0 (Kd.R k64 64 w72 w.heap.size (fun k_ => some k_ ≠ (v168 : Value).ownBlock ∧ some k_ ≠ (.slice Ao40 t152.length co40 : Value).ownBlock ∧ k_ ≠ gb150) v171 y170) := ⟨h1_⟩
           have n2_ : Aside0 (Kd.R k64 64 w72 w.heap.size (fun k_ => some k_ ≠ (v168 : Value).ownBlock ∧ some k_ ≠ (v171 : Value).ownBlock ∧ k_ ≠ gb150) (.slice Ao40 t152.length co40) t152) := ⟨h2_⟩
           have n3_ : Aside0 (w72.heap[gb149]? = some (.cells #[.slice (some ad158) l0_0.length c0_0] 39 (0, 0))) := ⟨h3_⟩
           have n4_ : Aside0 (w72.heap[gb150]? = some (.cells #[.int .i64 a1_0, .int .i64 a1_1, .int .i64 a1_2, .bool a1_3] 64 (0, 0))) := ⟨h4_⟩
           have n5_ : Aside0 (w72.heap[gb151]? = some (.cells #[.slice none 0 0] 39 (0, 0))) := ⟨h5_⟩
           have n6_ : Aside0 (w72.heap[gb155]? = some (.cells #[.slice Ao40 t152.length co40] 39 (0, 0))) := ⟨h6_⟩
           have n7_ : Aside0 (Below w.heap.size w w72) := ⟨h7_⟩
           clear HO_156000; clear BK149; clear BK150; clear BK151; clear BK155; clear HB; clear h0_ h1_ h2_ h3_ h4_ h5_ h6_ h7_; have HO169 := n0_; have HO172 := n1_; have HO_156000 := n2_; have BK149 := n3_; have BK150 := n4_; have BK151 := n5_; have BK155 := n6_; have HB := n7_; clear n0_ n1_ n2_ n3_ n4_ n5_ n6_ n7_
           have hHeld : w72.cell? ⟨gb149, 0, none⟩ = some (.slice (some ad158) l0_0.length c0_0) ∧ w72.cell? ⟨gb150, 0, none⟩ = some (.int .i64 a1_0) ∧ w72.cell? ⟨gb150, 1, none⟩ = some (.int .i64 a1_1) ∧ w72.cell? ⟨gb150, 2, none⟩ = some (.int .i64 a1_2) ∧ w72.cell? ⟨gb150, 3, none⟩ = some (.bool a1_3) := hS_
           obtain ⟨Ao74, co74, eo74⟩ := Kd.R_slice HO172.out
           (first | subst eo74 | (injection eo74 with f1_ f2_ f3_; have f4_ := f1_.symm; have f5_ := f3_.symm; clear f1_ f2_ f3_; subst f4_; subst f5_))
           refine norm_ (a' := ?_) ?_ ?_
           rotate_left
           ·simp only [putAll, Act.put, List.setIfInBounds_toArray, List.set_cons_zero, List.set_cons_succ]; rfl
           refine one_ (i := 8) (N := some 51) (Cmp.bm 13 3) rfl rfl (one_of HT_.out (by kernel_rfl)) (by decide) (fun K hK => ?_)
           refine Kd.R_append_rows_step k64 (w0 := w) w.heap.size (by rfl) (.tmp 48) (.tmp 50) 37 64 (.agg #[(.int .i64 0), (.int .i64 0), (.int .i64 0), (.bool false)]) 32 rfl Try.underlying37 info64 rfl (by decide) (by omega) v168 y167 y170 _ _ _ (fun k_ => some k_ ≠ (.slice Ao40 t152.length co40 : Value).ownBlock ∧ some k_ ≠ (.slice Ao74 y170.length co74 : Value).ownBlock ∧ k_ ≠ gb150) (fun _ => False) rfl rfl ?aO ?aR (fun _ _ h => h) (fun _ h => h.elim) ?aF ?aB ?aS ?aL ?_
           (case aR => repeat (first | exact (Kd.R_reads' HO172.out).2.2 | (with_reducible refine Kd.C_alloc ?_ _) | (with_reducible refine Kd.C_drewN ?_ _) | (with_reducible refine Kd.C_drew ?_)))
           (case aB => exact (Cmp.g HB.out))
           (case aF => exact (fun k_ hk => ⟨Kd.fresh' (Kd.R_lt (Cmp.rr HO_156000.out)) k_ hk, Kd.fresh' (Kd.R_lt (Cmp.rr HO172.out)) k_ hk, Kd.freshB (g := gb150) (o := .cells #[.int .i64 a1_0, .int .i64 a1_1, .int .i64 a1_2, .bool a1_3] 64 (0, 0)) (Cmp.b BK150.out) k_ hk⟩))
           (case aO => exact (by (with_reducible repeat (first | apply Kd.R_alloc | apply Kd.R_drewN | apply Kd.R_drew)); exact Kd.R_mono HO169.out (fun _ hk => ⟨hk.2.1, ⟨hk.1, hk.2.2⟩⟩)))
           (case aS => exact (below_size (Cmp.g HB.out)))
           (case aL => have := LMc58.out; omega)
           intro v174 w73 ho hb hg hat
           rw [← Ny173.out] at ho
           have n0_ := Aside0.mk (Kd.R_after (ok := (fun k_ => some k_ ≠ (.slice Ao74 y170.length co74 : Value).ownBlock ∧ k_ ≠ gb150)) (by (with_reducible repeat (first | apply Kd.R_alloc | apply Kd.R_drewN | apply Kd.R_drew)); exact Kd.R_mono HO_156000.out (fun _ hk => ⟨⟨hk.2.1, hk.2.2⟩, hk.1⟩)) hg hat)
           have n1_ := Aside0.mk (blk_grown (g := gb149) (o := .cells #[.slice (some ad158) l0_0.length c0_0] 39 (0, 0)) (Cmp.b BK149.out) hg (Kd.R_ne HO169.out BK149.out (by decide)))
           have n2_ := Aside0.mk (blk_grown (g := gb150) (o := .cells #[.int .i64 a1_0, .int .i64 a1_1, .int .i64 a1_2, .bool a1_3] 64 (0, 0)) (Cmp.b BK150.out) hg (Kd.R_away HO169.out (fun _ hk => hk.2.2)))
           have n3_ := Aside0.mk (blk_grown (g := gb151) (o := .cells #[.slice none 0 0] 39 (0, 0)) (Cmp.b BK151.out) hg (Kd.R_ne HO169.out BK151.out (by decide)))
           have n4_ := Aside0.mk (blk_grown (g := gb155) (o := .cells #[.slice Ao40 t152.length co40] 39 (0, 0)) (Cmp.b BK155.out) hg (Kd.R_ne HO169.out BK155.out (by decide)))
           have n5_ := Aside0.mk (Kd.R_after (ok := (fun k_ => some k_ ≠ (.slice Ao40 t152.length co40 : Value).ownBlock ∧ k_ ≠ gb150)) (by (with_reducible repeat (first | apply Kd.R_alloc | apply Kd.R_drewN | apply Kd.R_drew)); exact Kd.R_mono HO172.out (fun _ hk => ⟨⟨hk.2.1, hk.2.2⟩, hk.1⟩)) hg hat)
           have n6_ := Aside0.mk (hb)
           have n7_ := Aside0.mk (ho)
           clear HO_156000; clear BK149; clear BK150; clear BK151; clear BK155; clear HO172; clear HB; clear HO169; have HO_156000 := n0_; have BK149 := n1_; have BK150 := n2_; have BK151 := n3_; have BK155 := n4_; have HO172 := n5_; have HB := n6_; have HO175 := n7_; clear n0_ n1_ n2_ n3_ n4_ n5_ n6_ n7_; clear ho hb hg hat
           refine hK.out _ _ ⟨(blk_cell BK149.out 0).trans rfl, (blk_cell BK150.out 0).trans rfl, (blk_cell BK150.out 1).trans rfl, (blk_cell BK150.out 2).trans rfl, (blk_cell BK150.out 3).trans rfl⟩ (fun hHeld => ?_)
           clear hK K
           refine norm_ (a' := ?_) ?_ ?_
           rotate_left
           ·show Act.put _ (some 51) _ = _
            simp only [Act.put, Cmp.s, Cmp.z, Cmp.c, i64_w, i32_w]; rfl
           refine one_ (i := 13) (N := some 56) (Cmp.bm 14 2) rfl rfl (one_of HT_.out (by kernel_rfl)) (by decide) (fun K hK => ?_)
           refine Kd.R_append_rows_step k64 (w0 := w) w.heap.size (by rfl) (.tmp 51) (.tmp 55) 37 64 (.agg #[(.int .i64 0), (.int .i64 0), (.int .i64 0), (.bool false)]) 32 rfl Try.underlying37 info64 rfl (by decide) (by omega) v174 y173 y176 _ _ _ (fun k_ => some k_ ≠ (.slice Ao40 t152.length co40 : Value).ownBlock ∧ some k_ ≠ (.slice Ao74 y170.length co74 : Value).ownBlock ∧ k_ ≠ gb150) (fun _ => False) rfl rfl ?aO ?aR (fun _ _ h => h) (fun _ h => h.elim) ?aF ?aB ?aS ?aL ?_
           (case aR => repeat (first | exact (Kd.C_below HR179.out HB.out) | (with_reducible refine Kd.C_alloc ?_ _) | (with_reducible refine Kd.C_drewN ?_ _) | (with_reducible refine Kd.C_drew ?_)))
           (case aB => exact (Cmp.g HB.out))
           (case aF => exact (fun k_ hk => ⟨Kd.fresh' (Kd.R_lt (Cmp.rr HO_156000.out)) k_ hk, Kd.fresh' (Kd.R_lt (Cmp.rr HO172.out)) k_ hk, Kd.freshB (g := gb150) (o := .cells #[.int .i64 a1_0, .int .i64 a1_1, .int .i64 a1_2, .bool a1_3] 64 (0, 0)) (Cmp.b BK150.out) k_ hk⟩))
           (case aO => exact (Cmp.rr HO175.out))
           (case aS => exact (below_size (Cmp.g HB.out)))
           (case aL => have := LMc61.out; omega)
           intro v181 w75 ho hb hg hat
           rw [← Ny180.out] at ho
           have n0_ := Aside0.mk (Kd.R_after (ok := (fun k_ => some k_ ≠ (.slice Ao74 y170.length co74 : Value).ownBlock ∧ k_ ≠ gb150)) (Cmp.rr HO_156000.out) hg hat)
           have n1_ := Aside0.mk (blk_grown (g := gb149) (o := .cells #[.slice (some ad158) l0_0.length c0_0] 39 (0, 0)) (Cmp.b BK149.out) hg (Kd.R_ne HO175.out BK149.out (by decide)))
           have n2_ := Aside0.mk (blk_grown (g := gb150) (o := .cells #[.int .i64 a1_0, .int .i64 a1_1, .int .i64 a1_2, .bool a1_3] 64 (0, 0)) (Cmp.b BK150.out) hg (Kd.R_away HO175.out (fun _ hk => hk.2.2)))
           have n3_ := Aside0.mk (blk_grown (g := gb151) (o := .cells #[.slice none 0 0] 39 (0, 0)) (Cmp.b BK151.out) hg (Kd.R_ne HO175.out BK151.out (by decide)))
           have n4_ := Aside0.mk (blk_grown (g := gb155) (o := .cells #[.slice Ao40 t152.length co40] 39 (0, 0)) (Cmp.b BK155.out) hg (Kd.R_ne HO175.out BK155.out (by decide)))
           have n5_ := Aside0.mk (Kd.R_after (ok := (fun k_ => some k_ ≠ (.slice Ao40 t152.length co40 : Value).ownBlock ∧ k_ ≠ gb150)) (Cmp.rr HO172.out) hg hat)
           have n6_ := Aside0.mk (hb)
           have n7_ := Aside0.mk (ho)
           clear HO_156000; clear BK149; clear BK150; clear BK151; clear BK155; clear HO172; clear HB; clear HO175; have HO_156000 := n0_; have BK149 := n1_; have BK150 := n2_; have BK151 := n3_; have BK155 := n4_; have HO172 := n5_; have HB := n6_; have HO182 := n7_; clear n0_ n1_ n2_ n3_ n4_ n5_ n6_ n7_; clear ho hb hg hat
           obtain ⟨Ao76, co76, eo76⟩ := Kd.R_slice HO182.out
           (first | subst eo76 | (injection eo76 with f1_ f2_ f3_; have f4_ := f1_.symm; have f5_ := f3_.symm; clear f1_ f2_ f3_; subst f4_; subst f5_))
           refine hK.out _ _ ⟨(blk_cell BK149.out 0).trans rfl, (blk_cell BK150.out 0).trans rfl, (blk_cell BK150.out 1).trans rfl, (blk_cell BK150.out 2).trans rfl, (blk_cell BK150.out 3).trans rfl⟩ (fun hHeld => ?_)
           clear hK K
           refine norm_ (a' := ?_) ?_ ?_
           rotate_left
           ·show Act.put _ (some 56) _ = _
            simp only [Act.put, Cmp.s, Cmp.z, Cmp.c, i64_w, i32_w]; rfl
           refine Cmp.pu HT_ 14 57 (Cmp.bm 15 1) ?_
           refine one_ (i := 15) (N := none) (Cmp.bm 16 0) rfl rfl (one_of HT_.out (by kernel_rfl)) (by decide) (fun K hK => ?_)
           have hs77 : w75.cell? ⟨gb155, 0, none⟩ = some (.slice Ao40 t152.length co40) := (blk_cell BK155.out 0).trans rfl
           have hfs77 := blk_frozen BK155.out 0; have hns77_0 := NB149_155.out; have hns77_1 := NB150_155.out; have hns77_2 := NB151_155.out; have hms77_0 := NB155_149.out; have hms77_1 := NB155_150.out; have hms77_2 := NB155_151.out
           refine skip_ (w1 := ?_) (by rfl) rfl ?_ ?_
           rotate_left
           ·go_simp; rfl
           refine hK.out _ _ ⟨((cell_far (p := ⟨gb155, _, none⟩) NB149_155.out _).trans (hHeld.1)), ((cell_far (p := ⟨gb155, _, none⟩) NB150_155.out _).trans (hHeld.2.1)), ((cell_far (p := ⟨gb155, _, none⟩) NB150_155.out _).trans (hHeld.2.2.1)), ((cell_far (p := ⟨gb155, _, none⟩) NB150_155.out _).trans (hHeld.2.2.2.1)), ((cell_far (p := ⟨gb155, _, none⟩) NB150_155.out _).trans (hHeld.2.2.2.2))⟩ (fun hHeld => ?_)
           clear hK K
           refine done_ (done_of HT_.out (by kernel_rfl)) ?_
           have hnb78 := NB155_149.out; have hnc78 := NB149_155.out; have hnb79 := NB155_150.out; have hnc79 := NB150_155.out; have hnb80 := NB155_151.out; have hnc80 := NB151_155.out
           have hcz81_0 : w75.cell? ⟨gb155, 0, none⟩ = some (.slice Ao40 t152.length co40) := (blk_cell BK155.out 0).trans rfl
           have hfz81_0 := blk_frozen BK155.out 0; have hnb82 := NB151_149.out; have hnc82 := NB149_151.out; have hnb83 := NB151_150.out; have hnc83 := NB150_151.out
           have hcz84_0 : w75.cell? ⟨gb151, 0, none⟩ = some (.slice none 0 0) := (blk_cell BK151.out 0).trans rfl
           have hfz84_0 := blk_frozen BK151.out 0
           try go_wp2
           refine bodyPost_ret (results_cell_row rfl _ _ gb151 39 #[.slice Ao76 y180.length co76] (0, 0) _ rfl (by (with_reducible repeat (first | refine blk_drewN ?_ _ | refine blk_drew ?_ | refine blk_alloc ?_ _)); refine blk_put (cs := #[.slice none 0 0]) ?_ 0 _ rfl; (with_reducible repeat (first | refine blk_drewN ?_ _ | refine blk_drew ?_ | refine blk_alloc ?_ _)); refine blk_far ?_ NB151_155.out _; (with_reducible repeat (first | refine blk_drewN ?_ _ | refine blk_drew ?_ | refine blk_alloc ?_ _)); exact BK151.out) Try.underlying39 rfl (by kernel_rfl)) rfl ?_
           exact ⟨_, by first | rfl | (simp [errW_none, errW_some] <;> rfl) | (simp [*, errW_none, errW_some] <;> rfl), by (with_reducible repeat (first | apply Kd.R_alloc | apply Kd.R_drewN | apply Kd.R_drew)); exact Kd.R_mono (Kd.R_far (p := ⟨gb151, 0, none⟩) (Kd.R_far (p := ⟨gb155, 0, none⟩) (Kd.R_types (Kd.R_types HO182.out BK155.out (by decide)) BK151.out (by decide)) (fun _ hk => hk.1.2) (.slice Ao76 y180.length co76)) (fun _ hk => hk.2) (.slice Ao76 y180.length co76)) (fun _ hk => trivial), Cmp.g HB.out⟩
          ·rw [if_neg c61] at H; exact absurd H (by simp)
         ·rw [if_neg c58] at H; exact absurd H (by simp)
        ·rw [if_neg c57] at H; exact absurd H (by simp)
       ·rw [if_neg c56] at H; exact absurd H (by simp)
     ·rw [if_neg c50] at H; exact absurd H (by simp)
    ·rw [if_neg c49] at H
     have c49b0 : decide (x7_1 < (l0_0.length : Int)) = false := decide_eq_false c49
     clear c49
     obtain ⟨y183, hy183⟩ : ∃ y_ : List (S64), y_ = (([] : List (S64))) := ⟨_, rfl⟩
     replace H : (if 0 ≤ x7_1 then (if x7_1 ≤ (l0_0.length : Int) then ((some (l0_0.take (x7_1 : Int).toNat : List (S64))).bind fun y186 => (if y183.length + y186.length < 4398046511104 then ((some (y183 ++ y186 : List (S64))).bind fun y190 => ((some (([(⟨a1_0, a1_1, a1_2, a1_3⟩ : S64)] : List (S64)) : List (S64))).bind fun y193 => (if y190.length + y193.length < 4398046511104 then ((some (y190 ++ y193 : List (S64))).bind fun y196 => ((some (l0_0.drop (x7_1 : Int).toNat : List (S64))).bind fun y199 => (if y196.length + y199.length < 4398046511104 then (some (y196 ++ y199)) else (none)))) else (none)))) else (none))) else (none)) else (none)) = some r := by first | (rw [hy183]; with_reducible exact H) | (have H2_ := (Option.bind_some _ _).symm.trans H; rw [hy183]; with_reducible exact H2_) | (have H2_ := (Option.bind_some _ _).symm.trans H; with_reducible exact H2_) | with_reducible exact H | (rw [hy183]; exact H) | exact H
     have Ny183 := Aside0.mk hy183; clear hy183
     by_cases c85 : 0 ≤ x7_1
     ·rw [if_pos c85] at H
      have c85b0 := eq_true c85
      have c85b1 : decide (0 ≤ x7_1) = true := decide_eq_true c85; clear c85
      by_cases c86 : x7_1 ≤ (l0_0.length : Int)
      ·rw [if_pos c86] at H
       have c86b0 := eq_true c86
       have c86b1 : decide (x7_1 ≤ (l0_0.length : Int)) = true := decide_eq_true c86
       clear c86
       obtain ⟨y186, hy186⟩ : ∃ y_ : List (S64), y_ = (l0_0.take (x7_1 : Int).toNat) := ⟨_, rfl⟩
       replace H : (if y183.length + y186.length < 4398046511104 then ((some (y183 ++ y186 : List (S64))).bind fun y190 => ((some (([(⟨a1_0, a1_1, a1_2, a1_3⟩ : S64)] : List (S64)) : List (S64))).bind fun y193 => (if y190.length + y193.length < 4398046511104 then ((some (y190 ++ y193 : List (S64))).bind fun y196 => ((some (l0_0.drop (x7_1 : Int).toNat : List (S64))).bind fun y199 => (if y196.length + y199.length < 4398046511104 then (some (y196 ++ y199)) else (none)))) else (none)))) else (none)) = some r := by first | (rw [hy186]; with_reducible exact H) | (have H2_ := (Option.bind_some _ _).symm.trans H; rw [hy186]; with_reducible exact H2_) | (have H2_ := (Option.bind_some _ _).symm.trans H; with_reducible exact H2_) | with_reducible exact H | (rw [hy186]; exact H) | exact H
       have Ny186 := Aside0.mk hy186; clear hy186
       by_cases c87 : y183.length + y186.length < 4398046511104
       ·rw [if_pos c87] at H; have LMc87 := Aside0.mk c87; clear c87
        obtain ⟨y190, hy190⟩ : ∃ y_ : List (S64), y_ = (y183 ++ y186) := ⟨_, rfl⟩
        replace H : ((some (([(⟨a1_0, a1_1, a1_2, a1_3⟩ : S64)] : List (S64)) : List (S64))).bind fun y193 => (if y190.length + y193.length < 4398046511104 then ((some (y190 ++ y193 : List (S64))).bind fun y196 => ((some (l0_0.drop (x7_1 : Int).toNat : List (S64))).bind fun y199 => (if y196.length + y199.length < 4398046511104 then (some (y196 ++ y199)) else (none)))) else (none))) = some r := by first | (rw [hy190]; with_reducible exact H) | (have H2_ := (Option.bind_some _ _).symm.trans H; rw [hy190]; with_reducible exact H2_) | (have H2_ := (Option.bind_some _ _).symm.trans H; with_reducible exact H2_) | with_reducible exact H | (rw [hy190]; exact H) | exact H
        have Ny190 := Aside0.mk hy190; clear hy190
        obtain ⟨y193, hy193⟩ : ∃ y_ : List (S64), y_ = (([(⟨a1_0, a1_1, a1_2, a1_3⟩ : S64)] : List (S64))) := ⟨_, rfl⟩
        replace H : (if y190.length + y193.length < 4398046511104 then ((some (y190 ++ y193 : List (S64))).bind fun y196 => ((some (l0_0.drop (x7_1 : Int).toNat : List (S64))).bind fun y199 => (if y196.length + y199.length < 4398046511104 then (some (y196 ++ y199)) else (none)))) else (none)) = some r := by first | (rw [hy193]; with_reducible exact H) | (have H2_ := (Option.bind_some _ _).symm.trans H; rw [hy193]; with_reducible exact H2_) | (have H2_ := (Option.bind_some _ _).symm.trans H; with_reducible exact H2_) | with_reducible exact H | (rw [hy193]; exact H) | exact H
        have Ny193 := Aside0.mk hy193; clear hy193
        by_cases c88 : y190.length + y193.length < 4398046511104
        ·rw [if_pos c88] at H; have LMc88 := Aside0.mk c88; clear c88
         obtain ⟨y196, hy196⟩ : ∃ y_ : List (S64), y_ = (y190 ++ y193) := ⟨_, rfl⟩
         replace H : ((some (l0_0.drop (x7_1 : Int).toNat : List (S64))).bind fun y199 => (if y196.length + y199.length < 4398046511104 then (some (y196 ++ y199)) else (none))) = some r := by first | (rw [hy196]; with_reducible exact H) | (have H2_ := (Option.bind_some _ _).symm.trans H; rw [hy196]; with_reducible exact H2_) | (have H2_ := (Option.bind_some _ _).symm.trans H; with_reducible exact H2_) | with_reducible exact H | (rw [hy196]; exact H) | exact H
         have Ny196 := Aside0.mk hy196; clear hy196
         have c89b0 := eq_true (of_decide_eq_true Cmp.d : 0 ≤ x7_1)
         have c90b0 := eq_true (of_decide_eq_true Cmp.d : x7_1 ≤ (l0_0.length : Int))
         obtain ⟨y199, hy199⟩ : ∃ y_ : List (S64), y_ = (l0_0.drop (x7_1 : Int).toNat) := ⟨_, rfl⟩
         replace H : (if y196.length + y199.length < 4398046511104 then (some (y196 ++ y199)) else (none)) = some r := by first | (rw [hy199]; with_reducible exact H) | (have H2_ := (Option.bind_some _ _).symm.trans H; rw [hy199]; with_reducible exact H2_) | (have H2_ := (Option.bind_some _ _).symm.trans H; with_reducible exact H2_) | with_reducible exact H | (rw [hy199]; exact H) | exact H
         have Ny199 := Aside0.mk hy199; clear hy199
         by_cases c91 : y196.length + y199.length < 4398046511104
         ·rw [if_pos c91] at H; have LMc91 := Aside0.mk c91; clear c91
          obtain ⟨y203, hy203⟩ : ∃ y_ : List (S64), y_ = (y196 ++ y199) := ⟨_, rfl⟩
          replace H : (some y203) = some r := by first | (rw [hy203]; with_reducible exact H) | (have H2_ := (Option.bind_some _ _).symm.trans H; rw [hy203]; with_reducible exact H2_) | (have H2_ := (Option.bind_some _ _).symm.trans H; with_reducible exact H2_) | with_reducible exact H | (rw [hy203]; exact H) | exact H
          have Ny203 := Aside0.mk hy203; clear hy203
          obtain rfl := Option.some.inj H
          try go_wp2
          have n0_ := Aside0.mk (Kd.R_drew HO_156000.out); have n1_ := Aside0.mk (blk_drew BK149.out); have n2_ := Aside0.mk (blk_drew BK150.out); have n3_ := Aside0.mk (blk_drew BK151.out); have n4_ := Aside0.mk (blk_drew BK155.out); have n5_ := Aside0.mk (below_drew1 HB.out); clear HO_156000; clear BK149; clear BK150; clear BK151; clear BK155; clear HB; have HO_156000 := n0_; have BK149 := n1_; have BK150 := n2_; have BK151 := n3_; have BK155 := n4_; have HB := n5_; clear n0_ n1_ n2_ n3_ n4_ n5_
          refine start_ (n := 17) (S := fun w' => w'.cell? ⟨gb149, 0, none⟩ = some (.slice A0_0 l0_0.length c0_0)) (ds := []) (Cmp.bm 0 17) (by kernel_rfl) rfl rfl ((blk_cell BK149.out 0).trans rfl) (fun hHeld => ?_); refine with_tabW spec_l17Set.tab7 spec_l17Set.bits7 (fun HT_ HW_ => ?_)
          generalize wr.drew = w92 at HO_156000 BK149 BK150 BK151 BK155 HB hHeld ⊢
          refine Cmp.pu HT_ 0 24 (Cmp.bm 1 16) ?_; refine Cmp.pu HT_ 1 25 (Cmp.bm 2 15) ?_
          refine take_ (i := 2) (N := some 26) (v := ?_) (a' := ?_) (Cmp.bm 3 14) rfl rfl (take_ofW HT_.out HW_.out (by kernel_rfl)) (fun _ _ _ h => h) (Or.inl ⟨by rfl, ?_⟩) hHeld ?_ ?_
          rotate_left
          ·intro w' s0
           go_simp; with_reducible rfl
          rotate_left
          ·simp only [Act.put, Cmp.s, Cmp.z, Cmp.c, i64_w, i32_w]; rfl
          refine Cmp.pu HT_ 3 27 (Cmp.bm 4 13) ?_; refine Cmp.pu HT_ 4 28 (Cmp.bm 5 12) ?_; refine Cmp.pu HT_ 5 29 (Cmp.bm 6 11) ?_; refine Cmp.pv HT_ 6 30 (Cmp.bm 7 10) ?_; refine Cmp.pv HT_ 7 31 (Cmp.bm 8 9) ?_; refine Cmp.pv HT_ 8 32 (Cmp.bm 9 8) ?_; refine Cmp.pv HT_ 9 33 (Cmp.bm 10 7) ?_; refine Cmp.pv HT_ 10 34 (Cmp.bm 11 6) ?_; refine Cmp.pv HT_ 11 35 (Cmp.bm 12 5) ?_; refine Cmp.pv HT_ 12 36 (Cmp.bm 13 4) ?_; refine Cmp.pv HT_ 13 37 (Cmp.bm 14 3) ?_; refine Cmp.pv HT_ 14 38 (Cmp.bm 15 2) ?_; refine Cmp.pv HT_ 15 39 (Cmp.bm 16 1) ?_; refine Cmp.pu HT_ 16 40 (Cmp.bm 17 0) ?_
          refine done_ (done_of HT_.out (by kernel_rfl)) ?_
          try go_wp2
          have n0_ := Aside0.mk (Kd.R_drew HO_156000.out); have n1_ := Aside0.mk (blk_drew BK149.out); have n2_ := Aside0.mk (blk_drew BK150.out); have n3_ := Aside0.mk (blk_drew BK151.out); have n4_ := Aside0.mk (blk_drew BK155.out); have n5_ := Aside0.mk (below_drew1 HB.out); clear HO_156000; clear BK149; clear BK150; clear BK151; clear BK155; clear HB; have HO_156000 := n0_; have BK149 := n1_; have BK150 := n2_; have BK151 := n3_; have BK155 := n4_; have HB := n5_; clear n0_ n1_ n2_ n3_ n4_ n5_
          have q94 : (x7_1 : Int) ≤ ((l0_0.length : Int) : Int) := of_decide_eq_true Cmp.d
          obtain ⟨i094, hi094, _, hsz94, _⟩ := info_parts info64
          have hroom94 : l0_0.length ≤ c0_0 := HC0_0.out
          have hC94 : Kd.C k64 _ A0_0 l0_0.length l0_0 := HR0_0.out
          have hcut94 := cut_to (P := Try.prog) 37 64 .i64 Try.underlying37 hi094 A0_0 l0_0.length c0_0 x7_1 (of_decide_eq_true Cmp.d) q94 hroom94
          have hr94 := Kd.C_take (m := (x7_1 : Int).toNat) hC94 (by omega)
          have hy94 : y186.length = (x7_1 : Int).toNat := (by rw [Ny186.out, List.length_take]; omega)
          rw [← Ny186.out] at hr94
          rw [← hy94] at hcut94
          have HR189 := Aside0.mk hr94
          have HC189 := Aside0.mk (show y186.length ≤ c0_0 from by omega)
          clear hr94 hC94 hroom94 hi094 hsz94; have KY94 := Aside0.mk hy94; clear hy94; replace q94 := eq_true q94
          have q95 : (x7_1 : Int) ≤ ((l0_0.length : Int) : Int) := of_decide_eq_true Cmp.d
          obtain ⟨i095, hi095, _, hsz95, _⟩ := info_parts info64
          have hroom95 : l0_0.length ≤ c0_0 := HC0_0.out
          have hC95 : Kd.C k64 _ A0_0 l0_0.length l0_0 := HR0_0.out
          have q095 : (0 : Int) ≤ (x7_1 : Int) := of_decide_eq_true Cmp.d
          have hcut95 := cut_from (P := Try.prog) 37 64 .i64 Try.underlying37 hi095 4 hsz95 A0_0 l0_0.length c0_0 x7_1 q095 q95
          have hr95 := Kd.C_drop (m := (x7_1 : Int).toNat) (c := c0_0) hC95 (by omega) hroom95
          obtain ⟨A95, hA95⟩ : ∃ A1, A1 = (if c0_0 = (x7_1 : Int).toNat then A0_0 else (A0_0 : Option Addr).map (·.add ((x7_1 : Int).toNat * 4))) := ⟨_, rfl⟩
          obtain ⟨c95, hc95⟩ : ∃ c1, c1 = c0_0 - (x7_1 : Int).toNat := ⟨_, rfl⟩
          have hy95 : y199.length = l0_0.length - (x7_1 : Int).toNat := (by rw [Ny199.out, List.length_drop] <;> omega)
          rw [show (l0_0).drop (x7_1 : Int).toNat = y199 from Ny199.out.symm] at hr95
          replace hr95 : Kd.C k64 _ A95 y199.length y199 := (by rw [hA95]; exact hr95)
          rw [← hy95, ← hA95, ← hc95] at hcut95
          have HR202 := Aside0.mk hr95
          have HC202 := Aside0.mk (show y199.length ≤ c95 from by rw [hy95, hc95]; exact Nat.sub_le_sub_right hroom95 _)
          clear hr95 hC95 hroom95 hi095 hsz95 hc95; have KY95 := Aside0.mk hy95; have KA95 := Aside0.mk hA95; clear hy95 hA95; replace q95 := eq_true q95
          refine start_ (n := 16) (S := fun w' => w'.cell? ⟨gb149, 0, none⟩ = some (.slice A0_0 l0_0.length c0_0) ∧ w'.cell? ⟨gb150, 0, none⟩ = some (.int .i64 a1_0) ∧ w'.cell? ⟨gb150, 1, none⟩ = some (.int .i64 a1_1) ∧ w'.cell? ⟨gb150, 2, none⟩ = some (.int .i64 a1_2) ∧ w'.cell? ⟨gb150, 3, none⟩ = some (.bool a1_3)) (ds := []) (Cmp.bm 0 16) (by kernel_rfl) rfl rfl ⟨(blk_cell BK149.out 0).trans rfl, (blk_cell BK150.out 0).trans rfl, (blk_cell BK150.out 1).trans rfl, (blk_cell BK150.out 2).trans rfl, (blk_cell BK150.out 3).trans rfl⟩ (fun hHeld => ?_); refine with_tabW spec_l17Set.tab9 spec_l17Set.bits9 (fun HT_ HW_ => ?_)
          generalize w92.drew = w93 at HO_156000 BK149 BK150 BK151 BK155 HB HR189 HR202 hHeld ⊢
          refine Cmp.pu HT_ 1 44 (Cmp.bb 16 2) ?_; refine Cmp.pu HT_ 3 46 (Cmp.bb 16 10) ?_; refine Cmp.pu HT_ 9 52 (Cmp.bb 16 522) ?_; refine Cmp.pu HT_ 11 54 (Cmp.bb 16 2570) ?_; refine Cmp.tk HT_ HW_ hHeld 2 45 (Cmp.bb 16 2574) ?_; refine Cmp.pu HT_ 4 47 (Cmp.bb 16 2590) ?_; refine Cmp.tk HT_ HW_ hHeld 6 49 (Cmp.bb 16 2654) ?_; refine Cmp.tk HT_ HW_ hHeld 10 53 (Cmp.bb 16 3678) ?_; refine Cmp.pu HT_ 12 55 (Cmp.bb 16 7774) ?_
          refine join_ (σ := Value × Value × Value) 4 (Cmp.bb 16 7935) (fun s_ => [(43, s_.1), (48, s_.2.1), (50, s_.2.2)]) (fun s_ w' => (w'.cell? ⟨gb149, 0, none⟩ = some (.slice A0_0 l0_0.length c0_0) ∧ w'.cell? ⟨gb150, 0, none⟩ = some (.int .i64 a1_0) ∧ w'.cell? ⟨gb150, 1, none⟩ = some (.int .i64 a1_1) ∧ w'.cell? ⟨gb150, 2, none⟩ = some (.int .i64 a1_2) ∧ w'.cell? ⟨gb150, 3, none⟩ = some (.bool a1_3)) ∧ (Kd.R k64 64 w' w.heap.size (fun k_ => some k_ ≠ (s_.2.2 : Value).ownBlock ∧ some k_ ≠ (.slice Ao40 t152.length co40 : Value).ownBlock ∧ k_ ≠ gb150) s_.2.1 y190) ∧ (Kd.R k64 64 w' w.heap.size (fun k_ => some k_ ≠ (s_.2.1 : Value).ownBlock ∧ some k_ ≠ (.slice Ao40 t152.length co40 : Value).ownBlock ∧ k_ ≠ gb150) s_.2.2 y193) ∧ (Kd.R k64 64 w' w.heap.size (fun k_ => some k_ ≠ (s_.2.1 : Value).ownBlock ∧ some k_ ≠ (s_.2.2 : Value).ownBlock ∧ k_ ≠ gb150) (.slice Ao40 t152.length co40) t152) ∧ (w'.heap[gb149]? = some (.cells #[.slice A0_0 l0_0.length c0_0] 39 (0, 0))) ∧ (w'.heap[gb150]? = some (.cells #[.int .i64 a1_0, .int .i64 a1_1, .int .i64 a1_2, .bool a1_3] 64 (0, 0))) ∧ (w'.heap[gb151]? = some (.cells #[.slice none 0 0] 39 (0, 0))) ∧ (w'.heap[gb155]? = some (.cells #[.slice Ao40 t152.length co40] 39 (0, 0))) ∧ (Below w.heap.size w w')) ?_ ?_
          rotate_left
          ·intro hCont
           refine two_ (i := 0) (j := 7) (Ni := some 43) (Nj := some 50) (Cmp.bb 16 7775) (Cmp.bb 16 7902) rfl rfl rfl rfl (two_of HT_.out (by kernel_rfl)) (by decide) (by decide) (fun K hK => ?_) (fun K hK => ?_)
           ·skip
            refine Kd.R_lit_step k64 _ 64 ?hg (N := 43) ?hd (xs := ([] : List (S64))) (inner := []) (ok := fun _ => True) (okp := fun _ => True) ?hr ?hp (fun _ hk => hk) trivial (Below.refl _ _) (Nat.le_refl _) (by simp) ?_; (case hd => rfl); (case hg => rfl); (case hr => first | (go_simp; done) | (go_simp; rfl)); (case hp => exact (Reps.none _ _))
            intro v184 w96 ho97 hb hg_ hnew_
            clear hg_ hnew_
            (first | rw [← Ny183.out] at ho97 | (simp only [Int.reduceToNat] at ho97; rw [← Ny183.out] at ho97))
            have n0_ := Aside0.mk (Kd.R_elder' (Cmp.rr HO_156000.out) (Kd.R_base ho97) hb)
            have n1_ := Aside0.mk (Kd.R_lower (Kd.R_newB (Kd.R_new' ho97 (Kd.R_lt (Cmp.rr HO_156000.out))) (g := gb150) (o := .cells #[.int .i64 a1_0, .int .i64 a1_1, .int .i64 a1_2, .bool a1_3] 64 (0, 0)) (Cmp.b BK150.out)) (below_size (Cmp.g HB.out)))
            have n2_ := Aside0.mk (blk_below (g := gb149) (o := .cells #[.slice A0_0 l0_0.length c0_0] 39 (0, 0)) (Cmp.b BK149.out) hb)
            have n3_ := Aside0.mk (blk_below (g := gb150) (o := .cells #[.int .i64 a1_0, .int .i64 a1_1, .int .i64 a1_2, .bool a1_3] 64 (0, 0)) (Cmp.b BK150.out) hb)
            have n4_ := Aside0.mk (blk_below (g := gb151) (o := .cells #[.slice none 0 0] 39 (0, 0)) (Cmp.b BK151.out) hb)
            have n5_ := Aside0.mk (blk_below (g := gb155) (o := .cells #[.slice Ao40 t152.length co40] 39 (0, 0)) (Cmp.b BK155.out) hb)
            have n6_ := Aside0.mk (below_step (Cmp.g HB.out) hb)
            clear HO_156000; clear BK149; clear BK150; clear BK151; clear BK155; clear HB; have HO_156000 := n0_; have HO185 := n1_; have BK149 := n2_; have BK150 := n3_; have BK151 := n4_; have BK155 := n5_; have HB := n6_; clear n0_ n1_ n2_ n3_ n4_ n5_ n6_; clear hb ho97
            refine hK.out _ _ ⟨(blk_cell BK149.out 0).trans rfl, (blk_cell BK150.out 0).trans rfl, (blk_cell BK150.out 1).trans rfl, (blk_cell BK150.out 2).trans rfl, (blk_cell BK150.out 3).trans rfl⟩ (fun hHeld => ?_)
            clear hK K
            refine norm_ (a' := ?_) ?_ ?_
            rotate_left
            ·show Act.put _ (some 43) _ = _
             simp only [Act.put, Cmp.s, Cmp.z, Cmp.c, i64_w, i32_w]; rfl
            refine two_ (i := 5) (j := 7) (Ni := some 48) (Nj := some 50) (Cmp.bb 16 7807) (Cmp.bb 16 7903) rfl rfl rfl rfl (two_of HT_.out (by kernel_rfl)) (by decide) (by decide) (fun K hK => ?_) (fun K hK => ?_)
            ·skip
             refine Kd.R_append_rows_step k64 (w0 := w) w.heap.size (by rfl) (.tmp 43) (.tmp 47) 37 64 (.agg #[(.int .i64 0), (.int .i64 0), (.int .i64 0), (.bool false)]) 32 rfl Try.underlying37 info64 rfl (by decide) (by omega) v184 y183 y186 _ _ _ (fun k_ => some k_ ≠ (.slice Ao40 t152.length co40 : Value).ownBlock ∧ k_ ≠ gb150) (fun _ => False) rfl rfl ?aO ?aR (fun _ _ h => h) (fun _ h => h.elim) ?aF ?aB ?aS ?aL ?_
             (case aR => repeat (first | exact (Kd.C_below HR189.out HB.out) | (with_reducible refine Kd.C_alloc ?_ _) | (with_reducible refine Kd.C_drewN ?_ _) | (with_reducible refine Kd.C_drew ?_)))
             (case aB => exact (Cmp.g HB.out))
             (case aF => exact (fun k_ hk => ⟨Kd.fresh' (Kd.R_lt (Cmp.rr HO_156000.out)) k_ hk, Kd.freshB (g := gb150) (o := .cells #[.int .i64 a1_0, .int .i64 a1_1, .int .i64 a1_2, .bool a1_3] 64 (0, 0)) (Cmp.b BK150.out) k_ hk⟩))
             (case aO => exact (by (with_reducible repeat (first | apply Kd.R_alloc | apply Kd.R_drewN | apply Kd.R_drew)); exact Kd.R_mono HO185.out (fun _ hk => ⟨hk.1.2, hk.2⟩)))
             (case aS => exact (below_size (Cmp.g HB.out)))
             (case aL => have := LMc87.out; omega)
             intro v191 w98 ho hb hg hat
             rw [← Ny190.out] at ho
             have n0_ := Aside0.mk (Kd.R_after (ok := (fun k_ => k_ ≠ gb150)) (Cmp.rr HO_156000.out) hg hat)
             have n1_ := Aside0.mk (blk_grown (g := gb149) (o := .cells #[.slice A0_0 l0_0.length c0_0] 39 (0, 0)) (Cmp.b BK149.out) hg (Kd.R_ne HO185.out BK149.out (by decide)))
             have n2_ := Aside0.mk (blk_grown (g := gb150) (o := .cells #[.int .i64 a1_0, .int .i64 a1_1, .int .i64 a1_2, .bool a1_3] 64 (0, 0)) (Cmp.b BK150.out) hg (Kd.R_away HO185.out (fun _ hk => hk.2)))
             have n3_ := Aside0.mk (blk_grown (g := gb151) (o := .cells #[.slice none 0 0] 39 (0, 0)) (Cmp.b BK151.out) hg (Kd.R_ne HO185.out BK151.out (by decide)))
             have n4_ := Aside0.mk (blk_grown (g := gb155) (o := .cells #[.slice Ao40 t152.length co40] 39 (0, 0)) (Cmp.b BK155.out) hg (Kd.R_ne HO185.out BK155.out (by decide)))
             have n5_ := Aside0.mk (hb)
             have n6_ := Aside0.mk (ho)
             clear HO_156000; clear BK149; clear BK150; clear BK151; clear BK155; clear HB; clear HO185; have HO_156000 := n0_; have BK149 := n1_; have BK150 := n2_; have BK151 := n3_; have BK155 := n4_; have HB := n5_; have HO192 := n6_; clear n0_ n1_ n2_ n3_ n4_ n5_ n6_; clear ho hb hg hat
             refine hK.out _ _ ⟨(blk_cell BK149.out 0).trans rfl, (blk_cell BK150.out 0).trans rfl, (blk_cell BK150.out 1).trans rfl, (blk_cell BK150.out 2).trans rfl, (blk_cell BK150.out 3).trans rfl⟩ (fun hHeld => ?_)
             clear hK K
             refine norm_ (a' := ?_) ?_ ?_
             rotate_left
             ·show Act.put _ (some 48) _ = _
              simp only [Act.put, Cmp.s, Cmp.z, Cmp.c, i64_w, i32_w]; rfl
             refine one_ (i := 7) (N := some 50) (Cmp.bb 16 7935) rfl rfl (one_of HT_.out (by kernel_rfl)) (by decide) (fun K hK => ?_)
             refine Kd.R_lit_step k64 _ 64 ?hg (N := 50) ?hd (xs := ([(⟨a1_0, a1_1, a1_2, a1_3⟩ : S64)] : List (S64))) (inner := [.int .i64 a1_0, .int .i64 a1_1, .int .i64 a1_2, .bool a1_3]) (ok := fun _ => True) (okp := fun _ => True) ?hr ?hp (fun _ hk => hk) trivial (Below.refl _ _) (Nat.le_refl _) (by simp) ?_; (case hd => rfl); (case hg => rfl); (case hr => first | (go_simp; done) | (go_simp; rfl)); (case hp => exact (Reps.c4 (show Kd.M k64 _ _ _ (⟨a1_0, a1_1, a1_2, a1_3⟩ : S64) [.int .i64 a1_0, .int .i64 a1_1, .int .i64 a1_2, .bool a1_3] from (k64_mkM _ _ _ (⟨a1_0, a1_1, a1_2, a1_3⟩ : S64) )) (Reps.none _ _)))
             intro v194 w99 ho100 hb hg_ hnew_
             clear hg_ hnew_
             (first | rw [← Ny193.out] at ho100 | (simp only [Int.reduceToNat] at ho100; rw [← Ny193.out] at ho100))
             have n0_ := Aside0.mk (Kd.R_elder' (Cmp.rr HO_156000.out) (Kd.R_base ho100) hb)
             have n1_ := Aside0.mk (Kd.R_elder' (Cmp.rr HO192.out) (Kd.R_base ho100) hb)
             have n2_ := Aside0.mk (Kd.R_lower (Kd.R_newB (Kd.R_new' (Kd.R_new' ho100 (Kd.R_lt (Cmp.rr HO_156000.out))) (Kd.R_lt (Cmp.rr HO192.out))) (g := gb150) (o := .cells #[.int .i64 a1_0, .int .i64 a1_1, .int .i64 a1_2, .bool a1_3] 64 (0, 0)) (Cmp.b BK150.out)) (below_size (Cmp.g HB.out)))
             have n3_ := Aside0.mk (blk_below (g := gb149) (o := .cells #[.slice A0_0 l0_0.length c0_0] 39 (0, 0)) (Cmp.b BK149.out) hb)
             have n4_ := Aside0.mk (blk_below (g := gb150) (o := .cells #[.int .i64 a1_0, .int .i64 a1_1, .int .i64 a1_2, .bool a1_3] 64 (0, 0)) (Cmp.b BK150.out) hb)
             have n5_ := Aside0.mk (blk_below (g := gb151) (o := .cells #[.slice none 0 0] 39 (0, 0)) (Cmp.b BK151.out) hb)
             have n6_ := Aside0.mk (blk_below (g := gb155) (o := .cells #[.slice Ao40 t152.length co40] 39 (0, 0)) (Cmp.b BK155.out) hb)
             have n7_ := Aside0.mk (below_step (Cmp.g HB.out) hb)
             clear HO_156000; clear HO192; clear BK149; clear BK150; clear BK151; clear BK155; clear HB; have HO_156000 := n0_; have HO192 := n1_; have HO195 := n2_; have BK149 := n3_; have BK150 := n4_; have BK151 := n5_; have BK155 := n6_; have HB := n7_; clear n0_ n1_ n2_ n3_ n4_ n5_ n6_ n7_; clear hb ho100
             refine hK.out _ _ ⟨(blk_cell BK149.out 0).trans rfl, (blk_cell BK150.out 0).trans rfl, (blk_cell BK150.out 1).trans rfl, (blk_cell BK150.out 2).trans rfl, (blk_cell BK150.out 3).trans rfl⟩ (fun hHeld => ?_)
             clear hK K
             refine norm_ (a' := ?_) ?_ ?_
             rotate_left
             ·show Act.put _ (some 50) _ = _
              simp only [Act.put, Cmp.s, Cmp.z, Cmp.c, i64_w, i32_w]; rfl
             exact norm_ (by simp only [putAll, Act.put, List.setIfInBounds_toArray, List.set_cons_zero, List.set_cons_succ]) (hCont (v184, v191, v194) _ ⟨hHeld, (by (with_reducible repeat (first | apply Kd.R_alloc | apply Kd.R_drewN | apply Kd.R_drew)); exact Kd.R_mono HO192.out (fun _ hk => ⟨hk.2, ⟨hk.1.1, hk.1.2⟩⟩)), (by (with_reducible repeat (first | apply Kd.R_alloc | apply Kd.R_drewN | apply Kd.R_drew)); exact Kd.R_mono HO195.out (fun _ hk => ⟨hk.1.2, ⟨hk.1.1.2, hk.2⟩⟩)), (by (with_reducible repeat (first | apply Kd.R_alloc | apply Kd.R_drewN | apply Kd.R_drew)); exact Kd.R_mono HO_156000.out (fun _ hk => ⟨hk.1.2, ⟨hk.2, hk.1.1⟩⟩)), (Cmp.b BK149.out), (Cmp.b BK150.out), (Cmp.b BK151.out), (Cmp.b BK155.out), (Cmp.g HB.out)⟩)
            ·skip
             refine Kd.R_lit_step k64 _ 64 ?hg (N := 50) ?hd (xs := ([(⟨a1_0, a1_1, a1_2, a1_3⟩ : S64)] : List (S64))) (inner := [.int .i64 a1_0, .int .i64 a1_1, .int .i64 a1_2, .bool a1_3]) (ok := fun _ => True) (okp := fun _ => True) ?hr ?hp (fun _ hk => hk) trivial (Below.refl _ _) (Nat.le_refl _) (by simp) ?_; (case hd => rfl); (case hg => rfl); (case hr => first | (go_simp; done) | (go_simp; rfl)); (case hp => exact (Reps.c4 (show Kd.M k64 _ _ _ (⟨a1_0, a1_1, a1_2, a1_3⟩ : S64) [.int .i64 a1_0, .int .i64 a1_1, .int .i64 a1_2, .bool a1_3] from (k64_mkM _ _ _ (⟨a1_0, a1_1, a1_2, a1_3⟩ : S64) )) (Reps.none _ _)))
             intro v194 w98 ho99 hb hg_ hnew_
             clear hg_ hnew_
             (first | rw [← Ny193.out] at ho99 | (simp only [Int.reduceToNat] at ho99; rw [← Ny193.out] at ho99))
             have n0_ := Aside0.mk (Kd.R_elder' (Cmp.rr HO_156000.out) (Kd.R_base ho99) hb)
             have n1_ := Aside0.mk (Kd.R_elder' (Cmp.rr HO185.out) (Kd.R_base ho99) hb)
             have n2_ := Aside0.mk (Kd.R_lower (Kd.R_newB (Kd.R_new' (Kd.R_new' ho99 (Kd.R_lt (Cmp.rr HO_156000.out))) (Kd.R_lt (Cmp.rr HO185.out))) (g := gb150) (o := .cells #[.int .i64 a1_0, .int .i64 a1_1, .int .i64 a1_2, .bool a1_3] 64 (0, 0)) (Cmp.b BK150.out)) (below_size (Cmp.g HB.out)))
             have n3_ := Aside0.mk (blk_below (g := gb149) (o := .cells #[.slice A0_0 l0_0.length c0_0] 39 (0, 0)) (Cmp.b BK149.out) hb)
             have n4_ := Aside0.mk (blk_below (g := gb150) (o := .cells #[.int .i64 a1_0, .int .i64 a1_1, .int .i64 a1_2, .bool a1_3] 64 (0, 0)) (Cmp.b BK150.out) hb)
             have n5_ := Aside0.mk (blk_below (g := gb151) (o := .cells #[.slice none 0 0] 39 (0, 0)) (Cmp.b BK151.out) hb)
             have n6_ := Aside0.mk (blk_below (g := gb155) (o := .cells #[.slice Ao40 t152.length co40] 39 (0, 0)) (Cmp.b BK155.out) hb)
             have n7_ := Aside0.mk (below_step (Cmp.g HB.out) hb)
             clear HO_156000; clear HO185; clear BK149; clear BK150; clear BK151; clear BK155; clear HB; have HO_156000 := n0_; have HO185 := n1_; have HO195 := n2_; have BK149 := n3_; have BK150 := n4_; have BK151 := n5_; have BK155 := n6_; have HB := n7_; clear n0_ n1_ n2_ n3_ n4_ n5_ n6_ n7_; clear hb ho99
             refine hK.out _ _ ⟨(blk_cell BK149.out 0).trans rfl, (blk_cell BK150.out 0).trans rfl, (blk_cell BK150.out 1).trans rfl, (blk_cell BK150.out 2).trans rfl, (blk_cell BK150.out 3).trans rfl⟩ (fun hHeld => ?_)
             clear hK K
             refine norm_ (a' := ?_) ?_ ?_
             rotate_left
             ·show Act.put _ (some 50) _ = _
              simp only [Act.put, Cmp.s, Cmp.z, Cmp.c, i64_w, i32_w]; rfl
             refine one_ (i := 5) (N := some 48) (Cmp.bb 16 7935) rfl rfl (one_of HT_.out (by kernel_rfl)) (by decide) (fun K hK => ?_)
             refine Kd.R_append_rows_step k64 (w0 := w) w.heap.size (by rfl) (.tmp 43) (.tmp 47) 37 64 (.agg #[(.int .i64 0), (.int .i64 0), (.int .i64 0), (.bool false)]) 32 rfl Try.underlying37 info64 rfl (by decide) (by omega) v184 y183 y186 _ _ _ (fun k_ => some k_ ≠ (.slice Ao40 t152.length co40 : Value).ownBlock ∧ some k_ ≠ (v194 : Value).ownBlock ∧ k_ ≠ gb150) (fun _ => False) rfl rfl ?aO ?aR (fun _ _ h => h) (fun _ h => h.elim) ?aF ?aB ?aS ?aL ?_
             (case aR => repeat (first | exact (Kd.C_below HR189.out HB.out) | (with_reducible refine Kd.C_alloc ?_ _) | (with_reducible refine Kd.C_drewN ?_ _) | (with_reducible refine Kd.C_drew ?_)))
             (case aB => exact (Cmp.g HB.out))
             (case aF => exact (fun k_ hk => ⟨Kd.fresh' (Kd.R_lt (Cmp.rr HO_156000.out)) k_ hk, Kd.fresh' (Kd.R_lt (Cmp.rr HO195.out)) k_ hk, Kd.freshB (g := gb150) (o := .cells #[.int .i64 a1_0, .int .i64 a1_1, .int .i64 a1_2, .bool a1_3] 64 (0, 0)) (Cmp.b BK150.out) k_ hk⟩))
             (case aO => exact (by (with_reducible repeat (first | apply Kd.R_alloc | apply Kd.R_drewN | apply Kd.R_drew)); exact Kd.R_mono HO185.out (fun _ hk => ⟨hk.1.1.2, ⟨hk.2, hk.1.2⟩⟩)))
             (case aS => exact (below_size (Cmp.g HB.out)))
             (case aL => have := LMc87.out; omega)
             intro v191 w100 ho hb hg hat
             rw [← Ny190.out] at ho
             have n0_ := Aside0.mk (Kd.R_after (ok := (fun k_ => some k_ ≠ (v194 : Value).ownBlock ∧ k_ ≠ gb150)) (by (with_reducible repeat (first | apply Kd.R_alloc | apply Kd.R_drewN | apply Kd.R_drew)); exact Kd.R_mono HO_156000.out (fun _ hk => ⟨⟨hk.2, hk.1.1⟩, hk.1.2⟩)) hg hat)
             have n1_ := Aside0.mk (blk_grown (g := gb149) (o := .cells #[.slice A0_0 l0_0.length c0_0] 39 (0, 0)) (Cmp.b BK149.out) hg (Kd.R_ne HO185.out BK149.out (by decide)))
             have n2_ := Aside0.mk (blk_grown (g := gb150) (o := .cells #[.int .i64 a1_0, .int .i64 a1_1, .int .i64 a1_2, .bool a1_3] 64 (0, 0)) (Cmp.b BK150.out) hg (Kd.R_away HO185.out (fun _ hk => hk.1.2)))
             have n3_ := Aside0.mk (blk_grown (g := gb151) (o := .cells #[.slice none 0 0] 39 (0, 0)) (Cmp.b BK151.out) hg (Kd.R_ne HO185.out BK151.out (by decide)))
             have n4_ := Aside0.mk (blk_grown (g := gb155) (o := .cells #[.slice Ao40 t152.length co40] 39 (0, 0)) (Cmp.b BK155.out) hg (Kd.R_ne HO185.out BK155.out (by decide)))
             have n5_ := Aside0.mk (Kd.R_after (ok := (fun k_ => some k_ ≠ (.slice Ao40 t152.length co40 : Value).ownBlock ∧ k_ ≠ gb150)) (by (with_reducible repeat (first | apply Kd.R_alloc | apply Kd.R_drewN | apply Kd.R_drew)); exact Kd.R_mono HO195.out (fun _ hk => ⟨⟨hk.1.1.2, hk.2⟩, hk.1.2⟩)) hg hat)
             have n6_ := Aside0.mk (hb)
             have n7_ := Aside0.mk (ho)
             clear HO_156000; clear BK149; clear BK150; clear BK151; clear BK155; clear HO195; clear HB; clear HO185; have HO_156000 := n0_; have BK149 := n1_; have BK150 := n2_; have BK151 := n3_; have BK155 := n4_; have HO195 := n5_; have HB := n6_; have HO192 := n7_; clear n0_ n1_ n2_ n3_ n4_ n5_ n6_ n7_; clear ho hb hg hat
             refine hK.out _ _ ⟨(blk_cell BK149.out 0).trans rfl, (blk_cell BK150.out 0).trans rfl, (blk_cell BK150.out 1).trans rfl, (blk_cell BK150.out 2).trans rfl, (blk_cell BK150.out 3).trans rfl⟩ (fun hHeld => ?_)
             clear hK K
             refine norm_ (a' := ?_) ?_ ?_
             rotate_left
             ·show Act.put _ (some 48) _ = _
              simp only [Act.put, Cmp.s, Cmp.z, Cmp.c, i64_w, i32_w]; rfl
             exact norm_ (by simp only [putAll, Act.put, List.setIfInBounds_toArray, List.set_cons_zero, List.set_cons_succ]) (hCont (v184, v191, v194) _ ⟨hHeld, (by (with_reducible repeat (first | apply Kd.R_alloc | apply Kd.R_drewN | apply Kd.R_drew)); exact Kd.R_mono HO192.out (fun _ hk => ⟨hk.2.1, ⟨hk.1, hk.2.2⟩⟩)), (by (with_reducible repeat (first | apply Kd.R_alloc | apply Kd.R_drewN | apply Kd.R_drew)); exact Kd.R_mono HO195.out (fun _ hk => ⟨hk.2, ⟨hk.1.1, hk.1.2⟩⟩)), (by (with_reducible repeat (first | apply Kd.R_alloc | apply Kd.R_drewN | apply Kd.R_drew)); exact Kd.R_mono HO_156000.out (fun _ hk => ⟨hk.2, ⟨hk.1.1, hk.1.2⟩⟩)), (Cmp.b BK149.out), (Cmp.b BK150.out), (Cmp.b BK151.out), (Cmp.b BK155.out), (Cmp.g HB.out)⟩)
           ·skip
            refine Kd.R_lit_step k64 _ 64 ?hg (N := 50) ?hd (xs := ([(⟨a1_0, a1_1, a1_2, a1_3⟩ : S64)] : List (S64))) (inner := [.int .i64 a1_0, .int .i64 a1_1, .int .i64 a1_2, .bool a1_3]) (ok := fun _ => True) (okp := fun _ => True) ?hr ?hp (fun _ hk => hk) trivial (Below.refl _ _) (Nat.le_refl _) (by simp) ?_; (case hd => rfl); (case hg => rfl); (case hr => first | (go_simp; done) | (go_simp; rfl)); (case hp => exact (Reps.c4 (show Kd.M k64 _ _ _ (⟨a1_0, a1_1, a1_2, a1_3⟩ : S64) [.int .i64 a1_0, .int .i64 a1_1, .int .i64 a1_2, .bool a1_3] from (k64_mkM _ _ _ (⟨a1_0, a1_1, a1_2, a1_3⟩ : S64) )) (Reps.none _ _)))
            intro v194 w96 ho97 hb hg_ hnew_
            clear hg_ hnew_
            (first | rw [← Ny193.out] at ho97 | (simp only [Int.reduceToNat] at ho97; rw [← Ny193.out] at ho97))
            have n0_ := Aside0.mk (Kd.R_elder' (Cmp.rr HO_156000.out) (Kd.R_base ho97) hb)
            have n1_ := Aside0.mk (Kd.R_lower (Kd.R_newB (Kd.R_new' ho97 (Kd.R_lt (Cmp.rr HO_156000.out))) (g := gb150) (o := .cells #[.int .i64 a1_0, .int .i64 a1_1, .int .i64 a1_2, .bool a1_3] 64 (0, 0)) (Cmp.b BK150.out)) (below_size (Cmp.g HB.out)))
            have n2_ := Aside0.mk (blk_below (g := gb149) (o := .cells #[.slice A0_0 l0_0.length c0_0] 39 (0, 0)) (Cmp.b BK149.out) hb)
            have n3_ := Aside0.mk (blk_below (g := gb150) (o := .cells #[.int .i64 a1_0, .int .i64 a1_1, .int .i64 a1_2, .bool a1_3] 64 (0, 0)) (Cmp.b BK150.out) hb)
            have n4_ := Aside0.mk (blk_below (g := gb151) (o := .cells #[.slice none 0 0] 39 (0, 0)) (Cmp.b BK151.out) hb)
            have n5_ := Aside0.mk (blk_below (g := gb155) (o := .cells #[.slice Ao40 t152.length co40] 39 (0, 0)) (Cmp.b BK155.out) hb)
            have n6_ := Aside0.mk (below_step (Cmp.g HB.out) hb)
            clear HO_156000; clear BK149; clear BK150; clear BK151; clear BK155; clear HB; have HO_156000 := n0_; have HO195 := n1_; have BK149 := n2_; have BK150 := n3_; have BK151 := n4_; have BK155 := n5_; have HB := n6_; clear n0_ n1_ n2_ n3_ n4_ n5_ n6_; clear hb ho97
            refine hK.out _ _ ⟨(blk_cell BK149.out 0).trans rfl, (blk_cell BK150.out 0).trans rfl, (blk_cell BK150.out 1).trans rfl, (blk_cell BK150.out 2).trans rfl, (blk_cell BK150.out 3).trans rfl⟩ (fun hHeld => ?_)
            clear hK K
            refine norm_ (a' := ?_) ?_ ?_
            rotate_left
            ·show Act.put _ (some 50) _ = _
             simp only [Act.put, Cmp.s, Cmp.z, Cmp.c, i64_w, i32_w]; rfl
            refine one_ (i := 0) (N := some 43) (Cmp.bb 16 7903) rfl rfl (one_of HT_.out (by kernel_rfl)) (by decide) (fun K hK => ?_)
            refine Kd.R_lit_step k64 _ 64 ?hg (N := 43) ?hd (xs := ([] : List (S64))) (inner := []) (ok := fun _ => True) (okp := fun _ => True) ?hr ?hp (fun _ hk => hk) trivial (Below.refl _ _) (Nat.le_refl _) (by simp) ?_; (case hd => rfl); (case hg => rfl); (case hr => first | (go_simp; done) | (go_simp; rfl)); (case hp => exact (Reps.none _ _))
            intro v184 w98 ho99 hb hg_ hnew_
            clear hg_ hnew_
            (first | rw [← Ny183.out] at ho99 | (simp only [Int.reduceToNat] at ho99; rw [← Ny183.out] at ho99))
            have n0_ := Aside0.mk (Kd.R_elder' (Cmp.rr HO_156000.out) (Kd.R_base ho99) hb)
            have n1_ := Aside0.mk (Kd.R_elder' (Cmp.rr HO195.out) (Kd.R_base ho99) hb)
            have n2_ := Aside0.mk (Kd.R_lower (Kd.R_newB (Kd.R_new' (Kd.R_new' ho99 (Kd.R_lt (Cmp.rr HO_156000.out))) (Kd.R_lt (Cmp.rr HO195.out))) (g := gb150) (o := .cells #[.int .i64 a1_0, .int .i64 a1_1, .int .i64 a1_2, .bool a1_3] 64 (0, 0)) (Cmp.b BK150.out)) (below_size (Cmp.g HB.out)))
            have n3_ := Aside0.mk (blk_below (g := gb149) (o := .cells #[.slice A0_0 l0_0.length c0_0] 39 (0, 0)) (Cmp.b BK149.out) hb)
            have n4_ := Aside0.mk (blk_below (g := gb150) (o := .cells #[.int .i64 a1_0, .int .i64 a1_1, .int .i64 a1_2, .bool a1_3] 64 (0, 0)) (Cmp.b BK150.out) hb)
            have n5_ := Aside0.mk (blk_below (g := gb151) (o := .cells #[.slice none 0 0] 39 (0, 0)) (Cmp.b BK151.out) hb)
            have n6_ := Aside0.mk (blk_below (g := gb155) (o := .cells #[.slice Ao40 t152.length co40] 39 (0, 0)) (Cmp.b BK155.out) hb)
            have n7_ := Aside0.mk (below_step (Cmp.g HB.out) hb)
            clear HO_156000; clear HO195; clear BK149; clear BK150; clear BK151; clear BK155; clear HB; have HO_156000 := n0_; have HO195 := n1_; have HO185 := n2_; have BK149 := n3_; have BK150 := n4_; have BK151 := n5_; have BK155 := n6_; have HB := n7_; clear n0_ n1_ n2_ n3_ n4_ n5_ n6_ n7_; clear hb ho99
            refine hK.out _ _ ⟨(blk_cell BK149.out 0).trans rfl, (blk_cell BK150.out 0).trans rfl, (blk_cell BK150.out 1).trans rfl, (blk_cell BK150.out 2).trans rfl, (blk_cell BK150.out 3).trans rfl⟩ (fun hHeld => ?_)
            clear hK K
            refine norm_ (a' := ?_) ?_ ?_
            rotate_left
            ·show Act.put _ (some 43) _ = _
             simp only [Act.put, Cmp.s, Cmp.z, Cmp.c, i64_w, i32_w]; rfl
            refine one_ (i := 5) (N := some 48) (Cmp.bb 16 7935) rfl rfl (one_of HT_.out (by kernel_rfl)) (by decide) (fun K hK => ?_)
            refine Kd.R_append_rows_step k64 (w0 := w) w.heap.size (by rfl) (.tmp 43) (.tmp 47) 37 64 (.agg #[(.int .i64 0), (.int .i64 0), (.int .i64 0), (.bool false)]) 32 rfl Try.underlying37 info64 rfl (by decide) (by omega) v184 y183 y186 _ _ _ (fun k_ => some k_ ≠ (.slice Ao40 t152.length co40 : Value).ownBlock ∧ some k_ ≠ (v194 : Value).ownBlock ∧ k_ ≠ gb150) (fun _ => False) rfl rfl ?aO ?aR (fun _ _ h => h) (fun _ h => h.elim) ?aF ?aB ?aS ?aL ?_
            (case aR => repeat (first | exact (Kd.C_below HR189.out HB.out) | (with_reducible refine Kd.C_alloc ?_ _) | (with_reducible refine Kd.C_drewN ?_ _) | (with_reducible refine Kd.C_drew ?_)))
            (case aB => exact (Cmp.g HB.out))
            (case aF => exact (fun k_ hk => ⟨Kd.fresh' (Kd.R_lt (Cmp.rr HO_156000.out)) k_ hk, Kd.fresh' (Kd.R_lt (Cmp.rr HO195.out)) k_ hk, Kd.freshB (g := gb150) (o := .cells #[.int .i64 a1_0, .int .i64 a1_1, .int .i64 a1_2, .bool a1_3] 64 (0, 0)) (Cmp.b BK150.out) k_ hk⟩))
            (case aO => exact (by (with_reducible repeat (first | apply Kd.R_alloc | apply Kd.R_drewN | apply Kd.R_drew)); exact Kd.R_mono HO185.out (fun _ hk => ⟨hk.1.1.2, ⟨hk.1.2, hk.2⟩⟩)))
            (case aS => exact (below_size (Cmp.g HB.out)))
            (case aL => have := LMc87.out; omega)
            intro v191 w100 ho hb hg hat
            rw [← Ny190.out] at ho
            have n0_ := Aside0.mk (Kd.R_after (ok := (fun k_ => some k_ ≠ (v194 : Value).ownBlock ∧ k_ ≠ gb150)) (by (with_reducible repeat (first | apply Kd.R_alloc | apply Kd.R_drewN | apply Kd.R_drew)); exact Kd.R_mono HO_156000.out (fun _ hk => ⟨⟨hk.1.2, hk.1.1⟩, hk.2⟩)) hg hat)
            have n1_ := Aside0.mk (blk_grown (g := gb149) (o := .cells #[.slice A0_0 l0_0.length c0_0] 39 (0, 0)) (Cmp.b BK149.out) hg (Kd.R_ne HO185.out BK149.out (by decide)))
            have n2_ := Aside0.mk (blk_grown (g := gb150) (o := .cells #[.int .i64 a1_0, .int .i64 a1_1, .int .i64 a1_2, .bool a1_3] 64 (0, 0)) (Cmp.b BK150.out) hg (Kd.R_away HO185.out (fun _ hk => hk.2)))
            have n3_ := Aside0.mk (blk_grown (g := gb151) (o := .cells #[.slice none 0 0] 39 (0, 0)) (Cmp.b BK151.out) hg (Kd.R_ne HO185.out BK151.out (by decide)))
            have n4_ := Aside0.mk (blk_grown (g := gb155) (o := .cells #[.slice Ao40 t152.length co40] 39 (0, 0)) (Cmp.b BK155.out) hg (Kd.R_ne HO185.out BK155.out (by decide)))
            have n5_ := Aside0.mk (Kd.R_after (ok := (fun k_ => some k_ ≠ (.slice Ao40 t152.length co40 : Value).ownBlock ∧ k_ ≠ gb150)) (by (with_reducible repeat (first | apply Kd.R_alloc | apply Kd.R_drewN | apply Kd.R_drew)); exact Kd.R_mono HO195.out (fun _ hk => ⟨⟨hk.1.1.2, hk.1.2⟩, hk.2⟩)) hg hat)
            have n6_ := Aside0.mk (hb)
            have n7_ := Aside0.mk (ho)
            clear HO_156000; clear BK149; clear BK150; clear BK151; clear BK155; clear HO195; clear HB; clear HO185; have HO_156000 := n0_; have BK149 := n1_; have BK150 := n2_; have BK151 := n3_; have BK155 := n4_; have HO195 := n5_; have HB := n6_; have HO192 := n7_; clear n0_ n1_ n2_ n3_ n4_ n5_ n6_ n7_; clear ho hb hg hat
            refine hK.out _ _ ⟨(blk_cell BK149.out 0).trans rfl, (blk_cell BK150.out 0).trans rfl, (blk_cell BK150.out 1).trans rfl, (blk_cell BK150.out 2).trans rfl, (blk_cell BK150.out 3).trans rfl⟩ (fun hHeld => ?_)
            clear hK K
            refine norm_ (a' := ?_) ?_ ?_
            rotate_left
            ·show Act.put _ (some 48) _ = _
             simp only [Act.put, Cmp.s, Cmp.z, Cmp.c, i64_w, i32_w]; rfl
            exact norm_ (by simp only [putAll, Act.put, List.setIfInBounds_toArray, List.set_cons_zero, List.set_cons_succ]) (hCont (v184, v191, v194) _ ⟨hHeld, (by (with_reducible repeat (first | apply Kd.R_alloc | apply Kd.R_drewN | apply Kd.R_drew)); exact Kd.R_mono HO192.out (fun _ hk => ⟨hk.2.1, ⟨hk.1, hk.2.2⟩⟩)), (by (with_reducible repeat (first | apply Kd.R_alloc | apply Kd.R_drewN | apply Kd.R_drew)); exact Kd.R_mono HO195.out (fun _ hk => ⟨hk.2, ⟨hk.1.1, hk.1.2⟩⟩)), (by (with_reducible repeat (first | apply Kd.R_alloc | apply Kd.R_drewN | apply Kd.R_drew)); exact Kd.R_mono HO_156000.out (fun _ hk => ⟨hk.2, ⟨hk.1.1, hk.1.2⟩⟩)), (Cmp.b BK149.out), (Cmp.b BK150.out), (Cmp.b BK151.out), (Cmp.b BK155.out), (Cmp.g HB.out)⟩)
          rintro ⟨v184, v191, v194⟩ w101 ⟨hS_, h0_, h1_, h2_, h3_, h4_, h5_, h6_, h7_⟩
          have n0_ : Aside0 (Kd.R k64 64 w101 w.heap.size (fun k_ => some k_ ≠ (v194 : Value).ownBlock ∧ some k_ ≠ (.slice Ao40 t152.length co40 : Value).ownBlock ∧ k_ ≠ gb150) v191 y190) := ⟨h0_⟩
          have n1_ : Aside0 (Kd.R k64 64 w101 w.heap.size (fun k_ => some k_ ≠ (v191 : Value).ownBlock ∧ some k_ ≠ (.slice Ao40 t152.length co40 : Value).ownBlock ∧ k_ ≠ gb150) v194 y193) := ⟨h1_⟩
          have n2_ : Aside0 (Kd.R k64 64 w101 w.heap.size (fun k_ => some k_ ≠ (v191 : Value).ownBlock ∧ some k_ ≠ (v194 : Value).ownBlock ∧ k_ ≠ gb150) (.slice Ao40 t152.length co40) t152) := ⟨h2_⟩
          have n3_ : Aside0 (w101.heap[gb149]? = some (.cells #[.slice A0_0 l0_0.length c0_0] 39 (0, 0))) := ⟨h3_⟩
          have n4_ : Aside0 (w101.heap[gb150]? = some (.cells #[.int .i64 a1_0, .int .i64 a1_1, .int .i64 a1_2, .bool a1_3] 64 (0, 0))) := ⟨h4_⟩
          have n5_ : Aside0 (w101.heap[gb151]? = some (.cells #[.slice none 0 0] 39 (0, 0))) := ⟨h5_⟩
          have n6_ : Aside0 (w101.heap[gb155]? = some (.cells #[.slice Ao40 t152.length co40] 39 (0, 0))) := ⟨h6_⟩
          have n7_ : Aside0 (Below w.heap.size w w101) := ⟨h7_⟩
          clear HO_156000; clear BK149; clear BK150; clear BK151; clear BK155; clear HB; clear h0_ h1_ h2_ h3_ h4_ h5_ h6_ h7_; have HO192 := n0_; have HO195 := n1_; have HO_156000 := n2_; have BK149 := n3_; have BK150 := n4_; have BK151 := n5_; have BK155 := n6_; have HB := n7_; clear n0_ n1_ n2_ n3_ n4_ n5_ n6_ n7_
          have hHeld : w101.cell? ⟨gb149, 0, none⟩ = some (.slice A0_0 l0_0.length c0_0) ∧ w101.cell? ⟨gb150, 0, none⟩ = some (.int .i64 a1_0) ∧ w101.cell? ⟨gb150, 1, none⟩ = some (.int .i64 a1_1) ∧ w101.cell? ⟨gb150, 2, none⟩ = some (.int .i64 a1_2) ∧ w101.cell? ⟨gb150, 3, none⟩ = some (.bool a1_3) := hS_
          obtain ⟨Ao103, co103, eo103⟩ := Kd.R_slice HO195.out
          (first | subst eo103 | (injection eo103 with f1_ f2_ f3_; have f4_ := f1_.symm; have f5_ := f3_.symm; clear f1_ f2_ f3_; subst f4_; subst f5_))
          refine norm_ (a' := ?_) ?_ ?_
          rotate_left
          ·simp only [putAll, Act.put, List.setIfInBounds_toArray, List.set_cons_zero, List.set_cons_succ]; rfl
          refine one_ (i := 8) (N := some 51) (Cmp.bm 13 3) rfl rfl (one_of HT_.out (by kernel_rfl)) (by decide) (fun K hK => ?_)
          refine Kd.R_append_rows_step k64 (w0 := w) w.heap.size (by rfl) (.tmp 48) (.tmp 50) 37 64 (.agg #[(.int .i64 0), (.int .i64 0), (.int .i64 0), (.bool false)]) 32 rfl Try.underlying37 info64 rfl (by decide) (by omega) v191 y190 y193 _ _ _ (fun k_ => some k_ ≠ (.slice Ao40 t152.length co40 : Value).ownBlock ∧ some k_ ≠ (.slice Ao103 y193.length co103 : Value).ownBlock ∧ k_ ≠ gb150) (fun _ => False) rfl rfl ?aO ?aR (fun _ _ h => h) (fun _ h => h.elim) ?aF ?aB ?aS ?aL ?_
          (case aR => repeat (first | exact (Kd.R_reads' HO195.out).2.2 | (with_reducible refine Kd.C_alloc ?_ _) | (with_reducible refine Kd.C_drewN ?_ _) | (with_reducible refine Kd.C_drew ?_)))
          (case aB => exact (Cmp.g HB.out))
          (case aF => exact (fun k_ hk => ⟨Kd.fresh' (Kd.R_lt (Cmp.rr HO_156000.out)) k_ hk, Kd.fresh' (Kd.R_lt (Cmp.rr HO195.out)) k_ hk, Kd.freshB (g := gb150) (o := .cells #[.int .i64 a1_0, .int .i64 a1_1, .int .i64 a1_2, .bool a1_3] 64 (0, 0)) (Cmp.b BK150.out) k_ hk⟩))
          (case aO => exact (by (with_reducible repeat (first | apply Kd.R_alloc | apply Kd.R_drewN | apply Kd.R_drew)); exact Kd.R_mono HO192.out (fun _ hk => ⟨hk.2.1, ⟨hk.1, hk.2.2⟩⟩)))
          (case aS => exact (below_size (Cmp.g HB.out)))
          (case aL => have := LMc88.out; omega)
          intro v197 w102 ho hb hg hat
          rw [← Ny196.out] at ho
          have n0_ := Aside0.mk (Kd.R_after (ok := (fun k_ => some k_ ≠ (.slice Ao103 y193.length co103 : Value).ownBlock ∧ k_ ≠ gb150)) (by (with_reducible repeat (first | apply Kd.R_alloc | apply Kd.R_drewN | apply Kd.R_drew)); exact Kd.R_mono HO_156000.out (fun _ hk => ⟨⟨hk.2.1, hk.2.2⟩, hk.1⟩)) hg hat)
          have n1_ := Aside0.mk (blk_grown (g := gb149) (o := .cells #[.slice A0_0 l0_0.length c0_0] 39 (0, 0)) (Cmp.b BK149.out) hg (Kd.R_ne HO192.out BK149.out (by decide)))
          have n2_ := Aside0.mk (blk_grown (g := gb150) (o := .cells #[.int .i64 a1_0, .int .i64 a1_1, .int .i64 a1_2, .bool a1_3] 64 (0, 0)) (Cmp.b BK150.out) hg (Kd.R_away HO192.out (fun _ hk => hk.2.2)))
          have n3_ := Aside0.mk (blk_grown (g := gb151) (o := .cells #[.slice none 0 0] 39 (0, 0)) (Cmp.b BK151.out) hg (Kd.R_ne HO192.out BK151.out (by decide)))
          have n4_ := Aside0.mk (blk_grown (g := gb155) (o := .cells #[.slice Ao40 t152.length co40] 39 (0, 0)) (Cmp.b BK155.out) hg (Kd.R_ne HO192.out BK155.out (by decide)))
          have n5_ := Aside0.mk (Kd.R_after (ok := (fun k_ => some k_ ≠ (.slice Ao40 t152.length co40 : Value).ownBlock ∧ k_ ≠ gb150)) (by (with_reducible repeat (first | apply Kd.R_alloc | apply Kd.R_drewN | apply Kd.R_drew)); exact Kd.R_mono HO195.out (fun _ hk => ⟨⟨hk.2.1, hk.2.2⟩, hk.1⟩)) hg hat)
          have n6_ := Aside0.mk (hb)
          have n7_ := Aside0.mk (ho)
          clear HO_156000; clear BK149; clear BK150; clear BK151; clear BK155; clear HO195; clear HB; clear HO192; have HO_156000 := n0_; have BK149 := n1_; have BK150 := n2_; have BK151 := n3_; have BK155 := n4_; have HO195 := n5_; have HB := n6_; have HO198 := n7_; clear n0_ n1_ n2_ n3_ n4_ n5_ n6_ n7_; clear ho hb hg hat
          refine hK.out _ _ ⟨(blk_cell BK149.out 0).trans rfl, (blk_cell BK150.out 0).trans rfl, (blk_cell BK150.out 1).trans rfl, (blk_cell BK150.out 2).trans rfl, (blk_cell BK150.out 3).trans rfl⟩ (fun hHeld => ?_)
          clear hK K
          refine norm_ (a' := ?_) ?_ ?_
          rotate_left
          ·show Act.put _ (some 51) _ = _
           simp only [Act.put, Cmp.s, Cmp.z, Cmp.c, i64_w, i32_w]; rfl
          refine one_ (i := 13) (N := some 56) (Cmp.bm 14 2) rfl rfl (one_of HT_.out (by kernel_rfl)) (by decide) (fun K hK => ?_)
          refine Kd.R_append_rows_step k64 (w0 := w) w.heap.size (by rfl) (.tmp 51) (.tmp 55) 37 64 (.agg #[(.int .i64 0), (.int .i64 0), (.int .i64 0), (.bool false)]) 32 rfl Try.underlying37 info64 rfl (by decide) (by omega) v197 y196 y199 _ _ _ (fun k_ => some k_ ≠ (.slice Ao40 t152.length co40 : Value).ownBlock ∧ some k_ ≠ (.slice Ao103 y193.length co103 : Value).ownBlock ∧ k_ ≠ gb150) (fun _ => False) rfl rfl ?aO ?aR (fun _ _ h => h) (fun _ h => h.elim) ?aF ?aB ?aS ?aL ?_
          (case aR => repeat (first | exact (Kd.C_below HR202.out HB.out) | (with_reducible refine Kd.C_alloc ?_ _) | (with_reducible refine Kd.C_drewN ?_ _) | (with_reducible refine Kd.C_drew ?_)))
          (case aB => exact (Cmp.g HB.out))
          (case aF => exact (fun k_ hk => ⟨Kd.fresh' (Kd.R_lt (Cmp.rr HO_156000.out)) k_ hk, Kd.fresh' (Kd.R_lt (Cmp.rr HO195.out)) k_ hk, Kd.freshB (g := gb150) (o := .cells #[.int .i64 a1_0, .int .i64 a1_1, .int .i64 a1_2, .bool a1_3] 64 (0, 0)) (Cmp.b BK150.out) k_ hk⟩))
          (case aO => exact (Cmp.rr HO198.out))
          (case aS => exact (below_size (Cmp.g HB.out)))
          (case aL => have := LMc91.out; omega)
          intro v204 w104 ho hb hg hat
          rw [← Ny203.out] at ho
          have n0_ := Aside0.mk (Kd.R_after (ok := (fun k_ => some k_ ≠ (.slice Ao103 y193.length co103 : Value).ownBlock ∧ k_ ≠ gb150)) (Cmp.rr HO_156000.out) hg hat)
          have n1_ := Aside0.mk (blk_grown (g := gb149) (o := .cells #[.slice A0_0 l0_0.length c0_0] 39 (0, 0)) (Cmp.b BK149.out) hg (Kd.R_ne HO198.out BK149.out (by decide)))
          have n2_ := Aside0.mk (blk_grown (g := gb150) (o := .cells #[.int .i64 a1_0, .int .i64 a1_1, .int .i64 a1_2, .bool a1_3] 64 (0, 0)) (Cmp.b BK150.out) hg (Kd.R_away HO198.out (fun _ hk => hk.2.2)))
          have n3_ := Aside0.mk (blk_grown (g := gb151) (o := .cells #[.slice none 0 0] 39 (0, 0)) (Cmp.b BK151.out) hg (Kd.R_ne HO198.out BK151.out (by decide)))
          have n4_ := Aside0.mk (blk_grown (g := gb155) (o := .cells #[.slice Ao40 t152.length co40] 39 (0, 0)) (Cmp.b BK155.out) hg (Kd.R_ne HO198.out BK155.out (by decide)))
          have n5_ := Aside0.mk (Kd.R_after (ok := (fun k_ => some k_ ≠ (.slice Ao40 t152.length co40 : Value).ownBlock ∧ k_ ≠ gb150)) (Cmp.rr HO195.out) hg hat)
          have n6_ := Aside0.mk (hb)
          have n7_ := Aside0.mk (ho)
          clear HO_156000; clear BK149; clear BK150; clear BK151; clear BK155; clear HO195; clear HB; clear HO198; have HO_156000 := n0_; have BK149 := n1_; have BK150 := n2_; have BK151 := n3_; have BK155 := n4_; have HO195 := n5_; have HB := n6_; have HO205 := n7_; clear n0_ n1_ n2_ n3_ n4_ n5_ n6_ n7_; clear ho hb hg hat
          obtain ⟨Ao105, co105, eo105⟩ := Kd.R_slice HO205.out
          (first | subst eo105 | (injection eo105 with f1_ f2_ f3_; have f4_ := f1_.symm; have f5_ := f3_.symm; clear f1_ f2_ f3_; subst f4_; subst f5_))
          refine hK.out _ _ ⟨(blk_cell BK149.out 0).trans rfl, (blk_cell BK150.out 0).trans rfl, (blk_cell BK150.out 1).trans rfl, (blk_cell BK150.out 2).trans rfl, (blk_cell BK150.out 3).trans rfl⟩ (fun hHeld => ?_)
          clear hK K
          refine norm_ (a' := ?_) ?_ ?_
          rotate_left
          ·show Act.put _ (some 56) _ = _
           simp only [Act.put, Cmp.s, Cmp.z, Cmp.c, i64_w, i32_w]; rfl
          refine Cmp.pu HT_ 14 57 (Cmp.bm 15 1) ?_
          refine one_ (i := 15) (N := none) (Cmp.bm 16 0) rfl rfl (one_of HT_.out (by kernel_rfl)) (by decide) (fun K hK => ?_)
          have hs106 : w104.cell? ⟨gb155, 0, none⟩ = some (.slice Ao40 t152.length co40) := (blk_cell BK155.out 0).trans rfl
          have hfs106 := blk_frozen BK155.out 0; have hns106_0 := NB149_155.out; have hns106_1 := NB150_155.out; have hns106_2 := NB151_155.out; have hms106_0 := NB155_149.out; have hms106_1 := NB155_150.out; have hms106_2 := NB155_151.out
          refine skip_ (w1 := ?_) (by rfl) rfl ?_ ?_
          rotate_left
          ·go_simp; rfl
          refine hK.out _ _ ⟨((cell_far (p := ⟨gb155, _, none⟩) NB149_155.out _).trans (hHeld.1)), ((cell_far (p := ⟨gb155, _, none⟩) NB150_155.out _).trans (hHeld.2.1)), ((cell_far (p := ⟨gb155, _, none⟩) NB150_155.out _).trans (hHeld.2.2.1)), ((cell_far (p := ⟨gb155, _, none⟩) NB150_155.out _).trans (hHeld.2.2.2.1)), ((cell_far (p := ⟨gb155, _, none⟩) NB150_155.out _).trans (hHeld.2.2.2.2))⟩ (fun hHeld => ?_)
          clear hK K
          refine done_ (done_of HT_.out (by kernel_rfl)) ?_
          have hnb107 := NB155_149.out; have hnc107 := NB149_155.out; have hnb108 := NB155_150.out; have hnc108 := NB150_155.out; have hnb109 := NB155_151.out; have hnc109 := NB151_155.out
          have hcz110_0 : w104.cell? ⟨gb155, 0, none⟩ = some (.slice Ao40 t152.length co40) := (blk_cell BK155.out 0).trans rfl
          have hfz110_0 := blk_frozen BK155.out 0; have hnb111 := NB151_149.out; have hnc111 := NB149_151.out; have hnb112 := NB151_150.out; have hnc112 := NB150_151.out
          have hcz113_0 : w104.cell? ⟨gb151, 0, none⟩ = some (.slice none 0 0) := (blk_cell BK151.out 0).trans rfl
          have hfz113_0 := blk_frozen BK151.out 0
          try go_wp2
          refine bodyPost_ret (results_cell_row rfl _ _ gb151 39 #[.slice Ao105 y203.length co105] (0, 0) _ rfl (by (with_reducible repeat (first | refine blk_drewN ?_ _ | refine blk_drew ?_ | refine blk_alloc ?_ _)); refine blk_put (cs := #[.slice none 0 0]) ?_ 0 _ rfl; (with_reducible repeat (first | refine blk_drewN ?_ _ | refine blk_drew ?_ | refine blk_alloc ?_ _)); refine blk_far ?_ NB151_155.out _; (with_reducible repeat (first | refine blk_drewN ?_ _ | refine blk_drew ?_ | refine blk_alloc ?_ _)); exact BK151.out) Try.underlying39 rfl (by kernel_rfl)) rfl ?_
          exact ⟨_, by first | rfl | (simp [errW_none, errW_some] <;> rfl) | (simp [*, errW_none, errW_some] <;> rfl), by (with_reducible repeat (first | apply Kd.R_alloc | apply Kd.R_drewN | apply Kd.R_drew)); exact Kd.R_mono (Kd.R_far (p := ⟨gb151, 0, none⟩) (Kd.R_far (p := ⟨gb155, 0, none⟩) (Kd.R_types (Kd.R_types HO205.out BK155.out (by decide)) BK151.out (by decide)) (fun _ hk => hk.1.2) (.slice Ao105 y203.length co105)) (fun _ hk => hk.2) (.slice Ao105 y203.length co105)) (fun _ hk => trivial), Cmp.g HB.out⟩
         ·rw [if_neg c91] at H; exact absurd H (by simp)
        ·rw [if_neg c88] at H; exact absurd H (by simp)
       ·rw [if_neg c87] at H; exact absurd H (by simp)
      ·rw [if_neg c86] at H; exact absurd H (by simp)
     ·rw [if_neg c85] at H; exact absurd H (by simp)

end Go.Proofs.Ytnifeegdkhmakaa.PFnExactIncludesBundle

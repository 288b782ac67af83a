/- Printed functions of the program, out of print.sh, told more shortly. No condition. -/
import Derived.Test.YtnifeegdkhmakaaCmp
import Derived.Test.YtnifeegdkhmakaaPFnExactMergeBundlesx0
import Derived.Test.YtnifeegdkhmakaaPFnExactMergeBundlesx2
import Derived.Test.YtnifeegdkhmakaaPFnExactMergeBundlesx4
namespace Go.Proofs.Ytnifeegdkhmakaa.PFnExactMergeBundles
open Go.Proofs.Ytnifeegdkhmakaa
open Go.RowKit Go.Proofs.YtnifeegdkhmakaaW.PrintWords Go.Proofs.YtnifeegdkhmakaaW.PrintLast Go.Proofs.YtnifeegdkhmakaaW.PrintMore
attribute [local go_sem] max2_int min2_int max_two min_two max_three min_three max_four min_four   -- for this text's walks alone
set_option linter.unusedVariables false
set_option linter.unusedSimpArgs false

/-! ### spec_l17Set: function 43 -/
def spec_l17Set.l0 : Nat → Int → List (S64) → Int → Int → Int → Bool → Option ((List (S64)))
  | 0, _, _, _, _, _, _ => none
  | k + 1, x7, x163000, x164000, x164001, x164002, x164003 => if x7 < (x163000.length : Int) then (if 0 ≤ x7 then ((spec_l17Less.f ((rd_T64 x163000 x7).f0) ((rd_T64 x163000 x7).f1) ((rd_T64 x163000 x7).f2) ((rd_T64 x163000 x7).f3) x164000 x164001).bind fun t172 => (if t172 = true then (spec_l17Set.l0 k (wrap64 (x7 + 1)) x163000 x164000 x164001 x164002 x164003) else ((some (([] : List (S64)) : List (S64))).bind fun y173 => (if x7 ≤ (x163000.length : Int) then ((some (x163000.take (x7 : Int).toNat : List (S64))).bind fun y176 => (if y173.length + y176.length < 4398046511104 then ((some (y173 ++ y176 : List (S64))).bind fun y180 => ((some (([(⟨x164000, x164001, x164002, x164003⟩ : S64)] : List (S64)) : List (S64))).bind fun y183 => (if y180.length + y183.length < 4398046511104 then ((some (y180 ++ y183 : List (S64))).bind fun y186 => ((some (x163000.drop (x7 : Int).toNat : List (S64))).bind fun y189 => (if y186.length + y189.length < 4398046511104 then (some (y186 ++ y189)) else (none)))) else (none)))) else (none))) else (none))))) else (none)) else ((some (([] : List (S64)) : List (S64))).bind fun y196 => (if 0 ≤ x7 then (if x7 ≤ (x163000.length : Int) then ((some (x163000.take (x7 : Int).toNat : List (S64))).bind fun y199 => (if y196.length + y199.length < 4398046511104 then ((some (y196 ++ y199 : List (S64))).bind fun y203 => ((some (([(⟨x164000, x164001, x164002, x164003⟩ : S64)] : List (S64)) : List (S64))).bind fun y206 => (if y203.length + y206.length < 4398046511104 then ((some (y203 ++ y206 : List (S64))).bind fun y209 => ((some (x163000.drop (x7 : Int).toNat : List (S64))).bind fun y212 => (if y209.length + y212.length < 4398046511104 then (some (y209 ++ y212)) else (none)))) else (none)))) else (none))) else (none)) else (none)))
def spec_l17Set.f (k : Nat) (l0_0 : List (S64)) (a1_0 : Int) (a1_1 : Int) (a1_2 : Int) (a1_3 : Bool) : Option ((List (S64))) := (spec_l17Copy.f l0_0).bind fun t165 => ((spec_FindEntry.f k l0_0 a1_0 a1_1).bind fun t169 => (if t169 ≥ 0 then (if 0 ≤ t169 then (if t169 < (t165.length : Int) then (some (t165.set (t169 : Int).toNat (⟨a1_0, a1_1, a1_2, a1_3⟩ : S64))) else (none)) else (none)) else (spec_l17Set.l0 k 0 l0_0 a1_0 a1_1 a1_2 a1_3)))
theorem spec_l17Set.mono_l : ∀ k, (∀ y0 y1 y2 y3 y4 y5, LeO (spec_l17Set.l0 k y0 y1 y2 y3 y4 y5) (spec_l17Set.l0 (k + 1) y0 y1 y2 y3 y4 y5))
  | 0 => fun _ _ _ _ _ _ r h => by simp [spec_l17Set.l0] at h
  | k + 1 => by
    have ih0 := spec_l17Set.mono_l k
    · intro y0 y1 y2 y3 y4 y5
      unfold spec_l17Set.l0
      repeat' first
      | (with_reducible exact ih0 _ _ _ _ _ _)
      | (with_reducible exact spec_FindEntry.mono _ _ _ _)
      | (with_reducible exact LeO.refl _)
      | (with_reducible exact LeO.none _)
      | (with_reducible refine LeO.ite ?_ ?_)
      | (with_reducible refine LeO.bind ?_ (fun _ => ?_))
      | exact ih0 _ _ _ _ _ _
      | exact spec_FindEntry.mono _ _ _ _
      | exact LeO.none _
      | refine LeO.ite ?_ ?_
      | refine LeO.bind ?_ (fun _ => ?_)
theorem spec_l17Set.mono : ∀ a0 a1 a2 a3 a4 k, LeO (spec_l17Set.f k a0 a1 a2 a3 a4) (spec_l17Set.f (k + 1) a0 a1 a2 a3 a4) := by
  intro a0 a1 a2 a3 a4 k
  have ih0 := spec_l17Set.mono_l k
  unfold spec_l17Set.f
  repeat' first
      | (with_reducible exact ih0 _ _ _ _ _ _)
      | (with_reducible exact spec_FindEntry.mono _ _ _ _)
      | (with_reducible exact LeO.refl _)
      | (with_reducible exact LeO.none _)
      | (with_reducible refine LeO.ite ?_ ?_)
      | (with_reducible refine LeO.bind ?_ (fun _ => ?_))
      | exact ih0 _ _ _ _ _ _
      | exact spec_FindEntry.mono _ _ _ _
      | exact LeO.none _
      | refine LeO.ite ?_ ?_
      | refine LeO.bind ?_ (fun _ => ?_)
def spec_l17Set.T7 : Bool × List (List Nat × List Nat) := (true, [([], []), ([], []), ([1], [1]), ([2], [2]), ([0, 3], [0, 3]), ([4], [4]), ([5], [5]), ([6, 5], [5, 6]), ([5], [5]), ([7, 8, 5], [5, 7, 8]), ([9, 5], [5, 9]), ([5], [5]), ([11, 5], [5, 11]), ([5], [5]), ([13, 5], [5, 13]), ([10, 12, 14, 5, 5], [5, 10, 12, 14]), ([5, 15], [5, 15])])
def spec_l17Set.B7 : List Nat := [0, 0, 2, 6, 15, 31, 63, 127, 63, 511, 1023, 63, 2111, 63, 8255, 32767, 65535]
theorem spec_l17Set.tab7 : rtab .any (opsOf Try.f43 7) = spec_l17Set.T7 := by kernel_rfl
theorem spec_l17Set.bits7 : waitsOk spec_l17Set.T7.2 spec_l17Set.B7 = true := by kernel_rfl
def spec_l17Set.T9 : Bool × List (List Nat × List Nat) := (true, [([], []), ([], []), ([1], [1]), ([], []), ([2, 3], [2, 3]), ([0, 4], [0, 4]), ([], []), ([6], [6]), ([5, 7, 5], [5, 7]), ([], []), ([9], [9]), ([], []), ([10, 11], [10, 11]), ([8, 12, 8], [8, 12]), ([0, 1, 2, 3, 4, 5, 6, 7, 8, 9, 10, 11, 12, 13], []), ([14, 13, 13, 0, 1, 2, 3, 4, 5, 6, 7, 8, 9, 10, 11, 12, 13], [13, 14])])
def spec_l17Set.B9 : List Nat := [0, 0, 2, 0, 14, 31, 0, 64, 255, 0, 512, 0, 3584, 8191, 16383, 32767]
theorem spec_l17Set.tab9 : rtab .any (opsOf Try.f43 9) = spec_l17Set.T9 := by kernel_rfl
theorem spec_l17Set.bits9 : waitsOk spec_l17Set.T9.2 spec_l17Set.B9 = true := by kernel_rfl
set_option maxHeartbeats 8000000 in
set_option maxRecDepth 100000 in
theorem spec_l17Set.calls (k : Nat) (A0_0 : Option Addr) (c0_0 : Nat) (l0_0 : List (S64)) (a1_0 : Int) (a1_1 : Int) (a1_2 : Int) (a1_3 : Bool) (r : List (S64)) (w : World) (hr0_0 : Kd.C k64 w A0_0 l0_0.length l0_0) (hc0_0 : l0_0.length ≤ c0_0) (h : spec_l17Set.f k l0_0 a1_0 a1_1 a1_2 a1_3 = some r) :
    Calls Try.prog 43 #[.agg #[.slice A0_0 l0_0.length c0_0], .agg #[.int .i64 a1_0, .int .i64 a1_1, .int .i64 a1_2, .bool a1_3]] w fun e w' => ∃ v0_ : Value, e = .returned (.agg #[v0_]) ∧ Kd.R k64 64 w' w.heap.size (fun _ => True) v0_ r ∧ Below w.heap.size w w' := by
 have hu39 := Try.underlying39; have hu64 := Try.underlying64; have HR0_0 := Aside0.mk hr0_0; have HC0_0 := Aside0.mk hc0_0; clear hr0_0 hc0_0
 have HB := Aside0.mk (Below.refl w.heap.size w)
 have H : ((spec_l17Copy.f l0_0).bind fun t165 => ((spec_FindEntry.f k l0_0 a1_0 a1_1).bind fun t169 => (if t169 ≥ 0 then (if 0 ≤ t169 then (if t169 < (t165.length : Int) then (some (t165.set (t169 : Int).toNat (⟨a1_0, a1_1, a1_2, a1_3⟩ : S64))) else (none)) else (none)) else (spec_l17Set.l0 k 0 l0_0 a1_0 a1_1 a1_2 a1_3)))) = some r := h
 clear h; replace H := Option.bind_eq_some_iff.mp H; obtain ⟨t165, A30, H⟩ := H; (try dsimp only at H); have A3 := Aside0.mk A30; clear A30; replace H := Option.bind_eq_some_iff.mp H; obtain ⟨t169, A40, H⟩ := H; (try dsimp only at H); have A4 := Aside0.mk A40; clear A40
 by_cases c5 : t169 ≥ 0
 ·rw [if_pos c5] at H; have c5b0 : decide (0 ≤ t169) = true := decide_eq_true c5; clear c5
  by_cases c6 : 0 ≤ t169
  ·rw [if_pos c6] at H; have c6b0 : decide (0 ≤ t169) = true := decide_eq_true c6; clear c6
   by_cases c7 : t169 < (t165.length : Int)
   ·rw [if_pos c7] at H
    have c7b0 : decide (t169 < (t165.length : Int)) = true := decide_eq_true c7
    clear c7
    obtain ⟨y170, hy170⟩ : ∃ y_ : List (S64), y_ = (t165.set (t169 : Int).toNat (⟨a1_0, a1_1, a1_2, a1_3⟩ : S64)) := ⟨_, rfl⟩
    replace H : (some y170) = some r := by first | (rw [hy170]; with_reducible exact H) | (have H2_ := (Option.bind_some _ _).symm.trans H; rw [hy170]; with_reducible exact H2_) | (have H2_ := (Option.bind_some _ _).symm.trans H; with_reducible exact H2_) | with_reducible exact H | (rw [hy170]; exact H) | exact H
    have Ny170 := Aside0.mk hy170; clear hy170
    obtain rfl := Option.some.inj H
    go_enter Try.func43, Try.ntmps43
    go_wp2_with (first | ((with_reducible refine gate_dst (N := 2) rfl ?_); refine box_event ?hg (N := 2) ?hd (cs := #[.slice A0_0 l0_0.length c0_0]) (t := 39) ?hr ?_; (case hd => rfl); (case hg => rfl); (case hr => first | (go_simp; done) | (go_simp; rfl)); intro gb162 hg w9 hbox hb; have n0_ := Aside0.mk (below_step (Cmp.g HB.out) hb); have n1_ := Aside0.mk (hbox); have n2_ := Aside0.mk ((by rw [hg]; exact (below_size (Cmp.g HB.out)) : w.heap.size ≤ gb162)); have n3_ := Aside0.mk ((by rw [hg]; exact (below_size (Cmp.g HB.out)) : w.heap.size ≤ gb162)); clear HB; have HB := n0_; have BK162 := n1_; have GW162 := n2_; have GE162 := n3_; clear n0_ n1_ n2_ n3_; clear hb hbox hg) | ((with_reducible refine gate_dst (N := 3) rfl ?_); refine box_event ?hg (N := 3) ?hd (cs := #[.int .i64 a1_0, .int .i64 a1_1, .int .i64 a1_2, .bool a1_3]) (t := 64) ?hr ?_; (case hd => rfl); (case hg => rfl); (case hr => first | (go_simp; done) | (go_simp; rfl)); intro gb163 hg w10 hbox hb; have n0_ := Aside0.mk (blk_below (g := gb162) (o := .cells #[.slice A0_0 l0_0.length c0_0] 39 (0, 0)) (Cmp.b BK162.out) hb); have n1_ := Aside0.mk (below_step (Cmp.g HB.out) hb); have n2_ := Aside0.mk (hbox); have n3_ := Aside0.mk ((by rw [hg]; exact (below_size (Cmp.g HB.out)) : w.heap.size ≤ gb163)); have n4_ := Aside0.mk ((by rw [hg]; exact (below_size (Cmp.g HB.out)) : w.heap.size ≤ gb163)); have n5_ := Aside0.mk ((by rw [hg]; exact Nat.ne_of_lt (blk_lt (g := gb162) (o := .cells #[.slice A0_0 l0_0.length c0_0] 39 (0, 0)) (Cmp.b BK162.out)) : gb162 ≠ gb163)); have n6_ := Aside0.mk ((by rw [hg]; exact Nat.ne_of_gt (blk_lt (g := gb162) (o := .cells #[.slice A0_0 l0_0.length c0_0] 39 (0, 0)) (Cmp.b BK162.out)) : gb163 ≠ gb162)); clear BK162; clear HB; have BK162 := n0_; have HB := n1_; have BK163 := n2_; have GW163 := n3_; have GE163 := n4_; have NB162_163 := n5_; have NB163_162 := n6_; clear n0_ n1_ n2_ n3_ n4_ n5_ n6_; clear hb hbox hg) | ((with_reducible refine gate_dst (N := 4) rfl ?_); refine box_event ?hg (N := 4) ?hd (cs := #[.slice none 0 0]) (t := 39) ?hr ?_; (case hd => rfl); (case hg => rfl); (case hr => first | (go_simp; done) | (go_simp; rfl)); intro gb164 hg w11 hbox hb; have n0_ := Aside0.mk (blk_below (g := gb162) (o := .cells #[.slice A0_0 l0_0.length c0_0] 39 (0, 0)) (Cmp.b BK162.out) hb); have n1_ := Aside0.mk (blk_below (g := gb163) (o := .cells #[.int .i64 a1_0, .int .i64 a1_1, .int .i64 a1_2, .bool a1_3] 64 (0, 0)) (Cmp.b BK163.out) hb); have n2_ := Aside0.mk (below_step (Cmp.g HB.out) hb); have n3_ := Aside0.mk (hbox); have n4_ := Aside0.mk ((by rw [hg]; exact (below_size (Cmp.g HB.out)) : w.heap.size ≤ gb164)); have n5_ := Aside0.mk ((by rw [hg]; exact (below_size (Cmp.g HB.out)) : w.heap.size ≤ gb164)); have n6_ := Aside0.mk ((by rw [hg]; exact Nat.ne_of_lt (blk_lt (g := gb162) (o := .cells #[.slice A0_0 l0_0.length c0_0] 39 (0, 0)) (Cmp.b BK162.out)) : gb162 ≠ gb164)); have n7_ := Aside0.mk ((by rw [hg]; exact Nat.ne_of_gt (blk_lt (g := gb162) (o := .cells #[.slice A0_0 l0_0.length c0_0] 39 (0, 0)) (Cmp.b BK162.out)) : gb164 ≠ gb162)); have n8_ := Aside0.mk ((by rw [hg]; exact Nat.ne_of_lt (blk_lt (g := gb163) (o := .cells #[.int .i64 a1_0, .int .i64 a1_1, .int .i64 a1_2, .bool a1_3] 64 (0, 0)) (Cmp.b BK163.out)) : gb163 ≠ gb164)); have n9_ := Aside0.mk ((by rw [hg]; exact Nat.ne_of_gt (blk_lt (g := gb163) (o := .cells #[.int .i64 a1_0, .int .i64 a1_1, .int .i64 a1_2, .bool a1_3] 64 (0, 0)) (Cmp.b BK163.out)) : gb164 ≠ gb163)); clear BK162; clear BK163; clear HB; have BK162 := n0_; have BK163 := n1_; have HB := n2_; have BK164 := n3_; have GW164 := n4_; have GE164 := n5_; have NB162_164 := n6_; have NB164_162 := n7_; have NB163_164 := n8_; have NB164_163 := n9_; clear n0_ n1_ n2_ n3_ n4_ n5_ n6_ n7_ n8_ n9_; clear hb hbox hg; have hnb12 := NB162_163.out; have hnc12 := NB163_162.out; have hnb13 := NB162_164.out; have hnc13 := NB164_162.out; have hcz14_0 : w11.cell? ⟨gb162, 0, none⟩ = some (.slice A0_0 l0_0.length c0_0) := (blk_cell BK162.out 0).trans rfl; have hfz14_0 := blk_frozen BK162.out 0) | ((with_reducible refine gate_callee (f := 42) rfl ?_); refine goesL_ (some 9) rfl rfl Try.func42 (by kernel_rfl) rfl #[.agg #[.slice A0_0 l0_0.length c0_0]] rfl Cmp.q ?_; (with_reducible refine (spec_l17Copy.calls _ _ l0_0 t165 _ ?side1 ?side2 A3.out).mono ?_); (case side1 => exact Cmp.rc (Kd.C_below HR0_0.out HB.out)); (case side2 => exact HC0_0.out); rintro e w15 ⟨v166, rfl, ho0, hb⟩; refine ⟨_, rfl, ?_⟩; have n0_ := Aside0.mk (Kd.R_lower (Kd.R_newB ho0 (g := gb163) (o := .cells #[.int .i64 a1_0, .int .i64 a1_1, .int .i64 a1_2, .bool a1_3] 64 (0, 0)) (Cmp.b BK163.out)) (below_size (Cmp.g HB.out))); have n1_ := Aside0.mk (blk_below (g := gb162) (o := .cells #[.slice A0_0 l0_0.length c0_0] 39 (0, 0)) (Cmp.b BK162.out) hb); have n2_ := Aside0.mk (blk_below (g := gb163) (o := .cells #[.int .i64 a1_0, .int .i64 a1_1, .int .i64 a1_2, .bool a1_3] 64 (0, 0)) (Cmp.b BK163.out) hb); have n3_ := Aside0.mk (blk_below (g := gb164) (o := .cells #[.slice none 0 0] 39 (0, 0)) (Cmp.b BK164.out) hb); have n4_ := Aside0.mk (below_step (Cmp.g HB.out) hb); clear BK162; clear BK163; clear BK164; clear HB; have HO167 := n0_; have BK162 := n1_; have BK163 := n2_; have BK164 := n3_; have HB := n4_; clear n0_ n1_ n2_ n3_ n4_; (try clear hb); (try clear hb2); (try clear hk); (try clear hi); (try clear ho0)) | ((with_reducible refine gate_dst (N := 5) rfl ?_); refine box_event ?hg (N := 5) ?hd (cs := #[.slice none 0 0]) (t := 39) ?hr ?_; (case hd => rfl); (case hg => rfl); (case hr => first | (go_simp; done) | (go_simp; rfl)); intro gb168 hg w16 hbox hb; have n0_ := Aside0.mk (Kd.R_below (Cmp.rr HO167.out) hb); have n1_ := Aside0.mk (blk_below (g := gb162) (o := .cells #[.slice A0_0 l0_0.length c0_0] 39 (0, 0)) (Cmp.b BK162.out) hb); have n2_ := Aside0.mk (blk_below (g := gb163) (o := .cells #[.int .i64 a1_0, .int .i64 a1_1, .int .i64 a1_2, .bool a1_3] 64 (0, 0)) (Cmp.b BK163.out) hb); have n3_ := Aside0.mk (blk_below (g := gb164) (o := .cells #[.slice none 0 0] 39 (0, 0)) (Cmp.b BK164.out) hb); have n4_ := Aside0.mk (below_step (Cmp.g HB.out) hb); have n5_ := Aside0.mk (hbox); have n6_ := Aside0.mk ((by rw [hg]; exact (below_size (Cmp.g HB.out)) : w.heap.size ≤ gb168)); have n7_ := Aside0.mk ((by rw [hg]; exact (below_size (Cmp.g HB.out)) : w.heap.size ≤ gb168)); have n8_ := Aside0.mk ((by rw [hg]; exact Nat.ne_of_lt (blk_lt (g := gb162) (o := .cells #[.slice A0_0 l0_0.length c0_0] 39 (0, 0)) (Cmp.b BK162.out)) : gb162 ≠ gb168)); have n9_ := Aside0.mk ((by rw [hg]; exact Nat.ne_of_gt (blk_lt (g := gb162) (o := .cells #[.slice A0_0 l0_0.length c0_0] 39 (0, 0)) (Cmp.b BK162.out)) : gb168 ≠ gb162)); have n10_ := Aside0.mk ((by rw [hg]; exact Nat.ne_of_lt (blk_lt (g := gb163) (o := .cells #[.int .i64 a1_0, .int .i64 a1_1, .int .i64 a1_2, .bool a1_3] 64 (0, 0)) (Cmp.b BK163.out)) : gb163 ≠ gb168)); have n11_ := Aside0.mk ((by rw [hg]; exact Nat.ne_of_gt (blk_lt (g := gb163) (o := .cells #[.int .i64 a1_0, .int .i64 a1_1, .int .i64 a1_2, .bool a1_3] 64 (0, 0)) (Cmp.b BK163.out)) : gb168 ≠ gb163)); have n12_ := Aside0.mk ((by rw [hg]; exact Nat.ne_of_lt (blk_lt (g := gb164) (o := .cells #[.slice none 0 0] 39 (0, 0)) (Cmp.b BK164.out)) : gb164 ≠ gb168)); have n13_ := Aside0.mk ((by rw [hg]; exact Nat.ne_of_gt (blk_lt (g := gb164) (o := .cells #[.slice none 0 0] 39 (0, 0)) (Cmp.b BK164.out)) : gb168 ≠ gb164)); clear HO167; clear BK162; clear BK163; clear BK164; clear HB; have HO167 := n0_; have BK162 := n1_; have BK163 := n2_; have BK164 := n3_; have HB := n4_; have BK168 := n5_; have GW168 := n6_; have GE168 := n7_; have NB162_168 := n8_; have NB168_162 := n9_; have NB163_168 := n10_; have NB168_163 := n11_; have NB164_168 := n12_; have NB168_164 := n13_; clear n0_ n1_ n2_ n3_ n4_ n5_ n6_ n7_ n8_ n9_ n10_ n11_ n12_ n13_; clear hb hbox hg; obtain ⟨Ao17, co17, eo17⟩ := Kd.R_slice HO167.out; subst eo17; have hnb18 := NB168_162.out; have hnc18 := NB162_168.out; have hnb19 := NB168_163.out; have hnc19 := NB163_168.out; have hnb20 := NB168_164.out; have hnc20 := NB164_168.out; have hcz21_0 : w16.cell? ⟨gb168, 0, none⟩ = some (.slice none 0 0) := (blk_cell BK168.out 0).trans rfl; have hfz21_0 := blk_frozen BK168.out 0; have hcz22_0 : w16.cell? ⟨gb162, 0, none⟩ = some (.slice A0_0 l0_0.length c0_0) := (blk_cell BK162.out 0).trans rfl; have hfz22_0 := blk_frozen BK162.out 0; have hnb23 := NB163_164.out; have hnc23 := NB164_163.out; have hcz24_0 : w16.cell? ⟨gb163, 0, none⟩ = some (.int .i64 a1_0) := (blk_cell BK163.out 0).trans rfl; have hcz24_1 : w16.cell? ⟨gb163, 1, none⟩ = some (.int .i64 a1_1) := (blk_cell BK163.out 1).trans rfl; have hcz24_2 : w16.cell? ⟨gb163, 2, none⟩ = some (.int .i64 a1_2) := (blk_cell BK163.out 2).trans rfl; have hcz24_3 : w16.cell? ⟨gb163, 3, none⟩ = some (.bool a1_3) := (blk_cell BK163.out 3).trans rfl; have hfz24_0 := blk_frozen BK163.out 0; have hfz24_1 := blk_frozen BK163.out 1; have hfz24_2 := blk_frozen BK163.out 2; have hfz24_3 := blk_frozen BK163.out 3) | ((with_reducible refine gate_callee (f := 40) rfl ?_); refine goesL_ (some 15) rfl rfl Try.func40 (by kernel_rfl) rfl #[.agg #[.slice A0_0 l0_0.length c0_0], .int .i64 a1_0, .int .i64 a1_1] rfl Cmp.q ?_; (with_reducible refine (spec_FindEntry.calls k _ _ l0_0 a1_0 a1_1 t169 _ ?side1 ?side2 A4.out).mono ?_); (case side1 => exact Kd.C_below HR0_0.out (Cmp.g HB.out)); (case side2 => exact HC0_0.out); rintro e w25 ⟨rfl, hb⟩; refine ⟨_, rfl, ?_⟩; have n0_ := Aside0.mk (Kd.R_below (by (with_reducible repeat (first | apply Kd.R_alloc | apply Kd.R_drewN | apply Kd.R_drew)); exact (Kd.R_mono (Kd.R_far (p := ⟨gb168, 0, none⟩) (Kd.R_types HO167.out BK168.out (by decide)) (fun _ hk => hk.2) (.slice Ao17 t165.length co17)) (fun _ h_ => h_.1))) hb); have n1_ := Aside0.mk (blk_below (g := gb162) (o := .cells #[.slice A0_0 l0_0.length c0_0] 39 (0, 0)) (by (with_reducible repeat (first | refine blk_drewN ?_ _ | refine blk_drew ?_ | refine blk_alloc ?_ _)); refine blk_far ?_ NB162_168.out _; (with_reducible repeat (first | refine blk_drewN ?_ _ | refine blk_drew ?_ | refine blk_alloc ?_ _)); exact BK162.out) hb); have n2_ := Aside0.mk (blk_below (g := gb163) (o := .cells #[.int .i64 a1_0, .int .i64 a1_1, .int .i64 a1_2, .bool a1_3] 64 (0, 0)) (by (with_reducible repeat (first | refine blk_drewN ?_ _ | refine blk_drew ?_ | refine blk_alloc ?_ _)); refine blk_far ?_ NB163_168.out _; (with_reducible repeat (first | refine blk_drewN ?_ _ | refine blk_drew ?_ | refine blk_alloc ?_ _)); exact BK163.out) hb); have n3_ := Aside0.mk (blk_below (g := gb164) (o := .cells #[.slice none 0 0] 39 (0, 0)) (by (with_reducible repeat (first | refine blk_drewN ?_ _ | refine blk_drew ?_ | refine blk_alloc ?_ _)); refine blk_far ?_ NB164_168.out _; (with_reducible repeat (first | refine blk_drewN ?_ _ | refine blk_drew ?_ | refine blk_alloc ?_ _)); exact BK164.out) hb); have n4_ := Aside0.mk (blk_below (g := gb168) (o := .cells #[.slice Ao17 t165.length co17] 39 (0, 0)) (by (with_reducible repeat (first | refine blk_drewN ?_ _ | refine blk_drew ?_ | refine blk_alloc ?_ _)); refine blk_put (cs := #[.slice none 0 0]) ?_ 0 _ rfl; (with_reducible repeat (first | refine blk_drewN ?_ _ | refine blk_drew ?_ | refine blk_alloc ?_ _)); exact BK168.out) hb); have n5_ := Aside0.mk (below_step (Cmp.g HB.out) hb); clear HO167; clear BK162; clear BK163; clear BK164; clear BK168; clear HB; have HO167 := n0_; have BK162 := n1_; have BK163 := n2_; have BK164 := n3_; have BK168 := n4_; have HB := n5_; clear n0_ n1_ n2_ n3_ n4_ n5_; (try clear hb); (try clear hb2); (try clear hk); (try clear hi); have hcz26_0 : w25.cell? ⟨gb168, 0, none⟩ = some (.slice Ao17 t165.length co17) := (blk_cell BK168.out 0).trans rfl; have hfz26_0 := blk_frozen BK168.out 0; have hcz27_0 : w25.cell? ⟨gb163, 0, none⟩ = some (.int .i64 a1_0) := (blk_cell BK163.out 0).trans rfl; have hcz27_1 : w25.cell? ⟨gb163, 1, none⟩ = some (.int .i64 a1_1) := (blk_cell BK163.out 1).trans rfl; have hcz27_2 : w25.cell? ⟨gb163, 2, none⟩ = some (.int .i64 a1_2) := (blk_cell BK163.out 2).trans rfl; have hcz27_3 : w25.cell? ⟨gb163, 3, none⟩ = some (.bool a1_3) := (blk_cell BK163.out 3).trans rfl; have hfz27_0 := blk_frozen BK163.out 0; have hfz27_1 := blk_frozen BK163.out 1; have hfz27_2 := blk_frozen BK163.out 2; have hfz27_3 := blk_frozen BK163.out 3; have p8 : 0 ≤ (t169 : Int) := of_decide_eq_true Cmp.d; have q8 : (t169 : Int) < ((t165.length : Int) : Int) := of_decide_eq_true Cmp.d; obtain ⟨go8, co8, eo8, gb8, gl8, cl8, HG8⟩ := Kd.R_form HO167.out (by omega); (first | cases eo8 | (injection eo8 with ea_ en_ ec_; (first | subst ea_ | (injection ea_ with ea_; subst ea_)); subst ec_; clear en_)); have GB8 := Aside0.mk gb8; have GG8 := Aside0.mk HG8; clear gb8 gl8 HG8; obtain ⟨ce8, hcl8, hM8, hcc8, hfr8⟩ := Kd.R_elem HO167.out z64 (t169 : Int) p8 q8; obtain rfl := k64_openM hM8; have hx8_0 : w25.cell? ⟨go8, (t169 : Int).toNat * 4, none⟩ = some (.int .i64 ((rd_T64 t165 t169).f0)) := hcc8 0 _ rfl; have hx8_1 : w25.cell? ⟨go8, (t169 : Int).toNat * 4 + 1, none⟩ = some (.int .i64 ((rd_T64 t165 t169).f1)) := hcc8 1 _ rfl; have hx8_2 : w25.cell? ⟨go8, (t169 : Int).toNat * 4 + 2, none⟩ = some (.int .i64 ((rd_T64 t165 t169).f2)) := hcc8 2 _ rfl; have hx8_3 : w25.cell? ⟨go8, (t169 : Int).toNat * 4 + 3, none⟩ = some (.bool ((rd_T64 t165 t169).f3)) := hcc8 3 _ rfl; have hf8_0 : w25.frozen? ⟨go8, (t169 : Int).toNat * 4, none⟩ = false := hfr8 0; have hf8_1 : w25.frozen? ⟨go8, (t169 : Int).toNat * 4 + 1, none⟩ = false := hfr8 1; have hf8_2 : w25.frozen? ⟨go8, (t169 : Int).toNat * 4 + 2, none⟩ = false := hfr8 2; have hf8_3 : w25.frozen? ⟨go8, (t169 : Int).toNat * 4 + 3, none⟩ = false := hfr8 3; clear hcl8 hcc8 hfr8 hM8; replace p8 := eq_true p8; replace q8 := eq_true q8; have n_ := Aside0.mk (Kd.R_mono (ok' := (fun k_ => k_ ≠ gb163)) HO167.out (fun k_ hk => hk.2)); clear HO167; have HO167 := n_; clear n_; have HX28 := Aside0.mk (show Kd.R k64 64 w25 w.heap.size (fun k_ => k_ ≠ gb163) (.slice (some ⟨go8, 0, none⟩) t165.length co17) t165 from (Cmp.rr HO167.out)); obtain ⟨ce28, hcl28, hM28, hcc28, hfr28⟩ := Kd.R_elem HX28.out z64 (t169 : Int) (of_decide_eq_true Cmp.d) (by have h_ : (t169 : Int) < ((t165.length : Int) : Int) := of_decide_eq_true Cmp.d; first | exact h_ | (have e_ := (Kd.R_reads' HO167.out).1; omega) | simpa using h_); obtain rfl := k64_openM hM28; have HP28 := Kd.R_seg HX28.out (t169 : Int) (of_decide_eq_true Cmp.d) (by have h_ : (t169 : Int) < ((t165.length : Int) : Int) := of_decide_eq_true Cmp.d; first | exact h_ | (have e_ := (Kd.R_reads' HO167.out).1; omega) | simpa using h_) (seg := [.int .i64 a1_0, .int .i64 a1_1, .int .i64 a1_2, .bool a1_3]) (j := 0) hcl28 hcc28 (show 4 ≤ 4 from by decide) (x' := (⟨a1_0, a1_1, a1_2, a1_3⟩ : S64)) (k64_mkM _ _ _ (⟨a1_0, a1_1, a1_2, a1_3⟩ : S64) ) (fun _ hk => hk); have hx28_0 := hcc28 0 _ rfl; (try simp only [show (k64).sz = 4 from rfl, Nat.mul_one, Nat.add_zero] at hx28_0); have hf28_0 := hfr28 0; (try simp only [show (k64).sz = 4 from rfl, Nat.mul_one, Nat.add_zero] at hf28_0); have hx28_1 := hcc28 1 _ rfl; (try simp only [show (k64).sz = 4 from rfl, Nat.mul_one, Nat.add_zero] at hx28_1); have hf28_1 := hfr28 1; (try simp only [show (k64).sz = 4 from rfl, Nat.mul_one, Nat.add_zero] at hf28_1); have hx28_2 := hcc28 2 _ rfl; (try simp only [show (k64).sz = 4 from rfl, Nat.mul_one, Nat.add_zero] at hx28_2); have hf28_2 := hfr28 2; (try simp only [show (k64).sz = 4 from rfl, Nat.mul_one, Nat.add_zero] at hf28_2); have hx28_3 := hcc28 3 _ rfl; (try simp only [show (k64).sz = 4 from rfl, Nat.mul_one, Nat.add_zero] at hx28_3); have hf28_3 := hfr28 3; (try simp only [show (k64).sz = 4 from rfl, Nat.mul_one, Nat.add_zero] at hf28_3); clear hcl28 hcc28 hfr28 hM28) | ((with_reducible refine gate_store (t := 64) (p := 22) rfl ?_); refine store_event (t := 64) (p := 22) (v := ?vo_w29) (w1 := ((((w25.setCell ⟨go8, (t169 : Int).toNat * 4, none⟩ (.int .i64 a1_0)).setCell ⟨go8, (t169 : Int).toNat * 4 + 1, none⟩ (.int .i64 a1_1)).setCell ⟨go8, (t169 : Int).toNat * 4 + 2, none⟩ (.int .i64 a1_2)).setCell ⟨go8, (t169 : Int).toNat * 4 + 3, none⟩ (.bool a1_3))) ?hg ?ho ?hn ?hr ?_; (case ho => rfl); (case hg => rfl); (case hn => rfl); (case hr => first | (go_simp; done) | (go_simp; rfl)); intro w29 hw; have hg : w25.grownBy w29 (some go8) := (by rw [hw]; exact HP28.2); have hp_ : Kd.R k64 64 w29 w.heap.size (fun k_ => k_ ≠ gb163) (.slice (some ⟨go8, 0, none⟩) t165.length co17) y170 := (by rw [hw, Ny170.out]; exact HP28.1); clear HP28; have n0_ := Aside0.mk (blk_grown (g := gb162) (o := .cells #[.slice A0_0 l0_0.length c0_0] 39 (0, 0)) (Cmp.b BK162.out) hg (Kd.R_ne HO167.out BK162.out (by decide))); have n1_ := Aside0.mk (blk_grown (g := gb163) (o := .cells #[.int .i64 a1_0, .int .i64 a1_1, .int .i64 a1_2, .bool a1_3] 64 (0, 0)) (Cmp.b BK163.out) hg (Kd.R_away HO167.out (fun _ hk => hk))); have n2_ := Aside0.mk (blk_grown (g := gb164) (o := .cells #[.slice none 0 0] 39 (0, 0)) (Cmp.b BK164.out) hg (Kd.R_ne HO167.out BK164.out (by decide))); have n3_ := Aside0.mk (hp_); have n4_ := Aside0.mk (blk_grown (g := gb168) (o := .cells #[.slice (some ⟨go8, 0, none⟩) t165.length co17] 39 (0, 0)) (Cmp.b BK168.out) hg (Kd.R_ne HO167.out BK168.out (by decide))); have n5_ := Aside0.mk ((by rw [hw]; exact below_set (below_set (below_set (below_set (HB.out) GB8.out) GB8.out) GB8.out) GB8.out : Below w.heap.size w w29)); clear BK162; clear BK163; clear BK164; clear HO167; clear BK168; clear HB; have BK162 := n0_; have BK163 := n1_; have BK164 := n2_; have HO167 := n3_; have BK168 := n4_; have HB := n5_; clear n0_ n1_ n2_ n3_ n4_ n5_; clear hg hw hp_; have hcz30_0 : w29.cell? ⟨gb168, 0, none⟩ = some (.slice (some ⟨go8, 0, none⟩) t165.length co17) := (blk_cell BK168.out 0).trans rfl; have hfz30_0 := blk_frozen BK168.out 0; have hcz31_0 : w29.cell? ⟨gb164, 0, none⟩ = some (.slice none 0 0) := (blk_cell BK164.out 0).trans rfl; have hfz31_0 := blk_frozen BK164.out 0))
    refine bodyPost_ret (results_cell_row rfl _ _ gb164 39 #[.slice (some ⟨go8, 0, none⟩) t165.length co17] (0, 0) _ rfl (by (with_reducible repeat (first | refine blk_drewN ?_ _ | refine blk_drew ?_ | refine blk_alloc ?_ _)); refine blk_put (cs := #[.slice none 0 0]) ?_ 0 _ rfl; (with_reducible repeat (first | refine blk_drewN ?_ _ | refine blk_drew ?_ | refine blk_alloc ?_ _)); exact BK164.out) Try.underlying39 rfl (by kernel_rfl)) rfl ?_
    exact ⟨_, by first | rfl | (simp [errW_none, errW_some] <;> rfl) | (simp [*, errW_none, errW_some] <;> rfl), by (with_reducible repeat (first | apply Kd.R_alloc | apply Kd.R_drewN | apply Kd.R_drew)); exact Kd.R_mono (Kd.R_far (p := ⟨gb164, 0, none⟩) (Kd.R_types HO167.out BK164.out (by decide)) (fun _ hk => hk.2) (.slice (some ⟨go8, 0, none⟩) t165.length co17)) (fun _ hk => trivial), Cmp.g HB.out⟩
   ·rw [if_neg c7] at H; exact absurd H (by simp)
  ·rw [if_neg c6] at H; exact absurd H (by simp)
 ·rw [if_neg c5] at H; have c5b0 : decide (0 ≤ t169) = false := decide_eq_false c5; clear c5
  have H' := Aside0.mk H
  clear H
  go_enter Try.func43, Try.ntmps43
  go_wp2_with (first | ((with_reducible refine gate_dst (N := 2) rfl ?_); refine box_event ?hg (N := 2) ?hd (cs := #[.slice A0_0 l0_0.length c0_0]) (t := 39) ?hr ?_; (case hd => rfl); (case hg => rfl); (case hr => first | (go_simp; done) | (go_simp; rfl)); intro gb162 hg w32 hbox hb; have n0_ := Aside0.mk (below_step (Cmp.g HB.out) hb); have n1_ := Aside0.mk (hbox); have n2_ := Aside0.mk ((by rw [hg]; exact (below_size (Cmp.g HB.out)) : w.heap.size ≤ gb162)); have n3_ := Aside0.mk ((by rw [hg]; exact (below_size (Cmp.g HB.out)) : w.heap.size ≤ gb162)); clear HB; have HB := n0_; have BK162 := n1_; have GW162 := n2_; have GE162 := n3_; clear n0_ n1_ n2_ n3_; clear hb hbox hg) | ((with_reducible refine gate_dst (N := 3) rfl ?_); refine box_event ?hg (N := 3) ?hd (cs := #[.int .i64 a1_0, .int .i64 a1_1, .int .i64 a1_2, .bool a1_3]) (t := 64) ?hr ?_; (case hd => rfl); (case hg => rfl); (case hr => first | (go_simp; done) | (go_simp; rfl)); intro gb163 hg w33 hbox hb; have n0_ := Aside0.mk (blk_below (g := gb162) (o := .cells #[.slice A0_0 l0_0.length c0_0] 39 (0, 0)) (Cmp.b BK162.out) hb); have n1_ := Aside0.mk (below_step (Cmp.g HB.out) hb); have n2_ := Aside0.mk (hbox); have n3_ := Aside0.mk ((by rw [hg]; exact (below_size (Cmp.g HB.out)) : w.heap.size ≤ gb163)); have n4_ := Aside0.mk ((by rw [hg]; exact (below_size (Cmp.g HB.out)) : w.heap.size ≤ gb163)); have n5_ := Aside0.mk ((by rw [hg]; exact Nat.ne_of_lt (blk_lt (g := gb162) (o := .cells #[.slice A0_0 l0_0.length c0_0] 39 (0, 0)) (Cmp.b BK162.out)) : gb162 ≠ gb163)); have n6_ := Aside0.mk ((by rw [hg]; exact Nat.ne_of_gt (blk_lt (g := gb162) (o := .cells #[.slice A0_0 l0_0.length c0_0] 39 (0, 0)) (Cmp.b BK162.out)) : gb163 ≠ gb162)); clear BK162; clear HB; have BK162 := n0_; have HB := n1_; have BK163 := n2_; have GW163 := n3_; have GE163 := n4_; have NB162_163 := n5_; have NB163_162 := n6_; clear n0_ n1_ n2_ n3_ n4_ n5_ n6_; clear hb hbox hg) | ((with_reducible refine gate_dst (N := 4) rfl ?_); refine box_event ?hg (N := 4) ?hd (cs := #[.slice none 0 0]) (t := 39) ?hr ?_; (case hd => rfl); (case hg => rfl); (case hr => first | (go_simp; done) | (go_simp; rfl)); intro gb164 hg w34 hbox hb; have n0_ := Aside0.mk (blk_below (g := gb162) (o := .cells #[.slice A0_0 l0_0.length c0_0] 39 (0, 0)) (Cmp.b BK162.out) hb); have n1_ := Aside0.mk (blk_below (g := gb163) (o := .cells #[.int .i64 a1_0, .int .i64 a1_1, .int .i64 a1_2, .bool a1_3] 64 (0, 0)) (Cmp.b BK163.out) hb); have n2_ := Aside0.mk (below_step (Cmp.g HB.out) hb); have n3_ := Aside0.mk (hbox); have n4_ := Aside0.mk ((by rw [hg]; exact (below_size (Cmp.g HB.out)) : w.heap.size ≤ gb164)); have n5_ := Aside0.mk ((by rw [hg]; exact (below_size (Cmp.g HB.out)) : w.heap.size ≤ gb164)); have n6_ := Aside0.mk ((by rw [hg]; exact Nat.ne_of_lt (blk_lt (g := gb162) (o := .cells #[.slice A0_0 l0_0.length c0_0] 39 (0, 0)) (Cmp.b BK162.out)) : gb162 ≠ gb164)); have n7_ := Aside0.mk ((by rw [hg]; exact Nat.ne_of_gt (blk_lt (g := gb162) (o := .cells #[.slice A0_0 l0_0.length c0_0] 39 (0, 0)) (Cmp.b BK162.out)) : gb164 ≠ gb162)); have n8_ := Aside0.mk ((by rw [hg]; exact Nat.ne_of_lt (blk_lt (g := gb163) (o := .cells #[.int .i64 a1_0, .int .i64 a1_1, .int .i64 a1_2, .bool a1_3] 64 (0, 0)) (Cmp.b BK163.out)) : gb163 ≠ gb164)); have n9_ := Aside0.mk ((by rw [hg]; exact Nat.ne_of_gt (blk_lt (g := gb163) (o := .cells #[.int .i64 a1_0, .int .i64 a1_1, .int .i64 a1_2, .bool a1_3] 64 (0, 0)) (Cmp.b BK163.out)) : gb164 ≠ gb163)); clear BK162; clear BK163; clear HB; have BK162 := n0_; have BK163 := n1_; have HB := n2_; have BK164 := n3_; have GW164 := n4_; have GE164 := n5_; have NB162_164 := n6_; have NB164_162 := n7_; have NB163_164 := n8_; have NB164_163 := n9_; clear n0_ n1_ n2_ n3_ n4_ n5_ n6_ n7_ n8_ n9_; clear hb hbox hg; have hnb35 := NB162_163.out; have hnc35 := NB163_162.out; have hnb36 := NB162_164.out; have hnc36 := NB164_162.out; have hcz37_0 : w34.cell? ⟨gb162, 0, none⟩ = some (.slice A0_0 l0_0.length c0_0) := (blk_cell BK162.out 0).trans rfl; have hfz37_0 := blk_frozen BK162.out 0) | ((with_reducible refine gate_callee (f := 42) rfl ?_); refine goesL_ (some 9) rfl rfl Try.func42 (by kernel_rfl) rfl #[.agg #[.slice A0_0 l0_0.length c0_0]] rfl Cmp.q ?_; (with_reducible refine (spec_l17Copy.calls _ _ l0_0 t165 _ ?side1 ?side2 A3.out).mono ?_); (case side1 => exact Cmp.rc (Kd.C_below HR0_0.out HB.out)); (case side2 => exact HC0_0.out); rintro e w38 ⟨v166, rfl, ho0, hb⟩; refine ⟨_, rfl, ?_⟩; have n0_ := Aside0.mk (Kd.R_lower (Kd.R_newB ho0 (g := gb163) (o := .cells #[.int .i64 a1_0, .int .i64 a1_1, .int .i64 a1_2, .bool a1_3] 64 (0, 0)) (Cmp.b BK163.out)) (below_size (Cmp.g HB.out))); have n1_ := Aside0.mk (blk_below (g := gb162) (o := .cells #[.slice A0_0 l0_0.length c0_0] 39 (0, 0)) (Cmp.b BK162.out) hb); have n2_ := Aside0.mk (blk_below (g := gb163) (o := .cells #[.int .i64 a1_0, .int .i64 a1_1, .int .i64 a1_2, .bool a1_3] 64 (0, 0)) (Cmp.b BK163.out) hb); have n3_ := Aside0.mk (blk_below (g := gb164) (o := .cells #[.slice none 0 0] 39 (0, 0)) (Cmp.b BK164.out) hb); have n4_ := Aside0.mk (below_step (Cmp.g HB.out) hb); clear BK162; clear BK163; clear BK164; clear HB; have HO167 := n0_; have BK162 := n1_; have BK163 := n2_; have BK164 := n3_; have HB := n4_; clear n0_ n1_ n2_ n3_ n4_; (try clear hb); (try clear hb2); (try clear hk); (try clear hi); (try clear ho0)) | ((with_reducible refine gate_dst (N := 5) rfl ?_); refine box_event ?hg (N := 5) ?hd (cs := #[.slice none 0 0]) (t := 39) ?hr ?_; (case hd => rfl); (case hg => rfl); (case hr => first | (go_simp; done) | (go_simp; rfl)); intro gb168 hg w39 hbox hb; have n0_ := Aside0.mk (Kd.R_below (Cmp.rr HO167.out) hb); have n1_ := Aside0.mk (blk_below (g := gb162) (o := .cells #[.slice A0_0 l0_0.length c0_0] 39 (0, 0)) (Cmp.b BK162.out) hb); have n2_ := Aside0.mk (blk_below (g := gb163) (o := .cells #[.int .i64 a1_0, .int .i64 a1_1, .int .i64 a1_2, .bool a1_3] 64 (0, 0)) (Cmp.b BK163.out) hb); have n3_ := Aside0.mk (blk_below (g := gb164) (o := .cells #[.slice none 0 0] 39 (0, 0)) (Cmp.b BK164.out) hb); have n4_ := Aside0.mk (below_step (Cmp.g HB.out) hb); have n5_ := Aside0.mk (hbox); have n6_ := Aside0.mk ((by rw [hg]; exact (below_size (Cmp.g HB.out)) : w.heap.size ≤ gb168)); have n7_ := Aside0.mk ((by rw [hg]; exact (below_size (Cmp.g HB.out)) : w.heap.size ≤ gb168)); have n8_ := Aside0.mk ((by rw [hg]; exact Nat.ne_of_lt (blk_lt (g := gb162) (o := .cells #[.slice A0_0 l0_0.length c0_0] 39 (0, 0)) (Cmp.b BK162.out)) : gb162 ≠ gb168)); have n9_ := Aside0.mk ((by rw [hg]; exact Nat.ne_of_gt (blk_lt (g := gb162) (o := .cells #[.slice A0_0 l0_0.length c0_0] 39 (0, 0)) (Cmp.b BK162.out)) : gb168 ≠ gb162)); have n10_ := Aside0.mk ((by rw [hg]; exact Nat.ne_of_lt (blk_lt (g := gb163) (o := .cells #[.int .i64 a1_0, .int .i64 a1_1, .int .i64 a1_2, .bool a1_3] 64 (0, 0)) (Cmp.b BK163.out)) : gb163 ≠ gb168)); have n11_ := Aside0.mk ((by rw [hg]; exact Nat.ne_of_gt (blk_lt (g := gb163) (o := .cells #[.int .i64 a1_0, .int .i64 a1_1, .int .i64 a1_2, .bool a1_3] 64 (0, 0)) (Cmp.b BK163.out)) : gb168 ≠ gb163)); have n12_ := Aside0.mk ((by rw [hg]; exact Nat.ne_of_lt (blk_lt (g := gb164) (o := .cells #[.slice none 0 0] 39 (0, 0)) (Cmp.b BK164.out)) : gb164 ≠ gb168)); have n13_ := Aside0.mk ((by rw [hg]; exact Nat.ne_of_gt (blk_lt (g := gb164) (o := .cells #[.slice none 0 0] 39 (0, 0)) (Cmp.b BK164.out)) : gb168 ≠ gb164)); clear HO167; clear BK162; clear BK163; clear BK164; clear HB; have HO167 := n0_; have BK162 := n1_; have BK163 := n2_; have BK164 := n3_; have HB := n4_; have BK168 := n5_; have GW168 := n6_; have GE168 := n7_; have NB162_168 := n8_; have NB168_162 := n9_; have NB163_168 := n10_; have NB168_163 := n11_; have NB164_168 := n12_; have NB168_164 := n13_; clear n0_ n1_ n2_ n3_ n4_ n5_ n6_ n7_ n8_ n9_ n10_ n11_ n12_ n13_; clear hb hbox hg; obtain ⟨Ao40, co40, eo40⟩ := Kd.R_slice HO167.out; subst eo40; have hnb41 := NB168_162.out; have hnc41 := NB162_168.out; have hnb42 := NB168_163.out; have hnc42 := NB163_168.out; have hnb43 := NB168_164.out; have hnc43 := NB164_168.out; have hcz44_0 : w39.cell? ⟨gb168, 0, none⟩ = some (.slice none 0 0) := (blk_cell BK168.out 0).trans rfl; have hfz44_0 := blk_frozen BK168.out 0; have hcz45_0 : w39.cell? ⟨gb162, 0, none⟩ = some (.slice A0_0 l0_0.length c0_0) := (blk_cell BK162.out 0).trans rfl; have hfz45_0 := blk_frozen BK162.out 0; have hnb46 := NB163_164.out; have hnc46 := NB164_163.out; have hcz47_0 : w39.cell? ⟨gb163, 0, none⟩ = some (.int .i64 a1_0) := (blk_cell BK163.out 0).trans rfl; have hcz47_1 : w39.cell? ⟨gb163, 1, none⟩ = some (.int .i64 a1_1) := (blk_cell BK163.out 1).trans rfl; have hcz47_2 : w39.cell? ⟨gb163, 2, none⟩ = some (.int .i64 a1_2) := (blk_cell BK163.out 2).trans rfl; have hcz47_3 : w39.cell? ⟨gb163, 3, none⟩ = some (.bool a1_3) := (blk_cell BK163.out 3).trans rfl; have hfz47_0 := blk_frozen BK163.out 0; have hfz47_1 := blk_frozen BK163.out 1; have hfz47_2 := blk_frozen BK163.out 2; have hfz47_3 := blk_frozen BK163.out 3) | ((with_reducible refine gate_callee (f := 40) rfl ?_); refine goesL_ (some 15) rfl rfl Try.func40 (by kernel_rfl) rfl #[.agg #[.slice A0_0 l0_0.length c0_0], .int .i64 a1_0, .int .i64 a1_1] rfl Cmp.q ?_; (with_reducible refine (spec_FindEntry.calls k _ _ l0_0 a1_0 a1_1 t169 _ ?side1 ?side2 A4.out).mono ?_); (case side1 => exact Kd.C_below HR0_0.out (Cmp.g HB.out)); (case side2 => exact HC0_0.out); rintro e w48 ⟨rfl, hb⟩; refine ⟨_, rfl, ?_⟩; have n0_ := Aside0.mk (Kd.R_below (by (with_reducible repeat (first | apply Kd.R_alloc | apply Kd.R_drewN | apply Kd.R_drew)); exact (Kd.R_mono (Kd.R_far (p := ⟨gb168, 0, none⟩) (Kd.R_types HO167.out BK168.out (by decide)) (fun _ hk => hk.2) (.slice Ao40 t165.length co40)) (fun _ h_ => h_.1))) hb); have n1_ := Aside0.mk (blk_below (g := gb162) (o := .cells #[.slice A0_0 l0_0.length c0_0] 39 (0, 0)) (by (with_reducible repeat (first | refine blk_drewN ?_ _ | refine blk_drew ?_ | refine blk_alloc ?_ _)); refine blk_far ?_ NB162_168.out _; (with_reducible repeat (first | refine blk_drewN ?_ _ | refine blk_drew ?_ | refine blk_alloc ?_ _)); exact BK162.out) hb); have n2_ := Aside0.mk (blk_below (g := gb163) (o := .cells #[.int .i64 a1_0, .int .i64 a1_1, .int .i64 a1_2, .bool a1_3] 64 (0, 0)) (by (with_reducible repeat (first | refine blk_drewN ?_ _ | refine blk_drew ?_ | refine blk_alloc ?_ _)); refine blk_far ?_ NB163_168.out _; (with_reducible repeat (first | refine blk_drewN ?_ _ | refine blk_drew ?_ | refine blk_alloc ?_ _)); exact BK163.out) hb); have n3_ := Aside0.mk (blk_below (g := gb164) (o := .cells #[.slice none 0 0] 39 (0, 0)) (by (with_reducible repeat (first | refine blk_drewN ?_ _ | refine blk_drew ?_ | refine blk_alloc ?_ _)); refine blk_far ?_ NB164_168.out _; (with_reducible repeat (first | refine blk_drewN ?_ _ | refine blk_drew ?_ | refine blk_alloc ?_ _)); exact BK164.out) hb); have n4_ := Aside0.mk (blk_below (g := gb168) (o := .cells #[.slice Ao40 t165.length co40] 39 (0, 0)) (by (with_reducible repeat (first | refine blk_drewN ?_ _ | refine blk_drew ?_ | refine blk_alloc ?_ _)); refine blk_put (cs := #[.slice none 0 0]) ?_ 0 _ rfl; (with_reducible repeat (first | refine blk_drewN ?_ _ | refine blk_drew ?_ | refine blk_alloc ?_ _)); exact BK168.out) hb); have n5_ := Aside0.mk (below_step (Cmp.g HB.out) hb); clear HO167; clear BK162; clear BK163; clear BK164; clear BK168; clear HB; have HO167 := n0_; have BK162 := n1_; have BK163 := n2_; have BK164 := n3_; have BK168 := n4_; have HB := n5_; clear n0_ n1_ n2_ n3_ n4_ n5_; (try clear hb); (try clear hb2); (try clear hk); (try clear hi)))
  go_loopg [7] k (fun kq v7 w' => ∃ (x7_1 : Int), v7 = .int .i64 x7_1 ∧ Aside0 (spec_l17Set.l0 kq x7_1 l0_0 a1_0 a1_1 a1_2 a1_3 = some r) ∧ Aside0 (kq ≤ k) ∧ Aside0 (Kd.R k64 64 w' w.heap.size (fun k_ => k_ ≠ gb163) (.slice Ao40 t165.length co40) t165) ∧ Aside0 (w'.heap[gb162]? = some (.cells #[(.slice A0_0 l0_0.length c0_0)] 39 (0, 0))) ∧ Aside0 (w'.heap[gb163]? = some (.cells #[.int .i64 a1_0, .int .i64 a1_1, .int .i64 a1_2, .bool a1_3] 64 (0, 0))) ∧ Aside0 (w'.heap[gb164]? = some (.cells #[(.slice none 0 0)] 39 (0, 0))) ∧ Aside0 (w'.heap[gb168]? = some (.cells #[(.slice Ao40 t165.length co40)] 39 (0, 0))) ∧ Aside0 (Below w.heap.size w w'))
  case atStart => exact ⟨(0), (by first | rfl | simp | simp [*]), H', ⟨Nat.le_refl _⟩, ⟨by (with_reducible repeat (first | apply Kd.R_alloc | apply Kd.R_drewN | apply Kd.R_drew)); exact Kd.R_mono HO167.out (fun _ hk => hk.2)⟩, ⟨by (with_reducible repeat (first | refine blk_drewN ?_ _ | refine blk_drew ?_ | refine blk_alloc ?_ _)); exact BK162.out⟩, ⟨by (with_reducible repeat (first | refine blk_drewN ?_ _ | refine blk_drew ?_ | refine blk_alloc ?_ _)); exact BK163.out⟩, ⟨by (with_reducible repeat (first | refine blk_drewN ?_ _ | refine blk_drew ?_ | refine blk_alloc ?_ _)); exact BK164.out⟩, ⟨by (with_reducible repeat (first | refine blk_drewN ?_ _ | refine blk_drew ?_ | refine blk_alloc ?_ _)); exact BK168.out⟩, ⟨Cmp.g HB.out⟩⟩
  case round =>
   clear H'
   (try clear c1); (try clear c2); (try clear p2); (try clear hx2); (try clear hf2); (try clear c3); (try clear c4); (try clear c5); (try clear c5b0); (try clear c6); (try clear c6b0); (try clear c7); (try clear c7b0); (try clear c8); (try clear p8); (try clear q8); (try clear hx8); (try clear hf8); (try clear c12); (try clear c13); (try clear c18); (try clear c19); (try clear c20); (try clear c23); (try clear c28); (try clear hx28); (try clear hf28); (try clear c35); (try clear c36); (try clear c40); (try clear c41); (try clear c42); (try clear c43); (try clear c46); (try clear hcz14_0); (try clear hcz21_0); (try clear hcz22_0); (try clear hcz24_0); (try clear hcz24_1); (try clear hcz24_2); (try clear hcz24_3); (try clear hcz26_0); (try clear hcz27_0); (try clear hcz27_1); (try clear hcz27_2); (try clear hcz27_3); (try clear hcz30_0); (try clear hcz31_0); (try clear hcz37_0); (try clear hcz44_0); (try clear hcz45_0); (try clear hcz47_0); (try clear hcz47_1); (try clear hcz47_2); (try clear hcz47_3); (try clear hfz14_0); (try clear hfz21_0); (try clear hfz22_0); (try clear hfz24_0); (try clear hfz24_1); (try clear hfz24_2); (try clear hfz24_3); (try clear hfz26_0); (try clear hfz27_0); (try clear hfz27_1); (try clear hfz27_2); (try clear hfz27_3); (try clear hfz30_0); (try clear hfz31_0); (try clear hfz37_0); (try clear hfz44_0); (try clear hfz45_0); (try clear hfz47_0); (try clear hfz47_1); (try clear hfz47_2); (try clear hfz47_3); (try clear hx28_0); (try clear hx28_1); (try clear hx28_2); (try clear hx28_3); (try clear hx8_0); (try clear hx8_1); (try clear hx8_2); (try clear hx8_3); (try clear p8); (try clear q8)
   obtain ⟨x7_1, rfl, HA, HK1, HO_169000, BK162, BK163, BK164, BK168, HB⟩ := hrel
   cases gk with
   | zero => exact absurd HA.out (by simp [spec_l17Set.l0])
   | succ k1 =>
    have H := HA.out; clear HA
    simp only [spec_l17Set.l0] at H
    by_cases c49 : x7_1 < (l0_0.length : Int)
    ·rw [if_pos c49] at H
     have c49b0 : decide (x7_1 < (l0_0.length : Int)) = true := decide_eq_true c49
     clear c49
     by_cases c50 : 0 ≤ x7_1
     ·rw [if_pos c50] at H; have c50b0 : decide (0 ≤ x7_1) = true := decide_eq_true c50; clear c50; replace H := Option.bind_eq_some_iff.mp H; obtain ⟨t172, A510, H⟩ := H; (try dsimp only at H); have A51 := Aside0.mk A510; clear A510
      by_cases c52 : t172 = true
      ·subst c52; rw [if_pos rfl] at H
       have H' := Aside0.mk H
       clear H
       try go_wp2
       have n0_ := Aside0.mk (Kd.R_drew HO_169000.out); have n1_ := Aside0.mk (blk_drew BK162.out); have n2_ := Aside0.mk (blk_drew BK163.out); have n3_ := Aside0.mk (blk_drew BK164.out); have n4_ := Aside0.mk (blk_drew BK168.out); have n5_ := Aside0.mk (below_drew1 HB.out); clear HO_169000; clear BK162; clear BK163; clear BK164; clear BK168; clear HB; have HO_169000 := n0_; have BK162 := n1_; have BK163 := n2_; have BK164 := n3_; have BK168 := n4_; have HB := n5_; clear n0_ n1_ n2_ n3_ n4_ n5_
       have p171 : 0 ≤ (x7_1 : Int) := of_decide_eq_true Cmp.d
       have q171 : x7_1 < (l0_0.length : Int) := of_decide_eq_true Cmp.d
       obtain ⟨ad171, e171, hx171_0, hx171_1, hx171_2, hx171_3⟩ := at_T64 HR0_0.out x7_1 p171 q171
       have hw171_3 := hx171_3; have hw171_2 := hx171_2; have hw171_1 := hx171_1; have hw171_0 := hx171_0; cases e171
       replace hx171_0 := (HB.out.cell (World.block_lt_of_cell? w _ hx171_0)).trans hx171_0
       replace hx171_1 := (HB.out.cell (World.block_lt_of_cell? w _ hx171_1)).trans hx171_1
       replace hx171_2 := (HB.out.cell (World.block_lt_of_cell? w _ hx171_2)).trans hx171_2
       replace hx171_3 := (HB.out.cell (World.block_lt_of_cell? w _ hx171_3)).trans hx171_3
       replace p171 := eq_true p171; replace q171 := eq_true q171
       refine start_ (n := 17) (S := fun w' => w'.cell? ⟨gb162, 0, none⟩ = some (.slice (some ad171) l0_0.length c0_0) ∧ w'.cell? ⟨gb163, 0, none⟩ = some (.int .i64 a1_0) ∧ w'.cell? ⟨gb163, 1, none⟩ = some (.int .i64 a1_1) ∧ w'.cell? ⟨gb163, 2, none⟩ = some (.int .i64 a1_2) ∧ w'.cell? ⟨gb163, 3, none⟩ = some (.bool a1_3) ∧ w'.cell? (ad171.add ((x7_1).toNat * 4)) = some (.int .i64 ((rd_T64 l0_0 x7_1).f0)) ∧ w'.cell? ⟨(ad171.add ((x7_1).toNat * 4)).block, (ad171.add ((x7_1).toNat * 4)).off + 1, none⟩ = some (.int .i64 ((rd_T64 l0_0 x7_1).f1)) ∧ w'.cell? ⟨(ad171.add ((x7_1).toNat * 4)).block, (ad171.add ((x7_1).toNat * 4)).off + 2, none⟩ = some (.int .i64 ((rd_T64 l0_0 x7_1).f2)) ∧ w'.cell? ⟨(ad171.add ((x7_1).toNat * 4)).block, (ad171.add ((x7_1).toNat * 4)).off + 3, none⟩ = some (.bool ((rd_T64 l0_0 x7_1).f3))) (ds := []) (Cmp.bm 0 17) (by kernel_rfl) rfl rfl ⟨(blk_cell BK162.out 0).trans rfl, (blk_cell BK163.out 0).trans rfl, (blk_cell BK163.out 1).trans rfl, (blk_cell BK163.out 2).trans rfl, (blk_cell BK163.out 3).trans rfl, ((HB.out.cell (World.block_lt_of_cell? w _ hw171_0)).trans hw171_0), ((HB.out.cell (World.block_lt_of_cell? w _ hw171_1)).trans hw171_1), ((HB.out.cell (World.block_lt_of_cell? w _ hw171_2)).trans hw171_2), ((HB.out.cell (World.block_lt_of_cell? w _ hw171_3)).trans hw171_3)⟩ (fun hHeld => ?_); refine with_tabW spec_l17Set.tab7 spec_l17Set.bits7 (fun HT_ HW_ => ?_)
       generalize wr.drew = w53 at HO_169000 BK162 BK163 BK164 BK168 HB hx171_0 hx171_1 hx171_2 hx171_3 hHeld ⊢
       refine Cmp.pu HT_ 0 24 (Cmp.bm 1 16) ?_; refine Cmp.pu HT_ 1 25 (Cmp.bm 2 15) ?_; refine Cmp.tk HT_ HW_ hHeld 2 26 (Cmp.bm 3 14) ?_; refine Cmp.pu HT_ 3 27 (Cmp.bm 4 13) ?_; refine Cmp.pu HT_ 4 28 (Cmp.bm 5 12) ?_; refine Cmp.pu HT_ 5 29 (Cmp.bm 6 11) ?_; refine Cmp.pu HT_ 6 30 (Cmp.bm 7 10) ?_; refine Cmp.pu HT_ 8 32 (Cmp.bb 17 383) ?_; refine Cmp.pu HT_ 11 35 (Cmp.bb 17 2431) ?_; refine Cmp.pu HT_ 13 37 (Cmp.bb 17 10623) ?_; refine Cmp.tk HT_ HW_ hHeld 7 31 (Cmp.bb 17 10751) ?_; refine Cmp.pu HT_ 9 33 (Cmp.bb 17 11263) ?_; refine Cmp.tk HT_ HW_ hHeld 10 34 (Cmp.bb 17 12287) ?_; refine Cmp.tk HT_ HW_ hHeld 12 36 (Cmp.bm 14 3) ?_; refine Cmp.tk HT_ HW_ hHeld 14 38 (Cmp.bm 15 2) ?_
       refine one_ (i := 15) (N := some 39) (Cmp.bm 16 1) rfl rfl (one_of HT_.out (by kernel_rfl)) (by decide) (fun K hK => ?_)
       refine goes_ Try.func61 (by kernel_rfl) rfl #[.agg #[.int .i64 ((rd_T64 l0_0 x7_1).f0), .int .i64 ((rd_T64 l0_0 x7_1).f1), .int .i64 ((rd_T64 l0_0 x7_1).f2), .bool ((rd_T64 l0_0 x7_1).f3)], .int .i64 a1_0, .int .i64 a1_1] (by rfl) rfl rfl Cmp.q ?_
       with_reducible refine (spec_l17Less.calls ((rd_T64 l0_0 x7_1).f0) ((rd_T64 l0_0 x7_1).f1) ((rd_T64 l0_0 x7_1).f2) ((rd_T64 l0_0 x7_1).f3) a1_0 a1_1 true _ A51.out).mono ?_
       rintro e w54 ⟨rfl, hb⟩; refine ⟨_, rfl, ?_⟩
       have n0_ := Aside0.mk (Kd.R_below (Cmp.rr HO_169000.out) hb)
       have n1_ := Aside0.mk (blk_below (g := gb162) (o := .cells #[.slice (some ad171) l0_0.length c0_0] 39 (0, 0)) (Cmp.b BK162.out) hb)
       have n2_ := Aside0.mk (blk_below (g := gb163) (o := .cells #[.int .i64 a1_0, .int .i64 a1_1, .int .i64 a1_2, .bool a1_3] 64 (0, 0)) (Cmp.b BK163.out) hb)
       have n3_ := Aside0.mk (blk_below (g := gb164) (o := .cells #[.slice none 0 0] 39 (0, 0)) (Cmp.b BK164.out) hb)
       have n4_ := Aside0.mk (blk_below (g := gb168) (o := .cells #[.slice Ao40 t165.length co40] 39 (0, 0)) (Cmp.b BK168.out) hb)
       have n5_ := Aside0.mk (below_step (Cmp.g HB.out) hb)
       clear HO_169000; clear BK162; clear BK163; clear BK164; clear BK168; clear HB; have HO_169000 := n0_; have BK162 := n1_; have BK163 := n2_; have BK164 := n3_; have BK168 := n4_; have HB := n5_; clear n0_ n1_ n2_ n3_ n4_ n5_; (try clear hb); (try clear hb2); (try clear hk); (try clear hi)
       refine hK.out _ _ ⟨(blk_cell BK162.out 0).trans rfl, (blk_cell BK163.out 0).trans rfl, (blk_cell BK163.out 1).trans rfl, (blk_cell BK163.out 2).trans rfl, (blk_cell BK163.out 3).trans rfl, ((HB.out.cell (World.block_lt_of_cell? w _ hw171_0)).trans hw171_0), ((HB.out.cell (World.block_lt_of_cell? w _ hw171_1)).trans hw171_1), ((HB.out.cell (World.block_lt_of_cell? w _ hw171_2)).trans hw171_2), ((HB.out.cell (World.block_lt_of_cell? w _ hw171_3)).trans hw171_3)⟩ (fun hHeld => ?_)
       clear hK K
       refine norm_ (a' := ?_) ?_ ?_
       rotate_left
       ·show Act.put _ (some 39) _ = _
        simp only [Act.put, Cmp.s, Cmp.z, Cmp.c, i64_w, i32_w]; rfl
       refine Cmp.pu HT_ 16 40 (Cmp.bm 17 0) ?_
       refine done_ (done_of HT_.out (by kernel_rfl)) ?_
       try go_wp2
       go_roundg k1
       case measure => have := HK1.out; omega
       case rel => exact ⟨(wrap64 (x7_1 + 1)), (by first | rfl | simp | simp [*]), H', ⟨by have := HK1.out; omega⟩, ⟨by (with_reducible repeat (first | apply Kd.R_alloc | apply Kd.R_drewN | apply Kd.R_drew)); exact HO_169000.out⟩, ⟨by (with_reducible repeat (first | refine blk_drewN ?_ _ | refine blk_drew ?_ | refine blk_alloc ?_ _)); exact BK162.out⟩, ⟨by (with_reducible repeat (first | refine blk_drewN ?_ _ | refine blk_drew ?_ | refine blk_alloc ?_ _)); exact BK163.out⟩, ⟨by (with_reducible repeat (first | refine blk_drewN ?_ _ | refine blk_drew ?_ | refine blk_alloc ?_ _)); exact BK164.out⟩, ⟨by (with_reducible repeat (first | refine blk_drewN ?_ _ | refine blk_drew ?_ | refine blk_alloc ?_ _)); exact BK168.out⟩, ⟨Cmp.g HB.out⟩⟩
      ·replace c52 := Bool.eq_false_iff.mpr c52
       subst c52
       have H1 : ((some (([] : List (S64)) : List (S64))).bind fun y173 => (if x7_1 ≤ (l0_0.length : Int) then ((some (l0_0.take (x7_1 : Int).toNat : List (S64))).bind fun y176 => (if y173.length + y176.length < 4398046511104 then ((some (y173 ++ y176 : List (S64))).bind fun y180 => ((some (([(⟨a1_0, a1_1, a1_2, a1_3⟩ : S64)] : List (S64)) : List (S64))).bind fun y183 => (if y180.length + y183.length < 4398046511104 then ((some (y180 ++ y183 : List (S64))).bind fun y186 => ((some (l0_0.drop (x7_1 : Int).toNat : List (S64))).bind fun y189 => (if y186.length + y189.length < 4398046511104 then (some (y186 ++ y189)) else (none)))) else (none)))) else (none))) else (none))) = some r := by rw [if_neg (show ¬ (false = true) by decide)] at H; exact H
       clear H; have H := H1; clear H1
       obtain ⟨y173, hy173⟩ : ∃ y_ : List (S64), y_ = (([] : List (S64))) := ⟨_, rfl⟩
       replace H : (if x7_1 ≤ (l0_0.length : Int) then ((some (l0_0.take (x7_1 : Int).toNat : List (S64))).bind fun y176 => (if y173.length + y176.length < 4398046511104 then ((some (y173 ++ y176 : List (S64))).bind fun y180 => ((some (([(⟨a1_0, a1_1, a1_2, a1_3⟩ : S64)] : List (S64)) : List (S64))).bind fun y183 => (if y180.length + y183.length < 4398046511104 then ((some (y180 ++ y183 : List (S64))).bind fun y186 => ((some (l0_0.drop (x7_1 : Int).toNat : List (S64))).bind fun y189 => (if y186.length + y189.length < 4398046511104 then (some (y186 ++ y189)) else (none)))) else (none)))) else (none))) else (none)) = some r := by first | (rw [hy173]; with_reducible exact H) | (have H2_ := (Option.bind_some _ _).symm.trans H; rw [hy173]; with_reducible exact H2_) | (have H2_ := (Option.bind_some _ _).symm.trans H; with_reducible exact H2_) | with_reducible exact H | (rw [hy173]; exact H) | exact H
       have Ny173 := Aside0.mk hy173; clear hy173
       have c55b0 := eq_true (of_decide_eq_true Cmp.d : 0 ≤ x7_1)
       by_cases c56 : x7_1 ≤ (l0_0.length : Int)
       ·rw [if_pos c56] at H
        have c56b0 := eq_true c56
        have c56b1 : decide (x7_1 ≤ (l0_0.length : Int)) = true := decide_eq_true c56
        clear c56
        obtain ⟨y176, hy176⟩ : ∃ y_ : List (S64), y_ = (l0_0.take (x7_1 : Int).toNat) := ⟨_, rfl⟩
        replace H : (if y173.length + y176.length < 4398046511104 then ((some (y173 ++ y176 : List (S64))).bind fun y180 => ((some (([(⟨a1_0, a1_1, a1_2, a1_3⟩ : S64)] : List (S64)) : List (S64))).bind fun y183 => (if y180.length + y183.length < 4398046511104 then ((some (y180 ++ y183 : List (S64))).bind fun y186 => ((some (l0_0.drop (x7_1 : Int).toNat : List (S64))).bind fun y189 => (if y186.length + y189.length < 4398046511104 then (some (y186 ++ y189)) else (none)))) else (none)))) else (none)) = some r := by first | (rw [hy176]; with_reducible exact H) | (have H2_ := (Option.bind_some _ _).symm.trans H; rw [hy176]; with_reducible exact H2_) | (have H2_ := (Option.bind_some _ _).symm.trans H; with_reducible exact H2_) | with_reducible exact H | (rw [hy176]; exact H) | exact H
        have Ny176 := Aside0.mk hy176; clear hy176
        by_cases c57 : y173.length + y176.length < 4398046511104
        ·rw [if_pos c57] at H; have LMc57 := Aside0.mk c57; clear c57
         obtain ⟨y180, hy180⟩ : ∃ y_ : List (S64), y_ = (y173 ++ y176) := ⟨_, rfl⟩
         replace H : ((some (([(⟨a1_0, a1_1, a1_2, a1_3⟩ : S64)] : List (S64)) : List (S64))).bind fun y183 => (if y180.length + y183.length < 4398046511104 then ((some (y180 ++ y183 : List (S64))).bind fun y186 => ((some (l0_0.drop (x7_1 : Int).toNat : List (S64))).bind fun y189 => (if y186.length + y189.length < 4398046511104 then (some (y186 ++ y189)) else (none)))) else (none))) = some r := by first | (rw [hy180]; with_reducible exact H) | (have H2_ := (Option.bind_some _ _).symm.trans H; rw [hy180]; with_reducible exact H2_) | (have H2_ := (Option.bind_some _ _).symm.trans H; with_reducible exact H2_) | with_reducible exact H | (rw [hy180]; exact H) | exact H
         have Ny180 := Aside0.mk hy180; clear hy180
         obtain ⟨y183, hy183⟩ : ∃ y_ : List (S64), y_ = (([(⟨a1_0, a1_1, a1_2, a1_3⟩ : S64)] : List (S64))) := ⟨_, rfl⟩
         replace H : (if y180.length + y183.length < 4398046511104 then ((some (y180 ++ y183 : List (S64))).bind fun y186 => ((some (l0_0.drop (x7_1 : Int).toNat : List (S64))).bind fun y189 => (if y186.length + y189.length < 4398046511104 then (some (y186 ++ y189)) else (none)))) else (none)) = some r := by first | (rw [hy183]; with_reducible exact H) | (have H2_ := (Option.bind_some _ _).symm.trans H; rw [hy183]; with_reducible exact H2_) | (have H2_ := (Option.bind_some _ _).symm.trans H; with_reducible exact H2_) | with_reducible exact H | (rw [hy183]; exact H) | exact H
         have Ny183 := Aside0.mk hy183; clear hy183
         by_cases c58 : y180.length + y183.length < 4398046511104
         ·rw [if_pos c58] at H; have LMc58 := Aside0.mk c58; clear c58
          obtain ⟨y186, hy186⟩ : ∃ y_ : List (S64), y_ = (y180 ++ y183) := ⟨_, rfl⟩
          replace H : ((some (l0_0.drop (x7_1 : Int).toNat : List (S64))).bind fun y189 => (if y186.length + y189.length < 4398046511104 then (some (y186 ++ y189)) else (none))) = some r := by first | (rw [hy186]; with_reducible exact H) | (have H2_ := (Option.bind_some _ _).symm.trans H; rw [hy186]; with_reducible exact H2_) | (have H2_ := (Option.bind_some _ _).symm.trans H; with_reducible exact H2_) | with_reducible exact H | (rw [hy186]; exact H) | exact H
          have Ny186 := Aside0.mk hy186; clear hy186
          have c59b0 := eq_true (of_decide_eq_true Cmp.d : 0 ≤ x7_1)
          have c60b0 := eq_true (of_decide_eq_true Cmp.d : x7_1 ≤ (l0_0.length : Int))
          obtain ⟨y189, hy189⟩ : ∃ y_ : List (S64), y_ = (l0_0.drop (x7_1 : Int).toNat) := ⟨_, rfl⟩
          replace H : (if y186.length + y189.length < 4398046511104 then (some (y186 ++ y189)) else (none)) = some r := by first | (rw [hy189]; with_reducible exact H) | (have H2_ := (Option.bind_some _ _).symm.trans H; rw [hy189]; with_reducible exact H2_) | (have H2_ := (Option.bind_some _ _).symm.trans H; with_reducible exact H2_) | with_reducible exact H | (rw [hy189]; exact H) | exact H
          have Ny189 := Aside0.mk hy189; clear hy189
          by_cases c61 : y186.length + y189.length < 4398046511104
          ·rw [if_pos c61] at H; have LMc61 := Aside0.mk c61; clear c61
           obtain ⟨y193, hy193⟩ : ∃ y_ : List (S64), y_ = (y186 ++ y189) := ⟨_, rfl⟩
           replace H : (some y193) = some r := by first | (rw [hy193]; with_reducible exact H) | (have H2_ := (Option.bind_some _ _).symm.trans H; rw [hy193]; with_reducible exact H2_) | (have H2_ := (Option.bind_some _ _).symm.trans H; with_reducible exact H2_) | with_reducible exact H | (rw [hy193]; exact H) | exact H
           have Ny193 := Aside0.mk hy193; clear hy193
           obtain rfl := Option.some.inj H
           try go_wp2
           have n0_ := Aside0.mk (Kd.R_drew HO_169000.out); have n1_ := Aside0.mk (blk_drew BK162.out); have n2_ := Aside0.mk (blk_drew BK163.out); have n3_ := Aside0.mk (blk_drew BK164.out); have n4_ := Aside0.mk (blk_drew BK168.out); have n5_ := Aside0.mk (below_drew1 HB.out); clear HO_169000; clear BK162; clear BK163; clear BK164; clear BK168; clear HB; have HO_169000 := n0_; have BK162 := n1_; have BK163 := n2_; have BK164 := n3_; have BK168 := n4_; have HB := n5_; clear n0_ n1_ n2_ n3_ n4_ n5_
           have p171 : 0 ≤ (x7_1 : Int) := of_decide_eq_true Cmp.d
           have q171 : x7_1 < (l0_0.length : Int) := of_decide_eq_true Cmp.d
           obtain ⟨ad171, e171, hx171_0, hx171_1, hx171_2, hx171_3⟩ := at_T64 HR0_0.out x7_1 p171 q171
           have hw171_3 := hx171_3; have hw171_2 := hx171_2; have hw171_1 := hx171_1; have hw171_0 := hx171_0; cases e171
           replace hx171_0 := (HB.out.cell (World.block_lt_of_cell? w _ hx171_0)).trans hx171_0
           replace hx171_1 := (HB.out.cell (World.block_lt_of_cell? w _ hx171_1)).trans hx171_1
           replace hx171_2 := (HB.out.cell (World.block_lt_of_cell? w _ hx171_2)).trans hx171_2
           replace hx171_3 := (HB.out.cell (World.block_lt_of_cell? w _ hx171_3)).trans hx171_3
           replace p171 := eq_true p171; replace q171 := eq_true q171
           refine start_ (n := 17) (S := fun w' => w'.cell? ⟨gb162, 0, none⟩ = some (.slice (some ad171) l0_0.length c0_0) ∧ w'.cell? ⟨gb163, 0, none⟩ = some (.int .i64 a1_0) ∧ w'.cell? ⟨gb163, 1, none⟩ = some (.int .i64 a1_1) ∧ w'.cell? ⟨gb163, 2, none⟩ = some (.int .i64 a1_2) ∧ w'.cell? ⟨gb163, 3, none⟩ = some (.bool a1_3) ∧ w'.cell? (ad171.add ((x7_1).toNat * 4)) = some (.int .i64 ((rd_T64 l0_0 x7_1).f0)) ∧ w'.cell? ⟨(ad171.add ((x7_1).toNat * 4)).block, (ad171.add ((x7_1).toNat * 4)).off + 1, none⟩ = some (.int .i64 ((rd_T64 l0_0 x7_1).f1)) ∧ w'.cell? ⟨(ad171.add ((x7_1).toNat * 4)).block, (ad171.add ((x7_1).toNat * 4)).off + 2, none⟩ = some (.int .i64 ((rd_T64 l0_0 x7_1).f2)) ∧ w'.cell? ⟨(ad171.add ((x7_1).toNat * 4)).block, (ad171.add ((x7_1).toNat * 4)).off + 3, none⟩ = some (.bool ((rd_T64 l0_0 x7_1).f3))) (ds := []) (Cmp.bm 0 17) (by kernel_rfl) rfl rfl ⟨(blk_cell BK162.out 0).trans rfl, (blk_cell BK163.out 0).trans rfl, (blk_cell BK163.out 1).trans rfl, (blk_cell BK163.out 2).trans rfl, (blk_cell BK163.out 3).trans rfl, ((HB.out.cell (World.block_lt_of_cell? w _ hw171_0)).trans hw171_0), ((HB.out.cell (World.block_lt_of_cell? w _ hw171_1)).trans hw171_1), ((HB.out.cell (World.block_lt_of_cell? w _ hw171_2)).trans hw171_2), ((HB.out.cell (World.block_lt_of_cell? w _ hw171_3)).trans hw171_3)⟩ (fun hHeld => ?_); refine with_tabW spec_l17Set.tab7 spec_l17Set.bits7 (fun HT_ HW_ => ?_)
           generalize wr.drew = w62 at HO_169000 BK162 BK163 BK164 BK168 HB hx171_0 hx171_1 hx171_2 hx171_3 hHeld ⊢
           refine Cmp.pu HT_ 0 24 (Cmp.bm 1 16) ?_; refine Cmp.pu HT_ 1 25 (Cmp.bm 2 15) ?_; refine Cmp.tk HT_ HW_ hHeld 2 26 (Cmp.bm 3 14) ?_; refine Cmp.pu HT_ 3 27 (Cmp.bm 4 13) ?_; refine Cmp.pu HT_ 4 28 (Cmp.bm 5 12) ?_; refine Cmp.pu HT_ 5 29 (Cmp.bm 6 11) ?_; refine Cmp.pu HT_ 6 30 (Cmp.bm 7 10) ?_; refine Cmp.pu HT_ 8 32 (Cmp.bb 17 383) ?_; refine Cmp.pu HT_ 11 35 (Cmp.bb 17 2431) ?_; refine Cmp.pu HT_ 13 37 (Cmp.bb 17 10623) ?_; refine Cmp.tk HT_ HW_ hHeld 7 31 (Cmp.bb 17 10751) ?_; refine Cmp.pu HT_ 9 33 (Cmp.bb 17 11263) ?_; refine Cmp.tk HT_ HW_ hHeld 10 34 (Cmp.bb 17 12287) ?_; refine Cmp.tk HT_ HW_ hHeld 12 36 (Cmp.bm 14 3) ?_; refine Cmp.tk HT_ HW_ hHeld 14 38 (Cmp.bm 15 2) ?_
           refine one_ (i := 15) (N := some 39) (Cmp.bm 16 1) rfl rfl (one_of HT_.out (by kernel_rfl)) (by decide) (fun K hK => ?_)
           refine goes_ Try.func61 (by kernel_rfl) rfl #[.agg #[.int .i64 ((rd_T64 l0_0 x7_1).f0), .int .i64 ((rd_T64 l0_0 x7_1).f1), .int .i64 ((rd_T64 l0_0 x7_1).f2), .bool ((rd_T64 l0_0 x7_1).f3)], .int .i64 a1_0, .int .i64 a1_1] (by rfl) rfl rfl Cmp.q ?_
           with_reducible refine (spec_l17Less.calls ((rd_T64 l0_0 x7_1).f0) ((rd_T64 l0_0 x7_1).f1) ((rd_T64 l0_0 x7_1).f2) ((rd_T64 l0_0 x7_1).f3) a1_0 a1_1 false _ A51.out).mono ?_
           rintro e w63 ⟨rfl, hb⟩; refine ⟨_, rfl, ?_⟩
           have n0_ := Aside0.mk (Kd.R_below (Cmp.rr HO_169000.out) hb)
           have n1_ := Aside0.mk (blk_below (g := gb162) (o := .cells #[.slice (some ad171) l0_0.length c0_0] 39 (0, 0)) (Cmp.b BK162.out) hb)
           have n2_ := Aside0.mk (blk_below (g := gb163) (o := .cells #[.int .i64 a1_0, .int .i64 a1_1, .int .i64 a1_2, .bool a1_3] 64 (0, 0)) (Cmp.b BK163.out) hb)
           have n3_ := Aside0.mk (blk_below (g := gb164) (o := .cells #[.slice none 0 0] 39 (0, 0)) (Cmp.b BK164.out) hb)
           have n4_ := Aside0.mk (blk_below (g := gb168) (o := .cells #[.slice Ao40 t165.length co40] 39 (0, 0)) (Cmp.b BK168.out) hb)
           have n5_ := Aside0.mk (below_step (Cmp.g HB.out) hb)
           clear HO_169000; clear BK162; clear BK163; clear BK164; clear BK168; clear HB; have HO_169000 := n0_; have BK162 := n1_; have BK163 := n2_; have BK164 := n3_; have BK168 := n4_; have HB := n5_; clear n0_ n1_ n2_ n3_ n4_ n5_; (try clear hb); (try clear hb2); (try clear hk); (try clear hi)
           refine hK.out _ _ ⟨(blk_cell BK162.out 0).trans rfl, (blk_cell BK163.out 0).trans rfl, (blk_cell BK163.out 1).trans rfl, (blk_cell BK163.out 2).trans rfl, (blk_cell BK163.out 3).trans rfl, ((HB.out.cell (World.block_lt_of_cell? w _ hw171_0)).trans hw171_0), ((HB.out.cell (World.block_lt_of_cell? w _ hw171_1)).trans hw171_1), ((HB.out.cell (World.block_lt_of_cell? w _ hw171_2)).trans hw171_2), ((HB.out.cell (World.block_lt_of_cell? w _ hw171_3)).trans hw171_3)⟩ (fun hHeld => ?_)
           clear hK K
           refine norm_ (a' := ?_) ?_ ?_
           rotate_left
           ·show Act.put _ (some 39) _ = _
            simp only [Act.put, Cmp.s, Cmp.z, Cmp.c, i64_w, i32_w]; rfl
           refine Cmp.pu HT_ 16 40 (Cmp.bm 17 0) ?_
           refine done_ (done_of HT_.out (by kernel_rfl)) ?_
           try go_wp2
           have n0_ := Aside0.mk (Kd.R_drew HO_169000.out); have n1_ := Aside0.mk (blk_drew BK162.out); have n2_ := Aside0.mk (blk_drew BK163.out); have n3_ := Aside0.mk (blk_drew BK164.out); have n4_ := Aside0.mk (blk_drew BK168.out); have n5_ := Aside0.mk (below_drew1 HB.out); clear HO_169000; clear BK162; clear BK163; clear BK164; clear BK168; clear HB; have HO_169000 := n0_; have BK162 := n1_; have BK163 := n2_; have BK164 := n3_; have BK168 := n4_; have HB := n5_; clear n0_ n1_ n2_ n3_ n4_ n5_
           have q65 : (x7_1 : Int) ≤ ((l0_0.length : Int) : Int) := of_decide_eq_true Cmp.d
           obtain ⟨i065, hi065, _, hsz65, _⟩ := info_parts info64
           have hroom65 : l0_0.length ≤ c0_0 := HC0_0.out
           have hC65 : Kd.C k64 _ (some ad171) l0_0.length l0_0 := HR0_0.out
           have hcut65 := cut_to (P := Try.prog) 37 64 .i64 Try.underlying37 hi065 (some ad171) l0_0.length c0_0 x7_1 (of_decide_eq_true Cmp.d) q65 hroom65
           have hr65 := Kd.C_take (m := (x7_1 : Int).toNat) hC65 (by omega)
           have hy65 : y176.length = (x7_1 : Int).toNat := (by rw [Ny176.out, List.length_take]; omega)
           rw [← Ny176.out] at hr65
           rw [← hy65] at hcut65
           have HR179 := Aside0.mk hr65
           have HC179 := Aside0.mk (show y176.length ≤ c0_0 from by omega)
           clear hr65 hC65 hroom65 hi065 hsz65; have KY65 := Aside0.mk hy65; clear hy65; replace q65 := eq_true q65
           have q66 : (x7_1 : Int) ≤ ((l0_0.length : Int) : Int) := of_decide_eq_true Cmp.d
           obtain ⟨i066, hi066, _, hsz66, _⟩ := info_parts info64
           have hroom66 : l0_0.length ≤ c0_0 := HC0_0.out
           have hC66 : Kd.C k64 _ (some ad171) l0_0.length l0_0 := HR0_0.out
           have q066 : (0 : Int) ≤ (x7_1 : Int) := of_decide_eq_true Cmp.d
           have hcut66 := cut_from (P := Try.prog) 37 64 .i64 Try.underlying37 hi066 4 hsz66 (some ad171) l0_0.length c0_0 x7_1 q066 q66
           have hr66 := Kd.C_drop (m := (x7_1 : Int).toNat) (c := c0_0) hC66 (by omega) hroom66
           obtain ⟨A66, hA66⟩ : ∃ A1, A1 = (if c0_0 = (x7_1 : Int).toNat then (some ad171) else ((some ad171) : Option Addr).map (·.add ((x7_1 : Int).toNat * 4))) := ⟨_, rfl⟩
           obtain ⟨c66, hc66⟩ : ∃ c1, c1 = c0_0 - (x7_1 : Int).toNat := ⟨_, rfl⟩
           have hy66 : y189.length = l0_0.length - (x7_1 : Int).toNat := (by rw [Ny189.out, List.length_drop] <;> omega)
           rw [show (l0_0).drop (x7_1 : Int).toNat = y189 from Ny189.out.symm] at hr66
           replace hr66 : Kd.C k64 _ A66 y189.length y189 := (by rw [hA66]; exact hr66)
           rw [← hy66, ← hA66, ← hc66] at hcut66
           have HR192 := Aside0.mk hr66
           have HC192 := Aside0.mk (show y189.length ≤ c66 from by rw [hy66, hc66]; exact Nat.sub_le_sub_right hroom66 _)
           clear hr66 hC66 hroom66 hi066 hsz66 hc66; have KY66 := Aside0.mk hy66; have KA66 := Aside0.mk hA66; clear hy66 hA66; replace q66 := eq_true q66
           refine start_ (n := 16) (S := fun w' => w'.cell? ⟨gb162, 0, none⟩ = some (.slice (some ad171) l0_0.length c0_0) ∧ w'.cell? ⟨gb163, 0, none⟩ = some (.int .i64 a1_0) ∧ w'.cell? ⟨gb163, 1, none⟩ = some (.int .i64 a1_1) ∧ w'.cell? ⟨gb163, 2, none⟩ = some (.int .i64 a1_2) ∧ w'.cell? ⟨gb163, 3, none⟩ = some (.bool a1_3)) (ds := []) (Cmp.bm 0 16) (by kernel_rfl) rfl rfl ⟨(blk_cell BK162.out 0).trans rfl, (blk_cell BK163.out 0).trans rfl, (blk_cell BK163.out 1).trans rfl, (blk_cell BK163.out 2).trans rfl, (blk_cell BK163.out 3).trans rfl⟩ (fun hHeld => ?_); refine with_tabW spec_l17Set.tab9 spec_l17Set.bits9 (fun HT_ HW_ => ?_)
           generalize w63.drew = w64 at HO_169000 BK162 BK163 BK164 BK168 HB HR179 HR192 hHeld ⊢
           refine Cmp.pu HT_ 1 44 (Cmp.bb 16 2) ?_; refine Cmp.pu HT_ 3 46 (Cmp.bb 16 10) ?_; refine Cmp.pu HT_ 9 52 (Cmp.bb 16 522) ?_; refine Cmp.pu HT_ 11 54 (Cmp.bb 16 2570) ?_; refine Cmp.tk HT_ HW_ hHeld 2 45 (Cmp.bb 16 2574) ?_; refine Cmp.pu HT_ 4 47 (Cmp.bb 16 2590) ?_; refine Cmp.tk HT_ HW_ hHeld 6 49 (Cmp.bb 16 2654) ?_; refine Cmp.tk HT_ HW_ hHeld 10 53 (Cmp.bb 16 3678) ?_; refine Cmp.pu HT_ 12 55 (Cmp.bb 16 7774) ?_
           refine join_ (σ := Value × Value × Value) 4 (Cmp.bb 16 7935) (fun s_ => [(43, s_.1), (48, s_.2.1), (50, s_.2.2)]) (fun s_ w' => (w'.cell? ⟨gb162, 0, none⟩ = some (.slice (some ad171) l0_0.length c0_0) ∧ w'.cell? ⟨gb163, 0, none⟩ = some (.int .i64 a1_0) ∧ w'.cell? ⟨gb163, 1, none⟩ = some (.int .i64 a1_1) ∧ w'.cell? ⟨gb163, 2, none⟩ = some (.int .i64 a1_2) ∧ w'.cell? ⟨gb163, 3, none⟩ = some (.bool a1_3)) ∧ (Kd.R k64 64 w' w.heap.size (fun k_ => some k_ ≠ (s_.2.2 : Value).ownBlock ∧ some k_ ≠ (.slice Ao40 t165.length co40 : Value).ownBlock ∧ k_ ≠ gb163) s_.2.1 y180) ∧ (Kd.R k64 64 w' w.heap.size (fun k_ => some k_ ≠ (s_.2.1 : Value).ownBlock ∧ some k_ ≠ (.slice Ao40 t165.length co40 : Value).ownBlock ∧ k_ ≠ gb163) s_.2.2 y183) ∧ (Kd.R k64 64 w' w.heap.size (fun k_ => some k_ ≠ (s_.2.1 : Value).ownBlock ∧ some k_ ≠ (s_.2.2 : Value).ownBlock ∧ k_ ≠ gb163) (.slice Ao40 t165.length co40) t165) ∧ (w'.heap[gb162]? = some (.cells #[.slice (some ad171) l0_0.length c0_0] 39 (0, 0))) ∧ (w'.heap[gb163]? = some (.cells #[.int .i64 a1_0, .int .i64 a1_1, .int .i64 a1_2, .bool a1_3] 64 (0, 0))) ∧ (w'.heap[gb164]? = some (.cells #[.slice none 0 0] 39 (0, 0))) ∧ (w'.heap[gb168]? = some (.cells #[.slice Ao40 t165.length co40] 39 (0, 0))) ∧ (Below w.heap.size w w')) ?_ ?_
           rotate_left
           ·intro hCont
            refine two_ (i := 0) (j := 7) (Ni := some 43) (Nj := some 50) (Cmp.bb 16 7775) (Cmp.bb 16 7902) rfl rfl rfl rfl (two_of HT_.out (by kernel_rfl)) (by decide) (by decide) (fun K hK => ?_) (fun K hK => ?_)
            ·skip
             refine Kd.R_lit_step k64 _ 64 ?hg (N := 43) ?hd (xs := ([] : List (S64))) (inner := []) (ok := fun _ => True) (okp := fun _ => True) ?hr ?hp (fun _ hk => hk) trivial (Below.refl _ _) (Nat.le_refl _) (by simp) ?_; (case hd => rfl); (case hg => rfl); (case hr => first | (go_simp; done) | (go_simp; rfl)); (case hp => exact (Reps.none _ _))
             intro v174 w67 ho68 hb hg_ hnew_
             clear hg_ hnew_
             (first | rw [← Ny173.out] at ho68 | (simp only [Int.reduceToNat] at ho68; rw [← Ny173.out] at ho68))
             have n0_ := Aside0.mk (Kd.R_elder' (Cmp.rr HO_169000.out) (Kd.R_base ho68) hb)
             have n1_ := Aside0.mk (Kd.R_lower (Kd.R_newB (Kd.R_new' ho68 (Kd.R_lt (Cmp.rr HO_169000.out))) (g := gb163) (o := .cells #[.int .i64 a1_0, .int .i64 a1_1, .int .i64 a1_2, .bool a1_3] 64 (0, 0)) (Cmp.b BK163.out)) (below_size (Cmp.g HB.out)))
             have n2_ := Aside0.mk (blk_below (g := gb162) (o := .cells #[.slice (some ad171) l0_0.length c0_0] 39 (0, 0)) (Cmp.b BK162.out) hb)
             have n3_ := Aside0.mk (blk_below (g := gb163) (o := .cells #[.int .i64 a1_0, .int .i64 a1_1, .int .i64 a1_2, .bool a1_3] 64 (0, 0)) (Cmp.b BK163.out) hb)
             have n4_ := Aside0.mk (blk_below (g := gb164) (o := .cells #[.slice none 0 0] 39 (0, 0)) (Cmp.b BK164.out) hb)
             have n5_ := Aside0.mk (blk_below (g := gb168) (o := .cells #[.slice Ao40 t165.length co40] 39 (0, 0)) (Cmp.b BK168.out) hb)
             have n6_ := Aside0.mk (below_step (Cmp.g HB.out) hb)
             clear HO_169000; clear BK162; clear BK163; clear BK164; clear BK168; clear HB; have HO_169000 := n0_; have HO175 := n1_; have BK162 := n2_; have BK163 := n3_; have BK164 := n4_; have BK168 := n5_; have HB := n6_; clear n0_ n1_ n2_ n3_ n4_ n5_ n6_; clear hb ho68
             refine hK.out _ _ ⟨(blk_cell BK162.out 0).trans rfl, (blk_cell BK163.out 0).trans rfl, (blk_cell BK163.out 1).trans rfl, (blk_cell BK163.out 2).trans rfl, (blk_cell BK163.out 3).trans rfl⟩ (fun hHeld => ?_)
             clear hK K
             refine norm_ (a' := ?_) ?_ ?_
             rotate_left
             ·show Act.put _ (some 43) _ = _
              simp only [Act.put, Cmp.s, Cmp.z, Cmp.c, i64_w, i32_w]; rfl
             refine two_ (i := 5) (j := 7) (Ni := some 48) (Nj := some 50) (Cmp.bb 16 7807) (Cmp.bb 16 7903) rfl rfl rfl rfl (two_of HT_.out (by kernel_rfl)) (by decide) (by decide) (fun K hK => ?_) (fun K hK => ?_)
             ·skip
              refine Kd.R_append_rows_step k64 (w0 := w) w.heap.size (by rfl) (.tmp 43) (.tmp 47) 37 64 (.agg #[(.int .i64 0), (.int .i64 0), (.int .i64 0), (.bool false)]) 32 rfl Try.underlying37 info64 rfl (by decide) (by omega) v174 y173 y176 _ _ _ (fun k_ => some k_ ≠ (.slice Ao40 t165.length co40 : Value).ownBlock ∧ k_ ≠ gb163) (fun _ => False) rfl rfl ?aO ?aR (fun _ _ h => h) (fun _ h => h.elim) ?aF ?aB ?aS ?aL ?_
              (case aR => repeat (first | exact (Kd.C_below HR179.out HB.out) | (with_reducible refine Kd.C_alloc ?_ _) | (with_reducible refine Kd.C_drewN ?_ _) | (with_reducible refine Kd.C_drew ?_)))
              (case aB => exact (Cmp.g HB.out))
              (case aF => exact (fun k_ hk => ⟨Kd.fresh' (Kd.R_lt (Cmp.rr HO_169000.out)) k_ hk, Kd.freshB (g := gb163) (o := .cells #[.int .i64 a1_0, .int .i64 a1_1, .int .i64 a1_2, .bool a1_3] 64 (0, 0)) (Cmp.b BK163.out) k_ hk⟩))
              (case aO => exact (by (with_reducible repeat (first | apply Kd.R_alloc | apply Kd.R_drewN | apply Kd.R_drew)); exact Kd.R_mono HO175.out (fun _ hk => ⟨hk.1.2, hk.2⟩)))
              (case aS => exact (below_size (Cmp.g HB.out)))
              (case aL => have := LMc57.out; omega)
              intro v181 w69 ho hb hg hat
              rw [← Ny180.out] at ho
              have n0_ := Aside0.mk (Kd.R_after (ok := (fun k_ => k_ ≠ gb163)) (Cmp.rr HO_169000.out) hg hat)
              have n1_ := Aside0.mk (blk_grown (g := gb162) (o := .cells #[.slice (some ad171) l0_0.length c0_0] 39 (0, 0)) (Cmp.b BK162.out) hg (Kd.R_ne HO175.out BK162.out (by decide)))
              have n2_ := Aside0.mk (blk_grown (g := gb163) (o := .cells #[.int .i64 a1_0, .int .i64 a1_1, .int .i64 a1_2, .bool a1_3] 64 (0, 0)) (Cmp.b BK163.out) hg (Kd.R_away HO175.out (fun _ hk => hk.2)))
              have n3_ := Aside0.mk (blk_grown (g := gb164) (o := .cells #[.slice none 0 0] 39 (0, 0)) (Cmp.b BK164.out) hg (Kd.R_ne HO175.out BK164.out (by decide)))
              have n4_ := Aside0.mk (blk_grown (g := gb168) (o := .cells #[.slice Ao40 t165.length co40] 39 (0, 0)) (Cmp.b BK168.out) hg (Kd.R_ne HO175.out BK168.out (by decide)))
              have n5_ := Aside0.mk (hb)
              have n6_ := Aside0.mk (ho)
              clear HO_169000; clear BK162; clear BK163; clear BK164; clear BK168; clear HB; clear HO175; have HO_169000 := n0_; have BK162 := n1_; have BK163 := n2_; have BK164 := n3_; have BK168 := n4_; have HB := n5_; have HO182 := n6_; clear n0_ n1_ n2_ n3_ n4_ n5_ n6_; clear ho hb hg hat
              refine hK.out _ _ ⟨(blk_cell BK162.out 0).trans rfl, (blk_cell BK163.out 0).trans rfl, (blk_cell BK163.out 1).trans rfl, (blk_cell BK163.out 2).trans rfl, (blk_cell BK163.out 3).trans rfl⟩ (fun hHeld => ?_)
              clear hK K
              refine norm_ (a' := ?_) ?_ ?_
              rotate_left
              ·show Act.put _ (some 48) _ = _
               simp only [Act.put, Cmp.s, Cmp.z, Cmp.c, i64_w, i32_w]; rfl
              refine one_ (i := 7) (N := some 50) (Cmp.bb 16 7935) rfl rfl (one_of HT_.out (by kernel_rfl)) (by decide) (fun K hK => ?_)
              refine Kd.R_lit_step k64 _ 64 ?hg (N := 50) ?hd (xs := ([(⟨a1_0, a1_1, a1_2, a1_3⟩ : S64)] : List (S64))) (inner := [.int .i64 a1_0, .int .i64 a1_1, .int .i64 a1_2, .bool a1_3]) (ok := fun _ => True) (okp := fun _ => True) ?hr ?hp (fun _ hk => hk) trivial (Below.refl _ _) (Nat.le_refl _) (by simp) ?_; (case hd => rfl); (case hg => rfl); (case hr => first | (go_simp; done) | (go_simp; rfl)); (case hp => exact (Reps.c4 (show Kd.M k64 _ _ _ (⟨a1_0, a1_1, a1_2, a1_3⟩ : S64) [.int .i64 a1_0, .int .i64 a1_1, .int .i64 a1_2, .bool a1_3] from (k64_mkM _ _ _ (⟨a1_0, a1_1, a1_2, a1_3⟩ : S64) )) (Reps.none _ _)))
              intro v184 w70 ho71 hb hg_ hnew_
              clear hg_ hnew_
              (first | rw [← Ny183.out] at ho71 | (simp only [Int.reduceToNat] at ho71; rw [← Ny183.out] at ho71))
              have n0_ := Aside0.mk (Kd.R_elder' (Cmp.rr HO_169000.out) (Kd.R_base ho71) hb)
              have n1_ := Aside0.mk (Kd.R_elder' (Cmp.rr HO182.out) (Kd.R_base ho71) hb)
              have n2_ := Aside0.mk (Kd.R_lower (Kd.R_newB (Kd.R_new' (Kd.R_new' ho71 (Kd.R_lt (Cmp.rr HO_169000.out))) (Kd.R_lt (Cmp.rr HO182.out))) (g := gb163) (o := .cells #[.int .i64 a1_0, .int .i64 a1_1, .int .i64 a1_2, .bool a1_3] 64 (0, 0)) (Cmp.b BK163.out)) (below_size (Cmp.g HB.out)))
              have n3_ := Aside0.mk (blk_below (g := gb162) (o := .cells #[.slice (some ad171) l0_0.length c0_0] 39 (0, 0)) (Cmp.b BK162.out) hb)
              have n4_ := Aside0.mk (blk_below (g := gb163) (o := .cells #[.int .i64 a1_0, .int .i64 a1_1, .int .i64 a1_2, .bool a1_3] 64 (0, 0)) (Cmp.b BK163.out) hb)
              have n5_ := Aside0.mk (blk_below (g := gb164) (o := .cells #[.slice none 0 0] 39 (0, 0)) (Cmp.b BK164.out) hb)
              have n6_ := Aside0.mk (blk_below (g := gb168) (o := .cells #[.slice Ao40 t165.length co40] 39 (0, 0)) (Cmp.b BK168.out) hb)
              have n7_ := Aside0.mk (below_step (Cmp.g HB.out) hb)
              clear HO_169000; clear HO182; clear BK162; clear BK163; clear BK164; clear BK168; clear HB; have HO_169000 := n0_; have HO182 := n1_; have HO185 := n2_; have BK162 := n3_; have BK163 := n4_; have BK164 := n5_; have BK168 := n6_; have HB := n7_; clear n0_ n1_ n2_ n3_ n4_ n5_ n6_ n7_; clear hb ho71
              refine hK.out _ _ ⟨(blk_cell BK162.out 0).trans rfl, (blk_cell BK163.out 0).trans rfl, (blk_cell BK163.out 1).trans rfl, (blk_cell BK163.out 2).trans rfl, (blk_cell BK163.out 3).trans rfl⟩ (fun hHeld => ?_)
              clear hK K
              refine norm_ (a' := ?_) ?_ ?_
              rotate_left
              ·show Act.put _ (some 50) _ = _
               simp only [Act.put, Cmp.s, Cmp.z, Cmp.c, i64_w, i32_w]; rfl
              exact norm_ (by simp only [putAll, Act.put, List.setIfInBounds_toArray, List.set_cons_zero, List.set_cons_succ]) (hCont (v174, v181, v184) _ ⟨hHeld, (by (with_reducible repeat (first | apply Kd.R_alloc | apply Kd.R_drewN | apply Kd.R_drew)); exact Kd.R_mono HO182.out (fun _ hk => ⟨hk.2, ⟨hk.1.1, hk.1.2⟩⟩)), (by (with_reducible repeat (first | apply Kd.R_alloc | apply Kd.R_drewN | apply Kd.R_drew)); exact Kd.R_mono HO185.out (fun _ hk => ⟨hk.1.2, ⟨hk.1.1.2, hk.2⟩⟩)), (by (with_reducible repeat (first | apply Kd.R_alloc | apply Kd.R_drewN | apply Kd.R_drew)); exact Kd.R_mono HO_169000.out (fun _ hk => ⟨hk.1.2, ⟨hk.2, hk.1.1⟩⟩)), (Cmp.b BK162.out), (Cmp.b BK163.out), (Cmp.b BK164.out), (Cmp.b BK168.out), (Cmp.g HB.out)⟩)
             ·skip
              refine Kd.R_lit_step k64 _ 64 ?hg (N := 50) ?hd (xs := ([(⟨a1_0, a1_1, a1_2, a1_3⟩ : S64)] : List (S64))) (inner := [.int .i64 a1_0, .int .i64 a1_1, .int .i64 a1_2, .bool a1_3]) (ok := fun _ => True) (okp := fun _ => True) ?hr ?hp (fun _ hk => hk) trivial (Below.refl _ _) (Nat.le_refl _) (by simp) ?_; (case hd => rfl); (case hg => rfl); (case hr => first | (go_simp; done) | (go_simp; rfl)); (case hp => exact (Reps.c4 (show Kd.M k64 _ _ _ (⟨a1_0, a1_1, a1_2, a1_3⟩ : S64) [.int .i64 a1_0, .int .i64 a1_1, .int .i64 a1_2, .bool a1_3] from (k64_mkM _ _ _ (⟨a1_0, a1_1, a1_2, a1_3⟩ : S64) )) (Reps.none _ _)))
              intro v184 w69 ho70 hb hg_ hnew_
              clear hg_ hnew_
              (first | rw [← Ny183.out] at ho70 | (simp only [Int.reduceToNat] at ho70; rw [← Ny183.out] at ho70))
              have n0_ := Aside0.mk (Kd.R_elder' (Cmp.rr HO_169000.out) (Kd.R_base ho70) hb)
              have n1_ := Aside0.mk (Kd.R_elder' (Cmp.rr HO175.out) (Kd.R_base ho70) hb)
              have n2_ := Aside0.mk (Kd.R_lower (Kd.R_newB (Kd.R_new' (Kd.R_new' ho70 (Kd.R_lt (Cmp.rr HO_169000.out))) (Kd.R_lt (Cmp.rr HO175.out))) (g := gb163) (o := .cells #[.int .i64 a1_0, .int .i64 a1_1, .int .i64 a1_2, .bool a1_3] 64 (0, 0)) (Cmp.b BK163.out)) (below_size (Cmp.g HB.out)))
              have n3_ := Aside0.mk (blk_below (g := gb162) (o := .cells #[.slice (some ad171) l0_0.length c0_0] 39 (0, 0)) (Cmp.b BK162.out) hb)
              have n4_ := Aside0.mk (blk_below (g := gb163) (o := .cells #[.int .i64 a1_0, .int .i64 a1_1, .int .i64 a1_2, .bool a1_3] 64 (0, 0)) (Cmp.b BK163.out) hb)
              have n5_ := Aside0.mk (blk_below (g := gb164) (o := .cells #[.slice none 0 0] 39 (0, 0)) (Cmp.b BK164.out) hb)
              have n6_ := Aside0.mk (blk_below (g := gb168) (o := .cells #[.slice Ao40 t165.length co40] 39 (0, 0)) (Cmp.b BK168.out) hb)
              have n7_ := Aside0.mk (below_step (Cmp.g HB.out) hb)
              clear HO_169000; clear HO175; clear BK162; clear BK163; clear BK164; clear BK168; clear HB; have HO_169000 := n0_; have HO175 := n1_; have HO185 := n2_; have BK162 := n3_; have BK163 := n4_; have BK164 := n5_; have BK168 := n6_; have HB := n7_; clear n0_ n1_ n2_ n3_ n4_ n5_ n6_ n7_; clear hb ho70
              refine hK.out _ _ ⟨(blk_cell BK162.out 0).trans rfl, (blk_cell BK163.out 0).trans rfl, (blk_cell BK163.out 1).trans rfl, (blk_cell BK163.out 2).trans rfl, (blk_cell BK163.out 3).trans rfl⟩ (fun hHeld => ?_)
              clear hK K
              refine norm_ (a' := ?_) ?_ ?_
              rotate_left
              ·show Act.put _ (some 50) _ = _
               simp only [Act.put, Cmp.s, Cmp.z, Cmp.c, i64_w, i32_w]; rfl
              refine one_ (i := 5) (N := some 48) (Cmp.bb 16 7935) rfl rfl (one_of HT_.out (by kernel_rfl)) (by decide) (fun K hK => ?_)
              refine Kd.R_append_rows_step k64 (w0 := w) w.heap.size (by rfl) (.tmp 43) (.tmp 47) 37 64 (.agg #[(.int .i64 0), (.int .i64 0), (.int .i64 0), (.bool false)]) 32 rfl Try.underlying37 info64 rfl (by decide) (by omega) v174 y173 y176 _ _ _ (fun k_ => some k_ ≠ (.slice Ao40 t165.length co40 : Value).ownBlock ∧ some k_ ≠ (v184 : Value).ownBlock ∧ k_ ≠ gb163) (fun _ => False) rfl rfl ?aO ?aR (fun _ _ h => h) (fun _ h => h.elim) ?aF ?aB ?aS ?aL ?_
              (case aR => repeat (first | exact (Kd.C_below HR179.out HB.out) | (with_reducible refine Kd.C_alloc ?_ _) | (with_reducible refine Kd.C_drewN ?_ _) | (with_reducible refine Kd.C_drew ?_)))
              (case aB => exact (Cmp.g HB.out))
              (case aF => exact (fun k_ hk => ⟨Kd.fresh' (Kd.R_lt (Cmp.rr HO_169000.out)) k_ hk, Kd.fresh' (Kd.R_lt (Cmp.rr HO185.out)) k_ hk, Kd.freshB (g := gb163) (o := .cells #[.int .i64 a1_0, .int .i64 a1_1, .int .i64 a1_2, .bool a1_3] 64 (0, 0)) (Cmp.b BK163.out) k_ hk⟩))
              (case aO => exact (by (with_reducible repeat (first | apply Kd.R_alloc | apply Kd.R_drewN | apply Kd.R_drew)); exact Kd.R_mono HO175.out (fun _ hk => ⟨hk.1.1.2, ⟨hk.2, hk.1.2⟩⟩)))
              (case aS => exact (below_size (Cmp.g HB.out)))
              (case aL => have := LMc57.out; omega)
              intro v181 w71 ho hb hg hat
              rw [← Ny180.out] at ho
              have n0_ := Aside0.mk (Kd.R_after (ok := (fun k_ => some k_ ≠ (v184 : Value).ownBlock ∧ k_ ≠ gb163)) (by (with_reducible repeat (first | apply Kd.R_alloc | apply Kd.R_drewN | apply Kd.R_drew)); exact Kd.R_mono HO_169000.out (fun _ hk => ⟨⟨hk.2, hk.1.1⟩, hk.1.2⟩)) hg hat)
              have n1_ := Aside0.mk (blk_grown (g := gb162) (o := .cells #[.slice (some ad171) l0_0.length c0_0] 39 (0, 0)) (Cmp.b BK162.out) hg (Kd.R_ne HO175.out BK162.out (by decide)))
              have n2_ := Aside0.mk (blk_grown (g := gb163) (o := .cells #[.int .i64 a1_0, .int .i64 a1_1, .int .i64 a1_2, .bool a1_3] 64 (0, 0)) (Cmp.b BK163.out) hg (Kd.R_away HO175.out (fun _ hk => hk.1.2)))
              have n3_ := Aside0.mk (blk_grown (g := gb164) (o := .cells #[.slice none 0 0] 39 (0, 0)) (Cmp.b BK164.out) hg (Kd.R_ne HO175.out BK164.out (by decide)))
              have n4_ := Aside0.mk (blk_grown (g := gb168) (o := .cells #[.slice Ao40 t165.length co40] 39 (0, 0)) (Cmp.b BK168.out) hg (Kd.R_ne HO175.out BK168.out (by decide)))
              have n5_ := Aside0.mk (Kd.R_after (ok := (fun k_ => some k_ ≠ (.slice Ao40 t165.length co40 : Value).ownBlock ∧ k_ ≠ gb163)) (by (with_reducible repeat (first | apply Kd.R_alloc | apply Kd.R_drewN | apply Kd.R_drew)); exact Kd.R_mono HO185.out (fun _ hk => ⟨⟨hk.1.1.2, hk.2⟩, hk.1.2⟩)) hg hat)
              have n6_ := Aside0.mk (hb)
              have n7_ := Aside0.mk (ho)
              clear HO_169000; clear BK162; clear BK163; clear BK164; clear BK168; clear HO185; clear HB; clear HO175; have HO_169000 := n0_; have BK162 := n1_; have BK163 := n2_; have BK164 := n3_; have BK168 := n4_; have HO185 := n5_; have HB := n6_; have HO182 := n7_; clear n0_ n1_ n2_ n3_ n4_ n5_ n6_ n7_; clear ho hb hg hat
              refine hK.out _ _ ⟨(blk_cell BK162.out 0).trans rfl, (blk_cell BK163.out 0).trans rfl, (blk_cell BK163.out 1).trans rfl, (blk_cell BK163.out 2).trans rfl, (blk_cell BK163.out 3).trans rfl⟩ (fun hHeld => ?_)
              clear hK K
              refine norm_ (a' := ?_) ?_ ?_
              rotate_left
              ·show Act.put _ (some 48) _ = _
               simp only [Act.put, Cmp.s, Cmp.z, Cmp.c, i64_w, i32_w]; rfl
              exact norm_ (by simp only [putAll, Act.put, List.setIfInBounds_toArray, List.set_cons_zero, List.set_cons_succ]) (hCont (v174, v181, v184) _ ⟨hHeld, (by (with_reducible repeat (first | apply Kd.R_alloc | apply Kd.R_drewN | apply Kd.R_drew)); exact Kd.R_mono HO182.out (fun _ hk => ⟨hk.2.1, ⟨hk.1, hk.2.2⟩⟩)), (by (with_reducible repeat (first | apply Kd.R_alloc | apply Kd.R_drewN | apply Kd.R_drew)); exact Kd.R_mono HO185.out (fun _ hk => ⟨hk.2, ⟨hk.1.1, hk.1.2⟩⟩)), (by (with_reducible repeat (first | apply Kd.R_alloc | apply Kd.R_drewN | apply Kd.R_drew)); exact Kd.R_mono HO_169000.out (fun _ hk => ⟨hk.2, ⟨hk.1.1, hk.1.2⟩⟩)), (Cmp.b BK162.out), (Cmp.b BK163.out), (Cmp.b BK164.out), (Cmp.b BK168.out), (Cmp.g HB.out)⟩)
            ·skip
             refine Kd.R_lit_step k64 _ 64 ?hg (N := 50) ?hd (xs := ([(⟨a1_0, a1_1, a1_2, a1_3⟩ : S64)] : List (S64))) (inner := [.int .i64 a1_0, .int .i64 a1_1, .int .i64 a1_2, .bool a1_3]) (ok := fun _ => True) (okp := fun _ => True) ?hr ?hp (fun _ hk => hk) trivial (Below.refl _ _) (Nat.le_refl _) (by simp) ?_; (case hd => rfl); (case hg => rfl); (case hr => first | (go_simp; done) | (go_simp; rfl)); (case hp => exact (Reps.c4 (show Kd.M k64 _ _ _ (⟨a1_0, a1_1, a1_2, a1_3⟩ : S64) [.int .i64 a1_0, .int .i64 a1_1, .int .i64 a1_2, .bool a1_3] from (k64_mkM _ _ _ (⟨a1_0, a1_1, a1_2, a1_3⟩ : S64) )) (Reps.none _ _)))
             intro v184 w67 ho68 hb hg_ hnew_
             clear hg_ hnew_
             (first | rw [← Ny183.out] at ho68 | (simp only [Int.reduceToNat] at ho68; rw [← Ny183.out] at ho68))
             have n0_ := Aside0.mk (Kd.R_elder' (Cmp.rr HO_169000.out) (Kd.R_base ho68) hb)
             have n1_ := Aside0.mk (Kd.R_lower (Kd.R_newB (Kd.R_new' ho68 (Kd.R_lt (Cmp.rr HO_169000.out))) (g := gb163) (o := .cells #[.int .i64 a1_0, .int .i64 a1_1, .int .i64 a1_2, .bool a1_3] 64 (0, 0)) (Cmp.b BK163.out)) (below_size (Cmp.g HB.out)))
             have n2_ := Aside0.mk (blk_below (g := gb162) (o := .cells #[.slice (some ad171) l0_0.length c0_0] 39 (0, 0)) (Cmp.b BK162.out) hb)
             have n3_ := Aside0.mk (blk_below (g := gb163) (o := .cells #[.int .i64 a1_0, .int .i64 a1_1, .int .i64 a1_2, .bool a1_3] 64 (0, 0)) (Cmp.b BK163.out) hb)
             have n4_ := Aside0.mk (blk_below (g := gb164) (o := .cells #[.slice none 0 0] 39 (0, 0)) (Cmp.b BK164.out) hb)
             have n5_ := Aside0.mk (blk_below (g := gb168) (o := .cells #[.slice Ao40 t165.length co40] 39 (0, 0)) (Cmp.b BK168.out) hb)
             have n6_ := Aside0.mk (below_step (Cmp.g HB.out) hb)
             clear HO_169000; clear BK162; clear BK163; clear BK164; clear BK168; clear HB; have HO_169000 := n0_; have HO185 := n1_; have BK162 := n2_; have BK163 := n3_; have BK164 := n4_; have BK168 := n5_; have HB := n6_; clear n0_ n1_ n2_ n3_ n4_ n5_ n6_; clear hb ho68
             refine hK.out _ _ ⟨(blk_cell BK162.out 0).trans rfl, (blk_cell BK163.out 0).trans rfl, (blk_cell BK163.out 1).trans rfl, (blk_cell BK163.out 2).trans rfl, (blk_cell BK163.out 3).trans rfl⟩ (fun hHeld => ?_)
             clear hK K
             refine norm_ (a' := ?_) ?_ ?_
             rotate_left
             ·show Act.put _ (some 50) _ = _
              simp only [Act.put, Cmp.s, Cmp.z, Cmp.c, i64_w, i32_w]; rfl
             refine one_ (i := 0) (N := some 43) (Cmp.bb 16 7903) rfl rfl (one_of HT_.out (by kernel_rfl)) (by decide) (fun K hK => ?_)
             refine Kd.R_lit_step k64 _ 64 ?hg (N := 43) ?hd (xs := ([] : List (S64))) (inner := []) (ok := fun _ => True) (okp := fun _ => True) ?hr ?hp (fun _ hk => hk) trivial (Below.refl _ _) (Nat.le_refl _) (by simp) ?_; (case hd => rfl); (case hg => rfl); (case hr => first | (go_simp; done) | (go_simp; rfl)); (case hp => exact (Reps.none _ _))
             intro v174 w69 ho70 hb hg_ hnew_
             clear hg_ hnew_
             (first | rw [← Ny173.out] at ho70 | (simp only [Int.reduceToNat] at ho70; rw [← Ny173.out] at ho70))
             have n0_ := Aside0.mk (Kd.R_elder' (Cmp.rr HO_169000.out) (Kd.R_base ho70) hb)
             have n1_ := Aside0.mk (Kd.R_elder' (Cmp.rr HO185.out) (Kd.R_base ho70) hb)
             have n2_ := Aside0.mk (Kd.R_lower (Kd.R_newB (Kd.R_new' (Kd.R_new' ho70 (Kd.R_lt (Cmp.rr HO_169000.out))) (Kd.R_lt (Cmp.rr HO185.out))) (g := gb163) (o := .cells #[.int .i64 a1_0, .int .i64 a1_1, .int .i64 a1_2, .bool a1_3] 64 (0, 0)) (Cmp.b BK163.out)) (below_size (Cmp.g HB.out)))
             have n3_ := Aside0.mk (blk_below (g := gb162) (o := .cells #[.slice (some ad171) l0_0.length c0_0] 39 (0, 0)) (Cmp.b BK162.out) hb)
             have n4_ := Aside0.mk (blk_below (g := gb163) (o := .cells #[.int .i64 a1_0, .int .i64 a1_1, .int .i64 a1_2, .bool a1_3] 64 (0, 0)) (Cmp.b BK163.out) hb)
             have n5_ := Aside0.mk (blk_below (g := gb164) (o := .cells #[.slice none 0 0] 39 (0, 0)) (Cmp.b BK164.out) hb)
             have n6_ := Aside0.mk (blk_below (g := gb168) (o := .cells #[.slice Ao40 t165.length co40] 39 (0, 0)) (Cmp.b BK168.out) hb)
             have n7_ := Aside0.mk (below_step (Cmp.g HB.out) hb)
             clear HO_169000; clear HO185; clear BK162; clear BK163; clear BK164; clear BK168; clear HB; have HO_169000 := n0_; have HO185 := n1_; have HO175 := n2_; have BK162 := n3_; have BK163 := n4_; have BK164 := n5_; have BK168 := n6_; have HB := n7_; clear n0_ n1_ n2_ n3_ n4_ n5_ n6_ n7_; clear hb ho70
             refine hK.out _ _ ⟨(blk_cell BK162.out 0).trans rfl, (blk_cell BK163.out 0).trans rfl, (blk_cell BK163.out 1).trans rfl, (blk_cell BK163.out 2).trans rfl, (blk_cell BK163.out 3).trans rfl⟩ (fun hHeld => ?_)
             clear hK K
             refine norm_ (a' := ?_) ?_ ?_
             rotate_left
             ·show Act.put _ (some 43) _ = _
              simp only [Act.put, Cmp.s, Cmp.z, Cmp.c, i64_w, i32_w]; rfl
             refine one_ (i := 5) (N := some 48) (Cmp.bb 16 7935) rfl rfl (one_of HT_.out (by kernel_rfl)) (by decide) (fun K hK => ?_)
             refine Kd.R_append_rows_step k64 (w0 := w) w.heap.size (by rfl) (.tmp 43) (.tmp 47) 37 64 (.agg #[(.int .i64 0), (.int .i64 0), (.int .i64 0), (.bool false)]) 32 rfl Try.underlying37 info64 rfl (by decide) (by omega) v174 y173 y176 _ _ _ (fun k_ => some k_ ≠ (.slice Ao40 t165.length co40 : Value).ownBlock ∧ some k_ ≠ (v184 : Value).ownBlock ∧ k_ ≠ gb163) (fun _ => False) rfl rfl ?aO ?aR (fun _ _ h => h) (fun _ h => h.elim) ?aF ?aB ?aS ?aL ?_
             (case aR => repeat (first | exact (Kd.C_below HR179.out HB.out) | (with_reducible refine Kd.C_alloc ?_ _) | (with_reducible refine Kd.C_drewN ?_ _) | (with_reducible refine Kd.C_drew ?_)))
             (case aB => exact (Cmp.g HB.out))
             (case aF => exact (fun k_ hk => ⟨Kd.fresh' (Kd.R_lt (Cmp.rr HO_169000.out)) k_ hk, Kd.fresh' (Kd.R_lt (Cmp.rr HO185.out)) k_ hk, Kd.freshB (g := gb163) (o := .cells #[.int .i64 a1_0, .int .i64 a1_1, .int .i64 a1_2, .bool a1_3] 64 (0, 0)) (Cmp.b BK163.out) k_ hk⟩))
             (case aO => exact (by (with_reducible repeat (first | apply Kd.R_alloc | apply Kd.R_drewN | apply Kd.R_drew)); exact Kd.R_mono HO175.out (fun _ hk => ⟨hk.1.1.2, ⟨hk.1.2, hk.2⟩⟩)))
             (case aS => exact (below_size (Cmp.g HB.out)))
             (case aL => have := LMc57.out; omega)
             intro v181 w71 ho hb hg hat
             rw [← Ny180.out] at ho
             have n0_ := Aside0.mk (Kd.R_after (ok := (fun k_ => some k_ ≠ (v184 : Value).ownBlock ∧ k_ ≠ gb163)) (by (with_reducible repeat (first | apply Kd.R_alloc | apply Kd.R_drewN | apply Kd.R_drew)); exact Kd.R_mono HO_169000.out (fun _ hk => ⟨⟨hk.1.2, hk.1.1⟩, hk.2⟩)) hg hat)
             have n1_ := Aside0.mk (blk_grown (g := gb162) (o := .cells #[.slice (some ad171) l0_0.length c0_0] 39 (0, 0)) (Cmp.b BK162.out) hg (Kd.R_ne HO175.out BK162.out (by decide)))
             have n2_ := Aside0.mk (blk_grown (g := gb163) (o := .cells #[.int .i64 a1_0, .int .i64 a1_1, .int .i64 a1_2, .bool a1_3] 64 (0, 0)) (Cmp.b BK163.out) hg (Kd.R_away HO175.out (fun _ hk => hk.2)))
             have n3_ := Aside0.mk (blk_grown (g := gb164) (o := .cells #[.slice none 0 0] 39 (0, 0)) (Cmp.b BK164.out) hg (Kd.R_ne HO175.out BK164.out (by decide)))
             have n4_ := Aside0.mk (blk_grown (g := gb168) (o := .cells #[.slice Ao40 t165.length co40] 39 (0, 0)) (Cmp.b BK168.out) hg (Kd.R_ne HO175.out BK168.out (by decide)))
             have n5_ := Aside0.mk (Kd.R_after (ok := (fun k_ => some k_ ≠ (.slice Ao40 t165.length co40 : Value).ownBlock ∧ k_ ≠ gb163)) (by (with_reducible repeat (first | apply Kd.R_alloc | apply Kd.R_drewN | apply Kd.R_drew)); exact Kd.R_mono HO185.out (fun _ hk => ⟨⟨hk.1.1.2, hk.1.2⟩, hk.2⟩)) hg hat)
             have n6_ := Aside0.mk (hb)
             have n7_ := Aside0.mk (ho)
             clear HO_169000; clear BK162; clear BK163; clear BK164; clear BK168; clear HO185; clear HB; clear HO175; have HO_169000 := n0_; have BK162 := n1_; have BK163 := n2_; have BK164 := n3_; have BK168 := n4_; have HO185 := n5_; have HB := n6_; have HO182 := n7_; clear n0_ n1_ n2_ n3_ n4_ n5_ n6_ n7_; clear ho hb hg hat
             refine hK.out _ _ ⟨(blk_cell BK162.out 0).trans rfl, (blk_cell BK163.out 0).trans rfl, (blk_cell BK163.out 1).trans rfl, (blk_cell BK163.out 2).trans rfl, (blk_cell BK163.out 3).trans rfl⟩ (fun hHeld => ?_)
             clear hK K
             refine norm_ (a' := ?_) ?_ ?_
             rotate_left
             ·show Act.put _ (some 48) _ = _
              simp only [Act.put, Cmp.s, Cmp.z, Cmp.c, i64_w, i32_w]; rfl
             exact norm_ (by simp only [putAll, Act.put, List.setIfInBounds_toArray, List.set_cons_zero, List.set_cons_succ]) (hCont (v174, v181, v184) _ ⟨hHeld, (by (with_reducible repeat (first | apply Kd.R_alloc | apply Kd.R_drewN | apply Kd.R_drew)); exact Kd.R_mono HO182.out (fun _ hk => ⟨hk.2.1, ⟨hk.1, hk.2.2⟩⟩)), (by (with_reducible repeat (first | apply Kd.R_alloc | apply Kd.R_drewN | apply Kd.R_drew)); exact Kd.R_mono HO185.out (fun _ hk => ⟨hk.2, ⟨hk.1.1, hk.1.2⟩⟩)), (by (with_reducible repeat (first | apply Kd.R_alloc | apply Kd.R_drewN | apply Kd.R_drew)); exact Kd.R_mono HO_169000.out (fun _ hk => ⟨hk.2, ⟨hk.1.1, hk.1.2⟩⟩)), (Cmp.b BK162.out), (Cmp.b BK163.out), (Cmp.b BK164.out), (Cmp.b BK168.out), (Cmp.g HB.out)⟩)
           rintro ⟨v174, v181, v184⟩ w72 ⟨hS_, h0_, h1_, h2_, h3_, h4_, h5_, h6_, h7_⟩
           have n0_ : Aside0 (Kd.R k64 64 w72 w.heap.size (fun k_ => some k_ ≠ (v184 : Value).ownBlock ∧ some k_ ≠ (.slice Ao40 t165.length co40 : Value).ownBlock ∧ k_ ≠ gb163) v181 y180) := ⟨h0_⟩
           have n1_ : Aside0 (Kd.R k64 64 w72 w.heap.size (fun k_ => some k_ ≠ (v181 : Value).ownBlock ∧ some k_ ≠ (.slice Ao40 t165.length co40 : Value).ownBlock ∧ k_ ≠ gb163) v184 y183) := ⟨h1_⟩
           have n2_ : Aside0 (Kd.R k64 64 w72 w.heap.size (fun k_ => some k_ ≠ (v181 : Value).ownBlock ∧ some k_ ≠ (v184 : Value).ownBlock ∧ k_ ≠ gb163) (.slice Ao40 t165.length co40) t165) := ⟨h2_⟩
           have n3_ : Aside0 (w72.heap[gb162]? = some (.cells #[.slice (some ad171) l0_0.length c0_0] 39 (0, 0))) := ⟨h3_⟩
           have n4_ : Aside0 (w72.heap[gb163]? = some (.cells #[.int .i64 a1_0, .int .i64 a1_1, .int .i64 a1_2, .bool a1_3] 64 (0, 0))) := ⟨h4_⟩
           have n5_ : Aside0 (w72.heap[gb164]? = some (.cells #[.slice none 0 0] 39 (0, 0))) := ⟨h5_⟩
           have n6_ : Aside0 (w72.heap[gb168]? = some (.cells #[.slice Ao40 t165.length co40] 39 (0, 0))) := ⟨h6_⟩
           have n7_ : Aside0 (Below w.heap.size w w72) := ⟨h7_⟩
           clear HO_169000; clear BK162; clear BK163; clear BK164; clear BK168; clear HB; clear h0_ h1_ h2_ h3_ h4_ h5_ h6_ h7_; have HO182 := n0_; have HO185 := n1_; have HO_169000 := n2_; have BK162 := n3_; have BK163 := n4_; have BK164 := n5_; have BK168 := n6_; have HB := n7_; clear n0_ n1_ n2_ n3_ n4_ n5_ n6_ n7_
           have hHeld : w72.cell? ⟨gb162, 0, none⟩ = some (.slice (some ad171) l0_0.length c0_0) ∧ w72.cell? ⟨gb163, 0, none⟩ = some (.int .i64 a1_0) ∧ w72.cell? ⟨gb163, 1, none⟩ = some (.int .i64 a1_1) ∧ w72.cell? ⟨gb163, 2, none⟩ = some (.int .i64 a1_2) ∧ w72.cell? ⟨gb163, 3, none⟩ = some (.bool a1_3) := hS_
           obtain ⟨Ao74, co74, eo74⟩ := Kd.R_slice HO185.out
           (first | subst eo74 | (injection eo74 with f1_ f2_ f3_; have f4_ := f1_.symm; have f5_ := f3_.symm; clear f1_ f2_ f3_; subst f4_; subst f5_))
           refine norm_ (a' := ?_) ?_ ?_
           rotate_left
           ·simp only [putAll, Act.put, List.setIfInBounds_toArray, List.set_cons_zero, List.set_cons_succ]; rfl
           refine one_ (i := 8) (N := some 51) (Cmp.bm 13 3) rfl rfl (one_of HT_.out (by kernel_rfl)) (by decide) (fun K hK => ?_)
           refine Kd.R_append_rows_step k64 (w0 := w) w.heap.size (by rfl) (.tmp 48) (.tmp 50) 37 64 (.agg #[(.int .i64 0), (.int .i64 0), (.int .i64 0), (.bool false)]) 32 rfl Try.underlying37 info64 rfl (by decide) (by omega) v181 y180 y183 _ _ _ (fun k_ => some k_ ≠ (.slice Ao40 t165.length co40 : Value).ownBlock ∧ some k_ ≠ (.slice Ao74 y183.length co74 : Value).ownBlock ∧ k_ ≠ gb163) (fun _ => False) rfl rfl ?aO ?aR (fun _ _ h => h) (fun _ h => h.elim) ?aF ?aB ?aS ?aL ?_
           (case aR => repeat (first | exact (Kd.R_reads' HO185.out).2.2 | (with_reducible refine Kd.C_alloc ?_ _) | (with_reducible refine Kd.C_drewN ?_ _) | (with_reducible refine Kd.C_drew ?_)))
           (case aB => exact (Cmp.g HB.out))
           (case aF => exact (fun k_ hk => ⟨Kd.fresh' (Kd.R_lt (Cmp.rr HO_169000.out)) k_ hk, Kd.fresh' (Kd.R_lt (Cmp.rr HO185.out)) k_ hk, Kd.freshB (g := gb163) (o := .cells #[.int .i64 a1_0, .int .i64 a1_1, .int .i64 a1_2, .bool a1_3] 64 (0, 0)) (Cmp.b BK163.out) k_ hk⟩))
           (case aO => exact (by (with_reducible repeat (first | apply Kd.R_alloc | apply Kd.R_drewN | apply Kd.R_drew)); exact Kd.R_mono HO182.out (fun _ hk => ⟨hk.2.1, ⟨hk.1, hk.2.2⟩⟩)))
           (case aS => exact (below_size (Cmp.g HB.out)))
           (case aL => have := LMc58.out; omega)
           intro v187 w73 ho hb hg hat
           rw [← Ny186.out] at ho
           have n0_ := Aside0.mk (Kd.R_after (ok := (fun k_ => some k_ ≠ (.slice Ao74 y183.length co74 : Value).ownBlock ∧ k_ ≠ gb163)) (by (with_reducible repeat (first | apply Kd.R_alloc | apply Kd.R_drewN | apply Kd.R_drew)); exact Kd.R_mono HO_169000.out (fun _ hk => ⟨⟨hk.2.1, hk.2.2⟩, hk.1⟩)) hg hat)
           have n1_ := Aside0.mk (blk_grown (g := gb162) (o := .cells #[.slice (some ad171) l0_0.length c0_0] 39 (0, 0)) (Cmp.b BK162.out) hg (Kd.R_ne HO182.out BK162.out (by decide)))
           have n2_ := Aside0.mk (blk_grown (g := gb163) (o := .cells #[.int .i64 a1_0, .int .i64 a1_1, .int .i64 a1_2, .bool a1_3] 64 (0, 0)) (Cmp.b BK163.out) hg (Kd.R_away HO182.out (fun _ hk => hk.2.2)))
           have n3_ := Aside0.mk (blk_grown (g := gb164) (o := .cells #[.slice none 0 0] 39 (0, 0)) (Cmp.b BK164.out) hg (Kd.R_ne HO182.out BK164.out (by decide)))
           have n4_ := Aside0.mk (blk_grown (g := gb168) (o := .cells #[.slice Ao40 t165.length co40] 39 (0, 0)) (Cmp.b BK168.out) hg (Kd.R_ne HO182.out BK168.out (by decide)))
           have n5_ := Aside0.mk (Kd.R_after (ok := (fun k_ => some k_ ≠ (.slice Ao40 t165.length co40 : Value).ownBlock ∧ k_ ≠ gb163)) (by (with_reducible repeat (first | apply Kd.R_alloc | apply Kd.R_drewN | apply Kd.R_drew)); exact Kd.R_mono HO185.out (fun _ hk => ⟨⟨hk.2.1, hk.2.2⟩, hk.1⟩)) hg hat)
           have n6_ := Aside0.mk (hb)
           have n7_ := Aside0.mk (ho)
           clear HO_169000; clear BK162; clear BK163; clear BK164; clear BK168; clear HO185; clear HB; clear HO182; have HO_169000 := n0_; have BK162 := n1_; have BK163 := n2_; have BK164 := n3_; have BK168 := n4_; have HO185 := n5_; have HB := n6_; have HO188 := n7_; clear n0_ n1_ n2_ n3_ n4_ n5_ n6_ n7_; clear ho hb hg hat
           refine hK.out _ _ ⟨(blk_cell BK162.out 0).trans rfl, (blk_cell BK163.out 0).trans rfl, (blk_cell BK163.out 1).trans rfl, (blk_cell BK163.out 2).trans rfl, (blk_cell BK163.out 3).trans rfl⟩ (fun hHeld => ?_)
           clear hK K
           refine norm_ (a' := ?_) ?_ ?_
           rotate_left
           ·show Act.put _ (some 51) _ = _
            simp only [Act.put, Cmp.s, Cmp.z, Cmp.c, i64_w, i32_w]; rfl
           refine one_ (i := 13) (N := some 56) (Cmp.bm 14 2) rfl rfl (one_of HT_.out (by kernel_rfl)) (by decide) (fun K hK => ?_)
           refine Kd.R_append_rows_step k64 (w0 := w) w.heap.size (by rfl) (.tmp 51) (.tmp 55) 37 64 (.agg #[(.int .i64 0), (.int .i64 0), (.int .i64 0), (.bool false)]) 32 rfl Try.underlying37 info64 rfl (by decide) (by omega) v187 y186 y189 _ _ _ (fun k_ => some k_ ≠ (.slice Ao40 t165.length co40 : Value).ownBlock ∧ some k_ ≠ (.slice Ao74 y183.length co74 : Value).ownBlock ∧ k_ ≠ gb163) (fun _ => False) rfl rfl ?aO ?aR (fun _ _ h => h) (fun _ h => h.elim) ?aF ?aB ?aS ?aL ?_
           (case aR => repeat (first | exact (Kd.C_below HR192.out HB.out) | (with_reducible refine Kd.C_alloc ?_ _) | (with_reducible refine Kd.C_drewN ?_ _) | (with_reducible refine Kd.C_drew ?_)))
           (case aB => exact (Cmp.g HB.out))
           (case aF => exact (fun k_ hk => ⟨Kd.fresh' (Kd.R_lt (Cmp.rr HO_169000.out)) k_ hk, Kd.fresh' (Kd.R_lt (Cmp.rr HO185.out)) k_ hk, Kd.freshB (g := gb163) (o := .cells #[.int .i64 a1_0, .int .i64 a1_1, .int .i64 a1_2, .bool a1_3] 64 (0, 0)) (Cmp.b BK163.out) k_ hk⟩))
           (case aO => exact (Cmp.rr HO188.out))
           (case aS => exact (below_size (Cmp.g HB.out)))
           (case aL => have := LMc61.out; omega)
           intro v194 w75 ho hb hg hat
           rw [← Ny193.out] at ho
           have n0_ := Aside0.mk (Kd.R_after (ok := (fun k_ => some k_ ≠ (.slice Ao74 y183.length co74 : Value).ownBlock ∧ k_ ≠ gb163)) (Cmp.rr HO_169000.out) hg hat)
           have n1_ := Aside0.mk (blk_grown (g := gb162) (o := .cells #[.slice (some ad171) l0_0.length c0_0] 39 (0, 0)) (Cmp.b BK162.out) hg (Kd.R_ne HO188.out BK162.out (by decide)))
           have n2_ := Aside0.mk (blk_grown (g := gb163) (o := .cells #[.int .i64 a1_0, .int .i64 a1_1, .int .i64 a1_2, .bool a1_3] 64 (0, 0)) (Cmp.b BK163.out) hg (Kd.R_away HO188.out (fun _ hk => hk.2.2)))
           have n3_ := Aside0.mk (blk_grown (g := gb164) (o := .cells #[.slice none 0 0] 39 (0, 0)) (Cmp.b BK164.out) hg (Kd.R_ne HO188.out BK164.out (by decide)))
           have n4_ := Aside0.mk (blk_grown (g := gb168) (o := .cells #[.slice Ao40 t165.length co40] 39 (0, 0)) (Cmp.b BK168.out) hg (Kd.R_ne HO188.out BK168.out (by decide)))
           have n5_ := Aside0.mk (Kd.R_after (ok := (fun k_ => some k_ ≠ (.slice Ao40 t165.length co40 : Value).ownBlock ∧ k_ ≠ gb163)) (Cmp.rr HO185.out) hg hat)
           have n6_ := Aside0.mk (hb)
           have n7_ := Aside0.mk (ho)
           clear HO_169000; clear BK162; clear BK163; clear BK164; clear BK168; clear HO185; clear HB; clear HO188; have HO_169000 := n0_; have BK162 := n1_; have BK163 := n2_; have BK164 := n3_; have BK168 := n4_; have HO185 := n5_; have HB := n6_; have HO195 := n7_; clear n0_ n1_ n2_ n3_ n4_ n5_ n6_ n7_; clear ho hb hg hat
           obtain ⟨Ao76, co76, eo76⟩ := Kd.R_slice HO195.out
           (first | subst eo76 | (injection eo76 with f1_ f2_ f3_; have f4_ := f1_.symm; have f5_ := f3_.symm; clear f1_ f2_ f3_; subst f4_; subst f5_))
           refine hK.out _ _ ⟨(blk_cell BK162.out 0).trans rfl, (blk_cell BK163.out 0).trans rfl, (blk_cell BK163.out 1).trans rfl, (blk_cell BK163.out 2).trans rfl, (blk_cell BK163.out 3).trans rfl⟩ (fun hHeld => ?_)
           clear hK K
           refine norm_ (a' := ?_) ?_ ?_
           rotate_left
           ·show Act.put _ (some 56) _ = _
            simp only [Act.put, Cmp.s, Cmp.z, Cmp.c, i64_w, i32_w]; rfl
           refine Cmp.pu HT_ 14 57 (Cmp.bm 15 1) ?_
           refine one_ (i := 15) (N := none) (Cmp.bm 16 0) rfl rfl (one_of HT_.out (by kernel_rfl)) (by decide) (fun K hK => ?_)
           have hs77 : w75.cell? ⟨gb168, 0, none⟩ = some (.slice Ao40 t165.length co40) := (blk_cell BK168.out 0).trans rfl
           have hfs77 := blk_frozen BK168.out 0; have hns77_0 := NB162_168.out; have hns77_1 := NB163_168.out; have hns77_2 := NB164_168.out; have hms77_0 := NB168_162.out; have hms77_1 := NB168_163.out; have hms77_2 := NB168_164.out
           refine skip_ (w1 := ?_) (by rfl) rfl ?_ ?_
           rotate_left
           ·go_simp; rfl
           refine hK.out _ _ ⟨((cell_far (p := ⟨gb168, _, none⟩) NB162_168.out _).trans (hHeld.1)), ((cell_far (p := ⟨gb168, _, none⟩) NB163_168.out _).trans (hHeld.2.1)), ((cell_far (p := ⟨gb168, _, none⟩) NB163_168.out _).trans (hHeld.2.2.1)), ((cell_far (p := ⟨gb168, _, none⟩) NB163_168.out _).trans (hHeld.2.2.2.1)), ((cell_far (p := ⟨gb168, _, none⟩) NB163_168.out _).trans (hHeld.2.2.2.2))⟩ (fun hHeld => ?_)
           clear hK K
           refine done_ (done_of HT_.out (by kernel_rfl)) ?_
           have hnb78 := NB168_162.out; have hnc78 := NB162_168.out; have hnb79 := NB168_163.out; have hnc79 := NB163_168.out; have hnb80 := NB168_164.out; have hnc80 := NB164_168.out
           have hcz81_0 : w75.cell? ⟨gb168, 0, none⟩ = some (.slice Ao40 t165.length co40) := (blk_cell BK168.out 0).trans rfl
           have hfz81_0 := blk_frozen BK168.out 0; have hnb82 := NB164_162.out; have hnc82 := NB162_164.out; have hnb83 := NB164_163.out; have hnc83 := NB163_164.out
           have hcz84_0 : w75.cell? ⟨gb164, 0, none⟩ = some (.slice none 0 0) := (blk_cell BK164.out 0).trans rfl
           have hfz84_0 := blk_frozen BK164.out 0
           try go_wp2
           refine bodyPost_ret (results_cell_row rfl _ _ gb164 39 #[.slice Ao76 y193.length co76] (0, 0) _ rfl (by (with_reducible repeat (first | refine blk_drewN ?_ _ | refine blk_drew ?_ | refine blk_alloc ?_ _)); refine blk_put (cs := #[.slice none 0 0]) ?_ 0 _ rfl; (with_reducible repeat (first | refine blk_drewN ?_ _ | refine blk_drew ?_ | refine blk_alloc ?_ _)); refine blk_far ?_ NB164_168.out _; (with_reducible repeat (first | refine blk_drewN ?_ _ | refine blk_drew ?_ | refine blk_alloc ?_ _)); exact BK164.out) Try.underlying39 rfl (by kernel_rfl)) rfl ?_
           exact ⟨_, by first | rfl | (simp [errW_none, errW_some] <;> rfl) | (simp [*, errW_none, errW_some] <;> rfl), by (with_reducible repeat (first | apply Kd.R_alloc | apply Kd.R_drewN | apply Kd.R_drew)); exact Kd.R_mono (Kd.R_far (p := ⟨gb164, 0, none⟩) (Kd.R_far (p := ⟨gb168, 0, none⟩) (Kd.R_types (Kd.R_types HO195.out BK168.out (by decide)) BK164.out (by decide)) (fun _ hk => hk.1.2) (.slice Ao76 y193.length co76)) (fun _ hk => hk.2) (.slice Ao76 y193.length co76)) (fun _ hk => trivial), Cmp.g HB.out⟩
          ·rw [if_neg c61] at H; exact absurd H (by simp)
         ·rw [if_neg c58] at H; exact absurd H (by simp)
        ·rw [if_neg c57] at H; exact absurd H (by simp)
       ·rw [if_neg c56] at H; exact absurd H (by simp)
     ·rw [if_neg c50] at H; exact absurd H (by simp)
    ·rw [if_neg c49] at H
     have c49b0 : decide (x7_1 < (l0_0.length : Int)) = false := decide_eq_false c49
     clear c49
     obtain ⟨y196, hy196⟩ : ∃ y_ : List (S64), y_ = (([] : List (S64))) := ⟨_, rfl⟩
     replace H : (if 0 ≤ x7_1 then (if x7_1 ≤ (l0_0.length : Int) then ((some (l0_0.take (x7_1 : Int).toNat : List (S64))).bind fun y199 => (if y196.length + y199.length < 4398046511104 then ((some (y196 ++ y199 : List (S64))).bind fun y203 => ((some (([(⟨a1_0, a1_1, a1_2, a1_3⟩ : S64)] : List (S64)) : List (S64))).bind fun y206 => (if y203.length + y206.length < 4398046511104 then ((some (y203 ++ y206 : List (S64))).bind fun y209 => ((some (l0_0.drop (x7_1 : Int).toNat : List (S64))).bind fun y212 => (if y209.length + y212.length < 4398046511104 then (some (y209 ++ y212)) else (none)))) else (none)))) else (none))) else (none)) else (none)) = some r := by first | (rw [hy196]; with_reducible exact H) | (have H2_ := (Option.bind_some _ _).symm.trans H; rw [hy196]; with_reducible exact H2_) | (have H2_ := (Option.bind_some _ _).symm.trans H; with_reducible exact H2_) | with_reducible exact H | (rw [hy196]; exact H) | exact H
     have Ny196 := Aside0.mk hy196; clear hy196
     by_cases c85 : 0 ≤ x7_1
     ·rw [if_pos c85] at H
      have c85b0 := eq_true c85
      have c85b1 : decide (0 ≤ x7_1) = true := decide_eq_true c85; clear c85
      by_cases c86 : x7_1 ≤ (l0_0.length : Int)
      ·rw [if_pos c86] at H
       have c86b0 := eq_true c86
       have c86b1 : decide (x7_1 ≤ (l0_0.length : Int)) = true := decide_eq_true c86
       clear c86
       obtain ⟨y199, hy199⟩ : ∃ y_ : List (S64), y_ = (l0_0.take (x7_1 : Int).toNat) := ⟨_, rfl⟩
       replace H : (if y196.length + y199.length < 4398046511104 then ((some (y196 ++ y199 : List (S64))).bind fun y203 => ((some (([(⟨a1_0, a1_1, a1_2, a1_3⟩ : S64)] : List (S64)) : List (S64))).bind fun y206 => (if y203.length + y206.length < 4398046511104 then ((some (y203 ++ y206 : List (S64))).bind fun y209 => ((some (l0_0.drop (x7_1 : Int).toNat : List (S64))).bind fun y212 => (if y209.length + y212.length < 4398046511104 then (some (y209 ++ y212)) else (none)))) else (none)))) else (none)) = some r := by first | (rw [hy199]; with_reducible exact H) | (have H2_ := (Option.bind_some _ _).symm.trans H; rw [hy199]; with_reducible exact H2_) | (have H2_ := (Option.bind_some _ _).symm.trans H; with_reducible exact H2_) | with_reducible exact H | (rw [hy199]; exact H) | exact H
       have Ny199 := Aside0.mk hy199; clear hy199
       by_cases c87 : y196.length + y199.length < 4398046511104
       ·rw [if_pos c87] at H; have LMc87 := Aside0.mk c87; clear c87
        obtain ⟨y203, hy203⟩ : ∃ y_ : List (S64), y_ = (y196 ++ y199) := ⟨_, rfl⟩
        replace H : ((some (([(⟨a1_0, a1_1, a1_2, a1_3⟩ : S64)] : List (S64)) : List (S64))).bind fun y206 => (if y203.length + y206.length < 4398046511104 then ((some (y203 ++ y206 : List (S64))).bind fun y209 => ((some (l0_0.drop (x7_1 : Int).toNat : List (S64))).bind fun y212 => (if y209.length + y212.length < 4398046511104 then (some (y209 ++ y212)) else (none)))) else (none))) = some r := by first | (rw [hy203]; with_reducible exact H) | (have H2_ := (Option.bind_some _ _).symm.trans H; rw [hy203]; with_reducible exact H2_) | (have H2_ := (Option.bind_some _ _).symm.trans H; with_reducible exact H2_) | with_reducible exact H | (rw [hy203]; exact H) | exact H
        have Ny203 := Aside0.mk hy203; clear hy203
        obtain ⟨y206, hy206⟩ : ∃ y_ : List (S64), y_ = (([(⟨a1_0, a1_1, a1_2, a1_3⟩ : S64)] : List (S64))) := ⟨_, rfl⟩
        replace H : (if y203.length + y206.length < 4398046511104 then ((some (y203 ++ y206 : List (S64))).bind fun y209 => ((some (l0_0.drop (x7_1 : Int).toNat : List (S64))).bind fun y212 => (if y209.length + y212.length < 4398046511104 then (some (y209 ++ y212)) else (none)))) else (none)) = some r := by first | (rw [hy206]; with_reducible exact H) | (have H2_ := (Option.bind_some _ _).symm.trans H; rw [hy206]; with_reducible exact H2_) | (have H2_ := (Option.bind_some _ _).symm.trans H; with_reducible exact H2_) | with_reducible exact H | (rw [hy206]; exact H) | exact H
        have Ny206 := Aside0.mk hy206; clear hy206
        by_cases c88 : y203.length + y206.length < 4398046511104
        ·rw [if_pos c88] at H; have LMc88 := Aside0.mk c88; clear c88
         obtain ⟨y209, hy209⟩ : ∃ y_ : List (S64), y_ = (y203 ++ y206) := ⟨_, rfl⟩
         replace H : ((some (l0_0.drop (x7_1 : Int).toNat : List (S64))).bind fun y212 => (if y209.length + y212.length < 4398046511104 then (some (y209 ++ y212)) else (none))) = some r := by first | (rw [hy209]; with_reducible exact H) | (have H2_ := (Option.bind_some _ _).symm.trans H; rw [hy209]; with_reducible exact H2_) | (have H2_ := (Option.bind_some _ _).symm.trans H; with_reducible exact H2_) | with_reducible exact H | (rw [hy209]; exact H) | exact H
         have Ny209 := Aside0.mk hy209; clear hy209
         have c89b0 := eq_true (of_decide_eq_true Cmp.d : 0 ≤ x7_1)
         have c90b0 := eq_true (of_decide_eq_true Cmp.d : x7_1 ≤ (l0_0.length : Int))
         obtain ⟨y212, hy212⟩ : ∃ y_ : List (S64), y_ = (l0_0.drop (x7_1 : Int).toNat) := ⟨_, rfl⟩
         replace H : (if y209.length + y212.length < 4398046511104 then (some (y209 ++ y212)) else (none)) = some r := by first | (rw [hy212]; with_reducible exact H) | (have H2_ := (Option.bind_some _ _).symm.trans H; rw [hy212]; with_reducible exact H2_) | (have H2_ := (Option.bind_some _ _).symm.trans H; with_reducible exact H2_) | with_reducible exact H | (rw [hy212]; exact H) | exact H
         have Ny212 := Aside0.mk hy212; clear hy212
         by_cases c91 : y209.length + y212.length < 4398046511104
         ·rw [if_pos c91] at H; have LMc91 := Aside0.mk c91; clear c91
          obtain ⟨y216, hy216⟩ : ∃ y_ : List (S64), y_ = (y209 ++ y212) := ⟨_, rfl⟩
          replace H : (some y216) = some r := by first | (rw [hy216]; with_reducible exact H) | (have H2_ := (Option.bind_some _ _).symm.trans H; rw [hy216]; with_reducible exact H2_) | (have H2_ := (Option.bind_some _ _).symm.trans H; with_reducible exact H2_) | with_reducible exact H | (rw [hy216]; exact H) | exact H
          have Ny216 := Aside0.mk hy216; clear hy216
          obtain rfl := Option.some.inj H
          try go_wp2
          have n0_ := Aside0.mk (Kd.R_drew HO_169000.out); have n1_ := Aside0.mk (blk_drew BK162.out); have n2_ := Aside0.mk (blk_drew BK163.out); have n3_ := Aside0.mk (blk_drew BK164.out); have n4_ := Aside0.mk (blk_drew BK168.out); have n5_ := Aside0.mk (below_drew1 HB.out); clear HO_169000; clear BK162; clear BK163; clear BK164; clear BK168; clear HB; have HO_169000 := n0_; have BK162 := n1_; have BK163 := n2_; have BK164 := n3_; have BK168 := n4_; have HB := n5_; clear n0_ n1_ n2_ n3_ n4_ n5_
          refine start_ (n := 17) (S := fun w' => w'.cell? ⟨gb162, 0, none⟩ = some (.slice A0_0 l0_0.length c0_0)) (ds := []) (Cmp.bm 0 17) (by kernel_rfl) rfl rfl ((blk_cell BK162.out 0).trans rfl) (fun hHeld => ?_); refine with_tabW spec_l17Set.tab7 spec_l17Set.bits7 (fun HT_ HW_ => ?_)
          generalize wr.drew = w92 at HO_169000 BK162 BK163 BK164 BK168 HB hHeld ⊢
          refine Cmp.pu HT_ 0 24 (Cmp.bm 1 16) ?_; refine Cmp.pu HT_ 1 25 (Cmp.bm 2 15) ?_
          refine take_ (i := 2) (N := some 26) (v := ?_) (a' := ?_) (Cmp.bm 3 14) rfl rfl (take_ofW HT_.out HW_.out (by kernel_rfl)) (fun _ _ _ h => h) (Or.inl ⟨by rfl, ?_⟩) hHeld ?_ ?_
          rotate_left
          ·intro w' s0
           go_simp; with_reducible rfl
          rotate_left
          ·simp only [Act.put, Cmp.s, Cmp.z, Cmp.c, i64_w, i32_w]; rfl
          refine Cmp.pu HT_ 3 27 (Cmp.bm 4 13) ?_; refine Cmp.pu HT_ 4 28 (Cmp.bm 5 12) ?_; refine Cmp.pu HT_ 5 29 (Cmp.bm 6 11) ?_; refine Cmp.pv HT_ 6 30 (Cmp.bm 7 10) ?_; refine Cmp.pv HT_ 7 31 (Cmp.bm 8 9) ?_; refine Cmp.pv HT_ 8 32 (Cmp.bm 9 8) ?_; refine Cmp.pv HT_ 9 33 (Cmp.bm 10 7) ?_; refine Cmp.pv HT_ 10 34 (Cmp.bm 11 6) ?_; refine Cmp.pv HT_ 11 35 (Cmp.bm 12 5) ?_; refine Cmp.pv HT_ 12 36 (Cmp.bm 13 4) ?_; refine Cmp.pv HT_ 13 37 (Cmp.bm 14 3) ?_; refine Cmp.pv HT_ 14 38 (Cmp.bm 15 2) ?_; refine Cmp.pv HT_ 15 39 (Cmp.bm 16 1) ?_; refine Cmp.pu HT_ 16 40 (Cmp.bm 17 0) ?_
          refine done_ (done_of HT_.out (by kernel_rfl)) ?_
          try go_wp2
          have n0_ := Aside0.mk (Kd.R_drew HO_169000.out); have n1_ := Aside0.mk (blk_drew BK162.out); have n2_ := Aside0.mk (blk_drew BK163.out); have n3_ := Aside0.mk (blk_drew BK164.out); have n4_ := Aside0.mk (blk_drew BK168.out); have n5_ := Aside0.mk (below_drew1 HB.out); clear HO_169000; clear BK162; clear BK163; clear BK164; clear BK168; clear HB; have HO_169000 := n0_; have BK162 := n1_; have BK163 := n2_; have BK164 := n3_; have BK168 := n4_; have HB := n5_; clear n0_ n1_ n2_ n3_ n4_ n5_
          have q94 : (x7_1 : Int) ≤ ((l0_0.length : Int) : Int) := of_decide_eq_true Cmp.d
          obtain ⟨i094, hi094, _, hsz94, _⟩ := info_parts info64
          have hroom94 : l0_0.length ≤ c0_0 := HC0_0.out
          have hC94 : Kd.C k64 _ A0_0 l0_0.length l0_0 := HR0_0.out
          have hcut94 := cut_to (P := Try.prog) 37 64 .i64 Try.underlying37 hi094 A0_0 l0_0.length c0_0 x7_1 (of_decide_eq_true Cmp.d) q94 hroom94
          have hr94 := Kd.C_take (m := (x7_1 : Int).toNat) hC94 (by omega)
          have hy94 : y199.length = (x7_1 : Int).toNat := (by rw [Ny199.out, List.length_take]; omega)
          rw [← Ny199.out] at hr94
          rw [← hy94] at hcut94
          have HR202 := Aside0.mk hr94
          have HC202 := Aside0.mk (show y199.length ≤ c0_0 from by omega)
          clear hr94 hC94 hroom94 hi094 hsz94; have KY94 := Aside0.mk hy94; clear hy94; replace q94 := eq_true q94
          have q95 : (x7_1 : Int) ≤ ((l0_0.length : Int) : Int) := of_decide_eq_true Cmp.d
          obtain ⟨i095, hi095, _, hsz95, _⟩ := info_parts info64
          have hroom95 : l0_0.length ≤ c0_0 := HC0_0.out
          have hC95 : Kd.C k64 _ A0_0 l0_0.length l0_0 := HR0_0.out
          have q095 : (0 : Int) ≤ (x7_1 : Int) := of_decide_eq_true Cmp.d
          have hcut95 := cut_from (P := Try.prog) 37 64 .i64 Try.underlying37 hi095 4 hsz95 A0_0 l0_0.length c0_0 x7_1 q095 q95
          have hr95 := Kd.C_drop (m := (x7_1 : Int).toNat) (c := c0_0) hC95 (by omega) hroom95
          obtain ⟨A95, hA95⟩ : ∃ A1, A1 = (if c0_0 = (x7_1 : Int).toNat then A0_0 else (A0_0 : Option Addr).map (·.add ((x7_1 : Int).toNat * 4))) := ⟨_, rfl⟩
          obtain ⟨c95, hc95⟩ : ∃ c1, c1 = c0_0 - (x7_1 : Int).toNat := ⟨_, rfl⟩
          have hy95 : y212.length = l0_0.length - (x7_1 : Int).toNat := (by rw [Ny212.out, List.length_drop] <;> omega)
          rw [show (l0_0).drop (x7_1 : Int).toNat = y212 from Ny212.out.symm] at hr95
          replace hr95 : Kd.C k64 _ A95 y212.length y212 := (by rw [hA95]; exact hr95)
          rw [← hy95, ← hA95, ← hc95] at hcut95
          have HR215 := Aside0.mk hr95
          have HC215 := Aside0.mk (show y212.length ≤ c95 from by rw [hy95, hc95]; exact Nat.sub_le_sub_right hroom95 _)
          clear hr95 hC95 hroom95 hi095 hsz95 hc95; have KY95 := Aside0.mk hy95; have KA95 := Aside0.mk hA95; clear hy95 hA95; replace q95 := eq_true q95
          refine start_ (n := 16) (S := fun w' => w'.cell? ⟨gb162, 0, none⟩ = some (.slice A0_0 l0_0.length c0_0) ∧ w'.cell? ⟨gb163, 0, none⟩ = some (.int .i64 a1_0) ∧ w'.cell? ⟨gb163, 1, none⟩ = some (.int .i64 a1_1) ∧ w'.cell? ⟨gb163, 2, none⟩ = some (.int .i64 a1_2) ∧ w'.cell? ⟨gb163, 3, none⟩ = some (.bool a1_3)) (ds := []) (Cmp.bm 0 16) (by kernel_rfl) rfl rfl ⟨(blk_cell BK162.out 0).trans rfl, (blk_cell BK163.out 0).trans rfl, (blk_cell BK163.out 1).trans rfl, (blk_cell BK163.out 2).trans rfl, (blk_cell BK163.out 3).trans rfl⟩ (fun hHeld => ?_); refine with_tabW spec_l17Set.tab9 spec_l17Set.bits9 (fun HT_ HW_ => ?_)
          generalize w92.drew = w93 at HO_169000 BK162 BK163 BK164 BK168 HB HR202 HR215 hHeld ⊢
          refine Cmp.pu HT_ 1 44 (Cmp.bb 16 2) ?_; refine Cmp.pu HT_ 3 46 (Cmp.bb 16 10) ?_; refine Cmp.pu HT_ 9 52 (Cmp.bb 16 522) ?_; refine Cmp.pu HT_ 11 54 (Cmp.bb 16 2570) ?_; refine Cmp.tk HT_ HW_ hHeld 2 45 (Cmp.bb 16 2574) ?_; refine Cmp.pu HT_ 4 47 (Cmp.bb 16 2590) ?_; refine Cmp.tk HT_ HW_ hHeld 6 49 (Cmp.bb 16 2654) ?_; refine Cmp.tk HT_ HW_ hHeld 10 53 (Cmp.bb 16 3678) ?_; refine Cmp.pu HT_ 12 55 (Cmp.bb 16 7774) ?_
          refine join_ (σ := Value × Value × Value) 4 (Cmp.bb 16 7935) (fun s_ => [(43, s_.1), (48, s_.2.1), (50, s_.2.2)]) (fun s_ w' => (w'.cell? ⟨gb162, 0, none⟩ = some (.slice A0_0 l0_0.length c0_0) ∧ w'.cell? ⟨gb163, 0, none⟩ = some (.int .i64 a1_0) ∧ w'.cell? ⟨gb163, 1, none⟩ = some (.int .i64 a1_1) ∧ w'.cell? ⟨gb163, 2, none⟩ = some (.int .i64 a1_2) ∧ w'.cell? ⟨gb163, 3, none⟩ = some (.bool a1_3)) ∧ (Kd.R k64 64 w' w.heap.size (fun k_ => some k_ ≠ (s_.2.2 : Value).ownBlock ∧ some k_ ≠ (.slice Ao40 t165.length co40 : Value).ownBlock ∧ k_ ≠ gb163) s_.2.1 y203) ∧ (Kd.R k64 64 w' w.heap.size (fun k_ => some k_ ≠ (s_.2.1 : Value).ownBlock ∧ some k_ ≠ (.slice Ao40 t165.length co40 : Value).ownBlock ∧ k_ ≠ gb163) s_.2.2 y206) ∧ (Kd.R k64 64 w' w.heap.size (fun k_ => some k_ ≠ (s_.2.1 : Value).ownBlock ∧ some k_ ≠ (s_.2.2 : Value).ownBlock ∧ k_ ≠ gb163) (.slice Ao40 t165.length co40) t165) ∧ (w'.heap[gb162]? = some (.cells #[.slice A0_0 l0_0.length c0_0] 39 (0, 0))) ∧ (w'.heap[gb163]? = some (.cells #[.int .i64 a1_0, .int .i64 a1_1, .int .i64 a1_2, .bool a1_3] 64 (0, 0))) ∧ (w'.heap[gb164]? = some (.cells #[.slice none 0 0] 39 (0, 0))) ∧ (w'.heap[gb168]? = some (.cells #[.slice Ao40 t165.length co40] 39 (0, 0))) ∧ (Below w.heap.size w w')) ?_ ?_
          rotate_left
          ·intro hCont
           refine two_ (i := 0) (j := 7) (Ni := some 43) (Nj := some 50) (Cmp.bb 16 7775) (Cmp.bb 16 7902) rfl rfl rfl rfl (two_of HT_.out (by kernel_rfl)) (by decide) (by decide) (fun K hK => ?_) (fun K hK => ?_)
           ·skip
            refine Kd.R_lit_step k64 _ 64 ?hg (N := 43) ?hd (xs := ([] : List (S64))) (inner := []) (ok := fun _ => True) (okp := fun _ => True) ?hr ?hp (fun _ hk => hk) trivial (Below.refl _ _) (Nat.le_refl _) (by simp) ?_; (case hd => rfl); (case hg => rfl); (case hr => first | (go_simp; done) | (go_simp; rfl)); (case hp => exact (Reps.none _ _))
            intro v197 w96 ho97 hb hg_ hnew_
            clear hg_ hnew_
            (first | rw [← Ny196.out] at ho97 | (simp only [Int.reduceToNat] at ho97; rw [← Ny196.out] at ho97))
            have n0_ := Aside0.mk (Kd.R_elder' (Cmp.rr HO_169000.out) (Kd.R_base ho97) hb)
            have n1_ := Aside0.mk (Kd.R_lower (Kd.R_newB (Kd.R_new' ho97 (Kd.R_lt (Cmp.rr HO_169000.out))) (g := gb163) (o := .cells #[.int .i64 a1_0, .int .i64 a1_1, .int .i64 a1_2, .bool a1_3] 64 (0, 0)) (Cmp.b BK163.out)) (below_size (Cmp.g HB.out)))
            have n2_ := Aside0.mk (blk_below (g := gb162) (o := .cells #[.slice A0_0 l0_0.length c0_0] 39 (0, 0)) (Cmp.b BK162.out) hb)
            have n3_ := Aside0.mk (blk_below (g := gb163) (o := .cells #[.int .i64 a1_0, .int .i64 a1_1, .int .i64 a1_2, .bool a1_3] 64 (0, 0)) (Cmp.b BK163.out) hb)
            have n4_ := Aside0.mk (blk_below (g := gb164) (o := .cells #[.slice none 0 0] 39 (0, 0)) (Cmp.b BK164.out) hb)
            have n5_ := Aside0.mk (blk_below (g := gb168) (o := .cells #[.slice Ao40 t165.length co40] 39 (0, 0)) (Cmp.b BK168.out) hb)
            have n6_ := Aside0.mk (below_step (Cmp.g HB.out) hb)
            clear HO_169000; clear BK162; clear BK163; clear BK164; clear BK168; clear HB; have HO_169000 := n0_; have HO198 := n1_; have BK162 := n2_; have BK163 := n3_; have BK164 := n4_; have BK168 := n5_; have HB := n6_; clear n0_ n1_ n2_ n3_ n4_ n5_ n6_; clear hb ho97
            refine hK.out _ _ ⟨(blk_cell BK162.out 0).trans rfl, (blk_cell BK163.out 0).trans rfl, (blk_cell BK163.out 1).trans rfl, (blk_cell BK163.out 2).trans rfl, (blk_cell BK163.out 3).trans rfl⟩ (fun hHeld => ?_)
            clear hK K
            refine norm_ (a' := ?_) ?_ ?_
            rotate_left
            ·show Act.put _ (some 43) _ = _
             simp only [Act.put, Cmp.s, Cmp.z, Cmp.c, i64_w, i32_w]; rfl
            refine two_ (i := 5) (j := 7) (Ni := some 48) (Nj := some 50) (Cmp.bb 16 7807) (Cmp.bb 16 7903) rfl rfl rfl rfl (two_of HT_.out (by kernel_rfl)) (by decide) (by decide) (fun K hK => ?_) (fun K hK => ?_)
            ·skip
             refine Kd.R_append_rows_step k64 (w0 := w) w.heap.size (by rfl) (.tmp 43) (.tmp 47) 37 64 (.agg #[(.int .i64 0), (.int .i64 0), (.int .i64 0), (.bool false)]) 32 rfl Try.underlying37 info64 rfl (by decide) (by omega) v197 y196 y199 _ _ _ (fun k_ => some k_ ≠ (.slice Ao40 t165.length co40 : Value).ownBlock ∧ k_ ≠ gb163) (fun _ => False) rfl rfl ?aO ?aR (fun _ _ h => h) (fun _ h => h.elim) ?aF ?aB ?aS ?aL ?_
             (case aR => repeat (first | exact (Kd.C_below HR202.out HB.out) | (with_reducible refine Kd.C_alloc ?_ _) | (with_reducible refine Kd.C_drewN ?_ _) | (with_reducible refine Kd.C_drew ?_)))
             (case aB => exact (Cmp.g HB.out))
             (case aF => exact (fun k_ hk => ⟨Kd.fresh' (Kd.R_lt (Cmp.rr HO_169000.out)) k_ hk, Kd.freshB (g := gb163) (o := .cells #[.int .i64 a1_0, .int .i64 a1_1, .int .i64 a1_2, .bool a1_3] 64 (0, 0)) (Cmp.b BK163.out) k_ hk⟩))
             (case aO => exact (by (with_reducible repeat (first | apply Kd.R_alloc | apply Kd.R_drewN | apply Kd.R_drew)); exact Kd.R_mono HO198.out (fun _ hk => ⟨hk.1.2, hk.2⟩)))
             (case aS => exact (below_size (Cmp.g HB.out)))
             (case aL => have := LMc87.out; omega)
             intro v204 w98 ho hb hg hat
             rw [← Ny203.out] at ho
             have n0_ := Aside0.mk (Kd.R_after (ok := (fun k_ => k_ ≠ gb163)) (Cmp.rr HO_169000.out) hg hat)
             have n1_ := Aside0.mk (blk_grown (g := gb162) (o := .cells #[.slice A0_0 l0_0.length c0_0] 39 (0, 0)) (Cmp.b BK162.out) hg (Kd.R_ne HO198.out BK162.out (by decide)))
             have n2_ := Aside0.mk (blk_grown (g := gb163) (o := .cells #[.int .i64 a1_0, .int .i64 a1_1, .int .i64 a1_2, .bool a1_3] 64 (0, 0)) (Cmp.b BK163.out) hg (Kd.R_away HO198.out (fun _ hk => hk.2)))
             have n3_ := Aside0.mk (blk_grown (g := gb164) (o := .cells #[.slice none 0 0] 39 (0, 0)) (Cmp.b BK164.out) hg (Kd.R_ne HO198.out BK164.out (by decide)))
             have n4_ := Aside0.mk (blk_grown (g := gb168) (o := .cells #[.slice Ao40 t165.length co40] 39 (0, 0)) (Cmp.b BK168.out) hg (Kd.R_ne HO198.out BK168.out (by decide)))
             have n5_ := Aside0.mk (hb)
             have n6_ := Aside0.mk (ho)
             clear HO_169000; clear BK162; clear BK163; clear BK164; clear BK168; clear HB; clear HO198; have HO_169000 := n0_; have BK162 := n1_; have BK163 := n2_; have BK164 := n3_; have BK168 := n4_; have HB := n5_; have HO205 := n6_; clear n0_ n1_ n2_ n3_ n4_ n5_ n6_; clear ho hb hg hat
             refine hK.out _ _ ⟨(blk_cell BK162.out 0).trans rfl, (blk_cell BK163.out 0).trans rfl, (blk_cell BK163.out 1).trans rfl, (blk_cell BK163.out 2).trans rfl, (blk_cell BK163.out 3).trans rfl⟩ (fun hHeld => ?_)
             clear hK K
             refine norm_ (a' := ?_) ?_ ?_
             rotate_left
             ·show Act.put _ (some 48) _ = _
              simp only [Act.put, Cmp.s, Cmp.z, Cmp.c, i64_w, i32_w]; rfl
             refine one_ (i := 7) (N := some 50) (Cmp.bb 16 7935) rfl rfl (one_of HT_.out (by kernel_rfl)) (by decide) (fun K hK => ?_)
             refine Kd.R_lit_step k64 _ 64 ?hg (N := 50) ?hd (xs := ([(⟨a1_0, a1_1, a1_2, a1_3⟩ : S64)] : List (S64))) (inner := [.int .i64 a1_0, .int .i64 a1_1, .int .i64 a1_2, .bool a1_3]) (ok := fun _ => True) (okp := fun _ => True) ?hr ?hp (fun _ hk => hk) trivial (Below.refl _ _) (Nat.le_refl _) (by simp) ?_; (case hd => rfl); (case hg => rfl); (case hr => first | (go_simp; done) | (go_simp; rfl)); (case hp => exact (Reps.c4 (show Kd.M k64 _ _ _ (⟨a1_0, a1_1, a1_2, a1_3⟩ : S64) [.int .i64 a1_0, .int .i64 a1_1, .int .i64 a1_2, .bool a1_3] from (k64_mkM _ _ _ (⟨a1_0, a1_1, a1_2, a1_3⟩ : S64) )) (Reps.none _ _)))
             intro v207 w99 ho100 hb hg_ hnew_
             clear hg_ hnew_
             (first | rw [← Ny206.out] at ho100 | (simp only [Int.reduceToNat] at ho100; rw [← Ny206.out] at ho100))
             have n0_ := Aside0.mk (Kd.R_elder' (Cmp.rr HO_169000.out) (Kd.R_base ho100) hb)
             have n1_ := Aside0.mk (Kd.R_elder' (Cmp.rr HO205.out) (Kd.R_base ho100) hb)
             have n2_ := Aside0.mk (Kd.R_lower (Kd.R_newB (Kd.R_new' (Kd.R_new' ho100 (Kd.R_lt (Cmp.rr HO_169000.out))) (Kd.R_lt (Cmp.rr HO205.out))) (g := gb163) (o := .cells #[.int .i64 a1_0, .int .i64 a1_1, .int .i64 a1_2, .bool a1_3] 64 (0, 0)) (Cmp.b BK163.out)) (below_size (Cmp.g HB.out)))
             have n3_ := Aside0.mk (blk_below (g := gb162) (o := .cells #[.slice A0_0 l0_0.length c0_0] 39 (0, 0)) (Cmp.b BK162.out) hb)
             have n4_ := Aside0.mk (blk_below (g := gb163) (o := .cells #[.int .i64 a1_0, .int .i64 a1_1, .int .i64 a1_2, .bool a1_3] 64 (0, 0)) (Cmp.b BK163.out) hb)
             have n5_ := Aside0.mk (blk_below (g := gb164) (o := .cells #[.slice none 0 0] 39 (0, 0)) (Cmp.b BK164.out) hb)
             have n6_ := Aside0.mk (blk_below (g := gb168) (o := .cells #[.slice Ao40 t165.length co40] 39 (0, 0)) (Cmp.b BK168.out) hb)
             have n7_ := Aside0.mk (below_step (Cmp.g HB.out) hb)
             clear HO_169000; clear HO205; clear BK162; clear BK163; clear BK164; clear BK168; clear HB; have HO_169000 := n0_; have HO205 := n1_; have HO208 := n2_; have BK162 := n3_; have BK163 := n4_; have BK164 := n5_; have BK168 := n6_; have HB := n7_; clear n0_ n1_ n2_ n3_ n4_ n5_ n6_ n7_; clear hb ho100
             refine hK.out _ _ ⟨(blk_cell BK162.out 0).trans rfl, (blk_cell BK163.out 0).trans rfl, (blk_cell BK163.out 1).trans rfl, (blk_cell BK163.out 2).trans rfl, (blk_cell BK163.out 3).trans rfl⟩ (fun hHeld => ?_)
             clear hK K
             refine norm_ (a' := ?_) ?_ ?_
             rotate_left
             ·show Act.put _ (some 50) _ = _
              simp only [Act.put, Cmp.s, Cmp.z, Cmp.c, i64_w, i32_w]; rfl
             exact norm_ (by simp only [putAll, Act.put, List.setIfInBounds_toArray, List.set_cons_zero, List.set_cons_succ]) (hCont (v197, v204, v207) _ ⟨hHeld, (by (with_reducible repeat (first | apply Kd.R_alloc | apply Kd.R_drewN | apply Kd.R_drew)); exact Kd.R_mono HO205.out (fun _ hk => ⟨hk.2, ⟨hk.1.1, hk.1.2⟩⟩)), (by (with_reducible repeat (first | apply Kd.R_alloc | apply Kd.R_drewN | apply Kd.R_drew)); exact Kd.R_mono HO208.out (fun _ hk => ⟨hk.1.2, ⟨hk.1.1.2, hk.2⟩⟩)), (by (with_reducible repeat (first | apply Kd.R_alloc | apply Kd.R_drewN | apply Kd.R_drew)); exact Kd.R_mono HO_169000.out (fun _ hk => ⟨hk.1.2, ⟨hk.2, hk.1.1⟩⟩)), (Cmp.b BK162.out), (Cmp.b BK163.out), (Cmp.b BK164.out), (Cmp.b BK168.out), (Cmp.g HB.out)⟩)
            ·skip
             refine Kd.R_lit_step k64 _ 64 ?hg (N := 50) ?hd (xs := ([(⟨a1_0, a1_1, a1_2, a1_3⟩ : S64)] : List (S64))) (inner := [.int .i64 a1_0, .int .i64 a1_1, .int .i64 a1_2, .bool a1_3]) (ok := fun _ => True) (okp := fun _ => True) ?hr ?hp (fun _ hk => hk) trivial (Below.refl _ _) (Nat.le_refl _) (by simp) ?_; (case hd => rfl); (case hg => rfl); (case hr => first | (go_simp; done) | (go_simp; rfl)); (case hp => exact (Reps.c4 (show Kd.M k64 _ _ _ (⟨a1_0, a1_1, a1_2, a1_3⟩ : S64) [.int .i64 a1_0, .int .i64 a1_1, .int .i64 a1_2, .bool a1_3] from (k64_mkM _ _ _ (⟨a1_0, a1_1, a1_2, a1_3⟩ : S64) )) (Reps.none _ _)))
             intro v207 w98 ho99 hb hg_ hnew_
             clear hg_ hnew_
             (first | rw [← Ny206.out] at ho99 | (simp only [Int.reduceToNat] at ho99; rw [← Ny206.out] at ho99))
             have n0_ := Aside0.mk (Kd.R_elder' (Cmp.rr HO_169000.out) (Kd.R_base ho99) hb)
             have n1_ := Aside0.mk (Kd.R_elder' (Cmp.rr HO198.out) (Kd.R_base ho99) hb)
             have n2_ := Aside0.mk (Kd.R_lower (Kd.R_newB (Kd.R_new' (Kd.R_new' ho99 (Kd.R_lt (Cmp.rr HO_169000.out))) (Kd.R_lt (Cmp.rr HO198.out))) (g := gb163) (o := .cells #[.int .i64 a1_0, .int .i64 a1_1, .int .i64 a1_2, .bool a1_3] 64 (0, 0)) (Cmp.b BK163.out)) (below_size (Cmp.g HB.out)))
             have n3_ := Aside0.mk (blk_below (g := gb162) (o := .cells #[.slice A0_0 l0_0.length c0_0] 39 (0, 0)) (Cmp.b BK162.out) hb)
             have n4_ := Aside0.mk (blk_below (g := gb163) (o := .cells #[.int .i64 a1_0, .int .i64 a1_1, .int .i64 a1_2, .bool a1_3] 64 (0, 0)) (Cmp.b BK163.out) hb)
             have n5_ := Aside0.mk (blk_below (g := gb164) (o := .cells #[.slice none 0 0] 39 (0, 0)) (Cmp.b BK164.out) hb)
             have n6_ := Aside0.mk (blk_below (g := gb168) (o := .cells #[.slice Ao40 t165.length co40] 39 (0, 0)) (Cmp.b BK168.out) hb)
             have n7_ := Aside0.mk (below_step (Cmp.g HB.out) hb)
             clear HO_169000; clear HO198; clear BK162; clear BK163; clear BK164; clear BK168; clear HB; have HO_169000 := n0_; have HO198 := n1_; have HO208 := n2_; have BK162 := n3_; have BK163 := n4_; have BK164 := n5_; have BK168 := n6_; have HB := n7_; clear n0_ n1_ n2_ n3_ n4_ n5_ n6_ n7_; clear hb ho99
             refine hK.out _ _ ⟨(blk_cell BK162.out 0).trans rfl, (blk_cell BK163.out 0).trans rfl, (blk_cell BK163.out 1).trans rfl, (blk_cell BK163.out 2).trans rfl, (blk_cell BK163.out 3).trans rfl⟩ (fun hHeld => ?_)
             clear hK K
             refine norm_ (a' := ?_) ?_ ?_
             rotate_left
             ·show Act.put _ (some 50) _ = _
              simp only [Act.put, Cmp.s, Cmp.z, Cmp.c, i64_w, i32_w]; rfl
             refine one_ (i := 5) (N := some 48) (Cmp.bb 16 7935) rfl rfl (one_of HT_.out (by kernel_rfl)) (by decide) (fun K hK => ?_)
             refine Kd.R_append_rows_step k64 (w0 := w) w.heap.size (by rfl) (.tmp 43) (.tmp 47) 37 64 (.agg #[(.int .i64 0), (.int .i64 0), (.int .i64 0), (.bool false)]) 32 rfl Try.underlying37 info64 rfl (by decide) (by omega) v197 y196 y199 _ _ _ (fun k_ => some k_ ≠ (.slice Ao40 t165.length co40 : Value).ownBlock ∧ some k_ ≠ (v207 : Value).ownBlock ∧ k_ ≠ gb163) (fun _ => False) rfl rfl ?aO ?aR (fun _ _ h => h) (fun _ h => h.elim) ?aF ?aB ?aS ?aL ?_
             (case aR => repeat (first | exact (Kd.C_below HR202.out HB.out) | (with_reducible refine Kd.C_alloc ?_ _) | (with_reducible refine Kd.C_drewN ?_ _) | (with_reducible refine Kd.C_drew ?_)))
             (case aB => exact (Cmp.g HB.out))
             (case aF => exact (fun k_ hk => ⟨Kd.fresh' (Kd.R_lt (Cmp.rr HO_169000.out)) k_ hk, Kd.fresh' (Kd.R_lt (Cmp.rr HO208.out)) k_ hk, Kd.freshB (g := gb163) (o := .cells #[.int .i64 a1_0, .int .i64 a1_1, .int .i64 a1_2, .bool a1_3] 64 (0, 0)) (Cmp.b BK163.out) k_ hk⟩))
             (case aO => exact (by (with_reducible repeat (first | apply Kd.R_alloc | apply Kd.R_drewN | apply Kd.R_drew)); exact Kd.R_mono HO198.out (fun _ hk => ⟨hk.1.1.2, ⟨hk.2, hk.1.2⟩⟩)))
             (case aS => exact (below_size (Cmp.g HB.out)))
             (case aL => have := LMc87.out; omega)
             intro v204 w100 ho hb hg hat
             rw [← Ny203.out] at ho
             have n0_ := Aside0.mk (Kd.R_after (ok := (fun k_ => some k_ ≠ (v207 : Value).ownBlock ∧ k_ ≠ gb163)) (by (with_reducible repeat (first | apply Kd.R_alloc | apply Kd.R_drewN | apply Kd.R_drew)); exact Kd.R_mono HO_169000.out (fun _ hk => ⟨⟨hk.2, hk.1.1⟩, hk.1.2⟩)) hg hat)
             have n1_ := Aside0.mk (blk_grown (g := gb162) (o := .cells #[.slice A0_0 l0_0.length c0_0] 39 (0, 0)) (Cmp.b BK162.out) hg (Kd.R_ne HO198.out BK162.out (by decide)))
             have n2_ := Aside0.mk (blk_grown (g := gb163) (o := .cells #[.int .i64 a1_0, .int .i64 a1_1, .int .i64 a1_2, .bool a1_3] 64 (0, 0)) (Cmp.b BK163.out) hg (Kd.R_away HO198.out (fun _ hk => hk.1.2)))
             have n3_ := Aside0.mk (blk_grown (g := gb164) (o := .cells #[.slice none 0 0] 39 (0, 0)) (Cmp.b BK164.out) hg (Kd.R_ne HO198.out BK164.out (by decide)))
             have n4_ := Aside0.mk (blk_grown (g := gb168) (o := .cells #[.slice Ao40 t165.length co40] 39 (0, 0)) (Cmp.b BK168.out) hg (Kd.R_ne HO198.out BK168.out (by decide)))
             have n5_ := Aside0.mk (Kd.R_after (ok := (fun k_ => some k_ ≠ (.slice Ao40 t165.length co40 : Value).ownBlock ∧ k_ ≠ gb163)) (by (with_reducible repeat (first | apply Kd.R_alloc | apply Kd.R_drewN | apply Kd.R_drew)); exact Kd.R_mono HO208.out (fun _ hk => ⟨⟨hk.1.1.2, hk.2⟩, hk.1.2⟩)) hg hat)
             have n6_ := Aside0.mk (hb)
             have n7_ := Aside0.mk (ho)
             clear HO_169000; clear BK162; clear BK163; clear BK164; clear BK168; clear HO208; clear HB; clear HO198; have HO_169000 := n0_; have BK162 := n1_; have BK163 := n2_; have BK164 := n3_; have BK168 := n4_; have HO208 := n5_; have HB := n6_; have HO205 := n7_; clear n0_ n1_ n2_ n3_ n4_ n5_ n6_ n7_; clear ho hb hg hat
             refine hK.out _ _ ⟨(blk_cell BK162.out 0).trans rfl, (blk_cell BK163.out 0).trans rfl, (blk_cell BK163.out 1).trans rfl, (blk_cell BK163.out 2).trans rfl, (blk_cell BK163.out 3).trans rfl⟩ (fun hHeld => ?_)
             clear hK K
             refine norm_ (a' := ?_) ?_ ?_
             rotate_left
             ·show Act.put _ (some 48) _ = _
              simp only [Act.put, Cmp.s, Cmp.z, Cmp.c, i64_w, i32_w]; rfl
             exact norm_ (by simp only [putAll, Act.put, List.setIfInBounds_toArray, List.set_cons_zero, List.set_cons_succ]) (hCont (v197, v204, v207) _ ⟨hHeld, (by (with_reducible repeat (first | apply Kd.R_alloc | apply Kd.R_drewN | apply Kd.R_drew)); exact Kd.R_mono HO205.out (fun _ hk => ⟨hk.2.1, ⟨hk.1, hk.2.2⟩⟩)), (by (with_reducible repeat (first | apply Kd.R_alloc | apply Kd.R_drewN | apply Kd.R_drew)); exact Kd.R_mono HO208.out (fun _ hk => ⟨hk.2, ⟨hk.1.1, hk.1.2⟩⟩)), (by (with_reducible repeat (first | apply Kd.R_alloc | apply Kd.R_drewN | apply Kd.R_drew)); exact Kd.R_mono HO_169000.out (fun _ hk => ⟨hk.2, ⟨hk.1.1, hk.1.2⟩⟩)), (Cmp.b BK162.out), (Cmp.b BK163.out), (Cmp.b BK164.out), (Cmp.b BK168.out), (Cmp.g HB.out)⟩)
           ·skip
            refine Kd.R_lit_step k64 _ 64 ?hg (N := 50) ?hd (xs := ([(⟨a1_0, a1_1, a1_2, a1_3⟩ : S64)] : List (S64))) (inner := [.int .i64 a1_0, .int .i64 a1_1, .int .i64 a1_2, .bool a1_3]) (ok := fun _ => True) (okp := fun _ => True) ?hr ?hp (fun _ hk => hk) trivial (Below.refl _ _) (Nat.le_refl _) (by simp) ?_; (case hd => rfl); (case hg => rfl); (case hr => first | (go_simp; done) | (go_simp; rfl)); (case hp => exact (Reps.c4 (show Kd.M k64 _ _ _ (⟨a1_0, a1_1, a1_2, a1_3⟩ : S64) [.int .i64 a1_0, .int .i64 a1_1, .int .i64 a1_2, .bool a1_3] from (k64_mkM _ _ _ (⟨a1_0, a1_1, a1_2, a1_3⟩ : S64) )) (Reps.none _ _)))
            intro v207 w96 ho97 hb hg_ hnew_
            clear hg_ hnew_
            (first | rw [← Ny206.out] at ho97 | (simp only [Int.reduceToNat] at ho97; rw [← Ny206.out] at ho97))
            have n0_ := Aside0.mk (Kd.R_elder' (Cmp.rr HO_169000.out) (Kd.R_base ho97) hb)
            have n1_ := Aside0.mk (Kd.R_lower (Kd.R_newB (Kd.R_new' ho97 (Kd.R_lt (Cmp.rr HO_169000.out))) (g := gb163) (o := .cells #[.int .i64 a1_0, .int .i64 a1_1, .int .i64 a1_2, .bool a1_3] 64 (0, 0)) (Cmp.b BK163.out)) (below_size (Cmp.g HB.out)))
            have n2_ := Aside0.mk (blk_below (g := gb162) (o := .cells #[.slice A0_0 l0_0.length c0_0] 39 (0, 0)) (Cmp.b BK162.out) hb)
            have n3_ := Aside0.mk (blk_below (g := gb163) (o := .cells #[.int .i64 a1_0, .int .i64 a1_1, .int .i64 a1_2, .bool a1_3] 64 (0, 0)) (Cmp.b BK163.out) hb)
            have n4_ := Aside0.mk (blk_below (g := gb164) (o := .cells #[.slice none 0 0] 39 (0, 0)) (Cmp.b BK164.out) hb)
            have n5_ := Aside0.mk (blk_below (g := gb168) (o := .cells #[.slice Ao40 t165.length co40] 39 (0, 0)) (Cmp.b BK168.out) hb)
            have n6_ := Aside0.mk (below_step (Cmp.g HB.out) hb)
            clear HO_169000; clear BK162; clear BK163; clear BK164; clear BK168; clear HB; have HO_169000 := n0_; have HO208 := n1_; have BK162 := n2_; have BK163 := n3_; have BK164 := n4_; have BK168 := n5_; have HB := n6_; clear n0_ n1_ n2_ n3_ n4_ n5_ n6_; clear hb ho97
            refine hK.out _ _ ⟨(blk_cell BK162.out 0).trans rfl, (blk_cell BK163.out 0).trans rfl, (blk_cell BK163.out 1).trans rfl, (blk_cell BK163.out 2).trans rfl, (blk_cell BK163.out 3).trans rfl⟩ (fun hHeld => ?_)
            clear hK K
            refine norm_ (a' := ?_) ?_ ?_
            rotate_left
            ·show Act.put _ (some 50) _ = _
             simp only [Act.put, Cmp.s, Cmp.z, Cmp.c, i64_w, i32_w]; rfl
            refine one_ (i := 0) (N := some 43) (Cmp.bb 16 7903) rfl rfl (one_of HT_.out (by kernel_rfl)) (by decide) (fun K hK => ?_)
            refine Kd.R_lit_step k64 _ 64 ?hg (N := 43) ?hd (xs := ([] : List (S64))) (inner := []) (ok := fun _ => True) (okp := fun _ => True) ?hr ?hp (fun _ hk => hk) trivial (Below.refl _ _) (Nat.le_refl _) (by simp) ?_; (case hd => rfl); (case hg => rfl); (case hr => first | (go_simp; done) | (go_simp; rfl)); (case hp => exact (Reps.none _ _))
            intro v197 w98 ho99 hb hg_ hnew_
            clear hg_ hnew_
            (first | rw [← Ny196.out] at ho99 | (simp only [Int.reduceToNat] at ho99; rw [← Ny196.out] at ho99))
            have n0_ := Aside0.mk (Kd.R_elder' (Cmp.rr HO_169000.out) (Kd.R_base ho99) hb)
            have n1_ := Aside0.mk (Kd.R_elder' (Cmp.rr HO208.out) (Kd.R_base ho99) hb)
            have n2_ := Aside0.mk (Kd.R_lower (Kd.R_newB (Kd.R_new' (Kd.R_new' ho99 (Kd.R_lt (Cmp.rr HO_169000.out))) (Kd.R_lt (Cmp.rr HO208.out))) (g := gb163) (o := .cells #[.int .i64 a1_0, .int .i64 a1_1, .int .i64 a1_2, .bool a1_3] 64 (0, 0)) (Cmp.b BK163.out)) (below_size (Cmp.g HB.out)))
            have n3_ := Aside0.mk (blk_below (g := gb162) (o := .cells #[.slice A0_0 l0_0.length c0_0] 39 (0, 0)) (Cmp.b BK162.out) hb)
            have n4_ := Aside0.mk (blk_below (g := gb163) (o := .cells #[.int .i64 a1_0, .int .i64 a1_1, .int .i64 a1_2, .bool a1_3] 64 (0, 0)) (Cmp.b BK163.out) hb)
            have n5_ := Aside0.mk (blk_below (g := gb164) (o := .cells #[.slice none 0 0] 39 (0, 0)) (Cmp.b BK164.out) hb)
            have n6_ := Aside0.mk (blk_below (g := gb168) (o := .cells #[.slice Ao40 t165.length co40] 39 (0, 0)) (Cmp.b BK168.out) hb)
            have n7_ := Aside0.mk (below_step (Cmp.g HB.out) hb)
            clear HO_169000; clear HO208; clear BK162; clear BK163; clear BK164; clear BK168; clear HB; have HO_169000 := n0_; have HO208 := n1_; have HO198 := n2_; have BK162 := n3_; have BK163 := n4_; have BK164 := n5_; have BK168 := n6_; have HB := n7_; clear n0_ n1_ n2_ n3_ n4_ n5_ n6_ n7_; clear hb ho99
            refine hK.out _ _ ⟨(blk_cell BK162.out 0).trans rfl, (blk_cell BK163.out 0).trans rfl, (blk_cell BK163.out 1).trans rfl, (blk_cell BK163.out 2).trans rfl, (blk_cell BK163.out 3).trans rfl⟩ (fun hHeld => ?_)
            clear hK K
            refine norm_ (a' := ?_) ?_ ?_
            rotate_left
            ·show Act.put _ (some 43) _ = _
             simp only [Act.put, Cmp.s, Cmp.z, Cmp.c, i64_w, i32_w]; rfl
            refine one_ (i := 5) (N := some 48) (Cmp.bb 16 7935) rfl rfl (one_of HT_.out (by kernel_rfl)) (by decide) (fun K hK => ?_)
            refine Kd.R_append_rows_step k64 (w0 := w) w.heap.size (by rfl) (.tmp 43) (.tmp 47) 37 64 (.agg #[(.int .i64 0), (.int .i64 0), (.int .i64 0), (.bool false)]) 32 rfl Try.underlying37 info64 rfl (by decide) (by omega) v197 y196 y199 _ _ _ (fun k_ => some k_ ≠ (.slice Ao40 t165.length co40 : Value).ownBlock ∧ some k_ ≠ (v207 : Value).ownBlock ∧ k_ ≠ gb163) (fun _ => False) rfl rfl ?aO ?aR (fun _ _ h => h) (fun _ h => h.elim) ?aF ?aB ?aS ?aL ?_
            (case aR => repeat (first | exact (Kd.C_below HR202.out HB.out) | (with_reducible refine Kd.C_alloc ?_ _) | (with_reducible refine Kd.C_drewN ?_ _) | (with_reducible refine Kd.C_drew ?_)))
            (case aB => exact (Cmp.g HB.out))
            (case aF => exact (fun k_ hk => ⟨Kd.fresh' (Kd.R_lt (Cmp.rr HO_169000.out)) k_ hk, Kd.fresh' (Kd.R_lt (Cmp.rr HO208.out)) k_ hk, Kd.freshB (g := gb163) (o := .cells #[.int .i64 a1_0, .int .i64 a1_1, .int .i64 a1_2, .bool a1_3] 64 (0, 0)) (Cmp.b BK163.out) k_ hk⟩))
            (case aO => exact (by (with_reducible repeat (first | apply Kd.R_alloc | apply Kd.R_drewN | apply Kd.R_drew)); exact Kd.R_mono HO198.out (fun _ hk => ⟨hk.1.1.2, ⟨hk.1.2, hk.2⟩⟩)))
            (case aS => exact (below_size (Cmp.g HB.out)))
            (case aL => have := LMc87.out; omega)
            intro v204 w100 ho hb hg hat
            rw [← Ny203.out] at ho
            have n0_ := Aside0.mk (Kd.R_after (ok := (fun k_ => some k_ ≠ (v207 : Value).ownBlock ∧ k_ ≠ gb163)) (by (with_reducible repeat (first | apply Kd.R_alloc | apply Kd.R_drewN | apply Kd.R_drew)); exact Kd.R_mono HO_169000.out (fun _ hk => ⟨⟨hk.1.2, hk.1.1⟩, hk.2⟩)) hg hat)
            have n1_ := Aside0.mk (blk_grown (g := gb162) (o := .cells #[.slice A0_0 l0_0.length c0_0] 39 (0, 0)) (Cmp.b BK162.out) hg (Kd.R_ne HO198.out BK162.out (by decide)))
            have n2_ := Aside0.mk (blk_grown (g := gb163) (o := .cells #[.int .i64 a1_0, .int .i64 a1_1, .int .i64 a1_2, .bool a1_3] 64 (0, 0)) (Cmp.b BK163.out) hg (Kd.R_away HO198.out (fun _ hk => hk.2)))
            have n3_ := Aside0.mk (blk_grown (g := gb164) (o := .cells #[.slice none 0 0] 39 (0, 0)) (Cmp.b BK164.out) hg (Kd.R_ne HO198.out BK164.out (by decide)))
            have n4_ := Aside0.mk (blk_grown (g := gb168) (o := .cells #[.slice Ao40 t165.length co40] 39 (0, 0)) (Cmp.b BK168.out) hg (Kd.R_ne HO198.out BK168.out (by decide)))
            have n5_ := Aside0.mk (Kd.R_after (ok := (fun k_ => some k_ ≠ (.slice Ao40 t165.length co40 : Value).ownBlock ∧ k_ ≠ gb163)) (by (with_reducible repeat (first | apply Kd.R_alloc | apply Kd.R_drewN | apply Kd.R_drew)); exact Kd.R_mono HO208.out (fun _ hk => ⟨⟨hk.1.1.2, hk.1.2⟩, hk.2⟩)) hg hat)
            have n6_ := Aside0.mk (hb)
            have n7_ := Aside0.mk (ho)
            clear HO_169000; clear BK162; clear BK163; clear BK164; clear BK168; clear HO208; clear HB; clear HO198; have HO_169000 := n0_; have BK162 := n1_; have BK163 := n2_; have BK164 := n3_; have BK168 := n4_; have HO208 := n5_; have HB := n6_; have HO205 := n7_; clear n0_ n1_ n2_ n3_ n4_ n5_ n6_ n7_; clear ho hb hg hat
            refine hK.out _ _ ⟨(blk_cell BK162.out 0).trans rfl, (blk_cell BK163.out 0).trans rfl, (blk_cell BK163.out 1).trans rfl, (blk_cell BK163.out 2).trans rfl, (blk_cell BK163.out 3).trans rfl⟩ (fun hHeld => ?_)
            clear hK K
            refine norm_ (a' := ?_) ?_ ?_
            rotate_left
            ·show Act.put _ (some 48) _ = _
             simp only [Act.put, Cmp.s, Cmp.z, Cmp.c, i64_w, i32_w]; rfl
            exact norm_ (by simp only [putAll, Act.put, List.setIfInBounds_toArray, List.set_cons_zero, List.set_cons_succ]) (hCont (v197, v204, v207) _ ⟨hHeld, (by (with_reducible repeat (first | apply Kd.R_alloc | apply Kd.R_drewN | apply Kd.R_drew)); exact Kd.R_mono HO205.out (fun _ hk => ⟨hk.2.1, ⟨hk.1, hk.2.2⟩⟩)), (by (with_reducible repeat (first | apply Kd.R_alloc | apply Kd.R_drewN | apply Kd.R_drew)); exact Kd.R_mono HO208.out (fun _ hk => ⟨hk.2, ⟨hk.1.1, hk.1.2⟩⟩)), (by (with_reducible repeat (first | apply Kd.R_alloc | apply Kd.R_drewN | apply Kd.R_drew)); exact Kd.R_mono HO_169000.out (fun _ hk => ⟨hk.2, ⟨hk.1.1, hk.1.2⟩⟩)), (Cmp.b BK162.out), (Cmp.b BK163.out), (Cmp.b BK164.out), (Cmp.b BK168.out), (Cmp.g HB.out)⟩)
          rintro ⟨v197, v204, v207⟩ w101 ⟨hS_, h0_, h1_, h2_, h3_, h4_, h5_, h6_, h7_⟩
          have n0_ : Aside0 (Kd.R k64 64 w101 w.heap.size (fun k_ => some k_ ≠ (v207 : Value).ownBlock ∧ some k_ ≠ (.slice Ao40 t165.length co40 : Value).ownBlock ∧ k_ ≠ gb163) v204 y203) := ⟨h0_⟩
          have n1_ : Aside0 (Kd.R k64 64 w101 w.heap.size (fun k_ => some k_ ≠ (v204 : Value).ownBlock ∧ some k_ ≠ (.slice Ao40 t165.length co40 : Value).ownBlock ∧ k_ ≠ gb163) v207 y206) := ⟨h1_⟩
          have n2_ : Aside0 (Kd.R k64 64 w101 w.heap.size (fun k_ => some k_ ≠ (v204 : Value).ownBlock ∧ some k_ ≠ (v207 : Value).ownBlock ∧ k_ ≠ gb163) (.slice Ao40 t165.length co40) t165) := ⟨h2_⟩
          have n3_ : Aside0 (w101.heap[gb162]? = some (.cells #[.slice A0_0 l0_0.length c0_0] 39 (0, 0))) := ⟨h3_⟩
          have n4_ : Aside0 (w101.heap[gb163]? = some (.cells #[.int .i64 a1_0, .int .i64 a1_1, .int .i64 a1_2, .bool a1_3] 64 (0, 0))) := ⟨h4_⟩
          have n5_ : Aside0 (w101.heap[gb164]? = some (.cells #[.slice none 0 0] 39 (0, 0))) := ⟨h5_⟩
          have n6_ : Aside0 (w101.heap[gb168]? = some (.cells #[.slice Ao40 t165.length co40] 39 (0, 0))) := ⟨h6_⟩
          have n7_ : Aside0 (Below w.heap.size w w101) := ⟨h7_⟩
          clear HO_169000; clear BK162; clear BK163; clear BK164; clear BK168; clear HB; clear h0_ h1_ h2_ h3_ h4_ h5_ h6_ h7_; have HO205 := n0_; have HO208 := n1_; have HO_169000 := n2_; have BK162 := n3_; have BK163 := n4_; have BK164 := n5_; have BK168 := n6_; have HB := n7_; clear n0_ n1_ n2_ n3_ n4_ n5_ n6_ n7_
          have hHeld : w101.cell? ⟨gb162, 0, none⟩ = some (.slice A0_0 l0_0.length c0_0) ∧ w101.cell? ⟨gb163, 0, none⟩ = some (.int .i64 a1_0) ∧ w101.cell? ⟨gb163, 1, none⟩ = some (.int .i64 a1_1) ∧ w101.cell? ⟨gb163, 2, none⟩ = some (.int .i64 a1_2) ∧ w101.cell? ⟨gb163, 3, none⟩ = some (.bool a1_3) := hS_
          obtain ⟨Ao103, co103, eo103⟩ := Kd.R_slice HO208.out
          (first | subst eo103 | (injection eo103 with f1_ f2_ f3_; have f4_ := f1_.symm; have f5_ := f3_.symm; clear f1_ f2_ f3_; subst f4_; subst f5_))
          refine norm_ (a' := ?_) ?_ ?_
          rotate_left
          ·simp only [putAll, Act.put, List.setIfInBounds_toArray, List.set_cons_zero, List.set_cons_succ]; rfl
          refine one_ (i := 8) (N := some 51) (Cmp.bm 13 3) rfl rfl (one_of HT_.out (by kernel_rfl)) (by decide) (fun K hK => ?_)
          refine Kd.R_append_rows_step k64 (w0 := w) w.heap.size (by rfl) (.tmp 48) (.tmp 50) 37 64 (.agg #[(.int .i64 0), (.int .i64 0), (.int .i64 0), (.bool false)]) 32 rfl Try.underlying37 info64 rfl (by decide) (by omega) v204 y203 y206 _ _ _ (fun k_ => some k_ ≠ (.slice Ao40 t165.length co40 : Value).ownBlock ∧ some k_ ≠ (.slice Ao103 y206.length co103 : Value).ownBlock ∧ k_ ≠ gb163) (fun _ => False) rfl rfl ?aO ?aR (fun _ _ h => h) (fun _ h => h.elim) ?aF ?aB ?aS ?aL ?_
          (case aR => repeat (first | exact (Kd.R_reads' HO208.out).2.2 | (with_reducible refine Kd.C_alloc ?_ _) | (with_reducible refine Kd.C_drewN ?_ _) | (with_reducible refine Kd.C_drew ?_)))
          (case aB => exact (Cmp.g HB.out))
          (case aF => exact (fun k_ hk => ⟨Kd.fresh' (Kd.R_lt (Cmp.rr HO_169000.out)) k_ hk, Kd.fresh' (Kd.R_lt (Cmp.rr HO208.out)) k_ hk, Kd.freshB (g := gb163) (o := .cells #[.int .i64 a1_0, .int .i64 a1_1, .int .i64 a1_2, .bool a1_3] 64 (0, 0)) (Cmp.b BK163.out) k_ hk⟩))
          (case aO => exact (by (with_reducible repeat (first | apply Kd.R_alloc | apply Kd.R_drewN | apply Kd.R_drew)); exact Kd.R_mono HO205.out (fun _ hk => ⟨hk.2.1, ⟨hk.1, hk.2.2⟩⟩)))
          (case aS => exact (below_size (Cmp.g HB.out)))
          (case aL => have := LMc88.out; omega)
          intro v210 w102 ho hb hg hat
          rw [← Ny209.out] at ho
          have n0_ := Aside0.mk (Kd.R_after (ok := (fun k_ => some k_ ≠ (.slice Ao103 y206.length co103 : Value).ownBlock ∧ k_ ≠ gb163)) (by (with_reducible repeat (first | apply Kd.R_alloc | apply Kd.R_drewN | apply Kd.R_drew)); exact Kd.R_mono HO_169000.out (fun _ hk => ⟨⟨hk.2.1, hk.2.2⟩, hk.1⟩)) hg hat)
          have n1_ := Aside0.mk (blk_grown (g := gb162) (o := .cells #[.slice A0_0 l0_0.length c0_0] 39 (0, 0)) (Cmp.b BK162.out) hg (Kd.R_ne HO205.out BK162.out (by decide)))
          have n2_ := Aside0.mk (blk_grown (g := gb163) (o := .cells #[.int .i64 a1_0, .int .i64 a1_1, .int .i64 a1_2, .bool a1_3] 64 (0, 0)) (Cmp.b BK163.out) hg (Kd.R_away HO205.out (fun _ hk => hk.2.2)))
          have n3_ := Aside0.mk (blk_grown (g := gb164) (o := .cells #[.slice none 0 0] 39 (0, 0)) (Cmp.b BK164.out) hg (Kd.R_ne HO205.out BK164.out (by decide)))
          have n4_ := Aside0.mk (blk_grown (g := gb168) (o := .cells #[.slice Ao40 t165.length co40] 39 (0, 0)) (Cmp.b BK168.out) hg (Kd.R_ne HO205.out BK168.out (by decide)))
          have n5_ := Aside0.mk (Kd.R_after (ok := (fun k_ => some k_ ≠ (.slice Ao40 t165.length co40 : Value).ownBlock ∧ k_ ≠ gb163)) (by (with_reducible repeat (first | apply Kd.R_alloc | apply Kd.R_drewN | apply Kd.R_drew)); exact Kd.R_mono HO208.out (fun _ hk => ⟨⟨hk.2.1, hk.2.2⟩, hk.1⟩)) hg hat)
          have n6_ := Aside0.mk (hb)
          have n7_ := Aside0.mk (ho)
          clear HO_169000; clear BK162; clear BK163; clear BK164; clear BK168; clear HO208; clear HB; clear HO205; have HO_169000 := n0_; have BK162 := n1_; have BK163 := n2_; have BK164 := n3_; have BK168 := n4_; have HO208 := n5_; have HB := n6_; have HO211 := n7_; clear n0_ n1_ n2_ n3_ n4_ n5_ n6_ n7_; clear ho hb hg hat
          refine hK.out _ _ ⟨(blk_cell BK162.out 0).trans rfl, (blk_cell BK163.out 0).trans rfl, (blk_cell BK163.out 1).trans rfl, (blk_cell BK163.out 2).trans rfl, (blk_cell BK163.out 3).trans rfl⟩ (fun hHeld => ?_)
          clear hK K
          refine norm_ (a' := ?_) ?_ ?_
          rotate_left
          ·show Act.put _ (some 51) _ = _
           simp only [Act.put, Cmp.s, Cmp.z, Cmp.c, i64_w, i32_w]; rfl
          refine one_ (i := 13) (N := some 56) (Cmp.bm 14 2) rfl rfl (one_of HT_.out (by kernel_rfl)) (by decide) (fun K hK => ?_)
          refine Kd.R_append_rows_step k64 (w0 := w) w.heap.size (by rfl) (.tmp 51) (.tmp 55) 37 64 (.agg #[(.int .i64 0), (.int .i64 0), (.int .i64 0), (.bool false)]) 32 rfl Try.underlying37 info64 rfl (by decide) (by omega) v210 y209 y212 _ _ _ (fun k_ => some k_ ≠ (.slice Ao40 t165.length co40 : Value).ownBlock ∧ some k_ ≠ (.slice Ao103 y206.length co103 : Value).ownBlock ∧ k_ ≠ gb163) (fun _ => False) rfl rfl ?aO ?aR (fun _ _ h => h) (fun _ h => h.elim) ?aF ?aB ?aS ?aL ?_
          (case aR => repeat (first | exact (Kd.C_below HR215.out HB.out) | (with_reducible refine Kd.C_alloc ?_ _) | (with_reducible refine Kd.C_drewN ?_ _) | (with_reducible refine Kd.C_drew ?_)))
          (case aB => exact (Cmp.g HB.out))
          (case aF => exact (fun k_ hk => ⟨Kd.fresh' (Kd.R_lt (Cmp.rr HO_169000.out)) k_ hk, Kd.fresh' (Kd.R_lt (Cmp.rr HO208.out)) k_ hk, Kd.freshB (g := gb163) (o := .cells #[.int .i64 a1_0, .int .i64 a1_1, .int .i64 a1_2, .bool a1_3] 64 (0, 0)) (Cmp.b BK163.out) k_ hk⟩))
          (case aO => exact (Cmp.rr HO211.out))
          (case aS => exact (below_size (Cmp.g HB.out)))
          (case aL => have := LMc91.out; omega)
          intro v217 w104 ho hb hg hat
          rw [← Ny216.out] at ho
          have n0_ := Aside0.mk (Kd.R_after (ok := (fun k_ => some k_ ≠ (.slice Ao103 y206.length co103 : Value).ownBlock ∧ k_ ≠ gb163)) (Cmp.rr HO_169000.out) hg hat)
          have n1_ := Aside0.mk (blk_grown (g := gb162) (o := .cells #[.slice A0_0 l0_0.length c0_0] 39 (0, 0)) (Cmp.b BK162.out) hg (Kd.R_ne HO211.out BK162.out (by decide)))
          have n2_ := Aside0.mk (blk_grown (g := gb163) (o := .cells #[.int .i64 a1_0, .int .i64 a1_1, .int .i64 a1_2, .bool a1_3] 64 (0, 0)) (Cmp.b BK163.out) hg (Kd.R_away HO211.out (fun _ hk => hk.2.2)))
          have n3_ := Aside0.mk (blk_grown (g := gb164) (o := .cells #[.slice none 0 0] 39 (0, 0)) (Cmp.b BK164.out) hg (Kd.R_ne HO211.out BK164.out (by decide)))
          have n4_ := Aside0.mk (blk_grown (g := gb168) (o := .cells #[.slice Ao40 t165.length co40] 39 (0, 0)) (Cmp.b BK168.out) hg (Kd.R_ne HO211.out BK168.out (by decide)))
          have n5_ := Aside0.mk (Kd.R_after (ok := (fun k_ => some k_ ≠ (.slice Ao40 t165.length co40 : Value).ownBlock ∧ k_ ≠ gb163)) (Cmp.rr HO208.out) hg hat)
          have n6_ := Aside0.mk (hb)
          have n7_ := Aside0.mk (ho)
          clear HO_169000; clear BK162; clear BK163; clear BK164; clear BK168; clear HO208; clear HB; clear HO211; have HO_169000 := n0_; have BK162 := n1_; have BK163 := n2_; have BK164 := n3_; have BK168 := n4_; have HO208 := n5_; have HB := n6_; have HO218 := n7_; clear n0_ n1_ n2_ n3_ n4_ n5_ n6_ n7_; clear ho hb hg hat
          obtain ⟨Ao105, co105, eo105⟩ := Kd.R_slice HO218.out
          (first | subst eo105 | (injection eo105 with f1_ f2_ f3_; have f4_ := f1_.symm; have f5_ := f3_.symm; clear f1_ f2_ f3_; subst f4_; subst f5_))
          refine hK.out _ _ ⟨(blk_cell BK162.out 0).trans rfl, (blk_cell BK163.out 0).trans rfl, (blk_cell BK163.out 1).trans rfl, (blk_cell BK163.out 2).trans rfl, (blk_cell BK163.out 3).trans rfl⟩ (fun hHeld => ?_)
          clear hK K
          refine norm_ (a' := ?_) ?_ ?_
          rotate_left
          ·show Act.put _ (some 56) _ = _
           simp only [Act.put, Cmp.s, Cmp.z, Cmp.c, i64_w, i32_w]; rfl
          refine Cmp.pu HT_ 14 57 (Cmp.bm 15 1) ?_
          refine one_ (i := 15) (N := none) (Cmp.bm 16 0) rfl rfl (one_of HT_.out (by kernel_rfl)) (by decide) (fun K hK => ?_)
          have hs106 : w104.cell? ⟨gb168, 0, none⟩ = some (.slice Ao40 t165.length co40) := (blk_cell BK168.out 0).trans rfl
          have hfs106 := blk_frozen BK168.out 0; have hns106_0 := NB162_168.out; have hns106_1 := NB163_168.out; have hns106_2 := NB164_168.out; have hms106_0 := NB168_162.out; have hms106_1 := NB168_163.out; have hms106_2 := NB168_164.out
          refine skip_ (w1 := ?_) (by rfl) rfl ?_ ?_
          rotate_left
          ·go_simp; rfl
          refine hK.out _ _ ⟨((cell_far (p := ⟨gb168, _, none⟩) NB162_168.out _).trans (hHeld.1)), ((cell_far (p := ⟨gb168, _, none⟩) NB163_168.out _).trans (hHeld.2.1)), ((cell_far (p := ⟨gb168, _, none⟩) NB163_168.out _).trans (hHeld.2.2.1)), ((cell_far (p := ⟨gb168, _, none⟩) NB163_168.out _).trans (hHeld.2.2.2.1)), ((cell_far (p := ⟨gb168, _, none⟩) NB163_168.out _).trans (hHeld.2.2.2.2))⟩ (fun hHeld => ?_)
          clear hK K
          refine done_ (done_of HT_.out (by kernel_rfl)) ?_
          have hnb107 := NB168_162.out; have hnc107 := NB162_168.out; have hnb108 := NB168_163.out; have hnc108 := NB163_168.out; have hnb109 := NB168_164.out; have hnc109 := NB164_168.out
          have hcz110_0 : w104.cell? ⟨gb168, 0, none⟩ = some (.slice Ao40 t165.length co40) := (blk_cell BK168.out 0).trans rfl
          have hfz110_0 := blk_frozen BK168.out 0; have hnb111 := NB164_162.out; have hnc111 := NB162_164.out; have hnb112 := NB164_163.out; have hnc112 := NB163_164.out
          have hcz113_0 : w104.cell? ⟨gb164, 0, none⟩ = some (.slice none 0 0) := (blk_cell BK164.out 0).trans rfl
          have hfz113_0 := blk_frozen BK164.out 0
          try go_wp2
          refine bodyPost_ret (results_cell_row rfl _ _ gb164 39 #[.slice Ao105 y216.length co105] (0, 0) _ rfl (by (with_reducible repeat (first | refine blk_drewN ?_ _ | refine blk_drew ?_ | refine blk_alloc ?_ _)); refine blk_put (cs := #[.slice none 0 0]) ?_ 0 _ rfl; (with_reducible repeat (first | refine blk_drewN ?_ _ | refine blk_drew ?_ | refine blk_alloc ?_ _)); refine blk_far ?_ NB164_168.out _; (with_reducible repeat (first | refine blk_drewN ?_ _ | refine blk_drew ?_ | refine blk_alloc ?_ _)); exact BK164.out) Try.underlying39 rfl (by kernel_rfl)) rfl ?_
          exact ⟨_, by first | rfl | (simp [errW_none, errW_some] <;> rfl) | (simp [*, errW_none, errW_some] <;> rfl), by (with_reducible repeat (first | apply Kd.R_alloc | apply Kd.R_drewN | apply Kd.R_drew)); exact Kd.R_mono (Kd.R_far (p := ⟨gb164, 0, none⟩) (Kd.R_far (p := ⟨gb168, 0, none⟩) (Kd.R_types (Kd.R_types HO218.out BK168.out (by decide)) BK164.out (by decide)) (fun _ hk => hk.1.2) (.slice Ao105 y216.length co105)) (fun _ hk => hk.2) (.slice Ao105 y216.length co105)) (fun _ hk => trivial), Cmp.g HB.out⟩
         ·rw [if_neg c91] at H; exact absurd H (by simp)
        ·rw [if_neg c88] at H; exact absurd H (by simp)
       ·rw [if_neg c87] at H; exact absurd H (by simp)
      ·rw [if_neg c86] at H; exact absurd H (by simp)
     ·rw [if_neg c85] at H; exact absurd H (by simp)

end Go.Proofs.Ytnifeegdkhmakaa.PFnExactMergeBundles

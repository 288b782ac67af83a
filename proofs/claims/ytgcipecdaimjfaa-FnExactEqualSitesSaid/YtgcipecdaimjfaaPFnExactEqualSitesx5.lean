/- Printed functions of the program, out of print.sh, told more shortly. No condition. -/
import Derived.Test.YtgcipecdaimjfaaCmp
import Derived.Test.YtgcipecdaimjfaaPFnExactEqualSitesx0
import Derived.Test.YtgcipecdaimjfaaPFnExactEqualSitesx3
import Derived.Test.YtgcipecdaimjfaaPFnExactEqualSitesx4
namespace Go.Proofs.Ytgcipecdaimjfaa.PFnExactEqualSites
open Go.Proofs.Ytgcipecdaimjfaa
open Go.RowKit Go.Proofs.YtgcipecdaimjfaaW.PrintWords Go.Proofs.YtgcipecdaimjfaaW.PrintLast Go.Proofs.YtgcipecdaimjfaaW.PrintMore
attribute [local go_sem] max2_int min2_int max_two min_two max_three min_three max_four min_four   -- for this text's walks alone
set_option linter.unusedVariables false
set_option linter.unusedSimpArgs false

/-! ### spec_EqualSites: function 23 -/
mutual
def spec_EqualSites.j0 : Nat → Bool → ByteArray → List (S26) → Int → Int → List (S156) → List Int → ByteArray → List (S26) → Int → Int → List (S156) → List Int → Option (Bool)
  | 0, _, _, _, _, _, _, _, _, _, _, _, _, _ => none
  | k + 1, x35, x122000, x122001, x122002, x122003, x122004, x122005, x123000, x123001, x123002, x123003, x123004, x123005 => if x35 = true then (some false) else (spec_EqualSites.l0 k 0 x122000 x122001 x122002 x122003 x122004 x122005 x123000 x123001 x123002 x123003 x123004 x123005)
def spec_EqualSites.l0 : Nat → Int → ByteArray → List (S26) → Int → Int → List (S156) → List Int → ByteArray → List (S26) → Int → Int → List (S156) → List Int → Option (Bool)
  | 0, _, _, _, _, _, _, _, _, _, _, _, _, _ => none
  | k + 1, x5, x122000, x122001, x122002, x122003, x122004, x122005, x123000, x123001, x123002, x123003, x123004, x123005 => if x5 < (x122001.length : Int) then (if 0 ≤ x5 then (if x5 < (x123001.length : Int) then ((spec_EqualAccounts.f k ((rd_T26 x122001 x5).f0) ((rd_T26 x122001 x5).f1) ((rd_T26 x122001 x5).f2) ((rd_T26 x123001 x5).f0) ((rd_T26 x123001 x5).f1) ((rd_T26 x123001 x5).f2)).bind fun t127 => (if t127 = true then (spec_EqualSites.l0 k (wrap64 (x5 + 1)) x122000 x122001 x122002 x122003 x122004 x122005 x123000 x123001 x123002 x123003 x123004 x123005) else (some false))) else (none)) else (none)) else (some true)
end
def spec_EqualSites.f (k : Nat) (a0_0 : ByteArray) (l0_1 : List (S26)) (a0_2 : Int) (a0_3 : Int) (l0_4 : List (S156)) (l0_5 : List Int) (a1_0 : ByteArray) (l1_1 : List (S26)) (a1_2 : Int) (a1_3 : Int) (l1_4 : List (S156)) (l1_5 : List Int) : Option (Bool) := if a0_0.toList = a1_0.toList then (if (l0_1.length : Int) = (l1_1.length : Int) then ((spec_EqualBooks.f k a0_2 a0_3 l0_4 a1_2 a1_3 l1_4).bind fun t123 => (if t123 = true then ((spec_EqualInts.f k l0_5 l1_5).bind fun t124 => (spec_EqualSites.j0 k (!t124) a0_0 l0_1 a0_2 a0_3 l0_4 l0_5 a1_0 l1_1 a1_2 a1_3 l1_4 l1_5)) else (spec_EqualSites.j0 k true a0_0 l0_1 a0_2 a0_3 l0_4 l0_5 a1_0 l1_1 a1_2 a1_3 l1_4 l1_5))) else (spec_EqualSites.j0 k true a0_0 l0_1 a0_2 a0_3 l0_4 l0_5 a1_0 l1_1 a1_2 a1_3 l1_4 l1_5)) else (spec_EqualSites.j0 k true a0_0 l0_1 a0_2 a0_3 l0_4 l0_5 a1_0 l1_1 a1_2 a1_3 l1_4 l1_5)
theorem spec_EqualSites.mono_l : ∀ k, (∀ y0 y1 y2 y3 y4 y5 y6 y7 y8 y9 y10 y11 y12, LeO (spec_EqualSites.j0 k y0 y1 y2 y3 y4 y5 y6 y7 y8 y9 y10 y11 y12) (spec_EqualSites.j0 (k + 1) y0 y1 y2 y3 y4 y5 y6 y7 y8 y9 y10 y11 y12)) ∧ (∀ y0 y1 y2 y3 y4 y5 y6 y7 y8 y9 y10 y11 y12, LeO (spec_EqualSites.l0 k y0 y1 y2 y3 y4 y5 y6 y7 y8 y9 y10 y11 y12) (spec_EqualSites.l0 (k + 1) y0 y1 y2 y3 y4 y5 y6 y7 y8 y9 y10 y11 y12))
  | 0 => ⟨fun _ _ _ _ _ _ _ _ _ _ _ _ _ r h => by simp [spec_EqualSites.j0] at h, fun _ _ _ _ _ _ _ _ _ _ _ _ _ r h => by simp [spec_EqualSites.l0] at h⟩
  | k + 1 => by
    obtain ⟨ih0, ih1⟩ := spec_EqualSites.mono_l k
    refine ⟨?_, ?_⟩
    · intro y0 y1 y2 y3 y4 y5 y6 y7 y8 y9 y10 y11 y12
      unfold spec_EqualSites.j0
      repeat' first
      | (with_reducible exact ih0 _ _ _ _ _ _ _ _ _ _ _ _ _)
      | (with_reducible exact ih1 _ _ _ _ _ _ _ _ _ _ _ _ _)
      | (with_reducible exact spec_EqualAccounts.mono _ _ _ _ _ _ _)
      | (with_reducible exact spec_EqualBooks.mono _ _ _ _ _ _ _)
      | (with_reducible exact spec_EqualInts.mono _ _ _)
      | (with_reducible exact LeO.refl _)
      | (with_reducible exact LeO.none _)
      | (with_reducible refine LeO.ite ?_ ?_)
      | (with_reducible refine LeO.bind ?_ (fun _ => ?_))
      | exact ih0 _ _ _ _ _ _ _ _ _ _ _ _ _
      | exact ih1 _ _ _ _ _ _ _ _ _ _ _ _ _
      | exact spec_EqualAccounts.mono _ _ _ _ _ _ _
      | exact spec_EqualBooks.mono _ _ _ _ _ _ _
      | exact spec_EqualInts.mono _ _ _
      | exact LeO.none _
      | refine LeO.ite ?_ ?_
      | refine LeO.bind ?_ (fun _ => ?_)
    · intro y0 y1 y2 y3 y4 y5 y6 y7 y8 y9 y10 y11 y12
      unfold spec_EqualSites.l0
      repeat' first
      | (with_reducible exact ih0 _ _ _ _ _ _ _ _ _ _ _ _ _)
      | (with_reducible exact ih1 _ _ _ _ _ _ _ _ _ _ _ _ _)
      | (with_reducible exact spec_EqualAccounts.mono _ _ _ _ _ _ _)
      | (with_reducible exact spec_EqualBooks.mono _ _ _ _ _ _ _)
      | (with_reducible exact spec_EqualInts.mono _ _ _)
      | (with_reducible exact LeO.refl _)
      | (with_reducible exact LeO.none _)
      | (with_reducible refine LeO.ite ?_ ?_)
      | (with_reducible refine LeO.bind ?_ (fun _ => ?_))
      | exact ih0 _ _ _ _ _ _ _ _ _ _ _ _ _
      | exact ih1 _ _ _ _ _ _ _ _ _ _ _ _ _
      | exact spec_EqualAccounts.mono _ _ _ _ _ _ _
      | exact spec_EqualBooks.mono _ _ _ _ _ _ _
      | exact spec_EqualInts.mono _ _ _
      | exact LeO.none _
      | refine LeO.ite ?_ ?_
      | refine LeO.bind ?_ (fun _ => ?_)
theorem spec_EqualSites.mono : ∀ a0 a1 a2 a3 a4 a5 a6 a7 a8 a9 a10 a11 k, LeO (spec_EqualSites.f k a0 a1 a2 a3 a4 a5 a6 a7 a8 a9 a10 a11) (spec_EqualSites.f (k + 1) a0 a1 a2 a3 a4 a5 a6 a7 a8 a9 a10 a11) := by
  intro a0 a1 a2 a3 a4 a5 a6 a7 a8 a9 a10 a11 k
  obtain ⟨ih0, ih1⟩ := spec_EqualSites.mono_l k
  unfold spec_EqualSites.f
  repeat' first
      | (with_reducible exact ih0 _ _ _ _ _ _ _ _ _ _ _ _ _)
      | (with_reducible exact ih1 _ _ _ _ _ _ _ _ _ _ _ _ _)
      | (with_reducible exact spec_EqualAccounts.mono _ _ _ _ _ _ _)
      | (with_reducible exact spec_EqualBooks.mono _ _ _ _ _ _ _)
      | (with_reducible exact spec_EqualInts.mono _ _ _)
      | (with_reducible exact LeO.refl _)
      | (with_reducible exact LeO.none _)
      | (with_reducible refine LeO.ite ?_ ?_)
      | (with_reducible refine LeO.bind ?_ (fun _ => ?_))
      | exact ih0 _ _ _ _ _ _ _ _ _ _ _ _ _
      | exact ih1 _ _ _ _ _ _ _ _ _ _ _ _ _
      | exact spec_EqualAccounts.mono _ _ _ _ _ _ _
      | exact spec_EqualBooks.mono _ _ _ _ _ _ _
      | exact spec_EqualInts.mono _ _ _
      | exact LeO.none _
      | refine LeO.ite ?_ ?_
      | refine LeO.bind ?_ (fun _ => ?_)
def spec_EqualSites.T6 : Bool × List (List Nat × List Nat) := (true, [([], []), ([0], [0]), ([], []), ([1, 2], [1, 2]), ([3], [3]), ([], []), ([5], [5]), ([], []), ([6, 7], [6, 7]), ([8], [8]), ([4, 9], [4, 9]), ([10], [10])])
def spec_EqualSites.B6 : List Nat := [0, 1, 0, 7, 15, 0, 32, 0, 224, 480, 1023, 2047]
theorem spec_EqualSites.tab6 : rtab .any (opsOf Try.f23 6) = spec_EqualSites.T6 := by kernel_rfl
theorem spec_EqualSites.bits6 : waitsOk spec_EqualSites.T6.2 spec_EqualSites.B6 = true := by kernel_rfl
set_option maxHeartbeats 8000000 in
set_option maxRecDepth 100000 in
theorem spec_EqualSites.calls (k : Nat) (a0_0 : ByteArray) (A0_1 : Option Addr) (c0_1 : Nat) (l0_1 : List (S26)) (a0_2 : Int) (a0_3 : Int) (A0_4 : Option Addr) (c0_4 : Nat) (l0_4 : List (S156)) (A0_5 : Option Addr) (c0_5 : Nat) (l0_5 : List Int) (a1_0 : ByteArray) (A1_1 : Option Addr) (c1_1 : Nat) (l1_1 : List (S26)) (a1_2 : Int) (a1_3 : Int) (A1_4 : Option Addr) (c1_4 : Nat) (l1_4 : List (S156)) (A1_5 : Option Addr) (c1_5 : Nat) (l1_5 : List Int) (r : Bool) (w : World) (hr0_1 : Kd.C k26 w A0_1 l0_1.length l0_1) (hc0_1 : l0_1.length ≤ c0_1) (hr0_4 : Kd.C k156 w A0_4 l0_4.length l0_4) (hc0_4 : l0_4.length ≤ c0_4) (hr0_5 : Kd.C (Kd.int .i64) w A0_5 l0_5.length l0_5) (hc0_5 : l0_5.length ≤ c0_5) (hr1_1 : Kd.C k26 w A1_1 l1_1.length l1_1) (hc1_1 : l1_1.length ≤ c1_1) (hr1_4 : Kd.C k156 w A1_4 l1_4.length l1_4) (hc1_4 : l1_4.length ≤ c1_4) (hr1_5 : Kd.C (Kd.int .i64) w A1_5 l1_5.length l1_5) (hc1_5 : l1_5.length ≤ c1_5) (h : spec_EqualSites.f k a0_0 l0_1 a0_2 a0_3 l0_4 l0_5 a1_0 l1_1 a1_2 a1_3 l1_4 l1_5 = some r) :
    Calls Try.prog 23 #[.agg #[.string a0_0, .slice A0_1 l0_1.length c0_1, .int .i64 a0_2, .int .i64 a0_3, .slice A0_4 l0_4.length c0_4, .slice A0_5 l0_5.length c0_5], .agg #[.string a1_0, .slice A1_1 l1_1.length c1_1, .int .i64 a1_2, .int .i64 a1_3, .slice A1_4 l1_4.length c1_4, .slice A1_5 l1_5.length c1_5]] w fun e w' => e = .returned (.bool r) ∧ Below w.heap.size w w' := by
 have hu58 := Try.underlying58; have hu56 := Try.underlying56; have hu26 := Try.underlying26; have HR0_1 := Aside0.mk hr0_1; have HC0_1 := Aside0.mk hc0_1; clear hr0_1 hc0_1; have HR0_4 := Aside0.mk hr0_4; have HC0_4 := Aside0.mk hc0_4; clear hr0_4 hc0_4; have HR0_5 := Aside0.mk hr0_5; have HC0_5 := Aside0.mk hc0_5; clear hr0_5 hc0_5; have HR1_1 := Aside0.mk hr1_1; have HC1_1 := Aside0.mk hc1_1; clear hr1_1 hc1_1; have HR1_4 := Aside0.mk hr1_4; have HC1_4 := Aside0.mk hc1_4; clear hr1_4 hc1_4; have HR1_5 := Aside0.mk hr1_5; have HC1_5 := Aside0.mk hc1_5; clear hr1_5 hc1_5
 have HB := Aside0.mk (Below.refl w.heap.size w)
 have H : (if a0_0.toList = a1_0.toList then (if (l0_1.length : Int) = (l1_1.length : Int) then ((spec_EqualBooks.f k a0_2 a0_3 l0_4 a1_2 a1_3 l1_4).bind fun t123 => (if t123 = true then ((spec_EqualInts.f k l0_5 l1_5).bind fun t124 => (spec_EqualSites.j0 k (!t124) a0_0 l0_1 a0_2 a0_3 l0_4 l0_5 a1_0 l1_1 a1_2 a1_3 l1_4 l1_5)) else (spec_EqualSites.j0 k true a0_0 l0_1 a0_2 a0_3 l0_4 l0_5 a1_0 l1_1 a1_2 a1_3 l1_4 l1_5))) else (spec_EqualSites.j0 k true a0_0 l0_1 a0_2 a0_3 l0_4 l0_5 a1_0 l1_1 a1_2 a1_3 l1_4 l1_5)) else (spec_EqualSites.j0 k true a0_0 l0_1 a0_2 a0_3 l0_4 l0_5 a1_0 l1_1 a1_2 a1_3 l1_4 l1_5)) = some r := h
 clear h; have HC3 := Aside0.mk H; clear H
 go_enter Try.func23, Try.ntmps23
 go_upto_region 1 with (first | ((with_reducible refine gate_dst (N := 2) rfl ?_); (try (refine gate_guard (by rfl) ?_; dsimp only)); refine box_event (by rfl) (N := 2) (by rfl) (cs := #[.string a0_0, .slice A0_1 l0_1.length c0_1, .int .i64 a0_2, .int .i64 a0_3, .slice A0_4 l0_4.length c0_4, .slice A0_5 l0_5.length c0_5]) (t := 58) (by first | (go_simp; done) | (go_simp; rfl)) ?_; intro gb121 hg w4 hbox hb; have n0_ := Aside0.mk (below_step (Cmp.g HB.out) hb); have n1_ := Aside0.mk (hbox); have n2_ := Aside0.mk ((by rw [hg]; exact (below_size (Cmp.g HB.out)) : w.heap.size ≤ gb121)); have n3_ := Aside0.mk ((by rw [hg]; exact (below_size (Cmp.g HB.out)) : w.heap.size ≤ gb121)); clear HB; have HB := n0_; have BK121 := n1_; have GW121 := n2_; have GE121 := n3_; clear n0_ n1_ n2_ n3_; clear hb hbox hg) | ((with_reducible refine gate_dst (N := 3) rfl ?_); (try (refine gate_guard (by rfl) ?_; dsimp only)); refine box_event (by rfl) (N := 3) (by rfl) (cs := #[.string a1_0, .slice A1_1 l1_1.length c1_1, .int .i64 a1_2, .int .i64 a1_3, .slice A1_4 l1_4.length c1_4, .slice A1_5 l1_5.length c1_5]) (t := 58) (by first | (go_simp; done) | (go_simp; rfl)) ?_; intro gb122 hg w5 hbox hb; have n0_ := Aside0.mk (blk_below (Cmp.b BK121.out) hb); have n1_ := Aside0.mk (below_step (Cmp.g HB.out) hb); have n2_ := Aside0.mk (hbox); have n3_ := Aside0.mk ((by rw [hg]; exact (below_size (Cmp.g HB.out)) : w.heap.size ≤ gb122)); have n4_ := Aside0.mk ((by rw [hg]; exact (below_size (Cmp.g HB.out)) : w.heap.size ≤ gb122)); have n5_ := Aside0.mk ((by rw [hg]; exact Nat.ne_of_lt (blk_lt (Cmp.b BK121.out)) : gb121 ≠ gb122)); have n6_ := Aside0.mk ((by rw [hg]; exact Nat.ne_of_gt (blk_lt (Cmp.b BK121.out)) : gb122 ≠ gb121)); clear BK121; clear HB; have BK121 := n0_; have HB := n1_; have BK122 := n2_; have GW122 := n3_; have GE122 := n4_; have NB121_122 := n5_; have NB122_121 := n6_; clear n0_ n1_ n2_ n3_ n4_ n5_ n6_; clear hb hbox hg))
 (try simp only [Act.put, List.setIfInBounds_toArray, List.set_cons_zero, List.set_cons_succ])
 go_cut [35] (fun v35 wc => ∃ (kq : Nat) (x35_2 : Bool), v35 = .bool x35_2 ∧ Aside0 (spec_EqualSites.j0 kq x35_2 a0_0 l0_1 a0_2 a0_3 l0_4 l0_5 a1_0 l1_1 a1_2 a1_3 l1_4 l1_5 = some r) ∧ Aside0 (kq ≤ k) ∧ Aside0 (wc.heap[gb121]? = some (.cells #[.string a0_0, (.slice A0_1 l0_1.length c0_1), .int .i64 a0_2, .int .i64 a0_3, (.slice A0_4 l0_4.length c0_4), (.slice A0_5 l0_5.length c0_5)] 58 (0, 0))) ∧ Aside0 (wc.heap[gb122]? = some (.cells #[.string a1_0, (.slice A1_1 l1_1.length c1_1), .int .i64 a1_2, .int .i64 a1_3, (.slice A1_4 l1_4.length c1_4), (.slice A1_5 l1_5.length c1_5)] 58 (0, 0))) ∧ Aside0 (Below w.heap.size w wc))
 case first =>
  have H := HC3.out; clear HC3
  by_cases c6 : a0_0.toList = a1_0.toList
  ·rw [if_pos c6] at H; have c6b0 : (a0_0.toList == a1_0.toList) = true := beq_iff_eq.mpr c6; have c6b1 : (a0_0.toList != a1_0.toList) = false := bne_eq_false_iff_eq.mpr c6; clear c6
   (first | rw [c6b0] | (simp only [i64_w, i32_w]; rw [c6b0]) | skip)
   by_cases c7 : (l0_1.length : Int) = (l1_1.length : Int)
   ·rw [if_pos c7] at H
    have c7b0 : ((l0_1.length : Int) == (l1_1.length : Int)) = true := beq_iff_eq.mpr c7
    have c7b1 : ((l0_1.length : Int) != (l1_1.length : Int)) = false := bne_eq_false_iff_eq.mpr c7
    have c7b2 : (l0_1.length == l1_1.length) = true := by first | simpa using c7 | (simp at c7 ⊢; omega)
    clear c7; replace H := Option.bind_eq_some_iff.mp H; obtain ⟨t123, A80, H⟩ := H; (try dsimp only at H); have A8 := Aside0.mk A80; clear A80
    by_cases c9 : t123 = true
    ·subst c9; rw [if_pos rfl] at H; replace H := Option.bind_eq_some_iff.mp H; obtain ⟨t124, A100, H⟩ := H; (try dsimp only at H); have A10 := Aside0.mk A100; clear A100
     have H' := Aside0.mk H
     clear H; have hnb11 := NB121_122.out; have hnc11 := NB122_121.out
     have hcz12_0 : w5.cell? ⟨gb121, 0, none⟩ = some (.string a0_0) := (blk_cell BK121.out 0).trans rfl
     have hcz12_1 : w5.cell? ⟨gb121, 1, none⟩ = some (.slice A0_1 l0_1.length c0_1) := (blk_cell BK121.out 1).trans rfl
     have hcz12_2 : w5.cell? ⟨gb121, 2, none⟩ = some (.int .i64 a0_2) := (blk_cell BK121.out 2).trans rfl
     have hcz12_3 : w5.cell? ⟨gb121, 3, none⟩ = some (.int .i64 a0_3) := (blk_cell BK121.out 3).trans rfl
     have hcz12_4 : w5.cell? ⟨gb121, 4, none⟩ = some (.slice A0_4 l0_4.length c0_4) := (blk_cell BK121.out 4).trans rfl
     have hcz12_5 : w5.cell? ⟨gb121, 5, none⟩ = some (.slice A0_5 l0_5.length c0_5) := (blk_cell BK121.out 5).trans rfl
     have hfz12_0 := blk_frozen BK121.out 0; have hfz12_1 := blk_frozen BK121.out 1; have hfz12_2 := blk_frozen BK121.out 2; have hfz12_3 := blk_frozen BK121.out 3; have hfz12_4 := blk_frozen BK121.out 4; have hfz12_5 := blk_frozen BK121.out 5
     have hcz13_0 : w5.cell? ⟨gb122, 0, none⟩ = some (.string a1_0) := (blk_cell BK122.out 0).trans rfl
     have hcz13_1 : w5.cell? ⟨gb122, 1, none⟩ = some (.slice A1_1 l1_1.length c1_1) := (blk_cell BK122.out 1).trans rfl
     have hcz13_2 : w5.cell? ⟨gb122, 2, none⟩ = some (.int .i64 a1_2) := (blk_cell BK122.out 2).trans rfl
     have hcz13_3 : w5.cell? ⟨gb122, 3, none⟩ = some (.int .i64 a1_3) := (blk_cell BK122.out 3).trans rfl
     have hcz13_4 : w5.cell? ⟨gb122, 4, none⟩ = some (.slice A1_4 l1_4.length c1_4) := (blk_cell BK122.out 4).trans rfl
     have hcz13_5 : w5.cell? ⟨gb122, 5, none⟩ = some (.slice A1_5 l1_5.length c1_5) := (blk_cell BK122.out 5).trans rfl
     have hfz13_0 := blk_frozen BK122.out 0; have hfz13_1 := blk_frozen BK122.out 1; have hfz13_2 := blk_frozen BK122.out 2; have hfz13_3 := blk_frozen BK122.out 3; have hfz13_4 := blk_frozen BK122.out 4; have hfz13_5 := blk_frozen BK122.out 5
     go_wp2_with (first | (go_at_call 71; (with_reducible refine (spec_EqualBooks.calls k a0_2 a0_3 _ _ l0_4 a1_2 a1_3 _ _ l1_4 true _ ?side1 ?side2 ?side3 ?side4 A8.out).mono ?_); (case side1 => exact Cmp.rc (Kd.C_below HR0_4.out HB.out)); (case side2 => exact HC0_4.out); (case side3 => exact Cmp.rc (Kd.C_below HR1_4.out HB.out)); (case side4 => exact HC1_4.out); rintro e w14 ⟨rfl, hb⟩; have n0_ := Aside0.mk (blk_below (Cmp.b BK121.out) hb); have n1_ := Aside0.mk (blk_below (Cmp.b BK122.out) hb); have n2_ := Aside0.mk (below_step (Cmp.g HB.out) hb); clear BK121; clear BK122; clear HB; have BK121 := n0_; have BK122 := n1_; have HB := n2_; clear n0_ n1_ n2_; (try clear hb); (try clear hb2); (try clear hk); (try clear hi); have hcz15_0 : w14.cell? ⟨gb121, 0, none⟩ = some (.string a0_0) := (blk_cell BK121.out 0).trans rfl; have hcz15_1 : w14.cell? ⟨gb121, 1, none⟩ = some (.slice A0_1 l0_1.length c0_1) := (blk_cell BK121.out 1).trans rfl; have hcz15_2 : w14.cell? ⟨gb121, 2, none⟩ = some (.int .i64 a0_2) := (blk_cell BK121.out 2).trans rfl; have hcz15_3 : w14.cell? ⟨gb121, 3, none⟩ = some (.int .i64 a0_3) := (blk_cell BK121.out 3).trans rfl; have hcz15_4 : w14.cell? ⟨gb121, 4, none⟩ = some (.slice A0_4 l0_4.length c0_4) := (blk_cell BK121.out 4).trans rfl; have hcz15_5 : w14.cell? ⟨gb121, 5, none⟩ = some (.slice A0_5 l0_5.length c0_5) := (blk_cell BK121.out 5).trans rfl; have hfz15_0 := blk_frozen BK121.out 0; have hfz15_1 := blk_frozen BK121.out 1; have hfz15_2 := blk_frozen BK121.out 2; have hfz15_3 := blk_frozen BK121.out 3; have hfz15_4 := blk_frozen BK121.out 4; have hfz15_5 := blk_frozen BK121.out 5; have hcz16_0 : w14.cell? ⟨gb122, 0, none⟩ = some (.string a1_0) := (blk_cell BK122.out 0).trans rfl; have hcz16_1 : w14.cell? ⟨gb122, 1, none⟩ = some (.slice A1_1 l1_1.length c1_1) := (blk_cell BK122.out 1).trans rfl; have hcz16_2 : w14.cell? ⟨gb122, 2, none⟩ = some (.int .i64 a1_2) := (blk_cell BK122.out 2).trans rfl; have hcz16_3 : w14.cell? ⟨gb122, 3, none⟩ = some (.int .i64 a1_3) := (blk_cell BK122.out 3).trans rfl; have hcz16_4 : w14.cell? ⟨gb122, 4, none⟩ = some (.slice A1_4 l1_4.length c1_4) := (blk_cell BK122.out 4).trans rfl; have hcz16_5 : w14.cell? ⟨gb122, 5, none⟩ = some (.slice A1_5 l1_5.length c1_5) := (blk_cell BK122.out 5).trans rfl; have hfz16_0 := blk_frozen BK122.out 0; have hfz16_1 := blk_frozen BK122.out 1; have hfz16_2 := blk_frozen BK122.out 2; have hfz16_3 := blk_frozen BK122.out 3; have hfz16_4 := blk_frozen BK122.out 4; have hfz16_5 := blk_frozen BK122.out 5) | (go_at_call 72; (with_reducible refine (spec_EqualInts.calls k _ _ l0_5 _ _ l1_5 t124 _ ?side1 ?side2 ?side3 ?side4 A10.out).mono ?_); (case side1 => exact Cmp.rc (Kd.C_below HR0_5.out HB.out)); (case side2 => exact HC0_5.out); (case side3 => exact Cmp.rc (Kd.C_below HR1_5.out HB.out)); (case side4 => exact HC1_5.out); rintro e w' ⟨rfl, ⟨nd, rfl⟩⟩))
     go_meet
     case rel => exact ⟨_, (!t124), (by first | rfl | simp | simp [*]), H', ⟨by first | omega | exact Nat.le_refl _⟩, ⟨by refine Cmp.b ?_; exact BK121.out⟩, ⟨by refine Cmp.b ?_; exact BK122.out⟩, ⟨Cmp.g HB.out⟩⟩
    ·replace c9 := Bool.eq_false_iff.mpr c9
     subst c9
     have H1 : (spec_EqualSites.j0 k true a0_0 l0_1 a0_2 a0_3 l0_4 l0_5 a1_0 l1_1 a1_2 a1_3 l1_4 l1_5) = some r := by rw [if_neg (show ¬ (false = true) by decide)] at H; exact H
     clear H; have H := H1; clear H1
     have H' := Aside0.mk H
     clear H; have hnb17 := NB121_122.out; have hnc17 := NB122_121.out
     have hcz18_0 : w5.cell? ⟨gb121, 0, none⟩ = some (.string a0_0) := (blk_cell BK121.out 0).trans rfl
     have hcz18_1 : w5.cell? ⟨gb121, 1, none⟩ = some (.slice A0_1 l0_1.length c0_1) := (blk_cell BK121.out 1).trans rfl
     have hcz18_2 : w5.cell? ⟨gb121, 2, none⟩ = some (.int .i64 a0_2) := (blk_cell BK121.out 2).trans rfl
     have hcz18_3 : w5.cell? ⟨gb121, 3, none⟩ = some (.int .i64 a0_3) := (blk_cell BK121.out 3).trans rfl
     have hcz18_4 : w5.cell? ⟨gb121, 4, none⟩ = some (.slice A0_4 l0_4.length c0_4) := (blk_cell BK121.out 4).trans rfl
     have hcz18_5 : w5.cell? ⟨gb121, 5, none⟩ = some (.slice A0_5 l0_5.length c0_5) := (blk_cell BK121.out 5).trans rfl
     have hfz18_0 := blk_frozen BK121.out 0; have hfz18_1 := blk_frozen BK121.out 1; have hfz18_2 := blk_frozen BK121.out 2; have hfz18_3 := blk_frozen BK121.out 3; have hfz18_4 := blk_frozen BK121.out 4; have hfz18_5 := blk_frozen BK121.out 5
     have hcz19_0 : w5.cell? ⟨gb122, 0, none⟩ = some (.string a1_0) := (blk_cell BK122.out 0).trans rfl
     have hcz19_1 : w5.cell? ⟨gb122, 1, none⟩ = some (.slice A1_1 l1_1.length c1_1) := (blk_cell BK122.out 1).trans rfl
     have hcz19_2 : w5.cell? ⟨gb122, 2, none⟩ = some (.int .i64 a1_2) := (blk_cell BK122.out 2).trans rfl
     have hcz19_3 : w5.cell? ⟨gb122, 3, none⟩ = some (.int .i64 a1_3) := (blk_cell BK122.out 3).trans rfl
     have hcz19_4 : w5.cell? ⟨gb122, 4, none⟩ = some (.slice A1_4 l1_4.length c1_4) := (blk_cell BK122.out 4).trans rfl
     have hcz19_5 : w5.cell? ⟨gb122, 5, none⟩ = some (.slice A1_5 l1_5.length c1_5) := (blk_cell BK122.out 5).trans rfl
     have hfz19_0 := blk_frozen BK122.out 0; have hfz19_1 := blk_frozen BK122.out 1; have hfz19_2 := blk_frozen BK122.out 2; have hfz19_3 := blk_frozen BK122.out 3; have hfz19_4 := blk_frozen BK122.out 4; have hfz19_5 := blk_frozen BK122.out 5
     go_wp2_with (first | (go_at_call 71; (with_reducible refine (spec_EqualBooks.calls k a0_2 a0_3 _ _ l0_4 a1_2 a1_3 _ _ l1_4 false _ ?side1 ?side2 ?side3 ?side4 A8.out).mono ?_); (case side1 => exact Cmp.rc (Kd.C_below HR0_4.out HB.out)); (case side2 => exact HC0_4.out); (case side3 => exact Cmp.rc (Kd.C_below HR1_4.out HB.out)); (case side4 => exact HC1_4.out); rintro e w20 ⟨rfl, hb⟩; have n0_ := Aside0.mk (blk_below (Cmp.b BK121.out) hb); have n1_ := Aside0.mk (blk_below (Cmp.b BK122.out) hb); have n2_ := Aside0.mk (below_step (Cmp.g HB.out) hb); clear BK121; clear BK122; clear HB; have BK121 := n0_; have BK122 := n1_; have HB := n2_; clear n0_ n1_ n2_; (try clear hb); (try clear hb2); (try clear hk); (try clear hi)))
     go_meet
     case rel => exact ⟨_, (true), (by first | rfl | simp | simp [*]), H', ⟨by first | omega | exact Nat.le_refl _⟩, ⟨by refine Cmp.b ?_; exact BK121.out⟩, ⟨by refine Cmp.b ?_; exact BK122.out⟩, ⟨Cmp.g HB.out⟩⟩
   ·rw [if_neg c7] at H
    have c7b0 : ((l0_1.length : Int) == (l1_1.length : Int)) = false := beq_eq_false_iff_ne.mpr c7
    have c7b1 : ((l0_1.length : Int) != (l1_1.length : Int)) = true := bne_iff_ne.mpr c7
    have c7b2 : (l0_1.length == l1_1.length) = false := by first | simpa using c7 | (simp at c7 ⊢; omega)
    have H' := Aside0.mk H
    clear H; have hnb21 := NB121_122.out; have hnc21 := NB122_121.out
    have hcz22_0 : w5.cell? ⟨gb121, 0, none⟩ = some (.string a0_0) := (blk_cell BK121.out 0).trans rfl
    have hcz22_1 : w5.cell? ⟨gb121, 1, none⟩ = some (.slice A0_1 l0_1.length c0_1) := (blk_cell BK121.out 1).trans rfl
    have hcz22_2 : w5.cell? ⟨gb121, 2, none⟩ = some (.int .i64 a0_2) := (blk_cell BK121.out 2).trans rfl
    have hcz22_3 : w5.cell? ⟨gb121, 3, none⟩ = some (.int .i64 a0_3) := (blk_cell BK121.out 3).trans rfl
    have hcz22_4 : w5.cell? ⟨gb121, 4, none⟩ = some (.slice A0_4 l0_4.length c0_4) := (blk_cell BK121.out 4).trans rfl
    have hcz22_5 : w5.cell? ⟨gb121, 5, none⟩ = some (.slice A0_5 l0_5.length c0_5) := (blk_cell BK121.out 5).trans rfl
    have hfz22_0 := blk_frozen BK121.out 0; have hfz22_1 := blk_frozen BK121.out 1; have hfz22_2 := blk_frozen BK121.out 2; have hfz22_3 := blk_frozen BK121.out 3; have hfz22_4 := blk_frozen BK121.out 4; have hfz22_5 := blk_frozen BK121.out 5
    have hcz23_0 : w5.cell? ⟨gb122, 0, none⟩ = some (.string a1_0) := (blk_cell BK122.out 0).trans rfl
    have hcz23_1 : w5.cell? ⟨gb122, 1, none⟩ = some (.slice A1_1 l1_1.length c1_1) := (blk_cell BK122.out 1).trans rfl
    have hcz23_2 : w5.cell? ⟨gb122, 2, none⟩ = some (.int .i64 a1_2) := (blk_cell BK122.out 2).trans rfl
    have hcz23_3 : w5.cell? ⟨gb122, 3, none⟩ = some (.int .i64 a1_3) := (blk_cell BK122.out 3).trans rfl
    have hcz23_4 : w5.cell? ⟨gb122, 4, none⟩ = some (.slice A1_4 l1_4.length c1_4) := (blk_cell BK122.out 4).trans rfl
    have hcz23_5 : w5.cell? ⟨gb122, 5, none⟩ = some (.slice A1_5 l1_5.length c1_5) := (blk_cell BK122.out 5).trans rfl
    have hfz23_0 := blk_frozen BK122.out 0; have hfz23_1 := blk_frozen BK122.out 1; have hfz23_2 := blk_frozen BK122.out 2; have hfz23_3 := blk_frozen BK122.out 3; have hfz23_4 := blk_frozen BK122.out 4; have hfz23_5 := blk_frozen BK122.out 5
    go_wp2
    go_meet
    case rel => exact ⟨_, (true), (by first | rfl | simp | simp [*]), H', ⟨by first | omega | exact Nat.le_refl _⟩, ⟨by refine Cmp.b ?_; exact BK121.out⟩, ⟨by refine Cmp.b ?_; exact BK122.out⟩, ⟨Cmp.g HB.out⟩⟩
  ·rw [if_neg c6] at H; have c6b0 : (a0_0.toList == a1_0.toList) = false := beq_eq_false_iff_ne.mpr c6; have c6b1 : (a0_0.toList != a1_0.toList) = true := bne_iff_ne.mpr c6
   (first | rw [c6b0] | (simp only [i64_w, i32_w]; rw [c6b0]) | skip)
   have H' := Aside0.mk H
   clear H; have hnb24 := NB121_122.out; have hnc24 := NB122_121.out
   have hcz25_0 : w5.cell? ⟨gb121, 0, none⟩ = some (.string a0_0) := (blk_cell BK121.out 0).trans rfl
   have hcz25_1 : w5.cell? ⟨gb121, 1, none⟩ = some (.slice A0_1 l0_1.length c0_1) := (blk_cell BK121.out 1).trans rfl
   have hcz25_2 : w5.cell? ⟨gb121, 2, none⟩ = some (.int .i64 a0_2) := (blk_cell BK121.out 2).trans rfl
   have hcz25_3 : w5.cell? ⟨gb121, 3, none⟩ = some (.int .i64 a0_3) := (blk_cell BK121.out 3).trans rfl
   have hcz25_4 : w5.cell? ⟨gb121, 4, none⟩ = some (.slice A0_4 l0_4.length c0_4) := (blk_cell BK121.out 4).trans rfl
   have hcz25_5 : w5.cell? ⟨gb121, 5, none⟩ = some (.slice A0_5 l0_5.length c0_5) := (blk_cell BK121.out 5).trans rfl
   have hfz25_0 := blk_frozen BK121.out 0; have hfz25_1 := blk_frozen BK121.out 1; have hfz25_2 := blk_frozen BK121.out 2; have hfz25_3 := blk_frozen BK121.out 3; have hfz25_4 := blk_frozen BK121.out 4; have hfz25_5 := blk_frozen BK121.out 5
   have hcz26_0 : w5.cell? ⟨gb122, 0, none⟩ = some (.string a1_0) := (blk_cell BK122.out 0).trans rfl
   have hcz26_1 : w5.cell? ⟨gb122, 1, none⟩ = some (.slice A1_1 l1_1.length c1_1) := (blk_cell BK122.out 1).trans rfl
   have hcz26_2 : w5.cell? ⟨gb122, 2, none⟩ = some (.int .i64 a1_2) := (blk_cell BK122.out 2).trans rfl
   have hcz26_3 : w5.cell? ⟨gb122, 3, none⟩ = some (.int .i64 a1_3) := (blk_cell BK122.out 3).trans rfl
   have hcz26_4 : w5.cell? ⟨gb122, 4, none⟩ = some (.slice A1_4 l1_4.length c1_4) := (blk_cell BK122.out 4).trans rfl
   have hcz26_5 : w5.cell? ⟨gb122, 5, none⟩ = some (.slice A1_5 l1_5.length c1_5) := (blk_cell BK122.out 5).trans rfl
   have hfz26_0 := blk_frozen BK122.out 0; have hfz26_1 := blk_frozen BK122.out 1; have hfz26_2 := blk_frozen BK122.out 2; have hfz26_3 := blk_frozen BK122.out 3; have hfz26_4 := blk_frozen BK122.out 4; have hfz26_5 := blk_frozen BK122.out 5
   go_wp2
   go_meet
   case rel => exact ⟨_, (true), (by first | rfl | simp | simp [*]), H', ⟨by first | omega | exact Nat.le_refl _⟩, ⟨by refine Cmp.b ?_; exact BK121.out⟩, ⟨by refine Cmp.b ?_; exact BK122.out⟩, ⟨Cmp.g HB.out⟩⟩
 case rest =>
  clear HC3; (try clear c1); (try clear c2); (try clear p2); (try clear c6); (try clear c6b0); (try clear c6b1); (try clear c7); (try clear c7b0); (try clear c7b1); (try clear c7b2); (try clear c9); (try clear c11); (try clear c17); (try clear c21); (try clear c23); (try clear c24); (try clear hcz12_0); (try clear hcz12_1); (try clear hcz12_2); (try clear hcz12_3); (try clear hcz12_4); (try clear hcz12_5); (try clear hcz13_0); (try clear hcz13_1); (try clear hcz13_2); (try clear hcz13_3); (try clear hcz13_4); (try clear hcz13_5); (try clear hcz15_0); (try clear hcz15_1); (try clear hcz15_2); (try clear hcz15_3); (try clear hcz15_4); (try clear hcz15_5); (try clear hcz16_0); (try clear hcz16_1); (try clear hcz16_2); (try clear hcz16_3); (try clear hcz16_4); (try clear hcz16_5); (try clear hcz18_0); (try clear hcz18_1); (try clear hcz18_2); (try clear hcz18_3); (try clear hcz18_4); (try clear hcz18_5); (try clear hcz19_0); (try clear hcz19_1); (try clear hcz19_2); (try clear hcz19_3); (try clear hcz19_4); (try clear hcz19_5); (try clear hcz22_0); (try clear hcz22_1); (try clear hcz22_2); (try clear hcz22_3); (try clear hcz22_4); (try clear hcz22_5); (try clear hcz23_0); (try clear hcz23_1); (try clear hcz23_2); (try clear hcz23_3); (try clear hcz23_4); (try clear hcz23_5); (try clear hcz25_0); (try clear hcz25_1); (try clear hcz25_2); (try clear hcz25_3); (try clear hcz25_4); (try clear hcz25_5); (try clear hcz26_0); (try clear hcz26_1); (try clear hcz26_2); (try clear hcz26_3); (try clear hcz26_4); (try clear hcz26_5); (try clear hfz12_0); (try clear hfz12_1); (try clear hfz12_2); (try clear hfz12_3); (try clear hfz12_4); (try clear hfz12_5); (try clear hfz13_0); (try clear hfz13_1); (try clear hfz13_2); (try clear hfz13_3); (try clear hfz13_4); (try clear hfz13_5); (try clear hfz15_0); (try clear hfz15_1); (try clear hfz15_2); (try clear hfz15_3); (try clear hfz15_4); (try clear hfz15_5); (try clear hfz16_0); (try clear hfz16_1); (try clear hfz16_2); (try clear hfz16_3); (try clear hfz16_4); (try clear hfz16_5); (try clear hfz18_0); (try clear hfz18_1); (try clear hfz18_2); (try clear hfz18_3); (try clear hfz18_4); (try clear hfz18_5); (try clear hfz19_0); (try clear hfz19_1); (try clear hfz19_2); (try clear hfz19_3); (try clear hfz19_4); (try clear hfz19_5); (try clear hfz22_0); (try clear hfz22_1); (try clear hfz22_2); (try clear hfz22_3); (try clear hfz22_4); (try clear hfz22_5); (try clear hfz23_0); (try clear hfz23_1); (try clear hfz23_2); (try clear hfz23_3); (try clear hfz23_4); (try clear hfz23_5); (try clear hfz25_0); (try clear hfz25_1); (try clear hfz25_2); (try clear hfz25_3); (try clear hfz25_4); (try clear hfz25_5); (try clear hfz26_0); (try clear hfz26_1); (try clear hfz26_2); (try clear hfz26_3); (try clear hfz26_4); (try clear hfz26_5)
  obtain ⟨kq, x35_2, rfl, HA, HJ2, BK121, BK122, HB⟩ := hcut
  cases kq with
  | zero => exact absurd HA.out (by simp [spec_EqualSites.j0])
  | succ kj2 =>
   have H := HA.out; clear HA
   simp only [spec_EqualSites.j0] at H
   by_cases c27 : x35_2 = true
   ·subst c27; rw [if_pos rfl] at H
    obtain rfl := Option.some.inj H
    go_wp2
    go_ret
    exact ⟨by first | rfl | (simp [errW_none, errW_some] <;> rfl) | (simp [*, errW_none, errW_some] <;> rfl), Cmp.g HB.out⟩
   ·replace c27 := Bool.eq_false_iff.mpr c27
    subst c27
    have H1 : (spec_EqualSites.l0 kj2 0 a0_0 l0_1 a0_2 a0_3 l0_4 l0_5 a1_0 l1_1 a1_2 a1_3 l1_4 l1_5) = some r := by rw [if_neg (show ¬ (false = true) by decide)] at H; exact H
    clear H; have H := H1; clear H1
    have H' := Aside0.mk H
    clear H
    go_wp2
    go_loopg [5] kj2 (fun kq v5 w' => ∃ (x5_2 : Int), v5 = .int .i64 x5_2 ∧ Aside0 (spec_EqualSites.l0 kq x5_2 a0_0 l0_1 a0_2 a0_3 l0_4 l0_5 a1_0 l1_1 a1_2 a1_3 l1_4 l1_5 = some r) ∧ Aside0 (kq ≤ kj2) ∧ Aside0 (w'.heap[gb121]? = some (.cells #[.string a0_0, (.slice A0_1 l0_1.length c0_1), .int .i64 a0_2, .int .i64 a0_3, (.slice A0_4 l0_4.length c0_4), (.slice A0_5 l0_5.length c0_5)] 58 (0, 0))) ∧ Aside0 (w'.heap[gb122]? = some (.cells #[.string a1_0, (.slice A1_1 l1_1.length c1_1), .int .i64 a1_2, .int .i64 a1_3, (.slice A1_4 l1_4.length c1_4), (.slice A1_5 l1_5.length c1_5)] 58 (0, 0))) ∧ Aside0 (Below w.heap.size w w'))
    case atStart => exact ⟨(0), (by first | rfl | simp | simp [*]), H', ⟨Nat.le_refl _⟩, ⟨by refine Cmp.b ?_; exact BK121.out⟩, ⟨by refine Cmp.b ?_; exact BK122.out⟩, ⟨Cmp.g HB.out⟩⟩
    case round =>
     clear H'
     (try clear c1); (try clear c2); (try clear p2); (try clear c6); (try clear c6b0); (try clear c6b1); (try clear c7); (try clear c7b0); (try clear c7b1); (try clear c7b2); (try clear c9); (try clear c11); (try clear c17); (try clear c21); (try clear c23); (try clear c24); (try clear c27); (try clear hcz12_0); (try clear hcz12_1); (try clear hcz12_2); (try clear hcz12_3); (try clear hcz12_4); (try clear hcz12_5); (try clear hcz13_0); (try clear hcz13_1); (try clear hcz13_2); (try clear hcz13_3); (try clear hcz13_4); (try clear hcz13_5); (try clear hcz15_0); (try clear hcz15_1); (try clear hcz15_2); (try clear hcz15_3); (try clear hcz15_4); (try clear hcz15_5); (try clear hcz16_0); (try clear hcz16_1); (try clear hcz16_2); (try clear hcz16_3); (try clear hcz16_4); (try clear hcz16_5); (try clear hcz18_0); (try clear hcz18_1); (try clear hcz18_2); (try clear hcz18_3); (try clear hcz18_4); (try clear hcz18_5); (try clear hcz19_0); (try clear hcz19_1); (try clear hcz19_2); (try clear hcz19_3); (try clear hcz19_4); (try clear hcz19_5); (try clear hcz22_0); (try clear hcz22_1); (try clear hcz22_2); (try clear hcz22_3); (try clear hcz22_4); (try clear hcz22_5); (try clear hcz23_0); (try clear hcz23_1); (try clear hcz23_2); (try clear hcz23_3); (try clear hcz23_4); (try clear hcz23_5); (try clear hcz25_0); (try clear hcz25_1); (try clear hcz25_2); (try clear hcz25_3); (try clear hcz25_4); (try clear hcz25_5); (try clear hcz26_0); (try clear hcz26_1); (try clear hcz26_2); (try clear hcz26_3); (try clear hcz26_4); (try clear hcz26_5); (try clear hfz12_0); (try clear hfz12_1); (try clear hfz12_2); (try clear hfz12_3); (try clear hfz12_4); (try clear hfz12_5); (try clear hfz13_0); (try clear hfz13_1); (try clear hfz13_2); (try clear hfz13_3); (try clear hfz13_4); (try clear hfz13_5); (try clear hfz15_0); (try clear hfz15_1); (try clear hfz15_2); (try clear hfz15_3); (try clear hfz15_4); (try clear hfz15_5); (try clear hfz16_0); (try clear hfz16_1); (try clear hfz16_2); (try clear hfz16_3); (try clear hfz16_4); (try clear hfz16_5); (try clear hfz18_0); (try clear hfz18_1); (try clear hfz18_2); (try clear hfz18_3); (try clear hfz18_4); (try clear hfz18_5); (try clear hfz19_0); (try clear hfz19_1); (try clear hfz19_2); (try clear hfz19_3); (try clear hfz19_4); (try clear hfz19_5); (try clear hfz22_0); (try clear hfz22_1); (try clear hfz22_2); (try clear hfz22_3); (try clear hfz22_4); (try clear hfz22_5); (try clear hfz23_0); (try clear hfz23_1); (try clear hfz23_2); (try clear hfz23_3); (try clear hfz23_4); (try clear hfz23_5); (try clear hfz25_0); (try clear hfz25_1); (try clear hfz25_2); (try clear hfz25_3); (try clear hfz25_4); (try clear hfz25_5); (try clear hfz26_0); (try clear hfz26_1); (try clear hfz26_2); (try clear hfz26_3); (try clear hfz26_4); (try clear hfz26_5); (try clear p2)
     obtain ⟨x5_2, rfl, HA, HK2, BK121, BK122, HB⟩ := hrel
     cases gk with
     | zero => exact absurd HA.out (by simp [spec_EqualSites.l0])
     | succ k2 =>
      have H := HA.out; clear HA
      simp only [spec_EqualSites.l0] at H
      by_cases c28 : x5_2 < (l0_1.length : Int)
      ·rw [if_pos c28] at H
       have c28b0 : decide (x5_2 < (l0_1.length : Int)) = true := decide_eq_true c28
       clear c28
       by_cases c29 : 0 ≤ x5_2
       ·rw [if_pos c29] at H; have c29b0 : decide (0 ≤ x5_2) = true := decide_eq_true c29; clear c29
        by_cases c30 : x5_2 < (l1_1.length : Int)
        ·rw [if_pos c30] at H
         have c30b0 : decide (x5_2 < (l1_1.length : Int)) = true := decide_eq_true c30
         clear c30; replace H := Option.bind_eq_some_iff.mp H; obtain ⟨t127, A310, H⟩ := H; (try dsimp only at H); have A31 := Aside0.mk A310; clear A310
         by_cases c32 : t127 = true
         ·subst c32; rw [if_pos rfl] at H
          have H' := Aside0.mk H
          clear H; have hnb33 := NB121_122.out; have hnc33 := NB122_121.out
          have hcz34_0 : wr.cell? ⟨gb121, 0, none⟩ = some (.string a0_0) := (blk_cell BK121.out 0).trans rfl
          have hcz34_1 : wr.cell? ⟨gb121, 1, none⟩ = some (.slice A0_1 l0_1.length c0_1) := (blk_cell BK121.out 1).trans rfl
          have hcz34_2 : wr.cell? ⟨gb121, 2, none⟩ = some (.int .i64 a0_2) := (blk_cell BK121.out 2).trans rfl
          have hcz34_3 : wr.cell? ⟨gb121, 3, none⟩ = some (.int .i64 a0_3) := (blk_cell BK121.out 3).trans rfl
          have hcz34_4 : wr.cell? ⟨gb121, 4, none⟩ = some (.slice A0_4 l0_4.length c0_4) := (blk_cell BK121.out 4).trans rfl
          have hcz34_5 : wr.cell? ⟨gb121, 5, none⟩ = some (.slice A0_5 l0_5.length c0_5) := (blk_cell BK121.out 5).trans rfl
          have hfz34_0 := blk_frozen BK121.out 0; have hfz34_1 := blk_frozen BK121.out 1; have hfz34_2 := blk_frozen BK121.out 2; have hfz34_3 := blk_frozen BK121.out 3; have hfz34_4 := blk_frozen BK121.out 4; have hfz34_5 := blk_frozen BK121.out 5
          try go_wp2
          have n0_ := Aside0.mk (blk_drew BK121.out); have n1_ := Aside0.mk (blk_drew BK122.out); have n2_ := Aside0.mk (below_drew1 HB.out); clear BK121; clear BK122; clear HB; have BK121 := n0_; have BK122 := n1_; have HB := n2_; clear n0_ n1_ n2_
          have p125 : 0 ≤ (x5_2 : Int) := of_decide_eq_true Cmp.d
          have q125 : x5_2 < (l0_1.length : Int) := of_decide_eq_true Cmp.d
          obtain ⟨ad125, A125_2, c125_2, e125, hx125_0, hx125_1, hx125_2, hl125_2, hi125_2⟩ := at_T26 HR0_1.out x5_2 p125 q125
          have hw125_2 := hx125_2; have hw125_1 := hx125_1; have hw125_0 := hx125_0; cases e125
          replace hx125_0 := (HB.out.cell (World.block_lt_of_cell? w _ hx125_0)).trans hx125_0
          replace hx125_1 := (HB.out.cell (World.block_lt_of_cell? w _ hx125_1)).trans hx125_1
          replace hx125_2 := (HB.out.cell (World.block_lt_of_cell? w _ hx125_2)).trans hx125_2
          have HR125_2 := Aside0.mk hi125_2; have HC125_2 := Aside0.mk hl125_2; clear hi125_2 hl125_2; replace p125 := eq_true p125; replace q125 := eq_true q125
          have p126 : 0 ≤ (x5_2 : Int) := of_decide_eq_true Cmp.d
          have q126 : x5_2 < (l1_1.length : Int) := of_decide_eq_true Cmp.d
          obtain ⟨ad126, A126_2, c126_2, e126, hx126_0, hx126_1, hx126_2, hl126_2, hi126_2⟩ := at_T26 HR1_1.out x5_2 p126 q126
          have hw126_2 := hx126_2; have hw126_1 := hx126_1; have hw126_0 := hx126_0; cases e126
          replace hx126_0 := (HB.out.cell (World.block_lt_of_cell? w _ hx126_0)).trans hx126_0
          replace hx126_1 := (HB.out.cell (World.block_lt_of_cell? w _ hx126_1)).trans hx126_1
          replace hx126_2 := (HB.out.cell (World.block_lt_of_cell? w _ hx126_2)).trans hx126_2
          have HR126_2 := Aside0.mk hi126_2; have HC126_2 := Aside0.mk hl126_2; clear hi126_2 hl126_2; replace p126 := eq_true p126; replace q126 := eq_true q126
          refine start_ (n := 12) (S := fun w' => w'.cell? ⟨gb121, 0, none⟩ = some (.string a0_0) ∧ w'.cell? ⟨gb121, 1, none⟩ = some (.slice (some ad125) l0_1.length c0_1) ∧ w'.cell? ⟨gb121, 2, none⟩ = some (.int .i64 a0_2) ∧ w'.cell? ⟨gb121, 3, none⟩ = some (.int .i64 a0_3) ∧ w'.cell? ⟨gb121, 4, none⟩ = some (.slice A0_4 l0_4.length c0_4) ∧ w'.cell? ⟨gb121, 5, none⟩ = some (.slice A0_5 l0_5.length c0_5) ∧ w'.cell? ⟨gb122, 0, none⟩ = some (.string a1_0) ∧ w'.cell? ⟨gb122, 1, none⟩ = some (.slice (some ad126) l1_1.length c1_1) ∧ w'.cell? ⟨gb122, 2, none⟩ = some (.int .i64 a1_2) ∧ w'.cell? ⟨gb122, 3, none⟩ = some (.int .i64 a1_3) ∧ w'.cell? ⟨gb122, 4, none⟩ = some (.slice A1_4 l1_4.length c1_4) ∧ w'.cell? ⟨gb122, 5, none⟩ = some (.slice A1_5 l1_5.length c1_5) ∧ w'.cell? (ad125.add ((x5_2).toNat * 3)) = some (.int .i64 ((rd_T26 l0_1 x5_2).f0)) ∧ w'.cell? ⟨(ad125.add ((x5_2).toNat * 3)).block, (ad125.add ((x5_2).toNat * 3)).off + 1, none⟩ = some (.int .i64 ((rd_T26 l0_1 x5_2).f1)) ∧ w'.cell? ⟨(ad125.add ((x5_2).toNat * 3)).block, (ad125.add ((x5_2).toNat * 3)).off + 2, none⟩ = some (.slice A125_2 ((rd_T26 l0_1 x5_2).f2).length c125_2) ∧ w'.cell? (ad126.add ((x5_2).toNat * 3)) = some (.int .i64 ((rd_T26 l1_1 x5_2).f0)) ∧ w'.cell? ⟨(ad126.add ((x5_2).toNat * 3)).block, (ad126.add ((x5_2).toNat * 3)).off + 1, none⟩ = some (.int .i64 ((rd_T26 l1_1 x5_2).f1)) ∧ w'.cell? ⟨(ad126.add ((x5_2).toNat * 3)).block, (ad126.add ((x5_2).toNat * 3)).off + 2, none⟩ = some (.slice A126_2 ((rd_T26 l1_1 x5_2).f2).length c126_2)) (ds := []) (Cmp.bm 0 12) (by kernel_rfl) rfl rfl ⟨(blk_cell BK121.out 0).trans rfl, (blk_cell BK121.out 1).trans rfl, (blk_cell BK121.out 2).trans rfl, (blk_cell BK121.out 3).trans rfl, (blk_cell BK121.out 4).trans rfl, (blk_cell BK121.out 5).trans rfl, (blk_cell BK122.out 0).trans rfl, (blk_cell BK122.out 1).trans rfl, (blk_cell BK122.out 2).trans rfl, (blk_cell BK122.out 3).trans rfl, (blk_cell BK122.out 4).trans rfl, (blk_cell BK122.out 5).trans rfl, ((HB.out.cell (World.block_lt_of_cell? w _ hw125_0)).trans hw125_0), ((HB.out.cell (World.block_lt_of_cell? w _ hw125_1)).trans hw125_1), ((HB.out.cell (World.block_lt_of_cell? w _ hw125_2)).trans hw125_2), ((HB.out.cell (World.block_lt_of_cell? w _ hw126_0)).trans hw126_0), ((HB.out.cell (World.block_lt_of_cell? w _ hw126_1)).trans hw126_1), ((HB.out.cell (World.block_lt_of_cell? w _ hw126_2)).trans hw126_2)⟩ (fun hHeld => ?_); refine with_tabW spec_EqualSites.tab6 spec_EqualSites.bits6 (fun HT_ HW_ => ?_)
          generalize wr.drew = w35 at BK121 BK122 HB HR125_2 HR126_2 hx125_0 hx125_1 hx125_2 hx126_0 hx126_1 hx126_2 hHeld ⊢
          refine Cmp.pu HT_ 0 43 (Cmp.bm 1 11) ?_; refine Cmp.pu HT_ 2 45 (Cmp.bb 12 5) ?_; refine Cmp.pu HT_ 5 48 (Cmp.bb 12 37) ?_; refine Cmp.pu HT_ 7 50 (Cmp.bb 12 165) ?_; refine Cmp.tk HT_ HW_ hHeld 1 44 (Cmp.bb 12 167) ?_; refine Cmp.pu HT_ 3 46 (Cmp.bb 12 175) ?_; refine Cmp.tk HT_ HW_ hHeld 4 47 (Cmp.bb 12 191) ?_; refine Cmp.tk HT_ HW_ hHeld 6 49 (Cmp.bm 8 4) ?_; refine Cmp.pu HT_ 8 51 (Cmp.bm 9 3) ?_; refine Cmp.tk HT_ HW_ hHeld 9 52 (Cmp.bm 10 2) ?_
          refine one_ (i := 10) (N := some 53) (Cmp.bm 11 1) rfl rfl (one_of HT_.out (by kernel_rfl)) (by decide) (fun K hK => ?_)
          refine goes_ Try.func73 (by kernel_rfl) rfl #[.agg #[.int .i64 ((rd_T26 l0_1 x5_2).f0), .int .i64 ((rd_T26 l0_1 x5_2).f1), .slice A125_2 ((rd_T26 l0_1 x5_2).f2).length c125_2], .agg #[.int .i64 ((rd_T26 l1_1 x5_2).f0), .int .i64 ((rd_T26 l1_1 x5_2).f1), .slice A126_2 ((rd_T26 l1_1 x5_2).f2).length c126_2]] (by rfl) rfl rfl Cmp.q ?_
          with_reducible refine (spec_EqualAccounts.calls k2 ((rd_T26 l0_1 x5_2).f0) ((rd_T26 l0_1 x5_2).f1) _ _ ((rd_T26 l0_1 x5_2).f2) ((rd_T26 l1_1 x5_2).f0) ((rd_T26 l1_1 x5_2).f1) _ _ ((rd_T26 l1_1 x5_2).f2) true _ ?side1 ?side2 ?side3 ?side4 A31.out).mono ?_
          (case side1 => exact Cmp.rc (Kd.C_below HR125_2.out HB.out))
          (case side2 => exact HC125_2.out)
          (case side3 => exact Cmp.rc (Kd.C_below HR126_2.out HB.out))
          (case side4 => exact HC126_2.out)
          rintro e w36 ⟨rfl, hb⟩; refine ⟨_, rfl, ?_⟩
          have n0_ := Aside0.mk (blk_below (Cmp.b BK121.out) hb)
          have n1_ := Aside0.mk (blk_below (Cmp.b BK122.out) hb)
          have n2_ := Aside0.mk (below_step (Cmp.g HB.out) hb)
          clear BK121; clear BK122; clear HB; have BK121 := n0_; have BK122 := n1_; have HB := n2_; clear n0_ n1_ n2_; (try clear hb); (try clear hb2); (try clear hk); (try clear hi)
          refine hK.out _ _ ⟨(blk_cell BK121.out 0).trans rfl, (blk_cell BK121.out 1).trans rfl, (blk_cell BK121.out 2).trans rfl, (blk_cell BK121.out 3).trans rfl, (blk_cell BK121.out 4).trans rfl, (blk_cell BK121.out 5).trans rfl, (blk_cell BK122.out 0).trans rfl, (blk_cell BK122.out 1).trans rfl, (blk_cell BK122.out 2).trans rfl, (blk_cell BK122.out 3).trans rfl, (blk_cell BK122.out 4).trans rfl, (blk_cell BK122.out 5).trans rfl, ((HB.out.cell (World.block_lt_of_cell? w _ hw125_0)).trans hw125_0), ((HB.out.cell (World.block_lt_of_cell? w _ hw125_1)).trans hw125_1), ((HB.out.cell (World.block_lt_of_cell? w _ hw125_2)).trans hw125_2), ((HB.out.cell (World.block_lt_of_cell? w _ hw126_0)).trans hw126_0), ((HB.out.cell (World.block_lt_of_cell? w _ hw126_1)).trans hw126_1), ((HB.out.cell (World.block_lt_of_cell? w _ hw126_2)).trans hw126_2)⟩ (fun hHeld => ?_)
          clear hK K
          refine norm_ (a' := ?_) ?_ ?_
          rotate_left
          ·show Act.put _ (some 53) _ = _
           simp only [Act.put, Cmp.s, Cmp.z, Cmp.c, i64_w, i32_w]; rfl
          refine Cmp.pu HT_ 11 54 (Cmp.bm 12 0) ?_
          refine done_ (done_of HT_.out (by kernel_rfl)) ?_
          try go_wp2
          go_roundg k2
          case measure => have := HJ2.out; have := HK2.out; omega
          case rel => exact ⟨(wrap64 (x5_2 + 1)), (by first | rfl | simp | simp [*]), H', ⟨by have := HJ2.out; have := HK2.out; omega⟩, ⟨by refine Cmp.b ?_; exact BK121.out⟩, ⟨by refine Cmp.b ?_; exact BK122.out⟩, ⟨Cmp.g HB.out⟩⟩
         ·replace c32 := Bool.eq_false_iff.mpr c32
          subst c32
          have H1 : (some false) = some r := by rw [if_neg (show ¬ (false = true) by decide)] at H; exact H
          clear H; have H := H1; clear H1
          obtain rfl := Option.some.inj H
          have hnb37 := NB121_122.out; have hnc37 := NB122_121.out
          have hcz38_0 : wr.cell? ⟨gb121, 0, none⟩ = some (.string a0_0) := (blk_cell BK121.out 0).trans rfl
          have hcz38_1 : wr.cell? ⟨gb121, 1, none⟩ = some (.slice A0_1 l0_1.length c0_1) := (blk_cell BK121.out 1).trans rfl
          have hcz38_2 : wr.cell? ⟨gb121, 2, none⟩ = some (.int .i64 a0_2) := (blk_cell BK121.out 2).trans rfl
          have hcz38_3 : wr.cell? ⟨gb121, 3, none⟩ = some (.int .i64 a0_3) := (blk_cell BK121.out 3).trans rfl
          have hcz38_4 : wr.cell? ⟨gb121, 4, none⟩ = some (.slice A0_4 l0_4.length c0_4) := (blk_cell BK121.out 4).trans rfl
          have hcz38_5 : wr.cell? ⟨gb121, 5, none⟩ = some (.slice A0_5 l0_5.length c0_5) := (blk_cell BK121.out 5).trans rfl
          have hfz38_0 := blk_frozen BK121.out 0; have hfz38_1 := blk_frozen BK121.out 1; have hfz38_2 := blk_frozen BK121.out 2; have hfz38_3 := blk_frozen BK121.out 3; have hfz38_4 := blk_frozen BK121.out 4; have hfz38_5 := blk_frozen BK121.out 5
          try go_wp2
          have n0_ := Aside0.mk (blk_drew BK121.out); have n1_ := Aside0.mk (blk_drew BK122.out); have n2_ := Aside0.mk (below_drew1 HB.out); clear BK121; clear BK122; clear HB; have BK121 := n0_; have BK122 := n1_; have HB := n2_; clear n0_ n1_ n2_
          have p125 : 0 ≤ (x5_2 : Int) := of_decide_eq_true Cmp.d
          have q125 : x5_2 < (l0_1.length : Int) := of_decide_eq_true Cmp.d
          obtain ⟨ad125, A125_2, c125_2, e125, hx125_0, hx125_1, hx125_2, hl125_2, hi125_2⟩ := at_T26 HR0_1.out x5_2 p125 q125
          have hw125_2 := hx125_2; have hw125_1 := hx125_1; have hw125_0 := hx125_0; cases e125
          replace hx125_0 := (HB.out.cell (World.block_lt_of_cell? w _ hx125_0)).trans hx125_0
          replace hx125_1 := (HB.out.cell (World.block_lt_of_cell? w _ hx125_1)).trans hx125_1
          replace hx125_2 := (HB.out.cell (World.block_lt_of_cell? w _ hx125_2)).trans hx125_2
          have HR125_2 := Aside0.mk hi125_2; have HC125_2 := Aside0.mk hl125_2; clear hi125_2 hl125_2; replace p125 := eq_true p125; replace q125 := eq_true q125
          have p126 : 0 ≤ (x5_2 : Int) := of_decide_eq_true Cmp.d
          have q126 : x5_2 < (l1_1.length : Int) := of_decide_eq_true Cmp.d
          obtain ⟨ad126, A126_2, c126_2, e126, hx126_0, hx126_1, hx126_2, hl126_2, hi126_2⟩ := at_T26 HR1_1.out x5_2 p126 q126
          have hw126_2 := hx126_2; have hw126_1 := hx126_1; have hw126_0 := hx126_0; cases e126
          replace hx126_0 := (HB.out.cell (World.block_lt_of_cell? w _ hx126_0)).trans hx126_0
          replace hx126_1 := (HB.out.cell (World.block_lt_of_cell? w _ hx126_1)).trans hx126_1
          replace hx126_2 := (HB.out.cell (World.block_lt_of_cell? w _ hx126_2)).trans hx126_2
          have HR126_2 := Aside0.mk hi126_2; have HC126_2 := Aside0.mk hl126_2; clear hi126_2 hl126_2; replace p126 := eq_true p126; replace q126 := eq_true q126
          refine start_ (n := 12) (S := fun w' => w'.cell? ⟨gb121, 0, none⟩ = some (.string a0_0) ∧ w'.cell? ⟨gb121, 1, none⟩ = some (.slice (some ad125) l0_1.length c0_1) ∧ w'.cell? ⟨gb121, 2, none⟩ = some (.int .i64 a0_2) ∧ w'.cell? ⟨gb121, 3, none⟩ = some (.int .i64 a0_3) ∧ w'.cell? ⟨gb121, 4, none⟩ = some (.slice A0_4 l0_4.length c0_4) ∧ w'.cell? ⟨gb121, 5, none⟩ = some (.slice A0_5 l0_5.length c0_5) ∧ w'.cell? ⟨gb122, 0, none⟩ = some (.string a1_0) ∧ w'.cell? ⟨gb122, 1, none⟩ = some (.slice (some ad126) l1_1.length c1_1) ∧ w'.cell? ⟨gb122, 2, none⟩ = some (.int .i64 a1_2) ∧ w'.cell? ⟨gb122, 3, none⟩ = some (.int .i64 a1_3) ∧ w'.cell? ⟨gb122, 4, none⟩ = some (.slice A1_4 l1_4.length c1_4) ∧ w'.cell? ⟨gb122, 5, none⟩ = some (.slice A1_5 l1_5.length c1_5) ∧ w'.cell? (ad125.add ((x5_2).toNat * 3)) = some (.int .i64 ((rd_T26 l0_1 x5_2).f0)) ∧ w'.cell? ⟨(ad125.add ((x5_2).toNat * 3)).block, (ad125.add ((x5_2).toNat * 3)).off + 1, none⟩ = some (.int .i64 ((rd_T26 l0_1 x5_2).f1)) ∧ w'.cell? ⟨(ad125.add ((x5_2).toNat * 3)).block, (ad125.add ((x5_2).toNat * 3)).off + 2, none⟩ = some (.slice A125_2 ((rd_T26 l0_1 x5_2).f2).length c125_2) ∧ w'.cell? (ad126.add ((x5_2).toNat * 3)) = some (.int .i64 ((rd_T26 l1_1 x5_2).f0)) ∧ w'.cell? ⟨(ad126.add ((x5_2).toNat * 3)).block, (ad126.add ((x5_2).toNat * 3)).off + 1, none⟩ = some (.int .i64 ((rd_T26 l1_1 x5_2).f1)) ∧ w'.cell? ⟨(ad126.add ((x5_2).toNat * 3)).block, (ad126.add ((x5_2).toNat * 3)).off + 2, none⟩ = some (.slice A126_2 ((rd_T26 l1_1 x5_2).f2).length c126_2)) (ds := []) (Cmp.bm 0 12) (by kernel_rfl) rfl rfl ⟨(blk_cell BK121.out 0).trans rfl, (blk_cell BK121.out 1).trans rfl, (blk_cell BK121.out 2).trans rfl, (blk_cell BK121.out 3).trans rfl, (blk_cell BK121.out 4).trans rfl, (blk_cell BK121.out 5).trans rfl, (blk_cell BK122.out 0).trans rfl, (blk_cell BK122.out 1).trans rfl, (blk_cell BK122.out 2).trans rfl, (blk_cell BK122.out 3).trans rfl, (blk_cell BK122.out 4).trans rfl, (blk_cell BK122.out 5).trans rfl, ((HB.out.cell (World.block_lt_of_cell? w _ hw125_0)).trans hw125_0), ((HB.out.cell (World.block_lt_of_cell? w _ hw125_1)).trans hw125_1), ((HB.out.cell (World.block_lt_of_cell? w _ hw125_2)).trans hw125_2), ((HB.out.cell (World.block_lt_of_cell? w _ hw126_0)).trans hw126_0), ((HB.out.cell (World.block_lt_of_cell? w _ hw126_1)).trans hw126_1), ((HB.out.cell (World.block_lt_of_cell? w _ hw126_2)).trans hw126_2)⟩ (fun hHeld => ?_); refine with_tabW spec_EqualSites.tab6 spec_EqualSites.bits6 (fun HT_ HW_ => ?_)
          generalize wr.drew = w39 at BK121 BK122 HB HR125_2 HR126_2 hx125_0 hx125_1 hx125_2 hx126_0 hx126_1 hx126_2 hHeld ⊢
          refine Cmp.pu HT_ 0 43 (Cmp.bm 1 11) ?_; refine Cmp.pu HT_ 2 45 (Cmp.bb 12 5) ?_; refine Cmp.pu HT_ 5 48 (Cmp.bb 12 37) ?_; refine Cmp.pu HT_ 7 50 (Cmp.bb 12 165) ?_; refine Cmp.tk HT_ HW_ hHeld 1 44 (Cmp.bb 12 167) ?_; refine Cmp.pu HT_ 3 46 (Cmp.bb 12 175) ?_; refine Cmp.tk HT_ HW_ hHeld 4 47 (Cmp.bb 12 191) ?_; refine Cmp.tk HT_ HW_ hHeld 6 49 (Cmp.bm 8 4) ?_; refine Cmp.pu HT_ 8 51 (Cmp.bm 9 3) ?_; refine Cmp.tk HT_ HW_ hHeld 9 52 (Cmp.bm 10 2) ?_
          refine one_ (i := 10) (N := some 53) (Cmp.bm 11 1) rfl rfl (one_of HT_.out (by kernel_rfl)) (by decide) (fun K hK => ?_)
          refine goes_ Try.func73 (by kernel_rfl) rfl #[.agg #[.int .i64 ((rd_T26 l0_1 x5_2).f0), .int .i64 ((rd_T26 l0_1 x5_2).f1), .slice A125_2 ((rd_T26 l0_1 x5_2).f2).length c125_2], .agg #[.int .i64 ((rd_T26 l1_1 x5_2).f0), .int .i64 ((rd_T26 l1_1 x5_2).f1), .slice A126_2 ((rd_T26 l1_1 x5_2).f2).length c126_2]] (by rfl) rfl rfl Cmp.q ?_
          with_reducible refine (spec_EqualAccounts.calls k2 ((rd_T26 l0_1 x5_2).f0) ((rd_T26 l0_1 x5_2).f1) _ _ ((rd_T26 l0_1 x5_2).f2) ((rd_T26 l1_1 x5_2).f0) ((rd_T26 l1_1 x5_2).f1) _ _ ((rd_T26 l1_1 x5_2).f2) false _ ?side1 ?side2 ?side3 ?side4 A31.out).mono ?_
          (case side1 => exact Cmp.rc (Kd.C_below HR125_2.out HB.out))
          (case side2 => exact HC125_2.out)
          (case side3 => exact Cmp.rc (Kd.C_below HR126_2.out HB.out))
          (case side4 => exact HC126_2.out)
          rintro e w40 ⟨rfl, hb⟩; refine ⟨_, rfl, ?_⟩
          have n0_ := Aside0.mk (blk_below (Cmp.b BK121.out) hb)
          have n1_ := Aside0.mk (blk_below (Cmp.b BK122.out) hb)
          have n2_ := Aside0.mk (below_step (Cmp.g HB.out) hb)
          clear BK121; clear BK122; clear HB; have BK121 := n0_; have BK122 := n1_; have HB := n2_; clear n0_ n1_ n2_; (try clear hb); (try clear hb2); (try clear hk); (try clear hi)
          refine hK.out _ _ ⟨(blk_cell BK121.out 0).trans rfl, (blk_cell BK121.out 1).trans rfl, (blk_cell BK121.out 2).trans rfl, (blk_cell BK121.out 3).trans rfl, (blk_cell BK121.out 4).trans rfl, (blk_cell BK121.out 5).trans rfl, (blk_cell BK122.out 0).trans rfl, (blk_cell BK122.out 1).trans rfl, (blk_cell BK122.out 2).trans rfl, (blk_cell BK122.out 3).trans rfl, (blk_cell BK122.out 4).trans rfl, (blk_cell BK122.out 5).trans rfl, ((HB.out.cell (World.block_lt_of_cell? w _ hw125_0)).trans hw125_0), ((HB.out.cell (World.block_lt_of_cell? w _ hw125_1)).trans hw125_1), ((HB.out.cell (World.block_lt_of_cell? w _ hw125_2)).trans hw125_2), ((HB.out.cell (World.block_lt_of_cell? w _ hw126_0)).trans hw126_0), ((HB.out.cell (World.block_lt_of_cell? w _ hw126_1)).trans hw126_1), ((HB.out.cell (World.block_lt_of_cell? w _ hw126_2)).trans hw126_2)⟩ (fun hHeld => ?_)
          clear hK K
          refine norm_ (a' := ?_) ?_ ?_
          rotate_left
          ·show Act.put _ (some 53) _ = _
           simp only [Act.put, Cmp.s, Cmp.z, Cmp.c, i64_w, i32_w]; rfl
          refine Cmp.pu HT_ 11 54 (Cmp.bm 12 0) ?_
          refine done_ (done_of HT_.out (by kernel_rfl)) ?_
          try go_wp2
          go_ret
          exact ⟨by first | rfl | (simp [errW_none, errW_some] <;> rfl) | (simp [*, errW_none, errW_some] <;> rfl), Cmp.g HB.out⟩
        ·rw [if_neg c30] at H; exact absurd H (by simp)
       ·rw [if_neg c29] at H; exact absurd H (by simp)
      ·rw [if_neg c28] at H
       have c28b0 : decide (x5_2 < (l0_1.length : Int)) = false := decide_eq_false c28
       clear c28
       obtain rfl := Option.some.inj H
       have hnb41 := NB121_122.out; have hnc41 := NB122_121.out
       have hcz42_0 : wr.cell? ⟨gb121, 0, none⟩ = some (.string a0_0) := (blk_cell BK121.out 0).trans rfl
       have hcz42_1 : wr.cell? ⟨gb121, 1, none⟩ = some (.slice A0_1 l0_1.length c0_1) := (blk_cell BK121.out 1).trans rfl
       have hcz42_2 : wr.cell? ⟨gb121, 2, none⟩ = some (.int .i64 a0_2) := (blk_cell BK121.out 2).trans rfl
       have hcz42_3 : wr.cell? ⟨gb121, 3, none⟩ = some (.int .i64 a0_3) := (blk_cell BK121.out 3).trans rfl
       have hcz42_4 : wr.cell? ⟨gb121, 4, none⟩ = some (.slice A0_4 l0_4.length c0_4) := (blk_cell BK121.out 4).trans rfl
       have hcz42_5 : wr.cell? ⟨gb121, 5, none⟩ = some (.slice A0_5 l0_5.length c0_5) := (blk_cell BK121.out 5).trans rfl
       have hfz42_0 := blk_frozen BK121.out 0; have hfz42_1 := blk_frozen BK121.out 1; have hfz42_2 := blk_frozen BK121.out 2; have hfz42_3 := blk_frozen BK121.out 3; have hfz42_4 := blk_frozen BK121.out 4; have hfz42_5 := blk_frozen BK121.out 5
       go_wp2
       go_ret
       exact ⟨by first | rfl | (simp [errW_none, errW_some] <;> rfl) | (simp [*, errW_none, errW_some] <;> rfl), Cmp.g HB.out⟩

end Go.Proofs.Ytgcipecdaimjfaa.PFnExactEqualSites

/- Printed functions of the program, out of print.sh, told more shortly. No condition. -/
import Derived.Test.YtoffbjjkegeccaaCmp
import Derived.Test.YtoffbjjkegeccaaPFnExactAddCredentialx0
import Derived.Test.YtoffbjjkegeccaaPFnExactAddCredentialx2
namespace Go.Proofs.Ytoffbjjkegeccaa.PFnExactAddCredential
open Go.Proofs.Ytoffbjjkegeccaa
open Go.RowKit Go.Proofs.YtoffbjjkegeccaaW.PrintWords Go.Proofs.YtoffbjjkegeccaaW.PrintLast Go.Proofs.YtoffbjjkegeccaaW.PrintMore
attribute [local go_sem] max2_int min2_int max_two min_two max_three min_three max_four min_four   -- for this text's walks alone
set_option linter.unusedVariables false
set_option linter.unusedSimpArgs false

/-! ### spec_IsValidAccount: function 45 -/
mutual
def spec_IsValidAccount.l0 : Nat → Int → Int → Int → List (S83) → Option (Bool)
  | 0, _, _, _, _ => none
  | k + 1, x3, x157000, x157001, x157002 => if x3 < (x157002.length : Int) then (if 0 ≤ x3 then ((spec_l1In.f ((rd_T83 x157002 x3).f0) 0 1000000).bind fun t161 => (if t161 = true then (if x3 > 0 then (if 0 ≤ (wrap64 (x3 - 1)) then (if (wrap64 (x3 - 1)) < (x157002.length : Int) then (if ((rd_T83 x157002 (wrap64 (x3 - 1))).f0) ≥ ((rd_T83 x157002 x3).f0) then (spec_IsValidAccount.j1 k x3 true x157000 x157001 x157002 ((rd_T83 x157002 x3).f0) ((rd_T83 x157002 x3).f1) ((rd_T83 x157002 x3).f2) ((rd_T83 x157002 x3).f3)) else ((spec_PrivateKey.f k ((rd_T83 x157002 x3).f1)).bind fun t163 => (if t163 = 0 then (spec_IsValidAccount.j1 k x3 true x157000 x157001 x157002 ((rd_T83 x157002 x3).f0) ((rd_T83 x157002 x3).f1) ((rd_T83 x157002 x3).f2) ((rd_T83 x157002 x3).f3)) else ((spec_l1In.f ((rd_T83 x157002 x3).f2) 0 1000000).bind fun t164 => (spec_IsValidAccount.j1 k x3 (!t164) x157000 x157001 x157002 ((rd_T83 x157002 x3).f0) ((rd_T83 x157002 x3).f1) ((rd_T83 x157002 x3).f2) ((rd_T83 x157002 x3).f3)))))) else (none)) else (none)) else ((spec_PrivateKey.f k ((rd_T83 x157002 x3).f1)).bind fun t165 => (if t165 = 0 then (spec_IsValidAccount.j1 k x3 true x157000 x157001 x157002 ((rd_T83 x157002 x3).f0) ((rd_T83 x157002 x3).f1) ((rd_T83 x157002 x3).f2) ((rd_T83 x157002 x3).f3)) else ((spec_l1In.f ((rd_T83 x157002 x3).f2) 0 1000000).bind fun t166 => (spec_IsValidAccount.j1 k x3 (!t166) x157000 x157001 x157002 ((rd_T83 x157002 x3).f0) ((rd_T83 x157002 x3).f1) ((rd_T83 x157002 x3).f2) ((rd_T83 x157002 x3).f3)))))) else (spec_IsValidAccount.j1 k x3 true x157000 x157001 x157002 ((rd_T83 x157002 x3).f0) ((rd_T83 x157002 x3).f1) ((rd_T83 x157002 x3).f2) ((rd_T83 x157002 x3).f3)))) else (none)) else ((spec_l1In.f x157000 0 1000000).bind fun t157 => (if t157 = true then ((spec_l1In.f x157001 1 3).bind fun t158 => (if t158 = true then (some (decide ((x157002.length : Int) ≤ 8))) else (some false))) else (some false)))
def spec_IsValidAccount.j1 : Nat → Int → Bool → Int → Int → List (S83) → Int → Int → Int → Bool → Option (Bool)
  | 0, _, _, _, _, _, _, _, _, _ => none
  | k + 1, x3, x49, x157000, x157001, x157002, x161000, x161001, x161002, x161003 => if x49 = true then (some false) else (spec_IsValidAccount.l1 k x3 0 x157000 x157001 x157002 x161000 x161001 x161002 x161003)
def spec_IsValidAccount.l1 : Nat → Int → Int → Int → Int → List (S83) → Int → Int → Int → Bool → Option (Bool)
  | 0, _, _, _, _, _, _, _, _, _ => none
  | k + 1, x3, x5, x157000, x157001, x157002, x161000, x161001, x161002, x161003 => if x5 < x3 then (if 0 ≤ x5 then (if x5 < (x157002.length : Int) then (if ((rd_T83 x157002 x5).f1) = x161001 then (some false) else (spec_IsValidAccount.l1 k x3 (wrap64 (x5 + 1)) x157000 x157001 x157002 x161000 x161001 x161002 x161003)) else (none)) else (none)) else (spec_IsValidAccount.l0 k (wrap64 (x3 + 1)) x157000 x157001 x157002)
end
def spec_IsValidAccount.f (k : Nat) (a0_0 : Int) (a0_1 : Int) (l0_2 : List (S83)) : Option (Bool) := spec_IsValidAccount.l0 k 0 a0_0 a0_1 l0_2
theorem spec_IsValidAccount.mono_l : ∀ k, (∀ y0 y1 y2 y3, LeO (spec_IsValidAccount.l0 k y0 y1 y2 y3) (spec_IsValidAccount.l0 (k + 1) y0 y1 y2 y3)) ∧ (∀ y0 y1 y2 y3 y4 y5 y6 y7 y8, LeO (spec_IsValidAccount.j1 k y0 y1 y2 y3 y4 y5 y6 y7 y8) (spec_IsValidAccount.j1 (k + 1) y0 y1 y2 y3 y4 y5 y6 y7 y8)) ∧ (∀ y0 y1 y2 y3 y4 y5 y6 y7 y8, LeO (spec_IsValidAccount.l1 k y0 y1 y2 y3 y4 y5 y6 y7 y8) (spec_IsValidAccount.l1 (k + 1) y0 y1 y2 y3 y4 y5 y6 y7 y8))
  | 0 => ⟨fun _ _ _ _ r h => by simp [spec_IsValidAccount.l0] at h, fun _ _ _ _ _ _ _ _ _ r h => by simp [spec_IsValidAccount.j1] at h, fun _ _ _ _ _ _ _ _ _ r h => by simp [spec_IsValidAccount.l1] at h⟩
  | k + 1 => by
    obtain ⟨ih0, ih1, ih2⟩ := spec_IsValidAccount.mono_l k
    refine ⟨?_, ?_, ?_⟩
    · intro y0 y1 y2 y3
      unfold spec_IsValidAccount.l0
      repeat' first
      | (with_reducible exact ih0 _ _ _ _)
      | (with_reducible exact ih1 _ _ _ _ _ _ _ _ _)
      | (with_reducible exact ih2 _ _ _ _ _ _ _ _ _)
      | (with_reducible exact spec_PrivateKey.mono _ _)
      | (with_reducible exact LeO.refl _)
      | (with_reducible exact LeO.none _)
      | (with_reducible refine LeO.ite ?_ ?_)
      | (with_reducible refine LeO.bind ?_ (fun _ => ?_))
      | exact ih0 _ _ _ _
      | exact ih1 _ _ _ _ _ _ _ _ _
      | exact ih2 _ _ _ _ _ _ _ _ _
      | exact spec_PrivateKey.mono _ _
      | exact LeO.none _
      | refine LeO.ite ?_ ?_
      | refine LeO.bind ?_ (fun _ => ?_)
    · intro y0 y1 y2 y3 y4 y5 y6 y7 y8
      unfold spec_IsValidAccount.j1
      repeat' first
      | (with_reducible exact ih0 _ _ _ _)
      | (with_reducible exact ih1 _ _ _ _ _ _ _ _ _)
      | (with_reducible exact ih2 _ _ _ _ _ _ _ _ _)
      | (with_reducible exact spec_PrivateKey.mono _ _)
      | (with_reducible exact LeO.refl _)
      | (with_reducible exact LeO.none _)
      | (with_reducible refine LeO.ite ?_ ?_)
      | (with_reducible refine LeO.bind ?_ (fun _ => ?_))
      | exact ih0 _ _ _ _
      | exact ih1 _ _ _ _ _ _ _ _ _
      | exact ih2 _ _ _ _ _ _ _ _ _
      | exact spec_PrivateKey.mono _ _
      | exact LeO.none _
      | refine LeO.ite ?_ ?_
      | refine LeO.bind ?_ (fun _ => ?_)
    · intro y0 y1 y2 y3 y4 y5 y6 y7 y8
      unfold spec_IsValidAccount.l1
      repeat' first
      | (with_reducible exact ih0 _ _ _ _)
      | (with_reducible exact ih1 _ _ _ _ _ _ _ _ _)
      | (with_reducible exact ih2 _ _ _ _ _ _ _ _ _)
      | (with_reducible exact spec_PrivateKey.mono _ _)
      | (with_reducible exact LeO.refl _)
      | (with_reducible exact LeO.none _)
      | (with_reducible refine LeO.ite ?_ ?_)
      | (with_reducible refine LeO.bind ?_ (fun _ => ?_))
      | exact ih0 _ _ _ _
      | exact ih1 _ _ _ _ _ _ _ _ _
      | exact ih2 _ _ _ _ _ _ _ _ _
      | exact spec_PrivateKey.mono _ _
      | exact LeO.none _
      | refine LeO.ite ?_ ?_
      | refine LeO.bind ?_ (fun _ => ?_)
theorem spec_IsValidAccount.mono : ∀ a0 a1 a2 k, LeO (spec_IsValidAccount.f k a0 a1 a2) (spec_IsValidAccount.f (k + 1) a0 a1 a2) := by
  intro a0 a1 a2 k
  obtain ⟨ih0, ih1, ih2⟩ := spec_IsValidAccount.mono_l k
  unfold spec_IsValidAccount.f
  repeat' first
      | (with_reducible exact ih0 _ _ _ _)
      | (with_reducible exact ih1 _ _ _ _ _ _ _ _ _)
      | (with_reducible exact ih2 _ _ _ _ _ _ _ _ _)
      | (with_reducible exact spec_PrivateKey.mono _ _)
      | (with_reducible exact LeO.refl _)
      | (with_reducible exact LeO.none _)
      | (with_reducible refine LeO.ite ?_ ?_)
      | (with_reducible refine LeO.bind ?_ (fun _ => ?_))
      | exact ih0 _ _ _ _
      | exact ih1 _ _ _ _ _ _ _ _ _
      | exact ih2 _ _ _ _ _ _ _ _ _
      | exact spec_PrivateKey.mono _ _
      | exact LeO.none _
      | refine LeO.ite ?_ ?_
      | refine LeO.bind ?_ (fun _ => ?_)
def spec_IsValidAccount.T5 : Bool × List (List Nat × List Nat) := (true, [([], []), ([0], [0]), ([1], [1]), ([2], [2]), ([3, 2], [3]), ([4], [4]), ([5, 4], [4, 5]), ([6, 4, 4], [4, 6]), ([7], [7]), ([8, 7], [7, 8]), ([7], [7]), ([10, 7], [7, 10]), ([9, 11, 7], [7, 9, 11]), ([12, 7], [7, 12]), ([13, 7], [7, 13]), ([7], [7]), ([15, 7], [7, 15]), ([14, 16, 7], [7, 14, 16]), ([7, 17, 4], [4, 7, 17]), ([4, 18], [4, 18]), ([19, 7], [19]), ([20], [20]), ([21, 20], [20, 21]), ([22, 20, 20], [20, 22]), ([23, 20], [20, 23]), ([20, 24], [20, 24]), ([25, 23], [25]), ([26], [26]), ([27, 26], [26, 27]), ([28, 26, 26], [26, 28]), ([29, 26], [26, 29]), ([26, 30], [26, 30])])
def spec_IsValidAccount.B5 : List Nat := [0, 1, 3, 7, 15, 31, 63, 127, 255, 511, 255, 1279, 4095, 8191, 16383, 255, 33023, 131071, 262143, 524287, 1048575, 2097151, 4194303, 8388607, 16777215, 33554431, 67108863, 134217727, 268435455, 536870911, 1073741823, 2147483647]
theorem spec_IsValidAccount.tab5 : rtab .any (opsOf Try.f45 5) = spec_IsValidAccount.T5 := by kernel_rfl
theorem spec_IsValidAccount.bits5 : waitsOk spec_IsValidAccount.T5.2 spec_IsValidAccount.B5 = true := by kernel_rfl
def spec_IsValidAccount.T10 : Bool × List (List Nat × List Nat) := (true, [([], []), ([0], [0]), ([], []), ([1, 2], [1, 2]), ([3], [3]), ([4], [4]), ([], []), ([6], [6]), ([5, 7], [5, 7])])
def spec_IsValidAccount.B10 : List Nat := [0, 1, 0, 7, 15, 31, 0, 64, 255]
theorem spec_IsValidAccount.tab10 : rtab .any (opsOf Try.f45 10) = spec_IsValidAccount.T10 := by kernel_rfl
theorem spec_IsValidAccount.bits10 : waitsOk spec_IsValidAccount.T10.2 spec_IsValidAccount.B10 = true := by kernel_rfl
set_option maxHeartbeats 8000000 in
set_option maxRecDepth 100000 in
theorem spec_IsValidAccount.calls (k : Nat) (a0_0 : Int) (a0_1 : Int) (A0_2 : Option Addr) (c0_2 : Nat) (l0_2 : List (S83)) (r : Bool) (w : World) (hr0_2 : Kd.C k83 w A0_2 l0_2.length l0_2) (hc0_2 : l0_2.length ≤ c0_2) (h : spec_IsValidAccount.f k a0_0 a0_1 l0_2 = some r) :
    Calls Try.prog 45 #[.agg #[.int .i64 a0_0, .int .i64 a0_1, .slice A0_2 l0_2.length c0_2]] w fun e w' => e = .returned (.bool r) ∧ Below w.heap.size w w' := by
 have hu28 := Try.underlying28; have hu83 := Try.underlying83; have HR0_2 := Aside0.mk hr0_2; have HC0_2 := Aside0.mk hc0_2; clear hr0_2 hc0_2
 have HB := Aside0.mk (Below.refl w.heap.size w)
 have H : (spec_IsValidAccount.l0 k 0 a0_0 a0_1 l0_2) = some r := h
 clear h
 have H' := Aside0.mk H
 clear H
 go_enter Try.func45, Try.ntmps45
 go_wp2_with (first | ((with_reducible refine gate_dst (N := 1) rfl ?_); (try (refine gate_guard (by rfl) ?_; dsimp only)); refine box_event (by rfl) (N := 1) (by rfl) (cs := #[.int .i64 a0_0, .int .i64 a0_1, .slice A0_2 l0_2.length c0_2]) (t := 28) (by first | (go_simp; done) | (go_simp; rfl)) ?_; intro gb156 hg w2 hbox hb; have n0_ := Aside0.mk (below_step (Cmp.g HB.out) hb); have n1_ := Aside0.mk (hbox); have n2_ := Aside0.mk ((by rw [hg]; exact (below_size (Cmp.g HB.out)) : w.heap.size ≤ gb156)); have n3_ := Aside0.mk ((by rw [hg]; exact (below_size (Cmp.g HB.out)) : w.heap.size ≤ gb156)); clear HB; have HB := n0_; have BK156 := n1_; have GW156 := n2_; have GE156 := n3_; clear n0_ n1_ n2_ n3_; clear hb hbox hg))
 go_loopg [3] k (fun kq v3 w' => ∃ (x3_1 : Int), v3 = .int .i64 x3_1 ∧ Aside0 (spec_IsValidAccount.l0 kq x3_1 a0_0 a0_1 l0_2 = some r) ∧ Aside0 (kq ≤ k) ∧ Aside0 (w'.heap[gb156]? = some (.cells #[.int .i64 a0_0, .int .i64 a0_1, (.slice A0_2 l0_2.length c0_2)] 28 (0, 0))) ∧ Aside0 (Below w.heap.size w w'))
 case atStart => exact ⟨(0), (by first | rfl | simp | simp [*]), H', ⟨Nat.le_refl _⟩, ⟨by refine Cmp.b ?_; exact BK156.out⟩, ⟨Cmp.g HB.out⟩⟩
 case round =>
  clear H'
  (try clear p2)
  obtain ⟨x3_1, rfl, HA, HK1, BK156, HB⟩ := hrel
  cases gk with
  | zero => exact absurd HA.out (by simp [spec_IsValidAccount.l0])
  | succ k1 =>
   have H := HA.out; clear HA
   simp only [spec_IsValidAccount.l0] at H
   by_cases c3 : x3_1 < (l0_2.length : Int)
   ·rw [if_pos c3] at H
    have c3b0 : decide (x3_1 < (l0_2.length : Int)) = true := decide_eq_true c3
    clear c3
    by_cases c4 : 0 ≤ x3_1
    ·rw [if_pos c4] at H; have c4b0 : decide (0 ≤ x3_1) = true := decide_eq_true c4; clear c4; have HC5 := Aside0.mk H; clear H
     have hcz6_0 : wr.cell? ⟨gb156, 0, none⟩ = some (.int .i64 a0_0) := (blk_cell BK156.out 0).trans rfl
     have hcz6_1 : wr.cell? ⟨gb156, 1, none⟩ = some (.int .i64 a0_1) := (blk_cell BK156.out 1).trans rfl
     have hcz6_2 : wr.cell? ⟨gb156, 2, none⟩ = some (.slice A0_2 l0_2.length c0_2) := (blk_cell BK156.out 2).trans rfl
     have hfz6_0 := blk_frozen BK156.out 0; have hfz6_1 := blk_frozen BK156.out 1; have hfz6_2 := blk_frozen BK156.out 2
     have p159 : 0 ≤ (x3_1 : Int) := of_decide_eq_true Cmp.d
     have q159 : x3_1 < (l0_2.length : Int) := of_decide_eq_true Cmp.d
     obtain ⟨ad159, e159, hx159_0, hx159_1, hx159_2, hx159_3⟩ := at_T83 HR0_2.out x3_1 p159 q159
     cases e159
     replace hx159_0 := (HB.out.cell (World.block_lt_of_cell? w _ hx159_0)).trans hx159_0
     replace hx159_1 := (HB.out.cell (World.block_lt_of_cell? w _ hx159_1)).trans hx159_1
     replace hx159_2 := (HB.out.cell (World.block_lt_of_cell? w _ hx159_2)).trans hx159_2
     replace hx159_3 := (HB.out.cell (World.block_lt_of_cell? w _ hx159_3)).trans hx159_3
     replace p159 := eq_true p159; replace q159 := eq_true q159
     go_upto_region 5 with (first | ((with_reducible refine gate_dst (N := 4) rfl ?_); (try (refine gate_guard (by rfl) ?_; dsimp only)); refine box_event (by rfl) (N := 4) (by rfl) (cs := #[.int .i64 0, .int .i64 0, .int .i64 0, .bool false]) (t := 83) (by first | (go_simp; done) | (go_simp; rfl)) ?_; intro gb160 hg w7 hbox hb; have n0_ := Aside0.mk (blk_below (Cmp.b BK156.out) hb); have n1_ := Aside0.mk (below_step (Cmp.g HB.out) hb); have n2_ := Aside0.mk (hbox); have n3_ := Aside0.mk ((by rw [hg]; exact (below_size (Cmp.g HB.out)) : w.heap.size ≤ gb160)); have n4_ := Aside0.mk ((by rw [hg]; exact (below_size (Cmp.g HB.out)) : w.heap.size ≤ gb160)); have n5_ := Aside0.mk ((by rw [hg]; exact Nat.ne_of_lt (blk_lt (Cmp.b BK156.out)) : gb156 ≠ gb160)); have n6_ := Aside0.mk ((by rw [hg]; exact Nat.ne_of_gt (blk_lt (Cmp.b BK156.out)) : gb160 ≠ gb156)); clear BK156; clear HB; have BK156 := n0_; have HB := n1_; have BK160 := n2_; have GW160 := n3_; have GE160 := n4_; have NB156_160 := n5_; have NB160_156 := n6_; clear n0_ n1_ n2_ n3_ n4_ n5_ n6_; clear hb hbox hg; have hnb8 := NB160_156.out; have hnc8 := NB156_160.out; have hcz9_0 : w7.cell? ⟨gb160, 0, none⟩ = some (.int .i64 0) := (blk_cell BK160.out 0).trans rfl; have hcz9_1 : w7.cell? ⟨gb160, 1, none⟩ = some (.int .i64 0) := (blk_cell BK160.out 1).trans rfl; have hcz9_2 : w7.cell? ⟨gb160, 2, none⟩ = some (.int .i64 0) := (blk_cell BK160.out 2).trans rfl; have hcz9_3 : w7.cell? ⟨gb160, 3, none⟩ = some (.bool false) := (blk_cell BK160.out 3).trans rfl; have hfz9_0 := blk_frozen BK160.out 0; have hfz9_1 := blk_frozen BK160.out 1; have hfz9_2 := blk_frozen BK160.out 2; have hfz9_3 := blk_frozen BK160.out 3))
     (try simp only [Act.put, List.setIfInBounds_toArray, List.set_cons_zero, List.set_cons_succ])
     go_cut [49] (fun v49 wc => ∃ (kq : Nat) (x49_4 : Bool), v49 = .bool x49_4 ∧ Aside0 (spec_IsValidAccount.j1 kq x3_1 x49_4 a0_0 a0_1 l0_2 ((rd_T83 l0_2 x3_1).f0) ((rd_T83 l0_2 x3_1).f1) ((rd_T83 l0_2 x3_1).f2) ((rd_T83 l0_2 x3_1).f3) = some r) ∧ Aside0 (kq ≤ k1) ∧ Aside0 (wc.heap[gb156]? = some (.cells #[.int .i64 a0_0, .int .i64 a0_1, (.slice (some ad159) l0_2.length c0_2)] 28 (0, 0))) ∧ Aside0 (wc.heap[gb160]? = some (.cells #[.int .i64 ((rd_T83 l0_2 x3_1).f0), .int .i64 ((rd_T83 l0_2 x3_1).f1), .int .i64 ((rd_T83 l0_2 x3_1).f2), .bool ((rd_T83 l0_2 x3_1).f3)] 83 (0, 0))) ∧ Aside0 (Below w.heap.size w wc))
     case first =>
      have H := HC5.out; clear HC5; replace H := Option.bind_eq_some_iff.mp H; obtain ⟨t161, A100, H⟩ := H; (try dsimp only at H); have A10 := Aside0.mk A100; clear A100
      by_cases c11 : t161 = true
      ·subst c11; rw [if_pos rfl] at H
       by_cases c12 : x3_1 > 0
       ·rw [if_pos c12] at H; have c12b0 : decide (0 < x3_1) = true := decide_eq_true c12; clear c12
        (first | rw [c12b0] | (simp only [i64_w, i32_w]; rw [c12b0]) | skip)
        obtain ⟨ji13, hji13⟩ : ∃ j_ : Int, (wrap64 (x3_1 - 1)) = j_ := ⟨_, rfl⟩
        replace H : (if 0 ≤ (ji13) then (if (ji13) < (l0_2.length : Int) then (if ((rd_T83 l0_2 (ji13)).f0) ≥ ((rd_T83 l0_2 x3_1).f0) then (spec_IsValidAccount.j1 k1 x3_1 true a0_0 a0_1 l0_2 ((rd_T83 l0_2 x3_1).f0) ((rd_T83 l0_2 x3_1).f1) ((rd_T83 l0_2 x3_1).f2) ((rd_T83 l0_2 x3_1).f3)) else ((spec_PrivateKey.f k1 ((rd_T83 l0_2 x3_1).f1)).bind fun t163 => (if t163 = 0 then (spec_IsValidAccount.j1 k1 x3_1 true a0_0 a0_1 l0_2 ((rd_T83 l0_2 x3_1).f0) ((rd_T83 l0_2 x3_1).f1) ((rd_T83 l0_2 x3_1).f2) ((rd_T83 l0_2 x3_1).f3)) else ((spec_l1In.f ((rd_T83 l0_2 x3_1).f2) 0 1000000).bind fun t164 => (spec_IsValidAccount.j1 k1 x3_1 (!t164) a0_0 a0_1 l0_2 ((rd_T83 l0_2 x3_1).f0) ((rd_T83 l0_2 x3_1).f1) ((rd_T83 l0_2 x3_1).f2) ((rd_T83 l0_2 x3_1).f3)))))) else (none)) else (none)) = some r := by first | (rw [hji13] at H; exact H) | (simp only [hji13] at H ⊢; exact H)
        (try rw [hji13] at A10)
        have hji13w : (IntKind.i64.wrap (x3_1 - 1)) = ji13 := (i64_w _).trans hji13
        by_cases c14 : 0 ≤ (ji13)
        ·rw [if_pos c14] at H; have c14b0 : decide (0 ≤ (ji13)) = true := decide_eq_true c14; clear c14
         by_cases c15 : (ji13) < (l0_2.length : Int)
         ·rw [if_pos c15] at H
          have c15b0 : decide ((ji13) < (l0_2.length : Int)) = true := decide_eq_true c15
          clear c15
          by_cases c16 : ((rd_T83 l0_2 (ji13)).f0) ≥ ((rd_T83 l0_2 x3_1).f0)
          ·rw [if_pos c16] at H; have c16b0 : decide (((rd_T83 l0_2 x3_1).f0) ≤ ((rd_T83 l0_2 (ji13)).f0)) = true := decide_eq_true c16; clear c16
           have H' := Aside0.mk H
           clear H
           try go_wp2
           have n0_ : Aside0 (((((w7.setCell ⟨gb160, 0, none⟩ (.int .i64 ((rd_T83 l0_2 x3_1).f0))).setCell ⟨gb160, 1, none⟩ (.int .i64 ((rd_T83 l0_2 x3_1).f1))).setCell ⟨gb160, 2, none⟩ (.int .i64 ((rd_T83 l0_2 x3_1).f2))).setCell ⟨gb160, 3, none⟩ (.bool ((rd_T83 l0_2 x3_1).f3))).heap[gb156]? = some (.cells #[.int .i64 a0_0, .int .i64 a0_1, .slice (some ad159) l0_2.length c0_2] 28 (0, 0))) := ⟨by refine Cmp.b ?_; refine blk_far ?_ NB156_160.out _; refine Cmp.b ?_; refine blk_far ?_ NB156_160.out _; refine Cmp.b ?_; refine blk_far ?_ NB156_160.out _; refine Cmp.b ?_; refine blk_far ?_ NB156_160.out _; refine Cmp.b ?_; exact BK156.out⟩
           have n1_ : Aside0 (((((w7.setCell ⟨gb160, 0, none⟩ (.int .i64 ((rd_T83 l0_2 x3_1).f0))).setCell ⟨gb160, 1, none⟩ (.int .i64 ((rd_T83 l0_2 x3_1).f1))).setCell ⟨gb160, 2, none⟩ (.int .i64 ((rd_T83 l0_2 x3_1).f2))).setCell ⟨gb160, 3, none⟩ (.bool ((rd_T83 l0_2 x3_1).f3))).heap[gb160]? = some (.cells #[.int .i64 ((rd_T83 l0_2 x3_1).f0), .int .i64 ((rd_T83 l0_2 x3_1).f1), .int .i64 ((rd_T83 l0_2 x3_1).f2), .bool ((rd_T83 l0_2 x3_1).f3)] 83 (0, 0))) := ⟨by refine Cmp.b ?_; refine blk_put (cs := #[.int .i64 ((rd_T83 l0_2 x3_1).f0), .int .i64 ((rd_T83 l0_2 x3_1).f1), .int .i64 ((rd_T83 l0_2 x3_1).f2), .bool false]) ?_ 3 _ rfl; refine Cmp.b ?_; refine blk_put (cs := #[.int .i64 ((rd_T83 l0_2 x3_1).f0), .int .i64 ((rd_T83 l0_2 x3_1).f1), .int .i64 0, .bool false]) ?_ 2 _ rfl; refine Cmp.b ?_; refine blk_put (cs := #[.int .i64 ((rd_T83 l0_2 x3_1).f0), .int .i64 0, .int .i64 0, .bool false]) ?_ 1 _ rfl; refine Cmp.b ?_; refine blk_put (cs := #[.int .i64 0, .int .i64 0, .int .i64 0, .bool false]) ?_ 0 _ rfl; refine Cmp.b ?_; exact BK160.out⟩
           have n2_ : Aside0 (Below w.heap.size w ((((w7.setCell ⟨gb160, 0, none⟩ (.int .i64 ((rd_T83 l0_2 x3_1).f0))).setCell ⟨gb160, 1, none⟩ (.int .i64 ((rd_T83 l0_2 x3_1).f1))).setCell ⟨gb160, 2, none⟩ (.int .i64 ((rd_T83 l0_2 x3_1).f2))).setCell ⟨gb160, 3, none⟩ (.bool ((rd_T83 l0_2 x3_1).f3)))) := ⟨Cmp.g HB.out⟩
           (try clear BK156); (try clear BK160); (try clear HB)
           generalize ((((w7.setCell ⟨gb160, 0, none⟩ (.int .i64 ((rd_T83 l0_2 x3_1).f0))).setCell ⟨gb160, 1, none⟩ (.int .i64 ((rd_T83 l0_2 x3_1).f1))).setCell ⟨gb160, 2, none⟩ (.int .i64 ((rd_T83 l0_2 x3_1).f2))).setCell ⟨gb160, 3, none⟩ (.bool ((rd_T83 l0_2 x3_1).f3))) = w17 at n0_ n1_ n2_ ⊢
           have BK156 := n0_; have BK160 := n1_; have HB := n2_; clear n0_ n1_ n2_; have n0_ := Aside0.mk (blk_drew BK156.out); have n1_ := Aside0.mk (blk_drew BK160.out); have n2_ := Aside0.mk (below_drew1 HB.out); clear BK156; clear BK160; clear HB; have BK156 := n0_; have BK160 := n1_; have HB := n2_; clear n0_ n1_ n2_
           have p162 : 0 ≤ ((ji13) : Int) := of_decide_eq_true Cmp.d
           have q162 : (ji13) < (l0_2.length : Int) := of_decide_eq_true Cmp.d
           obtain ⟨ad162, e162, hx162_0, hx162_1, hx162_2, hx162_3⟩ := at_T83 HR0_2.out (ji13) p162 q162
           have hw162_3 := hx162_3; have hw162_2 := hx162_2; have hw162_1 := hx162_1; have hw162_0 := hx162_0
           obtain rfl : ad159 = ad162 := (by injection e162)
           replace hx162_0 := (HB.out.cell (World.block_lt_of_cell? w _ hx162_0)).trans hx162_0
           replace hx162_1 := (HB.out.cell (World.block_lt_of_cell? w _ hx162_1)).trans hx162_1
           replace hx162_2 := (HB.out.cell (World.block_lt_of_cell? w _ hx162_2)).trans hx162_2
           replace hx162_3 := (HB.out.cell (World.block_lt_of_cell? w _ hx162_3)).trans hx162_3
           replace p162 := eq_true p162; replace q162 := eq_true q162
           refine start_ (n := 32) (S := fun w' => w'.cell? ⟨gb160, 0, none⟩ = some (.int .i64 ((rd_T83 l0_2 x3_1).f0)) ∧ w'.cell? ⟨gb160, 1, none⟩ = some (.int .i64 ((rd_T83 l0_2 x3_1).f1)) ∧ w'.cell? ⟨gb160, 2, none⟩ = some (.int .i64 ((rd_T83 l0_2 x3_1).f2)) ∧ w'.cell? ⟨gb160, 3, none⟩ = some (.bool ((rd_T83 l0_2 x3_1).f3)) ∧ w'.cell? ⟨gb156, 0, none⟩ = some (.int .i64 a0_0) ∧ w'.cell? ⟨gb156, 1, none⟩ = some (.int .i64 a0_1) ∧ w'.cell? ⟨gb156, 2, none⟩ = some (.slice (some ad159) l0_2.length c0_2) ∧ w'.cell? (ad159.add (((ji13)).toNat * 4)) = some (.int .i64 ((rd_T83 l0_2 (ji13)).f0)) ∧ w'.cell? ⟨(ad159.add (((ji13)).toNat * 4)).block, (ad159.add (((ji13)).toNat * 4)).off + 1, none⟩ = some (.int .i64 ((rd_T83 l0_2 (ji13)).f1)) ∧ w'.cell? ⟨(ad159.add (((ji13)).toNat * 4)).block, (ad159.add (((ji13)).toNat * 4)).off + 2, none⟩ = some (.int .i64 ((rd_T83 l0_2 (ji13)).f2)) ∧ w'.cell? ⟨(ad159.add (((ji13)).toNat * 4)).block, (ad159.add (((ji13)).toNat * 4)).off + 3, none⟩ = some (.bool ((rd_T83 l0_2 (ji13)).f3))) (ds := []) (Cmp.bm 0 32) (by kernel_rfl) rfl rfl ⟨(blk_cell BK160.out 0).trans rfl, (blk_cell BK160.out 1).trans rfl, (blk_cell BK160.out 2).trans rfl, (blk_cell BK160.out 3).trans rfl, (blk_cell BK156.out 0).trans rfl, (blk_cell BK156.out 1).trans rfl, (blk_cell BK156.out 2).trans rfl, ((HB.out.cell (World.block_lt_of_cell? w _ hw162_0)).trans hw162_0), ((HB.out.cell (World.block_lt_of_cell? w _ hw162_1)).trans hw162_1), ((HB.out.cell (World.block_lt_of_cell? w _ hw162_2)).trans hw162_2), ((HB.out.cell (World.block_lt_of_cell? w _ hw162_3)).trans hw162_3)⟩ (fun hHeld => ?_); refine with_tabW spec_IsValidAccount.tab5 spec_IsValidAccount.bits5 (fun HT_ HW_ => ?_)
           generalize w17.drew = w18 at BK156 BK160 HB hx162_0 hx162_1 hx162_2 hx162_3 hHeld ⊢
           refine Cmp.pu HT_ 0 18 (Cmp.bm 1 31) ?_; refine Cmp.tk HT_ HW_ hHeld 1 19 (Cmp.bm 2 30) ?_
           refine one_ (i := 2) (N := some 20) (Cmp.bm 3 29) rfl rfl (one_of HT_.out (by kernel_rfl)) (by decide) (fun K hK => ?_)
           refine goes_ Try.func46 (by kernel_rfl) rfl #[.int .i64 ((rd_T83 l0_2 x3_1).f0), .int .i64 0, .int .i64 1000000] (by rfl) rfl rfl Cmp.q ?_
           with_reducible refine (spec_l1In.calls ((rd_T83 l0_2 x3_1).f0) 0 1000000 true _ A10.out).mono ?_
           rintro e w' ⟨rfl, ⟨nd, rfl⟩⟩; refine ⟨_, rfl, ?_⟩
           refine hK.out _ _ ⟨(blk_cell BK160.out 0).trans rfl, (blk_cell BK160.out 1).trans rfl, (blk_cell BK160.out 2).trans rfl, (blk_cell BK160.out 3).trans rfl, (blk_cell BK156.out 0).trans rfl, (blk_cell BK156.out 1).trans rfl, (blk_cell BK156.out 2).trans rfl, ((HB.out.cell (World.block_lt_of_cell? w _ hw162_0)).trans hw162_0), ((HB.out.cell (World.block_lt_of_cell? w _ hw162_1)).trans hw162_1), ((HB.out.cell (World.block_lt_of_cell? w _ hw162_2)).trans hw162_2), ((HB.out.cell (World.block_lt_of_cell? w _ hw162_3)).trans hw162_3)⟩ (fun hHeld => ?_)
           clear hK K
           refine norm_ (a' := ?_) ?_ ?_
           rotate_left
           ·show Act.put _ (some 20) _ = _
            simp only [Act.put, Cmp.s, Cmp.z, Cmp.c, i64_w, i32_w]; rfl
           refine Cmp.pu HT_ 3 21 (Cmp.bm 4 28) ?_; refine Cmp.pu HT_ 4 22 (Cmp.bm 5 27) ?_; refine Cmp.pu HT_ 5 23 (Cmp.bm 6 26) ?_; refine Cmp.pu HT_ 6 24 (Cmp.bm 7 25) ?_; refine Cmp.pu HT_ 7 25 (Cmp.bm 8 24) ?_; refine Cmp.pu HT_ 8 26 (Cmp.bm 9 23) ?_; refine Cmp.pu HT_ 10 28 (Cmp.bb 32 1535) ?_; refine Cmp.pu HT_ 11 29 (Cmp.bb 32 3583) ?_; refine Cmp.pu HT_ 15 33 (Cmp.bb 32 36351) ?_; refine Cmp.tk HT_ HW_ hHeld 9 27 (Cmp.bb 32 36863) ?_; refine Cmp.pu HT_ 12 30 (Cmp.bb 32 40959) ?_; refine Cmp.pu HT_ 13 31 (Cmp.bb 32 49151) ?_; refine Cmp.tk HT_ HW_ hHeld 14 32 (Cmp.bm 16 16) ?_; refine Cmp.tk HT_ HW_ hHeld 16 34 (Cmp.bm 17 15) ?_; refine Cmp.pu HT_ 17 35 (Cmp.bm 18 14) ?_; refine Cmp.pu HT_ 18 36 (Cmp.bm 19 13) ?_; refine Cmp.pu HT_ 19 37 (Cmp.bm 20 12) ?_; refine Cmp.pu HT_ 20 38 (Cmp.bm 21 11) ?_; refine Cmp.pv HT_ 21 39 (Cmp.bm 22 10) ?_; refine Cmp.pv HT_ 22 40 (Cmp.bm 23 9) ?_; refine Cmp.pv HT_ 23 41 (Cmp.bm 24 8) ?_; refine Cmp.pv HT_ 24 42 (Cmp.bm 25 7) ?_; refine Cmp.pu HT_ 25 43 (Cmp.bm 26 6) ?_; refine Cmp.pu HT_ 26 44 (Cmp.bm 27 5) ?_; refine Cmp.pv HT_ 27 45 (Cmp.bm 28 4) ?_; refine Cmp.pv HT_ 28 46 (Cmp.bm 29 3) ?_; refine Cmp.pv HT_ 29 47 (Cmp.bm 30 2) ?_; refine Cmp.pv HT_ 30 48 (Cmp.bm 31 1) ?_; refine Cmp.pu HT_ 31 49 (Cmp.bm 32 0) ?_
           refine done_ (done_of HT_.out (by kernel_rfl)) ?_
           try go_wp2
           go_meet
           case rel => exact ⟨_, (true), (by first | rfl | simp | simp [*]), H', ⟨by have := HK1.out; first | omega | exact Nat.le_refl _⟩, ⟨by refine Cmp.b ?_; exact BK156.out⟩, ⟨by refine Cmp.b ?_; exact BK160.out⟩, ⟨Cmp.g HB.out⟩⟩
          ·rw [if_neg c16] at H; have c16b0 : decide (((rd_T83 l0_2 x3_1).f0) ≤ ((rd_T83 l0_2 (ji13)).f0)) = false := decide_eq_false c16; clear c16; replace H := Option.bind_eq_some_iff.mp H; obtain ⟨t163, A190, H⟩ := H; (try dsimp only at H); have A19 := Aside0.mk A190; clear A190
           by_cases c20 : t163 = 0
           ·rw [if_pos c20] at H; have c20b0 : (t163 == 0) = true := beq_iff_eq.mpr c20; have c20b1 : (t163 != 0) = false := bne_eq_false_iff_eq.mpr c20; clear c20
            have H' := Aside0.mk H
            clear H
            try go_wp2
            have n0_ : Aside0 (((((w7.setCell ⟨gb160, 0, none⟩ (.int .i64 ((rd_T83 l0_2 x3_1).f0))).setCell ⟨gb160, 1, none⟩ (.int .i64 ((rd_T83 l0_2 x3_1).f1))).setCell ⟨gb160, 2, none⟩ (.int .i64 ((rd_T83 l0_2 x3_1).f2))).setCell ⟨gb160, 3, none⟩ (.bool ((rd_T83 l0_2 x3_1).f3))).heap[gb156]? = some (.cells #[.int .i64 a0_0, .int .i64 a0_1, .slice (some ad159) l0_2.length c0_2] 28 (0, 0))) := ⟨by refine Cmp.b ?_; refine blk_far ?_ NB156_160.out _; refine Cmp.b ?_; refine blk_far ?_ NB156_160.out _; refine Cmp.b ?_; refine blk_far ?_ NB156_160.out _; refine Cmp.b ?_; refine blk_far ?_ NB156_160.out _; refine Cmp.b ?_; exact BK156.out⟩
            have n1_ : Aside0 (((((w7.setCell ⟨gb160, 0, none⟩ (.int .i64 ((rd_T83 l0_2 x3_1).f0))).setCell ⟨gb160, 1, none⟩ (.int .i64 ((rd_T83 l0_2 x3_1).f1))).setCell ⟨gb160, 2, none⟩ (.int .i64 ((rd_T83 l0_2 x3_1).f2))).setCell ⟨gb160, 3, none⟩ (.bool ((rd_T83 l0_2 x3_1).f3))).heap[gb160]? = some (.cells #[.int .i64 ((rd_T83 l0_2 x3_1).f0), .int .i64 ((rd_T83 l0_2 x3_1).f1), .int .i64 ((rd_T83 l0_2 x3_1).f2), .bool ((rd_T83 l0_2 x3_1).f3)] 83 (0, 0))) := ⟨by refine Cmp.b ?_; refine blk_put (cs := #[.int .i64 ((rd_T83 l0_2 x3_1).f0), .int .i64 ((rd_T83 l0_2 x3_1).f1), .int .i64 ((rd_T83 l0_2 x3_1).f2), .bool false]) ?_ 3 _ rfl; refine Cmp.b ?_; refine blk_put (cs := #[.int .i64 ((rd_T83 l0_2 x3_1).f0), .int .i64 ((rd_T83 l0_2 x3_1).f1), .int .i64 0, .bool false]) ?_ 2 _ rfl; refine Cmp.b ?_; refine blk_put (cs := #[.int .i64 ((rd_T83 l0_2 x3_1).f0), .int .i64 0, .int .i64 0, .bool false]) ?_ 1 _ rfl; refine Cmp.b ?_; refine blk_put (cs := #[.int .i64 0, .int .i64 0, .int .i64 0, .bool false]) ?_ 0 _ rfl; refine Cmp.b ?_; exact BK160.out⟩
            have n2_ : Aside0 (Below w.heap.size w ((((w7.setCell ⟨gb160, 0, none⟩ (.int .i64 ((rd_T83 l0_2 x3_1).f0))).setCell ⟨gb160, 1, none⟩ (.int .i64 ((rd_T83 l0_2 x3_1).f1))).setCell ⟨gb160, 2, none⟩ (.int .i64 ((rd_T83 l0_2 x3_1).f2))).setCell ⟨gb160, 3, none⟩ (.bool ((rd_T83 l0_2 x3_1).f3)))) := ⟨Cmp.g HB.out⟩
            (try clear BK156); (try clear BK160); (try clear HB)
            generalize ((((w7.setCell ⟨gb160, 0, none⟩ (.int .i64 ((rd_T83 l0_2 x3_1).f0))).setCell ⟨gb160, 1, none⟩ (.int .i64 ((rd_T83 l0_2 x3_1).f1))).setCell ⟨gb160, 2, none⟩ (.int .i64 ((rd_T83 l0_2 x3_1).f2))).setCell ⟨gb160, 3, none⟩ (.bool ((rd_T83 l0_2 x3_1).f3))) = w21 at n0_ n1_ n2_ ⊢
            have BK156 := n0_; have BK160 := n1_; have HB := n2_; clear n0_ n1_ n2_; have n0_ := Aside0.mk (blk_drew BK156.out); have n1_ := Aside0.mk (blk_drew BK160.out); have n2_ := Aside0.mk (below_drew1 HB.out); clear BK156; clear BK160; clear HB; have BK156 := n0_; have BK160 := n1_; have HB := n2_; clear n0_ n1_ n2_
            have p162 : 0 ≤ ((ji13) : Int) := of_decide_eq_true Cmp.d
            have q162 : (ji13) < (l0_2.length : Int) := of_decide_eq_true Cmp.d
            obtain ⟨ad162, e162, hx162_0, hx162_1, hx162_2, hx162_3⟩ := at_T83 HR0_2.out (ji13) p162 q162
            have hw162_3 := hx162_3; have hw162_2 := hx162_2; have hw162_1 := hx162_1; have hw162_0 := hx162_0
            obtain rfl : ad159 = ad162 := (by injection e162)
            replace hx162_0 := (HB.out.cell (World.block_lt_of_cell? w _ hx162_0)).trans hx162_0
            replace hx162_1 := (HB.out.cell (World.block_lt_of_cell? w _ hx162_1)).trans hx162_1
            replace hx162_2 := (HB.out.cell (World.block_lt_of_cell? w _ hx162_2)).trans hx162_2
            replace hx162_3 := (HB.out.cell (World.block_lt_of_cell? w _ hx162_3)).trans hx162_3
            replace p162 := eq_true p162; replace q162 := eq_true q162
            refine start_ (n := 32) (S := fun w' => w'.cell? ⟨gb160, 0, none⟩ = some (.int .i64 ((rd_T83 l0_2 x3_1).f0)) ∧ w'.cell? ⟨gb160, 1, none⟩ = some (.int .i64 ((rd_T83 l0_2 x3_1).f1)) ∧ w'.cell? ⟨gb160, 2, none⟩ = some (.int .i64 ((rd_T83 l0_2 x3_1).f2)) ∧ w'.cell? ⟨gb160, 3, none⟩ = some (.bool ((rd_T83 l0_2 x3_1).f3)) ∧ w'.cell? ⟨gb156, 0, none⟩ = some (.int .i64 a0_0) ∧ w'.cell? ⟨gb156, 1, none⟩ = some (.int .i64 a0_1) ∧ w'.cell? ⟨gb156, 2, none⟩ = some (.slice (some ad159) l0_2.length c0_2) ∧ w'.cell? (ad159.add (((ji13)).toNat * 4)) = some (.int .i64 ((rd_T83 l0_2 (ji13)).f0)) ∧ w'.cell? ⟨(ad159.add (((ji13)).toNat * 4)).block, (ad159.add (((ji13)).toNat * 4)).off + 1, none⟩ = some (.int .i64 ((rd_T83 l0_2 (ji13)).f1)) ∧ w'.cell? ⟨(ad159.add (((ji13)).toNat * 4)).block, (ad159.add (((ji13)).toNat * 4)).off + 2, none⟩ = some (.int .i64 ((rd_T83 l0_2 (ji13)).f2)) ∧ w'.cell? ⟨(ad159.add (((ji13)).toNat * 4)).block, (ad159.add (((ji13)).toNat * 4)).off + 3, none⟩ = some (.bool ((rd_T83 l0_2 (ji13)).f3))) (ds := []) (Cmp.bm 0 32) (by kernel_rfl) rfl rfl ⟨(blk_cell BK160.out 0).trans rfl, (blk_cell BK160.out 1).trans rfl, (blk_cell BK160.out 2).trans rfl, (blk_cell BK160.out 3).trans rfl, (blk_cell BK156.out 0).trans rfl, (blk_cell BK156.out 1).trans rfl, (blk_cell BK156.out 2).trans rfl, ((HB.out.cell (World.block_lt_of_cell? w _ hw162_0)).trans hw162_0), ((HB.out.cell (World.block_lt_of_cell? w _ hw162_1)).trans hw162_1), ((HB.out.cell (World.block_lt_of_cell? w _ hw162_2)).trans hw162_2), ((HB.out.cell (World.block_lt_of_cell? w _ hw162_3)).trans hw162_3)⟩ (fun hHeld => ?_); refine with_tabW spec_IsValidAccount.tab5 spec_IsValidAccount.bits5 (fun HT_ HW_ => ?_)
            generalize w21.drew = w22 at BK156 BK160 HB hx162_0 hx162_1 hx162_2 hx162_3 hHeld ⊢
            refine Cmp.pu HT_ 0 18 (Cmp.bm 1 31) ?_; refine Cmp.tk HT_ HW_ hHeld 1 19 (Cmp.bm 2 30) ?_
            refine one_ (i := 2) (N := some 20) (Cmp.bm 3 29) rfl rfl (one_of HT_.out (by kernel_rfl)) (by decide) (fun K hK => ?_)
            refine goes_ Try.func46 (by kernel_rfl) rfl #[.int .i64 ((rd_T83 l0_2 x3_1).f0), .int .i64 0, .int .i64 1000000] (by rfl) rfl rfl Cmp.q ?_
            with_reducible refine (spec_l1In.calls ((rd_T83 l0_2 x3_1).f0) 0 1000000 true _ A10.out).mono ?_
            rintro e w' ⟨rfl, ⟨nd, rfl⟩⟩; refine ⟨_, rfl, ?_⟩
            refine hK.out _ _ ⟨(blk_cell BK160.out 0).trans rfl, (blk_cell BK160.out 1).trans rfl, (blk_cell BK160.out 2).trans rfl, (blk_cell BK160.out 3).trans rfl, (blk_cell BK156.out 0).trans rfl, (blk_cell BK156.out 1).trans rfl, (blk_cell BK156.out 2).trans rfl, ((HB.out.cell (World.block_lt_of_cell? w _ hw162_0)).trans hw162_0), ((HB.out.cell (World.block_lt_of_cell? w _ hw162_1)).trans hw162_1), ((HB.out.cell (World.block_lt_of_cell? w _ hw162_2)).trans hw162_2), ((HB.out.cell (World.block_lt_of_cell? w _ hw162_3)).trans hw162_3)⟩ (fun hHeld => ?_)
            clear hK K
            refine norm_ (a' := ?_) ?_ ?_
            rotate_left
            ·show Act.put _ (some 20) _ = _
             simp only [Act.put, Cmp.s, Cmp.z, Cmp.c, i64_w, i32_w]; rfl
            refine Cmp.pu HT_ 3 21 (Cmp.bm 4 28) ?_; refine Cmp.pu HT_ 4 22 (Cmp.bm 5 27) ?_; refine Cmp.pu HT_ 5 23 (Cmp.bm 6 26) ?_; refine Cmp.pu HT_ 6 24 (Cmp.bm 7 25) ?_; refine Cmp.pu HT_ 7 25 (Cmp.bm 8 24) ?_; refine Cmp.pu HT_ 8 26 (Cmp.bm 9 23) ?_; refine Cmp.pu HT_ 10 28 (Cmp.bb 32 1535) ?_; refine Cmp.pu HT_ 11 29 (Cmp.bb 32 3583) ?_; refine Cmp.pu HT_ 15 33 (Cmp.bb 32 36351) ?_; refine Cmp.tk HT_ HW_ hHeld 9 27 (Cmp.bb 32 36863) ?_; refine Cmp.pu HT_ 12 30 (Cmp.bb 32 40959) ?_; refine Cmp.pu HT_ 13 31 (Cmp.bb 32 49151) ?_; refine Cmp.tk HT_ HW_ hHeld 14 32 (Cmp.bm 16 16) ?_; refine Cmp.tk HT_ HW_ hHeld 16 34 (Cmp.bm 17 15) ?_; refine Cmp.pu HT_ 17 35 (Cmp.bm 18 14) ?_; refine Cmp.pu HT_ 18 36 (Cmp.bm 19 13) ?_; refine Cmp.pu HT_ 19 37 (Cmp.bm 20 12) ?_; refine Cmp.pu HT_ 20 38 (Cmp.bm 21 11) ?_; refine Cmp.pu HT_ 21 39 (Cmp.bm 22 10) ?_; refine Cmp.tk HT_ HW_ hHeld 22 40 (Cmp.bm 23 9) ?_
            refine one_ (i := 23) (N := some 41) (Cmp.bm 24 8) rfl rfl (one_of HT_.out (by kernel_rfl)) (by decide) (fun K hK => ?_)
            refine goes_ Try.func82 (by kernel_rfl) rfl #[.int .i64 ((rd_T83 l0_2 x3_1).f1)] (by rfl) rfl rfl Cmp.q ?_
            with_reducible refine (spec_PrivateKey.calls k1 ((rd_T83 l0_2 x3_1).f1) t163 _ A19.out).mono ?_
            rintro e w' ⟨rfl, ⟨nd, rfl⟩⟩; refine ⟨_, rfl, ?_⟩
            refine hK.out _ _ ⟨(blk_cell BK160.out 0).trans rfl, (blk_cell BK160.out 1).trans rfl, (blk_cell BK160.out 2).trans rfl, (blk_cell BK160.out 3).trans rfl, (blk_cell BK156.out 0).trans rfl, (blk_cell BK156.out 1).trans rfl, (blk_cell BK156.out 2).trans rfl, ((HB.out.cell (World.block_lt_of_cell? w _ hw162_0)).trans hw162_0), ((HB.out.cell (World.block_lt_of_cell? w _ hw162_1)).trans hw162_1), ((HB.out.cell (World.block_lt_of_cell? w _ hw162_2)).trans hw162_2), ((HB.out.cell (World.block_lt_of_cell? w _ hw162_3)).trans hw162_3)⟩ (fun hHeld => ?_)
            clear hK K
            refine norm_ (a' := ?_) ?_ ?_
            rotate_left
            ·show Act.put _ (some 41) _ = _
             simp only [Act.put, Cmp.s, Cmp.z, Cmp.c, i64_w, i32_w]; rfl
            refine Cmp.pu HT_ 24 42 (Cmp.bm 25 7) ?_; refine Cmp.pu HT_ 25 43 (Cmp.bm 26 6) ?_; refine Cmp.pu HT_ 26 44 (Cmp.bm 27 5) ?_; refine Cmp.pv HT_ 27 45 (Cmp.bm 28 4) ?_; refine Cmp.pv HT_ 28 46 (Cmp.bm 29 3) ?_; refine Cmp.pv HT_ 29 47 (Cmp.bm 30 2) ?_; refine Cmp.pv HT_ 30 48 (Cmp.bm 31 1) ?_; refine Cmp.pu HT_ 31 49 (Cmp.bm 32 0) ?_
            refine done_ (done_of HT_.out (by kernel_rfl)) ?_
            try go_wp2
            go_meet
            case rel => exact ⟨_, (true), (by first | rfl | simp | simp [*]), H', ⟨by have := HK1.out; first | omega | exact Nat.le_refl _⟩, ⟨by refine Cmp.b ?_; exact BK156.out⟩, ⟨by refine Cmp.b ?_; exact BK160.out⟩, ⟨Cmp.g HB.out⟩⟩
           ·rw [if_neg c20] at H; have c20b0 : (t163 == 0) = false := beq_eq_false_iff_ne.mpr c20; have c20b1 : (t163 != 0) = true := bne_iff_ne.mpr c20; replace H := Option.bind_eq_some_iff.mp H; obtain ⟨t164, A230, H⟩ := H; (try dsimp only at H); have A23 := Aside0.mk A230; clear A230
            have H' := Aside0.mk H
            clear H
            try go_wp2
            have n0_ : Aside0 (((((w7.setCell ⟨gb160, 0, none⟩ (.int .i64 ((rd_T83 l0_2 x3_1).f0))).setCell ⟨gb160, 1, none⟩ (.int .i64 ((rd_T83 l0_2 x3_1).f1))).setCell ⟨gb160, 2, none⟩ (.int .i64 ((rd_T83 l0_2 x3_1).f2))).setCell ⟨gb160, 3, none⟩ (.bool ((rd_T83 l0_2 x3_1).f3))).heap[gb156]? = some (.cells #[.int .i64 a0_0, .int .i64 a0_1, .slice (some ad159) l0_2.length c0_2] 28 (0, 0))) := ⟨by refine Cmp.b ?_; refine blk_far ?_ NB156_160.out _; refine Cmp.b ?_; refine blk_far ?_ NB156_160.out _; refine Cmp.b ?_; refine blk_far ?_ NB156_160.out _; refine Cmp.b ?_; refine blk_far ?_ NB156_160.out _; refine Cmp.b ?_; exact BK156.out⟩
            have n1_ : Aside0 (((((w7.setCell ⟨gb160, 0, none⟩ (.int .i64 ((rd_T83 l0_2 x3_1).f0))).setCell ⟨gb160, 1, none⟩ (.int .i64 ((rd_T83 l0_2 x3_1).f1))).setCell ⟨gb160, 2, none⟩ (.int .i64 ((rd_T83 l0_2 x3_1).f2))).setCell ⟨gb160, 3, none⟩ (.bool ((rd_T83 l0_2 x3_1).f3))).heap[gb160]? = some (.cells #[.int .i64 ((rd_T83 l0_2 x3_1).f0), .int .i64 ((rd_T83 l0_2 x3_1).f1), .int .i64 ((rd_T83 l0_2 x3_1).f2), .bool ((rd_T83 l0_2 x3_1).f3)] 83 (0, 0))) := ⟨by refine Cmp.b ?_; refine blk_put (cs := #[.int .i64 ((rd_T83 l0_2 x3_1).f0), .int .i64 ((rd_T83 l0_2 x3_1).f1), .int .i64 ((rd_T83 l0_2 x3_1).f2), .bool false]) ?_ 3 _ rfl; refine Cmp.b ?_; refine blk_put (cs := #[.int .i64 ((rd_T83 l0_2 x3_1).f0), .int .i64 ((rd_T83 l0_2 x3_1).f1), .int .i64 0, .bool false]) ?_ 2 _ rfl; refine Cmp.b ?_; refine blk_put (cs := #[.int .i64 ((rd_T83 l0_2 x3_1).f0), .int .i64 0, .int .i64 0, .bool false]) ?_ 1 _ rfl; refine Cmp.b ?_; refine blk_put (cs := #[.int .i64 0, .int .i64 0, .int .i64 0, .bool false]) ?_ 0 _ rfl; refine Cmp.b ?_; exact BK160.out⟩
            have n2_ : Aside0 (Below w.heap.size w ((((w7.setCell ⟨gb160, 0, none⟩ (.int .i64 ((rd_T83 l0_2 x3_1).f0))).setCell ⟨gb160, 1, none⟩ (.int .i64 ((rd_T83 l0_2 x3_1).f1))).setCell ⟨gb160, 2, none⟩ (.int .i64 ((rd_T83 l0_2 x3_1).f2))).setCell ⟨gb160, 3, none⟩ (.bool ((rd_T83 l0_2 x3_1).f3)))) := ⟨Cmp.g HB.out⟩
            (try clear BK156); (try clear BK160); (try clear HB)
            generalize ((((w7.setCell ⟨gb160, 0, none⟩ (.int .i64 ((rd_T83 l0_2 x3_1).f0))).setCell ⟨gb160, 1, none⟩ (.int .i64 ((rd_T83 l0_2 x3_1).f1))).setCell ⟨gb160, 2, none⟩ (.int .i64 ((rd_T83 l0_2 x3_1).f2))).setCell ⟨gb160, 3, none⟩ (.bool ((rd_T83 l0_2 x3_1).f3))) = w24 at n0_ n1_ n2_ ⊢
            have BK156 := n0_; have BK160 := n1_; have HB := n2_; clear n0_ n1_ n2_; have n0_ := Aside0.mk (blk_drew BK156.out); have n1_ := Aside0.mk (blk_drew BK160.out); have n2_ := Aside0.mk (below_drew1 HB.out); clear BK156; clear BK160; clear HB; have BK156 := n0_; have BK160 := n1_; have HB := n2_; clear n0_ n1_ n2_
            have p162 : 0 ≤ ((ji13) : Int) := of_decide_eq_true Cmp.d
            have q162 : (ji13) < (l0_2.length : Int) := of_decide_eq_true Cmp.d
            obtain ⟨ad162, e162, hx162_0, hx162_1, hx162_2, hx162_3⟩ := at_T83 HR0_2.out (ji13) p162 q162
            have hw162_3 := hx162_3; have hw162_2 := hx162_2; have hw162_1 := hx162_1; have hw162_0 := hx162_0
            obtain rfl : ad159 = ad162 := (by injection e162)
            replace hx162_0 := (HB.out.cell (World.block_lt_of_cell? w _ hx162_0)).trans hx162_0
            replace hx162_1 := (HB.out.cell (World.block_lt_of_cell? w _ hx162_1)).trans hx162_1
            replace hx162_2 := (HB.out.cell (World.block_lt_of_cell? w _ hx162_2)).trans hx162_2
            replace hx162_3 := (HB.out.cell (World.block_lt_of_cell? w _ hx162_3)).trans hx162_3
            replace p162 := eq_true p162; replace q162 := eq_true q162
            refine start_ (n := 32) (S := fun w' => w'.cell? ⟨gb160, 0, none⟩ = some (.int .i64 ((rd_T83 l0_2 x3_1).f0)) ∧ w'.cell? ⟨gb160, 1, none⟩ = some (.int .i64 ((rd_T83 l0_2 x3_1).f1)) ∧ w'.cell? ⟨gb160, 2, none⟩ = some (.int .i64 ((rd_T83 l0_2 x3_1).f2)) ∧ w'.cell? ⟨gb160, 3, none⟩ = some (.bool ((rd_T83 l0_2 x3_1).f3)) ∧ w'.cell? ⟨gb156, 0, none⟩ = some (.int .i64 a0_0) ∧ w'.cell? ⟨gb156, 1, none⟩ = some (.int .i64 a0_1) ∧ w'.cell? ⟨gb156, 2, none⟩ = some (.slice (some ad159) l0_2.length c0_2) ∧ w'.cell? (ad159.add (((ji13)).toNat * 4)) = some (.int .i64 ((rd_T83 l0_2 (ji13)).f0)) ∧ w'.cell? ⟨(ad159.add (((ji13)).toNat * 4)).block, (ad159.add (((ji13)).toNat * 4)).off + 1, none⟩ = some (.int .i64 ((rd_T83 l0_2 (ji13)).f1)) ∧ w'.cell? ⟨(ad159.add (((ji13)).toNat * 4)).block, (ad159.add (((ji13)).toNat * 4)).off + 2, none⟩ = some (.int .i64 ((rd_T83 l0_2 (ji13)).f2)) ∧ w'.cell? ⟨(ad159.add (((ji13)).toNat * 4)).block, (ad159.add (((ji13)).toNat * 4)).off + 3, none⟩ = some (.bool ((rd_T83 l0_2 (ji13)).f3))) (ds := []) (Cmp.bm 0 32) (by kernel_rfl) rfl rfl ⟨(blk_cell BK160.out 0).trans rfl, (blk_cell BK160.out 1).trans rfl, (blk_cell BK160.out 2).trans rfl, (blk_cell BK160.out 3).trans rfl, (blk_cell BK156.out 0).trans rfl, (blk_cell BK156.out 1).trans rfl, (blk_cell BK156.out 2).trans rfl, ((HB.out.cell (World.block_lt_of_cell? w _ hw162_0)).trans hw162_0), ((HB.out.cell (World.block_lt_of_cell? w _ hw162_1)).trans hw162_1), ((HB.out.cell (World.block_lt_of_cell? w _ hw162_2)).trans hw162_2), ((HB.out.cell (World.block_lt_of_cell? w _ hw162_3)).trans hw162_3)⟩ (fun hHeld => ?_); refine with_tabW spec_IsValidAccount.tab5 spec_IsValidAccount.bits5 (fun HT_ HW_ => ?_)
            generalize w24.drew = w25 at BK156 BK160 HB hx162_0 hx162_1 hx162_2 hx162_3 hHeld ⊢
            refine Cmp.pu HT_ 0 18 (Cmp.bm 1 31) ?_; refine Cmp.tk HT_ HW_ hHeld 1 19 (Cmp.bm 2 30) ?_
            refine one_ (i := 2) (N := some 20) (Cmp.bm 3 29) rfl rfl (one_of HT_.out (by kernel_rfl)) (by decide) (fun K hK => ?_)
            refine goes_ Try.func46 (by kernel_rfl) rfl #[.int .i64 ((rd_T83 l0_2 x3_1).f0), .int .i64 0, .int .i64 1000000] (by rfl) rfl rfl Cmp.q ?_
            with_reducible refine (spec_l1In.calls ((rd_T83 l0_2 x3_1).f0) 0 1000000 true _ A10.out).mono ?_
            rintro e w' ⟨rfl, ⟨nd, rfl⟩⟩; refine ⟨_, rfl, ?_⟩
            refine hK.out _ _ ⟨(blk_cell BK160.out 0).trans rfl, (blk_cell BK160.out 1).trans rfl, (blk_cell BK160.out 2).trans rfl, (blk_cell BK160.out 3).trans rfl, (blk_cell BK156.out 0).trans rfl, (blk_cell BK156.out 1).trans rfl, (blk_cell BK156.out 2).trans rfl, ((HB.out.cell (World.block_lt_of_cell? w _ hw162_0)).trans hw162_0), ((HB.out.cell (World.block_lt_of_cell? w _ hw162_1)).trans hw162_1), ((HB.out.cell (World.block_lt_of_cell? w _ hw162_2)).trans hw162_2), ((HB.out.cell (World.block_lt_of_cell? w _ hw162_3)).trans hw162_3)⟩ (fun hHeld => ?_)
            clear hK K
            refine norm_ (a' := ?_) ?_ ?_
            rotate_left
            ·show Act.put _ (some 20) _ = _
             simp only [Act.put, Cmp.s, Cmp.z, Cmp.c, i64_w, i32_w]; rfl
            refine Cmp.pu HT_ 3 21 (Cmp.bm 4 28) ?_; refine Cmp.pu HT_ 4 22 (Cmp.bm 5 27) ?_; refine Cmp.pu HT_ 5 23 (Cmp.bm 6 26) ?_; refine Cmp.pu HT_ 6 24 (Cmp.bm 7 25) ?_; refine Cmp.pu HT_ 7 25 (Cmp.bm 8 24) ?_; refine Cmp.pu HT_ 8 26 (Cmp.bm 9 23) ?_; refine Cmp.pu HT_ 10 28 (Cmp.bb 32 1535) ?_; refine Cmp.pu HT_ 11 29 (Cmp.bb 32 3583) ?_; refine Cmp.pu HT_ 15 33 (Cmp.bb 32 36351) ?_; refine Cmp.tk HT_ HW_ hHeld 9 27 (Cmp.bb 32 36863) ?_; refine Cmp.pu HT_ 12 30 (Cmp.bb 32 40959) ?_; refine Cmp.pu HT_ 13 31 (Cmp.bb 32 49151) ?_; refine Cmp.tk HT_ HW_ hHeld 14 32 (Cmp.bm 16 16) ?_; refine Cmp.tk HT_ HW_ hHeld 16 34 (Cmp.bm 17 15) ?_; refine Cmp.pu HT_ 17 35 (Cmp.bm 18 14) ?_; refine Cmp.pu HT_ 18 36 (Cmp.bm 19 13) ?_; refine Cmp.pu HT_ 19 37 (Cmp.bm 20 12) ?_; refine Cmp.pu HT_ 20 38 (Cmp.bm 21 11) ?_; refine Cmp.pu HT_ 21 39 (Cmp.bm 22 10) ?_; refine Cmp.tk HT_ HW_ hHeld 22 40 (Cmp.bm 23 9) ?_
            refine one_ (i := 23) (N := some 41) (Cmp.bm 24 8) rfl rfl (one_of HT_.out (by kernel_rfl)) (by decide) (fun K hK => ?_)
            refine goes_ Try.func82 (by kernel_rfl) rfl #[.int .i64 ((rd_T83 l0_2 x3_1).f1)] (by rfl) rfl rfl Cmp.q ?_
            with_reducible refine (spec_PrivateKey.calls k1 ((rd_T83 l0_2 x3_1).f1) t163 _ A19.out).mono ?_
            rintro e w' ⟨rfl, ⟨nd, rfl⟩⟩; refine ⟨_, rfl, ?_⟩
            refine hK.out _ _ ⟨(blk_cell BK160.out 0).trans rfl, (blk_cell BK160.out 1).trans rfl, (blk_cell BK160.out 2).trans rfl, (blk_cell BK160.out 3).trans rfl, (blk_cell BK156.out 0).trans rfl, (blk_cell BK156.out 1).trans rfl, (blk_cell BK156.out 2).trans rfl, ((HB.out.cell (World.block_lt_of_cell? w _ hw162_0)).trans hw162_0), ((HB.out.cell (World.block_lt_of_cell? w _ hw162_1)).trans hw162_1), ((HB.out.cell (World.block_lt_of_cell? w _ hw162_2)).trans hw162_2), ((HB.out.cell (World.block_lt_of_cell? w _ hw162_3)).trans hw162_3)⟩ (fun hHeld => ?_)
            clear hK K
            refine norm_ (a' := ?_) ?_ ?_
            rotate_left
            ·show Act.put _ (some 41) _ = _
             simp only [Act.put, Cmp.s, Cmp.z, Cmp.c, i64_w, i32_w]; rfl
            refine Cmp.pu HT_ 24 42 (Cmp.bm 25 7) ?_; refine Cmp.pu HT_ 25 43 (Cmp.bm 26 6) ?_; refine Cmp.pu HT_ 26 44 (Cmp.bm 27 5) ?_; refine Cmp.pu HT_ 27 45 (Cmp.bm 28 4) ?_; refine Cmp.tk HT_ HW_ hHeld 28 46 (Cmp.bm 29 3) ?_
            refine one_ (i := 29) (N := some 47) (Cmp.bm 30 2) rfl rfl (one_of HT_.out (by kernel_rfl)) (by decide) (fun K hK => ?_)
            refine goes_ Try.func46 (by kernel_rfl) rfl #[.int .i64 ((rd_T83 l0_2 x3_1).f2), .int .i64 0, .int .i64 1000000] (by rfl) rfl rfl Cmp.q ?_
            with_reducible refine (spec_l1In.calls ((rd_T83 l0_2 x3_1).f2) 0 1000000 t164 _ A23.out).mono ?_
            rintro e w' ⟨rfl, ⟨nd, rfl⟩⟩; refine ⟨_, rfl, ?_⟩
            refine hK.out _ _ ⟨(blk_cell BK160.out 0).trans rfl, (blk_cell BK160.out 1).trans rfl, (blk_cell BK160.out 2).trans rfl, (blk_cell BK160.out 3).trans rfl, (blk_cell BK156.out 0).trans rfl, (blk_cell BK156.out 1).trans rfl, (blk_cell BK156.out 2).trans rfl, ((HB.out.cell (World.block_lt_of_cell? w _ hw162_0)).trans hw162_0), ((HB.out.cell (World.block_lt_of_cell? w _ hw162_1)).trans hw162_1), ((HB.out.cell (World.block_lt_of_cell? w _ hw162_2)).trans hw162_2), ((HB.out.cell (World.block_lt_of_cell? w _ hw162_3)).trans hw162_3)⟩ (fun hHeld => ?_)
            clear hK K
            refine norm_ (a' := ?_) ?_ ?_
            rotate_left
            ·show Act.put _ (some 47) _ = _
             simp only [Act.put, Cmp.s, Cmp.z, Cmp.c, i64_w, i32_w]; rfl
            refine Cmp.pu HT_ 30 48 (Cmp.bm 31 1) ?_; refine Cmp.pu HT_ 31 49 (Cmp.bm 32 0) ?_
            refine done_ (done_of HT_.out (by kernel_rfl)) ?_
            try go_wp2
            go_meet
            case rel => exact ⟨_, (!t164), (by first | rfl | simp | simp [*]), H', ⟨by have := HK1.out; first | omega | exact Nat.le_refl _⟩, ⟨by refine Cmp.b ?_; exact BK156.out⟩, ⟨by refine Cmp.b ?_; exact BK160.out⟩, ⟨Cmp.g HB.out⟩⟩
         ·rw [if_neg c15] at H; exact absurd H (by simp)
        ·rw [if_neg c14] at H; exact absurd H (by simp)
       ·rw [if_neg c12] at H; have c12b0 : decide (0 < x3_1) = false := decide_eq_false c12; clear c12
        (first | rw [c12b0] | (simp only [i64_w, i32_w]; rw [c12b0]) | skip)
        replace H := Option.bind_eq_some_iff.mp H; obtain ⟨t165, A260, H⟩ := H; (try dsimp only at H); have A26 := Aside0.mk A260; clear A260
        by_cases c27 : t165 = 0
        ·rw [if_pos c27] at H; have c27b0 : (t165 == 0) = true := beq_iff_eq.mpr c27; have c27b1 : (t165 != 0) = false := bne_eq_false_iff_eq.mpr c27; clear c27
         have H' := Aside0.mk H
         clear H
         try go_wp2
         have n0_ : Aside0 (((((w7.setCell ⟨gb160, 0, none⟩ (.int .i64 ((rd_T83 l0_2 x3_1).f0))).setCell ⟨gb160, 1, none⟩ (.int .i64 ((rd_T83 l0_2 x3_1).f1))).setCell ⟨gb160, 2, none⟩ (.int .i64 ((rd_T83 l0_2 x3_1).f2))).setCell ⟨gb160, 3, none⟩ (.bool ((rd_T83 l0_2 x3_1).f3))).heap[gb156]? = some (.cells #[.int .i64 a0_0, .int .i64 a0_1, .slice (some ad159) l0_2.length c0_2] 28 (0, 0))) := ⟨by refine Cmp.b ?_; refine blk_far ?_ NB156_160.out _; refine Cmp.b ?_; refine blk_far ?_ NB156_160.out _; refine Cmp.b ?_; refine blk_far ?_ NB156_160.out _; refine Cmp.b ?_; refine blk_far ?_ NB156_160.out _; refine Cmp.b ?_; exact BK156.out⟩
         have n1_ : Aside0 (((((w7.setCell ⟨gb160, 0, none⟩ (.int .i64 ((rd_T83 l0_2 x3_1).f0))).setCell ⟨gb160, 1, none⟩ (.int .i64 ((rd_T83 l0_2 x3_1).f1))).setCell ⟨gb160, 2, none⟩ (.int .i64 ((rd_T83 l0_2 x3_1).f2))).setCell ⟨gb160, 3, none⟩ (.bool ((rd_T83 l0_2 x3_1).f3))).heap[gb160]? = some (.cells #[.int .i64 ((rd_T83 l0_2 x3_1).f0), .int .i64 ((rd_T83 l0_2 x3_1).f1), .int .i64 ((rd_T83 l0_2 x3_1).f2), .bool ((rd_T83 l0_2 x3_1).f3)] 83 (0, 0))) := ⟨by refine Cmp.b ?_; refine blk_put (cs := #[.int .i64 ((rd_T83 l0_2 x3_1).f0), .int .i64 ((rd_T83 l0_2 x3_1).f1), .int .i64 ((rd_T83 l0_2 x3_1).f2), .bool false]) ?_ 3 _ rfl; refine Cmp.b ?_; refine blk_put (cs := #[.int .i64 ((rd_T83 l0_2 x3_1).f0), .int .i64 ((rd_T83 l0_2 x3_1).f1), .int .i64 0, .bool false]) ?_ 2 _ rfl; refine Cmp.b ?_; refine blk_put (cs := #[.int .i64 ((rd_T83 l0_2 x3_1).f0), .int .i64 0, .int .i64 0, .bool false]) ?_ 1 _ rfl; refine Cmp.b ?_; refine blk_put (cs := #[.int .i64 0, .int .i64 0, .int .i64 0, .bool false]) ?_ 0 _ rfl; refine Cmp.b ?_; exact BK160.out⟩
         have n2_ : Aside0 (Below w.heap.size w ((((w7.setCell ⟨gb160, 0, none⟩ (.int .i64 ((rd_T83 l0_2 x3_1).f0))).setCell ⟨gb160, 1, none⟩ (.int .i64 ((rd_T83 l0_2 x3_1).f1))).setCell ⟨gb160, 2, none⟩ (.int .i64 ((rd_T83 l0_2 x3_1).f2))).setCell ⟨gb160, 3, none⟩ (.bool ((rd_T83 l0_2 x3_1).f3)))) := ⟨Cmp.g HB.out⟩
         (try clear BK156); (try clear BK160); (try clear HB)
         generalize ((((w7.setCell ⟨gb160, 0, none⟩ (.int .i64 ((rd_T83 l0_2 x3_1).f0))).setCell ⟨gb160, 1, none⟩ (.int .i64 ((rd_T83 l0_2 x3_1).f1))).setCell ⟨gb160, 2, none⟩ (.int .i64 ((rd_T83 l0_2 x3_1).f2))).setCell ⟨gb160, 3, none⟩ (.bool ((rd_T83 l0_2 x3_1).f3))) = w28 at n0_ n1_ n2_ ⊢
         have BK156 := n0_; have BK160 := n1_; have HB := n2_; clear n0_ n1_ n2_; have n0_ := Aside0.mk (blk_drew BK156.out); have n1_ := Aside0.mk (blk_drew BK160.out); have n2_ := Aside0.mk (below_drew1 HB.out); clear BK156; clear BK160; clear HB; have BK156 := n0_; have BK160 := n1_; have HB := n2_; clear n0_ n1_ n2_
         refine start_ (n := 32) (S := fun w' => w'.cell? ⟨gb160, 0, none⟩ = some (.int .i64 ((rd_T83 l0_2 x3_1).f0)) ∧ w'.cell? ⟨gb160, 1, none⟩ = some (.int .i64 ((rd_T83 l0_2 x3_1).f1)) ∧ w'.cell? ⟨gb160, 2, none⟩ = some (.int .i64 ((rd_T83 l0_2 x3_1).f2)) ∧ w'.cell? ⟨gb160, 3, none⟩ = some (.bool ((rd_T83 l0_2 x3_1).f3))) (ds := []) (Cmp.bm 0 32) (by kernel_rfl) rfl rfl ⟨(blk_cell BK160.out 0).trans rfl, (blk_cell BK160.out 1).trans rfl, (blk_cell BK160.out 2).trans rfl, (blk_cell BK160.out 3).trans rfl⟩ (fun hHeld => ?_); refine with_tabW spec_IsValidAccount.tab5 spec_IsValidAccount.bits5 (fun HT_ HW_ => ?_)
         generalize w28.drew = w29 at BK156 BK160 HB hHeld ⊢
         refine Cmp.pu HT_ 0 18 (Cmp.bm 1 31) ?_; refine Cmp.tk HT_ HW_ hHeld 1 19 (Cmp.bm 2 30) ?_
         refine one_ (i := 2) (N := some 20) (Cmp.bm 3 29) rfl rfl (one_of HT_.out (by kernel_rfl)) (by decide) (fun K hK => ?_)
         refine goes_ Try.func46 (by kernel_rfl) rfl #[.int .i64 ((rd_T83 l0_2 x3_1).f0), .int .i64 0, .int .i64 1000000] (by rfl) rfl rfl Cmp.q ?_
         with_reducible refine (spec_l1In.calls ((rd_T83 l0_2 x3_1).f0) 0 1000000 true _ A10.out).mono ?_
         rintro e w' ⟨rfl, ⟨nd, rfl⟩⟩; refine ⟨_, rfl, ?_⟩
         refine hK.out _ _ ⟨(blk_cell BK160.out 0).trans rfl, (blk_cell BK160.out 1).trans rfl, (blk_cell BK160.out 2).trans rfl, (blk_cell BK160.out 3).trans rfl⟩ (fun hHeld => ?_)
         clear hK K
         refine norm_ (a' := ?_) ?_ ?_
         rotate_left
         ·show Act.put _ (some 20) _ = _
          simp only [Act.put, Cmp.s, Cmp.z, Cmp.c, i64_w, i32_w]; rfl
         refine Cmp.pu HT_ 3 21 (Cmp.bm 4 28) ?_; refine Cmp.pu HT_ 4 22 (Cmp.bm 5 27) ?_; refine Cmp.pu HT_ 5 23 (Cmp.bm 6 26) ?_; refine Cmp.pu HT_ 6 24 (Cmp.bm 7 25) ?_; refine Cmp.pu HT_ 7 25 (Cmp.bm 8 24) ?_; refine Cmp.pv HT_ 8 26 (Cmp.bm 9 23) ?_; refine Cmp.pv HT_ 9 27 (Cmp.bm 10 22) ?_; refine Cmp.pv HT_ 10 28 (Cmp.bm 11 21) ?_; refine Cmp.pv HT_ 11 29 (Cmp.bm 12 20) ?_; refine Cmp.pv HT_ 12 30 (Cmp.bm 13 19) ?_; refine Cmp.pv HT_ 13 31 (Cmp.bm 14 18) ?_; refine Cmp.pv HT_ 14 32 (Cmp.bm 15 17) ?_; refine Cmp.pv HT_ 15 33 (Cmp.bm 16 16) ?_; refine Cmp.pv HT_ 16 34 (Cmp.bm 17 15) ?_; refine Cmp.pv HT_ 17 35 (Cmp.bm 18 14) ?_; refine Cmp.pu HT_ 18 36 (Cmp.bm 19 13) ?_; refine Cmp.pu HT_ 19 37 (Cmp.bm 20 12) ?_; refine Cmp.pu HT_ 20 38 (Cmp.bm 21 11) ?_; refine Cmp.pu HT_ 21 39 (Cmp.bm 22 10) ?_; refine Cmp.tk HT_ HW_ hHeld 22 40 (Cmp.bm 23 9) ?_
         refine one_ (i := 23) (N := some 41) (Cmp.bm 24 8) rfl rfl (one_of HT_.out (by kernel_rfl)) (by decide) (fun K hK => ?_)
         refine goes_ Try.func82 (by kernel_rfl) rfl #[.int .i64 ((rd_T83 l0_2 x3_1).f1)] (by rfl) rfl rfl Cmp.q ?_
         with_reducible refine (spec_PrivateKey.calls k1 ((rd_T83 l0_2 x3_1).f1) t165 _ A26.out).mono ?_
         rintro e w' ⟨rfl, ⟨nd, rfl⟩⟩; refine ⟨_, rfl, ?_⟩
         refine hK.out _ _ ⟨(blk_cell BK160.out 0).trans rfl, (blk_cell BK160.out 1).trans rfl, (blk_cell BK160.out 2).trans rfl, (blk_cell BK160.out 3).trans rfl⟩ (fun hHeld => ?_)
         clear hK K
         refine norm_ (a' := ?_) ?_ ?_
         rotate_left
         ·show Act.put _ (some 41) _ = _
          simp only [Act.put, Cmp.s, Cmp.z, Cmp.c, i64_w, i32_w]; rfl
         refine Cmp.pu HT_ 24 42 (Cmp.bm 25 7) ?_; refine Cmp.pu HT_ 25 43 (Cmp.bm 26 6) ?_; refine Cmp.pu HT_ 26 44 (Cmp.bm 27 5) ?_; refine Cmp.pv HT_ 27 45 (Cmp.bm 28 4) ?_; refine Cmp.pv HT_ 28 46 (Cmp.bm 29 3) ?_; refine Cmp.pv HT_ 29 47 (Cmp.bm 30 2) ?_; refine Cmp.pv HT_ 30 48 (Cmp.bm 31 1) ?_; refine Cmp.pu HT_ 31 49 (Cmp.bm 32 0) ?_
         refine done_ (done_of HT_.out (by kernel_rfl)) ?_
         try go_wp2
         go_meet
         case rel => exact ⟨_, (true), (by first | rfl | simp | simp [*]), H', ⟨by have := HK1.out; first | omega | exact Nat.le_refl _⟩, ⟨by refine Cmp.b ?_; exact BK156.out⟩, ⟨by refine Cmp.b ?_; exact BK160.out⟩, ⟨Cmp.g HB.out⟩⟩
        ·rw [if_neg c27] at H; have c27b0 : (t165 == 0) = false := beq_eq_false_iff_ne.mpr c27; have c27b1 : (t165 != 0) = true := bne_iff_ne.mpr c27; replace H := Option.bind_eq_some_iff.mp H; obtain ⟨t166, A300, H⟩ := H; (try dsimp only at H); have A30 := Aside0.mk A300; clear A300
         have H' := Aside0.mk H
         clear H
         try go_wp2
         have n0_ : Aside0 (((((w7.setCell ⟨gb160, 0, none⟩ (.int .i64 ((rd_T83 l0_2 x3_1).f0))).setCell ⟨gb160, 1, none⟩ (.int .i64 ((rd_T83 l0_2 x3_1).f1))).setCell ⟨gb160, 2, none⟩ (.int .i64 ((rd_T83 l0_2 x3_1).f2))).setCell ⟨gb160, 3, none⟩ (.bool ((rd_T83 l0_2 x3_1).f3))).heap[gb156]? = some (.cells #[.int .i64 a0_0, .int .i64 a0_1, .slice (some ad159) l0_2.length c0_2] 28 (0, 0))) := ⟨by refine Cmp.b ?_; refine blk_far ?_ NB156_160.out _; refine Cmp.b ?_; refine blk_far ?_ NB156_160.out _; refine Cmp.b ?_; refine blk_far ?_ NB156_160.out _; refine Cmp.b ?_; refine blk_far ?_ NB156_160.out _; refine Cmp.b ?_; exact BK156.out⟩
         have n1_ : Aside0 (((((w7.setCell ⟨gb160, 0, none⟩ (.int .i64 ((rd_T83 l0_2 x3_1).f0))).setCell ⟨gb160, 1, none⟩ (.int .i64 ((rd_T83 l0_2 x3_1).f1))).setCell ⟨gb160, 2, none⟩ (.int .i64 ((rd_T83 l0_2 x3_1).f2))).setCell ⟨gb160, 3, none⟩ (.bool ((rd_T83 l0_2 x3_1).f3))).heap[gb160]? = some (.cells #[.int .i64 ((rd_T83 l0_2 x3_1).f0), .int .i64 ((rd_T83 l0_2 x3_1).f1), .int .i64 ((rd_T83 l0_2 x3_1).f2), .bool ((rd_T83 l0_2 x3_1).f3)] 83 (0, 0))) := ⟨by refine Cmp.b ?_; refine blk_put (cs := #[.int .i64 ((rd_T83 l0_2 x3_1).f0), .int .i64 ((rd_T83 l0_2 x3_1).f1), .int .i64 ((rd_T83 l0_2 x3_1).f2), .bool false]) ?_ 3 _ rfl; refine Cmp.b ?_; refine blk_put (cs := #[.int .i64 ((rd_T83 l0_2 x3_1).f0), .int .i64 ((rd_T83 l0_2 x3_1).f1), .int .i64 0, .bool false]) ?_ 2 _ rfl; refine Cmp.b ?_; refine blk_put (cs := #[.int .i64 ((rd_T83 l0_2 x3_1).f0), .int .i64 0, .int .i64 0, .bool false]) ?_ 1 _ rfl; refine Cmp.b ?_; refine blk_put (cs := #[.int .i64 0, .int .i64 0, .int .i64 0, .bool false]) ?_ 0 _ rfl; refine Cmp.b ?_; exact BK160.out⟩
         have n2_ : Aside0 (Below w.heap.size w ((((w7.setCell ⟨gb160, 0, none⟩ (.int .i64 ((rd_T83 l0_2 x3_1).f0))).setCell ⟨gb160, 1, none⟩ (.int .i64 ((rd_T83 l0_2 x3_1).f1))).setCell ⟨gb160, 2, none⟩ (.int .i64 ((rd_T83 l0_2 x3_1).f2))).setCell ⟨gb160, 3, none⟩ (.bool ((rd_T83 l0_2 x3_1).f3)))) := ⟨Cmp.g HB.out⟩
         (try clear BK156); (try clear BK160); (try clear HB)
         generalize ((((w7.setCell ⟨gb160, 0, none⟩ (.int .i64 ((rd_T83 l0_2 x3_1).f0))).setCell ⟨gb160, 1, none⟩ (.int .i64 ((rd_T83 l0_2 x3_1).f1))).setCell ⟨gb160, 2, none⟩ (.int .i64 ((rd_T83 l0_2 x3_1).f2))).setCell ⟨gb160, 3, none⟩ (.bool ((rd_T83 l0_2 x3_1).f3))) = w31 at n0_ n1_ n2_ ⊢
         have BK156 := n0_; have BK160 := n1_; have HB := n2_; clear n0_ n1_ n2_; have n0_ := Aside0.mk (blk_drew BK156.out); have n1_ := Aside0.mk (blk_drew BK160.out); have n2_ := Aside0.mk (below_drew1 HB.out); clear BK156; clear BK160; clear HB; have BK156 := n0_; have BK160 := n1_; have HB := n2_; clear n0_ n1_ n2_
         refine start_ (n := 32) (S := fun w' => w'.cell? ⟨gb160, 0, none⟩ = some (.int .i64 ((rd_T83 l0_2 x3_1).f0)) ∧ w'.cell? ⟨gb160, 1, none⟩ = some (.int .i64 ((rd_T83 l0_2 x3_1).f1)) ∧ w'.cell? ⟨gb160, 2, none⟩ = some (.int .i64 ((rd_T83 l0_2 x3_1).f2)) ∧ w'.cell? ⟨gb160, 3, none⟩ = some (.bool ((rd_T83 l0_2 x3_1).f3))) (ds := []) (Cmp.bm 0 32) (by kernel_rfl) rfl rfl ⟨(blk_cell BK160.out 0).trans rfl, (blk_cell BK160.out 1).trans rfl, (blk_cell BK160.out 2).trans rfl, (blk_cell BK160.out 3).trans rfl⟩ (fun hHeld => ?_); refine with_tabW spec_IsValidAccount.tab5 spec_IsValidAccount.bits5 (fun HT_ HW_ => ?_)
         generalize w31.drew = w32 at BK156 BK160 HB hHeld ⊢
         refine Cmp.pu HT_ 0 18 (Cmp.bm 1 31) ?_; refine Cmp.tk HT_ HW_ hHeld 1 19 (Cmp.bm 2 30) ?_
         refine one_ (i := 2) (N := some 20) (Cmp.bm 3 29) rfl rfl (one_of HT_.out (by kernel_rfl)) (by decide) (fun K hK => ?_)
         refine goes_ Try.func46 (by kernel_rfl) rfl #[.int .i64 ((rd_T83 l0_2 x3_1).f0), .int .i64 0, .int .i64 1000000] (by rfl) rfl rfl Cmp.q ?_
         with_reducible refine (spec_l1In.calls ((rd_T83 l0_2 x3_1).f0) 0 1000000 true _ A10.out).mono ?_
         rintro e w' ⟨rfl, ⟨nd, rfl⟩⟩; refine ⟨_, rfl, ?_⟩
         refine hK.out _ _ ⟨(blk_cell BK160.out 0).trans rfl, (blk_cell BK160.out 1).trans rfl, (blk_cell BK160.out 2).trans rfl, (blk_cell BK160.out 3).trans rfl⟩ (fun hHeld => ?_)
         clear hK K
         refine norm_ (a' := ?_) ?_ ?_
         rotate_left
         ·show Act.put _ (some 20) _ = _
          simp only [Act.put, Cmp.s, Cmp.z, Cmp.c, i64_w, i32_w]; rfl
         refine Cmp.pu HT_ 3 21 (Cmp.bm 4 28) ?_; refine Cmp.pu HT_ 4 22 (Cmp.bm 5 27) ?_; refine Cmp.pu HT_ 5 23 (Cmp.bm 6 26) ?_; refine Cmp.pu HT_ 6 24 (Cmp.bm 7 25) ?_; refine Cmp.pu HT_ 7 25 (Cmp.bm 8 24) ?_; refine Cmp.pv HT_ 8 26 (Cmp.bm 9 23) ?_; refine Cmp.pv HT_ 9 27 (Cmp.bm 10 22) ?_; refine Cmp.pv HT_ 10 28 (Cmp.bm 11 21) ?_; refine Cmp.pv HT_ 11 29 (Cmp.bm 12 20) ?_; refine Cmp.pv HT_ 12 30 (Cmp.bm 13 19) ?_; refine Cmp.pv HT_ 13 31 (Cmp.bm 14 18) ?_; refine Cmp.pv HT_ 14 32 (Cmp.bm 15 17) ?_; refine Cmp.pv HT_ 15 33 (Cmp.bm 16 16) ?_; refine Cmp.pv HT_ 16 34 (Cmp.bm 17 15) ?_; refine Cmp.pv HT_ 17 35 (Cmp.bm 18 14) ?_; refine Cmp.pu HT_ 18 36 (Cmp.bm 19 13) ?_; refine Cmp.pu HT_ 19 37 (Cmp.bm 20 12) ?_; refine Cmp.pu HT_ 20 38 (Cmp.bm 21 11) ?_; refine Cmp.pu HT_ 21 39 (Cmp.bm 22 10) ?_; refine Cmp.tk HT_ HW_ hHeld 22 40 (Cmp.bm 23 9) ?_
         refine one_ (i := 23) (N := some 41) (Cmp.bm 24 8) rfl rfl (one_of HT_.out (by kernel_rfl)) (by decide) (fun K hK => ?_)
         refine goes_ Try.func82 (by kernel_rfl) rfl #[.int .i64 ((rd_T83 l0_2 x3_1).f1)] (by rfl) rfl rfl Cmp.q ?_
         with_reducible refine (spec_PrivateKey.calls k1 ((rd_T83 l0_2 x3_1).f1) t165 _ A26.out).mono ?_
         rintro e w' ⟨rfl, ⟨nd, rfl⟩⟩; refine ⟨_, rfl, ?_⟩
         refine hK.out _ _ ⟨(blk_cell BK160.out 0).trans rfl, (blk_cell BK160.out 1).trans rfl, (blk_cell BK160.out 2).trans rfl, (blk_cell BK160.out 3).trans rfl⟩ (fun hHeld => ?_)
         clear hK K
         refine norm_ (a' := ?_) ?_ ?_
         rotate_left
         ·show Act.put _ (some 41) _ = _
          simp only [Act.put, Cmp.s, Cmp.z, Cmp.c, i64_w, i32_w]; rfl
         refine Cmp.pu HT_ 24 42 (Cmp.bm 25 7) ?_; refine Cmp.pu HT_ 25 43 (Cmp.bm 26 6) ?_; refine Cmp.pu HT_ 26 44 (Cmp.bm 27 5) ?_; refine Cmp.pu HT_ 27 45 (Cmp.bm 28 4) ?_; refine Cmp.tk HT_ HW_ hHeld 28 46 (Cmp.bm 29 3) ?_
         refine one_ (i := 29) (N := some 47) (Cmp.bm 30 2) rfl rfl (one_of HT_.out (by kernel_rfl)) (by decide) (fun K hK => ?_)
         refine goes_ Try.func46 (by kernel_rfl) rfl #[.int .i64 ((rd_T83 l0_2 x3_1).f2), .int .i64 0, .int .i64 1000000] (by rfl) rfl rfl Cmp.q ?_
         with_reducible refine (spec_l1In.calls ((rd_T83 l0_2 x3_1).f2) 0 1000000 t166 _ A30.out).mono ?_
         rintro e w' ⟨rfl, ⟨nd, rfl⟩⟩; refine ⟨_, rfl, ?_⟩
         refine hK.out _ _ ⟨(blk_cell BK160.out 0).trans rfl, (blk_cell BK160.out 1).trans rfl, (blk_cell BK160.out 2).trans rfl, (blk_cell BK160.out 3).trans rfl⟩ (fun hHeld => ?_)
         clear hK K
         refine norm_ (a' := ?_) ?_ ?_
         rotate_left
         ·show Act.put _ (some 47) _ = _
          simp only [Act.put, Cmp.s, Cmp.z, Cmp.c, i64_w, i32_w]; rfl
         refine Cmp.pu HT_ 30 48 (Cmp.bm 31 1) ?_; refine Cmp.pu HT_ 31 49 (Cmp.bm 32 0) ?_
         refine done_ (done_of HT_.out (by kernel_rfl)) ?_
         try go_wp2
         go_meet
         case rel => exact ⟨_, (!t166), (by first | rfl | simp | simp [*]), H', ⟨by have := HK1.out; first | omega | exact Nat.le_refl _⟩, ⟨by refine Cmp.b ?_; exact BK156.out⟩, ⟨by refine Cmp.b ?_; exact BK160.out⟩, ⟨Cmp.g HB.out⟩⟩
      ·replace c11 := Bool.eq_false_iff.mpr c11
       subst c11
       have H1 : (spec_IsValidAccount.j1 k1 x3_1 true a0_0 a0_1 l0_2 ((rd_T83 l0_2 x3_1).f0) ((rd_T83 l0_2 x3_1).f1) ((rd_T83 l0_2 x3_1).f2) ((rd_T83 l0_2 x3_1).f3)) = some r := by rw [if_neg (show ¬ (false = true) by decide)] at H; exact H
       clear H; have H := H1; clear H1
       have H' := Aside0.mk H
       clear H
       try go_wp2
       have n0_ : Aside0 (((((w7.setCell ⟨gb160, 0, none⟩ (.int .i64 ((rd_T83 l0_2 x3_1).f0))).setCell ⟨gb160, 1, none⟩ (.int .i64 ((rd_T83 l0_2 x3_1).f1))).setCell ⟨gb160, 2, none⟩ (.int .i64 ((rd_T83 l0_2 x3_1).f2))).setCell ⟨gb160, 3, none⟩ (.bool ((rd_T83 l0_2 x3_1).f3))).heap[gb156]? = some (.cells #[.int .i64 a0_0, .int .i64 a0_1, .slice (some ad159) l0_2.length c0_2] 28 (0, 0))) := ⟨by refine Cmp.b ?_; refine blk_far ?_ NB156_160.out _; refine Cmp.b ?_; refine blk_far ?_ NB156_160.out _; refine Cmp.b ?_; refine blk_far ?_ NB156_160.out _; refine Cmp.b ?_; refine blk_far ?_ NB156_160.out _; refine Cmp.b ?_; exact BK156.out⟩
       have n1_ : Aside0 (((((w7.setCell ⟨gb160, 0, none⟩ (.int .i64 ((rd_T83 l0_2 x3_1).f0))).setCell ⟨gb160, 1, none⟩ (.int .i64 ((rd_T83 l0_2 x3_1).f1))).setCell ⟨gb160, 2, none⟩ (.int .i64 ((rd_T83 l0_2 x3_1).f2))).setCell ⟨gb160, 3, none⟩ (.bool ((rd_T83 l0_2 x3_1).f3))).heap[gb160]? = some (.cells #[.int .i64 ((rd_T83 l0_2 x3_1).f0), .int .i64 ((rd_T83 l0_2 x3_1).f1), .int .i64 ((rd_T83 l0_2 x3_1).f2), .bool ((rd_T83 l0_2 x3_1).f3)] 83 (0, 0))) := ⟨by refine Cmp.b ?_; refine blk_put (cs := #[.int .i64 ((rd_T83 l0_2 x3_1).f0), .int .i64 ((rd_T83 l0_2 x3_1).f1), .int .i64 ((rd_T83 l0_2 x3_1).f2), .bool false]) ?_ 3 _ rfl; refine Cmp.b ?_; refine blk_put (cs := #[.int .i64 ((rd_T83 l0_2 x3_1).f0), .int .i64 ((rd_T83 l0_2 x3_1).f1), .int .i64 0, .bool false]) ?_ 2 _ rfl; refine Cmp.b ?_; refine blk_put (cs := #[.int .i64 ((rd_T83 l0_2 x3_1).f0), .int .i64 0, .int .i64 0, .bool false]) ?_ 1 _ rfl; refine Cmp.b ?_; refine blk_put (cs := #[.int .i64 0, .int .i64 0, .int .i64 0, .bool false]) ?_ 0 _ rfl; refine Cmp.b ?_; exact BK160.out⟩
       have n2_ : Aside0 (Below w.heap.size w ((((w7.setCell ⟨gb160, 0, none⟩ (.int .i64 ((rd_T83 l0_2 x3_1).f0))).setCell ⟨gb160, 1, none⟩ (.int .i64 ((rd_T83 l0_2 x3_1).f1))).setCell ⟨gb160, 2, none⟩ (.int .i64 ((rd_T83 l0_2 x3_1).f2))).setCell ⟨gb160, 3, none⟩ (.bool ((rd_T83 l0_2 x3_1).f3)))) := ⟨Cmp.g HB.out⟩
       (try clear BK156); (try clear BK160); (try clear HB)
       generalize ((((w7.setCell ⟨gb160, 0, none⟩ (.int .i64 ((rd_T83 l0_2 x3_1).f0))).setCell ⟨gb160, 1, none⟩ (.int .i64 ((rd_T83 l0_2 x3_1).f1))).setCell ⟨gb160, 2, none⟩ (.int .i64 ((rd_T83 l0_2 x3_1).f2))).setCell ⟨gb160, 3, none⟩ (.bool ((rd_T83 l0_2 x3_1).f3))) = w33 at n0_ n1_ n2_ ⊢
       have BK156 := n0_; have BK160 := n1_; have HB := n2_; clear n0_ n1_ n2_; have n0_ := Aside0.mk (blk_drew BK156.out); have n1_ := Aside0.mk (blk_drew BK160.out); have n2_ := Aside0.mk (below_drew1 HB.out); clear BK156; clear BK160; clear HB; have BK156 := n0_; have BK160 := n1_; have HB := n2_; clear n0_ n1_ n2_
       refine start_ (n := 32) (S := fun w' => w'.cell? ⟨gb160, 0, none⟩ = some (.int .i64 ((rd_T83 l0_2 x3_1).f0)) ∧ w'.cell? ⟨gb160, 1, none⟩ = some (.int .i64 ((rd_T83 l0_2 x3_1).f1)) ∧ w'.cell? ⟨gb160, 2, none⟩ = some (.int .i64 ((rd_T83 l0_2 x3_1).f2)) ∧ w'.cell? ⟨gb160, 3, none⟩ = some (.bool ((rd_T83 l0_2 x3_1).f3))) (ds := []) (Cmp.bm 0 32) (by kernel_rfl) rfl rfl ⟨(blk_cell BK160.out 0).trans rfl, (blk_cell BK160.out 1).trans rfl, (blk_cell BK160.out 2).trans rfl, (blk_cell BK160.out 3).trans rfl⟩ (fun hHeld => ?_); refine with_tabW spec_IsValidAccount.tab5 spec_IsValidAccount.bits5 (fun HT_ HW_ => ?_)
       generalize w33.drew = w34 at BK156 BK160 HB hHeld ⊢
       refine Cmp.pu HT_ 0 18 (Cmp.bm 1 31) ?_; refine Cmp.tk HT_ HW_ hHeld 1 19 (Cmp.bm 2 30) ?_
       refine one_ (i := 2) (N := some 20) (Cmp.bm 3 29) rfl rfl (one_of HT_.out (by kernel_rfl)) (by decide) (fun K hK => ?_)
       refine goes_ Try.func46 (by kernel_rfl) rfl #[.int .i64 ((rd_T83 l0_2 x3_1).f0), .int .i64 0, .int .i64 1000000] (by rfl) rfl rfl Cmp.q ?_
       with_reducible refine (spec_l1In.calls ((rd_T83 l0_2 x3_1).f0) 0 1000000 false _ A10.out).mono ?_
       rintro e w' ⟨rfl, ⟨nd, rfl⟩⟩; refine ⟨_, rfl, ?_⟩
       refine hK.out _ _ ⟨(blk_cell BK160.out 0).trans rfl, (blk_cell BK160.out 1).trans rfl, (blk_cell BK160.out 2).trans rfl, (blk_cell BK160.out 3).trans rfl⟩ (fun hHeld => ?_)
       clear hK K
       refine norm_ (a' := ?_) ?_ ?_
       rotate_left
       ·show Act.put _ (some 20) _ = _
        simp only [Act.put, Cmp.s, Cmp.z, Cmp.c, i64_w, i32_w]; rfl
       refine Cmp.pu HT_ 3 21 (Cmp.bm 4 28) ?_; refine Cmp.pu HT_ 4 22 (Cmp.bm 5 27) ?_; refine Cmp.pv HT_ 5 23 (Cmp.bm 6 26) ?_; refine Cmp.pv HT_ 6 24 (Cmp.bm 7 25) ?_; refine Cmp.pv HT_ 7 25 (Cmp.bm 8 24) ?_; refine Cmp.pv HT_ 8 26 (Cmp.bm 9 23) ?_; refine Cmp.pv HT_ 9 27 (Cmp.bm 10 22) ?_; refine Cmp.pv HT_ 10 28 (Cmp.bm 11 21) ?_; refine Cmp.pv HT_ 11 29 (Cmp.bm 12 20) ?_; refine Cmp.pv HT_ 12 30 (Cmp.bm 13 19) ?_; refine Cmp.pv HT_ 13 31 (Cmp.bm 14 18) ?_; refine Cmp.pv HT_ 14 32 (Cmp.bm 15 17) ?_; refine Cmp.pv HT_ 15 33 (Cmp.bm 16 16) ?_; refine Cmp.pv HT_ 16 34 (Cmp.bm 17 15) ?_; refine Cmp.pv HT_ 17 35 (Cmp.bm 18 14) ?_; refine Cmp.pv HT_ 18 36 (Cmp.bm 19 13) ?_; refine Cmp.pu HT_ 19 37 (Cmp.bm 20 12) ?_; refine Cmp.pu HT_ 20 38 (Cmp.bm 21 11) ?_; refine Cmp.pv HT_ 21 39 (Cmp.bm 22 10) ?_; refine Cmp.pv HT_ 22 40 (Cmp.bm 23 9) ?_; refine Cmp.pv HT_ 23 41 (Cmp.bm 24 8) ?_; refine Cmp.pv HT_ 24 42 (Cmp.bm 25 7) ?_; refine Cmp.pu HT_ 25 43 (Cmp.bm 26 6) ?_; refine Cmp.pu HT_ 26 44 (Cmp.bm 27 5) ?_; refine Cmp.pv HT_ 27 45 (Cmp.bm 28 4) ?_; refine Cmp.pv HT_ 28 46 (Cmp.bm 29 3) ?_; refine Cmp.pv HT_ 29 47 (Cmp.bm 30 2) ?_; refine Cmp.pv HT_ 30 48 (Cmp.bm 31 1) ?_; refine Cmp.pu HT_ 31 49 (Cmp.bm 32 0) ?_
       refine done_ (done_of HT_.out (by kernel_rfl)) ?_
       try go_wp2
       go_meet
       case rel => exact ⟨_, (true), (by first | rfl | simp | simp [*]), H', ⟨by have := HK1.out; first | omega | exact Nat.le_refl _⟩, ⟨by refine Cmp.b ?_; exact BK156.out⟩, ⟨by refine Cmp.b ?_; exact BK160.out⟩, ⟨Cmp.g HB.out⟩⟩
     case rest =>
      clear HC5; (try clear c1); (try clear c2); (try clear p2); (try clear c4); (try clear c8); (try clear c11); (try clear c27); (try clear c27b0); (try clear c27b1)
      obtain ⟨kq, x49_4, rfl, HA, HJ4, BK156, BK160, HB⟩ := hcut
      cases kq with
      | zero => exact absurd HA.out (by simp [spec_IsValidAccount.j1])
      | succ kj4 =>
       have H := HA.out; clear HA
       simp only [spec_IsValidAccount.j1] at H
       by_cases c35 : x49_4 = true
       ·subst c35; rw [if_pos rfl] at H
        obtain rfl := Option.some.inj H
        go_wp2
        go_ret
        exact ⟨by first | rfl | (simp [errW_none, errW_some] <;> rfl) | (simp [*, errW_none, errW_some] <;> rfl), Cmp.g HB.out⟩
       ·replace c35 := Bool.eq_false_iff.mpr c35
        subst c35
        have H1 : (spec_IsValidAccount.l1 kj4 x3_1 0 a0_0 a0_1 l0_2 ((rd_T83 l0_2 x3_1).f0) ((rd_T83 l0_2 x3_1).f1) ((rd_T83 l0_2 x3_1).f2) ((rd_T83 l0_2 x3_1).f3)) = some r := by rw [if_neg (show ¬ (false = true) by decide)] at H; exact H
        clear H; have H := H1; clear H1
        have H' := Aside0.mk H
        clear H
        go_wp2
        go_loopg [5] kj4 (fun kq v5 w' => ∃ (x5_3 : Int), v5 = .int .i64 x5_3 ∧ Aside0 (spec_IsValidAccount.l1 kq x3_1 x5_3 a0_0 a0_1 l0_2 ((rd_T83 l0_2 x3_1).f0) ((rd_T83 l0_2 x3_1).f1) ((rd_T83 l0_2 x3_1).f2) ((rd_T83 l0_2 x3_1).f3) = some r) ∧ Aside0 (kq ≤ kj4) ∧ Aside0 (w'.heap[gb156]? = some (.cells #[.int .i64 a0_0, .int .i64 a0_1, (.slice (some ad159) l0_2.length c0_2)] 28 (0, 0))) ∧ Aside0 (w'.heap[gb160]? = some (.cells #[.int .i64 ((rd_T83 l0_2 x3_1).f0), .int .i64 ((rd_T83 l0_2 x3_1).f1), .int .i64 ((rd_T83 l0_2 x3_1).f2), .bool ((rd_T83 l0_2 x3_1).f3)] 83 (0, 0))) ∧ Aside0 (Below w.heap.size w w'))
        case atStart => exact ⟨(0), (by first | rfl | simp | simp [*]), H', ⟨Nat.le_refl _⟩, ⟨by refine Cmp.b ?_; exact BK156.out⟩, ⟨by refine Cmp.b ?_; exact BK160.out⟩, ⟨Cmp.g HB.out⟩⟩
        case round =>
         clear H'
         (try clear c1); (try clear c2); (try clear p2); (try clear c3); (try clear c4); (try clear c8); (try clear c11); (try clear c27); (try clear c27b0); (try clear c27b1); (try clear c35); (try clear p2)
         obtain ⟨x5_3, rfl, HA, HK3, BK156, BK160, HB⟩ := hrel
         cases gk with
         | zero => exact absurd HA.out (by simp [spec_IsValidAccount.l1])
         | succ k3 =>
          have H := HA.out; clear HA
          simp only [spec_IsValidAccount.l1] at H
          by_cases c36 : x5_3 < x3_1
          ·rw [if_pos c36] at H; have c36b0 : decide (x5_3 < x3_1) = true := decide_eq_true c36; clear c36
           by_cases c37 : 0 ≤ x5_3
           ·rw [if_pos c37] at H; have c37b0 : decide (0 ≤ x5_3) = true := decide_eq_true c37; clear c37
            by_cases c38 : x5_3 < (l0_2.length : Int)
            ·rw [if_pos c38] at H
             have c38b0 : decide (x5_3 < (l0_2.length : Int)) = true := decide_eq_true c38
             clear c38
             by_cases c39 : ((rd_T83 l0_2 x5_3).f1) = ((rd_T83 l0_2 x3_1).f1)
             ·rw [if_pos c39] at H; have c39b0 : (((rd_T83 l0_2 x5_3).f1) == ((rd_T83 l0_2 x3_1).f1)) = true := beq_iff_eq.mpr c39; have c39b1 : (((rd_T83 l0_2 x5_3).f1) != ((rd_T83 l0_2 x3_1).f1)) = false := bne_eq_false_iff_eq.mpr c39; clear c39
              obtain rfl := Option.some.inj H
              try go_wp2
              have n0_ := Aside0.mk (blk_drew BK156.out); have n1_ := Aside0.mk (blk_drew BK160.out); have n2_ := Aside0.mk (below_drew1 HB.out); clear BK156; clear BK160; clear HB; have BK156 := n0_; have BK160 := n1_; have HB := n2_; clear n0_ n1_ n2_
              have p167 : 0 ≤ (x5_3 : Int) := of_decide_eq_true Cmp.d
              have q167 : x5_3 < (l0_2.length : Int) := of_decide_eq_true Cmp.d
              obtain ⟨ad167, e167, hx167_0, hx167_1, hx167_2, hx167_3⟩ := at_T83 HR0_2.out x5_3 p167 q167
              have hw167_3 := hx167_3; have hw167_2 := hx167_2; have hw167_1 := hx167_1; have hw167_0 := hx167_0
              obtain rfl : ad159 = ad167 := (by injection e167)
              replace hx167_0 := (HB.out.cell (World.block_lt_of_cell? w _ hx167_0)).trans hx167_0
              replace hx167_1 := (HB.out.cell (World.block_lt_of_cell? w _ hx167_1)).trans hx167_1
              replace hx167_2 := (HB.out.cell (World.block_lt_of_cell? w _ hx167_2)).trans hx167_2
              replace hx167_3 := (HB.out.cell (World.block_lt_of_cell? w _ hx167_3)).trans hx167_3
              replace p167 := eq_true p167; replace q167 := eq_true q167
              refine start_ (n := 9) (S := fun w' => w'.cell? ⟨gb156, 0, none⟩ = some (.int .i64 a0_0) ∧ w'.cell? ⟨gb156, 1, none⟩ = some (.int .i64 a0_1) ∧ w'.cell? ⟨gb156, 2, none⟩ = some (.slice (some ad159) l0_2.length c0_2) ∧ w'.cell? ⟨gb160, 0, none⟩ = some (.int .i64 ((rd_T83 l0_2 x3_1).f0)) ∧ w'.cell? ⟨gb160, 1, none⟩ = some (.int .i64 ((rd_T83 l0_2 x3_1).f1)) ∧ w'.cell? ⟨gb160, 2, none⟩ = some (.int .i64 ((rd_T83 l0_2 x3_1).f2)) ∧ w'.cell? ⟨gb160, 3, none⟩ = some (.bool ((rd_T83 l0_2 x3_1).f3)) ∧ w'.cell? (ad159.add ((x5_3).toNat * 4)) = some (.int .i64 ((rd_T83 l0_2 x5_3).f0)) ∧ w'.cell? ⟨(ad159.add ((x5_3).toNat * 4)).block, (ad159.add ((x5_3).toNat * 4)).off + 1, none⟩ = some (.int .i64 ((rd_T83 l0_2 x5_3).f1)) ∧ w'.cell? ⟨(ad159.add ((x5_3).toNat * 4)).block, (ad159.add ((x5_3).toNat * 4)).off + 2, none⟩ = some (.int .i64 ((rd_T83 l0_2 x5_3).f2)) ∧ w'.cell? ⟨(ad159.add ((x5_3).toNat * 4)).block, (ad159.add ((x5_3).toNat * 4)).off + 3, none⟩ = some (.bool ((rd_T83 l0_2 x5_3).f3))) (ds := []) (Cmp.bm 0 9) (by kernel_rfl) rfl rfl ⟨(blk_cell BK156.out 0).trans rfl, (blk_cell BK156.out 1).trans rfl, (blk_cell BK156.out 2).trans rfl, (blk_cell BK160.out 0).trans rfl, (blk_cell BK160.out 1).trans rfl, (blk_cell BK160.out 2).trans rfl, (blk_cell BK160.out 3).trans rfl, ((HB.out.cell (World.block_lt_of_cell? w _ hw167_0)).trans hw167_0), ((HB.out.cell (World.block_lt_of_cell? w _ hw167_1)).trans hw167_1), ((HB.out.cell (World.block_lt_of_cell? w _ hw167_2)).trans hw167_2), ((HB.out.cell (World.block_lt_of_cell? w _ hw167_3)).trans hw167_3)⟩ (fun hHeld => ?_); refine with_tabW spec_IsValidAccount.tab10 spec_IsValidAccount.bits10 (fun HT_ HW_ => ?_)
              generalize wr.drew = w40 at BK156 BK160 HB hx167_0 hx167_1 hx167_2 hx167_3 hHeld ⊢
              refine Cmp.pu HT_ 0 55 (Cmp.bm 1 8) ?_; refine Cmp.pu HT_ 2 57 (Cmp.bb 9 5) ?_; refine Cmp.pu HT_ 6 61 (Cmp.bb 9 69) ?_; refine Cmp.tk HT_ HW_ hHeld 1 56 (Cmp.bb 9 71) ?_; refine Cmp.pu HT_ 3 58 (Cmp.bb 9 79) ?_; refine Cmp.pu HT_ 4 59 (Cmp.bb 9 95) ?_; refine Cmp.tk HT_ HW_ hHeld 5 60 (Cmp.bm 7 2) ?_; refine Cmp.tk HT_ HW_ hHeld 7 62 (Cmp.bm 8 1) ?_; refine Cmp.pu HT_ 8 63 (Cmp.bm 9 0) ?_
              refine done_ (done_of HT_.out (by kernel_rfl)) ?_
              try go_wp2
              go_ret
              exact ⟨by first | rfl | (simp [errW_none, errW_some] <;> rfl) | (simp [*, errW_none, errW_some] <;> rfl), Cmp.g HB.out⟩
             ·rw [if_neg c39] at H; have c39b0 : (((rd_T83 l0_2 x5_3).f1) == ((rd_T83 l0_2 x3_1).f1)) = false := beq_eq_false_iff_ne.mpr c39; have c39b1 : (((rd_T83 l0_2 x5_3).f1) != ((rd_T83 l0_2 x3_1).f1)) = true := bne_iff_ne.mpr c39
              have H' := Aside0.mk H
              clear H
              try go_wp2
              have n0_ := Aside0.mk (blk_drew BK156.out); have n1_ := Aside0.mk (blk_drew BK160.out); have n2_ := Aside0.mk (below_drew1 HB.out); clear BK156; clear BK160; clear HB; have BK156 := n0_; have BK160 := n1_; have HB := n2_; clear n0_ n1_ n2_
              have p167 : 0 ≤ (x5_3 : Int) := of_decide_eq_true Cmp.d
              have q167 : x5_3 < (l0_2.length : Int) := of_decide_eq_true Cmp.d
              obtain ⟨ad167, e167, hx167_0, hx167_1, hx167_2, hx167_3⟩ := at_T83 HR0_2.out x5_3 p167 q167
              have hw167_3 := hx167_3; have hw167_2 := hx167_2; have hw167_1 := hx167_1; have hw167_0 := hx167_0
              obtain rfl : ad159 = ad167 := (by injection e167)
              replace hx167_0 := (HB.out.cell (World.block_lt_of_cell? w _ hx167_0)).trans hx167_0
              replace hx167_1 := (HB.out.cell (World.block_lt_of_cell? w _ hx167_1)).trans hx167_1
              replace hx167_2 := (HB.out.cell (World.block_lt_of_cell? w _ hx167_2)).trans hx167_2
              replace hx167_3 := (HB.out.cell (World.block_lt_of_cell? w _ hx167_3)).trans hx167_3
              replace p167 := eq_true p167; replace q167 := eq_true q167
              refine start_ (n := 9) (S := fun w' => w'.cell? ⟨gb156, 0, none⟩ = some (.int .i64 a0_0) ∧ w'.cell? ⟨gb156, 1, none⟩ = some (.int .i64 a0_1) ∧ w'.cell? ⟨gb156, 2, none⟩ = some (.slice (some ad159) l0_2.length c0_2) ∧ w'.cell? ⟨gb160, 0, none⟩ = some (.int .i64 ((rd_T83 l0_2 x3_1).f0)) ∧ w'.cell? ⟨gb160, 1, none⟩ = some (.int .i64 ((rd_T83 l0_2 x3_1).f1)) ∧ w'.cell? ⟨gb160, 2, none⟩ = some (.int .i64 ((rd_T83 l0_2 x3_1).f2)) ∧ w'.cell? ⟨gb160, 3, none⟩ = some (.bool ((rd_T83 l0_2 x3_1).f3)) ∧ w'.cell? (ad159.add ((x5_3).toNat * 4)) = some (.int .i64 ((rd_T83 l0_2 x5_3).f0)) ∧ w'.cell? ⟨(ad159.add ((x5_3).toNat * 4)).block, (ad159.add ((x5_3).toNat * 4)).off + 1, none⟩ = some (.int .i64 ((rd_T83 l0_2 x5_3).f1)) ∧ w'.cell? ⟨(ad159.add ((x5_3).toNat * 4)).block, (ad159.add ((x5_3).toNat * 4)).off + 2, none⟩ = some (.int .i64 ((rd_T83 l0_2 x5_3).f2)) ∧ w'.cell? ⟨(ad159.add ((x5_3).toNat * 4)).block, (ad159.add ((x5_3).toNat * 4)).off + 3, none⟩ = some (.bool ((rd_T83 l0_2 x5_3).f3))) (ds := []) (Cmp.bm 0 9) (by kernel_rfl) rfl rfl ⟨(blk_cell BK156.out 0).trans rfl, (blk_cell BK156.out 1).trans rfl, (blk_cell BK156.out 2).trans rfl, (blk_cell BK160.out 0).trans rfl, (blk_cell BK160.out 1).trans rfl, (blk_cell BK160.out 2).trans rfl, (blk_cell BK160.out 3).trans rfl, ((HB.out.cell (World.block_lt_of_cell? w _ hw167_0)).trans hw167_0), ((HB.out.cell (World.block_lt_of_cell? w _ hw167_1)).trans hw167_1), ((HB.out.cell (World.block_lt_of_cell? w _ hw167_2)).trans hw167_2), ((HB.out.cell (World.block_lt_of_cell? w _ hw167_3)).trans hw167_3)⟩ (fun hHeld => ?_); refine with_tabW spec_IsValidAccount.tab10 spec_IsValidAccount.bits10 (fun HT_ HW_ => ?_)
              generalize wr.drew = w41 at BK156 BK160 HB hx167_0 hx167_1 hx167_2 hx167_3 hHeld ⊢
              refine Cmp.pu HT_ 0 55 (Cmp.bm 1 8) ?_; refine Cmp.pu HT_ 2 57 (Cmp.bb 9 5) ?_; refine Cmp.pu HT_ 6 61 (Cmp.bb 9 69) ?_; refine Cmp.tk HT_ HW_ hHeld 1 56 (Cmp.bb 9 71) ?_; refine Cmp.pu HT_ 3 58 (Cmp.bb 9 79) ?_; refine Cmp.pu HT_ 4 59 (Cmp.bb 9 95) ?_; refine Cmp.tk HT_ HW_ hHeld 5 60 (Cmp.bm 7 2) ?_; refine Cmp.tk HT_ HW_ hHeld 7 62 (Cmp.bm 8 1) ?_; refine Cmp.pu HT_ 8 63 (Cmp.bm 9 0) ?_
              refine done_ (done_of HT_.out (by kernel_rfl)) ?_
              try go_wp2
              go_roundg k3
              case measure => have := HK1.out; have := HJ4.out; have := HK3.out; omega
              case rel => exact ⟨(wrap64 (x5_3 + 1)), (by first | rfl | simp | simp [*]), H', ⟨by have := HK1.out; have := HJ4.out; have := HK3.out; omega⟩, ⟨by refine Cmp.b ?_; exact BK156.out⟩, ⟨by refine Cmp.b ?_; exact BK160.out⟩, ⟨Cmp.g HB.out⟩⟩
            ·rw [if_neg c38] at H; exact absurd H (by simp)
           ·rw [if_neg c37] at H; exact absurd H (by simp)
          ·rw [if_neg c36] at H; have c36b0 : decide (x5_3 < x3_1) = false := decide_eq_false c36; clear c36
           have H' := Aside0.mk H
           clear H
           go_wp2
           go_roundg k3
           case measure => have := HK1.out; have := HJ4.out; have := HK3.out; omega
           case rel => exact ⟨(wrap64 (x3_1 + 1)), (by first | rfl | simp | simp [*]), H', ⟨by have := HK1.out; have := HJ4.out; have := HK3.out; omega⟩, ⟨by refine Cmp.b ?_; exact BK156.out⟩, ⟨Cmp.g HB.out⟩⟩
    ·rw [if_neg c4] at H; exact absurd H (by simp)
   ·rw [if_neg c3] at H
    have c3b0 : decide (x3_1 < (l0_2.length : Int)) = false := decide_eq_false c3
    clear c3; replace H := Option.bind_eq_some_iff.mp H; obtain ⟨t157, A420, H⟩ := H; (try dsimp only at H); have A42 := Aside0.mk A420; clear A420
    by_cases c43 : t157 = true
    ·subst c43; rw [if_pos rfl] at H; replace H := Option.bind_eq_some_iff.mp H; obtain ⟨t158, A440, H⟩ := H; (try dsimp only at H); have A44 := Aside0.mk A440; clear A440
     by_cases c45 : t158 = true
     ·subst c45; rw [if_pos rfl] at H
      obtain rfl := Option.some.inj H
      have hcz46_0 : wr.cell? ⟨gb156, 0, none⟩ = some (.int .i64 a0_0) := (blk_cell BK156.out 0).trans rfl
      have hcz46_1 : wr.cell? ⟨gb156, 1, none⟩ = some (.int .i64 a0_1) := (blk_cell BK156.out 1).trans rfl
      have hcz46_2 : wr.cell? ⟨gb156, 2, none⟩ = some (.slice A0_2 l0_2.length c0_2) := (blk_cell BK156.out 2).trans rfl
      have hfz46_0 := blk_frozen BK156.out 0; have hfz46_1 := blk_frozen BK156.out 1; have hfz46_2 := blk_frozen BK156.out 2
      go_wp2_with (first | ((with_reducible refine gate_callee (f := 46) rfl ?_); refine goesL_ (some 66) rfl rfl Try.func46 (by kernel_rfl) rfl #[.int .i64 a0_0, .int .i64 0, .int .i64 1000000] rfl Cmp.q ?_; (with_reducible refine (spec_l1In.calls a0_0 0 1000000 true _ A42.out).mono ?_); rintro e w' ⟨rfl, ⟨nd, rfl⟩⟩; refine ⟨_, rfl, ?_⟩) | (go_at_call 46; (with_reducible refine (spec_l1In.calls a0_1 1 3 true _ A44.out).mono ?_); rintro e w' ⟨rfl, ⟨nd, rfl⟩⟩))
      go_ret
      exact ⟨by first | rfl | (simp [errW_none, errW_some] <;> rfl) | (simp [*, errW_none, errW_some] <;> rfl), Cmp.g HB.out⟩
     ·replace c45 := Bool.eq_false_iff.mpr c45
      subst c45
      have H1 : (some false) = some r := by rw [if_neg (show ¬ (false = true) by decide)] at H; exact H
      clear H; have H := H1; clear H1
      obtain rfl := Option.some.inj H
      have hcz47_0 : wr.cell? ⟨gb156, 0, none⟩ = some (.int .i64 a0_0) := (blk_cell BK156.out 0).trans rfl
      have hcz47_1 : wr.cell? ⟨gb156, 1, none⟩ = some (.int .i64 a0_1) := (blk_cell BK156.out 1).trans rfl
      have hcz47_2 : wr.cell? ⟨gb156, 2, none⟩ = some (.slice A0_2 l0_2.length c0_2) := (blk_cell BK156.out 2).trans rfl
      have hfz47_0 := blk_frozen BK156.out 0; have hfz47_1 := blk_frozen BK156.out 1; have hfz47_2 := blk_frozen BK156.out 2
      go_wp2_with (first | ((with_reducible refine gate_callee (f := 46) rfl ?_); refine goesL_ (some 66) rfl rfl Try.func46 (by kernel_rfl) rfl #[.int .i64 a0_0, .int .i64 0, .int .i64 1000000] rfl Cmp.q ?_; (with_reducible refine (spec_l1In.calls a0_0 0 1000000 true _ A42.out).mono ?_); rintro e w' ⟨rfl, ⟨nd, rfl⟩⟩; refine ⟨_, rfl, ?_⟩) | (go_at_call 46; (with_reducible refine (spec_l1In.calls a0_1 1 3 false _ A44.out).mono ?_); rintro e w' ⟨rfl, ⟨nd, rfl⟩⟩))
      go_ret
      exact ⟨by first | rfl | (simp [errW_none, errW_some] <;> rfl) | (simp [*, errW_none, errW_some] <;> rfl), Cmp.g HB.out⟩
    ·replace c43 := Bool.eq_false_iff.mpr c43
     subst c43
     have H1 : (some false) = some r := by rw [if_neg (show ¬ (false = true) by decide)] at H; exact H
     clear H; have H := H1; clear H1
     obtain rfl := Option.some.inj H
     have hcz48_0 : wr.cell? ⟨gb156, 0, none⟩ = some (.int .i64 a0_0) := (blk_cell BK156.out 0).trans rfl
     have hcz48_1 : wr.cell? ⟨gb156, 1, none⟩ = some (.int .i64 a0_1) := (blk_cell BK156.out 1).trans rfl
     have hcz48_2 : wr.cell? ⟨gb156, 2, none⟩ = some (.slice A0_2 l0_2.length c0_2) := (blk_cell BK156.out 2).trans rfl
     have hfz48_0 := blk_frozen BK156.out 0; have hfz48_1 := blk_frozen BK156.out 1; have hfz48_2 := blk_frozen BK156.out 2
     go_wp2_with (first | ((with_reducible refine gate_callee (f := 46) rfl ?_); refine goesL_ (some 66) rfl rfl Try.func46 (by kernel_rfl) rfl #[.int .i64 a0_0, .int .i64 0, .int .i64 1000000] rfl Cmp.q ?_; (with_reducible refine (spec_l1In.calls a0_0 0 1000000 false _ A42.out).mono ?_); rintro e w' ⟨rfl, ⟨nd, rfl⟩⟩; refine ⟨_, rfl, ?_⟩))
     go_ret
     exact ⟨by first | rfl | (simp [errW_none, errW_some] <;> rfl) | (simp [*, errW_none, errW_some] <;> rfl), Cmp.g HB.out⟩

end Go.Proofs.Ytoffbjjkegeccaa.PFnExactAddCredential

/- Printed functions of the program, out of print.sh, told more shortly. No condition. -/
import Derived.Test.YtoffbjjkegeccaaCmp
import Derived.Test.YtoffbjjkegeccaaPFnExactAddCredentialx0
import Derived.Test.YtoffbjjkegeccaaPFnExactAddCredentialx5
import Derived.Test.YtoffbjjkegeccaaPFnExactAddCredentialx6
namespace Go.Proofs.Ytoffbjjkegeccaa.PFnExactAddCredential
open Go.Proofs.Ytoffbjjkegeccaa
open Go.RowKit Go.Proofs.YtoffbjjkegeccaaW.PrintWords Go.Proofs.YtoffbjjkegeccaaW.PrintLast Go.Proofs.YtoffbjjkegeccaaW.PrintMore
attribute [local go_sem] max2_int min2_int max_two min_two max_three min_three max_four min_four   -- for this text's walks alone
set_option linter.unusedVariables false
set_option linter.unusedSimpArgs false

/-! ### impl_AddCredential: function 17 -/
mutual
def impl_AddCredential.j1 : Nat → Int → Int → Int → Int → Int → List (S83) → Option (Int × Int × (List (S83)) × Bool)
  | 0, _, _, _, _, _, _ => none
  | k + 1, x1, x2, x8, x241000, x241001, x241002 => (impl_copyAccount.f x241000 x241001 x241002).bind fun bt249 => ((some (([] : List (S83)) : List (S83))).bind fun y255 => (if 0 ≤ x8 then (if x8 ≤ (x241002.length : Int) then ((some (x241002.take (x8 : Int).toNat : List (S83))).bind fun y258 => (if y255.length + y258.length < 4398046511104 then ((some (y255 ++ y258 : List (S83))).bind fun y262 => ((some (([(⟨x1, x2, 0, false⟩ : S83)] : List (S83)) : List (S83))).bind fun y265 => (if y262.length + y265.length < 4398046511104 then ((some (y262 ++ y265 : List (S83))).bind fun y268 => ((some (x241002.drop (x8 : Int).toNat : List (S83))).bind fun y271 => (if y268.length + y271.length < 4398046511104 then ((some (y268 ++ y271 : List (S83))).bind fun y275 => ((impl_IsValidAccount.f k bt249.1 bt249.2.1 y275).bind fun t278 => (if t278 = true then (some (bt249.1, bt249.2.1, y275, true)) else ((impl_copyAccount.f x241000 x241001 x241002).bind fun bt279 => (some (bt279.1, bt279.2.1, bt279.2.2, false)))))) else (none)))) else (none)))) else (none))) else (none)) else (none)))
def impl_AddCredential.l0 : Nat → Int → Int → Int → Int → Int → List (S83) → Option (Int × Int × (List (S83)) × Bool)
  | 0, _, _, _, _, _, _ => none
  | k + 1, x1, x2, x8, x241000, x241001, x241002 => if x8 < (x241002.length : Int) then (if 0 ≤ x8 then (if ((rd_T83 x241002 x8).f0) < x1 then (impl_AddCredential.l0 k x1 x2 (wrap64 (x8 + 1)) x241000 x241001 x241002) else (impl_AddCredential.j1 k x1 x2 x8 x241000 x241001 x241002)) else (none)) else (impl_AddCredential.j1 k x1 x2 x8 x241000 x241001 x241002)
end
def impl_AddCredential.f (k : Nat) (a0_0 : Int) (a0_1 : Int) (l0_2 : List (S83)) (a1 : Int) (a2 : Int) : Option (Int × Int × (List (S83)) × Bool) := (impl_IsValidAccount.f k a0_0 a0_1 l0_2).bind fun t242 => (if t242 = true then (impl_AddCredential.l0 k a1 a2 0 a0_0 a0_1 l0_2) else ((impl_copyAccount.f a0_0 a0_1 l0_2).bind fun bt243 => (some (bt243.1, bt243.2.1, bt243.2.2, false))))
theorem impl_AddCredential.mono_l : ∀ k, (∀ y0 y1 y2 y3 y4 y5, LeO (impl_AddCredential.j1 k y0 y1 y2 y3 y4 y5) (impl_AddCredential.j1 (k + 1) y0 y1 y2 y3 y4 y5)) ∧ (∀ y0 y1 y2 y3 y4 y5, LeO (impl_AddCredential.l0 k y0 y1 y2 y3 y4 y5) (impl_AddCredential.l0 (k + 1) y0 y1 y2 y3 y4 y5))
  | 0 => ⟨fun _ _ _ _ _ _ r h => by simp [impl_AddCredential.j1] at h, fun _ _ _ _ _ _ r h => by simp [impl_AddCredential.l0] at h⟩
  | k + 1 => by
    obtain ⟨ih0, ih1⟩ := impl_AddCredential.mono_l k
    refine ⟨?_, ?_⟩
    · intro y0 y1 y2 y3 y4 y5
      unfold impl_AddCredential.j1
      repeat' first
      | (with_reducible exact ih0 _ _ _ _ _ _)
      | (with_reducible exact ih1 _ _ _ _ _ _)
      | (with_reducible exact impl_IsValidAccount.mono _ _ _ _)
      | (with_reducible exact LeO.refl _)
      | (with_reducible exact LeO.none _)
      | (with_reducible refine LeO.ite ?_ ?_)
      | (with_reducible refine LeO.bind ?_ (fun _ => ?_))
      | exact ih0 _ _ _ _ _ _
      | exact ih1 _ _ _ _ _ _
      | exact impl_IsValidAccount.mono _ _ _ _
      | exact LeO.none _
      | refine LeO.ite ?_ ?_
      | refine LeO.bind ?_ (fun _ => ?_)
    · intro y0 y1 y2 y3 y4 y5
      unfold impl_AddCredential.l0
      repeat' first
      | (with_reducible exact ih0 _ _ _ _ _ _)
      | (with_reducible exact ih1 _ _ _ _ _ _)
      | (with_reducible exact impl_IsValidAccount.mono _ _ _ _)
      | (with_reducible exact LeO.refl _)
      | (with_reducible exact LeO.none _)
      | (with_reducible refine LeO.ite ?_ ?_)
      | (with_reducible refine LeO.bind ?_ (fun _ => ?_))
      | exact ih0 _ _ _ _ _ _
      | exact ih1 _ _ _ _ _ _
      | exact impl_IsValidAccount.mono _ _ _ _
      | exact LeO.none _
      | refine LeO.ite ?_ ?_
      | refine LeO.bind ?_ (fun _ => ?_)
theorem impl_AddCredential.mono : ∀ a0 a1 a2 a3 a4 k, LeO (impl_AddCredential.f k a0 a1 a2 a3 a4) (impl_AddCredential.f (k + 1) a0 a1 a2 a3 a4) := by
  intro a0 a1 a2 a3 a4 k
  obtain ⟨ih0, ih1⟩ := impl_AddCredential.mono_l k
  unfold impl_AddCredential.f
  repeat' first
      | (with_reducible exact ih0 _ _ _ _ _ _)
      | (with_reducible exact ih1 _ _ _ _ _ _)
      | (with_reducible exact impl_IsValidAccount.mono _ _ _ _)
      | (with_reducible exact LeO.refl _)
      | (with_reducible exact LeO.none _)
      | (with_reducible refine LeO.ite ?_ ?_)
      | (with_reducible refine LeO.bind ?_ (fun _ => ?_))
      | exact ih0 _ _ _ _ _ _
      | exact ih1 _ _ _ _ _ _
      | exact impl_IsValidAccount.mono _ _ _ _
      | exact LeO.none _
      | refine LeO.ite ?_ ?_
      | refine LeO.bind ?_ (fun _ => ?_)
def impl_AddCredential.T7 : Bool × List (List Nat × List Nat) := (true, [([], []), ([], []), ([1], [1]), ([], []), ([2, 3], [2, 3]), ([0, 4], [0, 4]), ([], []), ([], []), ([6, 7], [6, 7]), ([8], [8]), ([5, 9, 5], [5, 9]), ([], []), ([11], [11]), ([], []), ([12, 13], [12, 13]), ([10, 14, 10], [10, 14]), ([0, 1, 2, 3, 4, 5, 6, 7, 8, 9, 10, 11, 12, 13, 14, 15], []), ([16, 15, 15, 0, 1, 2, 3, 4, 5, 6, 7, 8, 9, 10, 11, 12, 13, 14, 15], [15, 16])])
def impl_AddCredential.B7 : List Nat := [0, 0, 2, 0, 14, 31, 0, 0, 192, 448, 1023, 0, 2048, 0, 14336, 32767, 65535, 131071]
theorem impl_AddCredential.tab7 : rtab .any (opsOf Try.f17 7) = impl_AddCredential.T7 := by kernel_rfl
theorem impl_AddCredential.bits7 : waitsOk impl_AddCredential.T7.2 impl_AddCredential.B7 = true := by kernel_rfl
set_option maxHeartbeats 8000000 in
set_option maxRecDepth 100000 in
theorem impl_AddCredential.calls (k : Nat) (a0_0 : Int) (a0_1 : Int) (A0_2 : Option Addr) (c0_2 : Nat) (l0_2 : List (S83)) (a1 : Int) (a2 : Int) (r1 : Int) (r2 : Int) (r3 : List (S83)) (r4 : Bool) (w : World) (hr0_2 : Kd.C k83 w A0_2 l0_2.length l0_2) (hc0_2 : l0_2.length ≤ c0_2) (h : impl_AddCredential.f k a0_0 a0_1 l0_2 a1 a2 = some (r1, r2, r3, r4)) :
    Calls Try.prog 17 #[.agg #[.int .i64 a0_0, .int .i64 a0_1, .slice A0_2 l0_2.length c0_2], .int .i64 a1, .int .i64 a2] w fun e w' => ∃ v2_ : Value, e = .returned (.tuple #[.agg #[.int .i64 r1, .int .i64 r2, v2_], .bool r4]) ∧ Kd.R k83 83 w' w.heap.size (fun _ => True) v2_ r3 ∧ Below w.heap.size w w' := by
 have hu28 := Try.underlying28; have hu83 := Try.underlying83; have HR0_2 := Aside0.mk hr0_2; have HC0_2 := Aside0.mk hc0_2; clear hr0_2 hc0_2
 have HB := Aside0.mk (Below.refl w.heap.size w)
 have H : ((impl_IsValidAccount.f k a0_0 a0_1 l0_2).bind fun t242 => (if t242 = true then (impl_AddCredential.l0 k a1 a2 0 a0_0 a0_1 l0_2) else ((impl_copyAccount.f a0_0 a0_1 l0_2).bind fun bt243 => (some (bt243.1, bt243.2.1, bt243.2.2, false))))) = some (r1, r2, r3, r4) := h
 clear h; replace H := Option.bind_eq_some_iff.mp H; obtain ⟨t242, A40, H⟩ := H; (try dsimp only at H); have A4 := Aside0.mk A40; clear A40
 by_cases c5 : t242 = true
 ·subst c5; rw [if_pos rfl] at H; have HC6 := Aside0.mk H; clear H
  go_enter Try.func17, Try.ntmps17
  go_upto_block 0 with (first | ((with_reducible refine gate_dst (N := 3) rfl ?_); refine box_event (by rfl) (N := 3) (by rfl) (cs := #[.int .i64 a0_0, .int .i64 a0_1, .slice A0_2 l0_2.length c0_2]) (t := 28) (by first | (go_simp; done) | (go_simp; rfl)) ?_; intro gb240 hg w7 hbox hb; have n0_ := Aside0.mk (below_step (Cmp.g HB.out) hb); have n1_ := Aside0.mk (hbox); have n2_ := Aside0.mk ((by rw [hg]; exact (below_size (Cmp.g HB.out)) : w.heap.size ≤ gb240)); have n3_ := Aside0.mk ((by rw [hg]; exact (below_size (Cmp.g HB.out)) : w.heap.size ≤ gb240)); clear HB; have HB := n0_; have BK240 := n1_; have GW240 := n2_; have GE240 := n3_; clear n0_ n1_ n2_ n3_; clear hb hbox hg) | ((with_reducible refine gate_dst (N := 6) rfl ?_); refine box_event (by rfl) (N := 6) (by rfl) (cs := #[.int .i64 0, .int .i64 0, .slice none 0 0]) (t := 28) (by first | (go_simp; done) | (go_simp; rfl)) ?_; intro gb241 hg w8 hbox hb; have n0_ := Aside0.mk (blk_below (Cmp.b BK240.out) hb); have n1_ := Aside0.mk (below_step (Cmp.g HB.out) hb); have n2_ := Aside0.mk (hbox); have n3_ := Aside0.mk ((by rw [hg]; exact (below_size (Cmp.g HB.out)) : w.heap.size ≤ gb241)); have n4_ := Aside0.mk ((by rw [hg]; exact (below_size (Cmp.g HB.out)) : w.heap.size ≤ gb241)); have n5_ := Aside0.mk ((by rw [hg]; exact Nat.ne_of_lt (blk_lt (Cmp.b BK240.out)) : gb240 ≠ gb241)); have n6_ := Aside0.mk ((by rw [hg]; exact Nat.ne_of_gt (blk_lt (Cmp.b BK240.out)) : gb241 ≠ gb240)); clear BK240; clear HB; have BK240 := n0_; have HB := n1_; have BK241 := n2_; have GW241 := n3_; have GE241 := n4_; have NB240_241 := n5_; have NB241_240 := n6_; clear n0_ n1_ n2_ n3_ n4_ n5_ n6_; clear hb hbox hg; have hnb9 := NB240_241.out; have hnc9 := NB241_240.out; have hcz10_0 : w8.cell? ⟨gb240, 0, none⟩ = some (.int .i64 a0_0) := (blk_cell BK240.out 0).trans rfl; have hcz10_1 : w8.cell? ⟨gb240, 1, none⟩ = some (.int .i64 a0_1) := (blk_cell BK240.out 1).trans rfl; have hcz10_2 : w8.cell? ⟨gb240, 2, none⟩ = some (.slice A0_2 l0_2.length c0_2) := (blk_cell BK240.out 2).trans rfl; have hfz10_0 := blk_frozen BK240.out 0; have hfz10_1 := blk_frozen BK240.out 1; have hfz10_2 := blk_frozen BK240.out 2) | ((with_reducible refine gate_callee (f := 49) rfl ?_); refine goesL_ (some 11) rfl rfl Try.func49 (by kernel_rfl) rfl #[.agg #[.int .i64 a0_0, .int .i64 a0_1, .slice A0_2 l0_2.length c0_2]] rfl Cmp.q ?_; (with_reducible refine (impl_IsValidAccount.calls k a0_0 a0_1 _ _ l0_2 true _ ?side1 ?side2 A4.out).mono ?_); (case side1 => exact Cmp.rc (Kd.C_below HR0_2.out HB.out)); (case side2 => exact HC0_2.out); rintro e w11 ⟨rfl, hb⟩; refine ⟨_, rfl, ?_⟩; have n0_ := Aside0.mk (blk_below (Cmp.b BK240.out) hb); have n1_ := Aside0.mk (blk_below (Cmp.b BK241.out) hb); have n2_ := Aside0.mk (below_step (Cmp.g HB.out) hb); clear BK240; clear BK241; clear HB; have BK240 := n0_; have BK241 := n1_; have HB := n2_; clear n0_ n1_ n2_; (try clear hb); (try clear hb2); (try clear hk); (try clear hi)))
  (try simp only [Act.put, List.setIfInBounds_toArray, List.set_cons_zero, List.set_cons_succ])
  go_cut [8] (fun v8 wc => ∃ (kq : Nat) (x8_5 : Int), v8 = .int .i64 x8_5 ∧ Aside0 (impl_AddCredential.j1 kq a1 a2 x8_5 a0_0 a0_1 l0_2 = some (r1, r2, r3, r4)) ∧ Aside0 (kq ≤ k) ∧ Aside0 (wc.heap[gb240]? = some (.cells #[.int .i64 a0_0, .int .i64 a0_1, (.slice A0_2 l0_2.length c0_2)] 28 (0, 0))) ∧ Aside0 (wc.heap[gb241]? = some (.cells #[.int .i64 0, .int .i64 0, (.slice none 0 0)] 28 (0, 0))) ∧ Aside0 (Below w.heap.size w wc))
  case first =>
   have H := HC6.out; clear HC6
   have H' := Aside0.mk H
   clear H
   go_wp2
   go_loopg [8] k (fun kq v8 w' => ∃ (x8_1 : Int), v8 = .int .i64 x8_1 ∧ Aside0 (impl_AddCredential.l0 kq a1 a2 x8_1 a0_0 a0_1 l0_2 = some (r1, r2, r3, r4)) ∧ Aside0 (kq ≤ k) ∧ Aside0 (w'.heap[gb240]? = some (.cells #[.int .i64 a0_0, .int .i64 a0_1, (.slice A0_2 l0_2.length c0_2)] 28 (0, 0))) ∧ Aside0 (w'.heap[gb241]? = some (.cells #[.int .i64 0, .int .i64 0, (.slice none 0 0)] 28 (0, 0))) ∧ Aside0 (Below w.heap.size w w'))
   case atStart => exact ⟨(0), (by first | rfl | simp | simp [*]), H', ⟨Nat.le_refl _⟩, ⟨by refine Cmp.b ?_; exact BK240.out⟩, ⟨by refine Cmp.b ?_; exact BK241.out⟩, ⟨Cmp.g HB.out⟩⟩
   case round =>
    clear H'
    (try clear c1); (try clear p2); (try clear c4); (try clear c5); (try clear c9); (try clear hcz10_0); (try clear hcz10_1); (try clear hcz10_2); (try clear hfz10_0); (try clear hfz10_1); (try clear hfz10_2)
    obtain ⟨x8_1, rfl, HA, HK1, BK240, BK241, HB⟩ := hrel
    cases gk with
    | zero => exact absurd HA.out (by simp [impl_AddCredential.l0])
    | succ k1 =>
     have H := HA.out; clear HA
     simp only [impl_AddCredential.l0] at H
     by_cases c12 : x8_1 < (l0_2.length : Int)
     ·rw [if_pos c12] at H
      have c12b0 : decide (x8_1 < (l0_2.length : Int)) = true := decide_eq_true c12
      clear c12
      (first | rw [c12b0] | (simp only [i64_w, i32_w]; rw [c12b0]) | skip)
      by_cases c13 : 0 ≤ x8_1
      ·rw [if_pos c13] at H; have c13b0 : decide (0 ≤ x8_1) = true := decide_eq_true c13; clear c13
       by_cases c14 : ((rd_T83 l0_2 x8_1).f0) < a1
       ·rw [if_pos c14] at H; have c14b0 : decide (((rd_T83 l0_2 x8_1).f0) < a1) = true := decide_eq_true c14; clear c14
        have H' := Aside0.mk H
        clear H; have hnb15 := NB240_241.out; have hnc15 := NB241_240.out
        have hcz16_0 : wr.cell? ⟨gb240, 0, none⟩ = some (.int .i64 a0_0) := (blk_cell BK240.out 0).trans rfl
        have hcz16_1 : wr.cell? ⟨gb240, 1, none⟩ = some (.int .i64 a0_1) := (blk_cell BK240.out 1).trans rfl
        have hcz16_2 : wr.cell? ⟨gb240, 2, none⟩ = some (.slice A0_2 l0_2.length c0_2) := (blk_cell BK240.out 2).trans rfl
        have hfz16_0 := blk_frozen BK240.out 0; have hfz16_1 := blk_frozen BK240.out 1; have hfz16_2 := blk_frozen BK240.out 2
        have p248 : 0 ≤ (x8_1 : Int) := of_decide_eq_true Cmp.d
        have q248 : x8_1 < (l0_2.length : Int) := of_decide_eq_true Cmp.d
        obtain ⟨ad248, e248, hx248_0, hx248_1, hx248_2, hx248_3⟩ := at_T83 HR0_2.out x8_1 p248 q248
        cases e248
        replace hx248_0 := (HB.out.cell (World.block_lt_of_cell? w _ hx248_0)).trans hx248_0
        replace hx248_1 := (HB.out.cell (World.block_lt_of_cell? w _ hx248_1)).trans hx248_1
        replace hx248_2 := (HB.out.cell (World.block_lt_of_cell? w _ hx248_2)).trans hx248_2
        replace hx248_3 := (HB.out.cell (World.block_lt_of_cell? w _ hx248_3)).trans hx248_3
        replace p248 := eq_true p248; replace q248 := eq_true q248
        go_wp2
        go_roundg k1
        case measure => have := HK1.out; omega
        case rel => exact ⟨(wrap64 (x8_1 + 1)), (by first | rfl | simp | simp [*]), H', ⟨by have := HK1.out; omega⟩, ⟨by refine Cmp.b ?_; exact BK240.out⟩, ⟨by refine Cmp.b ?_; exact BK241.out⟩, ⟨Cmp.g HB.out⟩⟩
       ·rw [if_neg c14] at H; have c14b0 : decide (((rd_T83 l0_2 x8_1).f0) < a1) = false := decide_eq_false c14; clear c14
        have H' := Aside0.mk H
        clear H; have hnb17 := NB240_241.out; have hnc17 := NB241_240.out
        have hcz18_0 : wr.cell? ⟨gb240, 0, none⟩ = some (.int .i64 a0_0) := (blk_cell BK240.out 0).trans rfl
        have hcz18_1 : wr.cell? ⟨gb240, 1, none⟩ = some (.int .i64 a0_1) := (blk_cell BK240.out 1).trans rfl
        have hcz18_2 : wr.cell? ⟨gb240, 2, none⟩ = some (.slice A0_2 l0_2.length c0_2) := (blk_cell BK240.out 2).trans rfl
        have hfz18_0 := blk_frozen BK240.out 0; have hfz18_1 := blk_frozen BK240.out 1; have hfz18_2 := blk_frozen BK240.out 2
        have p248 : 0 ≤ (x8_1 : Int) := of_decide_eq_true Cmp.d
        have q248 : x8_1 < (l0_2.length : Int) := of_decide_eq_true Cmp.d
        obtain ⟨ad248, e248, hx248_0, hx248_1, hx248_2, hx248_3⟩ := at_T83 HR0_2.out x8_1 p248 q248
        cases e248
        replace hx248_0 := (HB.out.cell (World.block_lt_of_cell? w _ hx248_0)).trans hx248_0
        replace hx248_1 := (HB.out.cell (World.block_lt_of_cell? w _ hx248_1)).trans hx248_1
        replace hx248_2 := (HB.out.cell (World.block_lt_of_cell? w _ hx248_2)).trans hx248_2
        replace hx248_3 := (HB.out.cell (World.block_lt_of_cell? w _ hx248_3)).trans hx248_3
        replace p248 := eq_true p248; replace q248 := eq_true q248
        go_wp2
        go_meet
        case rel => exact ⟨_, (x8_1), (by first | rfl | simp | simp [*]), H', ⟨by have := HK1.out; first | omega | exact Nat.le_refl _⟩, ⟨by refine Cmp.b ?_; exact BK240.out⟩, ⟨by refine Cmp.b ?_; exact BK241.out⟩, ⟨Cmp.g HB.out⟩⟩
      ·rw [if_neg c13] at H; exact absurd H (by simp)
     ·rw [if_neg c12] at H
      have c12b0 : decide (x8_1 < (l0_2.length : Int)) = false := decide_eq_false c12
      clear c12
      (first | rw [c12b0] | (simp only [i64_w, i32_w]; rw [c12b0]) | skip)
      have H' := Aside0.mk H
      clear H; have hnb19 := NB240_241.out; have hnc19 := NB241_240.out
      have hcz20_0 : wr.cell? ⟨gb240, 0, none⟩ = some (.int .i64 a0_0) := (blk_cell BK240.out 0).trans rfl
      have hcz20_1 : wr.cell? ⟨gb240, 1, none⟩ = some (.int .i64 a0_1) := (blk_cell BK240.out 1).trans rfl
      have hcz20_2 : wr.cell? ⟨gb240, 2, none⟩ = some (.slice A0_2 l0_2.length c0_2) := (blk_cell BK240.out 2).trans rfl
      have hfz20_0 := blk_frozen BK240.out 0; have hfz20_1 := blk_frozen BK240.out 1; have hfz20_2 := blk_frozen BK240.out 2
      go_wp2
      go_meet
      case rel => exact ⟨_, (x8_1), (by first | rfl | simp | simp [*]), H', ⟨by have := HK1.out; first | omega | exact Nat.le_refl _⟩, ⟨by refine Cmp.b ?_; exact BK240.out⟩, ⟨by refine Cmp.b ?_; exact BK241.out⟩, ⟨Cmp.g HB.out⟩⟩
  case rest =>
   clear HC6; (try clear c1); (try clear p2); (try clear q2); (try clear hx2); (try clear c4); (try clear c5); (try clear p6); (try clear c9); (try clear c12); (try clear c12b0); (try clear c13); (try clear c13b0); (try clear c14); (try clear c14b0); (try clear c15); (try clear c17); (try clear c19); (try clear hcz10_0); (try clear hcz10_1); (try clear hcz10_2); (try clear hcz16_0); (try clear hcz16_1); (try clear hcz16_2); (try clear hcz18_0); (try clear hcz18_1); (try clear hcz18_2); (try clear hcz20_0); (try clear hcz20_1); (try clear hcz20_2); (try clear hfz10_0); (try clear hfz10_1); (try clear hfz10_2); (try clear hfz16_0); (try clear hfz16_1); (try clear hfz16_2); (try clear hfz18_0); (try clear hfz18_1); (try clear hfz18_2); (try clear hfz20_0); (try clear hfz20_1); (try clear hfz20_2); (try clear hx248_0); (try clear hx248_1); (try clear hx248_2); (try clear hx248_3); (try clear p2); (try clear p248); (try clear q248)
   obtain ⟨kq, x8_5, rfl, HA, HJ5, BK240, BK241, HB⟩ := hcut
   cases kq with
   | zero => exact absurd HA.out (by simp [impl_AddCredential.j1])
   | succ kj5 =>
    have H := HA.out; clear HA
    simp only [impl_AddCredential.j1] at H
    replace H := Option.bind_eq_some_iff.mp H; obtain ⟨⟨t249, t250, t251⟩, A210, H⟩ := H; (try dsimp only at H); have A21 := Aside0.mk A210; clear A210
    obtain ⟨y255, hy255⟩ : ∃ y_ : List (S83), y_ = (([] : List (S83))) := ⟨_, rfl⟩
    replace H : (if 0 ≤ x8_5 then (if x8_5 ≤ (l0_2.length : Int) then ((some (l0_2.take (x8_5 : Int).toNat : List (S83))).bind fun y258 => (if y255.length + y258.length < 4398046511104 then ((some (y255 ++ y258 : List (S83))).bind fun y262 => ((some (([(⟨a1, a2, 0, false⟩ : S83)] : List (S83)) : List (S83))).bind fun y265 => (if y262.length + y265.length < 4398046511104 then ((some (y262 ++ y265 : List (S83))).bind fun y268 => ((some (l0_2.drop (x8_5 : Int).toNat : List (S83))).bind fun y271 => (if y268.length + y271.length < 4398046511104 then ((some (y268 ++ y271 : List (S83))).bind fun y275 => ((impl_IsValidAccount.f kj5 t249 t250 y275).bind fun t278 => (if t278 = true then (some (t249, t250, y275, true)) else ((impl_copyAccount.f a0_0 a0_1 l0_2).bind fun bt279 => (some (bt279.1, bt279.2.1, bt279.2.2, false)))))) else (none)))) else (none)))) else (none))) else (none)) else (none)) = some (r1, r2, r3, r4) := by first | (rw [hy255]; with_reducible exact H) | (have H2_ := (Option.bind_some _ _).symm.trans H; rw [hy255]; with_reducible exact H2_) | (have H2_ := (Option.bind_some _ _).symm.trans H; with_reducible exact H2_) | with_reducible exact H | (rw [hy255]; exact H) | exact H
    have Ny255 := Aside0.mk hy255; clear hy255
    by_cases c22 : 0 ≤ x8_5
    ·rw [if_pos c22] at H
     have c22b0 := eq_true c22
     have c22b1 : decide (0 ≤ x8_5) = true := decide_eq_true c22; clear c22
     by_cases c23 : x8_5 ≤ (l0_2.length : Int)
     ·rw [if_pos c23] at H
      have c23b0 := eq_true c23
      have c23b1 : decide (x8_5 ≤ (l0_2.length : Int)) = true := decide_eq_true c23
      clear c23
      obtain ⟨y258, hy258⟩ : ∃ y_ : List (S83), y_ = (l0_2.take (x8_5 : Int).toNat) := ⟨_, rfl⟩
      replace H : (if y255.length + y258.length < 4398046511104 then ((some (y255 ++ y258 : List (S83))).bind fun y262 => ((some (([(⟨a1, a2, 0, false⟩ : S83)] : List (S83)) : List (S83))).bind fun y265 => (if y262.length + y265.length < 4398046511104 then ((some (y262 ++ y265 : List (S83))).bind fun y268 => ((some (l0_2.drop (x8_5 : Int).toNat : List (S83))).bind fun y271 => (if y268.length + y271.length < 4398046511104 then ((some (y268 ++ y271 : List (S83))).bind fun y275 => ((impl_IsValidAccount.f kj5 t249 t250 y275).bind fun t278 => (if t278 = true then (some (t249, t250, y275, true)) else ((impl_copyAccount.f a0_0 a0_1 l0_2).bind fun bt279 => (some (bt279.1, bt279.2.1, bt279.2.2, false)))))) else (none)))) else (none)))) else (none)) = some (r1, r2, r3, r4) := by first | (rw [hy258]; with_reducible exact H) | (have H2_ := (Option.bind_some _ _).symm.trans H; rw [hy258]; with_reducible exact H2_) | (have H2_ := (Option.bind_some _ _).symm.trans H; with_reducible exact H2_) | with_reducible exact H | (rw [hy258]; exact H) | exact H
      have Ny258 := Aside0.mk hy258; clear hy258
      by_cases c24 : y255.length + y258.length < 4398046511104
      ·rw [if_pos c24] at H; have LMc24 := Aside0.mk c24; clear c24
       obtain ⟨y262, hy262⟩ : ∃ y_ : List (S83), y_ = (y255 ++ y258) := ⟨_, rfl⟩
       replace H : ((some (([(⟨a1, a2, 0, false⟩ : S83)] : List (S83)) : List (S83))).bind fun y265 => (if y262.length + y265.length < 4398046511104 then ((some (y262 ++ y265 : List (S83))).bind fun y268 => ((some (l0_2.drop (x8_5 : Int).toNat : List (S83))).bind fun y271 => (if y268.length + y271.length < 4398046511104 then ((some (y268 ++ y271 : List (S83))).bind fun y275 => ((impl_IsValidAccount.f kj5 t249 t250 y275).bind fun t278 => (if t278 = true then (some (t249, t250, y275, true)) else ((impl_copyAccount.f a0_0 a0_1 l0_2).bind fun bt279 => (some (bt279.1, bt279.2.1, bt279.2.2, false)))))) else (none)))) else (none))) = some (r1, r2, r3, r4) := by first | (rw [hy262]; with_reducible exact H) | (have H2_ := (Option.bind_some _ _).symm.trans H; rw [hy262]; with_reducible exact H2_) | (have H2_ := (Option.bind_some _ _).symm.trans H; with_reducible exact H2_) | with_reducible exact H | (rw [hy262]; exact H) | exact H
       have Ny262 := Aside0.mk hy262; clear hy262
       obtain ⟨y265, hy265⟩ : ∃ y_ : List (S83), y_ = (([(⟨a1, a2, 0, false⟩ : S83)] : List (S83))) := ⟨_, rfl⟩
       replace H : (if y262.length + y265.length < 4398046511104 then ((some (y262 ++ y265 : List (S83))).bind fun y268 => ((some (l0_2.drop (x8_5 : Int).toNat : List (S83))).bind fun y271 => (if y268.length + y271.length < 4398046511104 then ((some (y268 ++ y271 : List (S83))).bind fun y275 => ((impl_IsValidAccount.f kj5 t249 t250 y275).bind fun t278 => (if t278 = true then (some (t249, t250, y275, true)) else ((impl_copyAccount.f a0_0 a0_1 l0_2).bind fun bt279 => (some (bt279.1, bt279.2.1, bt279.2.2, false)))))) else (none)))) else (none)) = some (r1, r2, r3, r4) := by first | (rw [hy265]; with_reducible exact H) | (have H2_ := (Option.bind_some _ _).symm.trans H; rw [hy265]; with_reducible exact H2_) | (have H2_ := (Option.bind_some _ _).symm.trans H; with_reducible exact H2_) | with_reducible exact H | (rw [hy265]; exact H) | exact H
       have Ny265 := Aside0.mk hy265; clear hy265
       by_cases c25 : y262.length + y265.length < 4398046511104
       ·rw [if_pos c25] at H; have LMc25 := Aside0.mk c25; clear c25
        obtain ⟨y268, hy268⟩ : ∃ y_ : List (S83), y_ = (y262 ++ y265) := ⟨_, rfl⟩
        replace H : ((some (l0_2.drop (x8_5 : Int).toNat : List (S83))).bind fun y271 => (if y268.length + y271.length < 4398046511104 then ((some (y268 ++ y271 : List (S83))).bind fun y275 => ((impl_IsValidAccount.f kj5 t249 t250 y275).bind fun t278 => (if t278 = true then (some (t249, t250, y275, true)) else ((impl_copyAccount.f a0_0 a0_1 l0_2).bind fun bt279 => (some (bt279.1, bt279.2.1, bt279.2.2, false)))))) else (none))) = some (r1, r2, r3, r4) := by first | (rw [hy268]; with_reducible exact H) | (have H2_ := (Option.bind_some _ _).symm.trans H; rw [hy268]; with_reducible exact H2_) | (have H2_ := (Option.bind_some _ _).symm.trans H; with_reducible exact H2_) | with_reducible exact H | (rw [hy268]; exact H) | exact H
        have Ny268 := Aside0.mk hy268; clear hy268
        have c26b0 := eq_true (of_decide_eq_true Cmp.d : 0 ≤ x8_5)
        have c27b0 := eq_true (of_decide_eq_true Cmp.d : x8_5 ≤ (l0_2.length : Int))
        obtain ⟨y271, hy271⟩ : ∃ y_ : List (S83), y_ = (l0_2.drop (x8_5 : Int).toNat) := ⟨_, rfl⟩
        replace H : (if y268.length + y271.length < 4398046511104 then ((some (y268 ++ y271 : List (S83))).bind fun y275 => ((impl_IsValidAccount.f kj5 t249 t250 y275).bind fun t278 => (if t278 = true then (some (t249, t250, y275, true)) else ((impl_copyAccount.f a0_0 a0_1 l0_2).bind fun bt279 => (some (bt279.1, bt279.2.1, bt279.2.2, false)))))) else (none)) = some (r1, r2, r3, r4) := by first | (rw [hy271]; with_reducible exact H) | (have H2_ := (Option.bind_some _ _).symm.trans H; rw [hy271]; with_reducible exact H2_) | (have H2_ := (Option.bind_some _ _).symm.trans H; with_reducible exact H2_) | with_reducible exact H | (rw [hy271]; exact H) | exact H
        have Ny271 := Aside0.mk hy271; clear hy271
        by_cases c28 : y268.length + y271.length < 4398046511104
        ·rw [if_pos c28] at H; have LMc28 := Aside0.mk c28; clear c28
         obtain ⟨y275, hy275⟩ : ∃ y_ : List (S83), y_ = (y268 ++ y271) := ⟨_, rfl⟩
         replace H : ((impl_IsValidAccount.f kj5 t249 t250 y275).bind fun t278 => (if t278 = true then (some (t249, t250, y275, true)) else ((impl_copyAccount.f a0_0 a0_1 l0_2).bind fun bt279 => (some (bt279.1, bt279.2.1, bt279.2.2, false))))) = some (r1, r2, r3, r4) := by first | (rw [hy275]; with_reducible exact H) | (have H2_ := (Option.bind_some _ _).symm.trans H; rw [hy275]; with_reducible exact H2_) | (have H2_ := (Option.bind_some _ _).symm.trans H; with_reducible exact H2_) | with_reducible exact H | (rw [hy275]; exact H) | exact H
         have Ny275 := Aside0.mk hy275; clear hy275; replace H := Option.bind_eq_some_iff.mp H; obtain ⟨t278, A290, H⟩ := H; (try dsimp only at H); have A29 := Aside0.mk A290; clear A290
         by_cases c30 : t278 = true
         ·subst c30; rw [if_pos rfl] at H
          simp only [Option.some.injEq, Prod.mk.injEq] at H
          obtain ⟨rfl, rfl, rfl, rfl⟩ := H; have hnb31 := NB240_241.out; have hnc31 := NB241_240.out
          have hcz32_0 : wc.cell? ⟨gb240, 0, none⟩ = some (.int .i64 a0_0) := (blk_cell BK240.out 0).trans rfl
          have hcz32_1 : wc.cell? ⟨gb240, 1, none⟩ = some (.int .i64 a0_1) := (blk_cell BK240.out 1).trans rfl
          have hcz32_2 : wc.cell? ⟨gb240, 2, none⟩ = some (.slice A0_2 l0_2.length c0_2) := (blk_cell BK240.out 2).trans rfl
          have hfz32_0 := blk_frozen BK240.out 0; have hfz32_1 := blk_frozen BK240.out 1; have hfz32_2 := blk_frozen BK240.out 2
          try go_wp2_with (first | ((with_reducible refine gate_callee (f := 48) rfl ?_); refine goesL_ (some 33) rfl rfl Try.func48 (by kernel_rfl) rfl #[.agg #[.int .i64 a0_0, .int .i64 a0_1, .slice A0_2 l0_2.length c0_2]] rfl Cmp.q ?_; (with_reducible refine (impl_copyAccount.calls a0_0 a0_1 _ _ l0_2 t249 t250 t251 _ ?side1 ?side2 A21.out).mono ?_); (case side1 => exact Cmp.rc (Kd.C_below HR0_2.out HB.out)); (case side2 => exact HC0_2.out); rintro e w33 ⟨v252, rfl, ho0, hb⟩; refine ⟨_, rfl, ?_⟩; have n0_ := Aside0.mk (Kd.R_lower ho0 (below_size (Cmp.g HB.out))); have n1_ := Aside0.mk (blk_below (Cmp.b BK240.out) hb); have n2_ := Aside0.mk (blk_below (Cmp.b BK241.out) hb); have n3_ := Aside0.mk (below_step (Cmp.g HB.out) hb); clear BK240; clear BK241; clear HB; have HO253 := n0_; have BK240 := n1_; have BK241 := n2_; have HB := n3_; clear n0_ n1_ n2_ n3_; (try clear hb); (try clear hb2); (try clear hk); (try clear hi); (try clear ho0)) | ((with_reducible refine gate_dst (N := 9) rfl ?_); refine box_event (by rfl) (N := 9) (by rfl) (cs := #[.int .i64 0, .int .i64 0, .slice none 0 0]) (t := 28) (by first | (go_simp; done) | (go_simp; rfl)) ?_; intro gb254 hg w34 hbox hb; have n0_ := Aside0.mk (Kd.R_below (Cmp.rr HO253.out) hb); have n1_ := Aside0.mk (blk_below (Cmp.b BK240.out) hb); have n2_ := Aside0.mk (blk_below (Cmp.b BK241.out) hb); have n3_ := Aside0.mk (below_step (Cmp.g HB.out) hb); have n4_ := Aside0.mk (hbox); have n5_ := Aside0.mk ((by rw [hg]; exact (below_size (Cmp.g HB.out)) : w.heap.size ≤ gb254)); have n6_ := Aside0.mk ((by rw [hg]; exact (below_size (Cmp.g HB.out)) : w.heap.size ≤ gb254)); have n7_ := Aside0.mk ((by rw [hg]; exact Nat.ne_of_lt (blk_lt (Cmp.b BK240.out)) : gb240 ≠ gb254)); have n8_ := Aside0.mk ((by rw [hg]; exact Nat.ne_of_gt (blk_lt (Cmp.b BK240.out)) : gb254 ≠ gb240)); have n9_ := Aside0.mk ((by rw [hg]; exact Nat.ne_of_lt (blk_lt (Cmp.b BK241.out)) : gb241 ≠ gb254)); have n10_ := Aside0.mk ((by rw [hg]; exact Nat.ne_of_gt (blk_lt (Cmp.b BK241.out)) : gb254 ≠ gb241)); clear HO253; clear BK240; clear BK241; clear HB; have HO253 := n0_; have BK240 := n1_; have BK241 := n2_; have HB := n3_; have BK254 := n4_; have GW254 := n5_; have GE254 := n6_; have NB240_254 := n7_; have NB254_240 := n8_; have NB241_254 := n9_; have NB254_241 := n10_; clear n0_ n1_ n2_ n3_ n4_ n5_ n6_ n7_ n8_ n9_ n10_; clear hb hbox hg; have hnb35 := NB254_240.out; have hnc35 := NB240_254.out; have hnb36 := NB254_241.out; have hnc36 := NB241_254.out; have hcz37_0 : w34.cell? ⟨gb254, 0, none⟩ = some (.int .i64 0) := (blk_cell BK254.out 0).trans rfl; have hcz37_1 : w34.cell? ⟨gb254, 1, none⟩ = some (.int .i64 0) := (blk_cell BK254.out 1).trans rfl; have hcz37_2 : w34.cell? ⟨gb254, 2, none⟩ = some (.slice none 0 0) := (blk_cell BK254.out 2).trans rfl; have hfz37_0 := blk_frozen BK254.out 0; have hfz37_1 := blk_frozen BK254.out 1; have hfz37_2 := blk_frozen BK254.out 2; obtain ⟨Ao38, co38, eo38⟩ := Kd.R_slice HO253.out; subst eo38))
          have n0_ : Aside0 (Kd.R k83 83 (((w34.setCell ⟨gb254, 0, none⟩ (.int .i64 t249)).setCell ⟨gb254, 1, none⟩ (.int .i64 t250)).setCell ⟨gb254, 2, none⟩ (.slice Ao38 t251.length co38)) w.heap.size (fun _ => True) (.slice Ao38 t251.length co38) t251) := ⟨by refine Cmp.rr ?_; exact Kd.R_mono (Kd.R_far (p := ⟨gb254, 2, none⟩) (Kd.R_far (p := ⟨gb254, 1, none⟩) (Kd.R_far (p := ⟨gb254, 0, none⟩) (Kd.R_types HO253.out BK254.out (by decide)) (fun _ hk => hk.2) (.int .i64 t249)) (fun _ hk => hk.2) (.int .i64 t250)) (fun _ hk => hk.2) (.slice Ao38 t251.length co38)) (fun _ hk => trivial)⟩
          have n1_ : Aside0 ((((w34.setCell ⟨gb254, 0, none⟩ (.int .i64 t249)).setCell ⟨gb254, 1, none⟩ (.int .i64 t250)).setCell ⟨gb254, 2, none⟩ (.slice Ao38 t251.length co38)).heap[gb240]? = some (.cells #[.int .i64 a0_0, .int .i64 a0_1, .slice A0_2 l0_2.length c0_2] 28 (0, 0))) := ⟨by refine Cmp.b ?_; refine blk_far ?_ NB240_254.out _; refine Cmp.b ?_; refine blk_far ?_ NB240_254.out _; refine Cmp.b ?_; refine blk_far ?_ NB240_254.out _; refine Cmp.b ?_; exact BK240.out⟩
          have n2_ : Aside0 ((((w34.setCell ⟨gb254, 0, none⟩ (.int .i64 t249)).setCell ⟨gb254, 1, none⟩ (.int .i64 t250)).setCell ⟨gb254, 2, none⟩ (.slice Ao38 t251.length co38)).heap[gb241]? = some (.cells #[.int .i64 0, .int .i64 0, .slice none 0 0] 28 (0, 0))) := ⟨by refine Cmp.b ?_; refine blk_far ?_ NB241_254.out _; refine Cmp.b ?_; refine blk_far ?_ NB241_254.out _; refine Cmp.b ?_; refine blk_far ?_ NB241_254.out _; refine Cmp.b ?_; exact BK241.out⟩
          have n3_ : Aside0 ((((w34.setCell ⟨gb254, 0, none⟩ (.int .i64 t249)).setCell ⟨gb254, 1, none⟩ (.int .i64 t250)).setCell ⟨gb254, 2, none⟩ (.slice Ao38 t251.length co38)).heap[gb254]? = some (.cells #[.int .i64 t249, .int .i64 t250, .slice Ao38 t251.length co38] 28 (0, 0))) := ⟨by refine Cmp.b ?_; refine blk_put (cs := #[.int .i64 t249, .int .i64 t250, .slice none 0 0]) ?_ 2 _ rfl; refine Cmp.b ?_; refine blk_put (cs := #[.int .i64 t249, .int .i64 0, .slice none 0 0]) ?_ 1 _ rfl; refine Cmp.b ?_; refine blk_put (cs := #[.int .i64 0, .int .i64 0, .slice none 0 0]) ?_ 0 _ rfl; refine Cmp.b ?_; exact BK254.out⟩
          have n4_ : Aside0 (Below w.heap.size w (((w34.setCell ⟨gb254, 0, none⟩ (.int .i64 t249)).setCell ⟨gb254, 1, none⟩ (.int .i64 t250)).setCell ⟨gb254, 2, none⟩ (.slice Ao38 t251.length co38))) := ⟨Cmp.g HB.out⟩
          (try clear HO253); (try clear BK240); (try clear BK241); (try clear BK254); (try clear HB)
          generalize (((w34.setCell ⟨gb254, 0, none⟩ (.int .i64 t249)).setCell ⟨gb254, 1, none⟩ (.int .i64 t250)).setCell ⟨gb254, 2, none⟩ (.slice Ao38 t251.length co38)) = w39 at n0_ n1_ n2_ n3_ n4_ ⊢
          have HO253 := n0_; have BK240 := n1_; have BK241 := n2_; have BK254 := n3_; have HB := n4_; clear n0_ n1_ n2_ n3_ n4_; have n0_ := Aside0.mk (Kd.R_drew HO253.out); have n1_ := Aside0.mk (blk_drew BK240.out); have n2_ := Aside0.mk (blk_drew BK241.out); have n3_ := Aside0.mk (blk_drew BK254.out); have n4_ := Aside0.mk (below_drew1 HB.out); clear HO253; clear BK240; clear BK241; clear BK254; clear HB; have HO253 := n0_; have BK240 := n1_; have BK241 := n2_; have BK254 := n3_; have HB := n4_; clear n0_ n1_ n2_ n3_ n4_
          have q41 : (x8_5 : Int) ≤ ((l0_2.length : Int) : Int) := of_decide_eq_true Cmp.d
          obtain ⟨i041, hi041, _, hsz41, _⟩ := info_parts info83
          have hroom41 : l0_2.length ≤ c0_2 := HC0_2.out
          have hC41 : Kd.C k83 _ A0_2 l0_2.length l0_2 := HR0_2.out
          have hcut41 := cut_to (P := Try.prog) 26 83 .i64 Try.underlying26 hi041 A0_2 l0_2.length c0_2 x8_5 (of_decide_eq_true Cmp.d) q41 hroom41
          have hr41 := Kd.C_take (m := (x8_5 : Int).toNat) hC41 (by omega)
          have hy41 : y258.length = (x8_5 : Int).toNat := (by rw [Ny258.out, List.length_take]; omega)
          rw [← Ny258.out] at hr41
          rw [← hy41] at hcut41
          have HR261 := Aside0.mk hr41
          have HC261 := Aside0.mk (show y258.length ≤ c0_2 from by omega)
          clear hr41 hC41 hroom41 hi041 hsz41; have KY41 := Aside0.mk hy41; clear hy41; replace q41 := eq_true q41
          have q42 : (x8_5 : Int) ≤ ((l0_2.length : Int) : Int) := of_decide_eq_true Cmp.d
          obtain ⟨i042, hi042, _, hsz42, _⟩ := info_parts info83
          have hroom42 : l0_2.length ≤ c0_2 := HC0_2.out
          have hC42 : Kd.C k83 _ A0_2 l0_2.length l0_2 := HR0_2.out
          have q042 : (0 : Int) ≤ (x8_5 : Int) := of_decide_eq_true Cmp.d
          have hcut42 := cut_from (P := Try.prog) 26 83 .i64 Try.underlying26 hi042 4 hsz42 A0_2 l0_2.length c0_2 x8_5 q042 q42
          have hr42 := Kd.C_drop (m := (x8_5 : Int).toNat) (c := c0_2) hC42 (by omega) hroom42
          obtain ⟨A42, hA42⟩ : ∃ A1, A1 = (if c0_2 = (x8_5 : Int).toNat then A0_2 else (A0_2 : Option Addr).map (·.add ((x8_5 : Int).toNat * 4))) := ⟨_, rfl⟩
          obtain ⟨c42, hc42⟩ : ∃ c1, c1 = c0_2 - (x8_5 : Int).toNat := ⟨_, rfl⟩
          have hy42 : y271.length = l0_2.length - (x8_5 : Int).toNat := (by rw [Ny271.out, List.length_drop] <;> omega)
          rw [show (l0_2).drop (x8_5 : Int).toNat = y271 from Ny271.out.symm] at hr42
          replace hr42 : Kd.C k83 _ A42 y271.length y271 := (by rw [hA42]; exact hr42)
          rw [← hy42, ← hA42, ← hc42] at hcut42
          have HR274 := Aside0.mk hr42
          have HC274 := Aside0.mk (show y271.length ≤ c42 from by rw [hy42, hc42]; exact Nat.sub_le_sub_right hroom42 _)
          clear hr42 hC42 hroom42 hi042 hsz42 hc42; have KY42 := Aside0.mk hy42; have KA42 := Aside0.mk hA42; clear hy42 hA42; replace q42 := eq_true q42
          refine start_ (n := 18) (S := fun w' => w'.cell? ⟨gb240, 0, none⟩ = some (.int .i64 a0_0) ∧ w'.cell? ⟨gb240, 1, none⟩ = some (.int .i64 a0_1) ∧ w'.cell? ⟨gb240, 2, none⟩ = some (.slice A0_2 l0_2.length c0_2)) (ds := []) (Cmp.bm 0 18) (by kernel_rfl) rfl rfl ⟨(blk_cell BK240.out 0).trans rfl, (blk_cell BK240.out 1).trans rfl, (blk_cell BK240.out 2).trans rfl⟩ (fun hHeld => ?_); refine with_tabW impl_AddCredential.tab7 impl_AddCredential.bits7 (fun HT_ HW_ => ?_)
          generalize w39.drew = w40 at HO253 BK240 BK241 BK254 HB HR261 HR274 hHeld ⊢
          refine Cmp.pu HT_ 1 35 (Cmp.bb 18 2) ?_; refine Cmp.pu HT_ 3 37 (Cmp.bb 18 10) ?_; refine Cmp.pu HT_ 6 40 (Cmp.bb 18 74) ?_; refine Cmp.pu HT_ 7 41 (Cmp.bb 18 202) ?_; refine Cmp.pu HT_ 8 42 (Cmp.bb 18 458) ?_; refine Cmp.pu HT_ 11 45 (Cmp.bb 18 2506) ?_; refine Cmp.pu HT_ 13 47 (Cmp.bb 18 10698) ?_; refine Cmp.tk HT_ HW_ hHeld 2 36 (Cmp.bb 18 10702) ?_; refine Cmp.pu HT_ 4 38 (Cmp.bb 18 10718) ?_; refine Cmp.tk HT_ HW_ hHeld 12 46 (Cmp.bb 18 14814) ?_; refine Cmp.pu HT_ 14 48 (Cmp.bb 18 31198) ?_
          refine join_ (σ := Value × Value × Value) 4 (Cmp.bb 18 31743) (fun s_ => [(34, s_.1), (39, s_.2.1), (43, s_.2.2)]) (fun s_ w' => (w'.cell? ⟨gb240, 0, none⟩ = some (.int .i64 a0_0) ∧ w'.cell? ⟨gb240, 1, none⟩ = some (.int .i64 a0_1) ∧ w'.cell? ⟨gb240, 2, none⟩ = some (.slice A0_2 l0_2.length c0_2)) ∧ (Kd.R k83 83 w' w.heap.size (fun k_ => some k_ ≠ (s_.2.1 : Value).ownBlock ∧ some k_ ≠ (s_.2.2 : Value).ownBlock) (.slice Ao38 t251.length co38) t251) ∧ (Kd.R k83 83 w' w.heap.size (fun k_ => some k_ ≠ (.slice Ao38 t251.length co38 : Value).ownBlock ∧ some k_ ≠ (s_.2.2 : Value).ownBlock) s_.2.1 y262) ∧ (Kd.R k83 83 w' w.heap.size (fun k_ => some k_ ≠ (.slice Ao38 t251.length co38 : Value).ownBlock ∧ some k_ ≠ (s_.2.1 : Value).ownBlock) s_.2.2 y265) ∧ (w'.heap[gb240]? = some (.cells #[.int .i64 a0_0, .int .i64 a0_1, .slice A0_2 l0_2.length c0_2] 28 (0, 0))) ∧ (w'.heap[gb241]? = some (.cells #[.int .i64 0, .int .i64 0, .slice none 0 0] 28 (0, 0))) ∧ (w'.heap[gb254]? = some (.cells #[.int .i64 t249, .int .i64 t250, .slice Ao38 t251.length co38] 28 (0, 0))) ∧ (Below w.heap.size w w')) ?_ ?_
          rotate_left
          ·intro hCont
           refine two_ (i := 0) (j := 9) (Ni := some 34) (Nj := some 43) (Cmp.bb 18 31199) (Cmp.bb 18 31710) rfl rfl rfl rfl (two_of HT_.out (by kernel_rfl)) (by decide) (by decide) (fun K hK => ?_) (fun K hK => ?_)
           ·skip
            refine Kd.R_lit_step k83 _ 83 ?hg (N := 34) ?hd (xs := ([] : List (S83))) (inner := []) (ok := fun _ => True) (okp := fun _ => True) ?hr ?hp (fun _ hk => hk) trivial (Below.refl _ _) (Nat.le_refl _) (by simp) ?_; (case hd => rfl); (case hg => rfl); (case hr => first | (go_simp; done) | (go_simp; rfl)); (case hp => exact (Reps.none _ _))
            intro v256 w43 ho44 hb hg_ hnew_
            clear hg_ hnew_
            (first | rw [← Ny255.out] at ho44 | (simp only [Int.reduceToNat] at ho44; rw [← Ny255.out] at ho44))
            have n0_ := Aside0.mk (Kd.R_elder' (Cmp.rr HO253.out) (Kd.R_base ho44) hb)
            have n1_ := Aside0.mk (Kd.R_lower (Kd.R_new' ho44 (Kd.R_lt (Cmp.rr HO253.out))) (below_size (Cmp.g HB.out)))
            have n2_ := Aside0.mk (blk_below (Cmp.b BK240.out) hb)
            have n3_ := Aside0.mk (blk_below (Cmp.b BK241.out) hb)
            have n4_ := Aside0.mk (blk_below (Cmp.b BK254.out) hb)
            have n5_ := Aside0.mk (below_step (Cmp.g HB.out) hb)
            clear HO253; clear BK240; clear BK241; clear BK254; clear HB; have HO253 := n0_; have HO257 := n1_; have BK240 := n2_; have BK241 := n3_; have BK254 := n4_; have HB := n5_; clear n0_ n1_ n2_ n3_ n4_ n5_; clear hb ho44
            refine hK.out _ _ ⟨(blk_cell BK240.out 0).trans rfl, (blk_cell BK240.out 1).trans rfl, (blk_cell BK240.out 2).trans rfl⟩ (fun hHeld => ?_)
            clear hK K
            refine norm_ (a' := ?_) ?_ ?_
            rotate_left
            ·show Act.put _ (some 34) _ = _
             simp only [Act.put, Cmp.s, Cmp.z, Cmp.c, i64_w, i32_w]; rfl
            refine two_ (i := 5) (j := 9) (Ni := some 39) (Nj := some 43) (Cmp.bb 18 31231) (Cmp.bb 18 31711) rfl rfl rfl rfl (two_of HT_.out (by kernel_rfl)) (by decide) (by decide) (fun K hK => ?_) (fun K hK => ?_)
            ·skip
             refine Kd.R_append_rows_step k83 (w0 := w) w.heap.size (by rfl) (.tmp 34) (.tmp 38) 26 83 (.agg #[(.int .i64 0), (.int .i64 0), (.int .i64 0), (.bool false)]) 32 rfl Try.underlying26 info83 rfl (by decide) (by omega) v256 y255 y258 _ _ _ (fun k_ => some k_ ≠ (.slice Ao38 t251.length co38 : Value).ownBlock) (fun _ => False) rfl rfl ?aO ?aR (fun _ _ h => h) (fun _ h => h.elim) ?aF ?aB ?aS ?aL ?_
             (case aR => repeat (first | exact (Kd.C_below HR261.out HB.out) | (with_reducible refine Kd.C_alloc ?_ _) | (with_reducible refine Kd.C_drewN ?_ _) | (with_reducible refine Kd.C_drew ?_)))
             (case aB => exact (Cmp.g HB.out))
             (case aF => exact (fun k_ hk => Kd.fresh' (Kd.R_lt (Cmp.rr HO253.out)) k_ hk))
             (case aO => exact (by refine Cmp.rr ?_; exact Kd.R_mono HO257.out (fun _ hk => hk.2)))
             (case aS => exact (below_size (Cmp.g HB.out)))
             (case aL => have := LMc24.out; omega)
             intro v263 w45 ho hb hg hat
             rw [← Ny262.out] at ho
             have n0_ := Aside0.mk (blk_grown (g := gb240) (o := .cells #[.int .i64 a0_0, .int .i64 a0_1, .slice A0_2 l0_2.length c0_2] 28 (0, 0)) (Cmp.b BK240.out) hg (Kd.R_ne HO257.out BK240.out (by decide)))
             have n1_ := Aside0.mk (blk_grown (g := gb241) (o := .cells #[.int .i64 0, .int .i64 0, .slice none 0 0] 28 (0, 0)) (Cmp.b BK241.out) hg (Kd.R_ne HO257.out BK241.out (by decide)))
             have n2_ := Aside0.mk (Kd.R_after (ok := (fun _ => True)) (Cmp.rr HO253.out) hg hat)
             have n3_ := Aside0.mk (blk_grown (g := gb254) (o := .cells #[.int .i64 t249, .int .i64 t250, .slice Ao38 t251.length co38] 28 (0, 0)) (Cmp.b BK254.out) hg (Kd.R_ne HO257.out BK254.out (by decide)))
             have n4_ := Aside0.mk (hb)
             have n5_ := Aside0.mk (ho)
             clear BK240; clear BK241; clear HO253; clear BK254; clear HB; clear HO257; have BK240 := n0_; have BK241 := n1_; have HO253 := n2_; have BK254 := n3_; have HB := n4_; have HO264 := n5_; clear n0_ n1_ n2_ n3_ n4_ n5_; clear ho hb hg hat
             refine hK.out _ _ ⟨(blk_cell BK240.out 0).trans rfl, (blk_cell BK240.out 1).trans rfl, (blk_cell BK240.out 2).trans rfl⟩ (fun hHeld => ?_)
             clear hK K
             refine norm_ (a' := ?_) ?_ ?_
             rotate_left
             ·show Act.put _ (some 39) _ = _
              simp only [Act.put, Cmp.s, Cmp.z, Cmp.c, i64_w, i32_w]; rfl
             refine one_ (i := 9) (N := some 43) (Cmp.bb 18 31743) rfl rfl (one_of HT_.out (by kernel_rfl)) (by decide) (fun K hK => ?_)
             refine Kd.R_lit_step k83 _ 83 ?hg (N := 43) ?hd (xs := ([(⟨a1, a2, 0, false⟩ : S83)] : List (S83))) (inner := [.int .i64 a1, .int .i64 a2, .int .i64 0, .bool false]) (ok := fun _ => True) (okp := fun _ => True) ?hr ?hp (fun _ hk => hk) trivial (Below.refl _ _) (Nat.le_refl _) (by simp) ?_; (case hd => rfl); (case hg => rfl); (case hr => first | (go_simp; done) | (go_simp; rfl)); (case hp => exact (Reps.c4 (show Kd.M k83 _ _ _ (⟨a1, a2, 0, false⟩ : S83) [.int .i64 a1, .int .i64 a2, .int .i64 0, .bool false] from (k83_mkM _ _ _ (⟨a1, a2, 0, false⟩ : S83) )) (Reps.none _ _)))
             intro v266 w46 ho47 hb hg_ hnew_
             clear hg_ hnew_
             (first | rw [← Ny265.out] at ho47 | (simp only [Int.reduceToNat] at ho47; rw [← Ny265.out] at ho47))
             have n0_ := Aside0.mk (Kd.R_elder' (Cmp.rr HO253.out) (Kd.R_base ho47) hb)
             have n1_ := Aside0.mk (Kd.R_elder' (Cmp.rr HO264.out) (Kd.R_base ho47) hb)
             have n2_ := Aside0.mk (Kd.R_lower (Kd.R_new' (Kd.R_new' ho47 (Kd.R_lt (Cmp.rr HO253.out))) (Kd.R_lt (Cmp.rr HO264.out))) (below_size (Cmp.g HB.out)))
             have n3_ := Aside0.mk (blk_below (Cmp.b BK240.out) hb)
             have n4_ := Aside0.mk (blk_below (Cmp.b BK241.out) hb)
             have n5_ := Aside0.mk (blk_below (Cmp.b BK254.out) hb)
             have n6_ := Aside0.mk (below_step (Cmp.g HB.out) hb)
             clear HO253; clear HO264; clear BK240; clear BK241; clear BK254; clear HB; have HO253 := n0_; have HO264 := n1_; have HO267 := n2_; have BK240 := n3_; have BK241 := n4_; have BK254 := n5_; have HB := n6_; clear n0_ n1_ n2_ n3_ n4_ n5_ n6_; clear hb ho47
             refine hK.out _ _ ⟨(blk_cell BK240.out 0).trans rfl, (blk_cell BK240.out 1).trans rfl, (blk_cell BK240.out 2).trans rfl⟩ (fun hHeld => ?_)
             clear hK K
             refine norm_ (a' := ?_) ?_ ?_
             rotate_left
             ·show Act.put _ (some 43) _ = _
              simp only [Act.put, Cmp.s, Cmp.z, Cmp.c, i64_w, i32_w]; rfl
             exact norm_ (by simp only [putAll, Act.put, List.setIfInBounds_toArray, List.set_cons_zero, List.set_cons_succ]) (hCont (v256, v263, v266) _ ⟨hHeld, (by refine Cmp.rr ?_; exact Kd.R_mono HO253.out (fun _ hk => ⟨hk.1.2, hk.2⟩)), (Cmp.rr HO264.out), (by refine Cmp.rr ?_; exact Kd.R_mono HO267.out (fun _ hk => ⟨hk.1.2, hk.2⟩)), (Cmp.b BK240.out), (Cmp.b BK241.out), (Cmp.b BK254.out), (Cmp.g HB.out)⟩)
            ·skip
             refine Kd.R_lit_step k83 _ 83 ?hg (N := 43) ?hd (xs := ([(⟨a1, a2, 0, false⟩ : S83)] : List (S83))) (inner := [.int .i64 a1, .int .i64 a2, .int .i64 0, .bool false]) (ok := fun _ => True) (okp := fun _ => True) ?hr ?hp (fun _ hk => hk) trivial (Below.refl _ _) (Nat.le_refl _) (by simp) ?_; (case hd => rfl); (case hg => rfl); (case hr => first | (go_simp; done) | (go_simp; rfl)); (case hp => exact (Reps.c4 (show Kd.M k83 _ _ _ (⟨a1, a2, 0, false⟩ : S83) [.int .i64 a1, .int .i64 a2, .int .i64 0, .bool false] from (k83_mkM _ _ _ (⟨a1, a2, 0, false⟩ : S83) )) (Reps.none _ _)))
             intro v266 w45 ho46 hb hg_ hnew_
             clear hg_ hnew_
             (first | rw [← Ny265.out] at ho46 | (simp only [Int.reduceToNat] at ho46; rw [← Ny265.out] at ho46))
             have n0_ := Aside0.mk (Kd.R_elder' (Cmp.rr HO253.out) (Kd.R_base ho46) hb)
             have n1_ := Aside0.mk (Kd.R_elder' (Cmp.rr HO257.out) (Kd.R_base ho46) hb)
             have n2_ := Aside0.mk (Kd.R_lower (Kd.R_new' (Kd.R_new' ho46 (Kd.R_lt (Cmp.rr HO253.out))) (Kd.R_lt (Cmp.rr HO257.out))) (below_size (Cmp.g HB.out)))
             have n3_ := Aside0.mk (blk_below (Cmp.b BK240.out) hb)
             have n4_ := Aside0.mk (blk_below (Cmp.b BK241.out) hb)
             have n5_ := Aside0.mk (blk_below (Cmp.b BK254.out) hb)
             have n6_ := Aside0.mk (below_step (Cmp.g HB.out) hb)
             clear HO253; clear HO257; clear BK240; clear BK241; clear BK254; clear HB; have HO253 := n0_; have HO257 := n1_; have HO267 := n2_; have BK240 := n3_; have BK241 := n4_; have BK254 := n5_; have HB := n6_; clear n0_ n1_ n2_ n3_ n4_ n5_ n6_; clear hb ho46
             refine hK.out _ _ ⟨(blk_cell BK240.out 0).trans rfl, (blk_cell BK240.out 1).trans rfl, (blk_cell BK240.out 2).trans rfl⟩ (fun hHeld => ?_)
             clear hK K
             refine norm_ (a' := ?_) ?_ ?_
             rotate_left
             ·show Act.put _ (some 43) _ = _
              simp only [Act.put, Cmp.s, Cmp.z, Cmp.c, i64_w, i32_w]; rfl
             refine one_ (i := 5) (N := some 39) (Cmp.bb 18 31743) rfl rfl (one_of HT_.out (by kernel_rfl)) (by decide) (fun K hK => ?_)
             refine Kd.R_append_rows_step k83 (w0 := w) w.heap.size (by rfl) (.tmp 34) (.tmp 38) 26 83 (.agg #[(.int .i64 0), (.int .i64 0), (.int .i64 0), (.bool false)]) 32 rfl Try.underlying26 info83 rfl (by decide) (by omega) v256 y255 y258 _ _ _ (fun k_ => some k_ ≠ (.slice Ao38 t251.length co38 : Value).ownBlock ∧ some k_ ≠ (v266 : Value).ownBlock) (fun _ => False) rfl rfl ?aO ?aR (fun _ _ h => h) (fun _ h => h.elim) ?aF ?aB ?aS ?aL ?_
             (case aR => repeat (first | exact (Kd.C_below HR261.out HB.out) | (with_reducible refine Kd.C_alloc ?_ _) | (with_reducible refine Kd.C_drewN ?_ _) | (with_reducible refine Kd.C_drew ?_)))
             (case aB => exact (Cmp.g HB.out))
             (case aF => exact (fun k_ hk => ⟨Kd.fresh' (Kd.R_lt (Cmp.rr HO253.out)) k_ hk, Kd.fresh' (Kd.R_lt (Cmp.rr HO267.out)) k_ hk⟩))
             (case aO => exact (by refine Cmp.rr ?_; exact Kd.R_mono HO257.out (fun _ hk => ⟨hk.1.2, hk.2⟩)))
             (case aS => exact (below_size (Cmp.g HB.out)))
             (case aL => have := LMc24.out; omega)
             intro v263 w47 ho hb hg hat
             rw [← Ny262.out] at ho
             have n0_ := Aside0.mk (blk_grown (g := gb240) (o := .cells #[.int .i64 a0_0, .int .i64 a0_1, .slice A0_2 l0_2.length c0_2] 28 (0, 0)) (Cmp.b BK240.out) hg (Kd.R_ne HO257.out BK240.out (by decide)))
             have n1_ := Aside0.mk (blk_grown (g := gb241) (o := .cells #[.int .i64 0, .int .i64 0, .slice none 0 0] 28 (0, 0)) (Cmp.b BK241.out) hg (Kd.R_ne HO257.out BK241.out (by decide)))
             have n2_ := Aside0.mk (Kd.R_after (ok := (fun k_ => some k_ ≠ (v266 : Value).ownBlock)) (by refine Cmp.rr ?_; exact Kd.R_mono HO253.out (fun _ hk => ⟨hk.2, hk.1.2⟩)) hg hat)
             have n3_ := Aside0.mk (blk_grown (g := gb254) (o := .cells #[.int .i64 t249, .int .i64 t250, .slice Ao38 t251.length co38] 28 (0, 0)) (Cmp.b BK254.out) hg (Kd.R_ne HO257.out BK254.out (by decide)))
             have n4_ := Aside0.mk (Kd.R_after (ok := (fun k_ => some k_ ≠ (.slice Ao38 t251.length co38 : Value).ownBlock)) (by refine Cmp.rr ?_; exact Kd.R_mono HO267.out (fun _ hk => ⟨hk.1.2, hk.2⟩)) hg hat)
             have n5_ := Aside0.mk (hb)
             have n6_ := Aside0.mk (ho)
             clear BK240; clear BK241; clear HO253; clear BK254; clear HO267; clear HB; clear HO257; have BK240 := n0_; have BK241 := n1_; have HO253 := n2_; have BK254 := n3_; have HO267 := n4_; have HB := n5_; have HO264 := n6_; clear n0_ n1_ n2_ n3_ n4_ n5_ n6_; clear ho hb hg hat
             refine hK.out _ _ ⟨(blk_cell BK240.out 0).trans rfl, (blk_cell BK240.out 1).trans rfl, (blk_cell BK240.out 2).trans rfl⟩ (fun hHeld => ?_)
             clear hK K
             refine norm_ (a' := ?_) ?_ ?_
             rotate_left
             ·show Act.put _ (some 39) _ = _
              simp only [Act.put, Cmp.s, Cmp.z, Cmp.c, i64_w, i32_w]; rfl
             exact norm_ (by simp only [putAll, Act.put, List.setIfInBounds_toArray, List.set_cons_zero, List.set_cons_succ]) (hCont (v256, v263, v266) _ ⟨hHeld, (by refine Cmp.rr ?_; exact Kd.R_mono HO253.out (fun _ hk => ⟨hk.2, hk.1⟩)), (Cmp.rr HO264.out), (Cmp.rr HO267.out), (Cmp.b BK240.out), (Cmp.b BK241.out), (Cmp.b BK254.out), (Cmp.g HB.out)⟩)
           ·skip
            refine Kd.R_lit_step k83 _ 83 ?hg (N := 43) ?hd (xs := ([(⟨a1, a2, 0, false⟩ : S83)] : List (S83))) (inner := [.int .i64 a1, .int .i64 a2, .int .i64 0, .bool false]) (ok := fun _ => True) (okp := fun _ => True) ?hr ?hp (fun _ hk => hk) trivial (Below.refl _ _) (Nat.le_refl _) (by simp) ?_; (case hd => rfl); (case hg => rfl); (case hr => first | (go_simp; done) | (go_simp; rfl)); (case hp => exact (Reps.c4 (show Kd.M k83 _ _ _ (⟨a1, a2, 0, false⟩ : S83) [.int .i64 a1, .int .i64 a2, .int .i64 0, .bool false] from (k83_mkM _ _ _ (⟨a1, a2, 0, false⟩ : S83) )) (Reps.none _ _)))
            intro v266 w43 ho44 hb hg_ hnew_
            clear hg_ hnew_
            (first | rw [← Ny265.out] at ho44 | (simp only [Int.reduceToNat] at ho44; rw [← Ny265.out] at ho44))
            have n0_ := Aside0.mk (Kd.R_elder' (Cmp.rr HO253.out) (Kd.R_base ho44) hb)
            have n1_ := Aside0.mk (Kd.R_lower (Kd.R_new' ho44 (Kd.R_lt (Cmp.rr HO253.out))) (below_size (Cmp.g HB.out)))
            have n2_ := Aside0.mk (blk_below (Cmp.b BK240.out) hb)
            have n3_ := Aside0.mk (blk_below (Cmp.b BK241.out) hb)
            have n4_ := Aside0.mk (blk_below (Cmp.b BK254.out) hb)
            have n5_ := Aside0.mk (below_step (Cmp.g HB.out) hb)
            clear HO253; clear BK240; clear BK241; clear BK254; clear HB; have HO253 := n0_; have HO267 := n1_; have BK240 := n2_; have BK241 := n3_; have BK254 := n4_; have HB := n5_; clear n0_ n1_ n2_ n3_ n4_ n5_; clear hb ho44
            refine hK.out _ _ ⟨(blk_cell BK240.out 0).trans rfl, (blk_cell BK240.out 1).trans rfl, (blk_cell BK240.out 2).trans rfl⟩ (fun hHeld => ?_)
            clear hK K
            refine norm_ (a' := ?_) ?_ ?_
            rotate_left
            ·show Act.put _ (some 43) _ = _
             simp only [Act.put, Cmp.s, Cmp.z, Cmp.c, i64_w, i32_w]; rfl
            refine one_ (i := 0) (N := some 34) (Cmp.bb 18 31711) rfl rfl (one_of HT_.out (by kernel_rfl)) (by decide) (fun K hK => ?_)
            refine Kd.R_lit_step k83 _ 83 ?hg (N := 34) ?hd (xs := ([] : List (S83))) (inner := []) (ok := fun _ => True) (okp := fun _ => True) ?hr ?hp (fun _ hk => hk) trivial (Below.refl _ _) (Nat.le_refl _) (by simp) ?_; (case hd => rfl); (case hg => rfl); (case hr => first | (go_simp; done) | (go_simp; rfl)); (case hp => exact (Reps.none _ _))
            intro v256 w45 ho46 hb hg_ hnew_
            clear hg_ hnew_
            (first | rw [← Ny255.out] at ho46 | (simp only [Int.reduceToNat] at ho46; rw [← Ny255.out] at ho46))
            have n0_ := Aside0.mk (Kd.R_elder' (Cmp.rr HO253.out) (Kd.R_base ho46) hb)
            have n1_ := Aside0.mk (Kd.R_elder' (Cmp.rr HO267.out) (Kd.R_base ho46) hb)
            have n2_ := Aside0.mk (Kd.R_lower (Kd.R_new' (Kd.R_new' ho46 (Kd.R_lt (Cmp.rr HO253.out))) (Kd.R_lt (Cmp.rr HO267.out))) (below_size (Cmp.g HB.out)))
            have n3_ := Aside0.mk (blk_below (Cmp.b BK240.out) hb)
            have n4_ := Aside0.mk (blk_below (Cmp.b BK241.out) hb)
            have n5_ := Aside0.mk (blk_below (Cmp.b BK254.out) hb)
            have n6_ := Aside0.mk (below_step (Cmp.g HB.out) hb)
            clear HO253; clear HO267; clear BK240; clear BK241; clear BK254; clear HB; have HO253 := n0_; have HO267 := n1_; have HO257 := n2_; have BK240 := n3_; have BK241 := n4_; have BK254 := n5_; have HB := n6_; clear n0_ n1_ n2_ n3_ n4_ n5_ n6_; clear hb ho46
            refine hK.out _ _ ⟨(blk_cell BK240.out 0).trans rfl, (blk_cell BK240.out 1).trans rfl, (blk_cell BK240.out 2).trans rfl⟩ (fun hHeld => ?_)
            clear hK K
            refine norm_ (a' := ?_) ?_ ?_
            rotate_left
            ·show Act.put _ (some 34) _ = _
             simp only [Act.put, Cmp.s, Cmp.z, Cmp.c, i64_w, i32_w]; rfl
            refine one_ (i := 5) (N := some 39) (Cmp.bb 18 31743) rfl rfl (one_of HT_.out (by kernel_rfl)) (by decide) (fun K hK => ?_)
            refine Kd.R_append_rows_step k83 (w0 := w) w.heap.size (by rfl) (.tmp 34) (.tmp 38) 26 83 (.agg #[(.int .i64 0), (.int .i64 0), (.int .i64 0), (.bool false)]) 32 rfl Try.underlying26 info83 rfl (by decide) (by omega) v256 y255 y258 _ _ _ (fun k_ => some k_ ≠ (.slice Ao38 t251.length co38 : Value).ownBlock ∧ some k_ ≠ (v266 : Value).ownBlock) (fun _ => False) rfl rfl ?aO ?aR (fun _ _ h => h) (fun _ h => h.elim) ?aF ?aB ?aS ?aL ?_
            (case aR => repeat (first | exact (Kd.C_below HR261.out HB.out) | (with_reducible refine Kd.C_alloc ?_ _) | (with_reducible refine Kd.C_drewN ?_ _) | (with_reducible refine Kd.C_drew ?_)))
            (case aB => exact (Cmp.g HB.out))
            (case aF => exact (fun k_ hk => ⟨Kd.fresh' (Kd.R_lt (Cmp.rr HO253.out)) k_ hk, Kd.fresh' (Kd.R_lt (Cmp.rr HO267.out)) k_ hk⟩))
            (case aO => exact (by refine Cmp.rr ?_; exact Kd.R_mono HO257.out (fun _ hk => ⟨hk.1.2, hk.2⟩)))
            (case aS => exact (below_size (Cmp.g HB.out)))
            (case aL => have := LMc24.out; omega)
            intro v263 w47 ho hb hg hat
            rw [← Ny262.out] at ho
            have n0_ := Aside0.mk (blk_grown (g := gb240) (o := .cells #[.int .i64 a0_0, .int .i64 a0_1, .slice A0_2 l0_2.length c0_2] 28 (0, 0)) (Cmp.b BK240.out) hg (Kd.R_ne HO257.out BK240.out (by decide)))
            have n1_ := Aside0.mk (blk_grown (g := gb241) (o := .cells #[.int .i64 0, .int .i64 0, .slice none 0 0] 28 (0, 0)) (Cmp.b BK241.out) hg (Kd.R_ne HO257.out BK241.out (by decide)))
            have n2_ := Aside0.mk (Kd.R_after (ok := (fun k_ => some k_ ≠ (v266 : Value).ownBlock)) (by refine Cmp.rr ?_; exact Kd.R_mono HO253.out (fun _ hk => ⟨hk.1.2, hk.2⟩)) hg hat)
            have n3_ := Aside0.mk (blk_grown (g := gb254) (o := .cells #[.int .i64 t249, .int .i64 t250, .slice Ao38 t251.length co38] 28 (0, 0)) (Cmp.b BK254.out) hg (Kd.R_ne HO257.out BK254.out (by decide)))
            have n4_ := Aside0.mk (Kd.R_after (ok := (fun k_ => some k_ ≠ (.slice Ao38 t251.length co38 : Value).ownBlock)) (by refine Cmp.rr ?_; exact Kd.R_mono HO267.out (fun _ hk => ⟨hk.1.2, hk.2⟩)) hg hat)
            have n5_ := Aside0.mk (hb)
            have n6_ := Aside0.mk (ho)
            clear BK240; clear BK241; clear HO253; clear BK254; clear HO267; clear HB; clear HO257; have BK240 := n0_; have BK241 := n1_; have HO253 := n2_; have BK254 := n3_; have HO267 := n4_; have HB := n5_; have HO264 := n6_; clear n0_ n1_ n2_ n3_ n4_ n5_ n6_; clear ho hb hg hat
            refine hK.out _ _ ⟨(blk_cell BK240.out 0).trans rfl, (blk_cell BK240.out 1).trans rfl, (blk_cell BK240.out 2).trans rfl⟩ (fun hHeld => ?_)
            clear hK K
            refine norm_ (a' := ?_) ?_ ?_
            rotate_left
            ·show Act.put _ (some 39) _ = _
             simp only [Act.put, Cmp.s, Cmp.z, Cmp.c, i64_w, i32_w]; rfl
            exact norm_ (by simp only [putAll, Act.put, List.setIfInBounds_toArray, List.set_cons_zero, List.set_cons_succ]) (hCont (v256, v263, v266) _ ⟨hHeld, (by refine Cmp.rr ?_; exact Kd.R_mono HO253.out (fun _ hk => ⟨hk.2, hk.1⟩)), (Cmp.rr HO264.out), (Cmp.rr HO267.out), (Cmp.b BK240.out), (Cmp.b BK241.out), (Cmp.b BK254.out), (Cmp.g HB.out)⟩)
          rintro ⟨v256, v263, v266⟩ w48 ⟨hS_, h0_, h1_, h2_, h3_, h4_, h5_, h6_⟩
          have n0_ : Aside0 (Kd.R k83 83 w48 w.heap.size (fun k_ => some k_ ≠ (v263 : Value).ownBlock ∧ some k_ ≠ (v266 : Value).ownBlock) (.slice Ao38 t251.length co38) t251) := ⟨h0_⟩
          have n1_ : Aside0 (Kd.R k83 83 w48 w.heap.size (fun k_ => some k_ ≠ (.slice Ao38 t251.length co38 : Value).ownBlock ∧ some k_ ≠ (v266 : Value).ownBlock) v263 y262) := ⟨h1_⟩
          have n2_ : Aside0 (Kd.R k83 83 w48 w.heap.size (fun k_ => some k_ ≠ (.slice Ao38 t251.length co38 : Value).ownBlock ∧ some k_ ≠ (v263 : Value).ownBlock) v266 y265) := ⟨h2_⟩
          have n3_ : Aside0 (w48.heap[gb240]? = some (.cells #[.int .i64 a0_0, .int .i64 a0_1, .slice A0_2 l0_2.length c0_2] 28 (0, 0))) := ⟨h3_⟩
          have n4_ : Aside0 (w48.heap[gb241]? = some (.cells #[.int .i64 0, .int .i64 0, .slice none 0 0] 28 (0, 0))) := ⟨h4_⟩
          have n5_ : Aside0 (w48.heap[gb254]? = some (.cells #[.int .i64 t249, .int .i64 t250, .slice Ao38 t251.length co38] 28 (0, 0))) := ⟨h5_⟩
          have n6_ : Aside0 (Below w.heap.size w w48) := ⟨h6_⟩
          clear HO253; clear BK240; clear BK241; clear BK254; clear HB; clear h0_ h1_ h2_ h3_ h4_ h5_ h6_; have HO253 := n0_; have HO264 := n1_; have HO267 := n2_; have BK240 := n3_; have BK241 := n4_; have BK254 := n5_; have HB := n6_; clear n0_ n1_ n2_ n3_ n4_ n5_ n6_
          have hHeld : w48.cell? ⟨gb240, 0, none⟩ = some (.int .i64 a0_0) ∧ w48.cell? ⟨gb240, 1, none⟩ = some (.int .i64 a0_1) ∧ w48.cell? ⟨gb240, 2, none⟩ = some (.slice A0_2 l0_2.length c0_2) := hS_
          obtain ⟨Ao50, co50, eo50⟩ := Kd.R_slice HO267.out
          (first | subst eo50 | (injection eo50 with f1_ f2_ f3_; have f4_ := f1_.symm; have f5_ := f3_.symm; clear f1_ f2_ f3_; subst f4_; subst f5_))
          refine norm_ (a' := ?_) ?_ ?_
          rotate_left
          ·simp only [putAll, Act.put, List.setIfInBounds_toArray, List.set_cons_zero, List.set_cons_succ]; rfl
          refine one_ (i := 10) (N := some 44) (Cmp.bm 15 3) rfl rfl (one_of HT_.out (by kernel_rfl)) (by decide) (fun K hK => ?_)
          refine Kd.R_append_rows_step k83 (w0 := w) w.heap.size (by rfl) (.tmp 39) (.tmp 43) 26 83 (.agg #[(.int .i64 0), (.int .i64 0), (.int .i64 0), (.bool false)]) 32 rfl Try.underlying26 info83 rfl (by decide) (by omega) v263 y262 y265 _ _ _ (fun k_ => some k_ ≠ (.slice Ao38 t251.length co38 : Value).ownBlock ∧ some k_ ≠ (.slice Ao50 y265.length co50 : Value).ownBlock) (fun _ => False) rfl rfl ?aO ?aR (fun _ _ h => h) (fun _ h => h.elim) ?aF ?aB ?aS ?aL ?_
          (case aR => repeat (first | exact (Kd.R_reads' HO267.out).2.2 | (with_reducible refine Kd.C_alloc ?_ _) | (with_reducible refine Kd.C_drewN ?_ _) | (with_reducible refine Kd.C_drew ?_)))
          (case aB => exact (Cmp.g HB.out))
          (case aF => exact (fun k_ hk => ⟨Kd.fresh' (Kd.R_lt (Cmp.rr HO253.out)) k_ hk, Kd.fresh' (Kd.R_lt (Cmp.rr HO267.out)) k_ hk⟩))
          (case aO => exact (Cmp.rr HO264.out))
          (case aS => exact (below_size (Cmp.g HB.out)))
          (case aL => have := LMc25.out; omega)
          intro v269 w49 ho hb hg hat
          rw [← Ny268.out] at ho
          have n0_ := Aside0.mk (blk_grown (g := gb240) (o := .cells #[.int .i64 a0_0, .int .i64 a0_1, .slice A0_2 l0_2.length c0_2] 28 (0, 0)) (Cmp.b BK240.out) hg (Kd.R_ne HO264.out BK240.out (by decide)))
          have n1_ := Aside0.mk (blk_grown (g := gb241) (o := .cells #[.int .i64 0, .int .i64 0, .slice none 0 0] 28 (0, 0)) (Cmp.b BK241.out) hg (Kd.R_ne HO264.out BK241.out (by decide)))
          have n2_ := Aside0.mk (Kd.R_after (ok := (fun k_ => some k_ ≠ (.slice Ao50 y265.length co50 : Value).ownBlock)) (by refine Cmp.rr ?_; exact Kd.R_mono HO253.out (fun _ hk => ⟨hk.2, hk.1⟩)) hg hat)
          have n3_ := Aside0.mk (blk_grown (g := gb254) (o := .cells #[.int .i64 t249, .int .i64 t250, .slice Ao38 t251.length co38] 28 (0, 0)) (Cmp.b BK254.out) hg (Kd.R_ne HO264.out BK254.out (by decide)))
          have n4_ := Aside0.mk (Kd.R_after (ok := (fun k_ => some k_ ≠ (.slice Ao38 t251.length co38 : Value).ownBlock)) (Cmp.rr HO267.out) hg hat)
          have n5_ := Aside0.mk (hb)
          have n6_ := Aside0.mk (ho)
          clear BK240; clear BK241; clear HO253; clear BK254; clear HO267; clear HB; clear HO264; have BK240 := n0_; have BK241 := n1_; have HO253 := n2_; have BK254 := n3_; have HO267 := n4_; have HB := n5_; have HO270 := n6_; clear n0_ n1_ n2_ n3_ n4_ n5_ n6_; clear ho hb hg hat
          refine hK.out _ _ ⟨(blk_cell BK240.out 0).trans rfl, (blk_cell BK240.out 1).trans rfl, (blk_cell BK240.out 2).trans rfl⟩ (fun hHeld => ?_)
          clear hK K
          refine norm_ (a' := ?_) ?_ ?_
          rotate_left
          ·show Act.put _ (some 44) _ = _
           simp only [Act.put, Cmp.s, Cmp.z, Cmp.c, i64_w, i32_w]; rfl
          refine one_ (i := 15) (N := some 49) (Cmp.bm 16 2) rfl rfl (one_of HT_.out (by kernel_rfl)) (by decide) (fun K hK => ?_)
          refine Kd.R_append_rows_step k83 (w0 := w) w.heap.size (by rfl) (.tmp 44) (.tmp 48) 26 83 (.agg #[(.int .i64 0), (.int .i64 0), (.int .i64 0), (.bool false)]) 32 rfl Try.underlying26 info83 rfl (by decide) (by omega) v269 y268 y271 _ _ _ (fun k_ => some k_ ≠ (.slice Ao38 t251.length co38 : Value).ownBlock ∧ some k_ ≠ (.slice Ao50 y265.length co50 : Value).ownBlock) (fun _ => False) rfl rfl ?aO ?aR (fun _ _ h => h) (fun _ h => h.elim) ?aF ?aB ?aS ?aL ?_
          (case aR => repeat (first | exact (Kd.C_below HR274.out HB.out) | (with_reducible refine Kd.C_alloc ?_ _) | (with_reducible refine Kd.C_drewN ?_ _) | (with_reducible refine Kd.C_drew ?_)))
          (case aB => exact (Cmp.g HB.out))
          (case aF => exact (fun k_ hk => ⟨Kd.fresh' (Kd.R_lt (Cmp.rr HO253.out)) k_ hk, Kd.fresh' (Kd.R_lt (Cmp.rr HO267.out)) k_ hk⟩))
          (case aO => exact (Cmp.rr HO270.out))
          (case aS => exact (below_size (Cmp.g HB.out)))
          (case aL => have := LMc28.out; omega)
          intro v276 w51 ho hb hg hat
          rw [← Ny275.out] at ho
          have n0_ := Aside0.mk (blk_grown (g := gb240) (o := .cells #[.int .i64 a0_0, .int .i64 a0_1, .slice A0_2 l0_2.length c0_2] 28 (0, 0)) (Cmp.b BK240.out) hg (Kd.R_ne HO270.out BK240.out (by decide)))
          have n1_ := Aside0.mk (blk_grown (g := gb241) (o := .cells #[.int .i64 0, .int .i64 0, .slice none 0 0] 28 (0, 0)) (Cmp.b BK241.out) hg (Kd.R_ne HO270.out BK241.out (by decide)))
          have n2_ := Aside0.mk (Kd.R_after (ok := (fun k_ => some k_ ≠ (.slice Ao50 y265.length co50 : Value).ownBlock)) (Cmp.rr HO253.out) hg hat)
          have n3_ := Aside0.mk (blk_grown (g := gb254) (o := .cells #[.int .i64 t249, .int .i64 t250, .slice Ao38 t251.length co38] 28 (0, 0)) (Cmp.b BK254.out) hg (Kd.R_ne HO270.out BK254.out (by decide)))
          have n4_ := Aside0.mk (Kd.R_after (ok := (fun k_ => some k_ ≠ (.slice Ao38 t251.length co38 : Value).ownBlock)) (Cmp.rr HO267.out) hg hat)
          have n5_ := Aside0.mk (hb)
          have n6_ := Aside0.mk (ho)
          clear BK240; clear BK241; clear HO253; clear BK254; clear HO267; clear HB; clear HO270; have BK240 := n0_; have BK241 := n1_; have HO253 := n2_; have BK254 := n3_; have HO267 := n4_; have HB := n5_; have HO277 := n6_; clear n0_ n1_ n2_ n3_ n4_ n5_ n6_; clear ho hb hg hat
          obtain ⟨Ao52, co52, eo52⟩ := Kd.R_slice HO277.out
          (first | subst eo52 | (injection eo52 with f1_ f2_ f3_; have f4_ := f1_.symm; have f5_ := f3_.symm; clear f1_ f2_ f3_; subst f4_; subst f5_))
          refine hK.out _ _ ⟨(blk_cell BK240.out 0).trans rfl, (blk_cell BK240.out 1).trans rfl, (blk_cell BK240.out 2).trans rfl⟩ (fun hHeld => ?_)
          clear hK K
          refine norm_ (a' := ?_) ?_ ?_
          rotate_left
          ·show Act.put _ (some 49) _ = _
           simp only [Act.put, Cmp.s, Cmp.z, Cmp.c, i64_w, i32_w]; rfl
          refine Cmp.pu HT_ 16 50 (Cmp.bm 17 1) ?_
          refine one_ (i := 17) (N := none) (Cmp.bm 18 0) rfl rfl (one_of HT_.out (by kernel_rfl)) (by decide) (fun K hK => ?_)
          have hs53 : w51.cell? ⟨gb254, 2, none⟩ = some (.slice Ao38 t251.length co38) := (blk_cell BK254.out 2).trans rfl
          have hfs53 := blk_frozen BK254.out 2; have hns53_0 := NB240_254.out; have hns53_1 := NB241_254.out; have hms53_0 := NB254_240.out; have hms53_1 := NB254_241.out
          refine skip_ (w1 := ?_) (by rfl) rfl ?_ ?_
          rotate_left
          ·go_simp; rfl
          refine hK.out _ _ ⟨((cell_far (p := ⟨gb254, _, none⟩) NB240_254.out _).trans (hHeld.1)), ((cell_far (p := ⟨gb254, _, none⟩) NB240_254.out _).trans (hHeld.2.1)), ((cell_far (p := ⟨gb254, _, none⟩) NB240_254.out _).trans (hHeld.2.2))⟩ (fun hHeld => ?_)
          clear hK K
          refine done_ (done_of HT_.out (by kernel_rfl)) ?_
          have hcz54_0 : w51.cell? ⟨gb254, 0, none⟩ = some (.int .i64 t249) := (blk_cell BK254.out 0).trans rfl
          have hcz54_1 : w51.cell? ⟨gb254, 1, none⟩ = some (.int .i64 t250) := (blk_cell BK254.out 1).trans rfl
          have hcz54_2 : w51.cell? ⟨gb254, 2, none⟩ = some (.slice Ao38 t251.length co38) := (blk_cell BK254.out 2).trans rfl
          have hfz54_0 := blk_frozen BK254.out 0; have hfz54_1 := blk_frozen BK254.out 1; have hfz54_2 := blk_frozen BK254.out 2
          try go_wp2_with (first | ((with_reducible refine gate_callee (f := 49) rfl ?_); refine goesL_ (some 52) rfl rfl Try.func49 (by kernel_rfl) rfl #[.agg #[.int .i64 t249, .int .i64 t250, .slice Ao52 y275.length co52]] rfl Cmp.q ?_; (with_reducible refine (impl_IsValidAccount.calls kj5 t249 t250 _ _ y275 true _ ?side1 ?side2 A29.out).mono ?_); (case side1 => refine (Kd.R_reads' (e := 83) (base := w.heap.size) (ok := fun k_ => (some k_ ≠ (.slice Ao38 t251.length co38 : Value).ownBlock ∧ some k_ ≠ (.slice Ao50 y265.length co50 : Value).ownBlock)) (n := y275.length) (c := co52) ?_).2.2; exact (by refine Cmp.rr ?_; exact (Kd.R_mono (Kd.R_far (p := ⟨gb254, 2, none⟩) (Kd.R_types HO277.out BK254.out (by decide)) (fun _ hk => hk.2) (.slice Ao52 y275.length co52)) (fun _ h_ => h_.1)))); (case side2 => exact (Kd.R_reads' HO277.out).2.1); rintro e w55 ⟨rfl, hb⟩; refine ⟨_, rfl, ?_⟩; have n0_ := Aside0.mk (Kd.R_below (by refine Cmp.rr ?_; exact (Kd.R_mono (Kd.R_far (p := ⟨gb254, 2, none⟩) (Kd.R_types HO253.out BK254.out (by decide)) (fun _ hk => hk.2) (.slice Ao52 y275.length co52)) (fun _ h_ => h_.1))) hb); have n1_ := Aside0.mk (Kd.R_below (by refine Cmp.rr ?_; exact (Kd.R_mono (Kd.R_far (p := ⟨gb254, 2, none⟩) (Kd.R_types HO267.out BK254.out (by decide)) (fun _ hk => hk.2) (.slice Ao52 y275.length co52)) (fun _ h_ => h_.1))) hb); have n2_ := Aside0.mk (Kd.R_below (by refine Cmp.rr ?_; exact (Kd.R_mono (Kd.R_far (p := ⟨gb254, 2, none⟩) (Kd.R_types HO277.out BK254.out (by decide)) (fun _ hk => hk.2) (.slice Ao52 y275.length co52)) (fun _ h_ => h_.1))) hb); have n3_ := Aside0.mk (blk_below (g := gb240) (o := .cells #[.int .i64 a0_0, .int .i64 a0_1, .slice A0_2 l0_2.length c0_2] 28 (0, 0)) (by refine Cmp.b ?_; refine blk_far ?_ NB240_254.out _; refine Cmp.b ?_; exact BK240.out) hb); have n4_ := Aside0.mk (blk_below (g := gb241) (o := .cells #[.int .i64 0, .int .i64 0, .slice none 0 0] 28 (0, 0)) (by refine Cmp.b ?_; refine blk_far ?_ NB241_254.out _; refine Cmp.b ?_; exact BK241.out) hb); have n5_ := Aside0.mk (blk_below (g := gb254) (o := .cells #[.int .i64 t249, .int .i64 t250, .slice Ao52 y275.length co52] 28 (0, 0)) (by refine Cmp.b ?_; refine blk_put (cs := #[.int .i64 t249, .int .i64 t250, .slice Ao38 t251.length co38]) ?_ 2 _ rfl; refine Cmp.b ?_; exact BK254.out) hb); have n6_ := Aside0.mk (below_step (Cmp.g HB.out) hb); clear HO253; clear HO267; clear HO277; clear BK240; clear BK241; clear BK254; clear HB; have HO253 := n0_; have HO267 := n1_; have HO277 := n2_; have BK240 := n3_; have BK241 := n4_; have BK254 := n5_; have HB := n6_; clear n0_ n1_ n2_ n3_ n4_ n5_ n6_; (try clear hb); (try clear hb2); (try clear hk); (try clear hi); have hcz56_0 : w55.cell? ⟨gb254, 0, none⟩ = some (.int .i64 t249) := (blk_cell BK254.out 0).trans rfl; have hcz56_1 : w55.cell? ⟨gb254, 1, none⟩ = some (.int .i64 t250) := (blk_cell BK254.out 1).trans rfl; have hcz56_2 : w55.cell? ⟨gb254, 2, none⟩ = some (.slice Ao52 y275.length co52) := (blk_cell BK254.out 2).trans rfl; have hfz56_0 := blk_frozen BK254.out 0; have hfz56_1 := blk_frozen BK254.out 1; have hfz56_2 := blk_frozen BK254.out 2; have hcz57_0 : w55.cell? ⟨gb241, 0, none⟩ = some (.int .i64 0) := (blk_cell BK241.out 0).trans rfl; have hcz57_1 : w55.cell? ⟨gb241, 1, none⟩ = some (.int .i64 0) := (blk_cell BK241.out 1).trans rfl; have hcz57_2 : w55.cell? ⟨gb241, 2, none⟩ = some (.slice none 0 0) := (blk_cell BK241.out 2).trans rfl; have hfz57_0 := blk_frozen BK241.out 0; have hfz57_1 := blk_frozen BK241.out 1; have hfz57_2 := blk_frozen BK241.out 2))
          refine bodyPost_ret (results_ct rfl _ _ gb241 28 #[.int .i64 t249, .int .i64 t250, .slice Ao52 y275.length co52] (0, 0) _ rfl (by refine Cmp.b ?_; refine blk_put (cs := #[.int .i64 t249, .int .i64 t250, .slice none 0 0]) ?_ 2 _ rfl; refine Cmp.b ?_; refine blk_put (cs := #[.int .i64 t249, .int .i64 0, .slice none 0 0]) ?_ 1 _ rfl; refine Cmp.b ?_; refine blk_put (cs := #[.int .i64 0, .int .i64 0, .slice none 0 0]) ?_ 0 _ rfl; refine Cmp.b ?_; exact BK241.out) Try.underlying28 rfl (by kernel_rfl)) rfl ?_
          exact ⟨_, by first | rfl | (simp [errW_none, errW_some] <;> rfl) | (simp [*, errW_none, errW_some] <;> rfl), by refine Cmp.rr ?_; exact Kd.R_mono (Kd.R_far (p := ⟨gb241, 2, none⟩) (Kd.R_far (p := ⟨gb241, 1, none⟩) (Kd.R_far (p := ⟨gb241, 0, none⟩) (Kd.R_types HO277.out BK241.out (by decide)) (fun _ hk => hk.2) (.int .i64 t249)) (fun _ hk => hk.2) (.int .i64 t250)) (fun _ hk => hk.2) (.slice Ao52 y275.length co52)) (fun _ hk => trivial), Cmp.g HB.out⟩
         ·replace c30 := Bool.eq_false_iff.mpr c30
          subst c30
          have H1 : ((impl_copyAccount.f a0_0 a0_1 l0_2).bind fun bt279 => (some (bt279.1, bt279.2.1, bt279.2.2, false))) = some (r1, r2, r3, r4) := by rw [if_neg (show ¬ (false = true) by decide)] at H; exact H
          clear H; have H := H1; clear H1; replace H := Option.bind_eq_some_iff.mp H; obtain ⟨⟨t279, t280, t281⟩, A580, H⟩ := H; (try dsimp only at H); have A58 := Aside0.mk A580; clear A580
          simp only [Option.some.injEq, Prod.mk.injEq] at H
          obtain ⟨rfl, rfl, rfl, rfl⟩ := H; have hnb59 := NB240_241.out; have hnc59 := NB241_240.out
          have hcz60_0 : wc.cell? ⟨gb240, 0, none⟩ = some (.int .i64 a0_0) := (blk_cell BK240.out 0).trans rfl
          have hcz60_1 : wc.cell? ⟨gb240, 1, none⟩ = some (.int .i64 a0_1) := (blk_cell BK240.out 1).trans rfl
          have hcz60_2 : wc.cell? ⟨gb240, 2, none⟩ = some (.slice A0_2 l0_2.length c0_2) := (blk_cell BK240.out 2).trans rfl
          have hfz60_0 := blk_frozen BK240.out 0; have hfz60_1 := blk_frozen BK240.out 1; have hfz60_2 := blk_frozen BK240.out 2
          try go_wp2_with (first | ((with_reducible refine gate_callee (f := 48) rfl ?_); refine goesL_ (some 33) rfl rfl Try.func48 (by kernel_rfl) rfl #[.agg #[.int .i64 a0_0, .int .i64 a0_1, .slice A0_2 l0_2.length c0_2]] rfl Cmp.q ?_; (with_reducible refine (impl_copyAccount.calls a0_0 a0_1 _ _ l0_2 t249 t250 t251 _ ?side1 ?side2 A21.out).mono ?_); (case side1 => exact Cmp.rc (Kd.C_below HR0_2.out HB.out)); (case side2 => exact HC0_2.out); rintro e w61 ⟨v252, rfl, ho0, hb⟩; refine ⟨_, rfl, ?_⟩; have n0_ := Aside0.mk (Kd.R_lower ho0 (below_size (Cmp.g HB.out))); have n1_ := Aside0.mk (blk_below (Cmp.b BK240.out) hb); have n2_ := Aside0.mk (blk_below (Cmp.b BK241.out) hb); have n3_ := Aside0.mk (below_step (Cmp.g HB.out) hb); clear BK240; clear BK241; clear HB; have HO253 := n0_; have BK240 := n1_; have BK241 := n2_; have HB := n3_; clear n0_ n1_ n2_ n3_; (try clear hb); (try clear hb2); (try clear hk); (try clear hi); (try clear ho0)) | ((with_reducible refine gate_dst (N := 9) rfl ?_); refine box_event (by rfl) (N := 9) (by rfl) (cs := #[.int .i64 0, .int .i64 0, .slice none 0 0]) (t := 28) (by first | (go_simp; done) | (go_simp; rfl)) ?_; intro gb254 hg w62 hbox hb; have n0_ := Aside0.mk (Kd.R_below (Cmp.rr HO253.out) hb); have n1_ := Aside0.mk (blk_below (Cmp.b BK240.out) hb); have n2_ := Aside0.mk (blk_below (Cmp.b BK241.out) hb); have n3_ := Aside0.mk (below_step (Cmp.g HB.out) hb); have n4_ := Aside0.mk (hbox); have n5_ := Aside0.mk ((by rw [hg]; exact (below_size (Cmp.g HB.out)) : w.heap.size ≤ gb254)); have n6_ := Aside0.mk ((by rw [hg]; exact (below_size (Cmp.g HB.out)) : w.heap.size ≤ gb254)); have n7_ := Aside0.mk ((by rw [hg]; exact Nat.ne_of_lt (blk_lt (Cmp.b BK240.out)) : gb240 ≠ gb254)); have n8_ := Aside0.mk ((by rw [hg]; exact Nat.ne_of_gt (blk_lt (Cmp.b BK240.out)) : gb254 ≠ gb240)); have n9_ := Aside0.mk ((by rw [hg]; exact Nat.ne_of_lt (blk_lt (Cmp.b BK241.out)) : gb241 ≠ gb254)); have n10_ := Aside0.mk ((by rw [hg]; exact Nat.ne_of_gt (blk_lt (Cmp.b BK241.out)) : gb254 ≠ gb241)); clear HO253; clear BK240; clear BK241; clear HB; have HO253 := n0_; have BK240 := n1_; have BK241 := n2_; have HB := n3_; have BK254 := n4_; have GW254 := n5_; have GE254 := n6_; have NB240_254 := n7_; have NB254_240 := n8_; have NB241_254 := n9_; have NB254_241 := n10_; clear n0_ n1_ n2_ n3_ n4_ n5_ n6_ n7_ n8_ n9_ n10_; clear hb hbox hg; have hnb63 := NB254_240.out; have hnc63 := NB240_254.out; have hnb64 := NB254_241.out; have hnc64 := NB241_254.out; have hcz65_0 : w62.cell? ⟨gb254, 0, none⟩ = some (.int .i64 0) := (blk_cell BK254.out 0).trans rfl; have hcz65_1 : w62.cell? ⟨gb254, 1, none⟩ = some (.int .i64 0) := (blk_cell BK254.out 1).trans rfl; have hcz65_2 : w62.cell? ⟨gb254, 2, none⟩ = some (.slice none 0 0) := (blk_cell BK254.out 2).trans rfl; have hfz65_0 := blk_frozen BK254.out 0; have hfz65_1 := blk_frozen BK254.out 1; have hfz65_2 := blk_frozen BK254.out 2; obtain ⟨Ao66, co66, eo66⟩ := Kd.R_slice HO253.out; subst eo66))
          have n0_ : Aside0 (Kd.R k83 83 (((w62.setCell ⟨gb254, 0, none⟩ (.int .i64 t249)).setCell ⟨gb254, 1, none⟩ (.int .i64 t250)).setCell ⟨gb254, 2, none⟩ (.slice Ao66 t251.length co66)) w.heap.size (fun _ => True) (.slice Ao66 t251.length co66) t251) := ⟨by refine Cmp.rr ?_; exact Kd.R_mono (Kd.R_far (p := ⟨gb254, 2, none⟩) (Kd.R_far (p := ⟨gb254, 1, none⟩) (Kd.R_far (p := ⟨gb254, 0, none⟩) (Kd.R_types HO253.out BK254.out (by decide)) (fun _ hk => hk.2) (.int .i64 t249)) (fun _ hk => hk.2) (.int .i64 t250)) (fun _ hk => hk.2) (.slice Ao66 t251.length co66)) (fun _ hk => trivial)⟩
          have n1_ : Aside0 ((((w62.setCell ⟨gb254, 0, none⟩ (.int .i64 t249)).setCell ⟨gb254, 1, none⟩ (.int .i64 t250)).setCell ⟨gb254, 2, none⟩ (.slice Ao66 t251.length co66)).heap[gb240]? = some (.cells #[.int .i64 a0_0, .int .i64 a0_1, .slice A0_2 l0_2.length c0_2] 28 (0, 0))) := ⟨by refine Cmp.b ?_; refine blk_far ?_ NB240_254.out _; refine Cmp.b ?_; refine blk_far ?_ NB240_254.out _; refine Cmp.b ?_; refine blk_far ?_ NB240_254.out _; refine Cmp.b ?_; exact BK240.out⟩
          have n2_ : Aside0 ((((w62.setCell ⟨gb254, 0, none⟩ (.int .i64 t249)).setCell ⟨gb254, 1, none⟩ (.int .i64 t250)).setCell ⟨gb254, 2, none⟩ (.slice Ao66 t251.length co66)).heap[gb241]? = some (.cells #[.int .i64 0, .int .i64 0, .slice none 0 0] 28 (0, 0))) := ⟨by refine Cmp.b ?_; refine blk_far ?_ NB241_254.out _; refine Cmp.b ?_; refine blk_far ?_ NB241_254.out _; refine Cmp.b ?_; refine blk_far ?_ NB241_254.out _; refine Cmp.b ?_; exact BK241.out⟩
          have n3_ : Aside0 ((((w62.setCell ⟨gb254, 0, none⟩ (.int .i64 t249)).setCell ⟨gb254, 1, none⟩ (.int .i64 t250)).setCell ⟨gb254, 2, none⟩ (.slice Ao66 t251.length co66)).heap[gb254]? = some (.cells #[.int .i64 t249, .int .i64 t250, .slice Ao66 t251.length co66] 28 (0, 0))) := ⟨by refine Cmp.b ?_; refine blk_put (cs := #[.int .i64 t249, .int .i64 t250, .slice none 0 0]) ?_ 2 _ rfl; refine Cmp.b ?_; refine blk_put (cs := #[.int .i64 t249, .int .i64 0, .slice none 0 0]) ?_ 1 _ rfl; refine Cmp.b ?_; refine blk_put (cs := #[.int .i64 0, .int .i64 0, .slice none 0 0]) ?_ 0 _ rfl; refine Cmp.b ?_; exact BK254.out⟩
          have n4_ : Aside0 (Below w.heap.size w (((w62.setCell ⟨gb254, 0, none⟩ (.int .i64 t249)).setCell ⟨gb254, 1, none⟩ (.int .i64 t250)).setCell ⟨gb254, 2, none⟩ (.slice Ao66 t251.length co66))) := ⟨Cmp.g HB.out⟩
          (try clear HO253); (try clear BK240); (try clear BK241); (try clear BK254); (try clear HB)
          generalize (((w62.setCell ⟨gb254, 0, none⟩ (.int .i64 t249)).setCell ⟨gb254, 1, none⟩ (.int .i64 t250)).setCell ⟨gb254, 2, none⟩ (.slice Ao66 t251.length co66)) = w67 at n0_ n1_ n2_ n3_ n4_ ⊢
          have HO253 := n0_; have BK240 := n1_; have BK241 := n2_; have BK254 := n3_; have HB := n4_; clear n0_ n1_ n2_ n3_ n4_; have n0_ := Aside0.mk (Kd.R_drew HO253.out); have n1_ := Aside0.mk (blk_drew BK240.out); have n2_ := Aside0.mk (blk_drew BK241.out); have n3_ := Aside0.mk (blk_drew BK254.out); have n4_ := Aside0.mk (below_drew1 HB.out); clear HO253; clear BK240; clear BK241; clear BK254; clear HB; have HO253 := n0_; have BK240 := n1_; have BK241 := n2_; have BK254 := n3_; have HB := n4_; clear n0_ n1_ n2_ n3_ n4_
          have q69 : (x8_5 : Int) ≤ ((l0_2.length : Int) : Int) := of_decide_eq_true Cmp.d
          obtain ⟨i069, hi069, _, hsz69, _⟩ := info_parts info83
          have hroom69 : l0_2.length ≤ c0_2 := HC0_2.out
          have hC69 : Kd.C k83 _ A0_2 l0_2.length l0_2 := HR0_2.out
          have hcut69 := cut_to (P := Try.prog) 26 83 .i64 Try.underlying26 hi069 A0_2 l0_2.length c0_2 x8_5 (of_decide_eq_true Cmp.d) q69 hroom69
          have hr69 := Kd.C_take (m := (x8_5 : Int).toNat) hC69 (by omega)
          have hy69 : y258.length = (x8_5 : Int).toNat := (by rw [Ny258.out, List.length_take]; omega)
          rw [← Ny258.out] at hr69
          rw [← hy69] at hcut69
          have HR261 := Aside0.mk hr69
          have HC261 := Aside0.mk (show y258.length ≤ c0_2 from by omega)
          clear hr69 hC69 hroom69 hi069 hsz69; have KY69 := Aside0.mk hy69; clear hy69; replace q69 := eq_true q69
          have q70 : (x8_5 : Int) ≤ ((l0_2.length : Int) : Int) := of_decide_eq_true Cmp.d
          obtain ⟨i070, hi070, _, hsz70, _⟩ := info_parts info83
          have hroom70 : l0_2.length ≤ c0_2 := HC0_2.out
          have hC70 : Kd.C k83 _ A0_2 l0_2.length l0_2 := HR0_2.out
          have q070 : (0 : Int) ≤ (x8_5 : Int) := of_decide_eq_true Cmp.d
          have hcut70 := cut_from (P := Try.prog) 26 83 .i64 Try.underlying26 hi070 4 hsz70 A0_2 l0_2.length c0_2 x8_5 q070 q70
          have hr70 := Kd.C_drop (m := (x8_5 : Int).toNat) (c := c0_2) hC70 (by omega) hroom70
          obtain ⟨A70, hA70⟩ : ∃ A1, A1 = (if c0_2 = (x8_5 : Int).toNat then A0_2 else (A0_2 : Option Addr).map (·.add ((x8_5 : Int).toNat * 4))) := ⟨_, rfl⟩
          obtain ⟨c70, hc70⟩ : ∃ c1, c1 = c0_2 - (x8_5 : Int).toNat := ⟨_, rfl⟩
          have hy70 : y271.length = l0_2.length - (x8_5 : Int).toNat := (by rw [Ny271.out, List.length_drop] <;> omega)
          rw [show (l0_2).drop (x8_5 : Int).toNat = y271 from Ny271.out.symm] at hr70
          replace hr70 : Kd.C k83 _ A70 y271.length y271 := (by rw [hA70]; exact hr70)
          rw [← hy70, ← hA70, ← hc70] at hcut70
          have HR274 := Aside0.mk hr70
          have HC274 := Aside0.mk (show y271.length ≤ c70 from by rw [hy70, hc70]; exact Nat.sub_le_sub_right hroom70 _)
          clear hr70 hC70 hroom70 hi070 hsz70 hc70; have KY70 := Aside0.mk hy70; have KA70 := Aside0.mk hA70; clear hy70 hA70; replace q70 := eq_true q70
          refine start_ (n := 18) (S := fun w' => w'.cell? ⟨gb240, 0, none⟩ = some (.int .i64 a0_0) ∧ w'.cell? ⟨gb240, 1, none⟩ = some (.int .i64 a0_1) ∧ w'.cell? ⟨gb240, 2, none⟩ = some (.slice A0_2 l0_2.length c0_2)) (ds := []) (Cmp.bm 0 18) (by kernel_rfl) rfl rfl ⟨(blk_cell BK240.out 0).trans rfl, (blk_cell BK240.out 1).trans rfl, (blk_cell BK240.out 2).trans rfl⟩ (fun hHeld => ?_); refine with_tabW impl_AddCredential.tab7 impl_AddCredential.bits7 (fun HT_ HW_ => ?_)
          generalize w67.drew = w68 at HO253 BK240 BK241 BK254 HB HR261 HR274 hHeld ⊢
          refine Cmp.pu HT_ 1 35 (Cmp.bb 18 2) ?_; refine Cmp.pu HT_ 3 37 (Cmp.bb 18 10) ?_; refine Cmp.pu HT_ 6 40 (Cmp.bb 18 74) ?_; refine Cmp.pu HT_ 7 41 (Cmp.bb 18 202) ?_; refine Cmp.pu HT_ 8 42 (Cmp.bb 18 458) ?_; refine Cmp.pu HT_ 11 45 (Cmp.bb 18 2506) ?_; refine Cmp.pu HT_ 13 47 (Cmp.bb 18 10698) ?_; refine Cmp.tk HT_ HW_ hHeld 2 36 (Cmp.bb 18 10702) ?_; refine Cmp.pu HT_ 4 38 (Cmp.bb 18 10718) ?_; refine Cmp.tk HT_ HW_ hHeld 12 46 (Cmp.bb 18 14814) ?_; refine Cmp.pu HT_ 14 48 (Cmp.bb 18 31198) ?_
          refine join_ (σ := Value × Value × Value) 4 (Cmp.bb 18 31743) (fun s_ => [(34, s_.1), (39, s_.2.1), (43, s_.2.2)]) (fun s_ w' => (w'.cell? ⟨gb240, 0, none⟩ = some (.int .i64 a0_0) ∧ w'.cell? ⟨gb240, 1, none⟩ = some (.int .i64 a0_1) ∧ w'.cell? ⟨gb240, 2, none⟩ = some (.slice A0_2 l0_2.length c0_2)) ∧ (Kd.R k83 83 w' w.heap.size (fun k_ => some k_ ≠ (s_.2.1 : Value).ownBlock ∧ some k_ ≠ (s_.2.2 : Value).ownBlock) (.slice Ao66 t251.length co66) t251) ∧ (Kd.R k83 83 w' w.heap.size (fun k_ => some k_ ≠ (.slice Ao66 t251.length co66 : Value).ownBlock ∧ some k_ ≠ (s_.2.2 : Value).ownBlock) s_.2.1 y262) ∧ (Kd.R k83 83 w' w.heap.size (fun k_ => some k_ ≠ (.slice Ao66 t251.length co66 : Value).ownBlock ∧ some k_ ≠ (s_.2.1 : Value).ownBlock) s_.2.2 y265) ∧ (w'.heap[gb240]? = some (.cells #[.int .i64 a0_0, .int .i64 a0_1, .slice A0_2 l0_2.length c0_2] 28 (0, 0))) ∧ (w'.heap[gb241]? = some (.cells #[.int .i64 0, .int .i64 0, .slice none 0 0] 28 (0, 0))) ∧ (w'.heap[gb254]? = some (.cells #[.int .i64 t249, .int .i64 t250, .slice Ao66 t251.length co66] 28 (0, 0))) ∧ (Below w.heap.size w w')) ?_ ?_
          rotate_left
          ·intro hCont
           refine two_ (i := 0) (j := 9) (Ni := some 34) (Nj := some 43) (Cmp.bb 18 31199) (Cmp.bb 18 31710) rfl rfl rfl rfl (two_of HT_.out (by kernel_rfl)) (by decide) (by decide) (fun K hK => ?_) (fun K hK => ?_)
           ·skip
            refine Kd.R_lit_step k83 _ 83 ?hg (N := 34) ?hd (xs := ([] : List (S83))) (inner := []) (ok := fun _ => True) (okp := fun _ => True) ?hr ?hp (fun _ hk => hk) trivial (Below.refl _ _) (Nat.le_refl _) (by simp) ?_; (case hd => rfl); (case hg => rfl); (case hr => first | (go_simp; done) | (go_simp; rfl)); (case hp => exact (Reps.none _ _))
            intro v256 w71 ho72 hb hg_ hnew_
            clear hg_ hnew_
            (first | rw [← Ny255.out] at ho72 | (simp only [Int.reduceToNat] at ho72; rw [← Ny255.out] at ho72))
            have n0_ := Aside0.mk (Kd.R_elder' (Cmp.rr HO253.out) (Kd.R_base ho72) hb)
            have n1_ := Aside0.mk (Kd.R_lower (Kd.R_new' ho72 (Kd.R_lt (Cmp.rr HO253.out))) (below_size (Cmp.g HB.out)))
            have n2_ := Aside0.mk (blk_below (Cmp.b BK240.out) hb)
            have n3_ := Aside0.mk (blk_below (Cmp.b BK241.out) hb)
            have n4_ := Aside0.mk (blk_below (Cmp.b BK254.out) hb)
            have n5_ := Aside0.mk (below_step (Cmp.g HB.out) hb)
            clear HO253; clear BK240; clear BK241; clear BK254; clear HB; have HO253 := n0_; have HO257 := n1_; have BK240 := n2_; have BK241 := n3_; have BK254 := n4_; have HB := n5_; clear n0_ n1_ n2_ n3_ n4_ n5_; clear hb ho72
            refine hK.out _ _ ⟨(blk_cell BK240.out 0).trans rfl, (blk_cell BK240.out 1).trans rfl, (blk_cell BK240.out 2).trans rfl⟩ (fun hHeld => ?_)
            clear hK K
            refine norm_ (a' := ?_) ?_ ?_
            rotate_left
            ·show Act.put _ (some 34) _ = _
             simp only [Act.put, Cmp.s, Cmp.z, Cmp.c, i64_w, i32_w]; rfl
            refine two_ (i := 5) (j := 9) (Ni := some 39) (Nj := some 43) (Cmp.bb 18 31231) (Cmp.bb 18 31711) rfl rfl rfl rfl (two_of HT_.out (by kernel_rfl)) (by decide) (by decide) (fun K hK => ?_) (fun K hK => ?_)
            ·skip
             refine Kd.R_append_rows_step k83 (w0 := w) w.heap.size (by rfl) (.tmp 34) (.tmp 38) 26 83 (.agg #[(.int .i64 0), (.int .i64 0), (.int .i64 0), (.bool false)]) 32 rfl Try.underlying26 info83 rfl (by decide) (by omega) v256 y255 y258 _ _ _ (fun k_ => some k_ ≠ (.slice Ao66 t251.length co66 : Value).ownBlock) (fun _ => False) rfl rfl ?aO ?aR (fun _ _ h => h) (fun _ h => h.elim) ?aF ?aB ?aS ?aL ?_
             (case aR => repeat (first | exact (Kd.C_below HR261.out HB.out) | (with_reducible refine Kd.C_alloc ?_ _) | (with_reducible refine Kd.C_drewN ?_ _) | (with_reducible refine Kd.C_drew ?_)))
             (case aB => exact (Cmp.g HB.out))
             (case aF => exact (fun k_ hk => Kd.fresh' (Kd.R_lt (Cmp.rr HO253.out)) k_ hk))
             (case aO => exact (by refine Cmp.rr ?_; exact Kd.R_mono HO257.out (fun _ hk => hk.2)))
             (case aS => exact (below_size (Cmp.g HB.out)))
             (case aL => have := LMc24.out; omega)
             intro v263 w73 ho hb hg hat
             rw [← Ny262.out] at ho
             have n0_ := Aside0.mk (blk_grown (g := gb240) (o := .cells #[.int .i64 a0_0, .int .i64 a0_1, .slice A0_2 l0_2.length c0_2] 28 (0, 0)) (Cmp.b BK240.out) hg (Kd.R_ne HO257.out BK240.out (by decide)))
             have n1_ := Aside0.mk (blk_grown (g := gb241) (o := .cells #[.int .i64 0, .int .i64 0, .slice none 0 0] 28 (0, 0)) (Cmp.b BK241.out) hg (Kd.R_ne HO257.out BK241.out (by decide)))
             have n2_ := Aside0.mk (Kd.R_after (ok := (fun _ => True)) (Cmp.rr HO253.out) hg hat)
             have n3_ := Aside0.mk (blk_grown (g := gb254) (o := .cells #[.int .i64 t249, .int .i64 t250, .slice Ao66 t251.length co66] 28 (0, 0)) (Cmp.b BK254.out) hg (Kd.R_ne HO257.out BK254.out (by decide)))
             have n4_ := Aside0.mk (hb)
             have n5_ := Aside0.mk (ho)
             clear BK240; clear BK241; clear HO253; clear BK254; clear HB; clear HO257; have BK240 := n0_; have BK241 := n1_; have HO253 := n2_; have BK254 := n3_; have HB := n4_; have HO264 := n5_; clear n0_ n1_ n2_ n3_ n4_ n5_; clear ho hb hg hat
             refine hK.out _ _ ⟨(blk_cell BK240.out 0).trans rfl, (blk_cell BK240.out 1).trans rfl, (blk_cell BK240.out 2).trans rfl⟩ (fun hHeld => ?_)
             clear hK K
             refine norm_ (a' := ?_) ?_ ?_
             rotate_left
             ·show Act.put _ (some 39) _ = _
              simp only [Act.put, Cmp.s, Cmp.z, Cmp.c, i64_w, i32_w]; rfl
             refine one_ (i := 9) (N := some 43) (Cmp.bb 18 31743) rfl rfl (one_of HT_.out (by kernel_rfl)) (by decide) (fun K hK => ?_)
             refine Kd.R_lit_step k83 _ 83 ?hg (N := 43) ?hd (xs := ([(⟨a1, a2, 0, false⟩ : S83)] : List (S83))) (inner := [.int .i64 a1, .int .i64 a2, .int .i64 0, .bool false]) (ok := fun _ => True) (okp := fun _ => True) ?hr ?hp (fun _ hk => hk) trivial (Below.refl _ _) (Nat.le_refl _) (by simp) ?_; (case hd => rfl); (case hg => rfl); (case hr => first | (go_simp; done) | (go_simp; rfl)); (case hp => exact (Reps.c4 (show Kd.M k83 _ _ _ (⟨a1, a2, 0, false⟩ : S83) [.int .i64 a1, .int .i64 a2, .int .i64 0, .bool false] from (k83_mkM _ _ _ (⟨a1, a2, 0, false⟩ : S83) )) (Reps.none _ _)))
             intro v266 w74 ho75 hb hg_ hnew_
             clear hg_ hnew_
             (first | rw [← Ny265.out] at ho75 | (simp only [Int.reduceToNat] at ho75; rw [← Ny265.out] at ho75))
             have n0_ := Aside0.mk (Kd.R_elder' (Cmp.rr HO253.out) (Kd.R_base ho75) hb)
             have n1_ := Aside0.mk (Kd.R_elder' (Cmp.rr HO264.out) (Kd.R_base ho75) hb)
             have n2_ := Aside0.mk (Kd.R_lower (Kd.R_new' (Kd.R_new' ho75 (Kd.R_lt (Cmp.rr HO253.out))) (Kd.R_lt (Cmp.rr HO264.out))) (below_size (Cmp.g HB.out)))
             have n3_ := Aside0.mk (blk_below (Cmp.b BK240.out) hb)
             have n4_ := Aside0.mk (blk_below (Cmp.b BK241.out) hb)
             have n5_ := Aside0.mk (blk_below (Cmp.b BK254.out) hb)
             have n6_ := Aside0.mk (below_step (Cmp.g HB.out) hb)
             clear HO253; clear HO264; clear BK240; clear BK241; clear BK254; clear HB; have HO253 := n0_; have HO264 := n1_; have HO267 := n2_; have BK240 := n3_; have BK241 := n4_; have BK254 := n5_; have HB := n6_; clear n0_ n1_ n2_ n3_ n4_ n5_ n6_; clear hb ho75
             refine hK.out _ _ ⟨(blk_cell BK240.out 0).trans rfl, (blk_cell BK240.out 1).trans rfl, (blk_cell BK240.out 2).trans rfl⟩ (fun hHeld => ?_)
             clear hK K
             refine norm_ (a' := ?_) ?_ ?_
             rotate_left
             ·show Act.put _ (some 43) _ = _
              simp only [Act.put, Cmp.s, Cmp.z, Cmp.c, i64_w, i32_w]; rfl
             exact norm_ (by simp only [putAll, Act.put, List.setIfInBounds_toArray, List.set_cons_zero, List.set_cons_succ]) (hCont (v256, v263, v266) _ ⟨hHeld, (by refine Cmp.rr ?_; exact Kd.R_mono HO253.out (fun _ hk => ⟨hk.1.2, hk.2⟩)), (Cmp.rr HO264.out), (by refine Cmp.rr ?_; exact Kd.R_mono HO267.out (fun _ hk => ⟨hk.1.2, hk.2⟩)), (Cmp.b BK240.out), (Cmp.b BK241.out), (Cmp.b BK254.out), (Cmp.g HB.out)⟩)
            ·skip
             refine Kd.R_lit_step k83 _ 83 ?hg (N := 43) ?hd (xs := ([(⟨a1, a2, 0, false⟩ : S83)] : List (S83))) (inner := [.int .i64 a1, .int .i64 a2, .int .i64 0, .bool false]) (ok := fun _ => True) (okp := fun _ => True) ?hr ?hp (fun _ hk => hk) trivial (Below.refl _ _) (Nat.le_refl _) (by simp) ?_; (case hd => rfl); (case hg => rfl); (case hr => first | (go_simp; done) | (go_simp; rfl)); (case hp => exact (Reps.c4 (show Kd.M k83 _ _ _ (⟨a1, a2, 0, false⟩ : S83) [.int .i64 a1, .int .i64 a2, .int .i64 0, .bool false] from (k83_mkM _ _ _ (⟨a1, a2, 0, false⟩ : S83) )) (Reps.none _ _)))
             intro v266 w73 ho74 hb hg_ hnew_
             clear hg_ hnew_
             (first | rw [← Ny265.out] at ho74 | (simp only [Int.reduceToNat] at ho74; rw [← Ny265.out] at ho74))
             have n0_ := Aside0.mk (Kd.R_elder' (Cmp.rr HO253.out) (Kd.R_base ho74) hb)
             have n1_ := Aside0.mk (Kd.R_elder' (Cmp.rr HO257.out) (Kd.R_base ho74) hb)
             have n2_ := Aside0.mk (Kd.R_lower (Kd.R_new' (Kd.R_new' ho74 (Kd.R_lt (Cmp.rr HO253.out))) (Kd.R_lt (Cmp.rr HO257.out))) (below_size (Cmp.g HB.out)))
             have n3_ := Aside0.mk (blk_below (Cmp.b BK240.out) hb)
             have n4_ := Aside0.mk (blk_below (Cmp.b BK241.out) hb)
             have n5_ := Aside0.mk (blk_below (Cmp.b BK254.out) hb)
             have n6_ := Aside0.mk (below_step (Cmp.g HB.out) hb)
             clear HO253; clear HO257; clear BK240; clear BK241; clear BK254; clear HB; have HO253 := n0_; have HO257 := n1_; have HO267 := n2_; have BK240 := n3_; have BK241 := n4_; have BK254 := n5_; have HB := n6_; clear n0_ n1_ n2_ n3_ n4_ n5_ n6_; clear hb ho74
             refine hK.out _ _ ⟨(blk_cell BK240.out 0).trans rfl, (blk_cell BK240.out 1).trans rfl, (blk_cell BK240.out 2).trans rfl⟩ (fun hHeld => ?_)
             clear hK K
             refine norm_ (a' := ?_) ?_ ?_
             rotate_left
             ·show Act.put _ (some 43) _ = _
              simp only [Act.put, Cmp.s, Cmp.z, Cmp.c, i64_w, i32_w]; rfl
             refine one_ (i := 5) (N := some 39) (Cmp.bb 18 31743) rfl rfl (one_of HT_.out (by kernel_rfl)) (by decide) (fun K hK => ?_)
             refine Kd.R_append_rows_step k83 (w0 := w) w.heap.size (by rfl) (.tmp 34) (.tmp 38) 26 83 (.agg #[(.int .i64 0), (.int .i64 0), (.int .i64 0), (.bool false)]) 32 rfl Try.underlying26 info83 rfl (by decide) (by omega) v256 y255 y258 _ _ _ (fun k_ => some k_ ≠ (.slice Ao66 t251.length co66 : Value).ownBlock ∧ some k_ ≠ (v266 : Value).ownBlock) (fun _ => False) rfl rfl ?aO ?aR (fun _ _ h => h) (fun _ h => h.elim) ?aF ?aB ?aS ?aL ?_
             (case aR => repeat (first | exact (Kd.C_below HR261.out HB.out) | (with_reducible refine Kd.C_alloc ?_ _) | (with_reducible refine Kd.C_drewN ?_ _) | (with_reducible refine Kd.C_drew ?_)))
             (case aB => exact (Cmp.g HB.out))
             (case aF => exact (fun k_ hk => ⟨Kd.fresh' (Kd.R_lt (Cmp.rr HO253.out)) k_ hk, Kd.fresh' (Kd.R_lt (Cmp.rr HO267.out)) k_ hk⟩))
             (case aO => exact (by refine Cmp.rr ?_; exact Kd.R_mono HO257.out (fun _ hk => ⟨hk.1.2, hk.2⟩)))
             (case aS => exact (below_size (Cmp.g HB.out)))
             (case aL => have := LMc24.out; omega)
             intro v263 w75 ho hb hg hat
             rw [← Ny262.out] at ho
             have n0_ := Aside0.mk (blk_grown (g := gb240) (o := .cells #[.int .i64 a0_0, .int .i64 a0_1, .slice A0_2 l0_2.length c0_2] 28 (0, 0)) (Cmp.b BK240.out) hg (Kd.R_ne HO257.out BK240.out (by decide)))
             have n1_ := Aside0.mk (blk_grown (g := gb241) (o := .cells #[.int .i64 0, .int .i64 0, .slice none 0 0] 28 (0, 0)) (Cmp.b BK241.out) hg (Kd.R_ne HO257.out BK241.out (by decide)))
             have n2_ := Aside0.mk (Kd.R_after (ok := (fun k_ => some k_ ≠ (v266 : Value).ownBlock)) (by refine Cmp.rr ?_; exact Kd.R_mono HO253.out (fun _ hk => ⟨hk.2, hk.1.2⟩)) hg hat)
             have n3_ := Aside0.mk (blk_grown (g := gb254) (o := .cells #[.int .i64 t249, .int .i64 t250, .slice Ao66 t251.length co66] 28 (0, 0)) (Cmp.b BK254.out) hg (Kd.R_ne HO257.out BK254.out (by decide)))
             have n4_ := Aside0.mk (Kd.R_after (ok := (fun k_ => some k_ ≠ (.slice Ao66 t251.length co66 : Value).ownBlock)) (by refine Cmp.rr ?_; exact Kd.R_mono HO267.out (fun _ hk => ⟨hk.1.2, hk.2⟩)) hg hat)
             have n5_ := Aside0.mk (hb)
             have n6_ := Aside0.mk (ho)
             clear BK240; clear BK241; clear HO253; clear BK254; clear HO267; clear HB; clear HO257; have BK240 := n0_; have BK241 := n1_; have HO253 := n2_; have BK254 := n3_; have HO267 := n4_; have HB := n5_; have HO264 := n6_; clear n0_ n1_ n2_ n3_ n4_ n5_ n6_; clear ho hb hg hat
             refine hK.out _ _ ⟨(blk_cell BK240.out 0).trans rfl, (blk_cell BK240.out 1).trans rfl, (blk_cell BK240.out 2).trans rfl⟩ (fun hHeld => ?_)
             clear hK K
             refine norm_ (a' := ?_) ?_ ?_
             rotate_left
             ·show Act.put _ (some 39) _ = _
              simp only [Act.put, Cmp.s, Cmp.z, Cmp.c, i64_w, i32_w]; rfl
             exact norm_ (by simp only [putAll, Act.put, List.setIfInBounds_toArray, List.set_cons_zero, List.set_cons_succ]) (hCont (v256, v263, v266) _ ⟨hHeld, (by refine Cmp.rr ?_; exact Kd.R_mono HO253.out (fun _ hk => ⟨hk.2, hk.1⟩)), (Cmp.rr HO264.out), (Cmp.rr HO267.out), (Cmp.b BK240.out), (Cmp.b BK241.out), (Cmp.b BK254.out), (Cmp.g HB.out)⟩)
           ·skip
            refine Kd.R_lit_step k83 _ 83 ?hg (N := 43) ?hd (xs := ([(⟨a1, a2, 0, false⟩ : S83)] : List (S83))) (inner := [.int .i64 a1, .int .i64 a2, .int .i64 0, .bool false]) (ok := fun _ => True) (okp := fun _ => True) ?hr ?hp (fun _ hk => hk) trivial (Below.refl _ _) (Nat.le_refl _) (by simp) ?_; (case hd => rfl); (case hg => rfl); (case hr => first | (go_simp; done) | (go_simp; rfl)); (case hp => exact (Reps.c4 (show Kd.M k83 _ _ _ (⟨a1, a2, 0, false⟩ : S83) [.int .i64 a1, .int .i64 a2, .int .i64 0, .bool false] from (k83_mkM _ _ _ (⟨a1, a2, 0, false⟩ : S83) )) (Reps.none _ _)))
            intro v266 w71 ho72 hb hg_ hnew_
            clear hg_ hnew_
            (first | rw [← Ny265.out] at ho72 | (simp only [Int.reduceToNat] at ho72; rw [← Ny265.out] at ho72))
            have n0_ := Aside0.mk (Kd.R_elder' (Cmp.rr HO253.out) (Kd.R_base ho72) hb)
            have n1_ := Aside0.mk (Kd.R_lower (Kd.R_new' ho72 (Kd.R_lt (Cmp.rr HO253.out))) (below_size (Cmp.g HB.out)))
            have n2_ := Aside0.mk (blk_below (Cmp.b BK240.out) hb)
            have n3_ := Aside0.mk (blk_below (Cmp.b BK241.out) hb)
            have n4_ := Aside0.mk (blk_below (Cmp.b BK254.out) hb)
            have n5_ := Aside0.mk (below_step (Cmp.g HB.out) hb)
            clear HO253; clear BK240; clear BK241; clear BK254; clear HB; have HO253 := n0_; have HO267 := n1_; have BK240 := n2_; have BK241 := n3_; have BK254 := n4_; have HB := n5_; clear n0_ n1_ n2_ n3_ n4_ n5_; clear hb ho72
            refine hK.out _ _ ⟨(blk_cell BK240.out 0).trans rfl, (blk_cell BK240.out 1).trans rfl, (blk_cell BK240.out 2).trans rfl⟩ (fun hHeld => ?_)
            clear hK K
            refine norm_ (a' := ?_) ?_ ?_
            rotate_left
            ·show Act.put _ (some 43) _ = _
             simp only [Act.put, Cmp.s, Cmp.z, Cmp.c, i64_w, i32_w]; rfl
            refine one_ (i := 0) (N := some 34) (Cmp.bb 18 31711) rfl rfl (one_of HT_.out (by kernel_rfl)) (by decide) (fun K hK => ?_)
            refine Kd.R_lit_step k83 _ 83 ?hg (N := 34) ?hd (xs := ([] : List (S83))) (inner := []) (ok := fun _ => True) (okp := fun _ => True) ?hr ?hp (fun _ hk => hk) trivial (Below.refl _ _) (Nat.le_refl _) (by simp) ?_; (case hd => rfl); (case hg => rfl); (case hr => first | (go_simp; done) | (go_simp; rfl)); (case hp => exact (Reps.none _ _))
            intro v256 w73 ho74 hb hg_ hnew_
            clear hg_ hnew_
            (first | rw [← Ny255.out] at ho74 | (simp only [Int.reduceToNat] at ho74; rw [← Ny255.out] at ho74))
            have n0_ := Aside0.mk (Kd.R_elder' (Cmp.rr HO253.out) (Kd.R_base ho74) hb)
            have n1_ := Aside0.mk (Kd.R_elder' (Cmp.rr HO267.out) (Kd.R_base ho74) hb)
            have n2_ := Aside0.mk (Kd.R_lower (Kd.R_new' (Kd.R_new' ho74 (Kd.R_lt (Cmp.rr HO253.out))) (Kd.R_lt (Cmp.rr HO267.out))) (below_size (Cmp.g HB.out)))
            have n3_ := Aside0.mk (blk_below (Cmp.b BK240.out) hb)
            have n4_ := Aside0.mk (blk_below (Cmp.b BK241.out) hb)
            have n5_ := Aside0.mk (blk_below (Cmp.b BK254.out) hb)
            have n6_ := Aside0.mk (below_step (Cmp.g HB.out) hb)
            clear HO253; clear HO267; clear BK240; clear BK241; clear BK254; clear HB; have HO253 := n0_; have HO267 := n1_; have HO257 := n2_; have BK240 := n3_; have BK241 := n4_; have BK254 := n5_; have HB := n6_; clear n0_ n1_ n2_ n3_ n4_ n5_ n6_; clear hb ho74
            refine hK.out _ _ ⟨(blk_cell BK240.out 0).trans rfl, (blk_cell BK240.out 1).trans rfl, (blk_cell BK240.out 2).trans rfl⟩ (fun hHeld => ?_)
            clear hK K
            refine norm_ (a' := ?_) ?_ ?_
            rotate_left
            ·show Act.put _ (some 34) _ = _
             simp only [Act.put, Cmp.s, Cmp.z, Cmp.c, i64_w, i32_w]; rfl
            refine one_ (i := 5) (N := some 39) (Cmp.bb 18 31743) rfl rfl (one_of HT_.out (by kernel_rfl)) (by decide) (fun K hK => ?_)
            refine Kd.R_append_rows_step k83 (w0 := w) w.heap.size (by rfl) (.tmp 34) (.tmp 38) 26 83 (.agg #[(.int .i64 0), (.int .i64 0), (.int .i64 0), (.bool false)]) 32 rfl Try.underlying26 info83 rfl (by decide) (by omega) v256 y255 y258 _ _ _ (fun k_ => some k_ ≠ (.slice Ao66 t251.length co66 : Value).ownBlock ∧ some k_ ≠ (v266 : Value).ownBlock) (fun _ => False) rfl rfl ?aO ?aR (fun _ _ h => h) (fun _ h => h.elim) ?aF ?aB ?aS ?aL ?_
            (case aR => repeat (first | exact (Kd.C_below HR261.out HB.out) | (with_reducible refine Kd.C_alloc ?_ _) | (with_reducible refine Kd.C_drewN ?_ _) | (with_reducible refine Kd.C_drew ?_)))
            (case aB => exact (Cmp.g HB.out))
            (case aF => exact (fun k_ hk => ⟨Kd.fresh' (Kd.R_lt (Cmp.rr HO253.out)) k_ hk, Kd.fresh' (Kd.R_lt (Cmp.rr HO267.out)) k_ hk⟩))
            (case aO => exact (by refine Cmp.rr ?_; exact Kd.R_mono HO257.out (fun _ hk => ⟨hk.1.2, hk.2⟩)))
            (case aS => exact (below_size (Cmp.g HB.out)))
            (case aL => have := LMc24.out; omega)
            intro v263 w75 ho hb hg hat
            rw [← Ny262.out] at ho
            have n0_ := Aside0.mk (blk_grown (g := gb240) (o := .cells #[.int .i64 a0_0, .int .i64 a0_1, .slice A0_2 l0_2.length c0_2] 28 (0, 0)) (Cmp.b BK240.out) hg (Kd.R_ne HO257.out BK240.out (by decide)))
            have n1_ := Aside0.mk (blk_grown (g := gb241) (o := .cells #[.int .i64 0, .int .i64 0, .slice none 0 0] 28 (0, 0)) (Cmp.b BK241.out) hg (Kd.R_ne HO257.out BK241.out (by decide)))
            have n2_ := Aside0.mk (Kd.R_after (ok := (fun k_ => some k_ ≠ (v266 : Value).ownBlock)) (by refine Cmp.rr ?_; exact Kd.R_mono HO253.out (fun _ hk => ⟨hk.1.2, hk.2⟩)) hg hat)
            have n3_ := Aside0.mk (blk_grown (g := gb254) (o := .cells #[.int .i64 t249, .int .i64 t250, .slice Ao66 t251.length co66] 28 (0, 0)) (Cmp.b BK254.out) hg (Kd.R_ne HO257.out BK254.out (by decide)))
            have n4_ := Aside0.mk (Kd.R_after (ok := (fun k_ => some k_ ≠ (.slice Ao66 t251.length co66 : Value).ownBlock)) (by refine Cmp.rr ?_; exact Kd.R_mono HO267.out (fun _ hk => ⟨hk.1.2, hk.2⟩)) hg hat)
            have n5_ := Aside0.mk (hb)
            have n6_ := Aside0.mk (ho)
            clear BK240; clear BK241; clear HO253; clear BK254; clear HO267; clear HB; clear HO257; have BK240 := n0_; have BK241 := n1_; have HO253 := n2_; have BK254 := n3_; have HO267 := n4_; have HB := n5_; have HO264 := n6_; clear n0_ n1_ n2_ n3_ n4_ n5_ n6_; clear ho hb hg hat
            refine hK.out _ _ ⟨(blk_cell BK240.out 0).trans rfl, (blk_cell BK240.out 1).trans rfl, (blk_cell BK240.out 2).trans rfl⟩ (fun hHeld => ?_)
            clear hK K
            refine norm_ (a' := ?_) ?_ ?_
            rotate_left
            ·show Act.put _ (some 39) _ = _
             simp only [Act.put, Cmp.s, Cmp.z, Cmp.c, i64_w, i32_w]; rfl
            exact norm_ (by simp only [putAll, Act.put, List.setIfInBounds_toArray, List.set_cons_zero, List.set_cons_succ]) (hCont (v256, v263, v266) _ ⟨hHeld, (by refine Cmp.rr ?_; exact Kd.R_mono HO253.out (fun _ hk => ⟨hk.2, hk.1⟩)), (Cmp.rr HO264.out), (Cmp.rr HO267.out), (Cmp.b BK240.out), (Cmp.b BK241.out), (Cmp.b BK254.out), (Cmp.g HB.out)⟩)
          rintro ⟨v256, v263, v266⟩ w76 ⟨hS_, h0_, h1_, h2_, h3_, h4_, h5_, h6_⟩
          have n0_ : Aside0 (Kd.R k83 83 w76 w.heap.size (fun k_ => some k_ ≠ (v263 : Value).ownBlock ∧ some k_ ≠ (v266 : Value).ownBlock) (.slice Ao66 t251.length co66) t251) := ⟨h0_⟩
          have n1_ : Aside0 (Kd.R k83 83 w76 w.heap.size (fun k_ => some k_ ≠ (.slice Ao66 t251.length co66 : Value).ownBlock ∧ some k_ ≠ (v266 : Value).ownBlock) v263 y262) := ⟨h1_⟩
          have n2_ : Aside0 (Kd.R k83 83 w76 w.heap.size (fun k_ => some k_ ≠ (.slice Ao66 t251.length co66 : Value).ownBlock ∧ some k_ ≠ (v263 : Value).ownBlock) v266 y265) := ⟨h2_⟩
          have n3_ : Aside0 (w76.heap[gb240]? = some (.cells #[.int .i64 a0_0, .int .i64 a0_1, .slice A0_2 l0_2.length c0_2] 28 (0, 0))) := ⟨h3_⟩
          have n4_ : Aside0 (w76.heap[gb241]? = some (.cells #[.int .i64 0, .int .i64 0, .slice none 0 0] 28 (0, 0))) := ⟨h4_⟩
          have n5_ : Aside0 (w76.heap[gb254]? = some (.cells #[.int .i64 t249, .int .i64 t250, .slice Ao66 t251.length co66] 28 (0, 0))) := ⟨h5_⟩
          have n6_ : Aside0 (Below w.heap.size w w76) := ⟨h6_⟩
          clear HO253; clear BK240; clear BK241; clear BK254; clear HB; clear h0_ h1_ h2_ h3_ h4_ h5_ h6_; have HO253 := n0_; have HO264 := n1_; have HO267 := n2_; have BK240 := n3_; have BK241 := n4_; have BK254 := n5_; have HB := n6_; clear n0_ n1_ n2_ n3_ n4_ n5_ n6_
          have hHeld : w76.cell? ⟨gb240, 0, none⟩ = some (.int .i64 a0_0) ∧ w76.cell? ⟨gb240, 1, none⟩ = some (.int .i64 a0_1) ∧ w76.cell? ⟨gb240, 2, none⟩ = some (.slice A0_2 l0_2.length c0_2) := hS_
          obtain ⟨Ao78, co78, eo78⟩ := Kd.R_slice HO267.out
          (first | subst eo78 | (injection eo78 with f1_ f2_ f3_; have f4_ := f1_.symm; have f5_ := f3_.symm; clear f1_ f2_ f3_; subst f4_; subst f5_))
          refine norm_ (a' := ?_) ?_ ?_
          rotate_left
          ·simp only [putAll, Act.put, List.setIfInBounds_toArray, List.set_cons_zero, List.set_cons_succ]; rfl
          refine one_ (i := 10) (N := some 44) (Cmp.bm 15 3) rfl rfl (one_of HT_.out (by kernel_rfl)) (by decide) (fun K hK => ?_)
          refine Kd.R_append_rows_step k83 (w0 := w) w.heap.size (by rfl) (.tmp 39) (.tmp 43) 26 83 (.agg #[(.int .i64 0), (.int .i64 0), (.int .i64 0), (.bool false)]) 32 rfl Try.underlying26 info83 rfl (by decide) (by omega) v263 y262 y265 _ _ _ (fun k_ => some k_ ≠ (.slice Ao66 t251.length co66 : Value).ownBlock ∧ some k_ ≠ (.slice Ao78 y265.length co78 : Value).ownBlock) (fun _ => False) rfl rfl ?aO ?aR (fun _ _ h => h) (fun _ h => h.elim) ?aF ?aB ?aS ?aL ?_
          (case aR => repeat (first | exact (Kd.R_reads' HO267.out).2.2 | (with_reducible refine Kd.C_alloc ?_ _) | (with_reducible refine Kd.C_drewN ?_ _) | (with_reducible refine Kd.C_drew ?_)))
          (case aB => exact (Cmp.g HB.out))
          (case aF => exact (fun k_ hk => ⟨Kd.fresh' (Kd.R_lt (Cmp.rr HO253.out)) k_ hk, Kd.fresh' (Kd.R_lt (Cmp.rr HO267.out)) k_ hk⟩))
          (case aO => exact (Cmp.rr HO264.out))
          (case aS => exact (below_size (Cmp.g HB.out)))
          (case aL => have := LMc25.out; omega)
          intro v269 w77 ho hb hg hat
          rw [← Ny268.out] at ho
          have n0_ := Aside0.mk (blk_grown (g := gb240) (o := .cells #[.int .i64 a0_0, .int .i64 a0_1, .slice A0_2 l0_2.length c0_2] 28 (0, 0)) (Cmp.b BK240.out) hg (Kd.R_ne HO264.out BK240.out (by decide)))
          have n1_ := Aside0.mk (blk_grown (g := gb241) (o := .cells #[.int .i64 0, .int .i64 0, .slice none 0 0] 28 (0, 0)) (Cmp.b BK241.out) hg (Kd.R_ne HO264.out BK241.out (by decide)))
          have n2_ := Aside0.mk (Kd.R_after (ok := (fun k_ => some k_ ≠ (.slice Ao78 y265.length co78 : Value).ownBlock)) (by refine Cmp.rr ?_; exact Kd.R_mono HO253.out (fun _ hk => ⟨hk.2, hk.1⟩)) hg hat)
          have n3_ := Aside0.mk (blk_grown (g := gb254) (o := .cells #[.int .i64 t249, .int .i64 t250, .slice Ao66 t251.length co66] 28 (0, 0)) (Cmp.b BK254.out) hg (Kd.R_ne HO264.out BK254.out (by decide)))
          have n4_ := Aside0.mk (Kd.R_after (ok := (fun k_ => some k_ ≠ (.slice Ao66 t251.length co66 : Value).ownBlock)) (Cmp.rr HO267.out) hg hat)
          have n5_ := Aside0.mk (hb)
          have n6_ := Aside0.mk (ho)
          clear BK240; clear BK241; clear HO253; clear BK254; clear HO267; clear HB; clear HO264; have BK240 := n0_; have BK241 := n1_; have HO253 := n2_; have BK254 := n3_; have HO267 := n4_; have HB := n5_; have HO270 := n6_; clear n0_ n1_ n2_ n3_ n4_ n5_ n6_; clear ho hb hg hat
          refine hK.out _ _ ⟨(blk_cell BK240.out 0).trans rfl, (blk_cell BK240.out 1).trans rfl, (blk_cell BK240.out 2).trans rfl⟩ (fun hHeld => ?_)
          clear hK K
          refine norm_ (a' := ?_) ?_ ?_
          rotate_left
          ·show Act.put _ (some 44) _ = _
           simp only [Act.put, Cmp.s, Cmp.z, Cmp.c, i64_w, i32_w]; rfl
          refine one_ (i := 15) (N := some 49) (Cmp.bm 16 2) rfl rfl (one_of HT_.out (by kernel_rfl)) (by decide) (fun K hK => ?_)
          refine Kd.R_append_rows_step k83 (w0 := w) w.heap.size (by rfl) (.tmp 44) (.tmp 48) 26 83 (.agg #[(.int .i64 0), (.int .i64 0), (.int .i64 0), (.bool false)]) 32 rfl Try.underlying26 info83 rfl (by decide) (by omega) v269 y268 y271 _ _ _ (fun k_ => some k_ ≠ (.slice Ao66 t251.length co66 : Value).ownBlock ∧ some k_ ≠ (.slice Ao78 y265.length co78 : Value).ownBlock) (fun _ => False) rfl rfl ?aO ?aR (fun _ _ h => h) (fun _ h => h.elim) ?aF ?aB ?aS ?aL ?_
          (case aR => repeat (first | exact (Kd.C_below HR274.out HB.out) | (with_reducible refine Kd.C_alloc ?_ _) | (with_reducible refine Kd.C_drewN ?_ _) | (with_reducible refine Kd.C_drew ?_)))
          (case aB => exact (Cmp.g HB.out))
          (case aF => exact (fun k_ hk => ⟨Kd.fresh' (Kd.R_lt (Cmp.rr HO253.out)) k_ hk, Kd.fresh' (Kd.R_lt (Cmp.rr HO267.out)) k_ hk⟩))
          (case aO => exact (Cmp.rr HO270.out))
          (case aS => exact (below_size (Cmp.g HB.out)))
          (case aL => have := LMc28.out; omega)
          intro v276 w79 ho hb hg hat
          rw [← Ny275.out] at ho
          have n0_ := Aside0.mk (blk_grown (g := gb240) (o := .cells #[.int .i64 a0_0, .int .i64 a0_1, .slice A0_2 l0_2.length c0_2] 28 (0, 0)) (Cmp.b BK240.out) hg (Kd.R_ne HO270.out BK240.out (by decide)))
          have n1_ := Aside0.mk (blk_grown (g := gb241) (o := .cells #[.int .i64 0, .int .i64 0, .slice none 0 0] 28 (0, 0)) (Cmp.b BK241.out) hg (Kd.R_ne HO270.out BK241.out (by decide)))
          have n2_ := Aside0.mk (Kd.R_after (ok := (fun k_ => some k_ ≠ (.slice Ao78 y265.length co78 : Value).ownBlock)) (Cmp.rr HO253.out) hg hat)
          have n3_ := Aside0.mk (blk_grown (g := gb254) (o := .cells #[.int .i64 t249, .int .i64 t250, .slice Ao66 t251.length co66] 28 (0, 0)) (Cmp.b BK254.out) hg (Kd.R_ne HO270.out BK254.out (by decide)))
          have n4_ := Aside0.mk (Kd.R_after (ok := (fun k_ => some k_ ≠ (.slice Ao66 t251.length co66 : Value).ownBlock)) (Cmp.rr HO267.out) hg hat)
          have n5_ := Aside0.mk (hb)
          have n6_ := Aside0.mk (ho)
          clear BK240; clear BK241; clear HO253; clear BK254; clear HO267; clear HB; clear HO270; have BK240 := n0_; have BK241 := n1_; have HO253 := n2_; have BK254 := n3_; have HO267 := n4_; have HB := n5_; have HO277 := n6_; clear n0_ n1_ n2_ n3_ n4_ n5_ n6_; clear ho hb hg hat
          obtain ⟨Ao80, co80, eo80⟩ := Kd.R_slice HO277.out
          (first | subst eo80 | (injection eo80 with f1_ f2_ f3_; have f4_ := f1_.symm; have f5_ := f3_.symm; clear f1_ f2_ f3_; subst f4_; subst f5_))
          refine hK.out _ _ ⟨(blk_cell BK240.out 0).trans rfl, (blk_cell BK240.out 1).trans rfl, (blk_cell BK240.out 2).trans rfl⟩ (fun hHeld => ?_)
          clear hK K
          refine norm_ (a' := ?_) ?_ ?_
          rotate_left
          ·show Act.put _ (some 49) _ = _
           simp only [Act.put, Cmp.s, Cmp.z, Cmp.c, i64_w, i32_w]; rfl
          refine Cmp.pu HT_ 16 50 (Cmp.bm 17 1) ?_
          refine one_ (i := 17) (N := none) (Cmp.bm 18 0) rfl rfl (one_of HT_.out (by kernel_rfl)) (by decide) (fun K hK => ?_)
          have hs81 : w79.cell? ⟨gb254, 2, none⟩ = some (.slice Ao66 t251.length co66) := (blk_cell BK254.out 2).trans rfl
          have hfs81 := blk_frozen BK254.out 2; have hns81_0 := NB240_254.out; have hns81_1 := NB241_254.out; have hms81_0 := NB254_240.out; have hms81_1 := NB254_241.out
          refine skip_ (w1 := ?_) (by rfl) rfl ?_ ?_
          rotate_left
          ·go_simp; rfl
          refine hK.out _ _ ⟨((cell_far (p := ⟨gb254, _, none⟩) NB240_254.out _).trans (hHeld.1)), ((cell_far (p := ⟨gb254, _, none⟩) NB240_254.out _).trans (hHeld.2.1)), ((cell_far (p := ⟨gb254, _, none⟩) NB240_254.out _).trans (hHeld.2.2))⟩ (fun hHeld => ?_)
          clear hK K
          refine done_ (done_of HT_.out (by kernel_rfl)) ?_
          have hcz82_0 : w79.cell? ⟨gb254, 0, none⟩ = some (.int .i64 t249) := (blk_cell BK254.out 0).trans rfl
          have hcz82_1 : w79.cell? ⟨gb254, 1, none⟩ = some (.int .i64 t250) := (blk_cell BK254.out 1).trans rfl
          have hcz82_2 : w79.cell? ⟨gb254, 2, none⟩ = some (.slice Ao66 t251.length co66) := (blk_cell BK254.out 2).trans rfl
          have hfz82_0 := blk_frozen BK254.out 0; have hfz82_1 := blk_frozen BK254.out 1; have hfz82_2 := blk_frozen BK254.out 2
          try go_wp2_with (first | ((with_reducible refine gate_callee (f := 49) rfl ?_); refine goesL_ (some 52) rfl rfl Try.func49 (by kernel_rfl) rfl #[.agg #[.int .i64 t249, .int .i64 t250, .slice Ao80 y275.length co80]] rfl Cmp.q ?_; (with_reducible refine (impl_IsValidAccount.calls kj5 t249 t250 _ _ y275 false _ ?side1 ?side2 A29.out).mono ?_); (case side1 => refine (Kd.R_reads' (e := 83) (base := w.heap.size) (ok := fun k_ => (some k_ ≠ (.slice Ao66 t251.length co66 : Value).ownBlock ∧ some k_ ≠ (.slice Ao78 y265.length co78 : Value).ownBlock)) (n := y275.length) (c := co80) ?_).2.2; exact (by refine Cmp.rr ?_; exact (Kd.R_mono (Kd.R_far (p := ⟨gb254, 2, none⟩) (Kd.R_types HO277.out BK254.out (by decide)) (fun _ hk => hk.2) (.slice Ao80 y275.length co80)) (fun _ h_ => h_.1)))); (case side2 => exact (Kd.R_reads' HO277.out).2.1); rintro e w83 ⟨rfl, hb⟩; refine ⟨_, rfl, ?_⟩; have n0_ := Aside0.mk (Kd.R_below (by refine Cmp.rr ?_; exact (Kd.R_mono (Kd.R_far (p := ⟨gb254, 2, none⟩) (Kd.R_types HO253.out BK254.out (by decide)) (fun _ hk => hk.2) (.slice Ao80 y275.length co80)) (fun _ h_ => h_.1))) hb); have n1_ := Aside0.mk (Kd.R_below (by refine Cmp.rr ?_; exact (Kd.R_mono (Kd.R_far (p := ⟨gb254, 2, none⟩) (Kd.R_types HO267.out BK254.out (by decide)) (fun _ hk => hk.2) (.slice Ao80 y275.length co80)) (fun _ h_ => h_.1))) hb); have n2_ := Aside0.mk (Kd.R_below (by refine Cmp.rr ?_; exact (Kd.R_mono (Kd.R_far (p := ⟨gb254, 2, none⟩) (Kd.R_types HO277.out BK254.out (by decide)) (fun _ hk => hk.2) (.slice Ao80 y275.length co80)) (fun _ h_ => h_.1))) hb); have n3_ := Aside0.mk (blk_below (g := gb240) (o := .cells #[.int .i64 a0_0, .int .i64 a0_1, .slice A0_2 l0_2.length c0_2] 28 (0, 0)) (by refine Cmp.b ?_; refine blk_far ?_ NB240_254.out _; refine Cmp.b ?_; exact BK240.out) hb); have n4_ := Aside0.mk (blk_below (g := gb241) (o := .cells #[.int .i64 0, .int .i64 0, .slice none 0 0] 28 (0, 0)) (by refine Cmp.b ?_; refine blk_far ?_ NB241_254.out _; refine Cmp.b ?_; exact BK241.out) hb); have n5_ := Aside0.mk (blk_below (g := gb254) (o := .cells #[.int .i64 t249, .int .i64 t250, .slice Ao80 y275.length co80] 28 (0, 0)) (by refine Cmp.b ?_; refine blk_put (cs := #[.int .i64 t249, .int .i64 t250, .slice Ao66 t251.length co66]) ?_ 2 _ rfl; refine Cmp.b ?_; exact BK254.out) hb); have n6_ := Aside0.mk (below_step (Cmp.g HB.out) hb); clear HO253; clear HO267; clear HO277; clear BK240; clear BK241; clear BK254; clear HB; have HO253 := n0_; have HO267 := n1_; have HO277 := n2_; have BK240 := n3_; have BK241 := n4_; have BK254 := n5_; have HB := n6_; clear n0_ n1_ n2_ n3_ n4_ n5_ n6_; (try clear hb); (try clear hb2); (try clear hk); (try clear hi); have hcz84_0 : w83.cell? ⟨gb240, 0, none⟩ = some (.int .i64 a0_0) := (blk_cell BK240.out 0).trans rfl; have hcz84_1 : w83.cell? ⟨gb240, 1, none⟩ = some (.int .i64 a0_1) := (blk_cell BK240.out 1).trans rfl; have hcz84_2 : w83.cell? ⟨gb240, 2, none⟩ = some (.slice A0_2 l0_2.length c0_2) := (blk_cell BK240.out 2).trans rfl; have hfz84_0 := blk_frozen BK240.out 0; have hfz84_1 := blk_frozen BK240.out 1; have hfz84_2 := blk_frozen BK240.out 2) | ((with_reducible refine gate_callee (f := 48) rfl ?_); refine goesL_ (some 55) rfl rfl Try.func48 (by kernel_rfl) rfl #[.agg #[.int .i64 a0_0, .int .i64 a0_1, .slice A0_2 l0_2.length c0_2]] rfl Cmp.q ?_; (with_reducible refine (impl_copyAccount.calls a0_0 a0_1 _ _ l0_2 t279 t280 t281 _ ?side1 ?side2 A58.out).mono ?_); (case side1 => exact Cmp.rc (Kd.C_below HR0_2.out HB.out)); (case side2 => exact HC0_2.out); rintro e w85 ⟨v282, rfl, ho0, hb⟩; refine ⟨_, rfl, ?_⟩; have n0_ := Aside0.mk (Kd.R_elder' (Cmp.rr HO253.out) (Kd.R_base ho0) hb); have n1_ := Aside0.mk (Kd.R_elder' (Cmp.rr HO267.out) (Kd.R_base ho0) hb); have n2_ := Aside0.mk (Kd.R_elder' (Cmp.rr HO277.out) (Kd.R_base ho0) hb); have n3_ := Aside0.mk (Kd.R_lower (Kd.R_new' (Kd.R_new' (Kd.R_new' ho0 (Kd.R_lt (Cmp.rr HO253.out))) (Kd.R_lt (Cmp.rr HO267.out))) (Kd.R_lt (Cmp.rr HO277.out))) (below_size (Cmp.g HB.out))); have n4_ := Aside0.mk (blk_below (Cmp.b BK240.out) hb); have n5_ := Aside0.mk (blk_below (Cmp.b BK241.out) hb); have n6_ := Aside0.mk (blk_below (Cmp.b BK254.out) hb); have n7_ := Aside0.mk (below_step (Cmp.g HB.out) hb); clear HO253; clear HO267; clear HO277; clear BK240; clear BK241; clear BK254; clear HB; have HO253 := n0_; have HO267 := n1_; have HO277 := n2_; have HO283 := n3_; have BK240 := n4_; have BK241 := n5_; have BK254 := n6_; have HB := n7_; clear n0_ n1_ n2_ n3_ n4_ n5_ n6_ n7_; (try clear hb); (try clear hb2); (try clear hk); (try clear hi); (try clear ho0); have hcz86_0 : w85.cell? ⟨gb241, 0, none⟩ = some (.int .i64 0) := (blk_cell BK241.out 0).trans rfl; have hcz86_1 : w85.cell? ⟨gb241, 1, none⟩ = some (.int .i64 0) := (blk_cell BK241.out 1).trans rfl; have hcz86_2 : w85.cell? ⟨gb241, 2, none⟩ = some (.slice none 0 0) := (blk_cell BK241.out 2).trans rfl; have hfz86_0 := blk_frozen BK241.out 0; have hfz86_1 := blk_frozen BK241.out 1; have hfz86_2 := blk_frozen BK241.out 2; obtain ⟨Ao87, co87, eo87⟩ := Kd.R_slice HO283.out; subst eo87))
          refine bodyPost_ret (results_ct rfl _ _ gb241 28 #[.int .i64 t279, .int .i64 t280, .slice Ao87 t281.length co87] (0, 0) _ rfl (by refine Cmp.b ?_; refine blk_put (cs := #[.int .i64 t279, .int .i64 t280, .slice none 0 0]) ?_ 2 _ rfl; refine Cmp.b ?_; refine blk_put (cs := #[.int .i64 t279, .int .i64 0, .slice none 0 0]) ?_ 1 _ rfl; refine Cmp.b ?_; refine blk_put (cs := #[.int .i64 0, .int .i64 0, .slice none 0 0]) ?_ 0 _ rfl; refine Cmp.b ?_; exact BK241.out) Try.underlying28 rfl (by kernel_rfl)) rfl ?_
          exact ⟨_, by first | rfl | (simp [errW_none, errW_some] <;> rfl) | (simp [*, errW_none, errW_some] <;> rfl), by refine Cmp.rr ?_; exact Kd.R_mono (Kd.R_far (p := ⟨gb241, 2, none⟩) (Kd.R_far (p := ⟨gb241, 1, none⟩) (Kd.R_far (p := ⟨gb241, 0, none⟩) (Kd.R_types HO283.out BK241.out (by decide)) (fun _ hk => hk.2) (.int .i64 t279)) (fun _ hk => hk.2) (.int .i64 t280)) (fun _ hk => hk.2) (.slice Ao87 t281.length co87)) (fun _ hk => trivial), Cmp.g HB.out⟩
        ·rw [if_neg c28] at H; exact absurd H (by simp)
       ·rw [if_neg c25] at H; exact absurd H (by simp)
      ·rw [if_neg c24] at H; exact absurd H (by simp)
     ·rw [if_neg c23] at H; exact absurd H (by simp)
    ·rw [if_neg c22] at H; exact absurd H (by simp)
 ·replace c5 := Bool.eq_false_iff.mpr c5
  subst c5
  have H1 : ((impl_copyAccount.f a0_0 a0_1 l0_2).bind fun bt243 => (some (bt243.1, bt243.2.1, bt243.2.2, false))) = some (r1, r2, r3, r4) := by rw [if_neg (show ¬ (false = true) by decide)] at H; exact H
  clear H; have H := H1; clear H1; replace H := Option.bind_eq_some_iff.mp H; obtain ⟨⟨t243, t244, t245⟩, A880, H⟩ := H; (try dsimp only at H); have A88 := Aside0.mk A880; clear A880
  simp only [Option.some.injEq, Prod.mk.injEq] at H
  obtain ⟨rfl, rfl, rfl, rfl⟩ := H
  go_enter Try.func17, Try.ntmps17
  go_wp2_with (first | ((with_reducible refine gate_dst (N := 3) rfl ?_); refine box_event (by rfl) (N := 3) (by rfl) (cs := #[.int .i64 a0_0, .int .i64 a0_1, .slice A0_2 l0_2.length c0_2]) (t := 28) (by first | (go_simp; done) | (go_simp; rfl)) ?_; intro gb240 hg w89 hbox hb; have n0_ := Aside0.mk (below_step (Cmp.g HB.out) hb); have n1_ := Aside0.mk (hbox); have n2_ := Aside0.mk ((by rw [hg]; exact (below_size (Cmp.g HB.out)) : w.heap.size ≤ gb240)); have n3_ := Aside0.mk ((by rw [hg]; exact (below_size (Cmp.g HB.out)) : w.heap.size ≤ gb240)); clear HB; have HB := n0_; have BK240 := n1_; have GW240 := n2_; have GE240 := n3_; clear n0_ n1_ n2_ n3_; clear hb hbox hg) | ((with_reducible refine gate_dst (N := 6) rfl ?_); refine box_event (by rfl) (N := 6) (by rfl) (cs := #[.int .i64 0, .int .i64 0, .slice none 0 0]) (t := 28) (by first | (go_simp; done) | (go_simp; rfl)) ?_; intro gb241 hg w90 hbox hb; have n0_ := Aside0.mk (blk_below (Cmp.b BK240.out) hb); have n1_ := Aside0.mk (below_step (Cmp.g HB.out) hb); have n2_ := Aside0.mk (hbox); have n3_ := Aside0.mk ((by rw [hg]; exact (below_size (Cmp.g HB.out)) : w.heap.size ≤ gb241)); have n4_ := Aside0.mk ((by rw [hg]; exact (below_size (Cmp.g HB.out)) : w.heap.size ≤ gb241)); have n5_ := Aside0.mk ((by rw [hg]; exact Nat.ne_of_lt (blk_lt (Cmp.b BK240.out)) : gb240 ≠ gb241)); have n6_ := Aside0.mk ((by rw [hg]; exact Nat.ne_of_gt (blk_lt (Cmp.b BK240.out)) : gb241 ≠ gb240)); clear BK240; clear HB; have BK240 := n0_; have HB := n1_; have BK241 := n2_; have GW241 := n3_; have GE241 := n4_; have NB240_241 := n5_; have NB241_240 := n6_; clear n0_ n1_ n2_ n3_ n4_ n5_ n6_; clear hb hbox hg; have hnb91 := NB240_241.out; have hnc91 := NB241_240.out; have hcz92_0 : w90.cell? ⟨gb240, 0, none⟩ = some (.int .i64 a0_0) := (blk_cell BK240.out 0).trans rfl; have hcz92_1 : w90.cell? ⟨gb240, 1, none⟩ = some (.int .i64 a0_1) := (blk_cell BK240.out 1).trans rfl; have hcz92_2 : w90.cell? ⟨gb240, 2, none⟩ = some (.slice A0_2 l0_2.length c0_2) := (blk_cell BK240.out 2).trans rfl; have hfz92_0 := blk_frozen BK240.out 0; have hfz92_1 := blk_frozen BK240.out 1; have hfz92_2 := blk_frozen BK240.out 2) | ((with_reducible refine gate_callee (f := 49) rfl ?_); refine goesL_ (some 11) rfl rfl Try.func49 (by kernel_rfl) rfl #[.agg #[.int .i64 a0_0, .int .i64 a0_1, .slice A0_2 l0_2.length c0_2]] rfl Cmp.q ?_; (with_reducible refine (impl_IsValidAccount.calls k a0_0 a0_1 _ _ l0_2 false _ ?side1 ?side2 A4.out).mono ?_); (case side1 => exact Cmp.rc (Kd.C_below HR0_2.out HB.out)); (case side2 => exact HC0_2.out); rintro e w93 ⟨rfl, hb⟩; refine ⟨_, rfl, ?_⟩; have n0_ := Aside0.mk (blk_below (Cmp.b BK240.out) hb); have n1_ := Aside0.mk (blk_below (Cmp.b BK241.out) hb); have n2_ := Aside0.mk (below_step (Cmp.g HB.out) hb); clear BK240; clear BK241; clear HB; have BK240 := n0_; have BK241 := n1_; have HB := n2_; clear n0_ n1_ n2_; (try clear hb); (try clear hb2); (try clear hk); (try clear hi); have hcz94_0 : w93.cell? ⟨gb240, 0, none⟩ = some (.int .i64 a0_0) := (blk_cell BK240.out 0).trans rfl; have hcz94_1 : w93.cell? ⟨gb240, 1, none⟩ = some (.int .i64 a0_1) := (blk_cell BK240.out 1).trans rfl; have hcz94_2 : w93.cell? ⟨gb240, 2, none⟩ = some (.slice A0_2 l0_2.length c0_2) := (blk_cell BK240.out 2).trans rfl; have hfz94_0 := blk_frozen BK240.out 0; have hfz94_1 := blk_frozen BK240.out 1; have hfz94_2 := blk_frozen BK240.out 2) | ((with_reducible refine gate_callee (f := 48) rfl ?_); refine goesL_ (some 14) rfl rfl Try.func48 (by kernel_rfl) rfl #[.agg #[.int .i64 a0_0, .int .i64 a0_1, .slice A0_2 l0_2.length c0_2]] rfl Cmp.q ?_; (with_reducible refine (impl_copyAccount.calls a0_0 a0_1 _ _ l0_2 t243 t244 t245 _ ?side1 ?side2 A88.out).mono ?_); (case side1 => exact Cmp.rc (Kd.C_below HR0_2.out HB.out)); (case side2 => exact HC0_2.out); rintro e w95 ⟨v246, rfl, ho0, hb⟩; refine ⟨_, rfl, ?_⟩; have n0_ := Aside0.mk (Kd.R_lower ho0 (below_size (Cmp.g HB.out))); have n1_ := Aside0.mk (blk_below (Cmp.b BK240.out) hb); have n2_ := Aside0.mk (blk_below (Cmp.b BK241.out) hb); have n3_ := Aside0.mk (below_step (Cmp.g HB.out) hb); clear BK240; clear BK241; clear HB; have HO247 := n0_; have BK240 := n1_; have BK241 := n2_; have HB := n3_; clear n0_ n1_ n2_ n3_; (try clear hb); (try clear hb2); (try clear hk); (try clear hi); (try clear ho0); have hcz96_0 : w95.cell? ⟨gb241, 0, none⟩ = some (.int .i64 0) := (blk_cell BK241.out 0).trans rfl; have hcz96_1 : w95.cell? ⟨gb241, 1, none⟩ = some (.int .i64 0) := (blk_cell BK241.out 1).trans rfl; have hcz96_2 : w95.cell? ⟨gb241, 2, none⟩ = some (.slice none 0 0) := (blk_cell BK241.out 2).trans rfl; have hfz96_0 := blk_frozen BK241.out 0; have hfz96_1 := blk_frozen BK241.out 1; have hfz96_2 := blk_frozen BK241.out 2; obtain ⟨Ao97, co97, eo97⟩ := Kd.R_slice HO247.out; subst eo97))
  refine bodyPost_ret (results_ct rfl _ _ gb241 28 #[.int .i64 t243, .int .i64 t244, .slice Ao97 t245.length co97] (0, 0) _ rfl (by refine Cmp.b ?_; refine blk_put (cs := #[.int .i64 t243, .int .i64 t244, .slice none 0 0]) ?_ 2 _ rfl; refine Cmp.b ?_; refine blk_put (cs := #[.int .i64 t243, .int .i64 0, .slice none 0 0]) ?_ 1 _ rfl; refine Cmp.b ?_; refine blk_put (cs := #[.int .i64 0, .int .i64 0, .slice none 0 0]) ?_ 0 _ rfl; refine Cmp.b ?_; exact BK241.out) Try.underlying28 rfl (by kernel_rfl)) rfl ?_
  exact ⟨_, by first | rfl | (simp [errW_none, errW_some] <;> rfl) | (simp [*, errW_none, errW_some] <;> rfl), by refine Cmp.rr ?_; exact Kd.R_mono (Kd.R_far (p := ⟨gb241, 2, none⟩) (Kd.R_far (p := ⟨gb241, 1, none⟩) (Kd.R_far (p := ⟨gb241, 0, none⟩) (Kd.R_types HO247.out BK241.out (by decide)) (fun _ hk => hk.2) (.int .i64 t243)) (fun _ hk => hk.2) (.int .i64 t244)) (fun _ hk => hk.2) (.slice Ao97 t245.length co97)) (fun _ hk => trivial), Cmp.g HB.out⟩

end Go.Proofs.Ytoffbjjkegeccaa.PFnExactAddCredential

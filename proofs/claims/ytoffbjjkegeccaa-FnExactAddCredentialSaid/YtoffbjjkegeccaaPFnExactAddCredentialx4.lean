/- Printed functions of the program, out of print.sh, told more shortly. No condition. -/
import Derived.Test.YtoffbjjkegeccaaCmp
import Derived.Test.YtoffbjjkegeccaaPFnExactAddCredentialx0
import Derived.Test.YtoffbjjkegeccaaPFnExactAddCredentialx2
import Derived.Test.YtoffbjjkegeccaaPFnExactAddCredentialx3
namespace Go.Proofs.Ytoffbjjkegeccaa.PFnExactAddCredential
open Go.Proofs.Ytoffbjjkegeccaa
open Go.RowKit Go.Proofs.YtoffbjjkegeccaaW.PrintWords Go.Proofs.YtoffbjjkegeccaaW.PrintLast Go.Proofs.YtoffbjjkegeccaaW.PrintMore
attribute [local go_sem] max2_int min2_int max_two min_two max_three min_three max_four min_four   -- for this text's walks alone
set_option linter.unusedVariables false
set_option linter.unusedSimpArgs false

/-! ### spec_AddCredential: function 16 -/
mutual
def spec_AddCredential.j1 : Nat → Int → Int → Int → Int → Int → List (S83) → Int → Int → List (S83) → Option (Int × Int × (List (S83)) × Bool)
  | 0, _, _, _, _, _, _, _, _, _ => none
  | k + 1, x1, x2, x9, x169000, x169001, x169002, x176000, x176001, x176002 => (some (([] : List (S83)) : List (S83))).bind fun y177 => (if 0 ≤ x9 then (if x9 ≤ (x169002.length : Int) then ((some (x169002.take (x9 : Int).toNat : List (S83))).bind fun y180 => (if y177.length + y180.length < 4398046511104 then ((some (y177 ++ y180 : List (S83))).bind fun y184 => ((some (([(⟨x1, x2, 0, false⟩ : S83)] : List (S83)) : List (S83))).bind fun y187 => (if y184.length + y187.length < 4398046511104 then ((some (y184 ++ y187 : List (S83))).bind fun y190 => ((some (x169002.drop (x9 : Int).toNat : List (S83))).bind fun y193 => (if y190.length + y193.length < 4398046511104 then ((some (y190 ++ y193 : List (S83))).bind fun y197 => ((spec_IsValidAccount.f k x169000 x169001 x169002).bind fun t200 => (if t200 = true then ((spec_IsValidAccount.f k x176000 x176001 y197).bind fun t201 => (if t201 = true then (some (x176000, x176001, y197, true)) else ((spec_l14Copy.f x169000 x169001 x169002).bind fun bt202 => (some (bt202.1, bt202.2.1, bt202.2.2, false))))) else ((spec_l14Copy.f x169000 x169001 x169002).bind fun bt207 => (some (bt207.1, bt207.2.1, bt207.2.2, false)))))) else (none)))) else (none)))) else (none))) else (none)) else (none))
def spec_AddCredential.l0 : Nat → Int → Int → Int → Int → Int → List (S83) → Int → Int → List (S83) → Option (Int × Int × (List (S83)) × Bool)
  | 0, _, _, _, _, _, _, _, _, _ => none
  | k + 1, x1, x2, x9, x169000, x169001, x169002, x176000, x176001, x176002 => if x9 < (x169002.length : Int) then (if 0 ≤ x9 then (if ((rd_T83 x169002 x9).f0) < x1 then (spec_AddCredential.l0 k x1 x2 (wrap64 (x9 + 1)) x169000 x169001 x169002 x176000 x176001 x176002) else (spec_AddCredential.j1 k x1 x2 x9 x169000 x169001 x169002 x176000 x176001 x176002)) else (none)) else (spec_AddCredential.j1 k x1 x2 x9 x169000 x169001 x169002 x176000 x176001 x176002)
end
def spec_AddCredential.f (k : Nat) (a0_0 : Int) (a0_1 : Int) (l0_2 : List (S83)) (a1 : Int) (a2 : Int) : Option (Int × Int × (List (S83)) × Bool) := (spec_l14Copy.f a0_0 a0_1 l0_2).bind fun bt170 => (spec_AddCredential.l0 k a1 a2 0 a0_0 a0_1 l0_2 bt170.1 bt170.2.1 bt170.2.2)
theorem spec_AddCredential.mono_l : ∀ k, (∀ y0 y1 y2 y3 y4 y5 y6 y7 y8, LeO (spec_AddCredential.j1 k y0 y1 y2 y3 y4 y5 y6 y7 y8) (spec_AddCredential.j1 (k + 1) y0 y1 y2 y3 y4 y5 y6 y7 y8)) ∧ (∀ y0 y1 y2 y3 y4 y5 y6 y7 y8, LeO (spec_AddCredential.l0 k y0 y1 y2 y3 y4 y5 y6 y7 y8) (spec_AddCredential.l0 (k + 1) y0 y1 y2 y3 y4 y5 y6 y7 y8))
  | 0 => ⟨fun _ _ _ _ _ _ _ _ _ r h => by simp [spec_AddCredential.j1] at h, fun _ _ _ _ _ _ _ _ _ r h => by simp [spec_AddCredential.l0] at h⟩
  | k + 1 => by
    obtain ⟨ih0, ih1⟩ := spec_AddCredential.mono_l k
    refine ⟨?_, ?_⟩
    · intro y0 y1 y2 y3 y4 y5 y6 y7 y8
      unfold spec_AddCredential.j1
      repeat' first
      | (with_reducible exact ih0 _ _ _ _ _ _ _ _ _)
      | (with_reducible exact ih1 _ _ _ _ _ _ _ _ _)
      | (with_reducible exact spec_IsValidAccount.mono _ _ _ _)
      | (with_reducible exact LeO.refl _)
      | (with_reducible exact LeO.none _)
      | (with_reducible refine LeO.ite ?_ ?_)
      | (with_reducible refine LeO.bind ?_ (fun _ => ?_))
      | exact ih0 _ _ _ _ _ _ _ _ _
      | exact ih1 _ _ _ _ _ _ _ _ _
      | exact spec_IsValidAccount.mono _ _ _ _
      | exact LeO.none _
      | refine LeO.ite ?_ ?_
      | refine LeO.bind ?_ (fun _ => ?_)
    · intro y0 y1 y2 y3 y4 y5 y6 y7 y8
      unfold spec_AddCredential.l0
      repeat' first
      | (with_reducible exact ih0 _ _ _ _ _ _ _ _ _)
      | (with_reducible exact ih1 _ _ _ _ _ _ _ _ _)
      | (with_reducible exact spec_IsValidAccount.mono _ _ _ _)
      | (with_reducible exact LeO.refl _)
      | (with_reducible exact LeO.none _)
      | (with_reducible refine LeO.ite ?_ ?_)
      | (with_reducible refine LeO.bind ?_ (fun _ => ?_))
      | exact ih0 _ _ _ _ _ _ _ _ _
      | exact ih1 _ _ _ _ _ _ _ _ _
      | exact spec_IsValidAccount.mono _ _ _ _
      | exact LeO.none _
      | refine LeO.ite ?_ ?_
      | refine LeO.bind ?_ (fun _ => ?_)
theorem spec_AddCredential.mono : ∀ a0 a1 a2 a3 a4 k, LeO (spec_AddCredential.f k a0 a1 a2 a3 a4) (spec_AddCredential.f (k + 1) a0 a1 a2 a3 a4) := by
  intro a0 a1 a2 a3 a4 k
  obtain ⟨ih0, ih1⟩ := spec_AddCredential.mono_l k
  unfold spec_AddCredential.f
  repeat' first
      | (with_reducible exact ih0 _ _ _ _ _ _ _ _ _)
      | (with_reducible exact ih1 _ _ _ _ _ _ _ _ _)
      | (with_reducible exact spec_IsValidAccount.mono _ _ _ _)
      | (with_reducible exact LeO.refl _)
      | (with_reducible exact LeO.none _)
      | (with_reducible refine LeO.ite ?_ ?_)
      | (with_reducible refine LeO.bind ?_ (fun _ => ?_))
      | exact ih0 _ _ _ _ _ _ _ _ _
      | exact ih1 _ _ _ _ _ _ _ _ _
      | exact spec_IsValidAccount.mono _ _ _ _
      | exact LeO.none _
      | refine LeO.ite ?_ ?_
      | refine LeO.bind ?_ (fun _ => ?_)
def spec_AddCredential.T5 : Bool × List (List Nat × List Nat) := (true, [([], []), ([], []), ([1], [1]), ([], []), ([2, 3], [2, 3]), ([0, 4], [0, 4]), ([], []), ([], []), ([6, 7], [6, 7]), ([8], [8]), ([5, 9, 5], [5, 9]), ([], []), ([11], [11]), ([], []), ([12, 13], [12, 13]), ([10, 14, 10], [10, 14]), ([0, 1, 2, 3, 4, 5, 6, 7, 8, 9, 10, 11, 12, 13, 14, 15], []), ([16, 15, 15, 0, 1, 2, 3, 4, 5, 6, 7, 8, 9, 10, 11, 12, 13, 14, 15], [15, 16])])
def spec_AddCredential.B5 : List Nat := [0, 0, 2, 0, 14, 31, 0, 0, 192, 448, 1023, 0, 2048, 0, 14336, 32767, 65535, 131071]
theorem spec_AddCredential.tab5 : rtab .any (opsOf Try.f16 5) = spec_AddCredential.T5 := by kernel_rfl
theorem spec_AddCredential.bits5 : waitsOk spec_AddCredential.T5.2 spec_AddCredential.B5 = true := by kernel_rfl
set_option maxHeartbeats 8000000 in
set_option maxRecDepth 100000 in
theorem spec_AddCredential.calls (k : Nat) (a0_0 : Int) (a0_1 : Int) (A0_2 : Option Addr) (c0_2 : Nat) (l0_2 : List (S83)) (a1 : Int) (a2 : Int) (r1 : Int) (r2 : Int) (r3 : List (S83)) (r4 : Bool) (w : World) (hr0_2 : Kd.C k83 w A0_2 l0_2.length l0_2) (hc0_2 : l0_2.length ≤ c0_2) (h : spec_AddCredential.f k a0_0 a0_1 l0_2 a1 a2 = some (r1, r2, r3, r4)) :
    Calls Try.prog 16 #[.agg #[.int .i64 a0_0, .int .i64 a0_1, .slice A0_2 l0_2.length c0_2], .int .i64 a1, .int .i64 a2] w fun e w' => ∃ v2_ : Value, e = .returned (.tuple #[.agg #[.int .i64 r1, .int .i64 r2, v2_], .bool r4]) ∧ Kd.R k83 83 w' w.heap.size (fun _ => True) v2_ r3 ∧ Below w.heap.size w w' := by
 have hu28 := Try.underlying28; have hu83 := Try.underlying83; have HR0_2 := Aside0.mk hr0_2; have HC0_2 := Aside0.mk hc0_2; clear hr0_2 hc0_2
 have HB := Aside0.mk (Below.refl w.heap.size w)
 have H : ((spec_l14Copy.f a0_0 a0_1 l0_2).bind fun bt170 => (spec_AddCredential.l0 k a1 a2 0 a0_0 a0_1 l0_2 bt170.1 bt170.2.1 bt170.2.2)) = some (r1, r2, r3, r4) := h
 clear h; replace H := Option.bind_eq_some_iff.mp H; obtain ⟨⟨t170, t171, t172⟩, A40, H⟩ := H; (try dsimp only at H); have A4 := Aside0.mk A40; clear A40; have HC5 := Aside0.mk H; clear H
 go_enter Try.func16, Try.ntmps16
 go_upto_block 0 with (first | ((with_reducible refine gate_dst (N := 3) rfl ?_); refine box_event (by rfl) (N := 3) (by rfl) (cs := #[.int .i64 a0_0, .int .i64 a0_1, .slice A0_2 l0_2.length c0_2]) (t := 28) (by first | (go_simp; done) | (go_simp; rfl)) ?_; intro gb168 hg w6 hbox hb; have n0_ := Aside0.mk (below_step (Cmp.g HB.out) hb); have n1_ := Aside0.mk (hbox); have n2_ := Aside0.mk ((by rw [hg]; exact (below_size (Cmp.g HB.out)) : w.heap.size ≤ gb168)); have n3_ := Aside0.mk ((by rw [hg]; exact (below_size (Cmp.g HB.out)) : w.heap.size ≤ gb168)); clear HB; have HB := n0_; have BK168 := n1_; have GW168 := n2_; have GE168 := n3_; clear n0_ n1_ n2_ n3_; clear hb hbox hg) | ((with_reducible refine gate_dst (N := 6) rfl ?_); refine box_event (by rfl) (N := 6) (by rfl) (cs := #[.int .i64 0, .int .i64 0, .slice none 0 0]) (t := 28) (by first | (go_simp; done) | (go_simp; rfl)) ?_; intro gb169 hg w7 hbox hb; have n0_ := Aside0.mk (blk_below (Cmp.b BK168.out) hb); have n1_ := Aside0.mk (below_step (Cmp.g HB.out) hb); have n2_ := Aside0.mk (hbox); have n3_ := Aside0.mk ((by rw [hg]; exact (below_size (Cmp.g HB.out)) : w.heap.size ≤ gb169)); have n4_ := Aside0.mk ((by rw [hg]; exact (below_size (Cmp.g HB.out)) : w.heap.size ≤ gb169)); have n5_ := Aside0.mk ((by rw [hg]; exact Nat.ne_of_lt (blk_lt (Cmp.b BK168.out)) : gb168 ≠ gb169)); have n6_ := Aside0.mk ((by rw [hg]; exact Nat.ne_of_gt (blk_lt (Cmp.b BK168.out)) : gb169 ≠ gb168)); clear BK168; clear HB; have BK168 := n0_; have HB := n1_; have BK169 := n2_; have GW169 := n3_; have GE169 := n4_; have NB168_169 := n5_; have NB169_168 := n6_; clear n0_ n1_ n2_ n3_ n4_ n5_ n6_; clear hb hbox hg; have hnb8 := NB168_169.out; have hnc8 := NB169_168.out; have hcz9_0 : w7.cell? ⟨gb168, 0, none⟩ = some (.int .i64 a0_0) := (blk_cell BK168.out 0).trans rfl; have hcz9_1 : w7.cell? ⟨gb168, 1, none⟩ = some (.int .i64 a0_1) := (blk_cell BK168.out 1).trans rfl; have hcz9_2 : w7.cell? ⟨gb168, 2, none⟩ = some (.slice A0_2 l0_2.length c0_2) := (blk_cell BK168.out 2).trans rfl; have hfz9_0 := blk_frozen BK168.out 0; have hfz9_1 := blk_frozen BK168.out 1; have hfz9_2 := blk_frozen BK168.out 2) | ((with_reducible refine gate_callee (f := 44) rfl ?_); refine goesL_ (some 11) rfl rfl Try.func44 (by kernel_rfl) rfl #[.agg #[.int .i64 a0_0, .int .i64 a0_1, .slice A0_2 l0_2.length c0_2]] rfl Cmp.q ?_; (with_reducible refine (spec_l14Copy.calls a0_0 a0_1 _ _ l0_2 t170 t171 t172 _ ?side1 ?side2 A4.out).mono ?_); (case side1 => exact Cmp.rc (Kd.C_below HR0_2.out HB.out)); (case side2 => exact HC0_2.out); rintro e w10 ⟨v173, rfl, ho0, hb⟩; refine ⟨_, rfl, ?_⟩; have n0_ := Aside0.mk (Kd.R_lower ho0 (below_size (Cmp.g HB.out))); have n1_ := Aside0.mk (blk_below (Cmp.b BK168.out) hb); have n2_ := Aside0.mk (blk_below (Cmp.b BK169.out) hb); have n3_ := Aside0.mk (below_step (Cmp.g HB.out) hb); clear BK168; clear BK169; clear HB; have HO174 := n0_; have BK168 := n1_; have BK169 := n2_; have HB := n3_; clear n0_ n1_ n2_ n3_; (try clear hb); (try clear hb2); (try clear hk); (try clear hi); (try clear ho0)) | ((with_reducible refine gate_dst (N := 8) rfl ?_); refine box_event (by rfl) (N := 8) (by rfl) (cs := #[.int .i64 0, .int .i64 0, .slice none 0 0]) (t := 28) (by first | (go_simp; done) | (go_simp; rfl)) ?_; intro gb175 hg w11 hbox hb; have n0_ := Aside0.mk (Kd.R_below (Cmp.rr HO174.out) hb); have n1_ := Aside0.mk (blk_below (Cmp.b BK168.out) hb); have n2_ := Aside0.mk (blk_below (Cmp.b BK169.out) hb); have n3_ := Aside0.mk (below_step (Cmp.g HB.out) hb); have n4_ := Aside0.mk (hbox); have n5_ := Aside0.mk ((by rw [hg]; exact (below_size (Cmp.g HB.out)) : w.heap.size ≤ gb175)); have n6_ := Aside0.mk ((by rw [hg]; exact (below_size (Cmp.g HB.out)) : w.heap.size ≤ gb175)); have n7_ := Aside0.mk ((by rw [hg]; exact Nat.ne_of_lt (blk_lt (Cmp.b BK168.out)) : gb168 ≠ gb175)); have n8_ := Aside0.mk ((by rw [hg]; exact Nat.ne_of_gt (blk_lt (Cmp.b BK168.out)) : gb175 ≠ gb168)); have n9_ := Aside0.mk ((by rw [hg]; exact Nat.ne_of_lt (blk_lt (Cmp.b BK169.out)) : gb169 ≠ gb175)); have n10_ := Aside0.mk ((by rw [hg]; exact Nat.ne_of_gt (blk_lt (Cmp.b BK169.out)) : gb175 ≠ gb169)); clear HO174; clear BK168; clear BK169; clear HB; have HO174 := n0_; have BK168 := n1_; have BK169 := n2_; have HB := n3_; have BK175 := n4_; have GW175 := n5_; have GE175 := n6_; have NB168_175 := n7_; have NB175_168 := n8_; have NB169_175 := n9_; have NB175_169 := n10_; clear n0_ n1_ n2_ n3_ n4_ n5_ n6_ n7_ n8_ n9_ n10_; clear hb hbox hg; have hnb12 := NB175_168.out; have hnc12 := NB168_175.out; have hnb13 := NB175_169.out; have hnc13 := NB169_175.out; have hcz14_0 : w11.cell? ⟨gb175, 0, none⟩ = some (.int .i64 0) := (blk_cell BK175.out 0).trans rfl; have hcz14_1 : w11.cell? ⟨gb175, 1, none⟩ = some (.int .i64 0) := (blk_cell BK175.out 1).trans rfl; have hcz14_2 : w11.cell? ⟨gb175, 2, none⟩ = some (.slice none 0 0) := (blk_cell BK175.out 2).trans rfl; have hfz14_0 := blk_frozen BK175.out 0; have hfz14_1 := blk_frozen BK175.out 1; have hfz14_2 := blk_frozen BK175.out 2; obtain ⟨Ao15, co15, eo15⟩ := Kd.R_slice HO174.out; subst eo15))
 (try simp only [Act.put, List.setIfInBounds_toArray, List.set_cons_zero, List.set_cons_succ])
 go_cut [9] (fun v9 wc => ∃ (kq : Nat) (x9_4 : Int), v9 = .int .i64 x9_4 ∧ Aside0 (spec_AddCredential.j1 kq a1 a2 x9_4 a0_0 a0_1 l0_2 t170 t171 t172 = some (r1, r2, r3, r4)) ∧ Aside0 (kq ≤ k) ∧ Aside0 (Kd.R k83 83 wc w.heap.size (fun _ => True) (.slice Ao15 t172.length co15) t172) ∧ Aside0 (wc.heap[gb168]? = some (.cells #[.int .i64 a0_0, .int .i64 a0_1, (.slice A0_2 l0_2.length c0_2)] 28 (0, 0))) ∧ Aside0 (wc.heap[gb169]? = some (.cells #[.int .i64 0, .int .i64 0, (.slice none 0 0)] 28 (0, 0))) ∧ Aside0 (wc.heap[gb175]? = some (.cells #[.int .i64 t170, .int .i64 t171, (.slice Ao15 t172.length co15)] 28 (0, 0))) ∧ Aside0 (Below w.heap.size w wc))
 case first =>
  have H := HC5.out; clear HC5
  have H' := Aside0.mk H
  clear H
  go_wp2
  go_loopg [9] k (fun kq v9 w' => ∃ (x9_1 : Int), v9 = .int .i64 x9_1 ∧ Aside0 (spec_AddCredential.l0 kq a1 a2 x9_1 a0_0 a0_1 l0_2 t170 t171 t172 = some (r1, r2, r3, r4)) ∧ Aside0 (kq ≤ k) ∧ Aside0 (Kd.R k83 83 w' w.heap.size (fun _ => True) (.slice Ao15 t172.length co15) t172) ∧ Aside0 (w'.heap[gb168]? = some (.cells #[.int .i64 a0_0, .int .i64 a0_1, (.slice A0_2 l0_2.length c0_2)] 28 (0, 0))) ∧ Aside0 (w'.heap[gb169]? = some (.cells #[.int .i64 0, .int .i64 0, (.slice none 0 0)] 28 (0, 0))) ∧ Aside0 (w'.heap[gb175]? = some (.cells #[.int .i64 t170, .int .i64 t171, (.slice Ao15 t172.length co15)] 28 (0, 0))) ∧ Aside0 (Below w.heap.size w w'))
  case atStart => exact ⟨(0), (by first | rfl | simp | simp [*]), H', ⟨Nat.le_refl _⟩, ⟨by refine Cmp.rr ?_; exact Kd.R_mono (Kd.R_far (p := ⟨gb175, 2, none⟩) (Kd.R_far (p := ⟨gb175, 1, none⟩) (Kd.R_far (p := ⟨gb175, 0, none⟩) (Kd.R_types HO174.out BK175.out (by decide)) (fun _ hk => hk.2) (.int .i64 t170)) (fun _ hk => hk.2) (.int .i64 t171)) (fun _ hk => hk.2) (.slice Ao15 t172.length co15)) (fun _ hk => trivial)⟩, ⟨by refine Cmp.b ?_; refine blk_far ?_ NB168_175.out _; refine Cmp.b ?_; refine blk_far ?_ NB168_175.out _; refine Cmp.b ?_; refine blk_far ?_ NB168_175.out _; refine Cmp.b ?_; exact BK168.out⟩, ⟨by refine Cmp.b ?_; refine blk_far ?_ NB169_175.out _; refine Cmp.b ?_; refine blk_far ?_ NB169_175.out _; refine Cmp.b ?_; refine blk_far ?_ NB169_175.out _; refine Cmp.b ?_; exact BK169.out⟩, ⟨by refine Cmp.b ?_; refine blk_put (cs := #[.int .i64 t170, .int .i64 t171, .slice none 0 0]) ?_ 2 _ rfl; refine Cmp.b ?_; refine blk_put (cs := #[.int .i64 t170, .int .i64 0, .slice none 0 0]) ?_ 1 _ rfl; refine Cmp.b ?_; refine blk_put (cs := #[.int .i64 0, .int .i64 0, .slice none 0 0]) ?_ 0 _ rfl; refine Cmp.b ?_; exact BK175.out⟩, ⟨Cmp.g HB.out⟩⟩
  case round =>
   clear H'
   (try clear c1); (try clear p2); (try clear c4); (try clear c8); (try clear c12); (try clear c13); (try clear hcz14_0); (try clear hcz14_1); (try clear hcz14_2); (try clear hcz9_0); (try clear hcz9_1); (try clear hcz9_2); (try clear hfz14_0); (try clear hfz14_1); (try clear hfz14_2); (try clear hfz9_0); (try clear hfz9_1); (try clear hfz9_2)
   obtain ⟨x9_1, rfl, HA, HK1, HO_176002, BK168, BK169, BK175, HB⟩ := hrel
   cases gk with
   | zero => exact absurd HA.out (by simp [spec_AddCredential.l0])
   | succ k1 =>
    have H := HA.out; clear HA
    simp only [spec_AddCredential.l0] at H
    by_cases c16 : x9_1 < (l0_2.length : Int)
    ·rw [if_pos c16] at H
     have c16b0 : decide (x9_1 < (l0_2.length : Int)) = true := decide_eq_true c16
     clear c16
     (first | rw [c16b0] | (simp only [i64_w, i32_w]; rw [c16b0]) | skip)
     by_cases c17 : 0 ≤ x9_1
     ·rw [if_pos c17] at H; have c17b0 : decide (0 ≤ x9_1) = true := decide_eq_true c17; clear c17
      by_cases c18 : ((rd_T83 l0_2 x9_1).f0) < a1
      ·rw [if_pos c18] at H; have c18b0 : decide (((rd_T83 l0_2 x9_1).f0) < a1) = true := decide_eq_true c18; clear c18
       have H' := Aside0.mk H
       clear H; have hnb19 := NB168_169.out; have hnc19 := NB169_168.out; have hnb20 := NB168_175.out; have hnc20 := NB175_168.out
       have hcz21_0 : wr.cell? ⟨gb168, 0, none⟩ = some (.int .i64 a0_0) := (blk_cell BK168.out 0).trans rfl
       have hcz21_1 : wr.cell? ⟨gb168, 1, none⟩ = some (.int .i64 a0_1) := (blk_cell BK168.out 1).trans rfl
       have hcz21_2 : wr.cell? ⟨gb168, 2, none⟩ = some (.slice A0_2 l0_2.length c0_2) := (blk_cell BK168.out 2).trans rfl
       have hfz21_0 := blk_frozen BK168.out 0; have hfz21_1 := blk_frozen BK168.out 1; have hfz21_2 := blk_frozen BK168.out 2
       have p176 : 0 ≤ (x9_1 : Int) := of_decide_eq_true Cmp.d
       have q176 : x9_1 < (l0_2.length : Int) := of_decide_eq_true Cmp.d
       obtain ⟨ad176, e176, hx176_0, hx176_1, hx176_2, hx176_3⟩ := at_T83 HR0_2.out x9_1 p176 q176
       cases e176
       replace hx176_0 := (HB.out.cell (World.block_lt_of_cell? w _ hx176_0)).trans hx176_0
       replace hx176_1 := (HB.out.cell (World.block_lt_of_cell? w _ hx176_1)).trans hx176_1
       replace hx176_2 := (HB.out.cell (World.block_lt_of_cell? w _ hx176_2)).trans hx176_2
       replace hx176_3 := (HB.out.cell (World.block_lt_of_cell? w _ hx176_3)).trans hx176_3
       replace p176 := eq_true p176; replace q176 := eq_true q176
       go_wp2
       go_roundg k1
       case measure => have := HK1.out; omega
       case rel => exact ⟨(wrap64 (x9_1 + 1)), (by first | rfl | simp | simp [*]), H', ⟨by have := HK1.out; omega⟩, ⟨by refine Cmp.rr ?_; exact HO_176002.out⟩, ⟨by refine Cmp.b ?_; exact BK168.out⟩, ⟨by refine Cmp.b ?_; exact BK169.out⟩, ⟨by refine Cmp.b ?_; exact BK175.out⟩, ⟨Cmp.g HB.out⟩⟩
      ·rw [if_neg c18] at H; have c18b0 : decide (((rd_T83 l0_2 x9_1).f0) < a1) = false := decide_eq_false c18; clear c18
       have H' := Aside0.mk H
       clear H; have hnb22 := NB168_169.out; have hnc22 := NB169_168.out; have hnb23 := NB168_175.out; have hnc23 := NB175_168.out
       have hcz24_0 : wr.cell? ⟨gb168, 0, none⟩ = some (.int .i64 a0_0) := (blk_cell BK168.out 0).trans rfl
       have hcz24_1 : wr.cell? ⟨gb168, 1, none⟩ = some (.int .i64 a0_1) := (blk_cell BK168.out 1).trans rfl
       have hcz24_2 : wr.cell? ⟨gb168, 2, none⟩ = some (.slice A0_2 l0_2.length c0_2) := (blk_cell BK168.out 2).trans rfl
       have hfz24_0 := blk_frozen BK168.out 0; have hfz24_1 := blk_frozen BK168.out 1; have hfz24_2 := blk_frozen BK168.out 2
       have p176 : 0 ≤ (x9_1 : Int) := of_decide_eq_true Cmp.d
       have q176 : x9_1 < (l0_2.length : Int) := of_decide_eq_true Cmp.d
       obtain ⟨ad176, e176, hx176_0, hx176_1, hx176_2, hx176_3⟩ := at_T83 HR0_2.out x9_1 p176 q176
       cases e176
       replace hx176_0 := (HB.out.cell (World.block_lt_of_cell? w _ hx176_0)).trans hx176_0
       replace hx176_1 := (HB.out.cell (World.block_lt_of_cell? w _ hx176_1)).trans hx176_1
       replace hx176_2 := (HB.out.cell (World.block_lt_of_cell? w _ hx176_2)).trans hx176_2
       replace hx176_3 := (HB.out.cell (World.block_lt_of_cell? w _ hx176_3)).trans hx176_3
       replace p176 := eq_true p176; replace q176 := eq_true q176
       go_wp2
       go_meet
       case rel => exact ⟨_, (x9_1), (by first | rfl | simp | simp [*]), H', ⟨by have := HK1.out; first | omega | exact Nat.le_refl _⟩, ⟨by refine Cmp.rr ?_; exact HO_176002.out⟩, ⟨by refine Cmp.b ?_; exact BK168.out⟩, ⟨by refine Cmp.b ?_; exact BK169.out⟩, ⟨by refine Cmp.b ?_; exact BK175.out⟩, ⟨Cmp.g HB.out⟩⟩
     ·rw [if_neg c17] at H; exact absurd H (by simp)
    ·rw [if_neg c16] at H
     have c16b0 : decide (x9_1 < (l0_2.length : Int)) = false := decide_eq_false c16
     clear c16
     (first | rw [c16b0] | (simp only [i64_w, i32_w]; rw [c16b0]) | skip)
     have H' := Aside0.mk H
     clear H; have hnb25 := NB168_169.out; have hnc25 := NB169_168.out; have hnb26 := NB168_175.out; have hnc26 := NB175_168.out
     have hcz27_0 : wr.cell? ⟨gb168, 0, none⟩ = some (.int .i64 a0_0) := (blk_cell BK168.out 0).trans rfl
     have hcz27_1 : wr.cell? ⟨gb168, 1, none⟩ = some (.int .i64 a0_1) := (blk_cell BK168.out 1).trans rfl
     have hcz27_2 : wr.cell? ⟨gb168, 2, none⟩ = some (.slice A0_2 l0_2.length c0_2) := (blk_cell BK168.out 2).trans rfl
     have hfz27_0 := blk_frozen BK168.out 0; have hfz27_1 := blk_frozen BK168.out 1; have hfz27_2 := blk_frozen BK168.out 2
     go_wp2
     go_meet
     case rel => exact ⟨_, (x9_1), (by first | rfl | simp | simp [*]), H', ⟨by have := HK1.out; first | omega | exact Nat.le_refl _⟩, ⟨by refine Cmp.rr ?_; exact HO_176002.out⟩, ⟨by refine Cmp.b ?_; exact BK168.out⟩, ⟨by refine Cmp.b ?_; exact BK169.out⟩, ⟨by refine Cmp.b ?_; exact BK175.out⟩, ⟨Cmp.g HB.out⟩⟩
 case rest =>
  clear HC5; (try clear c1); (try clear p1); (try clear q1); (try clear hx1); (try clear c2); (try clear p2); (try clear c4); (try clear p6); (try clear c8); (try clear c12); (try clear c13); (try clear c16); (try clear c16b0); (try clear c17); (try clear c17b0); (try clear p17); (try clear q17); (try clear hx17); (try clear c18); (try clear c18b0); (try clear c19); (try clear c20); (try clear c22); (try clear c23); (try clear c25); (try clear c26); (try clear hcz14_0); (try clear hcz14_1); (try clear hcz14_2); (try clear hcz21_0); (try clear hcz21_1); (try clear hcz21_2); (try clear hcz24_0); (try clear hcz24_1); (try clear hcz24_2); (try clear hcz27_0); (try clear hcz27_1); (try clear hcz27_2); (try clear hcz9_0); (try clear hcz9_1); (try clear hcz9_2); (try clear hfz14_0); (try clear hfz14_1); (try clear hfz14_2); (try clear hfz21_0); (try clear hfz21_1); (try clear hfz21_2); (try clear hfz24_0); (try clear hfz24_1); (try clear hfz24_2); (try clear hfz27_0); (try clear hfz27_1); (try clear hfz27_2); (try clear hfz9_0); (try clear hfz9_1); (try clear hfz9_2); (try clear hx176_0); (try clear hx176_1); (try clear hx176_2); (try clear hx176_3); (try clear p176); (try clear p2); (try clear q176)
  obtain ⟨kq, x9_4, rfl, HA, HJ4, HO_176002, BK168, BK169, BK175, HB⟩ := hcut
  cases kq with
  | zero => exact absurd HA.out (by simp [spec_AddCredential.j1])
  | succ kj4 =>
   have H := HA.out; clear HA
   simp only [spec_AddCredential.j1] at H
   obtain ⟨y177, hy177⟩ : ∃ y_ : List (S83), y_ = (([] : List (S83))) := ⟨_, rfl⟩
   replace H : (if 0 ≤ x9_4 then (if x9_4 ≤ (l0_2.length : Int) then ((some (l0_2.take (x9_4 : Int).toNat : List (S83))).bind fun y180 => (if y177.length + y180.length < 4398046511104 then ((some (y177 ++ y180 : List (S83))).bind fun y184 => ((some (([(⟨a1, a2, 0, false⟩ : S83)] : List (S83)) : List (S83))).bind fun y187 => (if y184.length + y187.length < 4398046511104 then ((some (y184 ++ y187 : List (S83))).bind fun y190 => ((some (l0_2.drop (x9_4 : Int).toNat : List (S83))).bind fun y193 => (if y190.length + y193.length < 4398046511104 then ((some (y190 ++ y193 : List (S83))).bind fun y197 => ((spec_IsValidAccount.f kj4 a0_0 a0_1 l0_2).bind fun t200 => (if t200 = true then ((spec_IsValidAccount.f kj4 t170 t171 y197).bind fun t201 => (if t201 = true then (some (t170, t171, y197, true)) else ((spec_l14Copy.f a0_0 a0_1 l0_2).bind fun bt202 => (some (bt202.1, bt202.2.1, bt202.2.2, false))))) else ((spec_l14Copy.f a0_0 a0_1 l0_2).bind fun bt207 => (some (bt207.1, bt207.2.1, bt207.2.2, false)))))) else (none)))) else (none)))) else (none))) else (none)) else (none)) = some (r1, r2, r3, r4) := by first | (rw [hy177]; with_reducible exact H) | (have H2_ := (Option.bind_some _ _).symm.trans H; rw [hy177]; with_reducible exact H2_) | (have H2_ := (Option.bind_some _ _).symm.trans H; with_reducible exact H2_) | with_reducible exact H | (rw [hy177]; exact H) | exact H
   have Ny177 := Aside0.mk hy177; clear hy177
   by_cases c28 : 0 ≤ x9_4
   ·rw [if_pos c28] at H
    have c28b0 := eq_true c28
    have c28b1 : decide (0 ≤ x9_4) = true := decide_eq_true c28; clear c28
    by_cases c29 : x9_4 ≤ (l0_2.length : Int)
    ·rw [if_pos c29] at H
     have c29b0 := eq_true c29
     have c29b1 : decide (x9_4 ≤ (l0_2.length : Int)) = true := decide_eq_true c29
     clear c29
     obtain ⟨y180, hy180⟩ : ∃ y_ : List (S83), y_ = (l0_2.take (x9_4 : Int).toNat) := ⟨_, rfl⟩
     replace H : (if y177.length + y180.length < 4398046511104 then ((some (y177 ++ y180 : List (S83))).bind fun y184 => ((some (([(⟨a1, a2, 0, false⟩ : S83)] : List (S83)) : List (S83))).bind fun y187 => (if y184.length + y187.length < 4398046511104 then ((some (y184 ++ y187 : List (S83))).bind fun y190 => ((some (l0_2.drop (x9_4 : Int).toNat : List (S83))).bind fun y193 => (if y190.length + y193.length < 4398046511104 then ((some (y190 ++ y193 : List (S83))).bind fun y197 => ((spec_IsValidAccount.f kj4 a0_0 a0_1 l0_2).bind fun t200 => (if t200 = true then ((spec_IsValidAccount.f kj4 t170 t171 y197).bind fun t201 => (if t201 = true then (some (t170, t171, y197, true)) else ((spec_l14Copy.f a0_0 a0_1 l0_2).bind fun bt202 => (some (bt202.1, bt202.2.1, bt202.2.2, false))))) else ((spec_l14Copy.f a0_0 a0_1 l0_2).bind fun bt207 => (some (bt207.1, bt207.2.1, bt207.2.2, false)))))) else (none)))) else (none)))) else (none)) = some (r1, r2, r3, r4) := by first | (rw [hy180]; with_reducible exact H) | (have H2_ := (Option.bind_some _ _).symm.trans H; rw [hy180]; with_reducible exact H2_) | (have H2_ := (Option.bind_some _ _).symm.trans H; with_reducible exact H2_) | with_reducible exact H | (rw [hy180]; exact H) | exact H
     have Ny180 := Aside0.mk hy180; clear hy180
     by_cases c30 : y177.length + y180.length < 4398046511104
     ·rw [if_pos c30] at H; have LMc30 := Aside0.mk c30; clear c30
      obtain ⟨y184, hy184⟩ : ∃ y_ : List (S83), y_ = (y177 ++ y180) := ⟨_, rfl⟩
      replace H : ((some (([(⟨a1, a2, 0, false⟩ : S83)] : List (S83)) : List (S83))).bind fun y187 => (if y184.length + y187.length < 4398046511104 then ((some (y184 ++ y187 : List (S83))).bind fun y190 => ((some (l0_2.drop (x9_4 : Int).toNat : List (S83))).bind fun y193 => (if y190.length + y193.length < 4398046511104 then ((some (y190 ++ y193 : List (S83))).bind fun y197 => ((spec_IsValidAccount.f kj4 a0_0 a0_1 l0_2).bind fun t200 => (if t200 = true then ((spec_IsValidAccount.f kj4 t170 t171 y197).bind fun t201 => (if t201 = true then (some (t170, t171, y197, true)) else ((spec_l14Copy.f a0_0 a0_1 l0_2).bind fun bt202 => (some (bt202.1, bt202.2.1, bt202.2.2, false))))) else ((spec_l14Copy.f a0_0 a0_1 l0_2).bind fun bt207 => (some (bt207.1, bt207.2.1, bt207.2.2, false)))))) else (none)))) else (none))) = some (r1, r2, r3, r4) := by first | (rw [hy184]; with_reducible exact H) | (have H2_ := (Option.bind_some _ _).symm.trans H; rw [hy184]; with_reducible exact H2_) | (have H2_ := (Option.bind_some _ _).symm.trans H; with_reducible exact H2_) | with_reducible exact H | (rw [hy184]; exact H) | exact H
      have Ny184 := Aside0.mk hy184; clear hy184
      obtain ⟨y187, hy187⟩ : ∃ y_ : List (S83), y_ = (([(⟨a1, a2, 0, false⟩ : S83)] : List (S83))) := ⟨_, rfl⟩
      replace H : (if y184.length + y187.length < 4398046511104 then ((some (y184 ++ y187 : List (S83))).bind fun y190 => ((some (l0_2.drop (x9_4 : Int).toNat : List (S83))).bind fun y193 => (if y190.length + y193.length < 4398046511104 then ((some (y190 ++ y193 : List (S83))).bind fun y197 => ((spec_IsValidAccount.f kj4 a0_0 a0_1 l0_2).bind fun t200 => (if t200 = true then ((spec_IsValidAccount.f kj4 t170 t171 y197).bind fun t201 => (if t201 = true then (some (t170, t171, y197, true)) else ((spec_l14Copy.f a0_0 a0_1 l0_2).bind fun bt202 => (some (bt202.1, bt202.2.1, bt202.2.2, false))))) else ((spec_l14Copy.f a0_0 a0_1 l0_2).bind fun bt207 => (some (bt207.1, bt207.2.1, bt207.2.2, false)))))) else (none)))) else (none)) = some (r1, r2, r3, r4) := by first | (rw [hy187]; with_reducible exact H) | (have H2_ := (Option.bind_some _ _).symm.trans H; rw [hy187]; with_reducible exact H2_) | (have H2_ := (Option.bind_some _ _).symm.trans H; with_reducible exact H2_) | with_reducible exact H | (rw [hy187]; exact H) | exact H
      have Ny187 := Aside0.mk hy187; clear hy187
      by_cases c31 : y184.length + y187.length < 4398046511104
      ·rw [if_pos c31] at H; have LMc31 := Aside0.mk c31; clear c31
       obtain ⟨y190, hy190⟩ : ∃ y_ : List (S83), y_ = (y184 ++ y187) := ⟨_, rfl⟩
       replace H : ((some (l0_2.drop (x9_4 : Int).toNat : List (S83))).bind fun y193 => (if y190.length + y193.length < 4398046511104 then ((some (y190 ++ y193 : List (S83))).bind fun y197 => ((spec_IsValidAccount.f kj4 a0_0 a0_1 l0_2).bind fun t200 => (if t200 = true then ((spec_IsValidAccount.f kj4 t170 t171 y197).bind fun t201 => (if t201 = true then (some (t170, t171, y197, true)) else ((spec_l14Copy.f a0_0 a0_1 l0_2).bind fun bt202 => (some (bt202.1, bt202.2.1, bt202.2.2, false))))) else ((spec_l14Copy.f a0_0 a0_1 l0_2).bind fun bt207 => (some (bt207.1, bt207.2.1, bt207.2.2, false)))))) else (none))) = some (r1, r2, r3, r4) := by first | (rw [hy190]; with_reducible exact H) | (have H2_ := (Option.bind_some _ _).symm.trans H; rw [hy190]; with_reducible exact H2_) | (have H2_ := (Option.bind_some _ _).symm.trans H; with_reducible exact H2_) | with_reducible exact H | (rw [hy190]; exact H) | exact H
       have Ny190 := Aside0.mk hy190; clear hy190
       have c32b0 := eq_true (of_decide_eq_true Cmp.d : 0 ≤ x9_4)
       have c33b0 := eq_true (of_decide_eq_true Cmp.d : x9_4 ≤ (l0_2.length : Int))
       obtain ⟨y193, hy193⟩ : ∃ y_ : List (S83), y_ = (l0_2.drop (x9_4 : Int).toNat) := ⟨_, rfl⟩
       replace H : (if y190.length + y193.length < 4398046511104 then ((some (y190 ++ y193 : List (S83))).bind fun y197 => ((spec_IsValidAccount.f kj4 a0_0 a0_1 l0_2).bind fun t200 => (if t200 = true then ((spec_IsValidAccount.f kj4 t170 t171 y197).bind fun t201 => (if t201 = true then (some (t170, t171, y197, true)) else ((spec_l14Copy.f a0_0 a0_1 l0_2).bind fun bt202 => (some (bt202.1, bt202.2.1, bt202.2.2, false))))) else ((spec_l14Copy.f a0_0 a0_1 l0_2).bind fun bt207 => (some (bt207.1, bt207.2.1, bt207.2.2, false)))))) else (none)) = some (r1, r2, r3, r4) := by first | (rw [hy193]; with_reducible exact H) | (have H2_ := (Option.bind_some _ _).symm.trans H; rw [hy193]; with_reducible exact H2_) | (have H2_ := (Option.bind_some _ _).symm.trans H; with_reducible exact H2_) | with_reducible exact H | (rw [hy193]; exact H) | exact H
       have Ny193 := Aside0.mk hy193; clear hy193
       by_cases c34 : y190.length + y193.length < 4398046511104
       ·rw [if_pos c34] at H; have LMc34 := Aside0.mk c34; clear c34
        obtain ⟨y197, hy197⟩ : ∃ y_ : List (S83), y_ = (y190 ++ y193) := ⟨_, rfl⟩
        replace H : ((spec_IsValidAccount.f kj4 a0_0 a0_1 l0_2).bind fun t200 => (if t200 = true then ((spec_IsValidAccount.f kj4 t170 t171 y197).bind fun t201 => (if t201 = true then (some (t170, t171, y197, true)) else ((spec_l14Copy.f a0_0 a0_1 l0_2).bind fun bt202 => (some (bt202.1, bt202.2.1, bt202.2.2, false))))) else ((spec_l14Copy.f a0_0 a0_1 l0_2).bind fun bt207 => (some (bt207.1, bt207.2.1, bt207.2.2, false))))) = some (r1, r2, r3, r4) := by first | (rw [hy197]; with_reducible exact H) | (have H2_ := (Option.bind_some _ _).symm.trans H; rw [hy197]; with_reducible exact H2_) | (have H2_ := (Option.bind_some _ _).symm.trans H; with_reducible exact H2_) | with_reducible exact H | (rw [hy197]; exact H) | exact H
        have Ny197 := Aside0.mk hy197; clear hy197; replace H := Option.bind_eq_some_iff.mp H; obtain ⟨t200, A350, H⟩ := H; (try dsimp only at H); have A35 := Aside0.mk A350; clear A350
        by_cases c36 : t200 = true
        ·subst c36; rw [if_pos rfl] at H; replace H := Option.bind_eq_some_iff.mp H; obtain ⟨t201, A370, H⟩ := H; (try dsimp only at H); have A37 := Aside0.mk A370; clear A370
         by_cases c38 : t201 = true
         ·subst c38; rw [if_pos rfl] at H
          simp only [Option.some.injEq, Prod.mk.injEq] at H
          obtain ⟨rfl, rfl, rfl, rfl⟩ := H
          try go_wp2
          have n0_ := Aside0.mk (Kd.R_drew HO_176002.out); have n1_ := Aside0.mk (blk_drew BK168.out); have n2_ := Aside0.mk (blk_drew BK169.out); have n3_ := Aside0.mk (blk_drew BK175.out); have n4_ := Aside0.mk (below_drew1 HB.out); clear HO_176002; clear BK168; clear BK169; clear BK175; clear HB; have HO_176002 := n0_; have BK168 := n1_; have BK169 := n2_; have BK175 := n3_; have HB := n4_; clear n0_ n1_ n2_ n3_ n4_
          have q40 : (x9_4 : Int) ≤ ((l0_2.length : Int) : Int) := of_decide_eq_true Cmp.d
          obtain ⟨i040, hi040, _, hsz40, _⟩ := info_parts info83
          have hroom40 : l0_2.length ≤ c0_2 := HC0_2.out
          have hC40 : Kd.C k83 _ A0_2 l0_2.length l0_2 := HR0_2.out
          have hcut40 := cut_to (P := Try.prog) 26 83 .i64 Try.underlying26 hi040 A0_2 l0_2.length c0_2 x9_4 (of_decide_eq_true Cmp.d) q40 hroom40
          have hr40 := Kd.C_take (m := (x9_4 : Int).toNat) hC40 (by omega)
          have hy40 : y180.length = (x9_4 : Int).toNat := (by rw [Ny180.out, List.length_take]; omega)
          rw [← Ny180.out] at hr40
          rw [← hy40] at hcut40
          have HR183 := Aside0.mk hr40
          have HC183 := Aside0.mk (show y180.length ≤ c0_2 from by omega)
          clear hr40 hC40 hroom40 hi040 hsz40; have KY40 := Aside0.mk hy40; clear hy40; replace q40 := eq_true q40
          have q41 : (x9_4 : Int) ≤ ((l0_2.length : Int) : Int) := of_decide_eq_true Cmp.d
          obtain ⟨i041, hi041, _, hsz41, _⟩ := info_parts info83
          have hroom41 : l0_2.length ≤ c0_2 := HC0_2.out
          have hC41 : Kd.C k83 _ A0_2 l0_2.length l0_2 := HR0_2.out
          have q041 : (0 : Int) ≤ (x9_4 : Int) := of_decide_eq_true Cmp.d
          have hcut41 := cut_from (P := Try.prog) 26 83 .i64 Try.underlying26 hi041 4 hsz41 A0_2 l0_2.length c0_2 x9_4 q041 q41
          have hr41 := Kd.C_drop (m := (x9_4 : Int).toNat) (c := c0_2) hC41 (by omega) hroom41
          obtain ⟨A41, hA41⟩ : ∃ A1, A1 = (if c0_2 = (x9_4 : Int).toNat then A0_2 else (A0_2 : Option Addr).map (·.add ((x9_4 : Int).toNat * 4))) := ⟨_, rfl⟩
          obtain ⟨c41, hc41⟩ : ∃ c1, c1 = c0_2 - (x9_4 : Int).toNat := ⟨_, rfl⟩
          have hy41 : y193.length = l0_2.length - (x9_4 : Int).toNat := (by rw [Ny193.out, List.length_drop] <;> omega)
          rw [show (l0_2).drop (x9_4 : Int).toNat = y193 from Ny193.out.symm] at hr41
          replace hr41 : Kd.C k83 _ A41 y193.length y193 := (by rw [hA41]; exact hr41)
          rw [← hy41, ← hA41, ← hc41] at hcut41
          have HR196 := Aside0.mk hr41
          have HC196 := Aside0.mk (show y193.length ≤ c41 from by rw [hy41, hc41]; exact Nat.sub_le_sub_right hroom41 _)
          clear hr41 hC41 hroom41 hi041 hsz41 hc41; have KY41 := Aside0.mk hy41; have KA41 := Aside0.mk hA41; clear hy41 hA41; replace q41 := eq_true q41
          refine start_ (n := 18) (S := fun w' => w'.cell? ⟨gb168, 0, none⟩ = some (.int .i64 a0_0) ∧ w'.cell? ⟨gb168, 1, none⟩ = some (.int .i64 a0_1) ∧ w'.cell? ⟨gb168, 2, none⟩ = some (.slice A0_2 l0_2.length c0_2)) (ds := []) (Cmp.bm 0 18) (by kernel_rfl) rfl rfl ⟨(blk_cell BK168.out 0).trans rfl, (blk_cell BK168.out 1).trans rfl, (blk_cell BK168.out 2).trans rfl⟩ (fun hHeld => ?_); refine with_tabW spec_AddCredential.tab5 spec_AddCredential.bits5 (fun HT_ HW_ => ?_)
          generalize wc.drew = w39 at HO_176002 BK168 BK169 BK175 HB HR183 HR196 hHeld ⊢
          refine Cmp.pu HT_ 1 30 (Cmp.bb 18 2) ?_; refine Cmp.pu HT_ 3 32 (Cmp.bb 18 10) ?_; refine Cmp.pu HT_ 6 35 (Cmp.bb 18 74) ?_; refine Cmp.pu HT_ 7 36 (Cmp.bb 18 202) ?_; refine Cmp.pu HT_ 8 37 (Cmp.bb 18 458) ?_; refine Cmp.pu HT_ 11 40 (Cmp.bb 18 2506) ?_; refine Cmp.pu HT_ 13 42 (Cmp.bb 18 10698) ?_; refine Cmp.tk HT_ HW_ hHeld 2 31 (Cmp.bb 18 10702) ?_; refine Cmp.pu HT_ 4 33 (Cmp.bb 18 10718) ?_; refine Cmp.tk HT_ HW_ hHeld 12 41 (Cmp.bb 18 14814) ?_; refine Cmp.pu HT_ 14 43 (Cmp.bb 18 31198) ?_
          refine join_ (σ := Value × Value × Value) 4 (Cmp.bb 18 31743) (fun s_ => [(29, s_.1), (34, s_.2.1), (38, s_.2.2)]) (fun s_ w' => (w'.cell? ⟨gb168, 0, none⟩ = some (.int .i64 a0_0) ∧ w'.cell? ⟨gb168, 1, none⟩ = some (.int .i64 a0_1) ∧ w'.cell? ⟨gb168, 2, none⟩ = some (.slice A0_2 l0_2.length c0_2)) ∧ (Kd.R k83 83 w' w.heap.size (fun k_ => some k_ ≠ (s_.2.2 : Value).ownBlock ∧ some k_ ≠ (.slice Ao15 t172.length co15 : Value).ownBlock) s_.2.1 y184) ∧ (Kd.R k83 83 w' w.heap.size (fun k_ => some k_ ≠ (s_.2.1 : Value).ownBlock ∧ some k_ ≠ (.slice Ao15 t172.length co15 : Value).ownBlock) s_.2.2 y187) ∧ (Kd.R k83 83 w' w.heap.size (fun k_ => some k_ ≠ (s_.2.1 : Value).ownBlock ∧ some k_ ≠ (s_.2.2 : Value).ownBlock) (.slice Ao15 t172.length co15) t172) ∧ (w'.heap[gb168]? = some (.cells #[.int .i64 a0_0, .int .i64 a0_1, .slice A0_2 l0_2.length c0_2] 28 (0, 0))) ∧ (w'.heap[gb169]? = some (.cells #[.int .i64 0, .int .i64 0, .slice none 0 0] 28 (0, 0))) ∧ (w'.heap[gb175]? = some (.cells #[.int .i64 t170, .int .i64 t171, .slice Ao15 t172.length co15] 28 (0, 0))) ∧ (Below w.heap.size w w')) ?_ ?_
          rotate_left
          ·intro hCont
           refine two_ (i := 0) (j := 9) (Ni := some 29) (Nj := some 38) (Cmp.bb 18 31199) (Cmp.bb 18 31710) rfl rfl rfl rfl (two_of HT_.out (by kernel_rfl)) (by decide) (by decide) (fun K hK => ?_) (fun K hK => ?_)
           ·skip
            refine Kd.R_lit_step k83 _ 83 ?hg (N := 29) ?hd (xs := ([] : List (S83))) (inner := []) (ok := fun _ => True) (okp := fun _ => True) ?hr ?hp (fun _ hk => hk) trivial (Below.refl _ _) (Nat.le_refl _) (by simp) ?_; (case hd => rfl); (case hg => rfl); (case hr => first | (go_simp; done) | (go_simp; rfl)); (case hp => exact (Reps.none _ _))
            intro v178 w42 ho43 hb hg_ hnew_
            clear hg_ hnew_
            (first | rw [← Ny177.out] at ho43 | (simp only [Int.reduceToNat] at ho43; rw [← Ny177.out] at ho43))
            have n0_ := Aside0.mk (Kd.R_elder' (Cmp.rr HO_176002.out) (Kd.R_base ho43) hb)
            have n1_ := Aside0.mk (Kd.R_lower (Kd.R_new' ho43 (Kd.R_lt (Cmp.rr HO_176002.out))) (below_size (Cmp.g HB.out)))
            have n2_ := Aside0.mk (blk_below (Cmp.b BK168.out) hb)
            have n3_ := Aside0.mk (blk_below (Cmp.b BK169.out) hb)
            have n4_ := Aside0.mk (blk_below (Cmp.b BK175.out) hb)
            have n5_ := Aside0.mk (below_step (Cmp.g HB.out) hb)
            clear HO_176002; clear BK168; clear BK169; clear BK175; clear HB; have HO_176002 := n0_; have HO179 := n1_; have BK168 := n2_; have BK169 := n3_; have BK175 := n4_; have HB := n5_; clear n0_ n1_ n2_ n3_ n4_ n5_; clear hb ho43
            refine hK.out _ _ ⟨(blk_cell BK168.out 0).trans rfl, (blk_cell BK168.out 1).trans rfl, (blk_cell BK168.out 2).trans rfl⟩ (fun hHeld => ?_)
            clear hK K
            refine norm_ (a' := ?_) ?_ ?_
            rotate_left
            ·show Act.put _ (some 29) _ = _
             simp only [Act.put, Cmp.s, Cmp.z, Cmp.c, i64_w, i32_w]; rfl
            refine two_ (i := 5) (j := 9) (Ni := some 34) (Nj := some 38) (Cmp.bb 18 31231) (Cmp.bb 18 31711) rfl rfl rfl rfl (two_of HT_.out (by kernel_rfl)) (by decide) (by decide) (fun K hK => ?_) (fun K hK => ?_)
            ·skip
             refine Kd.R_append_rows_step k83 (w0 := w) w.heap.size (by rfl) (.tmp 29) (.tmp 33) 26 83 (.agg #[(.int .i64 0), (.int .i64 0), (.int .i64 0), (.bool false)]) 32 rfl Try.underlying26 info83 rfl (by decide) (by omega) v178 y177 y180 _ _ _ (fun k_ => some k_ ≠ (.slice Ao15 t172.length co15 : Value).ownBlock) (fun _ => False) rfl rfl ?aO ?aR (fun _ _ h => h) (fun _ h => h.elim) ?aF ?aB ?aS ?aL ?_
             (case aR => repeat (first | exact (Kd.C_below HR183.out HB.out) | (with_reducible refine Kd.C_alloc ?_ _) | (with_reducible refine Kd.C_drewN ?_ _) | (with_reducible refine Kd.C_drew ?_)))
             (case aB => exact (Cmp.g HB.out))
             (case aF => exact (fun k_ hk => Kd.fresh' (Kd.R_lt (Cmp.rr HO_176002.out)) k_ hk))
             (case aO => exact (by refine Cmp.rr ?_; exact Kd.R_mono HO179.out (fun _ hk => hk.2)))
             (case aS => exact (below_size (Cmp.g HB.out)))
             (case aL => have := LMc30.out; omega)
             intro v185 w44 ho hb hg hat
             rw [← Ny184.out] at ho
             have n0_ := Aside0.mk (Kd.R_after (ok := (fun _ => True)) (Cmp.rr HO_176002.out) hg hat)
             have n1_ := Aside0.mk (blk_grown (g := gb168) (o := .cells #[.int .i64 a0_0, .int .i64 a0_1, .slice A0_2 l0_2.length c0_2] 28 (0, 0)) (Cmp.b BK168.out) hg (Kd.R_ne HO179.out BK168.out (by decide)))
             have n2_ := Aside0.mk (blk_grown (g := gb169) (o := .cells #[.int .i64 0, .int .i64 0, .slice none 0 0] 28 (0, 0)) (Cmp.b BK169.out) hg (Kd.R_ne HO179.out BK169.out (by decide)))
             have n3_ := Aside0.mk (blk_grown (g := gb175) (o := .cells #[.int .i64 t170, .int .i64 t171, .slice Ao15 t172.length co15] 28 (0, 0)) (Cmp.b BK175.out) hg (Kd.R_ne HO179.out BK175.out (by decide)))
             have n4_ := Aside0.mk (hb)
             have n5_ := Aside0.mk (ho)
             clear HO_176002; clear BK168; clear BK169; clear BK175; clear HB; clear HO179; have HO_176002 := n0_; have BK168 := n1_; have BK169 := n2_; have BK175 := n3_; have HB := n4_; have HO186 := n5_; clear n0_ n1_ n2_ n3_ n4_ n5_; clear ho hb hg hat
             refine hK.out _ _ ⟨(blk_cell BK168.out 0).trans rfl, (blk_cell BK168.out 1).trans rfl, (blk_cell BK168.out 2).trans rfl⟩ (fun hHeld => ?_)
             clear hK K
             refine norm_ (a' := ?_) ?_ ?_
             rotate_left
             ·show Act.put _ (some 34) _ = _
              simp only [Act.put, Cmp.s, Cmp.z, Cmp.c, i64_w, i32_w]; rfl
             refine one_ (i := 9) (N := some 38) (Cmp.bb 18 31743) rfl rfl (one_of HT_.out (by kernel_rfl)) (by decide) (fun K hK => ?_)
             refine Kd.R_lit_step k83 _ 83 ?hg (N := 38) ?hd (xs := ([(⟨a1, a2, 0, false⟩ : S83)] : List (S83))) (inner := [.int .i64 a1, .int .i64 a2, .int .i64 0, .bool false]) (ok := fun _ => True) (okp := fun _ => True) ?hr ?hp (fun _ hk => hk) trivial (Below.refl _ _) (Nat.le_refl _) (by simp) ?_; (case hd => rfl); (case hg => rfl); (case hr => first | (go_simp; done) | (go_simp; rfl)); (case hp => exact (Reps.c4 (show Kd.M k83 _ _ _ (⟨a1, a2, 0, false⟩ : S83) [.int .i64 a1, .int .i64 a2, .int .i64 0, .bool false] from (k83_mkM _ _ _ (⟨a1, a2, 0, false⟩ : S83) )) (Reps.none _ _)))
             intro v188 w45 ho46 hb hg_ hnew_
             clear hg_ hnew_
             (first | rw [← Ny187.out] at ho46 | (simp only [Int.reduceToNat] at ho46; rw [← Ny187.out] at ho46))
             have n0_ := Aside0.mk (Kd.R_elder' (Cmp.rr HO_176002.out) (Kd.R_base ho46) hb)
             have n1_ := Aside0.mk (Kd.R_elder' (Cmp.rr HO186.out) (Kd.R_base ho46) hb)
             have n2_ := Aside0.mk (Kd.R_lower (Kd.R_new' (Kd.R_new' ho46 (Kd.R_lt (Cmp.rr HO_176002.out))) (Kd.R_lt (Cmp.rr HO186.out))) (below_size (Cmp.g HB.out)))
             have n3_ := Aside0.mk (blk_below (Cmp.b BK168.out) hb)
             have n4_ := Aside0.mk (blk_below (Cmp.b BK169.out) hb)
             have n5_ := Aside0.mk (blk_below (Cmp.b BK175.out) hb)
             have n6_ := Aside0.mk (below_step (Cmp.g HB.out) hb)
             clear HO_176002; clear HO186; clear BK168; clear BK169; clear BK175; clear HB; have HO_176002 := n0_; have HO186 := n1_; have HO189 := n2_; have BK168 := n3_; have BK169 := n4_; have BK175 := n5_; have HB := n6_; clear n0_ n1_ n2_ n3_ n4_ n5_ n6_; clear hb ho46
             refine hK.out _ _ ⟨(blk_cell BK168.out 0).trans rfl, (blk_cell BK168.out 1).trans rfl, (blk_cell BK168.out 2).trans rfl⟩ (fun hHeld => ?_)
             clear hK K
             refine norm_ (a' := ?_) ?_ ?_
             rotate_left
             ·show Act.put _ (some 38) _ = _
              simp only [Act.put, Cmp.s, Cmp.z, Cmp.c, i64_w, i32_w]; rfl
             exact norm_ (by simp only [putAll, Act.put, List.setIfInBounds_toArray, List.set_cons_zero, List.set_cons_succ]) (hCont (v178, v185, v188) _ ⟨hHeld, (by refine Cmp.rr ?_; exact Kd.R_mono HO186.out (fun _ hk => ⟨hk.2, hk.1⟩)), (by refine Cmp.rr ?_; exact Kd.R_mono HO189.out (fun _ hk => ⟨hk.2, hk.1.2⟩)), (by refine Cmp.rr ?_; exact Kd.R_mono HO_176002.out (fun _ hk => ⟨hk.1.2, hk.2⟩)), (Cmp.b BK168.out), (Cmp.b BK169.out), (Cmp.b BK175.out), (Cmp.g HB.out)⟩)
            ·skip
             refine Kd.R_lit_step k83 _ 83 ?hg (N := 38) ?hd (xs := ([(⟨a1, a2, 0, false⟩ : S83)] : List (S83))) (inner := [.int .i64 a1, .int .i64 a2, .int .i64 0, .bool false]) (ok := fun _ => True) (okp := fun _ => True) ?hr ?hp (fun _ hk => hk) trivial (Below.refl _ _) (Nat.le_refl _) (by simp) ?_; (case hd => rfl); (case hg => rfl); (case hr => first | (go_simp; done) | (go_simp; rfl)); (case hp => exact (Reps.c4 (show Kd.M k83 _ _ _ (⟨a1, a2, 0, false⟩ : S83) [.int .i64 a1, .int .i64 a2, .int .i64 0, .bool false] from (k83_mkM _ _ _ (⟨a1, a2, 0, false⟩ : S83) )) (Reps.none _ _)))
             intro v188 w44 ho45 hb hg_ hnew_
             clear hg_ hnew_
             (first | rw [← Ny187.out] at ho45 | (simp only [Int.reduceToNat] at ho45; rw [← Ny187.out] at ho45))
             have n0_ := Aside0.mk (Kd.R_elder' (Cmp.rr HO_176002.out) (Kd.R_base ho45) hb)
             have n1_ := Aside0.mk (Kd.R_elder' (Cmp.rr HO179.out) (Kd.R_base ho45) hb)
             have n2_ := Aside0.mk (Kd.R_lower (Kd.R_new' (Kd.R_new' ho45 (Kd.R_lt (Cmp.rr HO_176002.out))) (Kd.R_lt (Cmp.rr HO179.out))) (below_size (Cmp.g HB.out)))
             have n3_ := Aside0.mk (blk_below (Cmp.b BK168.out) hb)
             have n4_ := Aside0.mk (blk_below (Cmp.b BK169.out) hb)
             have n5_ := Aside0.mk (blk_below (Cmp.b BK175.out) hb)
             have n6_ := Aside0.mk (below_step (Cmp.g HB.out) hb)
             clear HO_176002; clear HO179; clear BK168; clear BK169; clear BK175; clear HB; have HO_176002 := n0_; have HO179 := n1_; have HO189 := n2_; have BK168 := n3_; have BK169 := n4_; have BK175 := n5_; have HB := n6_; clear n0_ n1_ n2_ n3_ n4_ n5_ n6_; clear hb ho45
             refine hK.out _ _ ⟨(blk_cell BK168.out 0).trans rfl, (blk_cell BK168.out 1).trans rfl, (blk_cell BK168.out 2).trans rfl⟩ (fun hHeld => ?_)
             clear hK K
             refine norm_ (a' := ?_) ?_ ?_
             rotate_left
             ·show Act.put _ (some 38) _ = _
              simp only [Act.put, Cmp.s, Cmp.z, Cmp.c, i64_w, i32_w]; rfl
             refine one_ (i := 5) (N := some 34) (Cmp.bb 18 31743) rfl rfl (one_of HT_.out (by kernel_rfl)) (by decide) (fun K hK => ?_)
             refine Kd.R_append_rows_step k83 (w0 := w) w.heap.size (by rfl) (.tmp 29) (.tmp 33) 26 83 (.agg #[(.int .i64 0), (.int .i64 0), (.int .i64 0), (.bool false)]) 32 rfl Try.underlying26 info83 rfl (by decide) (by omega) v178 y177 y180 _ _ _ (fun k_ => some k_ ≠ (.slice Ao15 t172.length co15 : Value).ownBlock ∧ some k_ ≠ (v188 : Value).ownBlock) (fun _ => False) rfl rfl ?aO ?aR (fun _ _ h => h) (fun _ h => h.elim) ?aF ?aB ?aS ?aL ?_
             (case aR => repeat (first | exact (Kd.C_below HR183.out HB.out) | (with_reducible refine Kd.C_alloc ?_ _) | (with_reducible refine Kd.C_drewN ?_ _) | (with_reducible refine Kd.C_drew ?_)))
             (case aB => exact (Cmp.g HB.out))
             (case aF => exact (fun k_ hk => ⟨Kd.fresh' (Kd.R_lt (Cmp.rr HO_176002.out)) k_ hk, Kd.fresh' (Kd.R_lt (Cmp.rr HO189.out)) k_ hk⟩))
             (case aO => exact (by refine Cmp.rr ?_; exact Kd.R_mono HO179.out (fun _ hk => ⟨hk.1.2, hk.2⟩)))
             (case aS => exact (below_size (Cmp.g HB.out)))
             (case aL => have := LMc30.out; omega)
             intro v185 w46 ho hb hg hat
             rw [← Ny184.out] at ho
             have n0_ := Aside0.mk (Kd.R_after (ok := (fun k_ => some k_ ≠ (v188 : Value).ownBlock)) (by refine Cmp.rr ?_; exact Kd.R_mono HO_176002.out (fun _ hk => ⟨hk.2, hk.1.2⟩)) hg hat)
             have n1_ := Aside0.mk (blk_grown (g := gb168) (o := .cells #[.int .i64 a0_0, .int .i64 a0_1, .slice A0_2 l0_2.length c0_2] 28 (0, 0)) (Cmp.b BK168.out) hg (Kd.R_ne HO179.out BK168.out (by decide)))
             have n2_ := Aside0.mk (blk_grown (g := gb169) (o := .cells #[.int .i64 0, .int .i64 0, .slice none 0 0] 28 (0, 0)) (Cmp.b BK169.out) hg (Kd.R_ne HO179.out BK169.out (by decide)))
             have n3_ := Aside0.mk (blk_grown (g := gb175) (o := .cells #[.int .i64 t170, .int .i64 t171, .slice Ao15 t172.length co15] 28 (0, 0)) (Cmp.b BK175.out) hg (Kd.R_ne HO179.out BK175.out (by decide)))
             have n4_ := Aside0.mk (Kd.R_after (ok := (fun k_ => some k_ ≠ (.slice Ao15 t172.length co15 : Value).ownBlock)) (by refine Cmp.rr ?_; exact Kd.R_mono HO189.out (fun _ hk => ⟨hk.1.2, hk.2⟩)) hg hat)
             have n5_ := Aside0.mk (hb)
             have n6_ := Aside0.mk (ho)
             clear HO_176002; clear BK168; clear BK169; clear BK175; clear HO189; clear HB; clear HO179; have HO_176002 := n0_; have BK168 := n1_; have BK169 := n2_; have BK175 := n3_; have HO189 := n4_; have HB := n5_; have HO186 := n6_; clear n0_ n1_ n2_ n3_ n4_ n5_ n6_; clear ho hb hg hat
             refine hK.out _ _ ⟨(blk_cell BK168.out 0).trans rfl, (blk_cell BK168.out 1).trans rfl, (blk_cell BK168.out 2).trans rfl⟩ (fun hHeld => ?_)
             clear hK K
             refine norm_ (a' := ?_) ?_ ?_
             rotate_left
             ·show Act.put _ (some 34) _ = _
              simp only [Act.put, Cmp.s, Cmp.z, Cmp.c, i64_w, i32_w]; rfl
             exact norm_ (by simp only [putAll, Act.put, List.setIfInBounds_toArray, List.set_cons_zero, List.set_cons_succ]) (hCont (v178, v185, v188) _ ⟨hHeld, (by refine Cmp.rr ?_; exact Kd.R_mono HO186.out (fun _ hk => ⟨hk.2, hk.1⟩)), (by refine Cmp.rr ?_; exact Kd.R_mono HO189.out (fun _ hk => ⟨hk.2, hk.1⟩)), (by refine Cmp.rr ?_; exact Kd.R_mono HO_176002.out (fun _ hk => ⟨hk.2, hk.1⟩)), (Cmp.b BK168.out), (Cmp.b BK169.out), (Cmp.b BK175.out), (Cmp.g HB.out)⟩)
           ·skip
            refine Kd.R_lit_step k83 _ 83 ?hg (N := 38) ?hd (xs := ([(⟨a1, a2, 0, false⟩ : S83)] : List (S83))) (inner := [.int .i64 a1, .int .i64 a2, .int .i64 0, .bool false]) (ok := fun _ => True) (okp := fun _ => True) ?hr ?hp (fun _ hk => hk) trivial (Below.refl _ _) (Nat.le_refl _) (by simp) ?_; (case hd => rfl); (case hg => rfl); (case hr => first | (go_simp; done) | (go_simp; rfl)); (case hp => exact (Reps.c4 (show Kd.M k83 _ _ _ (⟨a1, a2, 0, false⟩ : S83) [.int .i64 a1, .int .i64 a2, .int .i64 0, .bool false] from (k83_mkM _ _ _ (⟨a1, a2, 0, false⟩ : S83) )) (Reps.none _ _)))
            intro v188 w42 ho43 hb hg_ hnew_
            clear hg_ hnew_
            (first | rw [← Ny187.out] at ho43 | (simp only [Int.reduceToNat] at ho43; rw [← Ny187.out] at ho43))
            have n0_ := Aside0.mk (Kd.R_elder' (Cmp.rr HO_176002.out) (Kd.R_base ho43) hb)
            have n1_ := Aside0.mk (Kd.R_lower (Kd.R_new' ho43 (Kd.R_lt (Cmp.rr HO_176002.out))) (below_size (Cmp.g HB.out)))
            have n2_ := Aside0.mk (blk_below (Cmp.b BK168.out) hb)
            have n3_ := Aside0.mk (blk_below (Cmp.b BK169.out) hb)
            have n4_ := Aside0.mk (blk_below (Cmp.b BK175.out) hb)
            have n5_ := Aside0.mk (below_step (Cmp.g HB.out) hb)
            clear HO_176002; clear BK168; clear BK169; clear BK175; clear HB; have HO_176002 := n0_; have HO189 := n1_; have BK168 := n2_; have BK169 := n3_; have BK175 := n4_; have HB := n5_; clear n0_ n1_ n2_ n3_ n4_ n5_; clear hb ho43
            refine hK.out _ _ ⟨(blk_cell BK168.out 0).trans rfl, (blk_cell BK168.out 1).trans rfl, (blk_cell BK168.out 2).trans rfl⟩ (fun hHeld => ?_)
            clear hK K
            refine norm_ (a' := ?_) ?_ ?_
            rotate_left
            ·show Act.put _ (some 38) _ = _
             simp only [Act.put, Cmp.s, Cmp.z, Cmp.c, i64_w, i32_w]; rfl
            refine one_ (i := 0) (N := some 29) (Cmp.bb 18 31711) rfl rfl (one_of HT_.out (by kernel_rfl)) (by decide) (fun K hK => ?_)
            refine Kd.R_lit_step k83 _ 83 ?hg (N := 29) ?hd (xs := ([] : List (S83))) (inner := []) (ok := fun _ => True) (okp := fun _ => True) ?hr ?hp (fun _ hk => hk) trivial (Below.refl _ _) (Nat.le_refl _) (by simp) ?_; (case hd => rfl); (case hg => rfl); (case hr => first | (go_simp; done) | (go_simp; rfl)); (case hp => exact (Reps.none _ _))
            intro v178 w44 ho45 hb hg_ hnew_
            clear hg_ hnew_
            (first | rw [← Ny177.out] at ho45 | (simp only [Int.reduceToNat] at ho45; rw [← Ny177.out] at ho45))
            have n0_ := Aside0.mk (Kd.R_elder' (Cmp.rr HO_176002.out) (Kd.R_base ho45) hb)
            have n1_ := Aside0.mk (Kd.R_elder' (Cmp.rr HO189.out) (Kd.R_base ho45) hb)
            have n2_ := Aside0.mk (Kd.R_lower (Kd.R_new' (Kd.R_new' ho45 (Kd.R_lt (Cmp.rr HO_176002.out))) (Kd.R_lt (Cmp.rr HO189.out))) (below_size (Cmp.g HB.out)))
            have n3_ := Aside0.mk (blk_below (Cmp.b BK168.out) hb)
            have n4_ := Aside0.mk (blk_below (Cmp.b BK169.out) hb)
            have n5_ := Aside0.mk (blk_below (Cmp.b BK175.out) hb)
            have n6_ := Aside0.mk (below_step (Cmp.g HB.out) hb)
            clear HO_176002; clear HO189; clear BK168; clear BK169; clear BK175; clear HB; have HO_176002 := n0_; have HO189 := n1_; have HO179 := n2_; have BK168 := n3_; have BK169 := n4_; have BK175 := n5_; have HB := n6_; clear n0_ n1_ n2_ n3_ n4_ n5_ n6_; clear hb ho45
            refine hK.out _ _ ⟨(blk_cell BK168.out 0).trans rfl, (blk_cell BK168.out 1).trans rfl, (blk_cell BK168.out 2).trans rfl⟩ (fun hHeld => ?_)
            clear hK K
            refine norm_ (a' := ?_) ?_ ?_
            rotate_left
            ·show Act.put _ (some 29) _ = _
             simp only [Act.put, Cmp.s, Cmp.z, Cmp.c, i64_w, i32_w]; rfl
            refine one_ (i := 5) (N := some 34) (Cmp.bb 18 31743) rfl rfl (one_of HT_.out (by kernel_rfl)) (by decide) (fun K hK => ?_)
            refine Kd.R_append_rows_step k83 (w0 := w) w.heap.size (by rfl) (.tmp 29) (.tmp 33) 26 83 (.agg #[(.int .i64 0), (.int .i64 0), (.int .i64 0), (.bool false)]) 32 rfl Try.underlying26 info83 rfl (by decide) (by omega) v178 y177 y180 _ _ _ (fun k_ => some k_ ≠ (.slice Ao15 t172.length co15 : Value).ownBlock ∧ some k_ ≠ (v188 : Value).ownBlock) (fun _ => False) rfl rfl ?aO ?aR (fun _ _ h => h) (fun _ h => h.elim) ?aF ?aB ?aS ?aL ?_
            (case aR => repeat (first | exact (Kd.C_below HR183.out HB.out) | (with_reducible refine Kd.C_alloc ?_ _) | (with_reducible refine Kd.C_drewN ?_ _) | (with_reducible refine Kd.C_drew ?_)))
            (case aB => exact (Cmp.g HB.out))
            (case aF => exact (fun k_ hk => ⟨Kd.fresh' (Kd.R_lt (Cmp.rr HO_176002.out)) k_ hk, Kd.fresh' (Kd.R_lt (Cmp.rr HO189.out)) k_ hk⟩))
            (case aO => exact (by refine Cmp.rr ?_; exact Kd.R_mono HO179.out (fun _ hk => ⟨hk.1.2, hk.2⟩)))
            (case aS => exact (below_size (Cmp.g HB.out)))
            (case aL => have := LMc30.out; omega)
            intro v185 w46 ho hb hg hat
            rw [← Ny184.out] at ho
            have n0_ := Aside0.mk (Kd.R_after (ok := (fun k_ => some k_ ≠ (v188 : Value).ownBlock)) (by refine Cmp.rr ?_; exact Kd.R_mono HO_176002.out (fun _ hk => ⟨hk.1.2, hk.2⟩)) hg hat)
            have n1_ := Aside0.mk (blk_grown (g := gb168) (o := .cells #[.int .i64 a0_0, .int .i64 a0_1, .slice A0_2 l0_2.length c0_2] 28 (0, 0)) (Cmp.b BK168.out) hg (Kd.R_ne HO179.out BK168.out (by decide)))
            have n2_ := Aside0.mk (blk_grown (g := gb169) (o := .cells #[.int .i64 0, .int .i64 0, .slice none 0 0] 28 (0, 0)) (Cmp.b BK169.out) hg (Kd.R_ne HO179.out BK169.out (by decide)))
            have n3_ := Aside0.mk (blk_grown (g := gb175) (o := .cells #[.int .i64 t170, .int .i64 t171, .slice Ao15 t172.length co15] 28 (0, 0)) (Cmp.b BK175.out) hg (Kd.R_ne HO179.out BK175.out (by decide)))
            have n4_ := Aside0.mk (Kd.R_after (ok := (fun k_ => some k_ ≠ (.slice Ao15 t172.length co15 : Value).ownBlock)) (by refine Cmp.rr ?_; exact Kd.R_mono HO189.out (fun _ hk => ⟨hk.1.2, hk.2⟩)) hg hat)
            have n5_ := Aside0.mk (hb)
            have n6_ := Aside0.mk (ho)
            clear HO_176002; clear BK168; clear BK169; clear BK175; clear HO189; clear HB; clear HO179; have HO_176002 := n0_; have BK168 := n1_; have BK169 := n2_; have BK175 := n3_; have HO189 := n4_; have HB := n5_; have HO186 := n6_; clear n0_ n1_ n2_ n3_ n4_ n5_ n6_; clear ho hb hg hat
            refine hK.out _ _ ⟨(blk_cell BK168.out 0).trans rfl, (blk_cell BK168.out 1).trans rfl, (blk_cell BK168.out 2).trans rfl⟩ (fun hHeld => ?_)
            clear hK K
            refine norm_ (a' := ?_) ?_ ?_
            rotate_left
            ·show Act.put _ (some 34) _ = _
             simp only [Act.put, Cmp.s, Cmp.z, Cmp.c, i64_w, i32_w]; rfl
            exact norm_ (by simp only [putAll, Act.put, List.setIfInBounds_toArray, List.set_cons_zero, List.set_cons_succ]) (hCont (v178, v185, v188) _ ⟨hHeld, (by refine Cmp.rr ?_; exact Kd.R_mono HO186.out (fun _ hk => ⟨hk.2, hk.1⟩)), (by refine Cmp.rr ?_; exact Kd.R_mono HO189.out (fun _ hk => ⟨hk.2, hk.1⟩)), (by refine Cmp.rr ?_; exact Kd.R_mono HO_176002.out (fun _ hk => ⟨hk.2, hk.1⟩)), (Cmp.b BK168.out), (Cmp.b BK169.out), (Cmp.b BK175.out), (Cmp.g HB.out)⟩)
          rintro ⟨v178, v185, v188⟩ w47 ⟨hS_, h0_, h1_, h2_, h3_, h4_, h5_, h6_⟩
          have n0_ : Aside0 (Kd.R k83 83 w47 w.heap.size (fun k_ => some k_ ≠ (v188 : Value).ownBlock ∧ some k_ ≠ (.slice Ao15 t172.length co15 : Value).ownBlock) v185 y184) := ⟨h0_⟩
          have n1_ : Aside0 (Kd.R k83 83 w47 w.heap.size (fun k_ => some k_ ≠ (v185 : Value).ownBlock ∧ some k_ ≠ (.slice Ao15 t172.length co15 : Value).ownBlock) v188 y187) := ⟨h1_⟩
          have n2_ : Aside0 (Kd.R k83 83 w47 w.heap.size (fun k_ => some k_ ≠ (v185 : Value).ownBlock ∧ some k_ ≠ (v188 : Value).ownBlock) (.slice Ao15 t172.length co15) t172) := ⟨h2_⟩
          have n3_ : Aside0 (w47.heap[gb168]? = some (.cells #[.int .i64 a0_0, .int .i64 a0_1, .slice A0_2 l0_2.length c0_2] 28 (0, 0))) := ⟨h3_⟩
          have n4_ : Aside0 (w47.heap[gb169]? = some (.cells #[.int .i64 0, .int .i64 0, .slice none 0 0] 28 (0, 0))) := ⟨h4_⟩
          have n5_ : Aside0 (w47.heap[gb175]? = some (.cells #[.int .i64 t170, .int .i64 t171, .slice Ao15 t172.length co15] 28 (0, 0))) := ⟨h5_⟩
          have n6_ : Aside0 (Below w.heap.size w w47) := ⟨h6_⟩
          clear HO_176002; clear BK168; clear BK169; clear BK175; clear HB; clear h0_ h1_ h2_ h3_ h4_ h5_ h6_; have HO186 := n0_; have HO189 := n1_; have HO_176002 := n2_; have BK168 := n3_; have BK169 := n4_; have BK175 := n5_; have HB := n6_; clear n0_ n1_ n2_ n3_ n4_ n5_ n6_
          have hHeld : w47.cell? ⟨gb168, 0, none⟩ = some (.int .i64 a0_0) ∧ w47.cell? ⟨gb168, 1, none⟩ = some (.int .i64 a0_1) ∧ w47.cell? ⟨gb168, 2, none⟩ = some (.slice A0_2 l0_2.length c0_2) := hS_
          obtain ⟨Ao49, co49, eo49⟩ := Kd.R_slice HO189.out
          (first | subst eo49 | (injection eo49 with f1_ f2_ f3_; have f4_ := f1_.symm; have f5_ := f3_.symm; clear f1_ f2_ f3_; subst f4_; subst f5_))
          refine norm_ (a' := ?_) ?_ ?_
          rotate_left
          ·simp only [putAll, Act.put, List.setIfInBounds_toArray, List.set_cons_zero, List.set_cons_succ]; rfl
          refine one_ (i := 10) (N := some 39) (Cmp.bm 15 3) rfl rfl (one_of HT_.out (by kernel_rfl)) (by decide) (fun K hK => ?_)
          refine Kd.R_append_rows_step k83 (w0 := w) w.heap.size (by rfl) (.tmp 34) (.tmp 38) 26 83 (.agg #[(.int .i64 0), (.int .i64 0), (.int .i64 0), (.bool false)]) 32 rfl Try.underlying26 info83 rfl (by decide) (by omega) v185 y184 y187 _ _ _ (fun k_ => some k_ ≠ (.slice Ao15 t172.length co15 : Value).ownBlock ∧ some k_ ≠ (.slice Ao49 y187.length co49 : Value).ownBlock) (fun _ => False) rfl rfl ?aO ?aR (fun _ _ h => h) (fun _ h => h.elim) ?aF ?aB ?aS ?aL ?_
          (case aR => repeat (first | exact (Kd.R_reads' HO189.out).2.2 | (with_reducible refine Kd.C_alloc ?_ _) | (with_reducible refine Kd.C_drewN ?_ _) | (with_reducible refine Kd.C_drew ?_)))
          (case aB => exact (Cmp.g HB.out))
          (case aF => exact (fun k_ hk => ⟨Kd.fresh' (Kd.R_lt (Cmp.rr HO_176002.out)) k_ hk, Kd.fresh' (Kd.R_lt (Cmp.rr HO189.out)) k_ hk⟩))
          (case aO => exact (by refine Cmp.rr ?_; exact Kd.R_mono HO186.out (fun _ hk => ⟨hk.2, hk.1⟩)))
          (case aS => exact (below_size (Cmp.g HB.out)))
          (case aL => have := LMc31.out; omega)
          intro v191 w48 ho hb hg hat
          rw [← Ny190.out] at ho
          have n0_ := Aside0.mk (Kd.R_after (ok := (fun k_ => some k_ ≠ (.slice Ao49 y187.length co49 : Value).ownBlock)) (by refine Cmp.rr ?_; exact Kd.R_mono HO_176002.out (fun _ hk => ⟨hk.2, hk.1⟩)) hg hat)
          have n1_ := Aside0.mk (blk_grown (g := gb168) (o := .cells #[.int .i64 a0_0, .int .i64 a0_1, .slice A0_2 l0_2.length c0_2] 28 (0, 0)) (Cmp.b BK168.out) hg (Kd.R_ne HO186.out BK168.out (by decide)))
          have n2_ := Aside0.mk (blk_grown (g := gb169) (o := .cells #[.int .i64 0, .int .i64 0, .slice none 0 0] 28 (0, 0)) (Cmp.b BK169.out) hg (Kd.R_ne HO186.out BK169.out (by decide)))
          have n3_ := Aside0.mk (blk_grown (g := gb175) (o := .cells #[.int .i64 t170, .int .i64 t171, .slice Ao15 t172.length co15] 28 (0, 0)) (Cmp.b BK175.out) hg (Kd.R_ne HO186.out BK175.out (by decide)))
          have n4_ := Aside0.mk (Kd.R_after (ok := (fun k_ => some k_ ≠ (.slice Ao15 t172.length co15 : Value).ownBlock)) (by refine Cmp.rr ?_; exact Kd.R_mono HO189.out (fun _ hk => ⟨hk.2, hk.1⟩)) hg hat)
          have n5_ := Aside0.mk (hb)
          have n6_ := Aside0.mk (ho)
          clear HO_176002; clear BK168; clear BK169; clear BK175; clear HO189; clear HB; clear HO186; have HO_176002 := n0_; have BK168 := n1_; have BK169 := n2_; have BK175 := n3_; have HO189 := n4_; have HB := n5_; have HO192 := n6_; clear n0_ n1_ n2_ n3_ n4_ n5_ n6_; clear ho hb hg hat
          refine hK.out _ _ ⟨(blk_cell BK168.out 0).trans rfl, (blk_cell BK168.out 1).trans rfl, (blk_cell BK168.out 2).trans rfl⟩ (fun hHeld => ?_)
          clear hK K
          refine norm_ (a' := ?_) ?_ ?_
          rotate_left
          ·show Act.put _ (some 39) _ = _
           simp only [Act.put, Cmp.s, Cmp.z, Cmp.c, i64_w, i32_w]; rfl
          refine one_ (i := 15) (N := some 44) (Cmp.bm 16 2) rfl rfl (one_of HT_.out (by kernel_rfl)) (by decide) (fun K hK => ?_)
          refine Kd.R_append_rows_step k83 (w0 := w) w.heap.size (by rfl) (.tmp 39) (.tmp 43) 26 83 (.agg #[(.int .i64 0), (.int .i64 0), (.int .i64 0), (.bool false)]) 32 rfl Try.underlying26 info83 rfl (by decide) (by omega) v191 y190 y193 _ _ _ (fun k_ => some k_ ≠ (.slice Ao15 t172.length co15 : Value).ownBlock ∧ some k_ ≠ (.slice Ao49 y187.length co49 : Value).ownBlock) (fun _ => False) rfl rfl ?aO ?aR (fun _ _ h => h) (fun _ h => h.elim) ?aF ?aB ?aS ?aL ?_
          (case aR => repeat (first | exact (Kd.C_below HR196.out HB.out) | (with_reducible refine Kd.C_alloc ?_ _) | (with_reducible refine Kd.C_drewN ?_ _) | (with_reducible refine Kd.C_drew ?_)))
          (case aB => exact (Cmp.g HB.out))
          (case aF => exact (fun k_ hk => ⟨Kd.fresh' (Kd.R_lt (Cmp.rr HO_176002.out)) k_ hk, Kd.fresh' (Kd.R_lt (Cmp.rr HO189.out)) k_ hk⟩))
          (case aO => exact (Cmp.rr HO192.out))
          (case aS => exact (below_size (Cmp.g HB.out)))
          (case aL => have := LMc34.out; omega)
          intro v198 w50 ho hb hg hat
          rw [← Ny197.out] at ho
          have n0_ := Aside0.mk (Kd.R_after (ok := (fun k_ => some k_ ≠ (.slice Ao49 y187.length co49 : Value).ownBlock)) (Cmp.rr HO_176002.out) hg hat)
          have n1_ := Aside0.mk (blk_grown (g := gb168) (o := .cells #[.int .i64 a0_0, .int .i64 a0_1, .slice A0_2 l0_2.length c0_2] 28 (0, 0)) (Cmp.b BK168.out) hg (Kd.R_ne HO192.out BK168.out (by decide)))
          have n2_ := Aside0.mk (blk_grown (g := gb169) (o := .cells #[.int .i64 0, .int .i64 0, .slice none 0 0] 28 (0, 0)) (Cmp.b BK169.out) hg (Kd.R_ne HO192.out BK169.out (by decide)))
          have n3_ := Aside0.mk (blk_grown (g := gb175) (o := .cells #[.int .i64 t170, .int .i64 t171, .slice Ao15 t172.length co15] 28 (0, 0)) (Cmp.b BK175.out) hg (Kd.R_ne HO192.out BK175.out (by decide)))
          have n4_ := Aside0.mk (Kd.R_after (ok := (fun k_ => some k_ ≠ (.slice Ao15 t172.length co15 : Value).ownBlock)) (Cmp.rr HO189.out) hg hat)
          have n5_ := Aside0.mk (hb)
          have n6_ := Aside0.mk (ho)
          clear HO_176002; clear BK168; clear BK169; clear BK175; clear HO189; clear HB; clear HO192; have HO_176002 := n0_; have BK168 := n1_; have BK169 := n2_; have BK175 := n3_; have HO189 := n4_; have HB := n5_; have HO199 := n6_; clear n0_ n1_ n2_ n3_ n4_ n5_ n6_; clear ho hb hg hat
          obtain ⟨Ao51, co51, eo51⟩ := Kd.R_slice HO199.out
          (first | subst eo51 | (injection eo51 with f1_ f2_ f3_; have f4_ := f1_.symm; have f5_ := f3_.symm; clear f1_ f2_ f3_; subst f4_; subst f5_))
          refine hK.out _ _ ⟨(blk_cell BK168.out 0).trans rfl, (blk_cell BK168.out 1).trans rfl, (blk_cell BK168.out 2).trans rfl⟩ (fun hHeld => ?_)
          clear hK K
          refine norm_ (a' := ?_) ?_ ?_
          rotate_left
          ·show Act.put _ (some 44) _ = _
           simp only [Act.put, Cmp.s, Cmp.z, Cmp.c, i64_w, i32_w]; rfl
          refine Cmp.pu HT_ 16 45 (Cmp.bm 17 1) ?_
          refine one_ (i := 17) (N := none) (Cmp.bm 18 0) rfl rfl (one_of HT_.out (by kernel_rfl)) (by decide) (fun K hK => ?_)
          have hs52 : w50.cell? ⟨gb175, 2, none⟩ = some (.slice Ao15 t172.length co15) := (blk_cell BK175.out 2).trans rfl
          have hfs52 := blk_frozen BK175.out 2; have hns52_0 := NB168_175.out; have hns52_1 := NB169_175.out; have hms52_0 := NB175_168.out; have hms52_1 := NB175_169.out
          refine skip_ (w1 := ?_) (by rfl) rfl ?_ ?_
          rotate_left
          ·go_simp; rfl
          refine hK.out _ _ ⟨((cell_far (p := ⟨gb175, _, none⟩) NB168_175.out _).trans (hHeld.1)), ((cell_far (p := ⟨gb175, _, none⟩) NB168_175.out _).trans (hHeld.2.1)), ((cell_far (p := ⟨gb175, _, none⟩) NB168_175.out _).trans (hHeld.2.2))⟩ (fun hHeld => ?_)
          clear hK K
          refine done_ (done_of HT_.out (by kernel_rfl)) ?_
          have hnb53 := NB168_169.out; have hnc53 := NB169_168.out; have hnb54 := NB168_175.out; have hnc54 := NB175_168.out
          have hcz55_0 : w50.cell? ⟨gb168, 0, none⟩ = some (.int .i64 a0_0) := (blk_cell BK168.out 0).trans rfl
          have hcz55_1 : w50.cell? ⟨gb168, 1, none⟩ = some (.int .i64 a0_1) := (blk_cell BK168.out 1).trans rfl
          have hcz55_2 : w50.cell? ⟨gb168, 2, none⟩ = some (.slice A0_2 l0_2.length c0_2) := (blk_cell BK168.out 2).trans rfl
          have hfz55_0 := blk_frozen BK168.out 0; have hfz55_1 := blk_frozen BK168.out 1; have hfz55_2 := blk_frozen BK168.out 2
          try go_wp2_with (first | ((with_reducible refine gate_callee (f := 45) rfl ?_); refine goesL_ (some 47) rfl rfl Try.func45 (by kernel_rfl) rfl #[.agg #[.int .i64 a0_0, .int .i64 a0_1, .slice A0_2 l0_2.length c0_2]] rfl Cmp.q ?_; (with_reducible refine (spec_IsValidAccount.calls kj4 a0_0 a0_1 _ _ l0_2 true _ ?side1 ?side2 A35.out).mono ?_); (case side1 => exact Kd.C_below HR0_2.out (Cmp.g HB.out)); (case side2 => exact HC0_2.out); rintro e w56 ⟨rfl, hb⟩; refine ⟨_, rfl, ?_⟩; have n0_ := Aside0.mk (Kd.R_below (by refine Cmp.rr ?_; exact (Kd.R_mono (Kd.R_far (p := ⟨gb175, 2, none⟩) (Kd.R_types HO_176002.out BK175.out (by decide)) (fun _ hk => hk.2) (.slice Ao51 y197.length co51)) (fun _ h_ => h_.1))) hb); have n1_ := Aside0.mk (Kd.R_below (by refine Cmp.rr ?_; exact (Kd.R_mono (Kd.R_far (p := ⟨gb175, 2, none⟩) (Kd.R_types HO189.out BK175.out (by decide)) (fun _ hk => hk.2) (.slice Ao51 y197.length co51)) (fun _ h_ => h_.1))) hb); have n2_ := Aside0.mk (Kd.R_below (by refine Cmp.rr ?_; exact (Kd.R_mono (Kd.R_far (p := ⟨gb175, 2, none⟩) (Kd.R_types HO199.out BK175.out (by decide)) (fun _ hk => hk.2) (.slice Ao51 y197.length co51)) (fun _ h_ => h_.1))) hb); have n3_ := Aside0.mk (blk_below (g := gb168) (o := .cells #[.int .i64 a0_0, .int .i64 a0_1, .slice A0_2 l0_2.length c0_2] 28 (0, 0)) (by refine Cmp.b ?_; refine blk_far ?_ NB168_175.out _; refine Cmp.b ?_; exact BK168.out) hb); have n4_ := Aside0.mk (blk_below (g := gb169) (o := .cells #[.int .i64 0, .int .i64 0, .slice none 0 0] 28 (0, 0)) (by refine Cmp.b ?_; refine blk_far ?_ NB169_175.out _; refine Cmp.b ?_; exact BK169.out) hb); have n5_ := Aside0.mk (blk_below (g := gb175) (o := .cells #[.int .i64 t170, .int .i64 t171, .slice Ao51 y197.length co51] 28 (0, 0)) (by refine Cmp.b ?_; refine blk_put (cs := #[.int .i64 t170, .int .i64 t171, .slice Ao15 t172.length co15]) ?_ 2 _ rfl; refine Cmp.b ?_; exact BK175.out) hb); have n6_ := Aside0.mk (below_step (Cmp.g HB.out) hb); clear HO_176002; clear HO189; clear HO199; clear BK168; clear BK169; clear BK175; clear HB; have HO_176002 := n0_; have HO189 := n1_; have HO199 := n2_; have BK168 := n3_; have BK169 := n4_; have BK175 := n5_; have HB := n6_; clear n0_ n1_ n2_ n3_ n4_ n5_ n6_; (try clear hb); (try clear hb2); (try clear hk); (try clear hi); have hnb57 := NB175_169.out; have hnc57 := NB169_175.out; have hcz58_0 : w56.cell? ⟨gb175, 0, none⟩ = some (.int .i64 t170) := (blk_cell BK175.out 0).trans rfl; have hcz58_1 : w56.cell? ⟨gb175, 1, none⟩ = some (.int .i64 t171) := (blk_cell BK175.out 1).trans rfl; have hcz58_2 : w56.cell? ⟨gb175, 2, none⟩ = some (.slice Ao51 y197.length co51) := (blk_cell BK175.out 2).trans rfl; have hfz58_0 := blk_frozen BK175.out 0; have hfz58_1 := blk_frozen BK175.out 1; have hfz58_2 := blk_frozen BK175.out 2) | (go_at_call 45; (with_reducible refine (spec_IsValidAccount.calls kj4 t170 t171 _ _ y197 true _ ?side1 ?side2 A37.out).mono ?_); (case side1 => exact Cmp.rc (Kd.R_reads' HO199.out).2.2); (case side2 => exact (Kd.R_reads' HO199.out).2.1); rintro e w59 ⟨rfl, hb⟩; have n0_ := Aside0.mk (Kd.R_below (Cmp.rr HO_176002.out) hb); have n1_ := Aside0.mk (Kd.R_below (Cmp.rr HO189.out) hb); have n2_ := Aside0.mk (Kd.R_below (Cmp.rr HO199.out) hb); have n3_ := Aside0.mk (blk_below (Cmp.b BK168.out) hb); have n4_ := Aside0.mk (blk_below (Cmp.b BK169.out) hb); have n5_ := Aside0.mk (blk_below (Cmp.b BK175.out) hb); have n6_ := Aside0.mk (below_step (Cmp.g HB.out) hb); clear HO_176002; clear HO189; clear HO199; clear BK168; clear BK169; clear BK175; clear HB; have HO_176002 := n0_; have HO189 := n1_; have HO199 := n2_; have BK168 := n3_; have BK169 := n4_; have BK175 := n5_; have HB := n6_; clear n0_ n1_ n2_ n3_ n4_ n5_ n6_; (try clear hb); (try clear hb2); (try clear hk); (try clear hi); have hcz60_0 : w59.cell? ⟨gb175, 0, none⟩ = some (.int .i64 t170) := (blk_cell BK175.out 0).trans rfl; have hcz60_1 : w59.cell? ⟨gb175, 1, none⟩ = some (.int .i64 t171) := (blk_cell BK175.out 1).trans rfl; have hcz60_2 : w59.cell? ⟨gb175, 2, none⟩ = some (.slice Ao51 y197.length co51) := (blk_cell BK175.out 2).trans rfl; have hfz60_0 := blk_frozen BK175.out 0; have hfz60_1 := blk_frozen BK175.out 1; have hfz60_2 := blk_frozen BK175.out 2; have hcz61_0 : w59.cell? ⟨gb169, 0, none⟩ = some (.int .i64 0) := (blk_cell BK169.out 0).trans rfl; have hcz61_1 : w59.cell? ⟨gb169, 1, none⟩ = some (.int .i64 0) := (blk_cell BK169.out 1).trans rfl; have hcz61_2 : w59.cell? ⟨gb169, 2, none⟩ = some (.slice none 0 0) := (blk_cell BK169.out 2).trans rfl; have hfz61_0 := blk_frozen BK169.out 0; have hfz61_1 := blk_frozen BK169.out 1; have hfz61_2 := blk_frozen BK169.out 2))
          refine bodyPost_ret (results_ct rfl _ _ gb169 28 #[.int .i64 t170, .int .i64 t171, .slice Ao51 y197.length co51] (0, 0) _ rfl (by refine Cmp.b ?_; refine blk_put (cs := #[.int .i64 t170, .int .i64 t171, .slice none 0 0]) ?_ 2 _ rfl; refine Cmp.b ?_; refine blk_put (cs := #[.int .i64 t170, .int .i64 0, .slice none 0 0]) ?_ 1 _ rfl; refine Cmp.b ?_; refine blk_put (cs := #[.int .i64 0, .int .i64 0, .slice none 0 0]) ?_ 0 _ rfl; refine Cmp.b ?_; exact BK169.out) Try.underlying28 rfl (by kernel_rfl)) rfl ?_
          exact ⟨_, by first | rfl | (simp [errW_none, errW_some] <;> rfl) | (simp [*, errW_none, errW_some] <;> rfl), by refine Cmp.rr ?_; exact Kd.R_mono (Kd.R_far (p := ⟨gb169, 2, none⟩) (Kd.R_far (p := ⟨gb169, 1, none⟩) (Kd.R_far (p := ⟨gb169, 0, none⟩) (Kd.R_types HO199.out BK169.out (by decide)) (fun _ hk => hk.2) (.int .i64 t170)) (fun _ hk => hk.2) (.int .i64 t171)) (fun _ hk => hk.2) (.slice Ao51 y197.length co51)) (fun _ hk => trivial), Cmp.g HB.out⟩
         ·replace c38 := Bool.eq_false_iff.mpr c38
          subst c38
          have H1 : ((spec_l14Copy.f a0_0 a0_1 l0_2).bind fun bt202 => (some (bt202.1, bt202.2.1, bt202.2.2, false))) = some (r1, r2, r3, r4) := by rw [if_neg (show ¬ (false = true) by decide)] at H; exact H
          clear H; have H := H1; clear H1; replace H := Option.bind_eq_some_iff.mp H; obtain ⟨⟨t202, t203, t204⟩, A620, H⟩ := H; (try dsimp only at H); have A62 := Aside0.mk A620; clear A620
          simp only [Option.some.injEq, Prod.mk.injEq] at H
          obtain ⟨rfl, rfl, rfl, rfl⟩ := H
          try go_wp2
          have n0_ := Aside0.mk (Kd.R_drew HO_176002.out); have n1_ := Aside0.mk (blk_drew BK168.out); have n2_ := Aside0.mk (blk_drew BK169.out); have n3_ := Aside0.mk (blk_drew BK175.out); have n4_ := Aside0.mk (below_drew1 HB.out); clear HO_176002; clear BK168; clear BK169; clear BK175; clear HB; have HO_176002 := n0_; have BK168 := n1_; have BK169 := n2_; have BK175 := n3_; have HB := n4_; clear n0_ n1_ n2_ n3_ n4_
          have q64 : (x9_4 : Int) ≤ ((l0_2.length : Int) : Int) := of_decide_eq_true Cmp.d
          obtain ⟨i064, hi064, _, hsz64, _⟩ := info_parts info83
          have hroom64 : l0_2.length ≤ c0_2 := HC0_2.out
          have hC64 : Kd.C k83 _ A0_2 l0_2.length l0_2 := HR0_2.out
          have hcut64 := cut_to (P := Try.prog) 26 83 .i64 Try.underlying26 hi064 A0_2 l0_2.length c0_2 x9_4 (of_decide_eq_true Cmp.d) q64 hroom64
          have hr64 := Kd.C_take (m := (x9_4 : Int).toNat) hC64 (by omega)
          have hy64 : y180.length = (x9_4 : Int).toNat := (by rw [Ny180.out, List.length_take]; omega)
          rw [← Ny180.out] at hr64
          rw [← hy64] at hcut64
          have HR183 := Aside0.mk hr64
          have HC183 := Aside0.mk (show y180.length ≤ c0_2 from by omega)
          clear hr64 hC64 hroom64 hi064 hsz64; have KY64 := Aside0.mk hy64; clear hy64; replace q64 := eq_true q64
          have q65 : (x9_4 : Int) ≤ ((l0_2.length : Int) : Int) := of_decide_eq_true Cmp.d
          obtain ⟨i065, hi065, _, hsz65, _⟩ := info_parts info83
          have hroom65 : l0_2.length ≤ c0_2 := HC0_2.out
          have hC65 : Kd.C k83 _ A0_2 l0_2.length l0_2 := HR0_2.out
          have q065 : (0 : Int) ≤ (x9_4 : Int) := of_decide_eq_true Cmp.d
          have hcut65 := cut_from (P := Try.prog) 26 83 .i64 Try.underlying26 hi065 4 hsz65 A0_2 l0_2.length c0_2 x9_4 q065 q65
          have hr65 := Kd.C_drop (m := (x9_4 : Int).toNat) (c := c0_2) hC65 (by omega) hroom65
          obtain ⟨A65, hA65⟩ : ∃ A1, A1 = (if c0_2 = (x9_4 : Int).toNat then A0_2 else (A0_2 : Option Addr).map (·.add ((x9_4 : Int).toNat * 4))) := ⟨_, rfl⟩
          obtain ⟨c65, hc65⟩ : ∃ c1, c1 = c0_2 - (x9_4 : Int).toNat := ⟨_, rfl⟩
          have hy65 : y193.length = l0_2.length - (x9_4 : Int).toNat := (by rw [Ny193.out, List.length_drop] <;> omega)
          rw [show (l0_2).drop (x9_4 : Int).toNat = y193 from Ny193.out.symm] at hr65
          replace hr65 : Kd.C k83 _ A65 y193.length y193 := (by rw [hA65]; exact hr65)
          rw [← hy65, ← hA65, ← hc65] at hcut65
          have HR196 := Aside0.mk hr65
          have HC196 := Aside0.mk (show y193.length ≤ c65 from by rw [hy65, hc65]; exact Nat.sub_le_sub_right hroom65 _)
          clear hr65 hC65 hroom65 hi065 hsz65 hc65; have KY65 := Aside0.mk hy65; have KA65 := Aside0.mk hA65; clear hy65 hA65; replace q65 := eq_true q65
          refine start_ (n := 18) (S := fun w' => w'.cell? ⟨gb168, 0, none⟩ = some (.int .i64 a0_0) ∧ w'.cell? ⟨gb168, 1, none⟩ = some (.int .i64 a0_1) ∧ w'.cell? ⟨gb168, 2, none⟩ = some (.slice A0_2 l0_2.length c0_2)) (ds := []) (Cmp.bm 0 18) (by kernel_rfl) rfl rfl ⟨(blk_cell BK168.out 0).trans rfl, (blk_cell BK168.out 1).trans rfl, (blk_cell BK168.out 2).trans rfl⟩ (fun hHeld => ?_); refine with_tabW spec_AddCredential.tab5 spec_AddCredential.bits5 (fun HT_ HW_ => ?_)
          generalize wc.drew = w63 at HO_176002 BK168 BK169 BK175 HB HR183 HR196 hHeld ⊢
          refine Cmp.pu HT_ 1 30 (Cmp.bb 18 2) ?_; refine Cmp.pu HT_ 3 32 (Cmp.bb 18 10) ?_; refine Cmp.pu HT_ 6 35 (Cmp.bb 18 74) ?_; refine Cmp.pu HT_ 7 36 (Cmp.bb 18 202) ?_; refine Cmp.pu HT_ 8 37 (Cmp.bb 18 458) ?_; refine Cmp.pu HT_ 11 40 (Cmp.bb 18 2506) ?_; refine Cmp.pu HT_ 13 42 (Cmp.bb 18 10698) ?_; refine Cmp.tk HT_ HW_ hHeld 2 31 (Cmp.bb 18 10702) ?_; refine Cmp.pu HT_ 4 33 (Cmp.bb 18 10718) ?_; refine Cmp.tk HT_ HW_ hHeld 12 41 (Cmp.bb 18 14814) ?_; refine Cmp.pu HT_ 14 43 (Cmp.bb 18 31198) ?_
          refine join_ (σ := Value × Value × Value) 4 (Cmp.bb 18 31743) (fun s_ => [(29, s_.1), (34, s_.2.1), (38, s_.2.2)]) (fun s_ w' => (w'.cell? ⟨gb168, 0, none⟩ = some (.int .i64 a0_0) ∧ w'.cell? ⟨gb168, 1, none⟩ = some (.int .i64 a0_1) ∧ w'.cell? ⟨gb168, 2, none⟩ = some (.slice A0_2 l0_2.length c0_2)) ∧ (Kd.R k83 83 w' w.heap.size (fun k_ => some k_ ≠ (s_.2.2 : Value).ownBlock ∧ some k_ ≠ (.slice Ao15 t172.length co15 : Value).ownBlock) s_.2.1 y184) ∧ (Kd.R k83 83 w' w.heap.size (fun k_ => some k_ ≠ (s_.2.1 : Value).ownBlock ∧ some k_ ≠ (.slice Ao15 t172.length co15 : Value).ownBlock) s_.2.2 y187) ∧ (Kd.R k83 83 w' w.heap.size (fun k_ => some k_ ≠ (s_.2.1 : Value).ownBlock ∧ some k_ ≠ (s_.2.2 : Value).ownBlock) (.slice Ao15 t172.length co15) t172) ∧ (w'.heap[gb168]? = some (.cells #[.int .i64 a0_0, .int .i64 a0_1, .slice A0_2 l0_2.length c0_2] 28 (0, 0))) ∧ (w'.heap[gb169]? = some (.cells #[.int .i64 0, .int .i64 0, .slice none 0 0] 28 (0, 0))) ∧ (w'.heap[gb175]? = some (.cells #[.int .i64 t170, .int .i64 t171, .slice Ao15 t172.length co15] 28 (0, 0))) ∧ (Below w.heap.size w w')) ?_ ?_
          rotate_left
          ·intro hCont
           refine two_ (i := 0) (j := 9) (Ni := some 29) (Nj := some 38) (Cmp.bb 18 31199) (Cmp.bb 18 31710) rfl rfl rfl rfl (two_of HT_.out (by kernel_rfl)) (by decide) (by decide) (fun K hK => ?_) (fun K hK => ?_)
           ·skip
            refine Kd.R_lit_step k83 _ 83 ?hg (N := 29) ?hd (xs := ([] : List (S83))) (inner := []) (ok := fun _ => True) (okp := fun _ => True) ?hr ?hp (fun _ hk => hk) trivial (Below.refl _ _) (Nat.le_refl _) (by simp) ?_; (case hd => rfl); (case hg => rfl); (case hr => first | (go_simp; done) | (go_simp; rfl)); (case hp => exact (Reps.none _ _))
            intro v178 w66 ho67 hb hg_ hnew_
            clear hg_ hnew_
            (first | rw [← Ny177.out] at ho67 | (simp only [Int.reduceToNat] at ho67; rw [← Ny177.out] at ho67))
            have n0_ := Aside0.mk (Kd.R_elder' (Cmp.rr HO_176002.out) (Kd.R_base ho67) hb)
            have n1_ := Aside0.mk (Kd.R_lower (Kd.R_new' ho67 (Kd.R_lt (Cmp.rr HO_176002.out))) (below_size (Cmp.g HB.out)))
            have n2_ := Aside0.mk (blk_below (Cmp.b BK168.out) hb)
            have n3_ := Aside0.mk (blk_below (Cmp.b BK169.out) hb)
            have n4_ := Aside0.mk (blk_below (Cmp.b BK175.out) hb)
            have n5_ := Aside0.mk (below_step (Cmp.g HB.out) hb)
            clear HO_176002; clear BK168; clear BK169; clear BK175; clear HB; have HO_176002 := n0_; have HO179 := n1_; have BK168 := n2_; have BK169 := n3_; have BK175 := n4_; have HB := n5_; clear n0_ n1_ n2_ n3_ n4_ n5_; clear hb ho67
            refine hK.out _ _ ⟨(blk_cell BK168.out 0).trans rfl, (blk_cell BK168.out 1).trans rfl, (blk_cell BK168.out 2).trans rfl⟩ (fun hHeld => ?_)
            clear hK K
            refine norm_ (a' := ?_) ?_ ?_
            rotate_left
            ·show Act.put _ (some 29) _ = _
             simp only [Act.put, Cmp.s, Cmp.z, Cmp.c, i64_w, i32_w]; rfl
            refine two_ (i := 5) (j := 9) (Ni := some 34) (Nj := some 38) (Cmp.bb 18 31231) (Cmp.bb 18 31711) rfl rfl rfl rfl (two_of HT_.out (by kernel_rfl)) (by decide) (by decide) (fun K hK => ?_) (fun K hK => ?_)
            ·skip
             refine Kd.R_append_rows_step k83 (w0 := w) w.heap.size (by rfl) (.tmp 29) (.tmp 33) 26 83 (.agg #[(.int .i64 0), (.int .i64 0), (.int .i64 0), (.bool false)]) 32 rfl Try.underlying26 info83 rfl (by decide) (by omega) v178 y177 y180 _ _ _ (fun k_ => some k_ ≠ (.slice Ao15 t172.length co15 : Value).ownBlock) (fun _ => False) rfl rfl ?aO ?aR (fun _ _ h => h) (fun _ h => h.elim) ?aF ?aB ?aS ?aL ?_
             (case aR => repeat (first | exact (Kd.C_below HR183.out HB.out) | (with_reducible refine Kd.C_alloc ?_ _) | (with_reducible refine Kd.C_drewN ?_ _) | (with_reducible refine Kd.C_drew ?_)))
             (case aB => exact (Cmp.g HB.out))
             (case aF => exact (fun k_ hk => Kd.fresh' (Kd.R_lt (Cmp.rr HO_176002.out)) k_ hk))
             (case aO => exact (by refine Cmp.rr ?_; exact Kd.R_mono HO179.out (fun _ hk => hk.2)))
             (case aS => exact (below_size (Cmp.g HB.out)))
             (case aL => have := LMc30.out; omega)
             intro v185 w68 ho hb hg hat
             rw [← Ny184.out] at ho
             have n0_ := Aside0.mk (Kd.R_after (ok := (fun _ => True)) (Cmp.rr HO_176002.out) hg hat)
             have n1_ := Aside0.mk (blk_grown (g := gb168) (o := .cells #[.int .i64 a0_0, .int .i64 a0_1, .slice A0_2 l0_2.length c0_2] 28 (0, 0)) (Cmp.b BK168.out) hg (Kd.R_ne HO179.out BK168.out (by decide)))
             have n2_ := Aside0.mk (blk_grown (g := gb169) (o := .cells #[.int .i64 0, .int .i64 0, .slice none 0 0] 28 (0, 0)) (Cmp.b BK169.out) hg (Kd.R_ne HO179.out BK169.out (by decide)))
             have n3_ := Aside0.mk (blk_grown (g := gb175) (o := .cells #[.int .i64 t170, .int .i64 t171, .slice Ao15 t172.length co15] 28 (0, 0)) (Cmp.b BK175.out) hg (Kd.R_ne HO179.out BK175.out (by decide)))
             have n4_ := Aside0.mk (hb)
             have n5_ := Aside0.mk (ho)
             clear HO_176002; clear BK168; clear BK169; clear BK175; clear HB; clear HO179; have HO_176002 := n0_; have BK168 := n1_; have BK169 := n2_; have BK175 := n3_; have HB := n4_; have HO186 := n5_; clear n0_ n1_ n2_ n3_ n4_ n5_; clear ho hb hg hat
             refine hK.out _ _ ⟨(blk_cell BK168.out 0).trans rfl, (blk_cell BK168.out 1).trans rfl, (blk_cell BK168.out 2).trans rfl⟩ (fun hHeld => ?_)
             clear hK K
             refine norm_ (a' := ?_) ?_ ?_
             rotate_left
             ·show Act.put _ (some 34) _ = _
              simp only [Act.put, Cmp.s, Cmp.z, Cmp.c, i64_w, i32_w]; rfl
             refine one_ (i := 9) (N := some 38) (Cmp.bb 18 31743) rfl rfl (one_of HT_.out (by kernel_rfl)) (by decide) (fun K hK => ?_)
             refine Kd.R_lit_step k83 _ 83 ?hg (N := 38) ?hd (xs := ([(⟨a1, a2, 0, false⟩ : S83)] : List (S83))) (inner := [.int .i64 a1, .int .i64 a2, .int .i64 0, .bool false]) (ok := fun _ => True) (okp := fun _ => True) ?hr ?hp (fun _ hk => hk) trivial (Below.refl _ _) (Nat.le_refl _) (by simp) ?_; (case hd => rfl); (case hg => rfl); (case hr => first | (go_simp; done) | (go_simp; rfl)); (case hp => exact (Reps.c4 (show Kd.M k83 _ _ _ (⟨a1, a2, 0, false⟩ : S83) [.int .i64 a1, .int .i64 a2, .int .i64 0, .bool false] from (k83_mkM _ _ _ (⟨a1, a2, 0, false⟩ : S83) )) (Reps.none _ _)))
             intro v188 w69 ho70 hb hg_ hnew_
             clear hg_ hnew_
             (first | rw [← Ny187.out] at ho70 | (simp only [Int.reduceToNat] at ho70; rw [← Ny187.out] at ho70))
             have n0_ := Aside0.mk (Kd.R_elder' (Cmp.rr HO_176002.out) (Kd.R_base ho70) hb)
             have n1_ := Aside0.mk (Kd.R_elder' (Cmp.rr HO186.out) (Kd.R_base ho70) hb)
             have n2_ := Aside0.mk (Kd.R_lower (Kd.R_new' (Kd.R_new' ho70 (Kd.R_lt (Cmp.rr HO_176002.out))) (Kd.R_lt (Cmp.rr HO186.out))) (below_size (Cmp.g HB.out)))
             have n3_ := Aside0.mk (blk_below (Cmp.b BK168.out) hb)
             have n4_ := Aside0.mk (blk_below (Cmp.b BK169.out) hb)
             have n5_ := Aside0.mk (blk_below (Cmp.b BK175.out) hb)
             have n6_ := Aside0.mk (below_step (Cmp.g HB.out) hb)
             clear HO_176002; clear HO186; clear BK168; clear BK169; clear BK175; clear HB; have HO_176002 := n0_; have HO186 := n1_; have HO189 := n2_; have BK168 := n3_; have BK169 := n4_; have BK175 := n5_; have HB := n6_; clear n0_ n1_ n2_ n3_ n4_ n5_ n6_; clear hb ho70
             refine hK.out _ _ ⟨(blk_cell BK168.out 0).trans rfl, (blk_cell BK168.out 1).trans rfl, (blk_cell BK168.out 2).trans rfl⟩ (fun hHeld => ?_)
             clear hK K
             refine norm_ (a' := ?_) ?_ ?_
             rotate_left
             ·show Act.put _ (some 38) _ = _
              simp only [Act.put, Cmp.s, Cmp.z, Cmp.c, i64_w, i32_w]; rfl
             exact norm_ (by simp only [putAll, Act.put, List.setIfInBounds_toArray, List.set_cons_zero, List.set_cons_succ]) (hCont (v178, v185, v188) _ ⟨hHeld, (by refine Cmp.rr ?_; exact Kd.R_mono HO186.out (fun _ hk => ⟨hk.2, hk.1⟩)), (by refine Cmp.rr ?_; exact Kd.R_mono HO189.out (fun _ hk => ⟨hk.2, hk.1.2⟩)), (by refine Cmp.rr ?_; exact Kd.R_mono HO_176002.out (fun _ hk => ⟨hk.1.2, hk.2⟩)), (Cmp.b BK168.out), (Cmp.b BK169.out), (Cmp.b BK175.out), (Cmp.g HB.out)⟩)
            ·skip
             refine Kd.R_lit_step k83 _ 83 ?hg (N := 38) ?hd (xs := ([(⟨a1, a2, 0, false⟩ : S83)] : List (S83))) (inner := [.int .i64 a1, .int .i64 a2, .int .i64 0, .bool false]) (ok := fun _ => True) (okp := fun _ => True) ?hr ?hp (fun _ hk => hk) trivial (Below.refl _ _) (Nat.le_refl _) (by simp) ?_; (case hd => rfl); (case hg => rfl); (case hr => first | (go_simp; done) | (go_simp; rfl)); (case hp => exact (Reps.c4 (show Kd.M k83 _ _ _ (⟨a1, a2, 0, false⟩ : S83) [.int .i64 a1, .int .i64 a2, .int .i64 0, .bool false] from (k83_mkM _ _ _ (⟨a1, a2, 0, false⟩ : S83) )) (Reps.none _ _)))
             intro v188 w68 ho69 hb hg_ hnew_
             clear hg_ hnew_
             (first | rw [← Ny187.out] at ho69 | (simp only [Int.reduceToNat] at ho69; rw [← Ny187.out] at ho69))
             have n0_ := Aside0.mk (Kd.R_elder' (Cmp.rr HO_176002.out) (Kd.R_base ho69) hb)
             have n1_ := Aside0.mk (Kd.R_elder' (Cmp.rr HO179.out) (Kd.R_base ho69) hb)
             have n2_ := Aside0.mk (Kd.R_lower (Kd.R_new' (Kd.R_new' ho69 (Kd.R_lt (Cmp.rr HO_176002.out))) (Kd.R_lt (Cmp.rr HO179.out))) (below_size (Cmp.g HB.out)))
             have n3_ := Aside0.mk (blk_below (Cmp.b BK168.out) hb)
             have n4_ := Aside0.mk (blk_below (Cmp.b BK169.out) hb)
             have n5_ := Aside0.mk (blk_below (Cmp.b BK175.out) hb)
             have n6_ := Aside0.mk (below_step (Cmp.g HB.out) hb)
             clear HO_176002; clear HO179; clear BK168; clear BK169; clear BK175; clear HB; have HO_176002 := n0_; have HO179 := n1_; have HO189 := n2_; have BK168 := n3_; have BK169 := n4_; have BK175 := n5_; have HB := n6_; clear n0_ n1_ n2_ n3_ n4_ n5_ n6_; clear hb ho69
             refine hK.out _ _ ⟨(blk_cell BK168.out 0).trans rfl, (blk_cell BK168.out 1).trans rfl, (blk_cell BK168.out 2).trans rfl⟩ (fun hHeld => ?_)
             clear hK K
             refine norm_ (a' := ?_) ?_ ?_
             rotate_left
             ·show Act.put _ (some 38) _ = _
              simp only [Act.put, Cmp.s, Cmp.z, Cmp.c, i64_w, i32_w]; rfl
             refine one_ (i := 5) (N := some 34) (Cmp.bb 18 31743) rfl rfl (one_of HT_.out (by kernel_rfl)) (by decide) (fun K hK => ?_)
             refine Kd.R_append_rows_step k83 (w0 := w) w.heap.size (by rfl) (.tmp 29) (.tmp 33) 26 83 (.agg #[(.int .i64 0), (.int .i64 0), (.int .i64 0), (.bool false)]) 32 rfl Try.underlying26 info83 rfl (by decide) (by omega) v178 y177 y180 _ _ _ (fun k_ => some k_ ≠ (.slice Ao15 t172.length co15 : Value).ownBlock ∧ some k_ ≠ (v188 : Value).ownBlock) (fun _ => False) rfl rfl ?aO ?aR (fun _ _ h => h) (fun _ h => h.elim) ?aF ?aB ?aS ?aL ?_
             (case aR => repeat (first | exact (Kd.C_below HR183.out HB.out) | (with_reducible refine Kd.C_alloc ?_ _) | (with_reducible refine Kd.C_drewN ?_ _) | (with_reducible refine Kd.C_drew ?_)))
             (case aB => exact (Cmp.g HB.out))
             (case aF => exact (fun k_ hk => ⟨Kd.fresh' (Kd.R_lt (Cmp.rr HO_176002.out)) k_ hk, Kd.fresh' (Kd.R_lt (Cmp.rr HO189.out)) k_ hk⟩))
             (case aO => exact (by refine Cmp.rr ?_; exact Kd.R_mono HO179.out (fun _ hk => ⟨hk.1.2, hk.2⟩)))
             (case aS => exact (below_size (Cmp.g HB.out)))
             (case aL => have := LMc30.out; omega)
             intro v185 w70 ho hb hg hat
             rw [← Ny184.out] at ho
             have n0_ := Aside0.mk (Kd.R_after (ok := (fun k_ => some k_ ≠ (v188 : Value).ownBlock)) (by refine Cmp.rr ?_; exact Kd.R_mono HO_176002.out (fun _ hk => ⟨hk.2, hk.1.2⟩)) hg hat)
             have n1_ := Aside0.mk (blk_grown (g := gb168) (o := .cells #[.int .i64 a0_0, .int .i64 a0_1, .slice A0_2 l0_2.length c0_2] 28 (0, 0)) (Cmp.b BK168.out) hg (Kd.R_ne HO179.out BK168.out (by decide)))
             have n2_ := Aside0.mk (blk_grown (g := gb169) (o := .cells #[.int .i64 0, .int .i64 0, .slice none 0 0] 28 (0, 0)) (Cmp.b BK169.out) hg (Kd.R_ne HO179.out BK169.out (by decide)))
             have n3_ := Aside0.mk (blk_grown (g := gb175) (o := .cells #[.int .i64 t170, .int .i64 t171, .slice Ao15 t172.length co15] 28 (0, 0)) (Cmp.b BK175.out) hg (Kd.R_ne HO179.out BK175.out (by decide)))
             have n4_ := Aside0.mk (Kd.R_after (ok := (fun k_ => some k_ ≠ (.slice Ao15 t172.length co15 : Value).ownBlock)) (by refine Cmp.rr ?_; exact Kd.R_mono HO189.out (fun _ hk => ⟨hk.1.2, hk.2⟩)) hg hat)
             have n5_ := Aside0.mk (hb)
             have n6_ := Aside0.mk (ho)
             clear HO_176002; clear BK168; clear BK169; clear BK175; clear HO189; clear HB; clear HO179; have HO_176002 := n0_; have BK168 := n1_; have BK169 := n2_; have BK175 := n3_; have HO189 := n4_; have HB := n5_; have HO186 := n6_; clear n0_ n1_ n2_ n3_ n4_ n5_ n6_; clear ho hb hg hat
             refine hK.out _ _ ⟨(blk_cell BK168.out 0).trans rfl, (blk_cell BK168.out 1).trans rfl, (blk_cell BK168.out 2).trans rfl⟩ (fun hHeld => ?_)
             clear hK K
             refine norm_ (a' := ?_) ?_ ?_
             rotate_left
             ·show Act.put _ (some 34) _ = _
              simp only [Act.put, Cmp.s, Cmp.z, Cmp.c, i64_w, i32_w]; rfl
             exact norm_ (by simp only [putAll, Act.put, List.setIfInBounds_toArray, List.set_cons_zero, List.set_cons_succ]) (hCont (v178, v185, v188) _ ⟨hHeld, (by refine Cmp.rr ?_; exact Kd.R_mono HO186.out (fun _ hk => ⟨hk.2, hk.1⟩)), (by refine Cmp.rr ?_; exact Kd.R_mono HO189.out (fun _ hk => ⟨hk.2, hk.1⟩)), (by refine Cmp.rr ?_; exact Kd.R_mono HO_176002.out (fun _ hk => ⟨hk.2, hk.1⟩)), (Cmp.b BK168.out), (Cmp.b BK169.out), (Cmp.b BK175.out), (Cmp.g HB.out)⟩)
           ·skip
            refine Kd.R_lit_step k83 _ 83 ?hg (N := 38) ?hd (xs := ([(⟨a1, a2, 0, false⟩ : S83)] : List (S83))) (inner := [.int .i64 a1, .int .i64 a2, .int .i64 0, .bool false]) (ok := fun _ => True) (okp := fun _ => True) ?hr ?hp (fun _ hk => hk) trivial (Below.refl _ _) (Nat.le_refl _) (by simp) ?_; (case hd => rfl); (case hg => rfl); (case hr => first | (go_simp; done) | (go_simp; rfl)); (case hp => exact (Reps.c4 (show Kd.M k83 _ _ _ (⟨a1, a2, 0, false⟩ : S83) [.int .i64 a1, .int .i64 a2, .int .i64 0, .bool false] from (k83_mkM _ _ _ (⟨a1, a2, 0, false⟩ : S83) )) (Reps.none _ _)))
            intro v188 w66 ho67 hb hg_ hnew_
            clear hg_ hnew_
            (first | rw [← Ny187.out] at ho67 | (simp only [Int.reduceToNat] at ho67; rw [← Ny187.out] at ho67))
            have n0_ := Aside0.mk (Kd.R_elder' (Cmp.rr HO_176002.out) (Kd.R_base ho67) hb)
            have n1_ := Aside0.mk (Kd.R_lower (Kd.R_new' ho67 (Kd.R_lt (Cmp.rr HO_176002.out))) (below_size (Cmp.g HB.out)))
            have n2_ := Aside0.mk (blk_below (Cmp.b BK168.out) hb)
            have n3_ := Aside0.mk (blk_below (Cmp.b BK169.out) hb)
            have n4_ := Aside0.mk (blk_below (Cmp.b BK175.out) hb)
            have n5_ := Aside0.mk (below_step (Cmp.g HB.out) hb)
            clear HO_176002; clear BK168; clear BK169; clear BK175; clear HB; have HO_176002 := n0_; have HO189 := n1_; have BK168 := n2_; have BK169 := n3_; have BK175 := n4_; have HB := n5_; clear n0_ n1_ n2_ n3_ n4_ n5_; clear hb ho67
            refine hK.out _ _ ⟨(blk_cell BK168.out 0).trans rfl, (blk_cell BK168.out 1).trans rfl, (blk_cell BK168.out 2).trans rfl⟩ (fun hHeld => ?_)
            clear hK K
            refine norm_ (a' := ?_) ?_ ?_
            rotate_left
            ·show Act.put _ (some 38) _ = _
             simp only [Act.put, Cmp.s, Cmp.z, Cmp.c, i64_w, i32_w]; rfl
            refine one_ (i := 0) (N := some 29) (Cmp.bb 18 31711) rfl rfl (one_of HT_.out (by kernel_rfl)) (by decide) (fun K hK => ?_)
            refine Kd.R_lit_step k83 _ 83 ?hg (N := 29) ?hd (xs := ([] : List (S83))) (inner := []) (ok := fun _ => True) (okp := fun _ => True) ?hr ?hp (fun _ hk => hk) trivial (Below.refl _ _) (Nat.le_refl _) (by simp) ?_; (case hd => rfl); (case hg => rfl); (case hr => first | (go_simp; done) | (go_simp; rfl)); (case hp => exact (Reps.none _ _))
            intro v178 w68 ho69 hb hg_ hnew_
            clear hg_ hnew_
            (first | rw [← Ny177.out] at ho69 | (simp only [Int.reduceToNat] at ho69; rw [← Ny177.out] at ho69))
            have n0_ := Aside0.mk (Kd.R_elder' (Cmp.rr HO_176002.out) (Kd.R_base ho69) hb)
            have n1_ := Aside0.mk (Kd.R_elder' (Cmp.rr HO189.out) (Kd.R_base ho69) hb)
            have n2_ := Aside0.mk (Kd.R_lower (Kd.R_new' (Kd.R_new' ho69 (Kd.R_lt (Cmp.rr HO_176002.out))) (Kd.R_lt (Cmp.rr HO189.out))) (below_size (Cmp.g HB.out)))
            have n3_ := Aside0.mk (blk_below (Cmp.b BK168.out) hb)
            have n4_ := Aside0.mk (blk_below (Cmp.b BK169.out) hb)
            have n5_ := Aside0.mk (blk_below (Cmp.b BK175.out) hb)
            have n6_ := Aside0.mk (below_step (Cmp.g HB.out) hb)
            clear HO_176002; clear HO189; clear BK168; clear BK169; clear BK175; clear HB; have HO_176002 := n0_; have HO189 := n1_; have HO179 := n2_; have BK168 := n3_; have BK169 := n4_; have BK175 := n5_; have HB := n6_; clear n0_ n1_ n2_ n3_ n4_ n5_ n6_; clear hb ho69
            refine hK.out _ _ ⟨(blk_cell BK168.out 0).trans rfl, (blk_cell BK168.out 1).trans rfl, (blk_cell BK168.out 2).trans rfl⟩ (fun hHeld => ?_)
            clear hK K
            refine norm_ (a' := ?_) ?_ ?_
            rotate_left
            ·show Act.put _ (some 29) _ = _
             simp only [Act.put, Cmp.s, Cmp.z, Cmp.c, i64_w, i32_w]; rfl
            refine one_ (i := 5) (N := some 34) (Cmp.bb 18 31743) rfl rfl (one_of HT_.out (by kernel_rfl)) (by decide) (fun K hK => ?_)
            refine Kd.R_append_rows_step k83 (w0 := w) w.heap.size (by rfl) (.tmp 29) (.tmp 33) 26 83 (.agg #[(.int .i64 0), (.int .i64 0), (.int .i64 0), (.bool false)]) 32 rfl Try.underlying26 info83 rfl (by decide) (by omega) v178 y177 y180 _ _ _ (fun k_ => some k_ ≠ (.slice Ao15 t172.length co15 : Value).ownBlock ∧ some k_ ≠ (v188 : Value).ownBlock) (fun _ => False) rfl rfl ?aO ?aR (fun _ _ h => h) (fun _ h => h.elim) ?aF ?aB ?aS ?aL ?_
            (case aR => repeat (first | exact (Kd.C_below HR183.out HB.out) | (with_reducible refine Kd.C_alloc ?_ _) | (with_reducible refine Kd.C_drewN ?_ _) | (with_reducible refine Kd.C_drew ?_)))
            (case aB => exact (Cmp.g HB.out))
            (case aF => exact (fun k_ hk => ⟨Kd.fresh' (Kd.R_lt (Cmp.rr HO_176002.out)) k_ hk, Kd.fresh' (Kd.R_lt (Cmp.rr HO189.out)) k_ hk⟩))
            (case aO => exact (by refine Cmp.rr ?_; exact Kd.R_mono HO179.out (fun _ hk => ⟨hk.1.2, hk.2⟩)))
            (case aS => exact (below_size (Cmp.g HB.out)))
            (case aL => have := LMc30.out; omega)
            intro v185 w70 ho hb hg hat
            rw [← Ny184.out] at ho
            have n0_ := Aside0.mk (Kd.R_after (ok := (fun k_ => some k_ ≠ (v188 : Value).ownBlock)) (by refine Cmp.rr ?_; exact Kd.R_mono HO_176002.out (fun _ hk => ⟨hk.1.2, hk.2⟩)) hg hat)
            have n1_ := Aside0.mk (blk_grown (g := gb168) (o := .cells #[.int .i64 a0_0, .int .i64 a0_1, .slice A0_2 l0_2.length c0_2] 28 (0, 0)) (Cmp.b BK168.out) hg (Kd.R_ne HO179.out BK168.out (by decide)))
            have n2_ := Aside0.mk (blk_grown (g := gb169) (o := .cells #[.int .i64 0, .int .i64 0, .slice none 0 0] 28 (0, 0)) (Cmp.b BK169.out) hg (Kd.R_ne HO179.out BK169.out (by decide)))
            have n3_ := Aside0.mk (blk_grown (g := gb175) (o := .cells #[.int .i64 t170, .int .i64 t171, .slice Ao15 t172.length co15] 28 (0, 0)) (Cmp.b BK175.out) hg (Kd.R_ne HO179.out BK175.out (by decide)))
            have n4_ := Aside0.mk (Kd.R_after (ok := (fun k_ => some k_ ≠ (.slice Ao15 t172.length co15 : Value).ownBlock)) (by refine Cmp.rr ?_; exact Kd.R_mono HO189.out (fun _ hk => ⟨hk.1.2, hk.2⟩)) hg hat)
            have n5_ := Aside0.mk (hb)
            have n6_ := Aside0.mk (ho)
            clear HO_176002; clear BK168; clear BK169; clear BK175; clear HO189; clear HB; clear HO179; have HO_176002 := n0_; have BK168 := n1_; have BK169 := n2_; have BK175 := n3_; have HO189 := n4_; have HB := n5_; have HO186 := n6_; clear n0_ n1_ n2_ n3_ n4_ n5_ n6_; clear ho hb hg hat
            refine hK.out _ _ ⟨(blk_cell BK168.out 0).trans rfl, (blk_cell BK168.out 1).trans rfl, (blk_cell BK168.out 2).trans rfl⟩ (fun hHeld => ?_)
            clear hK K
            refine norm_ (a' := ?_) ?_ ?_
            rotate_left
            ·show Act.put _ (some 34) _ = _
             simp only [Act.put, Cmp.s, Cmp.z, Cmp.c, i64_w, i32_w]; rfl
            exact norm_ (by simp only [putAll, Act.put, List.setIfInBounds_toArray, List.set_cons_zero, List.set_cons_succ]) (hCont (v178, v185, v188) _ ⟨hHeld, (by refine Cmp.rr ?_; exact Kd.R_mono HO186.out (fun _ hk => ⟨hk.2, hk.1⟩)), (by refine Cmp.rr ?_; exact Kd.R_mono HO189.out (fun _ hk => ⟨hk.2, hk.1⟩)), (by refine Cmp.rr ?_; exact Kd.R_mono HO_176002.out (fun _ hk => ⟨hk.2, hk.1⟩)), (Cmp.b BK168.out), (Cmp.b BK169.out), (Cmp.b BK175.out), (Cmp.g HB.out)⟩)
          rintro ⟨v178, v185, v188⟩ w71 ⟨hS_, h0_, h1_, h2_, h3_, h4_, h5_, h6_⟩
          have n0_ : Aside0 (Kd.R k83 83 w71 w.heap.size (fun k_ => some k_ ≠ (v188 : Value).ownBlock ∧ some k_ ≠ (.slice Ao15 t172.length co15 : Value).ownBlock) v185 y184) := ⟨h0_⟩
          have n1_ : Aside0 (Kd.R k83 83 w71 w.heap.size (fun k_ => some k_ ≠ (v185 : Value).ownBlock ∧ some k_ ≠ (.slice Ao15 t172.length co15 : Value).ownBlock) v188 y187) := ⟨h1_⟩
          have n2_ : Aside0 (Kd.R k83 83 w71 w.heap.size (fun k_ => some k_ ≠ (v185 : Value).ownBlock ∧ some k_ ≠ (v188 : Value).ownBlock) (.slice Ao15 t172.length co15) t172) := ⟨h2_⟩
          have n3_ : Aside0 (w71.heap[gb168]? = some (.cells #[.int .i64 a0_0, .int .i64 a0_1, .slice A0_2 l0_2.length c0_2] 28 (0, 0))) := ⟨h3_⟩
          have n4_ : Aside0 (w71.heap[gb169]? = some (.cells #[.int .i64 0, .int .i64 0, .slice none 0 0] 28 (0, 0))) := ⟨h4_⟩
          have n5_ : Aside0 (w71.heap[gb175]? = some (.cells #[.int .i64 t170, .int .i64 t171, .slice Ao15 t172.length co15] 28 (0, 0))) := ⟨h5_⟩
          have n6_ : Aside0 (Below w.heap.size w w71) := ⟨h6_⟩
          clear HO_176002; clear BK168; clear BK169; clear BK175; clear HB; clear h0_ h1_ h2_ h3_ h4_ h5_ h6_; have HO186 := n0_; have HO189 := n1_; have HO_176002 := n2_; have BK168 := n3_; have BK169 := n4_; have BK175 := n5_; have HB := n6_; clear n0_ n1_ n2_ n3_ n4_ n5_ n6_
          have hHeld : w71.cell? ⟨gb168, 0, none⟩ = some (.int .i64 a0_0) ∧ w71.cell? ⟨gb168, 1, none⟩ = some (.int .i64 a0_1) ∧ w71.cell? ⟨gb168, 2, none⟩ = some (.slice A0_2 l0_2.length c0_2) := hS_
          obtain ⟨Ao73, co73, eo73⟩ := Kd.R_slice HO189.out
          (first | subst eo73 | (injection eo73 with f1_ f2_ f3_; have f4_ := f1_.symm; have f5_ := f3_.symm; clear f1_ f2_ f3_; subst f4_; subst f5_))
          refine norm_ (a' := ?_) ?_ ?_
          rotate_left
          ·simp only [putAll, Act.put, List.setIfInBounds_toArray, List.set_cons_zero, List.set_cons_succ]; rfl
          refine one_ (i := 10) (N := some 39) (Cmp.bm 15 3) rfl rfl (one_of HT_.out (by kernel_rfl)) (by decide) (fun K hK => ?_)
          refine Kd.R_append_rows_step k83 (w0 := w) w.heap.size (by rfl) (.tmp 34) (.tmp 38) 26 83 (.agg #[(.int .i64 0), (.int .i64 0), (.int .i64 0), (.bool false)]) 32 rfl Try.underlying26 info83 rfl (by decide) (by omega) v185 y184 y187 _ _ _ (fun k_ => some k_ ≠ (.slice Ao15 t172.length co15 : Value).ownBlock ∧ some k_ ≠ (.slice Ao73 y187.length co73 : Value).ownBlock) (fun _ => False) rfl rfl ?aO ?aR (fun _ _ h => h) (fun _ h => h.elim) ?aF ?aB ?aS ?aL ?_
          (case aR => repeat (first | exact (Kd.R_reads' HO189.out).2.2 | (with_reducible refine Kd.C_alloc ?_ _) | (with_reducible refine Kd.C_drewN ?_ _) | (with_reducible refine Kd.C_drew ?_)))
          (case aB => exact (Cmp.g HB.out))
          (case aF => exact (fun k_ hk => ⟨Kd.fresh' (Kd.R_lt (Cmp.rr HO_176002.out)) k_ hk, Kd.fresh' (Kd.R_lt (Cmp.rr HO189.out)) k_ hk⟩))
          (case aO => exact (by refine Cmp.rr ?_; exact Kd.R_mono HO186.out (fun _ hk => ⟨hk.2, hk.1⟩)))
          (case aS => exact (below_size (Cmp.g HB.out)))
          (case aL => have := LMc31.out; omega)
          intro v191 w72 ho hb hg hat
          rw [← Ny190.out] at ho
          have n0_ := Aside0.mk (Kd.R_after (ok := (fun k_ => some k_ ≠ (.slice Ao73 y187.length co73 : Value).ownBlock)) (by refine Cmp.rr ?_; exact Kd.R_mono HO_176002.out (fun _ hk => ⟨hk.2, hk.1⟩)) hg hat)
          have n1_ := Aside0.mk (blk_grown (g := gb168) (o := .cells #[.int .i64 a0_0, .int .i64 a0_1, .slice A0_2 l0_2.length c0_2] 28 (0, 0)) (Cmp.b BK168.out) hg (Kd.R_ne HO186.out BK168.out (by decide)))
          have n2_ := Aside0.mk (blk_grown (g := gb169) (o := .cells #[.int .i64 0, .int .i64 0, .slice none 0 0] 28 (0, 0)) (Cmp.b BK169.out) hg (Kd.R_ne HO186.out BK169.out (by decide)))
          have n3_ := Aside0.mk (blk_grown (g := gb175) (o := .cells #[.int .i64 t170, .int .i64 t171, .slice Ao15 t172.length co15] 28 (0, 0)) (Cmp.b BK175.out) hg (Kd.R_ne HO186.out BK175.out (by decide)))
          have n4_ := Aside0.mk (Kd.R_after (ok := (fun k_ => some k_ ≠ (.slice Ao15 t172.length co15 : Value).ownBlock)) (by refine Cmp.rr ?_; exact Kd.R_mono HO189.out (fun _ hk => ⟨hk.2, hk.1⟩)) hg hat)
          have n5_ := Aside0.mk (hb)
          have n6_ := Aside0.mk (ho)
          clear HO_176002; clear BK168; clear BK169; clear BK175; clear HO189; clear HB; clear HO186; have HO_176002 := n0_; have BK168 := n1_; have BK169 := n2_; have BK175 := n3_; have HO189 := n4_; have HB := n5_; have HO192 := n6_; clear n0_ n1_ n2_ n3_ n4_ n5_ n6_; clear ho hb hg hat
          refine hK.out _ _ ⟨(blk_cell BK168.out 0).trans rfl, (blk_cell BK168.out 1).trans rfl, (blk_cell BK168.out 2).trans rfl⟩ (fun hHeld => ?_)
          clear hK K
          refine norm_ (a' := ?_) ?_ ?_
          rotate_left
          ·show Act.put _ (some 39) _ = _
           simp only [Act.put, Cmp.s, Cmp.z, Cmp.c, i64_w, i32_w]; rfl
          refine one_ (i := 15) (N := some 44) (Cmp.bm 16 2) rfl rfl (one_of HT_.out (by kernel_rfl)) (by decide) (fun K hK => ?_)
          refine Kd.R_append_rows_step k83 (w0 := w) w.heap.size (by rfl) (.tmp 39) (.tmp 43) 26 83 (.agg #[(.int .i64 0), (.int .i64 0), (.int .i64 0), (.bool false)]) 32 rfl Try.underlying26 info83 rfl (by decide) (by omega) v191 y190 y193 _ _ _ (fun k_ => some k_ ≠ (.slice Ao15 t172.length co15 : Value).ownBlock ∧ some k_ ≠ (.slice Ao73 y187.length co73 : Value).ownBlock) (fun _ => False) rfl rfl ?aO ?aR (fun _ _ h => h) (fun _ h => h.elim) ?aF ?aB ?aS ?aL ?_
          (case aR => repeat (first | exact (Kd.C_below HR196.out HB.out) | (with_reducible refine Kd.C_alloc ?_ _) | (with_reducible refine Kd.C_drewN ?_ _) | (with_reducible refine Kd.C_drew ?_)))
          (case aB => exact (Cmp.g HB.out))
          (case aF => exact (fun k_ hk => ⟨Kd.fresh' (Kd.R_lt (Cmp.rr HO_176002.out)) k_ hk, Kd.fresh' (Kd.R_lt (Cmp.rr HO189.out)) k_ hk⟩))
          (case aO => exact (Cmp.rr HO192.out))
          (case aS => exact (below_size (Cmp.g HB.out)))
          (case aL => have := LMc34.out; omega)
          intro v198 w74 ho hb hg hat
          rw [← Ny197.out] at ho
          have n0_ := Aside0.mk (Kd.R_after (ok := (fun k_ => some k_ ≠ (.slice Ao73 y187.length co73 : Value).ownBlock)) (Cmp.rr HO_176002.out) hg hat)
          have n1_ := Aside0.mk (blk_grown (g := gb168) (o := .cells #[.int .i64 a0_0, .int .i64 a0_1, .slice A0_2 l0_2.length c0_2] 28 (0, 0)) (Cmp.b BK168.out) hg (Kd.R_ne HO192.out BK168.out (by decide)))
          have n2_ := Aside0.mk (blk_grown (g := gb169) (o := .cells #[.int .i64 0, .int .i64 0, .slice none 0 0] 28 (0, 0)) (Cmp.b BK169.out) hg (Kd.R_ne HO192.out BK169.out (by decide)))
          have n3_ := Aside0.mk (blk_grown (g := gb175) (o := .cells #[.int .i64 t170, .int .i64 t171, .slice Ao15 t172.length co15] 28 (0, 0)) (Cmp.b BK175.out) hg (Kd.R_ne HO192.out BK175.out (by decide)))
          have n4_ := Aside0.mk (Kd.R_after (ok := (fun k_ => some k_ ≠ (.slice Ao15 t172.length co15 : Value).ownBlock)) (Cmp.rr HO189.out) hg hat)
          have n5_ := Aside0.mk (hb)
          have n6_ := Aside0.mk (ho)
          clear HO_176002; clear BK168; clear BK169; clear BK175; clear HO189; clear HB; clear HO192; have HO_176002 := n0_; have BK168 := n1_; have BK169 := n2_; have BK175 := n3_; have HO189 := n4_; have HB := n5_; have HO199 := n6_; clear n0_ n1_ n2_ n3_ n4_ n5_ n6_; clear ho hb hg hat
          obtain ⟨Ao75, co75, eo75⟩ := Kd.R_slice HO199.out
          (first | subst eo75 | (injection eo75 with f1_ f2_ f3_; have f4_ := f1_.symm; have f5_ := f3_.symm; clear f1_ f2_ f3_; subst f4_; subst f5_))
          refine hK.out _ _ ⟨(blk_cell BK168.out 0).trans rfl, (blk_cell BK168.out 1).trans rfl, (blk_cell BK168.out 2).trans rfl⟩ (fun hHeld => ?_)
          clear hK K
          refine norm_ (a' := ?_) ?_ ?_
          rotate_left
          ·show Act.put _ (some 44) _ = _
           simp only [Act.put, Cmp.s, Cmp.z, Cmp.c, i64_w, i32_w]; rfl
          refine Cmp.pu HT_ 16 45 (Cmp.bm 17 1) ?_
          refine one_ (i := 17) (N := none) (Cmp.bm 18 0) rfl rfl (one_of HT_.out (by kernel_rfl)) (by decide) (fun K hK => ?_)
          have hs76 : w74.cell? ⟨gb175, 2, none⟩ = some (.slice Ao15 t172.length co15) := (blk_cell BK175.out 2).trans rfl
          have hfs76 := blk_frozen BK175.out 2; have hns76_0 := NB168_175.out; have hns76_1 := NB169_175.out; have hms76_0 := NB175_168.out; have hms76_1 := NB175_169.out
          refine skip_ (w1 := ?_) (by rfl) rfl ?_ ?_
          rotate_left
          ·go_simp; rfl
          refine hK.out _ _ ⟨((cell_far (p := ⟨gb175, _, none⟩) NB168_175.out _).trans (hHeld.1)), ((cell_far (p := ⟨gb175, _, none⟩) NB168_175.out _).trans (hHeld.2.1)), ((cell_far (p := ⟨gb175, _, none⟩) NB168_175.out _).trans (hHeld.2.2))⟩ (fun hHeld => ?_)
          clear hK K
          refine done_ (done_of HT_.out (by kernel_rfl)) ?_
          have hnb77 := NB168_169.out; have hnc77 := NB169_168.out; have hnb78 := NB168_175.out; have hnc78 := NB175_168.out
          have hcz79_0 : w74.cell? ⟨gb168, 0, none⟩ = some (.int .i64 a0_0) := (blk_cell BK168.out 0).trans rfl
          have hcz79_1 : w74.cell? ⟨gb168, 1, none⟩ = some (.int .i64 a0_1) := (blk_cell BK168.out 1).trans rfl
          have hcz79_2 : w74.cell? ⟨gb168, 2, none⟩ = some (.slice A0_2 l0_2.length c0_2) := (blk_cell BK168.out 2).trans rfl
          have hfz79_0 := blk_frozen BK168.out 0; have hfz79_1 := blk_frozen BK168.out 1; have hfz79_2 := blk_frozen BK168.out 2
          try go_wp2_with (first | ((with_reducible refine gate_callee (f := 45) rfl ?_); refine goesL_ (some 47) rfl rfl Try.func45 (by kernel_rfl) rfl #[.agg #[.int .i64 a0_0, .int .i64 a0_1, .slice A0_2 l0_2.length c0_2]] rfl Cmp.q ?_; (with_reducible refine (spec_IsValidAccount.calls kj4 a0_0 a0_1 _ _ l0_2 true _ ?side1 ?side2 A35.out).mono ?_); (case side1 => exact Kd.C_below HR0_2.out (Cmp.g HB.out)); (case side2 => exact HC0_2.out); rintro e w80 ⟨rfl, hb⟩; refine ⟨_, rfl, ?_⟩; have n0_ := Aside0.mk (Kd.R_below (by refine Cmp.rr ?_; exact (Kd.R_mono (Kd.R_far (p := ⟨gb175, 2, none⟩) (Kd.R_types HO_176002.out BK175.out (by decide)) (fun _ hk => hk.2) (.slice Ao75 y197.length co75)) (fun _ h_ => h_.1))) hb); have n1_ := Aside0.mk (Kd.R_below (by refine Cmp.rr ?_; exact (Kd.R_mono (Kd.R_far (p := ⟨gb175, 2, none⟩) (Kd.R_types HO189.out BK175.out (by decide)) (fun _ hk => hk.2) (.slice Ao75 y197.length co75)) (fun _ h_ => h_.1))) hb); have n2_ := Aside0.mk (Kd.R_below (by refine Cmp.rr ?_; exact (Kd.R_mono (Kd.R_far (p := ⟨gb175, 2, none⟩) (Kd.R_types HO199.out BK175.out (by decide)) (fun _ hk => hk.2) (.slice Ao75 y197.length co75)) (fun _ h_ => h_.1))) hb); have n3_ := Aside0.mk (blk_below (g := gb168) (o := .cells #[.int .i64 a0_0, .int .i64 a0_1, .slice A0_2 l0_2.length c0_2] 28 (0, 0)) (by refine Cmp.b ?_; refine blk_far ?_ NB168_175.out _; refine Cmp.b ?_; exact BK168.out) hb); have n4_ := Aside0.mk (blk_below (g := gb169) (o := .cells #[.int .i64 0, .int .i64 0, .slice none 0 0] 28 (0, 0)) (by refine Cmp.b ?_; refine blk_far ?_ NB169_175.out _; refine Cmp.b ?_; exact BK169.out) hb); have n5_ := Aside0.mk (blk_below (g := gb175) (o := .cells #[.int .i64 t170, .int .i64 t171, .slice Ao75 y197.length co75] 28 (0, 0)) (by refine Cmp.b ?_; refine blk_put (cs := #[.int .i64 t170, .int .i64 t171, .slice Ao15 t172.length co15]) ?_ 2 _ rfl; refine Cmp.b ?_; exact BK175.out) hb); have n6_ := Aside0.mk (below_step (Cmp.g HB.out) hb); clear HO_176002; clear HO189; clear HO199; clear BK168; clear BK169; clear BK175; clear HB; have HO_176002 := n0_; have HO189 := n1_; have HO199 := n2_; have BK168 := n3_; have BK169 := n4_; have BK175 := n5_; have HB := n6_; clear n0_ n1_ n2_ n3_ n4_ n5_ n6_; (try clear hb); (try clear hb2); (try clear hk); (try clear hi); have hnb81 := NB175_169.out; have hnc81 := NB169_175.out; have hcz82_0 : w80.cell? ⟨gb175, 0, none⟩ = some (.int .i64 t170) := (blk_cell BK175.out 0).trans rfl; have hcz82_1 : w80.cell? ⟨gb175, 1, none⟩ = some (.int .i64 t171) := (blk_cell BK175.out 1).trans rfl; have hcz82_2 : w80.cell? ⟨gb175, 2, none⟩ = some (.slice Ao75 y197.length co75) := (blk_cell BK175.out 2).trans rfl; have hfz82_0 := blk_frozen BK175.out 0; have hfz82_1 := blk_frozen BK175.out 1; have hfz82_2 := blk_frozen BK175.out 2) | (go_at_call 45; (with_reducible refine (spec_IsValidAccount.calls kj4 t170 t171 _ _ y197 false _ ?side1 ?side2 A37.out).mono ?_); (case side1 => exact Cmp.rc (Kd.R_reads' HO199.out).2.2); (case side2 => exact (Kd.R_reads' HO199.out).2.1); rintro e w83 ⟨rfl, hb⟩; have n0_ := Aside0.mk (Kd.R_below (Cmp.rr HO_176002.out) hb); have n1_ := Aside0.mk (Kd.R_below (Cmp.rr HO189.out) hb); have n2_ := Aside0.mk (Kd.R_below (Cmp.rr HO199.out) hb); have n3_ := Aside0.mk (blk_below (Cmp.b BK168.out) hb); have n4_ := Aside0.mk (blk_below (Cmp.b BK169.out) hb); have n5_ := Aside0.mk (blk_below (Cmp.b BK175.out) hb); have n6_ := Aside0.mk (below_step (Cmp.g HB.out) hb); clear HO_176002; clear HO189; clear HO199; clear BK168; clear BK169; clear BK175; clear HB; have HO_176002 := n0_; have HO189 := n1_; have HO199 := n2_; have BK168 := n3_; have BK169 := n4_; have BK175 := n5_; have HB := n6_; clear n0_ n1_ n2_ n3_ n4_ n5_ n6_; (try clear hb); (try clear hb2); (try clear hk); (try clear hi); have hcz84_0 : w83.cell? ⟨gb168, 0, none⟩ = some (.int .i64 a0_0) := (blk_cell BK168.out 0).trans rfl; have hcz84_1 : w83.cell? ⟨gb168, 1, none⟩ = some (.int .i64 a0_1) := (blk_cell BK168.out 1).trans rfl; have hcz84_2 : w83.cell? ⟨gb168, 2, none⟩ = some (.slice A0_2 l0_2.length c0_2) := (blk_cell BK168.out 2).trans rfl; have hfz84_0 := blk_frozen BK168.out 0; have hfz84_1 := blk_frozen BK168.out 1; have hfz84_2 := blk_frozen BK168.out 2) | ((with_reducible refine gate_callee (f := 44) rfl ?_); refine goesL_ (some 55) rfl rfl Try.func44 (by kernel_rfl) rfl #[.agg #[.int .i64 a0_0, .int .i64 a0_1, .slice A0_2 l0_2.length c0_2]] rfl Cmp.q ?_; (with_reducible refine (spec_l14Copy.calls a0_0 a0_1 _ _ l0_2 t202 t203 t204 _ ?side1 ?side2 A62.out).mono ?_); (case side1 => exact Cmp.rc (Kd.C_below HR0_2.out HB.out)); (case side2 => exact HC0_2.out); rintro e w85 ⟨v205, rfl, ho0, hb⟩; refine ⟨_, rfl, ?_⟩; have n0_ := Aside0.mk (Kd.R_elder' (Cmp.rr HO_176002.out) (Kd.R_base ho0) hb); have n1_ := Aside0.mk (Kd.R_elder' (Cmp.rr HO189.out) (Kd.R_base ho0) hb); have n2_ := Aside0.mk (Kd.R_elder' (Cmp.rr HO199.out) (Kd.R_base ho0) hb); have n3_ := Aside0.mk (Kd.R_lower (Kd.R_new' (Kd.R_new' (Kd.R_new' ho0 (Kd.R_lt (Cmp.rr HO_176002.out))) (Kd.R_lt (Cmp.rr HO189.out))) (Kd.R_lt (Cmp.rr HO199.out))) (below_size (Cmp.g HB.out))); have n4_ := Aside0.mk (blk_below (Cmp.b BK168.out) hb); have n5_ := Aside0.mk (blk_below (Cmp.b BK169.out) hb); have n6_ := Aside0.mk (blk_below (Cmp.b BK175.out) hb); have n7_ := Aside0.mk (below_step (Cmp.g HB.out) hb); clear HO_176002; clear HO189; clear HO199; clear BK168; clear BK169; clear BK175; clear HB; have HO_176002 := n0_; have HO189 := n1_; have HO199 := n2_; have HO206 := n3_; have BK168 := n4_; have BK169 := n5_; have BK175 := n6_; have HB := n7_; clear n0_ n1_ n2_ n3_ n4_ n5_ n6_ n7_; (try clear hb); (try clear hb2); (try clear hk); (try clear hi); (try clear ho0); have hcz86_0 : w85.cell? ⟨gb169, 0, none⟩ = some (.int .i64 0) := (blk_cell BK169.out 0).trans rfl; have hcz86_1 : w85.cell? ⟨gb169, 1, none⟩ = some (.int .i64 0) := (blk_cell BK169.out 1).trans rfl; have hcz86_2 : w85.cell? ⟨gb169, 2, none⟩ = some (.slice none 0 0) := (blk_cell BK169.out 2).trans rfl; have hfz86_0 := blk_frozen BK169.out 0; have hfz86_1 := blk_frozen BK169.out 1; have hfz86_2 := blk_frozen BK169.out 2; obtain ⟨Ao87, co87, eo87⟩ := Kd.R_slice HO206.out; subst eo87))
          refine bodyPost_ret (results_ct rfl _ _ gb169 28 #[.int .i64 t202, .int .i64 t203, .slice Ao87 t204.length co87] (0, 0) _ rfl (by refine Cmp.b ?_; refine blk_put (cs := #[.int .i64 t202, .int .i64 t203, .slice none 0 0]) ?_ 2 _ rfl; refine Cmp.b ?_; refine blk_put (cs := #[.int .i64 t202, .int .i64 0, .slice none 0 0]) ?_ 1 _ rfl; refine Cmp.b ?_; refine blk_put (cs := #[.int .i64 0, .int .i64 0, .slice none 0 0]) ?_ 0 _ rfl; refine Cmp.b ?_; exact BK169.out) Try.underlying28 rfl (by kernel_rfl)) rfl ?_
          exact ⟨_, by first | rfl | (simp [errW_none, errW_some] <;> rfl) | (simp [*, errW_none, errW_some] <;> rfl), by refine Cmp.rr ?_; exact Kd.R_mono (Kd.R_far (p := ⟨gb169, 2, none⟩) (Kd.R_far (p := ⟨gb169, 1, none⟩) (Kd.R_far (p := ⟨gb169, 0, none⟩) (Kd.R_types HO206.out BK169.out (by decide)) (fun _ hk => hk.2) (.int .i64 t202)) (fun _ hk => hk.2) (.int .i64 t203)) (fun _ hk => hk.2) (.slice Ao87 t204.length co87)) (fun _ hk => trivial), Cmp.g HB.out⟩
        ·replace c36 := Bool.eq_false_iff.mpr c36
         subst c36
         have H1 : ((spec_l14Copy.f a0_0 a0_1 l0_2).bind fun bt207 => (some (bt207.1, bt207.2.1, bt207.2.2, false))) = some (r1, r2, r3, r4) := by rw [if_neg (show ¬ (false = true) by decide)] at H; exact H
         clear H; have H := H1; clear H1; replace H := Option.bind_eq_some_iff.mp H; obtain ⟨⟨t207, t208, t209⟩, A880, H⟩ := H; (try dsimp only at H); have A88 := Aside0.mk A880; clear A880
         simp only [Option.some.injEq, Prod.mk.injEq] at H
         obtain ⟨rfl, rfl, rfl, rfl⟩ := H
         try go_wp2
         have n0_ := Aside0.mk (Kd.R_drew HO_176002.out); have n1_ := Aside0.mk (blk_drew BK168.out); have n2_ := Aside0.mk (blk_drew BK169.out); have n3_ := Aside0.mk (blk_drew BK175.out); have n4_ := Aside0.mk (below_drew1 HB.out); clear HO_176002; clear BK168; clear BK169; clear BK175; clear HB; have HO_176002 := n0_; have BK168 := n1_; have BK169 := n2_; have BK175 := n3_; have HB := n4_; clear n0_ n1_ n2_ n3_ n4_
         have q90 : (x9_4 : Int) ≤ ((l0_2.length : Int) : Int) := of_decide_eq_true Cmp.d
         obtain ⟨i090, hi090, _, hsz90, _⟩ := info_parts info83
         have hroom90 : l0_2.length ≤ c0_2 := HC0_2.out
         have hC90 : Kd.C k83 _ A0_2 l0_2.length l0_2 := HR0_2.out
         have hcut90 := cut_to (P := Try.prog) 26 83 .i64 Try.underlying26 hi090 A0_2 l0_2.length c0_2 x9_4 (of_decide_eq_true Cmp.d) q90 hroom90
         have hr90 := Kd.C_take (m := (x9_4 : Int).toNat) hC90 (by omega)
         have hy90 : y180.length = (x9_4 : Int).toNat := (by rw [Ny180.out, List.length_take]; omega)
         rw [← Ny180.out] at hr90
         rw [← hy90] at hcut90
         have HR183 := Aside0.mk hr90
         have HC183 := Aside0.mk (show y180.length ≤ c0_2 from by omega)
         clear hr90 hC90 hroom90 hi090 hsz90; have KY90 := Aside0.mk hy90; clear hy90; replace q90 := eq_true q90
         have q91 : (x9_4 : Int) ≤ ((l0_2.length : Int) : Int) := of_decide_eq_true Cmp.d
         obtain ⟨i091, hi091, _, hsz91, _⟩ := info_parts info83
         have hroom91 : l0_2.length ≤ c0_2 := HC0_2.out
         have hC91 : Kd.C k83 _ A0_2 l0_2.length l0_2 := HR0_2.out
         have q091 : (0 : Int) ≤ (x9_4 : Int) := of_decide_eq_true Cmp.d
         have hcut91 := cut_from (P := Try.prog) 26 83 .i64 Try.underlying26 hi091 4 hsz91 A0_2 l0_2.length c0_2 x9_4 q091 q91
         have hr91 := Kd.C_drop (m := (x9_4 : Int).toNat) (c := c0_2) hC91 (by omega) hroom91
         obtain ⟨A91, hA91⟩ : ∃ A1, A1 = (if c0_2 = (x9_4 : Int).toNat then A0_2 else (A0_2 : Option Addr).map (·.add ((x9_4 : Int).toNat * 4))) := ⟨_, rfl⟩
         obtain ⟨c91, hc91⟩ : ∃ c1, c1 = c0_2 - (x9_4 : Int).toNat := ⟨_, rfl⟩
         have hy91 : y193.length = l0_2.length - (x9_4 : Int).toNat := (by rw [Ny193.out, List.length_drop] <;> omega)
         rw [show (l0_2).drop (x9_4 : Int).toNat = y193 from Ny193.out.symm] at hr91
         replace hr91 : Kd.C k83 _ A91 y193.length y193 := (by rw [hA91]; exact hr91)
         rw [← hy91, ← hA91, ← hc91] at hcut91
         have HR196 := Aside0.mk hr91
         have HC196 := Aside0.mk (show y193.length ≤ c91 from by rw [hy91, hc91]; exact Nat.sub_le_sub_right hroom91 _)
         clear hr91 hC91 hroom91 hi091 hsz91 hc91; have KY91 := Aside0.mk hy91; have KA91 := Aside0.mk hA91; clear hy91 hA91; replace q91 := eq_true q91
         refine start_ (n := 18) (S := fun w' => w'.cell? ⟨gb168, 0, none⟩ = some (.int .i64 a0_0) ∧ w'.cell? ⟨gb168, 1, none⟩ = some (.int .i64 a0_1) ∧ w'.cell? ⟨gb168, 2, none⟩ = some (.slice A0_2 l0_2.length c0_2)) (ds := []) (Cmp.bm 0 18) (by kernel_rfl) rfl rfl ⟨(blk_cell BK168.out 0).trans rfl, (blk_cell BK168.out 1).trans rfl, (blk_cell BK168.out 2).trans rfl⟩ (fun hHeld => ?_); refine with_tabW spec_AddCredential.tab5 spec_AddCredential.bits5 (fun HT_ HW_ => ?_)
         generalize wc.drew = w89 at HO_176002 BK168 BK169 BK175 HB HR183 HR196 hHeld ⊢
         refine Cmp.pu HT_ 1 30 (Cmp.bb 18 2) ?_; refine Cmp.pu HT_ 3 32 (Cmp.bb 18 10) ?_; refine Cmp.pu HT_ 6 35 (Cmp.bb 18 74) ?_; refine Cmp.pu HT_ 7 36 (Cmp.bb 18 202) ?_; refine Cmp.pu HT_ 8 37 (Cmp.bb 18 458) ?_; refine Cmp.pu HT_ 11 40 (Cmp.bb 18 2506) ?_; refine Cmp.pu HT_ 13 42 (Cmp.bb 18 10698) ?_; refine Cmp.tk HT_ HW_ hHeld 2 31 (Cmp.bb 18 10702) ?_; refine Cmp.pu HT_ 4 33 (Cmp.bb 18 10718) ?_; refine Cmp.tk HT_ HW_ hHeld 12 41 (Cmp.bb 18 14814) ?_; refine Cmp.pu HT_ 14 43 (Cmp.bb 18 31198) ?_
         refine join_ (σ := Value × Value × Value) 4 (Cmp.bb 18 31743) (fun s_ => [(29, s_.1), (34, s_.2.1), (38, s_.2.2)]) (fun s_ w' => (w'.cell? ⟨gb168, 0, none⟩ = some (.int .i64 a0_0) ∧ w'.cell? ⟨gb168, 1, none⟩ = some (.int .i64 a0_1) ∧ w'.cell? ⟨gb168, 2, none⟩ = some (.slice A0_2 l0_2.length c0_2)) ∧ (Kd.R k83 83 w' w.heap.size (fun k_ => some k_ ≠ (s_.2.2 : Value).ownBlock ∧ some k_ ≠ (.slice Ao15 t172.length co15 : Value).ownBlock) s_.2.1 y184) ∧ (Kd.R k83 83 w' w.heap.size (fun k_ => some k_ ≠ (s_.2.1 : Value).ownBlock ∧ some k_ ≠ (.slice Ao15 t172.length co15 : Value).ownBlock) s_.2.2 y187) ∧ (Kd.R k83 83 w' w.heap.size (fun k_ => some k_ ≠ (s_.2.1 : Value).ownBlock ∧ some k_ ≠ (s_.2.2 : Value).ownBlock) (.slice Ao15 t172.length co15) t172) ∧ (w'.heap[gb168]? = some (.cells #[.int .i64 a0_0, .int .i64 a0_1, .slice A0_2 l0_2.length c0_2] 28 (0, 0))) ∧ (w'.heap[gb169]? = some (.cells #[.int .i64 0, .int .i64 0, .slice none 0 0] 28 (0, 0))) ∧ (w'.heap[gb175]? = some (.cells #[.int .i64 t170, .int .i64 t171, .slice Ao15 t172.length co15] 28 (0, 0))) ∧ (Below w.heap.size w w')) ?_ ?_
         rotate_left
         ·intro hCont
          refine two_ (i := 0) (j := 9) (Ni := some 29) (Nj := some 38) (Cmp.bb 18 31199) (Cmp.bb 18 31710) rfl rfl rfl rfl (two_of HT_.out (by kernel_rfl)) (by decide) (by decide) (fun K hK => ?_) (fun K hK => ?_)
          ·skip
           refine Kd.R_lit_step k83 _ 83 ?hg (N := 29) ?hd (xs := ([] : List (S83))) (inner := []) (ok := fun _ => True) (okp := fun _ => True) ?hr ?hp (fun _ hk => hk) trivial (Below.refl _ _) (Nat.le_refl _) (by simp) ?_; (case hd => rfl); (case hg => rfl); (case hr => first | (go_simp; done) | (go_simp; rfl)); (case hp => exact (Reps.none _ _))
           intro v178 w92 ho93 hb hg_ hnew_
           clear hg_ hnew_
           (first | rw [← Ny177.out] at ho93 | (simp only [Int.reduceToNat] at ho93; rw [← Ny177.out] at ho93))
           have n0_ := Aside0.mk (Kd.R_elder' (Cmp.rr HO_176002.out) (Kd.R_base ho93) hb)
           have n1_ := Aside0.mk (Kd.R_lower (Kd.R_new' ho93 (Kd.R_lt (Cmp.rr HO_176002.out))) (below_size (Cmp.g HB.out)))
           have n2_ := Aside0.mk (blk_below (Cmp.b BK168.out) hb)
           have n3_ := Aside0.mk (blk_below (Cmp.b BK169.out) hb)
           have n4_ := Aside0.mk (blk_below (Cmp.b BK175.out) hb)
           have n5_ := Aside0.mk (below_step (Cmp.g HB.out) hb)
           clear HO_176002; clear BK168; clear BK169; clear BK175; clear HB; have HO_176002 := n0_; have HO179 := n1_; have BK168 := n2_; have BK169 := n3_; have BK175 := n4_; have HB := n5_; clear n0_ n1_ n2_ n3_ n4_ n5_; clear hb ho93
           refine hK.out _ _ ⟨(blk_cell BK168.out 0).trans rfl, (blk_cell BK168.out 1).trans rfl, (blk_cell BK168.out 2).trans rfl⟩ (fun hHeld => ?_)
           clear hK K
           refine norm_ (a' := ?_) ?_ ?_
           rotate_left
           ·show Act.put _ (some 29) _ = _
            simp only [Act.put, Cmp.s, Cmp.z, Cmp.c, i64_w, i32_w]; rfl
           refine two_ (i := 5) (j := 9) (Ni := some 34) (Nj := some 38) (Cmp.bb 18 31231) (Cmp.bb 18 31711) rfl rfl rfl rfl (two_of HT_.out (by kernel_rfl)) (by decide) (by decide) (fun K hK => ?_) (fun K hK => ?_)
           ·skip
            refine Kd.R_append_rows_step k83 (w0 := w) w.heap.size (by rfl) (.tmp 29) (.tmp 33) 26 83 (.agg #[(.int .i64 0), (.int .i64 0), (.int .i64 0), (.bool false)]) 32 rfl Try.underlying26 info83 rfl (by decide) (by omega) v178 y177 y180 _ _ _ (fun k_ => some k_ ≠ (.slice Ao15 t172.length co15 : Value).ownBlock) (fun _ => False) rfl rfl ?aO ?aR (fun _ _ h => h) (fun _ h => h.elim) ?aF ?aB ?aS ?aL ?_
            (case aR => repeat (first | exact (Kd.C_below HR183.out HB.out) | (with_reducible refine Kd.C_alloc ?_ _) | (with_reducible refine Kd.C_drewN ?_ _) | (with_reducible refine Kd.C_drew ?_)))
            (case aB => exact (Cmp.g HB.out))
            (case aF => exact (fun k_ hk => Kd.fresh' (Kd.R_lt (Cmp.rr HO_176002.out)) k_ hk))
            (case aO => exact (by refine Cmp.rr ?_; exact Kd.R_mono HO179.out (fun _ hk => hk.2)))
            (case aS => exact (below_size (Cmp.g HB.out)))
            (case aL => have := LMc30.out; omega)
            intro v185 w94 ho hb hg hat
            rw [← Ny184.out] at ho
            have n0_ := Aside0.mk (Kd.R_after (ok := (fun _ => True)) (Cmp.rr HO_176002.out) hg hat)
            have n1_ := Aside0.mk (blk_grown (g := gb168) (o := .cells #[.int .i64 a0_0, .int .i64 a0_1, .slice A0_2 l0_2.length c0_2] 28 (0, 0)) (Cmp.b BK168.out) hg (Kd.R_ne HO179.out BK168.out (by decide)))
            have n2_ := Aside0.mk (blk_grown (g := gb169) (o := .cells #[.int .i64 0, .int .i64 0, .slice none 0 0] 28 (0, 0)) (Cmp.b BK169.out) hg (Kd.R_ne HO179.out BK169.out (by decide)))
            have n3_ := Aside0.mk (blk_grown (g := gb175) (o := .cells #[.int .i64 t170, .int .i64 t171, .slice Ao15 t172.length co15] 28 (0, 0)) (Cmp.b BK175.out) hg (Kd.R_ne HO179.out BK175.out (by decide)))
            have n4_ := Aside0.mk (hb)
            have n5_ := Aside0.mk (ho)
            clear HO_176002; clear BK168; clear BK169; clear BK175; clear HB; clear HO179; have HO_176002 := n0_; have BK168 := n1_; have BK169 := n2_; have BK175 := n3_; have HB := n4_; have HO186 := n5_; clear n0_ n1_ n2_ n3_ n4_ n5_; clear ho hb hg hat
            refine hK.out _ _ ⟨(blk_cell BK168.out 0).trans rfl, (blk_cell BK168.out 1).trans rfl, (blk_cell BK168.out 2).trans rfl⟩ (fun hHeld => ?_)
            clear hK K
            refine norm_ (a' := ?_) ?_ ?_
            rotate_left
            ·show Act.put _ (some 34) _ = _
             simp only [Act.put, Cmp.s, Cmp.z, Cmp.c, i64_w, i32_w]; rfl
            refine one_ (i := 9) (N := some 38) (Cmp.bb 18 31743) rfl rfl (one_of HT_.out (by kernel_rfl)) (by decide) (fun K hK => ?_)
            refine Kd.R_lit_step k83 _ 83 ?hg (N := 38) ?hd (xs := ([(⟨a1, a2, 0, false⟩ : S83)] : List (S83))) (inner := [.int .i64 a1, .int .i64 a2, .int .i64 0, .bool false]) (ok := fun _ => True) (okp := fun _ => True) ?hr ?hp (fun _ hk => hk) trivial (Below.refl _ _) (Nat.le_refl _) (by simp) ?_; (case hd => rfl); (case hg => rfl); (case hr => first | (go_simp; done) | (go_simp; rfl)); (case hp => exact (Reps.c4 (show Kd.M k83 _ _ _ (⟨a1, a2, 0, false⟩ : S83) [.int .i64 a1, .int .i64 a2, .int .i64 0, .bool false] from (k83_mkM _ _ _ (⟨a1, a2, 0, false⟩ : S83) )) (Reps.none _ _)))
            intro v188 w95 ho96 hb hg_ hnew_
            clear hg_ hnew_
            (first | rw [← Ny187.out] at ho96 | (simp only [Int.reduceToNat] at ho96; rw [← Ny187.out] at ho96))
            have n0_ := Aside0.mk (Kd.R_elder' (Cmp.rr HO_176002.out) (Kd.R_base ho96) hb)
            have n1_ := Aside0.mk (Kd.R_elder' (Cmp.rr HO186.out) (Kd.R_base ho96) hb)
            have n2_ := Aside0.mk (Kd.R_lower (Kd.R_new' (Kd.R_new' ho96 (Kd.R_lt (Cmp.rr HO_176002.out))) (Kd.R_lt (Cmp.rr HO186.out))) (below_size (Cmp.g HB.out)))
            have n3_ := Aside0.mk (blk_below (Cmp.b BK168.out) hb)
            have n4_ := Aside0.mk (blk_below (Cmp.b BK169.out) hb)
            have n5_ := Aside0.mk (blk_below (Cmp.b BK175.out) hb)
            have n6_ := Aside0.mk (below_step (Cmp.g HB.out) hb)
            clear HO_176002; clear HO186; clear BK168; clear BK169; clear BK175; clear HB; have HO_176002 := n0_; have HO186 := n1_; have HO189 := n2_; have BK168 := n3_; have BK169 := n4_; have BK175 := n5_; have HB := n6_; clear n0_ n1_ n2_ n3_ n4_ n5_ n6_; clear hb ho96
            refine hK.out _ _ ⟨(blk_cell BK168.out 0).trans rfl, (blk_cell BK168.out 1).trans rfl, (blk_cell BK168.out 2).trans rfl⟩ (fun hHeld => ?_)
            clear hK K
            refine norm_ (a' := ?_) ?_ ?_
            rotate_left
            ·show Act.put _ (some 38) _ = _
             simp only [Act.put, Cmp.s, Cmp.z, Cmp.c, i64_w, i32_w]; rfl
            exact norm_ (by simp only [putAll, Act.put, List.setIfInBounds_toArray, List.set_cons_zero, List.set_cons_succ]) (hCont (v178, v185, v188) _ ⟨hHeld, (by refine Cmp.rr ?_; exact Kd.R_mono HO186.out (fun _ hk => ⟨hk.2, hk.1⟩)), (by refine Cmp.rr ?_; exact Kd.R_mono HO189.out (fun _ hk => ⟨hk.2, hk.1.2⟩)), (by refine Cmp.rr ?_; exact Kd.R_mono HO_176002.out (fun _ hk => ⟨hk.1.2, hk.2⟩)), (Cmp.b BK168.out), (Cmp.b BK169.out), (Cmp.b BK175.out), (Cmp.g HB.out)⟩)
           ·skip
            refine Kd.R_lit_step k83 _ 83 ?hg (N := 38) ?hd (xs := ([(⟨a1, a2, 0, false⟩ : S83)] : List (S83))) (inner := [.int .i64 a1, .int .i64 a2, .int .i64 0, .bool false]) (ok := fun _ => True) (okp := fun _ => True) ?hr ?hp (fun _ hk => hk) trivial (Below.refl _ _) (Nat.le_refl _) (by simp) ?_; (case hd => rfl); (case hg => rfl); (case hr => first | (go_simp; done) | (go_simp; rfl)); (case hp => exact (Reps.c4 (show Kd.M k83 _ _ _ (⟨a1, a2, 0, false⟩ : S83) [.int .i64 a1, .int .i64 a2, .int .i64 0, .bool false] from (k83_mkM _ _ _ (⟨a1, a2, 0, false⟩ : S83) )) (Reps.none _ _)))
            intro v188 w94 ho95 hb hg_ hnew_
            clear hg_ hnew_
            (first | rw [← Ny187.out] at ho95 | (simp only [Int.reduceToNat] at ho95; rw [← Ny187.out] at ho95))
            have n0_ := Aside0.mk (Kd.R_elder' (Cmp.rr HO_176002.out) (Kd.R_base ho95) hb)
            have n1_ := Aside0.mk (Kd.R_elder' (Cmp.rr HO179.out) (Kd.R_base ho95) hb)
            have n2_ := Aside0.mk (Kd.R_lower (Kd.R_new' (Kd.R_new' ho95 (Kd.R_lt (Cmp.rr HO_176002.out))) (Kd.R_lt (Cmp.rr HO179.out))) (below_size (Cmp.g HB.out)))
            have n3_ := Aside0.mk (blk_below (Cmp.b BK168.out) hb)
            have n4_ := Aside0.mk (blk_below (Cmp.b BK169.out) hb)
            have n5_ := Aside0.mk (blk_below (Cmp.b BK175.out) hb)
            have n6_ := Aside0.mk (below_step (Cmp.g HB.out) hb)
            clear HO_176002; clear HO179; clear BK168; clear BK169; clear BK175; clear HB; have HO_176002 := n0_; have HO179 := n1_; have HO189 := n2_; have BK168 := n3_; have BK169 := n4_; have BK175 := n5_; have HB := n6_; clear n0_ n1_ n2_ n3_ n4_ n5_ n6_; clear hb ho95
            refine hK.out _ _ ⟨(blk_cell BK168.out 0).trans rfl, (blk_cell BK168.out 1).trans rfl, (blk_cell BK168.out 2).trans rfl⟩ (fun hHeld => ?_)
            clear hK K
            refine norm_ (a' := ?_) ?_ ?_
            rotate_left
            ·show Act.put _ (some 38) _ = _
             simp only [Act.put, Cmp.s, Cmp.z, Cmp.c, i64_w, i32_w]; rfl
            refine one_ (i := 5) (N := some 34) (Cmp.bb 18 31743) rfl rfl (one_of HT_.out (by kernel_rfl)) (by decide) (fun K hK => ?_)
            refine Kd.R_append_rows_step k83 (w0 := w) w.heap.size (by rfl) (.tmp 29) (.tmp 33) 26 83 (.agg #[(.int .i64 0), (.int .i64 0), (.int .i64 0), (.bool false)]) 32 rfl Try.underlying26 info83 rfl (by decide) (by omega) v178 y177 y180 _ _ _ (fun k_ => some k_ ≠ (.slice Ao15 t172.length co15 : Value).ownBlock ∧ some k_ ≠ (v188 : Value).ownBlock) (fun _ => False) rfl rfl ?aO ?aR (fun _ _ h => h) (fun _ h => h.elim) ?aF ?aB ?aS ?aL ?_
            (case aR => repeat (first | exact (Kd.C_below HR183.out HB.out) | (with_reducible refine Kd.C_alloc ?_ _) | (with_reducible refine Kd.C_drewN ?_ _) | (with_reducible refine Kd.C_drew ?_)))
            (case aB => exact (Cmp.g HB.out))
            (case aF => exact (fun k_ hk => ⟨Kd.fresh' (Kd.R_lt (Cmp.rr HO_176002.out)) k_ hk, Kd.fresh' (Kd.R_lt (Cmp.rr HO189.out)) k_ hk⟩))
            (case aO => exact (by refine Cmp.rr ?_; exact Kd.R_mono HO179.out (fun _ hk => ⟨hk.1.2, hk.2⟩)))
            (case aS => exact (below_size (Cmp.g HB.out)))
            (case aL => have := LMc30.out; omega)
            intro v185 w96 ho hb hg hat
            rw [← Ny184.out] at ho
            have n0_ := Aside0.mk (Kd.R_after (ok := (fun k_ => some k_ ≠ (v188 : Value).ownBlock)) (by refine Cmp.rr ?_; exact Kd.R_mono HO_176002.out (fun _ hk => ⟨hk.2, hk.1.2⟩)) hg hat)
            have n1_ := Aside0.mk (blk_grown (g := gb168) (o := .cells #[.int .i64 a0_0, .int .i64 a0_1, .slice A0_2 l0_2.length c0_2] 28 (0, 0)) (Cmp.b BK168.out) hg (Kd.R_ne HO179.out BK168.out (by decide)))
            have n2_ := Aside0.mk (blk_grown (g := gb169) (o := .cells #[.int .i64 0, .int .i64 0, .slice none 0 0] 28 (0, 0)) (Cmp.b BK169.out) hg (Kd.R_ne HO179.out BK169.out (by decide)))
            have n3_ := Aside0.mk (blk_grown (g := gb175) (o := .cells #[.int .i64 t170, .int .i64 t171, .slice Ao15 t172.length co15] 28 (0, 0)) (Cmp.b BK175.out) hg (Kd.R_ne HO179.out BK175.out (by decide)))
            have n4_ := Aside0.mk (Kd.R_after (ok := (fun k_ => some k_ ≠ (.slice Ao15 t172.length co15 : Value).ownBlock)) (by refine Cmp.rr ?_; exact Kd.R_mono HO189.out (fun _ hk => ⟨hk.1.2, hk.2⟩)) hg hat)
            have n5_ := Aside0.mk (hb)
            have n6_ := Aside0.mk (ho)
            clear HO_176002; clear BK168; clear BK169; clear BK175; clear HO189; clear HB; clear HO179; have HO_176002 := n0_; have BK168 := n1_; have BK169 := n2_; have BK175 := n3_; have HO189 := n4_; have HB := n5_; have HO186 := n6_; clear n0_ n1_ n2_ n3_ n4_ n5_ n6_; clear ho hb hg hat
            refine hK.out _ _ ⟨(blk_cell BK168.out 0).trans rfl, (blk_cell BK168.out 1).trans rfl, (blk_cell BK168.out 2).trans rfl⟩ (fun hHeld => ?_)
            clear hK K
            refine norm_ (a' := ?_) ?_ ?_
            rotate_left
            ·show Act.put _ (some 34) _ = _
             simp only [Act.put, Cmp.s, Cmp.z, Cmp.c, i64_w, i32_w]; rfl
            exact norm_ (by simp only [putAll, Act.put, List.setIfInBounds_toArray, List.set_cons_zero, List.set_cons_succ]) (hCont (v178, v185, v188) _ ⟨hHeld, (by refine Cmp.rr ?_; exact Kd.R_mono HO186.out (fun _ hk => ⟨hk.2, hk.1⟩)), (by refine Cmp.rr ?_; exact Kd.R_mono HO189.out (fun _ hk => ⟨hk.2, hk.1⟩)), (by refine Cmp.rr ?_; exact Kd.R_mono HO_176002.out (fun _ hk => ⟨hk.2, hk.1⟩)), (Cmp.b BK168.out), (Cmp.b BK169.out), (Cmp.b BK175.out), (Cmp.g HB.out)⟩)
          ·skip
           refine Kd.R_lit_step k83 _ 83 ?hg (N := 38) ?hd (xs := ([(⟨a1, a2, 0, false⟩ : S83)] : List (S83))) (inner := [.int .i64 a1, .int .i64 a2, .int .i64 0, .bool false]) (ok := fun _ => True) (okp := fun _ => True) ?hr ?hp (fun _ hk => hk) trivial (Below.refl _ _) (Nat.le_refl _) (by simp) ?_; (case hd => rfl); (case hg => rfl); (case hr => first | (go_simp; done) | (go_simp; rfl)); (case hp => exact (Reps.c4 (show Kd.M k83 _ _ _ (⟨a1, a2, 0, false⟩ : S83) [.int .i64 a1, .int .i64 a2, .int .i64 0, .bool false] from (k83_mkM _ _ _ (⟨a1, a2, 0, false⟩ : S83) )) (Reps.none _ _)))
           intro v188 w92 ho93 hb hg_ hnew_
           clear hg_ hnew_
           (first | rw [← Ny187.out] at ho93 | (simp only [Int.reduceToNat] at ho93; rw [← Ny187.out] at ho93))
           have n0_ := Aside0.mk (Kd.R_elder' (Cmp.rr HO_176002.out) (Kd.R_base ho93) hb)
           have n1_ := Aside0.mk (Kd.R_lower (Kd.R_new' ho93 (Kd.R_lt (Cmp.rr HO_176002.out))) (below_size (Cmp.g HB.out)))
           have n2_ := Aside0.mk (blk_below (Cmp.b BK168.out) hb)
           have n3_ := Aside0.mk (blk_below (Cmp.b BK169.out) hb)
           have n4_ := Aside0.mk (blk_below (Cmp.b BK175.out) hb)
           have n5_ := Aside0.mk (below_step (Cmp.g HB.out) hb)
           clear HO_176002; clear BK168; clear BK169; clear BK175; clear HB; have HO_176002 := n0_; have HO189 := n1_; have BK168 := n2_; have BK169 := n3_; have BK175 := n4_; have HB := n5_; clear n0_ n1_ n2_ n3_ n4_ n5_; clear hb ho93
           refine hK.out _ _ ⟨(blk_cell BK168.out 0).trans rfl, (blk_cell BK168.out 1).trans rfl, (blk_cell BK168.out 2).trans rfl⟩ (fun hHeld => ?_)
           clear hK K
           refine norm_ (a' := ?_) ?_ ?_
           rotate_left
           ·show Act.put _ (some 38) _ = _
            simp only [Act.put, Cmp.s, Cmp.z, Cmp.c, i64_w, i32_w]; rfl
           refine one_ (i := 0) (N := some 29) (Cmp.bb 18 31711) rfl rfl (one_of HT_.out (by kernel_rfl)) (by decide) (fun K hK => ?_)
           refine Kd.R_lit_step k83 _ 83 ?hg (N := 29) ?hd (xs := ([] : List (S83))) (inner := []) (ok := fun _ => True) (okp := fun _ => True) ?hr ?hp (fun _ hk => hk) trivial (Below.refl _ _) (Nat.le_refl _) (by simp) ?_; (case hd => rfl); (case hg => rfl); (case hr => first | (go_simp; done) | (go_simp; rfl)); (case hp => exact (Reps.none _ _))
           intro v178 w94 ho95 hb hg_ hnew_
           clear hg_ hnew_
           (first | rw [← Ny177.out] at ho95 | (simp only [Int.reduceToNat] at ho95; rw [← Ny177.out] at ho95))
           have n0_ := Aside0.mk (Kd.R_elder' (Cmp.rr HO_176002.out) (Kd.R_base ho95) hb)
           have n1_ := Aside0.mk (Kd.R_elder' (Cmp.rr HO189.out) (Kd.R_base ho95) hb)
           have n2_ := Aside0.mk (Kd.R_lower (Kd.R_new' (Kd.R_new' ho95 (Kd.R_lt (Cmp.rr HO_176002.out))) (Kd.R_lt (Cmp.rr HO189.out))) (below_size (Cmp.g HB.out)))
           have n3_ := Aside0.mk (blk_below (Cmp.b BK168.out) hb)
           have n4_ := Aside0.mk (blk_below (Cmp.b BK169.out) hb)
           have n5_ := Aside0.mk (blk_below (Cmp.b BK175.out) hb)
           have n6_ := Aside0.mk (below_step (Cmp.g HB.out) hb)
           clear HO_176002; clear HO189; clear BK168; clear BK169; clear BK175; clear HB; have HO_176002 := n0_; have HO189 := n1_; have HO179 := n2_; have BK168 := n3_; have BK169 := n4_; have BK175 := n5_; have HB := n6_; clear n0_ n1_ n2_ n3_ n4_ n5_ n6_; clear hb ho95
           refine hK.out _ _ ⟨(blk_cell BK168.out 0).trans rfl, (blk_cell BK168.out 1).trans rfl, (blk_cell BK168.out 2).trans rfl⟩ (fun hHeld => ?_)
           clear hK K
           refine norm_ (a' := ?_) ?_ ?_
           rotate_left
           ·show Act.put _ (some 29) _ = _
            simp only [Act.put, Cmp.s, Cmp.z, Cmp.c, i64_w, i32_w]; rfl
           refine one_ (i := 5) (N := some 34) (Cmp.bb 18 31743) rfl rfl (one_of HT_.out (by kernel_rfl)) (by decide) (fun K hK => ?_)
           refine Kd.R_append_rows_step k83 (w0 := w) w.heap.size (by rfl) (.tmp 29) (.tmp 33) 26 83 (.agg #[(.int .i64 0), (.int .i64 0), (.int .i64 0), (.bool false)]) 32 rfl Try.underlying26 info83 rfl (by decide) (by omega) v178 y177 y180 _ _ _ (fun k_ => some k_ ≠ (.slice Ao15 t172.length co15 : Value).ownBlock ∧ some k_ ≠ (v188 : Value).ownBlock) (fun _ => False) rfl rfl ?aO ?aR (fun _ _ h => h) (fun _ h => h.elim) ?aF ?aB ?aS ?aL ?_
           (case aR => repeat (first | exact (Kd.C_below HR183.out HB.out) | (with_reducible refine Kd.C_alloc ?_ _) | (with_reducible refine Kd.C_drewN ?_ _) | (with_reducible refine Kd.C_drew ?_)))
           (case aB => exact (Cmp.g HB.out))
           (case aF => exact (fun k_ hk => ⟨Kd.fresh' (Kd.R_lt (Cmp.rr HO_176002.out)) k_ hk, Kd.fresh' (Kd.R_lt (Cmp.rr HO189.out)) k_ hk⟩))
           (case aO => exact (by refine Cmp.rr ?_; exact Kd.R_mono HO179.out (fun _ hk => ⟨hk.1.2, hk.2⟩)))
           (case aS => exact (below_size (Cmp.g HB.out)))
           (case aL => have := LMc30.out; omega)
           intro v185 w96 ho hb hg hat
           rw [← Ny184.out] at ho
           have n0_ := Aside0.mk (Kd.R_after (ok := (fun k_ => some k_ ≠ (v188 : Value).ownBlock)) (by refine Cmp.rr ?_; exact Kd.R_mono HO_176002.out (fun _ hk => ⟨hk.1.2, hk.2⟩)) hg hat)
           have n1_ := Aside0.mk (blk_grown (g := gb168) (o := .cells #[.int .i64 a0_0, .int .i64 a0_1, .slice A0_2 l0_2.length c0_2] 28 (0, 0)) (Cmp.b BK168.out) hg (Kd.R_ne HO179.out BK168.out (by decide)))
           have n2_ := Aside0.mk (blk_grown (g := gb169) (o := .cells #[.int .i64 0, .int .i64 0, .slice none 0 0] 28 (0, 0)) (Cmp.b BK169.out) hg (Kd.R_ne HO179.out BK169.out (by decide)))
           have n3_ := Aside0.mk (blk_grown (g := gb175) (o := .cells #[.int .i64 t170, .int .i64 t171, .slice Ao15 t172.length co15] 28 (0, 0)) (Cmp.b BK175.out) hg (Kd.R_ne HO179.out BK175.out (by decide)))
           have n4_ := Aside0.mk (Kd.R_after (ok := (fun k_ => some k_ ≠ (.slice Ao15 t172.length co15 : Value).ownBlock)) (by refine Cmp.rr ?_; exact Kd.R_mono HO189.out (fun _ hk => ⟨hk.1.2, hk.2⟩)) hg hat)
           have n5_ := Aside0.mk (hb)
           have n6_ := Aside0.mk (ho)
           clear HO_176002; clear BK168; clear BK169; clear BK175; clear HO189; clear HB; clear HO179; have HO_176002 := n0_; have BK168 := n1_; have BK169 := n2_; have BK175 := n3_; have HO189 := n4_; have HB := n5_; have HO186 := n6_; clear n0_ n1_ n2_ n3_ n4_ n5_ n6_; clear ho hb hg hat
           refine hK.out _ _ ⟨(blk_cell BK168.out 0).trans rfl, (blk_cell BK168.out 1).trans rfl, (blk_cell BK168.out 2).trans rfl⟩ (fun hHeld => ?_)
           clear hK K
           refine norm_ (a' := ?_) ?_ ?_
           rotate_left
           ·show Act.put _ (some 34) _ = _
            simp only [Act.put, Cmp.s, Cmp.z, Cmp.c, i64_w, i32_w]; rfl
           exact norm_ (by simp only [putAll, Act.put, List.setIfInBounds_toArray, List.set_cons_zero, List.set_cons_succ]) (hCont (v178, v185, v188) _ ⟨hHeld, (by refine Cmp.rr ?_; exact Kd.R_mono HO186.out (fun _ hk => ⟨hk.2, hk.1⟩)), (by refine Cmp.rr ?_; exact Kd.R_mono HO189.out (fun _ hk => ⟨hk.2, hk.1⟩)), (by refine Cmp.rr ?_; exact Kd.R_mono HO_176002.out (fun _ hk => ⟨hk.2, hk.1⟩)), (Cmp.b BK168.out), (Cmp.b BK169.out), (Cmp.b BK175.out), (Cmp.g HB.out)⟩)
         rintro ⟨v178, v185, v188⟩ w97 ⟨hS_, h0_, h1_, h2_, h3_, h4_, h5_, h6_⟩
         have n0_ : Aside0 (Kd.R k83 83 w97 w.heap.size (fun k_ => some k_ ≠ (v188 : Value).ownBlock ∧ some k_ ≠ (.slice Ao15 t172.length co15 : Value).ownBlock) v185 y184) := ⟨h0_⟩
         have n1_ : Aside0 (Kd.R k83 83 w97 w.heap.size (fun k_ => some k_ ≠ (v185 : Value).ownBlock ∧ some k_ ≠ (.slice Ao15 t172.length co15 : Value).ownBlock) v188 y187) := ⟨h1_⟩
         have n2_ : Aside0 (Kd.R k83 83 w97 w.heap.size (fun k_ => some k_ ≠ (v185 : Value).ownBlock ∧ some k_ ≠ (v188 : Value).ownBlock) (.slice Ao15 t172.length co15) t172) := ⟨h2_⟩
         have n3_ : Aside0 (w97.heap[gb168]? = some (.cells #[.int .i64 a0_0, .int .i64 a0_1, .slice A0_2 l0_2.length c0_2] 28 (0, 0))) := ⟨h3_⟩
         have n4_ : Aside0 (w97.heap[gb169]? = some (.cells #[.int .i64 0, .int .i64 0, .slice none 0 0] 28 (0, 0))) := ⟨h4_⟩
         have n5_ : Aside0 (w97.heap[gb175]? = some (.cells #[.int .i64 t170, .int .i64 t171, .slice Ao15 t172.length co15] 28 (0, 0))) := ⟨h5_⟩
         have n6_ : Aside0 (Below w.heap.size w w97) := ⟨h6_⟩
         clear HO_176002; clear BK168; clear BK169; clear BK175; clear HB; clear h0_ h1_ h2_ h3_ h4_ h5_ h6_; have HO186 := n0_; have HO189 := n1_; have HO_176002 := n2_; have BK168 := n3_; have BK169 := n4_; have BK175 := n5_; have HB := n6_; clear n0_ n1_ n2_ n3_ n4_ n5_ n6_
         have hHeld : w97.cell? ⟨gb168, 0, none⟩ = some (.int .i64 a0_0) ∧ w97.cell? ⟨gb168, 1, none⟩ = some (.int .i64 a0_1) ∧ w97.cell? ⟨gb168, 2, none⟩ = some (.slice A0_2 l0_2.length c0_2) := hS_
         obtain ⟨Ao99, co99, eo99⟩ := Kd.R_slice HO189.out
         (first | subst eo99 | (injection eo99 with f1_ f2_ f3_; have f4_ := f1_.symm; have f5_ := f3_.symm; clear f1_ f2_ f3_; subst f4_; subst f5_))
         refine norm_ (a' := ?_) ?_ ?_
         rotate_left
         ·simp only [putAll, Act.put, List.setIfInBounds_toArray, List.set_cons_zero, List.set_cons_succ]; rfl
         refine one_ (i := 10) (N := some 39) (Cmp.bm 15 3) rfl rfl (one_of HT_.out (by kernel_rfl)) (by decide) (fun K hK => ?_)
         refine Kd.R_append_rows_step k83 (w0 := w) w.heap.size (by rfl) (.tmp 34) (.tmp 38) 26 83 (.agg #[(.int .i64 0), (.int .i64 0), (.int .i64 0), (.bool false)]) 32 rfl Try.underlying26 info83 rfl (by decide) (by omega) v185 y184 y187 _ _ _ (fun k_ => some k_ ≠ (.slice Ao15 t172.length co15 : Value).ownBlock ∧ some k_ ≠ (.slice Ao99 y187.length co99 : Value).ownBlock) (fun _ => False) rfl rfl ?aO ?aR (fun _ _ h => h) (fun _ h => h.elim) ?aF ?aB ?aS ?aL ?_
         (case aR => repeat (first | exact (Kd.R_reads' HO189.out).2.2 | (with_reducible refine Kd.C_alloc ?_ _) | (with_reducible refine Kd.C_drewN ?_ _) | (with_reducible refine Kd.C_drew ?_)))
         (case aB => exact (Cmp.g HB.out))
         (case aF => exact (fun k_ hk => ⟨Kd.fresh' (Kd.R_lt (Cmp.rr HO_176002.out)) k_ hk, Kd.fresh' (Kd.R_lt (Cmp.rr HO189.out)) k_ hk⟩))
         (case aO => exact (by refine Cmp.rr ?_; exact Kd.R_mono HO186.out (fun _ hk => ⟨hk.2, hk.1⟩)))
         (case aS => exact (below_size (Cmp.g HB.out)))
         (case aL => have := LMc31.out; omega)
         intro v191 w98 ho hb hg hat
         rw [← Ny190.out] at ho
         have n0_ := Aside0.mk (Kd.R_after (ok := (fun k_ => some k_ ≠ (.slice Ao99 y187.length co99 : Value).ownBlock)) (by refine Cmp.rr ?_; exact Kd.R_mono HO_176002.out (fun _ hk => ⟨hk.2, hk.1⟩)) hg hat)
         have n1_ := Aside0.mk (blk_grown (g := gb168) (o := .cells #[.int .i64 a0_0, .int .i64 a0_1, .slice A0_2 l0_2.length c0_2] 28 (0, 0)) (Cmp.b BK168.out) hg (Kd.R_ne HO186.out BK168.out (by decide)))
         have n2_ := Aside0.mk (blk_grown (g := gb169) (o := .cells #[.int .i64 0, .int .i64 0, .slice none 0 0] 28 (0, 0)) (Cmp.b BK169.out) hg (Kd.R_ne HO186.out BK169.out (by decide)))
         have n3_ := Aside0.mk (blk_grown (g := gb175) (o := .cells #[.int .i64 t170, .int .i64 t171, .slice Ao15 t172.length co15] 28 (0, 0)) (Cmp.b BK175.out) hg (Kd.R_ne HO186.out BK175.out (by decide)))
         have n4_ := Aside0.mk (Kd.R_after (ok := (fun k_ => some k_ ≠ (.slice Ao15 t172.length co15 : Value).ownBlock)) (by refine Cmp.rr ?_; exact Kd.R_mono HO189.out (fun _ hk => ⟨hk.2, hk.1⟩)) hg hat)
         have n5_ := Aside0.mk (hb)
         have n6_ := Aside0.mk (ho)
         clear HO_176002; clear BK168; clear BK169; clear BK175; clear HO189; clear HB; clear HO186; have HO_176002 := n0_; have BK168 := n1_; have BK169 := n2_; have BK175 := n3_; have HO189 := n4_; have HB := n5_; have HO192 := n6_; clear n0_ n1_ n2_ n3_ n4_ n5_ n6_; clear ho hb hg hat
         refine hK.out _ _ ⟨(blk_cell BK168.out 0).trans rfl, (blk_cell BK168.out 1).trans rfl, (blk_cell BK168.out 2).trans rfl⟩ (fun hHeld => ?_)
         clear hK K
         refine norm_ (a' := ?_) ?_ ?_
         rotate_left
         ·show Act.put _ (some 39) _ = _
          simp only [Act.put, Cmp.s, Cmp.z, Cmp.c, i64_w, i32_w]; rfl
         refine one_ (i := 15) (N := some 44) (Cmp.bm 16 2) rfl rfl (one_of HT_.out (by kernel_rfl)) (by decide) (fun K hK => ?_)
         refine Kd.R_append_rows_step k83 (w0 := w) w.heap.size (by rfl) (.tmp 39) (.tmp 43) 26 83 (.agg #[(.int .i64 0), (.int .i64 0), (.int .i64 0), (.bool false)]) 32 rfl Try.underlying26 info83 rfl (by decide) (by omega) v191 y190 y193 _ _ _ (fun k_ => some k_ ≠ (.slice Ao15 t172.length co15 : Value).ownBlock ∧ some k_ ≠ (.slice Ao99 y187.length co99 : Value).ownBlock) (fun _ => False) rfl rfl ?aO ?aR (fun _ _ h => h) (fun _ h => h.elim) ?aF ?aB ?aS ?aL ?_
         (case aR => repeat (first | exact (Kd.C_below HR196.out HB.out) | (with_reducible refine Kd.C_alloc ?_ _) | (with_reducible refine Kd.C_drewN ?_ _) | (with_reducible refine Kd.C_drew ?_)))
         (case aB => exact (Cmp.g HB.out))
         (case aF => exact (fun k_ hk => ⟨Kd.fresh' (Kd.R_lt (Cmp.rr HO_176002.out)) k_ hk, Kd.fresh' (Kd.R_lt (Cmp.rr HO189.out)) k_ hk⟩))
         (case aO => exact (Cmp.rr HO192.out))
         (case aS => exact (below_size (Cmp.g HB.out)))
         (case aL => have := LMc34.out; omega)
         intro v198 w100 ho hb hg hat
         rw [← Ny197.out] at ho
         have n0_ := Aside0.mk (Kd.R_after (ok := (fun k_ => some k_ ≠ (.slice Ao99 y187.length co99 : Value).ownBlock)) (Cmp.rr HO_176002.out) hg hat)
         have n1_ := Aside0.mk (blk_grown (g := gb168) (o := .cells #[.int .i64 a0_0, .int .i64 a0_1, .slice A0_2 l0_2.length c0_2] 28 (0, 0)) (Cmp.b BK168.out) hg (Kd.R_ne HO192.out BK168.out (by decide)))
         have n2_ := Aside0.mk (blk_grown (g := gb169) (o := .cells #[.int .i64 0, .int .i64 0, .slice none 0 0] 28 (0, 0)) (Cmp.b BK169.out) hg (Kd.R_ne HO192.out BK169.out (by decide)))
         have n3_ := Aside0.mk (blk_grown (g := gb175) (o := .cells #[.int .i64 t170, .int .i64 t171, .slice Ao15 t172.length co15] 28 (0, 0)) (Cmp.b BK175.out) hg (Kd.R_ne HO192.out BK175.out (by decide)))
         have n4_ := Aside0.mk (Kd.R_after (ok := (fun k_ => some k_ ≠ (.slice Ao15 t172.length co15 : Value).ownBlock)) (Cmp.rr HO189.out) hg hat)
         have n5_ := Aside0.mk (hb)
         have n6_ := Aside0.mk (ho)
         clear HO_176002; clear BK168; clear BK169; clear BK175; clear HO189; clear HB; clear HO192; have HO_176002 := n0_; have BK168 := n1_; have BK169 := n2_; have BK175 := n3_; have HO189 := n4_; have HB := n5_; have HO199 := n6_; clear n0_ n1_ n2_ n3_ n4_ n5_ n6_; clear ho hb hg hat
         obtain ⟨Ao101, co101, eo101⟩ := Kd.R_slice HO199.out
         (first | subst eo101 | (injection eo101 with f1_ f2_ f3_; have f4_ := f1_.symm; have f5_ := f3_.symm; clear f1_ f2_ f3_; subst f4_; subst f5_))
         refine hK.out _ _ ⟨(blk_cell BK168.out 0).trans rfl, (blk_cell BK168.out 1).trans rfl, (blk_cell BK168.out 2).trans rfl⟩ (fun hHeld => ?_)
         clear hK K
         refine norm_ (a' := ?_) ?_ ?_
         rotate_left
         ·show Act.put _ (some 44) _ = _
          simp only [Act.put, Cmp.s, Cmp.z, Cmp.c, i64_w, i32_w]; rfl
         refine Cmp.pu HT_ 16 45 (Cmp.bm 17 1) ?_
         refine one_ (i := 17) (N := none) (Cmp.bm 18 0) rfl rfl (one_of HT_.out (by kernel_rfl)) (by decide) (fun K hK => ?_)
         have hs102 : w100.cell? ⟨gb175, 2, none⟩ = some (.slice Ao15 t172.length co15) := (blk_cell BK175.out 2).trans rfl
         have hfs102 := blk_frozen BK175.out 2; have hns102_0 := NB168_175.out; have hns102_1 := NB169_175.out; have hms102_0 := NB175_168.out; have hms102_1 := NB175_169.out
         refine skip_ (w1 := ?_) (by rfl) rfl ?_ ?_
         rotate_left
         ·go_simp; rfl
         refine hK.out _ _ ⟨((cell_far (p := ⟨gb175, _, none⟩) NB168_175.out _).trans (hHeld.1)), ((cell_far (p := ⟨gb175, _, none⟩) NB168_175.out _).trans (hHeld.2.1)), ((cell_far (p := ⟨gb175, _, none⟩) NB168_175.out _).trans (hHeld.2.2))⟩ (fun hHeld => ?_)
         clear hK K
         refine done_ (done_of HT_.out (by kernel_rfl)) ?_
         have hnb103 := NB168_169.out; have hnc103 := NB169_168.out; have hnb104 := NB168_175.out; have hnc104 := NB175_168.out
         have hcz105_0 : w100.cell? ⟨gb168, 0, none⟩ = some (.int .i64 a0_0) := (blk_cell BK168.out 0).trans rfl
         have hcz105_1 : w100.cell? ⟨gb168, 1, none⟩ = some (.int .i64 a0_1) := (blk_cell BK168.out 1).trans rfl
         have hcz105_2 : w100.cell? ⟨gb168, 2, none⟩ = some (.slice A0_2 l0_2.length c0_2) := (blk_cell BK168.out 2).trans rfl
         have hfz105_0 := blk_frozen BK168.out 0; have hfz105_1 := blk_frozen BK168.out 1; have hfz105_2 := blk_frozen BK168.out 2
         try go_wp2_with (first | ((with_reducible refine gate_callee (f := 45) rfl ?_); refine goesL_ (some 47) rfl rfl Try.func45 (by kernel_rfl) rfl #[.agg #[.int .i64 a0_0, .int .i64 a0_1, .slice A0_2 l0_2.length c0_2]] rfl Cmp.q ?_; (with_reducible refine (spec_IsValidAccount.calls kj4 a0_0 a0_1 _ _ l0_2 false _ ?side1 ?side2 A35.out).mono ?_); (case side1 => exact Kd.C_below HR0_2.out (Cmp.g HB.out)); (case side2 => exact HC0_2.out); rintro e w106 ⟨rfl, hb⟩; refine ⟨_, rfl, ?_⟩; have n0_ := Aside0.mk (Kd.R_below (by refine Cmp.rr ?_; exact (Kd.R_mono (Kd.R_far (p := ⟨gb175, 2, none⟩) (Kd.R_types HO_176002.out BK175.out (by decide)) (fun _ hk => hk.2) (.slice Ao101 y197.length co101)) (fun _ h_ => h_.1))) hb); have n1_ := Aside0.mk (Kd.R_below (by refine Cmp.rr ?_; exact (Kd.R_mono (Kd.R_far (p := ⟨gb175, 2, none⟩) (Kd.R_types HO189.out BK175.out (by decide)) (fun _ hk => hk.2) (.slice Ao101 y197.length co101)) (fun _ h_ => h_.1))) hb); have n2_ := Aside0.mk (Kd.R_below (by refine Cmp.rr ?_; exact (Kd.R_mono (Kd.R_far (p := ⟨gb175, 2, none⟩) (Kd.R_types HO199.out BK175.out (by decide)) (fun _ hk => hk.2) (.slice Ao101 y197.length co101)) (fun _ h_ => h_.1))) hb); have n3_ := Aside0.mk (blk_below (g := gb168) (o := .cells #[.int .i64 a0_0, .int .i64 a0_1, .slice A0_2 l0_2.length c0_2] 28 (0, 0)) (by refine Cmp.b ?_; refine blk_far ?_ NB168_175.out _; refine Cmp.b ?_; exact BK168.out) hb); have n4_ := Aside0.mk (blk_below (g := gb169) (o := .cells #[.int .i64 0, .int .i64 0, .slice none 0 0] 28 (0, 0)) (by refine Cmp.b ?_; refine blk_far ?_ NB169_175.out _; refine Cmp.b ?_; exact BK169.out) hb); have n5_ := Aside0.mk (blk_below (g := gb175) (o := .cells #[.int .i64 t170, .int .i64 t171, .slice Ao101 y197.length co101] 28 (0, 0)) (by refine Cmp.b ?_; refine blk_put (cs := #[.int .i64 t170, .int .i64 t171, .slice Ao15 t172.length co15]) ?_ 2 _ rfl; refine Cmp.b ?_; exact BK175.out) hb); have n6_ := Aside0.mk (below_step (Cmp.g HB.out) hb); clear HO_176002; clear HO189; clear HO199; clear BK168; clear BK169; clear BK175; clear HB; have HO_176002 := n0_; have HO189 := n1_; have HO199 := n2_; have BK168 := n3_; have BK169 := n4_; have BK175 := n5_; have HB := n6_; clear n0_ n1_ n2_ n3_ n4_ n5_ n6_; (try clear hb); (try clear hb2); (try clear hk); (try clear hi); have hcz107_0 : w106.cell? ⟨gb168, 0, none⟩ = some (.int .i64 a0_0) := (blk_cell BK168.out 0).trans rfl; have hcz107_1 : w106.cell? ⟨gb168, 1, none⟩ = some (.int .i64 a0_1) := (blk_cell BK168.out 1).trans rfl; have hcz107_2 : w106.cell? ⟨gb168, 2, none⟩ = some (.slice A0_2 l0_2.length c0_2) := (blk_cell BK168.out 2).trans rfl; have hfz107_0 := blk_frozen BK168.out 0; have hfz107_1 := blk_frozen BK168.out 1; have hfz107_2 := blk_frozen BK168.out 2) | ((with_reducible refine gate_callee (f := 44) rfl ?_); refine goesL_ (some 55) rfl rfl Try.func44 (by kernel_rfl) rfl #[.agg #[.int .i64 a0_0, .int .i64 a0_1, .slice A0_2 l0_2.length c0_2]] rfl Cmp.q ?_; (with_reducible refine (spec_l14Copy.calls a0_0 a0_1 _ _ l0_2 t207 t208 t209 _ ?side1 ?side2 A88.out).mono ?_); (case side1 => exact Cmp.rc (Kd.C_below HR0_2.out HB.out)); (case side2 => exact HC0_2.out); rintro e w108 ⟨v210, rfl, ho0, hb⟩; refine ⟨_, rfl, ?_⟩; have n0_ := Aside0.mk (Kd.R_elder' (Cmp.rr HO_176002.out) (Kd.R_base ho0) hb); have n1_ := Aside0.mk (Kd.R_elder' (Cmp.rr HO189.out) (Kd.R_base ho0) hb); have n2_ := Aside0.mk (Kd.R_elder' (Cmp.rr HO199.out) (Kd.R_base ho0) hb); have n3_ := Aside0.mk (Kd.R_lower (Kd.R_new' (Kd.R_new' (Kd.R_new' ho0 (Kd.R_lt (Cmp.rr HO_176002.out))) (Kd.R_lt (Cmp.rr HO189.out))) (Kd.R_lt (Cmp.rr HO199.out))) (below_size (Cmp.g HB.out))); have n4_ := Aside0.mk (blk_below (Cmp.b BK168.out) hb); have n5_ := Aside0.mk (blk_below (Cmp.b BK169.out) hb); have n6_ := Aside0.mk (blk_below (Cmp.b BK175.out) hb); have n7_ := Aside0.mk (below_step (Cmp.g HB.out) hb); clear HO_176002; clear HO189; clear HO199; clear BK168; clear BK169; clear BK175; clear HB; have HO_176002 := n0_; have HO189 := n1_; have HO199 := n2_; have HO211 := n3_; have BK168 := n4_; have BK169 := n5_; have BK175 := n6_; have HB := n7_; clear n0_ n1_ n2_ n3_ n4_ n5_ n6_ n7_; (try clear hb); (try clear hb2); (try clear hk); (try clear hi); (try clear ho0); have hnb109 := NB169_175.out; have hnc109 := NB175_169.out; have hcz110_0 : w108.cell? ⟨gb169, 0, none⟩ = some (.int .i64 0) := (blk_cell BK169.out 0).trans rfl; have hcz110_1 : w108.cell? ⟨gb169, 1, none⟩ = some (.int .i64 0) := (blk_cell BK169.out 1).trans rfl; have hcz110_2 : w108.cell? ⟨gb169, 2, none⟩ = some (.slice none 0 0) := (blk_cell BK169.out 2).trans rfl; have hfz110_0 := blk_frozen BK169.out 0; have hfz110_1 := blk_frozen BK169.out 1; have hfz110_2 := blk_frozen BK169.out 2; obtain ⟨Ao111, co111, eo111⟩ := Kd.R_slice HO211.out; subst eo111))
         refine bodyPost_ret (results_ct rfl _ _ gb169 28 #[.int .i64 t207, .int .i64 t208, .slice Ao111 t209.length co111] (0, 0) _ rfl (by refine Cmp.b ?_; refine blk_put (cs := #[.int .i64 t207, .int .i64 t208, .slice none 0 0]) ?_ 2 _ rfl; refine Cmp.b ?_; refine blk_put (cs := #[.int .i64 t207, .int .i64 0, .slice none 0 0]) ?_ 1 _ rfl; refine Cmp.b ?_; refine blk_put (cs := #[.int .i64 0, .int .i64 0, .slice none 0 0]) ?_ 0 _ rfl; refine Cmp.b ?_; exact BK169.out) Try.underlying28 rfl (by kernel_rfl)) rfl ?_
         exact ⟨_, by first | rfl | (simp [errW_none, errW_some] <;> rfl) | (simp [*, errW_none, errW_some] <;> rfl), by refine Cmp.rr ?_; exact Kd.R_mono (Kd.R_far (p := ⟨gb169, 2, none⟩) (Kd.R_far (p := ⟨gb169, 1, none⟩) (Kd.R_far (p := ⟨gb169, 0, none⟩) (Kd.R_types HO211.out BK169.out (by decide)) (fun _ hk => hk.2) (.int .i64 t207)) (fun _ hk => hk.2) (.int .i64 t208)) (fun _ hk => hk.2) (.slice Ao111 t209.length co111)) (fun _ hk => trivial), Cmp.g HB.out⟩
       ·rw [if_neg c34] at H; exact absurd H (by simp)
      ·rw [if_neg c31] at H; exact absurd H (by simp)
     ·rw [if_neg c30] at H; exact absurd H (by simp)
    ·rw [if_neg c29] at H; exact absurd H (by simp)
   ·rw [if_neg c28] at H; exact absurd H (by simp)

end Go.Proofs.Ytoffbjjkegeccaa.PFnExactAddCredential

/- Printed functions of the program, out of print.sh, told more shortly. No condition. -/
import Derived.Test.YtoffbjjkegeccaaCmp
import Derived.Test.YtoffbjjkegeccaaPFnExactAddCredentialx0
import Derived.Test.YtoffbjjkegeccaaPFnExactAddCredentialx5
namespace Go.Proofs.Ytoffbjjkegeccaa.PFnExactAddCredential
open Go.Proofs.Ytoffbjjkegeccaa
open Go.RowKit Go.Proofs.YtoffbjjkegeccaaW.PrintWords Go.Proofs.YtoffbjjkegeccaaW.PrintLast Go.Proofs.YtoffbjjkegeccaaW.PrintMore
attribute [local go_sem] max2_int min2_int max_two min_two max_three min_three max_four min_four   -- for this text's walks alone
set_option linter.unusedVariables false
set_option linter.unusedSimpArgs false

/-! ### impl_IsValidAccount: function 49 -/
mutual
def impl_IsValidAccount.j0 : Nat → Bool → Int → Int → List (S83) → Option (Bool)
  | 0, _, _, _, _ => none
  | k + 1, x22, x224000, x224001, x224002 => if x22 = true then (some false) else (impl_IsValidAccount.l0 k x224002 (x224002.length : Int) 0 x224000 x224001 x224002)
def impl_IsValidAccount.l0 : Nat → List (S83) → Int → Int → Int → Int → List (S83) → Option (Bool)
  | 0, _, _, _, _, _, _ => none
  | k + 1, x24, x25, x26, x224000, x224001, x224002 => if x26 < x25 then (if 0 ≤ x26 then (if x26 < (x24.length : Int) then ((impl_InRange.f ((rd_T83 x24 x26).f0) 0 1000000).bind fun t228 => (if t228 = true then (if x26 > 0 then (if 0 ≤ (wrap64 (x26 - 1)) then (if (wrap64 (x26 - 1)) < (x224002.length : Int) then (if ((rd_T83 x224002 (wrap64 (x26 - 1))).f0) ≥ ((rd_T83 x24 x26).f0) then (impl_IsValidAccount.j2 k x26 x24 x25 x26 true x224000 x224001 x224002 ((rd_T83 x24 x26).f0) ((rd_T83 x24 x26).f1) ((rd_T83 x24 x26).f2) ((rd_T83 x24 x26).f3)) else ((impl_PrivateKey.f k ((rd_T83 x24 x26).f1)).bind fun t230 => (if t230 = 0 then (impl_IsValidAccount.j2 k x26 x24 x25 x26 true x224000 x224001 x224002 ((rd_T83 x24 x26).f0) ((rd_T83 x24 x26).f1) ((rd_T83 x24 x26).f2) ((rd_T83 x24 x26).f3)) else ((impl_InRange.f ((rd_T83 x24 x26).f2) 0 1000000).bind fun t231 => (impl_IsValidAccount.j2 k x26 x24 x25 x26 (!t231) x224000 x224001 x224002 ((rd_T83 x24 x26).f0) ((rd_T83 x24 x26).f1) ((rd_T83 x24 x26).f2) ((rd_T83 x24 x26).f3)))))) else (none)) else (none)) else ((impl_PrivateKey.f k ((rd_T83 x24 x26).f1)).bind fun t232 => (if t232 = 0 then (impl_IsValidAccount.j2 k x26 x24 x25 x26 true x224000 x224001 x224002 ((rd_T83 x24 x26).f0) ((rd_T83 x24 x26).f1) ((rd_T83 x24 x26).f2) ((rd_T83 x24 x26).f3)) else ((impl_InRange.f ((rd_T83 x24 x26).f2) 0 1000000).bind fun t233 => (impl_IsValidAccount.j2 k x26 x24 x25 x26 (!t233) x224000 x224001 x224002 ((rd_T83 x24 x26).f0) ((rd_T83 x24 x26).f1) ((rd_T83 x24 x26).f2) ((rd_T83 x24 x26).f3)))))) else (impl_IsValidAccount.j2 k x26 x24 x25 x26 true x224000 x224001 x224002 ((rd_T83 x24 x26).f0) ((rd_T83 x24 x26).f1) ((rd_T83 x24 x26).f2) ((rd_T83 x24 x26).f3)))) else (none)) else (none)) else (some true)
def impl_IsValidAccount.j2 : Nat → Int → List (S83) → Int → Int → Bool → Int → Int → List (S83) → Int → Int → Int → Bool → Option (Bool)
  | 0, _, _, _, _, _, _, _, _, _, _, _, _ => none
  | k + 1, x3, x24, x25, x26, x62, x224000, x224001, x224002, x228000, x228001, x228002, x228003 => if x62 = true then (some false) else (if 0 ≤ x3 then (if x3 ≤ (x224002.length : Int) then ((some (x224002.take (x3 : Int).toNat : List (S83))).bind fun y234 => (impl_IsValidAccount.l1 k x24 x25 x26 y234 (y234.length : Int) 0 x224000 x224001 x224002 x228000 x228001 x228002 x228003)) else (none)) else (none))
def impl_IsValidAccount.l1 : Nat → List (S83) → Int → Int → List (S83) → Int → Int → Int → Int → List (S83) → Int → Int → Int → Bool → Option (Bool)
  | 0, _, _, _, _, _, _, _, _, _, _, _, _, _ => none
  | k + 1, x24, x25, x26, x66, x67, x68, x224000, x224001, x224002, x228000, x228001, x228002, x228003 => if x68 < x67 then (if 0 ≤ x68 then (if x68 < (x66.length : Int) then (if ((rd_T83 x66 x68).f1) = x228001 then (some false) else (impl_IsValidAccount.l1 k x24 x25 x26 x66 x67 (wrap64 (x68 + 1)) x224000 x224001 x224002 x228000 x228001 x228002 x228003)) else (none)) else (none)) else (impl_IsValidAccount.l0 k x24 x25 (wrap64 (x26 + 1)) x224000 x224001 x224002)
end
def impl_IsValidAccount.f (k : Nat) (a0_0 : Int) (a0_1 : Int) (l0_2 : List (S83)) : Option (Bool) := (impl_InRange.f a0_0 0 1000000).bind fun t224 => (if t224 = true then ((impl_InRange.f a0_1 1 3).bind fun t225 => (if t225 = true then (impl_IsValidAccount.j0 k (decide ((l0_2.length : Int) > 8)) a0_0 a0_1 l0_2) else (impl_IsValidAccount.j0 k true a0_0 a0_1 l0_2))) else (impl_IsValidAccount.j0 k true a0_0 a0_1 l0_2))
theorem impl_IsValidAccount.mono_l : ∀ k, (∀ y0 y1 y2 y3, LeO (impl_IsValidAccount.j0 k y0 y1 y2 y3) (impl_IsValidAccount.j0 (k + 1) y0 y1 y2 y3)) ∧ (∀ y0 y1 y2 y3 y4 y5, LeO (impl_IsValidAccount.l0 k y0 y1 y2 y3 y4 y5) (impl_IsValidAccount.l0 (k + 1) y0 y1 y2 y3 y4 y5)) ∧ (∀ y0 y1 y2 y3 y4 y5 y6 y7 y8 y9 y10 y11, LeO (impl_IsValidAccount.j2 k y0 y1 y2 y3 y4 y5 y6 y7 y8 y9 y10 y11) (impl_IsValidAccount.j2 (k + 1) y0 y1 y2 y3 y4 y5 y6 y7 y8 y9 y10 y11)) ∧ (∀ y0 y1 y2 y3 y4 y5 y6 y7 y8 y9 y10 y11 y12, LeO (impl_IsValidAccount.l1 k y0 y1 y2 y3 y4 y5 y6 y7 y8 y9 y10 y11 y12) (impl_IsValidAccount.l1 (k + 1) y0 y1 y2 y3 y4 y5 y6 y7 y8 y9 y10 y11 y12))
  | 0 => ⟨fun _ _ _ _ r h => by simp [impl_IsValidAccount.j0] at h, fun _ _ _ _ _ _ r h => by simp [impl_IsValidAccount.l0] at h, fun _ _ _ _ _ _ _ _ _ _ _ _ r h => by simp [impl_IsValidAccount.j2] at h, fun _ _ _ _ _ _ _ _ _ _ _ _ _ r h => by simp [impl_IsValidAccount.l1] at h⟩
  | k + 1 => by
    obtain ⟨ih0, ih1, ih2, ih3⟩ := impl_IsValidAccount.mono_l k
    refine ⟨?_, ?_, ?_, ?_⟩
    · intro y0 y1 y2 y3
      unfold impl_IsValidAccount.j0
      repeat' first
      | (with_reducible exact ih0 _ _ _ _)
      | (with_reducible exact ih1 _ _ _ _ _ _)
      | (with_reducible exact ih2 _ _ _ _ _ _ _ _ _ _ _ _)
      | (with_reducible exact ih3 _ _ _ _ _ _ _ _ _ _ _ _ _)
      | (with_reducible exact impl_PrivateKey.mono _ _)
      | (with_reducible exact LeO.refl _)
      | (with_reducible exact LeO.none _)
      | (with_reducible refine LeO.ite ?_ ?_)
      | (with_reducible refine LeO.bind ?_ (fun _ => ?_))
      | exact ih0 _ _ _ _
      | exact ih1 _ _ _ _ _ _
      | exact ih2 _ _ _ _ _ _ _ _ _ _ _ _
      | exact ih3 _ _ _ _ _ _ _ _ _ _ _ _ _
      | exact impl_PrivateKey.mono _ _
      | exact LeO.none _
      | refine LeO.ite ?_ ?_
      | refine LeO.bind ?_ (fun _ => ?_)
    · intro y0 y1 y2 y3 y4 y5
      unfold impl_IsValidAccount.l0
      repeat' first
      | (with_reducible exact ih0 _ _ _ _)
      | (with_reducible exact ih1 _ _ _ _ _ _)
      | (with_reducible exact ih2 _ _ _ _ _ _ _ _ _ _ _ _)
      | (with_reducible exact ih3 _ _ _ _ _ _ _ _ _ _ _ _ _)
      | (with_reducible exact impl_PrivateKey.mono _ _)
      | (with_reducible exact LeO.refl _)
      | (with_reducible exact LeO.none _)
      | (with_reducible refine LeO.ite ?_ ?_)
      | (with_reducible refine LeO.bind ?_ (fun _ => ?_))
      | exact ih0 _ _ _ _
      | exact ih1 _ _ _ _ _ _
      | exact ih2 _ _ _ _ _ _ _ _ _ _ _ _
      | exact ih3 _ _ _ _ _ _ _ _ _ _ _ _ _
      | exact impl_PrivateKey.mono _ _
      | exact LeO.none _
      | refine LeO.ite ?_ ?_
      | refine LeO.bind ?_ (fun _ => ?_)
    · intro y0 y1 y2 y3 y4 y5 y6 y7 y8 y9 y10 y11
      unfold impl_IsValidAccount.j2
      repeat' first
      | (with_reducible exact ih0 _ _ _ _)
      | (with_reducible exact ih1 _ _ _ _ _ _)
      | (with_reducible exact ih2 _ _ _ _ _ _ _ _ _ _ _ _)
      | (with_reducible exact ih3 _ _ _ _ _ _ _ _ _ _ _ _ _)
      | (with_reducible exact impl_PrivateKey.mono _ _)
      | (with_reducible exact LeO.refl _)
      | (with_reducible exact LeO.none _)
      | (with_reducible refine LeO.ite ?_ ?_)
      | (with_reducible refine LeO.bind ?_ (fun _ => ?_))
      | exact ih0 _ _ _ _
      | exact ih1 _ _ _ _ _ _
      | exact ih2 _ _ _ _ _ _ _ _ _ _ _ _
      | exact ih3 _ _ _ _ _ _ _ _ _ _ _ _ _
      | exact impl_PrivateKey.mono _ _
      | exact LeO.none _
      | refine LeO.ite ?_ ?_
      | refine LeO.bind ?_ (fun _ => ?_)
    · intro y0 y1 y2 y3 y4 y5 y6 y7 y8 y9 y10 y11 y12
      unfold impl_IsValidAccount.l1
      repeat' first
      | (with_reducible exact ih0 _ _ _ _)
      | (with_reducible exact ih1 _ _ _ _ _ _)
      | (with_reducible exact ih2 _ _ _ _ _ _ _ _ _ _ _ _)
      | (with_reducible exact ih3 _ _ _ _ _ _ _ _ _ _ _ _ _)
      | (with_reducible exact impl_PrivateKey.mono _ _)
      | (with_reducible exact LeO.refl _)
      | (with_reducible exact LeO.none _)
      | (with_reducible refine LeO.ite ?_ ?_)
      | (with_reducible refine LeO.bind ?_ (fun _ => ?_))
      | exact ih0 _ _ _ _
      | exact ih1 _ _ _ _ _ _
      | exact ih2 _ _ _ _ _ _ _ _ _ _ _ _
      | exact ih3 _ _ _ _ _ _ _ _ _ _ _ _ _
      | exact impl_PrivateKey.mono _ _
      | exact LeO.none _
      | refine LeO.ite ?_ ?_
      | refine LeO.bind ?_ (fun _ => ?_)
theorem impl_IsValidAccount.mono : ∀ a0 a1 a2 k, LeO (impl_IsValidAccount.f k a0 a1 a2) (impl_IsValidAccount.f (k + 1) a0 a1 a2) := by
  intro a0 a1 a2 k
  obtain ⟨ih0, ih1, ih2, ih3⟩ := impl_IsValidAccount.mono_l k
  unfold impl_IsValidAccount.f
  repeat' first
      | (with_reducible exact ih0 _ _ _ _)
      | (with_reducible exact ih1 _ _ _ _ _ _)
      | (with_reducible exact ih2 _ _ _ _ _ _ _ _ _ _ _ _)
      | (with_reducible exact ih3 _ _ _ _ _ _ _ _ _ _ _ _ _)
      | (with_reducible exact impl_PrivateKey.mono _ _)
      | (with_reducible exact LeO.refl _)
      | (with_reducible exact LeO.none _)
      | (with_reducible refine LeO.ite ?_ ?_)
      | (with_reducible refine LeO.bind ?_ (fun _ => ?_))
      | exact ih0 _ _ _ _
      | exact ih1 _ _ _ _ _ _
      | exact ih2 _ _ _ _ _ _ _ _ _ _ _ _
      | exact ih3 _ _ _ _ _ _ _ _ _ _ _ _ _
      | exact impl_PrivateKey.mono _ _
      | exact LeO.none _
      | refine LeO.ite ?_ ?_
      | refine LeO.bind ?_ (fun _ => ?_)
def impl_IsValidAccount.T6 : Bool × List (List Nat × List Nat) := (true, [([], []), ([0], [0]), ([1], [1]), ([2], [2]), ([3, 2], [3]), ([4], [4]), ([5, 4], [4, 5]), ([6, 4, 4], [4, 6]), ([7], [7]), ([8, 7], [7, 8]), ([7], [7]), ([10, 7], [7, 10]), ([9, 11, 7], [7, 9, 11]), ([12, 7], [7, 12]), ([13, 7], [7, 13]), ([7], [7]), ([15, 7], [7, 15]), ([14, 16, 7], [7, 14, 16]), ([7, 17, 4], [4, 7, 17]), ([4, 18], [4, 18]), ([19, 7], [19]), ([20], [20]), ([21, 20], [20, 21]), ([22, 20, 20], [20, 22]), ([23, 20], [20, 23]), ([20, 24], [20, 24]), ([25, 23], [25]), ([26], [26]), ([27, 26], [26, 27]), ([28, 26, 26], [26, 28]), ([29, 26], [26, 29]), ([26, 30], [26, 30])])
def impl_IsValidAccount.B6 : List Nat := [0, 1, 3, 7, 15, 31, 63, 127, 255, 511, 255, 1279, 4095, 8191, 16383, 255, 33023, 131071, 262143, 524287, 1048575, 2097151, 4194303, 8388607, 16777215, 33554431, 67108863, 134217727, 268435455, 536870911, 1073741823, 2147483647]
theorem impl_IsValidAccount.tab6 : rtab .any (opsOf Try.f49 6) = impl_IsValidAccount.T6 := by kernel_rfl
theorem impl_IsValidAccount.bits6 : waitsOk impl_IsValidAccount.T6.2 impl_IsValidAccount.B6 = true := by kernel_rfl
set_option maxHeartbeats 8000000 in
set_option maxRecDepth 100000 in
theorem impl_IsValidAccount.calls (k : Nat) (a0_0 : Int) (a0_1 : Int) (A0_2 : Option Addr) (c0_2 : Nat) (l0_2 : List (S83)) (r : Bool) (w : World) (hr0_2 : Kd.C k83 w A0_2 l0_2.length l0_2) (hc0_2 : l0_2.length ≤ c0_2) (h : impl_IsValidAccount.f k a0_0 a0_1 l0_2 = some r) :
    Calls Try.prog 49 #[.agg #[.int .i64 a0_0, .int .i64 a0_1, .slice A0_2 l0_2.length c0_2]] w fun e w' => e = .returned (.bool r) ∧ Below w.heap.size w w' := by
 have hu28 := Try.underlying28; have hu83 := Try.underlying83; have HR0_2 := Aside0.mk hr0_2; have HC0_2 := Aside0.mk hc0_2; clear hr0_2 hc0_2
 have HB := Aside0.mk (Below.refl w.heap.size w)
 have H : ((impl_InRange.f a0_0 0 1000000).bind fun t224 => (if t224 = true then ((impl_InRange.f a0_1 1 3).bind fun t225 => (if t225 = true then (impl_IsValidAccount.j0 k (decide ((l0_2.length : Int) > 8)) a0_0 a0_1 l0_2) else (impl_IsValidAccount.j0 k true a0_0 a0_1 l0_2))) else (impl_IsValidAccount.j0 k true a0_0 a0_1 l0_2))) = some r := h
 clear h; have HC2 := Aside0.mk H; clear H
 go_enter Try.func49, Try.ntmps49
 go_upto_region 1 with (first | ((with_reducible refine gate_dst (N := 1) rfl ?_); (try (refine gate_guard (by rfl) ?_; dsimp only)); refine box_event (by rfl) (N := 1) (by rfl) (cs := #[.int .i64 a0_0, .int .i64 a0_1, .slice A0_2 l0_2.length c0_2]) (t := 28) (by first | (go_simp; done) | (go_simp; rfl)) ?_; intro gb223 hg w3 hbox hb; have n0_ := Aside0.mk (below_step (Cmp.g HB.out) hb); have n1_ := Aside0.mk (hbox); have n2_ := Aside0.mk ((by rw [hg]; exact (below_size (Cmp.g HB.out)) : w.heap.size ≤ gb223)); have n3_ := Aside0.mk ((by rw [hg]; exact (below_size (Cmp.g HB.out)) : w.heap.size ≤ gb223)); clear HB; have HB := n0_; have BK223 := n1_; have GW223 := n2_; have GE223 := n3_; clear n0_ n1_ n2_ n3_; clear hb hbox hg))
 (try simp only [Act.put, List.setIfInBounds_toArray, List.set_cons_zero, List.set_cons_succ])
 go_cut [22] (fun v22 wc => ∃ (kq : Nat) (x22_1 : Bool), v22 = .bool x22_1 ∧ Aside0 (impl_IsValidAccount.j0 kq x22_1 a0_0 a0_1 l0_2 = some r) ∧ Aside0 (kq ≤ k) ∧ Aside0 (wc.heap[gb223]? = some (.cells #[.int .i64 a0_0, .int .i64 a0_1, (.slice A0_2 l0_2.length c0_2)] 28 (0, 0))) ∧ Aside0 (Below w.heap.size w wc))
 case first =>
  have H := HC2.out; clear HC2; replace H := Option.bind_eq_some_iff.mp H; obtain ⟨t224, A40, H⟩ := H; (try dsimp only at H); have A4 := Aside0.mk A40; clear A40
  by_cases c5 : t224 = true
  ·subst c5; rw [if_pos rfl] at H; replace H := Option.bind_eq_some_iff.mp H; obtain ⟨t225, A60, H⟩ := H; (try dsimp only at H); have A6 := Aside0.mk A60; clear A60
   by_cases c7 : t225 = true
   ·subst c7; rw [if_pos rfl] at H
    have H' := Aside0.mk H
    clear H
    have hcz8_0 : w3.cell? ⟨gb223, 0, none⟩ = some (.int .i64 a0_0) := (blk_cell BK223.out 0).trans rfl
    have hcz8_1 : w3.cell? ⟨gb223, 1, none⟩ = some (.int .i64 a0_1) := (blk_cell BK223.out 1).trans rfl
    have hcz8_2 : w3.cell? ⟨gb223, 2, none⟩ = some (.slice A0_2 l0_2.length c0_2) := (blk_cell BK223.out 2).trans rfl
    have hfz8_0 := blk_frozen BK223.out 0; have hfz8_1 := blk_frozen BK223.out 1; have hfz8_2 := blk_frozen BK223.out 2
    go_wp2_with (first | ((with_reducible refine gate_callee (f := 50) rfl ?_); refine goesL_ (some 9) rfl rfl Try.func50 (by kernel_rfl) rfl #[.int .i64 a0_0, .int .i64 0, .int .i64 1000000] rfl Cmp.q ?_; (with_reducible refine (impl_InRange.calls a0_0 0 1000000 true _ A4.out).mono ?_); rintro e w' ⟨rfl, ⟨nd, rfl⟩⟩; refine ⟨_, rfl, ?_⟩) | (go_at_call 50; (with_reducible refine (impl_InRange.calls a0_1 1 3 true _ A6.out).mono ?_); rintro e w' ⟨rfl, ⟨nd, rfl⟩⟩))
    go_meet
    case rel => exact ⟨_, (decide ((l0_2.length : Int) > 8)), (by first | rfl | simp | simp [*]), H', ⟨by first | omega | exact Nat.le_refl _⟩, ⟨by refine Cmp.b ?_; exact BK223.out⟩, ⟨Cmp.g HB.out⟩⟩
   ·replace c7 := Bool.eq_false_iff.mpr c7
    subst c7
    have H1 : (impl_IsValidAccount.j0 k true a0_0 a0_1 l0_2) = some r := by rw [if_neg (show ¬ (false = true) by decide)] at H; exact H
    clear H; have H := H1; clear H1
    have H' := Aside0.mk H
    clear H
    have hcz9_0 : w3.cell? ⟨gb223, 0, none⟩ = some (.int .i64 a0_0) := (blk_cell BK223.out 0).trans rfl
    have hcz9_1 : w3.cell? ⟨gb223, 1, none⟩ = some (.int .i64 a0_1) := (blk_cell BK223.out 1).trans rfl
    have hcz9_2 : w3.cell? ⟨gb223, 2, none⟩ = some (.slice A0_2 l0_2.length c0_2) := (blk_cell BK223.out 2).trans rfl
    have hfz9_0 := blk_frozen BK223.out 0; have hfz9_1 := blk_frozen BK223.out 1; have hfz9_2 := blk_frozen BK223.out 2
    go_wp2_with (first | ((with_reducible refine gate_callee (f := 50) rfl ?_); refine goesL_ (some 9) rfl rfl Try.func50 (by kernel_rfl) rfl #[.int .i64 a0_0, .int .i64 0, .int .i64 1000000] rfl Cmp.q ?_; (with_reducible refine (impl_InRange.calls a0_0 0 1000000 true _ A4.out).mono ?_); rintro e w' ⟨rfl, ⟨nd, rfl⟩⟩; refine ⟨_, rfl, ?_⟩) | (go_at_call 50; (with_reducible refine (impl_InRange.calls a0_1 1 3 false _ A6.out).mono ?_); rintro e w' ⟨rfl, ⟨nd, rfl⟩⟩))
    go_meet
    case rel => exact ⟨_, (true), (by first | rfl | simp | simp [*]), H', ⟨by first | omega | exact Nat.le_refl _⟩, ⟨by refine Cmp.b ?_; exact BK223.out⟩, ⟨Cmp.g HB.out⟩⟩
  ·replace c5 := Bool.eq_false_iff.mpr c5
   subst c5
   have H1 : (impl_IsValidAccount.j0 k true a0_0 a0_1 l0_2) = some r := by rw [if_neg (show ¬ (false = true) by decide)] at H; exact H
   clear H; have H := H1; clear H1
   have H' := Aside0.mk H
   clear H
   have hcz10_0 : w3.cell? ⟨gb223, 0, none⟩ = some (.int .i64 a0_0) := (blk_cell BK223.out 0).trans rfl
   have hcz10_1 : w3.cell? ⟨gb223, 1, none⟩ = some (.int .i64 a0_1) := (blk_cell BK223.out 1).trans rfl
   have hcz10_2 : w3.cell? ⟨gb223, 2, none⟩ = some (.slice A0_2 l0_2.length c0_2) := (blk_cell BK223.out 2).trans rfl
   have hfz10_0 := blk_frozen BK223.out 0; have hfz10_1 := blk_frozen BK223.out 1; have hfz10_2 := blk_frozen BK223.out 2
   go_wp2_with (first | ((with_reducible refine gate_callee (f := 50) rfl ?_); refine goesL_ (some 9) rfl rfl Try.func50 (by kernel_rfl) rfl #[.int .i64 a0_0, .int .i64 0, .int .i64 1000000] rfl Cmp.q ?_; (with_reducible refine (impl_InRange.calls a0_0 0 1000000 false _ A4.out).mono ?_); rintro e w' ⟨rfl, ⟨nd, rfl⟩⟩; refine ⟨_, rfl, ?_⟩))
   go_meet
   case rel => exact ⟨_, (true), (by first | rfl | simp | simp [*]), H', ⟨by first | omega | exact Nat.le_refl _⟩, ⟨by refine Cmp.b ?_; exact BK223.out⟩, ⟨Cmp.g HB.out⟩⟩
 case rest =>
  clear HC2; (try clear p2); (try clear c4); (try clear c5); (try clear c7); (try clear hcz10_0); (try clear hcz10_1); (try clear hcz10_2); (try clear hcz8_0); (try clear hcz8_1); (try clear hcz8_2); (try clear hcz9_0); (try clear hcz9_1); (try clear hcz9_2); (try clear hfz10_0); (try clear hfz10_1); (try clear hfz10_2); (try clear hfz8_0); (try clear hfz8_1); (try clear hfz8_2); (try clear hfz9_0); (try clear hfz9_1); (try clear hfz9_2)
  obtain ⟨kq, x22_1, rfl, HA, HJ1, BK223, HB⟩ := hcut
  cases kq with
  | zero => exact absurd HA.out (by simp [impl_IsValidAccount.j0])
  | succ kj1 =>
   have H := HA.out; clear HA
   simp only [impl_IsValidAccount.j0] at H
   by_cases c11 : x22_1 = true
   ·subst c11; rw [if_pos rfl] at H
    obtain rfl := Option.some.inj H
    go_wp2
    go_ret
    exact ⟨by first | rfl | (simp [errW_none, errW_some] <;> rfl) | (simp [*, errW_none, errW_some] <;> rfl), Cmp.g HB.out⟩
   ·replace c11 := Bool.eq_false_iff.mpr c11
    subst c11
    have H1 : (impl_IsValidAccount.l0 kj1 l0_2 (l0_2.length : Int) 0 a0_0 a0_1 l0_2) = some r := by rw [if_neg (show ¬ (false = true) by decide)] at H; exact H
    clear H; have H := H1; clear H1
    have H' := Aside0.mk H
    clear H
    have hcz12_0 : wc.cell? ⟨gb223, 0, none⟩ = some (.int .i64 a0_0) := (blk_cell BK223.out 0).trans rfl
    have hcz12_1 : wc.cell? ⟨gb223, 1, none⟩ = some (.int .i64 a0_1) := (blk_cell BK223.out 1).trans rfl
    have hcz12_2 : wc.cell? ⟨gb223, 2, none⟩ = some (.slice A0_2 l0_2.length c0_2) := (blk_cell BK223.out 2).trans rfl
    have hfz12_0 := blk_frozen BK223.out 0; have hfz12_1 := blk_frozen BK223.out 1; have hfz12_2 := blk_frozen BK223.out 2
    go_wp2
    go_loopg [26] kj1 (fun kq v26 w' => ∃ (x26_2 : Int), v26 = .int .i64 x26_2 ∧ Aside0 (impl_IsValidAccount.l0 kq l0_2 (l0_2.length : Int) x26_2 a0_0 a0_1 l0_2 = some r) ∧ Aside0 (kq ≤ kj1) ∧ Aside0 (w'.heap[gb223]? = some (.cells #[.int .i64 a0_0, .int .i64 a0_1, (.slice A0_2 l0_2.length c0_2)] 28 (0, 0))) ∧ Aside0 (Below w.heap.size w w'))
    case atStart => exact ⟨(0), (by first | rfl | simp | simp [*]), H', ⟨Nat.le_refl _⟩, ⟨by refine Cmp.b ?_; exact BK223.out⟩, ⟨Cmp.g HB.out⟩⟩
    case round =>
     clear H'
     (try clear c1); (try clear p2); (try clear c4); (try clear c5); (try clear c7); (try clear c11); (try clear hcz10_0); (try clear hcz10_1); (try clear hcz10_2); (try clear hcz12_0); (try clear hcz12_1); (try clear hcz12_2); (try clear hcz8_0); (try clear hcz8_1); (try clear hcz8_2); (try clear hcz9_0); (try clear hcz9_1); (try clear hcz9_2); (try clear hfz10_0); (try clear hfz10_1); (try clear hfz10_2); (try clear hfz12_0); (try clear hfz12_1); (try clear hfz12_2); (try clear hfz8_0); (try clear hfz8_1); (try clear hfz8_2); (try clear hfz9_0); (try clear hfz9_1); (try clear hfz9_2); (try clear p2)
     obtain ⟨x26_2, rfl, HA, HK2, BK223, HB⟩ := hrel
     cases gk with
     | zero => exact absurd HA.out (by simp [impl_IsValidAccount.l0])
     | succ k2 =>
      have H := HA.out; clear HA
      simp only [impl_IsValidAccount.l0] at H
      by_cases c13 : x26_2 < (l0_2.length : Int)
      ·rw [if_pos c13] at H
       have c13b0 : decide (x26_2 < (l0_2.length : Int)) = true := decide_eq_true c13
       clear c13
       by_cases c14 : 0 ≤ x26_2
       ·rw [if_pos c14] at H; have c14b0 : decide (0 ≤ x26_2) = true := decide_eq_true c14; clear c14
        by_cases c15 : x26_2 < (l0_2.length : Int)
        ·rw [if_pos c15] at H
         have c15b0 : decide (x26_2 < (l0_2.length : Int)) = true := decide_eq_true c15
         clear c15; have HC16 := Aside0.mk H; clear H
         have p226 : 0 ≤ (x26_2 : Int) := of_decide_eq_true Cmp.d
         have q226 : x26_2 < (l0_2.length : Int) := of_decide_eq_true Cmp.d
         obtain ⟨ad226, e226, hx226_0, hx226_1, hx226_2, hx226_3⟩ := at_T83 HR0_2.out x26_2 p226 q226
         cases e226
         replace hx226_0 := (HB.out.cell (World.block_lt_of_cell? w _ hx226_0)).trans hx226_0
         replace hx226_1 := (HB.out.cell (World.block_lt_of_cell? w _ hx226_1)).trans hx226_1
         replace hx226_2 := (HB.out.cell (World.block_lt_of_cell? w _ hx226_2)).trans hx226_2
         replace hx226_3 := (HB.out.cell (World.block_lt_of_cell? w _ hx226_3)).trans hx226_3
         replace p226 := eq_true p226; replace q226 := eq_true q226
         go_upto_region 6 with (first | ((with_reducible refine gate_dst (N := 4) rfl ?_); (try (refine gate_guard (by rfl) ?_; dsimp only)); refine box_event (by rfl) (N := 4) (by rfl) (cs := #[.int .i64 0, .int .i64 0, .int .i64 0, .bool false]) (t := 83) (by first | (go_simp; done) | (go_simp; rfl)) ?_; intro gb227 hg w17 hbox hb; have n0_ := Aside0.mk (blk_below (Cmp.b BK223.out) hb); have n1_ := Aside0.mk (below_step (Cmp.g HB.out) hb); have n2_ := Aside0.mk (hbox); have n3_ := Aside0.mk ((by rw [hg]; exact (below_size (Cmp.g HB.out)) : w.heap.size ≤ gb227)); have n4_ := Aside0.mk ((by rw [hg]; exact (below_size (Cmp.g HB.out)) : w.heap.size ≤ gb227)); have n5_ := Aside0.mk ((by rw [hg]; exact Nat.ne_of_lt (blk_lt (Cmp.b BK223.out)) : gb223 ≠ gb227)); have n6_ := Aside0.mk ((by rw [hg]; exact Nat.ne_of_gt (blk_lt (Cmp.b BK223.out)) : gb227 ≠ gb223)); clear BK223; clear HB; have BK223 := n0_; have HB := n1_; have BK227 := n2_; have GW227 := n3_; have GE227 := n4_; have NB223_227 := n5_; have NB227_223 := n6_; clear n0_ n1_ n2_ n3_ n4_ n5_ n6_; clear hb hbox hg; have hnb18 := NB227_223.out; have hnc18 := NB223_227.out; have hcz19_0 : w17.cell? ⟨gb227, 0, none⟩ = some (.int .i64 0) := (blk_cell BK227.out 0).trans rfl; have hcz19_1 : w17.cell? ⟨gb227, 1, none⟩ = some (.int .i64 0) := (blk_cell BK227.out 1).trans rfl; have hcz19_2 : w17.cell? ⟨gb227, 2, none⟩ = some (.int .i64 0) := (blk_cell BK227.out 2).trans rfl; have hcz19_3 : w17.cell? ⟨gb227, 3, none⟩ = some (.bool false) := (blk_cell BK227.out 3).trans rfl; have hfz19_0 := blk_frozen BK227.out 0; have hfz19_1 := blk_frozen BK227.out 1; have hfz19_2 := blk_frozen BK227.out 2; have hfz19_3 := blk_frozen BK227.out 3))
         (try simp only [Act.put, List.setIfInBounds_toArray, List.set_cons_zero, List.set_cons_succ])
         go_cut [62] (fun v62 wc => ∃ (kq : Nat) (x62_15 : Bool), v62 = .bool x62_15 ∧ Aside0 (impl_IsValidAccount.j2 kq x26_2 l0_2 (l0_2.length : Int) x26_2 x62_15 a0_0 a0_1 l0_2 ((rd_T83 l0_2 x26_2).f0) ((rd_T83 l0_2 x26_2).f1) ((rd_T83 l0_2 x26_2).f2) ((rd_T83 l0_2 x26_2).f3) = some r) ∧ Aside0 (kq ≤ k2) ∧ Aside0 (wc.heap[gb223]? = some (.cells #[.int .i64 a0_0, .int .i64 a0_1, (.slice (some ad226) l0_2.length c0_2)] 28 (0, 0))) ∧ Aside0 (wc.heap[gb227]? = some (.cells #[.int .i64 ((rd_T83 l0_2 x26_2).f0), .int .i64 ((rd_T83 l0_2 x26_2).f1), .int .i64 ((rd_T83 l0_2 x26_2).f2), .bool ((rd_T83 l0_2 x26_2).f3)] 83 (0, 0))) ∧ Aside0 (Below w.heap.size w wc))
         case first =>
          have H := HC16.out; clear HC16; replace H := Option.bind_eq_some_iff.mp H; obtain ⟨t228, A200, H⟩ := H; (try dsimp only at H); have A20 := Aside0.mk A200; clear A200
          by_cases c21 : t228 = true
          ·subst c21; rw [if_pos rfl] at H
           by_cases c22 : x26_2 > 0
           ·rw [if_pos c22] at H; have c22b0 : decide (0 < x26_2) = true := decide_eq_true c22; clear c22
            (first | rw [c22b0] | (simp only [i64_w, i32_w]; rw [c22b0]) | skip)
            obtain ⟨ji23, hji23⟩ : ∃ j_ : Int, (wrap64 (x26_2 - 1)) = j_ := ⟨_, rfl⟩
            replace H : (if 0 ≤ (ji23) then (if (ji23) < (l0_2.length : Int) then (if ((rd_T83 l0_2 (ji23)).f0) ≥ ((rd_T83 l0_2 x26_2).f0) then (impl_IsValidAccount.j2 k2 x26_2 l0_2 (l0_2.length : Int) x26_2 true a0_0 a0_1 l0_2 ((rd_T83 l0_2 x26_2).f0) ((rd_T83 l0_2 x26_2).f1) ((rd_T83 l0_2 x26_2).f2) ((rd_T83 l0_2 x26_2).f3)) else ((impl_PrivateKey.f k2 ((rd_T83 l0_2 x26_2).f1)).bind fun t230 => (if t230 = 0 then (impl_IsValidAccount.j2 k2 x26_2 l0_2 (l0_2.length : Int) x26_2 true a0_0 a0_1 l0_2 ((rd_T83 l0_2 x26_2).f0) ((rd_T83 l0_2 x26_2).f1) ((rd_T83 l0_2 x26_2).f2) ((rd_T83 l0_2 x26_2).f3)) else ((impl_InRange.f ((rd_T83 l0_2 x26_2).f2) 0 1000000).bind fun t231 => (impl_IsValidAccount.j2 k2 x26_2 l0_2 (l0_2.length : Int) x26_2 (!t231) a0_0 a0_1 l0_2 ((rd_T83 l0_2 x26_2).f0) ((rd_T83 l0_2 x26_2).f1) ((rd_T83 l0_2 x26_2).f2) ((rd_T83 l0_2 x26_2).f3)))))) else (none)) else (none)) = some r := by first | (rw [hji23] at H; exact H) | (simp only [hji23] at H ⊢; exact H)
            (try rw [hji23] at A20)
            have hji23w : (IntKind.i64.wrap (x26_2 - 1)) = ji23 := (i64_w _).trans hji23
            by_cases c24 : 0 ≤ (ji23)
            ·rw [if_pos c24] at H; have c24b0 : decide (0 ≤ (ji23)) = true := decide_eq_true c24; clear c24
             by_cases c25 : (ji23) < (l0_2.length : Int)
             ·rw [if_pos c25] at H
              have c25b0 : decide ((ji23) < (l0_2.length : Int)) = true := decide_eq_true c25
              clear c25
              by_cases c26 : ((rd_T83 l0_2 (ji23)).f0) ≥ ((rd_T83 l0_2 x26_2).f0)
              ·rw [if_pos c26] at H; have c26b0 : decide (((rd_T83 l0_2 x26_2).f0) ≤ ((rd_T83 l0_2 (ji23)).f0)) = true := decide_eq_true c26; clear c26
               have H' := Aside0.mk H
               clear H
               try go_wp2
               have n0_ : Aside0 (((((w17.setCell ⟨gb227, 0, none⟩ (.int .i64 ((rd_T83 l0_2 x26_2).f0))).setCell ⟨gb227, 1, none⟩ (.int .i64 ((rd_T83 l0_2 x26_2).f1))).setCell ⟨gb227, 2, none⟩ (.int .i64 ((rd_T83 l0_2 x26_2).f2))).setCell ⟨gb227, 3, none⟩ (.bool ((rd_T83 l0_2 x26_2).f3))).heap[gb223]? = some (.cells #[.int .i64 a0_0, .int .i64 a0_1, .slice (some ad226) l0_2.length c0_2] 28 (0, 0))) := ⟨by refine Cmp.b ?_; refine blk_far ?_ NB223_227.out _; refine Cmp.b ?_; refine blk_far ?_ NB223_227.out _; refine Cmp.b ?_; refine blk_far ?_ NB223_227.out _; refine Cmp.b ?_; refine blk_far ?_ NB223_227.out _; refine Cmp.b ?_; exact BK223.out⟩
               have n1_ : Aside0 (((((w17.setCell ⟨gb227, 0, none⟩ (.int .i64 ((rd_T83 l0_2 x26_2).f0))).setCell ⟨gb227, 1, none⟩ (.int .i64 ((rd_T83 l0_2 x26_2).f1))).setCell ⟨gb227, 2, none⟩ (.int .i64 ((rd_T83 l0_2 x26_2).f2))).setCell ⟨gb227, 3, none⟩ (.bool ((rd_T83 l0_2 x26_2).f3))).heap[gb227]? = some (.cells #[.int .i64 ((rd_T83 l0_2 x26_2).f0), .int .i64 ((rd_T83 l0_2 x26_2).f1), .int .i64 ((rd_T83 l0_2 x26_2).f2), .bool ((rd_T83 l0_2 x26_2).f3)] 83 (0, 0))) := ⟨by refine Cmp.b ?_; refine blk_put (cs := #[.int .i64 ((rd_T83 l0_2 x26_2).f0), .int .i64 ((rd_T83 l0_2 x26_2).f1), .int .i64 ((rd_T83 l0_2 x26_2).f2), .bool false]) ?_ 3 _ rfl; refine Cmp.b ?_; refine blk_put (cs := #[.int .i64 ((rd_T83 l0_2 x26_2).f0), .int .i64 ((rd_T83 l0_2 x26_2).f1), .int .i64 0, .bool false]) ?_ 2 _ rfl; refine Cmp.b ?_; refine blk_put (cs := #[.int .i64 ((rd_T83 l0_2 x26_2).f0), .int .i64 0, .int .i64 0, .bool false]) ?_ 1 _ rfl; refine Cmp.b ?_; refine blk_put (cs := #[.int .i64 0, .int .i64 0, .int .i64 0, .bool false]) ?_ 0 _ rfl; refine Cmp.b ?_; exact BK227.out⟩
               have n2_ : Aside0 (Below w.heap.size w ((((w17.setCell ⟨gb227, 0, none⟩ (.int .i64 ((rd_T83 l0_2 x26_2).f0))).setCell ⟨gb227, 1, none⟩ (.int .i64 ((rd_T83 l0_2 x26_2).f1))).setCell ⟨gb227, 2, none⟩ (.int .i64 ((rd_T83 l0_2 x26_2).f2))).setCell ⟨gb227, 3, none⟩ (.bool ((rd_T83 l0_2 x26_2).f3)))) := ⟨Cmp.g HB.out⟩
               (try clear BK223); (try clear BK227); (try clear HB)
               generalize ((((w17.setCell ⟨gb227, 0, none⟩ (.int .i64 ((rd_T83 l0_2 x26_2).f0))).setCell ⟨gb227, 1, none⟩ (.int .i64 ((rd_T83 l0_2 x26_2).f1))).setCell ⟨gb227, 2, none⟩ (.int .i64 ((rd_T83 l0_2 x26_2).f2))).setCell ⟨gb227, 3, none⟩ (.bool ((rd_T83 l0_2 x26_2).f3))) = w27 at n0_ n1_ n2_ ⊢
               have BK223 := n0_; have BK227 := n1_; have HB := n2_; clear n0_ n1_ n2_; have n0_ := Aside0.mk (blk_drew BK223.out); have n1_ := Aside0.mk (blk_drew BK227.out); have n2_ := Aside0.mk (below_drew1 HB.out); clear BK223; clear BK227; clear HB; have BK223 := n0_; have BK227 := n1_; have HB := n2_; clear n0_ n1_ n2_
               have p229 : 0 ≤ ((ji23) : Int) := of_decide_eq_true Cmp.d
               have q229 : (ji23) < (l0_2.length : Int) := of_decide_eq_true Cmp.d
               obtain ⟨ad229, e229, hx229_0, hx229_1, hx229_2, hx229_3⟩ := at_T83 HR0_2.out (ji23) p229 q229
               have hw229_3 := hx229_3; have hw229_2 := hx229_2; have hw229_1 := hx229_1; have hw229_0 := hx229_0
               obtain rfl : ad226 = ad229 := (by injection e229)
               replace hx229_0 := (HB.out.cell (World.block_lt_of_cell? w _ hx229_0)).trans hx229_0
               replace hx229_1 := (HB.out.cell (World.block_lt_of_cell? w _ hx229_1)).trans hx229_1
               replace hx229_2 := (HB.out.cell (World.block_lt_of_cell? w _ hx229_2)).trans hx229_2
               replace hx229_3 := (HB.out.cell (World.block_lt_of_cell? w _ hx229_3)).trans hx229_3
               replace p229 := eq_true p229; replace q229 := eq_true q229
               refine start_ (n := 32) (S := fun w' => w'.cell? ⟨gb227, 0, none⟩ = some (.int .i64 ((rd_T83 l0_2 x26_2).f0)) ∧ w'.cell? ⟨gb227, 1, none⟩ = some (.int .i64 ((rd_T83 l0_2 x26_2).f1)) ∧ w'.cell? ⟨gb227, 2, none⟩ = some (.int .i64 ((rd_T83 l0_2 x26_2).f2)) ∧ w'.cell? ⟨gb227, 3, none⟩ = some (.bool ((rd_T83 l0_2 x26_2).f3)) ∧ w'.cell? ⟨gb223, 0, none⟩ = some (.int .i64 a0_0) ∧ w'.cell? ⟨gb223, 1, none⟩ = some (.int .i64 a0_1) ∧ w'.cell? ⟨gb223, 2, none⟩ = some (.slice (some ad226) l0_2.length c0_2) ∧ w'.cell? (ad226.add (((ji23)).toNat * 4)) = some (.int .i64 ((rd_T83 l0_2 (ji23)).f0)) ∧ w'.cell? ⟨(ad226.add (((ji23)).toNat * 4)).block, (ad226.add (((ji23)).toNat * 4)).off + 1, none⟩ = some (.int .i64 ((rd_T83 l0_2 (ji23)).f1)) ∧ w'.cell? ⟨(ad226.add (((ji23)).toNat * 4)).block, (ad226.add (((ji23)).toNat * 4)).off + 2, none⟩ = some (.int .i64 ((rd_T83 l0_2 (ji23)).f2)) ∧ w'.cell? ⟨(ad226.add (((ji23)).toNat * 4)).block, (ad226.add (((ji23)).toNat * 4)).off + 3, none⟩ = some (.bool ((rd_T83 l0_2 (ji23)).f3))) (ds := []) (Cmp.bm 0 32) (by kernel_rfl) rfl rfl ⟨(blk_cell BK227.out 0).trans rfl, (blk_cell BK227.out 1).trans rfl, (blk_cell BK227.out 2).trans rfl, (blk_cell BK227.out 3).trans rfl, (blk_cell BK223.out 0).trans rfl, (blk_cell BK223.out 1).trans rfl, (blk_cell BK223.out 2).trans rfl, ((HB.out.cell (World.block_lt_of_cell? w _ hw229_0)).trans hw229_0), ((HB.out.cell (World.block_lt_of_cell? w _ hw229_1)).trans hw229_1), ((HB.out.cell (World.block_lt_of_cell? w _ hw229_2)).trans hw229_2), ((HB.out.cell (World.block_lt_of_cell? w _ hw229_3)).trans hw229_3)⟩ (fun hHeld => ?_); refine with_tabW impl_IsValidAccount.tab6 impl_IsValidAccount.bits6 (fun HT_ HW_ => ?_)
               generalize w27.drew = w28 at BK223 BK227 HB hx229_0 hx229_1 hx229_2 hx229_3 hHeld ⊢
               refine Cmp.pu HT_ 0 31 (Cmp.bm 1 31) ?_; refine Cmp.tk HT_ HW_ hHeld 1 32 (Cmp.bm 2 30) ?_
               refine one_ (i := 2) (N := some 33) (Cmp.bm 3 29) rfl rfl (one_of HT_.out (by kernel_rfl)) (by decide) (fun K hK => ?_)
               refine goes_ Try.func50 (by kernel_rfl) rfl #[.int .i64 ((rd_T83 l0_2 x26_2).f0), .int .i64 0, .int .i64 1000000] (by rfl) rfl rfl Cmp.q ?_
               with_reducible refine (impl_InRange.calls ((rd_T83 l0_2 x26_2).f0) 0 1000000 true _ A20.out).mono ?_
               rintro e w' ⟨rfl, ⟨nd, rfl⟩⟩; refine ⟨_, rfl, ?_⟩
               refine hK.out _ _ ⟨(blk_cell BK227.out 0).trans rfl, (blk_cell BK227.out 1).trans rfl, (blk_cell BK227.out 2).trans rfl, (blk_cell BK227.out 3).trans rfl, (blk_cell BK223.out 0).trans rfl, (blk_cell BK223.out 1).trans rfl, (blk_cell BK223.out 2).trans rfl, ((HB.out.cell (World.block_lt_of_cell? w _ hw229_0)).trans hw229_0), ((HB.out.cell (World.block_lt_of_cell? w _ hw229_1)).trans hw229_1), ((HB.out.cell (World.block_lt_of_cell? w _ hw229_2)).trans hw229_2), ((HB.out.cell (World.block_lt_of_cell? w _ hw229_3)).trans hw229_3)⟩ (fun hHeld => ?_)
               clear hK K
               refine norm_ (a' := ?_) ?_ ?_
               rotate_left
               ·show Act.put _ (some 33) _ = _
                simp only [Act.put, Cmp.s, Cmp.z, Cmp.c, i64_w, i32_w]; rfl
               refine Cmp.pu HT_ 3 34 (Cmp.bm 4 28) ?_; refine Cmp.pu HT_ 4 35 (Cmp.bm 5 27) ?_; refine Cmp.pu HT_ 5 36 (Cmp.bm 6 26) ?_; refine Cmp.pu HT_ 6 37 (Cmp.bm 7 25) ?_; refine Cmp.pu HT_ 7 38 (Cmp.bm 8 24) ?_; refine Cmp.pu HT_ 8 39 (Cmp.bm 9 23) ?_; refine Cmp.pu HT_ 10 41 (Cmp.bb 32 1535) ?_; refine Cmp.pu HT_ 11 42 (Cmp.bb 32 3583) ?_; refine Cmp.pu HT_ 15 46 (Cmp.bb 32 36351) ?_; refine Cmp.tk HT_ HW_ hHeld 9 40 (Cmp.bb 32 36863) ?_; refine Cmp.pu HT_ 12 43 (Cmp.bb 32 40959) ?_; refine Cmp.pu HT_ 13 44 (Cmp.bb 32 49151) ?_; refine Cmp.tk HT_ HW_ hHeld 14 45 (Cmp.bm 16 16) ?_; refine Cmp.tk HT_ HW_ hHeld 16 47 (Cmp.bm 17 15) ?_; refine Cmp.pu HT_ 17 48 (Cmp.bm 18 14) ?_; refine Cmp.pu HT_ 18 49 (Cmp.bm 19 13) ?_; refine Cmp.pu HT_ 19 50 (Cmp.bm 20 12) ?_; refine Cmp.pu HT_ 20 51 (Cmp.bm 21 11) ?_; refine Cmp.pv HT_ 21 52 (Cmp.bm 22 10) ?_; refine Cmp.pv HT_ 22 53 (Cmp.bm 23 9) ?_; refine Cmp.pv HT_ 23 54 (Cmp.bm 24 8) ?_; refine Cmp.pv HT_ 24 55 (Cmp.bm 25 7) ?_; refine Cmp.pu HT_ 25 56 (Cmp.bm 26 6) ?_; refine Cmp.pu HT_ 26 57 (Cmp.bm 27 5) ?_; refine Cmp.pv HT_ 27 58 (Cmp.bm 28 4) ?_; refine Cmp.pv HT_ 28 59 (Cmp.bm 29 3) ?_; refine Cmp.pv HT_ 29 60 (Cmp.bm 30 2) ?_; refine Cmp.pv HT_ 30 61 (Cmp.bm 31 1) ?_; refine Cmp.pu HT_ 31 62 (Cmp.bm 32 0) ?_
               refine done_ (done_of HT_.out (by kernel_rfl)) ?_
               try go_wp2
               go_meet
               case rel => exact ⟨_, (true), (by first | rfl | simp | simp [*]), H', ⟨by have := HJ1.out; have := HK2.out; first | omega | exact Nat.le_refl _⟩, ⟨by refine Cmp.b ?_; exact BK223.out⟩, ⟨by refine Cmp.b ?_; exact BK227.out⟩, ⟨Cmp.g HB.out⟩⟩
              ·rw [if_neg c26] at H; have c26b0 : decide (((rd_T83 l0_2 x26_2).f0) ≤ ((rd_T83 l0_2 (ji23)).f0)) = false := decide_eq_false c26; clear c26; replace H := Option.bind_eq_some_iff.mp H; obtain ⟨t230, A290, H⟩ := H; (try dsimp only at H); have A29 := Aside0.mk A290; clear A290
               by_cases c30 : t230 = 0
               ·rw [if_pos c30] at H; have c30b0 : (t230 == 0) = true := beq_iff_eq.mpr c30; have c30b1 : (t230 != 0) = false := bne_eq_false_iff_eq.mpr c30; clear c30
                have H' := Aside0.mk H
                clear H
                try go_wp2
                have n0_ : Aside0 (((((w17.setCell ⟨gb227, 0, none⟩ (.int .i64 ((rd_T83 l0_2 x26_2).f0))).setCell ⟨gb227, 1, none⟩ (.int .i64 ((rd_T83 l0_2 x26_2).f1))).setCell ⟨gb227, 2, none⟩ (.int .i64 ((rd_T83 l0_2 x26_2).f2))).setCell ⟨gb227, 3, none⟩ (.bool ((rd_T83 l0_2 x26_2).f3))).heap[gb223]? = some (.cells #[.int .i64 a0_0, .int .i64 a0_1, .slice (some ad226) l0_2.length c0_2] 28 (0, 0))) := ⟨by refine Cmp.b ?_; refine blk_far ?_ NB223_227.out _; refine Cmp.b ?_; refine blk_far ?_ NB223_227.out _; refine Cmp.b ?_; refine blk_far ?_ NB223_227.out _; refine Cmp.b ?_; refine blk_far ?_ NB223_227.out _; refine Cmp.b ?_; exact BK223.out⟩
                have n1_ : Aside0 (((((w17.setCell ⟨gb227, 0, none⟩ (.int .i64 ((rd_T83 l0_2 x26_2).f0))).setCell ⟨gb227, 1, none⟩ (.int .i64 ((rd_T83 l0_2 x26_2).f1))).setCell ⟨gb227, 2, none⟩ (.int .i64 ((rd_T83 l0_2 x26_2).f2))).setCell ⟨gb227, 3, none⟩ (.bool ((rd_T83 l0_2 x26_2).f3))).heap[gb227]? = some (.cells #[.int .i64 ((rd_T83 l0_2 x26_2).f0), .int .i64 ((rd_T83 l0_2 x26_2).f1), .int .i64 ((rd_T83 l0_2 x26_2).f2), .bool ((rd_T83 l0_2 x26_2).f3)] 83 (0, 0))) := ⟨by refine Cmp.b ?_; refine blk_put (cs := #[.int .i64 ((rd_T83 l0_2 x26_2).f0), .int .i64 ((rd_T83 l0_2 x26_2).f1), .int .i64 ((rd_T83 l0_2 x26_2).f2), .bool false]) ?_ 3 _ rfl; refine Cmp.b ?_; refine blk_put (cs := #[.int .i64 ((rd_T83 l0_2 x26_2).f0), .int .i64 ((rd_T83 l0_2 x26_2).f1), .int .i64 0, .bool false]) ?_ 2 _ rfl; refine Cmp.b ?_; refine blk_put (cs := #[.int .i64 ((rd_T83 l0_2 x26_2).f0), .int .i64 0, .int .i64 0, .bool false]) ?_ 1 _ rfl; refine Cmp.b ?_; refine blk_put (cs := #[.int .i64 0, .int .i64 0, .int .i64 0, .bool false]) ?_ 0 _ rfl; refine Cmp.b ?_; exact BK227.out⟩
                have n2_ : Aside0 (Below w.heap.size w ((((w17.setCell ⟨gb227, 0, none⟩ (.int .i64 ((rd_T83 l0_2 x26_2).f0))).setCell ⟨gb227, 1, none⟩ (.int .i64 ((rd_T83 l0_2 x26_2).f1))).setCell ⟨gb227, 2, none⟩ (.int .i64 ((rd_T83 l0_2 x26_2).f2))).setCell ⟨gb227, 3, none⟩ (.bool ((rd_T83 l0_2 x26_2).f3)))) := ⟨Cmp.g HB.out⟩
                (try clear BK223); (try clear BK227); (try clear HB)
                generalize ((((w17.setCell ⟨gb227, 0, none⟩ (.int .i64 ((rd_T83 l0_2 x26_2).f0))).setCell ⟨gb227, 1, none⟩ (.int .i64 ((rd_T83 l0_2 x26_2).f1))).setCell ⟨gb227, 2, none⟩ (.int .i64 ((rd_T83 l0_2 x26_2).f2))).setCell ⟨gb227, 3, none⟩ (.bool ((rd_T83 l0_2 x26_2).f3))) = w31 at n0_ n1_ n2_ ⊢
                have BK223 := n0_; have BK227 := n1_; have HB := n2_; clear n0_ n1_ n2_; have n0_ := Aside0.mk (blk_drew BK223.out); have n1_ := Aside0.mk (blk_drew BK227.out); have n2_ := Aside0.mk (below_drew1 HB.out); clear BK223; clear BK227; clear HB; have BK223 := n0_; have BK227 := n1_; have HB := n2_; clear n0_ n1_ n2_
                have p229 : 0 ≤ ((ji23) : Int) := of_decide_eq_true Cmp.d
                have q229 : (ji23) < (l0_2.length : Int) := of_decide_eq_true Cmp.d
                obtain ⟨ad229, e229, hx229_0, hx229_1, hx229_2, hx229_3⟩ := at_T83 HR0_2.out (ji23) p229 q229
                have hw229_3 := hx229_3; have hw229_2 := hx229_2; have hw229_1 := hx229_1; have hw229_0 := hx229_0
                obtain rfl : ad226 = ad229 := (by injection e229)
                replace hx229_0 := (HB.out.cell (World.block_lt_of_cell? w _ hx229_0)).trans hx229_0
                replace hx229_1 := (HB.out.cell (World.block_lt_of_cell? w _ hx229_1)).trans hx229_1
                replace hx229_2 := (HB.out.cell (World.block_lt_of_cell? w _ hx229_2)).trans hx229_2
                replace hx229_3 := (HB.out.cell (World.block_lt_of_cell? w _ hx229_3)).trans hx229_3
                replace p229 := eq_true p229; replace q229 := eq_true q229
                refine start_ (n := 32) (S := fun w' => w'.cell? ⟨gb227, 0, none⟩ = some (.int .i64 ((rd_T83 l0_2 x26_2).f0)) ∧ w'.cell? ⟨gb227, 1, none⟩ = some (.int .i64 ((rd_T83 l0_2 x26_2).f1)) ∧ w'.cell? ⟨gb227, 2, none⟩ = some (.int .i64 ((rd_T83 l0_2 x26_2).f2)) ∧ w'.cell? ⟨gb227, 3, none⟩ = some (.bool ((rd_T83 l0_2 x26_2).f3)) ∧ w'.cell? ⟨gb223, 0, none⟩ = some (.int .i64 a0_0) ∧ w'.cell? ⟨gb223, 1, none⟩ = some (.int .i64 a0_1) ∧ w'.cell? ⟨gb223, 2, none⟩ = some (.slice (some ad226) l0_2.length c0_2) ∧ w'.cell? (ad226.add (((ji23)).toNat * 4)) = some (.int .i64 ((rd_T83 l0_2 (ji23)).f0)) ∧ w'.cell? ⟨(ad226.add (((ji23)).toNat * 4)).block, (ad226.add (((ji23)).toNat * 4)).off + 1, none⟩ = some (.int .i64 ((rd_T83 l0_2 (ji23)).f1)) ∧ w'.cell? ⟨(ad226.add (((ji23)).toNat * 4)).block, (ad226.add (((ji23)).toNat * 4)).off + 2, none⟩ = some (.int .i64 ((rd_T83 l0_2 (ji23)).f2)) ∧ w'.cell? ⟨(ad226.add (((ji23)).toNat * 4)).block, (ad226.add (((ji23)).toNat * 4)).off + 3, none⟩ = some (.bool ((rd_T83 l0_2 (ji23)).f3))) (ds := []) (Cmp.bm 0 32) (by kernel_rfl) rfl rfl ⟨(blk_cell BK227.out 0).trans rfl, (blk_cell BK227.out 1).trans rfl, (blk_cell BK227.out 2).trans rfl, (blk_cell BK227.out 3).trans rfl, (blk_cell BK223.out 0).trans rfl, (blk_cell BK223.out 1).trans rfl, (blk_cell BK223.out 2).trans rfl, ((HB.out.cell (World.block_lt_of_cell? w _ hw229_0)).trans hw229_0), ((HB.out.cell (World.block_lt_of_cell? w _ hw229_1)).trans hw229_1), ((HB.out.cell (World.block_lt_of_cell? w _ hw229_2)).trans hw229_2), ((HB.out.cell (World.block_lt_of_cell? w _ hw229_3)).trans hw229_3)⟩ (fun hHeld => ?_); refine with_tabW impl_IsValidAccount.tab6 impl_IsValidAccount.bits6 (fun HT_ HW_ => ?_)
                generalize w31.drew = w32 at BK223 BK227 HB hx229_0 hx229_1 hx229_2 hx229_3 hHeld ⊢
                refine Cmp.pu HT_ 0 31 (Cmp.bm 1 31) ?_; refine Cmp.tk HT_ HW_ hHeld 1 32 (Cmp.bm 2 30) ?_
                refine one_ (i := 2) (N := some 33) (Cmp.bm 3 29) rfl rfl (one_of HT_.out (by kernel_rfl)) (by decide) (fun K hK => ?_)
                refine goes_ Try.func50 (by kernel_rfl) rfl #[.int .i64 ((rd_T83 l0_2 x26_2).f0), .int .i64 0, .int .i64 1000000] (by rfl) rfl rfl Cmp.q ?_
                with_reducible refine (impl_InRange.calls ((rd_T83 l0_2 x26_2).f0) 0 1000000 true _ A20.out).mono ?_
                rintro e w' ⟨rfl, ⟨nd, rfl⟩⟩; refine ⟨_, rfl, ?_⟩
                refine hK.out _ _ ⟨(blk_cell BK227.out 0).trans rfl, (blk_cell BK227.out 1).trans rfl, (blk_cell BK227.out 2).trans rfl, (blk_cell BK227.out 3).trans rfl, (blk_cell BK223.out 0).trans rfl, (blk_cell BK223.out 1).trans rfl, (blk_cell BK223.out 2).trans rfl, ((HB.out.cell (World.block_lt_of_cell? w _ hw229_0)).trans hw229_0), ((HB.out.cell (World.block_lt_of_cell? w _ hw229_1)).trans hw229_1), ((HB.out.cell (World.block_lt_of_cell? w _ hw229_2)).trans hw229_2), ((HB.out.cell (World.block_lt_of_cell? w _ hw229_3)).trans hw229_3)⟩ (fun hHeld => ?_)
                clear hK K
                refine norm_ (a' := ?_) ?_ ?_
                rotate_left
                ·show Act.put _ (some 33) _ = _
                 simp only [Act.put, Cmp.s, Cmp.z, Cmp.c, i64_w, i32_w]; rfl
                refine Cmp.pu HT_ 3 34 (Cmp.bm 4 28) ?_; refine Cmp.pu HT_ 4 35 (Cmp.bm 5 27) ?_; refine Cmp.pu HT_ 5 36 (Cmp.bm 6 26) ?_; refine Cmp.pu HT_ 6 37 (Cmp.bm 7 25) ?_; refine Cmp.pu HT_ 7 38 (Cmp.bm 8 24) ?_; refine Cmp.pu HT_ 8 39 (Cmp.bm 9 23) ?_; refine Cmp.pu HT_ 10 41 (Cmp.bb 32 1535) ?_; refine Cmp.pu HT_ 11 42 (Cmp.bb 32 3583) ?_; refine Cmp.pu HT_ 15 46 (Cmp.bb 32 36351) ?_; refine Cmp.tk HT_ HW_ hHeld 9 40 (Cmp.bb 32 36863) ?_; refine Cmp.pu HT_ 12 43 (Cmp.bb 32 40959) ?_; refine Cmp.pu HT_ 13 44 (Cmp.bb 32 49151) ?_; refine Cmp.tk HT_ HW_ hHeld 14 45 (Cmp.bm 16 16) ?_; refine Cmp.tk HT_ HW_ hHeld 16 47 (Cmp.bm 17 15) ?_; refine Cmp.pu HT_ 17 48 (Cmp.bm 18 14) ?_; refine Cmp.pu HT_ 18 49 (Cmp.bm 19 13) ?_; refine Cmp.pu HT_ 19 50 (Cmp.bm 20 12) ?_; refine Cmp.pu HT_ 20 51 (Cmp.bm 21 11) ?_; refine Cmp.pu HT_ 21 52 (Cmp.bm 22 10) ?_; refine Cmp.tk HT_ HW_ hHeld 22 53 (Cmp.bm 23 9) ?_
                refine one_ (i := 23) (N := some 54) (Cmp.bm 24 8) rfl rfl (one_of HT_.out (by kernel_rfl)) (by decide) (fun K hK => ?_)
                refine goes_ Try.func84 (by kernel_rfl) rfl #[.int .i64 ((rd_T83 l0_2 x26_2).f1)] (by rfl) rfl rfl Cmp.q ?_
                with_reducible refine (impl_PrivateKey.calls k2 ((rd_T83 l0_2 x26_2).f1) t230 _ A29.out).mono ?_
                rintro e w' ⟨rfl, ⟨nd, rfl⟩⟩; refine ⟨_, rfl, ?_⟩
                refine hK.out _ _ ⟨(blk_cell BK227.out 0).trans rfl, (blk_cell BK227.out 1).trans rfl, (blk_cell BK227.out 2).trans rfl, (blk_cell BK227.out 3).trans rfl, (blk_cell BK223.out 0).trans rfl, (blk_cell BK223.out 1).trans rfl, (blk_cell BK223.out 2).trans rfl, ((HB.out.cell (World.block_lt_of_cell? w _ hw229_0)).trans hw229_0), ((HB.out.cell (World.block_lt_of_cell? w _ hw229_1)).trans hw229_1), ((HB.out.cell (World.block_lt_of_cell? w _ hw229_2)).trans hw229_2), ((HB.out.cell (World.block_lt_of_cell? w _ hw229_3)).trans hw229_3)⟩ (fun hHeld => ?_)
                clear hK K
                refine norm_ (a' := ?_) ?_ ?_
                rotate_left
                ·show Act.put _ (some 54) _ = _
                 simp only [Act.put, Cmp.s, Cmp.z, Cmp.c, i64_w, i32_w]; rfl
                refine Cmp.pu HT_ 24 55 (Cmp.bm 25 7) ?_; refine Cmp.pu HT_ 25 56 (Cmp.bm 26 6) ?_; refine Cmp.pu HT_ 26 57 (Cmp.bm 27 5) ?_; refine Cmp.pv HT_ 27 58 (Cmp.bm 28 4) ?_; refine Cmp.pv HT_ 28 59 (Cmp.bm 29 3) ?_; refine Cmp.pv HT_ 29 60 (Cmp.bm 30 2) ?_; refine Cmp.pv HT_ 30 61 (Cmp.bm 31 1) ?_; refine Cmp.pu HT_ 31 62 (Cmp.bm 32 0) ?_
                refine done_ (done_of HT_.out (by kernel_rfl)) ?_
                try go_wp2
                go_meet
                case rel => exact ⟨_, (true), (by first | rfl | simp | simp [*]), H', ⟨by have := HJ1.out; have := HK2.out; first | omega | exact Nat.le_refl _⟩, ⟨by refine Cmp.b ?_; exact BK223.out⟩, ⟨by refine Cmp.b ?_; exact BK227.out⟩, ⟨Cmp.g HB.out⟩⟩
               ·rw [if_neg c30] at H; have c30b0 : (t230 == 0) = false := beq_eq_false_iff_ne.mpr c30; have c30b1 : (t230 != 0) = true := bne_iff_ne.mpr c30; replace H := Option.bind_eq_some_iff.mp H; obtain ⟨t231, A330, H⟩ := H; (try dsimp only at H); have A33 := Aside0.mk A330; clear A330
                have H' := Aside0.mk H
                clear H
                try go_wp2
                have n0_ : Aside0 (((((w17.setCell ⟨gb227, 0, none⟩ (.int .i64 ((rd_T83 l0_2 x26_2).f0))).setCell ⟨gb227, 1, none⟩ (.int .i64 ((rd_T83 l0_2 x26_2).f1))).setCell ⟨gb227, 2, none⟩ (.int .i64 ((rd_T83 l0_2 x26_2).f2))).setCell ⟨gb227, 3, none⟩ (.bool ((rd_T83 l0_2 x26_2).f3))).heap[gb223]? = some (.cells #[.int .i64 a0_0, .int .i64 a0_1, .slice (some ad226) l0_2.length c0_2] 28 (0, 0))) := ⟨by refine Cmp.b ?_; refine blk_far ?_ NB223_227.out _; refine Cmp.b ?_; refine blk_far ?_ NB223_227.out _; refine Cmp.b ?_; refine blk_far ?_ NB223_227.out _; refine Cmp.b ?_; refine blk_far ?_ NB223_227.out _; refine Cmp.b ?_; exact BK223.out⟩
                have n1_ : Aside0 (((((w17.setCell ⟨gb227, 0, none⟩ (.int .i64 ((rd_T83 l0_2 x26_2).f0))).setCell ⟨gb227, 1, none⟩ (.int .i64 ((rd_T83 l0_2 x26_2).f1))).setCell ⟨gb227, 2, none⟩ (.int .i64 ((rd_T83 l0_2 x26_2).f2))).setCell ⟨gb227, 3, none⟩ (.bool ((rd_T83 l0_2 x26_2).f3))).heap[gb227]? = some (.cells #[.int .i64 ((rd_T83 l0_2 x26_2).f0), .int .i64 ((rd_T83 l0_2 x26_2).f1), .int .i64 ((rd_T83 l0_2 x26_2).f2), .bool ((rd_T83 l0_2 x26_2).f3)] 83 (0, 0))) := ⟨by refine Cmp.b ?_; refine blk_put (cs := #[.int .i64 ((rd_T83 l0_2 x26_2).f0), .int .i64 ((rd_T83 l0_2 x26_2).f1), .int .i64 ((rd_T83 l0_2 x26_2).f2), .bool false]) ?_ 3 _ rfl; refine Cmp.b ?_; refine blk_put (cs := #[.int .i64 ((rd_T83 l0_2 x26_2).f0), .int .i64 ((rd_T83 l0_2 x26_2).f1), .int .i64 0, .bool false]) ?_ 2 _ rfl; refine Cmp.b ?_; refine blk_put (cs := #[.int .i64 ((rd_T83 l0_2 x26_2).f0), .int .i64 0, .int .i64 0, .bool false]) ?_ 1 _ rfl; refine Cmp.b ?_; refine blk_put (cs := #[.int .i64 0, .int .i64 0, .int .i64 0, .bool false]) ?_ 0 _ rfl; refine Cmp.b ?_; exact BK227.out⟩
                have n2_ : Aside0 (Below w.heap.size w ((((w17.setCell ⟨gb227, 0, none⟩ (.int .i64 ((rd_T83 l0_2 x26_2).f0))).setCell ⟨gb227, 1, none⟩ (.int .i64 ((rd_T83 l0_2 x26_2).f1))).setCell ⟨gb227, 2, none⟩ (.int .i64 ((rd_T83 l0_2 x26_2).f2))).setCell ⟨gb227, 3, none⟩ (.bool ((rd_T83 l0_2 x26_2).f3)))) := ⟨Cmp.g HB.out⟩
                (try clear BK223); (try clear BK227); (try clear HB)
                generalize ((((w17.setCell ⟨gb227, 0, none⟩ (.int .i64 ((rd_T83 l0_2 x26_2).f0))).setCell ⟨gb227, 1, none⟩ (.int .i64 ((rd_T83 l0_2 x26_2).f1))).setCell ⟨gb227, 2, none⟩ (.int .i64 ((rd_T83 l0_2 x26_2).f2))).setCell ⟨gb227, 3, none⟩ (.bool ((rd_T83 l0_2 x26_2).f3))) = w34 at n0_ n1_ n2_ ⊢
                have BK223 := n0_; have BK227 := n1_; have HB := n2_; clear n0_ n1_ n2_; have n0_ := Aside0.mk (blk_drew BK223.out); have n1_ := Aside0.mk (blk_drew BK227.out); have n2_ := Aside0.mk (below_drew1 HB.out); clear BK223; clear BK227; clear HB; have BK223 := n0_; have BK227 := n1_; have HB := n2_; clear n0_ n1_ n2_
                have p229 : 0 ≤ ((ji23) : Int) := of_decide_eq_true Cmp.d
                have q229 : (ji23) < (l0_2.length : Int) := of_decide_eq_true Cmp.d
                obtain ⟨ad229, e229, hx229_0, hx229_1, hx229_2, hx229_3⟩ := at_T83 HR0_2.out (ji23) p229 q229
                have hw229_3 := hx229_3; have hw229_2 := hx229_2; have hw229_1 := hx229_1; have hw229_0 := hx229_0
                obtain rfl : ad226 = ad229 := (by injection e229)
                replace hx229_0 := (HB.out.cell (World.block_lt_of_cell? w _ hx229_0)).trans hx229_0
                replace hx229_1 := (HB.out.cell (World.block_lt_of_cell? w _ hx229_1)).trans hx229_1
                replace hx229_2 := (HB.out.cell (World.block_lt_of_cell? w _ hx229_2)).trans hx229_2
                replace hx229_3 := (HB.out.cell (World.block_lt_of_cell? w _ hx229_3)).trans hx229_3
                replace p229 := eq_true p229; replace q229 := eq_true q229
                refine start_ (n := 32) (S := fun w' => w'.cell? ⟨gb227, 0, none⟩ = some (.int .i64 ((rd_T83 l0_2 x26_2).f0)) ∧ w'.cell? ⟨gb227, 1, none⟩ = some (.int .i64 ((rd_T83 l0_2 x26_2).f1)) ∧ w'.cell? ⟨gb227, 2, none⟩ = some (.int .i64 ((rd_T83 l0_2 x26_2).f2)) ∧ w'.cell? ⟨gb227, 3, none⟩ = some (.bool ((rd_T83 l0_2 x26_2).f3)) ∧ w'.cell? ⟨gb223, 0, none⟩ = some (.int .i64 a0_0) ∧ w'.cell? ⟨gb223, 1, none⟩ = some (.int .i64 a0_1) ∧ w'.cell? ⟨gb223, 2, none⟩ = some (.slice (some ad226) l0_2.length c0_2) ∧ w'.cell? (ad226.add (((ji23)).toNat * 4)) = some (.int .i64 ((rd_T83 l0_2 (ji23)).f0)) ∧ w'.cell? ⟨(ad226.add (((ji23)).toNat * 4)).block, (ad226.add (((ji23)).toNat * 4)).off + 1, none⟩ = some (.int .i64 ((rd_T83 l0_2 (ji23)).f1)) ∧ w'.cell? ⟨(ad226.add (((ji23)).toNat * 4)).block, (ad226.add (((ji23)).toNat * 4)).off + 2, none⟩ = some (.int .i64 ((rd_T83 l0_2 (ji23)).f2)) ∧ w'.cell? ⟨(ad226.add (((ji23)).toNat * 4)).block, (ad226.add (((ji23)).toNat * 4)).off + 3, none⟩ = some (.bool ((rd_T83 l0_2 (ji23)).f3))) (ds := []) (Cmp.bm 0 32) (by kernel_rfl) rfl rfl ⟨(blk_cell BK227.out 0).trans rfl, (blk_cell BK227.out 1).trans rfl, (blk_cell BK227.out 2).trans rfl, (blk_cell BK227.out 3).trans rfl, (blk_cell BK223.out 0).trans rfl, (blk_cell BK223.out 1).trans rfl, (blk_cell BK223.out 2).trans rfl, ((HB.out.cell (World.block_lt_of_cell? w _ hw229_0)).trans hw229_0), ((HB.out.cell (World.block_lt_of_cell? w _ hw229_1)).trans hw229_1), ((HB.out.cell (World.block_lt_of_cell? w _ hw229_2)).trans hw229_2), ((HB.out.cell (World.block_lt_of_cell? w _ hw229_3)).trans hw229_3)⟩ (fun hHeld => ?_); refine with_tabW impl_IsValidAccount.tab6 impl_IsValidAccount.bits6 (fun HT_ HW_ => ?_)
                generalize w34.drew = w35 at BK223 BK227 HB hx229_0 hx229_1 hx229_2 hx229_3 hHeld ⊢
                refine Cmp.pu HT_ 0 31 (Cmp.bm 1 31) ?_; refine Cmp.tk HT_ HW_ hHeld 1 32 (Cmp.bm 2 30) ?_
                refine one_ (i := 2) (N := some 33) (Cmp.bm 3 29) rfl rfl (one_of HT_.out (by kernel_rfl)) (by decide) (fun K hK => ?_)
                refine goes_ Try.func50 (by kernel_rfl) rfl #[.int .i64 ((rd_T83 l0_2 x26_2).f0), .int .i64 0, .int .i64 1000000] (by rfl) rfl rfl Cmp.q ?_
                with_reducible refine (impl_InRange.calls ((rd_T83 l0_2 x26_2).f0) 0 1000000 true _ A20.out).mono ?_
                rintro e w' ⟨rfl, ⟨nd, rfl⟩⟩; refine ⟨_, rfl, ?_⟩
                refine hK.out _ _ ⟨(blk_cell BK227.out 0).trans rfl, (blk_cell BK227.out 1).trans rfl, (blk_cell BK227.out 2).trans rfl, (blk_cell BK227.out 3).trans rfl, (blk_cell BK223.out 0).trans rfl, (blk_cell BK223.out 1).trans rfl, (blk_cell BK223.out 2).trans rfl, ((HB.out.cell (World.block_lt_of_cell? w _ hw229_0)).trans hw229_0), ((HB.out.cell (World.block_lt_of_cell? w _ hw229_1)).trans hw229_1), ((HB.out.cell (World.block_lt_of_cell? w _ hw229_2)).trans hw229_2), ((HB.out.cell (World.block_lt_of_cell? w _ hw229_3)).trans hw229_3)⟩ (fun hHeld => ?_)
                clear hK K
                refine norm_ (a' := ?_) ?_ ?_
                rotate_left
                ·show Act.put _ (some 33) _ = _
                 simp only [Act.put, Cmp.s, Cmp.z, Cmp.c, i64_w, i32_w]; rfl
                refine Cmp.pu HT_ 3 34 (Cmp.bm 4 28) ?_; refine Cmp.pu HT_ 4 35 (Cmp.bm 5 27) ?_; refine Cmp.pu HT_ 5 36 (Cmp.bm 6 26) ?_; refine Cmp.pu HT_ 6 37 (Cmp.bm 7 25) ?_; refine Cmp.pu HT_ 7 38 (Cmp.bm 8 24) ?_; refine Cmp.pu HT_ 8 39 (Cmp.bm 9 23) ?_; refine Cmp.pu HT_ 10 41 (Cmp.bb 32 1535) ?_; refine Cmp.pu HT_ 11 42 (Cmp.bb 32 3583) ?_; refine Cmp.pu HT_ 15 46 (Cmp.bb 32 36351) ?_; refine Cmp.tk HT_ HW_ hHeld 9 40 (Cmp.bb 32 36863) ?_; refine Cmp.pu HT_ 12 43 (Cmp.bb 32 40959) ?_; refine Cmp.pu HT_ 13 44 (Cmp.bb 32 49151) ?_; refine Cmp.tk HT_ HW_ hHeld 14 45 (Cmp.bm 16 16) ?_; refine Cmp.tk HT_ HW_ hHeld 16 47 (Cmp.bm 17 15) ?_; refine Cmp.pu HT_ 17 48 (Cmp.bm 18 14) ?_; refine Cmp.pu HT_ 18 49 (Cmp.bm 19 13) ?_; refine Cmp.pu HT_ 19 50 (Cmp.bm 20 12) ?_; refine Cmp.pu HT_ 20 51 (Cmp.bm 21 11) ?_; refine Cmp.pu HT_ 21 52 (Cmp.bm 22 10) ?_; refine Cmp.tk HT_ HW_ hHeld 22 53 (Cmp.bm 23 9) ?_
                refine one_ (i := 23) (N := some 54) (Cmp.bm 24 8) rfl rfl (one_of HT_.out (by kernel_rfl)) (by decide) (fun K hK => ?_)
                refine goes_ Try.func84 (by kernel_rfl) rfl #[.int .i64 ((rd_T83 l0_2 x26_2).f1)] (by rfl) rfl rfl Cmp.q ?_
                with_reducible refine (impl_PrivateKey.calls k2 ((rd_T83 l0_2 x26_2).f1) t230 _ A29.out).mono ?_
                rintro e w' ⟨rfl, ⟨nd, rfl⟩⟩; refine ⟨_, rfl, ?_⟩
                refine hK.out _ _ ⟨(blk_cell BK227.out 0).trans rfl, (blk_cell BK227.out 1).trans rfl, (blk_cell BK227.out 2).trans rfl, (blk_cell BK227.out 3).trans rfl, (blk_cell BK223.out 0).trans rfl, (blk_cell BK223.out 1).trans rfl, (blk_cell BK223.out 2).trans rfl, ((HB.out.cell (World.block_lt_of_cell? w _ hw229_0)).trans hw229_0), ((HB.out.cell (World.block_lt_of_cell? w _ hw229_1)).trans hw229_1), ((HB.out.cell (World.block_lt_of_cell? w _ hw229_2)).trans hw229_2), ((HB.out.cell (World.block_lt_of_cell? w _ hw229_3)).trans hw229_3)⟩ (fun hHeld => ?_)
                clear hK K
                refine norm_ (a' := ?_) ?_ ?_
                rotate_left
                ·show Act.put _ (some 54) _ = _
                 simp only [Act.put, Cmp.s, Cmp.z, Cmp.c, i64_w, i32_w]; rfl
                refine Cmp.pu HT_ 24 55 (Cmp.bm 25 7) ?_; refine Cmp.pu HT_ 25 56 (Cmp.bm 26 6) ?_; refine Cmp.pu HT_ 26 57 (Cmp.bm 27 5) ?_; refine Cmp.pu HT_ 27 58 (Cmp.bm 28 4) ?_; refine Cmp.tk HT_ HW_ hHeld 28 59 (Cmp.bm 29 3) ?_
                refine one_ (i := 29) (N := some 60) (Cmp.bm 30 2) rfl rfl (one_of HT_.out (by kernel_rfl)) (by decide) (fun K hK => ?_)
                refine goes_ Try.func50 (by kernel_rfl) rfl #[.int .i64 ((rd_T83 l0_2 x26_2).f2), .int .i64 0, .int .i64 1000000] (by rfl) rfl rfl Cmp.q ?_
                with_reducible refine (impl_InRange.calls ((rd_T83 l0_2 x26_2).f2) 0 1000000 t231 _ A33.out).mono ?_
                rintro e w' ⟨rfl, ⟨nd, rfl⟩⟩; refine ⟨_, rfl, ?_⟩
                refine hK.out _ _ ⟨(blk_cell BK227.out 0).trans rfl, (blk_cell BK227.out 1).trans rfl, (blk_cell BK227.out 2).trans rfl, (blk_cell BK227.out 3).trans rfl, (blk_cell BK223.out 0).trans rfl, (blk_cell BK223.out 1).trans rfl, (blk_cell BK223.out 2).trans rfl, ((HB.out.cell (World.block_lt_of_cell? w _ hw229_0)).trans hw229_0), ((HB.out.cell (World.block_lt_of_cell? w _ hw229_1)).trans hw229_1), ((HB.out.cell (World.block_lt_of_cell? w _ hw229_2)).trans hw229_2), ((HB.out.cell (World.block_lt_of_cell? w _ hw229_3)).trans hw229_3)⟩ (fun hHeld => ?_)
                clear hK K
                refine norm_ (a' := ?_) ?_ ?_
                rotate_left
                ·show Act.put _ (some 60) _ = _
                 simp only [Act.put, Cmp.s, Cmp.z, Cmp.c, i64_w, i32_w]; rfl
                refine Cmp.pu HT_ 30 61 (Cmp.bm 31 1) ?_; refine Cmp.pu HT_ 31 62 (Cmp.bm 32 0) ?_
                refine done_ (done_of HT_.out (by kernel_rfl)) ?_
                try go_wp2
                go_meet
                case rel => exact ⟨_, (!t231), (by first | rfl | simp | simp [*]), H', ⟨by have := HJ1.out; have := HK2.out; first | omega | exact Nat.le_refl _⟩, ⟨by refine Cmp.b ?_; exact BK223.out⟩, ⟨by refine Cmp.b ?_; exact BK227.out⟩, ⟨Cmp.g HB.out⟩⟩
             ·rw [if_neg c25] at H; exact absurd H (by simp)
            ·rw [if_neg c24] at H; exact absurd H (by simp)
           ·rw [if_neg c22] at H; have c22b0 : decide (0 < x26_2) = false := decide_eq_false c22; clear c22
            (first | rw [c22b0] | (simp only [i64_w, i32_w]; rw [c22b0]) | skip)
            replace H := Option.bind_eq_some_iff.mp H; obtain ⟨t232, A360, H⟩ := H; (try dsimp only at H); have A36 := Aside0.mk A360; clear A360
            by_cases c37 : t232 = 0
            ·rw [if_pos c37] at H; have c37b0 : (t232 == 0) = true := beq_iff_eq.mpr c37; have c37b1 : (t232 != 0) = false := bne_eq_false_iff_eq.mpr c37; clear c37
             have H' := Aside0.mk H
             clear H
             try go_wp2
             have n0_ : Aside0 (((((w17.setCell ⟨gb227, 0, none⟩ (.int .i64 ((rd_T83 l0_2 x26_2).f0))).setCell ⟨gb227, 1, none⟩ (.int .i64 ((rd_T83 l0_2 x26_2).f1))).setCell ⟨gb227, 2, none⟩ (.int .i64 ((rd_T83 l0_2 x26_2).f2))).setCell ⟨gb227, 3, none⟩ (.bool ((rd_T83 l0_2 x26_2).f3))).heap[gb223]? = some (.cells #[.int .i64 a0_0, .int .i64 a0_1, .slice (some ad226) l0_2.length c0_2] 28 (0, 0))) := ⟨by refine Cmp.b ?_; refine blk_far ?_ NB223_227.out _; refine Cmp.b ?_; refine blk_far ?_ NB223_227.out _; refine Cmp.b ?_; refine blk_far ?_ NB223_227.out _; refine Cmp.b ?_; refine blk_far ?_ NB223_227.out _; refine Cmp.b ?_; exact BK223.out⟩
             have n1_ : Aside0 (((((w17.setCell ⟨gb227, 0, none⟩ (.int .i64 ((rd_T83 l0_2 x26_2).f0))).setCell ⟨gb227, 1, none⟩ (.int .i64 ((rd_T83 l0_2 x26_2).f1))).setCell ⟨gb227, 2, none⟩ (.int .i64 ((rd_T83 l0_2 x26_2).f2))).setCell ⟨gb227, 3, none⟩ (.bool ((rd_T83 l0_2 x26_2).f3))).heap[gb227]? = some (.cells #[.int .i64 ((rd_T83 l0_2 x26_2).f0), .int .i64 ((rd_T83 l0_2 x26_2).f1), .int .i64 ((rd_T83 l0_2 x26_2).f2), .bool ((rd_T83 l0_2 x26_2).f3)] 83 (0, 0))) := ⟨by refine Cmp.b ?_; refine blk_put (cs := #[.int .i64 ((rd_T83 l0_2 x26_2).f0), .int .i64 ((rd_T83 l0_2 x26_2).f1), .int .i64 ((rd_T83 l0_2 x26_2).f2), .bool false]) ?_ 3 _ rfl; refine Cmp.b ?_; refine blk_put (cs := #[.int .i64 ((rd_T83 l0_2 x26_2).f0), .int .i64 ((rd_T83 l0_2 x26_2).f1), .int .i64 0, .bool false]) ?_ 2 _ rfl; refine Cmp.b ?_; refine blk_put (cs := #[.int .i64 ((rd_T83 l0_2 x26_2).f0), .int .i64 0, .int .i64 0, .bool false]) ?_ 1 _ rfl; refine Cmp.b ?_; refine blk_put (cs := #[.int .i64 0, .int .i64 0, .int .i64 0, .bool false]) ?_ 0 _ rfl; refine Cmp.b ?_; exact BK227.out⟩
             have n2_ : Aside0 (Below w.heap.size w ((((w17.setCell ⟨gb227, 0, none⟩ (.int .i64 ((rd_T83 l0_2 x26_2).f0))).setCell ⟨gb227, 1, none⟩ (.int .i64 ((rd_T83 l0_2 x26_2).f1))).setCell ⟨gb227, 2, none⟩ (.int .i64 ((rd_T83 l0_2 x26_2).f2))).setCell ⟨gb227, 3, none⟩ (.bool ((rd_T83 l0_2 x26_2).f3)))) := ⟨Cmp.g HB.out⟩
             (try clear BK223); (try clear BK227); (try clear HB)
             generalize ((((w17.setCell ⟨gb227, 0, none⟩ (.int .i64 ((rd_T83 l0_2 x26_2).f0))).setCell ⟨gb227, 1, none⟩ (.int .i64 ((rd_T83 l0_2 x26_2).f1))).setCell ⟨gb227, 2, none⟩ (.int .i64 ((rd_T83 l0_2 x26_2).f2))).setCell ⟨gb227, 3, none⟩ (.bool ((rd_T83 l0_2 x26_2).f3))) = w38 at n0_ n1_ n2_ ⊢
             have BK223 := n0_; have BK227 := n1_; have HB := n2_; clear n0_ n1_ n2_; have n0_ := Aside0.mk (blk_drew BK223.out); have n1_ := Aside0.mk (blk_drew BK227.out); have n2_ := Aside0.mk (below_drew1 HB.out); clear BK223; clear BK227; clear HB; have BK223 := n0_; have BK227 := n1_; have HB := n2_; clear n0_ n1_ n2_
             refine start_ (n := 32) (S := fun w' => w'.cell? ⟨gb227, 0, none⟩ = some (.int .i64 ((rd_T83 l0_2 x26_2).f0)) ∧ w'.cell? ⟨gb227, 1, none⟩ = some (.int .i64 ((rd_T83 l0_2 x26_2).f1)) ∧ w'.cell? ⟨gb227, 2, none⟩ = some (.int .i64 ((rd_T83 l0_2 x26_2).f2)) ∧ w'.cell? ⟨gb227, 3, none⟩ = some (.bool ((rd_T83 l0_2 x26_2).f3))) (ds := []) (Cmp.bm 0 32) (by kernel_rfl) rfl rfl ⟨(blk_cell BK227.out 0).trans rfl, (blk_cell BK227.out 1).trans rfl, (blk_cell BK227.out 2).trans rfl, (blk_cell BK227.out 3).trans rfl⟩ (fun hHeld => ?_); refine with_tabW impl_IsValidAccount.tab6 impl_IsValidAccount.bits6 (fun HT_ HW_ => ?_)
             generalize w38.drew = w39 at BK223 BK227 HB hHeld ⊢
             refine Cmp.pu HT_ 0 31 (Cmp.bm 1 31) ?_; refine Cmp.tk HT_ HW_ hHeld 1 32 (Cmp.bm 2 30) ?_
             refine one_ (i := 2) (N := some 33) (Cmp.bm 3 29) rfl rfl (one_of HT_.out (by kernel_rfl)) (by decide) (fun K hK => ?_)
             refine goes_ Try.func50 (by kernel_rfl) rfl #[.int .i64 ((rd_T83 l0_2 x26_2).f0), .int .i64 0, .int .i64 1000000] (by rfl) rfl rfl Cmp.q ?_
             with_reducible refine (impl_InRange.calls ((rd_T83 l0_2 x26_2).f0) 0 1000000 true _ A20.out).mono ?_
             rintro e w' ⟨rfl, ⟨nd, rfl⟩⟩; refine ⟨_, rfl, ?_⟩
             refine hK.out _ _ ⟨(blk_cell BK227.out 0).trans rfl, (blk_cell BK227.out 1).trans rfl, (blk_cell BK227.out 2).trans rfl, (blk_cell BK227.out 3).trans rfl⟩ (fun hHeld => ?_)
             clear hK K
             refine norm_ (a' := ?_) ?_ ?_
             rotate_left
             ·show Act.put _ (some 33) _ = _
              simp only [Act.put, Cmp.s, Cmp.z, Cmp.c, i64_w, i32_w]; rfl
             refine Cmp.pu HT_ 3 34 (Cmp.bm 4 28) ?_; refine Cmp.pu HT_ 4 35 (Cmp.bm 5 27) ?_; refine Cmp.pu HT_ 5 36 (Cmp.bm 6 26) ?_; refine Cmp.pu HT_ 6 37 (Cmp.bm 7 25) ?_; refine Cmp.pu HT_ 7 38 (Cmp.bm 8 24) ?_; refine Cmp.pv HT_ 8 39 (Cmp.bm 9 23) ?_; refine Cmp.pv HT_ 9 40 (Cmp.bm 10 22) ?_; refine Cmp.pv HT_ 10 41 (Cmp.bm 11 21) ?_; refine Cmp.pv HT_ 11 42 (Cmp.bm 12 20) ?_; refine Cmp.pv HT_ 12 43 (Cmp.bm 13 19) ?_; refine Cmp.pv HT_ 13 44 (Cmp.bm 14 18) ?_; refine Cmp.pv HT_ 14 45 (Cmp.bm 15 17) ?_; refine Cmp.pv HT_ 15 46 (Cmp.bm 16 16) ?_; refine Cmp.pv HT_ 16 47 (Cmp.bm 17 15) ?_; refine Cmp.pv HT_ 17 48 (Cmp.bm 18 14) ?_; refine Cmp.pu HT_ 18 49 (Cmp.bm 19 13) ?_; refine Cmp.pu HT_ 19 50 (Cmp.bm 20 12) ?_; refine Cmp.pu HT_ 20 51 (Cmp.bm 21 11) ?_; refine Cmp.pu HT_ 21 52 (Cmp.bm 22 10) ?_; refine Cmp.tk HT_ HW_ hHeld 22 53 (Cmp.bm 23 9) ?_
             refine one_ (i := 23) (N := some 54) (Cmp.bm 24 8) rfl rfl (one_of HT_.out (by kernel_rfl)) (by decide) (fun K hK => ?_)
             refine goes_ Try.func84 (by kernel_rfl) rfl #[.int .i64 ((rd_T83 l0_2 x26_2).f1)] (by rfl) rfl rfl Cmp.q ?_
             with_reducible refine (impl_PrivateKey.calls k2 ((rd_T83 l0_2 x26_2).f1) t232 _ A36.out).mono ?_
             rintro e w' ⟨rfl, ⟨nd, rfl⟩⟩; refine ⟨_, rfl, ?_⟩
             refine hK.out _ _ ⟨(blk_cell BK227.out 0).trans rfl, (blk_cell BK227.out 1).trans rfl, (blk_cell BK227.out 2).trans rfl, (blk_cell BK227.out 3).trans rfl⟩ (fun hHeld => ?_)
             clear hK K
             refine norm_ (a' := ?_) ?_ ?_
             rotate_left
             ·show Act.put _ (some 54) _ = _
              simp only [Act.put, Cmp.s, Cmp.z, Cmp.c, i64_w, i32_w]; rfl
             refine Cmp.pu HT_ 24 55 (Cmp.bm 25 7) ?_; refine Cmp.pu HT_ 25 56 (Cmp.bm 26 6) ?_; refine Cmp.pu HT_ 26 57 (Cmp.bm 27 5) ?_; refine Cmp.pv HT_ 27 58 (Cmp.bm 28 4) ?_; refine Cmp.pv HT_ 28 59 (Cmp.bm 29 3) ?_; refine Cmp.pv HT_ 29 60 (Cmp.bm 30 2) ?_; refine Cmp.pv HT_ 30 61 (Cmp.bm 31 1) ?_; refine Cmp.pu HT_ 31 62 (Cmp.bm 32 0) ?_
             refine done_ (done_of HT_.out (by kernel_rfl)) ?_
             try go_wp2
             go_meet
             case rel => exact ⟨_, (true), (by first | rfl | simp | simp [*]), H', ⟨by have := HJ1.out; have := HK2.out; first | omega | exact Nat.le_refl _⟩, ⟨by refine Cmp.b ?_; exact BK223.out⟩, ⟨by refine Cmp.b ?_; exact BK227.out⟩, ⟨Cmp.g HB.out⟩⟩
            ·rw [if_neg c37] at H; have c37b0 : (t232 == 0) = false := beq_eq_false_iff_ne.mpr c37; have c37b1 : (t232 != 0) = true := bne_iff_ne.mpr c37; replace H := Option.bind_eq_some_iff.mp H; obtain ⟨t233, A400, H⟩ := H; (try dsimp only at H); have A40 := Aside0.mk A400; clear A400
             have H' := Aside0.mk H
             clear H
             try go_wp2
             have n0_ : Aside0 (((((w17.setCell ⟨gb227, 0, none⟩ (.int .i64 ((rd_T83 l0_2 x26_2).f0))).setCell ⟨gb227, 1, none⟩ (.int .i64 ((rd_T83 l0_2 x26_2).f1))).setCell ⟨gb227, 2, none⟩ (.int .i64 ((rd_T83 l0_2 x26_2).f2))).setCell ⟨gb227, 3, none⟩ (.bool ((rd_T83 l0_2 x26_2).f3))).heap[gb223]? = some (.cells #[.int .i64 a0_0, .int .i64 a0_1, .slice (some ad226) l0_2.length c0_2] 28 (0, 0))) := ⟨by refine Cmp.b ?_; refine blk_far ?_ NB223_227.out _; refine Cmp.b ?_; refine blk_far ?_ NB223_227.out _; refine Cmp.b ?_; refine blk_far ?_ NB223_227.out _; refine Cmp.b ?_; refine blk_far ?_ NB223_227.out _; refine Cmp.b ?_; exact BK223.out⟩
             have n1_ : Aside0 (((((w17.setCell ⟨gb227, 0, none⟩ (.int .i64 ((rd_T83 l0_2 x26_2).f0))).setCell ⟨gb227, 1, none⟩ (.int .i64 ((rd_T83 l0_2 x26_2).f1))).setCell ⟨gb227, 2, none⟩ (.int .i64 ((rd_T83 l0_2 x26_2).f2))).setCell ⟨gb227, 3, none⟩ (.bool ((rd_T83 l0_2 x26_2).f3))).heap[gb227]? = some (.cells #[.int .i64 ((rd_T83 l0_2 x26_2).f0), .int .i64 ((rd_T83 l0_2 x26_2).f1), .int .i64 ((rd_T83 l0_2 x26_2).f2), .bool ((rd_T83 l0_2 x26_2).f3)] 83 (0, 0))) := ⟨by refine Cmp.b ?_; refine blk_put (cs := #[.int .i64 ((rd_T83 l0_2 x26_2).f0), .int .i64 ((rd_T83 l0_2 x26_2).f1), .int .i64 ((rd_T83 l0_2 x26_2).f2), .bool false]) ?_ 3 _ rfl; refine Cmp.b ?_; refine blk_put (cs := #[.int .i64 ((rd_T83 l0_2 x26_2).f0), .int .i64 ((rd_T83 l0_2 x26_2).f1), .int .i64 0, .bool false]) ?_ 2 _ rfl; refine Cmp.b ?_; refine blk_put (cs := #[.int .i64 ((rd_T83 l0_2 x26_2).f0), .int .i64 0, .int .i64 0, .bool false]) ?_ 1 _ rfl; refine Cmp.b ?_; refine blk_put (cs := #[.int .i64 0, .int .i64 0, .int .i64 0, .bool false]) ?_ 0 _ rfl; refine Cmp.b ?_; exact BK227.out⟩
             have n2_ : Aside0 (Below w.heap.size w ((((w17.setCell ⟨gb227, 0, none⟩ (.int .i64 ((rd_T83 l0_2 x26_2).f0))).setCell ⟨gb227, 1, none⟩ (.int .i64 ((rd_T83 l0_2 x26_2).f1))).setCell ⟨gb227, 2, none⟩ (.int .i64 ((rd_T83 l0_2 x26_2).f2))).setCell ⟨gb227, 3, none⟩ (.bool ((rd_T83 l0_2 x26_2).f3)))) := ⟨Cmp.g HB.out⟩
             (try clear BK223); (try clear BK227); (try clear HB)
             generalize ((((w17.setCell ⟨gb227, 0, none⟩ (.int .i64 ((rd_T83 l0_2 x26_2).f0))).setCell ⟨gb227, 1, none⟩ (.int .i64 ((rd_T83 l0_2 x26_2).f1))).setCell ⟨gb227, 2, none⟩ (.int .i64 ((rd_T83 l0_2 x26_2).f2))).setCell ⟨gb227, 3, none⟩ (.bool ((rd_T83 l0_2 x26_2).f3))) = w41 at n0_ n1_ n2_ ⊢
             have BK223 := n0_; have BK227 := n1_; have HB := n2_; clear n0_ n1_ n2_; have n0_ := Aside0.mk (blk_drew BK223.out); have n1_ := Aside0.mk (blk_drew BK227.out); have n2_ := Aside0.mk (below_drew1 HB.out); clear BK223; clear BK227; clear HB; have BK223 := n0_; have BK227 := n1_; have HB := n2_; clear n0_ n1_ n2_
             refine start_ (n := 32) (S := fun w' => w'.cell? ⟨gb227, 0, none⟩ = some (.int .i64 ((rd_T83 l0_2 x26_2).f0)) ∧ w'.cell? ⟨gb227, 1, none⟩ = some (.int .i64 ((rd_T83 l0_2 x26_2).f1)) ∧ w'.cell? ⟨gb227, 2, none⟩ = some (.int .i64 ((rd_T83 l0_2 x26_2).f2)) ∧ w'.cell? ⟨gb227, 3, none⟩ = some (.bool ((rd_T83 l0_2 x26_2).f3))) (ds := []) (Cmp.bm 0 32) (by kernel_rfl) rfl rfl ⟨(blk_cell BK227.out 0).trans rfl, (blk_cell BK227.out 1).trans rfl, (blk_cell BK227.out 2).trans rfl, (blk_cell BK227.out 3).trans rfl⟩ (fun hHeld => ?_); refine with_tabW impl_IsValidAccount.tab6 impl_IsValidAccount.bits6 (fun HT_ HW_ => ?_)
             generalize w41.drew = w42 at BK223 BK227 HB hHeld ⊢
             refine Cmp.pu HT_ 0 31 (Cmp.bm 1 31) ?_; refine Cmp.tk HT_ HW_ hHeld 1 32 (Cmp.bm 2 30) ?_
             refine one_ (i := 2) (N := some 33) (Cmp.bm 3 29) rfl rfl (one_of HT_.out (by kernel_rfl)) (by decide) (fun K hK => ?_)
             refine goes_ Try.func50 (by kernel_rfl) rfl #[.int .i64 ((rd_T83 l0_2 x26_2).f0), .int .i64 0, .int .i64 1000000] (by rfl) rfl rfl Cmp.q ?_
             with_reducible refine (impl_InRange.calls ((rd_T83 l0_2 x26_2).f0) 0 1000000 true _ A20.out).mono ?_
             rintro e w' ⟨rfl, ⟨nd, rfl⟩⟩; refine ⟨_, rfl, ?_⟩
             refine hK.out _ _ ⟨(blk_cell BK227.out 0).trans rfl, (blk_cell BK227.out 1).trans rfl, (blk_cell BK227.out 2).trans rfl, (blk_cell BK227.out 3).trans rfl⟩ (fun hHeld => ?_)
             clear hK K
             refine norm_ (a' := ?_) ?_ ?_
             rotate_left
             ·show Act.put _ (some 33) _ = _
              simp only [Act.put, Cmp.s, Cmp.z, Cmp.c, i64_w, i32_w]; rfl
             refine Cmp.pu HT_ 3 34 (Cmp.bm 4 28) ?_; refine Cmp.pu HT_ 4 35 (Cmp.bm 5 27) ?_; refine Cmp.pu HT_ 5 36 (Cmp.bm 6 26) ?_; refine Cmp.pu HT_ 6 37 (Cmp.bm 7 25) ?_; refine Cmp.pu HT_ 7 38 (Cmp.bm 8 24) ?_; refine Cmp.pv HT_ 8 39 (Cmp.bm 9 23) ?_; refine Cmp.pv HT_ 9 40 (Cmp.bm 10 22) ?_; refine Cmp.pv HT_ 10 41 (Cmp.bm 11 21) ?_; refine Cmp.pv HT_ 11 42 (Cmp.bm 12 20) ?_; refine Cmp.pv HT_ 12 43 (Cmp.bm 13 19) ?_; refine Cmp.pv HT_ 13 44 (Cmp.bm 14 18) ?_; refine Cmp.pv HT_ 14 45 (Cmp.bm 15 17) ?_; refine Cmp.pv HT_ 15 46 (Cmp.bm 16 16) ?_; refine Cmp.pv HT_ 16 47 (Cmp.bm 17 15) ?_; refine Cmp.pv HT_ 17 48 (Cmp.bm 18 14) ?_; refine Cmp.pu HT_ 18 49 (Cmp.bm 19 13) ?_; refine Cmp.pu HT_ 19 50 (Cmp.bm 20 12) ?_; refine Cmp.pu HT_ 20 51 (Cmp.bm 21 11) ?_; refine Cmp.pu HT_ 21 52 (Cmp.bm 22 10) ?_; refine Cmp.tk HT_ HW_ hHeld 22 53 (Cmp.bm 23 9) ?_
             refine one_ (i := 23) (N := some 54) (Cmp.bm 24 8) rfl rfl (one_of HT_.out (by kernel_rfl)) (by decide) (fun K hK => ?_)
             refine goes_ Try.func84 (by kernel_rfl) rfl #[.int .i64 ((rd_T83 l0_2 x26_2).f1)] (by rfl) rfl rfl Cmp.q ?_
             with_reducible refine (impl_PrivateKey.calls k2 ((rd_T83 l0_2 x26_2).f1) t232 _ A36.out).mono ?_
             rintro e w' ⟨rfl, ⟨nd, rfl⟩⟩; refine ⟨_, rfl, ?_⟩
             refine hK.out _ _ ⟨(blk_cell BK227.out 0).trans rfl, (blk_cell BK227.out 1).trans rfl, (blk_cell BK227.out 2).trans rfl, (blk_cell BK227.out 3).trans rfl⟩ (fun hHeld => ?_)
             clear hK K
             refine norm_ (a' := ?_) ?_ ?_
             rotate_left
             ·show Act.put _ (some 54) _ = _
              simp only [Act.put, Cmp.s, Cmp.z, Cmp.c, i64_w, i32_w]; rfl
             refine Cmp.pu HT_ 24 55 (Cmp.bm 25 7) ?_; refine Cmp.pu HT_ 25 56 (Cmp.bm 26 6) ?_; refine Cmp.pu HT_ 26 57 (Cmp.bm 27 5) ?_; refine Cmp.pu HT_ 27 58 (Cmp.bm 28 4) ?_; refine Cmp.tk HT_ HW_ hHeld 28 59 (Cmp.bm 29 3) ?_
             refine one_ (i := 29) (N := some 60) (Cmp.bm 30 2) rfl rfl (one_of HT_.out (by kernel_rfl)) (by decide) (fun K hK => ?_)
             refine goes_ Try.func50 (by kernel_rfl) rfl #[.int .i64 ((rd_T83 l0_2 x26_2).f2), .int .i64 0, .int .i64 1000000] (by rfl) rfl rfl Cmp.q ?_
             with_reducible refine (impl_InRange.calls ((rd_T83 l0_2 x26_2).f2) 0 1000000 t233 _ A40.out).mono ?_
             rintro e w' ⟨rfl, ⟨nd, rfl⟩⟩; refine ⟨_, rfl, ?_⟩
             refine hK.out _ _ ⟨(blk_cell BK227.out 0).trans rfl, (blk_cell BK227.out 1).trans rfl, (blk_cell BK227.out 2).trans rfl, (blk_cell BK227.out 3).trans rfl⟩ (fun hHeld => ?_)
             clear hK K
             refine norm_ (a' := ?_) ?_ ?_
             rotate_left
             ·show Act.put _ (some 60) _ = _
              simp only [Act.put, Cmp.s, Cmp.z, Cmp.c, i64_w, i32_w]; rfl
             refine Cmp.pu HT_ 30 61 (Cmp.bm 31 1) ?_; refine Cmp.pu HT_ 31 62 (Cmp.bm 32 0) ?_
             refine done_ (done_of HT_.out (by kernel_rfl)) ?_
             try go_wp2
             go_meet
             case rel => exact ⟨_, (!t233), (by first | rfl | simp | simp [*]), H', ⟨by have := HJ1.out; have := HK2.out; first | omega | exact Nat.le_refl _⟩, ⟨by refine Cmp.b ?_; exact BK223.out⟩, ⟨by refine Cmp.b ?_; exact BK227.out⟩, ⟨Cmp.g HB.out⟩⟩
          ·replace c21 := Bool.eq_false_iff.mpr c21
           subst c21
           have H1 : (impl_IsValidAccount.j2 k2 x26_2 l0_2 (l0_2.length : Int) x26_2 true a0_0 a0_1 l0_2 ((rd_T83 l0_2 x26_2).f0) ((rd_T83 l0_2 x26_2).f1) ((rd_T83 l0_2 x26_2).f2) ((rd_T83 l0_2 x26_2).f3)) = some r := by rw [if_neg (show ¬ (false = true) by decide)] at H; exact H
           clear H; have H := H1; clear H1
           have H' := Aside0.mk H
           clear H
           try go_wp2
           have n0_ : Aside0 (((((w17.setCell ⟨gb227, 0, none⟩ (.int .i64 ((rd_T83 l0_2 x26_2).f0))).setCell ⟨gb227, 1, none⟩ (.int .i64 ((rd_T83 l0_2 x26_2).f1))).setCell ⟨gb227, 2, none⟩ (.int .i64 ((rd_T83 l0_2 x26_2).f2))).setCell ⟨gb227, 3, none⟩ (.bool ((rd_T83 l0_2 x26_2).f3))).heap[gb223]? = some (.cells #[.int .i64 a0_0, .int .i64 a0_1, .slice (some ad226) l0_2.length c0_2] 28 (0, 0))) := ⟨by refine Cmp.b ?_; refine blk_far ?_ NB223_227.out _; refine Cmp.b ?_; refine blk_far ?_ NB223_227.out _; refine Cmp.b ?_; refine blk_far ?_ NB223_227.out _; refine Cmp.b ?_; refine blk_far ?_ NB223_227.out _; refine Cmp.b ?_; exact BK223.out⟩
           have n1_ : Aside0 (((((w17.setCell ⟨gb227, 0, none⟩ (.int .i64 ((rd_T83 l0_2 x26_2).f0))).setCell ⟨gb227, 1, none⟩ (.int .i64 ((rd_T83 l0_2 x26_2).f1))).setCell ⟨gb227, 2, none⟩ (.int .i64 ((rd_T83 l0_2 x26_2).f2))).setCell ⟨gb227, 3, none⟩ (.bool ((rd_T83 l0_2 x26_2).f3))).heap[gb227]? = some (.cells #[.int .i64 ((rd_T83 l0_2 x26_2).f0), .int .i64 ((rd_T83 l0_2 x26_2).f1), .int .i64 ((rd_T83 l0_2 x26_2).f2), .bool ((rd_T83 l0_2 x26_2).f3)] 83 (0, 0))) := ⟨by refine Cmp.b ?_; refine blk_put (cs := #[.int .i64 ((rd_T83 l0_2 x26_2).f0), .int .i64 ((rd_T83 l0_2 x26_2).f1), .int .i64 ((rd_T83 l0_2 x26_2).f2), .bool false]) ?_ 3 _ rfl; refine Cmp.b ?_; refine blk_put (cs := #[.int .i64 ((rd_T83 l0_2 x26_2).f0), .int .i64 ((rd_T83 l0_2 x26_2).f1), .int .i64 0, .bool false]) ?_ 2 _ rfl; refine Cmp.b ?_; refine blk_put (cs := #[.int .i64 ((rd_T83 l0_2 x26_2).f0), .int .i64 0, .int .i64 0, .bool false]) ?_ 1 _ rfl; refine Cmp.b ?_; refine blk_put (cs := #[.int .i64 0, .int .i64 0, .int .i64 0, .bool false]) ?_ 0 _ rfl; refine Cmp.b ?_; exact BK227.out⟩
           have n2_ : Aside0 (Below w.heap.size w ((((w17.setCell ⟨gb227, 0, none⟩ (.int .i64 ((rd_T83 l0_2 x26_2).f0))).setCell ⟨gb227, 1, none⟩ (.int .i64 ((rd_T83 l0_2 x26_2).f1))).setCell ⟨gb227, 2, none⟩ (.int .i64 ((rd_T83 l0_2 x26_2).f2))).setCell ⟨gb227, 3, none⟩ (.bool ((rd_T83 l0_2 x26_2).f3)))) := ⟨Cmp.g HB.out⟩
           (try clear BK223); (try clear BK227); (try clear HB)
           generalize ((((w17.setCell ⟨gb227, 0, none⟩ (.int .i64 ((rd_T83 l0_2 x26_2).f0))).setCell ⟨gb227, 1, none⟩ (.int .i64 ((rd_T83 l0_2 x26_2).f1))).setCell ⟨gb227, 2, none⟩ (.int .i64 ((rd_T83 l0_2 x26_2).f2))).setCell ⟨gb227, 3, none⟩ (.bool ((rd_T83 l0_2 x26_2).f3))) = w43 at n0_ n1_ n2_ ⊢
           have BK223 := n0_; have BK227 := n1_; have HB := n2_; clear n0_ n1_ n2_; have n0_ := Aside0.mk (blk_drew BK223.out); have n1_ := Aside0.mk (blk_drew BK227.out); have n2_ := Aside0.mk (below_drew1 HB.out); clear BK223; clear BK227; clear HB; have BK223 := n0_; have BK227 := n1_; have HB := n2_; clear n0_ n1_ n2_
           refine start_ (n := 32) (S := fun w' => w'.cell? ⟨gb227, 0, none⟩ = some (.int .i64 ((rd_T83 l0_2 x26_2).f0)) ∧ w'.cell? ⟨gb227, 1, none⟩ = some (.int .i64 ((rd_T83 l0_2 x26_2).f1)) ∧ w'.cell? ⟨gb227, 2, none⟩ = some (.int .i64 ((rd_T83 l0_2 x26_2).f2)) ∧ w'.cell? ⟨gb227, 3, none⟩ = some (.bool ((rd_T83 l0_2 x26_2).f3))) (ds := []) (Cmp.bm 0 32) (by kernel_rfl) rfl rfl ⟨(blk_cell BK227.out 0).trans rfl, (blk_cell BK227.out 1).trans rfl, (blk_cell BK227.out 2).trans rfl, (blk_cell BK227.out 3).trans rfl⟩ (fun hHeld => ?_); refine with_tabW impl_IsValidAccount.tab6 impl_IsValidAccount.bits6 (fun HT_ HW_ => ?_)
           generalize w43.drew = w44 at BK223 BK227 HB hHeld ⊢
           refine Cmp.pu HT_ 0 31 (Cmp.bm 1 31) ?_; refine Cmp.tk HT_ HW_ hHeld 1 32 (Cmp.bm 2 30) ?_
           refine one_ (i := 2) (N := some 33) (Cmp.bm 3 29) rfl rfl (one_of HT_.out (by kernel_rfl)) (by decide) (fun K hK => ?_)
           refine goes_ Try.func50 (by kernel_rfl) rfl #[.int .i64 ((rd_T83 l0_2 x26_2).f0), .int .i64 0, .int .i64 1000000] (by rfl) rfl rfl Cmp.q ?_
           with_reducible refine (impl_InRange.calls ((rd_T83 l0_2 x26_2).f0) 0 1000000 false _ A20.out).mono ?_
           rintro e w' ⟨rfl, ⟨nd, rfl⟩⟩; refine ⟨_, rfl, ?_⟩
           refine hK.out _ _ ⟨(blk_cell BK227.out 0).trans rfl, (blk_cell BK227.out 1).trans rfl, (blk_cell BK227.out 2).trans rfl, (blk_cell BK227.out 3).trans rfl⟩ (fun hHeld => ?_)
           clear hK K
           refine norm_ (a' := ?_) ?_ ?_
           rotate_left
           ·show Act.put _ (some 33) _ = _
            simp only [Act.put, Cmp.s, Cmp.z, Cmp.c, i64_w, i32_w]; rfl
           refine Cmp.pu HT_ 3 34 (Cmp.bm 4 28) ?_; refine Cmp.pu HT_ 4 35 (Cmp.bm 5 27) ?_; refine Cmp.pv HT_ 5 36 (Cmp.bm 6 26) ?_; refine Cmp.pv HT_ 6 37 (Cmp.bm 7 25) ?_; refine Cmp.pv HT_ 7 38 (Cmp.bm 8 24) ?_; refine Cmp.pv HT_ 8 39 (Cmp.bm 9 23) ?_; refine Cmp.pv HT_ 9 40 (Cmp.bm 10 22) ?_; refine Cmp.pv HT_ 10 41 (Cmp.bm 11 21) ?_; refine Cmp.pv HT_ 11 42 (Cmp.bm 12 20) ?_; refine Cmp.pv HT_ 12 43 (Cmp.bm 13 19) ?_; refine Cmp.pv HT_ 13 44 (Cmp.bm 14 18) ?_; refine Cmp.pv HT_ 14 45 (Cmp.bm 15 17) ?_; refine Cmp.pv HT_ 15 46 (Cmp.bm 16 16) ?_; refine Cmp.pv HT_ 16 47 (Cmp.bm 17 15) ?_; refine Cmp.pv HT_ 17 48 (Cmp.bm 18 14) ?_; refine Cmp.pv HT_ 18 49 (Cmp.bm 19 13) ?_; refine Cmp.pu HT_ 19 50 (Cmp.bm 20 12) ?_; refine Cmp.pu HT_ 20 51 (Cmp.bm 21 11) ?_; refine Cmp.pv HT_ 21 52 (Cmp.bm 22 10) ?_; refine Cmp.pv HT_ 22 53 (Cmp.bm 23 9) ?_; refine Cmp.pv HT_ 23 54 (Cmp.bm 24 8) ?_; refine Cmp.pv HT_ 24 55 (Cmp.bm 25 7) ?_; refine Cmp.pu HT_ 25 56 (Cmp.bm 26 6) ?_; refine Cmp.pu HT_ 26 57 (Cmp.bm 27 5) ?_; refine Cmp.pv HT_ 27 58 (Cmp.bm 28 4) ?_; refine Cmp.pv HT_ 28 59 (Cmp.bm 29 3) ?_; refine Cmp.pv HT_ 29 60 (Cmp.bm 30 2) ?_; refine Cmp.pv HT_ 30 61 (Cmp.bm 31 1) ?_; refine Cmp.pu HT_ 31 62 (Cmp.bm 32 0) ?_
           refine done_ (done_of HT_.out (by kernel_rfl)) ?_
           try go_wp2
           go_meet
           case rel => exact ⟨_, (true), (by first | rfl | simp | simp [*]), H', ⟨by have := HJ1.out; have := HK2.out; first | omega | exact Nat.le_refl _⟩, ⟨by refine Cmp.b ?_; exact BK223.out⟩, ⟨by refine Cmp.b ?_; exact BK227.out⟩, ⟨Cmp.g HB.out⟩⟩
         case rest =>
          clear HC16; (try clear c2); (try clear p2); (try clear c3); (try clear c5); (try clear c8); (try clear c21); (try clear c37); (try clear c37b0); (try clear c37b1)
          obtain ⟨kq, x62_15, rfl, HA, HJ15, BK223, BK227, HB⟩ := hcut
          cases kq with
          | zero => exact absurd HA.out (by simp [impl_IsValidAccount.j2])
          | succ kj15 =>
           have H := HA.out; clear HA
           simp only [impl_IsValidAccount.j2] at H
           by_cases c45 : x62_15 = true
           ·subst c45; rw [if_pos rfl] at H
            obtain rfl := Option.some.inj H
            go_wp2
            go_ret
            exact ⟨by first | rfl | (simp [errW_none, errW_some] <;> rfl) | (simp [*, errW_none, errW_some] <;> rfl), Cmp.g HB.out⟩
           ·replace c45 := Bool.eq_false_iff.mpr c45
            subst c45
            have H1 : (if 0 ≤ x26_2 then (if x26_2 ≤ (l0_2.length : Int) then ((some (l0_2.take (x26_2 : Int).toNat : List (S83))).bind fun y234 => (impl_IsValidAccount.l1 kj15 l0_2 (l0_2.length : Int) x26_2 y234 (y234.length : Int) 0 a0_0 a0_1 l0_2 ((rd_T83 l0_2 x26_2).f0) ((rd_T83 l0_2 x26_2).f1) ((rd_T83 l0_2 x26_2).f2) ((rd_T83 l0_2 x26_2).f3))) else (none)) else (none)) = some r := by rw [if_neg (show ¬ (false = true) by decide)] at H; exact H
            clear H; have H := H1; clear H1
            by_cases c46 : 0 ≤ x26_2
            ·rw [if_pos c46] at H
             have c46b0 := eq_true c46
             have c46b1 : decide (0 ≤ x26_2) = true := decide_eq_true c46; clear c46
             by_cases c47 : x26_2 ≤ (l0_2.length : Int)
             ·rw [if_pos c47] at H
              have c47b0 := eq_true c47
              have c47b1 : decide (x26_2 ≤ (l0_2.length : Int)) = true := decide_eq_true c47
              clear c47
              obtain ⟨y234, hy234⟩ : ∃ y_ : List (S83), y_ = (l0_2.take (x26_2 : Int).toNat) := ⟨_, rfl⟩
              replace H : (impl_IsValidAccount.l1 kj15 l0_2 (l0_2.length : Int) x26_2 y234 (y234.length : Int) 0 a0_0 a0_1 l0_2 ((rd_T83 l0_2 x26_2).f0) ((rd_T83 l0_2 x26_2).f1) ((rd_T83 l0_2 x26_2).f2) ((rd_T83 l0_2 x26_2).f3)) = some r := by first | (rw [hy234]; with_reducible exact H) | (have H2_ := (Option.bind_some _ _).symm.trans H; rw [hy234]; with_reducible exact H2_) | (have H2_ := (Option.bind_some _ _).symm.trans H; with_reducible exact H2_) | with_reducible exact H | (rw [hy234]; exact H) | exact H
              have Ny234 := Aside0.mk hy234; clear hy234
              have H' := Aside0.mk H
              clear H; have hnb48 := NB223_227.out; have hnc48 := NB227_223.out
              have hcz49_0 : wc.cell? ⟨gb223, 0, none⟩ = some (.int .i64 a0_0) := (blk_cell BK223.out 0).trans rfl
              have hcz49_1 : wc.cell? ⟨gb223, 1, none⟩ = some (.int .i64 a0_1) := (blk_cell BK223.out 1).trans rfl
              have hcz49_2 : wc.cell? ⟨gb223, 2, none⟩ = some (.slice (some ad226) l0_2.length c0_2) := (blk_cell BK223.out 2).trans rfl
              have hfz49_0 := blk_frozen BK223.out 0; have hfz49_1 := blk_frozen BK223.out 1; have hfz49_2 := blk_frozen BK223.out 2
              have q50 : (x26_2 : Int) ≤ ((l0_2.length : Int) : Int) := of_decide_eq_true Cmp.d
              obtain ⟨i050, hi050, _, hsz50, _⟩ := info_parts info83
              have hroom50 : l0_2.length ≤ c0_2 := HC0_2.out
              have hC50 : Kd.C k83 _ (some ad226) l0_2.length l0_2 := HR0_2.out
              have hcut50 := cut_to (P := Try.prog) 26 83 .i64 Try.underlying26 hi050 (some ad226) l0_2.length c0_2 x26_2 (of_decide_eq_true Cmp.d) q50 hroom50
              have hr50 := Kd.C_take (m := (x26_2 : Int).toNat) hC50 (by omega)
              have hy50 : y234.length = (x26_2 : Int).toNat := (by rw [Ny234.out, List.length_take]; omega)
              rw [← Ny234.out] at hr50
              rw [← hy50] at hcut50
              have HR237 := Aside0.mk hr50
              have HC237 := Aside0.mk (show y234.length ≤ c0_2 from by omega)
              clear hr50 hC50 hroom50 hi050 hsz50; have KY50 := Aside0.mk hy50; clear hy50; replace q50 := eq_true q50
              go_wp2
              go_loopg [68] kj15 (fun kq v68 w' => ∃ (x68_4 : Int), v68 = .int .i64 x68_4 ∧ Aside0 (impl_IsValidAccount.l1 kq l0_2 (l0_2.length : Int) x26_2 y234 (y234.length : Int) x68_4 a0_0 a0_1 l0_2 ((rd_T83 l0_2 x26_2).f0) ((rd_T83 l0_2 x26_2).f1) ((rd_T83 l0_2 x26_2).f2) ((rd_T83 l0_2 x26_2).f3) = some r) ∧ Aside0 (kq ≤ kj15) ∧ Aside0 (w'.heap[gb223]? = some (.cells #[.int .i64 a0_0, .int .i64 a0_1, (.slice (some ad226) l0_2.length c0_2)] 28 (0, 0))) ∧ Aside0 (w'.heap[gb227]? = some (.cells #[.int .i64 ((rd_T83 l0_2 x26_2).f0), .int .i64 ((rd_T83 l0_2 x26_2).f1), .int .i64 ((rd_T83 l0_2 x26_2).f2), .bool ((rd_T83 l0_2 x26_2).f3)] 83 (0, 0))) ∧ Aside0 (Below w.heap.size w w'))
              case atStart => exact ⟨(0), (by first | rfl | simp | simp [*]), H', ⟨Nat.le_refl _⟩, ⟨by refine Cmp.b ?_; exact BK223.out⟩, ⟨by refine Cmp.b ?_; exact BK227.out⟩, ⟨Cmp.g HB.out⟩⟩
              case round =>
               clear H'
               (try clear c2); (try clear p2); (try clear c3); (try clear c4); (try clear c5); (try clear q5); (try clear c8); (try clear c21); (try clear c37); (try clear c37b0); (try clear c37b1); (try clear c45); (try clear c46); (try clear c46b0); (try clear c46b1); (try clear c47); (try clear c47b0); (try clear c47b1); (try clear c48); (try clear c50); (try clear q50); (try clear hcz49_0); (try clear hcz49_1); (try clear hcz49_2); (try clear hfz49_0); (try clear hfz49_1); (try clear hfz49_2); (try clear p2); (try clear q50)
               obtain ⟨x68_4, rfl, HA, HK4, BK223, BK227, HB⟩ := hrel
               cases gk with
               | zero => exact absurd HA.out (by simp [impl_IsValidAccount.l1])
               | succ k4 =>
                have H := HA.out; clear HA
                simp only [impl_IsValidAccount.l1] at H
                by_cases c51 : x68_4 < (y234.length : Int)
                ·rw [if_pos c51] at H
                 have c51b0 : decide (x68_4 < (y234.length : Int)) = true := decide_eq_true c51
                 clear c51
                 by_cases c52 : 0 ≤ x68_4
                 ·rw [if_pos c52] at H; have c52b0 : decide (0 ≤ x68_4) = true := decide_eq_true c52; clear c52
                  by_cases c53 : x68_4 < (y234.length : Int)
                  ·rw [if_pos c53] at H
                   have c53b0 : decide (x68_4 < (y234.length : Int)) = true := decide_eq_true c53
                   clear c53
                   by_cases c54 : ((rd_T83 y234 x68_4).f1) = ((rd_T83 l0_2 x26_2).f1)
                   ·rw [if_pos c54] at H; have c54b0 : (((rd_T83 y234 x68_4).f1) == ((rd_T83 l0_2 x26_2).f1)) = true := beq_iff_eq.mpr c54; have c54b1 : (((rd_T83 y234 x68_4).f1) != ((rd_T83 l0_2 x26_2).f1)) = false := bne_eq_false_iff_eq.mpr c54; clear c54
                    obtain rfl := Option.some.inj H
                    have p238 : 0 ≤ (x68_4 : Int) := of_decide_eq_true Cmp.d
                    have q238 : x68_4 < (y234.length : Int) := of_decide_eq_true Cmp.d
                    obtain ⟨ad238, e238, hx238_0, hx238_1, hx238_2, hx238_3⟩ := at_T83 HR237.out x68_4 p238 q238
                    obtain rfl : ad226 = ad238 := (by injection e238)
                    replace hx238_0 := (HB.out.cell (World.block_lt_of_cell? w _ hx238_0)).trans hx238_0
                    replace hx238_1 := (HB.out.cell (World.block_lt_of_cell? w _ hx238_1)).trans hx238_1
                    replace hx238_2 := (HB.out.cell (World.block_lt_of_cell? w _ hx238_2)).trans hx238_2
                    replace hx238_3 := (HB.out.cell (World.block_lt_of_cell? w _ hx238_3)).trans hx238_3
                    replace p238 := eq_true p238; replace q238 := eq_true q238
                    go_wp2_with (first | ((with_reducible refine gate_dst (N := 6) rfl ?_); (try (refine gate_guard (by rfl) ?_; dsimp only)); refine box_event (by rfl) (N := 6) (by rfl) (cs := #[.int .i64 0, .int .i64 0, .int .i64 0, .bool false]) (t := 83) (by first | (go_simp; done) | (go_simp; rfl)) ?_; intro gb239 hg w55 hbox hb; have n0_ := Aside0.mk (blk_below (Cmp.b BK223.out) hb); have n1_ := Aside0.mk (blk_below (Cmp.b BK227.out) hb); have n2_ := Aside0.mk (below_step (Cmp.g HB.out) hb); have n3_ := Aside0.mk (hbox); have n4_ := Aside0.mk ((by rw [hg]; exact (below_size (Cmp.g HB.out)) : w.heap.size ≤ gb239)); have n5_ := Aside0.mk ((by rw [hg]; exact (below_size (Cmp.g HB.out)) : w.heap.size ≤ gb239)); have n6_ := Aside0.mk ((by rw [hg]; exact Nat.ne_of_lt (blk_lt (Cmp.b BK223.out)) : gb223 ≠ gb239)); have n7_ := Aside0.mk ((by rw [hg]; exact Nat.ne_of_gt (blk_lt (Cmp.b BK223.out)) : gb239 ≠ gb223)); have n8_ := Aside0.mk ((by rw [hg]; exact Nat.ne_of_lt (blk_lt (Cmp.b BK227.out)) : gb227 ≠ gb239)); have n9_ := Aside0.mk ((by rw [hg]; exact Nat.ne_of_gt (blk_lt (Cmp.b BK227.out)) : gb239 ≠ gb227)); clear BK223; clear BK227; clear HB; have BK223 := n0_; have BK227 := n1_; have HB := n2_; have BK239 := n3_; have GW239 := n4_; have GE239 := n5_; have NB223_239 := n6_; have NB239_223 := n7_; have NB227_239 := n8_; have NB239_227 := n9_; clear n0_ n1_ n2_ n3_ n4_ n5_ n6_ n7_ n8_ n9_; clear hb hbox hg; have hnb56 := NB239_223.out; have hnc56 := NB223_239.out; have hnb57 := NB239_227.out; have hnc57 := NB227_239.out; have hcz58_0 : w55.cell? ⟨gb239, 0, none⟩ = some (.int .i64 0) := (blk_cell BK239.out 0).trans rfl; have hcz58_1 : w55.cell? ⟨gb239, 1, none⟩ = some (.int .i64 0) := (blk_cell BK239.out 1).trans rfl; have hcz58_2 : w55.cell? ⟨gb239, 2, none⟩ = some (.int .i64 0) := (blk_cell BK239.out 2).trans rfl; have hcz58_3 : w55.cell? ⟨gb239, 3, none⟩ = some (.bool false) := (blk_cell BK239.out 3).trans rfl; have hfz58_0 := blk_frozen BK239.out 0; have hfz58_1 := blk_frozen BK239.out 1; have hfz58_2 := blk_frozen BK239.out 2; have hfz58_3 := blk_frozen BK239.out 3; have hnb59 := NB227_223.out; have hnc59 := NB223_227.out; have hcz60_0 : w55.cell? ⟨gb227, 0, none⟩ = some (.int .i64 ((rd_T83 l0_2 x26_2).f0)) := (blk_cell BK227.out 0).trans rfl; have hcz60_1 : w55.cell? ⟨gb227, 1, none⟩ = some (.int .i64 ((rd_T83 l0_2 x26_2).f1)) := (blk_cell BK227.out 1).trans rfl; have hcz60_2 : w55.cell? ⟨gb227, 2, none⟩ = some (.int .i64 ((rd_T83 l0_2 x26_2).f2)) := (blk_cell BK227.out 2).trans rfl; have hcz60_3 : w55.cell? ⟨gb227, 3, none⟩ = some (.bool ((rd_T83 l0_2 x26_2).f3)) := (blk_cell BK227.out 3).trans rfl; have hfz60_0 := blk_frozen BK227.out 0; have hfz60_1 := blk_frozen BK227.out 1; have hfz60_2 := blk_frozen BK227.out 2; have hfz60_3 := blk_frozen BK227.out 3))
                    go_ret
                    exact ⟨by first | rfl | (simp [errW_none, errW_some] <;> rfl) | (simp [*, errW_none, errW_some] <;> rfl), Cmp.g HB.out⟩
                   ·rw [if_neg c54] at H; have c54b0 : (((rd_T83 y234 x68_4).f1) == ((rd_T83 l0_2 x26_2).f1)) = false := beq_eq_false_iff_ne.mpr c54; have c54b1 : (((rd_T83 y234 x68_4).f1) != ((rd_T83 l0_2 x26_2).f1)) = true := bne_iff_ne.mpr c54
                    have H' := Aside0.mk H
                    clear H
                    have p238 : 0 ≤ (x68_4 : Int) := of_decide_eq_true Cmp.d
                    have q238 : x68_4 < (y234.length : Int) := of_decide_eq_true Cmp.d
                    obtain ⟨ad238, e238, hx238_0, hx238_1, hx238_2, hx238_3⟩ := at_T83 HR237.out x68_4 p238 q238
                    obtain rfl : ad226 = ad238 := (by injection e238)
                    replace hx238_0 := (HB.out.cell (World.block_lt_of_cell? w _ hx238_0)).trans hx238_0
                    replace hx238_1 := (HB.out.cell (World.block_lt_of_cell? w _ hx238_1)).trans hx238_1
                    replace hx238_2 := (HB.out.cell (World.block_lt_of_cell? w _ hx238_2)).trans hx238_2
                    replace hx238_3 := (HB.out.cell (World.block_lt_of_cell? w _ hx238_3)).trans hx238_3
                    replace p238 := eq_true p238; replace q238 := eq_true q238
                    go_wp2_with (first | ((with_reducible refine gate_dst (N := 6) rfl ?_); (try (refine gate_guard (by rfl) ?_; dsimp only)); refine box_event (by rfl) (N := 6) (by rfl) (cs := #[.int .i64 0, .int .i64 0, .int .i64 0, .bool false]) (t := 83) (by first | (go_simp; done) | (go_simp; rfl)) ?_; intro gb239 hg w61 hbox hb; have n0_ := Aside0.mk (blk_below (Cmp.b BK223.out) hb); have n1_ := Aside0.mk (blk_below (Cmp.b BK227.out) hb); have n2_ := Aside0.mk (below_step (Cmp.g HB.out) hb); have n3_ := Aside0.mk (hbox); have n4_ := Aside0.mk ((by rw [hg]; exact (below_size (Cmp.g HB.out)) : w.heap.size ≤ gb239)); have n5_ := Aside0.mk ((by rw [hg]; exact (below_size (Cmp.g HB.out)) : w.heap.size ≤ gb239)); have n6_ := Aside0.mk ((by rw [hg]; exact Nat.ne_of_lt (blk_lt (Cmp.b BK223.out)) : gb223 ≠ gb239)); have n7_ := Aside0.mk ((by rw [hg]; exact Nat.ne_of_gt (blk_lt (Cmp.b BK223.out)) : gb239 ≠ gb223)); have n8_ := Aside0.mk ((by rw [hg]; exact Nat.ne_of_lt (blk_lt (Cmp.b BK227.out)) : gb227 ≠ gb239)); have n9_ := Aside0.mk ((by rw [hg]; exact Nat.ne_of_gt (blk_lt (Cmp.b BK227.out)) : gb239 ≠ gb227)); clear BK223; clear BK227; clear HB; have BK223 := n0_; have BK227 := n1_; have HB := n2_; have BK239 := n3_; have GW239 := n4_; have GE239 := n5_; have NB223_239 := n6_; have NB239_223 := n7_; have NB227_239 := n8_; have NB239_227 := n9_; clear n0_ n1_ n2_ n3_ n4_ n5_ n6_ n7_ n8_ n9_; clear hb hbox hg; have hnb62 := NB239_223.out; have hnc62 := NB223_239.out; have hnb63 := NB239_227.out; have hnc63 := NB227_239.out; have hcz64_0 : w61.cell? ⟨gb239, 0, none⟩ = some (.int .i64 0) := (blk_cell BK239.out 0).trans rfl; have hcz64_1 : w61.cell? ⟨gb239, 1, none⟩ = some (.int .i64 0) := (blk_cell BK239.out 1).trans rfl; have hcz64_2 : w61.cell? ⟨gb239, 2, none⟩ = some (.int .i64 0) := (blk_cell BK239.out 2).trans rfl; have hcz64_3 : w61.cell? ⟨gb239, 3, none⟩ = some (.bool false) := (blk_cell BK239.out 3).trans rfl; have hfz64_0 := blk_frozen BK239.out 0; have hfz64_1 := blk_frozen BK239.out 1; have hfz64_2 := blk_frozen BK239.out 2; have hfz64_3 := blk_frozen BK239.out 3; have hnb65 := NB227_223.out; have hnc65 := NB223_227.out; have hcz66_0 : w61.cell? ⟨gb227, 0, none⟩ = some (.int .i64 ((rd_T83 l0_2 x26_2).f0)) := (blk_cell BK227.out 0).trans rfl; have hcz66_1 : w61.cell? ⟨gb227, 1, none⟩ = some (.int .i64 ((rd_T83 l0_2 x26_2).f1)) := (blk_cell BK227.out 1).trans rfl; have hcz66_2 : w61.cell? ⟨gb227, 2, none⟩ = some (.int .i64 ((rd_T83 l0_2 x26_2).f2)) := (blk_cell BK227.out 2).trans rfl; have hcz66_3 : w61.cell? ⟨gb227, 3, none⟩ = some (.bool ((rd_T83 l0_2 x26_2).f3)) := (blk_cell BK227.out 3).trans rfl; have hfz66_0 := blk_frozen BK227.out 0; have hfz66_1 := blk_frozen BK227.out 1; have hfz66_2 := blk_frozen BK227.out 2; have hfz66_3 := blk_frozen BK227.out 3))
                    go_roundg k4
                    case measure => have := HJ1.out; have := HK2.out; have := HJ15.out; have := HK4.out; omega
                    case rel => exact ⟨(wrap64 (x68_4 + 1)), (by first | rfl | simp | simp [*]), H', ⟨by have := HJ1.out; have := HK2.out; have := HJ15.out; have := HK4.out; omega⟩, ⟨by refine Cmp.b ?_; refine blk_far ?_ NB223_239.out _; refine Cmp.b ?_; refine blk_far ?_ NB223_239.out _; refine Cmp.b ?_; refine blk_far ?_ NB223_239.out _; refine Cmp.b ?_; refine blk_far ?_ NB223_239.out _; refine Cmp.b ?_; exact BK223.out⟩, ⟨by refine Cmp.b ?_; refine blk_far ?_ NB227_239.out _; refine Cmp.b ?_; refine blk_far ?_ NB227_239.out _; refine Cmp.b ?_; refine blk_far ?_ NB227_239.out _; refine Cmp.b ?_; refine blk_far ?_ NB227_239.out _; refine Cmp.b ?_; exact BK227.out⟩, ⟨Cmp.g HB.out⟩⟩
                  ·rw [if_neg c53] at H; exact absurd H (by simp)
                 ·rw [if_neg c52] at H; exact absurd H (by simp)
                ·rw [if_neg c51] at H
                 have c51b0 : decide (x68_4 < (y234.length : Int)) = false := decide_eq_false c51
                 clear c51
                 have H' := Aside0.mk H
                 clear H
                 go_wp2
                 go_roundg k4
                 case measure => have := HJ1.out; have := HK2.out; have := HJ15.out; have := HK4.out; omega
                 case rel => exact ⟨(wrap64 (x26_2 + 1)), (by first | rfl | simp | simp [*]), H', ⟨by have := HJ1.out; have := HK2.out; have := HJ15.out; have := HK4.out; omega⟩, ⟨by refine Cmp.b ?_; exact BK223.out⟩, ⟨Cmp.g HB.out⟩⟩
             ·rw [if_neg c47] at H; exact absurd H (by simp)
            ·rw [if_neg c46] at H; exact absurd H (by simp)
        ·rw [if_neg c15] at H; exact absurd H (by simp)
       ·rw [if_neg c14] at H; exact absurd H (by simp)
      ·rw [if_neg c13] at H
       have c13b0 : decide (x26_2 < (l0_2.length : Int)) = false := decide_eq_false c13
       clear c13
       obtain rfl := Option.some.inj H
       go_wp2
       go_ret
       exact ⟨by first | rfl | (simp [errW_none, errW_some] <;> rfl) | (simp [*, errW_none, errW_some] <;> rfl), Cmp.g HB.out⟩

end Go.Proofs.Ytoffbjjkegeccaa.PFnExactAddCredential

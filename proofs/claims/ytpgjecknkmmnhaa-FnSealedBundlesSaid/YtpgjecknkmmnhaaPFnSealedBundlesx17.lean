/- Printed functions of the program, out of print.sh, told more shortly. No condition. -/
import Derived.Test.YtpgjecknkmmnhaaCmp
import Derived.Test.YtpgjecknkmmnhaaPFnSealedBundlesx0
import Derived.Test.YtpgjecknkmmnhaaPFnSealedBundlesx15
namespace Go.Proofs.Ytpgjecknkmmnhaa.PFnSealedBundles
open Go.Proofs.Ytpgjecknkmmnhaa
open Go.RowKit Go.Proofs.YtpgjecknkmmnhaaW.PrintWords Go.Proofs.YtpgjecknkmmnhaaW.PrintLast Go.Proofs.YtpgjecknkmmnhaaW.PrintMore
attribute [local go_sem] max2_int min2_int max_two min_two max_three min_three max_four min_four   -- for this text's walks alone
set_option linter.unusedVariables false
set_option linter.unusedSimpArgs false
/-! ### spec_BytesToInts: function 111 -/
def spec_BytesToInts.l0 : Nat → List Int → List Int → Int → Option (List Int)
  | 0, _, _, _ => none
  | k + 1, x0, x3, x4 => if x4 < (x0.length : Int) then (if 0 ≤ x4 then (if x3.length < 17592186044416 then (spec_BytesToInts.l0 k x0 (x3 ++ [wrap64 (rd x0 x4)]) (wrap64 (x4 + 1))) else (none)) else (none)) else (some x3)
def spec_BytesToInts.f (k : Nat) (l0 : List Int) : Option (List Int) := spec_BytesToInts.l0 k l0 (([(l0.length : Int)] : List Int)) 0
theorem spec_BytesToInts.mono_l : ∀ k, (∀ y0 y1 y2, LeO (spec_BytesToInts.l0 k y0 y1 y2) (spec_BytesToInts.l0 (k + 1) y0 y1 y2))
 | 0 => fun _ _ _ r h => by simp [spec_BytesToInts.l0] at h
 | k + 1 => by
    have ih0 := spec_BytesToInts.mono_l k
    · intro y0 y1 y2
      unfold spec_BytesToInts.l0
      repeat' first
 | (with_reducible exact ih0 _ _ _)
 | (with_reducible exact LeO.refl _)
 | (with_reducible exact LeO.none _)
 | (with_reducible refine LeO.ite ?_ ?_)
 | (with_reducible refine LeO.bind ?_ (fun _ => ?_))
theorem spec_BytesToInts.mono : ∀ a0 k, LeO (spec_BytesToInts.f k a0) (spec_BytesToInts.f (k + 1) a0) := by
  intro a0 k
  have ih0 := spec_BytesToInts.mono_l k
  unfold spec_BytesToInts.f
  repeat' first
 | (with_reducible exact ih0 _ _ _)
 | (with_reducible exact LeO.refl _)
 | (with_reducible exact LeO.none _)
 | (with_reducible refine LeO.ite ?_ ?_)
 | (with_reducible refine LeO.bind ?_ (fun _ => ?_))
set_option maxHeartbeats 8000000 in
set_option maxRecDepth 100000 in
theorem spec_BytesToInts.calls (k : Nat) (A0 : Option Addr) (c0 : Nat) (l0 : List Int) (r : List Int) (w : World) (hr0 : Kd.C (Kd.int .u8) w A0 l0.length l0) (hc0 : l0.length ≤ c0) (h : spec_BytesToInts.f k l0 = some r) :
    Calls Try.prog 111 #[.slice A0 l0.length c0] w fun e w' => ∃ v0_ : Value, e = .returned (v0_) ∧ Kd.R (Kd.int .i64) 3 w' w.heap.size (fun _ => True) v0_ r ∧ Below w.heap.size w w' := by
 have HR0 := Cmp.A hr0; have HC0 := Cmp.A hc0; clear hr0 hc0
 have HB := Cmp.A (Below.refl w.heap.size w)
 have H : (spec_BytesToInts.l0 k l0 (([(l0.length : Int)] : List Int)) 0) = some r := h
 clear h
 obtain ⟨D9, hy569⟩ : ∃ y_ : List Int, y_ = (([(l0.length : Int)] : List Int)) := ⟨_, rfl⟩
 replace H : (spec_BytesToInts.l0 k l0 D9 0) = some r := Cmp.hy hy569 H
 have D3 := Cmp.A hy569; clear hy569
 have H' := Cmp.A H
 clear H
 go_enter Try.func111, Try.ntmps111
 go_wp2_with (first | ((with_reducible refine gate_dst (N := 7) rfl ?_); refine Kd.R_lit (Kd.int .i64) _ 3 ?hg (N := 7) ?hd (xs := ([(l0.length : Int)] : List Int)) (inner := [.int .i64 (l0.length : Int)]) (ok := fun _ => True) (okp := fun _ => True) ?hr ?hp (fun _ hk => hk) trivial (Below.refl _ _) (Nat.le_refl _) (by simp) ?_; (case hd => rfl); (case hg => rfl); (case hr => first | (go_simp; done) | (go_simp; rfl)); (case hp => exact (Reps.one (Cmp.mi (l0.length : Int)) (Reps.none _ _))); intro v570 w2 D8 hb hg_ hnew_; clear hg_ hnew_; (first | rw [← D3.out] at D8 | (simp only [Int.reduceToNat] at D8; rw [← D3.out] at D8)); have D5 := Cmp.A (Kd.R_lower D8 (below_size (Cmp.g HB.out))); replace HB := Cmp.bs HB hb; clear hb D8))
 go_loopg [3, 4] k (fun kq v3 v4 w' => ∃ (D2 : List Int) (D0 : Int), v4 = .int .i64 D0 ∧ Aside0 (spec_BytesToInts.l0 kq l0 D2 D0 = some r) ∧ Aside0 (kq ≤ k) ∧ Aside0 (Kd.R (Kd.int .i64) 3 w' w.heap.size (fun _ => True) v3 D2) ∧ Aside0 (Below w.heap.size w w'))
 case atStart => exact ⟨(D9), (0), (by first | rfl | simp | simp [*]), H', ⟨Nat.le_refl _⟩, ⟨Cmp.rr D5.out⟩, ⟨Cmp.g HB.out⟩⟩
 case round =>
  clear H'
  (try clear c1); (try clear p2)
  obtain ⟨D2, D0, rfl, HA, HK1, D4, HB⟩ := hrel
  cases gk with
  | zero => exact absurd HA.out (by simp [spec_BytesToInts.l0])
  | succ k1 =>
   have H := HA.out; clear HA
   simp only [spec_BytesToInts.l0] at H
   by_cases c4 : D0 < (l0.length : Int)
   ·rw [if_pos c4] at H
    have c4b0 : decide (D0 < (l0.length : Int)) = true := decide_eq_true c4
    clear c4
    by_cases c5 : 0 ≤ D0
    ·rw [if_pos c5] at H; have c5b0 : decide (0 ≤ D0) = true := decide_eq_true c5; clear c5
     by_cases c6 : D2.length < 17592186044416
     ·rw [if_pos c6] at H; have LMc6 := Cmp.A c6; clear c6
      obtain ⟨Da, hy573⟩ : ∃ y_ : List Int, y_ = (D2 ++ [wrap64 (rd l0 D0)]) := ⟨_, rfl⟩
      replace H : (spec_BytesToInts.l0 k1 l0 Da (wrap64 (D0 + 1))) = some r := Cmp.hy hy573 H
      have D7 := Cmp.A hy573; clear hy573
      have H' := Cmp.A H
      clear H
      have p572 : 0 ≤ (D0 : Int) := of_decide_eq_true Cmp.d
      have q572 : D0 < (l0.length : Int) := of_decide_eq_true Cmp.d
      obtain ⟨Db, e572, D1⟩ := Kd.at_int HR0.out D0 p572 q572
      cases e572
      replace D1 := Cmp.hc HB D1
      replace p572 := eq_true p572; replace q572 := eq_true q572
      go_wp2_with (first | ((with_reducible refine gate_builtin (b := .append) (xs := #[.tmp 14, .tmp 20]) rfl ?_); at_builtin; refine Kd.R_append (Kd.int .i64) (w0 := w) w.heap.size rfl (.tmp 14) (.tmp 20) 32 3 (.int .i64 0) 8 rfl Try.underlying32 info3 rfl (by decide) (by omega) u3 D2 (wrap64 (rd l0 D0)) [.int .i64 (wrap64 (rd l0 D0))] (fun _ => True) (fun _ => False) rfl rfl ?aP (fun _ hk => hk.elim) ?aF ?aO ?aB ?aS ?aL ?_; (case aP => exact rfl); (case aB => exact (Cmp.g HB.out)); (case aF => exact (fun _ _ => trivial)); (case aO => exact (Cmp.rr D4.out)); (case aS => exact (below_size (Cmp.g HB.out))); (case aL => have := LMc6.out; omega); intro v574 w7 ho hb hg hat; rw [← D7.out] at ho; have D6 := Cmp.A (ho); replace HB := Cmp.A (hb); clear D4; clear ho hb hg hat))
      go_roundg k1
      case measure => have := HK1.out; omega
      case rel => exact ⟨(Da), (wrap64 (D0 + 1)), (by first | rfl | simp | simp [*]), H', ⟨by have := HK1.out; omega⟩, ⟨Cmp.rr D6.out⟩, ⟨Cmp.g HB.out⟩⟩
     ·rw [if_neg c6] at H; exact absurd H (by simp)
    ·rw [if_neg c5] at H; exact absurd H (by simp)
   ·rw [if_neg c4] at H
    have c4b0 : decide (D0 < (l0.length : Int)) = false := decide_eq_false c4
    clear c4
    obtain rfl := Option.some.inj H
    go_wp2
    go_ret
    exact ⟨_, by first | rfl | (simp [errW_none, errW_some] <;> rfl) | (simp [*, errW_none, errW_some] <;> rfl), by (with_reducible repeat (first | apply Kd.R_alloc | apply Kd.R_drewN | apply Kd.R_drew)); exact D4.out, Cmp.g HB.out⟩
/-! ### spec_BundleMAC: function 70 -/
def spec_BundleMAC.f (k : Nat) (a0 : Int) (a1_0 : Int) (a1_1 : Int) (l1_2 : List Int) (a1_3 : Int) : Option (Int) := (some (([227, a1_0, a1_1] : List Int) : List Int)).bind fun y577 => ((spec_BytesToInts.f k l1_2).bind fun t580 => (if y577.length + t580.length < 17592186044416 then ((spec_KeyedHash.f k a0 (y577 ++ t580)).bind fun t586 => (some t586)) else (none)))
theorem spec_BundleMAC.mono : ∀ a0 a1 a2 a3 a4 k, LeO (spec_BundleMAC.f k a0 a1 a2 a3 a4) (spec_BundleMAC.f (k + 1) a0 a1 a2 a3 a4) := by
  intro a0 a1 a2 a3 a4 k
  unfold spec_BundleMAC.f
  repeat' first
 | (with_reducible exact spec_BytesToInts.mono _ _)
 | (with_reducible exact spec_KeyedHash.mono _ _ _)
 | (with_reducible exact LeO.refl _)
 | (with_reducible exact LeO.none _)
 | (with_reducible refine LeO.ite ?_ ?_)
 | (with_reducible refine LeO.bind ?_ (fun _ => ?_))
def spec_BundleMAC.T1 : Bool × List (List Nat × List Nat) := (true, [([], []), ([], []), ([1], [1]), ([], []), ([3], [3]), ([2, 4], [2, 4]), ([], []), ([6], [6]), ([7], [7]), ([5, 8, 8], [5, 8]), ([0, 9, 9], [0, 9]), ([10, 10, 0, 1, 2, 3, 4, 5, 6, 7, 8, 9, 10], [10])])
def spec_BundleMAC.B1 : List Nat := [0, 0, 2, 0, 8, 30, 0, 64, 192, 510, 1023, 2047]
theorem spec_BundleMAC.tab1 : rtab .any (opsOf Try.f70 1) = spec_BundleMAC.T1 := by kernel_rfl
theorem spec_BundleMAC.bits1 : waitsOk spec_BundleMAC.T1.2 spec_BundleMAC.B1 = true := by kernel_rfl
set_option maxHeartbeats 8000000 in
set_option maxRecDepth 100000 in
theorem spec_BundleMAC.calls (k : Nat) (a0 : Int) (a1_0 : Int) (a1_1 : Int) (A1_2 : Option Addr) (c1_2 : Nat) (l1_2 : List Int) (a1_3 : Int) (r : Int) (w : World) (hr1_2 : Kd.C (Kd.int .u8) w A1_2 l1_2.length l1_2) (hc1_2 : l1_2.length ≤ c1_2) (h : spec_BundleMAC.f k a0 a1_0 a1_1 l1_2 a1_3 = some r) :
    Calls Try.prog 70 #[.int .i64 a0, .agg #[.int .i64 a1_0, .int .i64 a1_1, .slice A1_2 l1_2.length c1_2, .int .i64 a1_3]] w fun e w' => e = .returned (.int .i64 r) ∧ Below w.heap.size w w' := by
 have hu49 := Try.underlying49; have Da := Cmp.A hr1_2; have HC1_2 := Cmp.A hc1_2; clear hr1_2 hc1_2
 have HB := Cmp.A (Below.refl w.heap.size w)
 have H : ((some (([227, a1_0, a1_1] : List Int) : List Int)).bind fun D5 => ((spec_BytesToInts.f k l1_2).bind fun D4 => (if D5.length + D4.length < 17592186044416 then ((spec_KeyedHash.f k a0 (D5 ++ D4)).bind fun D7 => (some D7)) else (none)))) = some r := h
 clear h
 obtain ⟨D5, hy577⟩ : ∃ y_ : List Int, y_ = (([227, a1_0, a1_1] : List Int)) := ⟨_, rfl⟩
 replace H : ((spec_BytesToInts.f k l1_2).bind fun D4 => (if D5.length + D4.length < 17592186044416 then ((spec_KeyedHash.f k a0 (D5 ++ D4)).bind fun D7 => (some D7)) else (none))) = some r := Cmp.hy hy577 H
 have D8 := Cmp.A hy577; clear hy577; replace H := Option.bind_eq_some_iff.mp H; obtain ⟨D4, Dl, H⟩ := H; (try dsimp only at H); have A3 := Cmp.A Dl; clear Dl
 by_cases c4 : D5.length + D4.length < 17592186044416
 ·rw [if_pos c4] at H; have LMc4 := Cmp.A c4; clear c4
  obtain ⟨Db, hy583⟩ : ∃ y_ : List Int, y_ = (D5 ++ D4) := ⟨_, rfl⟩
  replace H : ((spec_KeyedHash.f k a0 Db).bind fun D7 => (some D7)) = some r := Cmp.hy hy583 H
  have Dd := Cmp.A hy583; clear hy583; replace H := Option.bind_eq_some_iff.mp H; obtain ⟨D7, Dm, H⟩ := H; (try dsimp only at H); have A5 := Cmp.A Dm; clear Dm
  obtain rfl := Option.some.inj H
  go_enter Try.func70, Try.ntmps70
  try go_wp2_with (first | ((with_reducible refine gate_dst (N := 3) rfl ?_); refine box_event ?hg (N := 3) ?hd (cs := #[.int .i64 a1_0, .int .i64 a1_1, .slice A1_2 l1_2.length c1_2, .int .i64 a1_3]) (t := 49) ?hr ?_; (case hd => rfl); (case hg => rfl); (case hr => first | (go_simp; done) | (go_simp; rfl)); intro D2 hg w6 hbox hb; have D0 := Cmp.A (hbox); have Do := Cmp.gw hg HB; have Dn := Cmp.gw hg HB; replace HB := Cmp.bs HB hb; clear hb hbox hg))
  replace D0 := Cmp.A (blk_drew D0.out); replace HB := Cmp.A (below_drew1 HB.out)
  refine start_ (n := 12) (S := fun w' => w'.cell? ⟨D2, 0, none⟩ = some (.int .i64 a1_0) ∧ w'.cell? ⟨D2, 1, none⟩ = some (.int .i64 a1_1) ∧ w'.cell? ⟨D2, 2, none⟩ = some (.slice A1_2 l1_2.length c1_2) ∧ w'.cell? ⟨D2, 3, none⟩ = some (.int .i64 a1_3)) (ds := []) (Cmp.bm 0 12) (by kernel_rfl) rfl rfl ⟨(Cmp.c0 D0 :), (Cmp.c1 D0 :), (Cmp.c2 D0 :), (Cmp.c3 D0 :)⟩ (fun hHeld => ?_); refine with_tabW spec_BundleMAC.tab1 spec_BundleMAC.bits1 (fun HT_ HW_ => ?_)
  generalize w6.drew = w7 at D0 HB hHeld ⊢
  refine Cmp.pu HT_ 0 5 (Cmp.bm 1 11) ?_; refine Cmp.pu HT_ 1 6 (Cmp.bm 2 10) ?_; refine Cmp.pu HT_ 3 8 (Cmp.bb 12 11) ?_; refine Cmp.pu HT_ 6 11 (Cmp.bb 12 75) ?_; refine Cmp.tk HT_ HW_ hHeld 2 7 (Cmp.bb 12 79) ?_; refine Cmp.tk HT_ HW_ hHeld 4 9 (Cmp.bb 12 95) ?_; refine Cmp.tk HT_ HW_ hHeld 7 12 (Cmp.bb 12 223) ?_
  refine join_ (σ := Value × Value) 3 (Cmp.bm 9 3) (fun s_ => [(10, s_.1), (13, s_.2)]) (fun s_ w' => (w'.cell? ⟨D2, 0, none⟩ = some (.int .i64 a1_0) ∧ w'.cell? ⟨D2, 1, none⟩ = some (.int .i64 a1_1) ∧ w'.cell? ⟨D2, 2, none⟩ = some (.slice A1_2 l1_2.length c1_2) ∧ w'.cell? ⟨D2, 3, none⟩ = some (.int .i64 a1_3)) ∧ (Kd.R (Kd.int .i64) 3 w' w.heap.size (fun k_ => some k_ ≠ (s_.2 : Value).ownBlock) s_.1 D5) ∧ (Kd.R (Kd.int .i64) 3 w' w.heap.size (fun k_ => some k_ ≠ (s_.1 : Value).ownBlock) s_.2 D4) ∧ (w'.heap[D2]? = some (.cells #[.int .i64 a1_0, .int .i64 a1_1, .slice A1_2 l1_2.length c1_2, .int .i64 a1_3] 49 (0, 0))) ∧ (Below w.heap.size w w')) ?_ ?_
  rotate_left
  ·intro hCont
   refine two_ (i := 5) (j := 8) (Ni := some 10) (Nj := some 13) (Cmp.bm 8 4) (Cmp.bb 12 479) rfl rfl rfl rfl (two_of HT_.out (by kernel_rfl)) (by decide) (by decide) (fun K hK => ?_) (fun K hK => ?_)
   ·skip
    refine Kd.R_lit_step (Kd.int .i64) _ 3 ?hg (N := 10) ?hd (xs := ([227, a1_0, a1_1] : List Int)) (inner := [.int .i64 227, .int .i64 a1_0, .int .i64 a1_1]) (ok := fun _ => True) (okp := fun _ => True) ?hr ?hp (fun _ hk => hk) trivial (Below.refl _ _) (Nat.le_refl _) (by simp) ?_; (case hd => rfl); (case hg => rfl); (case hr => first | (go_simp; done) | (go_simp; rfl)); (case hp => exact (Reps.one (Cmp.mi 227) (Reps.one (Cmp.mi a1_0) (Reps.one (Cmp.mi a1_1) (Reps.none _ _)))))
    intro v578 w8 Dg hb hg_ hnew_
    clear hg_ hnew_
    (first | rw [← D8.out] at Dg | (simp only [Int.reduceToNat] at Dg; rw [← D8.out] at Dg))
    have D3 := Cmp.A (Kd.R_lower Dg (below_size (Cmp.g HB.out))); replace D0 := Cmp.be D0 hb; replace HB := Cmp.A (below_step (Cmp.g HB.out) hb); clear hb Dg
    refine hK.out _ _ ⟨(Cmp.c0 D0 :), (Cmp.c1 D0 :), (Cmp.c2 D0 :), (Cmp.c3 D0 :)⟩ (fun hHeld => ?_)
    clear hK K
    refine Cmp.no ?_
    refine one_ (i := 8) (N := some 13) (Cmp.bm 9 3) rfl rfl (one_of HT_.out (by kernel_rfl)) (by decide) (fun K hK => ?_)
    refine goes_ Try.func111 (by kernel_rfl) rfl #[.slice A1_2 l1_2.length c1_2] (by rfl) rfl rfl Cmp.q ?_
    with_reducible refine (spec_BytesToInts.calls k _ _ l1_2 D4 _ ?side1 ?side2 A3.out).mono ?_
    (case side1 => exact Cmp.rc (Kd.C_below Da.out HB.out))
    (case side2 => exact HC1_2.out)
    rintro e w10 ⟨v581, rfl, Dc, hb⟩; refine ⟨_, rfl, ?_⟩
    have D1 := Cmp.A (Kd.R_lower (Kd.R_new' Dc (Kd.R_lt (Cmp.rr D3.out))) (below_size (Cmp.g HB.out))); replace D3 := Cmp.A (Kd.R_elder' (Cmp.rr D3.out) (Kd.R_base Dc) hb); replace D0 := Cmp.be D0 hb; replace HB := Cmp.A (below_step (Cmp.g HB.out) hb); (try clear hb); (try clear hb2); (try clear hk); (try clear hi); (try clear Dc)
    refine hK.out _ _ ⟨(Cmp.c0 D0 :), (Cmp.c1 D0 :), (Cmp.c2 D0 :), (Cmp.c3 D0 :)⟩ (fun hHeld => ?_)
    clear hK K
    refine Cmp.no ?_
    exact norm_ (by simp only [putAll, Act.put, List.setIfInBounds_toArray, List.set_cons_zero, List.set_cons_succ]) (hCont (v578, v581) _ ⟨hHeld, (Cmp.rm D3.out (fun _ hk => hk.2)), (Cmp.rm D1.out (fun _ hk => hk.2)), (Cmp.b D0.out), (Cmp.g HB.out)⟩)
   ·skip
    refine goes_ Try.func111 (by kernel_rfl) rfl #[.slice A1_2 l1_2.length c1_2] (by rfl) rfl rfl Cmp.q ?_
    with_reducible refine (spec_BytesToInts.calls k _ _ l1_2 D4 _ ?side1 ?side2 A3.out).mono ?_
    (case side1 => exact Cmp.rc (Kd.C_below Da.out HB.out))
    (case side2 => exact HC1_2.out)
    rintro e w8 ⟨v581, rfl, Dc, hb⟩; refine ⟨_, rfl, ?_⟩
    have D1 := Cmp.A (Kd.R_lower Dc (below_size (Cmp.g HB.out))); replace D0 := Cmp.be D0 hb; replace HB := Cmp.A (below_step (Cmp.g HB.out) hb); (try clear hb); (try clear hb2); (try clear hk); (try clear hi); (try clear Dc)
    refine hK.out _ _ ⟨(Cmp.c0 D0 :), (Cmp.c1 D0 :), (Cmp.c2 D0 :), (Cmp.c3 D0 :)⟩ (fun hHeld => ?_)
    clear hK K
    refine Cmp.no ?_
    refine one_ (i := 5) (N := some 10) (Cmp.bm 9 3) rfl rfl (one_of HT_.out (by kernel_rfl)) (by decide) (fun K hK => ?_)
    refine Kd.R_lit_step (Kd.int .i64) _ 3 ?hg (N := 10) ?hd (xs := ([227, a1_0, a1_1] : List Int)) (inner := [.int .i64 227, .int .i64 a1_0, .int .i64 a1_1]) (ok := fun _ => True) (okp := fun _ => True) ?hr ?hp (fun _ hk => hk) trivial (Below.refl _ _) (Nat.le_refl _) (by simp) ?_; (case hd => rfl); (case hg => rfl); (case hr => first | (go_simp; done) | (go_simp; rfl)); (case hp => exact (Reps.one (Cmp.mi 227) (Reps.one (Cmp.mi a1_0) (Reps.one (Cmp.mi a1_1) (Reps.none _ _)))))
    intro v578 w9 D9 hb hg_ hnew_
    clear hg_ hnew_
    (first | rw [← D8.out] at D9 | (simp only [Int.reduceToNat] at D9; rw [← D8.out] at D9))
    have D3 := Cmp.A (Kd.R_lower (Kd.R_new' D9 (Kd.R_lt (Cmp.rr D1.out))) (below_size (Cmp.g HB.out))); replace D1 := Cmp.A (Kd.R_elder' (Cmp.rr D1.out) (Kd.R_base D9) hb); replace D0 := Cmp.be D0 hb; replace HB := Cmp.A (below_step (Cmp.g HB.out) hb); clear hb D9
    refine hK.out _ _ ⟨(Cmp.c0 D0 :), (Cmp.c1 D0 :), (Cmp.c2 D0 :), (Cmp.c3 D0 :)⟩ (fun hHeld => ?_)
    clear hK K
    refine Cmp.no ?_
    exact norm_ (by simp only [putAll, Act.put, List.setIfInBounds_toArray, List.set_cons_zero, List.set_cons_succ]) (hCont (v578, v581) _ ⟨hHeld, (Cmp.rm D3.out (fun _ hk => hk.2)), (Cmp.rm D1.out (fun _ hk => hk.2)), (Cmp.b D0.out), (Cmp.g HB.out)⟩)
  rintro ⟨v578, v581⟩ w11 ⟨hS_, h0_, h1_, h2_, h3_⟩
  have n0_ : Aside0 (Kd.R (Kd.int .i64) 3 w11 w.heap.size (fun k_ => some k_ ≠ (v581 : Value).ownBlock) v578 D5) := ⟨h0_⟩
  have n1_ : Aside0 (Kd.R (Kd.int .i64) 3 w11 w.heap.size (fun k_ => some k_ ≠ (v578 : Value).ownBlock) v581 D4) := ⟨h1_⟩
  have n2_ : Aside0 (w11.heap[D2]? = some (.cells #[.int .i64 a1_0, .int .i64 a1_1, .slice A1_2 l1_2.length c1_2, .int .i64 a1_3] 49 (0, 0))) := ⟨h2_⟩
  have n3_ : Aside0 (Below w.heap.size w w11) := ⟨h3_⟩
  clear D0; clear HB; clear h0_ h1_ h2_ h3_; have D3 := n0_; have D1 := n1_; have D0 := n2_; have HB := n3_; clear n0_ n1_ n2_ n3_
  have hHeld : w11.cell? ⟨D2, 0, none⟩ = some (.int .i64 a1_0) ∧ w11.cell? ⟨D2, 1, none⟩ = some (.int .i64 a1_1) ∧ w11.cell? ⟨D2, 2, none⟩ = some (.slice A1_2 l1_2.length c1_2) ∧ w11.cell? ⟨D2, 3, none⟩ = some (.int .i64 a1_3) := hS_
  obtain ⟨Dh, Dj, De⟩ := Kd.R_slice D1.out
  (first | subst De | (injection De with f1_ f2_ f3_; have f4_ := f1_.symm; have f5_ := f3_.symm; clear f1_ f2_ f3_; subst f4_; subst f5_))
  refine norm_ (a' := ?_) ?_ ?_
  rotate_left
  ·simp only [putAll, Act.put, List.setIfInBounds_toArray, List.set_cons_zero, List.set_cons_succ]; rfl
  refine one_ (i := 9) (N := some 14) (Cmp.bm 10 2) rfl rfl (one_of HT_.out (by kernel_rfl)) (by decide) (fun K hK => ?_)
  refine Kd.R_append_rows_step (Kd.int .i64) (w0 := w) w.heap.size (by rfl) (.tmp 10) (.tmp 13) 32 3 (.int .i64 0) 8 rfl Try.underlying32 info3 rfl (by decide) (by omega) v578 D5 D4 _ _ _ (fun k_ => some k_ ≠ (.slice Dh D4.length Dj : Value).ownBlock) (fun _ => False) rfl rfl ?aO ?aR (fun _ _ h => h) (fun _ h => h.elim) ?aF ?aB ?aS ?aL ?_
  (case aR => repeat (first | exact (Kd.R_reads' D1.out).2.2 | (with_reducible refine Kd.C_alloc ?_ _) | (with_reducible refine Kd.C_drewN ?_ _) | (with_reducible refine Kd.C_drew ?_)))
  (case aB => exact (Cmp.g HB.out))
  (case aF => exact (fun k_ hk => Kd.fresh' (Kd.R_lt (Cmp.rr D1.out)) k_ hk))
  (case aO => exact (Cmp.rr D3.out))
  (case aS => exact (below_size (Cmp.g HB.out)))
  (case aL => have := LMc4.out; omega)
  intro v584 w12 ho hb hg hat
  rw [← Dd.out] at ho
  have D6 := Cmp.A (ho); replace D0 := Cmp.bg D0 hg (Kd.R_ne D3.out D0.out (by decide)); replace D1 := Cmp.A (Kd.R_after (ok := (fun _ => True)) (Cmp.rm D1.out (fun _ hk => ⟨trivial, hk⟩)) hg hat); replace HB := Cmp.A (hb); clear D3; clear ho hb hg hat
  obtain ⟨Di, Dk, Df⟩ := Kd.R_slice D6.out
  (first | subst Df | (injection Df with f1_ f2_ f3_; have f4_ := f1_.symm; have f5_ := f3_.symm; clear f1_ f2_ f3_; subst f4_; subst f5_))
  refine hK.out _ _ ⟨(Cmp.c0 D0 :), (Cmp.c1 D0 :), (Cmp.c2 D0 :), (Cmp.c3 D0 :)⟩ (fun hHeld => ?_)
  clear hK K
  refine Cmp.no ?_
  refine one_ (i := 10) (N := some 15) (Cmp.bm 11 1) rfl rfl (one_of HT_.out (by kernel_rfl)) (by decide) (fun K hK => ?_)
  refine goes_ Try.func108 (by kernel_rfl) rfl #[.int .i64 a0, .slice Di Db.length Dk] (by rfl) rfl rfl Cmp.q ?_
  with_reducible refine (spec_KeyedHash.calls k a0 _ _ Db D7 _ ?side1 ?side2 A5.out).mono ?_
  (case side1 => exact Cmp.rc (Kd.R_reads' D6.out).2.2)
  (case side2 => exact (Kd.R_reads' D6.out).2.1)
  rintro e w15 ⟨rfl, hb⟩; refine ⟨_, rfl, ?_⟩
  replace D1 := Cmp.A (Kd.R_below (Cmp.rr D1.out) hb); replace D6 := Cmp.A (Kd.R_below (Cmp.rr D6.out) hb); replace D0 := Cmp.be D0 hb; replace HB := Cmp.A (below_step (Cmp.g HB.out) hb); (try clear hb); (try clear hb2); (try clear hk); (try clear hi)
  refine hK.out _ _ ⟨(Cmp.c0 D0 :), (Cmp.c1 D0 :), (Cmp.c2 D0 :), (Cmp.c3 D0 :)⟩ (fun hHeld => ?_)
  clear hK K
  refine Cmp.no ?_
  refine Cmp.pu HT_ 11 4 (Cmp.bm 12 0) ?_
  refine done_ (done_of HT_.out (by kernel_rfl)) ?_
  try go_wp2
  go_ret
  exact ⟨by first | rfl | (simp [errW_none, errW_some] <;> rfl) | (simp [*, errW_none, errW_some] <;> rfl), Cmp.g HB.out⟩
 ·rw [if_neg c4] at H; exact absurd H (by simp)
end Go.Proofs.Ytpgjecknkmmnhaa.PFnSealedBundles

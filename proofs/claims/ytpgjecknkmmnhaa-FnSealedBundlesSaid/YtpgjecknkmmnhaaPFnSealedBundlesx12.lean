/- Printed functions of the program, out of print.sh, told more shortly. No condition. -/
import Derived.Test.YtpgjecknkmmnhaaCmp
import Derived.Test.YtpgjecknkmmnhaaPFnSealedBundlesx0
import Derived.Test.YtpgjecknkmmnhaaPFnSealedBundlesx11
namespace Go.Proofs.Ytpgjecknkmmnhaa.PFnSealedBundles
open Go.Proofs.Ytpgjecknkmmnhaa
open Go.RowKit Go.Proofs.YtpgjecknkmmnhaaW.PrintWords Go.Proofs.YtpgjecknkmmnhaaW.PrintLast Go.Proofs.YtpgjecknkmmnhaaW.PrintMore
attribute [local go_sem] max2_int min2_int max_two min_two max_three min_three max_four min_four   -- for this text's walks alone
set_option linter.unusedVariables false
set_option linter.unusedSimpArgs false
/-! ### impl_Hash: function 95 -/
def impl_Hash.l0 : Nat → Int → List Int → Int → Int → Option (Int)
  | 0, _, _, _, _ => none
  | k + 1, x3, x6, x7, x8 => if x8 < x7 then (if 0 ≤ x8 then (if x8 < (x6.length : Int) then ((impl_Mod.f k (rd x6 x8) 2147483647).bind fun t394 => (impl_Hash.l0 k (Int.tmod (wrap64 ((wrap64 ((wrap64 (x3 * 1000003)) + t394)) + 13)) 2147483647) x6 x7 (wrap64 (x8 + 1)))) else (none)) else (none)) else (some x3)
def impl_Hash.f (k : Nat) (l0 : List Int) : Option (Int) := impl_Hash.l0 k 11 l0 (l0.length : Int) 0
theorem impl_Hash.mono_l : ∀ k, (∀ y0 y1 y2 y3, LeO (impl_Hash.l0 k y0 y1 y2 y3) (impl_Hash.l0 (k + 1) y0 y1 y2 y3))
 | 0 => fun _ _ _ _ r h => by simp [impl_Hash.l0] at h
 | k + 1 => by
    have ih0 := impl_Hash.mono_l k
    · intro y0 y1 y2 y3
      unfold impl_Hash.l0
      repeat' first
 | (with_reducible exact ih0 _ _ _ _)
 | (with_reducible exact impl_Mod.mono _ _ _)
 | (with_reducible exact LeO.refl _)
 | (with_reducible exact LeO.none _)
 | (with_reducible refine LeO.ite ?_ ?_)
 | (with_reducible refine LeO.bind ?_ (fun _ => ?_))
theorem impl_Hash.mono : ∀ a0 k, LeO (impl_Hash.f k a0) (impl_Hash.f (k + 1) a0) := by
  intro a0 k
  have ih0 := impl_Hash.mono_l k
  unfold impl_Hash.f
  repeat' first
 | (with_reducible exact ih0 _ _ _ _)
 | (with_reducible exact impl_Mod.mono _ _ _)
 | (with_reducible exact LeO.refl _)
 | (with_reducible exact LeO.none _)
 | (with_reducible refine LeO.ite ?_ ?_)
 | (with_reducible refine LeO.bind ?_ (fun _ => ?_))
set_option maxHeartbeats 8000000 in
set_option maxRecDepth 100000 in
theorem impl_Hash.calls (k : Nat) (A0 : Option Addr) (c0 : Nat) (l0 : List Int) (r : Int) (w : World) (hr0 : Kd.C (Kd.int .i64) w A0 l0.length l0) (hc0 : l0.length ≤ c0) (h : impl_Hash.f k l0 = some r) :
    Calls Try.prog 95 #[.slice A0 l0.length c0] w fun e w' => e = .returned (.int .i64 r) ∧ Drawn0 w w' := by
 have HR0 := Cmp.A hr0; have HC0 := Cmp.A hc0; clear hr0 hc0
 have H : (impl_Hash.l0 k 11 l0 (l0.length : Int) 0) = some r := h
 clear h
 have H' := Cmp.A H
 clear H
 go_enter Try.func95, Try.ntmps95
 go_wp2
 go_loopg [3, 8] k (fun kq v3 v8 w' => ∃ (D1 : Int) (D0 : Int), v3 = .int .i64 D1 ∧ v8 = .int .i64 D0 ∧ Aside0 (impl_Hash.l0 kq D1 l0 (l0.length : Int) D0 = some r) ∧ Aside0 (kq ≤ k) ∧ Drawn0 w w')
 case atStart => exact ⟨(11), (0), (by first | rfl | simp | simp [*]), (by first | rfl | simp | simp [*]), H', ⟨Nat.le_refl _⟩, by repeat (first | exact Drawn0.refl _ | apply Drawn0.step)⟩
 case round =>
  clear H'
  obtain ⟨D1, D0, rfl, rfl, HA, HK1, ⟨m1, rfl⟩⟩ := hrel
  cases gk with
  | zero => exact absurd HA.out (by simp [impl_Hash.l0])
  | succ k1 =>
   have H := HA.out; clear HA
   simp only [impl_Hash.l0] at H
   by_cases c2 : D0 < (l0.length : Int)
   ·rw [if_pos c2] at H
    have c2b0 : decide (D0 < (l0.length : Int)) = true := decide_eq_true c2
    clear c2
    by_cases c3 : 0 ≤ D0
    ·rw [if_pos c3] at H; have c3b0 : decide (0 ≤ D0) = true := decide_eq_true c3; clear c3
     by_cases c4 : D0 < (l0.length : Int)
     ·rw [if_pos c4] at H
      have c4b0 : decide (D0 < (l0.length : Int)) = true := decide_eq_true c4
      clear c4; replace H := Option.bind_eq_some_iff.mp H; obtain ⟨D2, D4, H⟩ := H; (try dsimp only at H); have A5 := Cmp.A D4; clear D4
      have H' := Cmp.A H
      clear H
      have p393 : 0 ≤ (D0 : Int) := of_decide_eq_true Cmp.d
      have q393 : D0 < (l0.length : Int) := of_decide_eq_true Cmp.d
      obtain ⟨D5, e393, D3⟩ := Kd.at_int HR0.out D0 p393 q393
      cases e393; replace p393 := eq_true p393; replace q393 := eq_true q393
      go_wp2_with (first | ((with_reducible refine gate_callee (f := 112) rfl ?_); refine goesL_ (some 15) rfl rfl Try.func112 (by kernel_rfl) rfl #[.int .i64 (rd l0 D0), .int .i64 2147483647] rfl Cmp.q ?_; (with_reducible refine (impl_Mod.calls k1 (rd l0 D0) 2147483647 D2 _ A5.out).mono ?_); rintro e w' ⟨rfl, ⟨nd, rfl⟩⟩; refine ⟨_, rfl, ?_⟩))
      go_roundg k1
      case measure => have := HK1.out; omega
      case rel => exact ⟨(Int.tmod (wrap64 ((wrap64 ((wrap64 (D1 * 1000003)) + D2)) + 13)) 2147483647), (wrap64 (D0 + 1)), (by first | rfl | simp | simp [*]), (by first | rfl | simp | simp [*]), H', ⟨by have := HK1.out; omega⟩, by repeat (first | exact Drawn0.refl _ | apply Drawn0.step)⟩
     ·rw [if_neg c4] at H; exact absurd H (by simp)
    ·rw [if_neg c3] at H; exact absurd H (by simp)
   ·rw [if_neg c2] at H
    have c2b0 : decide (D0 < (l0.length : Int)) = false := decide_eq_false c2
    clear c2
    obtain rfl := Option.some.inj H
    go_wp2
    go_ret
    exact ⟨by first | rfl | (simp; done) | (simp [*]; done), by repeat (first | exact Drawn0.refl _ | apply Drawn0.step)⟩
/-! ### impl_joined: function 104 -/
def impl_joined.l0 : Nat → List Int → List (List Int) → Int → Int → Option (List Int)
  | 0, _, _, _, _ => none
  | k + 1, x5, x11, x12, x13 => if x13 < x12 then (if 0 ≤ x13 then (if x13 < (x11.length : Int) then (if x5.length + (rd_L4 x11 x13).length < 17592186044416 then (impl_joined.l0 k (x5 ++ (rd_L4 x11 x13)) x11 x12 (wrap64 (x13 + 1))) else (none)) else (none)) else (none)) else (some x5)
def impl_joined.f (k : Nat) (l0 : List Int) (l1 : List (List Int)) : Option (List Int) := (some (([] : List Int) : List Int)).bind fun y395 => (if y395.length + l0.length < 17592186044416 then (impl_joined.l0 k (y395 ++ l0) l1 (l1.length : Int) 0) else (none))
theorem impl_joined.mono_l : ∀ k, (∀ y0 y1 y2 y3, LeO (impl_joined.l0 k y0 y1 y2 y3) (impl_joined.l0 (k + 1) y0 y1 y2 y3))
 | 0 => fun _ _ _ _ r h => by simp [impl_joined.l0] at h
 | k + 1 => by
    have ih0 := impl_joined.mono_l k
    · intro y0 y1 y2 y3
      unfold impl_joined.l0
      repeat' first
 | (with_reducible exact ih0 _ _ _ _)
 | (with_reducible exact LeO.refl _)
 | (with_reducible exact LeO.none _)
 | (with_reducible refine LeO.ite ?_ ?_)
 | (with_reducible refine LeO.bind ?_ (fun _ => ?_))
theorem impl_joined.mono : ∀ a0 a1 k, LeO (impl_joined.f k a0 a1) (impl_joined.f (k + 1) a0 a1) := by
  intro a0 a1 k
  have ih0 := impl_joined.mono_l k
  unfold impl_joined.f
  repeat' first
 | (with_reducible exact ih0 _ _ _ _)
 | (with_reducible exact LeO.refl _)
 | (with_reducible exact LeO.none _)
 | (with_reducible refine LeO.ite ?_ ?_)
 | (with_reducible refine LeO.bind ?_ (fun _ => ?_))
set_option maxHeartbeats 8000000 in
set_option maxRecDepth 100000 in
theorem impl_joined.calls (k : Nat) (A0 : Option Addr) (c0 : Nat) (l0 : List Int) (A1 : Option Addr) (c1 : Nat) (l1 : List (List Int)) (r : List Int) (w : World) (hr0 : Kd.C (Kd.int .i64) w A0 l0.length l0) (hc0 : l0.length ≤ c0) (hr1 : Kd.C (Kd.slice 3 (Kd.int .i64)) w A1 l1.length l1) (hc1 : l1.length ≤ c1) (h : impl_joined.f k l0 l1 = some r) :
    Calls Try.prog 104 #[.slice A0 l0.length c0, .slice A1 l1.length c1] w fun e w' => ∃ v0_ : Value, e = .returned (v0_) ∧ Kd.R (Kd.int .i64) 3 w' w.heap.size (fun _ => True) v0_ r ∧ Below w.heap.size w w' := by
 have HR0 := Cmp.A hr0; have HC0 := Cmp.A hc0; clear hr0 hc0; have HR1 := Cmp.A hr1; have HC1 := Cmp.A hc1; clear hr1 hc1
 have HB := Cmp.A (Below.refl w.heap.size w)
 have H : ((some (([] : List Int) : List Int)).bind fun D1 => (if D1.length + l0.length < 17592186044416 then (impl_joined.l0 k (D1 ++ l0) l1 (l1.length : Int) 0) else (none))) = some r := h
 clear h
 obtain ⟨D1, hy395⟩ : ∃ y_ : List Int, y_ = (([] : List Int)) := ⟨_, rfl⟩
 replace H : (if D1.length + l0.length < 17592186044416 then (impl_joined.l0 k (D1 ++ l0) l1 (l1.length : Int) 0) else (none)) = some r := Cmp.hy hy395 H
 have D6 := Cmp.A hy395; clear hy395
 by_cases c3 : D1.length + l0.length < 17592186044416
 ·rw [if_pos c3] at H; have LMc3 := Cmp.A c3; clear c3
  obtain ⟨Dd, hy398⟩ : ∃ y_ : List Int, y_ = (D1 ++ l0) := ⟨_, rfl⟩
  replace H : (impl_joined.l0 k Dd l1 (l1.length : Int) 0) = some r := Cmp.hy hy398 H
  have Da := Cmp.A hy398; clear hy398
  have H' := Cmp.A H
  clear H
  go_enter Try.func104, Try.ntmps104
  go_wp2_with (first | ((with_reducible refine gate_dst (N := 8) rfl ?_); refine Kd.R_lit (Kd.int .i64) _ 3 ?hg (N := 8) ?hd (xs := ([] : List Int)) (inner := []) (ok := fun _ => True) (okp := fun _ => True) ?hr ?hp (fun _ hk => hk) trivial (Below.refl _ _) (Nat.le_refl _) (by simp) ?_; (case hd => rfl); (case hg => rfl); (case hr => first | (go_simp; done) | (go_simp; rfl)); (case hp => exact (Reps.none _ _)); intro v396 w4 Dc hb hg_ hnew_; clear hg_ hnew_; (first | rw [← D6.out] at Dc | (simp only [Int.reduceToNat] at Dc; rw [← D6.out] at Dc)); have D5 := Cmp.A (Kd.R_lower Dc (below_size (Cmp.g HB.out))); replace HB := Cmp.bs HB hb; clear hb Dc) | ((with_reducible refine gate_builtin (b := .append) (xs := #[.tmp 8, .tmp 9]) rfl ?_); at_builtin; refine Kd.R_append_rows (Kd.int .i64) (w0 := w) w.heap.size rfl (.tmp 8) (.tmp 9) 32 3 (.int .i64 0) 8 rfl Try.underlying32 info3 rfl (by decide) (by omega) v396 D1 l0 _ _ _ (fun _ => True) (fun _ => False) rfl rfl ?aO ?aR (fun _ _ h => h) (fun _ h => h.elim) ?aF ?aB ?aS ?aL ?_; (case aR => repeat (first | exact (Kd.C_below HR0.out HB.out) | (with_reducible refine Kd.C_alloc ?_ _) | (with_reducible refine Kd.C_drewN ?_ _) | (with_reducible refine Kd.C_drew ?_))); (case aB => exact (Cmp.g HB.out)); (case aF => exact (fun _ _ => trivial)); (case aO => exact (Cmp.rr D5.out)); (case aS => exact (below_size (Cmp.g HB.out))); (case aL => have := LMc3.out; omega); intro v399 w6 ho hb hg hat; rw [← Da.out] at ho; have D8 := Cmp.A (ho); replace HB := Cmp.A (hb); clear D5; clear ho hb hg hat))
  go_loopg [5, 13] k (fun kq v5 v13 w' => ∃ (D3 : List Int) (D0 : Int), v13 = .int .i64 D0 ∧ Aside0 (impl_joined.l0 kq D3 l1 (l1.length : Int) D0 = some r) ∧ Aside0 (kq ≤ k) ∧ Aside0 (Kd.R (Kd.int .i64) 3 w' w.heap.size (fun _ => True) v5 D3) ∧ Aside0 (Below w.heap.size w w'))
  case atStart => exact ⟨(Dd), (0), (by first | rfl | simp | simp [*]), H', ⟨Nat.le_refl _⟩, ⟨Cmp.rr D8.out⟩, ⟨Cmp.g HB.out⟩⟩
  case round =>
   clear H'
   (try clear c1); (try clear p2); (try clear c3)
   obtain ⟨D3, D0, rfl, HA, HK1, D7, HB⟩ := hrel
   cases gk with
   | zero => exact absurd HA.out (by simp [impl_joined.l0])
   | succ k1 =>
    have H := HA.out; clear HA
    simp only [impl_joined.l0] at H
    by_cases c7 : D0 < (l1.length : Int)
    ·rw [if_pos c7] at H
     have c7b0 : decide (D0 < (l1.length : Int)) = true := decide_eq_true c7
     clear c7
     by_cases c8 : 0 ≤ D0
     ·rw [if_pos c8] at H; have c8b0 : decide (0 ≤ D0) = true := decide_eq_true c8; clear c8
      by_cases c9 : D0 < (l1.length : Int)
      ·rw [if_pos c9] at H
       have c9b0 : decide (D0 < (l1.length : Int)) = true := decide_eq_true c9
       clear c9
       by_cases c10 : D3.length + (rd_L4 l1 D0).length < 17592186044416
       ·rw [if_pos c10] at H; have LMc10 := Cmp.A c10; clear c10
        obtain ⟨De, hy402⟩ : ∃ y_ : List Int, y_ = (D3 ++ (rd_L4 l1 D0)) := ⟨_, rfl⟩
        replace H : (impl_joined.l0 k1 De l1 (l1.length : Int) (wrap64 (D0 + 1))) = some r := Cmp.hy hy402 H
        have Db := Cmp.A hy402; clear hy402
        have H' := Cmp.A H
        clear H
        have p401 : 0 ≤ (D0 : Int) := of_decide_eq_true Cmp.d
        have q401 : D0 < (l1.length : Int) := of_decide_eq_true Cmp.d
        obtain ⟨Df, A401_0, c401_0, e401, D2, hl401_0, hi401_0⟩ := at_L4 HR1.out D0 p401 q401
        cases e401
        replace D2 := Cmp.hc HB D2
        have D4 := Cmp.A hi401_0; have HC401_0 := Cmp.A hl401_0; clear hi401_0 hl401_0; replace p401 := eq_true p401; replace q401 := eq_true q401
        go_wp2_with (first | ((with_reducible refine gate_builtin (b := .append) (xs := #[.tmp 17, .tmp 18]) rfl ?_); at_builtin; refine Kd.R_append_rows (Kd.int .i64) (w0 := w) w.heap.size rfl (.tmp 17) (.tmp 18) 32 3 (.int .i64 0) 8 rfl Try.underlying32 info3 rfl (by decide) (by omega) u5 D3 (rd_L4 l1 D0) _ _ _ (fun _ => True) (fun _ => False) rfl rfl ?aO ?aR (fun _ _ h => h) (fun _ h => h.elim) ?aF ?aB ?aS ?aL ?_; (case aR => repeat (first | exact (Kd.C_below D4.out HB.out) | (with_reducible refine Kd.C_alloc ?_ _) | (with_reducible refine Kd.C_drewN ?_ _) | (with_reducible refine Kd.C_drew ?_))); (case aB => exact (Cmp.g HB.out)); (case aF => exact (fun _ _ => trivial)); (case aO => exact (Cmp.rr D7.out)); (case aS => exact (below_size (Cmp.g HB.out))); (case aL => have := LMc10.out; omega); intro v403 w11 ho hb hg hat; rw [← Db.out] at ho; have D9 := Cmp.A (ho); replace HB := Cmp.A (hb); clear D7; clear ho hb hg hat))
        go_roundg k1
        case measure => have := HK1.out; omega
        case rel => exact ⟨(De), (wrap64 (D0 + 1)), (by first | rfl | simp | simp [*]), H', ⟨by have := HK1.out; omega⟩, ⟨Cmp.rr D9.out⟩, ⟨Cmp.g HB.out⟩⟩
       ·rw [if_neg c10] at H; exact absurd H (by simp)
      ·rw [if_neg c9] at H; exact absurd H (by simp)
     ·rw [if_neg c8] at H; exact absurd H (by simp)
    ·rw [if_neg c7] at H
     have c7b0 : decide (D0 < (l1.length : Int)) = false := decide_eq_false c7
     clear c7
     obtain rfl := Option.some.inj H
     go_wp2
     go_ret
     exact ⟨_, by first | rfl | (simp [errW_none, errW_some] <;> rfl) | (simp [*, errW_none, errW_some] <;> rfl), by (with_reducible repeat (first | apply Kd.R_alloc | apply Kd.R_drewN | apply Kd.R_drew)); exact D7.out, Cmp.g HB.out⟩
 ·rw [if_neg c3] at H; exact absurd H (by simp)
/-! ### impl_KeyedHash: function 102 -/
def impl_KeyedHash.f (k : Nat) (a0 : Int) (l1 : List Int) : Option (Int) := (impl_joined.f k (([a0] : List Int)) (([l1, (([a0] : List Int))] : List (List Int)))).bind fun t414 => ((impl_Hash.f k t414).bind fun t417 => (some t417))
theorem impl_KeyedHash.mono : ∀ a0 a1 k, LeO (impl_KeyedHash.f k a0 a1) (impl_KeyedHash.f (k + 1) a0 a1) := by
  intro a0 a1 k
  unfold impl_KeyedHash.f
  repeat' first
 | (with_reducible exact impl_Hash.mono _ _)
 | (with_reducible exact impl_joined.mono _ _ _)
 | (with_reducible exact LeO.refl _)
 | (with_reducible exact LeO.none _)
 | (with_reducible refine LeO.ite ?_ ?_)
 | (with_reducible refine LeO.bind ?_ (fun _ => ?_))
set_option maxHeartbeats 8000000 in
set_option maxRecDepth 100000 in
theorem impl_KeyedHash.calls (k : Nat) (a0 : Int) (P1_ : Nat → Prop) (A1 : Option Addr) (c1 : Nat) (l1 : List Int) (r : Int) (w : World) (hs1 : Kd.V (Kd.int .i64) 3 w w.heap.size (fun k_ => P1_ k_) (.slice A1 l1.length c1) l1) (h : impl_KeyedHash.f k a0 l1 = some r) :
    Calls Try.prog 102 #[.int .i64 a0, .slice A1 l1.length c1] w fun e w' => e = .returned (.int .i64 r) ∧ Below w.heap.size w w' := by
 have D9 := Cmp.A (show Kd.V (Kd.int .i64) 3 w w.heap.size (fun k_ => (P1_ k_ ∨ w.heap.size ≤ k_)) (.slice A1 l1.length c1) l1 from Kd.V_mono hs1 (fun k_ hk => .inl hk))
 have HB := Cmp.A (Below.refl w.heap.size w)
 have H : ((impl_joined.f k (([a0] : List Int)) (([l1, (([a0] : List Int))] : List (List Int)))).bind fun D1 => ((impl_Hash.f k D1).bind fun D2 => (some D2))) = some r := h
 clear h
 obtain ⟨D8, hy405⟩ : ∃ y_ : List Int, y_ = (([a0] : List Int)) := ⟨_, rfl⟩
 replace H : ((impl_joined.f k D8 (([l1, (([a0] : List Int))] : List (List Int)))).bind fun D1 => ((impl_Hash.f k D1).bind fun D2 => (some D2))) = some r := Cmp.hy hy405 H
 have Da := Cmp.A hy405; clear hy405
 obtain ⟨D6, hy408⟩ : ∃ y_ : List Int, y_ = (([a0] : List Int)) := ⟨_, rfl⟩
 replace H : ((impl_joined.f k D8 (([l1, D6] : List (List Int)))).bind fun D1 => ((impl_Hash.f k D1).bind fun D2 => (some D2))) = some r := Cmp.hy hy408 H
 have Db := Cmp.A hy408; clear hy408
 obtain ⟨De, hy411⟩ : ∃ y_ : List (List Int), y_ = (([l1, D6] : List (List Int))) := ⟨_, rfl⟩
 replace H : ((impl_joined.f k D8 De).bind fun D1 => ((impl_Hash.f k D1).bind fun D2 => (some D2))) = some r := Cmp.hy hy411 H
 have Dc := Cmp.A hy411; clear hy411; replace H := Option.bind_eq_some_iff.mp H; obtain ⟨D1, Dq, H⟩ := H; (try dsimp only at H); have A3 := Cmp.A Dq; clear Dq; replace H := Option.bind_eq_some_iff.mp H; obtain ⟨D2, Dr, H⟩ := H; (try dsimp only at H); have A4 := Cmp.A Dr; clear Dr
 obtain rfl := Option.some.inj H
 go_enter Try.func102, Try.ntmps102
 go_wp2_with (first | ((with_reducible refine gate_dst (N := 6) rfl ?_); refine Kd.R_lit (Kd.int .i64) _ 3 ?hg (N := 6) ?hd (xs := ([a0] : List Int)) (inner := [.int .i64 a0]) (ok := fun _ => True) (okp := fun _ => True) ?hr ?hp (fun _ hk => hk) trivial (Below.refl _ _) (Nat.le_refl _) (by simp) ?_; (case hd => rfl); (case hg => rfl); (case hr => first | (go_simp; done) | (go_simp; rfl)); (case hp => exact (Reps.one (Cmp.mi a0) (Reps.none _ _))); intro v406 w5 Df hb hg_ hnew_; clear hg_ hnew_; (first | rw [← Da.out] at Df | (simp only [Int.reduceToNat] at Df; rw [← Da.out] at Df)); have D0 := Cmp.A (Kd.R_lower (Kd.R_newM (M := fun k_ => (w.heap.size ≤ k_)) Df (below_size (Cmp.g HB.out)) (fun k_ h_ => h_)) (below_size (Cmp.g HB.out))); replace D9 := Cmp.A (Kd.V_elder' (Cmp.rv D9.out) (Kd.R_base Df) hb); replace HB := Cmp.bs HB hb; clear hb Df) | ((with_reducible refine gate_dst (N := 9) rfl ?_); refine Kd.R_lit (Kd.int .i64) _ 3 ?hg (N := 9) ?hd (xs := ([a0] : List Int)) (inner := [.int .i64 a0]) (ok := fun _ => True) (okp := fun _ => True) ?hr ?hp (fun _ hk => hk) trivial (Below.refl _ _) (Nat.le_refl _) (by simp) ?_; (case hd => rfl); (case hg => rfl); (case hr => first | (go_simp; done) | (go_simp; rfl)); (case hp => exact (Reps.one (Cmp.mi a0) (Reps.none _ _))); intro v409 w7 Dd hb hg_ hnew_; clear hg_ hnew_; (first | rw [← Db.out] at Dd | (simp only [Int.reduceToNat] at Dd; rw [← Db.out] at Dd)); have D4 := Cmp.A (Kd.R_lower (Kd.R_new' (Kd.R_newM (M := fun k_ => (w.heap.size ≤ k_)) Dd (below_size (Cmp.g HB.out)) (fun k_ h_ => h_)) (Kd.R_lt (Cmp.rr D0.out))) (below_size (Cmp.g HB.out))); replace D9 := Cmp.A (Kd.V_elder' (Cmp.rv D9.out) (Kd.R_base Dd) hb); replace D0 := Cmp.A (Kd.R_elder' (Cmp.rr D0.out) (Kd.R_base Dd) hb); replace HB := Cmp.bs HB hb; clear hb Dd; obtain ⟨Ds, Dt, Du⟩ := Kd.R_slice D4.out; subst Du) | ((with_reducible refine gate_dst (N := 10) rfl ?_); refine Kd.N_lit (Kd.slice 3 (Kd.int .i64)) _ 32 ?hg (N' := 10) ?hd (xs := ([l1, D6] : List (List Int))) (inner := [.slice A1 l1.length c1, .slice Ds D6.length Dt]) (ok := (fun k_ => (P1_ k_ ∨ w.heap.size ≤ k_) ∧ some k_ ≠ (v406 : Value).ownBlock)) (okp := (fun k_ => (P1_ k_ ∨ w.heap.size ≤ k_) ∧ some k_ ≠ (v406 : Value).ownBlock)) ?hr ?hp (fun _ hk => hk) ((show ∀ k_, w7.heap.size ≤ k_ → (fun k_ => (P1_ k_ ∨ w.heap.size ≤ k_) ∧ some k_ ≠ (v406 : Value).ownBlock) k_ from fun k_ hk => ⟨(.inr (Nat.le_trans (below_size (Cmp.g HB.out)) hk)), Kd.fresh' (Kd.R_lt (Cmp.rr D0.out)) k_ hk⟩) _ (Nat.le_refl _)) (Below.refl _ _) (Nat.le_refl _) (by simp) ?_; (case hd => rfl); (case hg => rfl); (case hr => first | (go_simp; done) | (go_simp; rfl)); (case hp => exact (Reps.one (show Kd.FK (Kd.slice 3 (Kd.int .i64)) _ _ l1 [.slice A1 l1.length c1] from (Kd.FK_slice_mk (Kd.V_reads' (Kd.V_mono (ok' := (fun k_ => (P1_ k_ ∨ w.heap.size ≤ k_) ∧ some k_ ≠ (v406 : Value).ownBlock)) (D9.out) (fun k_ hk => ⟨hk.1.1, hk.1.2⟩))).2.1 (Kd.V_F (Kd.V_mono (ok' := (fun k_ => (P1_ k_ ∨ w.heap.size ≤ k_) ∧ some k_ ≠ (v406 : Value).ownBlock)) (D9.out) (fun k_ hk => ⟨hk.1.1, hk.1.2⟩))))) (Reps.one (show Kd.FK (Kd.slice 3 (Kd.int .i64)) _ _ D6 [.slice Ds D6.length Dt] from (Kd.FK_slice_mk (Kd.R_reads' (Kd.R_mono (ok' := (fun k_ => (P1_ k_ ∨ w.heap.size ≤ k_) ∧ some k_ ≠ (v406 : Value).ownBlock)) (D4.out) (fun k_ hk => ⟨(.inr (hk.1.1)), hk.2⟩))).2.1 (Kd.R_F (Kd.R_mono (ok' := (fun k_ => (P1_ k_ ∨ w.heap.size ≤ k_) ∧ some k_ ≠ (v406 : Value).ownBlock)) (D4.out) (fun k_ hk => ⟨(.inr (hk.1.1)), hk.2⟩))))) (Reps.none _ _)))); intro v412 w10 D5 hb hg_ hnew_; clear hg_ hnew_; (first | rw [← Dc.out] at D5 | (simp only [Int.reduceToNat] at D5; rw [← Dc.out] at D5)); have D3 := Cmp.A (Kd.N_lower D5 (below_size (Cmp.g HB.out))); replace D9 := Cmp.A (Kd.V_elder' (Cmp.rv D9.out) (Kd.N_base D5) hb); replace D0 := Cmp.A (Kd.R_below (Cmp.rr D0.out) hb); replace HB := Cmp.bs HB hb; clear D4; clear hb D5; obtain ⟨Dh, Dk, Dn⟩ := Kd.R_slice D0.out; subst Dn; obtain ⟨Di, Dl, Do⟩ := Kd.N_slice D3.out; subst Do) | ((with_reducible refine gate_callee (f := 104) rfl ?_); refine goesL_ (some 11) rfl rfl Try.func104 (by kernel_rfl) rfl #[.slice Dh D8.length Dk, .slice Di De.length Dl] rfl Cmp.q ?_; (with_reducible refine (impl_joined.calls k _ _ D8 _ _ De D1 _ ?side1 ?side2 ?side3 ?side4 A3.out).mono ?_); (case side1 => exact Cmp.rc (Kd.R_reads' D0.out).2.2); (case side2 => exact (Kd.R_reads' D0.out).2.1); (case side3 => exact Cmp.rc (Kd.N_reads' D3.out).2.2); (case side4 => exact (Kd.N_reads' D3.out).2.1); rintro e w14 ⟨v415, rfl, Dg, hb⟩; refine ⟨_, rfl, ?_⟩; have D7 := Cmp.A (Kd.R_lower (Kd.R_new' (Kd.R_newM (M := fun k_ => (w.heap.size ≤ k_)) Dg (below_size (Cmp.g HB.out)) (fun k_ h_ => h_)) (Kd.R_lt (Cmp.rr D0.out))) (below_size (Cmp.g HB.out))); replace D9 := Cmp.A (Kd.V_elder' (Cmp.rv D9.out) (Kd.R_base Dg) hb); replace D0 := Cmp.A (Kd.R_elder' (Cmp.rr D0.out) (Kd.R_base Dg) hb); replace D3 := Cmp.A (Kd.N_elder' (Cmp.rn D3.out) (Kd.R_base Dg) hb); replace HB := Cmp.bs HB hb; (try clear hb); (try clear hb2); (try clear hk); (try clear hi); (try clear Dg); obtain ⟨Dj, Dm, Dp⟩ := Kd.R_slice D7.out; subst Dp) | ((with_reducible refine gate_callee (f := 95) rfl ?_); refine goesL_ (some 12) rfl rfl Try.func95 (by kernel_rfl) rfl #[.slice Dj D1.length Dm] rfl Cmp.q ?_; (with_reducible refine (impl_Hash.calls k _ _ D1 D2 _ ?side1 ?side2 A4.out).mono ?_); (case side1 => exact Cmp.rc (Kd.R_reads' D7.out).2.2); (case side2 => exact (Kd.R_reads' D7.out).2.1); rintro e w' ⟨rfl, ⟨nd, rfl⟩⟩; refine ⟨_, rfl, ?_⟩))
 go_ret
 exact ⟨by first | rfl | (simp [errW_none, errW_some] <;> rfl) | (simp [*, errW_none, errW_some] <;> rfl), Cmp.g HB.out⟩
/-! ### impl_Encrypt: function 62 -/
def impl_Encrypt.l0 : Nat → Int → List Int → List Int → Int → Int → Option (List Int)
  | 0, _, _, _, _, _ => none
  | k + 1, x0, x5, x9, x10, x11 => if x11 < x10 then (if 0 ≤ x11 then (if x11 < (x9.length : Int) then ((impl_KeyedHash.f k x0 (([x11] : List Int))).bind fun t425 => (if x5.length < 140737488355328 then (impl_Encrypt.l0 k x0 (x5 ++ [(Int.tmod (wrap64 ((wrap64 (rd x9 x11)) + t425)) 256) % 256]) x9 x10 (wrap64 (x11 + 1))) else (none))) else (none)) else (none)) else (some x5)
def impl_Encrypt.f (k : Nat) (a0 : Int) (l1 : List Int) : Option (List Int) := impl_Encrypt.l0 k a0 (([] : List Int)) l1 (l1.length : Int) 0
theorem impl_Encrypt.mono_l : ∀ k, (∀ y0 y1 y2 y3 y4, LeO (impl_Encrypt.l0 k y0 y1 y2 y3 y4) (impl_Encrypt.l0 (k + 1) y0 y1 y2 y3 y4))
 | 0 => fun _ _ _ _ _ r h => by simp [impl_Encrypt.l0] at h
 | k + 1 => by
    have ih0 := impl_Encrypt.mono_l k
    · intro y0 y1 y2 y3 y4
      unfold impl_Encrypt.l0
      repeat' first
 | (with_reducible exact ih0 _ _ _ _ _)
 | (with_reducible exact impl_KeyedHash.mono _ _ _)
 | (with_reducible exact LeO.refl _)
 | (with_reducible exact LeO.none _)
 | (with_reducible refine LeO.ite ?_ ?_)
 | (with_reducible refine LeO.bind ?_ (fun _ => ?_))
theorem impl_Encrypt.mono : ∀ a0 a1 k, LeO (impl_Encrypt.f k a0 a1) (impl_Encrypt.f (k + 1) a0 a1) := by
  intro a0 a1 k
  have ih0 := impl_Encrypt.mono_l k
  unfold impl_Encrypt.f
  repeat' first
 | (with_reducible exact ih0 _ _ _ _ _)
 | (with_reducible exact impl_KeyedHash.mono _ _ _)
 | (with_reducible exact LeO.refl _)
 | (with_reducible exact LeO.none _)
 | (with_reducible refine LeO.ite ?_ ?_)
 | (with_reducible refine LeO.bind ?_ (fun _ => ?_))
set_option maxHeartbeats 8000000 in
set_option maxRecDepth 100000 in
theorem impl_Encrypt.calls (k : Nat) (a0 : Int) (A1 : Option Addr) (c1 : Nat) (l1 : List Int) (r : List Int) (w : World) (hr1 : Kd.C (Kd.int .u8) w A1 l1.length l1) (hc1 : l1.length ≤ c1) (h : impl_Encrypt.f k a0 l1 = some r) :
    Calls Try.prog 62 #[.int .i64 a0, .slice A1 l1.length c1] w fun e w' => ∃ v0_ : Value, e = .returned (v0_) ∧ Kd.R (Kd.int .u8) 5 w' w.heap.size (fun _ => True) v0_ r ∧ Below w.heap.size w w' := by
 have HR1 := Cmp.A hr1; have HC1 := Cmp.A hc1; clear hr1 hc1
 have HB := Cmp.A (Below.refl w.heap.size w)
 have H : (impl_Encrypt.l0 k a0 (([] : List Int)) l1 (l1.length : Int) 0) = some r := h
 clear h
 obtain ⟨Dg, hy418⟩ : ∃ y_ : List Int, y_ = (([] : List Int)) := ⟨_, rfl⟩
 replace H : (impl_Encrypt.l0 k a0 Dg l1 (l1.length : Int) 0) = some r := Cmp.hy hy418 H
 have D8 := Cmp.A hy418; clear hy418
 have H' := Cmp.A H
 clear H
 go_enter Try.func62, Try.ntmps62
 go_wp2_with (first | ((with_reducible refine gate_dst (N := 8) rfl ?_); refine Kd.R_lit (Kd.int .u8) _ 5 ?hg (N := 8) ?hd (xs := ([] : List Int)) (inner := []) (ok := fun _ => True) (okp := fun _ => True) ?hr ?hp (fun _ hk => hk) trivial (Below.refl _ _) (Nat.le_refl _) (by simp) ?_; (case hd => rfl); (case hg => rfl); (case hr => first | (go_simp; done) | (go_simp; rfl)); (case hp => exact (Reps.none _ _)); intro v419 w3 Df hb hg_ hnew_; clear hg_ hnew_; (first | rw [← D8.out] at Df | (simp only [Int.reduceToNat] at Df; rw [← D8.out] at Df)); have Db := Cmp.A (Kd.R_lower Df (below_size (Cmp.g HB.out))); replace HB := Cmp.bs HB hb; clear hb Df))
 go_loopg [5, 11] k (fun kq v5 v11 w' => ∃ (D3 : List Int) (D0 : Int), v11 = .int .i64 D0 ∧ Aside0 (impl_Encrypt.l0 kq a0 D3 l1 (l1.length : Int) D0 = some r) ∧ Aside0 (kq ≤ k) ∧ Aside0 (Kd.R (Kd.int .u8) 5 w' w.heap.size (fun _ => True) v5 D3) ∧ Aside0 (Below w.heap.size w w'))
 case atStart => exact ⟨(Dg), (0), (by first | rfl | simp | simp [*]), H', ⟨Nat.le_refl _⟩, ⟨Cmp.rr Db.out⟩, ⟨Cmp.g HB.out⟩⟩
 case round =>
  clear H'
  (try clear c1); (try clear p2)
  obtain ⟨D3, D0, rfl, HA, HK1, D2, HB⟩ := hrel
  cases gk with
  | zero => exact absurd HA.out (by simp [impl_Encrypt.l0])
  | succ k1 =>
   have H := HA.out; clear HA
   simp only [impl_Encrypt.l0] at H
   by_cases c5 : D0 < (l1.length : Int)
   ·rw [if_pos c5] at H
    have c5b0 : decide (D0 < (l1.length : Int)) = true := decide_eq_true c5
    clear c5
    by_cases c6 : 0 ≤ D0
    ·rw [if_pos c6] at H; have c6b0 : decide (0 ≤ D0) = true := decide_eq_true c6; clear c6
     by_cases c7 : D0 < (l1.length : Int)
     ·rw [if_pos c7] at H
      have c7b0 : decide (D0 < (l1.length : Int)) = true := decide_eq_true c7
      clear c7
      obtain ⟨D7, hy422⟩ : ∃ y_ : List Int, y_ = (([D0] : List Int)) := ⟨_, rfl⟩
      replace H : ((impl_KeyedHash.f k1 a0 D7).bind fun D5 => (if D3.length < 140737488355328 then (impl_Encrypt.l0 k1 a0 (D3 ++ [(Int.tmod (wrap64 ((wrap64 (rd l1 D0)) + D5)) 256) % 256]) l1 (l1.length : Int) (wrap64 (D0 + 1))) else (none))) = some r := Cmp.hy hy422 H
      have D9 := Cmp.A hy422; clear hy422; replace H := Option.bind_eq_some_iff.mp H; obtain ⟨D5, Dj, H⟩ := H; (try dsimp only at H); have A8 := Cmp.A Dj; clear Dj
      by_cases c9 : D3.length < 140737488355328
      ·rw [if_pos c9] at H; have LMc9 := Cmp.A c9; clear c9
       obtain ⟨Dh, hy426⟩ : ∃ y_ : List Int, y_ = (D3 ++ [(Int.tmod (wrap64 ((wrap64 (rd l1 D0)) + D5)) 256) % 256]) := ⟨_, rfl⟩
       replace H : (impl_Encrypt.l0 k1 a0 Dh l1 (l1.length : Int) (wrap64 (D0 + 1))) = some r := Cmp.hy hy426 H
       have Dd := Cmp.A hy426; clear hy426
       have H' := Cmp.A H
       clear H
       have p421 : 0 ≤ (D0 : Int) := of_decide_eq_true Cmp.d
       have q421 : D0 < (l1.length : Int) := of_decide_eq_true Cmp.d
       obtain ⟨Dk, e421, D4⟩ := Kd.at_int HR1.out D0 p421 q421
       cases e421
       replace D4 := Cmp.hc HB D4
       replace p421 := eq_true p421; replace q421 := eq_true q421
       go_wp2_with (first | ((with_reducible refine gate_dst (N := 21) rfl ?_); refine Kd.R_lit (Kd.int .i64) _ 3 ?hg (N := 21) ?hd (xs := ([D0] : List Int)) (inner := [.int .i64 D0]) (ok := fun _ => True) (okp := fun _ => True) ?hr ?hp (fun _ hk => hk) trivial (Below.refl _ _) (Nat.le_refl _) (by simp) ?_; (case hd => rfl); (case hg => rfl); (case hr => first | (go_simp; done) | (go_simp; rfl)); (case hp => exact (Reps.one (Cmp.mi D0) (Reps.none _ _))); intro v423 w10 D6 hb hg_ hnew_; clear hg_ hnew_; (first | rw [← D9.out] at D6 | (simp only [Int.reduceToNat] at D6; rw [← D9.out] at D6)); have D1 := Cmp.A (Kd.R_lower D6 (below_size (Cmp.g HB.out))); replace D2 := Cmp.A (Kd.R_below (Cmp.rr D2.out) hb); replace HB := Cmp.bs HB hb; clear hb D6; obtain ⟨Da, De, Di⟩ := Kd.R_slice D1.out; subst Di) | ((with_reducible refine gate_callee (f := 102) rfl ?_); refine goesL_ (some 22) rfl rfl Try.func102 (by kernel_rfl) rfl #[.int .i64 a0, .slice Da D7.length De] rfl Cmp.q ?_; (with_reducible refine (impl_KeyedHash.calls k1 a0 (fun k_ => some k_ = (.slice Da D7.length De : Value).ownBlock) _ _ D7 D5 _ ?side1 A8.out).mono ?_); (case side1 => exact Kd.R_V (Kd.R_tight rfl (Kd.R_apart' (D1.out) (Kd.R_typed D2.out) (by decide)))); rintro e w13 ⟨rfl, hb⟩; refine ⟨_, rfl, ?_⟩; replace D2 := Cmp.A (Kd.R_below (Cmp.rr D2.out) hb); replace D1 := Cmp.A (Kd.R_below (Cmp.rr D1.out) hb); replace HB := Cmp.bs HB hb; (try clear hb); (try clear hb2); (try clear hk); (try clear hi)) | ((with_reducible refine gate_builtin (b := .append) (xs := #[.tmp 16, .tmp 26]) rfl ?_); at_builtin; refine Kd.R_append (Kd.int .u8) (w0 := w) w.heap.size rfl (.tmp 16) (.tmp 26) 22 5 (.int .u8 0) 1 rfl Try.underlying22 info5 rfl (by decide) (by omega) u5 D3 ((Int.tmod (wrap64 ((wrap64 (rd l1 D0)) + D5)) 256) % 256) [.int .u8 ((Int.tmod (wrap64 ((wrap64 (rd l1 D0)) + D5)) 256) % 256)] (fun _ => True) (fun _ => False) rfl rfl ?aP (fun _ hk => hk.elim) ?aF ?aO ?aB ?aS ?aL ?_; (case aP => exact rfl); (case aB => exact (Cmp.g HB.out)); (case aF => exact (fun _ _ => trivial)); (case aO => exact (Cmp.rr D2.out)); (case aS => exact (below_size (Cmp.g HB.out))); (case aL => have := LMc9.out; omega); intro v427 w14 ho hb hg hat; rw [← Dd.out] at ho; have Dc := Cmp.A (ho); replace D1 := Cmp.A (Kd.R_over' (Cmp.rr D1.out) (Kd.R_typed (Cmp.rr D2.out)) (by decide) hg); replace HB := Cmp.A (hb); clear D2; clear ho hb hg hat))
       go_roundg k1
       case measure => have := HK1.out; omega
       case rel => exact ⟨(Dh), (wrap64 (D0 + 1)), (by first | rfl | simp | simp [*]), H', ⟨by have := HK1.out; omega⟩, ⟨Cmp.rr Dc.out⟩, ⟨Cmp.g HB.out⟩⟩
      ·rw [if_neg c9] at H; exact absurd H (by simp)
     ·rw [if_neg c7] at H; exact absurd H (by simp)
    ·rw [if_neg c6] at H; exact absurd H (by simp)
   ·rw [if_neg c5] at H
    have c5b0 : decide (D0 < (l1.length : Int)) = false := decide_eq_false c5
    clear c5
    obtain rfl := Option.some.inj H
    go_wp2
    go_ret
    exact ⟨_, by first | rfl | (simp [errW_none, errW_some] <;> rfl) | (simp [*, errW_none, errW_some] <;> rfl), by (with_reducible repeat (first | apply Kd.R_alloc | apply Kd.R_drewN | apply Kd.R_drew)); exact D2.out, Cmp.g HB.out⟩
/-! ### impl_orOne: function 103 -/
def impl_orOne.f (a0 : Int) : Option (Int) := if a0 = 0 then (some 1) else (some a0)
set_option maxHeartbeats 8000000 in
set_option maxRecDepth 100000 in
theorem impl_orOne.calls (a0 : Int) (r : Int) (w : World) (h : impl_orOne.f a0 = some r) :
    Calls Try.prog 103 #[.int .i64 a0] w fun e w' => e = .returned (.int .i64 r) ∧ Drawn0 w w' := by
 have H : (if a0 = 0 then (some 1) else (some a0)) = some r := h
 clear h
 by_cases c2 : a0 = 0
 ·rw [if_pos c2] at H; have c2b0 : (a0 == 0) = true := beq_iff_eq.mpr c2; have c2b1 : (a0 != 0) = false := bne_eq_false_iff_eq.mpr c2; clear c2
  obtain rfl := Option.some.inj H
  go_enter Try.func103, Try.ntmps103
  go_wp2
  go_ret
  exact ⟨by first | rfl | (simp; done) | (simp [*]; done), by repeat (first | exact Drawn0.refl _ | apply Drawn0.step)⟩
 ·rw [if_neg c2] at H; have c2b0 : (a0 == 0) = false := beq_eq_false_iff_ne.mpr c2; have c2b1 : (a0 != 0) = true := bne_iff_ne.mpr c2
  obtain rfl := Option.some.inj H
  go_enter Try.func103, Try.ntmps103
  go_wp2
  go_ret
  exact ⟨by first | rfl | (simp; done) | (simp [*]; done), by repeat (first | exact Drawn0.refl _ | apply Drawn0.step)⟩
/-! ### impl_DeriveKey: function 63 -/
def impl_DeriveKey.f (k : Nat) (a0 : Int) (l1 : List Int) : Option (Int) := (impl_joined.f k (([151] : List Int)) (([l1] : List (List Int)))).bind fun t435 => ((impl_KeyedHash.f k a0 t435).bind fun t438 => ((impl_orOne.f t438).bind fun t439 => (some t439)))
theorem impl_DeriveKey.mono : ∀ a0 a1 k, LeO (impl_DeriveKey.f k a0 a1) (impl_DeriveKey.f (k + 1) a0 a1) := by
  intro a0 a1 k
  unfold impl_DeriveKey.f
  repeat' first
 | (with_reducible exact impl_KeyedHash.mono _ _ _)
 | (with_reducible exact impl_joined.mono _ _ _)
 | (with_reducible exact LeO.refl _)
 | (with_reducible exact LeO.none _)
 | (with_reducible refine LeO.ite ?_ ?_)
 | (with_reducible refine LeO.bind ?_ (fun _ => ?_))
set_option maxHeartbeats 8000000 in
set_option maxRecDepth 100000 in
theorem impl_DeriveKey.calls (k : Nat) (a0 : Int) (P1_ : Nat → Prop) (A1 : Option Addr) (c1 : Nat) (l1 : List Int) (r : Int) (w : World) (hs1 : Kd.V (Kd.int .i64) 3 w w.heap.size (fun k_ => P1_ k_) (.slice A1 l1.length c1) l1) (h : impl_DeriveKey.f k a0 l1 = some r) :
    Calls Try.prog 63 #[.int .i64 a0, .slice A1 l1.length c1] w fun e w' => e = .returned (.int .i64 r) ∧ Below w.heap.size w w' := by
 have D6 := Cmp.A (show Kd.V (Kd.int .i64) 3 w w.heap.size (fun k_ => (P1_ k_ ∨ w.heap.size ≤ k_)) (.slice A1 l1.length c1) l1 from Kd.V_mono hs1 (fun k_ hk => .inl hk))
 have HB := Cmp.A (Below.refl w.heap.size w)
 have H : ((impl_joined.f k (([151] : List Int)) (([l1] : List (List Int)))).bind fun D2 => ((impl_KeyedHash.f k a0 D2).bind fun D3 => ((impl_orOne.f D3).bind fun D4 => (some D4)))) = some r := h
 clear h
 obtain ⟨D7, hy429⟩ : ∃ y_ : List Int, y_ = (([151] : List Int)) := ⟨_, rfl⟩
 replace H : ((impl_joined.f k D7 (([l1] : List (List Int)))).bind fun D2 => ((impl_KeyedHash.f k a0 D2).bind fun D3 => ((impl_orOne.f D3).bind fun D4 => (some D4)))) = some r := Cmp.hy hy429 H
 have D8 := Cmp.A hy429; clear hy429
 obtain ⟨Da, hy432⟩ : ∃ y_ : List (List Int), y_ = (([l1] : List (List Int))) := ⟨_, rfl⟩
 replace H : ((impl_joined.f k D7 Da).bind fun D2 => ((impl_KeyedHash.f k a0 D2).bind fun D3 => ((impl_orOne.f D3).bind fun D4 => (some D4)))) = some r := Cmp.hy hy432 H
 have D9 := Cmp.A hy432; clear hy432; replace H := Option.bind_eq_some_iff.mp H; obtain ⟨D2, Dn, H⟩ := H; (try dsimp only at H); have A3 := Cmp.A Dn; clear Dn; replace H := Option.bind_eq_some_iff.mp H; obtain ⟨D3, Do, H⟩ := H; (try dsimp only at H); have A4 := Cmp.A Do; clear Do; replace H := Option.bind_eq_some_iff.mp H; obtain ⟨D4, Dp, H⟩ := H; (try dsimp only at H); have A5 := Cmp.A Dp; clear Dp
 obtain rfl := Option.some.inj H
 go_enter Try.func63, Try.ntmps63
 go_wp2_with (first | ((with_reducible refine gate_dst (N := 6) rfl ?_); refine Kd.R_lit (Kd.int .i64) _ 3 ?hg (N := 6) ?hd (xs := ([151] : List Int)) (inner := [.int .i64 151]) (ok := fun _ => True) (okp := fun _ => True) ?hr ?hp (fun _ hk => hk) trivial (Below.refl _ _) (Nat.le_refl _) (by simp) ?_; (case hd => rfl); (case hg => rfl); (case hr => first | (go_simp; done) | (go_simp; rfl)); (case hp => exact (Reps.one (Cmp.mi 151) (Reps.none _ _))); intro v430 w6 Db hb hg_ hnew_; clear hg_ hnew_; (first | rw [← D8.out] at Db | (simp only [Int.reduceToNat] at Db; rw [← D8.out] at Db)); have D0 := Cmp.A (Kd.R_lower (Kd.R_newM (M := fun k_ => (w.heap.size ≤ k_)) Db (below_size (Cmp.g HB.out)) (fun k_ h_ => h_)) (below_size (Cmp.g HB.out))); replace D6 := Cmp.A (Kd.V_elder' (Cmp.rv D6.out) (Kd.R_base Db) hb); replace HB := Cmp.bs HB hb; clear hb Db) | ((with_reducible refine gate_dst (N := 8) rfl ?_); refine Kd.N_lit (Kd.slice 3 (Kd.int .i64)) _ 32 ?hg (N' := 8) ?hd (xs := ([l1] : List (List Int))) (inner := [.slice A1 l1.length c1]) (ok := (fun k_ => (P1_ k_ ∨ w.heap.size ≤ k_) ∧ some k_ ≠ (v430 : Value).ownBlock)) (okp := (fun k_ => (P1_ k_ ∨ w.heap.size ≤ k_) ∧ some k_ ≠ (v430 : Value).ownBlock)) ?hr ?hp (fun _ hk => hk) ((show ∀ k_, w6.heap.size ≤ k_ → (fun k_ => (P1_ k_ ∨ w.heap.size ≤ k_) ∧ some k_ ≠ (v430 : Value).ownBlock) k_ from fun k_ hk => ⟨(.inr (Nat.le_trans (below_size (Cmp.g HB.out)) hk)), Kd.fresh' (Kd.R_lt (Cmp.rr D0.out)) k_ hk⟩) _ (Nat.le_refl _)) (Below.refl _ _) (Nat.le_refl _) (by simp) ?_; (case hd => rfl); (case hg => rfl); (case hr => first | (go_simp; done) | (go_simp; rfl)); (case hp => exact (Reps.one (show Kd.FK (Kd.slice 3 (Kd.int .i64)) _ _ l1 [.slice A1 l1.length c1] from (Kd.FK_slice_mk (Kd.V_reads' (Kd.V_mono (ok' := (fun k_ => (P1_ k_ ∨ w.heap.size ≤ k_) ∧ some k_ ≠ (v430 : Value).ownBlock)) (D6.out) (fun k_ hk => ⟨hk.1, hk.2⟩))).2.1 (Kd.V_F (Kd.V_mono (ok' := (fun k_ => (P1_ k_ ∨ w.heap.size ≤ k_) ∧ some k_ ≠ (v430 : Value).ownBlock)) (D6.out) (fun k_ hk => ⟨hk.1, hk.2⟩))))) (Reps.none _ _))); intro v433 w8 Dc hb hg_ hnew_; clear hg_ hnew_; (first | rw [← D9.out] at Dc | (simp only [Int.reduceToNat] at Dc; rw [← D9.out] at Dc)); have D1 := Cmp.A (Kd.N_lower Dc (below_size (Cmp.g HB.out))); replace D6 := Cmp.A (Kd.V_elder' (Cmp.rv D6.out) (Kd.N_base Dc) hb); replace D0 := Cmp.A (Kd.R_below (Cmp.rr D0.out) hb); replace HB := Cmp.bs HB hb; clear hb Dc; obtain ⟨Dg, Di, Dk⟩ := Kd.R_slice D0.out; subst Dk; obtain ⟨Dh, Dj, Dl⟩ := Kd.N_slice D1.out; subst Dl) | ((with_reducible refine gate_callee (f := 104) rfl ?_); refine goesL_ (some 9) rfl rfl Try.func104 (by kernel_rfl) rfl #[.slice Dg D7.length Di, .slice Dh Da.length Dj] rfl Cmp.q ?_; (with_reducible refine (impl_joined.calls k _ _ D7 _ _ Da D2 _ ?side1 ?side2 ?side3 ?side4 A3.out).mono ?_); (case side1 => exact Cmp.rc (Kd.R_reads' D0.out).2.2); (case side2 => exact (Kd.R_reads' D0.out).2.1); (case side3 => exact Cmp.rc (Kd.N_reads' D1.out).2.2); (case side4 => exact (Kd.N_reads' D1.out).2.1); rintro e w12 ⟨v436, rfl, Df, hb⟩; refine ⟨_, rfl, ?_⟩; have D5 := Cmp.A (Kd.R_lower (Kd.R_new' (Kd.R_newM (M := fun k_ => (w.heap.size ≤ k_)) Df (below_size (Cmp.g HB.out)) (fun k_ h_ => h_)) (Kd.R_lt (Cmp.rr D0.out))) (below_size (Cmp.g HB.out))); replace D6 := Cmp.A (Kd.V_elder' (Cmp.rv D6.out) (Kd.R_base Df) hb); replace D0 := Cmp.A (Kd.R_elder' (Cmp.rr D0.out) (Kd.R_base Df) hb); replace D1 := Cmp.A (Kd.N_elder' (Cmp.rn D1.out) (Kd.R_base Df) hb); replace HB := Cmp.bs HB hb; (try clear hb); (try clear hb2); (try clear hk); (try clear hi); (try clear Df); obtain ⟨Dd, De, Dm⟩ := Kd.R_slice D5.out; subst Dm) | ((with_reducible refine gate_callee (f := 102) rfl ?_); refine goesL_ (some 10) rfl rfl Try.func102 (by kernel_rfl) rfl #[.int .i64 a0, .slice Dd D2.length De] rfl Cmp.q ?_; (with_reducible refine (impl_KeyedHash.calls k a0 (fun k_ => some k_ = (.slice Dd D2.length De : Value).ownBlock) _ _ D2 D3 _ ?side1 A4.out).mono ?_); (case side1 => exact Kd.R_V (Kd.R_tight rfl (Kd.R_apart' (D5.out) (Kd.N_typed D1.out) (by decide)))); rintro e w14 ⟨rfl, hb⟩; refine ⟨_, rfl, ?_⟩; replace D6 := Cmp.A (Kd.V_below (Cmp.rv D6.out) hb); replace D0 := Cmp.A (Kd.R_below (Cmp.rr D0.out) hb); replace D1 := Cmp.A (Kd.N_below (Cmp.rn D1.out) hb); replace D5 := Cmp.A (Kd.R_below (Cmp.rr D5.out) hb); replace HB := Cmp.bs HB hb; (try clear hb); (try clear hb2); (try clear hk); (try clear hi)) | ((with_reducible refine gate_callee (f := 103) rfl ?_); refine goesL_ (some 11) rfl rfl Try.func103 (by kernel_rfl) rfl #[.int .i64 D3] rfl Cmp.q ?_; (with_reducible refine (impl_orOne.calls D3 D4 _ A5.out).mono ?_); rintro e w' ⟨rfl, ⟨nd, rfl⟩⟩; refine ⟨_, rfl, ?_⟩))
 go_ret
 exact ⟨by first | rfl | (simp [errW_none, errW_some] <;> rfl) | (simp [*, errW_none, errW_some] <;> rfl), Cmp.g HB.out⟩
/-! ### impl_BytesToInts: function 105 -/
def impl_BytesToInts.l0 : Nat → List Int → List Int → Int → Int → Option (List Int)
  | 0, _, _, _, _ => none
  | k + 1, x3, x9, x10, x11 => if x11 < x10 then (if 0 ≤ x11 then (if x11 < (x9.length : Int) then (if x3.length < 17592186044416 then (impl_BytesToInts.l0 k (x3 ++ [wrap64 (rd x9 x11)]) x9 x10 (wrap64 (x11 + 1))) else (none)) else (none)) else (none)) else (some x3)
def impl_BytesToInts.f (k : Nat) (l0 : List Int) : Option (List Int) := impl_BytesToInts.l0 k (([(l0.length : Int)] : List Int)) l0 (l0.length : Int) 0
theorem impl_BytesToInts.mono_l : ∀ k, (∀ y0 y1 y2 y3, LeO (impl_BytesToInts.l0 k y0 y1 y2 y3) (impl_BytesToInts.l0 (k + 1) y0 y1 y2 y3))
 | 0 => fun _ _ _ _ r h => by simp [impl_BytesToInts.l0] at h
 | k + 1 => by
    have ih0 := impl_BytesToInts.mono_l k
    · intro y0 y1 y2 y3
      unfold impl_BytesToInts.l0
      repeat' first
 | (with_reducible exact ih0 _ _ _ _)
 | (with_reducible exact LeO.refl _)
 | (with_reducible exact LeO.none _)
 | (with_reducible refine LeO.ite ?_ ?_)
 | (with_reducible refine LeO.bind ?_ (fun _ => ?_))
theorem impl_BytesToInts.mono : ∀ a0 k, LeO (impl_BytesToInts.f k a0) (impl_BytesToInts.f (k + 1) a0) := by
  intro a0 k
  have ih0 := impl_BytesToInts.mono_l k
  unfold impl_BytesToInts.f
  repeat' first
 | (with_reducible exact ih0 _ _ _ _)
 | (with_reducible exact LeO.refl _)
 | (with_reducible exact LeO.none _)
 | (with_reducible refine LeO.ite ?_ ?_)
 | (with_reducible refine LeO.bind ?_ (fun _ => ?_))
set_option maxHeartbeats 8000000 in
set_option maxRecDepth 100000 in
theorem impl_BytesToInts.calls (k : Nat) (A0 : Option Addr) (c0 : Nat) (l0 : List Int) (r : List Int) (w : World) (hr0 : Kd.C (Kd.int .u8) w A0 l0.length l0) (hc0 : l0.length ≤ c0) (h : impl_BytesToInts.f k l0 = some r) :
    Calls Try.prog 105 #[.slice A0 l0.length c0] w fun e w' => ∃ v0_ : Value, e = .returned (v0_) ∧ Kd.R (Kd.int .i64) 3 w' w.heap.size (fun _ => True) v0_ r ∧ Below w.heap.size w w' := by
 have HR0 := Cmp.A hr0; have HC0 := Cmp.A hc0; clear hr0 hc0
 have HB := Cmp.A (Below.refl w.heap.size w)
 have H : (impl_BytesToInts.l0 k (([(l0.length : Int)] : List Int)) l0 (l0.length : Int) 0) = some r := h
 clear h
 obtain ⟨D9, hy440⟩ : ∃ y_ : List Int, y_ = (([(l0.length : Int)] : List Int)) := ⟨_, rfl⟩
 replace H : (impl_BytesToInts.l0 k D9 l0 (l0.length : Int) 0) = some r := Cmp.hy hy440 H
 have D3 := Cmp.A hy440; clear hy440
 have H' := Cmp.A H
 clear H
 go_enter Try.func105, Try.ntmps105
 go_wp2_with (first | ((with_reducible refine gate_dst (N := 8) rfl ?_); refine Kd.R_lit (Kd.int .i64) _ 3 ?hg (N := 8) ?hd (xs := ([(l0.length : Int)] : List Int)) (inner := [.int .i64 (l0.length : Int)]) (ok := fun _ => True) (okp := fun _ => True) ?hr ?hp (fun _ hk => hk) trivial (Below.refl _ _) (Nat.le_refl _) (by simp) ?_; (case hd => rfl); (case hg => rfl); (case hr => first | (go_simp; done) | (go_simp; rfl)); (case hp => exact (Reps.one (Cmp.mi (l0.length : Int)) (Reps.none _ _))); intro v441 w2 D8 hb hg_ hnew_; clear hg_ hnew_; (first | rw [← D3.out] at D8 | (simp only [Int.reduceToNat] at D8; rw [← D3.out] at D8)); have D5 := Cmp.A (Kd.R_lower D8 (below_size (Cmp.g HB.out))); replace HB := Cmp.bs HB hb; clear hb D8))
 go_loopg [3, 11] k (fun kq v3 v11 w' => ∃ (D2 : List Int) (D0 : Int), v11 = .int .i64 D0 ∧ Aside0 (impl_BytesToInts.l0 kq D2 l0 (l0.length : Int) D0 = some r) ∧ Aside0 (kq ≤ k) ∧ Aside0 (Kd.R (Kd.int .i64) 3 w' w.heap.size (fun _ => True) v3 D2) ∧ Aside0 (Below w.heap.size w w'))
 case atStart => exact ⟨(D9), (0), (by first | rfl | simp | simp [*]), H', ⟨Nat.le_refl _⟩, ⟨Cmp.rr D5.out⟩, ⟨Cmp.g HB.out⟩⟩
 case round =>
  clear H'
  (try clear c1); (try clear p2)
  obtain ⟨D2, D0, rfl, HA, HK1, D4, HB⟩ := hrel
  cases gk with
  | zero => exact absurd HA.out (by simp [impl_BytesToInts.l0])
  | succ k1 =>
   have H := HA.out; clear HA
   simp only [impl_BytesToInts.l0] at H
   by_cases c4 : D0 < (l0.length : Int)
   ·rw [if_pos c4] at H
    have c4b0 : decide (D0 < (l0.length : Int)) = true := decide_eq_true c4
    clear c4
    by_cases c5 : 0 ≤ D0
    ·rw [if_pos c5] at H; have c5b0 : decide (0 ≤ D0) = true := decide_eq_true c5; clear c5
     by_cases c6 : D0 < (l0.length : Int)
     ·rw [if_pos c6] at H
      have c6b0 : decide (D0 < (l0.length : Int)) = true := decide_eq_true c6
      clear c6
      by_cases c7 : D2.length < 17592186044416
      ·rw [if_pos c7] at H; have LMc7 := Cmp.A c7; clear c7
       obtain ⟨Da, hy444⟩ : ∃ y_ : List Int, y_ = (D2 ++ [wrap64 (rd l0 D0)]) := ⟨_, rfl⟩
       replace H : (impl_BytesToInts.l0 k1 Da l0 (l0.length : Int) (wrap64 (D0 + 1))) = some r := Cmp.hy hy444 H
       have D7 := Cmp.A hy444; clear hy444
       have H' := Cmp.A H
       clear H
       have p443 : 0 ≤ (D0 : Int) := of_decide_eq_true Cmp.d
       have q443 : D0 < (l0.length : Int) := of_decide_eq_true Cmp.d
       obtain ⟨Db, e443, D1⟩ := Kd.at_int HR0.out D0 p443 q443
       cases e443
       replace D1 := Cmp.hc HB D1
       replace p443 := eq_true p443; replace q443 := eq_true q443
       go_wp2_with (first | ((with_reducible refine gate_builtin (b := .append) (xs := #[.tmp 15, .tmp 18]) rfl ?_); at_builtin; refine Kd.R_append (Kd.int .i64) (w0 := w) w.heap.size rfl (.tmp 15) (.tmp 18) 32 3 (.int .i64 0) 8 rfl Try.underlying32 info3 rfl (by decide) (by omega) u3 D2 (wrap64 (rd l0 D0)) [.int .i64 (wrap64 (rd l0 D0))] (fun _ => True) (fun _ => False) rfl rfl ?aP (fun _ hk => hk.elim) ?aF ?aO ?aB ?aS ?aL ?_; (case aP => exact rfl); (case aB => exact (Cmp.g HB.out)); (case aF => exact (fun _ _ => trivial)); (case aO => exact (Cmp.rr D4.out)); (case aS => exact (below_size (Cmp.g HB.out))); (case aL => have := LMc7.out; omega); intro v445 w8 ho hb hg hat; rw [← D7.out] at ho; have D6 := Cmp.A (ho); replace HB := Cmp.A (hb); clear D4; clear ho hb hg hat))
       go_roundg k1
       case measure => have := HK1.out; omega
       case rel => exact ⟨(Da), (wrap64 (D0 + 1)), (by first | rfl | simp | simp [*]), H', ⟨by have := HK1.out; omega⟩, ⟨Cmp.rr D6.out⟩, ⟨Cmp.g HB.out⟩⟩
      ·rw [if_neg c7] at H; exact absurd H (by simp)
     ·rw [if_neg c6] at H; exact absurd H (by simp)
    ·rw [if_neg c5] at H; exact absurd H (by simp)
   ·rw [if_neg c4] at H
    have c4b0 : decide (D0 < (l0.length : Int)) = false := decide_eq_false c4
    clear c4
    obtain rfl := Option.some.inj H
    go_wp2
    go_ret
    exact ⟨_, by first | rfl | (simp [errW_none, errW_some] <;> rfl) | (simp [*, errW_none, errW_some] <;> rfl), by (with_reducible repeat (first | apply Kd.R_alloc | apply Kd.R_drewN | apply Kd.R_drew)); exact D4.out, Cmp.g HB.out⟩
end Go.Proofs.Ytpgjecknkmmnhaa.PFnSealedBundles

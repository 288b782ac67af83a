/- Printed functions of the program, out of print.sh, told more shortly. No condition. -/
import Derived.Test.YtpgjecknkmmnhaaCmp
import Derived.Test.YtpgjecknkmmnhaaPFnSealedBundlesx0
import Derived.Test.YtpgjecknkmmnhaaPFnSealedBundlesx2
namespace Go.Proofs.Ytpgjecknkmmnhaa.PFnSealedBundles
open Go.Proofs.Ytpgjecknkmmnhaa
open Go.RowKit Go.Proofs.YtpgjecknkmmnhaaW.PrintWords Go.Proofs.YtpgjecknkmmnhaaW.PrintLast Go.Proofs.YtpgjecknkmmnhaaW.PrintMore
attribute [local go_sem] max2_int min2_int max_two min_two max_three min_three max_four min_four   -- for this text's walks alone
set_option linter.unusedVariables false
set_option linter.unusedSimpArgs false
/-! ### spec_IsValidKey: function 106 -/
def spec_IsValidKey.f (a0 : Int) : Option (Bool) := (spec_l1In.f a0 1 2147483646).bind fun t479 => (some t479)
set_option maxHeartbeats 8000000 in
set_option maxRecDepth 100000 in
theorem spec_IsValidKey.calls (a0 : Int) (r : Bool) (w : World) (h : spec_IsValidKey.f a0 = some r) :
    Calls Try.prog 106 #[.int .i64 a0] w fun e w' => e = .returned (.bool r) ∧ Drawn0 w w' := by
 have H : ((spec_l1In.f a0 1 2147483646).bind fun D0 => (some D0)) = some r := h
 clear h; replace H := Option.bind_eq_some_iff.mp H; obtain ⟨D0, D1, H⟩ := H; (try dsimp only at H); have A2 := Cmp.A D1; clear D1
 obtain rfl := Option.some.inj H
 go_enter Try.func106, Try.ntmps106
 go_wp2_with (first | ((with_reducible refine gate_callee (f := 99) rfl ?_); refine goesL_ (some 4) rfl rfl Try.func99 (by kernel_rfl) rfl #[.int .i64 a0, .int .i64 1, .int .i64 2147483646] rfl Cmp.q ?_; (with_reducible refine (spec_l1In.calls a0 1 2147483646 D0 _ A2.out).mono ?_); rintro e w' ⟨rfl, ⟨nd, rfl⟩⟩; refine ⟨_, rfl, ?_⟩))
 go_ret
 exact ⟨by first | rfl | (simp; done) | (simp [*]; done), by repeat (first | exact Drawn0.refl _ | apply Drawn0.step)⟩
/-! ### spec_l18Range: function 65 -/
def spec_l18Range.f (a0 : Int) (a1 : Int) (a2 : Int) : Option (Bool) := (spec_IsValidKey.f a0).bind fun t480 => (if t480 = true then ((spec_l1In.f a1 0 1000000).bind fun t481 => (if t481 = true then ((spec_l1In.f a2 0 1000000).bind fun t482 => (some t482)) else (some false))) else (some false))
set_option maxHeartbeats 8000000 in
set_option maxRecDepth 100000 in
theorem spec_l18Range.calls (a0 : Int) (a1 : Int) (a2 : Int) (r : Bool) (w : World) (h : spec_l18Range.f a0 a1 a2 = some r) :
    Calls Try.prog 65 #[.int .i64 a0, .int .i64 a1, .int .i64 a2] w fun e w' => e = .returned (.bool r) ∧ Drawn0 w w' := by
 have H : ((spec_IsValidKey.f a0).bind fun D0 => (if D0 = true then ((spec_l1In.f a1 0 1000000).bind fun D1 => (if D1 = true then ((spec_l1In.f a2 0 1000000).bind fun D2 => (some D2)) else (some false))) else (some false))) = some r := h
 clear h; replace H := Option.bind_eq_some_iff.mp H; obtain ⟨D0, D3, H⟩ := H; (try dsimp only at H); have A4 := Cmp.A D3; clear D3
 by_cases c5 : D0 = true
 ·subst c5; rw [if_pos rfl] at H; replace H := Option.bind_eq_some_iff.mp H; obtain ⟨D1, D4, H⟩ := H; (try dsimp only at H); have A6 := Cmp.A D4; clear D4
  by_cases c7 : D1 = true
  ·subst c7; rw [if_pos rfl] at H; replace H := Option.bind_eq_some_iff.mp H; obtain ⟨D2, D5, H⟩ := H; (try dsimp only at H); have A8 := Cmp.A D5; clear D5
   obtain rfl := Option.some.inj H
   go_enter Try.func65, Try.ntmps65
   go_wp2_with (first | ((with_reducible refine gate_callee (f := 106) rfl ?_); refine goesL_ (some 8) rfl rfl Try.func106 (by kernel_rfl) rfl #[.int .i64 a0] rfl Cmp.q ?_; (with_reducible refine (spec_IsValidKey.calls a0 true _ A4.out).mono ?_); rintro e w' ⟨rfl, ⟨nd, rfl⟩⟩; refine ⟨_, rfl, ?_⟩) | (go_at_call 99; (with_reducible refine (spec_l1In.calls a1 0 1000000 true _ A6.out).mono ?_); rintro e w' ⟨rfl, ⟨nd, rfl⟩⟩) | (go_at_call 99; (with_reducible refine (spec_l1In.calls a2 0 1000000 D2 _ A8.out).mono ?_); rintro e w' ⟨rfl, ⟨nd, rfl⟩⟩))
   go_ret
   exact ⟨by first | rfl | (simp; done) | (simp [*]; done), by repeat (first | exact Drawn0.refl _ | apply Drawn0.step)⟩
  ·replace c7 := Bool.eq_false_iff.mpr c7
   subst c7
   have H1 : (some false) = some r := by rw [if_neg (show ¬ (false = true) by decide)] at H; exact H
   clear H; have H := H1; clear H1
   obtain rfl := Option.some.inj H
   go_enter Try.func65, Try.ntmps65
   go_wp2_with (first | ((with_reducible refine gate_callee (f := 106) rfl ?_); refine goesL_ (some 8) rfl rfl Try.func106 (by kernel_rfl) rfl #[.int .i64 a0] rfl Cmp.q ?_; (with_reducible refine (spec_IsValidKey.calls a0 true _ A4.out).mono ?_); rintro e w' ⟨rfl, ⟨nd, rfl⟩⟩; refine ⟨_, rfl, ?_⟩) | (go_at_call 99; (with_reducible refine (spec_l1In.calls a1 0 1000000 false _ A6.out).mono ?_); rintro e w' ⟨rfl, ⟨nd, rfl⟩⟩))
   go_ret
   exact ⟨by first | rfl | (simp; done) | (simp [*]; done), by repeat (first | exact Drawn0.refl _ | apply Drawn0.step)⟩
 ·replace c5 := Bool.eq_false_iff.mpr c5
  subst c5
  have H1 : (some false) = some r := by rw [if_neg (show ¬ (false = true) by decide)] at H; exact H
  clear H; have H := H1; clear H1
  obtain rfl := Option.some.inj H
  go_enter Try.func65, Try.ntmps65
  go_wp2_with (first | ((with_reducible refine gate_callee (f := 106) rfl ?_); refine goesL_ (some 8) rfl rfl Try.func106 (by kernel_rfl) rfl #[.int .i64 a0] rfl Cmp.q ?_; (with_reducible refine (spec_IsValidKey.calls a0 false _ A4.out).mono ?_); rintro e w' ⟨rfl, ⟨nd, rfl⟩⟩; refine ⟨_, rfl, ?_⟩))
  go_ret
  exact ⟨by first | rfl | (simp; done) | (simp [*]; done), by repeat (first | exact Drawn0.refl _ | apply Drawn0.step)⟩
/-! ### spec_Mod: function 117 -/
def spec_Mod.f (a0 : Int) (a1 : Int) : Option (Int) := (spec_l1In.f a1 1 1000000000000).bind fun t483 => (if t483 = true then (if a1 = 0 then (none) else (some (Int.tmod (wrap64 ((Int.tmod a0 a1) + a1)) a1))) else (some 0))
set_option maxHeartbeats 8000000 in
set_option maxRecDepth 100000 in
theorem spec_Mod.calls (a0 : Int) (a1 : Int) (r : Int) (w : World) (h : spec_Mod.f a0 a1 = some r) :
    Calls Try.prog 117 #[.int .i64 a0, .int .i64 a1] w fun e w' => e = .returned (.int .i64 r) ∧ Drawn0 w w' := by
 have H : ((spec_l1In.f a1 1 1000000000000).bind fun D0 => (if D0 = true then (if a1 = 0 then (none) else (some (Int.tmod (wrap64 ((Int.tmod a0 a1) + a1)) a1))) else (some 0))) = some r := h
 clear h; replace H := Option.bind_eq_some_iff.mp H; obtain ⟨D0, D1, H⟩ := H; (try dsimp only at H); have A3 := Cmp.A D1; clear D1
 by_cases c4 : D0 = true
 ·subst c4; rw [if_pos rfl] at H
  by_cases c5 : a1 = 0
  ·rw [if_pos c5] at H; exact absurd H (by simp)
  ·rw [if_neg c5] at H; have c5b0 : (a1 == 0) = false := beq_eq_false_iff_ne.mpr c5; have c5b1 : (a1 != 0) = true := bne_iff_ne.mpr c5
   obtain rfl := Option.some.inj H
   go_enter Try.func117, Try.ntmps117
   go_wp2_with (first | ((with_reducible refine gate_callee (f := 99) rfl ?_); refine goesL_ (some 6) rfl rfl Try.func99 (by kernel_rfl) rfl #[.int .i64 a1, .int .i64 1, .int .i64 1000000000000] rfl Cmp.q ?_; (with_reducible refine (spec_l1In.calls a1 1 1000000000000 true _ A3.out).mono ?_); rintro e w' ⟨rfl, ⟨nd, rfl⟩⟩; refine ⟨_, rfl, ?_⟩))
   go_ret
   exact ⟨by first | rfl | (simp; done) | (simp [*]; done), by repeat (first | exact Drawn0.refl _ | apply Drawn0.step)⟩
 ·replace c4 := Bool.eq_false_iff.mpr c4
  subst c4
  have H1 : (some 0) = some r := by rw [if_neg (show ¬ (false = true) by decide)] at H; exact H
  clear H; have H := H1; clear H1
  obtain rfl := Option.some.inj H
  go_enter Try.func117, Try.ntmps117
  go_wp2_with (first | ((with_reducible refine gate_callee (f := 99) rfl ?_); refine goesL_ (some 6) rfl rfl Try.func99 (by kernel_rfl) rfl #[.int .i64 a1, .int .i64 1, .int .i64 1000000000000] rfl Cmp.q ?_; (with_reducible refine (spec_l1In.calls a1 1 1000000000000 false _ A3.out).mono ?_); rintro e w' ⟨rfl, ⟨nd, rfl⟩⟩; refine ⟨_, rfl, ?_⟩))
  go_ret
  exact ⟨by first | rfl | (simp; done) | (simp [*]; done), by repeat (first | exact Drawn0.refl _ | apply Drawn0.step)⟩
/-! ### spec_Hash: function 97 -/
def spec_Hash.l0 : Nat → List Int → Int → Int → Option (Int)
  | 0, _, _, _ => none
  | k + 1, x0, x3, x4 => if x4 < (x0.length : Int) then (if 0 ≤ x4 then ((spec_Mod.f (rd x0 x4) 2147483647).bind fun t485 => (spec_Hash.l0 k x0 (Int.tmod (wrap64 ((wrap64 ((wrap64 (x3 * 1000003)) + t485)) + 13)) 2147483647) (wrap64 (x4 + 1)))) else (none)) else (some x3)
def spec_Hash.f (k : Nat) (l0 : List Int) : Option (Int) := spec_Hash.l0 k l0 11 0
theorem spec_Hash.mono_l : ∀ k, (∀ y0 y1 y2, LeO (spec_Hash.l0 k y0 y1 y2) (spec_Hash.l0 (k + 1) y0 y1 y2))
 | 0 => fun _ _ _ r h => by simp [spec_Hash.l0] at h
 | k + 1 => by
    have ih0 := spec_Hash.mono_l k
    · intro y0 y1 y2
      unfold spec_Hash.l0
      repeat' first
 | (with_reducible exact ih0 _ _ _)
 | (with_reducible exact LeO.refl _)
 | (with_reducible exact LeO.none _)
 | (with_reducible refine LeO.ite ?_ ?_)
 | (with_reducible refine LeO.bind ?_ (fun _ => ?_))
theorem spec_Hash.mono : ∀ a0 k, LeO (spec_Hash.f k a0) (spec_Hash.f (k + 1) a0) := by
  intro a0 k
  have ih0 := spec_Hash.mono_l k
  unfold spec_Hash.f
  repeat' first
 | (with_reducible exact ih0 _ _ _)
 | (with_reducible exact LeO.refl _)
 | (with_reducible exact LeO.none _)
 | (with_reducible refine LeO.ite ?_ ?_)
 | (with_reducible refine LeO.bind ?_ (fun _ => ?_))
set_option maxHeartbeats 8000000 in
set_option maxRecDepth 100000 in
theorem spec_Hash.calls (k : Nat) (A0 : Option Addr) (c0 : Nat) (l0 : List Int) (r : Int) (w : World) (hr0 : Kd.C (Kd.int .i64) w A0 l0.length l0) (hc0 : l0.length ≤ c0) (h : spec_Hash.f k l0 = some r) :
    Calls Try.prog 97 #[.slice A0 l0.length c0] w fun e w' => e = .returned (.int .i64 r) ∧ Drawn0 w w' := by
 have HR0 := Cmp.A hr0; have HC0 := Cmp.A hc0; clear hr0 hc0
 have H : (spec_Hash.l0 k l0 11 0) = some r := h
 clear h
 have H' := Cmp.A H
 clear H
 go_enter Try.func97, Try.ntmps97
 go_wp2
 go_loopg [3, 4] k (fun kq v3 v4 w' => ∃ (D1 : Int) (D0 : Int), v3 = .int .i64 D1 ∧ v4 = .int .i64 D0 ∧ Aside0 (spec_Hash.l0 kq l0 D1 D0 = some r) ∧ Aside0 (kq ≤ k) ∧ Drawn0 w w')
 case atStart => exact ⟨(11), (0), (by first | rfl | simp | simp [*]), (by first | rfl | simp | simp [*]), H', ⟨Nat.le_refl _⟩, by repeat (first | exact Drawn0.refl _ | apply Drawn0.step)⟩
 case round =>
  clear H'
  obtain ⟨D1, D0, rfl, rfl, HA, HK1, ⟨m1, rfl⟩⟩ := hrel
  cases gk with
  | zero => exact absurd HA.out (by simp [spec_Hash.l0])
  | succ k1 =>
   have H := HA.out; clear HA
   simp only [spec_Hash.l0] at H
   by_cases c2 : D0 < (l0.length : Int)
   ·rw [if_pos c2] at H
    have c2b0 : decide (D0 < (l0.length : Int)) = true := decide_eq_true c2
    clear c2
    by_cases c3 : 0 ≤ D0
    ·rw [if_pos c3] at H; have c3b0 : decide (0 ≤ D0) = true := decide_eq_true c3; clear c3; replace H := Option.bind_eq_some_iff.mp H; obtain ⟨D2, D4, H⟩ := H; (try dsimp only at H); have A4 := Cmp.A D4; clear D4
     have H' := Cmp.A H
     clear H
     have p484 : 0 ≤ (D0 : Int) := of_decide_eq_true Cmp.d
     have q484 : D0 < (l0.length : Int) := of_decide_eq_true Cmp.d
     obtain ⟨D5, e484, D3⟩ := Kd.at_int HR0.out D0 p484 q484
     cases e484; replace p484 := eq_true p484; replace q484 := eq_true q484
     go_wp2_with (first | ((with_reducible refine gate_callee (f := 117) rfl ?_); refine goesL_ (some 17) rfl rfl Try.func117 (by kernel_rfl) rfl #[.int .i64 (rd l0 D0), .int .i64 2147483647] rfl Cmp.q ?_; (with_reducible refine (spec_Mod.calls (rd l0 D0) 2147483647 D2 _ A4.out).mono ?_); rintro e w' ⟨rfl, ⟨nd, rfl⟩⟩; refine ⟨_, rfl, ?_⟩))
     go_roundg k1
     case measure => have := HK1.out; omega
     case rel => exact ⟨(Int.tmod (wrap64 ((wrap64 ((wrap64 (D1 * 1000003)) + D2)) + 13)) 2147483647), (wrap64 (D0 + 1)), (by first | rfl | simp | simp [*]), (by first | rfl | simp | simp [*]), H', ⟨by have := HK1.out; omega⟩, by repeat (first | exact Drawn0.refl _ | apply Drawn0.step)⟩
    ·rw [if_neg c3] at H; exact absurd H (by simp)
   ·rw [if_neg c2] at H
    have c2b0 : decide (D0 < (l0.length : Int)) = false := decide_eq_false c2
    clear c2
    obtain rfl := Option.some.inj H
    go_wp2
    go_ret
    exact ⟨by first | rfl | (simp; done) | (simp [*]; done), by repeat (first | exact Drawn0.refl _ | apply Drawn0.step)⟩
/-! ### spec_KeyedHash: function 108 -/
def spec_KeyedHash.f (k : Nat) (a0 : Int) (l1 : List Int) : Option (Int) := (some (([a0] : List Int) : List Int)).bind fun y486 => (if y486.length + l1.length < 17592186044416 then ((some (y486 ++ l1 : List Int)).bind fun y489 => (if y489.length < 17592186044416 then ((spec_Hash.f k (y489 ++ [a0])).bind fun t495 => (some t495)) else (none))) else (none))
theorem spec_KeyedHash.mono : ∀ a0 a1 k, LeO (spec_KeyedHash.f k a0 a1) (spec_KeyedHash.f (k + 1) a0 a1) := by
  intro a0 a1 k
  unfold spec_KeyedHash.f
  repeat' first
 | (with_reducible exact spec_Hash.mono _ _)
 | (with_reducible exact LeO.refl _)
 | (with_reducible exact LeO.none _)
 | (with_reducible refine LeO.ite ?_ ?_)
 | (with_reducible refine LeO.bind ?_ (fun _ => ?_))
set_option maxHeartbeats 8000000 in
set_option maxRecDepth 100000 in
theorem spec_KeyedHash.calls (k : Nat) (a0 : Int) (A1 : Option Addr) (c1 : Nat) (l1 : List Int) (r : Int) (w : World) (hr1 : Kd.C (Kd.int .i64) w A1 l1.length l1) (hc1 : l1.length ≤ c1) (h : spec_KeyedHash.f k a0 l1 = some r) :
    Calls Try.prog 108 #[.int .i64 a0, .slice A1 l1.length c1] w fun e w' => e = .returned (.int .i64 r) ∧ Below w.heap.size w w' := by
 have HR1 := Cmp.A hr1; have HC1 := Cmp.A hc1; clear hr1 hc1
 have HB := Cmp.A (Below.refl w.heap.size w)
 have H : ((some (([a0] : List Int) : List Int)).bind fun D2 => (if D2.length + l1.length < 17592186044416 then ((some (D2 ++ l1 : List Int)).bind fun D0 => (if D0.length < 17592186044416 then ((spec_Hash.f k (D0 ++ [a0])).bind fun D1 => (some D1)) else (none))) else (none))) = some r := h
 clear h
 obtain ⟨D2, hy486⟩ : ∃ y_ : List Int, y_ = (([a0] : List Int)) := ⟨_, rfl⟩
 replace H : (if D2.length + l1.length < 17592186044416 then ((some (D2 ++ l1 : List Int)).bind fun D0 => (if D0.length < 17592186044416 then ((spec_Hash.f k (D0 ++ [a0])).bind fun D1 => (some D1)) else (none))) else (none)) = some r := Cmp.hy hy486 H
 have D6 := Cmp.A hy486; clear hy486
 by_cases c3 : D2.length + l1.length < 17592186044416
 ·rw [if_pos c3] at H; have LMc3 := Cmp.A c3; clear c3
  obtain ⟨D0, hy489⟩ : ∃ y_ : List Int, y_ = (D2 ++ l1) := ⟨_, rfl⟩
  replace H : (if D0.length < 17592186044416 then ((spec_Hash.f k (D0 ++ [a0])).bind fun D1 => (some D1)) else (none)) = some r := Cmp.hy hy489 H
  have D8 := Cmp.A hy489; clear hy489
  by_cases c4 : D0.length < 17592186044416
  ·rw [if_pos c4] at H; have LMc4 := Cmp.A c4; clear c4
   obtain ⟨D7, hy492⟩ : ∃ y_ : List Int, y_ = (D0 ++ [a0]) := ⟨_, rfl⟩
   replace H : ((spec_Hash.f k D7).bind fun D1 => (some D1)) = some r := Cmp.hy hy492 H
   have D9 := Cmp.A hy492; clear hy492; replace H := Option.bind_eq_some_iff.mp H; obtain ⟨D1, De, H⟩ := H; (try dsimp only at H); have A5 := Cmp.A De; clear De
   obtain rfl := Option.some.inj H
   go_enter Try.func108, Try.ntmps108
   go_wp2_with (first | ((with_reducible refine gate_dst (N := 6) rfl ?_); refine Kd.R_lit (Kd.int .i64) _ 3 ?hg (N := 6) ?hd (xs := ([a0] : List Int)) (inner := [.int .i64 a0]) (ok := fun _ => True) (okp := fun _ => True) ?hr ?hp (fun _ hk => hk) trivial (Below.refl _ _) (Nat.le_refl _) (by simp) ?_; (case hd => rfl); (case hg => rfl); (case hr => first | (go_simp; done) | (go_simp; rfl)); (case hp => exact (Reps.one (Cmp.mi a0) (Reps.none _ _))); intro v487 w6 Da hb hg_ hnew_; clear hg_ hnew_; (first | rw [← D6.out] at Da | (simp only [Int.reduceToNat] at Da; rw [← D6.out] at Da)); have D4 := Cmp.A (Kd.R_lower Da (below_size (Cmp.g HB.out))); replace HB := Cmp.bs HB hb; clear hb Da) | ((with_reducible refine gate_builtin (b := .append) (xs := #[.tmp 6, .tmp 7]) rfl ?_); at_builtin; refine Kd.R_append_rows (Kd.int .i64) (w0 := w) w.heap.size rfl (.tmp 6) (.tmp 7) 32 3 (.int .i64 0) 8 rfl Try.underlying32 info3 rfl (by decide) (by omega) v487 D2 l1 _ _ _ (fun _ => True) (fun _ => False) rfl rfl ?aO ?aR (fun _ _ h => h) (fun _ h => h.elim) ?aF ?aB ?aS ?aL ?_; (case aR => repeat (first | exact (Kd.C_below HR1.out HB.out) | (with_reducible refine Kd.C_alloc ?_ _) | (with_reducible refine Kd.C_drewN ?_ _) | (with_reducible refine Kd.C_drew ?_))); (case aB => exact (Cmp.g HB.out)); (case aF => exact (fun _ _ => trivial)); (case aO => exact (Cmp.rr D4.out)); (case aS => exact (below_size (Cmp.g HB.out))); (case aL => have := LMc3.out; omega); intro v490 w8 ho hb hg hat; rw [← D8.out] at ho; have D5 := Cmp.A (ho); replace HB := Cmp.A (hb); clear D4; clear ho hb hg hat) | ((with_reducible refine gate_builtin (b := .append) (xs := #[.tmp 8, .tmp 10]) rfl ?_); at_builtin; refine Kd.R_append (Kd.int .i64) (w0 := w) w.heap.size rfl (.tmp 8) (.tmp 10) 32 3 (.int .i64 0) 8 rfl Try.underlying32 info3 rfl (by decide) (by omega) v490 D0 a0 [.int .i64 a0] (fun _ => True) (fun _ => False) rfl rfl ?aP (fun _ hk => hk.elim) ?aF ?aO ?aB ?aS ?aL ?_; (case aP => exact rfl); (case aB => exact (Cmp.g HB.out)); (case aF => exact (fun _ _ => trivial)); (case aO => exact (Cmp.rr D5.out)); (case aS => exact (below_size (Cmp.g HB.out))); (case aL => have := LMc4.out; omega); intro v493 w9 ho hb hg hat; rw [← D9.out] at ho; have D3 := Cmp.A (ho); replace HB := Cmp.A (hb); clear D5; clear ho hb hg hat; obtain ⟨Db, Dc, Dd⟩ := Kd.R_slice D3.out; subst Dd) | ((with_reducible refine gate_callee (f := 97) rfl ?_); refine goesL_ (some 12) rfl rfl Try.func97 (by kernel_rfl) rfl #[.slice Db D7.length Dc] rfl Cmp.q ?_; (with_reducible refine (spec_Hash.calls k _ _ D7 D1 _ ?side1 ?side2 A5.out).mono ?_); (case side1 => exact Cmp.rc (Kd.R_reads' D3.out).2.2); (case side2 => exact (Kd.R_reads' D3.out).2.1); rintro e w' ⟨rfl, ⟨nd, rfl⟩⟩; refine ⟨_, rfl, ?_⟩))
   go_ret
   exact ⟨by first | rfl | (simp [errW_none, errW_some] <;> rfl) | (simp [*, errW_none, errW_some] <;> rfl), Cmp.g HB.out⟩
  ·rw [if_neg c4] at H; exact absurd H (by simp)
 ·rw [if_neg c3] at H; exact absurd H (by simp)
/-! ### spec_Encrypt: function 67 -/
def spec_Encrypt.l0 : Nat → Int → List Int → List Int → Int → Option (List Int)
  | 0, _, _, _, _ => none
  | k + 1, x0, x1, x5, x6 => if x6 < (x1.length : Int) then (if 0 ≤ x6 then ((spec_KeyedHash.f k x0 (([x6] : List Int))).bind fun t503 => (if x5.length < 140737488355328 then (spec_Encrypt.l0 k x0 x1 (x5 ++ [(Int.tmod (wrap64 ((wrap64 (rd x1 x6)) + (Int.tmod t503 256))) 256) % 256]) (wrap64 (x6 + 1))) else (none))) else (none)) else (some x5)
def spec_Encrypt.f (k : Nat) (a0 : Int) (l1 : List Int) : Option (List Int) := spec_Encrypt.l0 k a0 l1 (([] : List Int)) 0
theorem spec_Encrypt.mono_l : ∀ k, (∀ y0 y1 y2 y3, LeO (spec_Encrypt.l0 k y0 y1 y2 y3) (spec_Encrypt.l0 (k + 1) y0 y1 y2 y3))
 | 0 => fun _ _ _ _ r h => by simp [spec_Encrypt.l0] at h
 | k + 1 => by
    have ih0 := spec_Encrypt.mono_l k
    · intro y0 y1 y2 y3
      unfold spec_Encrypt.l0
      repeat' first
 | (with_reducible exact ih0 _ _ _ _)
 | (with_reducible exact spec_KeyedHash.mono _ _ _)
 | (with_reducible exact LeO.refl _)
 | (with_reducible exact LeO.none _)
 | (with_reducible refine LeO.ite ?_ ?_)
 | (with_reducible refine LeO.bind ?_ (fun _ => ?_))
theorem spec_Encrypt.mono : ∀ a0 a1 k, LeO (spec_Encrypt.f k a0 a1) (spec_Encrypt.f (k + 1) a0 a1) := by
  intro a0 a1 k
  have ih0 := spec_Encrypt.mono_l k
  unfold spec_Encrypt.f
  repeat' first
 | (with_reducible exact ih0 _ _ _ _)
 | (with_reducible exact spec_KeyedHash.mono _ _ _)
 | (with_reducible exact LeO.refl _)
 | (with_reducible exact LeO.none _)
 | (with_reducible refine LeO.ite ?_ ?_)
 | (with_reducible refine LeO.bind ?_ (fun _ => ?_))
def spec_Encrypt.T5 : Bool × List (List Nat × List Nat) := (true, [([], []), ([], []), ([], []), ([1, 2], [1, 2]), ([3], [3]), ([4], [4]), ([], []), ([], []), ([7], [7]), ([6, 8], [6, 8]), ([9], [9]), ([5, 10], [5, 10]), ([11], [11]), ([12], [12]), ([13], [13]), ([0, 14, 9], [0, 14]), ([15, 15, 0, 1, 2, 3, 4, 5, 6, 7, 8, 9, 10, 11, 12, 13, 14, 15], [0, 15])])
def spec_Encrypt.B5 : List Nat := [0, 0, 0, 6, 14, 30, 0, 0, 128, 448, 960, 2046, 4094, 8190, 16382, 32767, 65535]
theorem spec_Encrypt.tab5 : rtab .any (opsOf Try.f67 5) = spec_Encrypt.T5 := by kernel_rfl
theorem spec_Encrypt.bits5 : waitsOk spec_Encrypt.T5.2 spec_Encrypt.B5 = true := by kernel_rfl
set_option maxHeartbeats 8000000 in
set_option maxRecDepth 100000 in
theorem spec_Encrypt.calls (k : Nat) (a0 : Int) (A1 : Option Addr) (c1 : Nat) (l1 : List Int) (r : List Int) (w : World) (hr1 : Kd.C (Kd.int .u8) w A1 l1.length l1) (hc1 : l1.length ≤ c1) (h : spec_Encrypt.f k a0 l1 = some r) :
    Calls Try.prog 67 #[.int .i64 a0, .slice A1 l1.length c1] w fun e w' => ∃ v0_ : Value, e = .returned (v0_) ∧ Kd.R (Kd.int .u8) 5 w' w.heap.size (fun _ => True) v0_ r ∧ Below w.heap.size w w' := by
 have HR1 := Cmp.A hr1; have HC1 := Cmp.A hc1; clear hr1 hc1
 have HB := Cmp.A (Below.refl w.heap.size w)
 have H : (spec_Encrypt.l0 k a0 l1 (([] : List Int)) 0) = some r := h
 clear h
 obtain ⟨Dh, hy496⟩ : ∃ y_ : List Int, y_ = (([] : List Int)) := ⟨_, rfl⟩
 replace H : (spec_Encrypt.l0 k a0 l1 Dh 0) = some r := Cmp.hy hy496 H
 have D8 := Cmp.A hy496; clear hy496
 have H' := Cmp.A H
 clear H
 go_enter Try.func67, Try.ntmps67
 go_wp2_with (first | ((with_reducible refine gate_dst (N := 7) rfl ?_); refine Kd.R_lit (Kd.int .u8) _ 5 ?hg (N := 7) ?hd (xs := ([] : List Int)) (inner := []) (ok := fun _ => True) (okp := fun _ => True) ?hr ?hp (fun _ hk => hk) trivial (Below.refl _ _) (Nat.le_refl _) (by simp) ?_; (case hd => rfl); (case hg => rfl); (case hr => first | (go_simp; done) | (go_simp; rfl)); (case hp => exact (Reps.none _ _)); intro v497 w3 Dg hb hg_ hnew_; clear hg_ hnew_; (first | rw [← D8.out] at Dg | (simp only [Int.reduceToNat] at Dg; rw [← D8.out] at Dg)); have Db := Cmp.A (Kd.R_lower Dg (below_size (Cmp.g HB.out))); replace HB := Cmp.bs HB hb; clear hb Dg))
 go_loopg [5, 6] k (fun kq v5 v6 w' => ∃ (D5 : List Int) (D0 : Int), v6 = .int .i64 D0 ∧ Aside0 (spec_Encrypt.l0 kq a0 l1 D5 D0 = some r) ∧ Aside0 (kq ≤ k) ∧ Aside0 (Kd.R (Kd.int .u8) 5 w' w.heap.size (fun _ => True) v5 D5) ∧ Aside0 (Below w.heap.size w w'))
 case atStart => exact ⟨(Dh), (0), (by first | rfl | simp | simp [*]), H', ⟨Nat.le_refl _⟩, ⟨Cmp.rr Db.out⟩, ⟨Cmp.g HB.out⟩⟩
 case round =>
  clear H'
  (try clear c1); (try clear p2)
  obtain ⟨D5, D0, rfl, HA, HK1, D3, HB⟩ := hrel
  cases gk with
  | zero => exact absurd HA.out (by simp [spec_Encrypt.l0])
  | succ k1 =>
   have H := HA.out; clear HA
   simp only [spec_Encrypt.l0] at H
   by_cases c5 : D0 < (l1.length : Int)
   ·rw [if_pos c5] at H
    have c5b0 : decide (D0 < (l1.length : Int)) = true := decide_eq_true c5
    clear c5
    by_cases c6 : 0 ≤ D0
    ·rw [if_pos c6] at H; have c6b0 : decide (0 ≤ D0) = true := decide_eq_true c6; clear c6
     obtain ⟨Da, hy500⟩ : ∃ y_ : List Int, y_ = (([D0] : List Int)) := ⟨_, rfl⟩
     replace H : ((spec_KeyedHash.f k1 a0 Da).bind fun D6 => (if D5.length < 140737488355328 then (spec_Encrypt.l0 k1 a0 l1 (D5 ++ [(Int.tmod (wrap64 ((wrap64 (rd l1 D0)) + (Int.tmod D6 256))) 256) % 256]) (wrap64 (D0 + 1))) else (none))) = some r := Cmp.hy hy500 H
     have D9 := Cmp.A hy500; clear hy500; replace H := Option.bind_eq_some_iff.mp H; obtain ⟨D6, Dl, H⟩ := H; (try dsimp only at H); have A7 := Cmp.A Dl; clear Dl
     by_cases c8 : D5.length < 140737488355328
     ·rw [if_pos c8] at H; have LMc8 := Cmp.A c8; clear c8
      obtain ⟨Di, hy504⟩ : ∃ y_ : List Int, y_ = (D5 ++ [(Int.tmod (wrap64 ((wrap64 (rd l1 D0)) + (Int.tmod D6 256))) 256) % 256]) := ⟨_, rfl⟩
      replace H : (spec_Encrypt.l0 k1 a0 l1 Di (wrap64 (D0 + 1))) = some r := Cmp.hy hy504 H
      have Dd := Cmp.A hy504; clear hy504
      have H' := Cmp.A H
      clear H
      try go_wp2
      replace D3 := Cmp.A (Kd.R_drew D3.out); replace HB := Cmp.A (below_drew1 HB.out)
      have p499 : 0 ≤ (D0 : Int) := of_decide_eq_true Cmp.d
      have q499 : D0 < (l1.length : Int) := of_decide_eq_true Cmp.d
      obtain ⟨De, e499, D4⟩ := Kd.at_int HR1.out D0 p499 q499
      have D1 := D4; cases e499
      replace D4 := Cmp.hc HB D4
      replace p499 := eq_true p499; replace q499 := eq_true q499
      refine start_ (n := 17) (S := fun w' => w'.cell? (De.add (D0).toNat) = some (.int .u8 (rd l1 D0))) (ds := []) (Cmp.bm 0 17) (by kernel_rfl) rfl rfl ((Cmp.hc HB D1 :)) (fun hHeld => ?_); refine with_tabW spec_Encrypt.tab5 spec_Encrypt.bits5 (fun HT_ HW_ => ?_)
      generalize wr.drew = w9 at D3 HB D4 hHeld ⊢
      refine Cmp.pu HT_ 0 14 (Cmp.bm 1 16) ?_; refine Cmp.pu HT_ 1 15 (Cmp.bm 2 15) ?_; refine Cmp.pu HT_ 2 16 (Cmp.bm 3 14) ?_; refine Cmp.pu HT_ 3 17 (Cmp.bm 4 13) ?_; refine Cmp.pu HT_ 6 20 (Cmp.bb 17 79) ?_; refine Cmp.pu HT_ 7 21 (Cmp.bb 17 207) ?_
      refine take_ (i := 4) (N := some 18) (v := ?_) (a' := ?_) (Cmp.bb 17 223) rfl rfl (take_ofW HT_.out HW_.out (by kernel_rfl)) (fun _ _ _ h => h) (Or.inl ⟨by rfl, ?_⟩) hHeld ?_ ?_
      rotate_left
      ·intro w' s0
       go_simp; with_reducible rfl
      rotate_left
      ·simp only [Act.put, Cmp.s, Cmp.z, Cmp.c, i64_w, i32_w]; rfl
      refine Cmp.pu HT_ 5 19 (Cmp.bm 8 9) ?_
      refine one_ (i := 8) (N := some 22) (Cmp.bm 9 8) rfl rfl (one_of HT_.out (by kernel_rfl)) (by decide) (fun K hK => ?_)
      refine Kd.R_lit_step (Kd.int .i64) _ 3 ?hg (N := 22) ?hd (xs := ([D0] : List Int)) (inner := [.int .i64 D0]) (ok := fun _ => True) (okp := fun _ => True) ?hr ?hp (fun _ hk => hk) trivial (Below.refl _ _) (Nat.le_refl _) (by simp) ?_; (case hd => rfl); (case hg => rfl); (case hr => first | (go_simp; done) | (go_simp; rfl)); (case hp => exact (Reps.one (Cmp.mi D0) (Reps.none _ _)))
      intro v501 w10 D7 hb hg_ hnew_
      clear hg_ hnew_
      (first | rw [← D9.out] at D7 | (simp only [Int.reduceToNat] at D7; rw [← D9.out] at D7))
      have D2 := Cmp.A (Kd.R_lower D7 (below_size (Cmp.g HB.out))); replace D3 := Cmp.A (Kd.R_below (Cmp.rr D3.out) hb); replace HB := Cmp.A (below_step (Cmp.g HB.out) hb); clear hb D7
      obtain ⟨Dj, Dk, Df⟩ := Kd.R_slice D2.out
      (first | subst Df | (injection Df with f1_ f2_ f3_; have f4_ := f1_.symm; have f5_ := f3_.symm; clear f1_ f2_ f3_; subst f4_; subst f5_))
      refine hK.out _ _ ((Cmp.hc HB D1 :)) (fun hHeld => ?_)
      clear hK K
      refine Cmp.no ?_
      refine one_ (i := 9) (N := some 23) (Cmp.bm 10 7) rfl rfl (one_of HT_.out (by kernel_rfl)) (by decide) (fun K hK => ?_)
      refine goes_ Try.func108 (by kernel_rfl) rfl #[.int .i64 a0, .slice Dj Da.length Dk] (by rfl) rfl rfl Cmp.q ?_
      with_reducible refine (spec_KeyedHash.calls k1 a0 _ _ Da D6 _ ?side1 ?side2 A7.out).mono ?_
      (case side1 => exact Cmp.rc (Kd.R_reads' D2.out).2.2)
      (case side2 => exact (Kd.R_reads' D2.out).2.1)
      rintro e w13 ⟨rfl, hb⟩; refine ⟨_, rfl, ?_⟩
      replace D3 := Cmp.A (Kd.R_below (Cmp.rr D3.out) hb); replace D2 := Cmp.A (Kd.R_below (Cmp.rr D2.out) hb); replace HB := Cmp.A (below_step (Cmp.g HB.out) hb); (try clear hb); (try clear hb2); (try clear hk); (try clear hi)
      refine hK.out _ _ ((Cmp.hc HB D1 :)) (fun hHeld => ?_)
      clear hK K
      refine Cmp.no ?_
      refine Cmp.pu HT_ 10 24 (Cmp.bm 11 6) ?_; refine Cmp.pu HT_ 11 25 (Cmp.bm 12 5) ?_; refine Cmp.pu HT_ 12 26 (Cmp.bm 13 4) ?_; refine Cmp.pu HT_ 13 27 (Cmp.bm 14 3) ?_
      refine one_ (i := 14) (N := some 28) (Cmp.bm 15 2) rfl rfl (one_of HT_.out (by kernel_rfl)) (by decide) (fun K hK => ?_)
      refine value_ (w1 := ?_) (v := ?_) (by rfl) rfl ?_ ?_
      rotate_left 2
      ·go_simp
       constructor
       ·rfl
       ·rfl
      refine hK.out _ _ ((World.cell?_alloc_lt _ _ _ (World.block_lt_of_cell? _ _ ((Cmp.hc HB D1 :)))).trans ((Cmp.hc HB D1 :))) (fun hHeld => ?_)
      clear hK K
      refine Cmp.no ?_
      refine one_ (i := 15) (N := some 29) (Cmp.bm 16 1) rfl rfl (one_of HT_.out (by kernel_rfl)) (by decide) (fun K hK => ?_)
      refine Kd.R_append_step (Kd.int .u8) (w0 := w) w.heap.size (by rfl) (.tmp 14) (.tmp 28) 22 5 (.int .u8 0) 1 rfl Try.underlying22 info5 rfl (by decide) (by omega) u5 D5 ((Int.tmod (wrap64 ((wrap64 (rd l1 D0)) + (Int.tmod D6 256))) 256) % 256) [.int .u8 ((Int.tmod (wrap64 ((wrap64 (rd l1 D0)) + (Int.tmod D6 256))) 256) % 256)] (fun _ => True) (fun _ => False) rfl rfl ?aP (fun _ hk => hk.elim) ?aF ?aO ?aB ?aS ?aL ?_
      (case aP => exact rfl)
      (case aB => exact (Cmp.g HB.out))
      (case aF => exact (fun _ _ => trivial))
      (case aO => exact (Cmp.rr D3.out))
      (case aS => exact (below_size (Cmp.g HB.out)))
      (case aL => have := LMc8.out; omega)
      intro v505 w14 ho hb hg hat
      rw [← Dd.out] at ho
      have Dc := Cmp.A (ho); replace D2 := Cmp.A (Kd.R_over' (Cmp.rr D2.out) (Kd.R_typed (Cmp.rr D3.out)) (by decide) hg); replace HB := Cmp.A (hb); clear D3; clear ho hb hg hat
      refine hK.out _ _ ((Cmp.hc HB D1 :)) (fun hHeld => ?_)
      clear hK K
      refine Cmp.no ?_
      refine Cmp.pu HT_ 16 5 (Cmp.bm 17 0) ?_
      refine done_ (done_of HT_.out (by kernel_rfl)) ?_
      try go_wp2
      go_roundg k1
      case measure => have := HK1.out; omega
      case rel => exact ⟨(Di), (wrap64 (D0 + 1)), (by first | rfl | simp | simp [*]), H', ⟨by have := HK1.out; omega⟩, ⟨Cmp.rr Dc.out⟩, ⟨Cmp.g HB.out⟩⟩
     ·rw [if_neg c8] at H; exact absurd H (by simp)
    ·rw [if_neg c6] at H; exact absurd H (by simp)
   ·rw [if_neg c5] at H
    have c5b0 : decide (D0 < (l1.length : Int)) = false := decide_eq_false c5
    clear c5
    obtain rfl := Option.some.inj H
    go_wp2
    go_ret
    exact ⟨_, by first | rfl | (simp [errW_none, errW_some] <;> rfl) | (simp [*, errW_none, errW_some] <;> rfl), by (with_reducible repeat (first | apply Kd.R_alloc | apply Kd.R_drewN | apply Kd.R_drew)); exact D3.out, Cmp.g HB.out⟩
/-! ### spec_Max: function 125 -/
def spec_Max.f (a0 : Int) (a1 : Int) : Option (Int) := if a1 > a0 then (some a1) else (some a0)
set_option maxHeartbeats 8000000 in
set_option maxRecDepth 100000 in
theorem spec_Max.calls (a0 : Int) (a1 : Int) (r : Int) (w : World) (h : spec_Max.f a0 a1 = some r) :
    Calls Try.prog 125 #[.int .i64 a0, .int .i64 a1] w fun e w' => e = .returned (.int .i64 r) ∧ Drawn0 w w' := by
 have H : (if a1 > a0 then (some a1) else (some a0)) = some r := h
 clear h
 by_cases c3 : a1 > a0
 ·rw [if_pos c3] at H; have c3b0 : decide (a0 < a1) = true := decide_eq_true c3; clear c3
  obtain rfl := Option.some.inj H
  go_enter Try.func125, Try.ntmps125
  go_wp2
  go_ret
  exact ⟨by first | rfl | (simp; done) | (simp [*]; done), by repeat (first | exact Drawn0.refl _ | apply Drawn0.step)⟩
 ·rw [if_neg c3] at H; have c3b0 : decide (a0 < a1) = false := decide_eq_false c3; clear c3
  obtain rfl := Option.some.inj H
  go_enter Try.func125, Try.ntmps125
  go_wp2
  go_ret
  exact ⟨by first | rfl | (simp; done) | (simp [*]; done), by repeat (first | exact Drawn0.refl _ | apply Drawn0.step)⟩
/-! ### spec_DeriveKey: function 109 -/
def spec_DeriveKey.f (k : Nat) (a0 : Int) (l1 : List Int) : Option (Int) := (some (([151] : List Int) : List Int)).bind fun y507 => (if y507.length + l1.length < 17592186044416 then ((spec_KeyedHash.f k a0 (y507 ++ l1)).bind fun t513 => ((spec_Max.f 1 t513).bind fun t514 => (some t514))) else (none))
theorem spec_DeriveKey.mono : ∀ a0 a1 k, LeO (spec_DeriveKey.f k a0 a1) (spec_DeriveKey.f (k + 1) a0 a1) := by
  intro a0 a1 k
  unfold spec_DeriveKey.f
  repeat' first
 | (with_reducible exact spec_KeyedHash.mono _ _ _)
 | (with_reducible exact LeO.refl _)
 | (with_reducible exact LeO.none _)
 | (with_reducible refine LeO.ite ?_ ?_)
 | (with_reducible refine LeO.bind ?_ (fun _ => ?_))
set_option maxHeartbeats 8000000 in
set_option maxRecDepth 100000 in
theorem spec_DeriveKey.calls (k : Nat) (a0 : Int) (A1 : Option Addr) (c1 : Nat) (l1 : List Int) (r : Int) (w : World) (hr1 : Kd.C (Kd.int .i64) w A1 l1.length l1) (hc1 : l1.length ≤ c1) (h : spec_DeriveKey.f k a0 l1 = some r) :
    Calls Try.prog 109 #[.int .i64 a0, .slice A1 l1.length c1] w fun e w' => e = .returned (.int .i64 r) ∧ Below w.heap.size w w' := by
 have HR1 := Cmp.A hr1; have HC1 := Cmp.A hc1; clear hr1 hc1
 have HB := Cmp.A (Below.refl w.heap.size w)
 have H : ((some (([151] : List Int) : List Int)).bind fun D2 => (if D2.length + l1.length < 17592186044416 then ((spec_KeyedHash.f k a0 (D2 ++ l1)).bind fun D0 => ((spec_Max.f 1 D0).bind fun D3 => (some D3))) else (none))) = some r := h
 clear h
 obtain ⟨D2, hy507⟩ : ∃ y_ : List Int, y_ = (([151] : List Int)) := ⟨_, rfl⟩
 replace H : (if D2.length + l1.length < 17592186044416 then ((spec_KeyedHash.f k a0 (D2 ++ l1)).bind fun D0 => ((spec_Max.f 1 D0).bind fun D3 => (some D3))) else (none)) = some r := Cmp.hy hy507 H
 have D5 := Cmp.A hy507; clear hy507
 by_cases c3 : D2.length + l1.length < 17592186044416
 ·rw [if_pos c3] at H; have LMc3 := Cmp.A c3; clear c3
  obtain ⟨D6, hy510⟩ : ∃ y_ : List Int, y_ = (D2 ++ l1) := ⟨_, rfl⟩
  replace H : ((spec_KeyedHash.f k a0 D6).bind fun D0 => ((spec_Max.f 1 D0).bind fun D3 => (some D3))) = some r := Cmp.hy hy510 H
  have D7 := Cmp.A hy510; clear hy510; replace H := Option.bind_eq_some_iff.mp H; obtain ⟨D0, D9, H⟩ := H; (try dsimp only at H); have A4 := Cmp.A D9; clear D9; replace H := Option.bind_eq_some_iff.mp H; obtain ⟨D3, Da, H⟩ := H; (try dsimp only at H); have A5 := Cmp.A Da; clear Da
  obtain rfl := Option.some.inj H
  go_enter Try.func109, Try.ntmps109
  go_wp2_with (first | ((with_reducible refine gate_dst (N := 6) rfl ?_); refine Kd.R_lit (Kd.int .i64) _ 3 ?hg (N := 6) ?hd (xs := ([151] : List Int)) (inner := [.int .i64 151]) (ok := fun _ => True) (okp := fun _ => True) ?hr ?hp (fun _ hk => hk) trivial (Below.refl _ _) (Nat.le_refl _) (by simp) ?_; (case hd => rfl); (case hg => rfl); (case hr => first | (go_simp; done) | (go_simp; rfl)); (case hp => exact (Reps.one (Cmp.mi 151) (Reps.none _ _))); intro v508 w6 D8 hb hg_ hnew_; clear hg_ hnew_; (first | rw [← D5.out] at D8 | (simp only [Int.reduceToNat] at D8; rw [← D5.out] at D8)); have D4 := Cmp.A (Kd.R_lower D8 (below_size (Cmp.g HB.out))); replace HB := Cmp.bs HB hb; clear hb D8) | ((with_reducible refine gate_builtin (b := .append) (xs := #[.tmp 6, .tmp 7]) rfl ?_); at_builtin; refine Kd.R_append_rows (Kd.int .i64) (w0 := w) w.heap.size rfl (.tmp 6) (.tmp 7) 32 3 (.int .i64 0) 8 rfl Try.underlying32 info3 rfl (by decide) (by omega) v508 D2 l1 _ _ _ (fun _ => True) (fun _ => False) rfl rfl ?aO ?aR (fun _ _ h => h) (fun _ h => h.elim) ?aF ?aB ?aS ?aL ?_; (case aR => repeat (first | exact (Kd.C_below HR1.out HB.out) | (with_reducible refine Kd.C_alloc ?_ _) | (with_reducible refine Kd.C_drewN ?_ _) | (with_reducible refine Kd.C_drew ?_))); (case aB => exact (Cmp.g HB.out)); (case aF => exact (fun _ _ => trivial)); (case aO => exact (Cmp.rr D4.out)); (case aS => exact (below_size (Cmp.g HB.out))); (case aL => have := LMc3.out; omega); intro v511 w8 ho hb hg hat; rw [← D7.out] at ho; have D1 := Cmp.A (ho); replace HB := Cmp.A (hb); clear D4; clear ho hb hg hat; obtain ⟨Db, Dc, Dd⟩ := Kd.R_slice D1.out; subst Dd) | ((with_reducible refine gate_callee (f := 108) rfl ?_); refine goesL_ (some 9) rfl rfl Try.func108 (by kernel_rfl) rfl #[.int .i64 a0, .slice Db D6.length Dc] rfl Cmp.q ?_; (with_reducible refine (spec_KeyedHash.calls k a0 _ _ D6 D0 _ ?side1 ?side2 A4.out).mono ?_); (case side1 => exact Cmp.rc (Kd.R_reads' D1.out).2.2); (case side2 => exact (Kd.R_reads' D1.out).2.1); rintro e w10 ⟨rfl, hb⟩; refine ⟨_, rfl, ?_⟩; replace D1 := Cmp.A (Kd.R_below (Cmp.rr D1.out) hb); replace HB := Cmp.bs HB hb; (try clear hb); (try clear hb2); (try clear hk); (try clear hi)) | ((with_reducible refine gate_callee (f := 125) rfl ?_); refine goesL_ (some 10) rfl rfl Try.func125 (by kernel_rfl) rfl #[.int .i64 1, .int .i64 D0] rfl Cmp.q ?_; (with_reducible refine (spec_Max.calls 1 D0 D3 _ A5.out).mono ?_); rintro e w' ⟨rfl, ⟨nd, rfl⟩⟩; refine ⟨_, rfl, ?_⟩))
  go_ret
  exact ⟨by first | rfl | (simp [errW_none, errW_some] <;> rfl) | (simp [*, errW_none, errW_some] <;> rfl), Cmp.g HB.out⟩
 ·rw [if_neg c3] at H; exact absurd H (by simp)
/-! ### spec_l18Key: function 68 -/
def spec_l18Key.f (k : Nat) (a0 : Int) (a1 : Int) (a2 : Int) : Option (Int) := (spec_DeriveKey.f k a0 (([223, a1, a2] : List Int))).bind fun t518 => (some t518)
theorem spec_l18Key.mono : ∀ a0 a1 a2 k, LeO (spec_l18Key.f k a0 a1 a2) (spec_l18Key.f (k + 1) a0 a1 a2) := by
  intro a0 a1 a2 k
  unfold spec_l18Key.f
  repeat' first
 | (with_reducible exact spec_DeriveKey.mono _ _ _)
 | (with_reducible exact LeO.refl _)
 | (with_reducible exact LeO.none _)
 | (with_reducible refine LeO.ite ?_ ?_)
 | (with_reducible refine LeO.bind ?_ (fun _ => ?_))
set_option maxHeartbeats 8000000 in
set_option maxRecDepth 100000 in
theorem spec_l18Key.calls (k : Nat) (a0 : Int) (a1 : Int) (a2 : Int) (r : Int) (w : World) (h : spec_l18Key.f k a0 a1 a2 = some r) :
    Calls Try.prog 68 #[.int .i64 a0, .int .i64 a1, .int .i64 a2] w fun e w' => e = .returned (.int .i64 r) ∧ Below w.heap.size w w' := by
 have HB := Cmp.A (Below.refl w.heap.size w)
 have H : ((spec_DeriveKey.f k a0 (([223, a1, a2] : List Int))).bind fun D1 => (some D1)) = some r := h
 clear h
 obtain ⟨D3, hy515⟩ : ∃ y_ : List Int, y_ = (([223, a1, a2] : List Int)) := ⟨_, rfl⟩
 replace H : ((spec_DeriveKey.f k a0 D3).bind fun D1 => (some D1)) = some r := Cmp.hy hy515 H
 have D2 := Cmp.A hy515; clear hy515; replace H := Option.bind_eq_some_iff.mp H; obtain ⟨D1, D5, H⟩ := H; (try dsimp only at H); have A4 := Cmp.A D5; clear D5
 obtain rfl := Option.some.inj H
 go_enter Try.func68, Try.ntmps68
 go_wp2_with (first | ((with_reducible refine gate_dst (N := 10) rfl ?_); refine Kd.R_lit (Kd.int .i64) _ 3 ?hg (N := 10) ?hd (xs := ([223, a1, a2] : List Int)) (inner := [.int .i64 223, .int .i64 a1, .int .i64 a2]) (ok := fun _ => True) (okp := fun _ => True) ?hr ?hp (fun _ hk => hk) trivial (Below.refl _ _) (Nat.le_refl _) (by simp) ?_; (case hd => rfl); (case hg => rfl); (case hr => first | (go_simp; done) | (go_simp; rfl)); (case hp => exact (Reps.one (Cmp.mi 223) (Reps.one (Cmp.mi a1) (Reps.one (Cmp.mi a2) (Reps.none _ _))))); intro v516 w5 D4 hb hg_ hnew_; clear hg_ hnew_; (first | rw [← D2.out] at D4 | (simp only [Int.reduceToNat] at D4; rw [← D2.out] at D4)); have D0 := Cmp.A (Kd.R_lower D4 (below_size (Cmp.g HB.out))); replace HB := Cmp.bs HB hb; clear hb D4; obtain ⟨D6, D7, D8⟩ := Kd.R_slice D0.out; subst D8) | ((with_reducible refine gate_callee (f := 109) rfl ?_); refine goesL_ (some 11) rfl rfl Try.func109 (by kernel_rfl) rfl #[.int .i64 a0, .slice D6 D3.length D7] rfl Cmp.q ?_; (with_reducible refine (spec_DeriveKey.calls k a0 _ _ D3 D1 _ ?side1 ?side2 A4.out).mono ?_); (case side1 => exact Cmp.rc (Kd.R_reads' D0.out).2.2); (case side2 => exact (Kd.R_reads' D0.out).2.1); rintro e w8 ⟨rfl, hb⟩; refine ⟨_, rfl, ?_⟩; replace D0 := Cmp.A (Kd.R_below (Cmp.rr D0.out) hb); replace HB := Cmp.bs HB hb; (try clear hb); (try clear hb2); (try clear hk); (try clear hi)))
 go_ret
 exact ⟨by first | rfl | (simp [errW_none, errW_some] <;> rfl) | (simp [*, errW_none, errW_some] <;> rfl), Cmp.g HB.out⟩
/-! ### spec_AppendUvarint: function 126 -/
def spec_AppendUvarint.l0 : Nat → Int → List Int → Option (List Int)
  | 0, _, _ => none
  | k + 1, x1, x5 => if x1 > 127 then (if x5.length < 140737488355328 then (spec_AppendUvarint.l0 k (x1 / 128) (x5 ++ [(Go.bits .or .i64 (Go.bits .and .i64 x1 127) 128) % 256])) else (none)) else (if x5.length < 140737488355328 then (some (x5 ++ [(x1) % 256])) else (none))
def spec_AppendUvarint.f (k : Nat) (l0 : List Int) (a1 : Int) : Option (List Int) := (some (([] : List Int) : List Int)).bind fun y519 => (if y519.length + l0.length < 140737488355328 then ((some (y519 ++ l0 : List Int)).bind fun y522 => ((spec_l1In.f a1 0 1000000000000).bind fun t525 => (if t525 = true then (spec_AppendUvarint.l0 k a1 y522) else (some y522)))) else (none))
theorem spec_AppendUvarint.mono_l : ∀ k, (∀ y0 y1, LeO (spec_AppendUvarint.l0 k y0 y1) (spec_AppendUvarint.l0 (k + 1) y0 y1))
 | 0 => fun _ _ r h => by simp [spec_AppendUvarint.l0] at h
 | k + 1 => by
    have ih0 := spec_AppendUvarint.mono_l k
    · intro y0 y1
      unfold spec_AppendUvarint.l0
      repeat' first
 | (with_reducible exact ih0 _ _)
 | (with_reducible exact LeO.refl _)
 | (with_reducible exact LeO.none _)
 | (with_reducible refine LeO.ite ?_ ?_)
 | (with_reducible refine LeO.bind ?_ (fun _ => ?_))
theorem spec_AppendUvarint.mono : ∀ a0 a1 k, LeO (spec_AppendUvarint.f k a0 a1) (spec_AppendUvarint.f (k + 1) a0 a1) := by
  intro a0 a1 k
  have ih0 := spec_AppendUvarint.mono_l k
  unfold spec_AppendUvarint.f
  repeat' first
 | (with_reducible exact ih0 _ _)
 | (with_reducible exact LeO.refl _)
 | (with_reducible exact LeO.none _)
 | (with_reducible refine LeO.ite ?_ ?_)
 | (with_reducible refine LeO.bind ?_ (fun _ => ?_))
set_option maxHeartbeats 8000000 in
set_option maxRecDepth 100000 in
theorem spec_AppendUvarint.calls (k : Nat) (A0 : Option Addr) (c0 : Nat) (l0 : List Int) (a1 : Int) (r : List Int) (w : World) (hr0 : Kd.C (Kd.int .u8) w A0 l0.length l0) (hc0 : l0.length ≤ c0) (h : spec_AppendUvarint.f k l0 a1 = some r) :
    Calls Try.prog 126 #[.slice A0 l0.length c0, .int .i64 a1] w fun e w' => ∃ v0_ : Value, e = .returned (v0_) ∧ Kd.R (Kd.int .u8) 5 w' w.heap.size (fun _ => True) v0_ r ∧ Below w.heap.size w w' := by
 have HR0 := Cmp.A hr0; have HC0 := Cmp.A hc0; clear hr0 hc0
 have HB := Cmp.A (Below.refl w.heap.size w)
 have H : ((some (([] : List Int) : List Int)).bind fun D3 => (if D3.length + l0.length < 140737488355328 then ((some (D3 ++ l0 : List Int)).bind fun D1 => ((spec_l1In.f a1 0 1000000000000).bind fun D5 => (if D5 = true then (spec_AppendUvarint.l0 k a1 D1) else (some D1)))) else (none))) = some r := h
 clear h
 obtain ⟨D3, hy519⟩ : ∃ y_ : List Int, y_ = (([] : List Int)) := ⟨_, rfl⟩
 replace H : (if D3.length + l0.length < 140737488355328 then ((some (D3 ++ l0 : List Int)).bind fun D1 => ((spec_l1In.f a1 0 1000000000000).bind fun D5 => (if D5 = true then (spec_AppendUvarint.l0 k a1 D1) else (some D1)))) else (none)) = some r := Cmp.hy hy519 H
 have D6 := Cmp.A hy519; clear hy519
 by_cases c3 : D3.length + l0.length < 140737488355328
 ·rw [if_pos c3] at H; have LMc3 := Cmp.A c3; clear c3
  obtain ⟨D1, hy522⟩ : ∃ y_ : List Int, y_ = (D3 ++ l0) := ⟨_, rfl⟩
  replace H : ((spec_l1In.f a1 0 1000000000000).bind fun D5 => (if D5 = true then (spec_AppendUvarint.l0 k a1 D1) else (some D1))) = some r := Cmp.hy hy522 H
  have Da := Cmp.A hy522; clear hy522; replace H := Option.bind_eq_some_iff.mp H; obtain ⟨D5, Di, H⟩ := H; (try dsimp only at H); have A4 := Cmp.A Di; clear Di
  by_cases c5 : D5 = true
  ·subst c5; rw [if_pos rfl] at H
   have H' := Cmp.A H
   clear H
   go_enter Try.func126, Try.ntmps126
   go_wp2_with (first | ((with_reducible refine gate_dst (N := 6) rfl ?_); refine Kd.R_lit (Kd.int .u8) _ 5 ?hg (N := 6) ?hd (xs := ([] : List Int)) (inner := []) (ok := fun _ => True) (okp := fun _ => True) ?hr ?hp (fun _ hk => hk) trivial (Below.refl _ _) (Nat.le_refl _) (by simp) ?_; (case hd => rfl); (case hg => rfl); (case hr => first | (go_simp; done) | (go_simp; rfl)); (case hp => exact (Reps.none _ _)); intro v520 w6 Df hb hg_ hnew_; clear hg_ hnew_; (first | rw [← D6.out] at Df | (simp only [Int.reduceToNat] at Df; rw [← D6.out] at Df)); have D4 := Cmp.A (Kd.R_lower Df (below_size (Cmp.g HB.out))); replace HB := Cmp.bs HB hb; clear hb Df) | ((with_reducible refine gate_builtin (b := .append) (xs := #[.tmp 6, .tmp 7]) rfl ?_); at_builtin; refine Kd.R_append_rows (Kd.int .u8) (w0 := w) w.heap.size rfl (.tmp 6) (.tmp 7) 22 5 (.int .u8 0) 1 rfl Try.underlying22 info5 rfl (by decide) (by omega) v520 D3 l0 _ _ _ (fun _ => True) (fun _ => False) rfl rfl ?aO ?aR (fun _ _ h => h) (fun _ h => h.elim) ?aF ?aB ?aS ?aL ?_; (case aR => repeat (first | exact (Kd.C_below HR0.out HB.out) | (with_reducible refine Kd.C_alloc ?_ _) | (with_reducible refine Kd.C_drewN ?_ _) | (with_reducible refine Kd.C_drew ?_))); (case aB => exact (Cmp.g HB.out)); (case aF => exact (fun _ _ => trivial)); (case aO => exact (Cmp.rr D4.out)); (case aS => exact (below_size (Cmp.g HB.out))); (case aL => have := LMc3.out; omega); intro v523 w8 ho hb hg hat; rw [← Da.out] at ho; have D7 := Cmp.A (ho); replace HB := Cmp.A (hb); clear D4; clear ho hb hg hat) | ((with_reducible refine gate_callee (f := 99) rfl ?_); refine goesL_ (some 10) rfl rfl Try.func99 (by kernel_rfl) rfl #[.int .i64 a1, .int .i64 0, .int .i64 1000000000000] rfl Cmp.q ?_; (with_reducible refine (spec_l1In.calls a1 0 1000000000000 true _ A4.out).mono ?_); rintro e w' ⟨rfl, ⟨nd, rfl⟩⟩; refine ⟨_, rfl, ?_⟩))
   go_loopg [1, 5] k (fun kq v1 v5 w' => ∃ (D0 : Int) (D2 : List Int), v1 = .int .i64 D0 ∧ Aside0 (spec_AppendUvarint.l0 kq D0 D2 = some r) ∧ Aside0 (kq ≤ k) ∧ Aside0 (Kd.R (Kd.int .u8) 5 w' w.heap.size (fun _ => True) v5 D2) ∧ Aside0 (Below w.heap.size w w'))
   case atStart => exact ⟨(a1), (D1), (by first | rfl | simp | simp [*]), H', ⟨Nat.le_refl _⟩, ⟨Cmp.rr D7.out⟩, ⟨Cmp.g HB.out⟩⟩
   case round =>
    clear H'
    (try clear c1); (try clear p2); (try clear c3); (try clear c5)
    obtain ⟨D0, D2, rfl, HA, HK1, D9, HB⟩ := hrel
    cases gk with
    | zero => exact absurd HA.out (by simp [spec_AppendUvarint.l0])
    | succ k1 =>
     have H := HA.out; clear HA
     simp only [spec_AppendUvarint.l0] at H
     by_cases c9 : D0 > 127
     ·rw [if_pos c9] at H; have c9b0 : decide (127 < D0) = true := decide_eq_true c9; clear c9
      by_cases c10 : D2.length < 140737488355328
      ·rw [if_pos c10] at H; have LMc10 := Cmp.A c10; clear c10
       obtain ⟨Dg, hy526⟩ : ∃ y_ : List Int, y_ = (D2 ++ [(Go.bits .or .i64 (Go.bits .and .i64 D0 127) 128) % 256]) := ⟨_, rfl⟩
       replace H : (spec_AppendUvarint.l0 k1 (D0 / 128) Dg) = some r := Cmp.hy hy526 H
       have Dd := Cmp.A hy526; clear hy526
       have H' := Cmp.A H
       clear H
       go_wp2_with (first | ((with_reducible refine gate_builtin (b := .append) (xs := #[.tmp 15, .tmp 20]) rfl ?_); at_builtin; refine Kd.R_append (Kd.int .u8) (w0 := w) w.heap.size rfl (.tmp 15) (.tmp 20) 22 5 (.int .u8 0) 1 rfl Try.underlying22 info5 rfl (by decide) (by omega) u5 D2 ((Go.bits .or .i64 (Go.bits .and .i64 D0 127) 128) % 256) [.int .u8 ((Go.bits .or .i64 (Go.bits .and .i64 D0 127) 128) % 256)] (fun _ => True) (fun _ => False) rfl rfl ?aP (fun _ hk => hk.elim) ?aF ?aO ?aB ?aS ?aL ?_; (case aP => exact rfl); (case aB => exact (Cmp.g HB.out)); (case aF => exact (fun _ _ => trivial)); (case aO => exact (Cmp.rr D9.out)); (case aS => exact (below_size (Cmp.g HB.out))); (case aL => have := LMc10.out; omega); intro v527 w11 ho hb hg hat; rw [← Dd.out] at ho; have Db := Cmp.A (ho); replace HB := Cmp.A (hb); clear D9; clear ho hb hg hat))
       go_roundg k1
       case measure => have := HK1.out; omega
       case rel => exact ⟨(D0 / 128), (Dg), (by first | rfl | simp | simp [*]), H', ⟨by have := HK1.out; omega⟩, ⟨Cmp.rr Db.out⟩, ⟨Cmp.g HB.out⟩⟩
      ·rw [if_neg c10] at H; exact absurd H (by simp)
     ·rw [if_neg c9] at H; have c9b0 : decide (127 < D0) = false := decide_eq_false c9; clear c9
      by_cases c12 : D2.length < 140737488355328
      ·rw [if_pos c12] at H; have LMc12 := Cmp.A c12; clear c12
       obtain ⟨Dh, hy529⟩ : ∃ y_ : List Int, y_ = (D2 ++ [(D0) % 256]) := ⟨_, rfl⟩
       replace H : (some Dh) = some r := Cmp.hy hy529 H
       have De := Cmp.A hy529; clear hy529
       obtain rfl := Option.some.inj H
       go_wp2_with (first | ((with_reducible refine gate_builtin (b := .append) (xs := #[.tmp 24, .tmp 27]) rfl ?_); at_builtin; refine Kd.R_append (Kd.int .u8) (w0 := w) w.heap.size rfl (.tmp 24) (.tmp 27) 22 5 (.int .u8 0) 1 rfl Try.underlying22 info5 rfl (by decide) (by omega) u5 D2 ((D0) % 256) [.int .u8 ((D0) % 256)] (fun _ => True) (fun _ => False) rfl rfl ?aP (fun _ hk => hk.elim) ?aF ?aO ?aB ?aS ?aL ?_; (case aP => exact rfl); (case aB => exact (Cmp.g HB.out)); (case aF => exact (fun _ _ => trivial)); (case aO => exact (Cmp.rr D9.out)); (case aS => exact (below_size (Cmp.g HB.out))); (case aL => have := LMc12.out; omega); intro v530 w13 ho hb hg hat; rw [← De.out] at ho; have Dc := Cmp.A (ho); replace HB := Cmp.A (hb); clear D9; clear ho hb hg hat))
       go_ret
       exact ⟨_, by first | rfl | (simp [errW_none, errW_some] <;> rfl) | (simp [*, errW_none, errW_some] <;> rfl), by (with_reducible repeat (first | apply Kd.R_alloc | apply Kd.R_drewN | apply Kd.R_drew)); exact Dc.out, Cmp.g HB.out⟩
      ·rw [if_neg c12] at H; exact absurd H (by simp)
  ·replace c5 := Bool.eq_false_iff.mpr c5
   subst c5
   have H1 : (some D1) = some r := by rw [if_neg (show ¬ (false = true) by decide)] at H; exact H
   clear H; have H := H1; clear H1
   obtain rfl := Option.some.inj H
   go_enter Try.func126, Try.ntmps126
   go_wp2_with (first | ((with_reducible refine gate_dst (N := 6) rfl ?_); refine Kd.R_lit (Kd.int .u8) _ 5 ?hg (N := 6) ?hd (xs := ([] : List Int)) (inner := []) (ok := fun _ => True) (okp := fun _ => True) ?hr ?hp (fun _ hk => hk) trivial (Below.refl _ _) (Nat.le_refl _) (by simp) ?_; (case hd => rfl); (case hg => rfl); (case hr => first | (go_simp; done) | (go_simp; rfl)); (case hp => exact (Reps.none _ _)); intro v520 w14 D8 hb hg_ hnew_; clear hg_ hnew_; (first | rw [← D6.out] at D8 | (simp only [Int.reduceToNat] at D8; rw [← D6.out] at D8)); have D4 := Cmp.A (Kd.R_lower D8 (below_size (Cmp.g HB.out))); replace HB := Cmp.bs HB hb; clear hb D8) | ((with_reducible refine gate_builtin (b := .append) (xs := #[.tmp 6, .tmp 7]) rfl ?_); at_builtin; refine Kd.R_append_rows (Kd.int .u8) (w0 := w) w.heap.size rfl (.tmp 6) (.tmp 7) 22 5 (.int .u8 0) 1 rfl Try.underlying22 info5 rfl (by decide) (by omega) v520 D3 l0 _ _ _ (fun _ => True) (fun _ => False) rfl rfl ?aO ?aR (fun _ _ h => h) (fun _ h => h.elim) ?aF ?aB ?aS ?aL ?_; (case aR => repeat (first | exact (Kd.C_below HR0.out HB.out) | (with_reducible refine Kd.C_alloc ?_ _) | (with_reducible refine Kd.C_drewN ?_ _) | (with_reducible refine Kd.C_drew ?_))); (case aB => exact (Cmp.g HB.out)); (case aF => exact (fun _ _ => trivial)); (case aO => exact (Cmp.rr D4.out)); (case aS => exact (below_size (Cmp.g HB.out))); (case aL => have := LMc3.out; omega); intro v523 w16 ho hb hg hat; rw [← Da.out] at ho; have D7 := Cmp.A (ho); replace HB := Cmp.A (hb); clear D4; clear ho hb hg hat) | ((with_reducible refine gate_callee (f := 99) rfl ?_); refine goesL_ (some 10) rfl rfl Try.func99 (by kernel_rfl) rfl #[.int .i64 a1, .int .i64 0, .int .i64 1000000000000] rfl Cmp.q ?_; (with_reducible refine (spec_l1In.calls a1 0 1000000000000 false _ A4.out).mono ?_); rintro e w' ⟨rfl, ⟨nd, rfl⟩⟩; refine ⟨_, rfl, ?_⟩))
   go_ret
   exact ⟨_, by first | rfl | (simp [errW_none, errW_some] <;> rfl) | (simp [*, errW_none, errW_some] <;> rfl), by (with_reducible repeat (first | apply Kd.R_alloc | apply Kd.R_drewN | apply Kd.R_drew)); exact D7.out, Cmp.g HB.out⟩
 ·rw [if_neg c3] at H; exact absurd H (by simp)
end Go.Proofs.Ytpgjecknkmmnhaa.PFnSealedBundles

/- Printed functions of the program, out of print.sh, told more shortly. No condition. -/
import Derived.Test.YtpgjecknkmmnhaaCmp
import Derived.Test.YtpgjecknkmmnhaaPFnSealedBundlesx0
import Derived.Test.YtpgjecknkmmnhaaPFnSealedBundlesx9
import Derived.Test.YtpgjecknkmmnhaaPFnSealedBundlesx10
namespace Go.Proofs.Ytpgjecknkmmnhaa.PFnSealedBundles
open Go.Proofs.Ytpgjecknkmmnhaa
open Go.RowKit Go.Proofs.YtpgjecknkmmnhaaW.PrintWords Go.Proofs.YtpgjecknkmmnhaaW.PrintLast Go.Proofs.YtpgjecknkmmnhaaW.PrintMore
attribute [local go_sem] max2_int min2_int max_two min_two max_three min_three max_four min_four   -- for this text's walks alone
set_option linter.unusedVariables false
set_option linter.unusedSimpArgs false
/-! ### impl_bit: function 74 -/
def impl_bit.f (a0 : Bool) : Option (Int) := if a0 = true then (some 1) else (some 0)
set_option maxHeartbeats 8000000 in
set_option maxRecDepth 100000 in
theorem impl_bit.calls (a0 : Bool) (r : Int) (w : World) (h : impl_bit.f a0 = some r) :
    Calls Try.prog 74 #[.bool a0] w fun e w' => e = .returned (.int .i64 r) ∧ Drawn0 w w' := by
 have H : (if a0 = true then (some 1) else (some 0)) = some r := h
 clear h
 by_cases c2 : a0 = true
 ·subst c2; rw [if_pos rfl] at H
  obtain rfl := Option.some.inj H
  go_enter Try.func74, Try.ntmps74
  go_wp2
  go_ret
  exact ⟨by first | rfl | (simp; done) | (simp [*]; done), by repeat (first | exact Drawn0.refl _ | apply Drawn0.step)⟩
 ·replace c2 := Bool.eq_false_iff.mpr c2
  subst c2
  have H1 : (some 0) = some r := by rw [if_neg (show ¬ (false = true) by decide)] at H; exact H
  clear H; have H := H1; clear H1
  obtain rfl := Option.some.inj H
  go_enter Try.func74, Try.ntmps74
  go_wp2
  go_ret
  exact ⟨by first | rfl | (simp; done) | (simp [*]; done), by repeat (first | exact Drawn0.refl _ | apply Drawn0.step)⟩
/-! ### impl_copyBytes: function 127 -/
def impl_copyBytes.f (l0 : List Int) : Option (List Int) := (some (([] : List Int) : List Int)).bind fun y353 => (if y353.length + l0.length < 140737488355328 then (some (y353 ++ l0)) else (none))
set_option maxHeartbeats 8000000 in
set_option maxRecDepth 100000 in
theorem impl_copyBytes.calls (A0 : Option Addr) (c0 : Nat) (l0 : List Int) (r : List Int) (w : World) (hr0 : Kd.C (Kd.int .u8) w A0 l0.length l0) (hc0 : l0.length ≤ c0) (h : impl_copyBytes.f l0 = some r) :
    Calls Try.prog 127 #[.slice A0 l0.length c0] w fun e w' => ∃ v0_ : Value, e = .returned (v0_) ∧ Kd.R (Kd.int .u8) 5 w' w.heap.size (fun _ => True) v0_ r ∧ Below w.heap.size w w' := by
 have HR0 := Cmp.A hr0; have HC0 := Cmp.A hc0; clear hr0 hc0
 have HB := Cmp.A (Below.refl w.heap.size w)
 have H : ((some (([] : List Int) : List Int)).bind fun D0 => (if D0.length + l0.length < 140737488355328 then (some (D0 ++ l0)) else (none))) = some r := h
 clear h
 obtain ⟨D0, hy353⟩ : ∃ y_ : List Int, y_ = (([] : List Int)) := ⟨_, rfl⟩
 replace H : (if D0.length + l0.length < 140737488355328 then (some (D0 ++ l0)) else (none)) = some r := Cmp.hy hy353 H
 have D2 := Cmp.A hy353; clear hy353
 by_cases c2 : D0.length + l0.length < 140737488355328
 ·rw [if_pos c2] at H; have LMc2 := Cmp.A c2; clear c2
  obtain ⟨D6, hy356⟩ : ∃ y_ : List Int, y_ = (D0 ++ l0) := ⟨_, rfl⟩
  replace H : (some D6) = some r := Cmp.hy hy356 H
  have D4 := Cmp.A hy356; clear hy356
  obtain rfl := Option.some.inj H
  go_enter Try.func127, Try.ntmps127
  go_wp2_with (first | ((with_reducible refine gate_dst (N := 3) rfl ?_); refine Kd.R_lit (Kd.int .u8) _ 5 ?hg (N := 3) ?hd (xs := ([] : List Int)) (inner := []) (ok := fun _ => True) (okp := fun _ => True) ?hr ?hp (fun _ hk => hk) trivial (Below.refl _ _) (Nat.le_refl _) (by simp) ?_; (case hd => rfl); (case hg => rfl); (case hr => first | (go_simp; done) | (go_simp; rfl)); (case hp => exact (Reps.none _ _)); intro v354 w3 D5 hb hg_ hnew_; clear hg_ hnew_; (first | rw [← D2.out] at D5 | (simp only [Int.reduceToNat] at D5; rw [← D2.out] at D5)); have D1 := Cmp.A (Kd.R_lower D5 (below_size (Cmp.g HB.out))); replace HB := Cmp.bs HB hb; clear hb D5) | ((with_reducible refine gate_builtin (b := .append) (xs := #[.tmp 3, .tmp 4]) rfl ?_); at_builtin; refine Kd.R_append_rows (Kd.int .u8) (w0 := w) w.heap.size rfl (.tmp 3) (.tmp 4) 22 5 (.int .u8 0) 1 rfl Try.underlying22 info5 rfl (by decide) (by omega) v354 D0 l0 _ _ _ (fun _ => True) (fun _ => False) rfl rfl ?aO ?aR (fun _ _ h => h) (fun _ h => h.elim) ?aF ?aB ?aS ?aL ?_; (case aR => repeat (first | exact (Kd.C_below HR0.out HB.out) | (with_reducible refine Kd.C_alloc ?_ _) | (with_reducible refine Kd.C_drewN ?_ _) | (with_reducible refine Kd.C_drew ?_))); (case aB => exact (Cmp.g HB.out)); (case aF => exact (fun _ _ => trivial)); (case aO => exact (Cmp.rr D1.out)); (case aS => exact (below_size (Cmp.g HB.out))); (case aL => have := LMc2.out; omega); intro v357 w5 ho hb hg hat; rw [← D4.out] at ho; have D3 := Cmp.A (ho); replace HB := Cmp.A (hb); clear D1; clear ho hb hg hat))
  go_ret
  exact ⟨_, by first | rfl | (simp [errW_none, errW_some] <;> rfl) | (simp [*, errW_none, errW_some] <;> rfl), by (with_reducible repeat (first | apply Kd.R_alloc | apply Kd.R_drewN | apply Kd.R_drew)); exact D3.out, Cmp.g HB.out⟩
 ·rw [if_neg c2] at H; exact absurd H (by simp)
/-! ### impl_AppendUvarint: function 113 -/
mutual
def impl_AppendUvarint.j0 : Nat → Int → List Int → Bool → Option (List Int)
  | 0, _, _, _ => none
  | k + 1, x1, x5, x13 => if x13 = true then (some x5) else (impl_AppendUvarint.l0 k x1 x5)
def impl_AppendUvarint.l0 : Nat → Int → List Int → Option (List Int)
  | 0, _, _ => none
  | k + 1, x1, x5 => if x1 ≥ 128 then (if x5.length < 140737488355328 then (impl_AppendUvarint.l0 k (wrap64 (Int.tdiv x1 128)) (x5 ++ [(wrap64 ((Int.tmod x1 128) + 128)) % 256])) else (none)) else (if x5.length < 140737488355328 then (some (x5 ++ [(x1) % 256])) else (none))
end
def impl_AppendUvarint.f (k : Nat) (l0 : List Int) (a1 : Int) : Option (List Int) := (impl_copyBytes.f l0).bind fun t359 => (if a1 < 0 then (impl_AppendUvarint.j0 k a1 t359 true) else (impl_AppendUvarint.j0 k a1 t359 (decide (a1 > 1000000000000))))
theorem impl_AppendUvarint.mono_l : ∀ k, (∀ y0 y1 y2, LeO (impl_AppendUvarint.j0 k y0 y1 y2) (impl_AppendUvarint.j0 (k + 1) y0 y1 y2)) ∧ (∀ y0 y1, LeO (impl_AppendUvarint.l0 k y0 y1) (impl_AppendUvarint.l0 (k + 1) y0 y1))
 | 0 => ⟨fun _ _ _ r h => by simp [impl_AppendUvarint.j0] at h, fun _ _ r h => by simp [impl_AppendUvarint.l0] at h⟩
 | k + 1 => by
    obtain ⟨ih0, ih1⟩ := impl_AppendUvarint.mono_l k
    refine ⟨?_, ?_⟩
    · intro y0 y1 y2
      unfold impl_AppendUvarint.j0
      repeat' first
 | (with_reducible exact ih0 _ _ _)
 | (with_reducible exact ih1 _ _)
 | (with_reducible exact LeO.refl _)
 | (with_reducible exact LeO.none _)
 | (with_reducible refine LeO.ite ?_ ?_)
 | (with_reducible refine LeO.bind ?_ (fun _ => ?_))
    · intro y0 y1
      unfold impl_AppendUvarint.l0
      repeat' first
 | (with_reducible exact ih0 _ _ _)
 | (with_reducible exact ih1 _ _)
 | (with_reducible exact LeO.refl _)
 | (with_reducible exact LeO.none _)
 | (with_reducible refine LeO.ite ?_ ?_)
 | (with_reducible refine LeO.bind ?_ (fun _ => ?_))
theorem impl_AppendUvarint.mono : ∀ a0 a1 k, LeO (impl_AppendUvarint.f k a0 a1) (impl_AppendUvarint.f (k + 1) a0 a1) := by
  intro a0 a1 k
  obtain ⟨ih0, ih1⟩ := impl_AppendUvarint.mono_l k
  unfold impl_AppendUvarint.f
  repeat' first
 | (with_reducible exact ih0 _ _ _)
 | (with_reducible exact ih1 _ _)
 | (with_reducible exact LeO.refl _)
 | (with_reducible exact LeO.none _)
 | (with_reducible refine LeO.ite ?_ ?_)
 | (with_reducible refine LeO.bind ?_ (fun _ => ?_))
set_option maxHeartbeats 8000000 in
set_option maxRecDepth 100000 in
theorem impl_AppendUvarint.calls (k : Nat) (A0 : Option Addr) (c0 : Nat) (l0 : List Int) (a1 : Int) (r : List Int) (w : World) (hr0 : Kd.C (Kd.int .u8) w A0 l0.length l0) (hc0 : l0.length ≤ c0) (h : impl_AppendUvarint.f k l0 a1 = some r) :
    Calls Try.prog 113 #[.slice A0 l0.length c0, .int .i64 a1] w fun e w' => ∃ v0_ : Value, e = .returned (v0_) ∧ Kd.R (Kd.int .u8) 5 w' w.heap.size (fun _ => True) v0_ r ∧ Below w.heap.size w w' := by
 have HR0 := Cmp.A hr0; have HC0 := Cmp.A hc0; clear hr0 hc0
 have HB := Cmp.A (Below.refl w.heap.size w)
 have H : ((impl_copyBytes.f l0).bind fun D2 => (if a1 < 0 then (impl_AppendUvarint.j0 k a1 D2 true) else (impl_AppendUvarint.j0 k a1 D2 (decide (a1 > 1000000000000))))) = some r := h
 clear h; replace H := Option.bind_eq_some_iff.mp H; obtain ⟨D2, Dc, H⟩ := H; (try dsimp only at H); have A3 := Cmp.A Dc; clear Dc; have HC4 := Cmp.A H; clear H
 go_enter Try.func113, Try.ntmps113
 go_upto_region 2 with (first | ((with_reducible refine gate_callee (f := 127) rfl ?_); refine goesL_ (some 7) rfl rfl Try.func127 (by kernel_rfl) rfl #[.slice A0 l0.length c0] rfl Cmp.q ?_; (with_reducible refine (impl_copyBytes.calls _ _ l0 D2 _ ?side1 ?side2 A3.out).mono ?_); (case side1 => repeat (first | exact HR0.out | (with_reducible refine Kd.C_alloc ?_ _) | (with_reducible refine Kd.C_drewN ?_ _) | (with_reducible refine Kd.C_drew ?_))); (case side2 => exact HC0.out); rintro e w5 ⟨v360, rfl, Dd, hb⟩; refine ⟨_, rfl, ?_⟩; have D5 := Cmp.A (Kd.R_lower Dd (below_size (Cmp.g HB.out))); replace HB := Cmp.bs HB hb; (try clear hb); (try clear hb2); (try clear hk); (try clear hi); (try clear Dd)))
 (try simp only [Act.put, List.setIfInBounds_toArray, List.set_cons_zero, List.set_cons_succ])
 go_cut [13] (fun v13 wc => ∃ (kq : Nat) (D4 : Bool), v13 = .bool D4 ∧ Aside0 (impl_AppendUvarint.j0 kq a1 D2 D4 = some r) ∧ Aside0 (kq ≤ k) ∧ Aside0 (Kd.R (Kd.int .u8) 5 wc w.heap.size (fun _ => True) v360 D2) ∧ Aside0 (Below w.heap.size w wc))
 case first =>
  have H := HC4.out; clear HC4
  by_cases c6 : a1 < 0
  ·rw [if_pos c6] at H; have c6b0 : decide (a1 < 0) = true := decide_eq_true c6; clear c6
   (first | rw [c6b0] | (simp only [i64_w, i32_w]; rw [c6b0]) | skip)
   have H' := Cmp.A H
   clear H
   go_wp2
   go_meet
   case rel => exact ⟨_, (true), (by first | rfl | simp | simp [*]), H', ⟨by first | omega | exact Nat.le_refl _⟩, ⟨Cmp.rr D5.out⟩, ⟨Cmp.g HB.out⟩⟩
  ·rw [if_neg c6] at H; have c6b0 : decide (a1 < 0) = false := decide_eq_false c6; clear c6
   (first | rw [c6b0] | (simp only [i64_w, i32_w]; rw [c6b0]) | skip)
   have H' := Cmp.A H
   clear H
   go_wp2
   go_meet
   case rel => exact ⟨_, (decide (a1 > 1000000000000)), (by first | rfl | simp | simp [*]), H', ⟨by first | omega | exact Nat.le_refl _⟩, ⟨Cmp.rr D5.out⟩, ⟨Cmp.g HB.out⟩⟩
 case rest =>
  clear HC4; (try clear c1); (try clear p2); (try clear c6); (try clear c6b0)
  obtain ⟨kq, D4, rfl, HA, HJ3, D3, HB⟩ := hcut
  cases kq with
  | zero => exact absurd HA.out (by simp [impl_AppendUvarint.j0])
  | succ kj3 =>
   have H := HA.out; clear HA
   simp only [impl_AppendUvarint.j0] at H
   by_cases c7 : D4 = true
   ·subst c7; rw [if_pos rfl] at H
    obtain rfl := Option.some.inj H
    go_wp2
    go_ret
    exact ⟨_, by first | rfl | (simp [errW_none, errW_some] <;> rfl) | (simp [*, errW_none, errW_some] <;> rfl), by (with_reducible repeat (first | apply Kd.R_alloc | apply Kd.R_drewN | apply Kd.R_drew)); exact D3.out, Cmp.g HB.out⟩
   ·replace c7 := Bool.eq_false_iff.mpr c7
    subst c7
    have H1 : (impl_AppendUvarint.l0 kj3 a1 D2) = some r := by rw [if_neg (show ¬ (false = true) by decide)] at H; exact H
    clear H; have H := H1; clear H1
    have H' := Cmp.A H
    clear H
    go_wp2
    go_loopg [1, 5] kj3 (fun kq v1 v5 w' => ∃ (D0 : Int) (D1 : List Int), v1 = .int .i64 D0 ∧ Aside0 (impl_AppendUvarint.l0 kq D0 D1 = some r) ∧ Aside0 (kq ≤ kj3) ∧ Aside0 (Kd.R (Kd.int .u8) 5 w' w.heap.size (fun _ => True) v5 D1) ∧ Aside0 (Below w.heap.size w w'))
    case atStart => exact ⟨(a1), (D2), (by first | rfl | simp | simp [*]), H', ⟨Nat.le_refl _⟩, ⟨Cmp.rr D3.out⟩, ⟨Cmp.g HB.out⟩⟩
    case round =>
     clear H'
     (try clear c1); (try clear p2); (try clear c6); (try clear c6b0); (try clear c7); (try clear p2)
     obtain ⟨D0, D1, rfl, HA, HK2, D3, HB⟩ := hrel
     cases gk with
     | zero => exact absurd HA.out (by simp [impl_AppendUvarint.l0])
     | succ k2 =>
      have H := HA.out; clear HA
      simp only [impl_AppendUvarint.l0] at H
      by_cases c8 : D0 ≥ 128
      ·rw [if_pos c8] at H; have c8b0 : decide (128 ≤ D0) = true := decide_eq_true c8; clear c8
       by_cases c9 : D1.length < 140737488355328
       ·rw [if_pos c9] at H; have LMc9 := Cmp.A c9; clear c9
        obtain ⟨Da, hy362⟩ : ∃ y_ : List Int, y_ = (D1 ++ [(wrap64 ((Int.tmod D0 128) + 128)) % 256]) := ⟨_, rfl⟩
        replace H : (impl_AppendUvarint.l0 k2 (wrap64 (Int.tdiv D0 128)) Da) = some r := Cmp.hy hy362 H
        have D8 := Cmp.A hy362; clear hy362
        have H' := Cmp.A H
        clear H
        go_wp2_with (first | ((with_reducible refine gate_builtin (b := .append) (xs := #[.tmp 17, .tmp 22]) rfl ?_); at_builtin; refine Kd.R_append (Kd.int .u8) (w0 := w) w.heap.size rfl (.tmp 17) (.tmp 22) 22 5 (.int .u8 0) 1 rfl Try.underlying22 info5 rfl (by decide) (by omega) u5 D1 ((wrap64 ((Int.tmod D0 128) + 128)) % 256) [.int .u8 ((wrap64 ((Int.tmod D0 128) + 128)) % 256)] (fun _ => True) (fun _ => False) rfl rfl ?aP (fun _ hk => hk.elim) ?aF ?aO ?aB ?aS ?aL ?_; (case aP => exact rfl); (case aB => exact (Cmp.g HB.out)); (case aF => exact (fun _ _ => trivial)); (case aO => exact (Cmp.rr D3.out)); (case aS => exact (below_size (Cmp.g HB.out))); (case aL => have := LMc9.out; omega); intro v363 w10 ho hb hg hat; rw [← D8.out] at ho; have D6 := Cmp.A (ho); replace HB := Cmp.A (hb); clear D3; clear ho hb hg hat))
        go_roundg k2
        case measure => have := HJ3.out; have := HK2.out; omega
        case rel => exact ⟨(wrap64 (Int.tdiv D0 128)), (Da), (by first | rfl | simp | simp [*]), H', ⟨by have := HJ3.out; have := HK2.out; omega⟩, ⟨Cmp.rr D6.out⟩, ⟨Cmp.g HB.out⟩⟩
       ·rw [if_neg c9] at H; exact absurd H (by simp)
      ·rw [if_neg c8] at H; have c8b0 : decide (128 ≤ D0) = false := decide_eq_false c8; clear c8
       by_cases c11 : D1.length < 140737488355328
       ·rw [if_pos c11] at H; have LMc11 := Cmp.A c11; clear c11
        obtain ⟨Db, hy365⟩ : ∃ y_ : List Int, y_ = (D1 ++ [(D0) % 256]) := ⟨_, rfl⟩
        replace H : (some Db) = some r := Cmp.hy hy365 H
        have D9 := Cmp.A hy365; clear hy365
        obtain rfl := Option.some.inj H
        go_wp2_with (first | ((with_reducible refine gate_builtin (b := .append) (xs := #[.tmp 26, .tmp 29]) rfl ?_); at_builtin; refine Kd.R_append (Kd.int .u8) (w0 := w) w.heap.size rfl (.tmp 26) (.tmp 29) 22 5 (.int .u8 0) 1 rfl Try.underlying22 info5 rfl (by decide) (by omega) u5 D1 ((D0) % 256) [.int .u8 ((D0) % 256)] (fun _ => True) (fun _ => False) rfl rfl ?aP (fun _ hk => hk.elim) ?aF ?aO ?aB ?aS ?aL ?_; (case aP => exact rfl); (case aB => exact (Cmp.g HB.out)); (case aF => exact (fun _ _ => trivial)); (case aO => exact (Cmp.rr D3.out)); (case aS => exact (below_size (Cmp.g HB.out))); (case aL => have := LMc11.out; omega); intro v366 w12 ho hb hg hat; rw [← D9.out] at ho; have D7 := Cmp.A (ho); replace HB := Cmp.A (hb); clear D3; clear ho hb hg hat))
        go_ret
        exact ⟨_, by first | rfl | (simp [errW_none, errW_some] <;> rfl) | (simp [*, errW_none, errW_some] <;> rfl), by (with_reducible repeat (first | apply Kd.R_alloc | apply Kd.R_drewN | apply Kd.R_drew)); exact D7.out, Cmp.g HB.out⟩
       ·rw [if_neg c11] at H; exact absurd H (by simp)
/-! ### impl_EncodeInts: function 75 -/
def impl_EncodeInts.l0 : Nat → List Int → List Int → Int → Int → Option (List Int)
  | 0, _, _, _, _ => none
  | k + 1, x3, x7, x8, x9 => if x9 < x8 then (if 0 ≤ x9 then (if x9 < (x7.length : Int) then ((impl_AppendUvarint.f k x3 (rd x7 x9)).bind fun t372 => (impl_EncodeInts.l0 k t372 x7 x8 (wrap64 (x9 + 1)))) else (none)) else (none)) else (some x3)
def impl_EncodeInts.f (k : Nat) (l0 : List Int) : Option (List Int) := impl_EncodeInts.l0 k (([] : List Int)) l0 (l0.length : Int) 0
theorem impl_EncodeInts.mono_l : ∀ k, (∀ y0 y1 y2 y3, LeO (impl_EncodeInts.l0 k y0 y1 y2 y3) (impl_EncodeInts.l0 (k + 1) y0 y1 y2 y3))
 | 0 => fun _ _ _ _ r h => by simp [impl_EncodeInts.l0] at h
 | k + 1 => by
    have ih0 := impl_EncodeInts.mono_l k
    · intro y0 y1 y2 y3
      unfold impl_EncodeInts.l0
      repeat' first
 | (with_reducible exact ih0 _ _ _ _)
 | (with_reducible exact impl_AppendUvarint.mono _ _ _)
 | (with_reducible exact LeO.refl _)
 | (with_reducible exact LeO.none _)
 | (with_reducible refine LeO.ite ?_ ?_)
 | (with_reducible refine LeO.bind ?_ (fun _ => ?_))
theorem impl_EncodeInts.mono : ∀ a0 k, LeO (impl_EncodeInts.f k a0) (impl_EncodeInts.f (k + 1) a0) := by
  intro a0 k
  have ih0 := impl_EncodeInts.mono_l k
  unfold impl_EncodeInts.f
  repeat' first
 | (with_reducible exact ih0 _ _ _ _)
 | (with_reducible exact impl_AppendUvarint.mono _ _ _)
 | (with_reducible exact LeO.refl _)
 | (with_reducible exact LeO.none _)
 | (with_reducible refine LeO.ite ?_ ?_)
 | (with_reducible refine LeO.bind ?_ (fun _ => ?_))
set_option maxHeartbeats 8000000 in
set_option maxRecDepth 100000 in
theorem impl_EncodeInts.calls (k : Nat) (A0 : Option Addr) (c0 : Nat) (l0 : List Int) (r : List Int) (w : World) (hr0 : Kd.C (Kd.int .i64) w A0 l0.length l0) (hc0 : l0.length ≤ c0) (h : impl_EncodeInts.f k l0 = some r) :
    Calls Try.prog 75 #[.slice A0 l0.length c0] w fun e w' => ∃ v0_ : Value, e = .returned (v0_) ∧ Kd.R (Kd.int .u8) 5 w' w.heap.size (fun _ => True) v0_ r ∧ Below w.heap.size w w' := by
 have HR0 := Cmp.A hr0; have HC0 := Cmp.A hc0; clear hr0 hc0
 have HB := Cmp.A (Below.refl w.heap.size w)
 have H : (impl_EncodeInts.l0 k (([] : List Int)) l0 (l0.length : Int) 0) = some r := h
 clear h
 obtain ⟨D9, hy368⟩ : ∃ y_ : List Int, y_ = (([] : List Int)) := ⟨_, rfl⟩
 replace H : (impl_EncodeInts.l0 k D9 l0 (l0.length : Int) 0) = some r := Cmp.hy hy368 H
 have D4 := Cmp.A hy368; clear hy368
 have H' := Cmp.A H
 clear H
 go_enter Try.func75, Try.ntmps75
 go_wp2_with (first | ((with_reducible refine gate_dst (N := 6) rfl ?_); refine Kd.R_lit (Kd.int .u8) _ 5 ?hg (N := 6) ?hd (xs := ([] : List Int)) (inner := []) (ok := fun _ => True) (okp := fun _ => True) ?hr ?hp (fun _ hk => hk) trivial (Below.refl _ _) (Nat.le_refl _) (by simp) ?_; (case hd => rfl); (case hg => rfl); (case hr => first | (go_simp; done) | (go_simp; rfl)); (case hp => exact (Reps.none _ _)); intro v369 w2 D7 hb hg_ hnew_; clear hg_ hnew_; (first | rw [← D4.out] at D7 | (simp only [Int.reduceToNat] at D7; rw [← D4.out] at D7)); have D5 := Cmp.A (Kd.R_lower D7 (below_size (Cmp.g HB.out))); replace HB := Cmp.bs HB hb; clear hb D7))
 go_loopg [3, 9] k (fun kq v3 v9 w' => ∃ (D3 : List Int) (D0 : Int), v9 = .int .i64 D0 ∧ Aside0 (impl_EncodeInts.l0 kq D3 l0 (l0.length : Int) D0 = some r) ∧ Aside0 (kq ≤ k) ∧ Aside0 (Kd.R (Kd.int .u8) 5 w' w.heap.size (fun _ => True) v3 D3) ∧ Aside0 (Below w.heap.size w w'))
 case atStart => exact ⟨(D9), (0), (by first | rfl | simp | simp [*]), H', ⟨Nat.le_refl _⟩, ⟨Cmp.rr D5.out⟩, ⟨Cmp.g HB.out⟩⟩
 case round =>
  clear H'
  (try clear p2)
  obtain ⟨D3, D0, rfl, HA, HK1, D1, HB⟩ := hrel
  cases gk with
  | zero => exact absurd HA.out (by simp [impl_EncodeInts.l0])
  | succ k1 =>
   have H := HA.out; clear HA
   simp only [impl_EncodeInts.l0] at H
   by_cases c4 : D0 < (l0.length : Int)
   ·rw [if_pos c4] at H
    have c4b0 : decide (D0 < (l0.length : Int)) = true := decide_eq_true c4
    clear c4
    by_cases c5 : 0 ≤ D0
    ·rw [if_pos c5] at H; have c5b0 : decide (0 ≤ D0) = true := decide_eq_true c5; clear c5
     by_cases c6 : D0 < (l0.length : Int)
     ·rw [if_pos c6] at H
      have c6b0 : decide (D0 < (l0.length : Int)) = true := decide_eq_true c6
      clear c6; replace H := Option.bind_eq_some_iff.mp H; obtain ⟨D8, Db, H⟩ := H; (try dsimp only at H); have A7 := Cmp.A Db; clear Db
      have H' := Cmp.A H
      clear H
      have p371 : 0 ≤ (D0 : Int) := of_decide_eq_true Cmp.d
      have q371 : D0 < (l0.length : Int) := of_decide_eq_true Cmp.d
      obtain ⟨Dc, e371, D2⟩ := Kd.at_int HR0.out D0 p371 q371
      cases e371
      replace D2 := Cmp.hc HB D2
      replace p371 := eq_true p371; replace q371 := eq_true q371
      obtain ⟨Dd, De, Df⟩ := Kd.R_slice D1.out
      subst Df
      go_wp2_with (first | ((with_reducible refine gate_callee (f := 113) rfl ?_); refine goesL_ (some 15) rfl rfl Try.func113 (by kernel_rfl) rfl #[.slice Dd D3.length De, .int .i64 (rd l0 D0)] rfl Cmp.q ?_; (with_reducible refine (impl_AppendUvarint.calls k1 _ _ D3 (rd l0 D0) D8 _ ?side1 ?side2 A7.out).mono ?_); (case side1 => exact Cmp.rc (Kd.R_reads' D1.out).2.2); (case side2 => exact (Kd.R_reads' D1.out).2.1); rintro e w9 ⟨v373, rfl, Da, hb⟩; refine ⟨_, rfl, ?_⟩; have D6 := Cmp.A (Kd.R_lower (Kd.R_new' Da (Kd.R_lt (Cmp.rr D1.out))) (below_size (Cmp.g HB.out))); replace D1 := Cmp.A (Kd.R_elder' (Cmp.rr D1.out) (Kd.R_base Da) hb); replace HB := Cmp.bs HB hb; (try clear hb); (try clear hb2); (try clear hk); (try clear hi); (try clear Da)))
      go_roundg k1
      case measure => have := HK1.out; omega
      case rel => exact ⟨(D8), (wrap64 (D0 + 1)), (by first | rfl | simp | simp [*]), H', ⟨by have := HK1.out; omega⟩, ⟨Cmp.rm D6.out (fun _ hk => trivial)⟩, ⟨Cmp.g HB.out⟩⟩
     ·rw [if_neg c6] at H; exact absurd H (by simp)
    ·rw [if_neg c5] at H; exact absurd H (by simp)
   ·rw [if_neg c4] at H
    have c4b0 : decide (D0 < (l0.length : Int)) = false := decide_eq_false c4
    clear c4
    obtain rfl := Option.some.inj H
    go_wp2
    go_ret
    exact ⟨_, by first | rfl | (simp [errW_none, errW_some] <;> rfl) | (simp [*, errW_none, errW_some] <;> rfl), by (with_reducible repeat (first | apply Kd.R_alloc | apply Kd.R_drewN | apply Kd.R_drew)); exact D1.out, Cmp.g HB.out⟩
/-! ### impl_EncodeBundle: function 25 -/
def impl_EncodeBundle.l0 : Nat → List Int → List (S94) → Int → Int → Option (List Int)
  | 0, _, _, _, _ => none
  | k + 1, x3, x14, x15, x16 => if x16 < x15 then (if 0 ≤ x16 then (if x16 < (x14.length : Int) then ((impl_bit.f ((rd_T94 x14 x16).f3)).bind fun t382 => ((some (([(rd_T94 x14 x16).f0, (rd_T94 x14 x16).f1, (rd_T94 x14 x16).f2, t382] : List Int) : List Int)).bind fun y383 => (if x3.length + y383.length < 17592186044416 then (impl_EncodeBundle.l0 k (x3 ++ y383) x14 x15 (wrap64 (x16 + 1))) else (none)))) else (none)) else (none)) else ((impl_EncodeInts.f k x3).bind fun t389 => (some t389))
def impl_EncodeBundle.f (k : Nat) (l0_0 : List (S94)) : Option (List Int) := (impl_IsBundle.f k l0_0).bind fun t376 => (if t376 = true then (impl_EncodeBundle.l0 k (([(l0_0.length : Int)] : List Int)) l0_0 (l0_0.length : Int) 0) else (some ([] : List Int)))
theorem impl_EncodeBundle.mono_l : ∀ k, (∀ y0 y1 y2 y3, LeO (impl_EncodeBundle.l0 k y0 y1 y2 y3) (impl_EncodeBundle.l0 (k + 1) y0 y1 y2 y3))
 | 0 => fun _ _ _ _ r h => by simp [impl_EncodeBundle.l0] at h
 | k + 1 => by
    have ih0 := impl_EncodeBundle.mono_l k
    · intro y0 y1 y2 y3
      unfold impl_EncodeBundle.l0
      repeat' first
 | (with_reducible exact ih0 _ _ _ _)
 | (with_reducible exact impl_EncodeInts.mono _ _)
 | (with_reducible exact impl_IsBundle.mono _ _)
 | (with_reducible exact LeO.refl _)
 | (with_reducible exact LeO.none _)
 | (with_reducible refine LeO.ite ?_ ?_)
 | (with_reducible refine LeO.bind ?_ (fun _ => ?_))
theorem impl_EncodeBundle.mono : ∀ a0 k, LeO (impl_EncodeBundle.f k a0) (impl_EncodeBundle.f (k + 1) a0) := by
  intro a0 k
  have ih0 := impl_EncodeBundle.mono_l k
  unfold impl_EncodeBundle.f
  repeat' first
 | (with_reducible exact ih0 _ _ _ _)
 | (with_reducible exact impl_EncodeInts.mono _ _)
 | (with_reducible exact impl_IsBundle.mono _ _)
 | (with_reducible exact LeO.refl _)
 | (with_reducible exact LeO.none _)
 | (with_reducible refine LeO.ite ?_ ?_)
 | (with_reducible refine LeO.bind ?_ (fun _ => ?_))
def impl_EncodeBundle.T7 : Bool × List (List Nat × List Nat) := (true, [([], []), ([], []), ([1], [1]), ([], []), ([3], [3]), ([], []), ([5], [5]), ([], []), ([7], [7]), ([8], [8]), ([2, 4, 6, 9], [2, 4, 6, 9]), ([0, 10, 9], [0, 10]), ([11, 11, 0, 1, 2, 3, 4, 5, 6, 7, 8, 9, 10, 11], [0, 11])])
def impl_EncodeBundle.B7 : List Nat := [0, 0, 2, 0, 8, 0, 32, 0, 128, 384, 1022, 2047, 4095]
theorem impl_EncodeBundle.tab7 : rtab .any (opsOf Try.f25 7) = impl_EncodeBundle.T7 := by kernel_rfl
theorem impl_EncodeBundle.bits7 : waitsOk impl_EncodeBundle.T7.2 impl_EncodeBundle.B7 = true := by kernel_rfl
set_option maxHeartbeats 8000000 in
set_option maxRecDepth 100000 in
theorem impl_EncodeBundle.calls (k : Nat) (A0_0 : Option Addr) (c0_0 : Nat) (l0_0 : List (S94)) (r : List Int) (w : World) (hr0_0 : Kd.C k94 w A0_0 l0_0.length l0_0) (hc0_0 : l0_0.length ≤ c0_0) (h : impl_EncodeBundle.f k l0_0 = some r) :
    Calls Try.prog 25 #[.agg #[.slice A0_0 l0_0.length c0_0]] w fun e w' => ∃ v0_ : Value, e = .returned (v0_) ∧ Kd.R (Kd.int .u8) 5 w' w.heap.size (fun _ => True) v0_ r ∧ Below w.heap.size w w' := by
 have hu45 := Try.underlying45; have hu94 := Try.underlying94; have Dg := Cmp.A hr0_0; have HC0_0 := Cmp.A hc0_0; clear hr0_0 hc0_0
 have HB := Cmp.A (Below.refl w.heap.size w)
 have H : ((impl_IsBundle.f k l0_0).bind fun Dq => (if Dq = true then (impl_EncodeBundle.l0 k (([(l0_0.length : Int)] : List Int)) l0_0 (l0_0.length : Int) 0) else (some ([] : List Int)))) = some r := h
 clear h; replace H := Option.bind_eq_some_iff.mp H; obtain ⟨Dq, Ek, H⟩ := H; (try dsimp only at H); have A2 := Cmp.A Ek; clear Ek
 by_cases c3 : Dq = true
 ·subst c3; rw [if_pos rfl] at H
  obtain ⟨E2, hy377⟩ : ∃ y_ : List Int, y_ = (([(l0_0.length : Int)] : List Int)) := ⟨_, rfl⟩
  replace H : (impl_EncodeBundle.l0 k E2 l0_0 (l0_0.length : Int) 0) = some r := Cmp.hy hy377 H
  have Dk := Cmp.A hy377; clear hy377
  have H' := Cmp.A H
  clear H
  go_enter Try.func25, Try.ntmps25
  go_wp2_with (first | ((with_reducible refine gate_dst (N := 1) rfl ?_); refine box_event ?hg (N := 1) ?hd (cs := #[.slice A0_0 l0_0.length c0_0]) (t := 45) ?hr ?_; (case hd => rfl); (case hg => rfl); (case hr => first | (go_simp; done) | (go_simp; rfl)); intro Dh hg w4 hbox hb; have D2 := Cmp.A (hbox); have Du := Cmp.gw hg HB; have Dt := Cmp.gw hg HB; replace HB := Cmp.bs HB hb; clear hb hbox hg; have Dm := Cmp.c0 D2; have Do := blk_frozen D2.out 0) | ((with_reducible refine gate_callee (f := 61) rfl ?_); refine goesL_ (some 7) rfl rfl Try.func61 (by kernel_rfl) rfl #[.agg #[.slice A0_0 l0_0.length c0_0]] rfl Cmp.q ?_; (with_reducible refine (impl_IsBundle.calls k _ _ l0_0 true _ ?side1 ?side2 A2.out).mono ?_); (case side1 => exact Cmp.rc (Kd.C_below Dg.out HB.out)); (case side2 => exact HC0_0.out); rintro e w6 ⟨rfl, hb⟩; refine ⟨_, rfl, ?_⟩; replace D2 := Cmp.be D2 hb; replace HB := Cmp.bs HB hb; (try clear hb); (try clear hb2); (try clear hk); (try clear hi); have Dn := Cmp.c0 D2; have Dp := blk_frozen D2.out 0) | ((with_reducible refine gate_dst (N := 12) rfl ?_); refine Kd.R_lit (Kd.int .i64) _ 3 ?hg (N := 12) ?hd (xs := ([(l0_0.length : Int)] : List Int)) (inner := [.int .i64 (l0_0.length : Int)]) (ok := fun _ => True) (okp := fun _ => True) ?hr ?hp (fun _ hk => hk) trivial (Below.refl _ _) (Nat.le_refl _) (by simp) ?_; (case hd => rfl); (case hg => rfl); (case hr => first | (go_simp; done) | (go_simp; rfl)); (case hp => exact (Reps.one (Cmp.mi (l0_0.length : Int)) (Reps.none _ _))); intro v378 w8 E1 hb hg_ hnew_; clear hg_ hnew_; (first | rw [← Dk.out] at E1 | (simp only [Int.reduceToNat] at E1; rw [← Dk.out] at E1)); have Dv := Cmp.A (Kd.R_lower E1 (below_size (Cmp.g HB.out))); replace D2 := Cmp.be D2 hb; replace HB := Cmp.bs HB hb; clear hb E1; have Di := Cmp.c0 D2; have Dj := blk_frozen D2.out 0))
  go_loopg [3, 16] k (fun kq v3 v16 w' => ∃ (D5 : List Int) (D0 : Int), v16 = .int .i64 D0 ∧ Aside0 (impl_EncodeBundle.l0 kq D5 l0_0 (l0_0.length : Int) D0 = some r) ∧ Aside0 (kq ≤ k) ∧ Aside0 (Kd.R (Kd.int .i64) 3 w' w.heap.size (fun _ => True) v3 D5) ∧ Aside0 (w'.heap[Dh]? = some (.cells #[(.slice A0_0 l0_0.length c0_0)] 45 (0, 0))) ∧ Aside0 (Below w.heap.size w w'))
  case atStart => exact ⟨(E2), (0), (by first | rfl | simp | simp [*]), H', ⟨Nat.le_refl _⟩, ⟨Cmp.rr Dv.out⟩, Cmp.bq D2, ⟨Cmp.g HB.out⟩⟩
  case round =>
   clear H'
   (try clear c2); (try clear p2); (try clear c3); (try clear c6); (try clear Di); (try clear Dm); (try clear Dn); (try clear Dj); (try clear Do); (try clear Dp)
   obtain ⟨D5, D0, rfl, HA, HK1, D4, D2, HB⟩ := hrel
   cases gk with
   | zero => exact absurd HA.out (by simp [impl_EncodeBundle.l0])
   | succ k1 =>
    have H := HA.out; clear HA
    simp only [impl_EncodeBundle.l0] at H
    by_cases c11 : D0 < (l0_0.length : Int)
    ·rw [if_pos c11] at H
     have c11b0 : decide (D0 < (l0_0.length : Int)) = true := decide_eq_true c11
     clear c11
     by_cases c12 : 0 ≤ D0
     ·rw [if_pos c12] at H; have c12b0 : decide (0 ≤ D0) = true := decide_eq_true c12; clear c12
      by_cases c13 : D0 < (l0_0.length : Int)
      ·rw [if_pos c13] at H
       have c13b0 : decide (D0 < (l0_0.length : Int)) = true := decide_eq_true c13
       clear c13; replace H := Option.bind_eq_some_iff.mp H; obtain ⟨De, Dr, H⟩ := H; (try dsimp only at H); have Eq := Cmp.A Dr; clear Dr
       obtain ⟨Df, hy383⟩ : ∃ y_ : List Int, y_ = (([(rd_T94 l0_0 D0).f0, (rd_T94 l0_0 D0).f1, (rd_T94 l0_0 D0).f2, De] : List Int)) := ⟨_, rfl⟩
       replace H : (if D5.length + Df.length < 17592186044416 then (impl_EncodeBundle.l0 k1 (D5 ++ Df) l0_0 (l0_0.length : Int) (wrap64 (D0 + 1))) else (none)) = some r := Cmp.hy hy383 H
       have Dl := Cmp.A hy383; clear hy383
       by_cases c15 : D5.length + Df.length < 17592186044416
       ·rw [if_pos c15] at H; have LMc15 := Cmp.A c15; clear c15
        obtain ⟨E3, hy386⟩ : ∃ y_ : List Int, y_ = (D5 ++ Df) := ⟨_, rfl⟩
        replace H : (impl_EncodeBundle.l0 k1 E3 l0_0 (l0_0.length : Int) (wrap64 (D0 + 1))) = some r := Cmp.hy hy386 H
        have Dy := Cmp.A hy386; clear hy386
        have H' := Cmp.A H
        clear H
        have p380 : 0 ≤ (D0 : Int) := of_decide_eq_true Cmp.d
        have q380 : D0 < (l0_0.length : Int) := of_decide_eq_true Cmp.d
        obtain ⟨Dz, e380, D7, D8, D9, Da⟩ := at_T94 Dg.out D0 p380 q380
        cases e380
        replace D7 := Cmp.hc HB D7
        replace D8 := Cmp.hc HB D8
        replace D9 := Cmp.hc HB D9
        replace Da := Cmp.hc HB Da
        replace p380 := eq_true p380; replace q380 := eq_true q380
        try go_wp2_with (first | ((with_reducible refine gate_dst (N := 5) rfl ?_); refine box_event ?hg (N := 5) ?hd (cs := #[.int .i64 0, .int .i64 0, .int .i64 0, .bool false]) (t := 94) ?hr ?_; (case hd => rfl); (case hg => rfl); (case hr => first | (go_simp; done) | (go_simp; rfl)); intro D3 hg w16 hbox hb; have D1 := Cmp.A (hbox); have Em := Cmp.gw hg HB; have El := Cmp.gw hg HB; have Db := Cmp.nl hg D2; have Dc := Cmp.ng hg D2; replace D4 := Cmp.A (Kd.R_below (Cmp.rr D4.out) hb); replace D2 := Cmp.be D2 hb; replace HB := Cmp.bs HB hb; clear hb hbox hg; have En := Dc.out; have Eo := Db.out; obtain ⟨E4, E5, E6, E7⟩ := Cmp.q4 D1; obtain ⟨E9, Ea, Eb, Ec⟩ := Cmp.f4 D1))
        have n0_ : Aside0 (Kd.R (Kd.int .i64) 3 ((((w16.setCell ⟨D3, 0, none⟩ (.int .i64 ((rd_T94 l0_0 D0).f0))).setCell ⟨D3, 1, none⟩ (.int .i64 ((rd_T94 l0_0 D0).f1))).setCell ⟨D3, 2, none⟩ (.int .i64 ((rd_T94 l0_0 D0).f2))).setCell ⟨D3, 3, none⟩ (.bool ((rd_T94 l0_0 D0).f3))) w.heap.size (fun _ => True) u3 D5) := ⟨Cmp.rm (Kd.R_far (p := ⟨D3, 3, none⟩) (Kd.R_far (p := ⟨D3, 2, none⟩) (Kd.R_far (p := ⟨D3, 1, none⟩) (Kd.R_far (p := ⟨D3, 0, none⟩) (Kd.R_types D4.out D1.out (by decide)) (fun _ hk => hk.2) (.int .i64 ((rd_T94 l0_0 D0).f0))) (fun _ hk => hk.2) (.int .i64 ((rd_T94 l0_0 D0).f1))) (fun _ hk => hk.2) (.int .i64 ((rd_T94 l0_0 D0).f2))) (fun _ hk => hk.2) (.bool ((rd_T94 l0_0 D0).f3))) (fun _ hk => trivial)⟩
        have n1_ : Aside0 (((((w16.setCell ⟨D3, 0, none⟩ (.int .i64 ((rd_T94 l0_0 D0).f0))).setCell ⟨D3, 1, none⟩ (.int .i64 ((rd_T94 l0_0 D0).f1))).setCell ⟨D3, 2, none⟩ (.int .i64 ((rd_T94 l0_0 D0).f2))).setCell ⟨D3, 3, none⟩ (.bool ((rd_T94 l0_0 D0).f3))).heap[Dh]? = some (.cells #[.slice (some Dz) l0_0.length c0_0] 45 (0, 0))) := ⟨Cmp.bw D2.out⟩
        have n2_ : Aside0 (((((w16.setCell ⟨D3, 0, none⟩ (.int .i64 ((rd_T94 l0_0 D0).f0))).setCell ⟨D3, 1, none⟩ (.int .i64 ((rd_T94 l0_0 D0).f1))).setCell ⟨D3, 2, none⟩ (.int .i64 ((rd_T94 l0_0 D0).f2))).setCell ⟨D3, 3, none⟩ (.bool ((rd_T94 l0_0 D0).f3))).heap[D3]? = some (.cells #[.int .i64 ((rd_T94 l0_0 D0).f0), .int .i64 ((rd_T94 l0_0 D0).f1), .int .i64 ((rd_T94 l0_0 D0).f2), .bool ((rd_T94 l0_0 D0).f3)] 94 (0, 0))) := ⟨Cmp.bw D1.out⟩
        have n3_ : Aside0 (Below w.heap.size w ((((w16.setCell ⟨D3, 0, none⟩ (.int .i64 ((rd_T94 l0_0 D0).f0))).setCell ⟨D3, 1, none⟩ (.int .i64 ((rd_T94 l0_0 D0).f1))).setCell ⟨D3, 2, none⟩ (.int .i64 ((rd_T94 l0_0 D0).f2))).setCell ⟨D3, 3, none⟩ (.bool ((rd_T94 l0_0 D0).f3)))) := ⟨Cmp.g HB.out⟩
        (try clear D4); (try clear D2); (try clear D1); (try clear HB)
        generalize ((((w16.setCell ⟨D3, 0, none⟩ (.int .i64 ((rd_T94 l0_0 D0).f0))).setCell ⟨D3, 1, none⟩ (.int .i64 ((rd_T94 l0_0 D0).f1))).setCell ⟨D3, 2, none⟩ (.int .i64 ((rd_T94 l0_0 D0).f2))).setCell ⟨D3, 3, none⟩ (.bool ((rd_T94 l0_0 D0).f3))) = w19 at n0_ n1_ n2_ n3_ ⊢
        have D4 := n0_; have D2 := n1_; have D1 := n2_; have HB := n3_; clear n0_ n1_ n2_ n3_; replace D4 := Cmp.A (Kd.R_drew D4.out); replace D2 := Cmp.A (blk_drew D2.out); replace D1 := Cmp.A (blk_drew D1.out); replace HB := Cmp.A (below_drew1 HB.out)
        refine start_ (n := 13) (S := fun w' => w'.cell? ⟨D3, 0, none⟩ = some (.int .i64 ((rd_T94 l0_0 D0).f0)) ∧ w'.cell? ⟨D3, 1, none⟩ = some (.int .i64 ((rd_T94 l0_0 D0).f1)) ∧ w'.cell? ⟨D3, 2, none⟩ = some (.int .i64 ((rd_T94 l0_0 D0).f2)) ∧ w'.cell? ⟨D3, 3, none⟩ = some (.bool ((rd_T94 l0_0 D0).f3))) (ds := []) (Cmp.bm 0 13) (by kernel_rfl) rfl rfl ⟨(Cmp.c0 D1 :), (Cmp.c1 D1 :), (Cmp.c2 D1 :), (Cmp.c3 D1 :)⟩ (fun hHeld => ?_); refine with_tabW impl_EncodeBundle.tab7 impl_EncodeBundle.bits7 (fun HT_ HW_ => ?_)
        generalize w19.drew = w20 at D4 D2 D1 HB hHeld ⊢
        refine Cmp.pu HT_ 0 20 (Cmp.bm 1 12) ?_; refine Cmp.pu HT_ 1 21 (Cmp.bm 2 11) ?_; refine Cmp.pu HT_ 3 23 (Cmp.bb 13 11) ?_; refine Cmp.pu HT_ 5 25 (Cmp.bb 13 43) ?_; refine Cmp.pu HT_ 7 27 (Cmp.bb 13 171) ?_; refine Cmp.tk HT_ HW_ hHeld 2 22 (Cmp.bb 13 175) ?_; refine Cmp.tk HT_ HW_ hHeld 4 24 (Cmp.bb 13 191) ?_; refine Cmp.tk HT_ HW_ hHeld 6 26 (Cmp.bm 8 5) ?_; refine Cmp.tk HT_ HW_ hHeld 8 28 (Cmp.bm 9 4) ?_
        refine one_ (i := 9) (N := some 29) (Cmp.bm 10 3) rfl rfl (one_of HT_.out (by kernel_rfl)) (by decide) (fun K hK => ?_)
        refine goes_ Try.func74 (by kernel_rfl) rfl #[.bool ((rd_T94 l0_0 D0).f3)] (by rfl) rfl rfl Cmp.q ?_
        with_reducible refine (impl_bit.calls ((rd_T94 l0_0 D0).f3) De _ Eq.out).mono ?_
        rintro e w' ⟨rfl, ⟨nd, rfl⟩⟩; refine ⟨_, rfl, ?_⟩
        refine hK.out _ _ ⟨(Cmp.c0 D1 :), (Cmp.c1 D1 :), (Cmp.c2 D1 :), (Cmp.c3 D1 :)⟩ (fun hHeld => ?_)
        clear hK K
        refine Cmp.no ?_
        refine one_ (i := 10) (N := some 30) (Cmp.bm 11 2) rfl rfl (one_of HT_.out (by kernel_rfl)) (by decide) (fun K hK => ?_)
        refine Kd.R_lit_step (Kd.int .i64) _ 3 ?hg (N := 30) ?hd (xs := ([(rd_T94 l0_0 D0).f0, (rd_T94 l0_0 D0).f1, (rd_T94 l0_0 D0).f2, De] : List Int)) (inner := [.int .i64 ((rd_T94 l0_0 D0).f0), .int .i64 ((rd_T94 l0_0 D0).f1), .int .i64 ((rd_T94 l0_0 D0).f2), .int .i64 De]) (ok := fun _ => True) (okp := fun _ => True) ?hr ?hp (fun _ hk => hk) trivial (Below.refl _ _) (Nat.le_refl _) (by simp) ?_; (case hd => rfl); (case hg => rfl); (case hr => first | (go_simp; done) | (go_simp; rfl)); (case hp => exact (Reps.one (Cmp.mi ((rd_T94 l0_0 D0).f0)) (Reps.one (Cmp.mi ((rd_T94 l0_0 D0).f1)) (Reps.one (Cmp.mi ((rd_T94 l0_0 D0).f2)) (Reps.one (Cmp.mi De) (Reps.none _ _))))))
        intro v384 w21 Dd hb hg_ hnew_
        clear hg_ hnew_
        (first | rw [← Dl.out] at Dd | (simp only [Int.reduceToNat] at Dd; rw [← Dl.out] at Dd))
        have D6 := Cmp.A (Kd.R_lower (Kd.R_new' Dd (Kd.R_lt (Cmp.rr D4.out))) (below_size (Cmp.g HB.out))); replace D4 := Cmp.A (Kd.R_elder' (Cmp.rr D4.out) (Kd.R_base Dd) hb); replace D2 := Cmp.be D2 hb; replace D1 := Cmp.be D1 hb; replace HB := Cmp.A (below_step (Cmp.g HB.out) hb); clear hb Dd
        obtain ⟨Ee, Eg, E0⟩ := Kd.R_slice D6.out
        (first | subst E0 | (injection E0 with f1_ f2_ f3_; have f4_ := f1_.symm; have f5_ := f3_.symm; clear f1_ f2_ f3_; subst f4_; subst f5_))
        refine hK.out _ _ ⟨(Cmp.c0 D1 :), (Cmp.c1 D1 :), (Cmp.c2 D1 :), (Cmp.c3 D1 :)⟩ (fun hHeld => ?_)
        clear hK K
        refine Cmp.no ?_
        refine one_ (i := 11) (N := some 31) (Cmp.bm 12 1) rfl rfl (one_of HT_.out (by kernel_rfl)) (by decide) (fun K hK => ?_)
        refine Kd.R_append_rows_step (Kd.int .i64) (w0 := w) w.heap.size (by rfl) (.tmp 20) (.tmp 30) 32 3 (.int .i64 0) 8 rfl Try.underlying32 info3 rfl (by decide) (by omega) u3 D5 Df _ _ _ (fun k_ => some k_ ≠ (.slice Ee Df.length Eg : Value).ownBlock) (fun _ => False) rfl rfl ?aO ?aR (fun _ _ h => h) (fun _ h => h.elim) ?aF ?aB ?aS ?aL ?_
        (case aR => repeat (first | exact (Kd.R_reads' D6.out).2.2 | (with_reducible refine Kd.C_alloc ?_ _) | (with_reducible refine Kd.C_drewN ?_ _) | (with_reducible refine Kd.C_drew ?_)))
        (case aB => exact (Cmp.g HB.out))
        (case aF => exact (fun k_ hk => Kd.fresh' (Kd.R_lt (Cmp.rr D6.out)) k_ hk))
        (case aO => exact (Cmp.rm D4.out (fun _ hk => hk.2)))
        (case aS => exact (below_size (Cmp.g HB.out)))
        (case aL => have := LMc15.out; omega)
        intro v387 w23 ho hb hg hat
        rw [← Dy.out] at ho
        have Dw := Cmp.A (ho); replace D2 := Cmp.bg D2 hg (Kd.R_ne D4.out D2.out (by decide)); replace D1 := Cmp.bg D1 hg (Kd.R_ne D4.out D1.out (by decide)); replace D6 := Cmp.A (Kd.R_after (ok := (fun _ => True)) (Cmp.rr D6.out) hg hat); replace HB := Cmp.A (hb); clear D4; clear ho hb hg hat
        refine hK.out _ _ ⟨(Cmp.c0 D1 :), (Cmp.c1 D1 :), (Cmp.c2 D1 :), (Cmp.c3 D1 :)⟩ (fun hHeld => ?_)
        clear hK K
        refine Cmp.no ?_
        refine Cmp.pu HT_ 12 3 (Cmp.bm 13 0) ?_
        refine done_ (done_of HT_.out (by kernel_rfl)) ?_
        try go_wp2
        go_roundg k1
        case measure => have := HK1.out; omega
        case rel => exact ⟨(E3), (wrap64 (D0 + 1)), (by first | rfl | simp | simp [*]), H', ⟨by have := HK1.out; omega⟩, ⟨Cmp.rm Dw.out (fun _ hk => trivial)⟩, Cmp.bq D2, ⟨Cmp.g HB.out⟩⟩
       ·rw [if_neg c15] at H; exact absurd H (by simp)
      ·rw [if_neg c13] at H; exact absurd H (by simp)
     ·rw [if_neg c12] at H; exact absurd H (by simp)
    ·rw [if_neg c11] at H
     have c11b0 : decide (D0 < (l0_0.length : Int)) = false := decide_eq_false c11
     clear c11; replace H := Option.bind_eq_some_iff.mp H; obtain ⟨Ej, Ds, H⟩ := H; (try dsimp only at H); have Er := Cmp.A Ds; clear Ds
     obtain rfl := Option.some.inj H
     obtain ⟨Ef, Eh, Ei⟩ := Kd.R_slice D4.out
     subst Ei
     go_wp2_with (first | ((with_reducible refine gate_callee (f := 75) rfl ?_); refine goesL_ (some 34) rfl rfl Try.func75 (by kernel_rfl) rfl #[.slice Ef D5.length Eh] rfl Cmp.q ?_; (with_reducible refine (impl_EncodeInts.calls k1 _ _ D5 Ej _ ?side1 ?side2 Er.out).mono ?_); (case side1 => exact Cmp.rc (Kd.R_reads' D4.out).2.2); (case side2 => exact (Kd.R_reads' D4.out).2.1); rintro e w27 ⟨v390, rfl, Ep, hb⟩; refine ⟨_, rfl, ?_⟩; have Dx := Cmp.A (Kd.R_lower Ep (below_size (Cmp.g HB.out))); replace D4 := Cmp.A (Kd.R_below (Cmp.rr D4.out) hb); replace D2 := Cmp.be D2 hb; replace HB := Cmp.bs HB hb; (try clear hb); (try clear hb2); (try clear hk); (try clear hi); (try clear Ep)))
     go_ret
     exact ⟨_, by first | rfl | (simp [errW_none, errW_some] <;> rfl) | (simp [*, errW_none, errW_some] <;> rfl), by (with_reducible repeat (first | apply Kd.R_alloc | apply Kd.R_drewN | apply Kd.R_drew)); exact Dx.out, Cmp.g HB.out⟩
 ·replace c3 := Bool.eq_false_iff.mpr c3
  subst c3
  have H1 : (some ([] : List Int)) = some r := by rw [if_neg (show ¬ (false = true) by decide)] at H; exact H
  clear H; have H := H1; clear H1
  obtain rfl := Option.some.inj H
  go_enter Try.func25, Try.ntmps25
  go_wp2_with (first | ((with_reducible refine gate_dst (N := 1) rfl ?_); refine box_event ?hg (N := 1) ?hd (cs := #[.slice A0_0 l0_0.length c0_0]) (t := 45) ?hr ?_; (case hd => rfl); (case hg => rfl); (case hr => first | (go_simp; done) | (go_simp; rfl)); intro Dh hg w28 hbox hb; have D2 := Cmp.A (hbox); have Du := Cmp.gw hg HB; have Dt := Cmp.gw hg HB; replace HB := Cmp.bs HB hb; clear hb hbox hg; have E8 := Cmp.c0 D2; have Ed := blk_frozen D2.out 0) | ((with_reducible refine gate_callee (f := 61) rfl ?_); refine goesL_ (some 7) rfl rfl Try.func61 (by kernel_rfl) rfl #[.agg #[.slice A0_0 l0_0.length c0_0]] rfl Cmp.q ?_; (with_reducible refine (impl_IsBundle.calls k _ _ l0_0 false _ ?side1 ?side2 A2.out).mono ?_); (case side1 => exact Cmp.rc (Kd.C_below Dg.out HB.out)); (case side2 => exact HC0_0.out); rintro e w30 ⟨rfl, hb⟩; refine ⟨_, rfl, ?_⟩; replace D2 := Cmp.be D2 hb; replace HB := Cmp.bs HB hb; (try clear hb); (try clear hb2); (try clear hk); (try clear hi)))
  go_ret
  exact ⟨_, by first | rfl | (simp [errW_none, errW_some] <;> rfl) | (simp [*, errW_none, errW_some] <;> rfl), by first | exact Kd.R_nil _ _ _ _ _ | exact Kd.N_nil _ _ _ _ _ | exact Kd.V_nil _ _ _ _ _ | exact Kd.Q_nil _ _ _ _ _ | exact Kd.S_nil _ _ _ _ _, Cmp.g HB.out⟩
/-! ### impl_IsValidKey: function 59 -/
def impl_IsValidKey.f (a0 : Int) : Option (Bool) := (impl_InRange.f a0 1 2147483646).bind fun t392 => (some t392)
set_option maxHeartbeats 8000000 in
set_option maxRecDepth 100000 in
theorem impl_IsValidKey.calls (a0 : Int) (r : Bool) (w : World) (h : impl_IsValidKey.f a0 = some r) :
    Calls Try.prog 59 #[.int .i64 a0] w fun e w' => e = .returned (.bool r) ∧ Drawn0 w w' := by
 have H : ((impl_InRange.f a0 1 2147483646).bind fun D0 => (some D0)) = some r := h
 clear h; replace H := Option.bind_eq_some_iff.mp H; obtain ⟨D0, D1, H⟩ := H; (try dsimp only at H); have A2 := Cmp.A D1; clear D1
 obtain rfl := Option.some.inj H
 go_enter Try.func59, Try.ntmps59
 go_wp2_with (first | ((with_reducible refine gate_callee (f := 60) rfl ?_); refine goesL_ (some 4) rfl rfl Try.func60 (by kernel_rfl) rfl #[.int .i64 a0, .int .i64 1, .int .i64 2147483646] rfl Cmp.q ?_; (with_reducible refine (impl_InRange.calls a0 1 2147483646 D0 _ A2.out).mono ?_); rintro e w' ⟨rfl, ⟨nd, rfl⟩⟩; refine ⟨_, rfl, ?_⟩))
 go_ret
 exact ⟨by first | rfl | (simp; done) | (simp [*]; done), by repeat (first | exact Drawn0.refl _ | apply Drawn0.step)⟩
/-! ### impl_Mod: function 112 -/
def impl_Mod.j0 : Nat → Int → Int → Bool → Option (Int)
  | 0, _, _, _ => none
  | k + 1, x0, x1, x11 => if x11 = true then (some 0) else (if x1 = 0 then (none) else (if (Int.tmod x0 x1) < 0 then (some (wrap64 ((Int.tmod x0 x1) + x1))) else (some (Int.tmod x0 x1))))
def impl_Mod.f (k : Nat) (a0 : Int) (a1 : Int) : Option (Int) := if a1 < 1 then (impl_Mod.j0 k a0 a1 true) else (impl_Mod.j0 k a0 a1 (decide (a1 > 1000000000000)))
theorem impl_Mod.mono_l : ∀ k, (∀ y0 y1 y2, LeO (impl_Mod.j0 k y0 y1 y2) (impl_Mod.j0 (k + 1) y0 y1 y2))
 | 0 => fun _ _ _ r h => by simp [impl_Mod.j0] at h
 | k + 1 => by
    have ih0 := impl_Mod.mono_l k
    · intro y0 y1 y2
      unfold impl_Mod.j0
      repeat' first
 | (with_reducible exact ih0 _ _ _)
 | (with_reducible exact LeO.refl _)
 | (with_reducible exact LeO.none _)
 | (with_reducible refine LeO.ite ?_ ?_)
 | (with_reducible refine LeO.bind ?_ (fun _ => ?_))
theorem impl_Mod.mono : ∀ a0 a1 k, LeO (impl_Mod.f k a0 a1) (impl_Mod.f (k + 1) a0 a1) := by
  intro a0 a1 k
  have ih0 := impl_Mod.mono_l k
  unfold impl_Mod.f
  repeat' first
 | (with_reducible exact ih0 _ _ _)
 | (with_reducible exact LeO.refl _)
 | (with_reducible exact LeO.none _)
 | (with_reducible refine LeO.ite ?_ ?_)
 | (with_reducible refine LeO.bind ?_ (fun _ => ?_))
set_option maxHeartbeats 8000000 in
set_option maxRecDepth 100000 in
theorem impl_Mod.calls (k : Nat) (a0 : Int) (a1 : Int) (r : Int) (w : World) (h : impl_Mod.f k a0 a1 = some r) :
    Calls Try.prog 112 #[.int .i64 a0, .int .i64 a1] w fun e w' => e = .returned (.int .i64 r) ∧ Drawn0 w w' := by
 have H : (if a1 < 1 then (impl_Mod.j0 k a0 a1 true) else (impl_Mod.j0 k a0 a1 (decide (a1 > 1000000000000)))) = some r := h
 clear h; have HC3 := Cmp.A H; clear H
 go_enter Try.func112, Try.ntmps112
 go_upto_region 1 with (fail)
 go_cut [11] (fun v11 wc => ∃ (kq : Nat) (D0 : Bool), v11 = .bool D0 ∧ Aside0 (impl_Mod.j0 kq a0 a1 D0 = some r) ∧ Aside0 (kq ≤ k) ∧ Drawn0 w wc)
 case first =>
  have H := HC3.out; clear HC3
  by_cases c4 : a1 < 1
  ·rw [if_pos c4] at H; have c4b0 : decide (a1 < 1) = true := decide_eq_true c4; clear c4
   (first | rw [c4b0] | (simp only [i64_w, i32_w]; rw [c4b0]) | skip)
   have H' := Cmp.A H
   clear H
   go_wp2
   go_meet
   case rel => exact ⟨_, (true), (by first | rfl | simp | simp [*]), H', ⟨by first | omega | exact Nat.le_refl _⟩, by repeat (first | exact Drawn0.refl _ | apply Drawn0.step)⟩
  ·rw [if_neg c4] at H; have c4b0 : decide (a1 < 1) = false := decide_eq_false c4; clear c4
   (first | rw [c4b0] | (simp only [i64_w, i32_w]; rw [c4b0]) | skip)
   have H' := Cmp.A H
   clear H
   go_wp2
   go_meet
   case rel => exact ⟨_, (decide (a1 > 1000000000000)), (by first | rfl | simp | simp [*]), H', ⟨by first | omega | exact Nat.le_refl _⟩, by repeat (first | exact Drawn0.refl _ | apply Drawn0.step)⟩
 case rest =>
  clear HC3; (try clear c1); (try clear p2); (try clear c4); (try clear c4b0)
  obtain ⟨kq, D0, rfl, HA, HJ2, ⟨mc2, rfl⟩⟩ := hcut
  cases kq with
  | zero => exact absurd HA.out (by simp [impl_Mod.j0])
  | succ kj2 =>
   have H := HA.out; clear HA
   simp only [impl_Mod.j0] at H
   by_cases c5 : D0 = true
   ·subst c5; rw [if_pos rfl] at H
    obtain rfl := Option.some.inj H
    go_wp2
    go_ret
    exact ⟨by first | rfl | (simp; done) | (simp [*]; done), by repeat (first | exact Drawn0.refl _ | apply Drawn0.step)⟩
   ·replace c5 := Bool.eq_false_iff.mpr c5
    subst c5
    have H1 : (if a1 = 0 then (none) else (if (Int.tmod a0 a1) < 0 then (some (wrap64 ((Int.tmod a0 a1) + a1))) else (some (Int.tmod a0 a1)))) = some r := by rw [if_neg (show ¬ (false = true) by decide)] at H; exact H
    clear H; have H := H1; clear H1
    by_cases c6 : a1 = 0
    ·rw [if_pos c6] at H; exact absurd H (by simp)
    ·rw [if_neg c6] at H; have c6b0 : (a1 == 0) = false := beq_eq_false_iff_ne.mpr c6; have c6b1 : (a1 != 0) = true := bne_iff_ne.mpr c6
     by_cases c7 : (Int.tmod a0 a1) < 0
     ·rw [if_pos c7] at H; have c7b0 : decide ((Int.tmod a0 a1) < 0) = true := decide_eq_true c7; clear c7
      obtain rfl := Option.some.inj H
      go_wp2
      go_ret
      exact ⟨by first | rfl | (simp; done) | (simp [*]; done), by repeat (first | exact Drawn0.refl _ | apply Drawn0.step)⟩
     ·rw [if_neg c7] at H; have c7b0 : decide ((Int.tmod a0 a1) < 0) = false := decide_eq_false c7; clear c7
      obtain rfl := Option.some.inj H
      go_wp2
      go_ret
      exact ⟨by first | rfl | (simp; done) | (simp [*]; done), by repeat (first | exact Drawn0.refl _ | apply Drawn0.step)⟩
end Go.Proofs.Ytpgjecknkmmnhaa.PFnSealedBundles

/- Printed functions of the program, out of print.sh, told more shortly. No condition. -/
import Derived.Test.YtgcipecdaimjfaaCmp
import Derived.Test.YtgcipecdaimjfaaPFnExactSealBundlex0
import Derived.Test.YtgcipecdaimjfaaPFnExactSealBundlex7
import Derived.Test.YtgcipecdaimjfaaPFnExactSealBundlex8
namespace Go.Proofs.Ytgcipecdaimjfaa.PFnExactSealBundle
open Go.Proofs.Ytgcipecdaimjfaa
open Go.RowKit Go.Proofs.YtgcipecdaimjfaaW.PrintWords Go.Proofs.YtgcipecdaimjfaaW.PrintLast Go.Proofs.YtgcipecdaimjfaaW.PrintMore
attribute [local go_sem] max2_int min2_int max_two min_two max_three min_three max_four min_four   -- for this text's walks alone
set_option linter.unusedVariables false
set_option linter.unusedSimpArgs false

/-! ### impl_bit: function 111 -/
def impl_bit.f (a0 : Bool) : Option (Int) := if a0 = true then (some 1) else (some 0)
set_option maxHeartbeats 8000000 in
set_option maxRecDepth 100000 in
theorem impl_bit.calls (a0 : Bool) (r : Int) (w : World) (h : impl_bit.f a0 = some r) :
    Calls Try.prog 111 #[.bool a0] w fun e w' => e = .returned (.int .i64 r) ∧ Drawn0 w w' := by
 have H : (if a0 = true then (some 1) else (some 0)) = some r := h
 clear h
 by_cases c2 : a0 = true
 ·subst c2; rw [if_pos rfl] at H
  obtain rfl := Option.some.inj H
  go_enter Try.func111, Try.ntmps111
  go_wp2
  go_ret
  exact ⟨by first | rfl | (simp; done) | (simp [*]; done), by repeat (first | exact Drawn0.refl _ | apply Drawn0.step)⟩
 ·replace c2 := Bool.eq_false_iff.mpr c2
  subst c2
  have H1 : (some 0) = some r := by rw [if_neg (show ¬ (false = true) by decide)] at H; exact H
  clear H; have H := H1; clear H1
  obtain rfl := Option.some.inj H
  go_enter Try.func111, Try.ntmps111
  go_wp2
  go_ret
  exact ⟨by first | rfl | (simp; done) | (simp [*]; done), by repeat (first | exact Drawn0.refl _ | apply Drawn0.step)⟩

/-! ### impl_copyBytes: function 167 -/
def impl_copyBytes.f (l0 : List Int) : Option (List Int) := (some (([] : List Int) : List Int)).bind fun y261 => (if y261.length + l0.length < 140737488355328 then (some (y261 ++ l0)) else (none))
set_option maxHeartbeats 8000000 in
set_option maxRecDepth 100000 in
theorem impl_copyBytes.calls (A0 : Option Addr) (c0 : Nat) (l0 : List Int) (r : List Int) (w : World) (hr0 : Kd.C (Kd.int .u8) w A0 l0.length l0) (hc0 : l0.length ≤ c0) (h : impl_copyBytes.f l0 = some r) :
    Calls Try.prog 167 #[.slice A0 l0.length c0] w fun e w' => ∃ v0_ : Value, e = .returned (v0_) ∧ Kd.R (Kd.int .u8) 5 w' w.heap.size (fun _ => True) v0_ r ∧ Below w.heap.size w w' := by
 have HR0 := Aside0.mk hr0; have HC0 := Aside0.mk hc0; clear hr0 hc0
 have HB := Aside0.mk (Below.refl w.heap.size w)
 have H : ((some (([] : List Int) : List Int)).bind fun y261 => (if y261.length + l0.length < 140737488355328 then (some (y261 ++ l0)) else (none))) = some r := h
 clear h
 obtain ⟨y261, hy261⟩ : ∃ y_ : List Int, y_ = (([] : List Int)) := ⟨_, rfl⟩
 replace H : (if y261.length + l0.length < 140737488355328 then (some (y261 ++ l0)) else (none)) = some r := by first | (rw [hy261]; with_reducible exact H) | (have H2_ := (Option.bind_some _ _).symm.trans H; rw [hy261]; with_reducible exact H2_) | (have H2_ := (Option.bind_some _ _).symm.trans H; with_reducible exact H2_) | with_reducible exact H | (rw [hy261]; exact H) | exact H
 have Ny261 := Aside0.mk hy261; clear hy261
 by_cases c2 : y261.length + l0.length < 140737488355328
 ·rw [if_pos c2] at H; have LMc2 := Aside0.mk c2; clear c2
  obtain ⟨y264, hy264⟩ : ∃ y_ : List Int, y_ = (y261 ++ l0) := ⟨_, rfl⟩
  replace H : (some y264) = some r := by first | (rw [hy264]; with_reducible exact H) | (have H2_ := (Option.bind_some _ _).symm.trans H; rw [hy264]; with_reducible exact H2_) | (have H2_ := (Option.bind_some _ _).symm.trans H; with_reducible exact H2_) | with_reducible exact H | (rw [hy264]; exact H) | exact H
  have Ny264 := Aside0.mk hy264; clear hy264
  obtain rfl := Option.some.inj H
  go_enter Try.func167, Try.ntmps167
  go_wp2_with (first | ((with_reducible refine gate_dst (N := 3) rfl ?_); refine Kd.R_lit (Kd.int .u8) _ 5 ?hg (N := 3) ?hd (xs := ([] : List Int)) (inner := []) (ok := fun _ => True) (okp := fun _ => True) ?hr ?hp (fun _ hk => hk) trivial (Below.refl _ _) (Nat.le_refl _) (by simp) ?_; (case hd => rfl); (case hg => rfl); (case hr => first | (go_simp; done) | (go_simp; rfl)); (case hp => exact (Reps.none _ _)); intro v262 w3 ho4 hb hg_ hnew_; clear hg_ hnew_; (first | rw [← Ny261.out] at ho4 | (simp only [Int.reduceToNat] at ho4; rw [← Ny261.out] at ho4)); have n0_ := Aside0.mk (Kd.R_lower ho4 (below_size (Cmp.g HB.out))); have n1_ := Aside0.mk (below_step (Cmp.g HB.out) hb); clear HB; have HO263 := n0_; have HB := n1_; clear n0_ n1_; clear hb ho4) | ((with_reducible refine gate_builtin (b := .append) (xs := #[.tmp 3, .tmp 4]) rfl ?_); at_builtin; refine Kd.R_append_rows (Kd.int .u8) (w0 := w) w.heap.size rfl (.tmp 3) (.tmp 4) 22 5 (.int .u8 0) 1 rfl Try.underlying22 info5 rfl (by decide) (by omega) v262 y261 l0 _ _ _ (fun _ => True) (fun _ => False) rfl rfl ?aO ?aR (fun _ _ h => h) (fun _ h => h.elim) ?aF ?aB ?aS ?aL ?_; (case aR => repeat (first | exact (Kd.C_below HR0.out HB.out) | (with_reducible refine Kd.C_alloc ?_ _) | (with_reducible refine Kd.C_drewN ?_ _) | (with_reducible refine Kd.C_drew ?_))); (case aB => exact (Cmp.g HB.out)); (case aF => exact (fun _ _ => trivial)); (case aO => exact (Cmp.rr HO263.out)); (case aS => exact (below_size (Cmp.g HB.out))); (case aL => have := LMc2.out; omega); intro v265 w5 ho hb hg hat; rw [← Ny264.out] at ho; have n0_ := Aside0.mk (hb); have n1_ := Aside0.mk (ho); clear HB; clear HO263; have HB := n0_; have HO266 := n1_; clear n0_ n1_; clear ho hb hg hat))
  go_ret
  exact ⟨_, by first | rfl | (simp [errW_none, errW_some] <;> rfl) | (simp [*, errW_none, errW_some] <;> rfl), by (with_reducible repeat (first | apply Kd.R_alloc | apply Kd.R_drewN | apply Kd.R_drew)); exact HO266.out, Cmp.g HB.out⟩
 ·rw [if_neg c2] at H; exact absurd H (by simp)

/-! ### impl_AppendUvarint: function 147 -/
mutual
def impl_AppendUvarint.j0 : Nat → Int → List Int → Bool → Option (List Int)
  | 0, _, _, _ => none
  | k + 1, x1, x5, x13 => if x13 = true then (some x5) else (impl_AppendUvarint.l0 k x1 x5)
def impl_AppendUvarint.l0 : Nat → Int → List Int → Option (List Int)
  | 0, _, _ => none
  | k + 1, x1, x5 => if x1 ≥ 128 then (if x5.length < 140737488355328 then (impl_AppendUvarint.l0 k (wrap64 (Int.tdiv x1 128)) (x5 ++ [(wrap64 ((Int.tmod x1 128) + 128)) % 256])) else (none)) else (if x5.length < 140737488355328 then (some (x5 ++ [(x1) % 256])) else (none))
end
def impl_AppendUvarint.f (k : Nat) (l0 : List Int) (a1 : Int) : Option (List Int) := (impl_copyBytes.f l0).bind fun t267 => (if a1 < 0 then (impl_AppendUvarint.j0 k a1 t267 true) else (impl_AppendUvarint.j0 k a1 t267 (decide (a1 > 1000000000000))))
theorem impl_AppendUvarint.mono_l : ∀ k, (∀ y0 y1 y2, LeO (impl_AppendUvarint.j0 k y0 y1 y2) (impl_AppendUvarint.j0 (k + 1) y0 y1 y2)) ∧ (∀ y0 y1, LeO (impl_AppendUvarint.l0 k y0 y1) (impl_AppendUvarint.l0 (k + 1) y0 y1))
  | 0 => ⟨fun _ _ _ r h => by simp [impl_AppendUvarint.j0] at h, fun _ _ r h => by simp [impl_AppendUvarint.l0] at h⟩
  | k + 1 => by
    obtain ⟨ih0, ih1⟩ := impl_AppendUvarint.mono_l k
    refine ⟨?_, ?_⟩
    · intro y0 y1 y2
      unfold impl_AppendUvarint.j0
      repeat' first
      | (with_reducible exact ih0 _ _ _)
      | (with_reducible exact ih1 _ _)
      | (with_reducible exact LeO.refl _)
      | (with_reducible exact LeO.none _)
      | (with_reducible refine LeO.ite ?_ ?_)
      | (with_reducible refine LeO.bind ?_ (fun _ => ?_))
      | exact ih0 _ _ _
      | exact ih1 _ _
      | exact LeO.none _
      | refine LeO.ite ?_ ?_
      | refine LeO.bind ?_ (fun _ => ?_)
    · intro y0 y1
      unfold impl_AppendUvarint.l0
      repeat' first
      | (with_reducible exact ih0 _ _ _)
      | (with_reducible exact ih1 _ _)
      | (with_reducible exact LeO.refl _)
      | (with_reducible exact LeO.none _)
      | (with_reducible refine LeO.ite ?_ ?_)
      | (with_reducible refine LeO.bind ?_ (fun _ => ?_))
      | exact ih0 _ _ _
      | exact ih1 _ _
      | exact LeO.none _
      | refine LeO.ite ?_ ?_
      | refine LeO.bind ?_ (fun _ => ?_)
theorem impl_AppendUvarint.mono : ∀ a0 a1 k, LeO (impl_AppendUvarint.f k a0 a1) (impl_AppendUvarint.f (k + 1) a0 a1) := by
  intro a0 a1 k
  obtain ⟨ih0, ih1⟩ := impl_AppendUvarint.mono_l k
  unfold impl_AppendUvarint.f
  repeat' first
      | (with_reducible exact ih0 _ _ _)
      | (with_reducible exact ih1 _ _)
      | (with_reducible exact LeO.refl _)
      | (with_reducible exact LeO.none _)
      | (with_reducible refine LeO.ite ?_ ?_)
      | (with_reducible refine LeO.bind ?_ (fun _ => ?_))
      | exact ih0 _ _ _
      | exact ih1 _ _
      | exact LeO.none _
      | refine LeO.ite ?_ ?_
      | refine LeO.bind ?_ (fun _ => ?_)
set_option maxHeartbeats 8000000 in
set_option maxRecDepth 100000 in
theorem impl_AppendUvarint.calls (k : Nat) (A0 : Option Addr) (c0 : Nat) (l0 : List Int) (a1 : Int) (r : List Int) (w : World) (hr0 : Kd.C (Kd.int .u8) w A0 l0.length l0) (hc0 : l0.length ≤ c0) (h : impl_AppendUvarint.f k l0 a1 = some r) :
    Calls Try.prog 147 #[.slice A0 l0.length c0, .int .i64 a1] w fun e w' => ∃ v0_ : Value, e = .returned (v0_) ∧ Kd.R (Kd.int .u8) 5 w' w.heap.size (fun _ => True) v0_ r ∧ Below w.heap.size w w' := by
 have HR0 := Aside0.mk hr0; have HC0 := Aside0.mk hc0; clear hr0 hc0
 have HB := Aside0.mk (Below.refl w.heap.size w)
 have H : ((impl_copyBytes.f l0).bind fun t267 => (if a1 < 0 then (impl_AppendUvarint.j0 k a1 t267 true) else (impl_AppendUvarint.j0 k a1 t267 (decide (a1 > 1000000000000))))) = some r := h
 clear h; replace H := Option.bind_eq_some_iff.mp H; obtain ⟨t267, A30, H⟩ := H; (try dsimp only at H); have A3 := Aside0.mk A30; clear A30; have HC4 := Aside0.mk H; clear H
 go_enter Try.func147, Try.ntmps147
 go_upto_region 2 with (first | ((with_reducible refine gate_callee (f := 167) rfl ?_); refine goesL_ (some 7) rfl rfl Try.func167 (by kernel_rfl) rfl #[.slice A0 l0.length c0] rfl Cmp.q ?_; (with_reducible refine (impl_copyBytes.calls _ _ l0 t267 _ ?side1 ?side2 A3.out).mono ?_); (case side1 => repeat (first | exact HR0.out | (with_reducible refine Kd.C_alloc ?_ _) | (with_reducible refine Kd.C_drewN ?_ _) | (with_reducible refine Kd.C_drew ?_))); (case side2 => exact HC0.out); rintro e w5 ⟨v268, rfl, ho0, hb⟩; refine ⟨_, rfl, ?_⟩; have n0_ := Aside0.mk (Kd.R_lower ho0 (below_size (Cmp.g HB.out))); have n1_ := Aside0.mk (below_step (Cmp.g HB.out) hb); clear HB; have HO269 := n0_; have HB := n1_; clear n0_ n1_; (try clear hb); (try clear hb2); (try clear hk); (try clear hi); (try clear ho0)))
 (try simp only [Act.put, List.setIfInBounds_toArray, List.set_cons_zero, List.set_cons_succ])
 go_cut [13] (fun v13 wc => ∃ (kq : Nat) (x13_3 : Bool), v13 = .bool x13_3 ∧ Aside0 (impl_AppendUvarint.j0 kq a1 t267 x13_3 = some r) ∧ Aside0 (kq ≤ k) ∧ Aside0 (Kd.R (Kd.int .u8) 5 wc w.heap.size (fun _ => True) v268 t267) ∧ Aside0 (Below w.heap.size w wc))
 case first =>
  have H := HC4.out; clear HC4
  by_cases c6 : a1 < 0
  ·rw [if_pos c6] at H; have c6b0 : decide (a1 < 0) = true := decide_eq_true c6; clear c6
   (first | rw [c6b0] | (simp only [i64_w, i32_w]; rw [c6b0]) | skip)
   have H' := Aside0.mk H
   clear H
   go_wp2
   go_meet
   case rel => exact ⟨_, (true), (by first | rfl | simp | simp [*]), H', ⟨by first | omega | exact Nat.le_refl _⟩, ⟨by (with_reducible repeat (first | apply Kd.R_alloc | apply Kd.R_drewN | apply Kd.R_drew)); exact HO269.out⟩, ⟨Cmp.g HB.out⟩⟩
  ·rw [if_neg c6] at H; have c6b0 : decide (a1 < 0) = false := decide_eq_false c6; clear c6
   (first | rw [c6b0] | (simp only [i64_w, i32_w]; rw [c6b0]) | skip)
   have H' := Aside0.mk H
   clear H
   go_wp2
   go_meet
   case rel => exact ⟨_, (decide (a1 > 1000000000000)), (by first | rfl | simp | simp [*]), H', ⟨by first | omega | exact Nat.le_refl _⟩, ⟨by (with_reducible repeat (first | apply Kd.R_alloc | apply Kd.R_drewN | apply Kd.R_drew)); exact HO269.out⟩, ⟨Cmp.g HB.out⟩⟩
 case rest =>
  clear HC4; (try clear c1); (try clear p2); (try clear c6); (try clear c6b0)
  obtain ⟨kq, x13_3, rfl, HA, HJ3, HO_5, HB⟩ := hcut
  cases kq with
  | zero => exact absurd HA.out (by simp [impl_AppendUvarint.j0])
  | succ kj3 =>
   have H := HA.out; clear HA
   simp only [impl_AppendUvarint.j0] at H
   by_cases c7 : x13_3 = true
   ·subst c7; rw [if_pos rfl] at H
    obtain rfl := Option.some.inj H
    go_wp2
    go_ret
    exact ⟨_, by first | rfl | (simp [errW_none, errW_some] <;> rfl) | (simp [*, errW_none, errW_some] <;> rfl), by (with_reducible repeat (first | apply Kd.R_alloc | apply Kd.R_drewN | apply Kd.R_drew)); exact HO_5.out, Cmp.g HB.out⟩
   ·replace c7 := Bool.eq_false_iff.mpr c7
    subst c7
    have H1 : (impl_AppendUvarint.l0 kj3 a1 t267) = some r := by rw [if_neg (show ¬ (false = true) by decide)] at H; exact H
    clear H; have H := H1; clear H1
    have H' := Aside0.mk H
    clear H
    go_wp2
    go_loopg [1, 5] kj3 (fun kq v1 v5 w' => ∃ (x1_2 : Int) (x5_2 : List Int), v1 = .int .i64 x1_2 ∧ Aside0 (impl_AppendUvarint.l0 kq x1_2 x5_2 = some r) ∧ Aside0 (kq ≤ kj3) ∧ Aside0 (Kd.R (Kd.int .u8) 5 w' w.heap.size (fun _ => True) v5 x5_2) ∧ Aside0 (Below w.heap.size w w'))
    case atStart => exact ⟨(a1), (t267), (by first | rfl | simp | simp [*]), H', ⟨Nat.le_refl _⟩, ⟨by (with_reducible repeat (first | apply Kd.R_alloc | apply Kd.R_drewN | apply Kd.R_drew)); exact HO_5.out⟩, ⟨Cmp.g HB.out⟩⟩
    case round =>
     clear H'
     (try clear c1); (try clear p2); (try clear c6); (try clear c6b0); (try clear c7); (try clear p2)
     obtain ⟨x1_2, x5_2, rfl, HA, HK2, HO_5, HB⟩ := hrel
     cases gk with
     | zero => exact absurd HA.out (by simp [impl_AppendUvarint.l0])
     | succ k2 =>
      have H := HA.out; clear HA
      simp only [impl_AppendUvarint.l0] at H
      by_cases c8 : x1_2 ≥ 128
      ·rw [if_pos c8] at H; have c8b0 : decide (128 ≤ x1_2) = true := decide_eq_true c8; clear c8
       by_cases c9 : x5_2.length < 140737488355328
       ·rw [if_pos c9] at H; have LMc9 := Aside0.mk c9; clear c9
        obtain ⟨y270, hy270⟩ : ∃ y_ : List Int, y_ = (x5_2 ++ [(wrap64 ((Int.tmod x1_2 128) + 128)) % 256]) := ⟨_, rfl⟩
        replace H : (impl_AppendUvarint.l0 k2 (wrap64 (Int.tdiv x1_2 128)) y270) = some r := by first | (rw [hy270]; with_reducible exact H) | (have H2_ := (Option.bind_some _ _).symm.trans H; rw [hy270]; with_reducible exact H2_) | (have H2_ := (Option.bind_some _ _).symm.trans H; with_reducible exact H2_) | with_reducible exact H | (rw [hy270]; exact H) | exact H
        have Ny270 := Aside0.mk hy270; clear hy270
        have H' := Aside0.mk H
        clear H
        go_wp2_with (first | ((with_reducible refine gate_builtin (b := .append) (xs := #[.tmp 17, .tmp 22]) rfl ?_); at_builtin; refine Kd.R_append (Kd.int .u8) (w0 := w) w.heap.size rfl (.tmp 17) (.tmp 22) 22 5 (.int .u8 0) 1 rfl Try.underlying22 info5 rfl (by decide) (by omega) u5 x5_2 ((wrap64 ((Int.tmod x1_2 128) + 128)) % 256) [.int .u8 ((wrap64 ((Int.tmod x1_2 128) + 128)) % 256)] (fun _ => True) (fun _ => False) rfl rfl ?aP (fun _ hk => hk.elim) ?aF ?aO ?aB ?aS ?aL ?_; (case aP => exact rfl); (case aB => exact (Cmp.g HB.out)); (case aF => exact (fun _ _ => trivial)); (case aO => exact (Cmp.rr HO_5.out)); (case aS => exact (below_size (Cmp.g HB.out))); (case aL => have := LMc9.out; omega); intro v271 w10 ho hb hg hat; rw [← Ny270.out] at ho; have n0_ := Aside0.mk (hb); have n1_ := Aside0.mk (ho); clear HB; clear HO_5; have HB := n0_; have HO272 := n1_; clear n0_ n1_; clear ho hb hg hat))
        go_roundg k2
        case measure => have := HJ3.out; have := HK2.out; omega
        case rel => exact ⟨(wrap64 (Int.tdiv x1_2 128)), (y270), (by first | rfl | simp | simp [*]), H', ⟨by have := HJ3.out; have := HK2.out; omega⟩, ⟨by (with_reducible repeat (first | apply Kd.R_alloc | apply Kd.R_drewN | apply Kd.R_drew)); exact HO272.out⟩, ⟨Cmp.g HB.out⟩⟩
       ·rw [if_neg c9] at H; exact absurd H (by simp)
      ·rw [if_neg c8] at H; have c8b0 : decide (128 ≤ x1_2) = false := decide_eq_false c8; clear c8
       by_cases c11 : x5_2.length < 140737488355328
       ·rw [if_pos c11] at H; have LMc11 := Aside0.mk c11; clear c11
        obtain ⟨y273, hy273⟩ : ∃ y_ : List Int, y_ = (x5_2 ++ [(x1_2) % 256]) := ⟨_, rfl⟩
        replace H : (some y273) = some r := by first | (rw [hy273]; with_reducible exact H) | (have H2_ := (Option.bind_some _ _).symm.trans H; rw [hy273]; with_reducible exact H2_) | (have H2_ := (Option.bind_some _ _).symm.trans H; with_reducible exact H2_) | with_reducible exact H | (rw [hy273]; exact H) | exact H
        have Ny273 := Aside0.mk hy273; clear hy273
        obtain rfl := Option.some.inj H
        go_wp2_with (first | ((with_reducible refine gate_builtin (b := .append) (xs := #[.tmp 26, .tmp 29]) rfl ?_); at_builtin; refine Kd.R_append (Kd.int .u8) (w0 := w) w.heap.size rfl (.tmp 26) (.tmp 29) 22 5 (.int .u8 0) 1 rfl Try.underlying22 info5 rfl (by decide) (by omega) u5 x5_2 ((x1_2) % 256) [.int .u8 ((x1_2) % 256)] (fun _ => True) (fun _ => False) rfl rfl ?aP (fun _ hk => hk.elim) ?aF ?aO ?aB ?aS ?aL ?_; (case aP => exact rfl); (case aB => exact (Cmp.g HB.out)); (case aF => exact (fun _ _ => trivial)); (case aO => exact (Cmp.rr HO_5.out)); (case aS => exact (below_size (Cmp.g HB.out))); (case aL => have := LMc11.out; omega); intro v274 w12 ho hb hg hat; rw [← Ny273.out] at ho; have n0_ := Aside0.mk (hb); have n1_ := Aside0.mk (ho); clear HB; clear HO_5; have HB := n0_; have HO275 := n1_; clear n0_ n1_; clear ho hb hg hat))
        go_ret
        exact ⟨_, by first | rfl | (simp [errW_none, errW_some] <;> rfl) | (simp [*, errW_none, errW_some] <;> rfl), by (with_reducible repeat (first | apply Kd.R_alloc | apply Kd.R_drewN | apply Kd.R_drew)); exact HO275.out, Cmp.g HB.out⟩
       ·rw [if_neg c11] at H; exact absurd H (by simp)

/-! ### impl_EncodeInts: function 112 -/
def impl_EncodeInts.l0 : Nat → List Int → List Int → Int → Int → Option (List Int)
  | 0, _, _, _, _ => none
  | k + 1, x3, x7, x8, x9 => if x9 < x8 then (if 0 ≤ x9 then (if x9 < (x7.length : Int) then ((impl_AppendUvarint.f k x3 (rd x7 x9)).bind fun t280 => (impl_EncodeInts.l0 k t280 x7 x8 (wrap64 (x9 + 1)))) else (none)) else (none)) else (some x3)
def impl_EncodeInts.f (k : Nat) (l0 : List Int) : Option (List Int) := impl_EncodeInts.l0 k (([] : List Int)) l0 (l0.length : Int) 0
theorem impl_EncodeInts.mono_l : ∀ k, (∀ y0 y1 y2 y3, LeO (impl_EncodeInts.l0 k y0 y1 y2 y3) (impl_EncodeInts.l0 (k + 1) y0 y1 y2 y3))
  | 0 => fun _ _ _ _ r h => by simp [impl_EncodeInts.l0] at h
  | k + 1 => by
    have ih0 := impl_EncodeInts.mono_l k
    · intro y0 y1 y2 y3
      unfold impl_EncodeInts.l0
      repeat' first
      | (with_reducible exact ih0 _ _ _ _)
      | (with_reducible exact impl_AppendUvarint.mono _ _ _)
      | (with_reducible exact LeO.refl _)
      | (with_reducible exact LeO.none _)
      | (with_reducible refine LeO.ite ?_ ?_)
      | (with_reducible refine LeO.bind ?_ (fun _ => ?_))
      | exact ih0 _ _ _ _
      | exact impl_AppendUvarint.mono _ _ _
      | exact LeO.none _
      | refine LeO.ite ?_ ?_
      | refine LeO.bind ?_ (fun _ => ?_)
theorem impl_EncodeInts.mono : ∀ a0 k, LeO (impl_EncodeInts.f k a0) (impl_EncodeInts.f (k + 1) a0) := by
  intro a0 k
  have ih0 := impl_EncodeInts.mono_l k
  unfold impl_EncodeInts.f
  repeat' first
      | (with_reducible exact ih0 _ _ _ _)
      | (with_reducible exact impl_AppendUvarint.mono _ _ _)
      | (with_reducible exact LeO.refl _)
      | (with_reducible exact LeO.none _)
      | (with_reducible refine LeO.ite ?_ ?_)
      | (with_reducible refine LeO.bind ?_ (fun _ => ?_))
      | exact ih0 _ _ _ _
      | exact impl_AppendUvarint.mono _ _ _
      | exact LeO.none _
      | refine LeO.ite ?_ ?_
      | refine LeO.bind ?_ (fun _ => ?_)
set_option maxHeartbeats 8000000 in
set_option maxRecDepth 100000 in
theorem impl_EncodeInts.calls (k : Nat) (A0 : Option Addr) (c0 : Nat) (l0 : List Int) (r : List Int) (w : World) (hr0 : Kd.C (Kd.int .i64) w A0 l0.length l0) (hc0 : l0.length ≤ c0) (h : impl_EncodeInts.f k l0 = some r) :
    Calls Try.prog 112 #[.slice A0 l0.length c0] w fun e w' => ∃ v0_ : Value, e = .returned (v0_) ∧ Kd.R (Kd.int .u8) 5 w' w.heap.size (fun _ => True) v0_ r ∧ Below w.heap.size w w' := by
 have HR0 := Aside0.mk hr0; have HC0 := Aside0.mk hc0; clear hr0 hc0
 have HB := Aside0.mk (Below.refl w.heap.size w)
 have H : (impl_EncodeInts.l0 k (([] : List Int)) l0 (l0.length : Int) 0) = some r := h
 clear h
 obtain ⟨y276, hy276⟩ : ∃ y_ : List Int, y_ = (([] : List Int)) := ⟨_, rfl⟩
 replace H : (impl_EncodeInts.l0 k y276 l0 (l0.length : Int) 0) = some r := by first | (rw [hy276]; with_reducible exact H) | (have H2_ := (Option.bind_some _ _).symm.trans H; rw [hy276]; with_reducible exact H2_) | (have H2_ := (Option.bind_some _ _).symm.trans H; with_reducible exact H2_) | with_reducible exact H | (rw [hy276]; exact H) | exact H
 have Ny276 := Aside0.mk hy276; clear hy276
 have H' := Aside0.mk H
 clear H
 go_enter Try.func112, Try.ntmps112
 go_wp2_with (first | ((with_reducible refine gate_dst (N := 6) rfl ?_); refine Kd.R_lit (Kd.int .u8) _ 5 ?hg (N := 6) ?hd (xs := ([] : List Int)) (inner := []) (ok := fun _ => True) (okp := fun _ => True) ?hr ?hp (fun _ hk => hk) trivial (Below.refl _ _) (Nat.le_refl _) (by simp) ?_; (case hd => rfl); (case hg => rfl); (case hr => first | (go_simp; done) | (go_simp; rfl)); (case hp => exact (Reps.none _ _)); intro v277 w2 ho3 hb hg_ hnew_; clear hg_ hnew_; (first | rw [← Ny276.out] at ho3 | (simp only [Int.reduceToNat] at ho3; rw [← Ny276.out] at ho3)); have n0_ := Aside0.mk (Kd.R_lower ho3 (below_size (Cmp.g HB.out))); have n1_ := Aside0.mk (below_step (Cmp.g HB.out) hb); clear HB; have HO278 := n0_; have HB := n1_; clear n0_ n1_; clear hb ho3))
 go_loopg [3, 9] k (fun kq v3 v9 w' => ∃ (x3_1 : List Int) (x9_1 : Int), v9 = .int .i64 x9_1 ∧ Aside0 (impl_EncodeInts.l0 kq x3_1 l0 (l0.length : Int) x9_1 = some r) ∧ Aside0 (kq ≤ k) ∧ Aside0 (Kd.R (Kd.int .u8) 5 w' w.heap.size (fun _ => True) v3 x3_1) ∧ Aside0 (Below w.heap.size w w'))
 case atStart => exact ⟨(y276), (0), (by first | rfl | simp | simp [*]), H', ⟨Nat.le_refl _⟩, ⟨by (with_reducible repeat (first | apply Kd.R_alloc | apply Kd.R_drewN | apply Kd.R_drew)); exact HO278.out⟩, ⟨Cmp.g HB.out⟩⟩
 case round =>
  clear H'
  (try clear c1); (try clear p2)
  obtain ⟨x3_1, x9_1, rfl, HA, HK1, HO_3, HB⟩ := hrel
  cases gk with
  | zero => exact absurd HA.out (by simp [impl_EncodeInts.l0])
  | succ k1 =>
   have H := HA.out; clear HA
   simp only [impl_EncodeInts.l0] at H
   by_cases c4 : x9_1 < (l0.length : Int)
   ·rw [if_pos c4] at H
    have c4b0 : decide (x9_1 < (l0.length : Int)) = true := decide_eq_true c4
    clear c4
    by_cases c5 : 0 ≤ x9_1
    ·rw [if_pos c5] at H; have c5b0 : decide (0 ≤ x9_1) = true := decide_eq_true c5; clear c5
     by_cases c6 : x9_1 < (l0.length : Int)
     ·rw [if_pos c6] at H
      have c6b0 : decide (x9_1 < (l0.length : Int)) = true := decide_eq_true c6
      clear c6; replace H := Option.bind_eq_some_iff.mp H; obtain ⟨t280, A70, H⟩ := H; (try dsimp only at H); have A7 := Aside0.mk A70; clear A70
      have H' := Aside0.mk H
      clear H
      have p279 : 0 ≤ (x9_1 : Int) := of_decide_eq_true Cmp.d
      have q279 : x9_1 < (l0.length : Int) := of_decide_eq_true Cmp.d
      obtain ⟨ad279, e279, hx279_0⟩ := Kd.at_int HR0.out x9_1 p279 q279
      cases e279
      replace hx279_0 := (HB.out.cell (World.block_lt_of_cell? w _ hx279_0)).trans hx279_0
      replace p279 := eq_true p279; replace q279 := eq_true q279
      obtain ⟨Ao8, co8, eo8⟩ := Kd.R_slice HO_3.out
      subst eo8
      go_wp2_with (first | ((with_reducible refine gate_callee (f := 147) rfl ?_); refine goesL_ (some 15) rfl rfl Try.func147 (by kernel_rfl) rfl #[.slice Ao8 x3_1.length co8, .int .i64 (rd l0 x9_1)] rfl Cmp.q ?_; (with_reducible refine (impl_AppendUvarint.calls k1 _ _ x3_1 (rd l0 x9_1) t280 _ ?side1 ?side2 A7.out).mono ?_); (case side1 => exact Cmp.rc (Kd.R_reads' HO_3.out).2.2); (case side2 => exact (Kd.R_reads' HO_3.out).2.1); rintro e w9 ⟨v281, rfl, ho0, hb⟩; refine ⟨_, rfl, ?_⟩; have n0_ := Aside0.mk (Kd.R_elder' (Cmp.rr HO_3.out) (Kd.R_base ho0) hb); have n1_ := Aside0.mk (Kd.R_lower (Kd.R_new' ho0 (Kd.R_lt (Cmp.rr HO_3.out))) (below_size (Cmp.g HB.out))); have n2_ := Aside0.mk (below_step (Cmp.g HB.out) hb); clear HO_3; clear HB; have HO_3 := n0_; have HO282 := n1_; have HB := n2_; clear n0_ n1_ n2_; (try clear hb); (try clear hb2); (try clear hk); (try clear hi); (try clear ho0)))
      go_roundg k1
      case measure => have := HK1.out; omega
      case rel => exact ⟨(t280), (wrap64 (x9_1 + 1)), (by first | rfl | simp | simp [*]), H', ⟨by have := HK1.out; omega⟩, ⟨by (with_reducible repeat (first | apply Kd.R_alloc | apply Kd.R_drewN | apply Kd.R_drew)); exact Kd.R_mono HO282.out (fun _ hk => trivial)⟩, ⟨Cmp.g HB.out⟩⟩
     ·rw [if_neg c6] at H; exact absurd H (by simp)
    ·rw [if_neg c5] at H; exact absurd H (by simp)
   ·rw [if_neg c4] at H
    have c4b0 : decide (x9_1 < (l0.length : Int)) = false := decide_eq_false c4
    clear c4
    obtain rfl := Option.some.inj H
    go_wp2
    go_ret
    exact ⟨_, by first | rfl | (simp [errW_none, errW_some] <;> rfl) | (simp [*, errW_none, errW_some] <;> rfl), by (with_reducible repeat (first | apply Kd.R_alloc | apply Kd.R_drewN | apply Kd.R_drew)); exact HO_3.out, Cmp.g HB.out⟩

/-! ### impl_EncodeBundle: function 49 -/
def impl_EncodeBundle.l0 : Nat → List Int → List (S143) → Int → Int → Option (List Int)
  | 0, _, _, _, _ => none
  | k + 1, x3, x14, x15, x16 => if x16 < x15 then (if 0 ≤ x16 then (if x16 < (x14.length : Int) then ((impl_bit.f ((rd_T143 x14 x16).f3)).bind fun t290 => ((some (([(rd_T143 x14 x16).f0, (rd_T143 x14 x16).f1, (rd_T143 x14 x16).f2, t290] : List Int) : List Int)).bind fun y291 => (if x3.length + y291.length < 17592186044416 then (impl_EncodeBundle.l0 k (x3 ++ y291) x14 x15 (wrap64 (x16 + 1))) else (none)))) else (none)) else (none)) else ((impl_EncodeInts.f k x3).bind fun t297 => (some t297))
def impl_EncodeBundle.f (k : Nat) (l0_0 : List (S143)) : Option (List Int) := (impl_IsBundle.f k l0_0).bind fun t284 => (if t284 = true then (impl_EncodeBundle.l0 k (([(l0_0.length : Int)] : List Int)) l0_0 (l0_0.length : Int) 0) else (some ([] : List Int)))
theorem impl_EncodeBundle.mono_l : ∀ k, (∀ y0 y1 y2 y3, LeO (impl_EncodeBundle.l0 k y0 y1 y2 y3) (impl_EncodeBundle.l0 (k + 1) y0 y1 y2 y3))
  | 0 => fun _ _ _ _ r h => by simp [impl_EncodeBundle.l0] at h
  | k + 1 => by
    have ih0 := impl_EncodeBundle.mono_l k
    · intro y0 y1 y2 y3
      unfold impl_EncodeBundle.l0
      repeat' first
      | (with_reducible exact ih0 _ _ _ _)
      | (with_reducible exact impl_EncodeInts.mono _ _)
      | (with_reducible exact impl_IsBundle.mono _ _)
      | (with_reducible exact LeO.refl _)
      | (with_reducible exact LeO.none _)
      | (with_reducible refine LeO.ite ?_ ?_)
      | (with_reducible refine LeO.bind ?_ (fun _ => ?_))
      | exact ih0 _ _ _ _
      | exact impl_EncodeInts.mono _ _
      | exact impl_IsBundle.mono _ _
      | exact LeO.none _
      | refine LeO.ite ?_ ?_
      | refine LeO.bind ?_ (fun _ => ?_)
theorem impl_EncodeBundle.mono : ∀ a0 k, LeO (impl_EncodeBundle.f k a0) (impl_EncodeBundle.f (k + 1) a0) := by
  intro a0 k
  have ih0 := impl_EncodeBundle.mono_l k
  unfold impl_EncodeBundle.f
  repeat' first
      | (with_reducible exact ih0 _ _ _ _)
      | (with_reducible exact impl_EncodeInts.mono _ _)
      | (with_reducible exact impl_IsBundle.mono _ _)
      | (with_reducible exact LeO.refl _)
      | (with_reducible exact LeO.none _)
      | (with_reducible refine LeO.ite ?_ ?_)
      | (with_reducible refine LeO.bind ?_ (fun _ => ?_))
      | exact ih0 _ _ _ _
      | exact impl_EncodeInts.mono _ _
      | exact impl_IsBundle.mono _ _
      | exact LeO.none _
      | refine LeO.ite ?_ ?_
      | refine LeO.bind ?_ (fun _ => ?_)
def impl_EncodeBundle.T7 : Bool × List (List Nat × List Nat) := (true, [([], []), ([], []), ([1], [1]), ([], []), ([3], [3]), ([], []), ([5], [5]), ([], []), ([7], [7]), ([8], [8]), ([2, 4, 6, 9], [2, 4, 6, 9]), ([0, 10, 9], [0, 10]), ([11, 11, 0, 1, 2, 3, 4, 5, 6, 7, 8, 9, 10, 11], [0, 11])])
def impl_EncodeBundle.B7 : List Nat := [0, 0, 2, 0, 8, 0, 32, 0, 128, 384, 1022, 2047, 4095]
theorem impl_EncodeBundle.tab7 : rtab .any (opsOf Try.f49 7) = impl_EncodeBundle.T7 := by kernel_rfl
theorem impl_EncodeBundle.bits7 : waitsOk impl_EncodeBundle.T7.2 impl_EncodeBundle.B7 = true := by kernel_rfl
set_option maxHeartbeats 8000000 in
set_option maxRecDepth 100000 in
theorem impl_EncodeBundle.calls (k : Nat) (A0_0 : Option Addr) (c0_0 : Nat) (l0_0 : List (S143)) (r : List Int) (w : World) (hr0_0 : Kd.C k143 w A0_0 l0_0.length l0_0) (hc0_0 : l0_0.length ≤ c0_0) (h : impl_EncodeBundle.f k l0_0 = some r) :
    Calls Try.prog 49 #[.agg #[.slice A0_0 l0_0.length c0_0]] w fun e w' => ∃ v0_ : Value, e = .returned (v0_) ∧ Kd.R (Kd.int .u8) 5 w' w.heap.size (fun _ => True) v0_ r ∧ Below w.heap.size w w' := by
 have hu71 := Try.underlying71; have hu143 := Try.underlying143; have HR0_0 := Aside0.mk hr0_0; have HC0_0 := Aside0.mk hc0_0; clear hr0_0 hc0_0
 have HB := Aside0.mk (Below.refl w.heap.size w)
 have H : ((impl_IsBundle.f k l0_0).bind fun t284 => (if t284 = true then (impl_EncodeBundle.l0 k (([(l0_0.length : Int)] : List Int)) l0_0 (l0_0.length : Int) 0) else (some ([] : List Int)))) = some r := h
 clear h; replace H := Option.bind_eq_some_iff.mp H; obtain ⟨t284, A20, H⟩ := H; (try dsimp only at H); have A2 := Aside0.mk A20; clear A20
 by_cases c3 : t284 = true
 ·subst c3; rw [if_pos rfl] at H
  obtain ⟨y285, hy285⟩ : ∃ y_ : List Int, y_ = (([(l0_0.length : Int)] : List Int)) := ⟨_, rfl⟩
  replace H : (impl_EncodeBundle.l0 k y285 l0_0 (l0_0.length : Int) 0) = some r := by first | (rw [hy285]; with_reducible exact H) | (have H2_ := (Option.bind_some _ _).symm.trans H; rw [hy285]; with_reducible exact H2_) | (have H2_ := (Option.bind_some _ _).symm.trans H; with_reducible exact H2_) | with_reducible exact H | (rw [hy285]; exact H) | exact H
  have Ny285 := Aside0.mk hy285; clear hy285
  have H' := Aside0.mk H
  clear H
  go_enter Try.func49, Try.ntmps49
  go_wp2_with (first | ((with_reducible refine gate_dst (N := 1) rfl ?_); refine box_event ?hg (N := 1) ?hd (cs := #[.slice A0_0 l0_0.length c0_0]) (t := 71) ?hr ?_; (case hd => rfl); (case hg => rfl); (case hr => first | (go_simp; done) | (go_simp; rfl)); intro gb283 hg w4 hbox hb; have n0_ := Aside0.mk (below_step (Cmp.g HB.out) hb); have n1_ := Aside0.mk (hbox); have n2_ := Aside0.mk ((by rw [hg]; exact (below_size (Cmp.g HB.out)) : w.heap.size ≤ gb283)); have n3_ := Aside0.mk ((by rw [hg]; exact (below_size (Cmp.g HB.out)) : w.heap.size ≤ gb283)); clear HB; have HB := n0_; have BK283 := n1_; have GW283 := n2_; have GE283 := n3_; clear n0_ n1_ n2_ n3_; clear hb hbox hg; have hcz5_0 : w4.cell? ⟨gb283, 0, none⟩ = some (.slice A0_0 l0_0.length c0_0) := (blk_cell BK283.out 0).trans rfl; have hfz5_0 := blk_frozen BK283.out 0) | ((with_reducible refine gate_callee (f := 91) rfl ?_); refine goesL_ (some 7) rfl rfl Try.func91 (by kernel_rfl) rfl #[.agg #[.slice A0_0 l0_0.length c0_0]] rfl Cmp.q ?_; (with_reducible refine (impl_IsBundle.calls k _ _ l0_0 true _ ?side1 ?side2 A2.out).mono ?_); (case side1 => exact Cmp.rc (Kd.C_below HR0_0.out HB.out)); (case side2 => exact HC0_0.out); rintro e w6 ⟨rfl, hb⟩; refine ⟨_, rfl, ?_⟩; have n0_ := Aside0.mk (blk_below (Cmp.b BK283.out) hb); have n1_ := Aside0.mk (below_step (Cmp.g HB.out) hb); clear BK283; clear HB; have BK283 := n0_; have HB := n1_; clear n0_ n1_; (try clear hb); (try clear hb2); (try clear hk); (try clear hi); have hcz7_0 : w6.cell? ⟨gb283, 0, none⟩ = some (.slice A0_0 l0_0.length c0_0) := (blk_cell BK283.out 0).trans rfl; have hfz7_0 := blk_frozen BK283.out 0) | ((with_reducible refine gate_dst (N := 12) rfl ?_); refine Kd.R_lit (Kd.int .i64) _ 3 ?hg (N := 12) ?hd (xs := ([(l0_0.length : Int)] : List Int)) (inner := [.int .i64 (l0_0.length : Int)]) (ok := fun _ => True) (okp := fun _ => True) ?hr ?hp (fun _ hk => hk) trivial (Below.refl _ _) (Nat.le_refl _) (by simp) ?_; (case hd => rfl); (case hg => rfl); (case hr => first | (go_simp; done) | (go_simp; rfl)); (case hp => exact (Reps.one (show Kd.M (Kd.int .i64) _ _ _ (l0_0.length : Int) [.int .i64 (l0_0.length : Int)] from rfl) (Reps.none _ _))); intro v286 w8 ho9 hb hg_ hnew_; clear hg_ hnew_; (first | rw [← Ny285.out] at ho9 | (simp only [Int.reduceToNat] at ho9; rw [← Ny285.out] at ho9)); have n0_ := Aside0.mk (Kd.R_lower ho9 (below_size (Cmp.g HB.out))); have n1_ := Aside0.mk (blk_below (Cmp.b BK283.out) hb); have n2_ := Aside0.mk (below_step (Cmp.g HB.out) hb); clear BK283; clear HB; have HO287 := n0_; have BK283 := n1_; have HB := n2_; clear n0_ n1_ n2_; clear hb ho9; have hcz10_0 : w8.cell? ⟨gb283, 0, none⟩ = some (.slice A0_0 l0_0.length c0_0) := (blk_cell BK283.out 0).trans rfl; have hfz10_0 := blk_frozen BK283.out 0))
  go_loopg [3, 16] k (fun kq v3 v16 w' => ∃ (x3_1 : List Int) (x16_1 : Int), v16 = .int .i64 x16_1 ∧ Aside0 (impl_EncodeBundle.l0 kq x3_1 l0_0 (l0_0.length : Int) x16_1 = some r) ∧ Aside0 (kq ≤ k) ∧ Aside0 (Kd.R (Kd.int .i64) 3 w' w.heap.size (fun _ => True) v3 x3_1) ∧ Aside0 (w'.heap[gb283]? = some (.cells #[(.slice A0_0 l0_0.length c0_0)] 71 (0, 0))) ∧ Aside0 (Below w.heap.size w w'))
  case atStart => exact ⟨(y285), (0), (by first | rfl | simp | simp [*]), H', ⟨Nat.le_refl _⟩, ⟨by (with_reducible repeat (first | apply Kd.R_alloc | apply Kd.R_drewN | apply Kd.R_drew)); exact HO287.out⟩, ⟨by (with_reducible repeat (first | refine blk_drewN ?_ _ | refine blk_drew ?_ | refine blk_alloc ?_ _)); exact BK283.out⟩, ⟨Cmp.g HB.out⟩⟩
  case round =>
   clear H'
   (try clear p2); (try clear c3); (try clear c4); (try clear c9); (try clear hcz10_0); (try clear hcz5_0); (try clear hcz7_0); (try clear hfz10_0); (try clear hfz5_0); (try clear hfz7_0)
   obtain ⟨x3_1, x16_1, rfl, HA, HK1, HO_3, BK283, HB⟩ := hrel
   cases gk with
   | zero => exact absurd HA.out (by simp [impl_EncodeBundle.l0])
   | succ k1 =>
    have H := HA.out; clear HA
    simp only [impl_EncodeBundle.l0] at H
    by_cases c11 : x16_1 < (l0_0.length : Int)
    ·rw [if_pos c11] at H
     have c11b0 : decide (x16_1 < (l0_0.length : Int)) = true := decide_eq_true c11
     clear c11
     by_cases c12 : 0 ≤ x16_1
     ·rw [if_pos c12] at H; have c12b0 : decide (0 ≤ x16_1) = true := decide_eq_true c12; clear c12
      by_cases c13 : x16_1 < (l0_0.length : Int)
      ·rw [if_pos c13] at H
       have c13b0 : decide (x16_1 < (l0_0.length : Int)) = true := decide_eq_true c13
       clear c13; replace H := Option.bind_eq_some_iff.mp H; obtain ⟨t290, A140, H⟩ := H; (try dsimp only at H); have A14 := Aside0.mk A140; clear A140
       obtain ⟨y291, hy291⟩ : ∃ y_ : List Int, y_ = (([(rd_T143 l0_0 x16_1).f0, (rd_T143 l0_0 x16_1).f1, (rd_T143 l0_0 x16_1).f2, t290] : List Int)) := ⟨_, rfl⟩
       replace H : (if x3_1.length + y291.length < 17592186044416 then (impl_EncodeBundle.l0 k1 (x3_1 ++ y291) l0_0 (l0_0.length : Int) (wrap64 (x16_1 + 1))) else (none)) = some r := by first | (rw [hy291]; with_reducible exact H) | (have H2_ := (Option.bind_some _ _).symm.trans H; rw [hy291]; with_reducible exact H2_) | (have H2_ := (Option.bind_some _ _).symm.trans H; with_reducible exact H2_) | with_reducible exact H | (rw [hy291]; exact H) | exact H
       have Ny291 := Aside0.mk hy291; clear hy291
       by_cases c15 : x3_1.length + y291.length < 17592186044416
       ·rw [if_pos c15] at H; have LMc15 := Aside0.mk c15; clear c15
        obtain ⟨y294, hy294⟩ : ∃ y_ : List Int, y_ = (x3_1 ++ y291) := ⟨_, rfl⟩
        replace H : (impl_EncodeBundle.l0 k1 y294 l0_0 (l0_0.length : Int) (wrap64 (x16_1 + 1))) = some r := by first | (rw [hy294]; with_reducible exact H) | (have H2_ := (Option.bind_some _ _).symm.trans H; rw [hy294]; with_reducible exact H2_) | (have H2_ := (Option.bind_some _ _).symm.trans H; with_reducible exact H2_) | with_reducible exact H | (rw [hy294]; exact H) | exact H
        have Ny294 := Aside0.mk hy294; clear hy294
        have H' := Aside0.mk H
        clear H
        have p288 : 0 ≤ (x16_1 : Int) := of_decide_eq_true Cmp.d
        have q288 : x16_1 < (l0_0.length : Int) := of_decide_eq_true Cmp.d
        obtain ⟨ad288, e288, hx288_0, hx288_1, hx288_2, hx288_3⟩ := at_T143 HR0_0.out x16_1 p288 q288
        cases e288
        replace hx288_0 := (HB.out.cell (World.block_lt_of_cell? w _ hx288_0)).trans hx288_0
        replace hx288_1 := (HB.out.cell (World.block_lt_of_cell? w _ hx288_1)).trans hx288_1
        replace hx288_2 := (HB.out.cell (World.block_lt_of_cell? w _ hx288_2)).trans hx288_2
        replace hx288_3 := (HB.out.cell (World.block_lt_of_cell? w _ hx288_3)).trans hx288_3
        replace p288 := eq_true p288; replace q288 := eq_true q288
        try go_wp2_with (first | ((with_reducible refine gate_dst (N := 5) rfl ?_); refine box_event ?hg (N := 5) ?hd (cs := #[.int .i64 0, .int .i64 0, .int .i64 0, .bool false]) (t := 143) ?hr ?_; (case hd => rfl); (case hg => rfl); (case hr => first | (go_simp; done) | (go_simp; rfl)); intro gb289 hg w16 hbox hb; have n0_ := Aside0.mk (Kd.R_below (Cmp.rr HO_3.out) hb); have n1_ := Aside0.mk (blk_below (Cmp.b BK283.out) hb); have n2_ := Aside0.mk (below_step (Cmp.g HB.out) hb); have n3_ := Aside0.mk (hbox); have n4_ := Aside0.mk ((by rw [hg]; exact (below_size (Cmp.g HB.out)) : w.heap.size ≤ gb289)); have n5_ := Aside0.mk ((by rw [hg]; exact (below_size (Cmp.g HB.out)) : w.heap.size ≤ gb289)); have n6_ := Aside0.mk ((by rw [hg]; exact Nat.ne_of_lt (blk_lt (Cmp.b BK283.out)) : gb283 ≠ gb289)); have n7_ := Aside0.mk ((by rw [hg]; exact Nat.ne_of_gt (blk_lt (Cmp.b BK283.out)) : gb289 ≠ gb283)); clear HO_3; clear BK283; clear HB; have HO_3 := n0_; have BK283 := n1_; have HB := n2_; have BK289 := n3_; have GW289 := n4_; have GE289 := n5_; have NB283_289 := n6_; have NB289_283 := n7_; clear n0_ n1_ n2_ n3_ n4_ n5_ n6_ n7_; clear hb hbox hg; have hnb17 := NB289_283.out; have hnc17 := NB283_289.out; have hcz18_0 : w16.cell? ⟨gb289, 0, none⟩ = some (.int .i64 0) := (blk_cell BK289.out 0).trans rfl; have hcz18_1 : w16.cell? ⟨gb289, 1, none⟩ = some (.int .i64 0) := (blk_cell BK289.out 1).trans rfl; have hcz18_2 : w16.cell? ⟨gb289, 2, none⟩ = some (.int .i64 0) := (blk_cell BK289.out 2).trans rfl; have hcz18_3 : w16.cell? ⟨gb289, 3, none⟩ = some (.bool false) := (blk_cell BK289.out 3).trans rfl; have hfz18_0 := blk_frozen BK289.out 0; have hfz18_1 := blk_frozen BK289.out 1; have hfz18_2 := blk_frozen BK289.out 2; have hfz18_3 := blk_frozen BK289.out 3))
        have n0_ : Aside0 (Kd.R (Kd.int .i64) 3 ((((w16.setCell ⟨gb289, 0, none⟩ (.int .i64 ((rd_T143 l0_0 x16_1).f0))).setCell ⟨gb289, 1, none⟩ (.int .i64 ((rd_T143 l0_0 x16_1).f1))).setCell ⟨gb289, 2, none⟩ (.int .i64 ((rd_T143 l0_0 x16_1).f2))).setCell ⟨gb289, 3, none⟩ (.bool ((rd_T143 l0_0 x16_1).f3))) w.heap.size (fun _ => True) u3 x3_1) := ⟨by (with_reducible repeat (first | apply Kd.R_alloc | apply Kd.R_drewN | apply Kd.R_drew)); exact Kd.R_mono (Kd.R_far (p := ⟨gb289, 3, none⟩) (Kd.R_far (p := ⟨gb289, 2, none⟩) (Kd.R_far (p := ⟨gb289, 1, none⟩) (Kd.R_far (p := ⟨gb289, 0, none⟩) (Kd.R_types HO_3.out BK289.out (by decide)) (fun _ hk => hk.2) (.int .i64 ((rd_T143 l0_0 x16_1).f0))) (fun _ hk => hk.2) (.int .i64 ((rd_T143 l0_0 x16_1).f1))) (fun _ hk => hk.2) (.int .i64 ((rd_T143 l0_0 x16_1).f2))) (fun _ hk => hk.2) (.bool ((rd_T143 l0_0 x16_1).f3))) (fun _ hk => trivial)⟩
        have n1_ : Aside0 (((((w16.setCell ⟨gb289, 0, none⟩ (.int .i64 ((rd_T143 l0_0 x16_1).f0))).setCell ⟨gb289, 1, none⟩ (.int .i64 ((rd_T143 l0_0 x16_1).f1))).setCell ⟨gb289, 2, none⟩ (.int .i64 ((rd_T143 l0_0 x16_1).f2))).setCell ⟨gb289, 3, none⟩ (.bool ((rd_T143 l0_0 x16_1).f3))).heap[gb283]? = some (.cells #[.slice (some ad288) l0_0.length c0_0] 71 (0, 0))) := ⟨by (with_reducible repeat (first | refine blk_drewN ?_ _ | refine blk_drew ?_ | refine blk_alloc ?_ _)); refine blk_far ?_ NB283_289.out _; (with_reducible repeat (first | refine blk_drewN ?_ _ | refine blk_drew ?_ | refine blk_alloc ?_ _)); refine blk_far ?_ NB283_289.out _; (with_reducible repeat (first | refine blk_drewN ?_ _ | refine blk_drew ?_ | refine blk_alloc ?_ _)); refine blk_far ?_ NB283_289.out _; (with_reducible repeat (first | refine blk_drewN ?_ _ | refine blk_drew ?_ | refine blk_alloc ?_ _)); refine blk_far ?_ NB283_289.out _; (with_reducible repeat (first | refine blk_drewN ?_ _ | refine blk_drew ?_ | refine blk_alloc ?_ _)); exact BK283.out⟩
        have n2_ : Aside0 (((((w16.setCell ⟨gb289, 0, none⟩ (.int .i64 ((rd_T143 l0_0 x16_1).f0))).setCell ⟨gb289, 1, none⟩ (.int .i64 ((rd_T143 l0_0 x16_1).f1))).setCell ⟨gb289, 2, none⟩ (.int .i64 ((rd_T143 l0_0 x16_1).f2))).setCell ⟨gb289, 3, none⟩ (.bool ((rd_T143 l0_0 x16_1).f3))).heap[gb289]? = some (.cells #[.int .i64 ((rd_T143 l0_0 x16_1).f0), .int .i64 ((rd_T143 l0_0 x16_1).f1), .int .i64 ((rd_T143 l0_0 x16_1).f2), .bool ((rd_T143 l0_0 x16_1).f3)] 143 (0, 0))) := ⟨by (with_reducible repeat (first | refine blk_drewN ?_ _ | refine blk_drew ?_ | refine blk_alloc ?_ _)); refine blk_put (cs := #[.int .i64 ((rd_T143 l0_0 x16_1).f0), .int .i64 ((rd_T143 l0_0 x16_1).f1), .int .i64 ((rd_T143 l0_0 x16_1).f2), .bool false]) ?_ 3 _ rfl; (with_reducible repeat (first | refine blk_drewN ?_ _ | refine blk_drew ?_ | refine blk_alloc ?_ _)); refine blk_put (cs := #[.int .i64 ((rd_T143 l0_0 x16_1).f0), .int .i64 ((rd_T143 l0_0 x16_1).f1), .int .i64 0, .bool false]) ?_ 2 _ rfl; (with_reducible repeat (first | refine blk_drewN ?_ _ | refine blk_drew ?_ | refine blk_alloc ?_ _)); refine blk_put (cs := #[.int .i64 ((rd_T143 l0_0 x16_1).f0), .int .i64 0, .int .i64 0, .bool false]) ?_ 1 _ rfl; (with_reducible repeat (first | refine blk_drewN ?_ _ | refine blk_drew ?_ | refine blk_alloc ?_ _)); refine blk_put (cs := #[.int .i64 0, .int .i64 0, .int .i64 0, .bool false]) ?_ 0 _ rfl; (with_reducible repeat (first | refine blk_drewN ?_ _ | refine blk_drew ?_ | refine blk_alloc ?_ _)); exact BK289.out⟩
        have n3_ : Aside0 (Below w.heap.size w ((((w16.setCell ⟨gb289, 0, none⟩ (.int .i64 ((rd_T143 l0_0 x16_1).f0))).setCell ⟨gb289, 1, none⟩ (.int .i64 ((rd_T143 l0_0 x16_1).f1))).setCell ⟨gb289, 2, none⟩ (.int .i64 ((rd_T143 l0_0 x16_1).f2))).setCell ⟨gb289, 3, none⟩ (.bool ((rd_T143 l0_0 x16_1).f3)))) := ⟨Cmp.g HB.out⟩
        (try clear HO_3); (try clear BK283); (try clear BK289); (try clear HB)
        generalize ((((w16.setCell ⟨gb289, 0, none⟩ (.int .i64 ((rd_T143 l0_0 x16_1).f0))).setCell ⟨gb289, 1, none⟩ (.int .i64 ((rd_T143 l0_0 x16_1).f1))).setCell ⟨gb289, 2, none⟩ (.int .i64 ((rd_T143 l0_0 x16_1).f2))).setCell ⟨gb289, 3, none⟩ (.bool ((rd_T143 l0_0 x16_1).f3))) = w19 at n0_ n1_ n2_ n3_ ⊢
        have HO_3 := n0_; have BK283 := n1_; have BK289 := n2_; have HB := n3_; clear n0_ n1_ n2_ n3_; have n0_ := Aside0.mk (Kd.R_drew HO_3.out); have n1_ := Aside0.mk (blk_drew BK283.out); have n2_ := Aside0.mk (blk_drew BK289.out); have n3_ := Aside0.mk (below_drew1 HB.out); clear HO_3; clear BK283; clear BK289; clear HB; have HO_3 := n0_; have BK283 := n1_; have BK289 := n2_; have HB := n3_; clear n0_ n1_ n2_ n3_
        refine start_ (n := 13) (S := fun w' => w'.cell? ⟨gb289, 0, none⟩ = some (.int .i64 ((rd_T143 l0_0 x16_1).f0)) ∧ w'.cell? ⟨gb289, 1, none⟩ = some (.int .i64 ((rd_T143 l0_0 x16_1).f1)) ∧ w'.cell? ⟨gb289, 2, none⟩ = some (.int .i64 ((rd_T143 l0_0 x16_1).f2)) ∧ w'.cell? ⟨gb289, 3, none⟩ = some (.bool ((rd_T143 l0_0 x16_1).f3))) (ds := []) (Cmp.bm 0 13) (by kernel_rfl) rfl rfl ⟨(blk_cell BK289.out 0).trans rfl, (blk_cell BK289.out 1).trans rfl, (blk_cell BK289.out 2).trans rfl, (blk_cell BK289.out 3).trans rfl⟩ (fun hHeld => ?_); refine with_tabW impl_EncodeBundle.tab7 impl_EncodeBundle.bits7 (fun HT_ HW_ => ?_)
        generalize w19.drew = w20 at HO_3 BK283 BK289 HB hHeld ⊢
        refine Cmp.pu HT_ 0 20 (Cmp.bm 1 12) ?_; refine Cmp.pu HT_ 1 21 (Cmp.bm 2 11) ?_; refine Cmp.pu HT_ 3 23 (Cmp.bb 13 11) ?_; refine Cmp.pu HT_ 5 25 (Cmp.bb 13 43) ?_; refine Cmp.pu HT_ 7 27 (Cmp.bb 13 171) ?_; refine Cmp.tk HT_ HW_ hHeld 2 22 (Cmp.bb 13 175) ?_; refine Cmp.tk HT_ HW_ hHeld 4 24 (Cmp.bb 13 191) ?_; refine Cmp.tk HT_ HW_ hHeld 6 26 (Cmp.bm 8 5) ?_; refine Cmp.tk HT_ HW_ hHeld 8 28 (Cmp.bm 9 4) ?_
        refine one_ (i := 9) (N := some 29) (Cmp.bm 10 3) rfl rfl (one_of HT_.out (by kernel_rfl)) (by decide) (fun K hK => ?_)
        refine goes_ Try.func111 (by kernel_rfl) rfl #[.bool ((rd_T143 l0_0 x16_1).f3)] (by rfl) rfl rfl Cmp.q ?_
        with_reducible refine (impl_bit.calls ((rd_T143 l0_0 x16_1).f3) t290 _ A14.out).mono ?_
        rintro e w' ⟨rfl, ⟨nd, rfl⟩⟩; refine ⟨_, rfl, ?_⟩
        refine hK.out _ _ ⟨(blk_cell BK289.out 0).trans rfl, (blk_cell BK289.out 1).trans rfl, (blk_cell BK289.out 2).trans rfl, (blk_cell BK289.out 3).trans rfl⟩ (fun hHeld => ?_)
        clear hK K
        refine norm_ (a' := ?_) ?_ ?_
        rotate_left
        ·show Act.put _ (some 29) _ = _
         simp only [Act.put, Cmp.s, Cmp.z, Cmp.c, i64_w, i32_w]; rfl
        refine one_ (i := 10) (N := some 30) (Cmp.bm 11 2) rfl rfl (one_of HT_.out (by kernel_rfl)) (by decide) (fun K hK => ?_)
        refine Kd.R_lit_step (Kd.int .i64) _ 3 ?hg (N := 30) ?hd (xs := ([(rd_T143 l0_0 x16_1).f0, (rd_T143 l0_0 x16_1).f1, (rd_T143 l0_0 x16_1).f2, t290] : List Int)) (inner := [.int .i64 ((rd_T143 l0_0 x16_1).f0), .int .i64 ((rd_T143 l0_0 x16_1).f1), .int .i64 ((rd_T143 l0_0 x16_1).f2), .int .i64 t290]) (ok := fun _ => True) (okp := fun _ => True) ?hr ?hp (fun _ hk => hk) trivial (Below.refl _ _) (Nat.le_refl _) (by simp) ?_; (case hd => rfl); (case hg => rfl); (case hr => first | (go_simp; done) | (go_simp; rfl)); (case hp => exact (Reps.one (show Kd.M (Kd.int .i64) _ _ _ ((rd_T143 l0_0 x16_1).f0) [.int .i64 ((rd_T143 l0_0 x16_1).f0)] from rfl) (Reps.one (show Kd.M (Kd.int .i64) _ _ _ ((rd_T143 l0_0 x16_1).f1) [.int .i64 ((rd_T143 l0_0 x16_1).f1)] from rfl) (Reps.one (show Kd.M (Kd.int .i64) _ _ _ ((rd_T143 l0_0 x16_1).f2) [.int .i64 ((rd_T143 l0_0 x16_1).f2)] from rfl) (Reps.one (show Kd.M (Kd.int .i64) _ _ _ t290 [.int .i64 t290] from rfl) (Reps.none _ _))))))
        intro v292 w21 ho22 hb hg_ hnew_
        clear hg_ hnew_
        (first | rw [← Ny291.out] at ho22 | (simp only [Int.reduceToNat] at ho22; rw [← Ny291.out] at ho22))
        have n0_ := Aside0.mk (Kd.R_elder' (Cmp.rr HO_3.out) (Kd.R_base ho22) hb)
        have n1_ := Aside0.mk (Kd.R_lower (Kd.R_new' ho22 (Kd.R_lt (Cmp.rr HO_3.out))) (below_size (Cmp.g HB.out)))
        have n2_ := Aside0.mk (blk_below (Cmp.b BK283.out) hb)
        have n3_ := Aside0.mk (blk_below (Cmp.b BK289.out) hb)
        have n4_ := Aside0.mk (below_step (Cmp.g HB.out) hb)
        clear HO_3; clear BK283; clear BK289; clear HB; have HO_3 := n0_; have HO293 := n1_; have BK283 := n2_; have BK289 := n3_; have HB := n4_; clear n0_ n1_ n2_ n3_ n4_; clear hb ho22
        obtain ⟨Ao24, co24, eo24⟩ := Kd.R_slice HO293.out
        (first | subst eo24 | (injection eo24 with f1_ f2_ f3_; have f4_ := f1_.symm; have f5_ := f3_.symm; clear f1_ f2_ f3_; subst f4_; subst f5_))
        refine hK.out _ _ ⟨(blk_cell BK289.out 0).trans rfl, (blk_cell BK289.out 1).trans rfl, (blk_cell BK289.out 2).trans rfl, (blk_cell BK289.out 3).trans rfl⟩ (fun hHeld => ?_)
        clear hK K
        refine norm_ (a' := ?_) ?_ ?_
        rotate_left
        ·show Act.put _ (some 30) _ = _
         simp only [Act.put, Cmp.s, Cmp.z, Cmp.c, i64_w, i32_w]; rfl
        refine one_ (i := 11) (N := some 31) (Cmp.bm 12 1) rfl rfl (one_of HT_.out (by kernel_rfl)) (by decide) (fun K hK => ?_)
        refine Kd.R_append_rows_step (Kd.int .i64) (w0 := w) w.heap.size (by rfl) (.tmp 20) (.tmp 30) 48 3 (.int .i64 0) 8 rfl Try.underlying48 info3 rfl (by decide) (by omega) u3 x3_1 y291 _ _ _ (fun k_ => some k_ ≠ (.slice Ao24 y291.length co24 : Value).ownBlock) (fun _ => False) rfl rfl ?aO ?aR (fun _ _ h => h) (fun _ h => h.elim) ?aF ?aB ?aS ?aL ?_
        (case aR => repeat (first | exact (Kd.R_reads' HO293.out).2.2 | (with_reducible refine Kd.C_alloc ?_ _) | (with_reducible refine Kd.C_drewN ?_ _) | (with_reducible refine Kd.C_drew ?_)))
        (case aB => exact (Cmp.g HB.out))
        (case aF => exact (fun k_ hk => Kd.fresh' (Kd.R_lt (Cmp.rr HO293.out)) k_ hk))
        (case aO => exact (by (with_reducible repeat (first | apply Kd.R_alloc | apply Kd.R_drewN | apply Kd.R_drew)); exact Kd.R_mono HO_3.out (fun _ hk => hk.2)))
        (case aS => exact (below_size (Cmp.g HB.out)))
        (case aL => have := LMc15.out; omega)
        intro v295 w23 ho hb hg hat
        rw [← Ny294.out] at ho
        have n0_ := Aside0.mk (blk_grown (g := gb283) (o := .cells #[.slice (some ad288) l0_0.length c0_0] 71 (0, 0)) (Cmp.b BK283.out) hg (Kd.R_ne HO_3.out BK283.out (by decide)))
        have n1_ := Aside0.mk (blk_grown (g := gb289) (o := .cells #[.int .i64 ((rd_T143 l0_0 x16_1).f0), .int .i64 ((rd_T143 l0_0 x16_1).f1), .int .i64 ((rd_T143 l0_0 x16_1).f2), .bool ((rd_T143 l0_0 x16_1).f3)] 143 (0, 0)) (Cmp.b BK289.out) hg (Kd.R_ne HO_3.out BK289.out (by decide)))
        have n2_ := Aside0.mk (Kd.R_after (ok := (fun _ => True)) (Cmp.rr HO293.out) hg hat)
        have n3_ := Aside0.mk (hb)
        have n4_ := Aside0.mk (ho)
        clear BK283; clear BK289; clear HO293; clear HB; clear HO_3; have BK283 := n0_; have BK289 := n1_; have HO293 := n2_; have HB := n3_; have HO296 := n4_; clear n0_ n1_ n2_ n3_ n4_; clear ho hb hg hat
        refine hK.out _ _ ⟨(blk_cell BK289.out 0).trans rfl, (blk_cell BK289.out 1).trans rfl, (blk_cell BK289.out 2).trans rfl, (blk_cell BK289.out 3).trans rfl⟩ (fun hHeld => ?_)
        clear hK K
        refine norm_ (a' := ?_) ?_ ?_
        rotate_left
        ·show Act.put _ (some 31) _ = _
         simp only [Act.put, Cmp.s, Cmp.z, Cmp.c, i64_w, i32_w]; rfl
        refine Cmp.pu HT_ 12 3 (Cmp.bm 13 0) ?_
        refine done_ (done_of HT_.out (by kernel_rfl)) ?_
        try go_wp2
        go_roundg k1
        case measure => have := HK1.out; omega
        case rel => exact ⟨(y294), (wrap64 (x16_1 + 1)), (by first | rfl | simp | simp [*]), H', ⟨by have := HK1.out; omega⟩, ⟨by (with_reducible repeat (first | apply Kd.R_alloc | apply Kd.R_drewN | apply Kd.R_drew)); exact Kd.R_mono HO296.out (fun _ hk => trivial)⟩, ⟨by (with_reducible repeat (first | refine blk_drewN ?_ _ | refine blk_drew ?_ | refine blk_alloc ?_ _)); exact BK283.out⟩, ⟨Cmp.g HB.out⟩⟩
       ·rw [if_neg c15] at H; exact absurd H (by simp)
      ·rw [if_neg c13] at H; exact absurd H (by simp)
     ·rw [if_neg c12] at H; exact absurd H (by simp)
    ·rw [if_neg c11] at H
     have c11b0 : decide (x16_1 < (l0_0.length : Int)) = false := decide_eq_false c11
     clear c11; replace H := Option.bind_eq_some_iff.mp H; obtain ⟨t297, A250, H⟩ := H; (try dsimp only at H); have A25 := Aside0.mk A250; clear A250
     obtain rfl := Option.some.inj H
     obtain ⟨Ao26, co26, eo26⟩ := Kd.R_slice HO_3.out
     subst eo26
     go_wp2_with (first | ((with_reducible refine gate_callee (f := 112) rfl ?_); refine goesL_ (some 34) rfl rfl Try.func112 (by kernel_rfl) rfl #[.slice Ao26 x3_1.length co26] rfl Cmp.q ?_; (with_reducible refine (impl_EncodeInts.calls k1 _ _ x3_1 t297 _ ?side1 ?side2 A25.out).mono ?_); (case side1 => exact Cmp.rc (Kd.R_reads' HO_3.out).2.2); (case side2 => exact (Kd.R_reads' HO_3.out).2.1); rintro e w27 ⟨v298, rfl, ho0, hb⟩; refine ⟨_, rfl, ?_⟩; have n0_ := Aside0.mk (Kd.R_below (Cmp.rr HO_3.out) hb); have n1_ := Aside0.mk (Kd.R_lower ho0 (below_size (Cmp.g HB.out))); have n2_ := Aside0.mk (blk_below (Cmp.b BK283.out) hb); have n3_ := Aside0.mk (below_step (Cmp.g HB.out) hb); clear HO_3; clear BK283; clear HB; have HO_3 := n0_; have HO299 := n1_; have BK283 := n2_; have HB := n3_; clear n0_ n1_ n2_ n3_; (try clear hb); (try clear hb2); (try clear hk); (try clear hi); (try clear ho0)))
     go_ret
     exact ⟨_, by first | rfl | (simp [errW_none, errW_some] <;> rfl) | (simp [*, errW_none, errW_some] <;> rfl), by (with_reducible repeat (first | apply Kd.R_alloc | apply Kd.R_drewN | apply Kd.R_drew)); exact HO299.out, Cmp.g HB.out⟩
 ·replace c3 := Bool.eq_false_iff.mpr c3
  subst c3
  have H1 : (some ([] : List Int)) = some r := by rw [if_neg (show ¬ (false = true) by decide)] at H; exact H
  clear H; have H := H1; clear H1
  obtain rfl := Option.some.inj H
  go_enter Try.func49, Try.ntmps49
  go_wp2_with (first | ((with_reducible refine gate_dst (N := 1) rfl ?_); refine box_event ?hg (N := 1) ?hd (cs := #[.slice A0_0 l0_0.length c0_0]) (t := 71) ?hr ?_; (case hd => rfl); (case hg => rfl); (case hr => first | (go_simp; done) | (go_simp; rfl)); intro gb283 hg w28 hbox hb; have n0_ := Aside0.mk (below_step (Cmp.g HB.out) hb); have n1_ := Aside0.mk (hbox); have n2_ := Aside0.mk ((by rw [hg]; exact (below_size (Cmp.g HB.out)) : w.heap.size ≤ gb283)); have n3_ := Aside0.mk ((by rw [hg]; exact (below_size (Cmp.g HB.out)) : w.heap.size ≤ gb283)); clear HB; have HB := n0_; have BK283 := n1_; have GW283 := n2_; have GE283 := n3_; clear n0_ n1_ n2_ n3_; clear hb hbox hg; have hcz29_0 : w28.cell? ⟨gb283, 0, none⟩ = some (.slice A0_0 l0_0.length c0_0) := (blk_cell BK283.out 0).trans rfl; have hfz29_0 := blk_frozen BK283.out 0) | ((with_reducible refine gate_callee (f := 91) rfl ?_); refine goesL_ (some 7) rfl rfl Try.func91 (by kernel_rfl) rfl #[.agg #[.slice A0_0 l0_0.length c0_0]] rfl Cmp.q ?_; (with_reducible refine (impl_IsBundle.calls k _ _ l0_0 false _ ?side1 ?side2 A2.out).mono ?_); (case side1 => exact Cmp.rc (Kd.C_below HR0_0.out HB.out)); (case side2 => exact HC0_0.out); rintro e w30 ⟨rfl, hb⟩; refine ⟨_, rfl, ?_⟩; have n0_ := Aside0.mk (blk_below (Cmp.b BK283.out) hb); have n1_ := Aside0.mk (below_step (Cmp.g HB.out) hb); clear BK283; clear HB; have BK283 := n0_; have HB := n1_; clear n0_ n1_; (try clear hb); (try clear hb2); (try clear hk); (try clear hi)))
  go_ret
  exact ⟨_, by first | rfl | (simp [errW_none, errW_some] <;> rfl) | (simp [*, errW_none, errW_some] <;> rfl), by first | exact Kd.R_nil _ _ _ _ _ | exact Kd.N_nil _ _ _ _ _ | exact Kd.V_nil _ _ _ _ _ | exact Kd.Q_nil _ _ _ _ _ | exact Kd.S_nil _ _ _ _ _, Cmp.g HB.out⟩

/-! ### impl_IsValidKey: function 90 -/
def impl_IsValidKey.f (a0 : Int) : Option (Bool) := (impl_InRange.f a0 1 2147483646).bind fun t300 => (some t300)
set_option maxHeartbeats 8000000 in
set_option maxRecDepth 100000 in
theorem impl_IsValidKey.calls (a0 : Int) (r : Bool) (w : World) (h : impl_IsValidKey.f a0 = some r) :
    Calls Try.prog 90 #[.int .i64 a0] w fun e w' => e = .returned (.bool r) ∧ Drawn0 w w' := by
 have H : ((impl_InRange.f a0 1 2147483646).bind fun t300 => (some t300)) = some r := h
 clear h; replace H := Option.bind_eq_some_iff.mp H; obtain ⟨t300, A20, H⟩ := H; (try dsimp only at H); have A2 := Aside0.mk A20; clear A20
 obtain rfl := Option.some.inj H
 go_enter Try.func90, Try.ntmps90
 go_wp2_with (first | ((with_reducible refine gate_callee (f := 59) rfl ?_); refine goesL_ (some 4) rfl rfl Try.func59 (by kernel_rfl) rfl #[.int .i64 a0, .int .i64 1, .int .i64 2147483646] rfl Cmp.q ?_; (with_reducible refine (impl_InRange.calls a0 1 2147483646 t300 _ A2.out).mono ?_); rintro e w' ⟨rfl, ⟨nd, rfl⟩⟩; refine ⟨_, rfl, ?_⟩))
 go_ret
 exact ⟨by first | rfl | (simp; done) | (simp [*]; done), by repeat (first | exact Drawn0.refl _ | apply Drawn0.step)⟩

/-! ### impl_Mod: function 142 -/
def impl_Mod.j0 : Nat → Int → Int → Bool → Option (Int)
  | 0, _, _, _ => none
  | k + 1, x0, x1, x11 => if x11 = true then (some 0) else (if x1 = 0 then (none) else (if (Int.tmod x0 x1) < 0 then (some (wrap64 ((Int.tmod x0 x1) + x1))) else (some (Int.tmod x0 x1))))
def impl_Mod.f (k : Nat) (a0 : Int) (a1 : Int) : Option (Int) := if a1 < 1 then (impl_Mod.j0 k a0 a1 true) else (impl_Mod.j0 k a0 a1 (decide (a1 > 1000000000000)))
theorem impl_Mod.mono_l : ∀ k, (∀ y0 y1 y2, LeO (impl_Mod.j0 k y0 y1 y2) (impl_Mod.j0 (k + 1) y0 y1 y2))
  | 0 => fun _ _ _ r h => by simp [impl_Mod.j0] at h
  | k + 1 => by
    have ih0 := impl_Mod.mono_l k
    · intro y0 y1 y2
      unfold impl_Mod.j0
      repeat' first
      | (with_reducible exact ih0 _ _ _)
      | (with_reducible exact LeO.refl _)
      | (with_reducible exact LeO.none _)
      | (with_reducible refine LeO.ite ?_ ?_)
      | (with_reducible refine LeO.bind ?_ (fun _ => ?_))
      | exact ih0 _ _ _
      | exact LeO.none _
      | refine LeO.ite ?_ ?_
      | refine LeO.bind ?_ (fun _ => ?_)
theorem impl_Mod.mono : ∀ a0 a1 k, LeO (impl_Mod.f k a0 a1) (impl_Mod.f (k + 1) a0 a1) := by
  intro a0 a1 k
  have ih0 := impl_Mod.mono_l k
  unfold impl_Mod.f
  repeat' first
      | (with_reducible exact ih0 _ _ _)
      | (with_reducible exact LeO.refl _)
      | (with_reducible exact LeO.none _)
      | (with_reducible refine LeO.ite ?_ ?_)
      | (with_reducible refine LeO.bind ?_ (fun _ => ?_))
      | exact ih0 _ _ _
      | exact LeO.none _
      | refine LeO.ite ?_ ?_
      | refine LeO.bind ?_ (fun _ => ?_)
set_option maxHeartbeats 8000000 in
set_option maxRecDepth 100000 in
theorem impl_Mod.calls (k : Nat) (a0 : Int) (a1 : Int) (r : Int) (w : World) (h : impl_Mod.f k a0 a1 = some r) :
    Calls Try.prog 142 #[.int .i64 a0, .int .i64 a1] w fun e w' => e = .returned (.int .i64 r) ∧ Drawn0 w w' := by
 have H : (if a1 < 1 then (impl_Mod.j0 k a0 a1 true) else (impl_Mod.j0 k a0 a1 (decide (a1 > 1000000000000)))) = some r := h
 clear h; have HC3 := Aside0.mk H; clear H
 go_enter Try.func142, Try.ntmps142
 go_upto_region 1 with (fail)
 go_cut [11] (fun v11 wc => ∃ (kq : Nat) (x11_2 : Bool), v11 = .bool x11_2 ∧ Aside0 (impl_Mod.j0 kq a0 a1 x11_2 = some r) ∧ Aside0 (kq ≤ k) ∧ Drawn0 w wc)
 case first =>
  have H := HC3.out; clear HC3
  by_cases c4 : a1 < 1
  ·rw [if_pos c4] at H; have c4b0 : decide (a1 < 1) = true := decide_eq_true c4; clear c4
   (first | rw [c4b0] | (simp only [i64_w, i32_w]; rw [c4b0]) | skip)
   have H' := Aside0.mk H
   clear H
   go_wp2
   go_meet
   case rel => exact ⟨_, (true), (by first | rfl | simp | simp [*]), H', ⟨by first | omega | exact Nat.le_refl _⟩, by repeat (first | exact Drawn0.refl _ | apply Drawn0.step)⟩
  ·rw [if_neg c4] at H; have c4b0 : decide (a1 < 1) = false := decide_eq_false c4; clear c4
   (first | rw [c4b0] | (simp only [i64_w, i32_w]; rw [c4b0]) | skip)
   have H' := Aside0.mk H
   clear H
   go_wp2
   go_meet
   case rel => exact ⟨_, (decide (a1 > 1000000000000)), (by first | rfl | simp | simp [*]), H', ⟨by first | omega | exact Nat.le_refl _⟩, by repeat (first | exact Drawn0.refl _ | apply Drawn0.step)⟩
 case rest =>
  clear HC3; (try clear c1); (try clear p2); (try clear c4); (try clear c4b0)
  obtain ⟨kq, x11_2, rfl, HA, HJ2, ⟨mc2, rfl⟩⟩ := hcut
  cases kq with
  | zero => exact absurd HA.out (by simp [impl_Mod.j0])
  | succ kj2 =>
   have H := HA.out; clear HA
   simp only [impl_Mod.j0] at H
   by_cases c5 : x11_2 = true
   ·subst c5; rw [if_pos rfl] at H
    obtain rfl := Option.some.inj H
    go_wp2
    go_ret
    exact ⟨by first | rfl | (simp; done) | (simp [*]; done), by repeat (first | exact Drawn0.refl _ | apply Drawn0.step)⟩
   ·replace c5 := Bool.eq_false_iff.mpr c5
    subst c5
    have H1 : (if a1 = 0 then (none) else (if (Int.tmod a0 a1) < 0 then (some (wrap64 ((Int.tmod a0 a1) + a1))) else (some (Int.tmod a0 a1)))) = some r := by rw [if_neg (show ¬ (false = true) by decide)] at H; exact H
    clear H; have H := H1; clear H1
    by_cases c6 : a1 = 0
    ·rw [if_pos c6] at H; exact absurd H (by simp)
    ·rw [if_neg c6] at H; have c6b0 : (a1 == 0) = false := beq_eq_false_iff_ne.mpr c6; have c6b1 : (a1 != 0) = true := bne_iff_ne.mpr c6
     by_cases c7 : (Int.tmod a0 a1) < 0
     ·rw [if_pos c7] at H; have c7b0 : decide ((Int.tmod a0 a1) < 0) = true := decide_eq_true c7; clear c7
      obtain rfl := Option.some.inj H
      go_wp2
      go_ret
      exact ⟨by first | rfl | (simp; done) | (simp [*]; done), by repeat (first | exact Drawn0.refl _ | apply Drawn0.step)⟩
     ·rw [if_neg c7] at H; have c7b0 : decide ((Int.tmod a0 a1) < 0) = false := decide_eq_false c7; clear c7
      obtain rfl := Option.some.inj H
      go_wp2
      go_ret
      exact ⟨by first | rfl | (simp; done) | (simp [*]; done), by repeat (first | exact Drawn0.refl _ | apply Drawn0.step)⟩

end Go.Proofs.Ytgcipecdaimjfaa.PFnExactSealBundle

/- Printed functions of the program, out of print.sh, told more shortly. No condition. -/
import Derived.Test.YtgcipecdaimjfaaCmp
import Derived.Test.YtgcipecdaimjfaaPFnExactVerifyLogx0
import Derived.Test.YtgcipecdaimjfaaPFnExactVerifyLogx4
import Derived.Test.YtgcipecdaimjfaaPFnExactVerifyLogx5
namespace Go.Proofs.Ytgcipecdaimjfaa.PFnExactVerifyLog
open Go.Proofs.Ytgcipecdaimjfaa
open Go.RowKit Go.Proofs.YtgcipecdaimjfaaW.PrintWords Go.Proofs.YtgcipecdaimjfaaW.PrintLast Go.Proofs.YtgcipecdaimjfaaW.PrintMore
attribute [local go_sem] max2_int min2_int max_two min_two max_three min_three max_four min_four   -- for this text's walks alone
set_option linter.unusedVariables false
set_option linter.unusedSimpArgs false

/-! ### impl_joined: function 137 -/
def impl_joined.l0 : Nat → List Int → List (List Int) → Int → Int → Option (List Int)
  | 0, _, _, _, _ => none
  | k + 1, x5, x11, x12, x13 => if x13 < x12 then (if 0 ≤ x13 then (if x13 < (x11.length : Int) then (if x5.length + (rd_L3 x11 x13).length < 17592186044416 then (impl_joined.l0 k (x5 ++ (rd_L3 x11 x13)) x11 x12 (wrap64 (x13 + 1))) else (none)) else (none)) else (none)) else (some x5)
def impl_joined.f (k : Nat) (l0 : List Int) (l1 : List (List Int)) : Option (List Int) := (some (([] : List Int) : List Int)).bind fun y222 => (if y222.length + l0.length < 17592186044416 then (impl_joined.l0 k (y222 ++ l0) l1 (l1.length : Int) 0) else (none))
theorem impl_joined.mono_l : ∀ k, (∀ y0 y1 y2 y3, LeO (impl_joined.l0 k y0 y1 y2 y3) (impl_joined.l0 (k + 1) y0 y1 y2 y3))
  | 0 => fun _ _ _ _ r h => by simp [impl_joined.l0] at h
  | k + 1 => by
    have ih0 := impl_joined.mono_l k
    · intro y0 y1 y2 y3
      unfold impl_joined.l0
      repeat' first
      | (with_reducible exact ih0 _ _ _ _)
      | (with_reducible exact LeO.refl _)
      | (with_reducible exact LeO.none _)
      | (with_reducible refine LeO.ite ?_ ?_)
      | (with_reducible refine LeO.bind ?_ (fun _ => ?_))
      | exact ih0 _ _ _ _
      | exact LeO.none _
      | refine LeO.ite ?_ ?_
      | refine LeO.bind ?_ (fun _ => ?_)
theorem impl_joined.mono : ∀ a0 a1 k, LeO (impl_joined.f k a0 a1) (impl_joined.f (k + 1) a0 a1) := by
  intro a0 a1 k
  have ih0 := impl_joined.mono_l k
  unfold impl_joined.f
  repeat' first
      | (with_reducible exact ih0 _ _ _ _)
      | (with_reducible exact LeO.refl _)
      | (with_reducible exact LeO.none _)
      | (with_reducible refine LeO.ite ?_ ?_)
      | (with_reducible refine LeO.bind ?_ (fun _ => ?_))
      | exact ih0 _ _ _ _
      | exact LeO.none _
      | refine LeO.ite ?_ ?_
      | refine LeO.bind ?_ (fun _ => ?_)
set_option maxHeartbeats 8000000 in
set_option maxRecDepth 100000 in
theorem impl_joined.calls (k : Nat) (A0 : Option Addr) (c0 : Nat) (l0 : List Int) (A1 : Option Addr) (c1 : Nat) (l1 : List (List Int)) (r : List Int) (w : World) (hr0 : Kd.C (Kd.int .i64) w A0 l0.length l0) (hc0 : l0.length ≤ c0) (hr1 : Kd.C (Kd.slice 3 (Kd.int .i64)) w A1 l1.length l1) (hc1 : l1.length ≤ c1) (h : impl_joined.f k l0 l1 = some r) :
    Calls Try.prog 137 #[.slice A0 l0.length c0, .slice A1 l1.length c1] w fun e w' => ∃ v0_ : Value, e = .returned (v0_) ∧ Kd.R (Kd.int .i64) 3 w' w.heap.size (fun _ => True) v0_ r ∧ Below w.heap.size w w' := by
 have HR0 := Aside0.mk hr0; have HC0 := Aside0.mk hc0; clear hr0 hc0; have HR1 := Aside0.mk hr1; have HC1 := Aside0.mk hc1; clear hr1 hc1
 have HB := Aside0.mk (Below.refl w.heap.size w)
 have H : ((some (([] : List Int) : List Int)).bind fun y222 => (if y222.length + l0.length < 17592186044416 then (impl_joined.l0 k (y222 ++ l0) l1 (l1.length : Int) 0) else (none))) = some r := h
 clear h
 obtain ⟨y222, hy222⟩ : ∃ y_ : List Int, y_ = (([] : List Int)) := ⟨_, rfl⟩
 replace H : (if y222.length + l0.length < 17592186044416 then (impl_joined.l0 k (y222 ++ l0) l1 (l1.length : Int) 0) else (none)) = some r := by first | (rw [hy222]; with_reducible exact H) | (have H2_ := (Option.bind_some _ _).symm.trans H; rw [hy222]; with_reducible exact H2_) | (have H2_ := (Option.bind_some _ _).symm.trans H; with_reducible exact H2_) | with_reducible exact H | (rw [hy222]; exact H) | exact H
 have Ny222 := Aside0.mk hy222; clear hy222
 by_cases c3 : y222.length + l0.length < 17592186044416
 ·rw [if_pos c3] at H; have LMc3 := Aside0.mk c3; clear c3
  obtain ⟨y225, hy225⟩ : ∃ y_ : List Int, y_ = (y222 ++ l0) := ⟨_, rfl⟩
  replace H : (impl_joined.l0 k y225 l1 (l1.length : Int) 0) = some r := by first | (rw [hy225]; with_reducible exact H) | (have H2_ := (Option.bind_some _ _).symm.trans H; rw [hy225]; with_reducible exact H2_) | (have H2_ := (Option.bind_some _ _).symm.trans H; with_reducible exact H2_) | with_reducible exact H | (rw [hy225]; exact H) | exact H
  have Ny225 := Aside0.mk hy225; clear hy225
  have H' := Aside0.mk H
  clear H
  go_enter Try.func137, Try.ntmps137
  go_wp2_with (first | ((with_reducible refine gate_dst (N := 8) rfl ?_); refine Kd.R_lit (Kd.int .i64) _ 3 ?hg (N := 8) ?hd (xs := ([] : List Int)) (inner := []) (ok := fun _ => True) (okp := fun _ => True) ?hr ?hp (fun _ hk => hk) trivial (Below.refl _ _) (Nat.le_refl _) (by simp) ?_; (case hd => rfl); (case hg => rfl); (case hr => first | (go_simp; done) | (go_simp; rfl)); (case hp => exact (Reps.none _ _)); intro v223 w4 ho5 hb hg_ hnew_; clear hg_ hnew_; (first | rw [← Ny222.out] at ho5 | (simp only [Int.reduceToNat] at ho5; rw [← Ny222.out] at ho5)); have n0_ := Aside0.mk (Kd.R_lower ho5 (below_size (Cmp.g HB.out))); have n1_ := Aside0.mk (below_step (Cmp.g HB.out) hb); clear HB; have HO224 := n0_; have HB := n1_; clear n0_ n1_; clear hb ho5) | ((with_reducible refine gate_builtin (b := .append) (xs := #[.tmp 8, .tmp 9]) rfl ?_); at_builtin; refine Kd.R_append_rows (Kd.int .i64) (w0 := w) w.heap.size rfl (.tmp 8) (.tmp 9) 48 3 (.int .i64 0) 8 rfl Try.underlying48 info3 rfl (by decide) (by omega) v223 y222 l0 _ _ _ (fun _ => True) (fun _ => False) rfl rfl ?aO ?aR (fun _ _ h => h) (fun _ h => h.elim) ?aF ?aB ?aS ?aL ?_; (case aR => repeat (first | exact (Kd.C_below HR0.out HB.out) | (with_reducible refine Kd.C_alloc ?_ _) | (with_reducible refine Kd.C_drewN ?_ _) | (with_reducible refine Kd.C_drew ?_))); (case aB => exact (Cmp.g HB.out)); (case aF => exact (fun _ _ => trivial)); (case aO => exact (Cmp.rr HO224.out)); (case aS => exact (below_size (Cmp.g HB.out))); (case aL => have := LMc3.out; omega); intro v226 w6 ho hb hg hat; rw [← Ny225.out] at ho; have n0_ := Aside0.mk (hb); have n1_ := Aside0.mk (ho); clear HB; clear HO224; have HB := n0_; have HO227 := n1_; clear n0_ n1_; clear ho hb hg hat))
  go_loopg [5, 13] k (fun kq v5 v13 w' => ∃ (x5_1 : List Int) (x13_1 : Int), v13 = .int .i64 x13_1 ∧ Aside0 (impl_joined.l0 kq x5_1 l1 (l1.length : Int) x13_1 = some r) ∧ Aside0 (kq ≤ k) ∧ Aside0 (Kd.R (Kd.int .i64) 3 w' w.heap.size (fun _ => True) v5 x5_1) ∧ Aside0 (Below w.heap.size w w'))
  case atStart => exact ⟨(y225), (0), (by first | rfl | simp | simp [*]), H', ⟨Nat.le_refl _⟩, ⟨by refine Cmp.rr ?_; exact HO227.out⟩, ⟨Cmp.g HB.out⟩⟩
  case round =>
   clear H'
   (try clear c1); (try clear p2); (try clear c3)
   obtain ⟨x5_1, x13_1, rfl, HA, HK1, HO_5, HB⟩ := hrel
   cases gk with
   | zero => exact absurd HA.out (by simp [impl_joined.l0])
   | succ k1 =>
    have H := HA.out; clear HA
    simp only [impl_joined.l0] at H
    by_cases c7 : x13_1 < (l1.length : Int)
    ·rw [if_pos c7] at H
     have c7b0 : decide (x13_1 < (l1.length : Int)) = true := decide_eq_true c7
     clear c7
     by_cases c8 : 0 ≤ x13_1
     ·rw [if_pos c8] at H; have c8b0 : decide (0 ≤ x13_1) = true := decide_eq_true c8; clear c8
      by_cases c9 : x13_1 < (l1.length : Int)
      ·rw [if_pos c9] at H
       have c9b0 : decide (x13_1 < (l1.length : Int)) = true := decide_eq_true c9
       clear c9
       by_cases c10 : x5_1.length + (rd_L3 l1 x13_1).length < 17592186044416
       ·rw [if_pos c10] at H; have LMc10 := Aside0.mk c10; clear c10
        obtain ⟨y229, hy229⟩ : ∃ y_ : List Int, y_ = (x5_1 ++ (rd_L3 l1 x13_1)) := ⟨_, rfl⟩
        replace H : (impl_joined.l0 k1 y229 l1 (l1.length : Int) (wrap64 (x13_1 + 1))) = some r := by first | (rw [hy229]; with_reducible exact H) | (have H2_ := (Option.bind_some _ _).symm.trans H; rw [hy229]; with_reducible exact H2_) | (have H2_ := (Option.bind_some _ _).symm.trans H; with_reducible exact H2_) | with_reducible exact H | (rw [hy229]; exact H) | exact H
        have Ny229 := Aside0.mk hy229; clear hy229
        have H' := Aside0.mk H
        clear H
        have p228 : 0 ≤ (x13_1 : Int) := of_decide_eq_true Cmp.d
        have q228 : x13_1 < (l1.length : Int) := of_decide_eq_true Cmp.d
        obtain ⟨ad228, A228_0, c228_0, e228, hx228_0, hl228_0, hi228_0⟩ := at_L3 HR1.out x13_1 p228 q228
        cases e228
        replace hx228_0 := (HB.out.cell (World.block_lt_of_cell? w _ hx228_0)).trans hx228_0
        have HR228_0 := Aside0.mk hi228_0; have HC228_0 := Aside0.mk hl228_0; clear hi228_0 hl228_0; replace p228 := eq_true p228; replace q228 := eq_true q228
        go_wp2_with (first | ((with_reducible refine gate_builtin (b := .append) (xs := #[.tmp 17, .tmp 18]) rfl ?_); at_builtin; refine Kd.R_append_rows (Kd.int .i64) (w0 := w) w.heap.size rfl (.tmp 17) (.tmp 18) 48 3 (.int .i64 0) 8 rfl Try.underlying48 info3 rfl (by decide) (by omega) u5 x5_1 (rd_L3 l1 x13_1) _ _ _ (fun _ => True) (fun _ => False) rfl rfl ?aO ?aR (fun _ _ h => h) (fun _ h => h.elim) ?aF ?aB ?aS ?aL ?_; (case aR => repeat (first | exact (Kd.C_below HR228_0.out HB.out) | (with_reducible refine Kd.C_alloc ?_ _) | (with_reducible refine Kd.C_drewN ?_ _) | (with_reducible refine Kd.C_drew ?_))); (case aB => exact (Cmp.g HB.out)); (case aF => exact (fun _ _ => trivial)); (case aO => exact (Cmp.rr HO_5.out)); (case aS => exact (below_size (Cmp.g HB.out))); (case aL => have := LMc10.out; omega); intro v230 w11 ho hb hg hat; rw [← Ny229.out] at ho; have n0_ := Aside0.mk (hb); have n1_ := Aside0.mk (ho); clear HB; clear HO_5; have HB := n0_; have HO231 := n1_; clear n0_ n1_; clear ho hb hg hat))
        go_roundg k1
        case measure => have := HK1.out; omega
        case rel => exact ⟨(y229), (wrap64 (x13_1 + 1)), (by first | rfl | simp | simp [*]), H', ⟨by have := HK1.out; omega⟩, ⟨by refine Cmp.rr ?_; exact HO231.out⟩, ⟨Cmp.g HB.out⟩⟩
       ·rw [if_neg c10] at H; exact absurd H (by simp)
      ·rw [if_neg c9] at H; exact absurd H (by simp)
     ·rw [if_neg c8] at H; exact absurd H (by simp)
    ·rw [if_neg c7] at H
     have c7b0 : decide (x13_1 < (l1.length : Int)) = false := decide_eq_false c7
     clear c7
     obtain rfl := Option.some.inj H
     go_wp2
     go_ret
     exact ⟨_, by first | rfl | (simp [errW_none, errW_some] <;> rfl) | (simp [*, errW_none, errW_some] <;> rfl), by refine Cmp.rr ?_; exact HO_5.out, Cmp.g HB.out⟩
 ·rw [if_neg c3] at H; exact absurd H (by simp)

/-! ### impl_KeyedHash: function 135 -/
def impl_KeyedHash.f (k : Nat) (a0 : Int) (l1 : List Int) : Option (Int) := (impl_joined.f k (([a0] : List Int)) (([l1, (([a0] : List Int))] : List (List Int)))).bind fun t241 => ((impl_Hash.f k t241).bind fun t244 => (some t244))
theorem impl_KeyedHash.mono : ∀ a0 a1 k, LeO (impl_KeyedHash.f k a0 a1) (impl_KeyedHash.f (k + 1) a0 a1) := by
  intro a0 a1 k
  unfold impl_KeyedHash.f
  repeat' first
      | (with_reducible exact impl_Hash.mono _ _)
      | (with_reducible exact impl_joined.mono _ _ _)
      | (with_reducible exact LeO.refl _)
      | (with_reducible exact LeO.none _)
      | (with_reducible refine LeO.ite ?_ ?_)
      | (with_reducible refine LeO.bind ?_ (fun _ => ?_))
      | exact impl_Hash.mono _ _
      | exact impl_joined.mono _ _ _
      | exact LeO.none _
      | refine LeO.ite ?_ ?_
      | refine LeO.bind ?_ (fun _ => ?_)
set_option maxHeartbeats 8000000 in
set_option maxRecDepth 100000 in
theorem impl_KeyedHash.calls (k : Nat) (a0 : Int) (P1_ : Nat → Prop) (A1 : Option Addr) (c1 : Nat) (l1 : List Int) (r : Int) (w : World) (hs1 : Kd.V (Kd.int .i64) 3 w w.heap.size (fun k_ => P1_ k_) (.slice A1 l1.length c1) l1) (h : impl_KeyedHash.f k a0 l1 = some r) :
    Calls Try.prog 135 #[.int .i64 a0, .slice A1 l1.length c1] w fun e w' => e = .returned (.int .i64 r) ∧ Below w.heap.size w w' := by
 have HO1 := Aside0.mk (show Kd.V (Kd.int .i64) 3 w w.heap.size (fun k_ => (P1_ k_ ∨ w.heap.size ≤ k_)) (.slice A1 l1.length c1) l1 from Kd.V_mono hs1 (fun k_ hk => .inl hk))
 have HB := Aside0.mk (Below.refl w.heap.size w)
 have H : ((impl_joined.f k (([a0] : List Int)) (([l1, (([a0] : List Int))] : List (List Int)))).bind fun t241 => ((impl_Hash.f k t241).bind fun t244 => (some t244))) = some r := h
 clear h
 obtain ⟨y232, hy232⟩ : ∃ y_ : List Int, y_ = (([a0] : List Int)) := ⟨_, rfl⟩
 replace H : ((impl_joined.f k y232 (([l1, (([a0] : List Int))] : List (List Int)))).bind fun t241 => ((impl_Hash.f k t241).bind fun t244 => (some t244))) = some r := by first | (rw [hy232]; with_reducible exact H) | (have H2_ := (Option.bind_some _ _).symm.trans H; rw [hy232]; with_reducible exact H2_) | (have H2_ := (Option.bind_some _ _).symm.trans H; with_reducible exact H2_) | with_reducible exact H | (rw [hy232]; exact H) | exact H
 have Ny232 := Aside0.mk hy232; clear hy232
 obtain ⟨y235, hy235⟩ : ∃ y_ : List Int, y_ = (([a0] : List Int)) := ⟨_, rfl⟩
 replace H : ((impl_joined.f k y232 (([l1, y235] : List (List Int)))).bind fun t241 => ((impl_Hash.f k t241).bind fun t244 => (some t244))) = some r := by first | (rw [hy235]; with_reducible exact H) | (have H2_ := (Option.bind_some _ _).symm.trans H; rw [hy235]; with_reducible exact H2_) | (have H2_ := (Option.bind_some _ _).symm.trans H; with_reducible exact H2_) | with_reducible exact H | (rw [hy235]; exact H) | exact H
 have Ny235 := Aside0.mk hy235; clear hy235
 obtain ⟨y238, hy238⟩ : ∃ y_ : List (List Int), y_ = (([l1, y235] : List (List Int))) := ⟨_, rfl⟩
 replace H : ((impl_joined.f k y232 y238).bind fun t241 => ((impl_Hash.f k t241).bind fun t244 => (some t244))) = some r := by first | (rw [hy238]; with_reducible exact H) | (have H2_ := (Option.bind_some _ _).symm.trans H; rw [hy238]; with_reducible exact H2_) | (have H2_ := (Option.bind_some _ _).symm.trans H; with_reducible exact H2_) | with_reducible exact H | (rw [hy238]; exact H) | exact H
 have Ny238 := Aside0.mk hy238; clear hy238; replace H := Option.bind_eq_some_iff.mp H; obtain ⟨t241, A30, H⟩ := H; (try dsimp only at H); have A3 := Aside0.mk A30; clear A30; replace H := Option.bind_eq_some_iff.mp H; obtain ⟨t244, A40, H⟩ := H; (try dsimp only at H); have A4 := Aside0.mk A40; clear A40
 obtain rfl := Option.some.inj H
 go_enter Try.func135, Try.ntmps135
 go_wp2_with (first | ((with_reducible refine gate_dst (N := 6) rfl ?_); refine Kd.R_lit (Kd.int .i64) _ 3 ?hg (N := 6) ?hd (xs := ([a0] : List Int)) (inner := [.int .i64 a0]) (ok := fun _ => True) (okp := fun _ => True) ?hr ?hp (fun _ hk => hk) trivial (Below.refl _ _) (Nat.le_refl _) (by simp) ?_; (case hd => rfl); (case hg => rfl); (case hr => first | (go_simp; done) | (go_simp; rfl)); (case hp => exact (Reps.one (show Kd.M (Kd.int .i64) _ _ _ a0 [.int .i64 a0] from rfl) (Reps.none _ _))); intro v233 w5 ho6 hb hg_ hnew_; clear hg_ hnew_; (first | rw [← Ny232.out] at ho6 | (simp only [Int.reduceToNat] at ho6; rw [← Ny232.out] at ho6)); have n0_ := Aside0.mk (Kd.V_elder' (Cmp.rv HO1.out) (Kd.R_base ho6) hb); have n1_ := Aside0.mk (Kd.R_lower (Kd.R_newM (M := fun k_ => (w.heap.size ≤ k_)) ho6 (below_size (Cmp.g HB.out)) (fun k_ h_ => h_)) (below_size (Cmp.g HB.out))); have n2_ := Aside0.mk (below_step (Cmp.g HB.out) hb); clear HO1; clear HB; have HO1 := n0_; have HO234 := n1_; have HB := n2_; clear n0_ n1_ n2_; clear hb ho6) | ((with_reducible refine gate_dst (N := 9) rfl ?_); refine Kd.R_lit (Kd.int .i64) _ 3 ?hg (N := 9) ?hd (xs := ([a0] : List Int)) (inner := [.int .i64 a0]) (ok := fun _ => True) (okp := fun _ => True) ?hr ?hp (fun _ hk => hk) trivial (Below.refl _ _) (Nat.le_refl _) (by simp) ?_; (case hd => rfl); (case hg => rfl); (case hr => first | (go_simp; done) | (go_simp; rfl)); (case hp => exact (Reps.one (show Kd.M (Kd.int .i64) _ _ _ a0 [.int .i64 a0] from rfl) (Reps.none _ _))); intro v236 w7 ho8 hb hg_ hnew_; clear hg_ hnew_; (first | rw [← Ny235.out] at ho8 | (simp only [Int.reduceToNat] at ho8; rw [← Ny235.out] at ho8)); have n0_ := Aside0.mk (Kd.V_elder' (Cmp.rv HO1.out) (Kd.R_base ho8) hb); have n1_ := Aside0.mk (Kd.R_elder' (Cmp.rr HO234.out) (Kd.R_base ho8) hb); have n2_ := Aside0.mk (Kd.R_lower (Kd.R_new' (Kd.R_newM (M := fun k_ => (w.heap.size ≤ k_)) ho8 (below_size (Cmp.g HB.out)) (fun k_ h_ => h_)) (Kd.R_lt (Cmp.rr HO234.out))) (below_size (Cmp.g HB.out))); have n3_ := Aside0.mk (below_step (Cmp.g HB.out) hb); clear HO1; clear HO234; clear HB; have HO1 := n0_; have HO234 := n1_; have HO237 := n2_; have HB := n3_; clear n0_ n1_ n2_ n3_; clear hb ho8; obtain ⟨Ao9, co9, eo9⟩ := Kd.R_slice HO237.out; subst eo9) | ((with_reducible refine gate_dst (N := 10) rfl ?_); refine Kd.N_lit (Kd.slice 3 (Kd.int .i64)) _ 48 ?hg (N' := 10) ?hd (xs := ([l1, y235] : List (List Int))) (inner := [.slice A1 l1.length c1, .slice Ao9 y235.length co9]) (ok := (fun k_ => (P1_ k_ ∨ w.heap.size ≤ k_) ∧ some k_ ≠ (v233 : Value).ownBlock)) (okp := (fun k_ => (P1_ k_ ∨ w.heap.size ≤ k_) ∧ some k_ ≠ (v233 : Value).ownBlock)) ?hr ?hp (fun _ hk => hk) ((show ∀ k_, w7.heap.size ≤ k_ → (fun k_ => (P1_ k_ ∨ w.heap.size ≤ k_) ∧ some k_ ≠ (v233 : Value).ownBlock) k_ from fun k_ hk => ⟨(.inr (Nat.le_trans (below_size (Cmp.g HB.out)) hk)), Kd.fresh' (Kd.R_lt (Cmp.rr HO234.out)) k_ hk⟩) _ (Nat.le_refl _)) (Below.refl _ _) (Nat.le_refl _) (by simp) ?_; (case hd => rfl); (case hg => rfl); (case hr => first | (go_simp; done) | (go_simp; rfl)); (case hp => exact (Reps.one (show Kd.FK (Kd.slice 3 (Kd.int .i64)) _ _ l1 [.slice A1 l1.length c1] from (Kd.FK_slice_mk (Kd.V_reads' (Kd.V_mono (ok' := (fun k_ => (P1_ k_ ∨ w.heap.size ≤ k_) ∧ some k_ ≠ (v233 : Value).ownBlock)) (HO1.out) (fun k_ hk => ⟨hk.1.1, hk.1.2⟩))).2.1 (Kd.V_F (Kd.V_mono (ok' := (fun k_ => (P1_ k_ ∨ w.heap.size ≤ k_) ∧ some k_ ≠ (v233 : Value).ownBlock)) (HO1.out) (fun k_ hk => ⟨hk.1.1, hk.1.2⟩))))) (Reps.one (show Kd.FK (Kd.slice 3 (Kd.int .i64)) _ _ y235 [.slice Ao9 y235.length co9] from (Kd.FK_slice_mk (Kd.R_reads' (Kd.R_mono (ok' := (fun k_ => (P1_ k_ ∨ w.heap.size ≤ k_) ∧ some k_ ≠ (v233 : Value).ownBlock)) (HO237.out) (fun k_ hk => ⟨(.inr (hk.1.1)), hk.2⟩))).2.1 (Kd.R_F (Kd.R_mono (ok' := (fun k_ => (P1_ k_ ∨ w.heap.size ≤ k_) ∧ some k_ ≠ (v233 : Value).ownBlock)) (HO237.out) (fun k_ hk => ⟨(.inr (hk.1.1)), hk.2⟩))))) (Reps.none _ _)))); intro v239 w10 ho11 hb hg_ hnew_; clear hg_ hnew_; (first | rw [← Ny238.out] at ho11 | (simp only [Int.reduceToNat] at ho11; rw [← Ny238.out] at ho11)); have n0_ := Aside0.mk (Kd.V_elder' (Cmp.rv HO1.out) (Kd.N_base ho11) hb); have n1_ := Aside0.mk (Kd.R_below (Cmp.rr HO234.out) hb); have n2_ := Aside0.mk (Kd.N_lower ho11 (below_size (Cmp.g HB.out))); have n3_ := Aside0.mk (below_step (Cmp.g HB.out) hb); clear HO1; clear HO234; clear HB; clear HO237; have HO1 := n0_; have HO234 := n1_; have HO240 := n2_; have HB := n3_; clear n0_ n1_ n2_ n3_; clear hb ho11; obtain ⟨Ao12, co12, eo12⟩ := Kd.R_slice HO234.out; subst eo12; obtain ⟨Ao13, co13, eo13⟩ := Kd.N_slice HO240.out; subst eo13) | ((with_reducible refine gate_callee (f := 137) rfl ?_); refine goesL_ (some 11) rfl rfl Try.func137 (by kernel_rfl) rfl #[.slice Ao12 y232.length co12, .slice Ao13 y238.length co13] rfl Cmp.q ?_; (with_reducible refine (impl_joined.calls k _ _ y232 _ _ y238 t241 _ ?side1 ?side2 ?side3 ?side4 A3.out).mono ?_); (case side1 => exact Cmp.rc (Kd.R_reads' HO234.out).2.2); (case side2 => exact (Kd.R_reads' HO234.out).2.1); (case side3 => exact Cmp.rc (Kd.N_reads' HO240.out).2.2); (case side4 => exact (Kd.N_reads' HO240.out).2.1); rintro e w14 ⟨v242, rfl, ho0, hb⟩; refine ⟨_, rfl, ?_⟩; have n0_ := Aside0.mk (Kd.V_elder' (Cmp.rv HO1.out) (Kd.R_base ho0) hb); have n1_ := Aside0.mk (Kd.R_elder' (Cmp.rr HO234.out) (Kd.R_base ho0) hb); have n2_ := Aside0.mk (Kd.N_elder' (Cmp.rn HO240.out) (Kd.R_base ho0) hb); have n3_ := Aside0.mk (Kd.R_lower (Kd.R_new' (Kd.R_newM (M := fun k_ => (w.heap.size ≤ k_)) ho0 (below_size (Cmp.g HB.out)) (fun k_ h_ => h_)) (Kd.R_lt (Cmp.rr HO234.out))) (below_size (Cmp.g HB.out))); have n4_ := Aside0.mk (below_step (Cmp.g HB.out) hb); clear HO1; clear HO234; clear HO240; clear HB; have HO1 := n0_; have HO234 := n1_; have HO240 := n2_; have HO243 := n3_; have HB := n4_; clear n0_ n1_ n2_ n3_ n4_; (try clear hb); (try clear hb2); (try clear hk); (try clear hi); (try clear ho0); obtain ⟨Ao15, co15, eo15⟩ := Kd.R_slice HO243.out; subst eo15) | ((with_reducible refine gate_callee (f := 103) rfl ?_); refine goesL_ (some 12) rfl rfl Try.func103 (by kernel_rfl) rfl #[.slice Ao15 t241.length co15] rfl Cmp.q ?_; (with_reducible refine (impl_Hash.calls k _ _ t241 t244 _ ?side1 ?side2 A4.out).mono ?_); (case side1 => exact Cmp.rc (Kd.R_reads' HO243.out).2.2); (case side2 => exact (Kd.R_reads' HO243.out).2.1); rintro e w' ⟨rfl, ⟨nd, rfl⟩⟩; refine ⟨_, rfl, ?_⟩))
 go_ret
 exact ⟨by first | rfl | (simp [errW_none, errW_some] <;> rfl) | (simp [*, errW_none, errW_some] <;> rfl), Cmp.g HB.out⟩

/-! ### impl_SignMessage: function 122 -/
def impl_SignMessage.f (k : Nat) (a0 : Int) (l1 : List Int) : Option (Int) := (impl_IsValidKey.f a0).bind fun t245 => (if t245 = true then ((impl_joined.f k (([139, (l1.length : Int)] : List Int)) (([l1] : List (List Int)))).bind fun t252 => ((impl_KeyedHash.f k a0 t252).bind fun t255 => (some t255))) else (some 0))
theorem impl_SignMessage.mono : ∀ a0 a1 k, LeO (impl_SignMessage.f k a0 a1) (impl_SignMessage.f (k + 1) a0 a1) := by
  intro a0 a1 k
  unfold impl_SignMessage.f
  repeat' first
      | (with_reducible exact impl_KeyedHash.mono _ _ _)
      | (with_reducible exact impl_joined.mono _ _ _)
      | (with_reducible exact LeO.refl _)
      | (with_reducible exact LeO.none _)
      | (with_reducible refine LeO.ite ?_ ?_)
      | (with_reducible refine LeO.bind ?_ (fun _ => ?_))
      | exact impl_KeyedHash.mono _ _ _
      | exact impl_joined.mono _ _ _
      | exact LeO.none _
      | refine LeO.ite ?_ ?_
      | refine LeO.bind ?_ (fun _ => ?_)
set_option maxHeartbeats 8000000 in
set_option maxRecDepth 100000 in
theorem impl_SignMessage.calls (k : Nat) (a0 : Int) (P1_ : Nat → Prop) (A1 : Option Addr) (c1 : Nat) (l1 : List Int) (r : Int) (w : World) (hs1 : Kd.V (Kd.int .i64) 3 w w.heap.size (fun k_ => P1_ k_) (.slice A1 l1.length c1) l1) (h : impl_SignMessage.f k a0 l1 = some r) :
    Calls Try.prog 122 #[.int .i64 a0, .slice A1 l1.length c1] w fun e w' => e = .returned (.int .i64 r) ∧ Below w.heap.size w w' := by
 have HO1 := Aside0.mk (show Kd.V (Kd.int .i64) 3 w w.heap.size (fun k_ => (P1_ k_ ∨ w.heap.size ≤ k_)) (.slice A1 l1.length c1) l1 from Kd.V_mono hs1 (fun k_ hk => .inl hk))
 have HB := Aside0.mk (Below.refl w.heap.size w)
 have H : ((impl_IsValidKey.f a0).bind fun t245 => (if t245 = true then ((impl_joined.f k (([139, (l1.length : Int)] : List Int)) (([l1] : List (List Int)))).bind fun t252 => ((impl_KeyedHash.f k a0 t252).bind fun t255 => (some t255))) else (some 0))) = some r := h
 clear h; replace H := Option.bind_eq_some_iff.mp H; obtain ⟨t245, A30, H⟩ := H; (try dsimp only at H); have A3 := Aside0.mk A30; clear A30
 by_cases c4 : t245 = true
 ·subst c4; rw [if_pos rfl] at H
  obtain ⟨y246, hy246⟩ : ∃ y_ : List Int, y_ = (([139, (l1.length : Int)] : List Int)) := ⟨_, rfl⟩
  replace H : ((impl_joined.f k y246 (([l1] : List (List Int)))).bind fun t252 => ((impl_KeyedHash.f k a0 t252).bind fun t255 => (some t255))) = some r := by first | (rw [hy246]; with_reducible exact H) | (have H2_ := (Option.bind_some _ _).symm.trans H; rw [hy246]; with_reducible exact H2_) | (have H2_ := (Option.bind_some _ _).symm.trans H; with_reducible exact H2_) | with_reducible exact H | (rw [hy246]; exact H) | exact H
  have Ny246 := Aside0.mk hy246; clear hy246
  obtain ⟨y249, hy249⟩ : ∃ y_ : List (List Int), y_ = (([l1] : List (List Int))) := ⟨_, rfl⟩
  replace H : ((impl_joined.f k y246 y249).bind fun t252 => ((impl_KeyedHash.f k a0 t252).bind fun t255 => (some t255))) = some r := by first | (rw [hy249]; with_reducible exact H) | (have H2_ := (Option.bind_some _ _).symm.trans H; rw [hy249]; with_reducible exact H2_) | (have H2_ := (Option.bind_some _ _).symm.trans H; with_reducible exact H2_) | with_reducible exact H | (rw [hy249]; exact H) | exact H
  have Ny249 := Aside0.mk hy249; clear hy249; replace H := Option.bind_eq_some_iff.mp H; obtain ⟨t252, A50, H⟩ := H; (try dsimp only at H); have A5 := Aside0.mk A50; clear A50; replace H := Option.bind_eq_some_iff.mp H; obtain ⟨t255, A60, H⟩ := H; (try dsimp only at H); have A6 := Aside0.mk A60; clear A60
  obtain rfl := Option.some.inj H
  go_enter Try.func122, Try.ntmps122
  go_wp2_with (first | ((with_reducible refine gate_callee (f := 90) rfl ?_); refine goesL_ (some 6) rfl rfl Try.func90 (by kernel_rfl) rfl #[.int .i64 a0] rfl Cmp.q ?_; (with_reducible refine (impl_IsValidKey.calls a0 true _ A3.out).mono ?_); rintro e w' ⟨rfl, ⟨nd, rfl⟩⟩; refine ⟨_, rfl, ?_⟩) | ((with_reducible refine gate_dst (N := 11) rfl ?_); refine Kd.R_lit (Kd.int .i64) _ 3 ?hg (N := 11) ?hd (xs := ([139, (l1.length : Int)] : List Int)) (inner := [.int .i64 139, .int .i64 (l1.length : Int)]) (ok := fun _ => True) (okp := fun _ => True) ?hr ?hp (fun _ hk => hk) trivial (Below.refl _ _) (Nat.le_refl _) (by simp) ?_; (case hd => rfl); (case hg => rfl); (case hr => first | (go_simp; done) | (go_simp; rfl)); (case hp => exact (Reps.one (show Kd.M (Kd.int .i64) _ _ _ 139 [.int .i64 139] from rfl) (Reps.one (show Kd.M (Kd.int .i64) _ _ _ (l1.length : Int) [.int .i64 (l1.length : Int)] from rfl) (Reps.none _ _)))); intro v247 w7 ho8 hb hg_ hnew_; clear hg_ hnew_; (first | rw [← Ny246.out] at ho8 | (simp only [Int.reduceToNat] at ho8; rw [← Ny246.out] at ho8)); have n0_ := Aside0.mk (Kd.V_elder' (Cmp.rv HO1.out) (Kd.R_base ho8) hb); have n1_ := Aside0.mk (Kd.R_lower (Kd.R_newM (M := fun k_ => (w.heap.size ≤ k_)) ho8 (below_size (Cmp.g HB.out)) (fun k_ h_ => h_)) (below_size (Cmp.g HB.out))); have n2_ := Aside0.mk (below_step (Cmp.g HB.out) hb); clear HO1; clear HB; have HO1 := n0_; have HO248 := n1_; have HB := n2_; clear n0_ n1_ n2_; clear hb ho8) | ((with_reducible refine gate_dst (N := 13) rfl ?_); refine Kd.N_lit (Kd.slice 3 (Kd.int .i64)) _ 48 ?hg (N' := 13) ?hd (xs := ([l1] : List (List Int))) (inner := [.slice A1 l1.length c1]) (ok := (fun k_ => (P1_ k_ ∨ w.heap.size ≤ k_) ∧ some k_ ≠ (v247 : Value).ownBlock)) (okp := (fun k_ => (P1_ k_ ∨ w.heap.size ≤ k_) ∧ some k_ ≠ (v247 : Value).ownBlock)) ?hr ?hp (fun _ hk => hk) ((show ∀ k_, w7.heap.size ≤ k_ → (fun k_ => (P1_ k_ ∨ w.heap.size ≤ k_) ∧ some k_ ≠ (v247 : Value).ownBlock) k_ from fun k_ hk => ⟨(.inr (Nat.le_trans (below_size (Cmp.g HB.out)) hk)), Kd.fresh' (Kd.R_lt (Cmp.rr HO248.out)) k_ hk⟩) _ (Nat.le_refl _)) (Below.refl _ _) (Nat.le_refl _) (by simp) ?_; (case hd => rfl); (case hg => rfl); (case hr => first | (go_simp; done) | (go_simp; rfl)); (case hp => exact (Reps.one (show Kd.FK (Kd.slice 3 (Kd.int .i64)) _ _ l1 [.slice A1 l1.length c1] from (Kd.FK_slice_mk (Kd.V_reads' (Kd.V_mono (ok' := (fun k_ => (P1_ k_ ∨ w.heap.size ≤ k_) ∧ some k_ ≠ (v247 : Value).ownBlock)) (HO1.out) (fun k_ hk => ⟨hk.1, hk.2⟩))).2.1 (Kd.V_F (Kd.V_mono (ok' := (fun k_ => (P1_ k_ ∨ w.heap.size ≤ k_) ∧ some k_ ≠ (v247 : Value).ownBlock)) (HO1.out) (fun k_ hk => ⟨hk.1, hk.2⟩))))) (Reps.none _ _))); intro v250 w9 ho10 hb hg_ hnew_; clear hg_ hnew_; (first | rw [← Ny249.out] at ho10 | (simp only [Int.reduceToNat] at ho10; rw [← Ny249.out] at ho10)); have n0_ := Aside0.mk (Kd.V_elder' (Cmp.rv HO1.out) (Kd.N_base ho10) hb); have n1_ := Aside0.mk (Kd.R_below (Cmp.rr HO248.out) hb); have n2_ := Aside0.mk (Kd.N_lower ho10 (below_size (Cmp.g HB.out))); have n3_ := Aside0.mk (below_step (Cmp.g HB.out) hb); clear HO1; clear HO248; clear HB; have HO1 := n0_; have HO248 := n1_; have HO251 := n2_; have HB := n3_; clear n0_ n1_ n2_ n3_; clear hb ho10; obtain ⟨Ao11, co11, eo11⟩ := Kd.R_slice HO248.out; subst eo11; obtain ⟨Ao12, co12, eo12⟩ := Kd.N_slice HO251.out; subst eo12) | ((with_reducible refine gate_callee (f := 137) rfl ?_); refine goesL_ (some 14) rfl rfl Try.func137 (by kernel_rfl) rfl #[.slice Ao11 y246.length co11, .slice Ao12 y249.length co12] rfl Cmp.q ?_; (with_reducible refine (impl_joined.calls k _ _ y246 _ _ y249 t252 _ ?side1 ?side2 ?side3 ?side4 A5.out).mono ?_); (case side1 => exact Cmp.rc (Kd.R_reads' HO248.out).2.2); (case side2 => exact (Kd.R_reads' HO248.out).2.1); (case side3 => exact Cmp.rc (Kd.N_reads' HO251.out).2.2); (case side4 => exact (Kd.N_reads' HO251.out).2.1); rintro e w13 ⟨v253, rfl, ho0, hb⟩; refine ⟨_, rfl, ?_⟩; have n0_ := Aside0.mk (Kd.V_elder' (Cmp.rv HO1.out) (Kd.R_base ho0) hb); have n1_ := Aside0.mk (Kd.R_elder' (Cmp.rr HO248.out) (Kd.R_base ho0) hb); have n2_ := Aside0.mk (Kd.N_elder' (Cmp.rn HO251.out) (Kd.R_base ho0) hb); have n3_ := Aside0.mk (Kd.R_lower (Kd.R_new' (Kd.R_newM (M := fun k_ => (w.heap.size ≤ k_)) ho0 (below_size (Cmp.g HB.out)) (fun k_ h_ => h_)) (Kd.R_lt (Cmp.rr HO248.out))) (below_size (Cmp.g HB.out))); have n4_ := Aside0.mk (below_step (Cmp.g HB.out) hb); clear HO1; clear HO248; clear HO251; clear HB; have HO1 := n0_; have HO248 := n1_; have HO251 := n2_; have HO254 := n3_; have HB := n4_; clear n0_ n1_ n2_ n3_ n4_; (try clear hb); (try clear hb2); (try clear hk); (try clear hi); (try clear ho0); obtain ⟨Ao14, co14, eo14⟩ := Kd.R_slice HO254.out; subst eo14) | ((with_reducible refine gate_callee (f := 135) rfl ?_); refine goesL_ (some 15) rfl rfl Try.func135 (by kernel_rfl) rfl #[.int .i64 a0, .slice Ao14 t252.length co14] rfl Cmp.q ?_; (with_reducible refine (impl_KeyedHash.calls k a0 (fun k_ => some k_ = (.slice Ao14 t252.length co14 : Value).ownBlock) _ _ t252 t255 _ ?side1 A6.out).mono ?_); (case side1 => exact Kd.R_V (Kd.R_tight rfl (Kd.R_apart' (HO254.out) (Kd.N_typed HO251.out) (by decide)))); rintro e w15 ⟨rfl, hb⟩; refine ⟨_, rfl, ?_⟩; have n0_ := Aside0.mk (Kd.V_below (Cmp.rv HO1.out) hb); have n1_ := Aside0.mk (Kd.R_below (Cmp.rr HO248.out) hb); have n2_ := Aside0.mk (Kd.N_below (Cmp.rn HO251.out) hb); have n3_ := Aside0.mk (Kd.R_below (Cmp.rr HO254.out) hb); have n4_ := Aside0.mk (below_step (Cmp.g HB.out) hb); clear HO1; clear HO248; clear HO251; clear HO254; clear HB; have HO1 := n0_; have HO248 := n1_; have HO251 := n2_; have HO254 := n3_; have HB := n4_; clear n0_ n1_ n2_ n3_ n4_; (try clear hb); (try clear hb2); (try clear hk); (try clear hi)))
  go_ret
  exact ⟨by first | rfl | (simp [errW_none, errW_some] <;> rfl) | (simp [*, errW_none, errW_some] <;> rfl), Cmp.g HB.out⟩
 ·replace c4 := Bool.eq_false_iff.mpr c4
  subst c4
  have H1 : (some 0) = some r := by rw [if_neg (show ¬ (false = true) by decide)] at H; exact H
  clear H; have H := H1; clear H1
  obtain rfl := Option.some.inj H
  go_enter Try.func122, Try.ntmps122
  go_wp2_with (first | ((with_reducible refine gate_callee (f := 90) rfl ?_); refine goesL_ (some 6) rfl rfl Try.func90 (by kernel_rfl) rfl #[.int .i64 a0] rfl Cmp.q ?_; (with_reducible refine (impl_IsValidKey.calls a0 false _ A3.out).mono ?_); rintro e w' ⟨rfl, ⟨nd, rfl⟩⟩; refine ⟨_, rfl, ?_⟩))
  go_ret
  exact ⟨by first | rfl | (simp [errW_none, errW_some] <;> rfl) | (simp [*, errW_none, errW_some] <;> rfl), Cmp.g HB.out⟩

/-! ### impl_VerifySignature: function 66 -/
def impl_VerifySignature.f (k : Nat) (a0 : Int) (l1 : List Int) (a2 : Int) : Option (Bool) := (impl_PrivateKey.f k a0).bind fun t256 => (if t256 = 0 then (some false) else ((impl_SignMessage.f k t256 l1).bind fun t257 => (some (t257 == a2))))
theorem impl_VerifySignature.mono : ∀ a0 a1 a2 k, LeO (impl_VerifySignature.f k a0 a1 a2) (impl_VerifySignature.f (k + 1) a0 a1 a2) := by
  intro a0 a1 a2 k
  unfold impl_VerifySignature.f
  repeat' first
      | (with_reducible exact impl_PrivateKey.mono _ _)
      | (with_reducible exact impl_SignMessage.mono _ _ _)
      | (with_reducible exact LeO.refl _)
      | (with_reducible exact LeO.none _)
      | (with_reducible refine LeO.ite ?_ ?_)
      | (with_reducible refine LeO.bind ?_ (fun _ => ?_))
      | exact impl_PrivateKey.mono _ _
      | exact impl_SignMessage.mono _ _ _
      | exact LeO.none _
      | refine LeO.ite ?_ ?_
      | refine LeO.bind ?_ (fun _ => ?_)
set_option maxHeartbeats 8000000 in
set_option maxRecDepth 100000 in
theorem impl_VerifySignature.calls (k : Nat) (a0 : Int) (A1 : Option Addr) (c1 : Nat) (l1 : List Int) (a2 : Int) (r : Bool) (w : World) (hr1 : Kd.C (Kd.int .i64) w A1 l1.length l1) (hc1 : l1.length ≤ c1) (h : impl_VerifySignature.f k a0 l1 a2 = some r) :
    Calls Try.prog 66 #[.int .i64 a0, .slice A1 l1.length c1, .int .i64 a2] w fun e w' => e = .returned (.bool r) ∧ Below w.heap.size w w' := by
 have HR1 := Aside0.mk hr1; have HC1 := Aside0.mk hc1; clear hr1 hc1
 have HB := Aside0.mk (Below.refl w.heap.size w)
 have H : ((impl_PrivateKey.f k a0).bind fun t256 => (if t256 = 0 then (some false) else ((impl_SignMessage.f k t256 l1).bind fun t257 => (some (t257 == a2))))) = some r := h
 clear h; replace H := Option.bind_eq_some_iff.mp H; obtain ⟨t256, A40, H⟩ := H; (try dsimp only at H); have A4 := Aside0.mk A40; clear A40
 by_cases c5 : t256 = 0
 ·rw [if_pos c5] at H; have c5b0 : (t256 == 0) = true := beq_iff_eq.mpr c5; have c5b1 : (t256 != 0) = false := bne_eq_false_iff_eq.mpr c5; clear c5
  obtain rfl := Option.some.inj H
  go_enter Try.func66, Try.ntmps66
  go_wp2_with (first | ((with_reducible refine gate_callee (f := 60) rfl ?_); refine goesL_ (some 9) rfl rfl Try.func60 (by kernel_rfl) rfl #[.int .i64 a0] rfl Cmp.q ?_; (with_reducible refine (impl_PrivateKey.calls k a0 t256 _ A4.out).mono ?_); rintro e w' ⟨rfl, ⟨nd, rfl⟩⟩; refine ⟨_, rfl, ?_⟩))
  go_ret
  exact ⟨by first | rfl | (simp [errW_none, errW_some] <;> rfl) | (simp [*, errW_none, errW_some] <;> rfl), Cmp.g HB.out⟩
 ·rw [if_neg c5] at H; have c5b0 : (t256 == 0) = false := beq_eq_false_iff_ne.mpr c5; have c5b1 : (t256 != 0) = true := bne_iff_ne.mpr c5; replace H := Option.bind_eq_some_iff.mp H; obtain ⟨t257, A60, H⟩ := H; (try dsimp only at H); have A6 := Aside0.mk A60; clear A60
  obtain rfl := Option.some.inj H
  go_enter Try.func66, Try.ntmps66
  go_wp2_with (first | ((with_reducible refine gate_callee (f := 60) rfl ?_); refine goesL_ (some 9) rfl rfl Try.func60 (by kernel_rfl) rfl #[.int .i64 a0] rfl Cmp.q ?_; (with_reducible refine (impl_PrivateKey.calls k a0 t256 _ A4.out).mono ?_); rintro e w' ⟨rfl, ⟨nd, rfl⟩⟩; refine ⟨_, rfl, ?_⟩) | (go_at_call 122; (with_reducible refine (impl_SignMessage.calls k t256 (fun k_ => k_ < w.heap.size) _ _ l1 t257 _ ?side1 A6.out).mono ?_); (case side1 => exact Kd.V_mk HC1.out (Kd.F_below (Kd.C_F (Kd.heap_int .i64) HR1.out) (Cmp.g HB.out))); rintro e w7 ⟨rfl, hb⟩; have n0_ := Aside0.mk (below_step (Cmp.g HB.out) hb); clear HB; have HB := n0_; clear n0_; (try clear hb); (try clear hb2); (try clear hk); (try clear hi)))
  go_ret
  exact ⟨by first | rfl | (simp [errW_none, errW_some] <;> rfl) | (simp [*, errW_none, errW_some] <;> rfl), Cmp.g HB.out⟩

end Go.Proofs.Ytgcipecdaimjfaa.PFnExactVerifyLog

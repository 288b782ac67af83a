/- Printed functions of the program, out of print.sh, told more shortly. No condition. -/
import Derived.Test.YtgcipecdaimjfaaCmp
import Derived.Test.YtgcipecdaimjfaaPFnFresherx0
import Derived.Test.YtgcipecdaimjfaaPFnFresherx13
import Derived.Test.YtgcipecdaimjfaaPFnFresherx14
namespace Go.Proofs.Ytgcipecdaimjfaa.PFnFresher
open Go.Proofs.Ytgcipecdaimjfaa
open Go.RowKit Go.Proofs.YtgcipecdaimjfaaW.PrintWords Go.Proofs.YtgcipecdaimjfaaW.PrintLast Go.Proofs.YtgcipecdaimjfaaW.PrintMore
attribute [local go_sem] max2_int min2_int max_two min_two max_three min_three max_four min_four   -- for this text's walks alone
set_option linter.unusedVariables false
set_option linter.unusedSimpArgs false

/-! ### impl_DecodeBundle: function 47 -/
mutual
def impl_DecodeBundle.j0 : Nat → List Int → Int → Int → Bool → Option ((List (S143)) × Bool)
  | 0, _, _, _, _ => none
  | k + 1, x0, x4, x5, x23 => if x23 = true then (some (([] : List (S143)), false)) else ((impl_DecodeInts.f k x0 x5 (wrap64 (4 * x4))).bind fun bt543 => (if bt543.2.2 = true then (impl_DecodeBundle.j1 k x4 bt543.1 (bt543.2.1 != (x0.length : Int))) else (impl_DecodeBundle.j1 k x4 bt543.1 true)))
def impl_DecodeBundle.j1 : Nat → Int → List Int → Bool → Option ((List (S143)) × Bool)
  | 0, _, _, _ => none
  | k + 1, x4, x7, x41 => if x41 = true then (some (([] : List (S143)), false)) else (impl_DecodeBundle.l0 k x4 x7 0 ([] : List (S143)))
def impl_DecodeBundle.l0 : Nat → Int → List Int → Int → List (S143) → Option ((List (S143)) × Bool)
  | 0, _, _, _, _ => none
  | k + 1, x4, x7, x10, x549000 => if x10 < x4 then (if 0 ≤ (wrap64 (4 * x10)) then (if (wrap64 (4 * x10)) ≤ (x7.length : Int) then ((some (x7.drop ((wrap64 (4 * x10)) : Int).toNat : List Int)).bind fun y549 => (if 3 < (y549.length : Int) then (if (rd y549 3) > 1 then (some (([] : List (S143)), false)) else (if 0 < (y549.length : Int) then (if 1 < (y549.length : Int) then (if 2 < (y549.length : Int) then (if x549000.length < 4398046511104 then (impl_DecodeBundle.l0 k x4 x7 (wrap64 (x10 + 1)) (x549000 ++ [(⟨rd y549 0, rd y549 1, rd y549 2, ((rd y549 3) == 1)⟩ : S143)])) else (none)) else (none)) else (none)) else (none))) else (none))) else (none)) else (none)) else ((impl_IsBundle.f k x549000).bind fun t561 => (if t561 = true then (some (x549000, true)) else (some (([] : List (S143)), false))))
end
def impl_DecodeBundle.f (k : Nat) (l0 : List Int) : Option ((List (S143)) × Bool) := (impl_ReadUvarint.f k l0 0).bind fun bt540 => (if bt540.2.2 = true then (impl_DecodeBundle.j0 k l0 bt540.1 bt540.2.1 (decide (bt540.1 > 20))) else (impl_DecodeBundle.j0 k l0 bt540.1 bt540.2.1 true))
theorem impl_DecodeBundle.mono_l : ∀ k, (∀ y0 y1 y2 y3, LeO (impl_DecodeBundle.j0 k y0 y1 y2 y3) (impl_DecodeBundle.j0 (k + 1) y0 y1 y2 y3)) ∧ (∀ y0 y1 y2, LeO (impl_DecodeBundle.j1 k y0 y1 y2) (impl_DecodeBundle.j1 (k + 1) y0 y1 y2)) ∧ (∀ y0 y1 y2 y3, LeO (impl_DecodeBundle.l0 k y0 y1 y2 y3) (impl_DecodeBundle.l0 (k + 1) y0 y1 y2 y3))
  | 0 => ⟨fun _ _ _ _ r h => by simp [impl_DecodeBundle.j0] at h, fun _ _ _ r h => by simp [impl_DecodeBundle.j1] at h, fun _ _ _ _ r h => by simp [impl_DecodeBundle.l0] at h⟩
  | k + 1 => by
    obtain ⟨ih0, ih1, ih2⟩ := impl_DecodeBundle.mono_l k
    refine ⟨?_, ?_, ?_⟩
    · intro y0 y1 y2 y3
      unfold impl_DecodeBundle.j0
      repeat' first
      | (with_reducible exact ih0 _ _ _ _)
      | (with_reducible exact ih1 _ _ _)
      | (with_reducible exact ih2 _ _ _ _)
      | (with_reducible exact impl_DecodeInts.mono _ _ _ _)
      | (with_reducible exact impl_IsBundle.mono _ _)
      | (with_reducible exact impl_ReadUvarint.mono _ _ _)
      | (with_reducible exact LeO.refl _)
      | (with_reducible exact LeO.none _)
      | (with_reducible refine LeO.ite ?_ ?_)
      | (with_reducible refine LeO.bind ?_ (fun _ => ?_))
      | exact ih0 _ _ _ _
      | exact ih1 _ _ _
      | exact ih2 _ _ _ _
      | exact impl_DecodeInts.mono _ _ _ _
      | exact impl_IsBundle.mono _ _
      | exact impl_ReadUvarint.mono _ _ _
      | exact LeO.none _
      | refine LeO.ite ?_ ?_
      | refine LeO.bind ?_ (fun _ => ?_)
    · intro y0 y1 y2
      unfold impl_DecodeBundle.j1
      repeat' first
      | (with_reducible exact ih0 _ _ _ _)
      | (with_reducible exact ih1 _ _ _)
      | (with_reducible exact ih2 _ _ _ _)
      | (with_reducible exact impl_DecodeInts.mono _ _ _ _)
      | (with_reducible exact impl_IsBundle.mono _ _)
      | (with_reducible exact impl_ReadUvarint.mono _ _ _)
      | (with_reducible exact LeO.refl _)
      | (with_reducible exact LeO.none _)
      | (with_reducible refine LeO.ite ?_ ?_)
      | (with_reducible refine LeO.bind ?_ (fun _ => ?_))
      | exact ih0 _ _ _ _
      | exact ih1 _ _ _
      | exact ih2 _ _ _ _
      | exact impl_DecodeInts.mono _ _ _ _
      | exact impl_IsBundle.mono _ _
      | exact impl_ReadUvarint.mono _ _ _
      | exact LeO.none _
      | refine LeO.ite ?_ ?_
      | refine LeO.bind ?_ (fun _ => ?_)
    · intro y0 y1 y2 y3
      unfold impl_DecodeBundle.l0
      repeat' first
      | (with_reducible exact ih0 _ _ _ _)
      | (with_reducible exact ih1 _ _ _)
      | (with_reducible exact ih2 _ _ _ _)
      | (with_reducible exact impl_DecodeInts.mono _ _ _ _)
      | (with_reducible exact impl_IsBundle.mono _ _)
      | (with_reducible exact impl_ReadUvarint.mono _ _ _)
      | (with_reducible exact LeO.refl _)
      | (with_reducible exact LeO.none _)
      | (with_reducible refine LeO.ite ?_ ?_)
      | (with_reducible refine LeO.bind ?_ (fun _ => ?_))
      | exact ih0 _ _ _ _
      | exact ih1 _ _ _
      | exact ih2 _ _ _ _
      | exact impl_DecodeInts.mono _ _ _ _
      | exact impl_IsBundle.mono _ _
      | exact impl_ReadUvarint.mono _ _ _
      | exact LeO.none _
      | refine LeO.ite ?_ ?_
      | refine LeO.bind ?_ (fun _ => ?_)
theorem impl_DecodeBundle.mono : ∀ a0 k, LeO (impl_DecodeBundle.f k a0) (impl_DecodeBundle.f (k + 1) a0) := by
  intro a0 k
  obtain ⟨ih0, ih1, ih2⟩ := impl_DecodeBundle.mono_l k
  unfold impl_DecodeBundle.f
  repeat' first
      | (with_reducible exact ih0 _ _ _ _)
      | (with_reducible exact ih1 _ _ _)
      | (with_reducible exact ih2 _ _ _ _)
      | (with_reducible exact impl_DecodeInts.mono _ _ _ _)
      | (with_reducible exact impl_IsBundle.mono _ _)
      | (with_reducible exact impl_ReadUvarint.mono _ _ _)
      | (with_reducible exact LeO.refl _)
      | (with_reducible exact LeO.none _)
      | (with_reducible refine LeO.ite ?_ ?_)
      | (with_reducible refine LeO.bind ?_ (fun _ => ?_))
      | exact ih0 _ _ _ _
      | exact ih1 _ _ _
      | exact ih2 _ _ _ _
      | exact impl_DecodeInts.mono _ _ _ _
      | exact impl_IsBundle.mono _ _
      | exact impl_ReadUvarint.mono _ _ _
      | exact LeO.none _
      | refine LeO.ite ?_ ?_
      | refine LeO.bind ?_ (fun _ => ?_)
def impl_DecodeBundle.T14 : Bool × List (List Nat × List Nat) := (true, [([], []), ([0], [0]), ([], []), ([2], [2]), ([3], [3]), ([], []), ([5], [5]), ([6], [6]), ([], []), ([8], [8]), ([9], [9]), ([], []), ([11], [11]), ([12], [12]), ([13], [13]), ([4, 7, 10, 14], [4, 7, 10, 14]), ([15], [15]), ([1, 16], [1, 16]), ([0, 1, 2, 3, 4, 5, 6, 7, 8, 9, 10, 11, 12, 13, 14, 15, 16, 17], []), ([18, 17, 17, 0, 1, 2, 3, 4, 5, 6, 7, 8, 9, 10, 11, 12, 13, 14, 15, 16, 17], [17, 18])])
def impl_DecodeBundle.B14 : List Nat := [0, 1, 0, 4, 12, 0, 32, 96, 0, 256, 768, 0, 2048, 6144, 14336, 32764, 65532, 131071, 262143, 524287]
theorem impl_DecodeBundle.tab14 : rtab .any (opsOf Try.f47 14) = impl_DecodeBundle.T14 := by kernel_rfl
theorem impl_DecodeBundle.bits14 : waitsOk impl_DecodeBundle.T14.2 impl_DecodeBundle.B14 = true := by kernel_rfl
set_option maxHeartbeats 8000000 in
set_option maxRecDepth 100000 in
theorem impl_DecodeBundle.calls (k : Nat) (A0 : Option Addr) (c0 : Nat) (l0 : List Int) (r1 : List (S143)) (r2 : Bool) (w : World) (hr0 : Kd.C (Kd.int .u8) w A0 l0.length l0) (hc0 : l0.length ≤ c0) (h : impl_DecodeBundle.f k l0 = some (r1, r2)) :
    Calls Try.prog 47 #[.slice A0 l0.length c0] w fun e w' => ∃ v0_ : Value, e = .returned (.tuple #[.agg #[v0_], .bool r2]) ∧ Kd.R k143 143 w' w.heap.size (fun _ => True) v0_ r1 ∧ Below w.heap.size w w' := by
 have hu71 := Try.underlying71; have hu143 := Try.underlying143; have HR0 := Aside0.mk hr0; have HC0 := Aside0.mk hc0; clear hr0 hc0
 have HB := Aside0.mk (Below.refl w.heap.size w)
 have H : ((impl_ReadUvarint.f k l0 0).bind fun bt540 => (if bt540.2.2 = true then (impl_DecodeBundle.j0 k l0 bt540.1 bt540.2.1 (decide (bt540.1 > 20))) else (impl_DecodeBundle.j0 k l0 bt540.1 bt540.2.1 true))) = some (r1, r2) := h
 clear h; replace H := Option.bind_eq_some_iff.mp H; obtain ⟨⟨Dc, Dr, Em⟩, F8, H⟩ := H; (try dsimp only at H); have A2 := Aside0.mk F8; clear F8; have HC3 := Aside0.mk H; clear H
 go_enter Try.func47, Try.ntmps47
 go_upto_region 2 with (first | ((with_reducible refine gate_dst (N := 2) rfl ?_); (try (refine gate_guard (by rfl) ?_; dsimp only)); refine box_event ?hg (N := 2) ?hd (cs := #[.slice none 0 0]) (t := 71) ?hr ?_; (case hd => rfl); (case hg => rfl); (case hr => first | (go_simp; done) | (go_simp; rfl)); intro Dd hg w4 hbox hb; have D2 := Aside0.mk (hbox); have Fd := Cmp.gw hg HB; have Fb := Cmp.gw hg HB; replace HB := Cmp.bs HB hb; clear hb hbox hg) | ((with_reducible refine gate_callee (f := 109) rfl ?_); refine goesL_ (some 14) rfl rfl Try.func109 (by kernel_rfl) rfl #[.slice A0 l0.length c0, .int .i64 0] rfl Cmp.q ?_; (with_reducible refine (impl_ReadUvarint.calls k _ _ l0 0 Dc Dr Em _ ?side1 ?side2 A2.out).mono ?_); (case side1 => exact Cmp.rc (Kd.C_below HR0.out HB.out)); (case side2 => exact HC0.out); rintro e w' ⟨rfl, ⟨nd, rfl⟩⟩; refine ⟨_, rfl, ?_⟩))
 (try simp only [Act.put, List.setIfInBounds_toArray, List.set_cons_zero, List.set_cons_succ])
 go_cut [23] (fun v23 wc => ∃ (kq : Nat) (Do : Bool), v23 = .bool Do ∧ Aside0 (impl_DecodeBundle.j0 kq l0 Dc Dr Do = some (r1, r2)) ∧ Aside0 (kq ≤ k) ∧ Aside0 (wc.heap[Dd]? = some (.cells #[(.slice none 0 0)] 71 (0, 0))) ∧ Aside0 (Below w.heap.size w wc))
 case first =>
  have H := HC3.out; clear HC3
  by_cases c5 : Em = true
  ·subst c5; rw [if_pos rfl] at H
   have H' := Aside0.mk H
   clear H
   go_wp2
   go_meet
   case rel => exact ⟨_, (decide (Dc > 20)), (by first | rfl | simp | simp [*]), H', ⟨by first | omega | exact Nat.le_refl _⟩, Cmp.bq D2, ⟨Cmp.g HB.out⟩⟩
  ·replace c5 := Bool.eq_false_iff.mpr c5
   subst c5
   have H1 : (impl_DecodeBundle.j0 k l0 Dc Dr true) = some (r1, r2) := by rw [if_neg (show ¬ (false = true) by decide)] at H; exact H
   clear H; have H := H1; clear H1
   have H' := Aside0.mk H
   clear H
   go_wp2
   go_meet
   case rel => exact ⟨_, (true), (by first | rfl | simp | simp [*]), H', ⟨by first | omega | exact Nat.le_refl _⟩, Cmp.bq D2, ⟨Cmp.g HB.out⟩⟩
 case rest =>
  clear HC3; (try clear c1); (try clear p2); (try clear c4); (try clear c5)
  obtain ⟨kq, Do, rfl, HA, HJ2, D2, HB⟩ := hcut
  cases kq with
  | zero => exact absurd HA.out (by simp [impl_DecodeBundle.j0])
  | succ kj2 =>
   have H := HA.out; clear HA
   simp only [impl_DecodeBundle.j0] at H
   by_cases c6 : Do = true
   ·subst c6; rw [if_pos rfl] at H
    simp only [Option.some.injEq, Prod.mk.injEq] at H
    obtain ⟨rfl, rfl⟩ := H
    have Dt : wc.cell? ⟨Dd, 0, none⟩ = some (.slice none 0 0) := (blk_cell D2.out 0).trans rfl
    have Du := blk_frozen D2.out 0
    go_wp2
    refine bodyPost_ret (results_ct rfl _ _ Dd 71 #[.slice none 0 0] (0, 0) _ rfl (Cmp.bw D2.out) Try.underlying71 rfl (by kernel_rfl)) rfl ?_
    exact ⟨_, by first | rfl | (simp [errW_none, errW_some] <;> rfl) | (simp [*, errW_none, errW_some] <;> rfl), by first | exact Kd.R_nil _ _ _ _ _ | exact Kd.N_nil _ _ _ _ _ | exact Kd.V_nil _ _ _ _ _ | exact Kd.Q_nil _ _ _ _ _ | exact Kd.S_nil _ _ _ _ _, Cmp.g HB.out⟩
   ·replace c6 := Bool.eq_false_iff.mpr c6
    subst c6
    have H1 : ((impl_DecodeInts.f kj2 l0 Dr (wrap64 (4 * Dc))).bind fun bt543 => (if bt543.2.2 = true then (impl_DecodeBundle.j1 kj2 Dc bt543.1 (bt543.2.1 != (l0.length : Int))) else (impl_DecodeBundle.j1 kj2 Dc bt543.1 true))) = some (r1, r2) := by rw [if_neg (show ¬ (false = true) by decide)] at H; exact H
    clear H; have H := H1; clear H1; replace H := Option.bind_eq_some_iff.mp H; obtain ⟨⟨D5, En, Eo⟩, Fa, H⟩ := H; (try dsimp only at H); have A8 := Aside0.mk Fa; clear Fa; have HC9 := Aside0.mk H; clear H
    go_upto_region 5 with (first | ((with_reducible refine gate_callee (f := 110) rfl ?_); refine goesL_ (some 30) rfl rfl Try.func110 (by kernel_rfl) rfl #[.slice A0 l0.length c0, .int .i64 Dr, .int .i64 (wrap64 (4 * Dc))] rfl Cmp.q ?_; (with_reducible refine (impl_DecodeInts.calls kj2 _ _ l0 Dr (wrap64 (4 * Dc)) D5 En Eo _ ?side1 ?side2 A8.out).mono ?_); (case side1 => exact Cmp.rc (Kd.C_below HR0.out HB.out)); (case side2 => exact HC0.out); rintro e w10 ⟨v546, rfl, Fn, hb⟩; refine ⟨_, rfl, ?_⟩; have E2 := Aside0.mk (Kd.R_lower Fn (below_size (Cmp.g HB.out))); replace D2 := Cmp.be D2 hb; replace HB := Cmp.bs HB hb; (try clear hb); (try clear hb2); (try clear hk); (try clear hi); (try clear Fn)))
    (try simp only [Act.put, List.setIfInBounds_toArray, List.set_cons_zero, List.set_cons_succ])
    go_cut [41] (fun v41 wc => ∃ (kq : Nat) (Dp : Bool), v41 = .bool Dp ∧ Aside0 (impl_DecodeBundle.j1 kq Dc D5 Dp = some (r1, r2)) ∧ Aside0 (kq ≤ kj2) ∧ Aside0 (Kd.R (Kd.int .i64) 3 wc w.heap.size (fun _ => True) v546 D5) ∧ Aside0 (wc.heap[Dd]? = some (.cells #[(.slice none 0 0)] 71 (0, 0))) ∧ Aside0 (Below w.heap.size w wc))
    case first =>
     have H := HC9.out; clear HC9
     by_cases c11 : Eo = true
     ·subst c11; rw [if_pos rfl] at H
      have H' := Aside0.mk H
      clear H
      go_wp2
      go_meet
      case rel => exact ⟨_, ((En != (l0.length : Int))), (by first | rfl | simp | simp [*]), H', ⟨by have := HJ2.out; first | omega | exact Nat.le_refl _⟩, ⟨Cmp.rr E2.out⟩, Cmp.bq D2, ⟨Cmp.g HB.out⟩⟩
     ·replace c11 := Bool.eq_false_iff.mpr c11
      subst c11
      have H1 : (impl_DecodeBundle.j1 kj2 Dc D5 true) = some (r1, r2) := by rw [if_neg (show ¬ (false = true) by decide)] at H; exact H
      clear H; have H := H1; clear H1
      have H' := Aside0.mk H
      clear H
      go_wp2
      go_meet
      case rel => exact ⟨_, (true), (by first | rfl | simp | simp [*]), H', ⟨by have := HJ2.out; first | omega | exact Nat.le_refl _⟩, ⟨Cmp.rr E2.out⟩, Cmp.bq D2, ⟨Cmp.g HB.out⟩⟩
    case rest =>
     clear HC9; (try clear c1); (try clear p2); (try clear c4); (try clear c5); (try clear c6); (try clear p6); (try clear c10); (try clear c11); (try clear Dt); (try clear Du); (try clear p2)
     obtain ⟨kq, Dp, rfl, HA, HJ8, D7, D2, HB⟩ := hcut
     cases kq with
     | zero => exact absurd HA.out (by simp [impl_DecodeBundle.j1])
     | succ kj8 =>
      have H := HA.out; clear HA
      simp only [impl_DecodeBundle.j1] at H
      by_cases c12 : Dp = true
      ·subst c12; rw [if_pos rfl] at H
       simp only [Option.some.injEq, Prod.mk.injEq] at H
       obtain ⟨rfl, rfl⟩ := H
       have Dy : wc.cell? ⟨Dd, 0, none⟩ = some (.slice none 0 0) := (blk_cell D2.out 0).trans rfl
       have E0 := blk_frozen D2.out 0
       go_wp2
       refine bodyPost_ret (results_ct rfl _ _ Dd 71 #[.slice none 0 0] (0, 0) _ rfl (Cmp.bw D2.out) Try.underlying71 rfl (by kernel_rfl)) rfl ?_
       exact ⟨_, by first | rfl | (simp [errW_none, errW_some] <;> rfl) | (simp [*, errW_none, errW_some] <;> rfl), by first | exact Kd.R_nil _ _ _ _ _ | exact Kd.N_nil _ _ _ _ _ | exact Kd.V_nil _ _ _ _ _ | exact Kd.Q_nil _ _ _ _ _ | exact Kd.S_nil _ _ _ _ _, Cmp.g HB.out⟩
      ·replace c12 := Bool.eq_false_iff.mpr c12
       subst c12
       have H1 : (impl_DecodeBundle.l0 kj8 Dc D5 0 ([] : List (S143))) = some (r1, r2) := by rw [if_neg (show ¬ (false = true) by decide)] at H; exact H
       clear H; have H := H1; clear H1
       have H' := Aside0.mk H
       clear H
       go_wp2_with (first | ((with_reducible refine gate_dst (N := 9) rfl ?_); (try (refine gate_guard (by rfl) ?_; dsimp only)); refine box_event ?hg (N := 9) ?hd (cs := #[.slice none 0 0]) (t := 71) ?hr ?_; (case hd => rfl); (case hg => rfl); (case hr => first | (go_simp; done) | (go_simp; rfl)); intro Dg hg w14 hbox hb; have D4 := Aside0.mk (hbox); have Fe := Cmp.gw hg HB; have Fc := Cmp.gw hg HB; have D9 := Cmp.nl hg D2; have Da := Cmp.ng hg D2; replace D7 := Aside0.mk (Kd.R_below (Cmp.rr D7.out) hb); replace D2 := Cmp.be D2 hb; replace HB := Cmp.bs HB hb; clear hb hbox hg; have Ff := Da.out; have Fj := D9.out; have Dz := Cmp.c0 D4; have E1 := blk_frozen D4.out 0))
       go_loopg [10] kj8 (fun kq v10 w' => ∃ (De : Int) (D3 : List (S143)) (D8 : Value), v10 = .int .i64 De ∧ Aside0 (impl_DecodeBundle.l0 kq Dc D5 De D3 = some (r1, r2)) ∧ Aside0 (kq ≤ kj8) ∧ Aside0 (Kd.R (Kd.int .i64) 3 w' w.heap.size (fun _ => True) v546 D5) ∧ Aside0 (Kd.R k143 143 w' w.heap.size (fun _ => True) D8 D3) ∧ Aside0 (w'.heap[Dd]? = some (.cells #[(.slice none 0 0)] 71 (0, 0))) ∧ Aside0 (w'.heap[Dg]? = some (.cells #[D8] 71 (0, 0))) ∧ Aside0 (Below w.heap.size w w'))
       case atStart => exact ⟨(0), (([] : List (S143))), (.slice none 0 0), (by first | rfl | simp | simp [*]), H', ⟨Nat.le_refl _⟩, ⟨by (with_reducible repeat (first | apply Kd.R_alloc | apply Kd.R_drewN | apply Kd.R_drew)); exact Kd.R_mono (Kd.R_far (p := ⟨Dg, 0, none⟩) (Kd.R_types D7.out D4.out (by decide)) (fun _ hk => hk.2) (.slice none 0 0)) (fun _ hk => trivial)⟩, ⟨by first | exact Kd.R_nil _ _ _ _ _ | exact Kd.N_nil _ _ _ _ _ | exact Kd.V_nil _ _ _ _ _ | exact Kd.Q_nil _ _ _ _ _ | exact Kd.S_nil _ _ _ _ _⟩, ⟨Cmp.bw D2.out⟩, ⟨Cmp.bw D4.out⟩, ⟨Cmp.g HB.out⟩⟩
       case round =>
        clear H'
        (try clear c1); (try clear p2); (try clear c4); (try clear c5); (try clear c6); (try clear p6); (try clear c10); (try clear c11); (try clear c12); (try clear c15); (try clear Dy); (try clear Dz); (try clear Dt); (try clear E0); (try clear E1); (try clear Du); (try clear p2); (try clear p6)
        obtain ⟨De, D3, D8, rfl, HA, HK3, D7, D1, D2, D4, HB⟩ := hrel
        cases gk with
        | zero => exact absurd HA.out (by simp [impl_DecodeBundle.l0])
        | succ k3 =>
         have H := HA.out; clear HA
         simp only [impl_DecodeBundle.l0] at H
         by_cases c17 : De < Dc
         ·rw [if_pos c17] at H; have c17b0 : decide (De < Dc) = true := decide_eq_true c17; clear c17
          obtain ⟨D6, hji18⟩ : ∃ j_ : Int, (wrap64 (4 * De)) = j_ := ⟨_, rfl⟩
          replace H : (if 0 ≤ (D6) then (if (D6) ≤ (D5.length : Int) then ((some (D5.drop ((D6) : Int).toNat : List Int)).bind fun D0 => (if 3 < (D0.length : Int) then (if (rd D0 3) > 1 then (some (([] : List (S143)), false)) else (if 0 < (D0.length : Int) then (if 1 < (D0.length : Int) then (if 2 < (D0.length : Int) then (if D3.length < 4398046511104 then (impl_DecodeBundle.l0 k3 Dc D5 (wrap64 (De + 1)) (D3 ++ [(⟨rd D0 0, rd D0 1, rd D0 2, ((rd D0 3) == 1)⟩ : S143)])) else (none)) else (none)) else (none)) else (none))) else (none))) else (none)) else (none)) = some (r1, r2) := by first | (rw [hji18] at H; exact H) | (simp only [hji18] at H ⊢; exact H)
          have hji18w : (IntKind.i64.wrap (4 * De)) = D6 := (i64_w _).trans hji18
          by_cases c19 : 0 ≤ (D6)
          ·rw [if_pos c19] at H
           have c19b0 := eq_true c19
           have c19b1 : decide (0 ≤ (D6)) = true := decide_eq_true c19; clear c19
           by_cases c20 : (D6) ≤ (D5.length : Int)
           ·rw [if_pos c20] at H
            have c20b0 := eq_true c20
            have c20b1 : decide ((D6) ≤ (D5.length : Int)) = true := decide_eq_true c20
            clear c20
            obtain ⟨D0, hy549⟩ : ∃ y_ : List Int, y_ = (D5.drop ((D6) : Int).toNat) := ⟨_, rfl⟩
            replace H : (if 3 < (D0.length : Int) then (if (rd D0 3) > 1 then (some (([] : List (S143)), false)) else (if 0 < (D0.length : Int) then (if 1 < (D0.length : Int) then (if 2 < (D0.length : Int) then (if D3.length < 4398046511104 then (impl_DecodeBundle.l0 k3 Dc D5 (wrap64 (De + 1)) (D3 ++ [(⟨rd D0 0, rd D0 1, rd D0 2, ((rd D0 3) == 1)⟩ : S143)])) else (none)) else (none)) else (none)) else (none))) else (none)) = some (r1, r2) := by first | (rw [hy549]; with_reducible exact H) | (have H2_ := (Option.bind_some _ _).symm.trans H; rw [hy549]; with_reducible exact H2_) | (have H2_ := (Option.bind_some _ _).symm.trans H; with_reducible exact H2_) | with_reducible exact H | (rw [hy549]; exact H) | exact H
            have Dn := Aside0.mk hy549; clear hy549
            by_cases c21 : 3 < (D0.length : Int)
            ·rw [if_pos c21] at H
             have c21b0 : decide (3 < (D0.length : Int)) = true := decide_eq_true c21
             have c21b1 : decide (3 < D0.length) = true := decide_eq_true (by omega)
             clear c21
             by_cases c22 : (rd D0 3) > 1
             ·rw [if_pos c22] at H; have c22b0 : decide (1 < (rd D0 3)) = true := decide_eq_true c22; clear c22
              simp only [Option.some.injEq, Prod.mk.injEq] at H
              obtain ⟨rfl, rfl⟩ := H
              obtain ⟨Dw, Ds, F3⟩ := Kd.R_slice D7.out
              subst F3
              have q23 : ((D6) : Int) ≤ ((D5.length : Int) : Int) := of_decide_eq_true Cmp.d
              obtain ⟨i023, E4, _, hsz23, _⟩ := info_parts info3
              have Dl : D5.length ≤ Ds := (Kd.R_reads' D7.out).2.1
              have Ek : Kd.C (Kd.int .i64) _ Dw D5.length D5 := (Kd.R_reads' D7.out).2.2
              have q023 : (0 : Int) ≤ ((D6) : Int) := of_decide_eq_true Cmp.d
              have Ea := cut_from (P := Try.prog) 48 3 .i64 Try.underlying48 E4 1 hsz23 Dw D5.length Ds (D6) q023 q23
              have hr23 := Kd.C_drop (m := ((D6) : Int).toNat) (c := Ds) Ek (by omega) Dl
              obtain ⟨Fo, hA23⟩ : ∃ A1, A1 = (if Ds = ((D6) : Int).toNat then Dw else (Dw : Option Addr).map (·.add (((D6) : Int).toNat * 1))) := ⟨_, rfl⟩
              obtain ⟨c23, hc23⟩ : ∃ c1, c1 = Ds - ((D6) : Int).toNat := ⟨_, rfl⟩
              have hy23 : D0.length = D5.length - ((D6) : Int).toNat := (by rw [Dn.out, List.length_drop] <;> omega)
              rw [show (D5).drop ((D6) : Int).toNat = D0 from Dn.out.symm] at hr23
              replace hr23 : Kd.C (Kd.int .i64) _ Fo D0.length D0 := (by rw [hA23]; exact hr23)
              rw [← hy23, ← hA23, ← hc23] at Ea
              have HR552 := Aside0.mk hr23
              have Ed := Aside0.mk (show D0.length ≤ c23 from by rw [hy23, hc23]; exact Nat.sub_le_sub_right Dl _)
              clear hr23 Ek Dl E4 hsz23 hc23; have KY23 := Aside0.mk hy23; have KA23 := Aside0.mk hA23; clear hy23 hA23
              have KL23 := Aside0.mk (show ((D6) : Int).toNat ≤ D5.length from by omega)
              replace q23 := eq_true q23
              have p553 : 0 ≤ (3 : Int) := (by omega)
              have q553 : 3 < (D0.length : Int) := of_decide_eq_true Cmp.d
              obtain ⟨Db, e553, Df⟩ := Kd.at_int (by repeat (first | (with_reducible exact HR552.out) | (with_reducible refine Kd.C_alloc ?_ _) | (with_reducible refine Kd.C_drewN ?_ _) | (with_reducible refine Kd.C_drew ?_) | exact HR552.out)) 3 p553 q553
              cases e553
              (try simp only [show (3 : Int).toNat = 3 from rfl, Nat.reduceMul, Nat.reduceEqDiff, Go.Addr.add, ↓reduceIte] at Df)
              have qi553 : (3 < D0.length) = True := eq_true (by omega)
              (try rw [show ((3 : Int)).toNat = 3 from rfl] at Df)
              replace p553 := eq_true p553; replace q553 := eq_true q553; have Fg := D9.out; have Fk := Da.out
              have Ep : wr.cell? ⟨Dd, 0, none⟩ = some (.slice none 0 0) := (blk_cell D2.out 0).trans rfl
              have Ev := blk_frozen D2.out 0
              go_wp2
              refine bodyPost_ret (results_ct rfl _ _ Dd 71 #[.slice none 0 0] (0, 0) _ rfl (Cmp.bw D2.out) Try.underlying71 rfl (by kernel_rfl)) rfl ?_
              exact ⟨_, by first | rfl | (simp [errW_none, errW_some] <;> rfl) | (simp only [← hji18]; first | rfl | (simp [errW_none, errW_some] <;> rfl)) | (simp [*, errW_none, errW_some] <;> rfl), by first | exact Kd.R_nil _ _ _ _ _ | exact Kd.N_nil _ _ _ _ _ | exact Kd.V_nil _ _ _ _ _ | exact Kd.Q_nil _ _ _ _ _ | exact Kd.S_nil _ _ _ _ _, Cmp.g HB.out⟩
             ·rw [if_neg c22] at H; have c22b0 : decide (1 < (rd D0 3)) = false := decide_eq_false c22; clear c22
              by_cases c27 : 0 < (D0.length : Int)
              ·rw [if_pos c27] at H
               have c27b0 : decide (0 < (D0.length : Int)) = true := decide_eq_true c27
               have c27b1 : decide (0 < D0.length) = true := decide_eq_true (by omega)
               clear c27
               by_cases c28 : 1 < (D0.length : Int)
               ·rw [if_pos c28] at H
                have c28b0 : decide (1 < (D0.length : Int)) = true := decide_eq_true c28
                have c28b1 : decide (1 < D0.length) = true := decide_eq_true (by omega)
                clear c28
                by_cases c29 : 2 < (D0.length : Int)
                ·rw [if_pos c29] at H
                 have c29b0 : decide (2 < (D0.length : Int)) = true := decide_eq_true c29
                 have c29b1 : decide (2 < D0.length) = true := decide_eq_true (by omega)
                 clear c29
                 by_cases c30 : D3.length < 4398046511104
                 ·rw [if_pos c30] at H; have LMc30 := Aside0.mk c30; clear c30
                  obtain ⟨Dv, hy558⟩ : ∃ y_ : List (S143), y_ = (D3 ++ [(⟨rd D0 0, rd D0 1, rd D0 2, ((rd D0 3) == 1)⟩ : S143)]) := ⟨_, rfl⟩
                  replace H : (impl_DecodeBundle.l0 k3 Dc D5 (wrap64 (De + 1)) Dv) = some (r1, r2) := by first | (rw [hy558]; with_reducible exact H) | (have H2_ := (Option.bind_some _ _).symm.trans H; rw [hy558]; with_reducible exact H2_) | (have H2_ := (Option.bind_some _ _).symm.trans H; with_reducible exact H2_) | with_reducible exact H | (rw [hy558]; exact H) | exact H
                  have Ee := Aside0.mk hy558; clear hy558
                  have H' := Aside0.mk H
                  clear H
                  obtain ⟨Dx, Dq, F4⟩ := Kd.R_slice D7.out
                  subst F4
                  have q31 : ((D6) : Int) ≤ ((D5.length : Int) : Int) := of_decide_eq_true Cmp.d
                  obtain ⟨i031, E5, _, hsz31, _⟩ := info_parts info3
                  have Dm : D5.length ≤ Dq := (Kd.R_reads' D7.out).2.1
                  have El : Kd.C (Kd.int .i64) _ Dx D5.length D5 := (Kd.R_reads' D7.out).2.2
                  have q031 : (0 : Int) ≤ ((D6) : Int) := of_decide_eq_true Cmp.d
                  have Eb := cut_from (P := Try.prog) 48 3 .i64 Try.underlying48 E5 1 hsz31 Dx D5.length Dq (D6) q031 q31
                  have hr31 := Kd.C_drop (m := ((D6) : Int).toNat) (c := Dq) El (by omega) Dm
                  obtain ⟨Fp, hA31⟩ : ∃ A1, A1 = (if Dq = ((D6) : Int).toNat then Dx else (Dx : Option Addr).map (·.add (((D6) : Int).toNat * 1))) := ⟨_, rfl⟩
                  obtain ⟨c31, hc31⟩ : ∃ c1, c1 = Dq - ((D6) : Int).toNat := ⟨_, rfl⟩
                  have hy31 : D0.length = D5.length - ((D6) : Int).toNat := (by rw [Dn.out, List.length_drop] <;> omega)
                  rw [show (D5).drop ((D6) : Int).toNat = D0 from Dn.out.symm] at hr31
                  replace hr31 : Kd.C (Kd.int .i64) _ Fp D0.length D0 := (by rw [hA31]; exact hr31)
                  rw [← hy31, ← hA31, ← hc31] at Eb
                  have HR552 := Aside0.mk hr31
                  have Ed := Aside0.mk (show D0.length ≤ c31 from by rw [hy31, hc31]; exact Nat.sub_le_sub_right Dm _)
                  clear hr31 El Dm E5 hsz31 hc31; have KY31 := Aside0.mk hy31; have KA31 := Aside0.mk hA31; clear hy31 hA31
                  have KL31 := Aside0.mk (show ((D6) : Int).toNat ≤ D5.length from by omega)
                  replace q31 := eq_true q31
                  have p553 : 0 ≤ (3 : Int) := (by omega)
                  have q553 : 3 < (D0.length : Int) := of_decide_eq_true Cmp.d
                  obtain ⟨Db, e553, Df⟩ := Kd.at_int (by repeat (first | (with_reducible exact HR552.out) | (with_reducible refine Kd.C_alloc ?_ _) | (with_reducible refine Kd.C_drewN ?_ _) | (with_reducible refine Kd.C_drew ?_) | exact HR552.out)) 3 p553 q553
                  cases e553
                  (try simp only [show (3 : Int).toNat = 3 from rfl, Nat.reduceMul, Nat.reduceEqDiff, Go.Addr.add, ↓reduceIte] at Df)
                  have qi553 : (3 < D0.length) = True := eq_true (by omega)
                  (try rw [show ((3 : Int)).toNat = 3 from rfl] at Df)
                  replace p553 := eq_true p553; replace q553 := eq_true q553
                  try go_wp2
                  replace D7 := Aside0.mk (Kd.R_drew D7.out); replace D1 := Aside0.mk (Kd.R_drew D1.out); replace D2 := Aside0.mk (blk_drew D2.out); replace D4 := Aside0.mk (blk_drew D4.out); replace HR552 := Aside0.mk (Kd.C_drew HR552.out); replace HB := Aside0.mk (below_drew1 HB.out)
                  have p554 : 0 ≤ (0 : Int) := (by omega)
                  have q554 : 0 < (D0.length : Int) := of_decide_eq_true Cmp.d
                  obtain ⟨Ef, e554, Dh⟩ := Kd.at_int (by repeat (first | (with_reducible exact HR552.out) | (with_reducible refine Kd.C_alloc ?_ _) | (with_reducible refine Kd.C_drewN ?_ _) | (with_reducible refine Kd.C_drew ?_) | exact HR552.out)) 0 p554 q554
                  obtain rfl : Db = Ef := (by injection e554)
                  have qi554 : (0 < D0.length) = True := eq_true (by omega)
                  (try rw [show ((0 : Int)).toNat = 0 from rfl] at Dh)
                  (try rw [Addr.add_zero'] at Dh)
                  replace p554 := eq_true p554; replace q554 := eq_true q554
                  have p555 : 0 ≤ (1 : Int) := (by omega)
                  have q555 : 1 < (D0.length : Int) := of_decide_eq_true Cmp.d
                  obtain ⟨Eg, e555, Di⟩ := Kd.at_int (by repeat (first | (with_reducible exact HR552.out) | (with_reducible refine Kd.C_alloc ?_ _) | (with_reducible refine Kd.C_drewN ?_ _) | (with_reducible refine Kd.C_drew ?_) | exact HR552.out)) 1 p555 q555
                  obtain rfl : Db = Eg := (by injection e555)
                  (try simp only [show (1 : Int).toNat = 1 from rfl, Nat.reduceMul, Nat.reduceEqDiff, Go.Addr.add, ↓reduceIte] at Di)
                  have qi555 : (1 < D0.length) = True := eq_true (by omega)
                  (try rw [show ((1 : Int)).toNat = 1 from rfl] at Di)
                  replace p555 := eq_true p555; replace q555 := eq_true q555
                  have p556 : 0 ≤ (2 : Int) := (by omega)
                  have q556 : 2 < (D0.length : Int) := of_decide_eq_true Cmp.d
                  obtain ⟨Eh, e556, Dj⟩ := Kd.at_int (by repeat (first | (with_reducible exact HR552.out) | (with_reducible refine Kd.C_alloc ?_ _) | (with_reducible refine Kd.C_drewN ?_ _) | (with_reducible refine Kd.C_drew ?_) | exact HR552.out)) 2 p556 q556
                  obtain rfl : Db = Eh := (by injection e556)
                  (try simp only [show (2 : Int).toNat = 2 from rfl, Nat.reduceMul, Nat.reduceEqDiff, Go.Addr.add, ↓reduceIte] at Dj)
                  have qi556 : (2 < D0.length) = True := eq_true (by omega)
                  (try rw [show ((2 : Int)).toNat = 2 from rfl] at Dj)
                  replace p556 := eq_true p556; replace q556 := eq_true q556
                  have p557 : 0 ≤ (3 : Int) := (by omega)
                  have q557 : 3 < (D0.length : Int) := of_decide_eq_true Cmp.d
                  obtain ⟨Ei, e557, Dk⟩ := Kd.at_int (by repeat (first | (with_reducible exact HR552.out) | (with_reducible refine Kd.C_alloc ?_ _) | (with_reducible refine Kd.C_drewN ?_ _) | (with_reducible refine Kd.C_drew ?_) | exact HR552.out)) 3 p557 q557
                  obtain rfl : Db = Ei := (by injection e557)
                  (try simp only [show (3 : Int).toNat = 3 from rfl, Nat.reduceMul, Nat.reduceEqDiff, Go.Addr.add, ↓reduceIte] at Dk)
                  have qi557 : (3 < D0.length) = True := eq_true (by omega)
                  (try rw [show ((3 : Int)).toNat = 3 from rfl] at Dk)
                  replace p557 := eq_true p557; replace q557 := eq_true q557
                  refine start_ (n := 20) (S := fun w' => w'.cell? ⟨Dg, 0, none⟩ = some (D8) ∧ w'.cell? Db = some (.int .i64 (rd D0 0)) ∧ w'.cell? ⟨Db.block, Db.off + 1, none⟩ = some (.int .i64 (rd D0 1)) ∧ w'.cell? ⟨Db.block, Db.off + 2, none⟩ = some (.int .i64 (rd D0 2)) ∧ w'.cell? ⟨Db.block, Db.off + 3, none⟩ = some (.int .i64 (rd D0 3))) (ds := [17, 19]) (Cmp.bm 0 20) (by kernel_rfl) rfl rfl ⟨(Cmp.c0 D4 :), Dh, Di, Dj, Dk⟩ (fun hHeld => ?_); refine with_tabW impl_DecodeBundle.tab14 impl_DecodeBundle.bits14 (fun HT_ HW_ => ?_)
                  generalize wr.drew = w33 at D7 D1 D2 D4 HR552 HB Dh Di Dj Dk hHeld ⊢
                  refine Cmp.pu HT_ 0 58 (Cmp.bm 1 19) ?_; refine Cmp.pu HT_ 2 60 (Cmp.bb 20 5) ?_; refine Cmp.pu HT_ 3 61 (Cmp.bb 20 13) ?_; refine Cmp.pu HT_ 5 63 (Cmp.bb 20 45) ?_; refine Cmp.pu HT_ 6 64 (Cmp.bb 20 109) ?_; refine Cmp.pu HT_ 8 66 (Cmp.bb 20 365) ?_; refine Cmp.pu HT_ 9 67 (Cmp.bb 20 877) ?_; refine Cmp.pu HT_ 11 69 (Cmp.bb 20 2925) ?_; refine Cmp.pu HT_ 12 70 (Cmp.bb 20 7021) ?_; refine Cmp.tk HT_ HW_ hHeld 1 59 (Cmp.bb 20 7023) ?_; refine Cmp.tk HT_ HW_ hHeld 4 62 (Cmp.bb 20 7039) ?_; refine Cmp.tk HT_ HW_ hHeld 7 65 (Cmp.bb 20 7167) ?_; refine Cmp.tk HT_ HW_ hHeld 10 68 (Cmp.bm 13 7) ?_; refine Cmp.tk HT_ HW_ hHeld 13 71 (Cmp.bm 14 6) ?_; refine Cmp.pu HT_ 14 72 (Cmp.bm 15 5) ?_; refine Cmp.pu HT_ 15 73 (Cmp.bm 16 4) ?_
                  refine one_ (i := 16) (N := some 74) (Cmp.bm 17 3) rfl rfl (one_of HT_.out (by kernel_rfl)) (by decide) (fun K hK => ?_)
                  refine value_ (w1 := ?_) (v := ?_) (by rfl) rfl ?_ ?_
                  rotate_left 2
                  ·go_simp
                   constructor
                   ·rfl
                   ·rfl
                  refine hK.out _ _ ⟨(blk_cell (blk_alloc D4.out _) 0).trans rfl, (World.cell?_alloc_lt _ _ _ (World.block_lt_of_cell? _ _ (hHeld.2.1))).trans (hHeld.2.1), (World.cell?_alloc_lt _ _ _ (World.block_lt_of_cell? _ _ (hHeld.2.2.1))).trans (hHeld.2.2.1), (World.cell?_alloc_lt _ _ _ (World.block_lt_of_cell? _ _ (hHeld.2.2.2.1))).trans (hHeld.2.2.2.1), (World.cell?_alloc_lt _ _ _ (World.block_lt_of_cell? _ _ (hHeld.2.2.2.2))).trans (hHeld.2.2.2.2)⟩ (fun hHeld => ?_)
                  clear hK K
                  refine norm_ (a' := ?_) ?_ ?_
                  rotate_left
                  ·show Act.put _ (some 74) _ = _
                   simp only [Act.put, Cmp.s, Cmp.z, Cmp.c, i64_w, i32_w]; rfl
                  refine last_ (i := 17) (N := some 75) (Cmp.bm 18 2) rfl rfl (one_of HT_.out (by kernel_rfl)) (by decide) (fun K hK => ?_)
                  refine Kd.R_append_step k143 (w0 := w) w.heap.size (by rfl) (.tmp 59) (.tmp 74) 69 143 (.agg #[(.int .i64 0), (.int .i64 0), (.int .i64 0), (.bool false)]) 32 rfl Try.underlying69 info143 rfl (by decide) (by omega) D8 D3 (⟨rd D0 0, rd D0 1, rd D0 2, ((rd D0 3) == 1)⟩ : S143) [.int .i64 (rd D0 0), .int .i64 (rd D0 1), .int .i64 (rd D0 2), .bool ((rd D0 3) == 1)] (fun _ => True) (fun _ => False) rfl rfl ?aP (fun _ hk => hk.elim) ?aF ?aO ?aB ?aS ?aL ?_
                  (case aP => exact k143_mkM _ _ _ (⟨rd D0 0, rd D0 1, rd D0 2, ((rd D0 3) == 1)⟩ : S143))
                  (case aB => exact (Cmp.g HB.out))
                  (case aF => exact (fun _ _ => trivial))
                  (case aO => exact (Cmp.rr D1.out))
                  (case aS => exact (below_size (Cmp.g HB.out)))
                  (case aL => have := LMc30.out; omega)
                  intro v559 w34 ho hb hg hat
                  rw [← Ee.out] at ho
                  have n0_ := Aside0.mk (Kd.R_over' (Cmp.rr D7.out) (Kd.R_typed (Cmp.rr D1.out)) (by decide) hg)
                  have n1_ := Cmp.bg D2 hg (Kd.R_ne D1.out D2.out (by decide))
                  have n2_ := Cmp.bg D4 hg (Kd.R_ne D1.out D4.out (by decide))
                  have n3_ := Aside0.mk (hb)
                  have n4_ := Aside0.mk ((show Kd.C (Kd.int .i64) w34 (some Db) D0.length D0 from by rw [Dn.out, KA31.out]; exact Kd.C_drop (m := ((D6) : Int).toNat) (c := Dq) ((Kd.R_reads' (Kd.R_over' (Cmp.rr D7.out) (Kd.R_typed (Cmp.rr D1.out)) (by decide) hg)).2.2) KL31.out ((Kd.R_reads' (Kd.R_over' (Cmp.rr D7.out) (Kd.R_typed (Cmp.rr D1.out)) (by decide) hg)).2.1)))
                  have n5_ := Aside0.mk (ho)
                  clear D7; clear D2; clear D4; clear HB; clear HR552; clear D1; have D7 := n0_; have D2 := n1_; have D4 := n2_; have HB := n3_; have HR552 := n4_; have E3 := n5_; clear n0_ n1_ n2_ n3_ n4_ n5_; clear ho hb hg hat
                  obtain ⟨E6, E8, Ej⟩ := Kd.R_slice E3.out
                  (first | subst Ej | (injection Ej with f1_ f2_ f3_; have f4_ := f1_.symm; have f5_ := f3_.symm; clear f1_ f2_ f3_; subst f4_; subst f5_))
                  refine hK.out _ _ ?_
                  clear hK K
                  refine norm_ (a' := ?_) ?_ ?_
                  rotate_left
                  ·show Act.put _ (some 75) _ = _
                   simp only [Act.put, Cmp.s, Cmp.z, Cmp.c, i64_w, i32_w]; rfl
                  refine Cmp.pu HT_ 18 76 (Cmp.bm 19 1) ?_
                  refine last_ (i := 19) (N := none) (Cmp.bm 20 0) rfl rfl (one_of HT_.out (by kernel_rfl)) (by decide) (fun K hK => ?_)
                  have hs36 : w34.cell? ⟨Dg, 0, none⟩ = some (D8) := (blk_cell D4.out 0).trans rfl
                  have hfs36 := blk_frozen D4.out 0; have hns36_0 := D9.out; have hms36_0 := Da.out
                  refine skip_ (w1 := ?_) (by rfl) rfl ?_ ?_
                  rotate_left
                  ·go_simp; rfl
                  refine hK.out _ _ ?_
                  clear hK K
                  refine done_ (done_of HT_.out (by kernel_rfl)) ?_
                  try go_wp2
                  go_roundg k3
                  case measure => have := HJ2.out; have := HJ8.out; have := HK3.out; omega
                  case rel => exact ⟨(wrap64 (De + 1)), (Dv), (.slice E6 Dv.length E8), (by first | rfl | simp | simp [*]), H', ⟨by have := HJ2.out; have := HJ8.out; have := HK3.out; omega⟩, ⟨by (with_reducible repeat (first | apply Kd.R_alloc | apply Kd.R_drewN | apply Kd.R_drew)); exact Kd.R_mono (Kd.R_far (p := ⟨Dg, 0, none⟩) (Kd.R_types D7.out D4.out (by decide)) (fun _ hk => hk.2) (.slice E6 Dv.length E8)) (fun _ hk => trivial)⟩, ⟨by (with_reducible repeat (first | apply Kd.R_alloc | apply Kd.R_drewN | apply Kd.R_drew)); exact Kd.R_mono (Kd.R_far (p := ⟨Dg, 0, none⟩) (Kd.R_types E3.out D4.out (by decide)) (fun _ hk => hk.2) (.slice E6 Dv.length E8)) (fun _ hk => trivial)⟩, ⟨Cmp.bw D2.out⟩, ⟨Cmp.bw D4.out⟩, ⟨Cmp.g HB.out⟩⟩
                 ·rw [if_neg c30] at H; exact absurd H (by simp)
                ·rw [if_neg c29] at H; exact absurd H (by simp)
               ·rw [if_neg c28] at H; exact absurd H (by simp)
              ·rw [if_neg c27] at H; exact absurd H (by simp)
            ·rw [if_neg c21] at H; exact absurd H (by simp)
           ·rw [if_neg c20] at H; exact absurd H (by simp)
          ·rw [if_neg c19] at H; exact absurd H (by simp)
         ·rw [if_neg c17] at H; have c17b0 : decide (De < Dc) = false := decide_eq_false c17; clear c17; replace H := Option.bind_eq_some_iff.mp H; obtain ⟨F7, Ec, H⟩ := H; (try dsimp only at H); have F9 := Aside0.mk Ec; clear Ec
          by_cases c38 : F7 = true
          ·subst c38; rw [if_pos rfl] at H
           simp only [Option.some.injEq, Prod.mk.injEq] at H
           obtain ⟨rfl, rfl⟩ := H; have Fh := Da.out; have Fl := D9.out
           have Eq : wr.cell? ⟨Dg, 0, none⟩ = some (D8) := (blk_cell D4.out 0).trans rfl
           have Ew := blk_frozen D4.out 0
           obtain ⟨E7, E9, F5⟩ := Kd.R_slice D1.out
           subst F5
           go_wp2_with (first | ((with_reducible refine gate_callee (f := 91) rfl ?_); refine goesL_ (some 78) rfl rfl Try.func91 (by kernel_rfl) rfl #[.agg #[.slice E7 D3.length E9]] rfl Cmp.q ?_; (with_reducible refine (impl_IsBundle.calls k3 _ _ D3 true _ ?side1 ?side2 F9.out).mono ?_); (case side1 => exact Cmp.rc (Kd.R_reads' D1.out).2.2); (case side2 => exact (Kd.R_reads' D1.out).2.1); rintro e w42 ⟨rfl, hb⟩; refine ⟨_, rfl, ?_⟩; replace D7 := Aside0.mk (Kd.R_below (Cmp.rr D7.out) hb); replace D1 := Aside0.mk (Kd.R_below (Cmp.rr D1.out) hb); replace D2 := Cmp.be D2 hb; replace D4 := Cmp.be D4 hb; replace HB := Cmp.bs HB hb; (try clear hb); (try clear hb2); (try clear hk); (try clear hi); have Er := Cmp.c0 D4; have Ex := blk_frozen D4.out 0; have Es := Cmp.c0 D2; have Ey := blk_frozen D2.out 0))
           refine bodyPost_ret (results_ct rfl _ _ Dd 71 #[.slice E7 D3.length E9] (0, 0) _ rfl (Cmp.bw D2.out) Try.underlying71 rfl (by kernel_rfl)) rfl ?_
           exact ⟨_, by first | rfl | (simp [errW_none, errW_some] <;> rfl) | (simp [*, errW_none, errW_some] <;> rfl), by (with_reducible repeat (first | apply Kd.R_alloc | apply Kd.R_drewN | apply Kd.R_drew)); exact Kd.R_mono (Kd.R_far (p := ⟨Dd, 0, none⟩) (Kd.R_types D1.out D2.out (by decide)) (fun _ hk => hk.2) (.slice E7 D3.length E9)) (fun _ hk => trivial), Cmp.g HB.out⟩
          ·replace c38 := Bool.eq_false_iff.mpr c38
           subst c38
           have H1 : (some (([] : List (S143)), false)) = some (r1, r2) := by rw [if_neg (show ¬ (false = true) by decide)] at H; exact H
           clear H; have H := H1; clear H1
           simp only [Option.some.injEq, Prod.mk.injEq] at H
           obtain ⟨rfl, rfl⟩ := H; have Fi := Da.out; have Fm := D9.out
           have Et : wr.cell? ⟨Dg, 0, none⟩ = some (D8) := (blk_cell D4.out 0).trans rfl
           have Ez := blk_frozen D4.out 0
           obtain ⟨F1, F2, F6⟩ := Kd.R_slice D1.out
           subst F6
           go_wp2_with (first | ((with_reducible refine gate_callee (f := 91) rfl ?_); refine goesL_ (some 78) rfl rfl Try.func91 (by kernel_rfl) rfl #[.agg #[.slice F1 D3.length F2]] rfl Cmp.q ?_; (with_reducible refine (impl_IsBundle.calls k3 _ _ D3 false _ ?side1 ?side2 F9.out).mono ?_); (case side1 => exact Cmp.rc (Kd.R_reads' D1.out).2.2); (case side2 => exact (Kd.R_reads' D1.out).2.1); rintro e w48 ⟨rfl, hb⟩; refine ⟨_, rfl, ?_⟩; replace D7 := Aside0.mk (Kd.R_below (Cmp.rr D7.out) hb); replace D1 := Aside0.mk (Kd.R_below (Cmp.rr D1.out) hb); replace D2 := Cmp.be D2 hb; replace D4 := Cmp.be D4 hb; replace HB := Cmp.bs HB hb; (try clear hb); (try clear hb2); (try clear hk); (try clear hi); have Eu := Cmp.c0 D2; have F0 := blk_frozen D2.out 0))
           refine bodyPost_ret (results_ct rfl _ _ Dd 71 #[.slice none 0 0] (0, 0) _ rfl (Cmp.bw D2.out) Try.underlying71 rfl (by kernel_rfl)) rfl ?_
           exact ⟨_, by first | rfl | (simp [errW_none, errW_some] <;> rfl) | (simp [*, errW_none, errW_some] <;> rfl), by first | exact Kd.R_nil _ _ _ _ _ | exact Kd.N_nil _ _ _ _ _ | exact Kd.V_nil _ _ _ _ _ | exact Kd.Q_nil _ _ _ _ _ | exact Kd.S_nil _ _ _ _ _, Cmp.g HB.out⟩

end Go.Proofs.Ytgcipecdaimjfaa.PFnFresher

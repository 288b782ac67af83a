/- Printed functions of the program, out of print.sh, told more shortly. No condition. -/
import Derived.Test.YtpgjecknkmmnhaaCmp
import Derived.Test.YtpgjecknkmmnhaaPFnSealedBundlesx0
import Derived.Test.YtpgjecknkmmnhaaPFnSealedBundlesx10
import Derived.Test.YtpgjecknkmmnhaaPFnSealedBundlesx11
import Derived.Test.YtpgjecknkmmnhaaPFnSealedBundlesx12
import Derived.Test.YtpgjecknkmmnhaaPFnSealedBundlesx19
namespace Go.Proofs.Ytpgjecknkmmnhaa.PFnSealedBundles
open Go.Proofs.Ytpgjecknkmmnhaa
open Go.RowKit Go.Proofs.YtpgjecknkmmnhaaW.PrintWords Go.Proofs.YtpgjecknkmmnhaaW.PrintLast Go.Proofs.YtpgjecknkmmnhaaW.PrintMore
attribute [local go_sem] max2_int min2_int max_two min_two max_three min_three max_four min_four   -- for this text's walks alone
set_option linter.unusedVariables false
set_option linter.unusedSimpArgs false
/-! ### impl_DecodeBundle: function 24 -/
mutual
def impl_DecodeBundle.j0 : Nat → List Int → Int → Int → Bool → Option ((List (S94)) × Bool)
  | 0, _, _, _, _ => none
  | k + 1, x0, x4, x5, x23 => if x23 = true then (some (([] : List (S94)), false)) else ((impl_DecodeInts.f k x0 x5 (wrap64 (4 * x4))).bind fun bt614 => (if bt614.2.2 = true then (impl_DecodeBundle.j1 k x4 bt614.1 (bt614.2.1 != (x0.length : Int))) else (impl_DecodeBundle.j1 k x4 bt614.1 true)))
def impl_DecodeBundle.j1 : Nat → Int → List Int → Bool → Option ((List (S94)) × Bool)
  | 0, _, _, _ => none
  | k + 1, x4, x7, x41 => if x41 = true then (some (([] : List (S94)), false)) else (impl_DecodeBundle.l0 k x4 x7 0 ([] : List (S94)))
def impl_DecodeBundle.l0 : Nat → Int → List Int → Int → List (S94) → Option ((List (S94)) × Bool)
  | 0, _, _, _, _ => none
  | k + 1, x4, x7, x10, x620000 => if x10 < x4 then (if 0 ≤ (wrap64 (4 * x10)) then (if (wrap64 (4 * x10)) ≤ (x7.length : Int) then ((some (x7.drop ((wrap64 (4 * x10)) : Int).toNat : List Int)).bind fun y620 => (if 3 < (y620.length : Int) then (if (rd y620 3) > 1 then (some (([] : List (S94)), false)) else (if 0 < (y620.length : Int) then (if 1 < (y620.length : Int) then (if 2 < (y620.length : Int) then (if x620000.length < 4398046511104 then (impl_DecodeBundle.l0 k x4 x7 (wrap64 (x10 + 1)) (x620000 ++ [(⟨rd y620 0, rd y620 1, rd y620 2, ((rd y620 3) == 1)⟩ : S94)])) else (none)) else (none)) else (none)) else (none))) else (none))) else (none)) else (none)) else ((impl_IsBundle.f k x620000).bind fun t632 => (if t632 = true then (some (x620000, true)) else (some (([] : List (S94)), false))))
end
def impl_DecodeBundle.f (k : Nat) (l0 : List Int) : Option ((List (S94)) × Bool) := (impl_ReadUvarint.f k l0 0).bind fun bt611 => (if bt611.2.2 = true then (impl_DecodeBundle.j0 k l0 bt611.1 bt611.2.1 (decide (bt611.1 > 20))) else (impl_DecodeBundle.j0 k l0 bt611.1 bt611.2.1 true))
theorem impl_DecodeBundle.mono_l : ∀ k, (∀ y0 y1 y2 y3, LeO (impl_DecodeBundle.j0 k y0 y1 y2 y3) (impl_DecodeBundle.j0 (k + 1) y0 y1 y2 y3)) ∧ (∀ y0 y1 y2, LeO (impl_DecodeBundle.j1 k y0 y1 y2) (impl_DecodeBundle.j1 (k + 1) y0 y1 y2)) ∧ (∀ y0 y1 y2 y3, LeO (impl_DecodeBundle.l0 k y0 y1 y2 y3) (impl_DecodeBundle.l0 (k + 1) y0 y1 y2 y3))
 | 0 => ⟨fun _ _ _ _ r h => by simp [impl_DecodeBundle.j0] at h, fun _ _ _ r h => by simp [impl_DecodeBundle.j1] at h, fun _ _ _ _ r h => by simp [impl_DecodeBundle.l0] at h⟩
 | k + 1 => by
    obtain ⟨ih0, ih1, ih2⟩ := impl_DecodeBundle.mono_l k
    refine ⟨?_, ?_, ?_⟩
    · intro y0 y1 y2 y3
      unfold impl_DecodeBundle.j0
      repeat' first
 | (with_reducible exact ih0 _ _ _ _)
 | (with_reducible exact ih1 _ _ _)
 | (with_reducible exact ih2 _ _ _ _)
 | (with_reducible exact impl_DecodeInts.mono _ _ _ _)
 | (with_reducible exact impl_IsBundle.mono _ _)
 | (with_reducible exact impl_ReadUvarint.mono _ _ _)
 | (with_reducible exact LeO.refl _)
 | (with_reducible exact LeO.none _)
 | (with_reducible refine LeO.ite ?_ ?_)
 | (with_reducible refine LeO.bind ?_ (fun _ => ?_))
    · intro y0 y1 y2
      unfold impl_DecodeBundle.j1
      repeat' first
 | (with_reducible exact ih0 _ _ _ _)
 | (with_reducible exact ih1 _ _ _)
 | (with_reducible exact ih2 _ _ _ _)
 | (with_reducible exact impl_DecodeInts.mono _ _ _ _)
 | (with_reducible exact impl_IsBundle.mono _ _)
 | (with_reducible exact impl_ReadUvarint.mono _ _ _)
 | (with_reducible exact LeO.refl _)
 | (with_reducible exact LeO.none _)
 | (with_reducible refine LeO.ite ?_ ?_)
 | (with_reducible refine LeO.bind ?_ (fun _ => ?_))
    · intro y0 y1 y2 y3
      unfold impl_DecodeBundle.l0
      repeat' first
 | (with_reducible exact ih0 _ _ _ _)
 | (with_reducible exact ih1 _ _ _)
 | (with_reducible exact ih2 _ _ _ _)
 | (with_reducible exact impl_DecodeInts.mono _ _ _ _)
 | (with_reducible exact impl_IsBundle.mono _ _)
 | (with_reducible exact impl_ReadUvarint.mono _ _ _)
 | (with_reducible exact LeO.refl _)
 | (with_reducible exact LeO.none _)
 | (with_reducible refine LeO.ite ?_ ?_)
 | (with_reducible refine LeO.bind ?_ (fun _ => ?_))
theorem impl_DecodeBundle.mono : ∀ a0 k, LeO (impl_DecodeBundle.f k a0) (impl_DecodeBundle.f (k + 1) a0) := by
  intro a0 k
  obtain ⟨ih0, ih1, ih2⟩ := impl_DecodeBundle.mono_l k
  unfold impl_DecodeBundle.f
  repeat' first
 | (with_reducible exact ih0 _ _ _ _)
 | (with_reducible exact ih1 _ _ _)
 | (with_reducible exact ih2 _ _ _ _)
 | (with_reducible exact impl_DecodeInts.mono _ _ _ _)
 | (with_reducible exact impl_IsBundle.mono _ _)
 | (with_reducible exact impl_ReadUvarint.mono _ _ _)
 | (with_reducible exact LeO.refl _)
 | (with_reducible exact LeO.none _)
 | (with_reducible refine LeO.ite ?_ ?_)
 | (with_reducible refine LeO.bind ?_ (fun _ => ?_))
def impl_DecodeBundle.T14 : Bool × List (List Nat × List Nat) := (true, [([], []), ([0], [0]), ([], []), ([2], [2]), ([3], [3]), ([], []), ([5], [5]), ([6], [6]), ([], []), ([8], [8]), ([9], [9]), ([], []), ([11], [11]), ([12], [12]), ([13], [13]), ([4, 7, 10, 14], [4, 7, 10, 14]), ([15], [15]), ([1, 16], [1, 16]), ([0, 1, 2, 3, 4, 5, 6, 7, 8, 9, 10, 11, 12, 13, 14, 15, 16, 17], []), ([18, 17, 17, 0, 1, 2, 3, 4, 5, 6, 7, 8, 9, 10, 11, 12, 13, 14, 15, 16, 17], [17, 18])])
def impl_DecodeBundle.B14 : List Nat := [0, 1, 0, 4, 12, 0, 32, 96, 0, 256, 768, 0, 2048, 6144, 14336, 32764, 65532, 131071, 262143, 524287]
theorem impl_DecodeBundle.tab14 : rtab .any (opsOf Try.f24 14) = impl_DecodeBundle.T14 := by kernel_rfl
theorem impl_DecodeBundle.bits14 : waitsOk impl_DecodeBundle.T14.2 impl_DecodeBundle.B14 = true := by kernel_rfl
set_option maxHeartbeats 8000000 in
set_option maxRecDepth 100000 in
theorem impl_DecodeBundle.calls (k : Nat) (A0 : Option Addr) (c0 : Nat) (l0 : List Int) (r1 : List (S94)) (r2 : Bool) (w : World) (hr0 : Kd.C (Kd.int .u8) w A0 l0.length l0) (hc0 : l0.length ≤ c0) (h : impl_DecodeBundle.f k l0 = some (r1, r2)) :
    Calls Try.prog 24 #[.slice A0 l0.length c0] w fun e w' => ∃ v0_ : Value, e = .returned (.tuple #[.agg #[v0_], .bool r2]) ∧ Kd.R k94 94 w' w.heap.size (fun _ => True) v0_ r1 ∧ Below w.heap.size w w' := by
 have hu45 := Try.underlying45; have hu94 := Try.underlying94; have HR0 := Cmp.A hr0; have HC0 := Cmp.A hc0; clear hr0 hc0
 have HB := Cmp.A (Below.refl w.heap.size w)
 have H : ((impl_ReadUvarint.f k l0 0).bind fun bt611 => (if bt611.2.2 = true then (impl_DecodeBundle.j0 k l0 bt611.1 bt611.2.1 (decide (bt611.1 > 20))) else (impl_DecodeBundle.j0 k l0 bt611.1 bt611.2.1 true))) = some (r1, r2) := h
 clear h; replace H := Option.bind_eq_some_iff.mp H; obtain ⟨⟨Dc, Dr, Em⟩, F8, H⟩ := H; (try dsimp only at H); have A2 := Cmp.A F8; clear F8; have HC3 := Cmp.A H; clear H
 go_enter Try.func24, Try.ntmps24
 go_upto_region 2 with (first | ((with_reducible refine gate_dst (N := 2) rfl ?_); (try (refine gate_guard (by rfl) ?_; dsimp only)); refine box_event ?hg (N := 2) ?hd (cs := #[.slice none 0 0]) (t := 45) ?hr ?_; (case hd => rfl); (case hg => rfl); (case hr => first | (go_simp; done) | (go_simp; rfl)); intro Dd hg w4 hbox hb; have D2 := Cmp.A (hbox); have Fd := Cmp.gw hg HB; have Fb := Cmp.gw hg HB; replace HB := Cmp.bs HB hb; clear hb hbox hg) | ((with_reducible refine gate_callee (f := 72) rfl ?_); refine goesL_ (some 14) rfl rfl Try.func72 (by kernel_rfl) rfl #[.slice A0 l0.length c0, .int .i64 0] rfl Cmp.q ?_; (with_reducible refine (impl_ReadUvarint.calls k _ _ l0 0 Dc Dr Em _ ?side1 ?side2 A2.out).mono ?_); (case side1 => exact Cmp.rc (Kd.C_below HR0.out HB.out)); (case side2 => exact HC0.out); rintro e w' ⟨rfl, ⟨nd, rfl⟩⟩; refine ⟨_, rfl, ?_⟩))
 (try simp only [Act.put, List.setIfInBounds_toArray, List.set_cons_zero, List.set_cons_succ])
 go_cut [23] (fun v23 wc => ∃ (kq : Nat) (Do : Bool), v23 = .bool Do ∧ Aside0 (impl_DecodeBundle.j0 kq l0 Dc Dr Do = some (r1, r2)) ∧ Aside0 (kq ≤ k) ∧ Aside0 (wc.heap[Dd]? = some (.cells #[(.slice none 0 0)] 45 (0, 0))) ∧ Aside0 (Below w.heap.size w wc))
 case first =>
  have H := HC3.out; clear HC3
  by_cases c5 : Em = true
  ·subst c5; rw [if_pos rfl] at H
   have H' := Cmp.A H
   clear H
   go_wp2
   go_meet
   case rel => exact ⟨_, (decide (Dc > 20)), (by first | rfl | simp | simp [*]), H', ⟨by first | omega | exact Nat.le_refl _⟩, Cmp.bq D2, ⟨Cmp.g HB.out⟩⟩
  ·replace c5 := Bool.eq_false_iff.mpr c5
   subst c5
   have H1 : (impl_DecodeBundle.j0 k l0 Dc Dr true) = some (r1, r2) := by rw [if_neg (show ¬ (false = true) by decide)] at H; exact H
   clear H; have H := H1; clear H1
   have H' := Cmp.A H
   clear H
   go_wp2
   go_meet
   case rel => exact ⟨_, (true), (by first | rfl | simp | simp [*]), H', ⟨by first | omega | exact Nat.le_refl _⟩, Cmp.bq D2, ⟨Cmp.g HB.out⟩⟩
 case rest =>
  clear HC3; (try clear c2); (try clear p2); (try clear c5)
  obtain ⟨kq, Do, rfl, HA, HJ2, D2, HB⟩ := hcut
  cases kq with
  | zero => exact absurd HA.out (by simp [impl_DecodeBundle.j0])
  | succ kj2 =>
   have H := HA.out; clear HA
   simp only [impl_DecodeBundle.j0] at H
   by_cases c6 : Do = true
   ·subst c6; rw [if_pos rfl] at H
    simp only [Option.some.injEq, Prod.mk.injEq] at H
    obtain ⟨rfl, rfl⟩ := H
    have Dt : wc.cell? ⟨Dd, 0, none⟩ = some (.slice none 0 0) := (blk_cell D2.out 0).trans rfl
    have Du := blk_frozen D2.out 0
    go_wp2
    refine bodyPost_ret (results_ct rfl _ _ Dd 45 #[.slice none 0 0] (0, 0) _ rfl (Cmp.bw D2.out) Try.underlying45 rfl (by kernel_rfl)) rfl ?_
    exact ⟨_, by first | rfl | (simp [errW_none, errW_some] <;> rfl) | (simp [*, errW_none, errW_some] <;> rfl), by first | exact Kd.R_nil _ _ _ _ _ | exact Kd.N_nil _ _ _ _ _ | exact Kd.V_nil _ _ _ _ _ | exact Kd.Q_nil _ _ _ _ _ | exact Kd.S_nil _ _ _ _ _, Cmp.g HB.out⟩
   ·replace c6 := Bool.eq_false_iff.mpr c6
    subst c6
    have H1 : ((impl_DecodeInts.f kj2 l0 Dr (wrap64 (4 * Dc))).bind fun bt614 => (if bt614.2.2 = true then (impl_DecodeBundle.j1 kj2 Dc bt614.1 (bt614.2.1 != (l0.length : Int))) else (impl_DecodeBundle.j1 kj2 Dc bt614.1 true))) = some (r1, r2) := by rw [if_neg (show ¬ (false = true) by decide)] at H; exact H
    clear H; have H := H1; clear H1; replace H := Option.bind_eq_some_iff.mp H; obtain ⟨⟨D5, En, Eo⟩, Fa, H⟩ := H; (try dsimp only at H); have A8 := Cmp.A Fa; clear Fa; have HC9 := Cmp.A H; clear H
    go_upto_region 5 with (first | ((with_reducible refine gate_callee (f := 73) rfl ?_); refine goesL_ (some 30) rfl rfl Try.func73 (by kernel_rfl) rfl #[.slice A0 l0.length c0, .int .i64 Dr, .int .i64 (wrap64 (4 * Dc))] rfl Cmp.q ?_; (with_reducible refine (impl_DecodeInts.calls kj2 _ _ l0 Dr (wrap64 (4 * Dc)) D5 En Eo _ ?side1 ?side2 A8.out).mono ?_); (case side1 => exact Cmp.rc (Kd.C_below HR0.out HB.out)); (case side2 => exact HC0.out); rintro e w10 ⟨v617, rfl, Fn, hb⟩; refine ⟨_, rfl, ?_⟩; have E2 := Cmp.A (Kd.R_lower Fn (below_size (Cmp.g HB.out))); replace D2 := Cmp.be D2 hb; replace HB := Cmp.bs HB hb; (try clear hb); (try clear hb2); (try clear hk); (try clear hi); (try clear Fn)))
    (try simp only [Act.put, List.setIfInBounds_toArray, List.set_cons_zero, List.set_cons_succ])
    go_cut [41] (fun v41 wc => ∃ (kq : Nat) (Dp : Bool), v41 = .bool Dp ∧ Aside0 (impl_DecodeBundle.j1 kq Dc D5 Dp = some (r1, r2)) ∧ Aside0 (kq ≤ kj2) ∧ Aside0 (Kd.R (Kd.int .i64) 3 wc w.heap.size (fun _ => True) v617 D5) ∧ Aside0 (wc.heap[Dd]? = some (.cells #[(.slice none 0 0)] 45 (0, 0))) ∧ Aside0 (Below w.heap.size w wc))
    case first =>
     have H := HC9.out; clear HC9
     by_cases c11 : Eo = true
     ·subst c11; rw [if_pos rfl] at H
      have H' := Cmp.A H
      clear H
      go_wp2
      go_meet
      case rel => exact ⟨_, ((En != (l0.length : Int))), (by first | rfl | simp | simp [*]), H', ⟨by have := HJ2.out; first | omega | exact Nat.le_refl _⟩, ⟨Cmp.rr E2.out⟩, Cmp.bq D2, ⟨Cmp.g HB.out⟩⟩
     ·replace c11 := Bool.eq_false_iff.mpr c11
      subst c11
      have H1 : (impl_DecodeBundle.j1 kj2 Dc D5 true) = some (r1, r2) := by rw [if_neg (show ¬ (false = true) by decide)] at H; exact H
      clear H; have H := H1; clear H1
      have H' := Cmp.A H
      clear H
      go_wp2
      go_meet
      case rel => exact ⟨_, (true), (by first | rfl | simp | simp [*]), H', ⟨by have := HJ2.out; first | omega | exact Nat.le_refl _⟩, ⟨Cmp.rr E2.out⟩, Cmp.bq D2, ⟨Cmp.g HB.out⟩⟩
    case rest =>
     clear HC9; (try clear c1); (try clear c2); (try clear p2); (try clear c5); (try clear c6); (try clear p6); (try clear c7); (try clear c11); (try clear Dt); (try clear Du); (try clear p2)
     obtain ⟨kq, Dp, rfl, HA, HJ8, D7, D2, HB⟩ := hcut
     cases kq with
     | zero => exact absurd HA.out (by simp [impl_DecodeBundle.j1])
     | succ kj8 =>
      have H := HA.out; clear HA
      simp only [impl_DecodeBundle.j1] at H
      by_cases c12 : Dp = true
      ·subst c12; rw [if_pos rfl] at H
       simp only [Option.some.injEq, Prod.mk.injEq] at H
       obtain ⟨rfl, rfl⟩ := H
       have Dy : wc.cell? ⟨Dd, 0, none⟩ = some (.slice none 0 0) := (blk_cell D2.out 0).trans rfl
       have E0 := blk_frozen D2.out 0
       go_wp2
       refine bodyPost_ret (results_ct rfl _ _ Dd 45 #[.slice none 0 0] (0, 0) _ rfl (Cmp.bw D2.out) Try.underlying45 rfl (by kernel_rfl)) rfl ?_
       exact ⟨_, by first | rfl | (simp [errW_none, errW_some] <;> rfl) | (simp [*, errW_none, errW_some] <;> rfl), by first | exact Kd.R_nil _ _ _ _ _ | exact Kd.N_nil _ _ _ _ _ | exact Kd.V_nil _ _ _ _ _ | exact Kd.Q_nil _ _ _ _ _ | exact Kd.S_nil _ _ _ _ _, Cmp.g HB.out⟩
      ·replace c12 := Bool.eq_false_iff.mpr c12
       subst c12
       have H1 : (impl_DecodeBundle.l0 kj8 Dc D5 0 ([] : List (S94))) = some (r1, r2) := by rw [if_neg (show ¬ (false = true) by decide)] at H; exact H
       clear H; have H := H1; clear H1
       have H' := Cmp.A H
       clear H
       go_wp2_with (first | ((with_reducible refine gate_dst (N := 9) rfl ?_); (try (refine gate_guard (by rfl) ?_; dsimp only)); refine box_event ?hg (N := 9) ?hd (cs := #[.slice none 0 0]) (t := 45) ?hr ?_; (case hd => rfl); (case hg => rfl); (case hr => first | (go_simp; done) | (go_simp; rfl)); intro Dg hg w14 hbox hb; have D4 := Cmp.A (hbox); have Fe := Cmp.gw hg HB; have Fc := Cmp.gw hg HB; have D9 := Cmp.nl hg D2; have Da := Cmp.ng hg D2; replace D7 := Cmp.A (Kd.R_below (Cmp.rr D7.out) hb); replace D2 := Cmp.be D2 hb; replace HB := Cmp.bs HB hb; clear hb hbox hg; have Ff := Da.out; have Fj := D9.out; have Dz := Cmp.c0 D4; have E1 := blk_frozen D4.out 0))
       go_loopg [10] kj8 (fun kq v10 w' => ∃ (De : Int) (D3 : List (S94)) (D8 : Value), v10 = .int .i64 De ∧ Aside0 (impl_DecodeBundle.l0 kq Dc D5 De D3 = some (r1, r2)) ∧ Aside0 (kq ≤ kj8) ∧ Aside0 (Kd.R (Kd.int .i64) 3 w' w.heap.size (fun _ => True) v617 D5) ∧ Aside0 (Kd.R k94 94 w' w.heap.size (fun _ => True) D8 D3) ∧ Aside0 (w'.heap[Dd]? = some (.cells #[(.slice none 0 0)] 45 (0, 0))) ∧ Aside0 (w'.heap[Dg]? = some (.cells #[D8] 45 (0, 0))) ∧ Aside0 (Below w.heap.size w w'))
       case atStart => exact ⟨(0), (([] : List (S94))), (.slice none 0 0), (by first | rfl | simp | simp [*]), H', ⟨Nat.le_refl _⟩, ⟨Cmp.rm (Kd.R_far (p := ⟨Dg, 0, none⟩) (Kd.R_types D7.out D4.out (by decide)) (fun _ hk => hk.2) (.slice none 0 0)) (fun _ hk => trivial)⟩, ⟨by first | exact Kd.R_nil _ _ _ _ _ | exact Kd.N_nil _ _ _ _ _ | exact Kd.V_nil _ _ _ _ _ | exact Kd.Q_nil _ _ _ _ _ | exact Kd.S_nil _ _ _ _ _⟩, ⟨Cmp.bw D2.out⟩, ⟨Cmp.bw D4.out⟩, ⟨Cmp.g HB.out⟩⟩
       case round =>
        clear H'
        (try clear c1); (try clear c2); (try clear p2); (try clear c5); (try clear c6); (try clear p6); (try clear c7); (try clear c11); (try clear c12); (try clear c15); (try clear Dy); (try clear Dz); (try clear Dt); (try clear E0); (try clear E1); (try clear Du); (try clear p2); (try clear p6)
        obtain ⟨De, D3, D8, rfl, HA, HK3, D7, D1, D2, D4, HB⟩ := hrel
        cases gk with
        | zero => exact absurd HA.out (by simp [impl_DecodeBundle.l0])
        | succ k3 =>
         have H := HA.out; clear HA
         simp only [impl_DecodeBundle.l0] at H
         by_cases c17 : De < Dc
         ·rw [if_pos c17] at H; have c17b0 : decide (De < Dc) = true := decide_eq_true c17; clear c17
          obtain ⟨D6, hji18⟩ : ∃ j_ : Int, (wrap64 (4 * De)) = j_ := ⟨_, rfl⟩
          replace H : (if 0 ≤ (D6) then (if (D6) ≤ (D5.length : Int) then ((some (D5.drop ((D6) : Int).toNat : List Int)).bind fun D0 => (if 3 < (D0.length : Int) then (if (rd D0 3) > 1 then (some (([] : List (S94)), false)) else (if 0 < (D0.length : Int) then (if 1 < (D0.length : Int) then (if 2 < (D0.length : Int) then (if D3.length < 4398046511104 then (impl_DecodeBundle.l0 k3 Dc D5 (wrap64 (De + 1)) (D3 ++ [(⟨rd D0 0, rd D0 1, rd D0 2, ((rd D0 3) == 1)⟩ : S94)])) else (none)) else (none)) else (none)) else (none))) else (none))) else (none)) else (none)) = some (r1, r2) := by first | (rw [hji18] at H; exact H) | (simp only [hji18] at H ⊢; exact H)
          have hji18w : (IntKind.i64.wrap (4 * De)) = D6 := (i64_w _).trans hji18
          by_cases c19 : 0 ≤ (D6)
          ·rw [if_pos c19] at H
           have c19b0 := eq_true c19
           have c19b1 : decide (0 ≤ (D6)) = true := decide_eq_true c19; clear c19
           by_cases c20 : (D6) ≤ (D5.length : Int)
           ·rw [if_pos c20] at H
            have c20b0 := eq_true c20
            have c20b1 : decide ((D6) ≤ (D5.length : Int)) = true := decide_eq_true c20
            clear c20
            obtain ⟨D0, hy620⟩ : ∃ y_ : List Int, y_ = (D5.drop ((D6) : Int).toNat) := ⟨_, rfl⟩
            replace H : (if 3 < (D0.length : Int) then (if (rd D0 3) > 1 then (some (([] : List (S94)), false)) else (if 0 < (D0.length : Int) then (if 1 < (D0.length : Int) then (if 2 < (D0.length : Int) then (if D3.length < 4398046511104 then (impl_DecodeBundle.l0 k3 Dc D5 (wrap64 (De + 1)) (D3 ++ [(⟨rd D0 0, rd D0 1, rd D0 2, ((rd D0 3) == 1)⟩ : S94)])) else (none)) else (none)) else (none)) else (none))) else (none)) = some (r1, r2) := Cmp.hy hy620 H
            have Dn := Cmp.A hy620; clear hy620
            by_cases c21 : 3 < (D0.length : Int)
            ·rw [if_pos c21] at H
             have c21b0 : decide (3 < (D0.length : Int)) = true := decide_eq_true c21
             have c21b1 : decide (3 < D0.length) = true := decide_eq_true (by omega)
             clear c21
             by_cases c22 : (rd D0 3) > 1
             ·rw [if_pos c22] at H; have c22b0 : decide (1 < (rd D0 3)) = true := decide_eq_true c22; clear c22
              simp only [Option.some.injEq, Prod.mk.injEq] at H
              obtain ⟨rfl, rfl⟩ := H
              obtain ⟨Dw, Ds, F3⟩ := Kd.R_slice D7.out
              subst F3
              have q23 : ((D6) : Int) ≤ ((D5.length : Int) : Int) := of_decide_eq_true Cmp.d
              obtain ⟨i023, E4, _, hsz23, _⟩ := info_parts info3
              have Dl : D5.length ≤ Ds := (Kd.R_reads' D7.out).2.1
              have Ek : Kd.C (Kd.int .i64) _ Dw D5.length D5 := (Kd.R_reads' D7.out).2.2
              have q023 : (0 : Int) ≤ ((D6) : Int) := of_decide_eq_true Cmp.d
              have Ea := cut_from (P := Try.prog) 32 3 .i64 Try.underlying32 E4 1 hsz23 Dw D5.length Ds (D6) q023 q23
              have hr23 := Kd.C_drop (m := ((D6) : Int).toNat) (c := Ds) Ek (by omega) Dl
              obtain ⟨Fo, hA23⟩ : ∃ A1, A1 = (if Ds = ((D6) : Int).toNat then Dw else (Dw : Option Addr).map (·.add (((D6) : Int).toNat * 1))) := ⟨_, rfl⟩
              obtain ⟨c23, hc23⟩ : ∃ c1, c1 = Ds - ((D6) : Int).toNat := ⟨_, rfl⟩
              have hy23 : D0.length = D5.length - ((D6) : Int).toNat := (by rw [Dn.out, List.length_drop] <;> omega)
              rw [show (D5).drop ((D6) : Int).toNat = D0 from Dn.out.symm] at hr23
              replace hr23 : Kd.C (Kd.int .i64) _ Fo D0.length D0 := (by rw [hA23]; exact hr23)
              rw [← hy23, ← hA23, ← hc23] at Ea
              have HR623 := Cmp.A hr23
              have Ed := Cmp.A (show D0.length ≤ c23 from by rw [hy23, hc23]; exact Nat.sub_le_sub_right Dl _)
              clear hr23 Ek Dl E4 hsz23 hc23; have KY23 := Cmp.A hy23; have KA23 := Cmp.A hA23; clear hy23 hA23
              have KL23 := Cmp.A (show ((D6) : Int).toNat ≤ D5.length from by omega)
              replace q23 := eq_true q23
              have p624 : 0 ≤ (3 : Int) := (by omega)
              have q624 : 3 < (D0.length : Int) := of_decide_eq_true Cmp.d
              obtain ⟨Db, e624, Df⟩ := Kd.at_int (by repeat (first | (with_reducible exact HR623.out) | (with_reducible refine Kd.C_alloc ?_ _) | (with_reducible refine Kd.C_drewN ?_ _) | (with_reducible refine Kd.C_drew ?_) | exact HR623.out)) 3 p624 q624
              cases e624
              (try simp only [show (3 : Int).toNat = 3 from rfl, Nat.reduceMul, Nat.reduceEqDiff, Go.Addr.add, ↓reduceIte] at Df)
              have qi624 : (3 < D0.length) = True := eq_true (by omega)
              (try rw [show ((3 : Int)).toNat = 3 from rfl] at Df)
              replace p624 := eq_true p624; replace q624 := eq_true q624; have Fg := D9.out; have Fk := Da.out
              have Ep : wr.cell? ⟨Dd, 0, none⟩ = some (.slice none 0 0) := (blk_cell D2.out 0).trans rfl
              have Ev := blk_frozen D2.out 0
              go_wp2
              refine bodyPost_ret (results_ct rfl _ _ Dd 45 #[.slice none 0 0] (0, 0) _ rfl (Cmp.bw D2.out) Try.underlying45 rfl (by kernel_rfl)) rfl ?_
              exact ⟨_, by first | rfl | (simp [errW_none, errW_some] <;> rfl) | (simp only [← hji18]; first | rfl | (simp [errW_none, errW_some] <;> rfl)) | (simp [*, errW_none, errW_some] <;> rfl), by first | exact Kd.R_nil _ _ _ _ _ | exact Kd.N_nil _ _ _ _ _ | exact Kd.V_nil _ _ _ _ _ | exact Kd.Q_nil _ _ _ _ _ | exact Kd.S_nil _ _ _ _ _, Cmp.g HB.out⟩
             ·rw [if_neg c22] at H; have c22b0 : decide (1 < (rd D0 3)) = false := decide_eq_false c22; clear c22
              by_cases c27 : 0 < (D0.length : Int)
              ·rw [if_pos c27] at H
               have c27b0 : decide (0 < (D0.length : Int)) = true := decide_eq_true c27
               have c27b1 : decide (0 < D0.length) = true := decide_eq_true (by omega)
               clear c27
               by_cases c28 : 1 < (D0.length : Int)
               ·rw [if_pos c28] at H
                have c28b0 : decide (1 < (D0.length : Int)) = true := decide_eq_true c28
                have c28b1 : decide (1 < D0.length) = true := decide_eq_true (by omega)
                clear c28
                by_cases c29 : 2 < (D0.length : Int)
                ·rw [if_pos c29] at H
                 have c29b0 : decide (2 < (D0.length : Int)) = true := decide_eq_true c29
                 have c29b1 : decide (2 < D0.length) = true := decide_eq_true (by omega)
                 clear c29
                 by_cases c30 : D3.length < 4398046511104
                 ·rw [if_pos c30] at H; have LMc30 := Cmp.A c30; clear c30
                  obtain ⟨Dv, hy629⟩ : ∃ y_ : List (S94), y_ = (D3 ++ [(⟨rd D0 0, rd D0 1, rd D0 2, ((rd D0 3) == 1)⟩ : S94)]) := ⟨_, rfl⟩
                  replace H : (impl_DecodeBundle.l0 k3 Dc D5 (wrap64 (De + 1)) Dv) = some (r1, r2) := Cmp.hy hy629 H
                  have Ee := Cmp.A hy629; clear hy629
                  have H' := Cmp.A H
                  clear H
                  obtain ⟨Dx, Dq, F4⟩ := Kd.R_slice D7.out
                  subst F4
                  have q31 : ((D6) : Int) ≤ ((D5.length : Int) : Int) := of_decide_eq_true Cmp.d
                  obtain ⟨i031, E5, _, hsz31, _⟩ := info_parts info3
                  have Dm : D5.length ≤ Dq := (Kd.R_reads' D7.out).2.1
                  have El : Kd.C (Kd.int .i64) _ Dx D5.length D5 := (Kd.R_reads' D7.out).2.2
                  have q031 : (0 : Int) ≤ ((D6) : Int) := of_decide_eq_true Cmp.d
                  have Eb := cut_from (P := Try.prog) 32 3 .i64 Try.underlying32 E5 1 hsz31 Dx D5.length Dq (D6) q031 q31
                  have hr31 := Kd.C_drop (m := ((D6) : Int).toNat) (c := Dq) El (by omega) Dm
                  obtain ⟨Fp, hA31⟩ : ∃ A1, A1 = (if Dq = ((D6) : Int).toNat then Dx else (Dx : Option Addr).map (·.add (((D6) : Int).toNat * 1))) := ⟨_, rfl⟩
                  obtain ⟨c31, hc31⟩ : ∃ c1, c1 = Dq - ((D6) : Int).toNat := ⟨_, rfl⟩
                  have hy31 : D0.length = D5.length - ((D6) : Int).toNat := (by rw [Dn.out, List.length_drop] <;> omega)
                  rw [show (D5).drop ((D6) : Int).toNat = D0 from Dn.out.symm] at hr31
                  replace hr31 : Kd.C (Kd.int .i64) _ Fp D0.length D0 := (by rw [hA31]; exact hr31)
                  rw [← hy31, ← hA31, ← hc31] at Eb
                  have HR623 := Cmp.A hr31
                  have Ed := Cmp.A (show D0.length ≤ c31 from by rw [hy31, hc31]; exact Nat.sub_le_sub_right Dm _)
                  clear hr31 El Dm E5 hsz31 hc31; have KY31 := Cmp.A hy31; have KA31 := Cmp.A hA31; clear hy31 hA31
                  have KL31 := Cmp.A (show ((D6) : Int).toNat ≤ D5.length from by omega)
                  replace q31 := eq_true q31
                  have p624 : 0 ≤ (3 : Int) := (by omega)
                  have q624 : 3 < (D0.length : Int) := of_decide_eq_true Cmp.d
                  obtain ⟨Db, e624, Df⟩ := Kd.at_int (by repeat (first | (with_reducible exact HR623.out) | (with_reducible refine Kd.C_alloc ?_ _) | (with_reducible refine Kd.C_drewN ?_ _) | (with_reducible refine Kd.C_drew ?_) | exact HR623.out)) 3 p624 q624
                  cases e624
                  (try simp only [show (3 : Int).toNat = 3 from rfl, Nat.reduceMul, Nat.reduceEqDiff, Go.Addr.add, ↓reduceIte] at Df)
                  have qi624 : (3 < D0.length) = True := eq_true (by omega)
                  (try rw [show ((3 : Int)).toNat = 3 from rfl] at Df)
                  replace p624 := eq_true p624; replace q624 := eq_true q624
                  try go_wp2
                  replace D7 := Cmp.A (Kd.R_drew D7.out); replace D1 := Cmp.A (Kd.R_drew D1.out); replace D2 := Cmp.A (blk_drew D2.out); replace D4 := Cmp.A (blk_drew D4.out); replace HR623 := Cmp.A (Kd.C_drew HR623.out); replace HB := Cmp.A (below_drew1 HB.out)
                  have p625 : 0 ≤ (0 : Int) := (by omega)
                  have q625 : 0 < (D0.length : Int) := of_decide_eq_true Cmp.d
                  obtain ⟨Ef, e625, Dh⟩ := Kd.at_int (by repeat (first | (with_reducible exact HR623.out) | (with_reducible refine Kd.C_alloc ?_ _) | (with_reducible refine Kd.C_drewN ?_ _) | (with_reducible refine Kd.C_drew ?_) | exact HR623.out)) 0 p625 q625
                  obtain rfl : Db = Ef := (by injection e625)
                  have qi625 : (0 < D0.length) = True := eq_true (by omega)
                  (try rw [show ((0 : Int)).toNat = 0 from rfl] at Dh)
                  (try rw [Addr.add_zero'] at Dh)
                  replace p625 := eq_true p625; replace q625 := eq_true q625
                  have p626 : 0 ≤ (1 : Int) := (by omega)
                  have q626 : 1 < (D0.length : Int) := of_decide_eq_true Cmp.d
                  obtain ⟨Eg, e626, Di⟩ := Kd.at_int (by repeat (first | (with_reducible exact HR623.out) | (with_reducible refine Kd.C_alloc ?_ _) | (with_reducible refine Kd.C_drewN ?_ _) | (with_reducible refine Kd.C_drew ?_) | exact HR623.out)) 1 p626 q626
                  obtain rfl : Db = Eg := (by injection e626)
                  (try simp only [show (1 : Int).toNat = 1 from rfl, Nat.reduceMul, Nat.reduceEqDiff, Go.Addr.add, ↓reduceIte] at Di)
                  have qi626 : (1 < D0.length) = True := eq_true (by omega)
                  (try rw [show ((1 : Int)).toNat = 1 from rfl] at Di)
                  replace p626 := eq_true p626; replace q626 := eq_true q626
                  have p627 : 0 ≤ (2 : Int) := (by omega)
                  have q627 : 2 < (D0.length : Int) := of_decide_eq_true Cmp.d
                  obtain ⟨Eh, e627, Dj⟩ := Kd.at_int (by repeat (first | (with_reducible exact HR623.out) | (with_reducible refine Kd.C_alloc ?_ _) | (with_reducible refine Kd.C_drewN ?_ _) | (with_reducible refine Kd.C_drew ?_) | exact HR623.out)) 2 p627 q627
                  obtain rfl : Db = Eh := (by injection e627)
                  (try simp only [show (2 : Int).toNat = 2 from rfl, Nat.reduceMul, Nat.reduceEqDiff, Go.Addr.add, ↓reduceIte] at Dj)
                  have qi627 : (2 < D0.length) = True := eq_true (by omega)
                  (try rw [show ((2 : Int)).toNat = 2 from rfl] at Dj)
                  replace p627 := eq_true p627; replace q627 := eq_true q627
                  have p628 : 0 ≤ (3 : Int) := (by omega)
                  have q628 : 3 < (D0.length : Int) := of_decide_eq_true Cmp.d
                  obtain ⟨Ei, e628, Dk⟩ := Kd.at_int (by repeat (first | (with_reducible exact HR623.out) | (with_reducible refine Kd.C_alloc ?_ _) | (with_reducible refine Kd.C_drewN ?_ _) | (with_reducible refine Kd.C_drew ?_) | exact HR623.out)) 3 p628 q628
                  obtain rfl : Db = Ei := (by injection e628)
                  (try simp only [show (3 : Int).toNat = 3 from rfl, Nat.reduceMul, Nat.reduceEqDiff, Go.Addr.add, ↓reduceIte] at Dk)
                  have qi628 : (3 < D0.length) = True := eq_true (by omega)
                  (try rw [show ((3 : Int)).toNat = 3 from rfl] at Dk)
                  replace p628 := eq_true p628; replace q628 := eq_true q628
                  refine start_ (n := 20) (S := fun w' => w'.cell? ⟨Dg, 0, none⟩ = some (D8) ∧ w'.cell? Db = some (.int .i64 (rd D0 0)) ∧ w'.cell? ⟨Db.block, Db.off + 1, none⟩ = some (.int .i64 (rd D0 1)) ∧ w'.cell? ⟨Db.block, Db.off + 2, none⟩ = some (.int .i64 (rd D0 2)) ∧ w'.cell? ⟨Db.block, Db.off + 3, none⟩ = some (.int .i64 (rd D0 3))) (ds := [17, 19]) (Cmp.bm 0 20) (by kernel_rfl) rfl rfl ⟨(Cmp.c0 D4 :), Dh, Di, Dj, Dk⟩ (fun hHeld => ?_); refine with_tabW impl_DecodeBundle.tab14 impl_DecodeBundle.bits14 (fun HT_ HW_ => ?_)
                  generalize wr.drew = w33 at D7 D1 D2 D4 HR623 HB Dh Di Dj Dk hHeld ⊢
                  refine Cmp.pu HT_ 0 58 (Cmp.bm 1 19) ?_; refine Cmp.pu HT_ 2 60 (Cmp.bb 20 5) ?_; refine Cmp.pu HT_ 3 61 (Cmp.bb 20 13) ?_; refine Cmp.pu HT_ 5 63 (Cmp.bb 20 45) ?_; refine Cmp.pu HT_ 6 64 (Cmp.bb 20 109) ?_; refine Cmp.pu HT_ 8 66 (Cmp.bb 20 365) ?_; refine Cmp.pu HT_ 9 67 (Cmp.bb 20 877) ?_; refine Cmp.pu HT_ 11 69 (Cmp.bb 20 2925) ?_; refine Cmp.pu HT_ 12 70 (Cmp.bb 20 7021) ?_; refine Cmp.tk HT_ HW_ hHeld 1 59 (Cmp.bb 20 7023) ?_; refine Cmp.tk HT_ HW_ hHeld 4 62 (Cmp.bb 20 7039) ?_; refine Cmp.tk HT_ HW_ hHeld 7 65 (Cmp.bb 20 7167) ?_; refine Cmp.tk HT_ HW_ hHeld 10 68 (Cmp.bm 13 7) ?_; refine Cmp.tk HT_ HW_ hHeld 13 71 (Cmp.bm 14 6) ?_; refine Cmp.pu HT_ 14 72 (Cmp.bm 15 5) ?_; refine Cmp.pu HT_ 15 73 (Cmp.bm 16 4) ?_
                  refine one_ (i := 16) (N := some 74) (Cmp.bm 17 3) rfl rfl (one_of HT_.out (by kernel_rfl)) (by decide) (fun K hK => ?_)
                  refine value_ (w1 := ?_) (v := ?_) (by rfl) rfl ?_ ?_
                  rotate_left 2
                  ·go_simp
                   constructor
                   ·rfl
                   ·rfl
                  refine hK.out _ _ ⟨(blk_cell (blk_alloc D4.out _) 0).trans rfl, (World.cell?_alloc_lt _ _ _ (World.block_lt_of_cell? _ _ (hHeld.2.1))).trans (hHeld.2.1), (World.cell?_alloc_lt _ _ _ (World.block_lt_of_cell? _ _ (hHeld.2.2.1))).trans (hHeld.2.2.1), (World.cell?_alloc_lt _ _ _ (World.block_lt_of_cell? _ _ (hHeld.2.2.2.1))).trans (hHeld.2.2.2.1), (World.cell?_alloc_lt _ _ _ (World.block_lt_of_cell? _ _ (hHeld.2.2.2.2))).trans (hHeld.2.2.2.2)⟩ (fun hHeld => ?_)
                  clear hK K
                  refine Cmp.no ?_
                  refine last_ (i := 17) (N := some 75) (Cmp.bm 18 2) rfl rfl (one_of HT_.out (by kernel_rfl)) (by decide) (fun K hK => ?_)
                  refine Kd.R_append_step k94 (w0 := w) w.heap.size (by rfl) (.tmp 59) (.tmp 74) 43 94 (.agg #[(.int .i64 0), (.int .i64 0), (.int .i64 0), (.bool false)]) 32 rfl Try.underlying43 info94 rfl (by decide) (by omega) D8 D3 (⟨rd D0 0, rd D0 1, rd D0 2, ((rd D0 3) == 1)⟩ : S94) [.int .i64 (rd D0 0), .int .i64 (rd D0 1), .int .i64 (rd D0 2), .bool ((rd D0 3) == 1)] (fun _ => True) (fun _ => False) rfl rfl ?aP (fun _ hk => hk.elim) ?aF ?aO ?aB ?aS ?aL ?_
                  (case aP => exact k94_mkM _ _ _ (⟨rd D0 0, rd D0 1, rd D0 2, ((rd D0 3) == 1)⟩ : S94))
                  (case aB => exact (Cmp.g HB.out))
                  (case aF => exact (fun _ _ => trivial))
                  (case aO => exact (Cmp.rr D1.out))
                  (case aS => exact (below_size (Cmp.g HB.out)))
                  (case aL => have := LMc30.out; omega)
                  intro v630 w34 ho hb hg hat
                  rw [← Ee.out] at ho
                  have E3 := Cmp.A (ho); replace D2 := Cmp.bg D2 hg (Kd.R_ne D1.out D2.out (by decide)); replace D4 := Cmp.bg D4 hg (Kd.R_ne D1.out D4.out (by decide)); replace HB := Cmp.A (hb); replace HR623 := Cmp.A ((show Kd.C (Kd.int .i64) w34 (some Db) D0.length D0 from by rw [Dn.out, KA31.out]; exact Kd.C_drop (m := ((D6) : Int).toNat) (c := Dq) ((Kd.R_reads' (Kd.R_over' (Cmp.rr D7.out) (Kd.R_typed (Cmp.rr D1.out)) (by decide) hg)).2.2) KL31.out ((Kd.R_reads' (Kd.R_over' (Cmp.rr D7.out) (Kd.R_typed (Cmp.rr D1.out)) (by decide) hg)).2.1))); replace D7 := Cmp.A (Kd.R_over' (Cmp.rr D7.out) (Kd.R_typed (Cmp.rr D1.out)) (by decide) hg); clear D1; clear ho hb hg hat
                  obtain ⟨E6, E8, Ej⟩ := Kd.R_slice E3.out
                  (first | subst Ej | (injection Ej with f1_ f2_ f3_; have f4_ := f1_.symm; have f5_ := f3_.symm; clear f1_ f2_ f3_; subst f4_; subst f5_))
                  refine hK.out _ _ ?_
                  clear hK K
                  refine Cmp.no ?_
                  refine Cmp.pu HT_ 18 76 (Cmp.bm 19 1) ?_
                  refine last_ (i := 19) (N := none) (Cmp.bm 20 0) rfl rfl (one_of HT_.out (by kernel_rfl)) (by decide) (fun K hK => ?_)
                  have hs36 : w34.cell? ⟨Dg, 0, none⟩ = some (D8) := (blk_cell D4.out 0).trans rfl
                  have hfs36 := blk_frozen D4.out 0; have hns36_0 := D9.out; have hms36_0 := Da.out
                  refine skip_ (w1 := ?_) (by rfl) rfl ?_ ?_
                  rotate_left
                  ·go_simp; rfl
                  refine hK.out _ _ ?_
                  clear hK K
                  refine done_ (done_of HT_.out (by kernel_rfl)) ?_
                  try go_wp2
                  go_roundg k3
                  case measure => have := HJ2.out; have := HJ8.out; have := HK3.out; omega
                  case rel => exact ⟨(wrap64 (De + 1)), (Dv), (.slice E6 Dv.length E8), (by first | rfl | simp | simp [*]), H', ⟨by have := HJ2.out; have := HJ8.out; have := HK3.out; omega⟩, ⟨Cmp.rm (Kd.R_far (p := ⟨Dg, 0, none⟩) (Kd.R_types D7.out D4.out (by decide)) (fun _ hk => hk.2) (.slice E6 Dv.length E8)) (fun _ hk => trivial)⟩, ⟨Cmp.rm (Kd.R_far (p := ⟨Dg, 0, none⟩) (Kd.R_types E3.out D4.out (by decide)) (fun _ hk => hk.2) (.slice E6 Dv.length E8)) (fun _ hk => trivial)⟩, ⟨Cmp.bw D2.out⟩, ⟨Cmp.bw D4.out⟩, ⟨Cmp.g HB.out⟩⟩
                 ·rw [if_neg c30] at H; exact absurd H (by simp)
                ·rw [if_neg c29] at H; exact absurd H (by simp)
               ·rw [if_neg c28] at H; exact absurd H (by simp)
              ·rw [if_neg c27] at H; exact absurd H (by simp)
            ·rw [if_neg c21] at H; exact absurd H (by simp)
           ·rw [if_neg c20] at H; exact absurd H (by simp)
          ·rw [if_neg c19] at H; exact absurd H (by simp)
         ·rw [if_neg c17] at H; have c17b0 : decide (De < Dc) = false := decide_eq_false c17; clear c17; replace H := Option.bind_eq_some_iff.mp H; obtain ⟨F7, Ec, H⟩ := H; (try dsimp only at H); have F9 := Cmp.A Ec; clear Ec
          by_cases c38 : F7 = true
          ·subst c38; rw [if_pos rfl] at H
           simp only [Option.some.injEq, Prod.mk.injEq] at H
           obtain ⟨rfl, rfl⟩ := H; have Fh := Da.out; have Fl := D9.out
           have Eq : wr.cell? ⟨Dg, 0, none⟩ = some (D8) := (blk_cell D4.out 0).trans rfl
           have Ew := blk_frozen D4.out 0
           obtain ⟨E7, E9, F5⟩ := Kd.R_slice D1.out
           subst F5
           go_wp2_with (first | ((with_reducible refine gate_callee (f := 61) rfl ?_); refine goesL_ (some 78) rfl rfl Try.func61 (by kernel_rfl) rfl #[.agg #[.slice E7 D3.length E9]] rfl Cmp.q ?_; (with_reducible refine (impl_IsBundle.calls k3 _ _ D3 true _ ?side1 ?side2 F9.out).mono ?_); (case side1 => exact Cmp.rc (Kd.R_reads' D1.out).2.2); (case side2 => exact (Kd.R_reads' D1.out).2.1); rintro e w42 ⟨rfl, hb⟩; refine ⟨_, rfl, ?_⟩; replace D7 := Cmp.A (Kd.R_below (Cmp.rr D7.out) hb); replace D1 := Cmp.A (Kd.R_below (Cmp.rr D1.out) hb); replace D2 := Cmp.be D2 hb; replace D4 := Cmp.be D4 hb; replace HB := Cmp.bs HB hb; (try clear hb); (try clear hb2); (try clear hk); (try clear hi); have Er := Cmp.c0 D4; have Ex := blk_frozen D4.out 0; have Es := Cmp.c0 D2; have Ey := blk_frozen D2.out 0))
           refine bodyPost_ret (results_ct rfl _ _ Dd 45 #[.slice E7 D3.length E9] (0, 0) _ rfl (Cmp.bw D2.out) Try.underlying45 rfl (by kernel_rfl)) rfl ?_
           exact ⟨_, by first | rfl | (simp [errW_none, errW_some] <;> rfl) | (simp [*, errW_none, errW_some] <;> rfl), by (with_reducible repeat (first | apply Kd.R_alloc | apply Kd.R_drewN | apply Kd.R_drew)); exact Kd.R_mono (Kd.R_far (p := ⟨Dd, 0, none⟩) (Kd.R_types D1.out D2.out (by decide)) (fun _ hk => hk.2) (.slice E7 D3.length E9)) (fun _ hk => trivial), Cmp.g HB.out⟩
          ·replace c38 := Bool.eq_false_iff.mpr c38
           subst c38
           have H1 : (some (([] : List (S94)), false)) = some (r1, r2) := by rw [if_neg (show ¬ (false = true) by decide)] at H; exact H
           clear H; have H := H1; clear H1
           simp only [Option.some.injEq, Prod.mk.injEq] at H
           obtain ⟨rfl, rfl⟩ := H; have Fi := Da.out; have Fm := D9.out
           have Et : wr.cell? ⟨Dg, 0, none⟩ = some (D8) := (blk_cell D4.out 0).trans rfl
           have Ez := blk_frozen D4.out 0
           obtain ⟨F1, F2, F6⟩ := Kd.R_slice D1.out
           subst F6
           go_wp2_with (first | ((with_reducible refine gate_callee (f := 61) rfl ?_); refine goesL_ (some 78) rfl rfl Try.func61 (by kernel_rfl) rfl #[.agg #[.slice F1 D3.length F2]] rfl Cmp.q ?_; (with_reducible refine (impl_IsBundle.calls k3 _ _ D3 false _ ?side1 ?side2 F9.out).mono ?_); (case side1 => exact Cmp.rc (Kd.R_reads' D1.out).2.2); (case side2 => exact (Kd.R_reads' D1.out).2.1); rintro e w48 ⟨rfl, hb⟩; refine ⟨_, rfl, ?_⟩; replace D7 := Cmp.A (Kd.R_below (Cmp.rr D7.out) hb); replace D1 := Cmp.A (Kd.R_below (Cmp.rr D1.out) hb); replace D2 := Cmp.be D2 hb; replace D4 := Cmp.be D4 hb; replace HB := Cmp.bs HB hb; (try clear hb); (try clear hb2); (try clear hk); (try clear hi); have Eu := Cmp.c0 D2; have F0 := blk_frozen D2.out 0))
           refine bodyPost_ret (results_ct rfl _ _ Dd 45 #[.slice none 0 0] (0, 0) _ rfl (Cmp.bw D2.out) Try.underlying45 rfl (by kernel_rfl)) rfl ?_
           exact ⟨_, by first | rfl | (simp [errW_none, errW_some] <;> rfl) | (simp [*, errW_none, errW_some] <;> rfl), by first | exact Kd.R_nil _ _ _ _ _ | exact Kd.N_nil _ _ _ _ _ | exact Kd.V_nil _ _ _ _ _ | exact Kd.Q_nil _ _ _ _ _ | exact Kd.S_nil _ _ _ _ _, Cmp.g HB.out⟩
/-! ### impl_Decrypt: function 71 -/
def impl_Decrypt.l0 : Nat → Int → List Int → List Int → Int → Int → Option (List Int)
  | 0, _, _, _, _, _ => none
  | k + 1, x0, x5, x9, x10, x11 => if x11 < x10 then (if 0 ≤ x11 then (if x11 < (x9.length : Int) then ((impl_KeyedHash.f k x0 (([x11] : List Int))).bind fun t640 => ((impl_Mod.f k (wrap64 ((wrap64 (rd x9 x11)) - t640)) 256).bind fun t641 => (if x5.length < 140737488355328 then (impl_Decrypt.l0 k x0 (x5 ++ [(t641) % 256]) x9 x10 (wrap64 (x11 + 1))) else (none)))) else (none)) else (none)) else (some x5)
def impl_Decrypt.f (k : Nat) (a0 : Int) (l1 : List Int) : Option (List Int) := impl_Decrypt.l0 k a0 (([] : List Int)) l1 (l1.length : Int) 0
theorem impl_Decrypt.mono_l : ∀ k, (∀ y0 y1 y2 y3 y4, LeO (impl_Decrypt.l0 k y0 y1 y2 y3 y4) (impl_Decrypt.l0 (k + 1) y0 y1 y2 y3 y4))
 | 0 => fun _ _ _ _ _ r h => by simp [impl_Decrypt.l0] at h
 | k + 1 => by
    have ih0 := impl_Decrypt.mono_l k
    · intro y0 y1 y2 y3 y4
      unfold impl_Decrypt.l0
      repeat' first
 | (with_reducible exact ih0 _ _ _ _ _)
 | (with_reducible exact impl_KeyedHash.mono _ _ _)
 | (with_reducible exact impl_Mod.mono _ _ _)
 | (with_reducible exact LeO.refl _)
 | (with_reducible exact LeO.none _)
 | (with_reducible refine LeO.ite ?_ ?_)
 | (with_reducible refine LeO.bind ?_ (fun _ => ?_))
theorem impl_Decrypt.mono : ∀ a0 a1 k, LeO (impl_Decrypt.f k a0 a1) (impl_Decrypt.f (k + 1) a0 a1) := by
  intro a0 a1 k
  have ih0 := impl_Decrypt.mono_l k
  unfold impl_Decrypt.f
  repeat' first
 | (with_reducible exact ih0 _ _ _ _ _)
 | (with_reducible exact impl_KeyedHash.mono _ _ _)
 | (with_reducible exact impl_Mod.mono _ _ _)
 | (with_reducible exact LeO.refl _)
 | (with_reducible exact LeO.none _)
 | (with_reducible refine LeO.ite ?_ ?_)
 | (with_reducible refine LeO.bind ?_ (fun _ => ?_))
set_option maxHeartbeats 8000000 in
set_option maxRecDepth 100000 in
theorem impl_Decrypt.calls (k : Nat) (a0 : Int) (A1 : Option Addr) (c1 : Nat) (l1 : List Int) (r : List Int) (w : World) (hr1 : Kd.C (Kd.int .u8) w A1 l1.length l1) (hc1 : l1.length ≤ c1) (h : impl_Decrypt.f k a0 l1 = some r) :
    Calls Try.prog 71 #[.int .i64 a0, .slice A1 l1.length c1] w fun e w' => ∃ v0_ : Value, e = .returned (v0_) ∧ Kd.R (Kd.int .u8) 5 w' w.heap.size (fun _ => True) v0_ r ∧ Below w.heap.size w w' := by
 have HR1 := Cmp.A hr1; have HC1 := Cmp.A hc1; clear hr1 hc1
 have HB := Cmp.A (Below.refl w.heap.size w)
 have H : (impl_Decrypt.l0 k a0 (([] : List Int)) l1 (l1.length : Int) 0) = some r := h
 clear h
 obtain ⟨Dh, hy633⟩ : ∃ y_ : List Int, y_ = (([] : List Int)) := ⟨_, rfl⟩
 replace H : (impl_Decrypt.l0 k a0 Dh l1 (l1.length : Int) 0) = some r := Cmp.hy hy633 H
 have D9 := Cmp.A hy633; clear hy633
 have H' := Cmp.A H
 clear H
 go_enter Try.func71, Try.ntmps71
 go_wp2_with (first | ((with_reducible refine gate_dst (N := 8) rfl ?_); refine Kd.R_lit (Kd.int .u8) _ 5 ?hg (N := 8) ?hd (xs := ([] : List Int)) (inner := []) (ok := fun _ => True) (okp := fun _ => True) ?hr ?hp (fun _ hk => hk) trivial (Below.refl _ _) (Nat.le_refl _) (by simp) ?_; (case hd => rfl); (case hg => rfl); (case hr => first | (go_simp; done) | (go_simp; rfl)); (case hp => exact (Reps.none _ _)); intro v634 w3 Dg hb hg_ hnew_; clear hg_ hnew_; (first | rw [← D9.out] at Dg | (simp only [Int.reduceToNat] at Dg; rw [← D9.out] at Dg)); have Dc := Cmp.A (Kd.R_lower Dg (below_size (Cmp.g HB.out))); replace HB := Cmp.bs HB hb; clear hb Dg))
 go_loopg [5, 11] k (fun kq v5 v11 w' => ∃ (D3 : List Int) (D0 : Int), v11 = .int .i64 D0 ∧ Aside0 (impl_Decrypt.l0 kq a0 D3 l1 (l1.length : Int) D0 = some r) ∧ Aside0 (kq ≤ k) ∧ Aside0 (Kd.R (Kd.int .u8) 5 w' w.heap.size (fun _ => True) v5 D3) ∧ Aside0 (Below w.heap.size w w'))
 case atStart => exact ⟨(Dh), (0), (by first | rfl | simp | simp [*]), H', ⟨Nat.le_refl _⟩, ⟨Cmp.rr Dc.out⟩, ⟨Cmp.g HB.out⟩⟩
 case round =>
  clear H'
  (try clear c1); (try clear p2)
  obtain ⟨D3, D0, rfl, HA, HK1, D2, HB⟩ := hrel
  cases gk with
  | zero => exact absurd HA.out (by simp [impl_Decrypt.l0])
  | succ k1 =>
   have H := HA.out; clear HA
   simp only [impl_Decrypt.l0] at H
   by_cases c5 : D0 < (l1.length : Int)
   ·rw [if_pos c5] at H
    have c5b0 : decide (D0 < (l1.length : Int)) = true := decide_eq_true c5
    clear c5
    by_cases c6 : 0 ≤ D0
    ·rw [if_pos c6] at H; have c6b0 : decide (0 ≤ D0) = true := decide_eq_true c6; clear c6
     by_cases c7 : D0 < (l1.length : Int)
     ·rw [if_pos c7] at H
      have c7b0 : decide (D0 < (l1.length : Int)) = true := decide_eq_true c7
      clear c7
      obtain ⟨D8, hy637⟩ : ∃ y_ : List Int, y_ = (([D0] : List Int)) := ⟨_, rfl⟩
      replace H : ((impl_KeyedHash.f k1 a0 D8).bind fun D7 => ((impl_Mod.f k1 (wrap64 ((wrap64 (rd l1 D0)) - D7)) 256).bind fun D5 => (if D3.length < 140737488355328 then (impl_Decrypt.l0 k1 a0 (D3 ++ [(D5) % 256]) l1 (l1.length : Int) (wrap64 (D0 + 1))) else (none)))) = some r := Cmp.hy hy637 H
      have Da := Cmp.A hy637; clear hy637; replace H := Option.bind_eq_some_iff.mp H; obtain ⟨D7, Dk, H⟩ := H; (try dsimp only at H); have A8 := Cmp.A Dk; clear Dk; replace H := Option.bind_eq_some_iff.mp H; obtain ⟨D5, Dl, H⟩ := H; (try dsimp only at H); have A9 := Cmp.A Dl; clear Dl
      by_cases c10 : D3.length < 140737488355328
      ·rw [if_pos c10] at H; have LMc10 := Cmp.A c10; clear c10
       obtain ⟨Di, hy642⟩ : ∃ y_ : List Int, y_ = (D3 ++ [(D5) % 256]) := ⟨_, rfl⟩
       replace H : (impl_Decrypt.l0 k1 a0 Di l1 (l1.length : Int) (wrap64 (D0 + 1))) = some r := Cmp.hy hy642 H
       have De := Cmp.A hy642; clear hy642
       have H' := Cmp.A H
       clear H
       have p636 : 0 ≤ (D0 : Int) := of_decide_eq_true Cmp.d
       have q636 : D0 < (l1.length : Int) := of_decide_eq_true Cmp.d
       obtain ⟨Dm, e636, D4⟩ := Kd.at_int HR1.out D0 p636 q636
       cases e636
       replace D4 := Cmp.hc HB D4
       replace p636 := eq_true p636; replace q636 := eq_true q636
       go_wp2_with (first | ((with_reducible refine gate_dst (N := 21) rfl ?_); refine Kd.R_lit (Kd.int .i64) _ 3 ?hg (N := 21) ?hd (xs := ([D0] : List Int)) (inner := [.int .i64 D0]) (ok := fun _ => True) (okp := fun _ => True) ?hr ?hp (fun _ hk => hk) trivial (Below.refl _ _) (Nat.le_refl _) (by simp) ?_; (case hd => rfl); (case hg => rfl); (case hr => first | (go_simp; done) | (go_simp; rfl)); (case hp => exact (Reps.one (Cmp.mi D0) (Reps.none _ _))); intro v638 w11 D6 hb hg_ hnew_; clear hg_ hnew_; (first | rw [← Da.out] at D6 | (simp only [Int.reduceToNat] at D6; rw [← Da.out] at D6)); have D1 := Cmp.A (Kd.R_lower D6 (below_size (Cmp.g HB.out))); replace D2 := Cmp.A (Kd.R_below (Cmp.rr D2.out) hb); replace HB := Cmp.bs HB hb; clear hb D6; obtain ⟨Db, Df, Dj⟩ := Kd.R_slice D1.out; subst Dj) | ((with_reducible refine gate_callee (f := 102) rfl ?_); refine goesL_ (some 22) rfl rfl Try.func102 (by kernel_rfl) rfl #[.int .i64 a0, .slice Db D8.length Df] rfl Cmp.q ?_; (with_reducible refine (impl_KeyedHash.calls k1 a0 (fun k_ => some k_ = (.slice Db D8.length Df : Value).ownBlock) _ _ D8 D7 _ ?side1 A8.out).mono ?_); (case side1 => exact Kd.R_V (Kd.R_tight rfl (Kd.R_apart' (D1.out) (Kd.R_typed D2.out) (by decide)))); rintro e w14 ⟨rfl, hb⟩; refine ⟨_, rfl, ?_⟩; replace D2 := Cmp.A (Kd.R_below (Cmp.rr D2.out) hb); replace D1 := Cmp.A (Kd.R_below (Cmp.rr D1.out) hb); replace HB := Cmp.bs HB hb; (try clear hb); (try clear hb2); (try clear hk); (try clear hi)) | ((with_reducible refine gate_callee (f := 112) rfl ?_); refine goesL_ (some 24) rfl rfl Try.func112 (by kernel_rfl) rfl #[.int .i64 (wrap64 ((wrap64 (rd l1 D0)) - D7)), .int .i64 256] rfl Cmp.q ?_; (with_reducible refine (impl_Mod.calls k1 (wrap64 ((wrap64 (rd l1 D0)) - D7)) 256 D5 _ A9.out).mono ?_); rintro e w' ⟨rfl, ⟨nd, rfl⟩⟩; refine ⟨_, rfl, ?_⟩) | ((with_reducible refine gate_builtin (b := .append) (xs := #[.tmp 16, .tmp 26]) rfl ?_); at_builtin; refine Kd.R_append (Kd.int .u8) (w0 := w) w.heap.size rfl (.tmp 16) (.tmp 26) 22 5 (.int .u8 0) 1 rfl Try.underlying22 info5 rfl (by decide) (by omega) u5 D3 ((D5) % 256) [.int .u8 ((D5) % 256)] (fun _ => True) (fun _ => False) rfl rfl ?aP (fun _ hk => hk.elim) ?aF ?aO ?aB ?aS ?aL ?_; (case aP => exact rfl); (case aB => exact (Cmp.g HB.out)); (case aF => exact (fun _ _ => trivial)); (case aO => exact (Cmp.rr D2.out)); (case aS => exact (below_size (Cmp.g HB.out))); (case aL => have := LMc10.out; omega); intro v643 w15 ho hb hg hat; rw [← De.out] at ho; have Dd := Cmp.A (ho); replace D1 := Cmp.A (Kd.R_over' (Cmp.rr D1.out) (Kd.R_typed (Cmp.rr D2.out)) (by decide) hg); replace HB := Cmp.A (hb); clear D2; clear ho hb hg hat))
       go_roundg k1
       case measure => have := HK1.out; omega
       case rel => exact ⟨(Di), (wrap64 (D0 + 1)), (by first | rfl | simp | simp [*]), H', ⟨by have := HK1.out; omega⟩, ⟨Cmp.rr Dd.out⟩, ⟨Cmp.g HB.out⟩⟩
      ·rw [if_neg c10] at H; exact absurd H (by simp)
     ·rw [if_neg c7] at H; exact absurd H (by simp)
    ·rw [if_neg c6] at H; exact absurd H (by simp)
   ·rw [if_neg c5] at H
    have c5b0 : decide (D0 < (l1.length : Int)) = false := decide_eq_false c5
    clear c5
    obtain rfl := Option.some.inj H
    go_wp2
    go_ret
    exact ⟨_, by first | rfl | (simp [errW_none, errW_some] <;> rfl) | (simp [*, errW_none, errW_some] <;> rfl), by (with_reducible repeat (first | apply Kd.R_alloc | apply Kd.R_drewN | apply Kd.R_drew)); exact D2.out, Cmp.g HB.out⟩
end Go.Proofs.Ytpgjecknkmmnhaa.PFnSealedBundles

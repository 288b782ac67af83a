/- Printed functions that the law FnSealedBundles uses: out of print.sh, the law's own function taken out. No condition. -/
import Derived.Test.YtpgjecknkmmnhaaCmp
import Derived.Test.YtpgjecknkmmnhaaPFnSealedBundlesx0
import Derived.Test.YtpgjecknkmmnhaaPFnSealedBundlesx1
import Derived.Test.YtpgjecknkmmnhaaPFnSealedBundlesx2
import Derived.Test.YtpgjecknkmmnhaaPFnSealedBundlesx9
import Derived.Test.YtpgjecknkmmnhaaPFnSealedBundlesx11
import Derived.Test.YtpgjecknkmmnhaaPFnSealedBundlesx14
import Derived.Test.YtpgjecknkmmnhaaPFnSealedBundlesx18
import Derived.Test.YtpgjecknkmmnhaaPFnSealedBundlesx20
import Derived.Test.YtpgjecknkmmnhaaPFnSealedBundlesx21
namespace Go.Proofs.Ytpgjecknkmmnhaa.PFnSealedBundles
open Go.Proofs.Ytpgjecknkmmnhaa
open Go.RowKit Go.Proofs.YtpgjecknkmmnhaaW.PrintWords Go.Proofs.YtpgjecknkmmnhaaW.PrintLast Go.Proofs.YtpgjecknkmmnhaaW.PrintMore
attribute [local go_sem] max2_int min2_int max_two min_two max_three min_three max_four min_four   -- for this text's walks alone
set_option linter.unusedVariables false
set_option linter.unusedSimpArgs false
attribute [local go_sem high] eqA94
/-! ### impl_EqualBundles: function 26 -/
def impl_EqualBundles.l0 : Nat → Int → Int → List (S94) → List (S94) → Option (Bool)
  | 0, _, _, _, _ => none
  | k + 1, x15, x16, x664000, x665000 => if x16 < x15 then (if 0 ≤ x16 then (if x16 < (x664000.length : Int) then (if x16 < (x665000.length : Int) then (if (!(((rd_T94 x664000 x16).f0) == ((rd_T94 x665000 x16).f0)) || (!(((rd_T94 x664000 x16).f1) == ((rd_T94 x665000 x16).f1)) || (!(((rd_T94 x664000 x16).f2) == ((rd_T94 x665000 x16).f2)) || (!(((rd_T94 x664000 x16).f3) == ((rd_T94 x665000 x16).f3)))))) = true then (some false) else (impl_EqualBundles.l0 k x15 (wrap64 (x16 + 1)) x664000 x665000)) else (none)) else (none)) else (none)) else (some true)
def impl_EqualBundles.f (k : Nat) (l0_0 : List (S94)) (l1_0 : List (S94)) : Option (Bool) := if (l0_0.length : Int) = (l1_0.length : Int) then (impl_EqualBundles.l0 k (l0_0.length : Int) 0 l0_0 l1_0) else (some false)
theorem impl_EqualBundles.mono_l : ∀ k, (∀ y0 y1 y2 y3, LeO (impl_EqualBundles.l0 k y0 y1 y2 y3) (impl_EqualBundles.l0 (k + 1) y0 y1 y2 y3))
 | 0 => fun _ _ _ _ r h => by simp [impl_EqualBundles.l0] at h
 | k + 1 => by
    have ih0 := impl_EqualBundles.mono_l k
    · intro y0 y1 y2 y3
      unfold impl_EqualBundles.l0
      repeat' first
 | (with_reducible exact ih0 _ _ _ _)
 | (with_reducible exact LeO.refl _)
 | (with_reducible exact LeO.none _)
 | (with_reducible refine LeO.ite ?_ ?_)
 | (with_reducible refine LeO.bind ?_ (fun _ => ?_))
theorem impl_EqualBundles.mono : ∀ a0 a1 k, LeO (impl_EqualBundles.f k a0 a1) (impl_EqualBundles.f (k + 1) a0 a1) := by
  intro a0 a1 k
  have ih0 := impl_EqualBundles.mono_l k
  unfold impl_EqualBundles.f
  repeat' first
 | (with_reducible exact ih0 _ _ _ _)
 | (with_reducible exact LeO.refl _)
 | (with_reducible exact LeO.none _)
 | (with_reducible refine LeO.ite ?_ ?_)
 | (with_reducible refine LeO.bind ?_ (fun _ => ?_))
set_option maxHeartbeats 8000000 in
set_option maxRecDepth 100000 in
theorem impl_EqualBundles.calls (k : Nat) (A0_0 : Option Addr) (c0_0 : Nat) (l0_0 : List (S94)) (A1_0 : Option Addr) (c1_0 : Nat) (l1_0 : List (S94)) (r : Bool) (w : World) (hr0_0 : Kd.C k94 w A0_0 l0_0.length l0_0) (hc0_0 : l0_0.length ≤ c0_0) (hr1_0 : Kd.C k94 w A1_0 l1_0.length l1_0) (hc1_0 : l1_0.length ≤ c1_0) (h : impl_EqualBundles.f k l0_0 l1_0 = some r) :
    Calls Try.prog 26 #[.agg #[.slice A0_0 l0_0.length c0_0], .agg #[.slice A1_0 l1_0.length c1_0]] w fun e w' => e = .returned (.bool r) ∧ Below w.heap.size w w' := by
 have hu45 := Try.underlying45; have hu94 := Try.underlying94; have Dr := Cmp.A hr0_0; have HC0_0 := Cmp.A hc0_0; clear hr0_0 hc0_0; have Ds := Cmp.A hr1_0; have HC1_0 := Cmp.A hc1_0; clear hr1_0 hc1_0
 have HB := Cmp.A (Below.refl w.heap.size w)
 have H : (if (l0_0.length : Int) = (l1_0.length : Int) then (impl_EqualBundles.l0 k (l0_0.length : Int) 0 l0_0 l1_0) else (some false)) = some r := h
 clear h
 by_cases c3 : (l0_0.length : Int) = (l1_0.length : Int)
 ·rw [if_pos c3] at H
  have c3b0 : ((l0_0.length : Int) == (l1_0.length : Int)) = true := beq_iff_eq.mpr c3
  have c3b1 : ((l0_0.length : Int) != (l1_0.length : Int)) = false := bne_eq_false_iff_eq.mpr c3
  have c3b2 : (l0_0.length == l1_0.length) = true := by first | simpa using c3 | (simp at c3 ⊢; omega)
  clear c3
  have H' := Cmp.A H
  clear H
  go_enter Try.func26, Try.ntmps26
  go_wp2_with (first | ((with_reducible refine gate_dst (N := 2) rfl ?_); refine box_event ?hg (N := 2) ?hd (cs := #[.slice A0_0 l0_0.length c0_0]) (t := 45) ?hr ?_; (case hd => rfl); (case hg => rfl); (case hr => first | (go_simp; done) | (go_simp; rfl)); intro Dd hg w4 hbox hb; have D1 := Cmp.A (hbox); have Dh := Cmp.gw hg HB; have Df := Cmp.gw hg HB; replace HB := Cmp.bs HB hb; clear hb hbox hg) | ((with_reducible refine gate_dst (N := 3) rfl ?_); refine box_event ?hg (N := 3) ?hd (cs := #[.slice A1_0 l1_0.length c1_0]) (t := 45) ?hr ?_; (case hd => rfl); (case hg => rfl); (case hr => first | (go_simp; done) | (go_simp; rfl)); intro De hg w5 hbox hb; have D4 := Cmp.A (hbox); have Di := Cmp.gw hg HB; have Dg := Cmp.gw hg HB; have D2 := Cmp.nl hg D1; have D3 := Cmp.ng hg D1; replace D1 := Cmp.be D1 hb; replace HB := Cmp.bs HB hb; clear hb hbox hg; have Dx := D2.out; have Dy := D3.out; have Dj := Cmp.c0 D1; have Dl := blk_frozen D1.out 0; have Dk := Cmp.c0 D4; have Dm := blk_frozen D4.out 0))
  repeat (go_quiet (first | ((with_reducible refine gate_dst (N := 2) rfl ?_); refine box_event ?hg (N := 2) ?hd (cs := #[.slice A0_0 l0_0.length c0_0]) (t := 45) ?hr ?_; (case hd => rfl); (case hg => rfl); (case hr => first | (go_simp; done) | (go_simp; rfl)); intro Dd hg w4 hbox hb; have D1 := Cmp.A (hbox); have Dh := Cmp.gw hg HB; have Df := Cmp.gw hg HB; replace HB := Cmp.bs HB hb; clear hb hbox hg) | ((with_reducible refine gate_dst (N := 3) rfl ?_); refine box_event ?hg (N := 3) ?hd (cs := #[.slice A1_0 l1_0.length c1_0]) (t := 45) ?hr ?_; (case hd => rfl); (case hg => rfl); (case hr => first | (go_simp; done) | (go_simp; rfl)); intro De hg w5 hbox hb; have D4 := Cmp.A (hbox); have Di := Cmp.gw hg HB; have Dg := Cmp.gw hg HB; have D2 := Cmp.nl hg D1; have D3 := Cmp.ng hg D1; replace D1 := Cmp.be D1 hb; replace HB := Cmp.bs HB hb; clear hb hbox hg; have Dx := D2.out; have Dy := D3.out; have Dj := Cmp.c0 D1; have Dl := blk_frozen D1.out 0; have Dk := Cmp.c0 D4; have Dm := blk_frozen D4.out 0)); try go_wp2_with (first | ((with_reducible refine gate_dst (N := 2) rfl ?_); refine box_event ?hg (N := 2) ?hd (cs := #[.slice A0_0 l0_0.length c0_0]) (t := 45) ?hr ?_; (case hd => rfl); (case hg => rfl); (case hr => first | (go_simp; done) | (go_simp; rfl)); intro Dd hg w4 hbox hb; have D1 := Cmp.A (hbox); have Dh := Cmp.gw hg HB; have Df := Cmp.gw hg HB; replace HB := Cmp.bs HB hb; clear hb hbox hg) | ((with_reducible refine gate_dst (N := 3) rfl ?_); refine box_event ?hg (N := 3) ?hd (cs := #[.slice A1_0 l1_0.length c1_0]) (t := 45) ?hr ?_; (case hd => rfl); (case hg => rfl); (case hr => first | (go_simp; done) | (go_simp; rfl)); intro De hg w5 hbox hb; have D4 := Cmp.A (hbox); have Di := Cmp.gw hg HB; have Dg := Cmp.gw hg HB; have D2 := Cmp.nl hg D1; have D3 := Cmp.ng hg D1; replace D1 := Cmp.be D1 hb; replace HB := Cmp.bs HB hb; clear hb hbox hg; have Dx := D2.out; have Dy := D3.out; have Dj := Cmp.c0 D1; have Dl := blk_frozen D1.out 0; have Dk := Cmp.c0 D4; have Dm := blk_frozen D4.out 0)))
  go_loopg [16] k (fun kq v16 w' => ∃ (D0 : Int), v16 = .int .i64 D0 ∧ Aside0 (impl_EqualBundles.l0 kq (l0_0.length : Int) D0 l0_0 l1_0 = some r) ∧ Aside0 (kq ≤ k) ∧ Aside0 (w'.heap[Dd]? = some (.cells #[(.slice A0_0 l0_0.length c0_0)] 45 (0, 0))) ∧ Aside0 (w'.heap[De]? = some (.cells #[(.slice A1_0 l1_0.length c1_0)] 45 (0, 0))) ∧ Aside0 (Below w.heap.size w w'))
  case atStart => exact ⟨(0), (by first | rfl | simp | simp [*]), H', ⟨Nat.le_refl _⟩, Cmp.bq D1, Cmp.bq D4, ⟨Cmp.g HB.out⟩⟩
  case round =>
   clear H'
   (try clear c1); (try clear c2); (try clear p2); (try clear c3); (try clear c3b0); (try clear c3b1); (try clear c3b2); (try clear c6); (try clear Dj); (try clear Dk); (try clear Dl); (try clear Dm)
   obtain ⟨D0, rfl, HA, HK1, D1, D4, HB⟩ := hrel
   cases gk with
   | zero => exact absurd HA.out (by simp [impl_EqualBundles.l0])
   | succ k1 =>
    have H := HA.out; clear HA
    simp only [impl_EqualBundles.l0] at H
    by_cases c9 : D0 < (l0_0.length : Int)
    ·rw [if_pos c9] at H
     have c9b0 : decide (D0 < (l0_0.length : Int)) = true := decide_eq_true c9
     clear c9
     by_cases c10 : 0 ≤ D0
     ·rw [if_pos c10] at H; have c10b0 : decide (0 ≤ D0) = true := decide_eq_true c10; clear c10
      by_cases c11 : D0 < (l0_0.length : Int)
      ·rw [if_pos c11] at H
       have c11b0 : decide (D0 < (l0_0.length : Int)) = true := decide_eq_true c11
       clear c11
       by_cases c12 : D0 < (l1_0.length : Int)
       ·rw [if_pos c12] at H
        have c12b0 : decide (D0 < (l1_0.length : Int)) = true := decide_eq_true c12
        clear c12
        by_cases c13 : (!(((rd_T94 l0_0 D0).f0) == ((rd_T94 l1_0 D0).f0)) || (!(((rd_T94 l0_0 D0).f1) == ((rd_T94 l1_0 D0).f1)) || (!(((rd_T94 l0_0 D0).f2) == ((rd_T94 l1_0 D0).f2)) || (!(((rd_T94 l0_0 D0).f3) == ((rd_T94 l1_0 D0).f3)))))) = true
        ·rw [if_pos c13] at H
         have c13b0 : (!(((rd_T94 l0_0 D0).f0) == ((rd_T94 l1_0 D0).f0)) || (!(((rd_T94 l0_0 D0).f1) == ((rd_T94 l1_0 D0).f1)) || (!(((rd_T94 l0_0 D0).f2) == ((rd_T94 l1_0 D0).f2)) || (!(((rd_T94 l0_0 D0).f3) == ((rd_T94 l1_0 D0).f3)))))) = true := c13
         clear c13
         obtain rfl := Option.some.inj H
         have E7 := D2.out; have E9 := D3.out
         have Dz : wr.cell? ⟨Dd, 0, none⟩ = some (.slice A0_0 l0_0.length c0_0) := (blk_cell D1.out 0).trans rfl
         have E3 := blk_frozen D1.out 0
         have p665 : 0 ≤ (D0 : Int) := of_decide_eq_true Cmp.d
         have q665 : D0 < (l0_0.length : Int) := of_decide_eq_true Cmp.d
         obtain ⟨Dv, e665, D5, D6, D7, D8⟩ := at_T94 Dr.out D0 p665 q665
         cases e665
         replace D5 := Cmp.hc HB D5
         replace D6 := Cmp.hc HB D6
         replace D7 := Cmp.hc HB D7
         replace D8 := Cmp.hc HB D8
         replace p665 := eq_true p665; replace q665 := eq_true q665
         have E0 : wr.cell? ⟨De, 0, none⟩ = some (.slice A1_0 l1_0.length c1_0) := (blk_cell D4.out 0).trans rfl
         have E4 := blk_frozen D4.out 0
         have p666 : 0 ≤ (D0 : Int) := of_decide_eq_true Cmp.d
         have q666 : D0 < (l1_0.length : Int) := of_decide_eq_true Cmp.d
         obtain ⟨Dw, e666, D9, Da, Db, Dc⟩ := at_T94 Ds.out D0 p666 q666
         cases e666
         replace D9 := Cmp.hc HB D9
         replace Da := Cmp.hc HB Da
         replace Db := Cmp.hc HB Db
         replace Dc := Cmp.hc HB Dc
         replace p666 := eq_true p666; replace q666 := eq_true q666
         go_wp2
         repeat (go_quiet (fail); try go_wp2)
         go_ret
         exact ⟨by first | rfl | (simp [errW_none, errW_some] <;> rfl) | (simp [*, errW_none, errW_some] <;> rfl), Cmp.g HB.out⟩
        ·rw [if_neg c13] at H
         have c13b0 : (!(((rd_T94 l0_0 D0).f0) == ((rd_T94 l1_0 D0).f0)) || (!(((rd_T94 l0_0 D0).f1) == ((rd_T94 l1_0 D0).f1)) || (!(((rd_T94 l0_0 D0).f2) == ((rd_T94 l1_0 D0).f2)) || (!(((rd_T94 l0_0 D0).f3) == ((rd_T94 l1_0 D0).f3)))))) = false := by simpa using c13
         clear c13
         have H' := Cmp.A H
         clear H; have E8 := D2.out; have Ea := D3.out
         have E1 : wr.cell? ⟨Dd, 0, none⟩ = some (.slice A0_0 l0_0.length c0_0) := (blk_cell D1.out 0).trans rfl
         have E5 := blk_frozen D1.out 0
         have p665 : 0 ≤ (D0 : Int) := of_decide_eq_true Cmp.d
         have q665 : D0 < (l0_0.length : Int) := of_decide_eq_true Cmp.d
         obtain ⟨Dv, e665, D5, D6, D7, D8⟩ := at_T94 Dr.out D0 p665 q665
         cases e665
         replace D5 := Cmp.hc HB D5
         replace D6 := Cmp.hc HB D6
         replace D7 := Cmp.hc HB D7
         replace D8 := Cmp.hc HB D8
         replace p665 := eq_true p665; replace q665 := eq_true q665
         have E2 : wr.cell? ⟨De, 0, none⟩ = some (.slice A1_0 l1_0.length c1_0) := (blk_cell D4.out 0).trans rfl
         have E6 := blk_frozen D4.out 0
         have p666 : 0 ≤ (D0 : Int) := of_decide_eq_true Cmp.d
         have q666 : D0 < (l1_0.length : Int) := of_decide_eq_true Cmp.d
         obtain ⟨Dw, e666, D9, Da, Db, Dc⟩ := at_T94 Ds.out D0 p666 q666
         cases e666
         replace D9 := Cmp.hc HB D9
         replace Da := Cmp.hc HB Da
         replace Db := Cmp.hc HB Db
         replace Dc := Cmp.hc HB Dc
         replace p666 := eq_true p666; replace q666 := eq_true q666
         go_wp2
         repeat (go_quiet (fail); try go_wp2)
         go_roundg k1
         case measure => have := HK1.out; omega
         case rel => exact ⟨(wrap64 (D0 + 1)), (by first | rfl | simp | simp [*]), H', ⟨by have := HK1.out; omega⟩, Cmp.bq D1, Cmp.bq D4, ⟨Cmp.g HB.out⟩⟩
       ·rw [if_neg c12] at H; exact absurd H (by simp)
      ·rw [if_neg c11] at H; exact absurd H (by simp)
     ·rw [if_neg c10] at H; exact absurd H (by simp)
    ·rw [if_neg c9] at H
     have c9b0 : decide (D0 < (l0_0.length : Int)) = false := decide_eq_false c9
     clear c9
     obtain rfl := Option.some.inj H
     go_wp2
     repeat (go_quiet (fail); try go_wp2)
     go_ret
     exact ⟨by first | rfl | (simp [errW_none, errW_some] <;> rfl) | (simp [*, errW_none, errW_some] <;> rfl), Cmp.g HB.out⟩
 ·rw [if_neg c3] at H
  have c3b0 : ((l0_0.length : Int) == (l1_0.length : Int)) = false := beq_eq_false_iff_ne.mpr c3
  have c3b1 : ((l0_0.length : Int) != (l1_0.length : Int)) = true := bne_iff_ne.mpr c3
  have c3b2 : (l0_0.length == l1_0.length) = false := by first | simpa using c3 | (simp at c3 ⊢; omega)
  obtain rfl := Option.some.inj H
  go_enter Try.func26, Try.ntmps26
  go_wp2_with (first | ((with_reducible refine gate_dst (N := 2) rfl ?_); refine box_event ?hg (N := 2) ?hd (cs := #[.slice A0_0 l0_0.length c0_0]) (t := 45) ?hr ?_; (case hd => rfl); (case hg => rfl); (case hr => first | (go_simp; done) | (go_simp; rfl)); intro Dd hg w20 hbox hb; have D1 := Cmp.A (hbox); have Dh := Cmp.gw hg HB; have Df := Cmp.gw hg HB; replace HB := Cmp.bs HB hb; clear hb hbox hg) | ((with_reducible refine gate_dst (N := 3) rfl ?_); refine box_event ?hg (N := 3) ?hd (cs := #[.slice A1_0 l1_0.length c1_0]) (t := 45) ?hr ?_; (case hd => rfl); (case hg => rfl); (case hr => first | (go_simp; done) | (go_simp; rfl)); intro De hg w21 hbox hb; have D4 := Cmp.A (hbox); have Di := Cmp.gw hg HB; have Dg := Cmp.gw hg HB; have D2 := Cmp.nl hg D1; have D3 := Cmp.ng hg D1; replace D1 := Cmp.be D1 hb; replace HB := Cmp.bs HB hb; clear hb hbox hg; have Dt := D2.out; have Du := D3.out; have Dn := Cmp.c0 D1; have Dp := blk_frozen D1.out 0; have Do := Cmp.c0 D4; have Dq := blk_frozen D4.out 0))
  repeat (go_quiet (first | ((with_reducible refine gate_dst (N := 2) rfl ?_); refine box_event ?hg (N := 2) ?hd (cs := #[.slice A0_0 l0_0.length c0_0]) (t := 45) ?hr ?_; (case hd => rfl); (case hg => rfl); (case hr => first | (go_simp; done) | (go_simp; rfl)); intro Dd hg w20 hbox hb; have D1 := Cmp.A (hbox); have Dh := Cmp.gw hg HB; have Df := Cmp.gw hg HB; replace HB := Cmp.bs HB hb; clear hb hbox hg) | ((with_reducible refine gate_dst (N := 3) rfl ?_); refine box_event ?hg (N := 3) ?hd (cs := #[.slice A1_0 l1_0.length c1_0]) (t := 45) ?hr ?_; (case hd => rfl); (case hg => rfl); (case hr => first | (go_simp; done) | (go_simp; rfl)); intro De hg w21 hbox hb; have D4 := Cmp.A (hbox); have Di := Cmp.gw hg HB; have Dg := Cmp.gw hg HB; have D2 := Cmp.nl hg D1; have D3 := Cmp.ng hg D1; replace D1 := Cmp.be D1 hb; replace HB := Cmp.bs HB hb; clear hb hbox hg; have Dt := D2.out; have Du := D3.out; have Dn := Cmp.c0 D1; have Dp := blk_frozen D1.out 0; have Do := Cmp.c0 D4; have Dq := blk_frozen D4.out 0)); try go_wp2_with (first | ((with_reducible refine gate_dst (N := 2) rfl ?_); refine box_event ?hg (N := 2) ?hd (cs := #[.slice A0_0 l0_0.length c0_0]) (t := 45) ?hr ?_; (case hd => rfl); (case hg => rfl); (case hr => first | (go_simp; done) | (go_simp; rfl)); intro Dd hg w20 hbox hb; have D1 := Cmp.A (hbox); have Dh := Cmp.gw hg HB; have Df := Cmp.gw hg HB; replace HB := Cmp.bs HB hb; clear hb hbox hg) | ((with_reducible refine gate_dst (N := 3) rfl ?_); refine box_event ?hg (N := 3) ?hd (cs := #[.slice A1_0 l1_0.length c1_0]) (t := 45) ?hr ?_; (case hd => rfl); (case hg => rfl); (case hr => first | (go_simp; done) | (go_simp; rfl)); intro De hg w21 hbox hb; have D4 := Cmp.A (hbox); have Di := Cmp.gw hg HB; have Dg := Cmp.gw hg HB; have D2 := Cmp.nl hg D1; have D3 := Cmp.ng hg D1; replace D1 := Cmp.be D1 hb; replace HB := Cmp.bs HB hb; clear hb hbox hg; have Dt := D2.out; have Du := D3.out; have Dn := Cmp.c0 D1; have Dp := blk_frozen D1.out 0; have Do := Cmp.c0 D4; have Dq := blk_frozen D4.out 0)))
  go_ret
  exact ⟨by first | rfl | (simp [errW_none, errW_some] <;> rfl) | (simp [*, errW_none, errW_some] <;> rfl), Cmp.g HB.out⟩
/-! ### impl_IsFresher: function 27 -/
def impl_IsFresher.f (a0_0 : Int) (a0_1 : Int) (l0_2 : List Int) (a0_3 : Int) (a1_0 : Int) (a1_1 : Int) (l1_2 : List Int) (a1_3 : Int) : Option (Bool) := if a0_0 > a1_0 then (some true) else (if a0_0 = a1_0 then (some (decide (a0_1 > a1_1))) else (some false))
set_option maxHeartbeats 8000000 in
set_option maxRecDepth 100000 in
theorem impl_IsFresher.calls (a0_0 : Int) (a0_1 : Int) (A0_2 : Option Addr) (c0_2 : Nat) (l0_2 : List Int) (a0_3 : Int) (a1_0 : Int) (a1_1 : Int) (A1_2 : Option Addr) (c1_2 : Nat) (l1_2 : List Int) (a1_3 : Int) (r : Bool) (w : World) (hr0_2 : Kd.C (Kd.int .u8) w A0_2 l0_2.length l0_2) (hc0_2 : l0_2.length ≤ c0_2) (hr1_2 : Kd.C (Kd.int .u8) w A1_2 l1_2.length l1_2) (hc1_2 : l1_2.length ≤ c1_2) (h : impl_IsFresher.f a0_0 a0_1 l0_2 a0_3 a1_0 a1_1 l1_2 a1_3 = some r) :
    Calls Try.prog 27 #[.agg #[.int .i64 a0_0, .int .i64 a0_1, .slice A0_2 l0_2.length c0_2, .int .i64 a0_3], .agg #[.int .i64 a1_0, .int .i64 a1_1, .slice A1_2 l1_2.length c1_2, .int .i64 a1_3]] w fun e w' => e = .returned (.bool r) ∧ Below w.heap.size w w' := by
 have hu49 := Try.underlying49; have Em := Cmp.A hr0_2; have HC0_2 := Cmp.A hc0_2; clear hr0_2 hc0_2; have En := Cmp.A hr1_2; have HC1_2 := Cmp.A hc1_2; clear hr1_2 hc1_2
 have HB := Cmp.A (Below.refl w.heap.size w)
 have H : (if a0_0 > a1_0 then (some true) else (if a0_0 = a1_0 then (some (decide (a0_1 > a1_1))) else (some false))) = some r := h
 clear h
 by_cases c3 : a0_0 > a1_0
 ·rw [if_pos c3] at H; have c3b0 : decide (a1_0 < a0_0) = true := decide_eq_true c3; clear c3
  obtain rfl := Option.some.inj H
  go_enter Try.func27, Try.ntmps27
  go_wp2_with (first | ((with_reducible refine gate_dst (N := 2) rfl ?_); refine box_event ?hg (N := 2) ?hd (cs := #[.int .i64 a0_0, .int .i64 a0_1, .slice A0_2 l0_2.length c0_2, .int .i64 a0_3]) (t := 49) ?hr ?_; (case hd => rfl); (case hg => rfl); (case hr => first | (go_simp; done) | (go_simp; rfl)); intro D8 hg w4 hbox hb; have D0 := Cmp.A (hbox); have D6 := Cmp.gw hg HB; have D4 := Cmp.gw hg HB; replace HB := Cmp.bs HB hb; clear hb hbox hg) | ((with_reducible refine gate_dst (N := 3) rfl ?_); refine box_event ?hg (N := 3) ?hd (cs := #[.int .i64 a1_0, .int .i64 a1_1, .slice A1_2 l1_2.length c1_2, .int .i64 a1_3]) (t := 49) ?hr ?_; (case hd => rfl); (case hg => rfl); (case hr => first | (go_simp; done) | (go_simp; rfl)); intro D9 hg w5 hbox hb; have D1 := Cmp.A (hbox); have D7 := Cmp.gw hg HB; have D5 := Cmp.gw hg HB; have D2 := Cmp.nl hg D0; have D3 := Cmp.ng hg D0; replace D0 := Cmp.be D0 hb; replace HB := Cmp.bs HB hb; clear hb hbox hg; have Es := D2.out; have Et := D3.out; obtain ⟨E6, E7, E8, E9⟩ := Cmp.q4 D0; obtain ⟨Ee, Ef, Eg, Eh⟩ := Cmp.f4 D0; obtain ⟨Ea, Eb, Ec, Ed⟩ := Cmp.q4 D1; obtain ⟨Ei, Ej, Ek, El⟩ := Cmp.f4 D1))
  go_ret
  exact ⟨by first | rfl | (simp [errW_none, errW_some] <;> rfl) | (simp [*, errW_none, errW_some] <;> rfl), Cmp.g HB.out⟩
 ·rw [if_neg c3] at H; have c3b0 : decide (a1_0 < a0_0) = false := decide_eq_false c3; clear c3
  by_cases c9 : a0_0 = a1_0
  ·rw [if_pos c9] at H; have c9b0 : (a0_0 == a1_0) = true := beq_iff_eq.mpr c9; have c9b1 : (a0_0 != a1_0) = false := bne_eq_false_iff_eq.mpr c9; clear c9
   obtain rfl := Option.some.inj H
   go_enter Try.func27, Try.ntmps27
   go_wp2_with (first | ((with_reducible refine gate_dst (N := 2) rfl ?_); refine box_event ?hg (N := 2) ?hd (cs := #[.int .i64 a0_0, .int .i64 a0_1, .slice A0_2 l0_2.length c0_2, .int .i64 a0_3]) (t := 49) ?hr ?_; (case hd => rfl); (case hg => rfl); (case hr => first | (go_simp; done) | (go_simp; rfl)); intro D8 hg w10 hbox hb; have D0 := Cmp.A (hbox); have D6 := Cmp.gw hg HB; have D4 := Cmp.gw hg HB; replace HB := Cmp.bs HB hb; clear hb hbox hg) | ((with_reducible refine gate_dst (N := 3) rfl ?_); refine box_event ?hg (N := 3) ?hd (cs := #[.int .i64 a1_0, .int .i64 a1_1, .slice A1_2 l1_2.length c1_2, .int .i64 a1_3]) (t := 49) ?hr ?_; (case hd => rfl); (case hg => rfl); (case hr => first | (go_simp; done) | (go_simp; rfl)); intro D9 hg w11 hbox hb; have D1 := Cmp.A (hbox); have D7 := Cmp.gw hg HB; have D5 := Cmp.gw hg HB; have D2 := Cmp.nl hg D0; have D3 := Cmp.ng hg D0; replace D0 := Cmp.be D0 hb; replace HB := Cmp.bs HB hb; clear hb hbox hg; have Eo := D2.out; have Eq := D3.out; obtain ⟨Da, Db, Dc, Dd⟩ := Cmp.q4 D0; obtain ⟨Dq, Dr, Ds, Dt⟩ := Cmp.f4 D0; obtain ⟨De, Df, Dg, Dh⟩ := Cmp.q4 D1; obtain ⟨Du, Dv, Dw, Dx⟩ := Cmp.f4 D1))
   go_ret
   exact ⟨by first | rfl | (simp [errW_none, errW_some] <;> rfl) | (simp [*, errW_none, errW_some] <;> rfl), Cmp.g HB.out⟩
  ·rw [if_neg c9] at H; have c9b0 : (a0_0 == a1_0) = false := beq_eq_false_iff_ne.mpr c9; have c9b1 : (a0_0 != a1_0) = true := bne_iff_ne.mpr c9
   obtain rfl := Option.some.inj H
   go_enter Try.func27, Try.ntmps27
   go_wp2_with (first | ((with_reducible refine gate_dst (N := 2) rfl ?_); refine box_event ?hg (N := 2) ?hd (cs := #[.int .i64 a0_0, .int .i64 a0_1, .slice A0_2 l0_2.length c0_2, .int .i64 a0_3]) (t := 49) ?hr ?_; (case hd => rfl); (case hg => rfl); (case hr => first | (go_simp; done) | (go_simp; rfl)); intro D8 hg w15 hbox hb; have D0 := Cmp.A (hbox); have D6 := Cmp.gw hg HB; have D4 := Cmp.gw hg HB; replace HB := Cmp.bs HB hb; clear hb hbox hg) | ((with_reducible refine gate_dst (N := 3) rfl ?_); refine box_event ?hg (N := 3) ?hd (cs := #[.int .i64 a1_0, .int .i64 a1_1, .slice A1_2 l1_2.length c1_2, .int .i64 a1_3]) (t := 49) ?hr ?_; (case hd => rfl); (case hg => rfl); (case hr => first | (go_simp; done) | (go_simp; rfl)); intro D9 hg w16 hbox hb; have D1 := Cmp.A (hbox); have D7 := Cmp.gw hg HB; have D5 := Cmp.gw hg HB; have D2 := Cmp.nl hg D0; have D3 := Cmp.ng hg D0; replace D0 := Cmp.be D0 hb; replace HB := Cmp.bs HB hb; clear hb hbox hg; have Ep := D2.out; have Er := D3.out; obtain ⟨Di, Dj, Dk, Dl⟩ := Cmp.q4 D0; obtain ⟨Dy, Dz, E0, E1⟩ := Cmp.f4 D0; obtain ⟨Dm, Dn, Do, Dp⟩ := Cmp.q4 D1; obtain ⟨E2, E3, E4, E5⟩ := Cmp.f4 D1))
   go_ret
   exact ⟨by first | rfl | (simp [errW_none, errW_some] <;> rfl) | (simp [*, errW_none, errW_some] <;> rfl), Cmp.g HB.out⟩
/-! ### impl_EqualBytes: function 76 -/
def impl_EqualBytes.f (l0 : List Int) (l1 : List Int) : Option (Bool) := some ((strOfNums l0).toList == (strOfNums l1).toList)
set_option maxHeartbeats 8000000 in
set_option maxRecDepth 100000 in
theorem impl_EqualBytes.calls (A0 : Option Addr) (c0 : Nat) (l0 : List Int) (A1 : Option Addr) (c1 : Nat) (l1 : List Int) (r : Bool) (w : World) (hr0 : Kd.C (Kd.int .u8) w A0 l0.length l0) (hc0 : l0.length ≤ c0) (hr1 : Kd.C (Kd.int .u8) w A1 l1.length l1) (hc1 : l1.length ≤ c1) (h : impl_EqualBytes.f l0 l1 = some r) :
    Calls Try.prog 76 #[.slice A0 l0.length c0, .slice A1 l1.length c1] w fun e w' => e = .returned (.bool r) ∧ Drawn0 w w' := by
 have HR0 := Cmp.A hr0; have HC0 := Cmp.A hc0; clear hr0 hc0; have HR1 := Cmp.A hr1; have HC1 := Cmp.A hc1; clear hr1 hc1
 have H : (some ((strOfNums l0).toList == (strOfNums l1).toList)) = some r := h
 clear h
 obtain rfl := Option.some.inj H
 have hcv3 := Kd.C_string (P := Try.prog) (A := A0) (c := c0) Try.underlying22 Try.underlying5 Try.underlying9 HR0.out
 have hcv4 := Kd.C_string (P := Try.prog) (A := A1) (c := c1) Try.underlying22 Try.underlying5 Try.underlying9 HR1.out
 go_enter Try.func76, Try.ntmps76
 go_wp2
 go_ret
 exact ⟨by first | rfl | (simp; done) | (simp [*]; done), by repeat (first | exact Drawn0.refl _ | apply Drawn0.step)⟩
/-! ### impl_EqualSealed: function 28 -/
def impl_EqualSealed.f (a0_0 : Int) (a0_1 : Int) (l0_2 : List Int) (a0_3 : Int) (a1_0 : Int) (a1_1 : Int) (l1_2 : List Int) (a1_3 : Int) : Option (Bool) := if a0_0 = a1_0 then (if a0_1 = a1_1 then ((impl_EqualBytes.f l0_2 l1_2).bind fun t671 => (if t671 = true then (some (a0_3 == a1_3)) else (some false))) else (some false)) else (some false)
set_option maxHeartbeats 8000000 in
set_option maxRecDepth 100000 in
theorem impl_EqualSealed.calls (a0_0 : Int) (a0_1 : Int) (A0_2 : Option Addr) (c0_2 : Nat) (l0_2 : List Int) (a0_3 : Int) (a1_0 : Int) (a1_1 : Int) (A1_2 : Option Addr) (c1_2 : Nat) (l1_2 : List Int) (a1_3 : Int) (r : Bool) (w : World) (hr0_2 : Kd.C (Kd.int .u8) w A0_2 l0_2.length l0_2) (hc0_2 : l0_2.length ≤ c0_2) (hr1_2 : Kd.C (Kd.int .u8) w A1_2 l1_2.length l1_2) (hc1_2 : l1_2.length ≤ c1_2) (h : impl_EqualSealed.f a0_0 a0_1 l0_2 a0_3 a1_0 a1_1 l1_2 a1_3 = some r) :
    Calls Try.prog 28 #[.agg #[.int .i64 a0_0, .int .i64 a0_1, .slice A0_2 l0_2.length c0_2, .int .i64 a0_3], .agg #[.int .i64 a1_0, .int .i64 a1_1, .slice A1_2 l1_2.length c1_2, .int .i64 a1_3]] w fun e w' => e = .returned (.bool r) ∧ Below w.heap.size w w' := by
 have hu49 := Try.underlying49; have Da := Cmp.A hr0_2; have HC0_2 := Cmp.A hc0_2; clear hr0_2 hc0_2; have Db := Cmp.A hr1_2; have HC1_2 := Cmp.A hc1_2; clear hr1_2 hc1_2
 have HB := Cmp.A (Below.refl w.heap.size w)
 have H : (if a0_0 = a1_0 then (if a0_1 = a1_1 then ((impl_EqualBytes.f l0_2 l1_2).bind fun Dc => (if Dc = true then (some (a0_3 == a1_3)) else (some false))) else (some false)) else (some false)) = some r := h
 clear h
 by_cases c3 : a0_0 = a1_0
 ·rw [if_pos c3] at H; have c3b0 : (a0_0 == a1_0) = true := beq_iff_eq.mpr c3; have c3b1 : (a0_0 != a1_0) = false := bne_eq_false_iff_eq.mpr c3; clear c3
  by_cases c4 : a0_1 = a1_1
  ·rw [if_pos c4] at H; have c4b0 : (a0_1 == a1_1) = true := beq_iff_eq.mpr c4; have c4b1 : (a0_1 != a1_1) = false := bne_eq_false_iff_eq.mpr c4; clear c4; replace H := Option.bind_eq_some_iff.mp H; obtain ⟨Dc, F5, H⟩ := H; (try dsimp only at H); have A5 := Cmp.A F5; clear F5
   by_cases c6 : Dc = true
   ·subst c6; rw [if_pos rfl] at H
    obtain rfl := Option.some.inj H
    go_enter Try.func28, Try.ntmps28
    go_wp2_with (first | ((with_reducible refine gate_dst (N := 2) rfl ?_); refine box_event ?hg (N := 2) ?hd (cs := #[.int .i64 a0_0, .int .i64 a0_1, .slice A0_2 l0_2.length c0_2, .int .i64 a0_3]) (t := 49) ?hr ?_; (case hd => rfl); (case hg => rfl); (case hr => first | (go_simp; done) | (go_simp; rfl)); intro D8 hg w7 hbox hb; have D0 := Cmp.A (hbox); have D6 := Cmp.gw hg HB; have D4 := Cmp.gw hg HB; replace HB := Cmp.bs HB hb; clear hb hbox hg) | ((with_reducible refine gate_dst (N := 3) rfl ?_); refine box_event ?hg (N := 3) ?hd (cs := #[.int .i64 a1_0, .int .i64 a1_1, .slice A1_2 l1_2.length c1_2, .int .i64 a1_3]) (t := 49) ?hr ?_; (case hd => rfl); (case hg => rfl); (case hr => first | (go_simp; done) | (go_simp; rfl)); intro D9 hg w8 hbox hb; have D1 := Cmp.A (hbox); have D7 := Cmp.gw hg HB; have D5 := Cmp.gw hg HB; have D2 := Cmp.nl hg D0; have D3 := Cmp.ng hg D0; replace D0 := Cmp.be D0 hb; replace HB := Cmp.bs HB hb; clear hb hbox hg; have Fc := D2.out; have Fd := D3.out; obtain ⟨Dd, De, Df, Dg⟩ := Cmp.q4 D0; obtain ⟨E9, Ea, Eb, Ec⟩ := Cmp.f4 D0; obtain ⟨Dh, Di, Dj, Dk⟩ := Cmp.q4 D1; obtain ⟨Ed, Ee, Ef, Eg⟩ := Cmp.f4 D1) | (go_at_call 76; (with_reducible refine (impl_EqualBytes.calls _ _ l0_2 _ _ l1_2 true _ ?side1 ?side2 ?side3 ?side4 A5.out).mono ?_); (case side1 => exact Cmp.rc (Kd.C_below Da.out HB.out)); (case side2 => exact HC0_2.out); (case side3 => exact Cmp.rc (Kd.C_below Db.out HB.out)); (case side4 => exact HC1_2.out); rintro e w' ⟨rfl, ⟨nd, rfl⟩⟩))
    go_ret
    exact ⟨by first | rfl | (simp [errW_none, errW_some] <;> rfl) | (simp [*, errW_none, errW_some] <;> rfl), Cmp.g HB.out⟩
   ·replace c6 := Bool.eq_false_iff.mpr c6
    subst c6
    have H1 : (some false) = some r := by rw [if_neg (show ¬ (false = true) by decide)] at H; exact H
    clear H; have H := H1; clear H1
    obtain rfl := Option.some.inj H
    go_enter Try.func28, Try.ntmps28
    go_wp2_with (first | ((with_reducible refine gate_dst (N := 2) rfl ?_); refine box_event ?hg (N := 2) ?hd (cs := #[.int .i64 a0_0, .int .i64 a0_1, .slice A0_2 l0_2.length c0_2, .int .i64 a0_3]) (t := 49) ?hr ?_; (case hd => rfl); (case hg => rfl); (case hr => first | (go_simp; done) | (go_simp; rfl)); intro D8 hg w12 hbox hb; have D0 := Cmp.A (hbox); have D6 := Cmp.gw hg HB; have D4 := Cmp.gw hg HB; replace HB := Cmp.bs HB hb; clear hb hbox hg) | ((with_reducible refine gate_dst (N := 3) rfl ?_); refine box_event ?hg (N := 3) ?hd (cs := #[.int .i64 a1_0, .int .i64 a1_1, .slice A1_2 l1_2.length c1_2, .int .i64 a1_3]) (t := 49) ?hr ?_; (case hd => rfl); (case hg => rfl); (case hr => first | (go_simp; done) | (go_simp; rfl)); intro D9 hg w13 hbox hb; have D1 := Cmp.A (hbox); have D7 := Cmp.gw hg HB; have D5 := Cmp.gw hg HB; have D2 := Cmp.nl hg D0; have D3 := Cmp.ng hg D0; replace D0 := Cmp.be D0 hb; replace HB := Cmp.bs HB hb; clear hb hbox hg; have F6 := D2.out; have F9 := D3.out; obtain ⟨Dl, Dm, Dn, Do⟩ := Cmp.q4 D0; obtain ⟨Eh, Ei, Ej, Ek⟩ := Cmp.f4 D0; obtain ⟨Dp, Dq, Dr, Ds⟩ := Cmp.q4 D1; obtain ⟨El, Em, En, Eo⟩ := Cmp.f4 D1) | (go_at_call 76; (with_reducible refine (impl_EqualBytes.calls _ _ l0_2 _ _ l1_2 false _ ?side1 ?side2 ?side3 ?side4 A5.out).mono ?_); (case side1 => exact Cmp.rc (Kd.C_below Da.out HB.out)); (case side2 => exact HC0_2.out); (case side3 => exact Cmp.rc (Kd.C_below Db.out HB.out)); (case side4 => exact HC1_2.out); rintro e w' ⟨rfl, ⟨nd, rfl⟩⟩))
    go_ret
    exact ⟨by first | rfl | (simp [errW_none, errW_some] <;> rfl) | (simp [*, errW_none, errW_some] <;> rfl), Cmp.g HB.out⟩
  ·rw [if_neg c4] at H; have c4b0 : (a0_1 == a1_1) = false := beq_eq_false_iff_ne.mpr c4; have c4b1 : (a0_1 != a1_1) = true := bne_iff_ne.mpr c4
   obtain rfl := Option.some.inj H
   go_enter Try.func28, Try.ntmps28
   go_wp2_with (first | ((with_reducible refine gate_dst (N := 2) rfl ?_); refine box_event ?hg (N := 2) ?hd (cs := #[.int .i64 a0_0, .int .i64 a0_1, .slice A0_2 l0_2.length c0_2, .int .i64 a0_3]) (t := 49) ?hr ?_; (case hd => rfl); (case hg => rfl); (case hr => first | (go_simp; done) | (go_simp; rfl)); intro D8 hg w17 hbox hb; have D0 := Cmp.A (hbox); have D6 := Cmp.gw hg HB; have D4 := Cmp.gw hg HB; replace HB := Cmp.bs HB hb; clear hb hbox hg) | ((with_reducible refine gate_dst (N := 3) rfl ?_); refine box_event ?hg (N := 3) ?hd (cs := #[.int .i64 a1_0, .int .i64 a1_1, .slice A1_2 l1_2.length c1_2, .int .i64 a1_3]) (t := 49) ?hr ?_; (case hd => rfl); (case hg => rfl); (case hr => first | (go_simp; done) | (go_simp; rfl)); intro D9 hg w18 hbox hb; have D1 := Cmp.A (hbox); have D7 := Cmp.gw hg HB; have D5 := Cmp.gw hg HB; have D2 := Cmp.nl hg D0; have D3 := Cmp.ng hg D0; replace D0 := Cmp.be D0 hb; replace HB := Cmp.bs HB hb; clear hb hbox hg; have F7 := D2.out; have Fa := D3.out; obtain ⟨Dt, Du, Dv, Dw⟩ := Cmp.q4 D0; obtain ⟨Ep, Eq, Er, Es⟩ := Cmp.f4 D0; obtain ⟨Dx, Dy, Dz, E0⟩ := Cmp.q4 D1; obtain ⟨Et, Eu, Ev, Ew⟩ := Cmp.f4 D1))
   go_ret
   exact ⟨by first | rfl | (simp [errW_none, errW_some] <;> rfl) | (simp [*, errW_none, errW_some] <;> rfl), Cmp.g HB.out⟩
 ·rw [if_neg c3] at H; have c3b0 : (a0_0 == a1_0) = false := beq_eq_false_iff_ne.mpr c3; have c3b1 : (a0_0 != a1_0) = true := bne_iff_ne.mpr c3
  obtain rfl := Option.some.inj H
  go_enter Try.func28, Try.ntmps28
  go_wp2_with (first | ((with_reducible refine gate_dst (N := 2) rfl ?_); refine box_event ?hg (N := 2) ?hd (cs := #[.int .i64 a0_0, .int .i64 a0_1, .slice A0_2 l0_2.length c0_2, .int .i64 a0_3]) (t := 49) ?hr ?_; (case hd => rfl); (case hg => rfl); (case hr => first | (go_simp; done) | (go_simp; rfl)); intro D8 hg w22 hbox hb; have D0 := Cmp.A (hbox); have D6 := Cmp.gw hg HB; have D4 := Cmp.gw hg HB; replace HB := Cmp.bs HB hb; clear hb hbox hg) | ((with_reducible refine gate_dst (N := 3) rfl ?_); refine box_event ?hg (N := 3) ?hd (cs := #[.int .i64 a1_0, .int .i64 a1_1, .slice A1_2 l1_2.length c1_2, .int .i64 a1_3]) (t := 49) ?hr ?_; (case hd => rfl); (case hg => rfl); (case hr => first | (go_simp; done) | (go_simp; rfl)); intro D9 hg w23 hbox hb; have D1 := Cmp.A (hbox); have D7 := Cmp.gw hg HB; have D5 := Cmp.gw hg HB; have D2 := Cmp.nl hg D0; have D3 := Cmp.ng hg D0; replace D0 := Cmp.be D0 hb; replace HB := Cmp.bs HB hb; clear hb hbox hg; have F8 := D2.out; have Fb := D3.out; obtain ⟨E1, E2, E3, E4⟩ := Cmp.q4 D0; obtain ⟨Ex, Ey, Ez, F0⟩ := Cmp.f4 D0; obtain ⟨E5, E6, E7, E8⟩ := Cmp.q4 D1; obtain ⟨F1, F2, F3, F4⟩ := Cmp.f4 D1))
  go_ret
  exact ⟨by first | rfl | (simp [errW_none, errW_some] <;> rfl) | (simp [*, errW_none, errW_some] <;> rfl), Cmp.g HB.out⟩
end Go.Proofs.Ytpgjecknkmmnhaa.PFnSealedBundles

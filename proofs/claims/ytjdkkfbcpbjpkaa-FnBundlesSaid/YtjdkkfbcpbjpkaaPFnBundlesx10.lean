/- Printed functions that the law FnBundles uses: out of print.sh, the law's own function taken out. No condition. -/
import Derived.Test.YtjdkkfbcpbjpkaaCmp
import Derived.Test.YtjdkkfbcpbjpkaaPFnBundlesx0
import Derived.Test.YtjdkkfbcpbjpkaaPFnBundlesx1
import Derived.Test.YtjdkkfbcpbjpkaaPFnBundlesx2
import Derived.Test.YtjdkkfbcpbjpkaaPFnBundlesx6
import Derived.Test.YtjdkkfbcpbjpkaaPFnBundlesx7
import Derived.Test.YtjdkkfbcpbjpkaaPFnBundlesx9
namespace Go.Proofs.Ytjdkkfbcpbjpkaa.PFnBundles
open Go.Proofs.Ytjdkkfbcpbjpkaa
open Go.RowKit Go.Proofs.YtjdkkfbcpbjpkaaW.PrintWords Go.Proofs.YtjdkkfbcpbjpkaaW.PrintLast Go.Proofs.YtjdkkfbcpbjpkaaW.PrintMore
attribute [local go_sem] max2_int min2_int max_two min_two max_three min_three max_four min_four   -- for this text's walks alone
set_option linter.unusedVariables false
set_option linter.unusedSimpArgs false
attribute [local go_sem high] eqA116
/-! ### impl_EqualBundles: function 38 -/
def impl_EqualBundles.l0 : Nat → Int → Int → List (S116) → List (S116) → Option (Bool)
  | 0, _, _, _, _ => none
  | k + 1, x15, x16, x349000, x350000 => if x16 < x15 then (if 0 ≤ x16 then (if x16 < (x349000.length : Int) then (if x16 < (x350000.length : Int) then (if (!(((rd_T116 x349000 x16).f0) == ((rd_T116 x350000 x16).f0)) || (!(((rd_T116 x349000 x16).f1) == ((rd_T116 x350000 x16).f1)) || (!(((rd_T116 x349000 x16).f2) == ((rd_T116 x350000 x16).f2)) || (!(((rd_T116 x349000 x16).f3) == ((rd_T116 x350000 x16).f3)))))) = true then (some false) else (impl_EqualBundles.l0 k x15 (wrap64 (x16 + 1)) x349000 x350000)) else (none)) else (none)) else (none)) else (some true)
def impl_EqualBundles.f (k : Nat) (l0_0 : List (S116)) (l1_0 : List (S116)) : Option (Bool) := if (l0_0.length : Int) = (l1_0.length : Int) then (impl_EqualBundles.l0 k (l0_0.length : Int) 0 l0_0 l1_0) else (some false)
theorem impl_EqualBundles.mono_l : ∀ k, (∀ y0 y1 y2 y3, LeO (impl_EqualBundles.l0 k y0 y1 y2 y3) (impl_EqualBundles.l0 (k + 1) y0 y1 y2 y3))
 | 0 => fun _ _ _ _ r h => by simp [impl_EqualBundles.l0] at h
 | k + 1 => by
    have ih0 := impl_EqualBundles.mono_l k
    · intro y0 y1 y2 y3
      unfold impl_EqualBundles.l0
      repeat' first
 | (with_reducible exact ih0 _ _ _ _)
 | (with_reducible exact LeO.refl _)
 | (with_reducible exact LeO.none _)
 | (with_reducible refine LeO.ite ?_ ?_)
 | (with_reducible refine LeO.bind ?_ (fun _ => ?_))
theorem impl_EqualBundles.mono : ∀ a0 a1 k, LeO (impl_EqualBundles.f k a0 a1) (impl_EqualBundles.f (k + 1) a0 a1) := by
  intro a0 a1 k
  have ih0 := impl_EqualBundles.mono_l k
  unfold impl_EqualBundles.f
  repeat' first
 | (with_reducible exact ih0 _ _ _ _)
 | (with_reducible exact LeO.refl _)
 | (with_reducible exact LeO.none _)
 | (with_reducible refine LeO.ite ?_ ?_)
 | (with_reducible refine LeO.bind ?_ (fun _ => ?_))
set_option maxHeartbeats 8000000 in
set_option maxRecDepth 100000 in
theorem impl_EqualBundles.calls (k : Nat) (A0_0 : Option Addr) (c0_0 : Nat) (l0_0 : List (S116)) (A1_0 : Option Addr) (c1_0 : Nat) (l1_0 : List (S116)) (r : Bool) (w : World) (hr0_0 : Kd.C k116 w A0_0 l0_0.length l0_0) (hc0_0 : l0_0.length ≤ c0_0) (hr1_0 : Kd.C k116 w A1_0 l1_0.length l1_0) (hc1_0 : l1_0.length ≤ c1_0) (h : impl_EqualBundles.f k l0_0 l1_0 = some r) :
    Calls Try.prog 38 #[.agg #[.slice A0_0 l0_0.length c0_0], .agg #[.slice A1_0 l1_0.length c1_0]] w fun e w' => e = .returned (.bool r) ∧ Below w.heap.size w w' := by
 have hu73 := Try.underlying73; have hu116 := Try.underlying116; have Dr := Cmp.A hr0_0; have HC0_0 := Cmp.A hc0_0; clear hr0_0 hc0_0; have Ds := Cmp.A hr1_0; have HC1_0 := Cmp.A hc1_0; clear hr1_0 hc1_0
 have HB := Cmp.A (Below.refl w.heap.size w)
 have H : (if (l0_0.length : Int) = (l1_0.length : Int) then (impl_EqualBundles.l0 k (l0_0.length : Int) 0 l0_0 l1_0) else (some false)) = some r := h
 clear h
 by_cases c3 : (l0_0.length : Int) = (l1_0.length : Int)
 ·rw [if_pos c3] at H
  have c3b0 : ((l0_0.length : Int) == (l1_0.length : Int)) = true := beq_iff_eq.mpr c3
  have c3b1 : ((l0_0.length : Int) != (l1_0.length : Int)) = false := bne_eq_false_iff_eq.mpr c3
  have c3b2 : (l0_0.length == l1_0.length) = true := by first | simpa using c3 | (simp at c3 ⊢; omega)
  clear c3
  have H' := Cmp.A H
  clear H
  go_enter Try.func38, Try.ntmps38
  go_wp2_with (first | ((with_reducible refine gate_dst (N := 2) rfl ?_); refine box_event ?hg (N := 2) ?hd (cs := #[.slice A0_0 l0_0.length c0_0]) (t := 73) ?hr ?_; (case hd => rfl); (case hg => rfl); (case hr => first | (go_simp; done) | (go_simp; rfl)); intro Dd hg w4 hbox hb; have D1 := Cmp.A (hbox); have Dh := Cmp.gw hg HB; have Df := Cmp.gw hg HB; replace HB := Cmp.bs HB hb; clear hb hbox hg) | ((with_reducible refine gate_dst (N := 3) rfl ?_); refine box_event ?hg (N := 3) ?hd (cs := #[.slice A1_0 l1_0.length c1_0]) (t := 73) ?hr ?_; (case hd => rfl); (case hg => rfl); (case hr => first | (go_simp; done) | (go_simp; rfl)); intro De hg w5 hbox hb; have D4 := Cmp.A (hbox); have Di := Cmp.gw hg HB; have Dg := Cmp.gw hg HB; have D2 := Cmp.nl hg D1; have D3 := Cmp.ng hg D1; replace D1 := Cmp.be D1 hb; replace HB := Cmp.bs HB hb; clear hb hbox hg; have Dx := D2.out; have Dy := D3.out; have Dj := Cmp.c0 D1; have Dl := blk_frozen D1.out 0; have Dk := Cmp.c0 D4; have Dm := blk_frozen D4.out 0))
  repeat (go_quiet (first | ((with_reducible refine gate_dst (N := 2) rfl ?_); refine box_event ?hg (N := 2) ?hd (cs := #[.slice A0_0 l0_0.length c0_0]) (t := 73) ?hr ?_; (case hd => rfl); (case hg => rfl); (case hr => first | (go_simp; done) | (go_simp; rfl)); intro Dd hg w4 hbox hb; have D1 := Cmp.A (hbox); have Dh := Cmp.gw hg HB; have Df := Cmp.gw hg HB; replace HB := Cmp.bs HB hb; clear hb hbox hg) | ((with_reducible refine gate_dst (N := 3) rfl ?_); refine box_event ?hg (N := 3) ?hd (cs := #[.slice A1_0 l1_0.length c1_0]) (t := 73) ?hr ?_; (case hd => rfl); (case hg => rfl); (case hr => first | (go_simp; done) | (go_simp; rfl)); intro De hg w5 hbox hb; have D4 := Cmp.A (hbox); have Di := Cmp.gw hg HB; have Dg := Cmp.gw hg HB; have D2 := Cmp.nl hg D1; have D3 := Cmp.ng hg D1; replace D1 := Cmp.be D1 hb; replace HB := Cmp.bs HB hb; clear hb hbox hg; have Dx := D2.out; have Dy := D3.out; have Dj := Cmp.c0 D1; have Dl := blk_frozen D1.out 0; have Dk := Cmp.c0 D4; have Dm := blk_frozen D4.out 0)); try go_wp2_with (first | ((with_reducible refine gate_dst (N := 2) rfl ?_); refine box_event ?hg (N := 2) ?hd (cs := #[.slice A0_0 l0_0.length c0_0]) (t := 73) ?hr ?_; (case hd => rfl); (case hg => rfl); (case hr => first | (go_simp; done) | (go_simp; rfl)); intro Dd hg w4 hbox hb; have D1 := Cmp.A (hbox); have Dh := Cmp.gw hg HB; have Df := Cmp.gw hg HB; replace HB := Cmp.bs HB hb; clear hb hbox hg) | ((with_reducible refine gate_dst (N := 3) rfl ?_); refine box_event ?hg (N := 3) ?hd (cs := #[.slice A1_0 l1_0.length c1_0]) (t := 73) ?hr ?_; (case hd => rfl); (case hg => rfl); (case hr => first | (go_simp; done) | (go_simp; rfl)); intro De hg w5 hbox hb; have D4 := Cmp.A (hbox); have Di := Cmp.gw hg HB; have Dg := Cmp.gw hg HB; have D2 := Cmp.nl hg D1; have D3 := Cmp.ng hg D1; replace D1 := Cmp.be D1 hb; replace HB := Cmp.bs HB hb; clear hb hbox hg; have Dx := D2.out; have Dy := D3.out; have Dj := Cmp.c0 D1; have Dl := blk_frozen D1.out 0; have Dk := Cmp.c0 D4; have Dm := blk_frozen D4.out 0)))
  go_loopg [16] k (fun kq v16 w' => ∃ (D0 : Int), v16 = .int .i64 D0 ∧ Aside0 (impl_EqualBundles.l0 kq (l0_0.length : Int) D0 l0_0 l1_0 = some r) ∧ Aside0 (kq ≤ k) ∧ Aside0 (w'.heap[Dd]? = some (.cells #[(.slice A0_0 l0_0.length c0_0)] 73 (0, 0))) ∧ Aside0 (w'.heap[De]? = some (.cells #[(.slice A1_0 l1_0.length c1_0)] 73 (0, 0))) ∧ Aside0 (Below w.heap.size w w'))
  case atStart => exact ⟨(0), (by first | rfl | simp | simp [*]), H', ⟨Nat.le_refl _⟩, Cmp.bq D1, Cmp.bq D4, ⟨Cmp.g HB.out⟩⟩
  case round =>
   clear H'
   (try clear c1); (try clear p2); (try clear c3); (try clear c3b0); (try clear c3b1); (try clear c3b2); (try clear c6); (try clear Dj); (try clear Dk); (try clear Dl); (try clear Dm)
   obtain ⟨D0, rfl, HA, HK1, D1, D4, HB⟩ := hrel
   cases gk with
   | zero => exact absurd HA.out (by simp [impl_EqualBundles.l0])
   | succ k1 =>
    have H := HA.out; clear HA
    simp only [impl_EqualBundles.l0] at H
    by_cases c9 : D0 < (l0_0.length : Int)
    ·rw [if_pos c9] at H
     have c9b0 : decide (D0 < (l0_0.length : Int)) = true := decide_eq_true c9
     clear c9
     by_cases c10 : 0 ≤ D0
     ·rw [if_pos c10] at H; have c10b0 : decide (0 ≤ D0) = true := decide_eq_true c10; clear c10
      by_cases c11 : D0 < (l0_0.length : Int)
      ·rw [if_pos c11] at H
       have c11b0 : decide (D0 < (l0_0.length : Int)) = true := decide_eq_true c11
       clear c11
       by_cases c12 : D0 < (l1_0.length : Int)
       ·rw [if_pos c12] at H
        have c12b0 : decide (D0 < (l1_0.length : Int)) = true := decide_eq_true c12
        clear c12
        by_cases c13 : (!(((rd_T116 l0_0 D0).f0) == ((rd_T116 l1_0 D0).f0)) || (!(((rd_T116 l0_0 D0).f1) == ((rd_T116 l1_0 D0).f1)) || (!(((rd_T116 l0_0 D0).f2) == ((rd_T116 l1_0 D0).f2)) || (!(((rd_T116 l0_0 D0).f3) == ((rd_T116 l1_0 D0).f3)))))) = true
        ·rw [if_pos c13] at H
         have c13b0 : (!(((rd_T116 l0_0 D0).f0) == ((rd_T116 l1_0 D0).f0)) || (!(((rd_T116 l0_0 D0).f1) == ((rd_T116 l1_0 D0).f1)) || (!(((rd_T116 l0_0 D0).f2) == ((rd_T116 l1_0 D0).f2)) || (!(((rd_T116 l0_0 D0).f3) == ((rd_T116 l1_0 D0).f3)))))) = true := c13
         clear c13
         obtain rfl := Option.some.inj H
         have E7 := D2.out; have E9 := D3.out
         have Dz : wr.cell? ⟨Dd, 0, none⟩ = some (.slice A0_0 l0_0.length c0_0) := (blk_cell D1.out 0).trans rfl
         have E3 := blk_frozen D1.out 0
         have p350 : 0 ≤ (D0 : Int) := of_decide_eq_true Cmp.d
         have q350 : D0 < (l0_0.length : Int) := of_decide_eq_true Cmp.d
         obtain ⟨Dv, e350, D5, D6, D7, D8⟩ := at_T116 Dr.out D0 p350 q350
         cases e350
         replace D5 := Cmp.hc HB D5
         replace D6 := Cmp.hc HB D6
         replace D7 := Cmp.hc HB D7
         replace D8 := Cmp.hc HB D8
         replace p350 := eq_true p350; replace q350 := eq_true q350
         have E0 : wr.cell? ⟨De, 0, none⟩ = some (.slice A1_0 l1_0.length c1_0) := (blk_cell D4.out 0).trans rfl
         have E4 := blk_frozen D4.out 0
         have p351 : 0 ≤ (D0 : Int) := of_decide_eq_true Cmp.d
         have q351 : D0 < (l1_0.length : Int) := of_decide_eq_true Cmp.d
         obtain ⟨Dw, e351, D9, Da, Db, Dc⟩ := at_T116 Ds.out D0 p351 q351
         cases e351
         replace D9 := Cmp.hc HB D9
         replace Da := Cmp.hc HB Da
         replace Db := Cmp.hc HB Db
         replace Dc := Cmp.hc HB Dc
         replace p351 := eq_true p351; replace q351 := eq_true q351
         go_wp2
         repeat (go_quiet (fail); try go_wp2)
         go_ret
         exact ⟨by first | rfl | (simp [errW_none, errW_some] <;> rfl) | (simp [*, errW_none, errW_some] <;> rfl), Cmp.g HB.out⟩
        ·rw [if_neg c13] at H
         have c13b0 : (!(((rd_T116 l0_0 D0).f0) == ((rd_T116 l1_0 D0).f0)) || (!(((rd_T116 l0_0 D0).f1) == ((rd_T116 l1_0 D0).f1)) || (!(((rd_T116 l0_0 D0).f2) == ((rd_T116 l1_0 D0).f2)) || (!(((rd_T116 l0_0 D0).f3) == ((rd_T116 l1_0 D0).f3)))))) = false := by simpa using c13
         clear c13
         have H' := Cmp.A H
         clear H; have E8 := D2.out; have Ea := D3.out
         have E1 : wr.cell? ⟨Dd, 0, none⟩ = some (.slice A0_0 l0_0.length c0_0) := (blk_cell D1.out 0).trans rfl
         have E5 := blk_frozen D1.out 0
         have p350 : 0 ≤ (D0 : Int) := of_decide_eq_true Cmp.d
         have q350 : D0 < (l0_0.length : Int) := of_decide_eq_true Cmp.d
         obtain ⟨Dv, e350, D5, D6, D7, D8⟩ := at_T116 Dr.out D0 p350 q350
         cases e350
         replace D5 := Cmp.hc HB D5
         replace D6 := Cmp.hc HB D6
         replace D7 := Cmp.hc HB D7
         replace D8 := Cmp.hc HB D8
         replace p350 := eq_true p350; replace q350 := eq_true q350
         have E2 : wr.cell? ⟨De, 0, none⟩ = some (.slice A1_0 l1_0.length c1_0) := (blk_cell D4.out 0).trans rfl
         have E6 := blk_frozen D4.out 0
         have p351 : 0 ≤ (D0 : Int) := of_decide_eq_true Cmp.d
         have q351 : D0 < (l1_0.length : Int) := of_decide_eq_true Cmp.d
         obtain ⟨Dw, e351, D9, Da, Db, Dc⟩ := at_T116 Ds.out D0 p351 q351
         cases e351
         replace D9 := Cmp.hc HB D9
         replace Da := Cmp.hc HB Da
         replace Db := Cmp.hc HB Db
         replace Dc := Cmp.hc HB Dc
         replace p351 := eq_true p351; replace q351 := eq_true q351
         go_wp2
         repeat (go_quiet (fail); try go_wp2)
         go_roundg k1
         case measure => have := HK1.out; omega
         case rel => exact ⟨(wrap64 (D0 + 1)), (by first | rfl | simp | simp [*]), H', ⟨by have := HK1.out; omega⟩, Cmp.bq D1, Cmp.bq D4, ⟨Cmp.g HB.out⟩⟩
       ·rw [if_neg c12] at H; exact absurd H (by simp)
      ·rw [if_neg c11] at H; exact absurd H (by simp)
     ·rw [if_neg c10] at H; exact absurd H (by simp)
    ·rw [if_neg c9] at H
     have c9b0 : decide (D0 < (l0_0.length : Int)) = false := decide_eq_false c9
     clear c9
     obtain rfl := Option.some.inj H
     go_wp2
     repeat (go_quiet (fail); try go_wp2)
     go_ret
     exact ⟨by first | rfl | (simp [errW_none, errW_some] <;> rfl) | (simp [*, errW_none, errW_some] <;> rfl), Cmp.g HB.out⟩
 ·rw [if_neg c3] at H
  have c3b0 : ((l0_0.length : Int) == (l1_0.length : Int)) = false := beq_eq_false_iff_ne.mpr c3
  have c3b1 : ((l0_0.length : Int) != (l1_0.length : Int)) = true := bne_iff_ne.mpr c3
  have c3b2 : (l0_0.length == l1_0.length) = false := by first | simpa using c3 | (simp at c3 ⊢; omega)
  obtain rfl := Option.some.inj H
  go_enter Try.func38, Try.ntmps38
  go_wp2_with (first | ((with_reducible refine gate_dst (N := 2) rfl ?_); refine box_event ?hg (N := 2) ?hd (cs := #[.slice A0_0 l0_0.length c0_0]) (t := 73) ?hr ?_; (case hd => rfl); (case hg => rfl); (case hr => first | (go_simp; done) | (go_simp; rfl)); intro Dd hg w20 hbox hb; have D1 := Cmp.A (hbox); have Dh := Cmp.gw hg HB; have Df := Cmp.gw hg HB; replace HB := Cmp.bs HB hb; clear hb hbox hg) | ((with_reducible refine gate_dst (N := 3) rfl ?_); refine box_event ?hg (N := 3) ?hd (cs := #[.slice A1_0 l1_0.length c1_0]) (t := 73) ?hr ?_; (case hd => rfl); (case hg => rfl); (case hr => first | (go_simp; done) | (go_simp; rfl)); intro De hg w21 hbox hb; have D4 := Cmp.A (hbox); have Di := Cmp.gw hg HB; have Dg := Cmp.gw hg HB; have D2 := Cmp.nl hg D1; have D3 := Cmp.ng hg D1; replace D1 := Cmp.be D1 hb; replace HB := Cmp.bs HB hb; clear hb hbox hg; have Dt := D2.out; have Du := D3.out; have Dn := Cmp.c0 D1; have Dp := blk_frozen D1.out 0; have Do := Cmp.c0 D4; have Dq := blk_frozen D4.out 0))
  repeat (go_quiet (first | ((with_reducible refine gate_dst (N := 2) rfl ?_); refine box_event ?hg (N := 2) ?hd (cs := #[.slice A0_0 l0_0.length c0_0]) (t := 73) ?hr ?_; (case hd => rfl); (case hg => rfl); (case hr => first | (go_simp; done) | (go_simp; rfl)); intro Dd hg w20 hbox hb; have D1 := Cmp.A (hbox); have Dh := Cmp.gw hg HB; have Df := Cmp.gw hg HB; replace HB := Cmp.bs HB hb; clear hb hbox hg) | ((with_reducible refine gate_dst (N := 3) rfl ?_); refine box_event ?hg (N := 3) ?hd (cs := #[.slice A1_0 l1_0.length c1_0]) (t := 73) ?hr ?_; (case hd => rfl); (case hg => rfl); (case hr => first | (go_simp; done) | (go_simp; rfl)); intro De hg w21 hbox hb; have D4 := Cmp.A (hbox); have Di := Cmp.gw hg HB; have Dg := Cmp.gw hg HB; have D2 := Cmp.nl hg D1; have D3 := Cmp.ng hg D1; replace D1 := Cmp.be D1 hb; replace HB := Cmp.bs HB hb; clear hb hbox hg; have Dt := D2.out; have Du := D3.out; have Dn := Cmp.c0 D1; have Dp := blk_frozen D1.out 0; have Do := Cmp.c0 D4; have Dq := blk_frozen D4.out 0)); try go_wp2_with (first | ((with_reducible refine gate_dst (N := 2) rfl ?_); refine box_event ?hg (N := 2) ?hd (cs := #[.slice A0_0 l0_0.length c0_0]) (t := 73) ?hr ?_; (case hd => rfl); (case hg => rfl); (case hr => first | (go_simp; done) | (go_simp; rfl)); intro Dd hg w20 hbox hb; have D1 := Cmp.A (hbox); have Dh := Cmp.gw hg HB; have Df := Cmp.gw hg HB; replace HB := Cmp.bs HB hb; clear hb hbox hg) | ((with_reducible refine gate_dst (N := 3) rfl ?_); refine box_event ?hg (N := 3) ?hd (cs := #[.slice A1_0 l1_0.length c1_0]) (t := 73) ?hr ?_; (case hd => rfl); (case hg => rfl); (case hr => first | (go_simp; done) | (go_simp; rfl)); intro De hg w21 hbox hb; have D4 := Cmp.A (hbox); have Di := Cmp.gw hg HB; have Dg := Cmp.gw hg HB; have D2 := Cmp.nl hg D1; have D3 := Cmp.ng hg D1; replace D1 := Cmp.be D1 hb; replace HB := Cmp.bs HB hb; clear hb hbox hg; have Dt := D2.out; have Du := D3.out; have Dn := Cmp.c0 D1; have Dp := blk_frozen D1.out 0; have Do := Cmp.c0 D4; have Dq := blk_frozen D4.out 0)))
  go_ret
  exact ⟨by first | rfl | (simp [errW_none, errW_some] <;> rfl) | (simp [*, errW_none, errW_some] <;> rfl), Cmp.g HB.out⟩
/-! ### impl_IncludesBundle: function 39 -/
def impl_IncludesBundle.f (k : Nat) (l0_0 : List (S116)) (l1_0 : List (S116)) : Option (Bool) := (impl_MergeBundles.f k l0_0 l1_0).bind fun bt354 => (if bt354.2 = true then ((impl_EqualBundles.f k bt354.1 l0_0).bind fun t359 => (some t359)) else (some false))
theorem impl_IncludesBundle.mono : ∀ a0 a1 k, LeO (impl_IncludesBundle.f k a0 a1) (impl_IncludesBundle.f (k + 1) a0 a1) := by
  intro a0 a1 k
  unfold impl_IncludesBundle.f
  repeat' first
 | (with_reducible exact impl_EqualBundles.mono _ _ _)
 | (with_reducible exact impl_MergeBundles.mono _ _ _)
 | (with_reducible exact LeO.refl _)
 | (with_reducible exact LeO.none _)
 | (with_reducible refine LeO.ite ?_ ?_)
 | (with_reducible refine LeO.bind ?_ (fun _ => ?_))
set_option maxHeartbeats 8000000 in
set_option maxRecDepth 100000 in
theorem impl_IncludesBundle.calls (k : Nat) (A0_0 : Option Addr) (c0_0 : Nat) (l0_0 : List (S116)) (A1_0 : Option Addr) (c1_0 : Nat) (l1_0 : List (S116)) (r : Bool) (w : World) (hr0_0 : Kd.C k116 w A0_0 l0_0.length l0_0) (hc0_0 : l0_0.length ≤ c0_0) (hr1_0 : Kd.C k116 w A1_0 l1_0.length l1_0) (hc1_0 : l1_0.length ≤ c1_0) (h : impl_IncludesBundle.f k l0_0 l1_0 = some r) :
    Calls Try.prog 39 #[.agg #[.slice A0_0 l0_0.length c0_0], .agg #[.slice A1_0 l1_0.length c1_0]] w fun e w' => e = .returned (.bool r) ∧ Below w.heap.size w w' := by
 have hu73 := Try.underlying73; have Dc := Cmp.A hr0_0; have HC0_0 := Cmp.A hc0_0; clear hr0_0 hc0_0; have De := Cmp.A hr1_0; have HC1_0 := Cmp.A hc1_0; clear hr1_0 hc1_0
 have HB := Cmp.A (Below.refl w.heap.size w)
 have H : ((impl_MergeBundles.f k l0_0 l1_0).bind fun bt354 => (if bt354.2 = true then ((impl_EqualBundles.f k bt354.1 l0_0).bind fun Di => (some Di)) else (some false))) = some r := h
 clear h; replace H := Option.bind_eq_some_iff.mp H; obtain ⟨⟨Da, E6⟩, E7, H⟩ := H; (try dsimp only at H); have A3 := Cmp.A E7; clear E7
 by_cases c4 : E6 = true
 ·subst c4; rw [if_pos rfl] at H; replace H := Option.bind_eq_some_iff.mp H; obtain ⟨Di, E8, H⟩ := H; (try dsimp only at H); have A5 := Cmp.A E8; clear E8
  obtain rfl := Option.some.inj H
  go_enter Try.func39, Try.ntmps39
  go_wp2_with (first | ((with_reducible refine gate_dst (N := 2) rfl ?_); refine box_event ?hg (N := 2) ?hd (cs := #[.slice A0_0 l0_0.length c0_0]) (t := 73) ?hr ?_; (case hd => rfl); (case hg => rfl); (case hr => first | (go_simp; done) | (go_simp; rfl)); intro Df hg w6 hbox hb; have D0 := Cmp.A (hbox); have Dm := Cmp.gw hg HB; have Dj := Cmp.gw hg HB; replace HB := Cmp.bs HB hb; clear hb hbox hg) | ((with_reducible refine gate_dst (N := 3) rfl ?_); refine box_event ?hg (N := 3) ?hd (cs := #[.slice A1_0 l1_0.length c1_0]) (t := 73) ?hr ?_; (case hd => rfl); (case hg => rfl); (case hr => first | (go_simp; done) | (go_simp; rfl)); intro Dg hg w7 hbox hb; have D1 := Cmp.A (hbox); have Dn := Cmp.gw hg HB; have Dk := Cmp.gw hg HB; have D4 := Cmp.nl hg D0; have D6 := Cmp.ng hg D0; replace D0 := Cmp.be D0 hb; replace HB := Cmp.bs HB hb; clear hb hbox hg; have El := D4.out; have Em := D6.out; have E4 := Cmp.c0 D0; have E5 := blk_frozen D0.out 0; have Dq := Cmp.c0 D1; have Dw := blk_frozen D1.out 0) | ((with_reducible refine gate_callee (f := 37) rfl ?_); refine goesL_ (some 10) rfl rfl Try.func37 (by kernel_rfl) rfl #[.agg #[.slice A0_0 l0_0.length c0_0], .agg #[.slice A1_0 l1_0.length c1_0]] rfl Cmp.q ?_; (with_reducible refine (impl_MergeBundles.calls k _ _ l0_0 _ _ l1_0 Da true _ ?side1 ?side2 ?side3 ?side4 A3.out).mono ?_); (case side1 => exact Cmp.rc (Kd.C_below Dc.out HB.out)); (case side2 => exact HC0_0.out); (case side3 => exact Cmp.rc (Kd.C_below De.out HB.out)); (case side4 => exact HC1_0.out); rintro e w11 ⟨v355, rfl, Dp, hb⟩; refine ⟨_, rfl, ?_⟩; have D2 := Cmp.A (Kd.R_lower Dp (below_size (Cmp.g HB.out))); replace D0 := Cmp.be D0 hb; replace D1 := Cmp.be D1 hb; replace HB := Cmp.bs HB hb; (try clear hb); (try clear hb2); (try clear hk); (try clear hi); (try clear Dp)) | ((with_reducible refine gate_dst (N := 5) rfl ?_); refine box_event ?hg (N := 5) ?hd (cs := #[.slice none 0 0]) (t := 73) ?hr ?_; (case hd => rfl); (case hg => rfl); (case hr => first | (go_simp; done) | (go_simp; rfl)); intro Db hg w12 hbox hb; have D3 := Cmp.A (hbox); have Do := Cmp.gw hg HB; have Dl := Cmp.gw hg HB; have D5 := Cmp.nl hg D0; have D8 := Cmp.ng hg D0; have D7 := Cmp.nl hg D1; have D9 := Cmp.ng hg D1; replace D2 := Cmp.A (Kd.R_below (Cmp.rr D2.out) hb); replace D0 := Cmp.be D0 hb; replace D1 := Cmp.be D1 hb; replace HB := Cmp.bs HB hb; clear hb hbox hg; obtain ⟨Dh, Dd, E2⟩ := Kd.R_slice D2.out; subst E2; have E9 := D8.out; have Ee := D5.out; have Ea := D9.out; have Ef := D7.out; have Dr := Cmp.c0 D3; have Dx := blk_frozen D3.out 0; have Ds := Cmp.c0 D0; have Dy := blk_frozen D0.out 0) | (go_at_call 38; (with_reducible refine (impl_EqualBundles.calls k _ _ Da _ _ l0_0 Di _ ?side1 ?side2 ?side3 ?side4 A5.out).mono ?_); (case side1 => refine (Kd.R_reads' (e := 116) (base := w.heap.size) (ok := fun k_ => True) (n := Da.length) (c := Dd) ?_).2.2; exact (Cmp.rm (Kd.R_far (p := ⟨Db, 0, none⟩) (Kd.R_types D2.out D3.out (by decide)) (fun _ hk => hk.2) (.slice Dh Da.length Dd)) (fun _ h_ => h_.1))); (case side2 => exact (Kd.R_reads' D2.out).2.1); (case side3 => exact Kd.C_below Dc.out (Cmp.g HB.out)); (case side4 => exact HC0_0.out); rintro e w18 ⟨rfl, hb⟩; replace D2 := Cmp.A (Kd.R_below (Cmp.rm (Kd.R_far (p := ⟨Db, 0, none⟩) (Kd.R_types D2.out D3.out (by decide)) (fun _ hk => hk.2) (.slice Dh Da.length Dd)) (fun _ h_ => h_.1)) hb); replace D0 := Cmp.A (blk_below (g := Df) (o := .cells #[.slice A0_0 l0_0.length c0_0] 73 (0, 0)) (Cmp.bw D0.out) hb); replace D1 := Cmp.A (blk_below (g := Dg) (o := .cells #[.slice A1_0 l1_0.length c1_0] 73 (0, 0)) (Cmp.bw D1.out) hb); replace D3 := Cmp.A (blk_below (g := Db) (o := .cells #[.slice Dh Da.length Dd] 73 (0, 0)) (Cmp.bw D3.out) hb); replace HB := Cmp.bs HB hb; (try clear hb); (try clear hb2); (try clear hk); (try clear hi)))
  go_ret
  exact ⟨by first | rfl | (simp [errW_none, errW_some] <;> rfl) | (simp [*, errW_none, errW_some] <;> rfl), Cmp.g HB.out⟩
 ·replace c4 := Bool.eq_false_iff.mpr c4
  subst c4
  have H1 : (some false) = some r := by rw [if_neg (show ¬ (false = true) by decide)] at H; exact H
  clear H; have H := H1; clear H1
  obtain rfl := Option.some.inj H
  go_enter Try.func39, Try.ntmps39
  go_wp2_with (first | ((with_reducible refine gate_dst (N := 2) rfl ?_); refine box_event ?hg (N := 2) ?hd (cs := #[.slice A0_0 l0_0.length c0_0]) (t := 73) ?hr ?_; (case hd => rfl); (case hg => rfl); (case hr => first | (go_simp; done) | (go_simp; rfl)); intro Df hg w19 hbox hb; have D0 := Cmp.A (hbox); have Dm := Cmp.gw hg HB; have Dj := Cmp.gw hg HB; replace HB := Cmp.bs HB hb; clear hb hbox hg) | ((with_reducible refine gate_dst (N := 3) rfl ?_); refine box_event ?hg (N := 3) ?hd (cs := #[.slice A1_0 l1_0.length c1_0]) (t := 73) ?hr ?_; (case hd => rfl); (case hg => rfl); (case hr => first | (go_simp; done) | (go_simp; rfl)); intro Dg hg w20 hbox hb; have D1 := Cmp.A (hbox); have Dn := Cmp.gw hg HB; have Dk := Cmp.gw hg HB; have D4 := Cmp.nl hg D0; have D6 := Cmp.ng hg D0; replace D0 := Cmp.be D0 hb; replace HB := Cmp.bs HB hb; clear hb hbox hg; have Eb := D4.out; have Eg := D6.out; have Dt := Cmp.c0 D0; have Dz := blk_frozen D0.out 0; have Du := Cmp.c0 D1; have E0 := blk_frozen D1.out 0) | ((with_reducible refine gate_callee (f := 37) rfl ?_); refine goesL_ (some 10) rfl rfl Try.func37 (by kernel_rfl) rfl #[.agg #[.slice A0_0 l0_0.length c0_0], .agg #[.slice A1_0 l1_0.length c1_0]] rfl Cmp.q ?_; (with_reducible refine (impl_MergeBundles.calls k _ _ l0_0 _ _ l1_0 Da false _ ?side1 ?side2 ?side3 ?side4 A3.out).mono ?_); (case side1 => exact Cmp.rc (Kd.C_below Dc.out HB.out)); (case side2 => exact HC0_0.out); (case side3 => exact Cmp.rc (Kd.C_below De.out HB.out)); (case side4 => exact HC1_0.out); rintro e w24 ⟨v355, rfl, Dp, hb⟩; refine ⟨_, rfl, ?_⟩; have D2 := Cmp.A (Kd.R_lower Dp (below_size (Cmp.g HB.out))); replace D0 := Cmp.be D0 hb; replace D1 := Cmp.be D1 hb; replace HB := Cmp.bs HB hb; (try clear hb); (try clear hb2); (try clear hk); (try clear hi); (try clear Dp)) | ((with_reducible refine gate_dst (N := 5) rfl ?_); refine box_event ?hg (N := 5) ?hd (cs := #[.slice none 0 0]) (t := 73) ?hr ?_; (case hd => rfl); (case hg => rfl); (case hr => first | (go_simp; done) | (go_simp; rfl)); intro Db hg w25 hbox hb; have D3 := Cmp.A (hbox); have Do := Cmp.gw hg HB; have Dl := Cmp.gw hg HB; have D5 := Cmp.nl hg D0; have D8 := Cmp.ng hg D0; have D7 := Cmp.nl hg D1; have D9 := Cmp.ng hg D1; replace D2 := Cmp.A (Kd.R_below (Cmp.rr D2.out) hb); replace D0 := Cmp.be D0 hb; replace D1 := Cmp.be D1 hb; replace HB := Cmp.bs HB hb; clear hb hbox hg; obtain ⟨Ej, Ek, E3⟩ := Kd.R_slice D2.out; subst E3; have Ec := D8.out; have Eh := D5.out; have Ed := D9.out; have Ei := D7.out; have Dv := Cmp.c0 D3; have E1 := blk_frozen D3.out 0))
  go_ret
  exact ⟨by first | rfl | (simp [errW_none, errW_some] <;> rfl) | (simp [*, errW_none, errW_some] <;> rfl), Cmp.g HB.out⟩
end Go.Proofs.Ytjdkkfbcpbjpkaa.PFnBundles

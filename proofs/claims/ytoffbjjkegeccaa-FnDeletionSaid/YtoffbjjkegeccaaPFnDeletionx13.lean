/- Printed functions of the program (by a changed copy of the printer). No condition. -/
import Derived.Test.YtoffbjjkegeccaaCmp
import Derived.Test.YtoffbjjkegeccaaPFnDeletionx0
import Derived.Test.YtoffbjjkegeccaaPFnDeletionx1
namespace Go.Proofs.Ytoffbjjkegeccaa.PFnDeletion
open Go.Proofs.Ytoffbjjkegeccaa
open Go.RowKit Go.Proofs.YtoffbjjkegeccaaW.PrintWords Go.Proofs.YtoffbjjkegeccaaW.PrintLast Go.Proofs.YtoffbjjkegeccaaW.PrintMore
attribute [local go_sem] max2_int min2_int max_two min_two max_three min_three max_four min_four   -- for this text's walks alone
set_option linter.unusedVariables false
set_option linter.unusedSimpArgs false

attribute [local go_sem high] eqA49
/-! ### impl_EqualBundles: function 26 -/
def impl_EqualBundles.l0 : Nat → Int → Int → List (S49) → List (S49) → Option (Bool)
  | 0, _, _, _, _ => none
  | k + 1, x15, x16, x413000, x414000 => if x16 < x15 then (if 0 ≤ x16 then (if x16 < (x413000.length : Int) then (if x16 < (x414000.length : Int) then (if (!(((rd_T49 x413000 x16).f0) == ((rd_T49 x414000 x16).f0)) || (!(((rd_T49 x413000 x16).f1) == ((rd_T49 x414000 x16).f1)) || (!(((rd_T49 x413000 x16).f2) == ((rd_T49 x414000 x16).f2)) || (!(((rd_T49 x413000 x16).f3) == ((rd_T49 x414000 x16).f3)))))) = true then (some false) else (impl_EqualBundles.l0 k x15 (wrap64 (x16 + 1)) x413000 x414000)) else (none)) else (none)) else (none)) else (some true)
def impl_EqualBundles.f (k : Nat) (l0_0 : List (S49)) (l1_0 : List (S49)) : Option (Bool) := if (l0_0.length : Int) = (l1_0.length : Int) then (impl_EqualBundles.l0 k (l0_0.length : Int) 0 l0_0 l1_0) else (some false)
theorem impl_EqualBundles.mono_l : ∀ k, (∀ y0 y1 y2 y3, LeO (impl_EqualBundles.l0 k y0 y1 y2 y3) (impl_EqualBundles.l0 (k + 1) y0 y1 y2 y3))
  | 0 => fun _ _ _ _ r h => by simp [impl_EqualBundles.l0] at h
  | k + 1 => by
    have ih0 := impl_EqualBundles.mono_l k
    · intro y0 y1 y2 y3
      unfold impl_EqualBundles.l0
      repeat' first
      | (with_reducible exact ih0 _ _ _ _)
      | (with_reducible exact LeO.refl _)
      | (with_reducible exact LeO.none _)
      | (with_reducible refine LeO.ite ?_ ?_)
      | (with_reducible refine LeO.bind ?_ (fun _ => ?_))
      | exact ih0 _ _ _ _
      | exact LeO.none _
      | refine LeO.ite ?_ ?_
      | refine LeO.bind ?_ (fun _ => ?_)
theorem impl_EqualBundles.mono : ∀ a0 a1 k, LeO (impl_EqualBundles.f k a0 a1) (impl_EqualBundles.f (k + 1) a0 a1) := by
  intro a0 a1 k
  have ih0 := impl_EqualBundles.mono_l k
  unfold impl_EqualBundles.f
  repeat' first
      | (with_reducible exact ih0 _ _ _ _)
      | (with_reducible exact LeO.refl _)
      | (with_reducible exact LeO.none _)
      | (with_reducible refine LeO.ite ?_ ?_)
      | (with_reducible refine LeO.bind ?_ (fun _ => ?_))
      | exact ih0 _ _ _ _
      | exact LeO.none _
      | refine LeO.ite ?_ ?_
      | refine LeO.bind ?_ (fun _ => ?_)
set_option maxHeartbeats 8000000 in
set_option maxRecDepth 100000 in
theorem impl_EqualBundles.calls (k : Nat) (A0_0 : Option Addr) (c0_0 : Nat) (l0_0 : List (S49)) (A1_0 : Option Addr) (c1_0 : Nat) (l1_0 : List (S49)) (r : Bool) (w : World) (hr0_0 : Kd.C k49 w A0_0 l0_0.length l0_0) (hc0_0 : l0_0.length ≤ c0_0) (hr1_0 : Kd.C k49 w A1_0 l1_0.length l1_0) (hc1_0 : l1_0.length ≤ c1_0) (h : impl_EqualBundles.f k l0_0 l1_0 = some r) :
    Calls Try.prog 26 #[.agg #[.slice A0_0 l0_0.length c0_0], .agg #[.slice A1_0 l1_0.length c1_0]] w fun e w' => e = .returned (.bool r) ∧ Below w.heap.size w w' := by
 have hu41 := Try.underlying41; have hu49 := Try.underlying49; have Dr := Aside0.mk hr0_0; have HC0_0 := Aside0.mk hc0_0; clear hr0_0 hc0_0; have Ds := Aside0.mk hr1_0; have HC1_0 := Aside0.mk hc1_0; clear hr1_0 hc1_0
 have HB := Aside0.mk (Below.refl w.heap.size w)
 have H : (if (l0_0.length : Int) = (l1_0.length : Int) then (impl_EqualBundles.l0 k (l0_0.length : Int) 0 l0_0 l1_0) else (some false)) = some r := h
 clear h
 by_cases c3 : (l0_0.length : Int) = (l1_0.length : Int)
 ·rw [if_pos c3] at H
  have c3b0 : ((l0_0.length : Int) == (l1_0.length : Int)) = true := beq_iff_eq.mpr c3
  have c3b1 : ((l0_0.length : Int) != (l1_0.length : Int)) = false := bne_eq_false_iff_eq.mpr c3
  have c3b2 : (l0_0.length == l1_0.length) = true := by first | simpa using c3 | (simp at c3 ⊢; omega)
  clear c3
  have H' := Aside0.mk H
  clear H
  go_enter Try.func26, Try.ntmps26
  go_wp2_with (first | ((with_reducible refine gate_dst (N := 2) rfl ?_); refine box_event ?hg (N := 2) ?hd (cs := #[.slice A0_0 l0_0.length c0_0]) (t := 41) ?hr ?_; (case hd => rfl); (case hg => rfl); (case hr => first | (go_simp; done) | (go_simp; rfl)); intro Dd hg w4 hbox hb; have D1 := Aside0.mk (hbox); have Dh := Cmp.gw hg HB; have Df := Cmp.gw hg HB; replace HB := Cmp.bs HB hb; clear hb hbox hg) | ((with_reducible refine gate_dst (N := 3) rfl ?_); refine box_event ?hg (N := 3) ?hd (cs := #[.slice A1_0 l1_0.length c1_0]) (t := 41) ?hr ?_; (case hd => rfl); (case hg => rfl); (case hr => first | (go_simp; done) | (go_simp; rfl)); intro De hg w5 hbox hb; have D4 := Aside0.mk (hbox); have Di := Cmp.gw hg HB; have Dg := Cmp.gw hg HB; have D2 := Cmp.nl hg D1; have D3 := Cmp.ng hg D1; replace D1 := Cmp.be D1 hb; replace HB := Cmp.bs HB hb; clear hb hbox hg; have Dx := D2.out; have Dy := D3.out; have Dj := Cmp.c0 D1; have Dl := blk_frozen D1.out 0; have Dk := Cmp.c0 D4; have Dm := blk_frozen D4.out 0))
  repeat (go_quiet (first | ((with_reducible refine gate_dst (N := 2) rfl ?_); refine box_event ?hg (N := 2) ?hd (cs := #[.slice A0_0 l0_0.length c0_0]) (t := 41) ?hr ?_; (case hd => rfl); (case hg => rfl); (case hr => first | (go_simp; done) | (go_simp; rfl)); intro Dd hg w4 hbox hb; have D1 := Aside0.mk (hbox); have Dh := Cmp.gw hg HB; have Df := Cmp.gw hg HB; replace HB := Cmp.bs HB hb; clear hb hbox hg) | ((with_reducible refine gate_dst (N := 3) rfl ?_); refine box_event ?hg (N := 3) ?hd (cs := #[.slice A1_0 l1_0.length c1_0]) (t := 41) ?hr ?_; (case hd => rfl); (case hg => rfl); (case hr => first | (go_simp; done) | (go_simp; rfl)); intro De hg w5 hbox hb; have D4 := Aside0.mk (hbox); have Di := Cmp.gw hg HB; have Dg := Cmp.gw hg HB; have D2 := Cmp.nl hg D1; have D3 := Cmp.ng hg D1; replace D1 := Cmp.be D1 hb; replace HB := Cmp.bs HB hb; clear hb hbox hg; have Dx := D2.out; have Dy := D3.out; have Dj := Cmp.c0 D1; have Dl := blk_frozen D1.out 0; have Dk := Cmp.c0 D4; have Dm := blk_frozen D4.out 0)); try go_wp2_with (first | ((with_reducible refine gate_dst (N := 2) rfl ?_); refine box_event ?hg (N := 2) ?hd (cs := #[.slice A0_0 l0_0.length c0_0]) (t := 41) ?hr ?_; (case hd => rfl); (case hg => rfl); (case hr => first | (go_simp; done) | (go_simp; rfl)); intro Dd hg w4 hbox hb; have D1 := Aside0.mk (hbox); have Dh := Cmp.gw hg HB; have Df := Cmp.gw hg HB; replace HB := Cmp.bs HB hb; clear hb hbox hg) | ((with_reducible refine gate_dst (N := 3) rfl ?_); refine box_event ?hg (N := 3) ?hd (cs := #[.slice A1_0 l1_0.length c1_0]) (t := 41) ?hr ?_; (case hd => rfl); (case hg => rfl); (case hr => first | (go_simp; done) | (go_simp; rfl)); intro De hg w5 hbox hb; have D4 := Aside0.mk (hbox); have Di := Cmp.gw hg HB; have Dg := Cmp.gw hg HB; have D2 := Cmp.nl hg D1; have D3 := Cmp.ng hg D1; replace D1 := Cmp.be D1 hb; replace HB := Cmp.bs HB hb; clear hb hbox hg; have Dx := D2.out; have Dy := D3.out; have Dj := Cmp.c0 D1; have Dl := blk_frozen D1.out 0; have Dk := Cmp.c0 D4; have Dm := blk_frozen D4.out 0)))
  go_loopg [16] k (fun kq v16 w' => ∃ (D0 : Int), v16 = .int .i64 D0 ∧ Aside0 (impl_EqualBundles.l0 kq (l0_0.length : Int) D0 l0_0 l1_0 = some r) ∧ Aside0 (kq ≤ k) ∧ Aside0 (w'.heap[Dd]? = some (.cells #[(.slice A0_0 l0_0.length c0_0)] 41 (0, 0))) ∧ Aside0 (w'.heap[De]? = some (.cells #[(.slice A1_0 l1_0.length c1_0)] 41 (0, 0))) ∧ Aside0 (Below w.heap.size w w'))
  case atStart => exact ⟨(0), (by first | rfl | simp | simp [*]), H', ⟨Nat.le_refl _⟩, Cmp.bq D1, Cmp.bq D4, ⟨Cmp.g HB.out⟩⟩
  case round =>
   clear H'
   (try clear c1); (try clear c2); (try clear p2); (try clear c3); (try clear c3b0); (try clear c3b1); (try clear c3b2); (try clear c6); (try clear Dj); (try clear Dk); (try clear Dl); (try clear Dm)
   obtain ⟨D0, rfl, HA, HK1, D1, D4, HB⟩ := hrel
   cases gk with
   | zero => exact absurd HA.out (by simp [impl_EqualBundles.l0])
   | succ k1 =>
    have H := HA.out; clear HA
    simp only [impl_EqualBundles.l0] at H
    by_cases c9 : D0 < (l0_0.length : Int)
    ·rw [if_pos c9] at H
     have c9b0 : decide (D0 < (l0_0.length : Int)) = true := decide_eq_true c9
     clear c9
     by_cases c10 : 0 ≤ D0
     ·rw [if_pos c10] at H; have c10b0 : decide (0 ≤ D0) = true := decide_eq_true c10; clear c10
      by_cases c11 : D0 < (l0_0.length : Int)
      ·rw [if_pos c11] at H
       have c11b0 : decide (D0 < (l0_0.length : Int)) = true := decide_eq_true c11
       clear c11
       by_cases c12 : D0 < (l1_0.length : Int)
       ·rw [if_pos c12] at H
        have c12b0 : decide (D0 < (l1_0.length : Int)) = true := decide_eq_true c12
        clear c12
        by_cases c13 : (!(((rd_T49 l0_0 D0).f0) == ((rd_T49 l1_0 D0).f0)) || (!(((rd_T49 l0_0 D0).f1) == ((rd_T49 l1_0 D0).f1)) || (!(((rd_T49 l0_0 D0).f2) == ((rd_T49 l1_0 D0).f2)) || (!(((rd_T49 l0_0 D0).f3) == ((rd_T49 l1_0 D0).f3)))))) = true
        ·rw [if_pos c13] at H
         have c13b0 : (!(((rd_T49 l0_0 D0).f0) == ((rd_T49 l1_0 D0).f0)) || (!(((rd_T49 l0_0 D0).f1) == ((rd_T49 l1_0 D0).f1)) || (!(((rd_T49 l0_0 D0).f2) == ((rd_T49 l1_0 D0).f2)) || (!(((rd_T49 l0_0 D0).f3) == ((rd_T49 l1_0 D0).f3)))))) = true := c13
         clear c13
         obtain rfl := Option.some.inj H
         have E7 := D2.out; have E9 := D3.out
         have Dz : wr.cell? ⟨Dd, 0, none⟩ = some (.slice A0_0 l0_0.length c0_0) := (blk_cell D1.out 0).trans rfl
         have E3 := blk_frozen D1.out 0
         have p414 : 0 ≤ (D0 : Int) := of_decide_eq_true Cmp.d
         have q414 : D0 < (l0_0.length : Int) := of_decide_eq_true Cmp.d
         obtain ⟨Dv, e414, D5, D6, D7, D8⟩ := at_T49 Dr.out D0 p414 q414
         cases e414
         replace D5 := Cmp.hc HB D5
         replace D6 := Cmp.hc HB D6
         replace D7 := Cmp.hc HB D7
         replace D8 := Cmp.hc HB D8
         replace p414 := eq_true p414; replace q414 := eq_true q414
         have E0 : wr.cell? ⟨De, 0, none⟩ = some (.slice A1_0 l1_0.length c1_0) := (blk_cell D4.out 0).trans rfl
         have E4 := blk_frozen D4.out 0
         have p415 : 0 ≤ (D0 : Int) := of_decide_eq_true Cmp.d
         have q415 : D0 < (l1_0.length : Int) := of_decide_eq_true Cmp.d
         obtain ⟨Dw, e415, D9, Da, Db, Dc⟩ := at_T49 Ds.out D0 p415 q415
         cases e415
         replace D9 := Cmp.hc HB D9
         replace Da := Cmp.hc HB Da
         replace Db := Cmp.hc HB Db
         replace Dc := Cmp.hc HB Dc
         replace p415 := eq_true p415; replace q415 := eq_true q415
         go_wp2
         repeat (go_quiet (fail); try go_wp2)
         go_ret
         exact ⟨by first | rfl | (simp [errW_none, errW_some] <;> rfl) | (simp [*, errW_none, errW_some] <;> rfl), Cmp.g HB.out⟩
        ·rw [if_neg c13] at H
         have c13b0 : (!(((rd_T49 l0_0 D0).f0) == ((rd_T49 l1_0 D0).f0)) || (!(((rd_T49 l0_0 D0).f1) == ((rd_T49 l1_0 D0).f1)) || (!(((rd_T49 l0_0 D0).f2) == ((rd_T49 l1_0 D0).f2)) || (!(((rd_T49 l0_0 D0).f3) == ((rd_T49 l1_0 D0).f3)))))) = false := by simpa using c13
         clear c13
         have H' := Aside0.mk H
         clear H; have E8 := D2.out; have Ea := D3.out
         have E1 : wr.cell? ⟨Dd, 0, none⟩ = some (.slice A0_0 l0_0.length c0_0) := (blk_cell D1.out 0).trans rfl
         have E5 := blk_frozen D1.out 0
         have p414 : 0 ≤ (D0 : Int) := of_decide_eq_true Cmp.d
         have q414 : D0 < (l0_0.length : Int) := of_decide_eq_true Cmp.d
         obtain ⟨Dv, e414, D5, D6, D7, D8⟩ := at_T49 Dr.out D0 p414 q414
         cases e414
         replace D5 := Cmp.hc HB D5
         replace D6 := Cmp.hc HB D6
         replace D7 := Cmp.hc HB D7
         replace D8 := Cmp.hc HB D8
         replace p414 := eq_true p414; replace q414 := eq_true q414
         have E2 : wr.cell? ⟨De, 0, none⟩ = some (.slice A1_0 l1_0.length c1_0) := (blk_cell D4.out 0).trans rfl
         have E6 := blk_frozen D4.out 0
         have p415 : 0 ≤ (D0 : Int) := of_decide_eq_true Cmp.d
         have q415 : D0 < (l1_0.length : Int) := of_decide_eq_true Cmp.d
         obtain ⟨Dw, e415, D9, Da, Db, Dc⟩ := at_T49 Ds.out D0 p415 q415
         cases e415
         replace D9 := Cmp.hc HB D9
         replace Da := Cmp.hc HB Da
         replace Db := Cmp.hc HB Db
         replace Dc := Cmp.hc HB Dc
         replace p415 := eq_true p415; replace q415 := eq_true q415
         go_wp2
         repeat (go_quiet (fail); try go_wp2)
         go_roundg k1
         case measure => have := HK1.out; omega
         case rel => exact ⟨(wrap64 (D0 + 1)), (by first | rfl | simp | simp [*]), H', ⟨by have := HK1.out; omega⟩, Cmp.bq D1, Cmp.bq D4, ⟨Cmp.g HB.out⟩⟩
       ·rw [if_neg c12] at H; exact absurd H (by simp)
      ·rw [if_neg c11] at H; exact absurd H (by simp)
     ·rw [if_neg c10] at H; exact absurd H (by simp)
    ·rw [if_neg c9] at H
     have c9b0 : decide (D0 < (l0_0.length : Int)) = false := decide_eq_false c9
     clear c9
     obtain rfl := Option.some.inj H
     go_wp2
     repeat (go_quiet (fail); try go_wp2)
     go_ret
     exact ⟨by first | rfl | (simp [errW_none, errW_some] <;> rfl) | (simp [*, errW_none, errW_some] <;> rfl), Cmp.g HB.out⟩
 ·rw [if_neg c3] at H
  have c3b0 : ((l0_0.length : Int) == (l1_0.length : Int)) = false := beq_eq_false_iff_ne.mpr c3
  have c3b1 : ((l0_0.length : Int) != (l1_0.length : Int)) = true := bne_iff_ne.mpr c3
  have c3b2 : (l0_0.length == l1_0.length) = false := by first | simpa using c3 | (simp at c3 ⊢; omega)
  obtain rfl := Option.some.inj H
  go_enter Try.func26, Try.ntmps26
  go_wp2_with (first | ((with_reducible refine gate_dst (N := 2) rfl ?_); refine box_event ?hg (N := 2) ?hd (cs := #[.slice A0_0 l0_0.length c0_0]) (t := 41) ?hr ?_; (case hd => rfl); (case hg => rfl); (case hr => first | (go_simp; done) | (go_simp; rfl)); intro Dd hg w20 hbox hb; have D1 := Aside0.mk (hbox); have Dh := Cmp.gw hg HB; have Df := Cmp.gw hg HB; replace HB := Cmp.bs HB hb; clear hb hbox hg) | ((with_reducible refine gate_dst (N := 3) rfl ?_); refine box_event ?hg (N := 3) ?hd (cs := #[.slice A1_0 l1_0.length c1_0]) (t := 41) ?hr ?_; (case hd => rfl); (case hg => rfl); (case hr => first | (go_simp; done) | (go_simp; rfl)); intro De hg w21 hbox hb; have D4 := Aside0.mk (hbox); have Di := Cmp.gw hg HB; have Dg := Cmp.gw hg HB; have D2 := Cmp.nl hg D1; have D3 := Cmp.ng hg D1; replace D1 := Cmp.be D1 hb; replace HB := Cmp.bs HB hb; clear hb hbox hg; have Dt := D2.out; have Du := D3.out; have Dn := Cmp.c0 D1; have Dp := blk_frozen D1.out 0; have Do := Cmp.c0 D4; have Dq := blk_frozen D4.out 0))
  repeat (go_quiet (first | ((with_reducible refine gate_dst (N := 2) rfl ?_); refine box_event ?hg (N := 2) ?hd (cs := #[.slice A0_0 l0_0.length c0_0]) (t := 41) ?hr ?_; (case hd => rfl); (case hg => rfl); (case hr => first | (go_simp; done) | (go_simp; rfl)); intro Dd hg w20 hbox hb; have D1 := Aside0.mk (hbox); have Dh := Cmp.gw hg HB; have Df := Cmp.gw hg HB; replace HB := Cmp.bs HB hb; clear hb hbox hg) | ((with_reducible refine gate_dst (N := 3) rfl ?_); refine box_event ?hg (N := 3) ?hd (cs := #[.slice A1_0 l1_0.length c1_0]) (t := 41) ?hr ?_; (case hd => rfl); (case hg => rfl); (case hr => first | (go_simp; done) | (go_simp; rfl)); intro De hg w21 hbox hb; have D4 := Aside0.mk (hbox); have Di := Cmp.gw hg HB; have Dg := Cmp.gw hg HB; have D2 := Cmp.nl hg D1; have D3 := Cmp.ng hg D1; replace D1 := Cmp.be D1 hb; replace HB := Cmp.bs HB hb; clear hb hbox hg; have Dt := D2.out; have Du := D3.out; have Dn := Cmp.c0 D1; have Dp := blk_frozen D1.out 0; have Do := Cmp.c0 D4; have Dq := blk_frozen D4.out 0)); try go_wp2_with (first | ((with_reducible refine gate_dst (N := 2) rfl ?_); refine box_event ?hg (N := 2) ?hd (cs := #[.slice A0_0 l0_0.length c0_0]) (t := 41) ?hr ?_; (case hd => rfl); (case hg => rfl); (case hr => first | (go_simp; done) | (go_simp; rfl)); intro Dd hg w20 hbox hb; have D1 := Aside0.mk (hbox); have Dh := Cmp.gw hg HB; have Df := Cmp.gw hg HB; replace HB := Cmp.bs HB hb; clear hb hbox hg) | ((with_reducible refine gate_dst (N := 3) rfl ?_); refine box_event ?hg (N := 3) ?hd (cs := #[.slice A1_0 l1_0.length c1_0]) (t := 41) ?hr ?_; (case hd => rfl); (case hg => rfl); (case hr => first | (go_simp; done) | (go_simp; rfl)); intro De hg w21 hbox hb; have D4 := Aside0.mk (hbox); have Di := Cmp.gw hg HB; have Dg := Cmp.gw hg HB; have D2 := Cmp.nl hg D1; have D3 := Cmp.ng hg D1; replace D1 := Cmp.be D1 hb; replace HB := Cmp.bs HB hb; clear hb hbox hg; have Dt := D2.out; have Du := D3.out; have Dn := Cmp.c0 D1; have Dp := blk_frozen D1.out 0; have Do := Cmp.c0 D4; have Dq := blk_frozen D4.out 0)))
  go_ret
  exact ⟨by first | rfl | (simp [errW_none, errW_some] <;> rfl) | (simp [*, errW_none, errW_some] <;> rfl), Cmp.g HB.out⟩

/-! ### impl_ActiveEntries: function 27 -/
def impl_ActiveEntries.l0 : Nat → List (S49) → List (S49) → Int → Int → Option ((List (S49)))
  | 0, _, _, _, _ => none
  | k + 1, x3, x8, x9, x10 => if x10 < x9 then (if 0 ≤ x10 then (if x10 < (x8.length : Int) then (if ((rd_T49 x8 x10).f3 = true) then (impl_ActiveEntries.l0 k x3 x8 x9 (wrap64 (x10 + 1))) else (if x3.length < 4398046511104 then (impl_ActiveEntries.l0 k (x3 ++ [(⟨(rd_T49 x8 x10).f0, (rd_T49 x8 x10).f1, (rd_T49 x8 x10).f2, (rd_T49 x8 x10).f3⟩ : S49)]) x8 x9 (wrap64 (x10 + 1))) else (none))) else (none)) else (none)) else (some x3)
def impl_ActiveEntries.f (k : Nat) (l0_0 : List (S49)) : Option ((List (S49))) := impl_ActiveEntries.l0 k (([] : List (S49))) l0_0 (l0_0.length : Int) 0
theorem impl_ActiveEntries.mono_l : ∀ k, (∀ y0 y1 y2 y3, LeO (impl_ActiveEntries.l0 k y0 y1 y2 y3) (impl_ActiveEntries.l0 (k + 1) y0 y1 y2 y3))
  | 0 => fun _ _ _ _ r h => by simp [impl_ActiveEntries.l0] at h
  | k + 1 => by
    have ih0 := impl_ActiveEntries.mono_l k
    · intro y0 y1 y2 y3
      unfold impl_ActiveEntries.l0
      repeat' first
      | (with_reducible exact ih0 _ _ _ _)
      | (with_reducible exact LeO.refl _)
      | (with_reducible exact LeO.none _)
      | (with_reducible refine LeO.ite ?_ ?_)
      | (with_reducible refine LeO.bind ?_ (fun _ => ?_))
      | exact ih0 _ _ _ _
      | exact LeO.none _
      | refine LeO.ite ?_ ?_
      | refine LeO.bind ?_ (fun _ => ?_)
theorem impl_ActiveEntries.mono : ∀ a0 k, LeO (impl_ActiveEntries.f k a0) (impl_ActiveEntries.f (k + 1) a0) := by
  intro a0 k
  have ih0 := impl_ActiveEntries.mono_l k
  unfold impl_ActiveEntries.f
  repeat' first
      | (with_reducible exact ih0 _ _ _ _)
      | (with_reducible exact LeO.refl _)
      | (with_reducible exact LeO.none _)
      | (with_reducible refine LeO.ite ?_ ?_)
      | (with_reducible refine LeO.bind ?_ (fun _ => ?_))
      | exact ih0 _ _ _ _
      | exact LeO.none _
      | refine LeO.ite ?_ ?_
      | refine LeO.bind ?_ (fun _ => ?_)
set_option maxHeartbeats 8000000 in
set_option maxRecDepth 100000 in
theorem impl_ActiveEntries.calls (k : Nat) (A0_0 : Option Addr) (c0_0 : Nat) (l0_0 : List (S49)) (r : List (S49)) (w : World) (hr0_0 : Kd.C k49 w A0_0 l0_0.length l0_0) (hc0_0 : l0_0.length ≤ c0_0) (h : impl_ActiveEntries.f k l0_0 = some r) :
    Calls Try.prog 27 #[.agg #[.slice A0_0 l0_0.length c0_0]] w fun e w' => ∃ v0_ : Value, e = .returned (v0_) ∧ Kd.R k49 49 w' w.heap.size (fun _ => True) v0_ r ∧ Below w.heap.size w w' := by
 have hu41 := Try.underlying41; have hu49 := Try.underlying49; have Dc := Aside0.mk hr0_0; have HC0_0 := Aside0.mk hc0_0; clear hr0_0 hc0_0
 have HB := Aside0.mk (Below.refl w.heap.size w)
 have H : (impl_ActiveEntries.l0 k (([] : List (S49))) l0_0 (l0_0.length : Int) 0) = some r := h
 clear h
 obtain ⟨Do, hy417⟩ : ∃ y_ : List (S49), y_ = (([] : List (S49))) := ⟨_, rfl⟩
 replace H : (impl_ActiveEntries.l0 k Do l0_0 (l0_0.length : Int) 0) = some r := by first | (rw [hy417]; with_reducible exact H) | (have H2_ := (Option.bind_some _ _).symm.trans H; rw [hy417]; with_reducible exact H2_) | (have H2_ := (Option.bind_some _ _).symm.trans H; with_reducible exact H2_) | with_reducible exact H | (rw [hy417]; exact H) | exact H
 have Dd := Aside0.mk hy417; clear hy417
 have H' := Aside0.mk H
 clear H
 go_enter Try.func27, Try.ntmps27
 go_wp2_with (first | ((with_reducible refine gate_dst (N := 1) rfl ?_); refine box_event ?hg (N := 1) ?hd (cs := #[.slice A0_0 l0_0.length c0_0]) (t := 41) ?hr ?_; (case hd => rfl); (case hg => rfl); (case hr => first | (go_simp; done) | (go_simp; rfl)); intro Df hg w2 hbox hb; have D2 := Aside0.mk (hbox); have E7 := Cmp.gw hg HB; have E6 := Cmp.gw hg HB; replace HB := Cmp.bs HB hb; clear hb hbox hg) | ((with_reducible refine gate_dst (N := 6) rfl ?_); refine Kd.R_lit k49 _ 49 ?hg (N := 6) ?hd (xs := ([] : List (S49))) (inner := []) (ok := fun _ => True) (okp := fun _ => True) ?hr ?hp (fun _ hk => hk) trivial (Below.refl _ _) (Nat.le_refl _) (by simp) ?_; (case hd => rfl); (case hg => rfl); (case hr => first | (go_simp; done) | (go_simp; rfl)); (case hp => exact (Reps.none _ _)); intro v418 w3 Dn hb hg_ hnew_; clear hg_ hnew_; (first | rw [← Dd.out] at Dn | (simp only [Int.reduceToNat] at Dn; rw [← Dd.out] at Dn)); have Dk := Aside0.mk (Kd.R_lower Dn (below_size (Cmp.g HB.out))); replace D2 := Cmp.be D2 hb; replace HB := Cmp.bs HB hb; clear hb Dn; have Dg := Cmp.c0 D2; have Dh := blk_frozen D2.out 0))
 go_loopg [3, 10] k (fun kq v3 v10 w' => ∃ (Da : List (S49)) (D0 : Int), v10 = .int .i64 D0 ∧ Aside0 (impl_ActiveEntries.l0 kq Da l0_0 (l0_0.length : Int) D0 = some r) ∧ Aside0 (kq ≤ k) ∧ Aside0 (Kd.R k49 49 w' w.heap.size (fun _ => True) v3 Da) ∧ Aside0 (w'.heap[Df]? = some (.cells #[(.slice A0_0 l0_0.length c0_0)] 41 (0, 0))) ∧ Aside0 (Below w.heap.size w w'))
 case atStart => exact ⟨(Do), (0), (by first | rfl | simp | simp [*]), H', ⟨Nat.le_refl _⟩, ⟨Cmp.rr Dk.out⟩, Cmp.bq D2, ⟨Cmp.g HB.out⟩⟩
 case round =>
  clear H'
  (try clear c2); (try clear p2); (try clear Dg); (try clear Dh)
  obtain ⟨Da, D0, rfl, HA, HK1, Db, D2, HB⟩ := hrel
  cases gk with
  | zero => exact absurd HA.out (by simp [impl_ActiveEntries.l0])
  | succ k1 =>
   have H := HA.out; clear HA
   simp only [impl_ActiveEntries.l0] at H
   by_cases c6 : D0 < (l0_0.length : Int)
   ·rw [if_pos c6] at H
    have c6b0 : decide (D0 < (l0_0.length : Int)) = true := decide_eq_true c6
    clear c6
    by_cases c7 : 0 ≤ D0
    ·rw [if_pos c7] at H; have c7b0 : decide (0 ≤ D0) = true := decide_eq_true c7; clear c7
     by_cases c8 : D0 < (l0_0.length : Int)
     ·rw [if_pos c8] at H
      have c8b0 : decide (D0 < (l0_0.length : Int)) = true := decide_eq_true c8
      clear c8
      obtain ⟨bq9, hbq9⟩ : ∃ b_ : Bool, b_ = ((rd_T49 l0_0 D0).f3) := ⟨_, rfl⟩
      replace H : (if (bq9 = true) then (impl_ActiveEntries.l0 k1 Da l0_0 (l0_0.length : Int) (wrap64 (D0 + 1))) else (if Da.length < 4398046511104 then (impl_ActiveEntries.l0 k1 (Da ++ [(⟨(rd_T49 l0_0 D0).f0, (rd_T49 l0_0 D0).f1, (rd_T49 l0_0 D0).f2, bq9⟩ : S49)]) l0_0 (l0_0.length : Int) (wrap64 (D0 + 1))) else (none))) = some r := by rw [← hbq9] at H; exact H
      have Nbq9 := Aside0.mk hbq9; clear hbq9
      by_cases c10 : (bq9 = true)
      ·subst c10; rw [if_pos rfl] at H
       have H' := Aside0.mk H
       clear H
       have p420 : 0 ≤ (D0 : Int) := of_decide_eq_true Cmp.d
       have q420 : D0 < (l0_0.length : Int) := of_decide_eq_true Cmp.d
       obtain ⟨De, e420, D5, D6, D7, D4⟩ := at_T49 Dc.out D0 p420 q420
       (try rw [← Nbq9.out] at D4)
       cases e420
       replace D5 := Cmp.hc HB D5
       replace D6 := Cmp.hc HB D6
       replace D7 := Cmp.hc HB D7
       replace D4 := Cmp.hc HB D4
       replace p420 := eq_true p420; replace q420 := eq_true q420
       go_wp2_with (first | ((with_reducible refine gate_dst (N := 5) rfl ?_); refine box_event ?hg (N := 5) ?hd (cs := #[.int .i64 0, .int .i64 0, .int .i64 0, .bool false]) (t := 49) ?hr ?_; (case hd => rfl); (case hg => rfl); (case hr => first | (go_simp; done) | (go_simp; rfl)); intro D3 hg w11 hbox hb; have D1 := Aside0.mk (hbox); have Dj := Cmp.gw hg HB; have Di := Cmp.gw hg HB; have D8 := Cmp.nl hg D2; have D9 := Cmp.ng hg D2; replace Db := Aside0.mk (Kd.R_below (Kd.R_elderB (Cmp.rr Db.out) D3 (Nat.le_of_eq hg.symm)) hb); replace D2 := Cmp.be D2 hb; replace HB := Cmp.bs HB hb; clear hb hbox hg; have E8 := D9.out; have Ea := D8.out; have Dq := Cmp.c0 D1; have Dr := Cmp.c1 D1; have Ds := Cmp.c2 D1; have Dt := Cmp.c3 D1; have Dy := blk_frozen D1.out 0; have Dz := blk_frozen D1.out 1; have E0 := blk_frozen D1.out 2; have E1 := blk_frozen D1.out 3))
       go_roundg k1
       case measure => have := HK1.out; omega
       case rel => exact ⟨(Da), (wrap64 (D0 + 1)), (by first | rfl | simp | simp [*]), H', ⟨by have := HK1.out; omega⟩, ⟨by (with_reducible repeat (first | apply Kd.R_alloc | apply Kd.R_drewN | apply Kd.R_drew)); exact Kd.R_mono (Kd.R_far (p := ⟨D3, 3, none⟩) (Kd.R_far (p := ⟨D3, 2, none⟩) (Kd.R_far (p := ⟨D3, 1, none⟩) (Kd.R_far (p := ⟨D3, 0, none⟩) (Kd.R_mono Db.out (fun k_ hk => (⟨hk, hk.2⟩ : _ ∧ k_ ≠ D3))) (fun _ hk => hk.2) (.int .i64 ((rd_T49 l0_0 D0).f0))) (fun _ hk => hk.2) (.int .i64 ((rd_T49 l0_0 D0).f1))) (fun _ hk => hk.2) (.int .i64 ((rd_T49 l0_0 D0).f2))) (fun _ hk => hk.2) (.bool true)) (fun _ hk => trivial)⟩, ⟨Cmp.bw D2.out⟩, ⟨Cmp.g HB.out⟩⟩
      ·replace c10 := Bool.eq_false_iff.mpr c10
       subst c10
       have H1 : (if Da.length < 4398046511104 then (impl_ActiveEntries.l0 k1 (Da ++ [(⟨(rd_T49 l0_0 D0).f0, (rd_T49 l0_0 D0).f1, (rd_T49 l0_0 D0).f2, false⟩ : S49)]) l0_0 (l0_0.length : Int) (wrap64 (D0 + 1))) else (none)) = some r := by rw [if_neg (show ¬ (false = true) by decide)] at H; exact H
       clear H; have H := H1; clear H1
       by_cases c14 : Da.length < 4398046511104
       ·rw [if_pos c14] at H; have LMc14 := Aside0.mk c14; clear c14
        obtain ⟨Dp, hy422⟩ : ∃ y_ : List (S49), y_ = (Da ++ [(⟨(rd_T49 l0_0 D0).f0, (rd_T49 l0_0 D0).f1, (rd_T49 l0_0 D0).f2, false⟩ : S49)]) := ⟨_, rfl⟩
        replace H : (impl_ActiveEntries.l0 k1 Dp l0_0 (l0_0.length : Int) (wrap64 (D0 + 1))) = some r := by first | (rw [hy422]; with_reducible exact H) | (have H2_ := (Option.bind_some _ _).symm.trans H; rw [hy422]; with_reducible exact H2_) | (have H2_ := (Option.bind_some _ _).symm.trans H; with_reducible exact H2_) | with_reducible exact H | (rw [hy422]; exact H) | exact H
        have Dm := Aside0.mk hy422; clear hy422
        have H' := Aside0.mk H
        clear H
        have p420 : 0 ≤ (D0 : Int) := of_decide_eq_true Cmp.d
        have q420 : D0 < (l0_0.length : Int) := of_decide_eq_true Cmp.d
        obtain ⟨De, e420, D5, D6, D7, D4⟩ := at_T49 Dc.out D0 p420 q420
        (try rw [← Nbq9.out] at D4)
        cases e420
        replace D5 := Cmp.hc HB D5
        replace D6 := Cmp.hc HB D6
        replace D7 := Cmp.hc HB D7
        replace D4 := Cmp.hc HB D4
        replace p420 := eq_true p420; replace q420 := eq_true q420
        go_wp2_with (first | ((with_reducible refine gate_dst (N := 5) rfl ?_); refine box_event ?hg (N := 5) ?hd (cs := #[.int .i64 0, .int .i64 0, .int .i64 0, .bool false]) (t := 49) ?hr ?_; (case hd => rfl); (case hg => rfl); (case hr => first | (go_simp; done) | (go_simp; rfl)); intro D3 hg w15 hbox hb; have D1 := Aside0.mk (hbox); have Dj := Cmp.gw hg HB; have Di := Cmp.gw hg HB; have D8 := Cmp.nl hg D2; have D9 := Cmp.ng hg D2; replace Db := Aside0.mk (Kd.R_below (Kd.R_elderB (Cmp.rr Db.out) D3 (Nat.le_of_eq hg.symm)) hb); replace D2 := Cmp.be D2 hb; replace HB := Cmp.bs HB hb; clear hb hbox hg; have E9 := D9.out; have Eb := D8.out; have Du := Cmp.c0 D1; have Dv := Cmp.c1 D1; have Dw := Cmp.c2 D1; have Dx := Cmp.c3 D1; have E2 := blk_frozen D1.out 0; have E3 := blk_frozen D1.out 1; have E4 := blk_frozen D1.out 2; have E5 := blk_frozen D1.out 3) | ((with_reducible refine gate_builtin (b := .append) (xs := #[.tmp 17, .tmp 19]) rfl ?_); at_builtin; refine Kd.R_append k49 (w0 := w) w.heap.size rfl (.tmp 17) (.tmp 19) 39 49 (.agg #[(.int .i64 0), (.int .i64 0), (.int .i64 0), (.bool false)]) 32 rfl Try.underlying39 info49 rfl (by decide) (by omega) u3 Da (⟨(rd_T49 l0_0 D0).f0, (rd_T49 l0_0 D0).f1, (rd_T49 l0_0 D0).f2, false⟩ : S49) [.int .i64 ((rd_T49 l0_0 D0).f0), .int .i64 ((rd_T49 l0_0 D0).f1), .int .i64 ((rd_T49 l0_0 D0).f2), .bool false] (fun k_ => k_ ≠ D3) (fun _ => False) rfl (by first | (go_simp; done) | (go_simp; rfl)) ?aP (fun _ hk => hk.elim) ?aF ?aO ?aB ?aS ?aL ?_; (case aP => exact k49_mkM _ _ _ (⟨(rd_T49 l0_0 D0).f0, (rd_T49 l0_0 D0).f1, (rd_T49 l0_0 D0).f2, false⟩ : S49)); (case aB => exact (Cmp.g HB.out)); (case aF => exact (fun k_ hk => Kd.freshB (g := D3) (o := .cells #[.int .i64 ((rd_T49 l0_0 D0).f0), .int .i64 ((rd_T49 l0_0 D0).f1), .int .i64 ((rd_T49 l0_0 D0).f2), .bool false] 49 (0, 0)) (Cmp.bw D1.out) k_ hk)); (case aO => exact (by (with_reducible repeat (first | apply Kd.R_alloc | apply Kd.R_drewN | apply Kd.R_drew)); exact Kd.R_mono (Kd.R_far (p := ⟨D3, 3, none⟩) (Kd.R_far (p := ⟨D3, 2, none⟩) (Kd.R_far (p := ⟨D3, 1, none⟩) (Kd.R_far (p := ⟨D3, 0, none⟩) (Kd.R_mono Db.out (fun k_ hk => (⟨hk, hk.2⟩ : _ ∧ k_ ≠ D3))) (fun _ hk => hk.2) (.int .i64 ((rd_T49 l0_0 D0).f0))) (fun _ hk => hk.2) (.int .i64 ((rd_T49 l0_0 D0).f1))) (fun _ hk => hk.2) (.int .i64 ((rd_T49 l0_0 D0).f2))) (fun _ hk => hk.2) (.bool false)) (fun _ hk => hk.1.2))); (case aS => exact (below_size (Cmp.g HB.out))); (case aL => have := LMc14.out; omega); intro v423 w18 ho hb hg hat; rw [← Dm.out] at ho; have Dl := Aside0.mk (ho); replace D2 := Aside0.mk (blk_grown (g := Df) (o := .cells #[.slice (some De) l0_0.length c0_0] 41 (0, 0)) (Cmp.bw D2.out) hg (Kd.R_ne Db.out D2.out (by decide))); replace D1 := Aside0.mk (blk_grown (g := D3) (o := .cells #[.int .i64 ((rd_T49 l0_0 D0).f0), .int .i64 ((rd_T49 l0_0 D0).f1), .int .i64 ((rd_T49 l0_0 D0).f2), .bool false] 49 (0, 0)) (Cmp.bw D1.out) hg (Kd.R_away Db.out (fun _ hk => hk.2))); replace HB := Aside0.mk (hb); clear Db; clear ho hb hg hat))
        go_roundg k1
        case measure => have := HK1.out; omega
        case rel => exact ⟨(Dp), (wrap64 (D0 + 1)), (by first | rfl | simp | simp [*]), H', ⟨by have := HK1.out; omega⟩, ⟨by (with_reducible repeat (first | apply Kd.R_alloc | apply Kd.R_drewN | apply Kd.R_drew)); exact Kd.R_mono Dl.out (fun _ hk => trivial)⟩, Cmp.bq D2, ⟨Cmp.g HB.out⟩⟩
       ·rw [if_neg c14] at H; exact absurd H (by simp)
     ·rw [if_neg c8] at H; exact absurd H (by simp)
    ·rw [if_neg c7] at H; exact absurd H (by simp)
   ·rw [if_neg c6] at H
    have c6b0 : decide (D0 < (l0_0.length : Int)) = false := decide_eq_false c6
    clear c6
    obtain rfl := Option.some.inj H
    go_wp2
    go_ret
    exact ⟨_, by first | rfl | (simp [errW_none, errW_some] <;> rfl) | (simp [*, errW_none, errW_some] <;> rfl), by (with_reducible repeat (first | apply Kd.R_alloc | apply Kd.R_drewN | apply Kd.R_drew)); exact Db.out, Cmp.g HB.out⟩

end Go.Proofs.Ytoffbjjkegeccaa.PFnDeletion

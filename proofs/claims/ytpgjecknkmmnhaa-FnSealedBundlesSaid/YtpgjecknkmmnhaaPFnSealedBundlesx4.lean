/- Printed functions of the program, out of print.sh, told more shortly. No condition. -/
import Derived.Test.YtpgjecknkmmnhaaCmp
import Derived.Test.YtpgjecknkmmnhaaPFnSealedBundlesx0
namespace Go.Proofs.Ytpgjecknkmmnhaa.PFnSealedBundles
open Go.Proofs.Ytpgjecknkmmnhaa
open Go.RowKit Go.Proofs.YtpgjecknkmmnhaaW.PrintWords Go.Proofs.YtpgjecknkmmnhaaW.PrintLast Go.Proofs.YtpgjecknkmmnhaaW.PrintMore
attribute [local go_sem] max2_int min2_int max_two min_two max_three min_three max_four min_four   -- for this text's walks alone
set_option linter.unusedVariables false
set_option linter.unusedSimpArgs false
/-! ### spec_FindEntry: function 131 -/
def spec_FindEntry.l0 : Nat → Int → Int → Int → List (S94) → Option (Int)
  | 0, _, _, _, _ => none
  | k + 1, x1, x2, x7, x146000 => if x7 < (x146000.length : Int) then (if 0 ≤ x7 then (if ((rd_T94 x146000 x7).f0) = x1 then (if ((rd_T94 x146000 x7).f1) = x2 then (some x7) else (spec_FindEntry.l0 k x1 x2 (wrap64 (x7 + 1)) x146000)) else (spec_FindEntry.l0 k x1 x2 (wrap64 (x7 + 1)) x146000)) else (none)) else (some (-1))
def spec_FindEntry.f (k : Nat) (l0_0 : List (S94)) (a1 : Int) (a2 : Int) : Option (Int) := spec_FindEntry.l0 k a1 a2 0 l0_0
theorem spec_FindEntry.mono_l : ∀ k, (∀ y0 y1 y2 y3, LeO (spec_FindEntry.l0 k y0 y1 y2 y3) (spec_FindEntry.l0 (k + 1) y0 y1 y2 y3))
 | 0 => fun _ _ _ _ r h => by simp [spec_FindEntry.l0] at h
 | k + 1 => by
    have ih0 := spec_FindEntry.mono_l k
    · intro y0 y1 y2 y3
      unfold spec_FindEntry.l0
      repeat' first
 | (with_reducible exact ih0 _ _ _ _)
 | (with_reducible exact LeO.refl _)
 | (with_reducible exact LeO.none _)
 | (with_reducible refine LeO.ite ?_ ?_)
 | (with_reducible refine LeO.bind ?_ (fun _ => ?_))
theorem spec_FindEntry.mono : ∀ a0 a1 a2 k, LeO (spec_FindEntry.f k a0 a1 a2) (spec_FindEntry.f (k + 1) a0 a1 a2) := by
  intro a0 a1 a2 k
  have ih0 := spec_FindEntry.mono_l k
  unfold spec_FindEntry.f
  repeat' first
 | (with_reducible exact ih0 _ _ _ _)
 | (with_reducible exact LeO.refl _)
 | (with_reducible exact LeO.none _)
 | (with_reducible refine LeO.ite ?_ ?_)
 | (with_reducible refine LeO.bind ?_ (fun _ => ?_))
set_option maxHeartbeats 8000000 in
set_option maxRecDepth 100000 in
theorem spec_FindEntry.calls (k : Nat) (A0_0 : Option Addr) (c0_0 : Nat) (l0_0 : List (S94)) (a1 : Int) (a2 : Int) (r : Int) (w : World) (hr0_0 : Kd.C k94 w A0_0 l0_0.length l0_0) (hc0_0 : l0_0.length ≤ c0_0) (h : spec_FindEntry.f k l0_0 a1 a2 = some r) :
    Calls Try.prog 131 #[.agg #[.slice A0_0 l0_0.length c0_0], .int .i64 a1, .int .i64 a2] w fun e w' => e = .returned (.int .i64 r) ∧ Below w.heap.size w w' := by
 have hu45 := Try.underlying45; have Da := Cmp.A hr0_0; have HC0_0 := Cmp.A hc0_0; clear hr0_0 hc0_0
 have HB := Cmp.A (Below.refl w.heap.size w)
 have H : (spec_FindEntry.l0 k a1 a2 0 l0_0) = some r := h
 clear h
 have H' := Cmp.A H
 clear H
 go_enter Try.func131, Try.ntmps131
 go_wp2_with (first | ((with_reducible refine gate_dst (N := 3) rfl ?_); refine box_event ?hg (N := 3) ?hd (cs := #[.slice A0_0 l0_0.length c0_0]) (t := 45) ?hr ?_; (case hd => rfl); (case hg => rfl); (case hr => first | (go_simp; done) | (go_simp; rfl)); intro Db hg w4 hbox hb; have D5 := Cmp.A (hbox); have Dn := Cmp.gw hg HB; have Dm := Cmp.gw hg HB; replace HB := Cmp.bs HB hb; clear hb hbox hg))
 go_loopg [7] k (fun kq v7 w' => ∃ (D0 : Int), v7 = .int .i64 D0 ∧ Aside0 (spec_FindEntry.l0 kq a1 a2 D0 l0_0 = some r) ∧ Aside0 (kq ≤ k) ∧ Aside0 (w'.heap[Db]? = some (.cells #[(.slice A0_0 l0_0.length c0_0)] 45 (0, 0))) ∧ Aside0 (Below w.heap.size w w'))
 case atStart => exact ⟨(0), (by first | rfl | simp | simp [*]), H', ⟨Nat.le_refl _⟩, Cmp.bq D5, ⟨Cmp.g HB.out⟩⟩
 case round =>
  clear H'
  (try clear c1); (try clear p2)
  obtain ⟨D0, rfl, HA, HK1, D5, HB⟩ := hrel
  cases gk with
  | zero => exact absurd HA.out (by simp [spec_FindEntry.l0])
  | succ k1 =>
   have H := HA.out; clear HA
   simp only [spec_FindEntry.l0] at H
   by_cases c5 : D0 < (l0_0.length : Int)
   ·rw [if_pos c5] at H
    have c5b0 : decide (D0 < (l0_0.length : Int)) = true := decide_eq_true c5
    clear c5
    by_cases c6 : 0 ≤ D0
    ·rw [if_pos c6] at H; have c6b0 : decide (0 ≤ D0) = true := decide_eq_true c6; clear c6
     by_cases c7 : ((rd_T94 l0_0 D0).f0) = a1
     ·rw [if_pos c7] at H; have c7b0 : (((rd_T94 l0_0 D0).f0) == a1) = true := beq_iff_eq.mpr c7; have c7b1 : (((rd_T94 l0_0 D0).f0) != a1) = false := bne_eq_false_iff_eq.mpr c7; clear c7
      by_cases c8 : ((rd_T94 l0_0 D0).f1) = a2
      ·rw [if_pos c8] at H; have c8b0 : (((rd_T94 l0_0 D0).f1) == a2) = true := beq_iff_eq.mpr c8; have c8b1 : (((rd_T94 l0_0 D0).f1) != a2) = false := bne_eq_false_iff_eq.mpr c8; clear c8
       obtain rfl := Option.some.inj H
       have Dk : wr.cell? ⟨Db, 0, none⟩ = some (.slice A0_0 l0_0.length c0_0) := (blk_cell D5.out 0).trans rfl
       have Dl := blk_frozen D5.out 0
       have p146 : 0 ≤ (D0 : Int) := of_decide_eq_true Cmp.d
       have q146 : D0 < (l0_0.length : Int) := of_decide_eq_true Cmp.d
       obtain ⟨Dc, e146, D1, D2, D3, D4⟩ := at_T94 Da.out D0 p146 q146
       cases e146
       replace D1 := Cmp.hc HB D1
       replace D2 := Cmp.hc HB D2
       replace D3 := Cmp.hc HB D3
       replace D4 := Cmp.hc HB D4
       replace p146 := eq_true p146; replace q146 := eq_true q146
       have p147 : 0 ≤ (D0 : Int) := of_decide_eq_true Cmp.d
       have q147 : D0 < (l0_0.length : Int) := of_decide_eq_true Cmp.d
       obtain ⟨Dd, e147, D6, D7, D8, D9⟩ := at_T94 Da.out D0 p147 q147
       obtain rfl : Dc = Dd := (by injection e147)
       replace D6 := Cmp.hc HB D6
       replace D7 := Cmp.hc HB D7
       replace D8 := Cmp.hc HB D8
       replace D9 := Cmp.hc HB D9
       replace p147 := eq_true p147; replace q147 := eq_true q147
       go_wp2
       go_ret
       exact ⟨by first | rfl | (simp [errW_none, errW_some] <;> rfl) | (simp [*, errW_none, errW_some] <;> rfl), Cmp.g HB.out⟩
      ·rw [if_neg c8] at H; have c8b0 : (((rd_T94 l0_0 D0).f1) == a2) = false := beq_eq_false_iff_ne.mpr c8; have c8b1 : (((rd_T94 l0_0 D0).f1) != a2) = true := bne_iff_ne.mpr c8
       have H' := Cmp.A H
       clear H
       have De : wr.cell? ⟨Db, 0, none⟩ = some (.slice A0_0 l0_0.length c0_0) := (blk_cell D5.out 0).trans rfl
       have Dh := blk_frozen D5.out 0
       have p146 : 0 ≤ (D0 : Int) := of_decide_eq_true Cmp.d
       have q146 : D0 < (l0_0.length : Int) := of_decide_eq_true Cmp.d
       obtain ⟨Dc, e146, D1, D2, D3, D4⟩ := at_T94 Da.out D0 p146 q146
       cases e146
       replace D1 := Cmp.hc HB D1
       replace D2 := Cmp.hc HB D2
       replace D3 := Cmp.hc HB D3
       replace D4 := Cmp.hc HB D4
       replace p146 := eq_true p146; replace q146 := eq_true q146
       have p147 : 0 ≤ (D0 : Int) := of_decide_eq_true Cmp.d
       have q147 : D0 < (l0_0.length : Int) := of_decide_eq_true Cmp.d
       obtain ⟨Dd, e147, D6, D7, D8, D9⟩ := at_T94 Da.out D0 p147 q147
       obtain rfl : Dc = Dd := (by injection e147)
       replace D6 := Cmp.hc HB D6
       replace D7 := Cmp.hc HB D7
       replace D8 := Cmp.hc HB D8
       replace D9 := Cmp.hc HB D9
       replace p147 := eq_true p147; replace q147 := eq_true q147
       go_wp2
       go_roundg k1
       case measure => have := HK1.out; omega
       case rel => exact ⟨(wrap64 (D0 + 1)), (by first | rfl | simp | simp [*]), H', ⟨by have := HK1.out; omega⟩, Cmp.bq D5, ⟨Cmp.g HB.out⟩⟩
     ·rw [if_neg c7] at H; have c7b0 : (((rd_T94 l0_0 D0).f0) == a1) = false := beq_eq_false_iff_ne.mpr c7; have c7b1 : (((rd_T94 l0_0 D0).f0) != a1) = true := bne_iff_ne.mpr c7
      have H' := Cmp.A H
      clear H
      have Df : wr.cell? ⟨Db, 0, none⟩ = some (.slice A0_0 l0_0.length c0_0) := (blk_cell D5.out 0).trans rfl
      have Di := blk_frozen D5.out 0
      have p146 : 0 ≤ (D0 : Int) := of_decide_eq_true Cmp.d
      have q146 : D0 < (l0_0.length : Int) := of_decide_eq_true Cmp.d
      obtain ⟨Dc, e146, D1, D2, D3, D4⟩ := at_T94 Da.out D0 p146 q146
      cases e146
      replace D1 := Cmp.hc HB D1
      replace D2 := Cmp.hc HB D2
      replace D3 := Cmp.hc HB D3
      replace D4 := Cmp.hc HB D4
      replace p146 := eq_true p146; replace q146 := eq_true q146
      go_wp2
      go_roundg k1
      case measure => have := HK1.out; omega
      case rel => exact ⟨(wrap64 (D0 + 1)), (by first | rfl | simp | simp [*]), H', ⟨by have := HK1.out; omega⟩, Cmp.bq D5, ⟨Cmp.g HB.out⟩⟩
    ·rw [if_neg c6] at H; exact absurd H (by simp)
   ·rw [if_neg c5] at H
    have c5b0 : decide (D0 < (l0_0.length : Int)) = false := decide_eq_false c5
    clear c5
    obtain rfl := Option.some.inj H
    have Dg : wr.cell? ⟨Db, 0, none⟩ = some (.slice A0_0 l0_0.length c0_0) := (blk_cell D5.out 0).trans rfl
    have Dj := blk_frozen D5.out 0
    go_wp2
    go_ret
    exact ⟨by first | rfl | (simp [errW_none, errW_some] <;> rfl) | (simp [*, errW_none, errW_some] <;> rfl), Cmp.g HB.out⟩
/-! ### spec_l17Copy: function 132 -/
def spec_l17Copy.f (l0_0 : List (S94)) : Option ((List (S94))) := (some (([] : List (S94)) : List (S94))).bind fun y150 => (if y150.length + l0_0.length < 4398046511104 then (some (y150 ++ l0_0)) else (none))
set_option maxHeartbeats 8000000 in
set_option maxRecDepth 100000 in
theorem spec_l17Copy.calls (A0_0 : Option Addr) (c0_0 : Nat) (l0_0 : List (S94)) (r : List (S94)) (w : World) (hr0_0 : Kd.C k94 w A0_0 l0_0.length l0_0) (hc0_0 : l0_0.length ≤ c0_0) (h : spec_l17Copy.f l0_0 = some r) :
    Calls Try.prog 132 #[.agg #[.slice A0_0 l0_0.length c0_0]] w fun e w' => ∃ v0_ : Value, e = .returned (.agg #[v0_]) ∧ Kd.R k94 94 w' w.heap.size (fun _ => True) v0_ r ∧ Below w.heap.size w w' := by
 have hu45 := Try.underlying45; have Db := Cmp.A hr0_0; have HC0_0 := Cmp.A hc0_0; clear hr0_0 hc0_0
 have HB := Cmp.A (Below.refl w.heap.size w)
 have H : ((some (([] : List (S94)) : List (S94))).bind fun D2 => (if D2.length + l0_0.length < 4398046511104 then (some (D2 ++ l0_0)) else (none))) = some r := h
 clear h
 obtain ⟨D2, hy150⟩ : ∃ y_ : List (S94), y_ = (([] : List (S94))) := ⟨_, rfl⟩
 replace H : (if D2.length + l0_0.length < 4398046511104 then (some (D2 ++ l0_0)) else (none)) = some r := Cmp.hy hy150 H
 have D7 := Cmp.A hy150; clear hy150
 by_cases c2 : D2.length + l0_0.length < 4398046511104
 ·rw [if_pos c2] at H; have LMc2 := Cmp.A c2; clear c2
  obtain ⟨D9, hy153⟩ : ∃ y_ : List (S94), y_ = (D2 ++ l0_0) := ⟨_, rfl⟩
  replace H : (some D9) = some r := Cmp.hy hy153 H
  have Dc := Cmp.A hy153; clear hy153
  obtain rfl := Option.some.inj H
  go_enter Try.func132, Try.ntmps132
  go_wp2_with (first | ((with_reducible refine gate_dst (N := 1) rfl ?_); refine box_event ?hg (N := 1) ?hd (cs := #[.slice A0_0 l0_0.length c0_0]) (t := 45) ?hr ?_; (case hd => rfl); (case hg => rfl); (case hr => first | (go_simp; done) | (go_simp; rfl)); intro Do hg w3 hbox hb; have D0 := Cmp.A (hbox); have Dm := Cmp.gw hg HB; have Dk := Cmp.gw hg HB; replace HB := Cmp.bs HB hb; clear hb hbox hg) | ((with_reducible refine gate_dst (N := 2) rfl ?_); refine box_event ?hg (N := 2) ?hd (cs := #[.slice none 0 0]) (t := 45) ?hr ?_; (case hd => rfl); (case hg => rfl); (case hr => first | (go_simp; done) | (go_simp; rfl)); intro D8 hg w4 hbox hb; have D1 := Cmp.A (hbox); have Dn := Cmp.gw hg HB; have Dl := Cmp.gw hg HB; have D4 := Cmp.nl hg D0; have D5 := Cmp.ng hg D0; replace D0 := Cmp.be D0 hb; replace HB := Cmp.bs HB hb; clear hb hbox hg) | ((with_reducible refine gate_dst (N := 3) rfl ?_); refine Kd.R_lit k94 _ 94 ?hg (N := 3) ?hd (xs := ([] : List (S94))) (inner := []) (ok := fun _ => True) (okp := fun _ => True) ?hr ?hp (fun _ hk => hk) trivial (Below.refl _ _) (Nat.le_refl _) (by simp) ?_; (case hd => rfl); (case hg => rfl); (case hr => first | (go_simp; done) | (go_simp; rfl)); (case hp => exact (Reps.none _ _)); intro v151 w5 De hb hg_ hnew_; clear hg_ hnew_; (first | rw [← D7.out] at De | (simp only [Int.reduceToNat] at De; rw [← D7.out] at De)); have D3 := Cmp.A (Kd.R_lower De (below_size (Cmp.g HB.out))); replace D0 := Cmp.be D0 hb; replace D1 := Cmp.be D1 hb; replace HB := Cmp.bs HB hb; clear hb De; have Dp := D4.out; have Dq := D5.out; have Di := Cmp.c0 D0; have Dj := blk_frozen D0.out 0) | ((with_reducible refine gate_builtin (b := .append) (xs := #[.tmp 3, .tmp 5]) rfl ?_); at_builtin; refine Kd.R_append_rows k94 (w0 := w) w.heap.size rfl (.tmp 3) (.tmp 5) 43 94 (.agg #[(.int .i64 0), (.int .i64 0), (.int .i64 0), (.bool false)]) 32 rfl Try.underlying43 info94 rfl (by decide) (by omega) v151 D2 l0_0 _ _ _ (fun _ => True) (fun _ => False) rfl rfl ?aO ?aR (fun _ _ h => h) (fun _ h => h.elim) ?aF ?aB ?aS ?aL ?_; (case aR => repeat (first | exact (Kd.C_below Db.out HB.out) | (with_reducible refine Kd.C_alloc ?_ _) | (with_reducible refine Kd.C_drewN ?_ _) | (with_reducible refine Kd.C_drew ?_))); (case aB => exact (Cmp.g HB.out)); (case aF => exact (fun _ _ => trivial)); (case aO => exact (Cmp.rr D3.out)); (case aS => exact (below_size (Cmp.g HB.out))); (case aL => have := LMc2.out; omega); intro v154 w9 ho hb hg hat; rw [← Dc.out] at ho; have D6 := Cmp.A (ho); replace D0 := Cmp.bg D0 hg (Kd.R_ne D3.out D0.out (by decide)); replace D1 := Cmp.bg D1 hg (Kd.R_ne D3.out D1.out (by decide)); replace HB := Cmp.A (hb); clear D3; clear ho hb hg hat; obtain ⟨Da, Dd, Dh⟩ := Kd.R_slice D6.out; subst Dh; have Df := Cmp.c0 D1; have Dg := blk_frozen D1.out 0))
  refine bodyPost_ret (results_cell_row rfl _ _ D8 45 #[.slice Da D9.length Dd] (0, 0) _ rfl (Cmp.bw D1.out) Try.underlying45 rfl (by kernel_rfl)) rfl ?_
  exact ⟨_, by first | rfl | (simp [errW_none, errW_some] <;> rfl) | (simp [*, errW_none, errW_some] <;> rfl), by (with_reducible repeat (first | apply Kd.R_alloc | apply Kd.R_drewN | apply Kd.R_drew)); exact Kd.R_mono (Kd.R_far (p := ⟨D8, 0, none⟩) (Kd.R_types D6.out D1.out (by decide)) (fun _ hk => hk.2) (.slice Da D9.length Dd)) (fun _ hk => trivial), Cmp.g HB.out⟩
 ·rw [if_neg c2] at H; exact absurd H (by simp)
end Go.Proofs.Ytpgjecknkmmnhaa.PFnSealedBundles

/- Printed functions of the program, out of print.sh; some facts told twice. No condition. -/
import Derived.Test.YtpgjecknkmmnhaaCmp
import Derived.Test.YtpgjecknkmmnhaaPFnSealedBundlesx0
import Derived.Test.YtpgjecknkmmnhaaPFnSealedBundlesx3
import Derived.Test.YtpgjecknkmmnhaaPFnSealedBundlesx15
namespace Go.Proofs.Ytpgjecknkmmnhaa.PFnSealedBundles
open Go.Proofs.Ytpgjecknkmmnhaa
open Go.RowKit Go.Proofs.YtpgjecknkmmnhaaW.PrintWords Go.Proofs.YtpgjecknkmmnhaaW.PrintLast Go.Proofs.YtpgjecknkmmnhaaW.PrintMore
attribute [local go_sem] max2_int min2_int max_two min_two max_three min_three max_four min_four   -- for this text's walks alone
set_option linter.unusedVariables false
set_option linter.unusedSimpArgs false
/-! ### spec_EncodeInts: function 110 -/
def spec_EncodeInts.l0 : Nat → List Int → List Int → Int → Option (List Int)
  | 0, _, _, _ => none
  | k + 1, x0, x3, x4 => if x4 < (x0.length : Int) then (if 0 ≤ x4 then ((spec_AppendUvarint.f k x3 (rd x0 x4)).bind fun t536 => (spec_EncodeInts.l0 k x0 t536 (wrap64 (x4 + 1)))) else (none)) else (some x3)
def spec_EncodeInts.f (k : Nat) (l0 : List Int) : Option (List Int) := spec_EncodeInts.l0 k l0 (([] : List Int)) 0
theorem spec_EncodeInts.mono_l : ∀ k, (∀ y0 y1 y2, LeO (spec_EncodeInts.l0 k y0 y1 y2) (spec_EncodeInts.l0 (k + 1) y0 y1 y2))
 | 0 => fun _ _ _ r h => by simp [spec_EncodeInts.l0] at h
 | k + 1 => by
    have ih0 := spec_EncodeInts.mono_l k
    · intro y0 y1 y2
      unfold spec_EncodeInts.l0
      repeat' first
 | (with_reducible exact ih0 _ _ _)
 | (with_reducible exact spec_AppendUvarint.mono _ _ _)
 | (with_reducible exact LeO.refl _)
 | (with_reducible exact LeO.none _)
 | (with_reducible refine LeO.ite ?_ ?_)
 | (with_reducible refine LeO.bind ?_ (fun _ => ?_))
theorem spec_EncodeInts.mono : ∀ a0 k, LeO (spec_EncodeInts.f k a0) (spec_EncodeInts.f (k + 1) a0) := by
  intro a0 k
  have ih0 := spec_EncodeInts.mono_l k
  unfold spec_EncodeInts.f
  repeat' first
 | (with_reducible exact ih0 _ _ _)
 | (with_reducible exact spec_AppendUvarint.mono _ _ _)
 | (with_reducible exact LeO.refl _)
 | (with_reducible exact LeO.none _)
 | (with_reducible refine LeO.ite ?_ ?_)
 | (with_reducible refine LeO.bind ?_ (fun _ => ?_))
set_option maxHeartbeats 8000000 in
set_option maxRecDepth 100000 in
theorem spec_EncodeInts.calls (k : Nat) (A0 : Option Addr) (c0 : Nat) (l0 : List Int) (r : List Int) (w : World) (hr0 : Kd.C (Kd.int .i64) w A0 l0.length l0) (hc0 : l0.length ≤ c0) (h : spec_EncodeInts.f k l0 = some r) :
    Calls Try.prog 110 #[.slice A0 l0.length c0] w fun e w' => ∃ v0_ : Value, e = .returned (v0_) ∧ Kd.R (Kd.int .u8) 5 w' w.heap.size (fun _ => True) v0_ r ∧ Below w.heap.size w w' := by
 have HR0 := Cmp.A hr0; have HC0 := Cmp.A hc0; clear hr0 hc0
 have HB := Cmp.A (Below.refl w.heap.size w)
 have H : (spec_EncodeInts.l0 k l0 (([] : List Int)) 0) = some r := h
 clear h
 obtain ⟨D9, hy532⟩ : ∃ y_ : List Int, y_ = (([] : List Int)) := ⟨_, rfl⟩
 replace H : (spec_EncodeInts.l0 k l0 D9 0) = some r := Cmp.hy hy532 H
 have D4 := Cmp.A hy532; clear hy532
 have H' := Cmp.A H
 clear H
 go_enter Try.func110, Try.ntmps110
 go_wp2_with (first | ((with_reducible refine gate_dst (N := 5) rfl ?_); refine Kd.R_lit (Kd.int .u8) _ 5 ?hg (N := 5) ?hd (xs := ([] : List Int)) (inner := []) (ok := fun _ => True) (okp := fun _ => True) ?hr ?hp (fun _ hk => hk) trivial (Below.refl _ _) (Nat.le_refl _) (by simp) ?_; (case hd => rfl); (case hg => rfl); (case hr => first | (go_simp; done) | (go_simp; rfl)); (case hp => exact (Reps.none _ _)); intro v533 w2 D7 hb hg_ hnew_; clear hg_ hnew_; (first | rw [← D4.out] at D7 | (simp only [Int.reduceToNat] at D7; rw [← D4.out] at D7)); have D5 := Cmp.A (Kd.R_lower D7 (below_size (Cmp.g HB.out))); replace HB := Cmp.bs HB hb; clear hb D7))
 go_loopg [3, 4] k (fun kq v3 v4 w' => ∃ (D3 : List Int) (D0 : Int), v4 = .int .i64 D0 ∧ Aside0 (spec_EncodeInts.l0 kq l0 D3 D0 = some r) ∧ Aside0 (kq ≤ k) ∧ Aside0 (Kd.R (Kd.int .u8) 5 w' w.heap.size (fun _ => True) v3 D3) ∧ Aside0 (Below w.heap.size w w'))
 case atStart => exact ⟨(D9), (0), (by first | rfl | simp | simp [*]), H', ⟨Nat.le_refl _⟩, ⟨Cmp.rr D5.out⟩, ⟨Cmp.g HB.out⟩⟩
 case round =>
  clear H'
  (try clear c1); (try clear p2)
  obtain ⟨D3, D0, rfl, HA, HK1, D1, HB⟩ := hrel
  cases gk with
  | zero => exact absurd HA.out (by simp [spec_EncodeInts.l0])
  | succ k1 =>
   have H := HA.out; clear HA
   simp only [spec_EncodeInts.l0] at H
   by_cases c4 : D0 < (l0.length : Int)
   ·rw [if_pos c4] at H
    have c4b0 : decide (D0 < (l0.length : Int)) = true := decide_eq_true c4
    clear c4
    by_cases c5 : 0 ≤ D0
    ·rw [if_pos c5] at H; have c5b0 : decide (0 ≤ D0) = true := decide_eq_true c5; clear c5; replace H := Option.bind_eq_some_iff.mp H; obtain ⟨D8, Db, H⟩ := H; (try dsimp only at H); have A6 := Cmp.A Db; clear Db
     have H' := Cmp.A H
     clear H
     have p535 : 0 ≤ (D0 : Int) := of_decide_eq_true Cmp.d
     have q535 : D0 < (l0.length : Int) := of_decide_eq_true Cmp.d
     obtain ⟨Dc, e535, D2⟩ := Kd.at_int HR0.out D0 p535 q535
     cases e535
     replace D2 := Cmp.hc HB D2
     replace p535 := eq_true p535; replace q535 := eq_true q535
     obtain ⟨Dd, De, Df⟩ := Kd.R_slice D1.out
     subst Df
     go_wp2_with (first | ((with_reducible refine gate_callee (f := 126) rfl ?_); refine goesL_ (some 17) rfl rfl Try.func126 (by kernel_rfl) rfl #[.slice Dd D3.length De, .int .i64 (rd l0 D0)] rfl Cmp.q ?_; (with_reducible refine (spec_AppendUvarint.calls k1 _ _ D3 (rd l0 D0) D8 _ ?side1 ?side2 A6.out).mono ?_); (case side1 => exact Cmp.rc (Kd.R_reads' D1.out).2.2); (case side2 => exact (Kd.R_reads' D1.out).2.1); rintro e w8 ⟨v537, rfl, Da, hb⟩; refine ⟨_, rfl, ?_⟩; have D6 := Cmp.A (Kd.R_lower (Kd.R_new' Da (Kd.R_lt (Cmp.rr D1.out))) (below_size (Cmp.g HB.out))); replace D1 := Cmp.A (Kd.R_elder' (Cmp.rr D1.out) (Kd.R_base Da) hb); replace HB := Cmp.bs HB hb; (try clear hb); (try clear hb2); (try clear hk); (try clear hi); (try clear Da)))
     go_roundg k1
     case measure => have := HK1.out; omega
     case rel => exact ⟨(D8), (wrap64 (D0 + 1)), (by first | rfl | simp | simp [*]), H', ⟨by have := HK1.out; omega⟩, ⟨Cmp.rm D6.out (fun _ hk => trivial)⟩, ⟨Cmp.g HB.out⟩⟩
    ·rw [if_neg c5] at H; exact absurd H (by simp)
   ·rw [if_neg c4] at H
    have c4b0 : decide (D0 < (l0.length : Int)) = false := decide_eq_false c4
    clear c4
    obtain rfl := Option.some.inj H
    go_wp2
    go_ret
    exact ⟨_, by first | rfl | (simp [errW_none, errW_some] <;> rfl) | (simp [*, errW_none, errW_some] <;> rfl), by (with_reducible repeat (first | apply Kd.R_alloc | apply Kd.R_drewN | apply Kd.R_drew)); exact D1.out, Cmp.g HB.out⟩
/-! ### spec_EncodeBundle: function 69 -/
def spec_EncodeBundle.l0 : Nat → List Int → Int → List (S94) → Option (List Int)
  | 0, _, _, _ => none
  | k + 1, x3, x4, x540000 => if x4 < (x540000.length : Int) then (if 0 ≤ x4 then (if (rd_T94 x540000 x4).f3 = true then ((some (([(rd_T94 x540000 x4).f0, (rd_T94 x540000 x4).f1, (rd_T94 x540000 x4).f2, 1] : List Int) : List Int)).bind fun y551 => (if x3.length + y551.length < 17592186044416 then (spec_EncodeBundle.l0 k (x3 ++ y551) (wrap64 (x4 + 1)) x540000) else (none))) else ((some (([(rd_T94 x540000 x4).f0, (rd_T94 x540000 x4).f1, (rd_T94 x540000 x4).f2, 0] : List Int) : List Int)).bind fun y560 => (if x3.length + y560.length < 17592186044416 then (spec_EncodeBundle.l0 k (x3 ++ y560) (wrap64 (x4 + 1)) x540000) else (none)))) else (none)) else ((spec_EncodeInts.f k x3).bind fun t566 => (some t566))
def spec_EncodeBundle.f (k : Nat) (l0_0 : List (S94)) : Option (List Int) := (spec_IsBundle.f k l0_0).bind fun t540 => (if t540 = true then (spec_EncodeBundle.l0 k (([(l0_0.length : Int)] : List Int)) 0 l0_0) else (some (([] : List Int))))
theorem spec_EncodeBundle.mono_l : ∀ k, (∀ y0 y1 y2, LeO (spec_EncodeBundle.l0 k y0 y1 y2) (spec_EncodeBundle.l0 (k + 1) y0 y1 y2))
 | 0 => fun _ _ _ r h => by simp [spec_EncodeBundle.l0] at h
 | k + 1 => by
    have ih0 := spec_EncodeBundle.mono_l k
    · intro y0 y1 y2
      unfold spec_EncodeBundle.l0
      repeat' first
 | (with_reducible exact ih0 _ _ _)
 | (with_reducible exact spec_EncodeInts.mono _ _)
 | (with_reducible exact spec_IsBundle.mono _ _)
 | (with_reducible exact LeO.refl _)
 | (with_reducible exact LeO.none _)
 | (with_reducible refine LeO.ite ?_ ?_)
 | (with_reducible refine LeO.bind ?_ (fun _ => ?_))
theorem spec_EncodeBundle.mono : ∀ a0 k, LeO (spec_EncodeBundle.f k a0) (spec_EncodeBundle.f (k + 1) a0) := by
  intro a0 k
  have ih0 := spec_EncodeBundle.mono_l k
  unfold spec_EncodeBundle.f
  repeat' first
 | (with_reducible exact ih0 _ _ _)
 | (with_reducible exact spec_EncodeInts.mono _ _)
 | (with_reducible exact spec_IsBundle.mono _ _)
 | (with_reducible exact LeO.refl _)
 | (with_reducible exact LeO.none _)
 | (with_reducible refine LeO.ite ?_ ?_)
 | (with_reducible refine LeO.bind ?_ (fun _ => ?_))
def spec_EncodeBundle.T10 : Bool × List (List Nat × List Nat) := (true, [([], []), ([], []), ([1], [1]), ([], []), ([2, 3], [2, 3]), ([4], [4]), ([5], [5]), ([], []), ([7], [7]), ([], []), ([8, 9], [8, 9]), ([10], [10]), ([11], [11]), ([], []), ([13], [13]), ([], []), ([14, 15], [14, 15]), ([16], [16]), ([17], [17]), ([], []), ([6, 12, 18, 19], [6, 12, 18, 19]), ([0, 20], [0, 20]), ([21, 21, 0, 1, 2, 3, 4, 5, 6, 7, 8, 9, 10, 11, 12, 13, 14, 15, 16, 17, 18, 19, 20, 21], [0, 21])])
def spec_EncodeBundle.B10 : List Nat := [0, 0, 2, 0, 14, 30, 62, 0, 128, 0, 896, 1920, 3968, 0, 8192, 0, 57344, 122880, 253952, 0, 1048574, 2097151, 4194303]
theorem spec_EncodeBundle.tab10 : rtab .any (opsOf Try.f69 10) = spec_EncodeBundle.T10 := by kernel_rfl
theorem spec_EncodeBundle.bits10 : waitsOk spec_EncodeBundle.T10.2 spec_EncodeBundle.B10 = true := by kernel_rfl
set_option maxHeartbeats 8000000 in
set_option maxRecDepth 100000 in
theorem spec_EncodeBundle.calls (k : Nat) (A0_0 : Option Addr) (c0_0 : Nat) (l0_0 : List (S94)) (r : List Int) (w : World) (hr0_0 : Kd.C k94 w A0_0 l0_0.length l0_0) (hc0_0 : l0_0.length ≤ c0_0) (h : spec_EncodeBundle.f k l0_0 = some r) :
    Calls Try.prog 69 #[.agg #[.slice A0_0 l0_0.length c0_0]] w fun e w' => ∃ v0_ : Value, e = .returned (v0_) ∧ Kd.R (Kd.int .u8) 5 w' w.heap.size (fun _ => True) v0_ r ∧ Below w.heap.size w w' := by
 have hu45 := Try.underlying45; have D6 := Cmp.A hr0_0; have HC0_0 := Cmp.A hc0_0; clear hr0_0 hc0_0
 have HB := Cmp.A (Below.refl w.heap.size w)
 have H : ((spec_IsBundle.f k l0_0).bind fun F3 => (if F3 = true then (spec_EncodeBundle.l0 k (([(l0_0.length : Int)] : List Int)) 0 l0_0) else (some (([] : List Int))))) = some r := h
 clear h; replace H := Option.bind_eq_some_iff.mp H; obtain ⟨F3, G7, H⟩ := H; (try dsimp only at H); have A2 := Cmp.A G7; clear G7
 by_cases c3 : F3 = true
 ·subst c3; rw [if_pos rfl] at H
  obtain ⟨Fn, hy544⟩ : ∃ y_ : List Int, y_ = (([(l0_0.length : Int)] : List Int)) := ⟨_, rfl⟩
  replace H : (spec_EncodeBundle.l0 k Fn 0 l0_0) = some r := Cmp.hy hy544 H
  have Ew := Cmp.A hy544; clear hy544
  have H' := Cmp.A H
  clear H
  go_enter Try.func69, Try.ntmps69
  go_wp2_with (first | ((with_reducible refine gate_dst (N := 1) rfl ?_); refine box_event ?hg (N := 1) ?hd (cs := #[.slice A0_0 l0_0.length c0_0]) (t := 45) ?hr ?_; (case hd => rfl); (case hg => rfl); (case hr => first | (go_simp; done) | (go_simp; rfl)); intro E5 hg w4 hbox hb; have D1 := Cmp.A (hbox); have F6 := Cmp.gw hg HB; have F5 := Cmp.gw hg HB; replace HB := Cmp.bs HB hb; clear hb hbox hg; have Ez := Cmp.c0 D1; have F1 := blk_frozen D1.out 0) | ((with_reducible refine gate_callee (f := 66) rfl ?_); refine goesL_ (some 7) rfl rfl Try.func66 (by kernel_rfl) rfl #[.agg #[.slice A0_0 l0_0.length c0_0]] rfl Cmp.q ?_; (with_reducible refine (spec_IsBundle.calls k _ _ l0_0 true _ ?side1 ?side2 A2.out).mono ?_); (case side1 => exact Cmp.rc (Kd.C_below D6.out HB.out)); (case side2 => exact HC0_0.out); rintro e w6 ⟨rfl, hb⟩; refine ⟨_, rfl, ?_⟩; replace D1 := Cmp.be D1 hb; replace HB := Cmp.bs HB hb; (try clear hb); (try clear hb2); (try clear hk); (try clear hi); have F0 := Cmp.c0 D1; have F2 := blk_frozen D1.out 0) | ((with_reducible refine gate_dst (N := 13) rfl ?_); refine Kd.R_lit (Kd.int .i64) _ 3 ?hg (N := 13) ?hd (xs := ([(l0_0.length : Int)] : List Int)) (inner := [.int .i64 (l0_0.length : Int)]) (ok := fun _ => True) (okp := fun _ => True) ?hr ?hp (fun _ hk => hk) trivial (Below.refl _ _) (Nat.le_refl _) (by simp) ?_; (case hd => rfl); (case hg => rfl); (case hr => first | (go_simp; done) | (go_simp; rfl)); (case hp => exact (Reps.one (Cmp.mi (l0_0.length : Int)) (Reps.none _ _))); intro v545 w8 Fm hb hg_ hnew_; clear hg_ hnew_; (first | rw [← Ew.out] at Fm | (simp only [Int.reduceToNat] at Fm; rw [← Ew.out] at Fm)); have F8 := Cmp.A (Kd.R_lower Fm (below_size (Cmp.g HB.out))); replace D1 := Cmp.be D1 hb; replace HB := Cmp.bs HB hb; clear hb Fm))
  go_loopg [3, 4] k (fun kq v3 v4 w' => ∃ (D4 : List Int) (D0 : Int), v4 = .int .i64 D0 ∧ Aside0 (spec_EncodeBundle.l0 kq D4 D0 l0_0 = some r) ∧ Aside0 (kq ≤ k) ∧ Aside0 (Kd.R (Kd.int .i64) 3 w' w.heap.size (fun _ => True) v3 D4) ∧ Aside0 (w'.heap[E5]? = some (.cells #[(.slice A0_0 l0_0.length c0_0)] 45 (0, 0))) ∧ Aside0 (Below w.heap.size w w'))
  case atStart => exact ⟨(Fn), (0), (by first | rfl | simp | simp [*]), H', ⟨Nat.le_refl _⟩, ⟨Cmp.rr F8.out⟩, Cmp.bq D1, ⟨Cmp.g HB.out⟩⟩
  case round =>
   clear H'
   (try clear p2); (try clear c3); (try clear c6); (try clear Ez); (try clear F0); (try clear F1); (try clear F2)
   obtain ⟨D4, D0, rfl, HA, HK1, D3, D1, HB⟩ := hrel
   cases gk with
   | zero => exact absurd HA.out (by simp [spec_EncodeBundle.l0])
   | succ k1 =>
    have H := HA.out; clear HA
    simp only [spec_EncodeBundle.l0] at H
    by_cases c10 : D0 < (l0_0.length : Int)
    ·rw [if_pos c10] at H
     have c10b0 : decide (D0 < (l0_0.length : Int)) = true := decide_eq_true c10
     clear c10
     by_cases c11 : 0 ≤ D0
     ·rw [if_pos c11] at H; have c11b0 : decide (0 ≤ D0) = true := decide_eq_true c11; clear c11
      obtain ⟨bq12, hbq12⟩ : ∃ b_ : Bool, b_ = ((rd_T94 l0_0 D0).f3) := ⟨_, rfl⟩
      replace H : (if bq12 = true then ((some (([(rd_T94 l0_0 D0).f0, (rd_T94 l0_0 D0).f1, (rd_T94 l0_0 D0).f2, 1] : List Int) : List Int)).bind fun Eq => (if D4.length + Eq.length < 17592186044416 then (spec_EncodeBundle.l0 k1 (D4 ++ Eq) (wrap64 (D0 + 1)) l0_0) else (none))) else ((some (([(rd_T94 l0_0 D0).f0, (rd_T94 l0_0 D0).f1, (rd_T94 l0_0 D0).f2, 0] : List Int) : List Int)).bind fun Dg => (if D4.length + Dg.length < 17592186044416 then (spec_EncodeBundle.l0 k1 (D4 ++ Dg) (wrap64 (D0 + 1)) l0_0) else (none)))) = some r := by rw [← hbq12] at H; exact H
      have Nbq12 := Cmp.A hbq12; clear hbq12
      by_cases c13 : bq12 = true
      ·subst c13; rw [if_pos rfl] at H
       obtain ⟨Eq, hy551⟩ : ∃ y_ : List Int, y_ = (([(rd_T94 l0_0 D0).f0, (rd_T94 l0_0 D0).f1, (rd_T94 l0_0 D0).f2, 1] : List Int)) := ⟨_, rfl⟩
       replace H : (if D4.length + Eq.length < 17592186044416 then (spec_EncodeBundle.l0 k1 (D4 ++ Eq) (wrap64 (D0 + 1)) l0_0) else (none)) = some r := Cmp.hy hy551 H
       have Ex := Cmp.A hy551; clear hy551
       by_cases c14 : D4.length + Eq.length < 17592186044416
       ·rw [if_pos c14] at H; have LMc14 := Cmp.A c14; clear c14
        obtain ⟨Fo, hy554⟩ : ∃ y_ : List Int, y_ = (D4 ++ Eq) := ⟨_, rfl⟩
        replace H : (spec_EncodeBundle.l0 k1 Fo (wrap64 (D0 + 1)) l0_0) = some r := Cmp.hy hy554 H
        have Fc := Cmp.A hy554; clear hy554
        have H' := Cmp.A H
        clear H
        have Fq : wr.cell? ⟨E5, 0, none⟩ = some (.slice A0_0 l0_0.length c0_0) := (blk_cell D1.out 0).trans rfl
        have Fu := blk_frozen D1.out 0
        have p547 : 0 ≤ (D0 : Int) := of_decide_eq_true Cmp.d
        have q547 : D0 < (l0_0.length : Int) := of_decide_eq_true Cmp.d
        obtain ⟨D2, e547, D7, D8, D9, D5⟩ := at_T94 D6.out D0 p547 q547
        (try rw [← Nbq12.out] at D5)
        (try rw [← Nbq12.out] at Eu)
        cases e547
        replace D7 := Cmp.hc HB D7
        replace D8 := Cmp.hc HB D8
        replace D9 := Cmp.hc HB D9
        replace D5 := Cmp.hc HB D5
        replace p547 := eq_true p547; replace q547 := eq_true q547
        try go_wp2
        replace D3 := Cmp.A (Kd.R_drew D3.out); replace D1 := Cmp.A (blk_drew D1.out); replace HB := Cmp.A (below_drew1 HB.out)
        have p548 : 0 ≤ (D0 : Int) := of_decide_eq_true Cmp.d
        have q548 : D0 < (l0_0.length : Int) := of_decide_eq_true Cmp.d
        obtain ⟨Fe, e548, Dn, Do, Dp, Da⟩ := at_T94 D6.out D0 p548 q548
        have Dh := Da; have Ea := Dp; have E9 := Do; have E8 := Dn
        (try rw [← Nbq12.out] at Da)
        (try rw [← Nbq12.out] at Dh)
        obtain rfl : D2 = Fe := (by injection e548)
        replace Dn := Cmp.hc HB Dn
        replace Do := Cmp.hc HB Do
        replace Dp := Cmp.hc HB Dp
        replace Da := Cmp.hc HB Da
        replace p548 := eq_true p548; replace q548 := eq_true q548
        have p549 : 0 ≤ (D0 : Int) := of_decide_eq_true Cmp.d
        have q549 : D0 < (l0_0.length : Int) := of_decide_eq_true Cmp.d
        obtain ⟨Ff, e549, Dq, Dr, Ds, Db⟩ := at_T94 D6.out D0 p549 q549
        have Di := Db; have Ed := Ds; have Ec := Dr; have Eb := Dq
        (try rw [← Nbq12.out] at Db)
        (try rw [← Nbq12.out] at Di)
        obtain rfl : D2 = Ff := (by injection e549)
        replace Dq := Cmp.hc HB Dq
        replace Dr := Cmp.hc HB Dr
        replace Ds := Cmp.hc HB Ds
        replace Db := Cmp.hc HB Db
        replace p549 := eq_true p549; replace q549 := eq_true q549
        have p550 : 0 ≤ (D0 : Int) := of_decide_eq_true Cmp.d
        have q550 : D0 < (l0_0.length : Int) := of_decide_eq_true Cmp.d
        obtain ⟨Fg, e550, Dt, Du, Dv, Dc⟩ := at_T94 D6.out D0 p550 q550
        have Dj := Dc; have Eg := Dv; have Ef := Du; have Ee := Dt
        (try rw [← Nbq12.out] at Dc)
        (try rw [← Nbq12.out] at Dj)
        obtain rfl : D2 = Fg := (by injection e550)
        replace Dt := Cmp.hc HB Dt
        replace Du := Cmp.hc HB Du
        replace Dv := Cmp.hc HB Dv
        replace Dc := Cmp.hc HB Dc
        replace p550 := eq_true p550; replace q550 := eq_true q550
        refine start_ (n := 23) (S := fun w' => w'.cell? ⟨E5, 0, none⟩ = some (.slice (some D2) l0_0.length c0_0) ∧ w'.cell? (D2.add ((D0).toNat * 4)) = some (.int .i64 ((rd_T94 l0_0 D0).f0)) ∧ w'.cell? ⟨(D2.add ((D0).toNat * 4)).block, (D2.add ((D0).toNat * 4)).off + 1, none⟩ = some (.int .i64 ((rd_T94 l0_0 D0).f1)) ∧ w'.cell? ⟨(D2.add ((D0).toNat * 4)).block, (D2.add ((D0).toNat * 4)).off + 2, none⟩ = some (.int .i64 ((rd_T94 l0_0 D0).f2)) ∧ w'.cell? ⟨(D2.add ((D0).toNat * 4)).block, (D2.add ((D0).toNat * 4)).off + 3, none⟩ = some (.bool (true)) ∧ w'.cell? (D2.add ((D0).toNat * 4)) = some (.int .i64 ((rd_T94 l0_0 D0).f0)) ∧ w'.cell? ⟨(D2.add ((D0).toNat * 4)).block, (D2.add ((D0).toNat * 4)).off + 1, none⟩ = some (.int .i64 ((rd_T94 l0_0 D0).f1)) ∧ w'.cell? ⟨(D2.add ((D0).toNat * 4)).block, (D2.add ((D0).toNat * 4)).off + 2, none⟩ = some (.int .i64 ((rd_T94 l0_0 D0).f2)) ∧ w'.cell? ⟨(D2.add ((D0).toNat * 4)).block, (D2.add ((D0).toNat * 4)).off + 3, none⟩ = some (.bool (true)) ∧ w'.cell? (D2.add ((D0).toNat * 4)) = some (.int .i64 ((rd_T94 l0_0 D0).f0)) ∧ w'.cell? ⟨(D2.add ((D0).toNat * 4)).block, (D2.add ((D0).toNat * 4)).off + 1, none⟩ = some (.int .i64 ((rd_T94 l0_0 D0).f1)) ∧ w'.cell? ⟨(D2.add ((D0).toNat * 4)).block, (D2.add ((D0).toNat * 4)).off + 2, none⟩ = some (.int .i64 ((rd_T94 l0_0 D0).f2)) ∧ w'.cell? ⟨(D2.add ((D0).toNat * 4)).block, (D2.add ((D0).toNat * 4)).off + 3, none⟩ = some (.bool (true))) (ds := []) (Cmp.bm 0 23) (by kernel_rfl) rfl rfl ⟨(Cmp.c0 D1 :), (Cmp.hc HB E8 :), (Cmp.hc HB E9 :), (Cmp.hc HB Ea :), (Cmp.hc HB Dh :), (Cmp.hc HB Eb :), (Cmp.hc HB Ec :), (Cmp.hc HB Ed :), (Cmp.hc HB Di :), (Cmp.hc HB Ee :), (Cmp.hc HB Ef :), (Cmp.hc HB Eg :), (Cmp.hc HB Dj :)⟩ (fun hHeld => ?_); refine with_tabW spec_EncodeBundle.tab10 spec_EncodeBundle.bits10 (fun HT_ HW_ => ?_)
        generalize wr.drew = w16 at D3 D1 HB Dn Do Dp Da Dq Dr Ds Db Dt Du Dv Dc hHeld ⊢
        refine Cmp.pu HT_ 0 27 (Cmp.bm 1 22) ?_; refine Cmp.pu HT_ 1 28 (Cmp.bm 2 21) ?_; refine Cmp.pu HT_ 3 30 (Cmp.bb 23 11) ?_; refine Cmp.pu HT_ 7 34 (Cmp.bb 23 139) ?_; refine Cmp.pu HT_ 9 36 (Cmp.bb 23 651) ?_; refine Cmp.pu HT_ 13 40 (Cmp.bb 23 8843) ?_; refine Cmp.pu HT_ 15 42 (Cmp.bb 23 41611) ?_; refine Cmp.pu HT_ 19 46 (Cmp.bb 23 565899) ?_; refine Cmp.tk HT_ HW_ hHeld 2 29 (Cmp.bb 23 565903) ?_; refine Cmp.pu HT_ 4 31 (Cmp.bb 23 565919) ?_; refine Cmp.pu HT_ 5 32 (Cmp.bb 23 565951) ?_; refine Cmp.tk HT_ HW_ hHeld 6 33 (Cmp.bb 23 566015) ?_; refine Cmp.tk HT_ HW_ hHeld 8 35 (Cmp.bb 23 566271) ?_; refine Cmp.pu HT_ 10 37 (Cmp.bb 23 567295) ?_; refine Cmp.pu HT_ 11 38 (Cmp.bb 23 569343) ?_; refine Cmp.tk HT_ HW_ hHeld 12 39 (Cmp.bb 23 573439) ?_; refine Cmp.tk HT_ HW_ hHeld 14 41 (Cmp.bb 23 589823) ?_; refine Cmp.pu HT_ 16 43 (Cmp.bb 23 655359) ?_; refine Cmp.pu HT_ 17 44 (Cmp.bb 23 786431) ?_; refine Cmp.tk HT_ HW_ hHeld 18 45 (Cmp.bm 20 3) ?_
        refine one_ (i := 20) (N := some 47) (Cmp.bm 21 2) rfl rfl (one_of HT_.out (by kernel_rfl)) (by decide) (fun K hK => ?_)
        refine Kd.R_lit_step (Kd.int .i64) _ 3 ?hg (N := 47) ?hd (xs := ([(rd_T94 l0_0 D0).f0, (rd_T94 l0_0 D0).f1, (rd_T94 l0_0 D0).f2, 1] : List Int)) (inner := [.int .i64 ((rd_T94 l0_0 D0).f0), .int .i64 ((rd_T94 l0_0 D0).f1), .int .i64 ((rd_T94 l0_0 D0).f2), .int .i64 1]) (ok := fun _ => True) (okp := fun _ => True) ?hr ?hp (fun _ hk => hk) trivial (Below.refl _ _) (Nat.le_refl _) (by simp) ?_; (case hd => rfl); (case hg => rfl); (case hr => first | (go_simp; done) | (go_simp; rfl)); (case hp => exact (Reps.one (Cmp.mi ((rd_T94 l0_0 D0).f0)) (Reps.one (Cmp.mi ((rd_T94 l0_0 D0).f1)) (Reps.one (Cmp.mi ((rd_T94 l0_0 D0).f2)) (Reps.one (Cmp.mi 1) (Reps.none _ _))))))
        intro v552 w17 Er hb hg_ hnew_
        clear hg_ hnew_
        (first | rw [← Ex.out] at Er | (simp only [Int.reduceToNat] at Er; rw [← Ex.out] at Er))
        have E6 := Cmp.A (Kd.R_lower (Kd.R_new' Er (Kd.R_lt (Cmp.rr D3.out))) (below_size (Cmp.g HB.out))); replace D3 := Cmp.A (Kd.R_elder' (Cmp.rr D3.out) (Kd.R_base Er) hb); replace D1 := Cmp.be D1 hb; replace HB := Cmp.A (below_step (Cmp.g HB.out) hb); clear hb Er
        obtain ⟨Fy, G1, Fk⟩ := Kd.R_slice E6.out
        (first | subst Fk | (injection Fk with f1_ f2_ f3_; have f4_ := f1_.symm; have f5_ := f3_.symm; clear f1_ f2_ f3_; subst f4_; subst f5_))
        refine hK.out _ _ ⟨(Cmp.c0 D1 :), (Cmp.hc HB E8 :), (Cmp.hc HB E9 :), (Cmp.hc HB Ea :), (Cmp.hc HB Dh :), (Cmp.hc HB Eb :), (Cmp.hc HB Ec :), (Cmp.hc HB Ed :), (Cmp.hc HB Di :), (Cmp.hc HB Ee :), (Cmp.hc HB Ef :), (Cmp.hc HB Eg :), (Cmp.hc HB Dj :)⟩ (fun hHeld => ?_)
        clear hK K
        refine Cmp.no ?_
        refine one_ (i := 21) (N := some 48) (Cmp.bm 22 1) rfl rfl (one_of HT_.out (by kernel_rfl)) (by decide) (fun K hK => ?_)
        refine Kd.R_append_rows_step (Kd.int .i64) (w0 := w) w.heap.size (by rfl) (.tmp 27) (.tmp 47) 32 3 (.int .i64 0) 8 rfl Try.underlying32 info3 rfl (by decide) (by omega) u3 D4 Eq _ _ _ (fun k_ => some k_ ≠ (.slice Fy Eq.length G1 : Value).ownBlock) (fun _ => False) rfl rfl ?aO ?aR (fun _ _ h => h) (fun _ h => h.elim) ?aF ?aB ?aS ?aL ?_
        (case aR => repeat (first | exact (Kd.R_reads' E6.out).2.2 | (with_reducible refine Kd.C_alloc ?_ _) | (with_reducible refine Kd.C_drewN ?_ _) | (with_reducible refine Kd.C_drew ?_)))
        (case aB => exact (Cmp.g HB.out))
        (case aF => exact (fun k_ hk => Kd.fresh' (Kd.R_lt (Cmp.rr E6.out)) k_ hk))
        (case aO => exact (Cmp.rm D3.out (fun _ hk => hk.2)))
        (case aS => exact (below_size (Cmp.g HB.out)))
        (case aL => have := LMc14.out; omega)
        intro v555 w19 ho hb hg hat
        rw [← Fc.out] at ho
        have F9 := Cmp.A (ho); replace D1 := Cmp.bg D1 hg (Kd.R_ne D3.out D1.out (by decide)); replace E6 := Cmp.A (Kd.R_after (ok := (fun _ => True)) (Cmp.rr E6.out) hg hat); replace HB := Cmp.A (hb); clear D3; clear ho hb hg hat
        refine hK.out _ _ ⟨(Cmp.c0 D1 :), (Cmp.hc HB E8 :), (Cmp.hc HB E9 :), (Cmp.hc HB Ea :), (Cmp.hc HB Dh :), (Cmp.hc HB Eb :), (Cmp.hc HB Ec :), (Cmp.hc HB Ed :), (Cmp.hc HB Di :), (Cmp.hc HB Ee :), (Cmp.hc HB Ef :), (Cmp.hc HB Eg :), (Cmp.hc HB Dj :)⟩ (fun hHeld => ?_)
        clear hK K
        refine Cmp.no ?_
        refine Cmp.pu HT_ 22 3 (Cmp.bm 23 0) ?_
        refine done_ (done_of HT_.out (by kernel_rfl)) ?_
        try go_wp2
        go_roundg k1
        case measure => have := HK1.out; omega
        case rel => exact ⟨(Fo), (wrap64 (D0 + 1)), (by first | rfl | simp | simp [*]), H', ⟨by have := HK1.out; omega⟩, ⟨Cmp.rm F9.out (fun _ hk => trivial)⟩, Cmp.bq D1, ⟨Cmp.g HB.out⟩⟩
       ·rw [if_neg c14] at H; exact absurd H (by simp)
      ·replace c13 := Bool.eq_false_iff.mpr c13
       subst c13
       have H1 : ((some (([(rd_T94 l0_0 D0).f0, (rd_T94 l0_0 D0).f1, (rd_T94 l0_0 D0).f2, 0] : List Int) : List Int)).bind fun Dg => (if D4.length + Dg.length < 17592186044416 then (spec_EncodeBundle.l0 k1 (D4 ++ Dg) (wrap64 (D0 + 1)) l0_0) else (none))) = some r := by rw [if_neg (show ¬ (false = true) by decide)] at H; exact H
       clear H; have H := H1; clear H1
       obtain ⟨Dg, hy560⟩ : ∃ y_ : List Int, y_ = (([(rd_T94 l0_0 D0).f0, (rd_T94 l0_0 D0).f1, (rd_T94 l0_0 D0).f2, 0] : List Int)) := ⟨_, rfl⟩
       replace H : (if D4.length + Dg.length < 17592186044416 then (spec_EncodeBundle.l0 k1 (D4 ++ Dg) (wrap64 (D0 + 1)) l0_0) else (none)) = some r := Cmp.hy hy560 H
       have Ey := Cmp.A hy560; clear hy560
       by_cases c21 : D4.length + Dg.length < 17592186044416
       ·rw [if_pos c21] at H; have LMc21 := Cmp.A c21; clear c21
        obtain ⟨Fp, hy563⟩ : ∃ y_ : List Int, y_ = (D4 ++ Dg) := ⟨_, rfl⟩
        replace H : (spec_EncodeBundle.l0 k1 Fp (wrap64 (D0 + 1)) l0_0) = some r := Cmp.hy hy563 H
        have Fd := Cmp.A hy563; clear hy563
        have H' := Cmp.A H
        clear H
        have Fr : wr.cell? ⟨E5, 0, none⟩ = some (.slice A0_0 l0_0.length c0_0) := (blk_cell D1.out 0).trans rfl
        have Fv := blk_frozen D1.out 0
        have p547 : 0 ≤ (D0 : Int) := of_decide_eq_true Cmp.d
        have q547 : D0 < (l0_0.length : Int) := of_decide_eq_true Cmp.d
        obtain ⟨D2, e547, D7, D8, D9, D5⟩ := at_T94 D6.out D0 p547 q547
        (try rw [← Nbq12.out] at D5)
        (try rw [← Nbq12.out] at Eu)
        cases e547
        replace D7 := Cmp.hc HB D7
        replace D8 := Cmp.hc HB D8
        replace D9 := Cmp.hc HB D9
        replace D5 := Cmp.hc HB D5
        replace p547 := eq_true p547; replace q547 := eq_true q547
        try go_wp2
        replace D3 := Cmp.A (Kd.R_drew D3.out); replace D1 := Cmp.A (blk_drew D1.out); replace HB := Cmp.A (below_drew1 HB.out)
        have p557 : 0 ≤ (D0 : Int) := of_decide_eq_true Cmp.d
        have q557 : D0 < (l0_0.length : Int) := of_decide_eq_true Cmp.d
        obtain ⟨Fh, e557, Dw, Dx, Dy, Dd⟩ := at_T94 D6.out D0 p557 q557
        have Dk := Dd; have Ej := Dy; have Ei := Dx; have Eh := Dw
        (try rw [← Nbq12.out] at Dd)
        (try rw [← Nbq12.out] at Dk)
        obtain rfl : D2 = Fh := (by injection e557)
        replace Dw := Cmp.hc HB Dw
        replace Dx := Cmp.hc HB Dx
        replace Dy := Cmp.hc HB Dy
        replace Dd := Cmp.hc HB Dd
        replace p557 := eq_true p557; replace q557 := eq_true q557
        have p558 : 0 ≤ (D0 : Int) := of_decide_eq_true Cmp.d
        have q558 : D0 < (l0_0.length : Int) := of_decide_eq_true Cmp.d
        obtain ⟨Fi, e558, Dz, E0, E1, De⟩ := at_T94 D6.out D0 p558 q558
        have Dl := De; have Em := E1; have El := E0; have Ek := Dz
        (try rw [← Nbq12.out] at De)
        (try rw [← Nbq12.out] at Dl)
        obtain rfl : D2 = Fi := (by injection e558)
        replace Dz := Cmp.hc HB Dz
        replace E0 := Cmp.hc HB E0
        replace E1 := Cmp.hc HB E1
        replace De := Cmp.hc HB De
        replace p558 := eq_true p558; replace q558 := eq_true q558
        have p559 : 0 ≤ (D0 : Int) := of_decide_eq_true Cmp.d
        have q559 : D0 < (l0_0.length : Int) := of_decide_eq_true Cmp.d
        obtain ⟨Fj, e559, E2, E3, E4, Df⟩ := at_T94 D6.out D0 p559 q559
        have Dm := Df; have Ep := E4; have Eo := E3; have En := E2
        (try rw [← Nbq12.out] at Df)
        (try rw [← Nbq12.out] at Dm)
        obtain rfl : D2 = Fj := (by injection e559)
        replace E2 := Cmp.hc HB E2
        replace E3 := Cmp.hc HB E3
        replace E4 := Cmp.hc HB E4
        replace Df := Cmp.hc HB Df
        replace p559 := eq_true p559; replace q559 := eq_true q559
        refine start_ (n := 23) (S := fun w' => w'.cell? ⟨E5, 0, none⟩ = some (.slice (some D2) l0_0.length c0_0) ∧ w'.cell? (D2.add ((D0).toNat * 4)) = some (.int .i64 ((rd_T94 l0_0 D0).f0)) ∧ w'.cell? ⟨(D2.add ((D0).toNat * 4)).block, (D2.add ((D0).toNat * 4)).off + 1, none⟩ = some (.int .i64 ((rd_T94 l0_0 D0).f1)) ∧ w'.cell? ⟨(D2.add ((D0).toNat * 4)).block, (D2.add ((D0).toNat * 4)).off + 2, none⟩ = some (.int .i64 ((rd_T94 l0_0 D0).f2)) ∧ w'.cell? ⟨(D2.add ((D0).toNat * 4)).block, (D2.add ((D0).toNat * 4)).off + 3, none⟩ = some (.bool (false)) ∧ w'.cell? (D2.add ((D0).toNat * 4)) = some (.int .i64 ((rd_T94 l0_0 D0).f0)) ∧ w'.cell? ⟨(D2.add ((D0).toNat * 4)).block, (D2.add ((D0).toNat * 4)).off + 1, none⟩ = some (.int .i64 ((rd_T94 l0_0 D0).f1)) ∧ w'.cell? ⟨(D2.add ((D0).toNat * 4)).block, (D2.add ((D0).toNat * 4)).off + 2, none⟩ = some (.int .i64 ((rd_T94 l0_0 D0).f2)) ∧ w'.cell? ⟨(D2.add ((D0).toNat * 4)).block, (D2.add ((D0).toNat * 4)).off + 3, none⟩ = some (.bool (false)) ∧ w'.cell? (D2.add ((D0).toNat * 4)) = some (.int .i64 ((rd_T94 l0_0 D0).f0)) ∧ w'.cell? ⟨(D2.add ((D0).toNat * 4)).block, (D2.add ((D0).toNat * 4)).off + 1, none⟩ = some (.int .i64 ((rd_T94 l0_0 D0).f1)) ∧ w'.cell? ⟨(D2.add ((D0).toNat * 4)).block, (D2.add ((D0).toNat * 4)).off + 2, none⟩ = some (.int .i64 ((rd_T94 l0_0 D0).f2)) ∧ w'.cell? ⟨(D2.add ((D0).toNat * 4)).block, (D2.add ((D0).toNat * 4)).off + 3, none⟩ = some (.bool (false))) (ds := []) (Cmp.bm 0 23) (by kernel_rfl) rfl rfl ⟨(Cmp.c0 D1 :), (Cmp.hc HB Eh :), (Cmp.hc HB Ei :), (Cmp.hc HB Ej :), (Cmp.hc HB Dk :), (Cmp.hc HB Ek :), (Cmp.hc HB El :), (Cmp.hc HB Em :), (Cmp.hc HB Dl :), (Cmp.hc HB En :), (Cmp.hc HB Eo :), (Cmp.hc HB Ep :), (Cmp.hc HB Dm :)⟩ (fun hHeld => ?_); refine with_tabW spec_EncodeBundle.tab10 spec_EncodeBundle.bits10 (fun HT_ HW_ => ?_)
        generalize wr.drew = w23 at D3 D1 HB Dw Dx Dy Dd Dz E0 E1 De E2 E3 E4 Df hHeld ⊢
        refine Cmp.pu HT_ 0 27 (Cmp.bm 1 22) ?_; refine Cmp.pu HT_ 1 28 (Cmp.bm 2 21) ?_; refine Cmp.pu HT_ 3 30 (Cmp.bb 23 11) ?_; refine Cmp.pu HT_ 7 34 (Cmp.bb 23 139) ?_; refine Cmp.pu HT_ 9 36 (Cmp.bb 23 651) ?_; refine Cmp.pu HT_ 13 40 (Cmp.bb 23 8843) ?_; refine Cmp.pu HT_ 15 42 (Cmp.bb 23 41611) ?_; refine Cmp.pu HT_ 19 46 (Cmp.bb 23 565899) ?_; refine Cmp.tk HT_ HW_ hHeld 2 29 (Cmp.bb 23 565903) ?_; refine Cmp.pu HT_ 4 31 (Cmp.bb 23 565919) ?_; refine Cmp.pu HT_ 5 32 (Cmp.bb 23 565951) ?_; refine Cmp.tk HT_ HW_ hHeld 6 33 (Cmp.bb 23 566015) ?_; refine Cmp.tk HT_ HW_ hHeld 8 35 (Cmp.bb 23 566271) ?_; refine Cmp.pu HT_ 10 37 (Cmp.bb 23 567295) ?_; refine Cmp.pu HT_ 11 38 (Cmp.bb 23 569343) ?_; refine Cmp.tk HT_ HW_ hHeld 12 39 (Cmp.bb 23 573439) ?_; refine Cmp.tk HT_ HW_ hHeld 14 41 (Cmp.bb 23 589823) ?_; refine Cmp.pu HT_ 16 43 (Cmp.bb 23 655359) ?_; refine Cmp.pu HT_ 17 44 (Cmp.bb 23 786431) ?_; refine Cmp.tk HT_ HW_ hHeld 18 45 (Cmp.bm 20 3) ?_
        refine one_ (i := 20) (N := some 47) (Cmp.bm 21 2) rfl rfl (one_of HT_.out (by kernel_rfl)) (by decide) (fun K hK => ?_)
        refine Kd.R_lit_step (Kd.int .i64) _ 3 ?hg (N := 47) ?hd (xs := ([(rd_T94 l0_0 D0).f0, (rd_T94 l0_0 D0).f1, (rd_T94 l0_0 D0).f2, 0] : List Int)) (inner := [.int .i64 ((rd_T94 l0_0 D0).f0), .int .i64 ((rd_T94 l0_0 D0).f1), .int .i64 ((rd_T94 l0_0 D0).f2), .int .i64 0]) (ok := fun _ => True) (okp := fun _ => True) ?hr ?hp (fun _ hk => hk) trivial (Below.refl _ _) (Nat.le_refl _) (by simp) ?_; (case hd => rfl); (case hg => rfl); (case hr => first | (go_simp; done) | (go_simp; rfl)); (case hp => exact (Reps.one (Cmp.mi ((rd_T94 l0_0 D0).f0)) (Reps.one (Cmp.mi ((rd_T94 l0_0 D0).f1)) (Reps.one (Cmp.mi ((rd_T94 l0_0 D0).f2)) (Reps.one (Cmp.mi 0) (Reps.none _ _))))))
        intro v561 w24 Es hb hg_ hnew_
        clear hg_ hnew_
        (first | rw [← Ey.out] at Es | (simp only [Int.reduceToNat] at Es; rw [← Ey.out] at Es))
        have E7 := Cmp.A (Kd.R_lower (Kd.R_new' Es (Kd.R_lt (Cmp.rr D3.out))) (below_size (Cmp.g HB.out))); replace D3 := Cmp.A (Kd.R_elder' (Cmp.rr D3.out) (Kd.R_base Es) hb); replace D1 := Cmp.be D1 hb; replace HB := Cmp.A (below_step (Cmp.g HB.out) hb); clear hb Es
        obtain ⟨Fz, G2, Fl⟩ := Kd.R_slice E7.out
        (first | subst Fl | (injection Fl with f1_ f2_ f3_; have f4_ := f1_.symm; have f5_ := f3_.symm; clear f1_ f2_ f3_; subst f4_; subst f5_))
        refine hK.out _ _ ⟨(Cmp.c0 D1 :), (Cmp.hc HB Eh :), (Cmp.hc HB Ei :), (Cmp.hc HB Ej :), (Cmp.hc HB Dk :), (Cmp.hc HB Ek :), (Cmp.hc HB El :), (Cmp.hc HB Em :), (Cmp.hc HB Dl :), (Cmp.hc HB En :), (Cmp.hc HB Eo :), (Cmp.hc HB Ep :), (Cmp.hc HB Dm :)⟩ (fun hHeld => ?_)
        clear hK K
        refine Cmp.no ?_
        refine one_ (i := 21) (N := some 48) (Cmp.bm 22 1) rfl rfl (one_of HT_.out (by kernel_rfl)) (by decide) (fun K hK => ?_)
        refine Kd.R_append_rows_step (Kd.int .i64) (w0 := w) w.heap.size (by rfl) (.tmp 27) (.tmp 47) 32 3 (.int .i64 0) 8 rfl Try.underlying32 info3 rfl (by decide) (by omega) u3 D4 Dg _ _ _ (fun k_ => some k_ ≠ (.slice Fz Dg.length G2 : Value).ownBlock) (fun _ => False) rfl rfl ?aO ?aR (fun _ _ h => h) (fun _ h => h.elim) ?aF ?aB ?aS ?aL ?_
        (case aR => repeat (first | exact (Kd.R_reads' E7.out).2.2 | (with_reducible refine Kd.C_alloc ?_ _) | (with_reducible refine Kd.C_drewN ?_ _) | (with_reducible refine Kd.C_drew ?_)))
        (case aB => exact (Cmp.g HB.out))
        (case aF => exact (fun k_ hk => Kd.fresh' (Kd.R_lt (Cmp.rr E7.out)) k_ hk))
        (case aO => exact (Cmp.rm D3.out (fun _ hk => hk.2)))
        (case aS => exact (below_size (Cmp.g HB.out)))
        (case aL => have := LMc21.out; omega)
        intro v564 w26 ho hb hg hat
        rw [← Fd.out] at ho
        have Fa := Cmp.A (ho); replace D1 := Cmp.bg D1 hg (Kd.R_ne D3.out D1.out (by decide)); replace E7 := Cmp.A (Kd.R_after (ok := (fun _ => True)) (Cmp.rr E7.out) hg hat); replace HB := Cmp.A (hb); clear D3; clear ho hb hg hat
        refine hK.out _ _ ⟨(Cmp.c0 D1 :), (Cmp.hc HB Eh :), (Cmp.hc HB Ei :), (Cmp.hc HB Ej :), (Cmp.hc HB Dk :), (Cmp.hc HB Ek :), (Cmp.hc HB El :), (Cmp.hc HB Em :), (Cmp.hc HB Dl :), (Cmp.hc HB En :), (Cmp.hc HB Eo :), (Cmp.hc HB Ep :), (Cmp.hc HB Dm :)⟩ (fun hHeld => ?_)
        clear hK K
        refine Cmp.no ?_
        refine Cmp.pu HT_ 22 3 (Cmp.bm 23 0) ?_
        refine done_ (done_of HT_.out (by kernel_rfl)) ?_
        try go_wp2
        go_roundg k1
        case measure => have := HK1.out; omega
        case rel => exact ⟨(Fp), (wrap64 (D0 + 1)), (by first | rfl | simp | simp [*]), H', ⟨by have := HK1.out; omega⟩, ⟨Cmp.rm Fa.out (fun _ hk => trivial)⟩, Cmp.bq D1, ⟨Cmp.g HB.out⟩⟩
       ·rw [if_neg c21] at H; exact absurd H (by simp)
     ·rw [if_neg c11] at H; exact absurd H (by simp)
    ·rw [if_neg c10] at H
     have c10b0 : decide (D0 < (l0_0.length : Int)) = false := decide_eq_false c10
     clear c10; replace H := Option.bind_eq_some_iff.mp H; obtain ⟨G5, F4, H⟩ := H; (try dsimp only at H); have G9 := Cmp.A F4; clear F4
     obtain rfl := Option.some.inj H
     have Fs : wr.cell? ⟨E5, 0, none⟩ = some (.slice A0_0 l0_0.length c0_0) := (blk_cell D1.out 0).trans rfl
     have Fw := blk_frozen D1.out 0
     obtain ⟨G0, G3, G4⟩ := Kd.R_slice D3.out
     subst G4
     go_wp2_with (first | ((with_reducible refine gate_callee (f := 110) rfl ?_); refine goesL_ (some 50) rfl rfl Try.func110 (by kernel_rfl) rfl #[.slice G0 D4.length G3] rfl Cmp.q ?_; (with_reducible refine (spec_EncodeInts.calls k1 _ _ D4 G5 _ ?side1 ?side2 G9.out).mono ?_); (case side1 => exact Cmp.rc (Kd.R_reads' D3.out).2.2); (case side2 => exact (Kd.R_reads' D3.out).2.1); rintro e w31 ⟨v567, rfl, G8, hb⟩; refine ⟨_, rfl, ?_⟩; have Fb := Cmp.A (Kd.R_lower G8 (below_size (Cmp.g HB.out))); replace D3 := Cmp.A (Kd.R_below (Cmp.rr D3.out) hb); replace D1 := Cmp.be D1 hb; replace HB := Cmp.bs HB hb; (try clear hb); (try clear hb2); (try clear hk); (try clear hi); (try clear G8)))
     go_ret
     exact ⟨_, by first | rfl | (simp [errW_none, errW_some] <;> rfl) | (simp [*, errW_none, errW_some] <;> rfl), by (with_reducible repeat (first | apply Kd.R_alloc | apply Kd.R_drewN | apply Kd.R_drew)); exact Fb.out, Cmp.g HB.out⟩
 ·replace c3 := Bool.eq_false_iff.mpr c3
  subst c3
  have H1 : (some (([] : List Int))) = some r := by rw [if_neg (show ¬ (false = true) by decide)] at H; exact H
  clear H; have H := H1; clear H1
  obtain ⟨G6, hy541⟩ : ∃ y_ : List Int, y_ = (([] : List Int)) := ⟨_, rfl⟩
  replace H : (some G6) = some r := Cmp.hy hy541 H
  have Ev := Cmp.A hy541; clear hy541
  obtain rfl := Option.some.inj H
  go_enter Try.func69, Try.ntmps69
  go_wp2_with (first | ((with_reducible refine gate_dst (N := 1) rfl ?_); refine box_event ?hg (N := 1) ?hd (cs := #[.slice A0_0 l0_0.length c0_0]) (t := 45) ?hr ?_; (case hd => rfl); (case hg => rfl); (case hr => first | (go_simp; done) | (go_simp; rfl)); intro E5 hg w32 hbox hb; have D1 := Cmp.A (hbox); have F6 := Cmp.gw hg HB; have F5 := Cmp.gw hg HB; replace HB := Cmp.bs HB hb; clear hb hbox hg; have Ft := Cmp.c0 D1; have Fx := blk_frozen D1.out 0) | ((with_reducible refine gate_callee (f := 66) rfl ?_); refine goesL_ (some 7) rfl rfl Try.func66 (by kernel_rfl) rfl #[.agg #[.slice A0_0 l0_0.length c0_0]] rfl Cmp.q ?_; (with_reducible refine (spec_IsBundle.calls k _ _ l0_0 false _ ?side1 ?side2 A2.out).mono ?_); (case side1 => exact Cmp.rc (Kd.C_below D6.out HB.out)); (case side2 => exact HC0_0.out); rintro e w34 ⟨rfl, hb⟩; refine ⟨_, rfl, ?_⟩; replace D1 := Cmp.be D1 hb; replace HB := Cmp.bs HB hb; (try clear hb); (try clear hb2); (try clear hk); (try clear hi)) | ((with_reducible refine gate_dst (N := 9) rfl ?_); refine Kd.R_lit (Kd.int .u8) _ 5 ?hg (N := 9) ?hd (xs := ([] : List Int)) (inner := []) (ok := fun _ => True) (okp := fun _ => True) ?hr ?hp (fun _ hk => hk) trivial (Below.refl _ _) (Nat.le_refl _) (by simp) ?_; (case hd => rfl); (case hg => rfl); (case hr => first | (go_simp; done) | (go_simp; rfl)); (case hp => exact (Reps.none _ _)); intro v542 w35 Et hb hg_ hnew_; clear hg_ hnew_; (first | rw [← Ev.out] at Et | (simp only [Int.reduceToNat] at Et; rw [← Ev.out] at Et)); have F7 := Cmp.A (Kd.R_lower Et (below_size (Cmp.g HB.out))); replace D1 := Cmp.be D1 hb; replace HB := Cmp.bs HB hb; clear hb Et))
  go_ret
  exact ⟨_, by first | rfl | (simp [errW_none, errW_some] <;> rfl) | (simp [*, errW_none, errW_some] <;> rfl), by (with_reducible repeat (first | apply Kd.R_alloc | apply Kd.R_drewN | apply Kd.R_drew)); exact F7.out, Cmp.g HB.out⟩
end Go.Proofs.Ytpgjecknkmmnhaa.PFnSealedBundles

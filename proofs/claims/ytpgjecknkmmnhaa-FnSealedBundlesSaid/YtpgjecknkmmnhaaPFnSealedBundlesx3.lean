/- Printed functions of the program, out of print.sh, told more shortly. No condition. -/
import Derived.Test.YtpgjecknkmmnhaaCmp
import Derived.Test.YtpgjecknkmmnhaaPFnSealedBundlesx0
import Derived.Test.YtpgjecknkmmnhaaPFnSealedBundlesx2
namespace Go.Proofs.Ytpgjecknkmmnhaa.PFnSealedBundles
open Go.Proofs.Ytpgjecknkmmnhaa
open Go.RowKit Go.Proofs.YtpgjecknkmmnhaaW.PrintWords Go.Proofs.YtpgjecknkmmnhaaW.PrintLast Go.Proofs.YtpgjecknkmmnhaaW.PrintMore
attribute [local go_sem] max2_int min2_int max_two min_two max_three min_three max_four min_four   -- for this text's walks alone
set_option linter.unusedVariables false
set_option linter.unusedSimpArgs false
/-! ### spec_IsBundle: function 66 -/
def spec_IsBundle.l0 : Nat → Int → List (S94) → Option (Bool)
  | 0, _, _ => none
  | k + 1, x3, x138000 => if x3 < (x138000.length : Int) then (if 0 ≤ x3 then ((spec_l1In.f ((rd_T94 x138000 x3).f0) 0 2147483646).bind fun t140 => (if t140 = true then ((spec_l1In.f ((rd_T94 x138000 x3).f1) 0 1000000).bind fun t141 => (if t141 = true then ((spec_l1In.f ((rd_T94 x138000 x3).f2) 1 1000000).bind fun t142 => (if t142 = true then (if x3 > 0 then (if 0 ≤ (wrap64 (x3 - 1)) then (if (wrap64 (x3 - 1)) < (x138000.length : Int) then ((spec_l17Less.f ((rd_T94 x138000 (wrap64 (x3 - 1))).f0) ((rd_T94 x138000 (wrap64 (x3 - 1))).f1) ((rd_T94 x138000 (wrap64 (x3 - 1))).f2) ((rd_T94 x138000 (wrap64 (x3 - 1))).f3) ((rd_T94 x138000 x3).f0) ((rd_T94 x138000 x3).f1)).bind fun t144 => (if t144 = true then (spec_IsBundle.l0 k (wrap64 (x3 + 1)) x138000) else (some false))) else (none)) else (none)) else (spec_IsBundle.l0 k (wrap64 (x3 + 1)) x138000)) else (some false))) else (some false))) else (some false))) else (none)) else (some (decide ((x138000.length : Int) ≤ 20)))
def spec_IsBundle.f (k : Nat) (l0_0 : List (S94)) : Option (Bool) := spec_IsBundle.l0 k 0 l0_0
theorem spec_IsBundle.mono_l : ∀ k, (∀ y0 y1, LeO (spec_IsBundle.l0 k y0 y1) (spec_IsBundle.l0 (k + 1) y0 y1))
 | 0 => fun _ _ r h => by simp [spec_IsBundle.l0] at h
 | k + 1 => by
    have ih0 := spec_IsBundle.mono_l k
    · intro y0 y1
      unfold spec_IsBundle.l0
      repeat' first
 | (with_reducible exact ih0 _ _)
 | (with_reducible exact LeO.refl _)
 | (with_reducible exact LeO.none _)
 | (with_reducible refine LeO.ite ?_ ?_)
 | (with_reducible refine LeO.bind ?_ (fun _ => ?_))
theorem spec_IsBundle.mono : ∀ a0 k, LeO (spec_IsBundle.f k a0) (spec_IsBundle.f (k + 1) a0) := by
  intro a0 k
  have ih0 := spec_IsBundle.mono_l k
  unfold spec_IsBundle.f
  repeat' first
 | (with_reducible exact ih0 _ _)
 | (with_reducible exact LeO.refl _)
 | (with_reducible exact LeO.none _)
 | (with_reducible refine LeO.ite ?_ ?_)
 | (with_reducible refine LeO.bind ?_ (fun _ => ?_))
def spec_IsBundle.T5 : Bool × List (List Nat × List Nat) := (true, [([], []), ([0], [0]), ([1], [1]), ([2], [2]), ([3, 2], [3]), ([4], [4]), ([5, 4], [4, 5]), ([6, 4, 4], [4, 6]), ([7, 4], [4, 7]), ([4, 8], [4, 8]), ([9, 7], [9]), ([10], [10]), ([11, 10], [10, 11]), ([12, 10, 10], [10, 12]), ([13, 10], [10, 13]), ([10, 14], [10, 14]), ([15, 13], [15]), ([16], [16]), ([17, 16], [16, 17]), ([18, 16, 16], [16, 18]), ([19], [19]), ([20, 19], [19, 20]), ([19], [19]), ([22, 19], [19, 22]), ([21, 23, 19], [19, 21, 23]), ([24, 19], [19, 24]), ([19], [19]), ([26, 19], [19, 26]), ([19], [19]), ([28, 19], [19, 28]), ([25, 27, 29, 19, 19], [19, 25, 27, 29]), ([30, 19], [19, 30]), ([19, 31, 16], [16, 19, 31]), ([16, 32], [16, 32])])
def spec_IsBundle.B5 : List Nat := [0, 1, 3, 7, 15, 31, 63, 127, 255, 511, 1023, 2047, 4095, 8191, 16383, 32767, 65535, 131071, 262143, 524287, 1048575, 2097151, 1048575, 5242879, 16777215, 33554431, 1048575, 68157439, 1048575, 269484031, 1073741823, 2147483647, 4294967295, 8589934591]
theorem spec_IsBundle.tab5 : rtab .any (opsOf Try.f66 5) = spec_IsBundle.T5 := by kernel_rfl
theorem spec_IsBundle.bits5 : waitsOk spec_IsBundle.T5.2 spec_IsBundle.B5 = true := by kernel_rfl
set_option maxHeartbeats 8000000 in
set_option maxRecDepth 100000 in
theorem spec_IsBundle.calls (k : Nat) (A0_0 : Option Addr) (c0_0 : Nat) (l0_0 : List (S94)) (r : Bool) (w : World) (hr0_0 : Kd.C k94 w A0_0 l0_0.length l0_0) (hc0_0 : l0_0.length ≤ c0_0) (h : spec_IsBundle.f k l0_0 = some r) :
    Calls Try.prog 66 #[.agg #[.slice A0_0 l0_0.length c0_0]] w fun e w' => e = .returned (.bool r) ∧ Below w.heap.size w w' := by
 have hu45 := Try.underlying45; have hu94 := Try.underlying94; have Dl := Cmp.A hr0_0; have HC0_0 := Cmp.A hc0_0; clear hr0_0 hc0_0
 have HB := Cmp.A (Below.refl w.heap.size w)
 have H : (spec_IsBundle.l0 k 0 l0_0) = some r := h
 clear h
 have H' := Cmp.A H
 clear H
 go_enter Try.func66, Try.ntmps66
 go_wp2_with (first | ((with_reducible refine gate_dst (N := 1) rfl ?_); refine box_event ?hg (N := 1) ?hd (cs := #[.slice A0_0 l0_0.length c0_0]) (t := 45) ?hr ?_; (case hd => rfl); (case hg => rfl); (case hr => first | (go_simp; done) | (go_simp; rfl)); intro Dg hg w2 hbox hb; have D3 := Cmp.A (hbox); have Fp := Cmp.gw hg HB; have Fo := Cmp.gw hg HB; replace HB := Cmp.bs HB hb; clear hb hbox hg))
 go_loopg [3] k (fun kq v3 w' => ∃ (D1 : Int), v3 = .int .i64 D1 ∧ Aside0 (spec_IsBundle.l0 kq D1 l0_0 = some r) ∧ Aside0 (kq ≤ k) ∧ Aside0 (w'.heap[Dg]? = some (.cells #[(.slice A0_0 l0_0.length c0_0)] 45 (0, 0))) ∧ Aside0 (Below w.heap.size w w'))
 case atStart => exact ⟨(0), (by first | rfl | simp | simp [*]), H', ⟨Nat.le_refl _⟩, Cmp.bq D3, ⟨Cmp.g HB.out⟩⟩
 case round =>
  clear H'
  (try clear p2)
  obtain ⟨D1, rfl, HA, HK1, D3, HB⟩ := hrel
  cases gk with
  | zero => exact absurd HA.out (by simp [spec_IsBundle.l0])
  | succ k1 =>
   have H := HA.out; clear HA
   simp only [spec_IsBundle.l0] at H
   by_cases c3 : D1 < (l0_0.length : Int)
   ·rw [if_pos c3] at H
    have c3b0 : decide (D1 < (l0_0.length : Int)) = true := decide_eq_true c3
    clear c3
    by_cases c4 : 0 ≤ D1
    ·rw [if_pos c4] at H; have c4b0 : decide (0 ≤ D1) = true := decide_eq_true c4; clear c4; replace H := Option.bind_eq_some_iff.mp H; obtain ⟨Fh, Fl, H⟩ := H; (try dsimp only at H); have A5 := Cmp.A Fl; clear Fl
     by_cases c6 : Fh = true
     ·subst c6; rw [if_pos rfl] at H; replace H := Option.bind_eq_some_iff.mp H; obtain ⟨Fi, Fm, H⟩ := H; (try dsimp only at H); have A7 := Cmp.A Fm; clear Fm
      by_cases c8 : Fi = true
      ·subst c8; rw [if_pos rfl] at H; replace H := Option.bind_eq_some_iff.mp H; obtain ⟨Fj, Fn, H⟩ := H; (try dsimp only at H); have A9 := Cmp.A Fn; clear Fn
       by_cases c10 : Fj = true
       ·subst c10; rw [if_pos rfl] at H
        by_cases c11 : D1 > 0
        ·rw [if_pos c11] at H; have c11b0 : decide (0 < D1) = true := decide_eq_true c11; clear c11
         obtain ⟨D4, hji12⟩ : ∃ j_ : Int, (wrap64 (D1 - 1)) = j_ := ⟨_, rfl⟩
         replace H : (if 0 ≤ (D4) then (if (D4) < (l0_0.length : Int) then ((spec_l17Less.f ((rd_T94 l0_0 (D4)).f0) ((rd_T94 l0_0 (D4)).f1) ((rd_T94 l0_0 (D4)).f2) ((rd_T94 l0_0 (D4)).f3) ((rd_T94 l0_0 D1).f0) ((rd_T94 l0_0 D1).f1)).bind fun Dp => (if Dp = true then (spec_IsBundle.l0 k1 (wrap64 (D1 + 1)) l0_0) else (some false))) else (none)) else (none)) = some r := by first | (rw [hji12] at H; exact H) | (simp only [hji12] at H ⊢; exact H)
         (try rw [hji12] at A5)
         (try rw [hji12] at A7)
         (try rw [hji12] at A9)
         have hji12w : (IntKind.i64.wrap (D1 - 1)) = D4 := (i64_w _).trans hji12
         by_cases c13 : 0 ≤ (D4)
         ·rw [if_pos c13] at H; have c13b0 : decide (0 ≤ (D4)) = true := decide_eq_true c13; clear c13
          by_cases c14 : (D4) < (l0_0.length : Int)
          ·rw [if_pos c14] at H
           have c14b0 : decide ((D4) < (l0_0.length : Int)) = true := decide_eq_true c14
           clear c14; replace H := Option.bind_eq_some_iff.mp H; obtain ⟨Dp, Dq, H⟩ := H; (try dsimp only at H); have Fk := Cmp.A Dq; clear Dq
           by_cases c16 : Dp = true
           ·subst c16; rw [if_pos rfl] at H
            have H' := Cmp.A H
            clear H
            have Dr : wr.cell? ⟨Dg, 0, none⟩ = some (.slice A0_0 l0_0.length c0_0) := (blk_cell D3.out 0).trans rfl
            have Em := blk_frozen D3.out 0
            have p138 : 0 ≤ (D1 : Int) := of_decide_eq_true Cmp.d
            have q138 : D1 < (l0_0.length : Int) := of_decide_eq_true Cmp.d
            obtain ⟨D5, e138, D6, D7, D8, D9⟩ := at_T94 Dl.out D1 p138 q138
            cases e138
            replace D6 := Cmp.hc HB D6
            replace D7 := Cmp.hc HB D7
            replace D8 := Cmp.hc HB D8
            replace D9 := Cmp.hc HB D9
            replace p138 := eq_true p138; replace q138 := eq_true q138
            try go_wp2_with (first | ((with_reducible refine gate_dst (N := 4) rfl ?_); refine box_event ?hg (N := 4) ?hd (cs := #[.int .i64 0, .int .i64 0, .int .i64 0, .bool false]) (t := 94) ?hr ?_; (case hd => rfl); (case hg => rfl); (case hr => first | (go_simp; done) | (go_simp; rfl)); intro D2 hg w18 hbox hb; have D0 := Cmp.A (hbox); have Dn := Cmp.gw hg HB; have Dm := Cmp.gw hg HB; have Da := Cmp.nl hg D3; have Db := Cmp.ng hg D3; replace D3 := Cmp.be D3 hb; replace HB := Cmp.bs HB hb; clear hb hbox hg; have Fq := Db.out; have Fw := Da.out; obtain ⟨Ds, Dt, Du, Dv⟩ := Cmp.q4 D0; obtain ⟨En, Eo, Ep, Eq⟩ := Cmp.f4 D0))
            have n0_ : Aside0 (((((w18.setCell ⟨D2, 0, none⟩ (.int .i64 ((rd_T94 l0_0 D1).f0))).setCell ⟨D2, 1, none⟩ (.int .i64 ((rd_T94 l0_0 D1).f1))).setCell ⟨D2, 2, none⟩ (.int .i64 ((rd_T94 l0_0 D1).f2))).setCell ⟨D2, 3, none⟩ (.bool ((rd_T94 l0_0 D1).f3))).heap[Dg]? = some (.cells #[.slice (some D5) l0_0.length c0_0] 45 (0, 0))) := ⟨Cmp.bw D3.out⟩
            have n1_ : Aside0 (((((w18.setCell ⟨D2, 0, none⟩ (.int .i64 ((rd_T94 l0_0 D1).f0))).setCell ⟨D2, 1, none⟩ (.int .i64 ((rd_T94 l0_0 D1).f1))).setCell ⟨D2, 2, none⟩ (.int .i64 ((rd_T94 l0_0 D1).f2))).setCell ⟨D2, 3, none⟩ (.bool ((rd_T94 l0_0 D1).f3))).heap[D2]? = some (.cells #[.int .i64 ((rd_T94 l0_0 D1).f0), .int .i64 ((rd_T94 l0_0 D1).f1), .int .i64 ((rd_T94 l0_0 D1).f2), .bool ((rd_T94 l0_0 D1).f3)] 94 (0, 0))) := ⟨Cmp.bw D0.out⟩
            have n2_ : Aside0 (Below w.heap.size w ((((w18.setCell ⟨D2, 0, none⟩ (.int .i64 ((rd_T94 l0_0 D1).f0))).setCell ⟨D2, 1, none⟩ (.int .i64 ((rd_T94 l0_0 D1).f1))).setCell ⟨D2, 2, none⟩ (.int .i64 ((rd_T94 l0_0 D1).f2))).setCell ⟨D2, 3, none⟩ (.bool ((rd_T94 l0_0 D1).f3)))) := ⟨Cmp.g HB.out⟩
            (try clear D3); (try clear D0); (try clear HB)
            generalize ((((w18.setCell ⟨D2, 0, none⟩ (.int .i64 ((rd_T94 l0_0 D1).f0))).setCell ⟨D2, 1, none⟩ (.int .i64 ((rd_T94 l0_0 D1).f1))).setCell ⟨D2, 2, none⟩ (.int .i64 ((rd_T94 l0_0 D1).f2))).setCell ⟨D2, 3, none⟩ (.bool ((rd_T94 l0_0 D1).f3))) = w21 at n0_ n1_ n2_ ⊢
            have D3 := n0_; have D0 := n1_; have HB := n2_; clear n0_ n1_ n2_; replace D3 := Cmp.A (blk_drew D3.out); replace D0 := Cmp.A (blk_drew D0.out); replace HB := Cmp.A (below_drew1 HB.out)
            have p143 : 0 ≤ ((D4) : Int) := of_decide_eq_true Cmp.d
            have q143 : (D4) < (l0_0.length : Int) := of_decide_eq_true Cmp.d
            obtain ⟨Do, e143, Dh, Di, Dj, Dk⟩ := at_T94 Dl.out (D4) p143 q143
            have Df := Dk; have De := Dj; have Dd := Di; have Dc := Dh
            obtain rfl : D5 = Do := (by injection e143)
            replace Dh := Cmp.hc HB Dh
            replace Di := Cmp.hc HB Di
            replace Dj := Cmp.hc HB Dj
            replace Dk := Cmp.hc HB Dk
            replace p143 := eq_true p143; replace q143 := eq_true q143
            refine start_ (n := 34) (S := fun w' => w'.cell? ⟨D2, 0, none⟩ = some (.int .i64 ((rd_T94 l0_0 D1).f0)) ∧ w'.cell? ⟨D2, 1, none⟩ = some (.int .i64 ((rd_T94 l0_0 D1).f1)) ∧ w'.cell? ⟨D2, 2, none⟩ = some (.int .i64 ((rd_T94 l0_0 D1).f2)) ∧ w'.cell? ⟨D2, 3, none⟩ = some (.bool ((rd_T94 l0_0 D1).f3)) ∧ w'.cell? ⟨Dg, 0, none⟩ = some (.slice (some D5) l0_0.length c0_0) ∧ w'.cell? (D5.add (((D4)).toNat * 4)) = some (.int .i64 ((rd_T94 l0_0 (D4)).f0)) ∧ w'.cell? ⟨(D5.add (((D4)).toNat * 4)).block, (D5.add (((D4)).toNat * 4)).off + 1, none⟩ = some (.int .i64 ((rd_T94 l0_0 (D4)).f1)) ∧ w'.cell? ⟨(D5.add (((D4)).toNat * 4)).block, (D5.add (((D4)).toNat * 4)).off + 2, none⟩ = some (.int .i64 ((rd_T94 l0_0 (D4)).f2)) ∧ w'.cell? ⟨(D5.add (((D4)).toNat * 4)).block, (D5.add (((D4)).toNat * 4)).off + 3, none⟩ = some (.bool ((rd_T94 l0_0 (D4)).f3))) (ds := []) (Cmp.bm 0 34) (by kernel_rfl) rfl rfl ⟨(Cmp.c0 D0 :), (Cmp.c1 D0 :), (Cmp.c2 D0 :), (Cmp.c3 D0 :), (Cmp.c0 D3 :), (Cmp.hc HB Dc :), (Cmp.hc HB Dd :), (Cmp.hc HB De :), (Cmp.hc HB Df :)⟩ (fun hHeld => ?_); refine with_tabW spec_IsBundle.tab5 spec_IsBundle.bits5 (fun HT_ HW_ => ?_)
            generalize w21.drew = w22 at D3 D0 HB Dh Di Dj Dk hHeld ⊢
            refine Cmp.pu HT_ 0 17 (Cmp.bm 1 33) ?_; refine Cmp.tk HT_ HW_ hHeld 1 18 (Cmp.bm 2 32) ?_
            refine one_ (i := 2) (N := some 19) (Cmp.bm 3 31) rfl rfl (one_of HT_.out (by kernel_rfl)) (by decide) (fun K hK => ?_)
            refine goes_ Try.func99 (by kernel_rfl) rfl #[.int .i64 ((rd_T94 l0_0 D1).f0), .int .i64 0, .int .i64 2147483646] (by rfl) rfl rfl Cmp.q ?_
            with_reducible refine (spec_l1In.calls ((rd_T94 l0_0 D1).f0) 0 2147483646 true _ A5.out).mono ?_
            rintro e w' ⟨rfl, ⟨nd, rfl⟩⟩; refine ⟨_, rfl, ?_⟩
            refine hK.out _ _ ⟨(Cmp.c0 D0 :), (Cmp.c1 D0 :), (Cmp.c2 D0 :), (Cmp.c3 D0 :), (Cmp.c0 D3 :), (Cmp.hc HB Dc :), (Cmp.hc HB Dd :), (Cmp.hc HB De :), (Cmp.hc HB Df :)⟩ (fun hHeld => ?_)
            clear hK K
            refine Cmp.no ?_
            refine Cmp.pu HT_ 3 20 (Cmp.bm 4 30) ?_; refine Cmp.pu HT_ 4 21 (Cmp.bm 5 29) ?_; refine Cmp.pu HT_ 5 22 (Cmp.bm 6 28) ?_; refine Cmp.tk HT_ HW_ hHeld 6 23 (Cmp.bm 7 27) ?_
            refine one_ (i := 7) (N := some 24) (Cmp.bm 8 26) rfl rfl (one_of HT_.out (by kernel_rfl)) (by decide) (fun K hK => ?_)
            refine goes_ Try.func99 (by kernel_rfl) rfl #[.int .i64 ((rd_T94 l0_0 D1).f1), .int .i64 0, .int .i64 1000000] (by rfl) rfl rfl Cmp.q ?_
            with_reducible refine (spec_l1In.calls ((rd_T94 l0_0 D1).f1) 0 1000000 true _ A7.out).mono ?_
            rintro e w' ⟨rfl, ⟨nd, rfl⟩⟩; refine ⟨_, rfl, ?_⟩
            refine hK.out _ _ ⟨(Cmp.c0 D0 :), (Cmp.c1 D0 :), (Cmp.c2 D0 :), (Cmp.c3 D0 :), (Cmp.c0 D3 :), (Cmp.hc HB Dc :), (Cmp.hc HB Dd :), (Cmp.hc HB De :), (Cmp.hc HB Df :)⟩ (fun hHeld => ?_)
            clear hK K
            refine Cmp.no ?_
            refine Cmp.pu HT_ 8 25 (Cmp.bm 9 25) ?_; refine Cmp.pu HT_ 9 26 (Cmp.bm 10 24) ?_; refine Cmp.pu HT_ 10 27 (Cmp.bm 11 23) ?_; refine Cmp.pu HT_ 11 28 (Cmp.bm 12 22) ?_; refine Cmp.tk HT_ HW_ hHeld 12 29 (Cmp.bm 13 21) ?_
            refine one_ (i := 13) (N := some 30) (Cmp.bm 14 20) rfl rfl (one_of HT_.out (by kernel_rfl)) (by decide) (fun K hK => ?_)
            refine goes_ Try.func99 (by kernel_rfl) rfl #[.int .i64 ((rd_T94 l0_0 D1).f2), .int .i64 1, .int .i64 1000000] (by rfl) rfl rfl Cmp.q ?_
            with_reducible refine (spec_l1In.calls ((rd_T94 l0_0 D1).f2) 1 1000000 true _ A9.out).mono ?_
            rintro e w' ⟨rfl, ⟨nd, rfl⟩⟩; refine ⟨_, rfl, ?_⟩
            refine hK.out _ _ ⟨(Cmp.c0 D0 :), (Cmp.c1 D0 :), (Cmp.c2 D0 :), (Cmp.c3 D0 :), (Cmp.c0 D3 :), (Cmp.hc HB Dc :), (Cmp.hc HB Dd :), (Cmp.hc HB De :), (Cmp.hc HB Df :)⟩ (fun hHeld => ?_)
            clear hK K
            refine Cmp.no ?_
            refine Cmp.pu HT_ 14 31 (Cmp.bm 15 19) ?_; refine Cmp.pu HT_ 15 32 (Cmp.bm 16 18) ?_; refine Cmp.pu HT_ 16 33 (Cmp.bm 17 17) ?_; refine Cmp.pu HT_ 17 34 (Cmp.bm 18 16) ?_; refine Cmp.pu HT_ 18 35 (Cmp.bm 19 15) ?_; refine Cmp.pu HT_ 19 36 (Cmp.bm 20 14) ?_; refine Cmp.pu HT_ 20 37 (Cmp.bm 21 13) ?_; refine Cmp.pu HT_ 22 39 (Cmp.bb 34 6291455) ?_; refine Cmp.pu HT_ 23 40 (Cmp.bb 34 14680063) ?_; refine Cmp.pu HT_ 26 43 (Cmp.bb 34 81788927) ?_; refine Cmp.pu HT_ 28 45 (Cmp.bb 34 350224383) ?_; refine Cmp.tk HT_ HW_ hHeld 21 38 (Cmp.bb 34 352321535) ?_; refine Cmp.pu HT_ 24 41 (Cmp.bb 34 369098751) ?_; refine Cmp.tk HT_ HW_ hHeld 25 42 (Cmp.bb 34 402653183) ?_; refine Cmp.tk HT_ HW_ hHeld 27 44 (Cmp.bm 29 5) ?_; refine Cmp.tk HT_ HW_ hHeld 29 46 (Cmp.bm 30 4) ?_
            refine one_ (i := 30) (N := some 47) (Cmp.bm 31 3) rfl rfl (one_of HT_.out (by kernel_rfl)) (by decide) (fun K hK => ?_)
            refine goes_ Try.func107 (by kernel_rfl) rfl #[.agg #[.int .i64 ((rd_T94 l0_0 (D4)).f0), .int .i64 ((rd_T94 l0_0 (D4)).f1), .int .i64 ((rd_T94 l0_0 (D4)).f2), .bool ((rd_T94 l0_0 (D4)).f3)], .int .i64 ((rd_T94 l0_0 D1).f0), .int .i64 ((rd_T94 l0_0 D1).f1)] (by rfl) rfl rfl (by (try simp only [List.map_toArray, List.map_cons, List.map_nil]); first | done | (simp only [hji12]; rfl) | rfl | (simp only [List.length_drop, List.length_take]; rfl)) ?_
            with_reducible refine (spec_l17Less.calls ((rd_T94 l0_0 (D4)).f0) ((rd_T94 l0_0 (D4)).f1) ((rd_T94 l0_0 (D4)).f2) ((rd_T94 l0_0 (D4)).f3) ((rd_T94 l0_0 D1).f0) ((rd_T94 l0_0 D1).f1) true _ Fk.out).mono ?_
            rintro e w23 ⟨rfl, hb⟩; refine ⟨_, rfl, ?_⟩
            replace D3 := Cmp.be D3 hb; replace D0 := Cmp.be D0 hb; replace HB := Cmp.A (below_step (Cmp.g HB.out) hb); (try clear hb); (try clear hb2); (try clear hk); (try clear hi)
            refine hK.out _ _ ⟨(Cmp.c0 D0 :), (Cmp.c1 D0 :), (Cmp.c2 D0 :), (Cmp.c3 D0 :), (Cmp.c0 D3 :), (Cmp.hc HB Dc :), (Cmp.hc HB Dd :), (Cmp.hc HB De :), (Cmp.hc HB Df :)⟩ (fun hHeld => ?_)
            clear hK K
            refine Cmp.no ?_
            refine Cmp.pu HT_ 31 48 (Cmp.bm 32 2) ?_; refine Cmp.pu HT_ 32 49 (Cmp.bm 33 1) ?_; refine Cmp.pu HT_ 33 50 (Cmp.bm 34 0) ?_
            refine done_ (done_of HT_.out (by kernel_rfl)) ?_
            try go_wp2
            go_roundg k1
            case measure => have := HK1.out; omega
            case rel => exact ⟨(wrap64 (D1 + 1)), (by first | rfl | simp | simp [*]), H', ⟨by have := HK1.out; omega⟩, Cmp.bq D3, ⟨Cmp.g HB.out⟩⟩
           ·replace c16 := Bool.eq_false_iff.mpr c16
            subst c16
            have H1 : (some false) = some r := by rw [if_neg (show ¬ (false = true) by decide)] at H; exact H
            clear H; have H := H1; clear H1
            obtain rfl := Option.some.inj H
            have Dw : wr.cell? ⟨Dg, 0, none⟩ = some (.slice A0_0 l0_0.length c0_0) := (blk_cell D3.out 0).trans rfl
            have Er := blk_frozen D3.out 0
            have p138 : 0 ≤ (D1 : Int) := of_decide_eq_true Cmp.d
            have q138 : D1 < (l0_0.length : Int) := of_decide_eq_true Cmp.d
            obtain ⟨D5, e138, D6, D7, D8, D9⟩ := at_T94 Dl.out D1 p138 q138
            cases e138
            replace D6 := Cmp.hc HB D6
            replace D7 := Cmp.hc HB D7
            replace D8 := Cmp.hc HB D8
            replace D9 := Cmp.hc HB D9
            replace p138 := eq_true p138; replace q138 := eq_true q138
            try go_wp2_with (first | ((with_reducible refine gate_dst (N := 4) rfl ?_); refine box_event ?hg (N := 4) ?hd (cs := #[.int .i64 0, .int .i64 0, .int .i64 0, .bool false]) (t := 94) ?hr ?_; (case hd => rfl); (case hg => rfl); (case hr => first | (go_simp; done) | (go_simp; rfl)); intro D2 hg w25 hbox hb; have D0 := Cmp.A (hbox); have Dn := Cmp.gw hg HB; have Dm := Cmp.gw hg HB; have Da := Cmp.nl hg D3; have Db := Cmp.ng hg D3; replace D3 := Cmp.be D3 hb; replace HB := Cmp.bs HB hb; clear hb hbox hg; have Fr := Db.out; have Fx := Da.out; obtain ⟨Dx, Dy, Dz, E0⟩ := Cmp.q4 D0; obtain ⟨Es, Et, Eu, Ev⟩ := Cmp.f4 D0))
            have n0_ : Aside0 (((((w25.setCell ⟨D2, 0, none⟩ (.int .i64 ((rd_T94 l0_0 D1).f0))).setCell ⟨D2, 1, none⟩ (.int .i64 ((rd_T94 l0_0 D1).f1))).setCell ⟨D2, 2, none⟩ (.int .i64 ((rd_T94 l0_0 D1).f2))).setCell ⟨D2, 3, none⟩ (.bool ((rd_T94 l0_0 D1).f3))).heap[Dg]? = some (.cells #[.slice (some D5) l0_0.length c0_0] 45 (0, 0))) := ⟨Cmp.bw D3.out⟩
            have n1_ : Aside0 (((((w25.setCell ⟨D2, 0, none⟩ (.int .i64 ((rd_T94 l0_0 D1).f0))).setCell ⟨D2, 1, none⟩ (.int .i64 ((rd_T94 l0_0 D1).f1))).setCell ⟨D2, 2, none⟩ (.int .i64 ((rd_T94 l0_0 D1).f2))).setCell ⟨D2, 3, none⟩ (.bool ((rd_T94 l0_0 D1).f3))).heap[D2]? = some (.cells #[.int .i64 ((rd_T94 l0_0 D1).f0), .int .i64 ((rd_T94 l0_0 D1).f1), .int .i64 ((rd_T94 l0_0 D1).f2), .bool ((rd_T94 l0_0 D1).f3)] 94 (0, 0))) := ⟨Cmp.bw D0.out⟩
            have n2_ : Aside0 (Below w.heap.size w ((((w25.setCell ⟨D2, 0, none⟩ (.int .i64 ((rd_T94 l0_0 D1).f0))).setCell ⟨D2, 1, none⟩ (.int .i64 ((rd_T94 l0_0 D1).f1))).setCell ⟨D2, 2, none⟩ (.int .i64 ((rd_T94 l0_0 D1).f2))).setCell ⟨D2, 3, none⟩ (.bool ((rd_T94 l0_0 D1).f3)))) := ⟨Cmp.g HB.out⟩
            (try clear D3); (try clear D0); (try clear HB)
            generalize ((((w25.setCell ⟨D2, 0, none⟩ (.int .i64 ((rd_T94 l0_0 D1).f0))).setCell ⟨D2, 1, none⟩ (.int .i64 ((rd_T94 l0_0 D1).f1))).setCell ⟨D2, 2, none⟩ (.int .i64 ((rd_T94 l0_0 D1).f2))).setCell ⟨D2, 3, none⟩ (.bool ((rd_T94 l0_0 D1).f3))) = w28 at n0_ n1_ n2_ ⊢
            have D3 := n0_; have D0 := n1_; have HB := n2_; clear n0_ n1_ n2_; replace D3 := Cmp.A (blk_drew D3.out); replace D0 := Cmp.A (blk_drew D0.out); replace HB := Cmp.A (below_drew1 HB.out)
            have p143 : 0 ≤ ((D4) : Int) := of_decide_eq_true Cmp.d
            have q143 : (D4) < (l0_0.length : Int) := of_decide_eq_true Cmp.d
            obtain ⟨Do, e143, Dh, Di, Dj, Dk⟩ := at_T94 Dl.out (D4) p143 q143
            have Df := Dk; have De := Dj; have Dd := Di; have Dc := Dh
            obtain rfl : D5 = Do := (by injection e143)
            replace Dh := Cmp.hc HB Dh
            replace Di := Cmp.hc HB Di
            replace Dj := Cmp.hc HB Dj
            replace Dk := Cmp.hc HB Dk
            replace p143 := eq_true p143; replace q143 := eq_true q143
            refine start_ (n := 34) (S := fun w' => w'.cell? ⟨D2, 0, none⟩ = some (.int .i64 ((rd_T94 l0_0 D1).f0)) ∧ w'.cell? ⟨D2, 1, none⟩ = some (.int .i64 ((rd_T94 l0_0 D1).f1)) ∧ w'.cell? ⟨D2, 2, none⟩ = some (.int .i64 ((rd_T94 l0_0 D1).f2)) ∧ w'.cell? ⟨D2, 3, none⟩ = some (.bool ((rd_T94 l0_0 D1).f3)) ∧ w'.cell? ⟨Dg, 0, none⟩ = some (.slice (some D5) l0_0.length c0_0) ∧ w'.cell? (D5.add (((D4)).toNat * 4)) = some (.int .i64 ((rd_T94 l0_0 (D4)).f0)) ∧ w'.cell? ⟨(D5.add (((D4)).toNat * 4)).block, (D5.add (((D4)).toNat * 4)).off + 1, none⟩ = some (.int .i64 ((rd_T94 l0_0 (D4)).f1)) ∧ w'.cell? ⟨(D5.add (((D4)).toNat * 4)).block, (D5.add (((D4)).toNat * 4)).off + 2, none⟩ = some (.int .i64 ((rd_T94 l0_0 (D4)).f2)) ∧ w'.cell? ⟨(D5.add (((D4)).toNat * 4)).block, (D5.add (((D4)).toNat * 4)).off + 3, none⟩ = some (.bool ((rd_T94 l0_0 (D4)).f3))) (ds := []) (Cmp.bm 0 34) (by kernel_rfl) rfl rfl ⟨(Cmp.c0 D0 :), (Cmp.c1 D0 :), (Cmp.c2 D0 :), (Cmp.c3 D0 :), (Cmp.c0 D3 :), (Cmp.hc HB Dc :), (Cmp.hc HB Dd :), (Cmp.hc HB De :), (Cmp.hc HB Df :)⟩ (fun hHeld => ?_); refine with_tabW spec_IsBundle.tab5 spec_IsBundle.bits5 (fun HT_ HW_ => ?_)
            generalize w28.drew = w29 at D3 D0 HB Dh Di Dj Dk hHeld ⊢
            refine Cmp.pu HT_ 0 17 (Cmp.bm 1 33) ?_; refine Cmp.tk HT_ HW_ hHeld 1 18 (Cmp.bm 2 32) ?_
            refine one_ (i := 2) (N := some 19) (Cmp.bm 3 31) rfl rfl (one_of HT_.out (by kernel_rfl)) (by decide) (fun K hK => ?_)
            refine goes_ Try.func99 (by kernel_rfl) rfl #[.int .i64 ((rd_T94 l0_0 D1).f0), .int .i64 0, .int .i64 2147483646] (by rfl) rfl rfl Cmp.q ?_
            with_reducible refine (spec_l1In.calls ((rd_T94 l0_0 D1).f0) 0 2147483646 true _ A5.out).mono ?_
            rintro e w' ⟨rfl, ⟨nd, rfl⟩⟩; refine ⟨_, rfl, ?_⟩
            refine hK.out _ _ ⟨(Cmp.c0 D0 :), (Cmp.c1 D0 :), (Cmp.c2 D0 :), (Cmp.c3 D0 :), (Cmp.c0 D3 :), (Cmp.hc HB Dc :), (Cmp.hc HB Dd :), (Cmp.hc HB De :), (Cmp.hc HB Df :)⟩ (fun hHeld => ?_)
            clear hK K
            refine Cmp.no ?_
            refine Cmp.pu HT_ 3 20 (Cmp.bm 4 30) ?_; refine Cmp.pu HT_ 4 21 (Cmp.bm 5 29) ?_; refine Cmp.pu HT_ 5 22 (Cmp.bm 6 28) ?_; refine Cmp.tk HT_ HW_ hHeld 6 23 (Cmp.bm 7 27) ?_
            refine one_ (i := 7) (N := some 24) (Cmp.bm 8 26) rfl rfl (one_of HT_.out (by kernel_rfl)) (by decide) (fun K hK => ?_)
            refine goes_ Try.func99 (by kernel_rfl) rfl #[.int .i64 ((rd_T94 l0_0 D1).f1), .int .i64 0, .int .i64 1000000] (by rfl) rfl rfl Cmp.q ?_
            with_reducible refine (spec_l1In.calls ((rd_T94 l0_0 D1).f1) 0 1000000 true _ A7.out).mono ?_
            rintro e w' ⟨rfl, ⟨nd, rfl⟩⟩; refine ⟨_, rfl, ?_⟩
            refine hK.out _ _ ⟨(Cmp.c0 D0 :), (Cmp.c1 D0 :), (Cmp.c2 D0 :), (Cmp.c3 D0 :), (Cmp.c0 D3 :), (Cmp.hc HB Dc :), (Cmp.hc HB Dd :), (Cmp.hc HB De :), (Cmp.hc HB Df :)⟩ (fun hHeld => ?_)
            clear hK K
            refine Cmp.no ?_
            refine Cmp.pu HT_ 8 25 (Cmp.bm 9 25) ?_; refine Cmp.pu HT_ 9 26 (Cmp.bm 10 24) ?_; refine Cmp.pu HT_ 10 27 (Cmp.bm 11 23) ?_; refine Cmp.pu HT_ 11 28 (Cmp.bm 12 22) ?_; refine Cmp.tk HT_ HW_ hHeld 12 29 (Cmp.bm 13 21) ?_
            refine one_ (i := 13) (N := some 30) (Cmp.bm 14 20) rfl rfl (one_of HT_.out (by kernel_rfl)) (by decide) (fun K hK => ?_)
            refine goes_ Try.func99 (by kernel_rfl) rfl #[.int .i64 ((rd_T94 l0_0 D1).f2), .int .i64 1, .int .i64 1000000] (by rfl) rfl rfl Cmp.q ?_
            with_reducible refine (spec_l1In.calls ((rd_T94 l0_0 D1).f2) 1 1000000 true _ A9.out).mono ?_
            rintro e w' ⟨rfl, ⟨nd, rfl⟩⟩; refine ⟨_, rfl, ?_⟩
            refine hK.out _ _ ⟨(Cmp.c0 D0 :), (Cmp.c1 D0 :), (Cmp.c2 D0 :), (Cmp.c3 D0 :), (Cmp.c0 D3 :), (Cmp.hc HB Dc :), (Cmp.hc HB Dd :), (Cmp.hc HB De :), (Cmp.hc HB Df :)⟩ (fun hHeld => ?_)
            clear hK K
            refine Cmp.no ?_
            refine Cmp.pu HT_ 14 31 (Cmp.bm 15 19) ?_; refine Cmp.pu HT_ 15 32 (Cmp.bm 16 18) ?_; refine Cmp.pu HT_ 16 33 (Cmp.bm 17 17) ?_; refine Cmp.pu HT_ 17 34 (Cmp.bm 18 16) ?_; refine Cmp.pu HT_ 18 35 (Cmp.bm 19 15) ?_; refine Cmp.pu HT_ 19 36 (Cmp.bm 20 14) ?_; refine Cmp.pu HT_ 20 37 (Cmp.bm 21 13) ?_; refine Cmp.pu HT_ 22 39 (Cmp.bb 34 6291455) ?_; refine Cmp.pu HT_ 23 40 (Cmp.bb 34 14680063) ?_; refine Cmp.pu HT_ 26 43 (Cmp.bb 34 81788927) ?_; refine Cmp.pu HT_ 28 45 (Cmp.bb 34 350224383) ?_; refine Cmp.tk HT_ HW_ hHeld 21 38 (Cmp.bb 34 352321535) ?_; refine Cmp.pu HT_ 24 41 (Cmp.bb 34 369098751) ?_; refine Cmp.tk HT_ HW_ hHeld 25 42 (Cmp.bb 34 402653183) ?_; refine Cmp.tk HT_ HW_ hHeld 27 44 (Cmp.bm 29 5) ?_; refine Cmp.tk HT_ HW_ hHeld 29 46 (Cmp.bm 30 4) ?_
            refine one_ (i := 30) (N := some 47) (Cmp.bm 31 3) rfl rfl (one_of HT_.out (by kernel_rfl)) (by decide) (fun K hK => ?_)
            refine goes_ Try.func107 (by kernel_rfl) rfl #[.agg #[.int .i64 ((rd_T94 l0_0 (D4)).f0), .int .i64 ((rd_T94 l0_0 (D4)).f1), .int .i64 ((rd_T94 l0_0 (D4)).f2), .bool ((rd_T94 l0_0 (D4)).f3)], .int .i64 ((rd_T94 l0_0 D1).f0), .int .i64 ((rd_T94 l0_0 D1).f1)] (by rfl) rfl rfl (by (try simp only [List.map_toArray, List.map_cons, List.map_nil]); first | done | (simp only [hji12]; rfl) | rfl | (simp only [List.length_drop, List.length_take]; rfl)) ?_
            with_reducible refine (spec_l17Less.calls ((rd_T94 l0_0 (D4)).f0) ((rd_T94 l0_0 (D4)).f1) ((rd_T94 l0_0 (D4)).f2) ((rd_T94 l0_0 (D4)).f3) ((rd_T94 l0_0 D1).f0) ((rd_T94 l0_0 D1).f1) false _ Fk.out).mono ?_
            rintro e w30 ⟨rfl, hb⟩; refine ⟨_, rfl, ?_⟩
            replace D3 := Cmp.be D3 hb; replace D0 := Cmp.be D0 hb; replace HB := Cmp.A (below_step (Cmp.g HB.out) hb); (try clear hb); (try clear hb2); (try clear hk); (try clear hi)
            refine hK.out _ _ ⟨(Cmp.c0 D0 :), (Cmp.c1 D0 :), (Cmp.c2 D0 :), (Cmp.c3 D0 :), (Cmp.c0 D3 :), (Cmp.hc HB Dc :), (Cmp.hc HB Dd :), (Cmp.hc HB De :), (Cmp.hc HB Df :)⟩ (fun hHeld => ?_)
            clear hK K
            refine Cmp.no ?_
            refine Cmp.pu HT_ 31 48 (Cmp.bm 32 2) ?_; refine Cmp.pu HT_ 32 49 (Cmp.bm 33 1) ?_; refine Cmp.pu HT_ 33 50 (Cmp.bm 34 0) ?_
            refine done_ (done_of HT_.out (by kernel_rfl)) ?_
            try go_wp2
            go_ret
            exact ⟨by first | rfl | (simp [errW_none, errW_some] <;> rfl) | (simp only [← hji12]; first | rfl | (simp [errW_none, errW_some] <;> rfl)) | (simp [*, errW_none, errW_some] <;> rfl), Cmp.g HB.out⟩
          ·rw [if_neg c14] at H; exact absurd H (by simp)
         ·rw [if_neg c13] at H; exact absurd H (by simp)
        ·rw [if_neg c11] at H; have c11b0 : decide (0 < D1) = false := decide_eq_false c11; clear c11
         have H' := Cmp.A H
         clear H
         have E1 : wr.cell? ⟨Dg, 0, none⟩ = some (.slice A0_0 l0_0.length c0_0) := (blk_cell D3.out 0).trans rfl
         have Ew := blk_frozen D3.out 0
         have p138 : 0 ≤ (D1 : Int) := of_decide_eq_true Cmp.d
         have q138 : D1 < (l0_0.length : Int) := of_decide_eq_true Cmp.d
         obtain ⟨D5, e138, D6, D7, D8, D9⟩ := at_T94 Dl.out D1 p138 q138
         cases e138
         replace D6 := Cmp.hc HB D6
         replace D7 := Cmp.hc HB D7
         replace D8 := Cmp.hc HB D8
         replace D9 := Cmp.hc HB D9
         replace p138 := eq_true p138; replace q138 := eq_true q138
         try go_wp2_with (first | ((with_reducible refine gate_dst (N := 4) rfl ?_); refine box_event ?hg (N := 4) ?hd (cs := #[.int .i64 0, .int .i64 0, .int .i64 0, .bool false]) (t := 94) ?hr ?_; (case hd => rfl); (case hg => rfl); (case hr => first | (go_simp; done) | (go_simp; rfl)); intro D2 hg w32 hbox hb; have D0 := Cmp.A (hbox); have Dn := Cmp.gw hg HB; have Dm := Cmp.gw hg HB; have Da := Cmp.nl hg D3; have Db := Cmp.ng hg D3; replace D3 := Cmp.be D3 hb; replace HB := Cmp.bs HB hb; clear hb hbox hg; have Fs := Db.out; have Fy := Da.out; obtain ⟨E2, E3, E4, E5⟩ := Cmp.q4 D0; obtain ⟨Ex, Ey, Ez, F0⟩ := Cmp.f4 D0))
         have n0_ : Aside0 (((((w32.setCell ⟨D2, 0, none⟩ (.int .i64 ((rd_T94 l0_0 D1).f0))).setCell ⟨D2, 1, none⟩ (.int .i64 ((rd_T94 l0_0 D1).f1))).setCell ⟨D2, 2, none⟩ (.int .i64 ((rd_T94 l0_0 D1).f2))).setCell ⟨D2, 3, none⟩ (.bool ((rd_T94 l0_0 D1).f3))).heap[Dg]? = some (.cells #[.slice (some D5) l0_0.length c0_0] 45 (0, 0))) := ⟨Cmp.bw D3.out⟩
         have n1_ : Aside0 (((((w32.setCell ⟨D2, 0, none⟩ (.int .i64 ((rd_T94 l0_0 D1).f0))).setCell ⟨D2, 1, none⟩ (.int .i64 ((rd_T94 l0_0 D1).f1))).setCell ⟨D2, 2, none⟩ (.int .i64 ((rd_T94 l0_0 D1).f2))).setCell ⟨D2, 3, none⟩ (.bool ((rd_T94 l0_0 D1).f3))).heap[D2]? = some (.cells #[.int .i64 ((rd_T94 l0_0 D1).f0), .int .i64 ((rd_T94 l0_0 D1).f1), .int .i64 ((rd_T94 l0_0 D1).f2), .bool ((rd_T94 l0_0 D1).f3)] 94 (0, 0))) := ⟨Cmp.bw D0.out⟩
         have n2_ : Aside0 (Below w.heap.size w ((((w32.setCell ⟨D2, 0, none⟩ (.int .i64 ((rd_T94 l0_0 D1).f0))).setCell ⟨D2, 1, none⟩ (.int .i64 ((rd_T94 l0_0 D1).f1))).setCell ⟨D2, 2, none⟩ (.int .i64 ((rd_T94 l0_0 D1).f2))).setCell ⟨D2, 3, none⟩ (.bool ((rd_T94 l0_0 D1).f3)))) := ⟨Cmp.g HB.out⟩
         (try clear D3); (try clear D0); (try clear HB)
         generalize ((((w32.setCell ⟨D2, 0, none⟩ (.int .i64 ((rd_T94 l0_0 D1).f0))).setCell ⟨D2, 1, none⟩ (.int .i64 ((rd_T94 l0_0 D1).f1))).setCell ⟨D2, 2, none⟩ (.int .i64 ((rd_T94 l0_0 D1).f2))).setCell ⟨D2, 3, none⟩ (.bool ((rd_T94 l0_0 D1).f3))) = w35 at n0_ n1_ n2_ ⊢
         have D3 := n0_; have D0 := n1_; have HB := n2_; clear n0_ n1_ n2_; replace D3 := Cmp.A (blk_drew D3.out); replace D0 := Cmp.A (blk_drew D0.out); replace HB := Cmp.A (below_drew1 HB.out)
         refine start_ (n := 34) (S := fun w' => w'.cell? ⟨D2, 0, none⟩ = some (.int .i64 ((rd_T94 l0_0 D1).f0)) ∧ w'.cell? ⟨D2, 1, none⟩ = some (.int .i64 ((rd_T94 l0_0 D1).f1)) ∧ w'.cell? ⟨D2, 2, none⟩ = some (.int .i64 ((rd_T94 l0_0 D1).f2)) ∧ w'.cell? ⟨D2, 3, none⟩ = some (.bool ((rd_T94 l0_0 D1).f3))) (ds := []) (Cmp.bm 0 34) (by kernel_rfl) rfl rfl ⟨(Cmp.c0 D0 :), (Cmp.c1 D0 :), (Cmp.c2 D0 :), (Cmp.c3 D0 :)⟩ (fun hHeld => ?_); refine with_tabW spec_IsBundle.tab5 spec_IsBundle.bits5 (fun HT_ HW_ => ?_)
         generalize w35.drew = w36 at D3 D0 HB hHeld ⊢
         refine Cmp.pu HT_ 0 17 (Cmp.bm 1 33) ?_; refine Cmp.tk HT_ HW_ hHeld 1 18 (Cmp.bm 2 32) ?_
         refine one_ (i := 2) (N := some 19) (Cmp.bm 3 31) rfl rfl (one_of HT_.out (by kernel_rfl)) (by decide) (fun K hK => ?_)
         refine goes_ Try.func99 (by kernel_rfl) rfl #[.int .i64 ((rd_T94 l0_0 D1).f0), .int .i64 0, .int .i64 2147483646] (by rfl) rfl rfl Cmp.q ?_
         with_reducible refine (spec_l1In.calls ((rd_T94 l0_0 D1).f0) 0 2147483646 true _ A5.out).mono ?_
         rintro e w' ⟨rfl, ⟨nd, rfl⟩⟩; refine ⟨_, rfl, ?_⟩
         refine hK.out _ _ ⟨(Cmp.c0 D0 :), (Cmp.c1 D0 :), (Cmp.c2 D0 :), (Cmp.c3 D0 :)⟩ (fun hHeld => ?_)
         clear hK K
         refine Cmp.no ?_
         refine Cmp.pu HT_ 3 20 (Cmp.bm 4 30) ?_; refine Cmp.pu HT_ 4 21 (Cmp.bm 5 29) ?_; refine Cmp.pu HT_ 5 22 (Cmp.bm 6 28) ?_; refine Cmp.tk HT_ HW_ hHeld 6 23 (Cmp.bm 7 27) ?_
         refine one_ (i := 7) (N := some 24) (Cmp.bm 8 26) rfl rfl (one_of HT_.out (by kernel_rfl)) (by decide) (fun K hK => ?_)
         refine goes_ Try.func99 (by kernel_rfl) rfl #[.int .i64 ((rd_T94 l0_0 D1).f1), .int .i64 0, .int .i64 1000000] (by rfl) rfl rfl Cmp.q ?_
         with_reducible refine (spec_l1In.calls ((rd_T94 l0_0 D1).f1) 0 1000000 true _ A7.out).mono ?_
         rintro e w' ⟨rfl, ⟨nd, rfl⟩⟩; refine ⟨_, rfl, ?_⟩
         refine hK.out _ _ ⟨(Cmp.c0 D0 :), (Cmp.c1 D0 :), (Cmp.c2 D0 :), (Cmp.c3 D0 :)⟩ (fun hHeld => ?_)
         clear hK K
         refine Cmp.no ?_
         refine Cmp.pu HT_ 8 25 (Cmp.bm 9 25) ?_; refine Cmp.pu HT_ 9 26 (Cmp.bm 10 24) ?_; refine Cmp.pu HT_ 10 27 (Cmp.bm 11 23) ?_; refine Cmp.pu HT_ 11 28 (Cmp.bm 12 22) ?_; refine Cmp.tk HT_ HW_ hHeld 12 29 (Cmp.bm 13 21) ?_
         refine one_ (i := 13) (N := some 30) (Cmp.bm 14 20) rfl rfl (one_of HT_.out (by kernel_rfl)) (by decide) (fun K hK => ?_)
         refine goes_ Try.func99 (by kernel_rfl) rfl #[.int .i64 ((rd_T94 l0_0 D1).f2), .int .i64 1, .int .i64 1000000] (by rfl) rfl rfl Cmp.q ?_
         with_reducible refine (spec_l1In.calls ((rd_T94 l0_0 D1).f2) 1 1000000 true _ A9.out).mono ?_
         rintro e w' ⟨rfl, ⟨nd, rfl⟩⟩; refine ⟨_, rfl, ?_⟩
         refine hK.out _ _ ⟨(Cmp.c0 D0 :), (Cmp.c1 D0 :), (Cmp.c2 D0 :), (Cmp.c3 D0 :)⟩ (fun hHeld => ?_)
         clear hK K
         refine Cmp.no ?_
         refine Cmp.pu HT_ 14 31 (Cmp.bm 15 19) ?_; refine Cmp.pu HT_ 15 32 (Cmp.bm 16 18) ?_; refine Cmp.pu HT_ 16 33 (Cmp.bm 17 17) ?_; refine Cmp.pu HT_ 17 34 (Cmp.bm 18 16) ?_; refine Cmp.pu HT_ 18 35 (Cmp.bm 19 15) ?_; refine Cmp.pu HT_ 19 36 (Cmp.bm 20 14) ?_; refine Cmp.pv HT_ 20 37 (Cmp.bm 21 13) ?_; refine Cmp.pv HT_ 21 38 (Cmp.bm 22 12) ?_; refine Cmp.pv HT_ 22 39 (Cmp.bm 23 11) ?_; refine Cmp.pv HT_ 23 40 (Cmp.bm 24 10) ?_; refine Cmp.pv HT_ 24 41 (Cmp.bm 25 9) ?_; refine Cmp.pv HT_ 25 42 (Cmp.bm 26 8) ?_; refine Cmp.pv HT_ 26 43 (Cmp.bm 27 7) ?_; refine Cmp.pv HT_ 27 44 (Cmp.bm 28 6) ?_; refine Cmp.pv HT_ 28 45 (Cmp.bm 29 5) ?_; refine Cmp.pv HT_ 29 46 (Cmp.bm 30 4) ?_; refine Cmp.pv HT_ 30 47 (Cmp.bm 31 3) ?_; refine Cmp.pv HT_ 31 48 (Cmp.bm 32 2) ?_; refine Cmp.pu HT_ 32 49 (Cmp.bm 33 1) ?_; refine Cmp.pu HT_ 33 50 (Cmp.bm 34 0) ?_
         refine done_ (done_of HT_.out (by kernel_rfl)) ?_
         try go_wp2
         go_roundg k1
         case measure => have := HK1.out; omega
         case rel => exact ⟨(wrap64 (D1 + 1)), (by first | rfl | simp | simp [*]), H', ⟨by have := HK1.out; omega⟩, Cmp.bq D3, ⟨Cmp.g HB.out⟩⟩
       ·replace c10 := Bool.eq_false_iff.mpr c10
        subst c10
        have H1 : (some false) = some r := by rw [if_neg (show ¬ (false = true) by decide)] at H; exact H
        clear H; have H := H1; clear H1
        obtain rfl := Option.some.inj H
        have E6 : wr.cell? ⟨Dg, 0, none⟩ = some (.slice A0_0 l0_0.length c0_0) := (blk_cell D3.out 0).trans rfl
        have F1 := blk_frozen D3.out 0
        have p138 : 0 ≤ (D1 : Int) := of_decide_eq_true Cmp.d
        have q138 : D1 < (l0_0.length : Int) := of_decide_eq_true Cmp.d
        obtain ⟨D5, e138, D6, D7, D8, D9⟩ := at_T94 Dl.out D1 p138 q138
        cases e138
        replace D6 := Cmp.hc HB D6
        replace D7 := Cmp.hc HB D7
        replace D8 := Cmp.hc HB D8
        replace D9 := Cmp.hc HB D9
        replace p138 := eq_true p138; replace q138 := eq_true q138
        try go_wp2_with (first | ((with_reducible refine gate_dst (N := 4) rfl ?_); refine box_event ?hg (N := 4) ?hd (cs := #[.int .i64 0, .int .i64 0, .int .i64 0, .bool false]) (t := 94) ?hr ?_; (case hd => rfl); (case hg => rfl); (case hr => first | (go_simp; done) | (go_simp; rfl)); intro D2 hg w38 hbox hb; have D0 := Cmp.A (hbox); have Dn := Cmp.gw hg HB; have Dm := Cmp.gw hg HB; have Da := Cmp.nl hg D3; have Db := Cmp.ng hg D3; replace D3 := Cmp.be D3 hb; replace HB := Cmp.bs HB hb; clear hb hbox hg; have Ft := Db.out; have Fz := Da.out; obtain ⟨E7, E8, E9, Ea⟩ := Cmp.q4 D0; obtain ⟨F2, F3, F4, F5⟩ := Cmp.f4 D0))
        have n0_ : Aside0 (((((w38.setCell ⟨D2, 0, none⟩ (.int .i64 ((rd_T94 l0_0 D1).f0))).setCell ⟨D2, 1, none⟩ (.int .i64 ((rd_T94 l0_0 D1).f1))).setCell ⟨D2, 2, none⟩ (.int .i64 ((rd_T94 l0_0 D1).f2))).setCell ⟨D2, 3, none⟩ (.bool ((rd_T94 l0_0 D1).f3))).heap[Dg]? = some (.cells #[.slice (some D5) l0_0.length c0_0] 45 (0, 0))) := ⟨Cmp.bw D3.out⟩
        have n1_ : Aside0 (((((w38.setCell ⟨D2, 0, none⟩ (.int .i64 ((rd_T94 l0_0 D1).f0))).setCell ⟨D2, 1, none⟩ (.int .i64 ((rd_T94 l0_0 D1).f1))).setCell ⟨D2, 2, none⟩ (.int .i64 ((rd_T94 l0_0 D1).f2))).setCell ⟨D2, 3, none⟩ (.bool ((rd_T94 l0_0 D1).f3))).heap[D2]? = some (.cells #[.int .i64 ((rd_T94 l0_0 D1).f0), .int .i64 ((rd_T94 l0_0 D1).f1), .int .i64 ((rd_T94 l0_0 D1).f2), .bool ((rd_T94 l0_0 D1).f3)] 94 (0, 0))) := ⟨Cmp.bw D0.out⟩
        have n2_ : Aside0 (Below w.heap.size w ((((w38.setCell ⟨D2, 0, none⟩ (.int .i64 ((rd_T94 l0_0 D1).f0))).setCell ⟨D2, 1, none⟩ (.int .i64 ((rd_T94 l0_0 D1).f1))).setCell ⟨D2, 2, none⟩ (.int .i64 ((rd_T94 l0_0 D1).f2))).setCell ⟨D2, 3, none⟩ (.bool ((rd_T94 l0_0 D1).f3)))) := ⟨Cmp.g HB.out⟩
        (try clear D3); (try clear D0); (try clear HB)
        generalize ((((w38.setCell ⟨D2, 0, none⟩ (.int .i64 ((rd_T94 l0_0 D1).f0))).setCell ⟨D2, 1, none⟩ (.int .i64 ((rd_T94 l0_0 D1).f1))).setCell ⟨D2, 2, none⟩ (.int .i64 ((rd_T94 l0_0 D1).f2))).setCell ⟨D2, 3, none⟩ (.bool ((rd_T94 l0_0 D1).f3))) = w41 at n0_ n1_ n2_ ⊢
        have D3 := n0_; have D0 := n1_; have HB := n2_; clear n0_ n1_ n2_; replace D3 := Cmp.A (blk_drew D3.out); replace D0 := Cmp.A (blk_drew D0.out); replace HB := Cmp.A (below_drew1 HB.out)
        refine start_ (n := 34) (S := fun w' => w'.cell? ⟨D2, 0, none⟩ = some (.int .i64 ((rd_T94 l0_0 D1).f0)) ∧ w'.cell? ⟨D2, 1, none⟩ = some (.int .i64 ((rd_T94 l0_0 D1).f1)) ∧ w'.cell? ⟨D2, 2, none⟩ = some (.int .i64 ((rd_T94 l0_0 D1).f2)) ∧ w'.cell? ⟨D2, 3, none⟩ = some (.bool ((rd_T94 l0_0 D1).f3))) (ds := []) (Cmp.bm 0 34) (by kernel_rfl) rfl rfl ⟨(Cmp.c0 D0 :), (Cmp.c1 D0 :), (Cmp.c2 D0 :), (Cmp.c3 D0 :)⟩ (fun hHeld => ?_); refine with_tabW spec_IsBundle.tab5 spec_IsBundle.bits5 (fun HT_ HW_ => ?_)
        generalize w41.drew = w42 at D3 D0 HB hHeld ⊢
        refine Cmp.pu HT_ 0 17 (Cmp.bm 1 33) ?_; refine Cmp.tk HT_ HW_ hHeld 1 18 (Cmp.bm 2 32) ?_
        refine one_ (i := 2) (N := some 19) (Cmp.bm 3 31) rfl rfl (one_of HT_.out (by kernel_rfl)) (by decide) (fun K hK => ?_)
        refine goes_ Try.func99 (by kernel_rfl) rfl #[.int .i64 ((rd_T94 l0_0 D1).f0), .int .i64 0, .int .i64 2147483646] (by rfl) rfl rfl Cmp.q ?_
        with_reducible refine (spec_l1In.calls ((rd_T94 l0_0 D1).f0) 0 2147483646 true _ A5.out).mono ?_
        rintro e w' ⟨rfl, ⟨nd, rfl⟩⟩; refine ⟨_, rfl, ?_⟩
        refine hK.out _ _ ⟨(Cmp.c0 D0 :), (Cmp.c1 D0 :), (Cmp.c2 D0 :), (Cmp.c3 D0 :)⟩ (fun hHeld => ?_)
        clear hK K
        refine Cmp.no ?_
        refine Cmp.pu HT_ 3 20 (Cmp.bm 4 30) ?_; refine Cmp.pu HT_ 4 21 (Cmp.bm 5 29) ?_; refine Cmp.pu HT_ 5 22 (Cmp.bm 6 28) ?_; refine Cmp.tk HT_ HW_ hHeld 6 23 (Cmp.bm 7 27) ?_
        refine one_ (i := 7) (N := some 24) (Cmp.bm 8 26) rfl rfl (one_of HT_.out (by kernel_rfl)) (by decide) (fun K hK => ?_)
        refine goes_ Try.func99 (by kernel_rfl) rfl #[.int .i64 ((rd_T94 l0_0 D1).f1), .int .i64 0, .int .i64 1000000] (by rfl) rfl rfl Cmp.q ?_
        with_reducible refine (spec_l1In.calls ((rd_T94 l0_0 D1).f1) 0 1000000 true _ A7.out).mono ?_
        rintro e w' ⟨rfl, ⟨nd, rfl⟩⟩; refine ⟨_, rfl, ?_⟩
        refine hK.out _ _ ⟨(Cmp.c0 D0 :), (Cmp.c1 D0 :), (Cmp.c2 D0 :), (Cmp.c3 D0 :)⟩ (fun hHeld => ?_)
        clear hK K
        refine Cmp.no ?_
        refine Cmp.pu HT_ 8 25 (Cmp.bm 9 25) ?_; refine Cmp.pu HT_ 9 26 (Cmp.bm 10 24) ?_; refine Cmp.pu HT_ 10 27 (Cmp.bm 11 23) ?_; refine Cmp.pu HT_ 11 28 (Cmp.bm 12 22) ?_; refine Cmp.tk HT_ HW_ hHeld 12 29 (Cmp.bm 13 21) ?_
        refine one_ (i := 13) (N := some 30) (Cmp.bm 14 20) rfl rfl (one_of HT_.out (by kernel_rfl)) (by decide) (fun K hK => ?_)
        refine goes_ Try.func99 (by kernel_rfl) rfl #[.int .i64 ((rd_T94 l0_0 D1).f2), .int .i64 1, .int .i64 1000000] (by rfl) rfl rfl Cmp.q ?_
        with_reducible refine (spec_l1In.calls ((rd_T94 l0_0 D1).f2) 1 1000000 false _ A9.out).mono ?_
        rintro e w' ⟨rfl, ⟨nd, rfl⟩⟩; refine ⟨_, rfl, ?_⟩
        refine hK.out _ _ ⟨(Cmp.c0 D0 :), (Cmp.c1 D0 :), (Cmp.c2 D0 :), (Cmp.c3 D0 :)⟩ (fun hHeld => ?_)
        clear hK K
        refine Cmp.no ?_
        refine Cmp.pu HT_ 14 31 (Cmp.bm 15 19) ?_; refine Cmp.pu HT_ 15 32 (Cmp.bm 16 18) ?_; refine Cmp.pu HT_ 16 33 (Cmp.bm 17 17) ?_; refine Cmp.pv HT_ 17 34 (Cmp.bm 18 16) ?_; refine Cmp.pv HT_ 18 35 (Cmp.bm 19 15) ?_; refine Cmp.pv HT_ 19 36 (Cmp.bm 20 14) ?_; refine Cmp.pv HT_ 20 37 (Cmp.bm 21 13) ?_; refine Cmp.pv HT_ 21 38 (Cmp.bm 22 12) ?_; refine Cmp.pv HT_ 22 39 (Cmp.bm 23 11) ?_; refine Cmp.pv HT_ 23 40 (Cmp.bm 24 10) ?_; refine Cmp.pv HT_ 24 41 (Cmp.bm 25 9) ?_; refine Cmp.pv HT_ 25 42 (Cmp.bm 26 8) ?_; refine Cmp.pv HT_ 26 43 (Cmp.bm 27 7) ?_; refine Cmp.pv HT_ 27 44 (Cmp.bm 28 6) ?_; refine Cmp.pv HT_ 28 45 (Cmp.bm 29 5) ?_; refine Cmp.pv HT_ 29 46 (Cmp.bm 30 4) ?_; refine Cmp.pv HT_ 30 47 (Cmp.bm 31 3) ?_; refine Cmp.pv HT_ 31 48 (Cmp.bm 32 2) ?_; refine Cmp.pv HT_ 32 49 (Cmp.bm 33 1) ?_; refine Cmp.pu HT_ 33 50 (Cmp.bm 34 0) ?_
        refine done_ (done_of HT_.out (by kernel_rfl)) ?_
        try go_wp2
        go_ret
        exact ⟨by first | rfl | (simp [errW_none, errW_some] <;> rfl) | (simp [*, errW_none, errW_some] <;> rfl), Cmp.g HB.out⟩
      ·replace c8 := Bool.eq_false_iff.mpr c8
       subst c8
       have H1 : (some false) = some r := by rw [if_neg (show ¬ (false = true) by decide)] at H; exact H
       clear H; have H := H1; clear H1
       obtain rfl := Option.some.inj H
       have Eb : wr.cell? ⟨Dg, 0, none⟩ = some (.slice A0_0 l0_0.length c0_0) := (blk_cell D3.out 0).trans rfl
       have F6 := blk_frozen D3.out 0
       have p138 : 0 ≤ (D1 : Int) := of_decide_eq_true Cmp.d
       have q138 : D1 < (l0_0.length : Int) := of_decide_eq_true Cmp.d
       obtain ⟨D5, e138, D6, D7, D8, D9⟩ := at_T94 Dl.out D1 p138 q138
       cases e138
       replace D6 := Cmp.hc HB D6
       replace D7 := Cmp.hc HB D7
       replace D8 := Cmp.hc HB D8
       replace D9 := Cmp.hc HB D9
       replace p138 := eq_true p138; replace q138 := eq_true q138
       try go_wp2_with (first | ((with_reducible refine gate_dst (N := 4) rfl ?_); refine box_event ?hg (N := 4) ?hd (cs := #[.int .i64 0, .int .i64 0, .int .i64 0, .bool false]) (t := 94) ?hr ?_; (case hd => rfl); (case hg => rfl); (case hr => first | (go_simp; done) | (go_simp; rfl)); intro D2 hg w44 hbox hb; have D0 := Cmp.A (hbox); have Dn := Cmp.gw hg HB; have Dm := Cmp.gw hg HB; have Da := Cmp.nl hg D3; have Db := Cmp.ng hg D3; replace D3 := Cmp.be D3 hb; replace HB := Cmp.bs HB hb; clear hb hbox hg; have Fu := Db.out; have G0 := Da.out; obtain ⟨Ec, Ed, Ee, Ef⟩ := Cmp.q4 D0; obtain ⟨F7, F8, F9, Fa⟩ := Cmp.f4 D0))
       have n0_ : Aside0 (((((w44.setCell ⟨D2, 0, none⟩ (.int .i64 ((rd_T94 l0_0 D1).f0))).setCell ⟨D2, 1, none⟩ (.int .i64 ((rd_T94 l0_0 D1).f1))).setCell ⟨D2, 2, none⟩ (.int .i64 ((rd_T94 l0_0 D1).f2))).setCell ⟨D2, 3, none⟩ (.bool ((rd_T94 l0_0 D1).f3))).heap[Dg]? = some (.cells #[.slice (some D5) l0_0.length c0_0] 45 (0, 0))) := ⟨Cmp.bw D3.out⟩
       have n1_ : Aside0 (((((w44.setCell ⟨D2, 0, none⟩ (.int .i64 ((rd_T94 l0_0 D1).f0))).setCell ⟨D2, 1, none⟩ (.int .i64 ((rd_T94 l0_0 D1).f1))).setCell ⟨D2, 2, none⟩ (.int .i64 ((rd_T94 l0_0 D1).f2))).setCell ⟨D2, 3, none⟩ (.bool ((rd_T94 l0_0 D1).f3))).heap[D2]? = some (.cells #[.int .i64 ((rd_T94 l0_0 D1).f0), .int .i64 ((rd_T94 l0_0 D1).f1), .int .i64 ((rd_T94 l0_0 D1).f2), .bool ((rd_T94 l0_0 D1).f3)] 94 (0, 0))) := ⟨Cmp.bw D0.out⟩
       have n2_ : Aside0 (Below w.heap.size w ((((w44.setCell ⟨D2, 0, none⟩ (.int .i64 ((rd_T94 l0_0 D1).f0))).setCell ⟨D2, 1, none⟩ (.int .i64 ((rd_T94 l0_0 D1).f1))).setCell ⟨D2, 2, none⟩ (.int .i64 ((rd_T94 l0_0 D1).f2))).setCell ⟨D2, 3, none⟩ (.bool ((rd_T94 l0_0 D1).f3)))) := ⟨Cmp.g HB.out⟩
       (try clear D3); (try clear D0); (try clear HB)
       generalize ((((w44.setCell ⟨D2, 0, none⟩ (.int .i64 ((rd_T94 l0_0 D1).f0))).setCell ⟨D2, 1, none⟩ (.int .i64 ((rd_T94 l0_0 D1).f1))).setCell ⟨D2, 2, none⟩ (.int .i64 ((rd_T94 l0_0 D1).f2))).setCell ⟨D2, 3, none⟩ (.bool ((rd_T94 l0_0 D1).f3))) = w47 at n0_ n1_ n2_ ⊢
       have D3 := n0_; have D0 := n1_; have HB := n2_; clear n0_ n1_ n2_; replace D3 := Cmp.A (blk_drew D3.out); replace D0 := Cmp.A (blk_drew D0.out); replace HB := Cmp.A (below_drew1 HB.out)
       refine start_ (n := 34) (S := fun w' => w'.cell? ⟨D2, 0, none⟩ = some (.int .i64 ((rd_T94 l0_0 D1).f0)) ∧ w'.cell? ⟨D2, 1, none⟩ = some (.int .i64 ((rd_T94 l0_0 D1).f1)) ∧ w'.cell? ⟨D2, 2, none⟩ = some (.int .i64 ((rd_T94 l0_0 D1).f2)) ∧ w'.cell? ⟨D2, 3, none⟩ = some (.bool ((rd_T94 l0_0 D1).f3))) (ds := []) (Cmp.bm 0 34) (by kernel_rfl) rfl rfl ⟨(Cmp.c0 D0 :), (Cmp.c1 D0 :), (Cmp.c2 D0 :), (Cmp.c3 D0 :)⟩ (fun hHeld => ?_); refine with_tabW spec_IsBundle.tab5 spec_IsBundle.bits5 (fun HT_ HW_ => ?_)
       generalize w47.drew = w48 at D3 D0 HB hHeld ⊢
       refine Cmp.pu HT_ 0 17 (Cmp.bm 1 33) ?_; refine Cmp.tk HT_ HW_ hHeld 1 18 (Cmp.bm 2 32) ?_
       refine one_ (i := 2) (N := some 19) (Cmp.bm 3 31) rfl rfl (one_of HT_.out (by kernel_rfl)) (by decide) (fun K hK => ?_)
       refine goes_ Try.func99 (by kernel_rfl) rfl #[.int .i64 ((rd_T94 l0_0 D1).f0), .int .i64 0, .int .i64 2147483646] (by rfl) rfl rfl Cmp.q ?_
       with_reducible refine (spec_l1In.calls ((rd_T94 l0_0 D1).f0) 0 2147483646 true _ A5.out).mono ?_
       rintro e w' ⟨rfl, ⟨nd, rfl⟩⟩; refine ⟨_, rfl, ?_⟩
       refine hK.out _ _ ⟨(Cmp.c0 D0 :), (Cmp.c1 D0 :), (Cmp.c2 D0 :), (Cmp.c3 D0 :)⟩ (fun hHeld => ?_)
       clear hK K
       refine Cmp.no ?_
       refine Cmp.pu HT_ 3 20 (Cmp.bm 4 30) ?_; refine Cmp.pu HT_ 4 21 (Cmp.bm 5 29) ?_; refine Cmp.pu HT_ 5 22 (Cmp.bm 6 28) ?_; refine Cmp.tk HT_ HW_ hHeld 6 23 (Cmp.bm 7 27) ?_
       refine one_ (i := 7) (N := some 24) (Cmp.bm 8 26) rfl rfl (one_of HT_.out (by kernel_rfl)) (by decide) (fun K hK => ?_)
       refine goes_ Try.func99 (by kernel_rfl) rfl #[.int .i64 ((rd_T94 l0_0 D1).f1), .int .i64 0, .int .i64 1000000] (by rfl) rfl rfl Cmp.q ?_
       with_reducible refine (spec_l1In.calls ((rd_T94 l0_0 D1).f1) 0 1000000 false _ A7.out).mono ?_
       rintro e w' ⟨rfl, ⟨nd, rfl⟩⟩; refine ⟨_, rfl, ?_⟩
       refine hK.out _ _ ⟨(Cmp.c0 D0 :), (Cmp.c1 D0 :), (Cmp.c2 D0 :), (Cmp.c3 D0 :)⟩ (fun hHeld => ?_)
       clear hK K
       refine Cmp.no ?_
       refine Cmp.pu HT_ 8 25 (Cmp.bm 9 25) ?_; refine Cmp.pu HT_ 9 26 (Cmp.bm 10 24) ?_; refine Cmp.pu HT_ 10 27 (Cmp.bm 11 23) ?_; refine Cmp.pv HT_ 11 28 (Cmp.bm 12 22) ?_; refine Cmp.pv HT_ 12 29 (Cmp.bm 13 21) ?_; refine Cmp.pv HT_ 13 30 (Cmp.bm 14 20) ?_; refine Cmp.pv HT_ 14 31 (Cmp.bm 15 19) ?_; refine Cmp.pu HT_ 15 32 (Cmp.bm 16 18) ?_; refine Cmp.pu HT_ 16 33 (Cmp.bm 17 17) ?_; refine Cmp.pv HT_ 17 34 (Cmp.bm 18 16) ?_; refine Cmp.pv HT_ 18 35 (Cmp.bm 19 15) ?_; refine Cmp.pv HT_ 19 36 (Cmp.bm 20 14) ?_; refine Cmp.pv HT_ 20 37 (Cmp.bm 21 13) ?_; refine Cmp.pv HT_ 21 38 (Cmp.bm 22 12) ?_; refine Cmp.pv HT_ 22 39 (Cmp.bm 23 11) ?_; refine Cmp.pv HT_ 23 40 (Cmp.bm 24 10) ?_; refine Cmp.pv HT_ 24 41 (Cmp.bm 25 9) ?_; refine Cmp.pv HT_ 25 42 (Cmp.bm 26 8) ?_; refine Cmp.pv HT_ 26 43 (Cmp.bm 27 7) ?_; refine Cmp.pv HT_ 27 44 (Cmp.bm 28 6) ?_; refine Cmp.pv HT_ 28 45 (Cmp.bm 29 5) ?_; refine Cmp.pv HT_ 29 46 (Cmp.bm 30 4) ?_; refine Cmp.pv HT_ 30 47 (Cmp.bm 31 3) ?_; refine Cmp.pv HT_ 31 48 (Cmp.bm 32 2) ?_; refine Cmp.pv HT_ 32 49 (Cmp.bm 33 1) ?_; refine Cmp.pu HT_ 33 50 (Cmp.bm 34 0) ?_
       refine done_ (done_of HT_.out (by kernel_rfl)) ?_
       try go_wp2
       go_ret
       exact ⟨by first | rfl | (simp [errW_none, errW_some] <;> rfl) | (simp [*, errW_none, errW_some] <;> rfl), Cmp.g HB.out⟩
     ·replace c6 := Bool.eq_false_iff.mpr c6
      subst c6
      have H1 : (some false) = some r := by rw [if_neg (show ¬ (false = true) by decide)] at H; exact H
      clear H; have H := H1; clear H1
      obtain rfl := Option.some.inj H
      have Eg : wr.cell? ⟨Dg, 0, none⟩ = some (.slice A0_0 l0_0.length c0_0) := (blk_cell D3.out 0).trans rfl
      have Fb := blk_frozen D3.out 0
      have p138 : 0 ≤ (D1 : Int) := of_decide_eq_true Cmp.d
      have q138 : D1 < (l0_0.length : Int) := of_decide_eq_true Cmp.d
      obtain ⟨D5, e138, D6, D7, D8, D9⟩ := at_T94 Dl.out D1 p138 q138
      cases e138
      replace D6 := Cmp.hc HB D6
      replace D7 := Cmp.hc HB D7
      replace D8 := Cmp.hc HB D8
      replace D9 := Cmp.hc HB D9
      replace p138 := eq_true p138; replace q138 := eq_true q138
      try go_wp2_with (first | ((with_reducible refine gate_dst (N := 4) rfl ?_); refine box_event ?hg (N := 4) ?hd (cs := #[.int .i64 0, .int .i64 0, .int .i64 0, .bool false]) (t := 94) ?hr ?_; (case hd => rfl); (case hg => rfl); (case hr => first | (go_simp; done) | (go_simp; rfl)); intro D2 hg w50 hbox hb; have D0 := Cmp.A (hbox); have Dn := Cmp.gw hg HB; have Dm := Cmp.gw hg HB; have Da := Cmp.nl hg D3; have Db := Cmp.ng hg D3; replace D3 := Cmp.be D3 hb; replace HB := Cmp.bs HB hb; clear hb hbox hg; have Fv := Db.out; have G1 := Da.out; obtain ⟨Eh, Ei, Ej, Ek⟩ := Cmp.q4 D0; obtain ⟨Fc, Fd, Fe, Ff⟩ := Cmp.f4 D0))
      have n0_ : Aside0 (((((w50.setCell ⟨D2, 0, none⟩ (.int .i64 ((rd_T94 l0_0 D1).f0))).setCell ⟨D2, 1, none⟩ (.int .i64 ((rd_T94 l0_0 D1).f1))).setCell ⟨D2, 2, none⟩ (.int .i64 ((rd_T94 l0_0 D1).f2))).setCell ⟨D2, 3, none⟩ (.bool ((rd_T94 l0_0 D1).f3))).heap[Dg]? = some (.cells #[.slice (some D5) l0_0.length c0_0] 45 (0, 0))) := ⟨Cmp.bw D3.out⟩
      have n1_ : Aside0 (((((w50.setCell ⟨D2, 0, none⟩ (.int .i64 ((rd_T94 l0_0 D1).f0))).setCell ⟨D2, 1, none⟩ (.int .i64 ((rd_T94 l0_0 D1).f1))).setCell ⟨D2, 2, none⟩ (.int .i64 ((rd_T94 l0_0 D1).f2))).setCell ⟨D2, 3, none⟩ (.bool ((rd_T94 l0_0 D1).f3))).heap[D2]? = some (.cells #[.int .i64 ((rd_T94 l0_0 D1).f0), .int .i64 ((rd_T94 l0_0 D1).f1), .int .i64 ((rd_T94 l0_0 D1).f2), .bool ((rd_T94 l0_0 D1).f3)] 94 (0, 0))) := ⟨Cmp.bw D0.out⟩
      have n2_ : Aside0 (Below w.heap.size w ((((w50.setCell ⟨D2, 0, none⟩ (.int .i64 ((rd_T94 l0_0 D1).f0))).setCell ⟨D2, 1, none⟩ (.int .i64 ((rd_T94 l0_0 D1).f1))).setCell ⟨D2, 2, none⟩ (.int .i64 ((rd_T94 l0_0 D1).f2))).setCell ⟨D2, 3, none⟩ (.bool ((rd_T94 l0_0 D1).f3)))) := ⟨Cmp.g HB.out⟩
      (try clear D3); (try clear D0); (try clear HB)
      generalize ((((w50.setCell ⟨D2, 0, none⟩ (.int .i64 ((rd_T94 l0_0 D1).f0))).setCell ⟨D2, 1, none⟩ (.int .i64 ((rd_T94 l0_0 D1).f1))).setCell ⟨D2, 2, none⟩ (.int .i64 ((rd_T94 l0_0 D1).f2))).setCell ⟨D2, 3, none⟩ (.bool ((rd_T94 l0_0 D1).f3))) = w53 at n0_ n1_ n2_ ⊢
      have D3 := n0_; have D0 := n1_; have HB := n2_; clear n0_ n1_ n2_; replace D3 := Cmp.A (blk_drew D3.out); replace D0 := Cmp.A (blk_drew D0.out); replace HB := Cmp.A (below_drew1 HB.out)
      refine start_ (n := 34) (S := fun w' => w'.cell? ⟨D2, 0, none⟩ = some (.int .i64 ((rd_T94 l0_0 D1).f0)) ∧ w'.cell? ⟨D2, 1, none⟩ = some (.int .i64 ((rd_T94 l0_0 D1).f1)) ∧ w'.cell? ⟨D2, 2, none⟩ = some (.int .i64 ((rd_T94 l0_0 D1).f2)) ∧ w'.cell? ⟨D2, 3, none⟩ = some (.bool ((rd_T94 l0_0 D1).f3))) (ds := []) (Cmp.bm 0 34) (by kernel_rfl) rfl rfl ⟨(Cmp.c0 D0 :), (Cmp.c1 D0 :), (Cmp.c2 D0 :), (Cmp.c3 D0 :)⟩ (fun hHeld => ?_); refine with_tabW spec_IsBundle.tab5 spec_IsBundle.bits5 (fun HT_ HW_ => ?_)
      generalize w53.drew = w54 at D3 D0 HB hHeld ⊢
      refine Cmp.pu HT_ 0 17 (Cmp.bm 1 33) ?_; refine Cmp.tk HT_ HW_ hHeld 1 18 (Cmp.bm 2 32) ?_
      refine one_ (i := 2) (N := some 19) (Cmp.bm 3 31) rfl rfl (one_of HT_.out (by kernel_rfl)) (by decide) (fun K hK => ?_)
      refine goes_ Try.func99 (by kernel_rfl) rfl #[.int .i64 ((rd_T94 l0_0 D1).f0), .int .i64 0, .int .i64 2147483646] (by rfl) rfl rfl Cmp.q ?_
      with_reducible refine (spec_l1In.calls ((rd_T94 l0_0 D1).f0) 0 2147483646 false _ A5.out).mono ?_
      rintro e w' ⟨rfl, ⟨nd, rfl⟩⟩; refine ⟨_, rfl, ?_⟩
      refine hK.out _ _ ⟨(Cmp.c0 D0 :), (Cmp.c1 D0 :), (Cmp.c2 D0 :), (Cmp.c3 D0 :)⟩ (fun hHeld => ?_)
      clear hK K
      refine Cmp.no ?_
      refine Cmp.pu HT_ 3 20 (Cmp.bm 4 30) ?_; refine Cmp.pu HT_ 4 21 (Cmp.bm 5 29) ?_; refine Cmp.pv HT_ 5 22 (Cmp.bm 6 28) ?_; refine Cmp.pv HT_ 6 23 (Cmp.bm 7 27) ?_; refine Cmp.pv HT_ 7 24 (Cmp.bm 8 26) ?_; refine Cmp.pv HT_ 8 25 (Cmp.bm 9 25) ?_; refine Cmp.pu HT_ 9 26 (Cmp.bm 10 24) ?_; refine Cmp.pu HT_ 10 27 (Cmp.bm 11 23) ?_; refine Cmp.pv HT_ 11 28 (Cmp.bm 12 22) ?_; refine Cmp.pv HT_ 12 29 (Cmp.bm 13 21) ?_; refine Cmp.pv HT_ 13 30 (Cmp.bm 14 20) ?_; refine Cmp.pv HT_ 14 31 (Cmp.bm 15 19) ?_; refine Cmp.pu HT_ 15 32 (Cmp.bm 16 18) ?_; refine Cmp.pu HT_ 16 33 (Cmp.bm 17 17) ?_; refine Cmp.pv HT_ 17 34 (Cmp.bm 18 16) ?_; refine Cmp.pv HT_ 18 35 (Cmp.bm 19 15) ?_; refine Cmp.pv HT_ 19 36 (Cmp.bm 20 14) ?_; refine Cmp.pv HT_ 20 37 (Cmp.bm 21 13) ?_; refine Cmp.pv HT_ 21 38 (Cmp.bm 22 12) ?_; refine Cmp.pv HT_ 22 39 (Cmp.bm 23 11) ?_; refine Cmp.pv HT_ 23 40 (Cmp.bm 24 10) ?_; refine Cmp.pv HT_ 24 41 (Cmp.bm 25 9) ?_; refine Cmp.pv HT_ 25 42 (Cmp.bm 26 8) ?_; refine Cmp.pv HT_ 26 43 (Cmp.bm 27 7) ?_; refine Cmp.pv HT_ 27 44 (Cmp.bm 28 6) ?_; refine Cmp.pv HT_ 28 45 (Cmp.bm 29 5) ?_; refine Cmp.pv HT_ 29 46 (Cmp.bm 30 4) ?_; refine Cmp.pv HT_ 30 47 (Cmp.bm 31 3) ?_; refine Cmp.pv HT_ 31 48 (Cmp.bm 32 2) ?_; refine Cmp.pv HT_ 32 49 (Cmp.bm 33 1) ?_; refine Cmp.pu HT_ 33 50 (Cmp.bm 34 0) ?_
      refine done_ (done_of HT_.out (by kernel_rfl)) ?_
      try go_wp2
      go_ret
      exact ⟨by first | rfl | (simp [errW_none, errW_some] <;> rfl) | (simp [*, errW_none, errW_some] <;> rfl), Cmp.g HB.out⟩
    ·rw [if_neg c4] at H; exact absurd H (by simp)
   ·rw [if_neg c3] at H
    have c3b0 : decide (D1 < (l0_0.length : Int)) = false := decide_eq_false c3
    clear c3
    obtain rfl := Option.some.inj H
    have El : wr.cell? ⟨Dg, 0, none⟩ = some (.slice A0_0 l0_0.length c0_0) := (blk_cell D3.out 0).trans rfl
    have Fg := blk_frozen D3.out 0
    go_wp2
    go_ret
    exact ⟨by first | rfl | (simp [errW_none, errW_some] <;> rfl) | (simp [*, errW_none, errW_some] <;> rfl), Cmp.g HB.out⟩
end Go.Proofs.Ytpgjecknkmmnhaa.PFnSealedBundles

/- Printed functions of the program, out of print.sh, told more shortly. No condition. -/
import Derived.Test.YtpgjecknkmmnhaaCmp
import Derived.Test.YtpgjecknkmmnhaaPFnSealedBundlesx0
import Derived.Test.YtpgjecknkmmnhaaPFnSealedBundlesx9
namespace Go.Proofs.Ytpgjecknkmmnhaa.PFnSealedBundles
open Go.Proofs.Ytpgjecknkmmnhaa
open Go.RowKit Go.Proofs.YtpgjecknkmmnhaaW.PrintWords Go.Proofs.YtpgjecknkmmnhaaW.PrintLast Go.Proofs.YtpgjecknkmmnhaaW.PrintMore
attribute [local go_sem] max2_int min2_int max_two min_two max_three min_three max_four min_four   -- for this text's walks alone
set_option linter.unusedVariables false
set_option linter.unusedSimpArgs false
/-! ### impl_IsBundle: function 61 -/
def impl_IsBundle.l0 : Nat → List (S94) → Int → Int → List (S94) → Option (Bool)
  | 0, _, _, _, _ => none
  | k + 1, x10, x11, x12, x346000 => if x12 < x11 then (if 0 ≤ x12 then (if x12 < (x10.length : Int) then ((impl_InRange.f ((rd_T94 x10 x12).f0) 0 2147483646).bind fun t348 => (if t348 = true then ((impl_InRange.f ((rd_T94 x10 x12).f1) 0 1000000).bind fun t349 => (if t349 = true then ((impl_InRange.f ((rd_T94 x10 x12).f2) 1 1000000).bind fun t350 => (if t350 = true then (if x12 > 0 then (if 0 ≤ (wrap64 (x12 - 1)) then (if (wrap64 (x12 - 1)) < (x346000.length : Int) then ((impl_entryBefore.f ((rd_T94 x346000 (wrap64 (x12 - 1))).f0) ((rd_T94 x346000 (wrap64 (x12 - 1))).f1) ((rd_T94 x346000 (wrap64 (x12 - 1))).f2) ((rd_T94 x346000 (wrap64 (x12 - 1))).f3) ((rd_T94 x10 x12).f0) ((rd_T94 x10 x12).f1) ((rd_T94 x10 x12).f2) ((rd_T94 x10 x12).f3)).bind fun t352 => (if t352 = true then (impl_IsBundle.l0 k x10 x11 (wrap64 (x12 + 1)) x346000) else (some false))) else (none)) else (none)) else (impl_IsBundle.l0 k x10 x11 (wrap64 (x12 + 1)) x346000)) else (some false))) else (some false))) else (some false))) else (none)) else (none)) else (some true)
def impl_IsBundle.f (k : Nat) (l0_0 : List (S94)) : Option (Bool) := if (l0_0.length : Int) > 20 then (some false) else (impl_IsBundle.l0 k l0_0 (l0_0.length : Int) 0 l0_0)
theorem impl_IsBundle.mono_l : ∀ k, (∀ y0 y1 y2 y3, LeO (impl_IsBundle.l0 k y0 y1 y2 y3) (impl_IsBundle.l0 (k + 1) y0 y1 y2 y3))
 | 0 => fun _ _ _ _ r h => by simp [impl_IsBundle.l0] at h
 | k + 1 => by
    have ih0 := impl_IsBundle.mono_l k
    · intro y0 y1 y2 y3
      unfold impl_IsBundle.l0
      repeat' first
 | (with_reducible exact ih0 _ _ _ _)
 | (with_reducible exact LeO.refl _)
 | (with_reducible exact LeO.none _)
 | (with_reducible refine LeO.ite ?_ ?_)
 | (with_reducible refine LeO.bind ?_ (fun _ => ?_))
theorem impl_IsBundle.mono : ∀ a0 k, LeO (impl_IsBundle.f k a0) (impl_IsBundle.f (k + 1) a0) := by
  intro a0 k
  have ih0 := impl_IsBundle.mono_l k
  unfold impl_IsBundle.f
  repeat' first
 | (with_reducible exact ih0 _ _ _ _)
 | (with_reducible exact LeO.refl _)
 | (with_reducible exact LeO.none _)
 | (with_reducible refine LeO.ite ?_ ?_)
 | (with_reducible refine LeO.bind ?_ (fun _ => ?_))
def impl_IsBundle.T6 : Bool × List (List Nat × List Nat) := (true, [([], []), ([0], [0]), ([1], [1]), ([2], [2]), ([3, 2], [3]), ([4], [4]), ([5, 4], [4, 5]), ([6, 4, 4], [4, 6]), ([7, 4], [4, 7]), ([4, 8], [4, 8]), ([9, 7], [9]), ([10], [10]), ([11, 10], [10, 11]), ([12, 10, 10], [10, 12]), ([13, 10], [10, 13]), ([10, 14], [10, 14]), ([15, 13], [15]), ([16], [16]), ([17, 16], [16, 17]), ([18, 16, 16], [16, 18]), ([19], [19]), ([20, 19], [19, 20]), ([19], [19]), ([22, 19], [19, 22]), ([21, 23, 19], [19, 21, 23]), ([24, 19], [19, 24]), ([19], [19]), ([25, 26, 19, 19], [19, 25, 26]), ([27, 19], [19, 27]), ([19, 28, 16], [16, 19, 28]), ([16, 29], [16, 29])])
def impl_IsBundle.B6 : List Nat := [0, 1, 3, 7, 15, 31, 63, 127, 255, 511, 1023, 2047, 4095, 8191, 16383, 32767, 65535, 131071, 262143, 524287, 1048575, 2097151, 1048575, 5242879, 16777215, 33554431, 1048575, 134217727, 268435455, 536870911, 1073741823]
theorem impl_IsBundle.tab6 : rtab .any (opsOf Try.f61 6) = impl_IsBundle.T6 := by kernel_rfl
theorem impl_IsBundle.bits6 : waitsOk impl_IsBundle.T6.2 impl_IsBundle.B6 = true := by kernel_rfl
set_option maxHeartbeats 8000000 in
set_option maxRecDepth 100000 in
theorem impl_IsBundle.calls (k : Nat) (A0_0 : Option Addr) (c0_0 : Nat) (l0_0 : List (S94)) (r : Bool) (w : World) (hr0_0 : Kd.C k94 w A0_0 l0_0.length l0_0) (hc0_0 : l0_0.length ≤ c0_0) (h : impl_IsBundle.f k l0_0 = some r) :
    Calls Try.prog 61 #[.agg #[.slice A0_0 l0_0.length c0_0]] w fun e w' => e = .returned (.bool r) ∧ Below w.heap.size w w' := by
 have hu45 := Try.underlying45; have hu94 := Try.underlying94; have Dl := Cmp.A hr0_0; have HC0_0 := Cmp.A hc0_0; clear hr0_0 hc0_0
 have HB := Cmp.A (Below.refl w.heap.size w)
 have H : (if (l0_0.length : Int) > 20 then (some false) else (impl_IsBundle.l0 k l0_0 (l0_0.length : Int) 0 l0_0)) = some r := h
 clear h
 by_cases c2 : (l0_0.length : Int) > 20
 ·rw [if_pos c2] at H
  have c2b0 : decide (20 < (l0_0.length : Int)) = true := decide_eq_true c2
  have c2b1 : decide (20 < l0_0.length) = true := decide_eq_true (by omega)
  clear c2
  obtain rfl := Option.some.inj H
  go_enter Try.func61, Try.ntmps61
  go_wp2_with (first | ((with_reducible refine gate_dst (N := 1) rfl ?_); refine box_event ?hg (N := 1) ?hd (cs := #[.slice A0_0 l0_0.length c0_0]) (t := 45) ?hr ?_; (case hd => rfl); (case hg => rfl); (case hr => first | (go_simp; done) | (go_simp; rfl)); intro Dk hg w3 hbox hb; have D3 := Cmp.A (hbox); have E2 := Cmp.gw hg HB; have E1 := Cmp.gw hg HB; replace HB := Cmp.bs HB hb; clear hb hbox hg; have Dq := Cmp.c0 D3; have Ds := blk_frozen D3.out 0))
  go_ret
  exact ⟨by first | rfl | (simp [errW_none, errW_some] <;> rfl) | (simp [*, errW_none, errW_some] <;> rfl), Cmp.g HB.out⟩
 ·rw [if_neg c2] at H
  have c2b0 : decide (20 < (l0_0.length : Int)) = false := decide_eq_false c2
  have c2b1 : decide (20 < l0_0.length) = false := decide_eq_false (by omega)
  clear c2
  have H' := Cmp.A H
  clear H
  go_enter Try.func61, Try.ntmps61
  go_wp2_with (first | ((with_reducible refine gate_dst (N := 1) rfl ?_); refine box_event ?hg (N := 1) ?hd (cs := #[.slice A0_0 l0_0.length c0_0]) (t := 45) ?hr ?_; (case hd => rfl); (case hg => rfl); (case hr => first | (go_simp; done) | (go_simp; rfl)); intro Dk hg w5 hbox hb; have D3 := Cmp.A (hbox); have E2 := Cmp.gw hg HB; have E1 := Cmp.gw hg HB; replace HB := Cmp.bs HB hb; clear hb hbox hg; have Dr := Cmp.c0 D3; have Dt := blk_frozen D3.out 0))
  go_loopg [12] k (fun kq v12 w' => ∃ (D0 : Int), v12 = .int .i64 D0 ∧ Aside0 (impl_IsBundle.l0 kq l0_0 (l0_0.length : Int) D0 l0_0 = some r) ∧ Aside0 (kq ≤ k) ∧ Aside0 (w'.heap[Dk]? = some (.cells #[(.slice A0_0 l0_0.length c0_0)] 45 (0, 0))) ∧ Aside0 (Below w.heap.size w w'))
  case atStart => exact ⟨(0), (by first | rfl | simp | simp [*]), H', ⟨Nat.le_refl _⟩, Cmp.bq D3, ⟨Cmp.g HB.out⟩⟩
  case round =>
   clear H'
   (try clear c2); (try clear c2b0); (try clear c2b1); (try clear p2); (try clear c6); (try clear Dq); (try clear Dr); (try clear Ds); (try clear Dt)
   obtain ⟨D0, rfl, HA, HK1, D3, HB⟩ := hrel
   cases gk with
   | zero => exact absurd HA.out (by simp [impl_IsBundle.l0])
   | succ k1 =>
    have H := HA.out; clear HA
    simp only [impl_IsBundle.l0] at H
    by_cases c7 : D0 < (l0_0.length : Int)
    ·rw [if_pos c7] at H
     have c7b0 : decide (D0 < (l0_0.length : Int)) = true := decide_eq_true c7
     clear c7
     by_cases c8 : 0 ≤ D0
     ·rw [if_pos c8] at H; have c8b0 : decide (0 ≤ D0) = true := decide_eq_true c8; clear c8
      by_cases c9 : D0 < (l0_0.length : Int)
      ·rw [if_pos c9] at H
       have c9b0 : decide (D0 < (l0_0.length : Int)) = true := decide_eq_true c9
       clear c9; replace H := Option.bind_eq_some_iff.mp H; obtain ⟨Ff, Dw, H⟩ := H; (try dsimp only at H); have Dp := Cmp.A Dw; clear Dw
       by_cases c11 : Ff = true
       ·subst c11; rw [if_pos rfl] at H; replace H := Option.bind_eq_some_iff.mp H; obtain ⟨Fg, Dx, H⟩ := H; (try dsimp only at H); have Dv := Cmp.A Dx; clear Dx
        by_cases c13 : Fg = true
        ·subst c13; rw [if_pos rfl] at H; replace H := Option.bind_eq_some_iff.mp H; obtain ⟨Fh, Dz, H⟩ := H; (try dsimp only at H); have Dy := Cmp.A Dz; clear Dz
         by_cases c15 : Fh = true
         ·subst c15; rw [if_pos rfl] at H
          by_cases c16 : D0 > 0
          ·rw [if_pos c16] at H; have c16b0 : decide (0 < D0) = true := decide_eq_true c16; clear c16
           obtain ⟨D4, hji17⟩ : ∃ j_ : Int, (wrap64 (D0 - 1)) = j_ := ⟨_, rfl⟩
           replace H : (if 0 ≤ (D4) then (if (D4) < (l0_0.length : Int) then ((impl_entryBefore.f ((rd_T94 l0_0 (D4)).f0) ((rd_T94 l0_0 (D4)).f1) ((rd_T94 l0_0 (D4)).f2) ((rd_T94 l0_0 (D4)).f3) ((rd_T94 l0_0 D0).f0) ((rd_T94 l0_0 D0).f1) ((rd_T94 l0_0 D0).f2) ((rd_T94 l0_0 D0).f3)).bind fun Du => (if Du = true then (impl_IsBundle.l0 k1 l0_0 (l0_0.length : Int) (wrap64 (D0 + 1)) l0_0) else (some false))) else (none)) else (none)) = some r := by first | (rw [hji17] at H; exact H) | (simp only [hji17] at H ⊢; exact H)
           (try rw [hji17] at Dp)
           (try rw [hji17] at Dv)
           (try rw [hji17] at Dy)
           have hji17w : (IntKind.i64.wrap (D0 - 1)) = D4 := (i64_w _).trans hji17
           by_cases c18 : 0 ≤ (D4)
           ·rw [if_pos c18] at H; have c18b0 : decide (0 ≤ (D4)) = true := decide_eq_true c18; clear c18
            by_cases c19 : (D4) < (l0_0.length : Int)
            ·rw [if_pos c19] at H
             have c19b0 : decide ((D4) < (l0_0.length : Int)) = true := decide_eq_true c19
             clear c19; replace H := Option.bind_eq_some_iff.mp H; obtain ⟨Du, E0, H⟩ := H; (try dsimp only at H); have Fi := Cmp.A E0; clear E0
             by_cases c21 : Du = true
             ·subst c21; rw [if_pos rfl] at H
              have H' := Cmp.A H
              clear H
              have p346 : 0 ≤ (D0 : Int) := of_decide_eq_true Cmp.d
              have q346 : D0 < (l0_0.length : Int) := of_decide_eq_true Cmp.d
              obtain ⟨D5, e346, D6, D7, D8, D9⟩ := at_T94 Dl.out D0 p346 q346
              cases e346
              replace D6 := Cmp.hc HB D6
              replace D7 := Cmp.hc HB D7
              replace D8 := Cmp.hc HB D8
              replace D9 := Cmp.hc HB D9
              replace p346 := eq_true p346; replace q346 := eq_true q346
              try go_wp2_with (first | ((with_reducible refine gate_dst (N := 4) rfl ?_); refine box_event ?hg (N := 4) ?hd (cs := #[.int .i64 0, .int .i64 0, .int .i64 0, .bool false]) (t := 94) ?hr ?_; (case hd => rfl); (case hg => rfl); (case hr => first | (go_simp; done) | (go_simp; rfl)); intro D2 hg w22 hbox hb; have D1 := Cmp.A (hbox); have Dn := Cmp.gw hg HB; have Dm := Cmp.gw hg HB; have Da := Cmp.nl hg D3; have Db := Cmp.ng hg D3; replace D3 := Cmp.be D3 hb; replace HB := Cmp.bs HB hb; clear hb hbox hg; have Fj := Db.out; have Fp := Da.out; obtain ⟨E3, E4, E5, E6⟩ := Cmp.q4 D1; obtain ⟨Er, Es, Et, Eu⟩ := Cmp.f4 D1))
              have n0_ : Aside0 (((((w22.setCell ⟨D2, 0, none⟩ (.int .i64 ((rd_T94 l0_0 D0).f0))).setCell ⟨D2, 1, none⟩ (.int .i64 ((rd_T94 l0_0 D0).f1))).setCell ⟨D2, 2, none⟩ (.int .i64 ((rd_T94 l0_0 D0).f2))).setCell ⟨D2, 3, none⟩ (.bool ((rd_T94 l0_0 D0).f3))).heap[Dk]? = some (.cells #[.slice (some D5) l0_0.length c0_0] 45 (0, 0))) := ⟨Cmp.bw D3.out⟩
              have n1_ : Aside0 (((((w22.setCell ⟨D2, 0, none⟩ (.int .i64 ((rd_T94 l0_0 D0).f0))).setCell ⟨D2, 1, none⟩ (.int .i64 ((rd_T94 l0_0 D0).f1))).setCell ⟨D2, 2, none⟩ (.int .i64 ((rd_T94 l0_0 D0).f2))).setCell ⟨D2, 3, none⟩ (.bool ((rd_T94 l0_0 D0).f3))).heap[D2]? = some (.cells #[.int .i64 ((rd_T94 l0_0 D0).f0), .int .i64 ((rd_T94 l0_0 D0).f1), .int .i64 ((rd_T94 l0_0 D0).f2), .bool ((rd_T94 l0_0 D0).f3)] 94 (0, 0))) := ⟨Cmp.bw D1.out⟩
              have n2_ : Aside0 (Below w.heap.size w ((((w22.setCell ⟨D2, 0, none⟩ (.int .i64 ((rd_T94 l0_0 D0).f0))).setCell ⟨D2, 1, none⟩ (.int .i64 ((rd_T94 l0_0 D0).f1))).setCell ⟨D2, 2, none⟩ (.int .i64 ((rd_T94 l0_0 D0).f2))).setCell ⟨D2, 3, none⟩ (.bool ((rd_T94 l0_0 D0).f3)))) := ⟨Cmp.g HB.out⟩
              (try clear D3); (try clear D1); (try clear HB)
              generalize ((((w22.setCell ⟨D2, 0, none⟩ (.int .i64 ((rd_T94 l0_0 D0).f0))).setCell ⟨D2, 1, none⟩ (.int .i64 ((rd_T94 l0_0 D0).f1))).setCell ⟨D2, 2, none⟩ (.int .i64 ((rd_T94 l0_0 D0).f2))).setCell ⟨D2, 3, none⟩ (.bool ((rd_T94 l0_0 D0).f3))) = w25 at n0_ n1_ n2_ ⊢
              have D3 := n0_; have D1 := n1_; have HB := n2_; clear n0_ n1_ n2_; replace D3 := Cmp.A (blk_drew D3.out); replace D1 := Cmp.A (blk_drew D1.out); replace HB := Cmp.A (below_drew1 HB.out)
              have p351 : 0 ≤ ((D4) : Int) := of_decide_eq_true Cmp.d
              have q351 : (D4) < (l0_0.length : Int) := of_decide_eq_true Cmp.d
              obtain ⟨Do, e351, Dg, Dh, Di, Dj⟩ := at_T94 Dl.out (D4) p351 q351
              have Df := Dj; have De := Di; have Dd := Dh; have Dc := Dg
              obtain rfl : D5 = Do := (by injection e351)
              replace Dg := Cmp.hc HB Dg
              replace Dh := Cmp.hc HB Dh
              replace Di := Cmp.hc HB Di
              replace Dj := Cmp.hc HB Dj
              replace p351 := eq_true p351; replace q351 := eq_true q351
              refine start_ (n := 31) (S := fun w' => w'.cell? ⟨D2, 0, none⟩ = some (.int .i64 ((rd_T94 l0_0 D0).f0)) ∧ w'.cell? ⟨D2, 1, none⟩ = some (.int .i64 ((rd_T94 l0_0 D0).f1)) ∧ w'.cell? ⟨D2, 2, none⟩ = some (.int .i64 ((rd_T94 l0_0 D0).f2)) ∧ w'.cell? ⟨D2, 3, none⟩ = some (.bool ((rd_T94 l0_0 D0).f3)) ∧ w'.cell? ⟨Dk, 0, none⟩ = some (.slice (some D5) l0_0.length c0_0) ∧ w'.cell? (D5.add (((D4)).toNat * 4)) = some (.int .i64 ((rd_T94 l0_0 (D4)).f0)) ∧ w'.cell? ⟨(D5.add (((D4)).toNat * 4)).block, (D5.add (((D4)).toNat * 4)).off + 1, none⟩ = some (.int .i64 ((rd_T94 l0_0 (D4)).f1)) ∧ w'.cell? ⟨(D5.add (((D4)).toNat * 4)).block, (D5.add (((D4)).toNat * 4)).off + 2, none⟩ = some (.int .i64 ((rd_T94 l0_0 (D4)).f2)) ∧ w'.cell? ⟨(D5.add (((D4)).toNat * 4)).block, (D5.add (((D4)).toNat * 4)).off + 3, none⟩ = some (.bool ((rd_T94 l0_0 (D4)).f3))) (ds := []) (Cmp.bm 0 31) (by kernel_rfl) rfl rfl ⟨(Cmp.c0 D1 :), (Cmp.c1 D1 :), (Cmp.c2 D1 :), (Cmp.c3 D1 :), (Cmp.c0 D3 :), (Cmp.hc HB Dc :), (Cmp.hc HB Dd :), (Cmp.hc HB De :), (Cmp.hc HB Df :)⟩ (fun hHeld => ?_); refine with_tabW impl_IsBundle.tab6 impl_IsBundle.bits6 (fun HT_ HW_ => ?_)
              generalize w25.drew = w26 at D3 D1 HB Dg Dh Di Dj hHeld ⊢
              refine Cmp.pu HT_ 0 17 (Cmp.bm 1 30) ?_; refine Cmp.tk HT_ HW_ hHeld 1 18 (Cmp.bm 2 29) ?_
              refine one_ (i := 2) (N := some 19) (Cmp.bm 3 28) rfl rfl (one_of HT_.out (by kernel_rfl)) (by decide) (fun K hK => ?_)
              refine goes_ Try.func60 (by kernel_rfl) rfl #[.int .i64 ((rd_T94 l0_0 D0).f0), .int .i64 0, .int .i64 2147483646] (by rfl) rfl rfl Cmp.q ?_
              with_reducible refine (impl_InRange.calls ((rd_T94 l0_0 D0).f0) 0 2147483646 true _ Dp.out).mono ?_
              rintro e w' ⟨rfl, ⟨nd, rfl⟩⟩; refine ⟨_, rfl, ?_⟩
              refine hK.out _ _ ⟨(Cmp.c0 D1 :), (Cmp.c1 D1 :), (Cmp.c2 D1 :), (Cmp.c3 D1 :), (Cmp.c0 D3 :), (Cmp.hc HB Dc :), (Cmp.hc HB Dd :), (Cmp.hc HB De :), (Cmp.hc HB Df :)⟩ (fun hHeld => ?_)
              clear hK K
              refine Cmp.no ?_
              refine Cmp.pu HT_ 3 20 (Cmp.bm 4 27) ?_; refine Cmp.pu HT_ 4 21 (Cmp.bm 5 26) ?_; refine Cmp.pu HT_ 5 22 (Cmp.bm 6 25) ?_; refine Cmp.tk HT_ HW_ hHeld 6 23 (Cmp.bm 7 24) ?_
              refine one_ (i := 7) (N := some 24) (Cmp.bm 8 23) rfl rfl (one_of HT_.out (by kernel_rfl)) (by decide) (fun K hK => ?_)
              refine goes_ Try.func60 (by kernel_rfl) rfl #[.int .i64 ((rd_T94 l0_0 D0).f1), .int .i64 0, .int .i64 1000000] (by rfl) rfl rfl Cmp.q ?_
              with_reducible refine (impl_InRange.calls ((rd_T94 l0_0 D0).f1) 0 1000000 true _ Dv.out).mono ?_
              rintro e w' ⟨rfl, ⟨nd, rfl⟩⟩; refine ⟨_, rfl, ?_⟩
              refine hK.out _ _ ⟨(Cmp.c0 D1 :), (Cmp.c1 D1 :), (Cmp.c2 D1 :), (Cmp.c3 D1 :), (Cmp.c0 D3 :), (Cmp.hc HB Dc :), (Cmp.hc HB Dd :), (Cmp.hc HB De :), (Cmp.hc HB Df :)⟩ (fun hHeld => ?_)
              clear hK K
              refine Cmp.no ?_
              refine Cmp.pu HT_ 8 25 (Cmp.bm 9 22) ?_; refine Cmp.pu HT_ 9 26 (Cmp.bm 10 21) ?_; refine Cmp.pu HT_ 10 27 (Cmp.bm 11 20) ?_; refine Cmp.pu HT_ 11 28 (Cmp.bm 12 19) ?_; refine Cmp.tk HT_ HW_ hHeld 12 29 (Cmp.bm 13 18) ?_
              refine one_ (i := 13) (N := some 30) (Cmp.bm 14 17) rfl rfl (one_of HT_.out (by kernel_rfl)) (by decide) (fun K hK => ?_)
              refine goes_ Try.func60 (by kernel_rfl) rfl #[.int .i64 ((rd_T94 l0_0 D0).f2), .int .i64 1, .int .i64 1000000] (by rfl) rfl rfl Cmp.q ?_
              with_reducible refine (impl_InRange.calls ((rd_T94 l0_0 D0).f2) 1 1000000 true _ Dy.out).mono ?_
              rintro e w' ⟨rfl, ⟨nd, rfl⟩⟩; refine ⟨_, rfl, ?_⟩
              refine hK.out _ _ ⟨(Cmp.c0 D1 :), (Cmp.c1 D1 :), (Cmp.c2 D1 :), (Cmp.c3 D1 :), (Cmp.c0 D3 :), (Cmp.hc HB Dc :), (Cmp.hc HB Dd :), (Cmp.hc HB De :), (Cmp.hc HB Df :)⟩ (fun hHeld => ?_)
              clear hK K
              refine Cmp.no ?_
              refine Cmp.pu HT_ 14 31 (Cmp.bm 15 16) ?_; refine Cmp.pu HT_ 15 32 (Cmp.bm 16 15) ?_; refine Cmp.pu HT_ 16 33 (Cmp.bm 17 14) ?_; refine Cmp.pu HT_ 17 34 (Cmp.bm 18 13) ?_; refine Cmp.pu HT_ 18 35 (Cmp.bm 19 12) ?_; refine Cmp.pu HT_ 19 36 (Cmp.bm 20 11) ?_; refine Cmp.pu HT_ 20 37 (Cmp.bm 21 10) ?_; refine Cmp.pu HT_ 22 39 (Cmp.bb 31 6291455) ?_; refine Cmp.pu HT_ 23 40 (Cmp.bb 31 14680063) ?_; refine Cmp.tk HT_ HW_ hHeld 21 38 (Cmp.bm 24 7) ?_; refine Cmp.pu HT_ 24 41 (Cmp.bm 25 6) ?_; refine Cmp.tk HT_ HW_ hHeld 25 42 (Cmp.bm 26 5) ?_; refine Cmp.tk HT_ HW_ hHeld 26 43 (Cmp.bm 27 4) ?_
              refine one_ (i := 27) (N := some 44) (Cmp.bm 28 3) rfl rfl (one_of HT_.out (by kernel_rfl)) (by decide) (fun K hK => ?_)
              refine goes_ Try.func101 (by kernel_rfl) rfl #[.agg #[.int .i64 ((rd_T94 l0_0 (D4)).f0), .int .i64 ((rd_T94 l0_0 (D4)).f1), .int .i64 ((rd_T94 l0_0 (D4)).f2), .bool ((rd_T94 l0_0 (D4)).f3)], .agg #[.int .i64 ((rd_T94 l0_0 D0).f0), .int .i64 ((rd_T94 l0_0 D0).f1), .int .i64 ((rd_T94 l0_0 D0).f2), .bool ((rd_T94 l0_0 D0).f3)]] (by rfl) rfl rfl (by (try simp only [List.map_toArray, List.map_cons, List.map_nil]); first | done | (simp only [hji17]; rfl) | rfl | (simp only [List.length_drop, List.length_take]; rfl)) ?_
              with_reducible refine (impl_entryBefore.calls ((rd_T94 l0_0 (D4)).f0) ((rd_T94 l0_0 (D4)).f1) ((rd_T94 l0_0 (D4)).f2) ((rd_T94 l0_0 (D4)).f3) ((rd_T94 l0_0 D0).f0) ((rd_T94 l0_0 D0).f1) ((rd_T94 l0_0 D0).f2) ((rd_T94 l0_0 D0).f3) true _ Fi.out).mono ?_
              rintro e w27 ⟨rfl, hb⟩; refine ⟨_, rfl, ?_⟩
              replace D3 := Cmp.be D3 hb; replace D1 := Cmp.be D1 hb; replace HB := Cmp.A (below_step (Cmp.g HB.out) hb); (try clear hb); (try clear hb2); (try clear hk); (try clear hi)
              refine hK.out _ _ ⟨(Cmp.c0 D1 :), (Cmp.c1 D1 :), (Cmp.c2 D1 :), (Cmp.c3 D1 :), (Cmp.c0 D3 :), (Cmp.hc HB Dc :), (Cmp.hc HB Dd :), (Cmp.hc HB De :), (Cmp.hc HB Df :)⟩ (fun hHeld => ?_)
              clear hK K
              refine Cmp.no ?_
              refine Cmp.pu HT_ 28 45 (Cmp.bm 29 2) ?_; refine Cmp.pu HT_ 29 46 (Cmp.bm 30 1) ?_; refine Cmp.pu HT_ 30 47 (Cmp.bm 31 0) ?_
              refine done_ (done_of HT_.out (by kernel_rfl)) ?_
              try go_wp2
              go_roundg k1
              case measure => have := HK1.out; omega
              case rel => exact ⟨(wrap64 (D0 + 1)), (by first | rfl | simp | simp [*]), H', ⟨by have := HK1.out; omega⟩, Cmp.bq D3, ⟨Cmp.g HB.out⟩⟩
             ·replace c21 := Bool.eq_false_iff.mpr c21
              subst c21
              have H1 : (some false) = some r := by rw [if_neg (show ¬ (false = true) by decide)] at H; exact H
              clear H; have H := H1; clear H1
              obtain rfl := Option.some.inj H
              have p346 : 0 ≤ (D0 : Int) := of_decide_eq_true Cmp.d
              have q346 : D0 < (l0_0.length : Int) := of_decide_eq_true Cmp.d
              obtain ⟨D5, e346, D6, D7, D8, D9⟩ := at_T94 Dl.out D0 p346 q346
              cases e346
              replace D6 := Cmp.hc HB D6
              replace D7 := Cmp.hc HB D7
              replace D8 := Cmp.hc HB D8
              replace D9 := Cmp.hc HB D9
              replace p346 := eq_true p346; replace q346 := eq_true q346
              try go_wp2_with (first | ((with_reducible refine gate_dst (N := 4) rfl ?_); refine box_event ?hg (N := 4) ?hd (cs := #[.int .i64 0, .int .i64 0, .int .i64 0, .bool false]) (t := 94) ?hr ?_; (case hd => rfl); (case hg => rfl); (case hr => first | (go_simp; done) | (go_simp; rfl)); intro D2 hg w28 hbox hb; have D1 := Cmp.A (hbox); have Dn := Cmp.gw hg HB; have Dm := Cmp.gw hg HB; have Da := Cmp.nl hg D3; have Db := Cmp.ng hg D3; replace D3 := Cmp.be D3 hb; replace HB := Cmp.bs HB hb; clear hb hbox hg; have Fk := Db.out; have Fq := Da.out; obtain ⟨E7, E8, E9, Ea⟩ := Cmp.q4 D1; obtain ⟨Ev, Ew, Ex, Ey⟩ := Cmp.f4 D1))
              have n0_ : Aside0 (((((w28.setCell ⟨D2, 0, none⟩ (.int .i64 ((rd_T94 l0_0 D0).f0))).setCell ⟨D2, 1, none⟩ (.int .i64 ((rd_T94 l0_0 D0).f1))).setCell ⟨D2, 2, none⟩ (.int .i64 ((rd_T94 l0_0 D0).f2))).setCell ⟨D2, 3, none⟩ (.bool ((rd_T94 l0_0 D0).f3))).heap[Dk]? = some (.cells #[.slice (some D5) l0_0.length c0_0] 45 (0, 0))) := ⟨Cmp.bw D3.out⟩
              have n1_ : Aside0 (((((w28.setCell ⟨D2, 0, none⟩ (.int .i64 ((rd_T94 l0_0 D0).f0))).setCell ⟨D2, 1, none⟩ (.int .i64 ((rd_T94 l0_0 D0).f1))).setCell ⟨D2, 2, none⟩ (.int .i64 ((rd_T94 l0_0 D0).f2))).setCell ⟨D2, 3, none⟩ (.bool ((rd_T94 l0_0 D0).f3))).heap[D2]? = some (.cells #[.int .i64 ((rd_T94 l0_0 D0).f0), .int .i64 ((rd_T94 l0_0 D0).f1), .int .i64 ((rd_T94 l0_0 D0).f2), .bool ((rd_T94 l0_0 D0).f3)] 94 (0, 0))) := ⟨Cmp.bw D1.out⟩
              have n2_ : Aside0 (Below w.heap.size w ((((w28.setCell ⟨D2, 0, none⟩ (.int .i64 ((rd_T94 l0_0 D0).f0))).setCell ⟨D2, 1, none⟩ (.int .i64 ((rd_T94 l0_0 D0).f1))).setCell ⟨D2, 2, none⟩ (.int .i64 ((rd_T94 l0_0 D0).f2))).setCell ⟨D2, 3, none⟩ (.bool ((rd_T94 l0_0 D0).f3)))) := ⟨Cmp.g HB.out⟩
              (try clear D3); (try clear D1); (try clear HB)
              generalize ((((w28.setCell ⟨D2, 0, none⟩ (.int .i64 ((rd_T94 l0_0 D0).f0))).setCell ⟨D2, 1, none⟩ (.int .i64 ((rd_T94 l0_0 D0).f1))).setCell ⟨D2, 2, none⟩ (.int .i64 ((rd_T94 l0_0 D0).f2))).setCell ⟨D2, 3, none⟩ (.bool ((rd_T94 l0_0 D0).f3))) = w31 at n0_ n1_ n2_ ⊢
              have D3 := n0_; have D1 := n1_; have HB := n2_; clear n0_ n1_ n2_; replace D3 := Cmp.A (blk_drew D3.out); replace D1 := Cmp.A (blk_drew D1.out); replace HB := Cmp.A (below_drew1 HB.out)
              have p351 : 0 ≤ ((D4) : Int) := of_decide_eq_true Cmp.d
              have q351 : (D4) < (l0_0.length : Int) := of_decide_eq_true Cmp.d
              obtain ⟨Do, e351, Dg, Dh, Di, Dj⟩ := at_T94 Dl.out (D4) p351 q351
              have Df := Dj; have De := Di; have Dd := Dh; have Dc := Dg
              obtain rfl : D5 = Do := (by injection e351)
              replace Dg := Cmp.hc HB Dg
              replace Dh := Cmp.hc HB Dh
              replace Di := Cmp.hc HB Di
              replace Dj := Cmp.hc HB Dj
              replace p351 := eq_true p351; replace q351 := eq_true q351
              refine start_ (n := 31) (S := fun w' => w'.cell? ⟨D2, 0, none⟩ = some (.int .i64 ((rd_T94 l0_0 D0).f0)) ∧ w'.cell? ⟨D2, 1, none⟩ = some (.int .i64 ((rd_T94 l0_0 D0).f1)) ∧ w'.cell? ⟨D2, 2, none⟩ = some (.int .i64 ((rd_T94 l0_0 D0).f2)) ∧ w'.cell? ⟨D2, 3, none⟩ = some (.bool ((rd_T94 l0_0 D0).f3)) ∧ w'.cell? ⟨Dk, 0, none⟩ = some (.slice (some D5) l0_0.length c0_0) ∧ w'.cell? (D5.add (((D4)).toNat * 4)) = some (.int .i64 ((rd_T94 l0_0 (D4)).f0)) ∧ w'.cell? ⟨(D5.add (((D4)).toNat * 4)).block, (D5.add (((D4)).toNat * 4)).off + 1, none⟩ = some (.int .i64 ((rd_T94 l0_0 (D4)).f1)) ∧ w'.cell? ⟨(D5.add (((D4)).toNat * 4)).block, (D5.add (((D4)).toNat * 4)).off + 2, none⟩ = some (.int .i64 ((rd_T94 l0_0 (D4)).f2)) ∧ w'.cell? ⟨(D5.add (((D4)).toNat * 4)).block, (D5.add (((D4)).toNat * 4)).off + 3, none⟩ = some (.bool ((rd_T94 l0_0 (D4)).f3))) (ds := []) (Cmp.bm 0 31) (by kernel_rfl) rfl rfl ⟨(Cmp.c0 D1 :), (Cmp.c1 D1 :), (Cmp.c2 D1 :), (Cmp.c3 D1 :), (Cmp.c0 D3 :), (Cmp.hc HB Dc :), (Cmp.hc HB Dd :), (Cmp.hc HB De :), (Cmp.hc HB Df :)⟩ (fun hHeld => ?_); refine with_tabW impl_IsBundle.tab6 impl_IsBundle.bits6 (fun HT_ HW_ => ?_)
              generalize w31.drew = w32 at D3 D1 HB Dg Dh Di Dj hHeld ⊢
              refine Cmp.pu HT_ 0 17 (Cmp.bm 1 30) ?_; refine Cmp.tk HT_ HW_ hHeld 1 18 (Cmp.bm 2 29) ?_
              refine one_ (i := 2) (N := some 19) (Cmp.bm 3 28) rfl rfl (one_of HT_.out (by kernel_rfl)) (by decide) (fun K hK => ?_)
              refine goes_ Try.func60 (by kernel_rfl) rfl #[.int .i64 ((rd_T94 l0_0 D0).f0), .int .i64 0, .int .i64 2147483646] (by rfl) rfl rfl Cmp.q ?_
              with_reducible refine (impl_InRange.calls ((rd_T94 l0_0 D0).f0) 0 2147483646 true _ Dp.out).mono ?_
              rintro e w' ⟨rfl, ⟨nd, rfl⟩⟩; refine ⟨_, rfl, ?_⟩
              refine hK.out _ _ ⟨(Cmp.c0 D1 :), (Cmp.c1 D1 :), (Cmp.c2 D1 :), (Cmp.c3 D1 :), (Cmp.c0 D3 :), (Cmp.hc HB Dc :), (Cmp.hc HB Dd :), (Cmp.hc HB De :), (Cmp.hc HB Df :)⟩ (fun hHeld => ?_)
              clear hK K
              refine Cmp.no ?_
              refine Cmp.pu HT_ 3 20 (Cmp.bm 4 27) ?_; refine Cmp.pu HT_ 4 21 (Cmp.bm 5 26) ?_; refine Cmp.pu HT_ 5 22 (Cmp.bm 6 25) ?_; refine Cmp.tk HT_ HW_ hHeld 6 23 (Cmp.bm 7 24) ?_
              refine one_ (i := 7) (N := some 24) (Cmp.bm 8 23) rfl rfl (one_of HT_.out (by kernel_rfl)) (by decide) (fun K hK => ?_)
              refine goes_ Try.func60 (by kernel_rfl) rfl #[.int .i64 ((rd_T94 l0_0 D0).f1), .int .i64 0, .int .i64 1000000] (by rfl) rfl rfl Cmp.q ?_
              with_reducible refine (impl_InRange.calls ((rd_T94 l0_0 D0).f1) 0 1000000 true _ Dv.out).mono ?_
              rintro e w' ⟨rfl, ⟨nd, rfl⟩⟩; refine ⟨_, rfl, ?_⟩
              refine hK.out _ _ ⟨(Cmp.c0 D1 :), (Cmp.c1 D1 :), (Cmp.c2 D1 :), (Cmp.c3 D1 :), (Cmp.c0 D3 :), (Cmp.hc HB Dc :), (Cmp.hc HB Dd :), (Cmp.hc HB De :), (Cmp.hc HB Df :)⟩ (fun hHeld => ?_)
              clear hK K
              refine Cmp.no ?_
              refine Cmp.pu HT_ 8 25 (Cmp.bm 9 22) ?_; refine Cmp.pu HT_ 9 26 (Cmp.bm 10 21) ?_; refine Cmp.pu HT_ 10 27 (Cmp.bm 11 20) ?_; refine Cmp.pu HT_ 11 28 (Cmp.bm 12 19) ?_; refine Cmp.tk HT_ HW_ hHeld 12 29 (Cmp.bm 13 18) ?_
              refine one_ (i := 13) (N := some 30) (Cmp.bm 14 17) rfl rfl (one_of HT_.out (by kernel_rfl)) (by decide) (fun K hK => ?_)
              refine goes_ Try.func60 (by kernel_rfl) rfl #[.int .i64 ((rd_T94 l0_0 D0).f2), .int .i64 1, .int .i64 1000000] (by rfl) rfl rfl Cmp.q ?_
              with_reducible refine (impl_InRange.calls ((rd_T94 l0_0 D0).f2) 1 1000000 true _ Dy.out).mono ?_
              rintro e w' ⟨rfl, ⟨nd, rfl⟩⟩; refine ⟨_, rfl, ?_⟩
              refine hK.out _ _ ⟨(Cmp.c0 D1 :), (Cmp.c1 D1 :), (Cmp.c2 D1 :), (Cmp.c3 D1 :), (Cmp.c0 D3 :), (Cmp.hc HB Dc :), (Cmp.hc HB Dd :), (Cmp.hc HB De :), (Cmp.hc HB Df :)⟩ (fun hHeld => ?_)
              clear hK K
              refine Cmp.no ?_
              refine Cmp.pu HT_ 14 31 (Cmp.bm 15 16) ?_; refine Cmp.pu HT_ 15 32 (Cmp.bm 16 15) ?_; refine Cmp.pu HT_ 16 33 (Cmp.bm 17 14) ?_; refine Cmp.pu HT_ 17 34 (Cmp.bm 18 13) ?_; refine Cmp.pu HT_ 18 35 (Cmp.bm 19 12) ?_; refine Cmp.pu HT_ 19 36 (Cmp.bm 20 11) ?_; refine Cmp.pu HT_ 20 37 (Cmp.bm 21 10) ?_; refine Cmp.pu HT_ 22 39 (Cmp.bb 31 6291455) ?_; refine Cmp.pu HT_ 23 40 (Cmp.bb 31 14680063) ?_; refine Cmp.tk HT_ HW_ hHeld 21 38 (Cmp.bm 24 7) ?_; refine Cmp.pu HT_ 24 41 (Cmp.bm 25 6) ?_; refine Cmp.tk HT_ HW_ hHeld 25 42 (Cmp.bm 26 5) ?_; refine Cmp.tk HT_ HW_ hHeld 26 43 (Cmp.bm 27 4) ?_
              refine one_ (i := 27) (N := some 44) (Cmp.bm 28 3) rfl rfl (one_of HT_.out (by kernel_rfl)) (by decide) (fun K hK => ?_)
              refine goes_ Try.func101 (by kernel_rfl) rfl #[.agg #[.int .i64 ((rd_T94 l0_0 (D4)).f0), .int .i64 ((rd_T94 l0_0 (D4)).f1), .int .i64 ((rd_T94 l0_0 (D4)).f2), .bool ((rd_T94 l0_0 (D4)).f3)], .agg #[.int .i64 ((rd_T94 l0_0 D0).f0), .int .i64 ((rd_T94 l0_0 D0).f1), .int .i64 ((rd_T94 l0_0 D0).f2), .bool ((rd_T94 l0_0 D0).f3)]] (by rfl) rfl rfl (by (try simp only [List.map_toArray, List.map_cons, List.map_nil]); first | done | (simp only [hji17]; rfl) | rfl | (simp only [List.length_drop, List.length_take]; rfl)) ?_
              with_reducible refine (impl_entryBefore.calls ((rd_T94 l0_0 (D4)).f0) ((rd_T94 l0_0 (D4)).f1) ((rd_T94 l0_0 (D4)).f2) ((rd_T94 l0_0 (D4)).f3) ((rd_T94 l0_0 D0).f0) ((rd_T94 l0_0 D0).f1) ((rd_T94 l0_0 D0).f2) ((rd_T94 l0_0 D0).f3) false _ Fi.out).mono ?_
              rintro e w33 ⟨rfl, hb⟩; refine ⟨_, rfl, ?_⟩
              replace D3 := Cmp.be D3 hb; replace D1 := Cmp.be D1 hb; replace HB := Cmp.A (below_step (Cmp.g HB.out) hb); (try clear hb); (try clear hb2); (try clear hk); (try clear hi)
              refine hK.out _ _ ⟨(Cmp.c0 D1 :), (Cmp.c1 D1 :), (Cmp.c2 D1 :), (Cmp.c3 D1 :), (Cmp.c0 D3 :), (Cmp.hc HB Dc :), (Cmp.hc HB Dd :), (Cmp.hc HB De :), (Cmp.hc HB Df :)⟩ (fun hHeld => ?_)
              clear hK K
              refine Cmp.no ?_
              refine Cmp.pu HT_ 28 45 (Cmp.bm 29 2) ?_; refine Cmp.pu HT_ 29 46 (Cmp.bm 30 1) ?_; refine Cmp.pu HT_ 30 47 (Cmp.bm 31 0) ?_
              refine done_ (done_of HT_.out (by kernel_rfl)) ?_
              try go_wp2
              go_ret
              exact ⟨by first | rfl | (simp [errW_none, errW_some] <;> rfl) | (simp only [← hji17]; first | rfl | (simp [errW_none, errW_some] <;> rfl)) | (simp [*, errW_none, errW_some] <;> rfl), Cmp.g HB.out⟩
            ·rw [if_neg c19] at H; exact absurd H (by simp)
           ·rw [if_neg c18] at H; exact absurd H (by simp)
          ·rw [if_neg c16] at H; have c16b0 : decide (0 < D0) = false := decide_eq_false c16; clear c16
           have H' := Cmp.A H
           clear H
           have p346 : 0 ≤ (D0 : Int) := of_decide_eq_true Cmp.d
           have q346 : D0 < (l0_0.length : Int) := of_decide_eq_true Cmp.d
           obtain ⟨D5, e346, D6, D7, D8, D9⟩ := at_T94 Dl.out D0 p346 q346
           cases e346
           replace D6 := Cmp.hc HB D6
           replace D7 := Cmp.hc HB D7
           replace D8 := Cmp.hc HB D8
           replace D9 := Cmp.hc HB D9
           replace p346 := eq_true p346; replace q346 := eq_true q346
           try go_wp2_with (first | ((with_reducible refine gate_dst (N := 4) rfl ?_); refine box_event ?hg (N := 4) ?hd (cs := #[.int .i64 0, .int .i64 0, .int .i64 0, .bool false]) (t := 94) ?hr ?_; (case hd => rfl); (case hg => rfl); (case hr => first | (go_simp; done) | (go_simp; rfl)); intro D2 hg w34 hbox hb; have D1 := Cmp.A (hbox); have Dn := Cmp.gw hg HB; have Dm := Cmp.gw hg HB; have Da := Cmp.nl hg D3; have Db := Cmp.ng hg D3; replace D3 := Cmp.be D3 hb; replace HB := Cmp.bs HB hb; clear hb hbox hg; have Fl := Db.out; have Fr := Da.out; obtain ⟨Eb, Ec, Ed, Ee⟩ := Cmp.q4 D1; obtain ⟨Ez, F0, F1, F2⟩ := Cmp.f4 D1))
           have n0_ : Aside0 (((((w34.setCell ⟨D2, 0, none⟩ (.int .i64 ((rd_T94 l0_0 D0).f0))).setCell ⟨D2, 1, none⟩ (.int .i64 ((rd_T94 l0_0 D0).f1))).setCell ⟨D2, 2, none⟩ (.int .i64 ((rd_T94 l0_0 D0).f2))).setCell ⟨D2, 3, none⟩ (.bool ((rd_T94 l0_0 D0).f3))).heap[Dk]? = some (.cells #[.slice (some D5) l0_0.length c0_0] 45 (0, 0))) := ⟨Cmp.bw D3.out⟩
           have n1_ : Aside0 (((((w34.setCell ⟨D2, 0, none⟩ (.int .i64 ((rd_T94 l0_0 D0).f0))).setCell ⟨D2, 1, none⟩ (.int .i64 ((rd_T94 l0_0 D0).f1))).setCell ⟨D2, 2, none⟩ (.int .i64 ((rd_T94 l0_0 D0).f2))).setCell ⟨D2, 3, none⟩ (.bool ((rd_T94 l0_0 D0).f3))).heap[D2]? = some (.cells #[.int .i64 ((rd_T94 l0_0 D0).f0), .int .i64 ((rd_T94 l0_0 D0).f1), .int .i64 ((rd_T94 l0_0 D0).f2), .bool ((rd_T94 l0_0 D0).f3)] 94 (0, 0))) := ⟨Cmp.bw D1.out⟩
           have n2_ : Aside0 (Below w.heap.size w ((((w34.setCell ⟨D2, 0, none⟩ (.int .i64 ((rd_T94 l0_0 D0).f0))).setCell ⟨D2, 1, none⟩ (.int .i64 ((rd_T94 l0_0 D0).f1))).setCell ⟨D2, 2, none⟩ (.int .i64 ((rd_T94 l0_0 D0).f2))).setCell ⟨D2, 3, none⟩ (.bool ((rd_T94 l0_0 D0).f3)))) := ⟨Cmp.g HB.out⟩
           (try clear D3); (try clear D1); (try clear HB)
           generalize ((((w34.setCell ⟨D2, 0, none⟩ (.int .i64 ((rd_T94 l0_0 D0).f0))).setCell ⟨D2, 1, none⟩ (.int .i64 ((rd_T94 l0_0 D0).f1))).setCell ⟨D2, 2, none⟩ (.int .i64 ((rd_T94 l0_0 D0).f2))).setCell ⟨D2, 3, none⟩ (.bool ((rd_T94 l0_0 D0).f3))) = w37 at n0_ n1_ n2_ ⊢
           have D3 := n0_; have D1 := n1_; have HB := n2_; clear n0_ n1_ n2_; replace D3 := Cmp.A (blk_drew D3.out); replace D1 := Cmp.A (blk_drew D1.out); replace HB := Cmp.A (below_drew1 HB.out)
           refine start_ (n := 31) (S := fun w' => w'.cell? ⟨D2, 0, none⟩ = some (.int .i64 ((rd_T94 l0_0 D0).f0)) ∧ w'.cell? ⟨D2, 1, none⟩ = some (.int .i64 ((rd_T94 l0_0 D0).f1)) ∧ w'.cell? ⟨D2, 2, none⟩ = some (.int .i64 ((rd_T94 l0_0 D0).f2)) ∧ w'.cell? ⟨D2, 3, none⟩ = some (.bool ((rd_T94 l0_0 D0).f3))) (ds := []) (Cmp.bm 0 31) (by kernel_rfl) rfl rfl ⟨(Cmp.c0 D1 :), (Cmp.c1 D1 :), (Cmp.c2 D1 :), (Cmp.c3 D1 :)⟩ (fun hHeld => ?_); refine with_tabW impl_IsBundle.tab6 impl_IsBundle.bits6 (fun HT_ HW_ => ?_)
           generalize w37.drew = w38 at D3 D1 HB hHeld ⊢
           refine Cmp.pu HT_ 0 17 (Cmp.bm 1 30) ?_; refine Cmp.tk HT_ HW_ hHeld 1 18 (Cmp.bm 2 29) ?_
           refine one_ (i := 2) (N := some 19) (Cmp.bm 3 28) rfl rfl (one_of HT_.out (by kernel_rfl)) (by decide) (fun K hK => ?_)
           refine goes_ Try.func60 (by kernel_rfl) rfl #[.int .i64 ((rd_T94 l0_0 D0).f0), .int .i64 0, .int .i64 2147483646] (by rfl) rfl rfl Cmp.q ?_
           with_reducible refine (impl_InRange.calls ((rd_T94 l0_0 D0).f0) 0 2147483646 true _ Dp.out).mono ?_
           rintro e w' ⟨rfl, ⟨nd, rfl⟩⟩; refine ⟨_, rfl, ?_⟩
           refine hK.out _ _ ⟨(Cmp.c0 D1 :), (Cmp.c1 D1 :), (Cmp.c2 D1 :), (Cmp.c3 D1 :)⟩ (fun hHeld => ?_)
           clear hK K
           refine Cmp.no ?_
           refine Cmp.pu HT_ 3 20 (Cmp.bm 4 27) ?_; refine Cmp.pu HT_ 4 21 (Cmp.bm 5 26) ?_; refine Cmp.pu HT_ 5 22 (Cmp.bm 6 25) ?_; refine Cmp.tk HT_ HW_ hHeld 6 23 (Cmp.bm 7 24) ?_
           refine one_ (i := 7) (N := some 24) (Cmp.bm 8 23) rfl rfl (one_of HT_.out (by kernel_rfl)) (by decide) (fun K hK => ?_)
           refine goes_ Try.func60 (by kernel_rfl) rfl #[.int .i64 ((rd_T94 l0_0 D0).f1), .int .i64 0, .int .i64 1000000] (by rfl) rfl rfl Cmp.q ?_
           with_reducible refine (impl_InRange.calls ((rd_T94 l0_0 D0).f1) 0 1000000 true _ Dv.out).mono ?_
           rintro e w' ⟨rfl, ⟨nd, rfl⟩⟩; refine ⟨_, rfl, ?_⟩
           refine hK.out _ _ ⟨(Cmp.c0 D1 :), (Cmp.c1 D1 :), (Cmp.c2 D1 :), (Cmp.c3 D1 :)⟩ (fun hHeld => ?_)
           clear hK K
           refine Cmp.no ?_
           refine Cmp.pu HT_ 8 25 (Cmp.bm 9 22) ?_; refine Cmp.pu HT_ 9 26 (Cmp.bm 10 21) ?_; refine Cmp.pu HT_ 10 27 (Cmp.bm 11 20) ?_; refine Cmp.pu HT_ 11 28 (Cmp.bm 12 19) ?_; refine Cmp.tk HT_ HW_ hHeld 12 29 (Cmp.bm 13 18) ?_
           refine one_ (i := 13) (N := some 30) (Cmp.bm 14 17) rfl rfl (one_of HT_.out (by kernel_rfl)) (by decide) (fun K hK => ?_)
           refine goes_ Try.func60 (by kernel_rfl) rfl #[.int .i64 ((rd_T94 l0_0 D0).f2), .int .i64 1, .int .i64 1000000] (by rfl) rfl rfl Cmp.q ?_
           with_reducible refine (impl_InRange.calls ((rd_T94 l0_0 D0).f2) 1 1000000 true _ Dy.out).mono ?_
           rintro e w' ⟨rfl, ⟨nd, rfl⟩⟩; refine ⟨_, rfl, ?_⟩
           refine hK.out _ _ ⟨(Cmp.c0 D1 :), (Cmp.c1 D1 :), (Cmp.c2 D1 :), (Cmp.c3 D1 :)⟩ (fun hHeld => ?_)
           clear hK K
           refine Cmp.no ?_
           refine Cmp.pu HT_ 14 31 (Cmp.bm 15 16) ?_; refine Cmp.pu HT_ 15 32 (Cmp.bm 16 15) ?_; refine Cmp.pu HT_ 16 33 (Cmp.bm 17 14) ?_; refine Cmp.pu HT_ 17 34 (Cmp.bm 18 13) ?_; refine Cmp.pu HT_ 18 35 (Cmp.bm 19 12) ?_; refine Cmp.pu HT_ 19 36 (Cmp.bm 20 11) ?_; refine Cmp.pv HT_ 20 37 (Cmp.bm 21 10) ?_; refine Cmp.pv HT_ 21 38 (Cmp.bm 22 9) ?_; refine Cmp.pv HT_ 22 39 (Cmp.bm 23 8) ?_; refine Cmp.pv HT_ 23 40 (Cmp.bm 24 7) ?_; refine Cmp.pv HT_ 24 41 (Cmp.bm 25 6) ?_; refine Cmp.pv HT_ 25 42 (Cmp.bm 26 5) ?_; refine Cmp.pv HT_ 26 43 (Cmp.bm 27 4) ?_; refine Cmp.pv HT_ 27 44 (Cmp.bm 28 3) ?_; refine Cmp.pv HT_ 28 45 (Cmp.bm 29 2) ?_; refine Cmp.pu HT_ 29 46 (Cmp.bm 30 1) ?_; refine Cmp.pu HT_ 30 47 (Cmp.bm 31 0) ?_
           refine done_ (done_of HT_.out (by kernel_rfl)) ?_
           try go_wp2
           go_roundg k1
           case measure => have := HK1.out; omega
           case rel => exact ⟨(wrap64 (D0 + 1)), (by first | rfl | simp | simp [*]), H', ⟨by have := HK1.out; omega⟩, Cmp.bq D3, ⟨Cmp.g HB.out⟩⟩
         ·replace c15 := Bool.eq_false_iff.mpr c15
          subst c15
          have H1 : (some false) = some r := by rw [if_neg (show ¬ (false = true) by decide)] at H; exact H
          clear H; have H := H1; clear H1
          obtain rfl := Option.some.inj H
          have p346 : 0 ≤ (D0 : Int) := of_decide_eq_true Cmp.d
          have q346 : D0 < (l0_0.length : Int) := of_decide_eq_true Cmp.d
          obtain ⟨D5, e346, D6, D7, D8, D9⟩ := at_T94 Dl.out D0 p346 q346
          cases e346
          replace D6 := Cmp.hc HB D6
          replace D7 := Cmp.hc HB D7
          replace D8 := Cmp.hc HB D8
          replace D9 := Cmp.hc HB D9
          replace p346 := eq_true p346; replace q346 := eq_true q346
          try go_wp2_with (first | ((with_reducible refine gate_dst (N := 4) rfl ?_); refine box_event ?hg (N := 4) ?hd (cs := #[.int .i64 0, .int .i64 0, .int .i64 0, .bool false]) (t := 94) ?hr ?_; (case hd => rfl); (case hg => rfl); (case hr => first | (go_simp; done) | (go_simp; rfl)); intro D2 hg w39 hbox hb; have D1 := Cmp.A (hbox); have Dn := Cmp.gw hg HB; have Dm := Cmp.gw hg HB; have Da := Cmp.nl hg D3; have Db := Cmp.ng hg D3; replace D3 := Cmp.be D3 hb; replace HB := Cmp.bs HB hb; clear hb hbox hg; have Fm := Db.out; have Fs := Da.out; obtain ⟨Ef, Eg, Eh, Ei⟩ := Cmp.q4 D1; obtain ⟨F3, F4, F5, F6⟩ := Cmp.f4 D1))
          have n0_ : Aside0 (((((w39.setCell ⟨D2, 0, none⟩ (.int .i64 ((rd_T94 l0_0 D0).f0))).setCell ⟨D2, 1, none⟩ (.int .i64 ((rd_T94 l0_0 D0).f1))).setCell ⟨D2, 2, none⟩ (.int .i64 ((rd_T94 l0_0 D0).f2))).setCell ⟨D2, 3, none⟩ (.bool ((rd_T94 l0_0 D0).f3))).heap[Dk]? = some (.cells #[.slice (some D5) l0_0.length c0_0] 45 (0, 0))) := ⟨Cmp.bw D3.out⟩
          have n1_ : Aside0 (((((w39.setCell ⟨D2, 0, none⟩ (.int .i64 ((rd_T94 l0_0 D0).f0))).setCell ⟨D2, 1, none⟩ (.int .i64 ((rd_T94 l0_0 D0).f1))).setCell ⟨D2, 2, none⟩ (.int .i64 ((rd_T94 l0_0 D0).f2))).setCell ⟨D2, 3, none⟩ (.bool ((rd_T94 l0_0 D0).f3))).heap[D2]? = some (.cells #[.int .i64 ((rd_T94 l0_0 D0).f0), .int .i64 ((rd_T94 l0_0 D0).f1), .int .i64 ((rd_T94 l0_0 D0).f2), .bool ((rd_T94 l0_0 D0).f3)] 94 (0, 0))) := ⟨Cmp.bw D1.out⟩
          have n2_ : Aside0 (Below w.heap.size w ((((w39.setCell ⟨D2, 0, none⟩ (.int .i64 ((rd_T94 l0_0 D0).f0))).setCell ⟨D2, 1, none⟩ (.int .i64 ((rd_T94 l0_0 D0).f1))).setCell ⟨D2, 2, none⟩ (.int .i64 ((rd_T94 l0_0 D0).f2))).setCell ⟨D2, 3, none⟩ (.bool ((rd_T94 l0_0 D0).f3)))) := ⟨Cmp.g HB.out⟩
          (try clear D3); (try clear D1); (try clear HB)
          generalize ((((w39.setCell ⟨D2, 0, none⟩ (.int .i64 ((rd_T94 l0_0 D0).f0))).setCell ⟨D2, 1, none⟩ (.int .i64 ((rd_T94 l0_0 D0).f1))).setCell ⟨D2, 2, none⟩ (.int .i64 ((rd_T94 l0_0 D0).f2))).setCell ⟨D2, 3, none⟩ (.bool ((rd_T94 l0_0 D0).f3))) = w42 at n0_ n1_ n2_ ⊢
          have D3 := n0_; have D1 := n1_; have HB := n2_; clear n0_ n1_ n2_; replace D3 := Cmp.A (blk_drew D3.out); replace D1 := Cmp.A (blk_drew D1.out); replace HB := Cmp.A (below_drew1 HB.out)
          refine start_ (n := 31) (S := fun w' => w'.cell? ⟨D2, 0, none⟩ = some (.int .i64 ((rd_T94 l0_0 D0).f0)) ∧ w'.cell? ⟨D2, 1, none⟩ = some (.int .i64 ((rd_T94 l0_0 D0).f1)) ∧ w'.cell? ⟨D2, 2, none⟩ = some (.int .i64 ((rd_T94 l0_0 D0).f2)) ∧ w'.cell? ⟨D2, 3, none⟩ = some (.bool ((rd_T94 l0_0 D0).f3))) (ds := []) (Cmp.bm 0 31) (by kernel_rfl) rfl rfl ⟨(Cmp.c0 D1 :), (Cmp.c1 D1 :), (Cmp.c2 D1 :), (Cmp.c3 D1 :)⟩ (fun hHeld => ?_); refine with_tabW impl_IsBundle.tab6 impl_IsBundle.bits6 (fun HT_ HW_ => ?_)
          generalize w42.drew = w43 at D3 D1 HB hHeld ⊢
          refine Cmp.pu HT_ 0 17 (Cmp.bm 1 30) ?_; refine Cmp.tk HT_ HW_ hHeld 1 18 (Cmp.bm 2 29) ?_
          refine one_ (i := 2) (N := some 19) (Cmp.bm 3 28) rfl rfl (one_of HT_.out (by kernel_rfl)) (by decide) (fun K hK => ?_)
          refine goes_ Try.func60 (by kernel_rfl) rfl #[.int .i64 ((rd_T94 l0_0 D0).f0), .int .i64 0, .int .i64 2147483646] (by rfl) rfl rfl Cmp.q ?_
          with_reducible refine (impl_InRange.calls ((rd_T94 l0_0 D0).f0) 0 2147483646 true _ Dp.out).mono ?_
          rintro e w' ⟨rfl, ⟨nd, rfl⟩⟩; refine ⟨_, rfl, ?_⟩
          refine hK.out _ _ ⟨(Cmp.c0 D1 :), (Cmp.c1 D1 :), (Cmp.c2 D1 :), (Cmp.c3 D1 :)⟩ (fun hHeld => ?_)
          clear hK K
          refine Cmp.no ?_
          refine Cmp.pu HT_ 3 20 (Cmp.bm 4 27) ?_; refine Cmp.pu HT_ 4 21 (Cmp.bm 5 26) ?_; refine Cmp.pu HT_ 5 22 (Cmp.bm 6 25) ?_; refine Cmp.tk HT_ HW_ hHeld 6 23 (Cmp.bm 7 24) ?_
          refine one_ (i := 7) (N := some 24) (Cmp.bm 8 23) rfl rfl (one_of HT_.out (by kernel_rfl)) (by decide) (fun K hK => ?_)
          refine goes_ Try.func60 (by kernel_rfl) rfl #[.int .i64 ((rd_T94 l0_0 D0).f1), .int .i64 0, .int .i64 1000000] (by rfl) rfl rfl Cmp.q ?_
          with_reducible refine (impl_InRange.calls ((rd_T94 l0_0 D0).f1) 0 1000000 true _ Dv.out).mono ?_
          rintro e w' ⟨rfl, ⟨nd, rfl⟩⟩; refine ⟨_, rfl, ?_⟩
          refine hK.out _ _ ⟨(Cmp.c0 D1 :), (Cmp.c1 D1 :), (Cmp.c2 D1 :), (Cmp.c3 D1 :)⟩ (fun hHeld => ?_)
          clear hK K
          refine Cmp.no ?_
          refine Cmp.pu HT_ 8 25 (Cmp.bm 9 22) ?_; refine Cmp.pu HT_ 9 26 (Cmp.bm 10 21) ?_; refine Cmp.pu HT_ 10 27 (Cmp.bm 11 20) ?_; refine Cmp.pu HT_ 11 28 (Cmp.bm 12 19) ?_; refine Cmp.tk HT_ HW_ hHeld 12 29 (Cmp.bm 13 18) ?_
          refine one_ (i := 13) (N := some 30) (Cmp.bm 14 17) rfl rfl (one_of HT_.out (by kernel_rfl)) (by decide) (fun K hK => ?_)
          refine goes_ Try.func60 (by kernel_rfl) rfl #[.int .i64 ((rd_T94 l0_0 D0).f2), .int .i64 1, .int .i64 1000000] (by rfl) rfl rfl Cmp.q ?_
          with_reducible refine (impl_InRange.calls ((rd_T94 l0_0 D0).f2) 1 1000000 false _ Dy.out).mono ?_
          rintro e w' ⟨rfl, ⟨nd, rfl⟩⟩; refine ⟨_, rfl, ?_⟩
          refine hK.out _ _ ⟨(Cmp.c0 D1 :), (Cmp.c1 D1 :), (Cmp.c2 D1 :), (Cmp.c3 D1 :)⟩ (fun hHeld => ?_)
          clear hK K
          refine Cmp.no ?_
          refine Cmp.pu HT_ 14 31 (Cmp.bm 15 16) ?_; refine Cmp.pu HT_ 15 32 (Cmp.bm 16 15) ?_; refine Cmp.pu HT_ 16 33 (Cmp.bm 17 14) ?_; refine Cmp.pv HT_ 17 34 (Cmp.bm 18 13) ?_; refine Cmp.pv HT_ 18 35 (Cmp.bm 19 12) ?_; refine Cmp.pv HT_ 19 36 (Cmp.bm 20 11) ?_; refine Cmp.pv HT_ 20 37 (Cmp.bm 21 10) ?_; refine Cmp.pv HT_ 21 38 (Cmp.bm 22 9) ?_; refine Cmp.pv HT_ 22 39 (Cmp.bm 23 8) ?_; refine Cmp.pv HT_ 23 40 (Cmp.bm 24 7) ?_; refine Cmp.pv HT_ 24 41 (Cmp.bm 25 6) ?_; refine Cmp.pv HT_ 25 42 (Cmp.bm 26 5) ?_; refine Cmp.pv HT_ 26 43 (Cmp.bm 27 4) ?_; refine Cmp.pv HT_ 27 44 (Cmp.bm 28 3) ?_; refine Cmp.pv HT_ 28 45 (Cmp.bm 29 2) ?_; refine Cmp.pv HT_ 29 46 (Cmp.bm 30 1) ?_; refine Cmp.pu HT_ 30 47 (Cmp.bm 31 0) ?_
          refine done_ (done_of HT_.out (by kernel_rfl)) ?_
          try go_wp2
          go_ret
          exact ⟨by first | rfl | (simp [errW_none, errW_some] <;> rfl) | (simp [*, errW_none, errW_some] <;> rfl), Cmp.g HB.out⟩
        ·replace c13 := Bool.eq_false_iff.mpr c13
         subst c13
         have H1 : (some false) = some r := by rw [if_neg (show ¬ (false = true) by decide)] at H; exact H
         clear H; have H := H1; clear H1
         obtain rfl := Option.some.inj H
         have p346 : 0 ≤ (D0 : Int) := of_decide_eq_true Cmp.d
         have q346 : D0 < (l0_0.length : Int) := of_decide_eq_true Cmp.d
         obtain ⟨D5, e346, D6, D7, D8, D9⟩ := at_T94 Dl.out D0 p346 q346
         cases e346
         replace D6 := Cmp.hc HB D6
         replace D7 := Cmp.hc HB D7
         replace D8 := Cmp.hc HB D8
         replace D9 := Cmp.hc HB D9
         replace p346 := eq_true p346; replace q346 := eq_true q346
         try go_wp2_with (first | ((with_reducible refine gate_dst (N := 4) rfl ?_); refine box_event ?hg (N := 4) ?hd (cs := #[.int .i64 0, .int .i64 0, .int .i64 0, .bool false]) (t := 94) ?hr ?_; (case hd => rfl); (case hg => rfl); (case hr => first | (go_simp; done) | (go_simp; rfl)); intro D2 hg w44 hbox hb; have D1 := Cmp.A (hbox); have Dn := Cmp.gw hg HB; have Dm := Cmp.gw hg HB; have Da := Cmp.nl hg D3; have Db := Cmp.ng hg D3; replace D3 := Cmp.be D3 hb; replace HB := Cmp.bs HB hb; clear hb hbox hg; have Fn := Db.out; have Ft := Da.out; obtain ⟨Ej, Ek, El, Em⟩ := Cmp.q4 D1; obtain ⟨F7, F8, F9, Fa⟩ := Cmp.f4 D1))
         have n0_ : Aside0 (((((w44.setCell ⟨D2, 0, none⟩ (.int .i64 ((rd_T94 l0_0 D0).f0))).setCell ⟨D2, 1, none⟩ (.int .i64 ((rd_T94 l0_0 D0).f1))).setCell ⟨D2, 2, none⟩ (.int .i64 ((rd_T94 l0_0 D0).f2))).setCell ⟨D2, 3, none⟩ (.bool ((rd_T94 l0_0 D0).f3))).heap[Dk]? = some (.cells #[.slice (some D5) l0_0.length c0_0] 45 (0, 0))) := ⟨Cmp.bw D3.out⟩
         have n1_ : Aside0 (((((w44.setCell ⟨D2, 0, none⟩ (.int .i64 ((rd_T94 l0_0 D0).f0))).setCell ⟨D2, 1, none⟩ (.int .i64 ((rd_T94 l0_0 D0).f1))).setCell ⟨D2, 2, none⟩ (.int .i64 ((rd_T94 l0_0 D0).f2))).setCell ⟨D2, 3, none⟩ (.bool ((rd_T94 l0_0 D0).f3))).heap[D2]? = some (.cells #[.int .i64 ((rd_T94 l0_0 D0).f0), .int .i64 ((rd_T94 l0_0 D0).f1), .int .i64 ((rd_T94 l0_0 D0).f2), .bool ((rd_T94 l0_0 D0).f3)] 94 (0, 0))) := ⟨Cmp.bw D1.out⟩
         have n2_ : Aside0 (Below w.heap.size w ((((w44.setCell ⟨D2, 0, none⟩ (.int .i64 ((rd_T94 l0_0 D0).f0))).setCell ⟨D2, 1, none⟩ (.int .i64 ((rd_T94 l0_0 D0).f1))).setCell ⟨D2, 2, none⟩ (.int .i64 ((rd_T94 l0_0 D0).f2))).setCell ⟨D2, 3, none⟩ (.bool ((rd_T94 l0_0 D0).f3)))) := ⟨Cmp.g HB.out⟩
         (try clear D3); (try clear D1); (try clear HB)
         generalize ((((w44.setCell ⟨D2, 0, none⟩ (.int .i64 ((rd_T94 l0_0 D0).f0))).setCell ⟨D2, 1, none⟩ (.int .i64 ((rd_T94 l0_0 D0).f1))).setCell ⟨D2, 2, none⟩ (.int .i64 ((rd_T94 l0_0 D0).f2))).setCell ⟨D2, 3, none⟩ (.bool ((rd_T94 l0_0 D0).f3))) = w47 at n0_ n1_ n2_ ⊢
         have D3 := n0_; have D1 := n1_; have HB := n2_; clear n0_ n1_ n2_; replace D3 := Cmp.A (blk_drew D3.out); replace D1 := Cmp.A (blk_drew D1.out); replace HB := Cmp.A (below_drew1 HB.out)
         refine start_ (n := 31) (S := fun w' => w'.cell? ⟨D2, 0, none⟩ = some (.int .i64 ((rd_T94 l0_0 D0).f0)) ∧ w'.cell? ⟨D2, 1, none⟩ = some (.int .i64 ((rd_T94 l0_0 D0).f1)) ∧ w'.cell? ⟨D2, 2, none⟩ = some (.int .i64 ((rd_T94 l0_0 D0).f2)) ∧ w'.cell? ⟨D2, 3, none⟩ = some (.bool ((rd_T94 l0_0 D0).f3))) (ds := []) (Cmp.bm 0 31) (by kernel_rfl) rfl rfl ⟨(Cmp.c0 D1 :), (Cmp.c1 D1 :), (Cmp.c2 D1 :), (Cmp.c3 D1 :)⟩ (fun hHeld => ?_); refine with_tabW impl_IsBundle.tab6 impl_IsBundle.bits6 (fun HT_ HW_ => ?_)
         generalize w47.drew = w48 at D3 D1 HB hHeld ⊢
         refine Cmp.pu HT_ 0 17 (Cmp.bm 1 30) ?_; refine Cmp.tk HT_ HW_ hHeld 1 18 (Cmp.bm 2 29) ?_
         refine one_ (i := 2) (N := some 19) (Cmp.bm 3 28) rfl rfl (one_of HT_.out (by kernel_rfl)) (by decide) (fun K hK => ?_)
         refine goes_ Try.func60 (by kernel_rfl) rfl #[.int .i64 ((rd_T94 l0_0 D0).f0), .int .i64 0, .int .i64 2147483646] (by rfl) rfl rfl Cmp.q ?_
         with_reducible refine (impl_InRange.calls ((rd_T94 l0_0 D0).f0) 0 2147483646 true _ Dp.out).mono ?_
         rintro e w' ⟨rfl, ⟨nd, rfl⟩⟩; refine ⟨_, rfl, ?_⟩
         refine hK.out _ _ ⟨(Cmp.c0 D1 :), (Cmp.c1 D1 :), (Cmp.c2 D1 :), (Cmp.c3 D1 :)⟩ (fun hHeld => ?_)
         clear hK K
         refine Cmp.no ?_
         refine Cmp.pu HT_ 3 20 (Cmp.bm 4 27) ?_; refine Cmp.pu HT_ 4 21 (Cmp.bm 5 26) ?_; refine Cmp.pu HT_ 5 22 (Cmp.bm 6 25) ?_; refine Cmp.tk HT_ HW_ hHeld 6 23 (Cmp.bm 7 24) ?_
         refine one_ (i := 7) (N := some 24) (Cmp.bm 8 23) rfl rfl (one_of HT_.out (by kernel_rfl)) (by decide) (fun K hK => ?_)
         refine goes_ Try.func60 (by kernel_rfl) rfl #[.int .i64 ((rd_T94 l0_0 D0).f1), .int .i64 0, .int .i64 1000000] (by rfl) rfl rfl Cmp.q ?_
         with_reducible refine (impl_InRange.calls ((rd_T94 l0_0 D0).f1) 0 1000000 false _ Dv.out).mono ?_
         rintro e w' ⟨rfl, ⟨nd, rfl⟩⟩; refine ⟨_, rfl, ?_⟩
         refine hK.out _ _ ⟨(Cmp.c0 D1 :), (Cmp.c1 D1 :), (Cmp.c2 D1 :), (Cmp.c3 D1 :)⟩ (fun hHeld => ?_)
         clear hK K
         refine Cmp.no ?_
         refine Cmp.pu HT_ 8 25 (Cmp.bm 9 22) ?_; refine Cmp.pu HT_ 9 26 (Cmp.bm 10 21) ?_; refine Cmp.pu HT_ 10 27 (Cmp.bm 11 20) ?_; refine Cmp.pv HT_ 11 28 (Cmp.bm 12 19) ?_; refine Cmp.pv HT_ 12 29 (Cmp.bm 13 18) ?_; refine Cmp.pv HT_ 13 30 (Cmp.bm 14 17) ?_; refine Cmp.pv HT_ 14 31 (Cmp.bm 15 16) ?_; refine Cmp.pu HT_ 15 32 (Cmp.bm 16 15) ?_; refine Cmp.pu HT_ 16 33 (Cmp.bm 17 14) ?_; refine Cmp.pv HT_ 17 34 (Cmp.bm 18 13) ?_; refine Cmp.pv HT_ 18 35 (Cmp.bm 19 12) ?_; refine Cmp.pv HT_ 19 36 (Cmp.bm 20 11) ?_; refine Cmp.pv HT_ 20 37 (Cmp.bm 21 10) ?_; refine Cmp.pv HT_ 21 38 (Cmp.bm 22 9) ?_; refine Cmp.pv HT_ 22 39 (Cmp.bm 23 8) ?_; refine Cmp.pv HT_ 23 40 (Cmp.bm 24 7) ?_; refine Cmp.pv HT_ 24 41 (Cmp.bm 25 6) ?_; refine Cmp.pv HT_ 25 42 (Cmp.bm 26 5) ?_; refine Cmp.pv HT_ 26 43 (Cmp.bm 27 4) ?_; refine Cmp.pv HT_ 27 44 (Cmp.bm 28 3) ?_; refine Cmp.pv HT_ 28 45 (Cmp.bm 29 2) ?_; refine Cmp.pv HT_ 29 46 (Cmp.bm 30 1) ?_; refine Cmp.pu HT_ 30 47 (Cmp.bm 31 0) ?_
         refine done_ (done_of HT_.out (by kernel_rfl)) ?_
         try go_wp2
         go_ret
         exact ⟨by first | rfl | (simp [errW_none, errW_some] <;> rfl) | (simp [*, errW_none, errW_some] <;> rfl), Cmp.g HB.out⟩
       ·replace c11 := Bool.eq_false_iff.mpr c11
        subst c11
        have H1 : (some false) = some r := by rw [if_neg (show ¬ (false = true) by decide)] at H; exact H
        clear H; have H := H1; clear H1
        obtain rfl := Option.some.inj H
        have p346 : 0 ≤ (D0 : Int) := of_decide_eq_true Cmp.d
        have q346 : D0 < (l0_0.length : Int) := of_decide_eq_true Cmp.d
        obtain ⟨D5, e346, D6, D7, D8, D9⟩ := at_T94 Dl.out D0 p346 q346
        cases e346
        replace D6 := Cmp.hc HB D6
        replace D7 := Cmp.hc HB D7
        replace D8 := Cmp.hc HB D8
        replace D9 := Cmp.hc HB D9
        replace p346 := eq_true p346; replace q346 := eq_true q346
        try go_wp2_with (first | ((with_reducible refine gate_dst (N := 4) rfl ?_); refine box_event ?hg (N := 4) ?hd (cs := #[.int .i64 0, .int .i64 0, .int .i64 0, .bool false]) (t := 94) ?hr ?_; (case hd => rfl); (case hg => rfl); (case hr => first | (go_simp; done) | (go_simp; rfl)); intro D2 hg w49 hbox hb; have D1 := Cmp.A (hbox); have Dn := Cmp.gw hg HB; have Dm := Cmp.gw hg HB; have Da := Cmp.nl hg D3; have Db := Cmp.ng hg D3; replace D3 := Cmp.be D3 hb; replace HB := Cmp.bs HB hb; clear hb hbox hg; have Fo := Db.out; have Fu := Da.out; obtain ⟨En, Eo, Ep, Eq⟩ := Cmp.q4 D1; obtain ⟨Fb, Fc, Fd, Fe⟩ := Cmp.f4 D1))
        have n0_ : Aside0 (((((w49.setCell ⟨D2, 0, none⟩ (.int .i64 ((rd_T94 l0_0 D0).f0))).setCell ⟨D2, 1, none⟩ (.int .i64 ((rd_T94 l0_0 D0).f1))).setCell ⟨D2, 2, none⟩ (.int .i64 ((rd_T94 l0_0 D0).f2))).setCell ⟨D2, 3, none⟩ (.bool ((rd_T94 l0_0 D0).f3))).heap[Dk]? = some (.cells #[.slice (some D5) l0_0.length c0_0] 45 (0, 0))) := ⟨Cmp.bw D3.out⟩
        have n1_ : Aside0 (((((w49.setCell ⟨D2, 0, none⟩ (.int .i64 ((rd_T94 l0_0 D0).f0))).setCell ⟨D2, 1, none⟩ (.int .i64 ((rd_T94 l0_0 D0).f1))).setCell ⟨D2, 2, none⟩ (.int .i64 ((rd_T94 l0_0 D0).f2))).setCell ⟨D2, 3, none⟩ (.bool ((rd_T94 l0_0 D0).f3))).heap[D2]? = some (.cells #[.int .i64 ((rd_T94 l0_0 D0).f0), .int .i64 ((rd_T94 l0_0 D0).f1), .int .i64 ((rd_T94 l0_0 D0).f2), .bool ((rd_T94 l0_0 D0).f3)] 94 (0, 0))) := ⟨Cmp.bw D1.out⟩
        have n2_ : Aside0 (Below w.heap.size w ((((w49.setCell ⟨D2, 0, none⟩ (.int .i64 ((rd_T94 l0_0 D0).f0))).setCell ⟨D2, 1, none⟩ (.int .i64 ((rd_T94 l0_0 D0).f1))).setCell ⟨D2, 2, none⟩ (.int .i64 ((rd_T94 l0_0 D0).f2))).setCell ⟨D2, 3, none⟩ (.bool ((rd_T94 l0_0 D0).f3)))) := ⟨Cmp.g HB.out⟩
        (try clear D3); (try clear D1); (try clear HB)
        generalize ((((w49.setCell ⟨D2, 0, none⟩ (.int .i64 ((rd_T94 l0_0 D0).f0))).setCell ⟨D2, 1, none⟩ (.int .i64 ((rd_T94 l0_0 D0).f1))).setCell ⟨D2, 2, none⟩ (.int .i64 ((rd_T94 l0_0 D0).f2))).setCell ⟨D2, 3, none⟩ (.bool ((rd_T94 l0_0 D0).f3))) = w52 at n0_ n1_ n2_ ⊢
        have D3 := n0_; have D1 := n1_; have HB := n2_; clear n0_ n1_ n2_; replace D3 := Cmp.A (blk_drew D3.out); replace D1 := Cmp.A (blk_drew D1.out); replace HB := Cmp.A (below_drew1 HB.out)
        refine start_ (n := 31) (S := fun w' => w'.cell? ⟨D2, 0, none⟩ = some (.int .i64 ((rd_T94 l0_0 D0).f0)) ∧ w'.cell? ⟨D2, 1, none⟩ = some (.int .i64 ((rd_T94 l0_0 D0).f1)) ∧ w'.cell? ⟨D2, 2, none⟩ = some (.int .i64 ((rd_T94 l0_0 D0).f2)) ∧ w'.cell? ⟨D2, 3, none⟩ = some (.bool ((rd_T94 l0_0 D0).f3))) (ds := []) (Cmp.bm 0 31) (by kernel_rfl) rfl rfl ⟨(Cmp.c0 D1 :), (Cmp.c1 D1 :), (Cmp.c2 D1 :), (Cmp.c3 D1 :)⟩ (fun hHeld => ?_); refine with_tabW impl_IsBundle.tab6 impl_IsBundle.bits6 (fun HT_ HW_ => ?_)
        generalize w52.drew = w53 at D3 D1 HB hHeld ⊢
        refine Cmp.pu HT_ 0 17 (Cmp.bm 1 30) ?_; refine Cmp.tk HT_ HW_ hHeld 1 18 (Cmp.bm 2 29) ?_
        refine one_ (i := 2) (N := some 19) (Cmp.bm 3 28) rfl rfl (one_of HT_.out (by kernel_rfl)) (by decide) (fun K hK => ?_)
        refine goes_ Try.func60 (by kernel_rfl) rfl #[.int .i64 ((rd_T94 l0_0 D0).f0), .int .i64 0, .int .i64 2147483646] (by rfl) rfl rfl Cmp.q ?_
        with_reducible refine (impl_InRange.calls ((rd_T94 l0_0 D0).f0) 0 2147483646 false _ Dp.out).mono ?_
        rintro e w' ⟨rfl, ⟨nd, rfl⟩⟩; refine ⟨_, rfl, ?_⟩
        refine hK.out _ _ ⟨(Cmp.c0 D1 :), (Cmp.c1 D1 :), (Cmp.c2 D1 :), (Cmp.c3 D1 :)⟩ (fun hHeld => ?_)
        clear hK K
        refine Cmp.no ?_
        refine Cmp.pu HT_ 3 20 (Cmp.bm 4 27) ?_; refine Cmp.pu HT_ 4 21 (Cmp.bm 5 26) ?_; refine Cmp.pv HT_ 5 22 (Cmp.bm 6 25) ?_; refine Cmp.pv HT_ 6 23 (Cmp.bm 7 24) ?_; refine Cmp.pv HT_ 7 24 (Cmp.bm 8 23) ?_; refine Cmp.pv HT_ 8 25 (Cmp.bm 9 22) ?_; refine Cmp.pu HT_ 9 26 (Cmp.bm 10 21) ?_; refine Cmp.pu HT_ 10 27 (Cmp.bm 11 20) ?_; refine Cmp.pv HT_ 11 28 (Cmp.bm 12 19) ?_; refine Cmp.pv HT_ 12 29 (Cmp.bm 13 18) ?_; refine Cmp.pv HT_ 13 30 (Cmp.bm 14 17) ?_; refine Cmp.pv HT_ 14 31 (Cmp.bm 15 16) ?_; refine Cmp.pu HT_ 15 32 (Cmp.bm 16 15) ?_; refine Cmp.pu HT_ 16 33 (Cmp.bm 17 14) ?_; refine Cmp.pv HT_ 17 34 (Cmp.bm 18 13) ?_; refine Cmp.pv HT_ 18 35 (Cmp.bm 19 12) ?_; refine Cmp.pv HT_ 19 36 (Cmp.bm 20 11) ?_; refine Cmp.pv HT_ 20 37 (Cmp.bm 21 10) ?_; refine Cmp.pv HT_ 21 38 (Cmp.bm 22 9) ?_; refine Cmp.pv HT_ 22 39 (Cmp.bm 23 8) ?_; refine Cmp.pv HT_ 23 40 (Cmp.bm 24 7) ?_; refine Cmp.pv HT_ 24 41 (Cmp.bm 25 6) ?_; refine Cmp.pv HT_ 25 42 (Cmp.bm 26 5) ?_; refine Cmp.pv HT_ 26 43 (Cmp.bm 27 4) ?_; refine Cmp.pv HT_ 27 44 (Cmp.bm 28 3) ?_; refine Cmp.pv HT_ 28 45 (Cmp.bm 29 2) ?_; refine Cmp.pv HT_ 29 46 (Cmp.bm 30 1) ?_; refine Cmp.pu HT_ 30 47 (Cmp.bm 31 0) ?_
        refine done_ (done_of HT_.out (by kernel_rfl)) ?_
        try go_wp2
        go_ret
        exact ⟨by first | rfl | (simp [errW_none, errW_some] <;> rfl) | (simp [*, errW_none, errW_some] <;> rfl), Cmp.g HB.out⟩
      ·rw [if_neg c9] at H; exact absurd H (by simp)
     ·rw [if_neg c8] at H; exact absurd H (by simp)
    ·rw [if_neg c7] at H
     have c7b0 : decide (D0 < (l0_0.length : Int)) = false := decide_eq_false c7
     clear c7
     obtain rfl := Option.some.inj H
     go_wp2
     go_ret
     exact ⟨by first | rfl | (simp [errW_none, errW_some] <;> rfl) | (simp [*, errW_none, errW_some] <;> rfl), Cmp.g HB.out⟩
end Go.Proofs.Ytpgjecknkmmnhaa.PFnSealedBundles

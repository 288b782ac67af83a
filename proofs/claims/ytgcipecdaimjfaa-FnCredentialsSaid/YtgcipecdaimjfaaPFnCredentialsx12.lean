/- Printed functions of the program (by a changed copy of the printer). No condition. -/
import Derived.Test.YtgcipecdaimjfaaCmp
import Derived.Test.YtgcipecdaimjfaaPFnCredentialsx0
import Derived.Test.YtgcipecdaimjfaaPFnCredentialsx10
import Derived.Test.YtgcipecdaimjfaaPFnCredentialsx11
namespace Go.Proofs.Ytgcipecdaimjfaa.PFnCredentials
open Go.Proofs.Ytgcipecdaimjfaa
open Go.RowKit Go.Proofs.YtgcipecdaimjfaaW.PrintWords Go.Proofs.YtgcipecdaimjfaaW.PrintLast Go.Proofs.YtgcipecdaimjfaaW.PrintMore
attribute [local go_sem] max2_int min2_int max_two min_two max_three min_three max_four min_four   -- for this text's walks alone
set_option linter.unusedVariables false
set_option linter.unusedSimpArgs false

/-! ### impl_AddCredential: function 11 -/
mutual
def impl_AddCredential.j1 : Nat → Int → Int → Int → Int → Int → List (S35) → Option (Int × Int × (List (S35)) × Bool)
  | 0, _, _, _, _, _, _ => none
  | k + 1, x1, x2, x8, x432000, x432001, x432002 => (impl_copyAccount.f x432000 x432001 x432002).bind fun bt440 => ((some (([] : List (S35)) : List (S35))).bind fun y446 => (if 0 ≤ x8 then (if x8 ≤ (x432002.length : Int) then ((some (x432002.take (x8 : Int).toNat : List (S35))).bind fun y449 => (if y446.length + y449.length < 4398046511104 then ((some (y446 ++ y449 : List (S35))).bind fun y453 => ((some (([(⟨x1, x2, 0, false⟩ : S35)] : List (S35)) : List (S35))).bind fun y456 => (if y453.length + y456.length < 4398046511104 then ((some (y453 ++ y456 : List (S35))).bind fun y459 => ((some (x432002.drop (x8 : Int).toNat : List (S35))).bind fun y462 => (if y459.length + y462.length < 4398046511104 then ((some (y459 ++ y462 : List (S35))).bind fun y466 => ((impl_IsValidAccount.f k bt440.1 bt440.2.1 y466).bind fun t469 => (if t469 = true then (some (bt440.1, bt440.2.1, y466, true)) else ((impl_copyAccount.f x432000 x432001 x432002).bind fun bt470 => (some (bt470.1, bt470.2.1, bt470.2.2, false)))))) else (none)))) else (none)))) else (none))) else (none)) else (none)))
def impl_AddCredential.l0 : Nat → Int → Int → Int → Int → Int → List (S35) → Option (Int × Int × (List (S35)) × Bool)
  | 0, _, _, _, _, _, _ => none
  | k + 1, x1, x2, x8, x432000, x432001, x432002 => if x8 < (x432002.length : Int) then (if 0 ≤ x8 then (if ((rd_T35 x432002 x8).f0) < x1 then (impl_AddCredential.l0 k x1 x2 (wrap64 (x8 + 1)) x432000 x432001 x432002) else (impl_AddCredential.j1 k x1 x2 x8 x432000 x432001 x432002)) else (none)) else (impl_AddCredential.j1 k x1 x2 x8 x432000 x432001 x432002)
end
def impl_AddCredential.f (k : Nat) (a0_0 : Int) (a0_1 : Int) (l0_2 : List (S35)) (a1 : Int) (a2 : Int) : Option (Int × Int × (List (S35)) × Bool) := (impl_IsValidAccount.f k a0_0 a0_1 l0_2).bind fun t433 => (if t433 = true then (impl_AddCredential.l0 k a1 a2 0 a0_0 a0_1 l0_2) else ((impl_copyAccount.f a0_0 a0_1 l0_2).bind fun bt434 => (some (bt434.1, bt434.2.1, bt434.2.2, false))))
theorem impl_AddCredential.mono_l : ∀ k, (∀ y0 y1 y2 y3 y4 y5, LeO (impl_AddCredential.j1 k y0 y1 y2 y3 y4 y5) (impl_AddCredential.j1 (k + 1) y0 y1 y2 y3 y4 y5)) ∧ (∀ y0 y1 y2 y3 y4 y5, LeO (impl_AddCredential.l0 k y0 y1 y2 y3 y4 y5) (impl_AddCredential.l0 (k + 1) y0 y1 y2 y3 y4 y5))
  | 0 => ⟨fun _ _ _ _ _ _ r h => by simp [impl_AddCredential.j1] at h, fun _ _ _ _ _ _ r h => by simp [impl_AddCredential.l0] at h⟩
  | k + 1 => by
    obtain ⟨ih0, ih1⟩ := impl_AddCredential.mono_l k
    refine ⟨?_, ?_⟩
    · intro y0 y1 y2 y3 y4 y5
      unfold impl_AddCredential.j1
      repeat' first
      | (with_reducible exact ih0 _ _ _ _ _ _)
      | (with_reducible exact ih1 _ _ _ _ _ _)
      | (with_reducible exact impl_IsValidAccount.mono _ _ _ _)
      | (with_reducible exact LeO.refl _)
      | (with_reducible exact LeO.none _)
      | (with_reducible refine LeO.ite ?_ ?_)
      | (with_reducible refine LeO.bind ?_ (fun _ => ?_))
      | exact ih0 _ _ _ _ _ _
      | exact ih1 _ _ _ _ _ _
      | exact impl_IsValidAccount.mono _ _ _ _
      | exact LeO.none _
      | refine LeO.ite ?_ ?_
      | refine LeO.bind ?_ (fun _ => ?_)
    · intro y0 y1 y2 y3 y4 y5
      unfold impl_AddCredential.l0
      repeat' first
      | (with_reducible exact ih0 _ _ _ _ _ _)
      | (with_reducible exact ih1 _ _ _ _ _ _)
      | (with_reducible exact impl_IsValidAccount.mono _ _ _ _)
      | (with_reducible exact LeO.refl _)
      | (with_reducible exact LeO.none _)
      | (with_reducible refine LeO.ite ?_ ?_)
      | (with_reducible refine LeO.bind ?_ (fun _ => ?_))
      | exact ih0 _ _ _ _ _ _
      | exact ih1 _ _ _ _ _ _
      | exact impl_IsValidAccount.mono _ _ _ _
      | exact LeO.none _
      | refine LeO.ite ?_ ?_
      | refine LeO.bind ?_ (fun _ => ?_)
theorem impl_AddCredential.mono : ∀ a0 a1 a2 a3 a4 k, LeO (impl_AddCredential.f k a0 a1 a2 a3 a4) (impl_AddCredential.f (k + 1) a0 a1 a2 a3 a4) := by
  intro a0 a1 a2 a3 a4 k
  obtain ⟨ih0, ih1⟩ := impl_AddCredential.mono_l k
  unfold impl_AddCredential.f
  repeat' first
      | (with_reducible exact ih0 _ _ _ _ _ _)
      | (with_reducible exact ih1 _ _ _ _ _ _)
      | (with_reducible exact impl_IsValidAccount.mono _ _ _ _)
      | (with_reducible exact LeO.refl _)
      | (with_reducible exact LeO.none _)
      | (with_reducible refine LeO.ite ?_ ?_)
      | (with_reducible refine LeO.bind ?_ (fun _ => ?_))
      | exact ih0 _ _ _ _ _ _
      | exact ih1 _ _ _ _ _ _
      | exact impl_IsValidAccount.mono _ _ _ _
      | exact LeO.none _
      | refine LeO.ite ?_ ?_
      | refine LeO.bind ?_ (fun _ => ?_)
def impl_AddCredential.T7 : Bool × List (List Nat × List Nat) := (true, [([], []), ([], []), ([1], [1]), ([], []), ([2, 3], [2, 3]), ([0, 4], [0, 4]), ([], []), ([], []), ([6, 7], [6, 7]), ([8], [8]), ([5, 9, 5], [5, 9]), ([], []), ([11], [11]), ([], []), ([12, 13], [12, 13]), ([10, 14, 10], [10, 14]), ([0, 1, 2, 3, 4, 5, 6, 7, 8, 9, 10, 11, 12, 13, 14, 15], []), ([16, 15, 15, 0, 1, 2, 3, 4, 5, 6, 7, 8, 9, 10, 11, 12, 13, 14, 15], [15, 16])])
def impl_AddCredential.B7 : List Nat := [0, 0, 2, 0, 14, 31, 0, 0, 192, 448, 1023, 0, 2048, 0, 14336, 32767, 65535, 131071]
theorem impl_AddCredential.tab7 : rtab .any (opsOf Try.f11 7) = impl_AddCredential.T7 := by kernel_rfl
theorem impl_AddCredential.bits7 : waitsOk impl_AddCredential.T7.2 impl_AddCredential.B7 = true := by kernel_rfl
set_option maxHeartbeats 8000000 in
set_option maxRecDepth 100000 in
theorem impl_AddCredential.calls (k : Nat) (a0_0 : Int) (a0_1 : Int) (A0_2 : Option Addr) (c0_2 : Nat) (l0_2 : List (S35)) (a1 : Int) (a2 : Int) (r1 : Int) (r2 : Int) (r3 : List (S35)) (r4 : Bool) (w : World) (hr0_2 : Kd.C k35 w A0_2 l0_2.length l0_2) (hc0_2 : l0_2.length ≤ c0_2) (h : impl_AddCredential.f k a0_0 a0_1 l0_2 a1 a2 = some (r1, r2, r3, r4)) :
    Calls Try.prog 11 #[.agg #[.int .i64 a0_0, .int .i64 a0_1, .slice A0_2 l0_2.length c0_2], .int .i64 a1, .int .i64 a2] w fun e w' => ∃ v2_ : Value, e = .returned (.tuple #[.agg #[.int .i64 r1, .int .i64 r2, v2_], .bool r4]) ∧ Kd.R k35 35 w' w.heap.size (fun _ => True) v2_ r3 ∧ Below w.heap.size w w' := by
 have hu26 := Try.underlying26; have hu35 := Try.underlying35; have Du := Aside0.mk hr0_2; have HC0_2 := Aside0.mk hc0_2; clear hr0_2 hc0_2
 have HB := Aside0.mk (Below.refl w.heap.size w)
 have H : ((impl_IsValidAccount.f k a0_0 a0_1 l0_2).bind fun Fs => (if Fs = true then (impl_AddCredential.l0 k a1 a2 0 a0_0 a0_1 l0_2) else ((impl_copyAccount.f a0_0 a0_1 l0_2).bind fun bt434 => (some (bt434.1, bt434.2.1, bt434.2.2, false))))) = some (r1, r2, r3, r4) := h
 clear h; replace H := Option.bind_eq_some_iff.mp H; obtain ⟨Fs, L1, H⟩ := H; (try dsimp only at H); have A4 := Aside0.mk L1; clear L1
 by_cases c5 : Fs = true
 ·subst c5; rw [if_pos rfl] at H; have HC6 := Aside0.mk H; clear H
  go_enter Try.func11, Try.ntmps11
  go_upto_block 0 with (first | ((with_reducible refine gate_dst (N := 3) rfl ?_); refine box_event ?hg (N := 3) ?hd (cs := #[.int .i64 a0_0, .int .i64 a0_1, .slice A0_2 l0_2.length c0_2]) (t := 26) ?hr ?_; (case hd => rfl); (case hg => rfl); (case hr => first | (go_simp; done) | (go_simp; rfl)); intro D6 hg w7 hbox hb; have D0 := Aside0.mk (hbox); have G8 := Cmp.gw hg HB; have G5 := Cmp.gw hg HB; replace HB := Cmp.bs HB hb; clear hb hbox hg) | ((with_reducible refine gate_dst (N := 6) rfl ?_); refine box_event ?hg (N := 6) ?hd (cs := #[.int .i64 0, .int .i64 0, .slice none 0 0]) (t := 26) ?hr ?_; (case hd => rfl); (case hg => rfl); (case hr => first | (go_simp; done) | (go_simp; rfl)); intro Df hg w8 hbox hb; have D1 := Aside0.mk (hbox); have G9 := Cmp.gw hg HB; have G6 := Cmp.gw hg HB; have Dh := Cmp.nl hg D0; have Di := Cmp.ng hg D0; replace D0 := Cmp.be D0 hb; replace HB := Cmp.bs HB hb; clear hb hbox hg; have Lq := Dh.out; have Lr := Di.out; have Ek := Cmp.c0 D0; have El := Cmp.c1 D0; have Em := Cmp.c2 D0; have En := blk_frozen D0.out 0; have Eo := blk_frozen D0.out 1; have Ep := blk_frozen D0.out 2) | ((with_reducible refine gate_callee (f := 16) rfl ?_); refine goesL_ (some 11) rfl rfl Try.func16 (by kernel_rfl) rfl #[.agg #[.int .i64 a0_0, .int .i64 a0_1, .slice A0_2 l0_2.length c0_2]] rfl Cmp.q ?_; (with_reducible refine (impl_IsValidAccount.calls k a0_0 a0_1 _ _ l0_2 true _ ?side1 ?side2 A4.out).mono ?_); (case side1 => exact Cmp.rc (Kd.C_below Du.out HB.out)); (case side2 => exact HC0_2.out); rintro e w11 ⟨rfl, hb⟩; refine ⟨_, rfl, ?_⟩; replace D0 := Cmp.be D0 hb; replace D1 := Cmp.be D1 hb; replace HB := Cmp.bs HB hb; (try clear hb); (try clear hb2); (try clear hk); (try clear hi)))
  (try simp only [Act.put, List.setIfInBounds_toArray, List.set_cons_zero, List.set_cons_succ])
  go_cut [8] (fun v8 wc => ∃ (kq : Nat) (Da : Int), v8 = .int .i64 Da ∧ Aside0 (impl_AddCredential.j1 kq a1 a2 Da a0_0 a0_1 l0_2 = some (r1, r2, r3, r4)) ∧ Aside0 (kq ≤ k) ∧ Aside0 (wc.heap[D6]? = some (.cells #[.int .i64 a0_0, .int .i64 a0_1, (.slice A0_2 l0_2.length c0_2)] 26 (0, 0))) ∧ Aside0 (wc.heap[Df]? = some (.cells #[.int .i64 0, .int .i64 0, (.slice none 0 0)] 26 (0, 0))) ∧ Aside0 (Below w.heap.size w wc))
  case first =>
   have H := HC6.out; clear HC6
   have H' := Aside0.mk H
   clear H
   go_wp2
   go_loopg [8] k (fun kq v8 w' => ∃ (Ds : Int), v8 = .int .i64 Ds ∧ Aside0 (impl_AddCredential.l0 kq a1 a2 Ds a0_0 a0_1 l0_2 = some (r1, r2, r3, r4)) ∧ Aside0 (kq ≤ k) ∧ Aside0 (w'.heap[D6]? = some (.cells #[.int .i64 a0_0, .int .i64 a0_1, (.slice A0_2 l0_2.length c0_2)] 26 (0, 0))) ∧ Aside0 (w'.heap[Df]? = some (.cells #[.int .i64 0, .int .i64 0, (.slice none 0 0)] 26 (0, 0))) ∧ Aside0 (Below w.heap.size w w'))
   case atStart => exact ⟨(0), (by first | rfl | simp | simp [*]), H', ⟨Nat.le_refl _⟩, Cmp.bq D0, Cmp.bq D1, ⟨Cmp.g HB.out⟩⟩
   case round =>
    clear H'
    (try clear c1); (try clear p2); (try clear c5); (try clear c9); (try clear c11); (try clear Ek); (try clear El); (try clear Em); (try clear En); (try clear Eo); (try clear Ep)
    obtain ⟨Ds, rfl, HA, HK1, D0, D1, HB⟩ := hrel
    cases gk with
    | zero => exact absurd HA.out (by simp [impl_AddCredential.l0])
    | succ k1 =>
     have H := HA.out; clear HA
     simp only [impl_AddCredential.l0] at H
     by_cases c12 : Ds < (l0_2.length : Int)
     ·rw [if_pos c12] at H
      have c12b0 : decide (Ds < (l0_2.length : Int)) = true := decide_eq_true c12
      clear c12
      (first | rw [c12b0] | (simp only [i64_w, i32_w]; rw [c12b0]) | skip)
      by_cases c13 : 0 ≤ Ds
      ·rw [if_pos c13] at H; have c13b0 : decide (0 ≤ Ds) = true := decide_eq_true c13; clear c13
       by_cases c14 : ((rd_T35 l0_2 Ds).f0) < a1
       ·rw [if_pos c14] at H; have c14b0 : decide (((rd_T35 l0_2 Ds).f0) < a1) = true := decide_eq_true c14; clear c14
        have H' := Aside0.mk H
        clear H; have L2 := Dh.out; have Lc := Di.out
        have Ey : wr.cell? ⟨D6, 0, none⟩ = some (.int .i64 a0_0) := (blk_cell D0.out 0).trans rfl
        have Ez : wr.cell? ⟨D6, 1, none⟩ = some (.int .i64 a0_1) := (blk_cell D0.out 1).trans rfl
        have F0 : wr.cell? ⟨D6, 2, none⟩ = some (.slice A0_2 l0_2.length c0_2) := (blk_cell D0.out 2).trans rfl
        have F7 := blk_frozen D0.out 0; have F8 := blk_frozen D0.out 1; have F9 := blk_frozen D0.out 2
        have p439 : 0 ≤ (Ds : Int) := of_decide_eq_true Cmp.d
        have q439 : Ds < (l0_2.length : Int) := of_decide_eq_true Cmp.d
        obtain ⟨Gd, e439, Dz, E0, E1, E2⟩ := at_T35 Du.out Ds p439 q439
        cases e439
        replace Dz := Cmp.hc HB Dz
        replace E0 := Cmp.hc HB E0
        replace E1 := Cmp.hc HB E1
        replace E2 := Cmp.hc HB E2
        replace p439 := eq_true p439; replace q439 := eq_true q439
        go_wp2
        go_roundg k1
        case measure => have := HK1.out; omega
        case rel => exact ⟨(wrap64 (Ds + 1)), (by first | rfl | simp | simp [*]), H', ⟨by have := HK1.out; omega⟩, Cmp.bq D0, Cmp.bq D1, ⟨Cmp.g HB.out⟩⟩
       ·rw [if_neg c14] at H; have c14b0 : decide (((rd_T35 l0_2 Ds).f0) < a1) = false := decide_eq_false c14; clear c14
        have H' := Aside0.mk H
        clear H; have L3 := Dh.out; have Ld := Di.out
        have F1 : wr.cell? ⟨D6, 0, none⟩ = some (.int .i64 a0_0) := (blk_cell D0.out 0).trans rfl
        have F2 : wr.cell? ⟨D6, 1, none⟩ = some (.int .i64 a0_1) := (blk_cell D0.out 1).trans rfl
        have F3 : wr.cell? ⟨D6, 2, none⟩ = some (.slice A0_2 l0_2.length c0_2) := (blk_cell D0.out 2).trans rfl
        have Fa := blk_frozen D0.out 0; have Fb := blk_frozen D0.out 1; have Fc := blk_frozen D0.out 2
        have p439 : 0 ≤ (Ds : Int) := of_decide_eq_true Cmp.d
        have q439 : Ds < (l0_2.length : Int) := of_decide_eq_true Cmp.d
        obtain ⟨Gd, e439, Dz, E0, E1, E2⟩ := at_T35 Du.out Ds p439 q439
        cases e439
        replace Dz := Cmp.hc HB Dz
        replace E0 := Cmp.hc HB E0
        replace E1 := Cmp.hc HB E1
        replace E2 := Cmp.hc HB E2
        replace p439 := eq_true p439; replace q439 := eq_true q439
        go_wp2
        go_meet
        case rel => exact ⟨_, (Ds), (by first | rfl | simp | simp [*]), H', ⟨by have := HK1.out; first | omega | exact Nat.le_refl _⟩, Cmp.bq D0, Cmp.bq D1, ⟨Cmp.g HB.out⟩⟩
      ·rw [if_neg c13] at H; exact absurd H (by simp)
     ·rw [if_neg c12] at H
      have c12b0 : decide (Ds < (l0_2.length : Int)) = false := decide_eq_false c12
      clear c12
      (first | rw [c12b0] | (simp only [i64_w, i32_w]; rw [c12b0]) | skip)
      have H' := Aside0.mk H
      clear H; have L4 := Dh.out; have Le := Di.out
      have F4 : wr.cell? ⟨D6, 0, none⟩ = some (.int .i64 a0_0) := (blk_cell D0.out 0).trans rfl
      have F5 : wr.cell? ⟨D6, 1, none⟩ = some (.int .i64 a0_1) := (blk_cell D0.out 1).trans rfl
      have F6 : wr.cell? ⟨D6, 2, none⟩ = some (.slice A0_2 l0_2.length c0_2) := (blk_cell D0.out 2).trans rfl
      have Fd := blk_frozen D0.out 0; have Fe := blk_frozen D0.out 1; have Ff := blk_frozen D0.out 2
      go_wp2
      go_meet
      case rel => exact ⟨_, (Ds), (by first | rfl | simp | simp [*]), H', ⟨by have := HK1.out; first | omega | exact Nat.le_refl _⟩, Cmp.bq D0, Cmp.bq D1, ⟨Cmp.g HB.out⟩⟩
  case rest =>
   clear HC6; (try clear c1); (try clear p2); (try clear p4); (try clear q4); (try clear hx4); (try clear c5); (try clear p6); (try clear c9); (try clear c11); (try clear c12); (try clear c12b0); (try clear c13); (try clear c13b0); (try clear c14); (try clear c14b0); (try clear c15); (try clear c16); (try clear c17); (try clear c19); (try clear Ek); (try clear El); (try clear Em); (try clear Ey); (try clear Ez); (try clear F0); (try clear F1); (try clear F2); (try clear F3); (try clear F4); (try clear F5); (try clear F6); (try clear En); (try clear Eo); (try clear Ep); (try clear F7); (try clear F8); (try clear F9); (try clear Fa); (try clear Fb); (try clear Fc); (try clear Fd); (try clear Fe); (try clear Ff); (try clear Dz); (try clear E0); (try clear E1); (try clear E2); (try clear p2); (try clear p439); (try clear q439)
   obtain ⟨kq, Da, rfl, HA, HJ5, D0, D1, HB⟩ := hcut
   cases kq with
   | zero => exact absurd HA.out (by simp [impl_AddCredential.j1])
   | succ kj5 =>
    have H := HA.out; clear HA
    simp only [impl_AddCredential.j1] at H
    replace H := Option.bind_eq_some_iff.mp H; obtain ⟨⟨Db, Dc, D7⟩, Fz, H⟩ := H; (try dsimp only at H); have Kz := Aside0.mk Fz; clear Fz
    obtain ⟨E9, hy446⟩ : ∃ y_ : List (S35), y_ = (([] : List (S35))) := ⟨_, rfl⟩
    replace H : (if 0 ≤ Da then (if Da ≤ (l0_2.length : Int) then ((some (l0_2.take (Da : Int).toNat : List (S35))).bind fun Dy => (if E9.length + Dy.length < 4398046511104 then ((some (E9 ++ Dy : List (S35))).bind fun Dw => ((some (([(⟨a1, a2, 0, false⟩ : S35)] : List (S35)) : List (S35))).bind fun Dj => (if Dw.length + Dj.length < 4398046511104 then ((some (Dw ++ Dj : List (S35))).bind fun Dt => ((some (l0_2.drop (Da : Int).toNat : List (S35))).bind fun Dg => (if Dt.length + Dg.length < 4398046511104 then ((some (Dt ++ Dg : List (S35))).bind fun De => ((impl_IsValidAccount.f kj5 Db Dc De).bind fun E5 => (if E5 = true then (some (Db, Dc, De, true)) else ((impl_copyAccount.f a0_0 a0_1 l0_2).bind fun bt470 => (some (bt470.1, bt470.2.1, bt470.2.2, false)))))) else (none)))) else (none)))) else (none))) else (none)) else (none)) = some (r1, r2, r3, r4) := by first | (rw [hy446]; with_reducible exact H) | (have H2_ := (Option.bind_some _ _).symm.trans H; rw [hy446]; with_reducible exact H2_) | (have H2_ := (Option.bind_some _ _).symm.trans H; with_reducible exact H2_) | with_reducible exact H | (rw [hy446]; exact H) | exact H
    have E8 := Aside0.mk hy446; clear hy446
    by_cases c22 : 0 ≤ Da
    ·rw [if_pos c22] at H
     have c22b0 := eq_true c22
     have c22b1 : decide (0 ≤ Da) = true := decide_eq_true c22; clear c22
     by_cases c23 : Da ≤ (l0_2.length : Int)
     ·rw [if_pos c23] at H
      have c23b0 := eq_true c23
      have c23b1 : decide (Da ≤ (l0_2.length : Int)) = true := decide_eq_true c23
      clear c23
      obtain ⟨Dy, hy449⟩ : ∃ y_ : List (S35), y_ = (l0_2.take (Da : Int).toNat) := ⟨_, rfl⟩
      replace H : (if E9.length + Dy.length < 4398046511104 then ((some (E9 ++ Dy : List (S35))).bind fun Dw => ((some (([(⟨a1, a2, 0, false⟩ : S35)] : List (S35)) : List (S35))).bind fun Dj => (if Dw.length + Dj.length < 4398046511104 then ((some (Dw ++ Dj : List (S35))).bind fun Dt => ((some (l0_2.drop (Da : Int).toNat : List (S35))).bind fun Dg => (if Dt.length + Dg.length < 4398046511104 then ((some (Dt ++ Dg : List (S35))).bind fun De => ((impl_IsValidAccount.f kj5 Db Dc De).bind fun E5 => (if E5 = true then (some (Db, Dc, De, true)) else ((impl_copyAccount.f a0_0 a0_1 l0_2).bind fun bt470 => (some (bt470.1, bt470.2.1, bt470.2.2, false)))))) else (none)))) else (none)))) else (none)) = some (r1, r2, r3, r4) := by first | (rw [hy449]; with_reducible exact H) | (have H2_ := (Option.bind_some _ _).symm.trans H; rw [hy449]; with_reducible exact H2_) | (have H2_ := (Option.bind_some _ _).symm.trans H; with_reducible exact H2_) | with_reducible exact H | (rw [hy449]; exact H) | exact H
      have Ei := Aside0.mk hy449; clear hy449
      by_cases c24 : E9.length + Dy.length < 4398046511104
      ·rw [if_pos c24] at H; have LMc24 := Aside0.mk c24; clear c24
       obtain ⟨Dw, hy453⟩ : ∃ y_ : List (S35), y_ = (E9 ++ Dy) := ⟨_, rfl⟩
       replace H : ((some (([(⟨a1, a2, 0, false⟩ : S35)] : List (S35)) : List (S35))).bind fun Dj => (if Dw.length + Dj.length < 4398046511104 then ((some (Dw ++ Dj : List (S35))).bind fun Dt => ((some (l0_2.drop (Da : Int).toNat : List (S35))).bind fun Dg => (if Dt.length + Dg.length < 4398046511104 then ((some (Dt ++ Dg : List (S35))).bind fun De => ((impl_IsValidAccount.f kj5 Db Dc De).bind fun E5 => (if E5 = true then (some (Db, Dc, De, true)) else ((impl_copyAccount.f a0_0 a0_1 l0_2).bind fun bt470 => (some (bt470.1, bt470.2.1, bt470.2.2, false)))))) else (none)))) else (none))) = some (r1, r2, r3, r4) := by first | (rw [hy453]; with_reducible exact H) | (have H2_ := (Option.bind_some _ _).symm.trans H; rw [hy453]; with_reducible exact H2_) | (have H2_ := (Option.bind_some _ _).symm.trans H; with_reducible exact H2_) | with_reducible exact H | (rw [hy453]; exact H) | exact H
       have Ea := Aside0.mk hy453; clear hy453
       obtain ⟨Dj, hy456⟩ : ∃ y_ : List (S35), y_ = (([(⟨a1, a2, 0, false⟩ : S35)] : List (S35))) := ⟨_, rfl⟩
       replace H : (if Dw.length + Dj.length < 4398046511104 then ((some (Dw ++ Dj : List (S35))).bind fun Dt => ((some (l0_2.drop (Da : Int).toNat : List (S35))).bind fun Dg => (if Dt.length + Dg.length < 4398046511104 then ((some (Dt ++ Dg : List (S35))).bind fun De => ((impl_IsValidAccount.f kj5 Db Dc De).bind fun E5 => (if E5 = true then (some (Db, Dc, De, true)) else ((impl_copyAccount.f a0_0 a0_1 l0_2).bind fun bt470 => (some (bt470.1, bt470.2.1, bt470.2.2, false)))))) else (none)))) else (none)) = some (r1, r2, r3, r4) := by first | (rw [hy456]; with_reducible exact H) | (have H2_ := (Option.bind_some _ _).symm.trans H; rw [hy456]; with_reducible exact H2_) | (have H2_ := (Option.bind_some _ _).symm.trans H; with_reducible exact H2_) | with_reducible exact H | (rw [hy456]; exact H) | exact H
       have Dv := Aside0.mk hy456; clear hy456
       by_cases c25 : Dw.length + Dj.length < 4398046511104
       ·rw [if_pos c25] at H; have LMc25 := Aside0.mk c25; clear c25
        obtain ⟨Dt, hy459⟩ : ∃ y_ : List (S35), y_ = (Dw ++ Dj) := ⟨_, rfl⟩
        replace H : ((some (l0_2.drop (Da : Int).toNat : List (S35))).bind fun Dg => (if Dt.length + Dg.length < 4398046511104 then ((some (Dt ++ Dg : List (S35))).bind fun De => ((impl_IsValidAccount.f kj5 Db Dc De).bind fun E5 => (if E5 = true then (some (Db, Dc, De, true)) else ((impl_copyAccount.f a0_0 a0_1 l0_2).bind fun bt470 => (some (bt470.1, bt470.2.1, bt470.2.2, false)))))) else (none))) = some (r1, r2, r3, r4) := by first | (rw [hy459]; with_reducible exact H) | (have H2_ := (Option.bind_some _ _).symm.trans H; rw [hy459]; with_reducible exact H2_) | (have H2_ := (Option.bind_some _ _).symm.trans H; with_reducible exact H2_) | with_reducible exact H | (rw [hy459]; exact H) | exact H
        have Fi := Aside0.mk hy459; clear hy459
        have c26b0 := eq_true (of_decide_eq_true Cmp.d : 0 ≤ Da)
        have c27b0 := eq_true (of_decide_eq_true Cmp.d : Da ≤ (l0_2.length : Int))
        obtain ⟨Dg, hy462⟩ : ∃ y_ : List (S35), y_ = (l0_2.drop (Da : Int).toNat) := ⟨_, rfl⟩
        replace H : (if Dt.length + Dg.length < 4398046511104 then ((some (Dt ++ Dg : List (S35))).bind fun De => ((impl_IsValidAccount.f kj5 Db Dc De).bind fun E5 => (if E5 = true then (some (Db, Dc, De, true)) else ((impl_copyAccount.f a0_0 a0_1 l0_2).bind fun bt470 => (some (bt470.1, bt470.2.1, bt470.2.2, false)))))) else (none)) = some (r1, r2, r3, r4) := by first | (rw [hy462]; with_reducible exact H) | (have H2_ := (Option.bind_some _ _).symm.trans H; rw [hy462]; with_reducible exact H2_) | (have H2_ := (Option.bind_some _ _).symm.trans H; with_reducible exact H2_) | with_reducible exact H | (rw [hy462]; exact H) | exact H
        have Ej := Aside0.mk hy462; clear hy462
        by_cases c28 : Dt.length + Dg.length < 4398046511104
        ·rw [if_pos c28] at H; have LMc28 := Aside0.mk c28; clear c28
         obtain ⟨De, hy466⟩ : ∃ y_ : List (S35), y_ = (Dt ++ Dg) := ⟨_, rfl⟩
         replace H : ((impl_IsValidAccount.f kj5 Db Dc De).bind fun E5 => (if E5 = true then (some (Db, Dc, De, true)) else ((impl_copyAccount.f a0_0 a0_1 l0_2).bind fun bt470 => (some (bt470.1, bt470.2.1, bt470.2.2, false))))) = some (r1, r2, r3, r4) := by first | (rw [hy466]; with_reducible exact H) | (have H2_ := (Option.bind_some _ _).symm.trans H; rw [hy466]; with_reducible exact H2_) | (have H2_ := (Option.bind_some _ _).symm.trans H; with_reducible exact H2_) | with_reducible exact H | (rw [hy466]; exact H) | exact H
         have Fj := Aside0.mk hy466; clear hy466; replace H := Option.bind_eq_some_iff.mp H; obtain ⟨E5, G0, H⟩ := H; (try dsimp only at H); have L0 := Aside0.mk G0; clear G0
         by_cases c30 : E5 = true
         ·subst c30; rw [if_pos rfl] at H
          simp only [Option.some.injEq, Prod.mk.injEq] at H
          obtain ⟨rfl, rfl, rfl, rfl⟩ := H; have L5 := Dh.out; have Lf := Di.out
          have Go : wc.cell? ⟨D6, 0, none⟩ = some (.int .i64 a0_0) := (blk_cell D0.out 0).trans rfl
          have Gp : wc.cell? ⟨D6, 1, none⟩ = some (.int .i64 a0_1) := (blk_cell D0.out 1).trans rfl
          have Gq : wc.cell? ⟨D6, 2, none⟩ = some (.slice A0_2 l0_2.length c0_2) := (blk_cell D0.out 2).trans rfl
          have Jr := blk_frozen D0.out 0; have Js := blk_frozen D0.out 1; have Jt := blk_frozen D0.out 2
          try go_wp2_with (first | ((with_reducible refine gate_callee (f := 56) rfl ?_); refine goesL_ (some 33) rfl rfl Try.func56 (by kernel_rfl) rfl #[.agg #[.int .i64 a0_0, .int .i64 a0_1, .slice A0_2 l0_2.length c0_2]] rfl Cmp.q ?_; (with_reducible refine (impl_copyAccount.calls a0_0 a0_1 _ _ l0_2 Db Dc D7 _ ?side1 ?side2 Kz.out).mono ?_); (case side1 => exact Cmp.rc (Kd.C_below Du.out HB.out)); (case side2 => exact HC0_2.out); rintro e w33 ⟨v443, rfl, Eq, hb⟩; refine ⟨_, rfl, ?_⟩; have D3 := Aside0.mk (Kd.R_lower Eq (below_size (Cmp.g HB.out))); replace D0 := Cmp.be D0 hb; replace D1 := Cmp.be D1 hb; replace HB := Cmp.bs HB hb; (try clear hb); (try clear hb2); (try clear hk); (try clear hi); (try clear Eq)) | ((with_reducible refine gate_dst (N := 9) rfl ?_); refine box_event ?hg (N := 9) ?hd (cs := #[.int .i64 0, .int .i64 0, .slice none 0 0]) (t := 26) ?hr ?_; (case hd => rfl); (case hg => rfl); (case hr => first | (go_simp; done) | (go_simp; rfl)); intro D4 hg w34 hbox hb; have D2 := Aside0.mk (hbox); have Ga := Cmp.gw hg HB; have G7 := Cmp.gw hg HB; have Dd := Cmp.nl hg D0; have Dq := Cmp.ng hg D0; have Dp := Cmp.nl hg D1; have Dr := Cmp.ng hg D1; replace D3 := Aside0.mk (Kd.R_below (Cmp.rr D3.out) hb); replace D0 := Cmp.be D0 hb; replace D1 := Cmp.be D1 hb; replace HB := Cmp.bs HB hb; clear hb hbox hg; have L6 := Dq.out; have Lg := Dd.out; have L7 := Dr.out; have Lh := Dp.out; have Gr := Cmp.c0 D2; have Gs := Cmp.c1 D2; have Gt := Cmp.c2 D2; have Ju := blk_frozen D2.out 0; have Jv := blk_frozen D2.out 1; have Jw := blk_frozen D2.out 2; obtain ⟨Dk, Dm, Kv⟩ := Kd.R_slice D3.out; subst Kv))
          have n0_ : Aside0 (Kd.R k35 35 (((w34.setCell ⟨D4, 0, none⟩ (.int .i64 Db)).setCell ⟨D4, 1, none⟩ (.int .i64 Dc)).setCell ⟨D4, 2, none⟩ (.slice Dk D7.length Dm)) w.heap.size (fun _ => True) (.slice Dk D7.length Dm) D7) := ⟨by (with_reducible repeat (first | apply Kd.R_alloc | apply Kd.R_drewN | apply Kd.R_drew)); exact Kd.R_mono (Kd.R_far (p := ⟨D4, 2, none⟩) (Kd.R_far (p := ⟨D4, 1, none⟩) (Kd.R_far (p := ⟨D4, 0, none⟩) (Kd.R_types D3.out D2.out (by decide)) (fun _ hk => hk.2) (.int .i64 Db)) (fun _ hk => hk.2) (.int .i64 Dc)) (fun _ hk => hk.2) (.slice Dk D7.length Dm)) (fun _ hk => trivial)⟩
          have n1_ : Aside0 ((((w34.setCell ⟨D4, 0, none⟩ (.int .i64 Db)).setCell ⟨D4, 1, none⟩ (.int .i64 Dc)).setCell ⟨D4, 2, none⟩ (.slice Dk D7.length Dm)).heap[D6]? = some (.cells #[.int .i64 a0_0, .int .i64 a0_1, .slice A0_2 l0_2.length c0_2] 26 (0, 0))) := ⟨Cmp.bw D0.out⟩
          have n2_ : Aside0 ((((w34.setCell ⟨D4, 0, none⟩ (.int .i64 Db)).setCell ⟨D4, 1, none⟩ (.int .i64 Dc)).setCell ⟨D4, 2, none⟩ (.slice Dk D7.length Dm)).heap[Df]? = some (.cells #[.int .i64 0, .int .i64 0, .slice none 0 0] 26 (0, 0))) := ⟨Cmp.bw D1.out⟩
          have n3_ : Aside0 ((((w34.setCell ⟨D4, 0, none⟩ (.int .i64 Db)).setCell ⟨D4, 1, none⟩ (.int .i64 Dc)).setCell ⟨D4, 2, none⟩ (.slice Dk D7.length Dm)).heap[D4]? = some (.cells #[.int .i64 Db, .int .i64 Dc, .slice Dk D7.length Dm] 26 (0, 0))) := ⟨Cmp.bw D2.out⟩
          have n4_ : Aside0 (Below w.heap.size w (((w34.setCell ⟨D4, 0, none⟩ (.int .i64 Db)).setCell ⟨D4, 1, none⟩ (.int .i64 Dc)).setCell ⟨D4, 2, none⟩ (.slice Dk D7.length Dm))) := ⟨Cmp.g HB.out⟩
          (try clear D3); (try clear D0); (try clear D1); (try clear D2); (try clear HB)
          generalize (((w34.setCell ⟨D4, 0, none⟩ (.int .i64 Db)).setCell ⟨D4, 1, none⟩ (.int .i64 Dc)).setCell ⟨D4, 2, none⟩ (.slice Dk D7.length Dm)) = w39 at n0_ n1_ n2_ n3_ n4_ ⊢
          have D3 := n0_; have D0 := n1_; have D1 := n2_; have D2 := n3_; have HB := n4_; clear n0_ n1_ n2_ n3_ n4_; replace D3 := Aside0.mk (Kd.R_drew D3.out); replace D0 := Aside0.mk (blk_drew D0.out); replace D1 := Aside0.mk (blk_drew D1.out); replace D2 := Aside0.mk (blk_drew D2.out); replace HB := Aside0.mk (below_drew1 HB.out)
          have q41 : (Da : Int) ≤ ((l0_2.length : Int) : Int) := of_decide_eq_true Cmp.d
          obtain ⟨i041, Fk, _, hsz41, _⟩ := info_parts info35
          have Er : l0_2.length ≤ c0_2 := HC0_2.out
          have Gk : Kd.C k35 _ A0_2 l0_2.length l0_2 := Du.out
          have Fo := cut_to (P := Try.prog) 24 35 .i64 Try.underlying24 Fk A0_2 l0_2.length c0_2 Da (of_decide_eq_true Cmp.d) q41 Er
          have hr41 := Kd.C_take (m := (Da : Int).toNat) Gk (by omega)
          have hy41 : Dy.length = (Da : Int).toNat := (by rw [Ei.out, List.length_take]; omega)
          rw [← Ei.out] at hr41
          rw [← hy41] at Fo
          have HR452 := Aside0.mk hr41
          have Gb := Aside0.mk (show Dy.length ≤ c0_2 from by omega)
          clear hr41 Gk Er Fk hsz41; have KY41 := Aside0.mk hy41; clear hy41; replace q41 := eq_true q41
          have q42 : (Da : Int) ≤ ((l0_2.length : Int) : Int) := of_decide_eq_true Cmp.d
          obtain ⟨i042, Fl, _, hsz42, _⟩ := info_parts info35
          have Ec : l0_2.length ≤ c0_2 := HC0_2.out
          have Gl : Kd.C k35 _ A0_2 l0_2.length l0_2 := Du.out
          have q042 : (0 : Int) ≤ (Da : Int) := of_decide_eq_true Cmp.d
          have Fp := cut_from (P := Try.prog) 24 35 .i64 Try.underlying24 Fl 4 hsz42 A0_2 l0_2.length c0_2 Da q042 q42
          have hr42 := Kd.C_drop (m := (Da : Int).toNat) (c := c0_2) Gl (by omega) Ec
          obtain ⟨Lm, hA42⟩ : ∃ A1, A1 = (if c0_2 = (Da : Int).toNat then A0_2 else (A0_2 : Option Addr).map (·.add ((Da : Int).toNat * 4))) := ⟨_, rfl⟩
          obtain ⟨c42, hc42⟩ : ∃ c1, c1 = c0_2 - (Da : Int).toNat := ⟨_, rfl⟩
          have hy42 : Dg.length = l0_2.length - (Da : Int).toNat := (by rw [Ej.out, List.length_drop] <;> omega)
          rw [show (l0_2).drop (Da : Int).toNat = Dg from Ej.out.symm] at hr42
          replace hr42 : Kd.C k35 _ Lm Dg.length Dg := (by rw [hA42]; exact hr42)
          rw [← hy42, ← hA42, ← hc42] at Fp
          have HR465 := Aside0.mk hr42
          have Gc := Aside0.mk (show Dg.length ≤ c42 from by rw [hy42, hc42]; exact Nat.sub_le_sub_right Ec _)
          clear hr42 Gl Ec Fl hsz42 hc42; have KY42 := Aside0.mk hy42; have KA42 := Aside0.mk hA42; clear hy42 hA42; replace q42 := eq_true q42
          refine start_ (n := 18) (S := fun w' => w'.cell? ⟨D6, 0, none⟩ = some (.int .i64 a0_0) ∧ w'.cell? ⟨D6, 1, none⟩ = some (.int .i64 a0_1) ∧ w'.cell? ⟨D6, 2, none⟩ = some (.slice A0_2 l0_2.length c0_2)) (ds := []) (Cmp.bm 0 18) (by kernel_rfl) rfl rfl ⟨(Cmp.c0 D0 :), (Cmp.c1 D0 :), (Cmp.c2 D0 :)⟩ (fun hHeld => ?_); refine with_tabW impl_AddCredential.tab7 impl_AddCredential.bits7 (fun HT_ HW_ => ?_)
          generalize w39.drew = w40 at D3 D0 D1 D2 HB HR452 HR465 hHeld ⊢
          refine Cmp.pu HT_ 1 35 (Cmp.bb 18 2) ?_; refine Cmp.pu HT_ 3 37 (Cmp.bb 18 10) ?_; refine Cmp.pu HT_ 6 40 (Cmp.bb 18 74) ?_; refine Cmp.pu HT_ 7 41 (Cmp.bb 18 202) ?_; refine Cmp.pu HT_ 8 42 (Cmp.bb 18 458) ?_; refine Cmp.pu HT_ 11 45 (Cmp.bb 18 2506) ?_; refine Cmp.pu HT_ 13 47 (Cmp.bb 18 10698) ?_; refine Cmp.tk HT_ HW_ hHeld 2 36 (Cmp.bb 18 10702) ?_; refine Cmp.pu HT_ 4 38 (Cmp.bb 18 10718) ?_; refine Cmp.tk HT_ HW_ hHeld 12 46 (Cmp.bb 18 14814) ?_; refine Cmp.pu HT_ 14 48 (Cmp.bb 18 31198) ?_
          refine join_ (σ := Value × Value × Value) 4 (Cmp.bb 18 31743) (fun s_ => [(34, s_.1), (39, s_.2.1), (43, s_.2.2)]) (fun s_ w' => (w'.cell? ⟨D6, 0, none⟩ = some (.int .i64 a0_0) ∧ w'.cell? ⟨D6, 1, none⟩ = some (.int .i64 a0_1) ∧ w'.cell? ⟨D6, 2, none⟩ = some (.slice A0_2 l0_2.length c0_2)) ∧ (Kd.R k35 35 w' w.heap.size (fun k_ => some k_ ≠ (s_.2.1 : Value).ownBlock ∧ some k_ ≠ (s_.2.2 : Value).ownBlock) (.slice Dk D7.length Dm) D7) ∧ (Kd.R k35 35 w' w.heap.size (fun k_ => some k_ ≠ (.slice Dk D7.length Dm : Value).ownBlock ∧ some k_ ≠ (s_.2.2 : Value).ownBlock) s_.2.1 Dw) ∧ (Kd.R k35 35 w' w.heap.size (fun k_ => some k_ ≠ (.slice Dk D7.length Dm : Value).ownBlock ∧ some k_ ≠ (s_.2.1 : Value).ownBlock) s_.2.2 Dj) ∧ (w'.heap[D6]? = some (.cells #[.int .i64 a0_0, .int .i64 a0_1, .slice A0_2 l0_2.length c0_2] 26 (0, 0))) ∧ (w'.heap[Df]? = some (.cells #[.int .i64 0, .int .i64 0, .slice none 0 0] 26 (0, 0))) ∧ (w'.heap[D4]? = some (.cells #[.int .i64 Db, .int .i64 Dc, .slice Dk D7.length Dm] 26 (0, 0))) ∧ (Below w.heap.size w w')) ?_ ?_
          rotate_left
          ·intro hCont
           refine two_ (i := 0) (j := 9) (Ni := some 34) (Nj := some 43) (Cmp.bb 18 31199) (Cmp.bb 18 31710) rfl rfl rfl rfl (two_of HT_.out (by kernel_rfl)) (by decide) (by decide) (fun K hK => ?_) (fun K hK => ?_)
           ·skip
            refine Kd.R_lit_step k35 _ 35 ?hg (N := 34) ?hd (xs := ([] : List (S35))) (inner := []) (ok := fun _ => True) (okp := fun _ => True) ?hr ?hp (fun _ hk => hk) trivial (Below.refl _ _) (Nat.le_refl _) (by simp) ?_; (case hd => rfl); (case hg => rfl); (case hr => first | (go_simp; done) | (go_simp; rfl)); (case hp => exact (Reps.none _ _))
            intro v447 w43 E6 hb hg_ hnew_
            clear hg_ hnew_
            (first | rw [← E8.out] at E6 | (simp only [Int.reduceToNat] at E6; rw [← E8.out] at E6))
            have n0_ := Aside0.mk (Kd.R_elder' (Cmp.rr D3.out) (Kd.R_base E6) hb)
            have n1_ := Aside0.mk (Kd.R_lower (Kd.R_new' E6 (Kd.R_lt (Cmp.rr D3.out))) (below_size (Cmp.g HB.out)))
            have n2_ := Cmp.be D0 hb
            have n3_ := Cmp.be D1 hb
            have n4_ := Cmp.be D2 hb
            have n5_ := Aside0.mk (below_step (Cmp.g HB.out) hb)
            clear D3; clear D0; clear D1; clear D2; clear HB; have D3 := n0_; have D8 := n1_; have D0 := n2_; have D1 := n3_; have D2 := n4_; have HB := n5_; clear n0_ n1_ n2_ n3_ n4_ n5_; clear hb E6
            refine hK.out _ _ ⟨(Cmp.c0 D0 :), (Cmp.c1 D0 :), (Cmp.c2 D0 :)⟩ (fun hHeld => ?_)
            clear hK K
            refine norm_ (a' := ?_) ?_ ?_
            rotate_left
            ·show Act.put _ (some 34) _ = _
             simp only [Act.put, Cmp.s, Cmp.z, Cmp.c, i64_w, i32_w]; rfl
            refine two_ (i := 5) (j := 9) (Ni := some 39) (Nj := some 43) (Cmp.bb 18 31231) (Cmp.bb 18 31711) rfl rfl rfl rfl (two_of HT_.out (by kernel_rfl)) (by decide) (by decide) (fun K hK => ?_) (fun K hK => ?_)
            ·skip
             refine Kd.R_append_rows_step k35 (w0 := w) w.heap.size (by rfl) (.tmp 34) (.tmp 38) 24 35 (.agg #[(.int .i64 0), (.int .i64 0), (.int .i64 0), (.bool false)]) 32 rfl Try.underlying24 info35 rfl (by decide) (by omega) v447 E9 Dy _ _ _ (fun k_ => some k_ ≠ (.slice Dk D7.length Dm : Value).ownBlock) (fun _ => False) rfl rfl ?aO ?aR (fun _ _ h => h) (fun _ h => h.elim) ?aF ?aB ?aS ?aL ?_
             (case aR => repeat (first | exact (Kd.C_below HR452.out HB.out) | (with_reducible refine Kd.C_alloc ?_ _) | (with_reducible refine Kd.C_drewN ?_ _) | (with_reducible refine Kd.C_drew ?_)))
             (case aB => exact (Cmp.g HB.out))
             (case aF => exact (fun k_ hk => Kd.fresh' (Kd.R_lt (Cmp.rr D3.out)) k_ hk))
             (case aO => exact (by (with_reducible repeat (first | apply Kd.R_alloc | apply Kd.R_drewN | apply Kd.R_drew)); exact Kd.R_mono D8.out (fun _ hk => hk.2)))
             (case aS => exact (below_size (Cmp.g HB.out)))
             (case aL => have := LMc24.out; omega)
             intro v454 w45 ho hb hg hat
             rw [← Ea.out] at ho
             have n0_ := Cmp.bg D0 hg (Kd.R_ne D8.out D0.out (by decide))
             have n1_ := Cmp.bg D1 hg (Kd.R_ne D8.out D1.out (by decide))
             have n2_ := Aside0.mk (Kd.R_after (ok := (fun _ => True)) (Cmp.rr D3.out) hg hat)
             have n3_ := Cmp.bg D2 hg (Kd.R_ne D8.out D2.out (by decide))
             have n4_ := Aside0.mk (hb)
             have n5_ := Aside0.mk (ho)
             clear D0; clear D1; clear D3; clear D2; clear HB; clear D8; have D0 := n0_; have D1 := n1_; have D3 := n2_; have D2 := n3_; have HB := n4_; have D9 := n5_; clear n0_ n1_ n2_ n3_ n4_ n5_; clear ho hb hg hat
             refine hK.out _ _ ⟨(Cmp.c0 D0 :), (Cmp.c1 D0 :), (Cmp.c2 D0 :)⟩ (fun hHeld => ?_)
             clear hK K
             refine norm_ (a' := ?_) ?_ ?_
             rotate_left
             ·show Act.put _ (some 39) _ = _
              simp only [Act.put, Cmp.s, Cmp.z, Cmp.c, i64_w, i32_w]; rfl
             refine one_ (i := 9) (N := some 43) (Cmp.bb 18 31743) rfl rfl (one_of HT_.out (by kernel_rfl)) (by decide) (fun K hK => ?_)
             refine Kd.R_lit_step k35 _ 35 ?hg (N := 43) ?hd (xs := ([(⟨a1, a2, 0, false⟩ : S35)] : List (S35))) (inner := [.int .i64 a1, .int .i64 a2, .int .i64 0, .bool false]) (ok := fun _ => True) (okp := fun _ => True) ?hr ?hp (fun _ hk => hk) trivial (Below.refl _ _) (Nat.le_refl _) (by simp) ?_; (case hd => rfl); (case hg => rfl); (case hr => first | (go_simp; done) | (go_simp; rfl)); (case hp => exact (Reps.c4 (show Kd.M k35 _ _ _ (⟨a1, a2, 0, false⟩ : S35) [.int .i64 a1, .int .i64 a2, .int .i64 0, .bool false] from (k35_mkM _ _ _ (⟨a1, a2, 0, false⟩ : S35) )) (Reps.none _ _)))
             intro v457 w46 Eg hb hg_ hnew_
             clear hg_ hnew_
             (first | rw [← Dv.out] at Eg | (simp only [Int.reduceToNat] at Eg; rw [← Dv.out] at Eg))
             have n0_ := Aside0.mk (Kd.R_elder' (Cmp.rr D3.out) (Kd.R_base Eg) hb)
             have n1_ := Aside0.mk (Kd.R_elder' (Cmp.rr D9.out) (Kd.R_base Eg) hb)
             have n2_ := Aside0.mk (Kd.R_lower (Kd.R_new' (Kd.R_new' Eg (Kd.R_lt (Cmp.rr D3.out))) (Kd.R_lt (Cmp.rr D9.out))) (below_size (Cmp.g HB.out)))
             have n3_ := Cmp.be D0 hb
             have n4_ := Cmp.be D1 hb
             have n5_ := Cmp.be D2 hb
             have n6_ := Aside0.mk (below_step (Cmp.g HB.out) hb)
             clear D3; clear D9; clear D0; clear D1; clear D2; clear HB; have D3 := n0_; have D9 := n1_; have D5 := n2_; have D0 := n3_; have D1 := n4_; have D2 := n5_; have HB := n6_; clear n0_ n1_ n2_ n3_ n4_ n5_ n6_; clear hb Eg
             refine hK.out _ _ ⟨(Cmp.c0 D0 :), (Cmp.c1 D0 :), (Cmp.c2 D0 :)⟩ (fun hHeld => ?_)
             clear hK K
             refine norm_ (a' := ?_) ?_ ?_
             rotate_left
             ·show Act.put _ (some 43) _ = _
              simp only [Act.put, Cmp.s, Cmp.z, Cmp.c, i64_w, i32_w]; rfl
             exact norm_ (by simp only [putAll, Act.put, List.setIfInBounds_toArray, List.set_cons_zero, List.set_cons_succ]) (hCont (v447, v454, v457) _ ⟨hHeld, (by (with_reducible repeat (first | apply Kd.R_alloc | apply Kd.R_drewN | apply Kd.R_drew)); exact Kd.R_mono D3.out (fun _ hk => ⟨hk.1.2, hk.2⟩)), (Cmp.rr D9.out), (by (with_reducible repeat (first | apply Kd.R_alloc | apply Kd.R_drewN | apply Kd.R_drew)); exact Kd.R_mono D5.out (fun _ hk => ⟨hk.1.2, hk.2⟩)), (Cmp.b D0.out), (Cmp.b D1.out), (Cmp.b D2.out), (Cmp.g HB.out)⟩)
            ·skip
             refine Kd.R_lit_step k35 _ 35 ?hg (N := 43) ?hd (xs := ([(⟨a1, a2, 0, false⟩ : S35)] : List (S35))) (inner := [.int .i64 a1, .int .i64 a2, .int .i64 0, .bool false]) (ok := fun _ => True) (okp := fun _ => True) ?hr ?hp (fun _ hk => hk) trivial (Below.refl _ _) (Nat.le_refl _) (by simp) ?_; (case hd => rfl); (case hg => rfl); (case hr => first | (go_simp; done) | (go_simp; rfl)); (case hp => exact (Reps.c4 (show Kd.M k35 _ _ _ (⟨a1, a2, 0, false⟩ : S35) [.int .i64 a1, .int .i64 a2, .int .i64 0, .bool false] from (k35_mkM _ _ _ (⟨a1, a2, 0, false⟩ : S35) )) (Reps.none _ _)))
             intro v457 w45 E3 hb hg_ hnew_
             clear hg_ hnew_
             (first | rw [← Dv.out] at E3 | (simp only [Int.reduceToNat] at E3; rw [← Dv.out] at E3))
             have n0_ := Aside0.mk (Kd.R_elder' (Cmp.rr D3.out) (Kd.R_base E3) hb)
             have n1_ := Aside0.mk (Kd.R_elder' (Cmp.rr D8.out) (Kd.R_base E3) hb)
             have n2_ := Aside0.mk (Kd.R_lower (Kd.R_new' (Kd.R_new' E3 (Kd.R_lt (Cmp.rr D3.out))) (Kd.R_lt (Cmp.rr D8.out))) (below_size (Cmp.g HB.out)))
             have n3_ := Cmp.be D0 hb
             have n4_ := Cmp.be D1 hb
             have n5_ := Cmp.be D2 hb
             have n6_ := Aside0.mk (below_step (Cmp.g HB.out) hb)
             clear D3; clear D8; clear D0; clear D1; clear D2; clear HB; have D3 := n0_; have D8 := n1_; have D5 := n2_; have D0 := n3_; have D1 := n4_; have D2 := n5_; have HB := n6_; clear n0_ n1_ n2_ n3_ n4_ n5_ n6_; clear hb E3
             refine hK.out _ _ ⟨(Cmp.c0 D0 :), (Cmp.c1 D0 :), (Cmp.c2 D0 :)⟩ (fun hHeld => ?_)
             clear hK K
             refine norm_ (a' := ?_) ?_ ?_
             rotate_left
             ·show Act.put _ (some 43) _ = _
              simp only [Act.put, Cmp.s, Cmp.z, Cmp.c, i64_w, i32_w]; rfl
             refine one_ (i := 5) (N := some 39) (Cmp.bb 18 31743) rfl rfl (one_of HT_.out (by kernel_rfl)) (by decide) (fun K hK => ?_)
             refine Kd.R_append_rows_step k35 (w0 := w) w.heap.size (by rfl) (.tmp 34) (.tmp 38) 24 35 (.agg #[(.int .i64 0), (.int .i64 0), (.int .i64 0), (.bool false)]) 32 rfl Try.underlying24 info35 rfl (by decide) (by omega) v447 E9 Dy _ _ _ (fun k_ => some k_ ≠ (.slice Dk D7.length Dm : Value).ownBlock ∧ some k_ ≠ (v457 : Value).ownBlock) (fun _ => False) rfl rfl ?aO ?aR (fun _ _ h => h) (fun _ h => h.elim) ?aF ?aB ?aS ?aL ?_
             (case aR => repeat (first | exact (Kd.C_below HR452.out HB.out) | (with_reducible refine Kd.C_alloc ?_ _) | (with_reducible refine Kd.C_drewN ?_ _) | (with_reducible refine Kd.C_drew ?_)))
             (case aB => exact (Cmp.g HB.out))
             (case aF => exact (fun k_ hk => ⟨Kd.fresh' (Kd.R_lt (Cmp.rr D3.out)) k_ hk, Kd.fresh' (Kd.R_lt (Cmp.rr D5.out)) k_ hk⟩))
             (case aO => exact (by (with_reducible repeat (first | apply Kd.R_alloc | apply Kd.R_drewN | apply Kd.R_drew)); exact Kd.R_mono D8.out (fun _ hk => ⟨hk.1.2, hk.2⟩)))
             (case aS => exact (below_size (Cmp.g HB.out)))
             (case aL => have := LMc24.out; omega)
             intro v454 w47 ho hb hg hat
             rw [← Ea.out] at ho
             have n0_ := Cmp.bg D0 hg (Kd.R_ne D8.out D0.out (by decide))
             have n1_ := Cmp.bg D1 hg (Kd.R_ne D8.out D1.out (by decide))
             have n2_ := Aside0.mk (Kd.R_after (ok := (fun k_ => some k_ ≠ (v457 : Value).ownBlock)) (by (with_reducible repeat (first | apply Kd.R_alloc | apply Kd.R_drewN | apply Kd.R_drew)); exact Kd.R_mono D3.out (fun _ hk => ⟨hk.2, hk.1.2⟩)) hg hat)
             have n3_ := Cmp.bg D2 hg (Kd.R_ne D8.out D2.out (by decide))
             have n4_ := Aside0.mk (Kd.R_after (ok := (fun k_ => some k_ ≠ (.slice Dk D7.length Dm : Value).ownBlock)) (by (with_reducible repeat (first | apply Kd.R_alloc | apply Kd.R_drewN | apply Kd.R_drew)); exact Kd.R_mono D5.out (fun _ hk => ⟨hk.1.2, hk.2⟩)) hg hat)
             have n5_ := Aside0.mk (hb)
             have n6_ := Aside0.mk (ho)
             clear D0; clear D1; clear D3; clear D2; clear D5; clear HB; clear D8; have D0 := n0_; have D1 := n1_; have D3 := n2_; have D2 := n3_; have D5 := n4_; have HB := n5_; have D9 := n6_; clear n0_ n1_ n2_ n3_ n4_ n5_ n6_; clear ho hb hg hat
             refine hK.out _ _ ⟨(Cmp.c0 D0 :), (Cmp.c1 D0 :), (Cmp.c2 D0 :)⟩ (fun hHeld => ?_)
             clear hK K
             refine norm_ (a' := ?_) ?_ ?_
             rotate_left
             ·show Act.put _ (some 39) _ = _
              simp only [Act.put, Cmp.s, Cmp.z, Cmp.c, i64_w, i32_w]; rfl
             exact norm_ (by simp only [putAll, Act.put, List.setIfInBounds_toArray, List.set_cons_zero, List.set_cons_succ]) (hCont (v447, v454, v457) _ ⟨hHeld, (by (with_reducible repeat (first | apply Kd.R_alloc | apply Kd.R_drewN | apply Kd.R_drew)); exact Kd.R_mono D3.out (fun _ hk => ⟨hk.2, hk.1⟩)), (Cmp.rr D9.out), (Cmp.rr D5.out), (Cmp.b D0.out), (Cmp.b D1.out), (Cmp.b D2.out), (Cmp.g HB.out)⟩)
           ·skip
            refine Kd.R_lit_step k35 _ 35 ?hg (N := 43) ?hd (xs := ([(⟨a1, a2, 0, false⟩ : S35)] : List (S35))) (inner := [.int .i64 a1, .int .i64 a2, .int .i64 0, .bool false]) (ok := fun _ => True) (okp := fun _ => True) ?hr ?hp (fun _ hk => hk) trivial (Below.refl _ _) (Nat.le_refl _) (by simp) ?_; (case hd => rfl); (case hg => rfl); (case hr => first | (go_simp; done) | (go_simp; rfl)); (case hp => exact (Reps.c4 (show Kd.M k35 _ _ _ (⟨a1, a2, 0, false⟩ : S35) [.int .i64 a1, .int .i64 a2, .int .i64 0, .bool false] from (k35_mkM _ _ _ (⟨a1, a2, 0, false⟩ : S35) )) (Reps.none _ _)))
            intro v457 w43 E6 hb hg_ hnew_
            clear hg_ hnew_
            (first | rw [← Dv.out] at E6 | (simp only [Int.reduceToNat] at E6; rw [← Dv.out] at E6))
            have n0_ := Aside0.mk (Kd.R_elder' (Cmp.rr D3.out) (Kd.R_base E6) hb)
            have n1_ := Aside0.mk (Kd.R_lower (Kd.R_new' E6 (Kd.R_lt (Cmp.rr D3.out))) (below_size (Cmp.g HB.out)))
            have n2_ := Cmp.be D0 hb
            have n3_ := Cmp.be D1 hb
            have n4_ := Cmp.be D2 hb
            have n5_ := Aside0.mk (below_step (Cmp.g HB.out) hb)
            clear D3; clear D0; clear D1; clear D2; clear HB; have D3 := n0_; have D5 := n1_; have D0 := n2_; have D1 := n3_; have D2 := n4_; have HB := n5_; clear n0_ n1_ n2_ n3_ n4_ n5_; clear hb E6
            refine hK.out _ _ ⟨(Cmp.c0 D0 :), (Cmp.c1 D0 :), (Cmp.c2 D0 :)⟩ (fun hHeld => ?_)
            clear hK K
            refine norm_ (a' := ?_) ?_ ?_
            rotate_left
            ·show Act.put _ (some 43) _ = _
             simp only [Act.put, Cmp.s, Cmp.z, Cmp.c, i64_w, i32_w]; rfl
            refine one_ (i := 0) (N := some 34) (Cmp.bb 18 31711) rfl rfl (one_of HT_.out (by kernel_rfl)) (by decide) (fun K hK => ?_)
            refine Kd.R_lit_step k35 _ 35 ?hg (N := 34) ?hd (xs := ([] : List (S35))) (inner := []) (ok := fun _ => True) (okp := fun _ => True) ?hr ?hp (fun _ hk => hk) trivial (Below.refl _ _) (Nat.le_refl _) (by simp) ?_; (case hd => rfl); (case hg => rfl); (case hr => first | (go_simp; done) | (go_simp; rfl)); (case hp => exact (Reps.none _ _))
            intro v447 w45 E3 hb hg_ hnew_
            clear hg_ hnew_
            (first | rw [← E8.out] at E3 | (simp only [Int.reduceToNat] at E3; rw [← E8.out] at E3))
            have n0_ := Aside0.mk (Kd.R_elder' (Cmp.rr D3.out) (Kd.R_base E3) hb)
            have n1_ := Aside0.mk (Kd.R_elder' (Cmp.rr D5.out) (Kd.R_base E3) hb)
            have n2_ := Aside0.mk (Kd.R_lower (Kd.R_new' (Kd.R_new' E3 (Kd.R_lt (Cmp.rr D3.out))) (Kd.R_lt (Cmp.rr D5.out))) (below_size (Cmp.g HB.out)))
            have n3_ := Cmp.be D0 hb
            have n4_ := Cmp.be D1 hb
            have n5_ := Cmp.be D2 hb
            have n6_ := Aside0.mk (below_step (Cmp.g HB.out) hb)
            clear D3; clear D5; clear D0; clear D1; clear D2; clear HB; have D3 := n0_; have D5 := n1_; have D8 := n2_; have D0 := n3_; have D1 := n4_; have D2 := n5_; have HB := n6_; clear n0_ n1_ n2_ n3_ n4_ n5_ n6_; clear hb E3
            refine hK.out _ _ ⟨(Cmp.c0 D0 :), (Cmp.c1 D0 :), (Cmp.c2 D0 :)⟩ (fun hHeld => ?_)
            clear hK K
            refine norm_ (a' := ?_) ?_ ?_
            rotate_left
            ·show Act.put _ (some 34) _ = _
             simp only [Act.put, Cmp.s, Cmp.z, Cmp.c, i64_w, i32_w]; rfl
            refine one_ (i := 5) (N := some 39) (Cmp.bb 18 31743) rfl rfl (one_of HT_.out (by kernel_rfl)) (by decide) (fun K hK => ?_)
            refine Kd.R_append_rows_step k35 (w0 := w) w.heap.size (by rfl) (.tmp 34) (.tmp 38) 24 35 (.agg #[(.int .i64 0), (.int .i64 0), (.int .i64 0), (.bool false)]) 32 rfl Try.underlying24 info35 rfl (by decide) (by omega) v447 E9 Dy _ _ _ (fun k_ => some k_ ≠ (.slice Dk D7.length Dm : Value).ownBlock ∧ some k_ ≠ (v457 : Value).ownBlock) (fun _ => False) rfl rfl ?aO ?aR (fun _ _ h => h) (fun _ h => h.elim) ?aF ?aB ?aS ?aL ?_
            (case aR => repeat (first | exact (Kd.C_below HR452.out HB.out) | (with_reducible refine Kd.C_alloc ?_ _) | (with_reducible refine Kd.C_drewN ?_ _) | (with_reducible refine Kd.C_drew ?_)))
            (case aB => exact (Cmp.g HB.out))
            (case aF => exact (fun k_ hk => ⟨Kd.fresh' (Kd.R_lt (Cmp.rr D3.out)) k_ hk, Kd.fresh' (Kd.R_lt (Cmp.rr D5.out)) k_ hk⟩))
            (case aO => exact (by (with_reducible repeat (first | apply Kd.R_alloc | apply Kd.R_drewN | apply Kd.R_drew)); exact Kd.R_mono D8.out (fun _ hk => ⟨hk.1.2, hk.2⟩)))
            (case aS => exact (below_size (Cmp.g HB.out)))
            (case aL => have := LMc24.out; omega)
            intro v454 w47 ho hb hg hat
            rw [← Ea.out] at ho
            have n0_ := Cmp.bg D0 hg (Kd.R_ne D8.out D0.out (by decide))
            have n1_ := Cmp.bg D1 hg (Kd.R_ne D8.out D1.out (by decide))
            have n2_ := Aside0.mk (Kd.R_after (ok := (fun k_ => some k_ ≠ (v457 : Value).ownBlock)) (by (with_reducible repeat (first | apply Kd.R_alloc | apply Kd.R_drewN | apply Kd.R_drew)); exact Kd.R_mono D3.out (fun _ hk => ⟨hk.1.2, hk.2⟩)) hg hat)
            have n3_ := Cmp.bg D2 hg (Kd.R_ne D8.out D2.out (by decide))
            have n4_ := Aside0.mk (Kd.R_after (ok := (fun k_ => some k_ ≠ (.slice Dk D7.length Dm : Value).ownBlock)) (by (with_reducible repeat (first | apply Kd.R_alloc | apply Kd.R_drewN | apply Kd.R_drew)); exact Kd.R_mono D5.out (fun _ hk => ⟨hk.1.2, hk.2⟩)) hg hat)
            have n5_ := Aside0.mk (hb)
            have n6_ := Aside0.mk (ho)
            clear D0; clear D1; clear D3; clear D2; clear D5; clear HB; clear D8; have D0 := n0_; have D1 := n1_; have D3 := n2_; have D2 := n3_; have D5 := n4_; have HB := n5_; have D9 := n6_; clear n0_ n1_ n2_ n3_ n4_ n5_ n6_; clear ho hb hg hat
            refine hK.out _ _ ⟨(Cmp.c0 D0 :), (Cmp.c1 D0 :), (Cmp.c2 D0 :)⟩ (fun hHeld => ?_)
            clear hK K
            refine norm_ (a' := ?_) ?_ ?_
            rotate_left
            ·show Act.put _ (some 39) _ = _
             simp only [Act.put, Cmp.s, Cmp.z, Cmp.c, i64_w, i32_w]; rfl
            exact norm_ (by simp only [putAll, Act.put, List.setIfInBounds_toArray, List.set_cons_zero, List.set_cons_succ]) (hCont (v447, v454, v457) _ ⟨hHeld, (by (with_reducible repeat (first | apply Kd.R_alloc | apply Kd.R_drewN | apply Kd.R_drew)); exact Kd.R_mono D3.out (fun _ hk => ⟨hk.2, hk.1⟩)), (Cmp.rr D9.out), (Cmp.rr D5.out), (Cmp.b D0.out), (Cmp.b D1.out), (Cmp.b D2.out), (Cmp.g HB.out)⟩)
          rintro ⟨v447, v454, v457⟩ w48 ⟨hS_, h0_, h1_, h2_, h3_, h4_, h5_, h6_⟩
          have n0_ : Aside0 (Kd.R k35 35 w48 w.heap.size (fun k_ => some k_ ≠ (v454 : Value).ownBlock ∧ some k_ ≠ (v457 : Value).ownBlock) (.slice Dk D7.length Dm) D7) := ⟨h0_⟩
          have n1_ : Aside0 (Kd.R k35 35 w48 w.heap.size (fun k_ => some k_ ≠ (.slice Dk D7.length Dm : Value).ownBlock ∧ some k_ ≠ (v457 : Value).ownBlock) v454 Dw) := ⟨h1_⟩
          have n2_ : Aside0 (Kd.R k35 35 w48 w.heap.size (fun k_ => some k_ ≠ (.slice Dk D7.length Dm : Value).ownBlock ∧ some k_ ≠ (v454 : Value).ownBlock) v457 Dj) := ⟨h2_⟩
          have n3_ : Aside0 (w48.heap[D6]? = some (.cells #[.int .i64 a0_0, .int .i64 a0_1, .slice A0_2 l0_2.length c0_2] 26 (0, 0))) := ⟨h3_⟩
          have n4_ : Aside0 (w48.heap[Df]? = some (.cells #[.int .i64 0, .int .i64 0, .slice none 0 0] 26 (0, 0))) := ⟨h4_⟩
          have n5_ : Aside0 (w48.heap[D4]? = some (.cells #[.int .i64 Db, .int .i64 Dc, .slice Dk D7.length Dm] 26 (0, 0))) := ⟨h5_⟩
          have n6_ : Aside0 (Below w.heap.size w w48) := ⟨h6_⟩
          clear D3; clear D0; clear D1; clear D2; clear HB; clear h0_ h1_ h2_ h3_ h4_ h5_ h6_; have D3 := n0_; have D9 := n1_; have D5 := n2_; have D0 := n3_; have D1 := n4_; have D2 := n5_; have HB := n6_; clear n0_ n1_ n2_ n3_ n4_ n5_ n6_
          have hHeld : w48.cell? ⟨D6, 0, none⟩ = some (.int .i64 a0_0) ∧ w48.cell? ⟨D6, 1, none⟩ = some (.int .i64 a0_1) ∧ w48.cell? ⟨D6, 2, none⟩ = some (.slice A0_2 l0_2.length c0_2) := hS_
          obtain ⟨Eu, Ew, Gg⟩ := Kd.R_slice D5.out
          (first | subst Gg | (injection Gg with f1_ f2_ f3_; have f4_ := f1_.symm; have f5_ := f3_.symm; clear f1_ f2_ f3_; subst f4_; subst f5_))
          refine norm_ (a' := ?_) ?_ ?_
          rotate_left
          ·simp only [putAll, Act.put, List.setIfInBounds_toArray, List.set_cons_zero, List.set_cons_succ]; rfl
          refine one_ (i := 10) (N := some 44) (Cmp.bm 15 3) rfl rfl (one_of HT_.out (by kernel_rfl)) (by decide) (fun K hK => ?_)
          refine Kd.R_append_rows_step k35 (w0 := w) w.heap.size (by rfl) (.tmp 39) (.tmp 43) 24 35 (.agg #[(.int .i64 0), (.int .i64 0), (.int .i64 0), (.bool false)]) 32 rfl Try.underlying24 info35 rfl (by decide) (by omega) v454 Dw Dj _ _ _ (fun k_ => some k_ ≠ (.slice Dk D7.length Dm : Value).ownBlock ∧ some k_ ≠ (.slice Eu Dj.length Ew : Value).ownBlock) (fun _ => False) rfl rfl ?aO ?aR (fun _ _ h => h) (fun _ h => h.elim) ?aF ?aB ?aS ?aL ?_
          (case aR => repeat (first | exact (Kd.R_reads' D5.out).2.2 | (with_reducible refine Kd.C_alloc ?_ _) | (with_reducible refine Kd.C_drewN ?_ _) | (with_reducible refine Kd.C_drew ?_)))
          (case aB => exact (Cmp.g HB.out))
          (case aF => exact (fun k_ hk => ⟨Kd.fresh' (Kd.R_lt (Cmp.rr D3.out)) k_ hk, Kd.fresh' (Kd.R_lt (Cmp.rr D5.out)) k_ hk⟩))
          (case aO => exact (Cmp.rr D9.out))
          (case aS => exact (below_size (Cmp.g HB.out)))
          (case aL => have := LMc25.out; omega)
          intro v460 w49 ho hb hg hat
          rw [← Fi.out] at ho
          have n0_ := Cmp.bg D0 hg (Kd.R_ne D9.out D0.out (by decide))
          have n1_ := Cmp.bg D1 hg (Kd.R_ne D9.out D1.out (by decide))
          have n2_ := Aside0.mk (Kd.R_after (ok := (fun k_ => some k_ ≠ (.slice Eu Dj.length Ew : Value).ownBlock)) (by (with_reducible repeat (first | apply Kd.R_alloc | apply Kd.R_drewN | apply Kd.R_drew)); exact Kd.R_mono D3.out (fun _ hk => ⟨hk.2, hk.1⟩)) hg hat)
          have n3_ := Cmp.bg D2 hg (Kd.R_ne D9.out D2.out (by decide))
          have n4_ := Aside0.mk (Kd.R_after (ok := (fun k_ => some k_ ≠ (.slice Dk D7.length Dm : Value).ownBlock)) (Cmp.rr D5.out) hg hat)
          have n5_ := Aside0.mk (hb)
          have n6_ := Aside0.mk (ho)
          clear D0; clear D1; clear D3; clear D2; clear D5; clear HB; clear D9; have D0 := n0_; have D1 := n1_; have D3 := n2_; have D2 := n3_; have D5 := n4_; have HB := n5_; have Dx := n6_; clear n0_ n1_ n2_ n3_ n4_ n5_ n6_; clear ho hb hg hat
          refine hK.out _ _ ⟨(Cmp.c0 D0 :), (Cmp.c1 D0 :), (Cmp.c2 D0 :)⟩ (fun hHeld => ?_)
          clear hK K
          refine norm_ (a' := ?_) ?_ ?_
          rotate_left
          ·show Act.put _ (some 44) _ = _
           simp only [Act.put, Cmp.s, Cmp.z, Cmp.c, i64_w, i32_w]; rfl
          refine one_ (i := 15) (N := some 49) (Cmp.bm 16 2) rfl rfl (one_of HT_.out (by kernel_rfl)) (by decide) (fun K hK => ?_)
          refine Kd.R_append_rows_step k35 (w0 := w) w.heap.size (by rfl) (.tmp 44) (.tmp 48) 24 35 (.agg #[(.int .i64 0), (.int .i64 0), (.int .i64 0), (.bool false)]) 32 rfl Try.underlying24 info35 rfl (by decide) (by omega) v460 Dt Dg _ _ _ (fun k_ => some k_ ≠ (.slice Dk D7.length Dm : Value).ownBlock ∧ some k_ ≠ (.slice Eu Dj.length Ew : Value).ownBlock) (fun _ => False) rfl rfl ?aO ?aR (fun _ _ h => h) (fun _ h => h.elim) ?aF ?aB ?aS ?aL ?_
          (case aR => repeat (first | exact (Kd.C_below HR465.out HB.out) | (with_reducible refine Kd.C_alloc ?_ _) | (with_reducible refine Kd.C_drewN ?_ _) | (with_reducible refine Kd.C_drew ?_)))
          (case aB => exact (Cmp.g HB.out))
          (case aF => exact (fun k_ hk => ⟨Kd.fresh' (Kd.R_lt (Cmp.rr D3.out)) k_ hk, Kd.fresh' (Kd.R_lt (Cmp.rr D5.out)) k_ hk⟩))
          (case aO => exact (Cmp.rr Dx.out))
          (case aS => exact (below_size (Cmp.g HB.out)))
          (case aL => have := LMc28.out; omega)
          intro v467 w51 ho hb hg hat
          rw [← Fj.out] at ho
          have n0_ := Cmp.bg D0 hg (Kd.R_ne Dx.out D0.out (by decide))
          have n1_ := Cmp.bg D1 hg (Kd.R_ne Dx.out D1.out (by decide))
          have n2_ := Aside0.mk (Kd.R_after (ok := (fun k_ => some k_ ≠ (.slice Eu Dj.length Ew : Value).ownBlock)) (Cmp.rr D3.out) hg hat)
          have n3_ := Cmp.bg D2 hg (Kd.R_ne Dx.out D2.out (by decide))
          have n4_ := Aside0.mk (Kd.R_after (ok := (fun k_ => some k_ ≠ (.slice Dk D7.length Dm : Value).ownBlock)) (Cmp.rr D5.out) hg hat)
          have n5_ := Aside0.mk (hb)
          have n6_ := Aside0.mk (ho)
          clear D0; clear D1; clear D3; clear D2; clear D5; clear HB; clear Dx; have D0 := n0_; have D1 := n1_; have D3 := n2_; have D2 := n3_; have D5 := n4_; have HB := n5_; have Do := n6_; clear n0_ n1_ n2_ n3_ n4_ n5_ n6_; clear ho hb hg hat
          obtain ⟨Ee, Eb, Gh⟩ := Kd.R_slice Do.out
          (first | subst Gh | (injection Gh with f1_ f2_ f3_; have f4_ := f1_.symm; have f5_ := f3_.symm; clear f1_ f2_ f3_; subst f4_; subst f5_))
          refine hK.out _ _ ⟨(Cmp.c0 D0 :), (Cmp.c1 D0 :), (Cmp.c2 D0 :)⟩ (fun hHeld => ?_)
          clear hK K
          refine norm_ (a' := ?_) ?_ ?_
          rotate_left
          ·show Act.put _ (some 49) _ = _
           simp only [Act.put, Cmp.s, Cmp.z, Cmp.c, i64_w, i32_w]; rfl
          refine Cmp.pu HT_ 16 50 (Cmp.bm 17 1) ?_
          refine one_ (i := 17) (N := none) (Cmp.bm 18 0) rfl rfl (one_of HT_.out (by kernel_rfl)) (by decide) (fun K hK => ?_)
          have hs53 : w51.cell? ⟨D4, 2, none⟩ = some (.slice Dk D7.length Dm) := (blk_cell D2.out 2).trans rfl
          have hfs53 := blk_frozen D2.out 2; have hns53_0 := Dd.out; have hns53_1 := Dp.out; have hms53_0 := Dq.out; have hms53_1 := Dr.out
          refine skip_ (w1 := ?_) (by rfl) rfl ?_ ?_
          rotate_left
          ·go_simp; rfl
          refine hK.out _ _ ⟨((cell_far (p := ⟨D4, _, none⟩) Dd.out _).trans (hHeld.1)), ((cell_far (p := ⟨D4, _, none⟩) Dd.out _).trans (hHeld.2.1)), ((cell_far (p := ⟨D4, _, none⟩) Dd.out _).trans (hHeld.2.2))⟩ (fun hHeld => ?_)
          clear hK K
          refine done_ (done_of HT_.out (by kernel_rfl)) ?_
          have Gu := Cmp.c0 D2
          have Gv := Cmp.c1 D2
          have Gw := Cmp.c2 D2
          have Jx := blk_frozen D2.out 0; have Jy := blk_frozen D2.out 1; have Jz := blk_frozen D2.out 2
          try go_wp2_with (first | ((with_reducible refine gate_callee (f := 16) rfl ?_); refine goesL_ (some 52) rfl rfl Try.func16 (by kernel_rfl) rfl #[.agg #[.int .i64 Db, .int .i64 Dc, .slice Ee De.length Eb]] rfl Cmp.q ?_; (with_reducible refine (impl_IsValidAccount.calls kj5 Db Dc _ _ De true _ ?side1 ?side2 L0.out).mono ?_); (case side1 => refine (Kd.R_reads' (e := 35) (base := w.heap.size) (ok := fun k_ => (some k_ ≠ (.slice Dk D7.length Dm : Value).ownBlock ∧ some k_ ≠ (.slice Eu Dj.length Ew : Value).ownBlock)) (n := De.length) (c := Eb) ?_).2.2; exact (by (with_reducible repeat (first | apply Kd.R_alloc | apply Kd.R_drewN | apply Kd.R_drew)); exact (Kd.R_mono (Kd.R_far (p := ⟨D4, 2, none⟩) (Kd.R_types Do.out D2.out (by decide)) (fun _ hk => hk.2) (.slice Ee De.length Eb)) (fun _ h_ => h_.1)))); (case side2 => exact (Kd.R_reads' Do.out).2.1); rintro e w55 ⟨rfl, hb⟩; refine ⟨_, rfl, ?_⟩; replace D3 := Aside0.mk (Kd.R_below (by (with_reducible repeat (first | apply Kd.R_alloc | apply Kd.R_drewN | apply Kd.R_drew)); exact (Kd.R_mono (Kd.R_far (p := ⟨D4, 2, none⟩) (Kd.R_types D3.out D2.out (by decide)) (fun _ hk => hk.2) (.slice Ee De.length Eb)) (fun _ h_ => h_.1))) hb); replace D5 := Aside0.mk (Kd.R_below (by (with_reducible repeat (first | apply Kd.R_alloc | apply Kd.R_drewN | apply Kd.R_drew)); exact (Kd.R_mono (Kd.R_far (p := ⟨D4, 2, none⟩) (Kd.R_types D5.out D2.out (by decide)) (fun _ hk => hk.2) (.slice Ee De.length Eb)) (fun _ h_ => h_.1))) hb); replace Do := Aside0.mk (Kd.R_below (by (with_reducible repeat (first | apply Kd.R_alloc | apply Kd.R_drewN | apply Kd.R_drew)); exact (Kd.R_mono (Kd.R_far (p := ⟨D4, 2, none⟩) (Kd.R_types Do.out D2.out (by decide)) (fun _ hk => hk.2) (.slice Ee De.length Eb)) (fun _ h_ => h_.1))) hb); replace D0 := Aside0.mk (blk_below (g := D6) (o := .cells #[.int .i64 a0_0, .int .i64 a0_1, .slice A0_2 l0_2.length c0_2] 26 (0, 0)) (Cmp.bw D0.out) hb); replace D1 := Aside0.mk (blk_below (g := Df) (o := .cells #[.int .i64 0, .int .i64 0, .slice none 0 0] 26 (0, 0)) (Cmp.bw D1.out) hb); replace D2 := Aside0.mk (blk_below (g := D4) (o := .cells #[.int .i64 Db, .int .i64 Dc, .slice Ee De.length Eb] 26 (0, 0)) (Cmp.bw D2.out) hb); replace HB := Cmp.bs HB hb; (try clear hb); (try clear hb2); (try clear hk); (try clear hi); have Gx := Cmp.c0 D2; have Gy := Cmp.c1 D2; have Gz := Cmp.c2 D2; have K0 := blk_frozen D2.out 0; have K1 := blk_frozen D2.out 1; have K2 := blk_frozen D2.out 2; have J0 := Cmp.c0 D1; have J1 := Cmp.c1 D1; have J2 := Cmp.c2 D1; have K3 := blk_frozen D1.out 0; have K4 := blk_frozen D1.out 1; have K5 := blk_frozen D1.out 2))
          refine bodyPost_ret (results_ct rfl _ _ Df 26 #[.int .i64 Db, .int .i64 Dc, .slice Ee De.length Eb] (0, 0) _ rfl (Cmp.bw D1.out) Try.underlying26 rfl (by kernel_rfl)) rfl ?_
          exact ⟨_, by first | rfl | (simp [errW_none, errW_some] <;> rfl) | (simp [*, errW_none, errW_some] <;> rfl), by (with_reducible repeat (first | apply Kd.R_alloc | apply Kd.R_drewN | apply Kd.R_drew)); exact Kd.R_mono (Kd.R_far (p := ⟨Df, 2, none⟩) (Kd.R_far (p := ⟨Df, 1, none⟩) (Kd.R_far (p := ⟨Df, 0, none⟩) (Kd.R_types Do.out D1.out (by decide)) (fun _ hk => hk.2) (.int .i64 Db)) (fun _ hk => hk.2) (.int .i64 Dc)) (fun _ hk => hk.2) (.slice Ee De.length Eb)) (fun _ hk => trivial), Cmp.g HB.out⟩
         ·replace c30 := Bool.eq_false_iff.mpr c30
          subst c30
          have H1 : ((impl_copyAccount.f a0_0 a0_1 l0_2).bind fun bt470 => (some (bt470.1, bt470.2.1, bt470.2.2, false))) = some (r1, r2, r3, r4) := by rw [if_neg (show ¬ (false = true) by decide)] at H; exact H
          clear H; have H := H1; clear H1; replace H := Option.bind_eq_some_iff.mp H; obtain ⟨⟨Fw, Fx, Fy⟩, G1, H⟩ := H; (try dsimp only at H); have Ln := Aside0.mk G1; clear G1
          simp only [Option.some.injEq, Prod.mk.injEq] at H
          obtain ⟨rfl, rfl, rfl, rfl⟩ := H; have L8 := Dh.out; have Li := Di.out
          have J3 : wc.cell? ⟨D6, 0, none⟩ = some (.int .i64 a0_0) := (blk_cell D0.out 0).trans rfl
          have J4 : wc.cell? ⟨D6, 1, none⟩ = some (.int .i64 a0_1) := (blk_cell D0.out 1).trans rfl
          have J5 : wc.cell? ⟨D6, 2, none⟩ = some (.slice A0_2 l0_2.length c0_2) := (blk_cell D0.out 2).trans rfl
          have K6 := blk_frozen D0.out 0; have K7 := blk_frozen D0.out 1; have K8 := blk_frozen D0.out 2
          try go_wp2_with (first | ((with_reducible refine gate_callee (f := 56) rfl ?_); refine goesL_ (some 33) rfl rfl Try.func56 (by kernel_rfl) rfl #[.agg #[.int .i64 a0_0, .int .i64 a0_1, .slice A0_2 l0_2.length c0_2]] rfl Cmp.q ?_; (with_reducible refine (impl_copyAccount.calls a0_0 a0_1 _ _ l0_2 Db Dc D7 _ ?side1 ?side2 Kz.out).mono ?_); (case side1 => exact Cmp.rc (Kd.C_below Du.out HB.out)); (case side2 => exact HC0_2.out); rintro e w61 ⟨v443, rfl, Eq, hb⟩; refine ⟨_, rfl, ?_⟩; have D3 := Aside0.mk (Kd.R_lower Eq (below_size (Cmp.g HB.out))); replace D0 := Cmp.be D0 hb; replace D1 := Cmp.be D1 hb; replace HB := Cmp.bs HB hb; (try clear hb); (try clear hb2); (try clear hk); (try clear hi); (try clear Eq)) | ((with_reducible refine gate_dst (N := 9) rfl ?_); refine box_event ?hg (N := 9) ?hd (cs := #[.int .i64 0, .int .i64 0, .slice none 0 0]) (t := 26) ?hr ?_; (case hd => rfl); (case hg => rfl); (case hr => first | (go_simp; done) | (go_simp; rfl)); intro D4 hg w62 hbox hb; have D2 := Aside0.mk (hbox); have Ga := Cmp.gw hg HB; have G7 := Cmp.gw hg HB; have Dd := Cmp.nl hg D0; have Dq := Cmp.ng hg D0; have Dp := Cmp.nl hg D1; have Dr := Cmp.ng hg D1; replace D3 := Aside0.mk (Kd.R_below (Cmp.rr D3.out) hb); replace D0 := Cmp.be D0 hb; replace D1 := Cmp.be D1 hb; replace HB := Cmp.bs HB hb; clear hb hbox hg; have L9 := Dq.out; have Lj := Dd.out; have La := Dr.out; have Lk := Dp.out; have J6 := Cmp.c0 D2; have J7 := Cmp.c1 D2; have J8 := Cmp.c2 D2; have K9 := blk_frozen D2.out 0; have Ka := blk_frozen D2.out 1; have Kb := blk_frozen D2.out 2; obtain ⟨Dl, Dn, Kw⟩ := Kd.R_slice D3.out; subst Kw))
          have n0_ : Aside0 (Kd.R k35 35 (((w62.setCell ⟨D4, 0, none⟩ (.int .i64 Db)).setCell ⟨D4, 1, none⟩ (.int .i64 Dc)).setCell ⟨D4, 2, none⟩ (.slice Dl D7.length Dn)) w.heap.size (fun _ => True) (.slice Dl D7.length Dn) D7) := ⟨by (with_reducible repeat (first | apply Kd.R_alloc | apply Kd.R_drewN | apply Kd.R_drew)); exact Kd.R_mono (Kd.R_far (p := ⟨D4, 2, none⟩) (Kd.R_far (p := ⟨D4, 1, none⟩) (Kd.R_far (p := ⟨D4, 0, none⟩) (Kd.R_types D3.out D2.out (by decide)) (fun _ hk => hk.2) (.int .i64 Db)) (fun _ hk => hk.2) (.int .i64 Dc)) (fun _ hk => hk.2) (.slice Dl D7.length Dn)) (fun _ hk => trivial)⟩
          have n1_ : Aside0 ((((w62.setCell ⟨D4, 0, none⟩ (.int .i64 Db)).setCell ⟨D4, 1, none⟩ (.int .i64 Dc)).setCell ⟨D4, 2, none⟩ (.slice Dl D7.length Dn)).heap[D6]? = some (.cells #[.int .i64 a0_0, .int .i64 a0_1, .slice A0_2 l0_2.length c0_2] 26 (0, 0))) := ⟨Cmp.bw D0.out⟩
          have n2_ : Aside0 ((((w62.setCell ⟨D4, 0, none⟩ (.int .i64 Db)).setCell ⟨D4, 1, none⟩ (.int .i64 Dc)).setCell ⟨D4, 2, none⟩ (.slice Dl D7.length Dn)).heap[Df]? = some (.cells #[.int .i64 0, .int .i64 0, .slice none 0 0] 26 (0, 0))) := ⟨Cmp.bw D1.out⟩
          have n3_ : Aside0 ((((w62.setCell ⟨D4, 0, none⟩ (.int .i64 Db)).setCell ⟨D4, 1, none⟩ (.int .i64 Dc)).setCell ⟨D4, 2, none⟩ (.slice Dl D7.length Dn)).heap[D4]? = some (.cells #[.int .i64 Db, .int .i64 Dc, .slice Dl D7.length Dn] 26 (0, 0))) := ⟨Cmp.bw D2.out⟩
          have n4_ : Aside0 (Below w.heap.size w (((w62.setCell ⟨D4, 0, none⟩ (.int .i64 Db)).setCell ⟨D4, 1, none⟩ (.int .i64 Dc)).setCell ⟨D4, 2, none⟩ (.slice Dl D7.length Dn))) := ⟨Cmp.g HB.out⟩
          (try clear D3); (try clear D0); (try clear D1); (try clear D2); (try clear HB)
          generalize (((w62.setCell ⟨D4, 0, none⟩ (.int .i64 Db)).setCell ⟨D4, 1, none⟩ (.int .i64 Dc)).setCell ⟨D4, 2, none⟩ (.slice Dl D7.length Dn)) = w67 at n0_ n1_ n2_ n3_ n4_ ⊢
          have D3 := n0_; have D0 := n1_; have D1 := n2_; have D2 := n3_; have HB := n4_; clear n0_ n1_ n2_ n3_ n4_; replace D3 := Aside0.mk (Kd.R_drew D3.out); replace D0 := Aside0.mk (blk_drew D0.out); replace D1 := Aside0.mk (blk_drew D1.out); replace D2 := Aside0.mk (blk_drew D2.out); replace HB := Aside0.mk (below_drew1 HB.out)
          have q69 : (Da : Int) ≤ ((l0_2.length : Int) : Int) := of_decide_eq_true Cmp.d
          obtain ⟨i069, Fm, _, hsz69, _⟩ := info_parts info35
          have Es : l0_2.length ≤ c0_2 := HC0_2.out
          have Gm : Kd.C k35 _ A0_2 l0_2.length l0_2 := Du.out
          have Fq := cut_to (P := Try.prog) 24 35 .i64 Try.underlying24 Fm A0_2 l0_2.length c0_2 Da (of_decide_eq_true Cmp.d) q69 Es
          have hr69 := Kd.C_take (m := (Da : Int).toNat) Gm (by omega)
          have hy69 : Dy.length = (Da : Int).toNat := (by rw [Ei.out, List.length_take]; omega)
          rw [← Ei.out] at hr69
          rw [← hy69] at Fq
          have HR452 := Aside0.mk hr69
          have Gb := Aside0.mk (show Dy.length ≤ c0_2 from by omega)
          clear hr69 Gm Es Fm hsz69; have KY69 := Aside0.mk hy69; clear hy69; replace q69 := eq_true q69
          have q70 : (Da : Int) ≤ ((l0_2.length : Int) : Int) := of_decide_eq_true Cmp.d
          obtain ⟨i070, Fn, _, hsz70, _⟩ := info_parts info35
          have Ed : l0_2.length ≤ c0_2 := HC0_2.out
          have Gn : Kd.C k35 _ A0_2 l0_2.length l0_2 := Du.out
          have q070 : (0 : Int) ≤ (Da : Int) := of_decide_eq_true Cmp.d
          have Fr := cut_from (P := Try.prog) 24 35 .i64 Try.underlying24 Fn 4 hsz70 A0_2 l0_2.length c0_2 Da q070 q70
          have hr70 := Kd.C_drop (m := (Da : Int).toNat) (c := c0_2) Gn (by omega) Ed
          obtain ⟨Lo, hA70⟩ : ∃ A1, A1 = (if c0_2 = (Da : Int).toNat then A0_2 else (A0_2 : Option Addr).map (·.add ((Da : Int).toNat * 4))) := ⟨_, rfl⟩
          obtain ⟨c70, hc70⟩ : ∃ c1, c1 = c0_2 - (Da : Int).toNat := ⟨_, rfl⟩
          have hy70 : Dg.length = l0_2.length - (Da : Int).toNat := (by rw [Ej.out, List.length_drop] <;> omega)
          rw [show (l0_2).drop (Da : Int).toNat = Dg from Ej.out.symm] at hr70
          replace hr70 : Kd.C k35 _ Lo Dg.length Dg := (by rw [hA70]; exact hr70)
          rw [← hy70, ← hA70, ← hc70] at Fr
          have HR465 := Aside0.mk hr70
          have Gc := Aside0.mk (show Dg.length ≤ c70 from by rw [hy70, hc70]; exact Nat.sub_le_sub_right Ed _)
          clear hr70 Gn Ed Fn hsz70 hc70; have KY70 := Aside0.mk hy70; have KA70 := Aside0.mk hA70; clear hy70 hA70; replace q70 := eq_true q70
          refine start_ (n := 18) (S := fun w' => w'.cell? ⟨D6, 0, none⟩ = some (.int .i64 a0_0) ∧ w'.cell? ⟨D6, 1, none⟩ = some (.int .i64 a0_1) ∧ w'.cell? ⟨D6, 2, none⟩ = some (.slice A0_2 l0_2.length c0_2)) (ds := []) (Cmp.bm 0 18) (by kernel_rfl) rfl rfl ⟨(Cmp.c0 D0 :), (Cmp.c1 D0 :), (Cmp.c2 D0 :)⟩ (fun hHeld => ?_); refine with_tabW impl_AddCredential.tab7 impl_AddCredential.bits7 (fun HT_ HW_ => ?_)
          generalize w67.drew = w68 at D3 D0 D1 D2 HB HR452 HR465 hHeld ⊢
          refine Cmp.pu HT_ 1 35 (Cmp.bb 18 2) ?_; refine Cmp.pu HT_ 3 37 (Cmp.bb 18 10) ?_; refine Cmp.pu HT_ 6 40 (Cmp.bb 18 74) ?_; refine Cmp.pu HT_ 7 41 (Cmp.bb 18 202) ?_; refine Cmp.pu HT_ 8 42 (Cmp.bb 18 458) ?_; refine Cmp.pu HT_ 11 45 (Cmp.bb 18 2506) ?_; refine Cmp.pu HT_ 13 47 (Cmp.bb 18 10698) ?_; refine Cmp.tk HT_ HW_ hHeld 2 36 (Cmp.bb 18 10702) ?_; refine Cmp.pu HT_ 4 38 (Cmp.bb 18 10718) ?_; refine Cmp.tk HT_ HW_ hHeld 12 46 (Cmp.bb 18 14814) ?_; refine Cmp.pu HT_ 14 48 (Cmp.bb 18 31198) ?_
          refine join_ (σ := Value × Value × Value) 4 (Cmp.bb 18 31743) (fun s_ => [(34, s_.1), (39, s_.2.1), (43, s_.2.2)]) (fun s_ w' => (w'.cell? ⟨D6, 0, none⟩ = some (.int .i64 a0_0) ∧ w'.cell? ⟨D6, 1, none⟩ = some (.int .i64 a0_1) ∧ w'.cell? ⟨D6, 2, none⟩ = some (.slice A0_2 l0_2.length c0_2)) ∧ (Kd.R k35 35 w' w.heap.size (fun k_ => some k_ ≠ (s_.2.1 : Value).ownBlock ∧ some k_ ≠ (s_.2.2 : Value).ownBlock) (.slice Dl D7.length Dn) D7) ∧ (Kd.R k35 35 w' w.heap.size (fun k_ => some k_ ≠ (.slice Dl D7.length Dn : Value).ownBlock ∧ some k_ ≠ (s_.2.2 : Value).ownBlock) s_.2.1 Dw) ∧ (Kd.R k35 35 w' w.heap.size (fun k_ => some k_ ≠ (.slice Dl D7.length Dn : Value).ownBlock ∧ some k_ ≠ (s_.2.1 : Value).ownBlock) s_.2.2 Dj) ∧ (w'.heap[D6]? = some (.cells #[.int .i64 a0_0, .int .i64 a0_1, .slice A0_2 l0_2.length c0_2] 26 (0, 0))) ∧ (w'.heap[Df]? = some (.cells #[.int .i64 0, .int .i64 0, .slice none 0 0] 26 (0, 0))) ∧ (w'.heap[D4]? = some (.cells #[.int .i64 Db, .int .i64 Dc, .slice Dl D7.length Dn] 26 (0, 0))) ∧ (Below w.heap.size w w')) ?_ ?_
          rotate_left
          ·intro hCont
           refine two_ (i := 0) (j := 9) (Ni := some 34) (Nj := some 43) (Cmp.bb 18 31199) (Cmp.bb 18 31710) rfl rfl rfl rfl (two_of HT_.out (by kernel_rfl)) (by decide) (by decide) (fun K hK => ?_) (fun K hK => ?_)
           ·skip
            refine Kd.R_lit_step k35 _ 35 ?hg (N := 34) ?hd (xs := ([] : List (S35))) (inner := []) (ok := fun _ => True) (okp := fun _ => True) ?hr ?hp (fun _ hk => hk) trivial (Below.refl _ _) (Nat.le_refl _) (by simp) ?_; (case hd => rfl); (case hg => rfl); (case hr => first | (go_simp; done) | (go_simp; rfl)); (case hp => exact (Reps.none _ _))
            intro v447 w71 E7 hb hg_ hnew_
            clear hg_ hnew_
            (first | rw [← E8.out] at E7 | (simp only [Int.reduceToNat] at E7; rw [← E8.out] at E7))
            have n0_ := Aside0.mk (Kd.R_elder' (Cmp.rr D3.out) (Kd.R_base E7) hb)
            have n1_ := Aside0.mk (Kd.R_lower (Kd.R_new' E7 (Kd.R_lt (Cmp.rr D3.out))) (below_size (Cmp.g HB.out)))
            have n2_ := Cmp.be D0 hb
            have n3_ := Cmp.be D1 hb
            have n4_ := Cmp.be D2 hb
            have n5_ := Aside0.mk (below_step (Cmp.g HB.out) hb)
            clear D3; clear D0; clear D1; clear D2; clear HB; have D3 := n0_; have D8 := n1_; have D0 := n2_; have D1 := n3_; have D2 := n4_; have HB := n5_; clear n0_ n1_ n2_ n3_ n4_ n5_; clear hb E7
            refine hK.out _ _ ⟨(Cmp.c0 D0 :), (Cmp.c1 D0 :), (Cmp.c2 D0 :)⟩ (fun hHeld => ?_)
            clear hK K
            refine norm_ (a' := ?_) ?_ ?_
            rotate_left
            ·show Act.put _ (some 34) _ = _
             simp only [Act.put, Cmp.s, Cmp.z, Cmp.c, i64_w, i32_w]; rfl
            refine two_ (i := 5) (j := 9) (Ni := some 39) (Nj := some 43) (Cmp.bb 18 31231) (Cmp.bb 18 31711) rfl rfl rfl rfl (two_of HT_.out (by kernel_rfl)) (by decide) (by decide) (fun K hK => ?_) (fun K hK => ?_)
            ·skip
             refine Kd.R_append_rows_step k35 (w0 := w) w.heap.size (by rfl) (.tmp 34) (.tmp 38) 24 35 (.agg #[(.int .i64 0), (.int .i64 0), (.int .i64 0), (.bool false)]) 32 rfl Try.underlying24 info35 rfl (by decide) (by omega) v447 E9 Dy _ _ _ (fun k_ => some k_ ≠ (.slice Dl D7.length Dn : Value).ownBlock) (fun _ => False) rfl rfl ?aO ?aR (fun _ _ h => h) (fun _ h => h.elim) ?aF ?aB ?aS ?aL ?_
             (case aR => repeat (first | exact (Kd.C_below HR452.out HB.out) | (with_reducible refine Kd.C_alloc ?_ _) | (with_reducible refine Kd.C_drewN ?_ _) | (with_reducible refine Kd.C_drew ?_)))
             (case aB => exact (Cmp.g HB.out))
             (case aF => exact (fun k_ hk => Kd.fresh' (Kd.R_lt (Cmp.rr D3.out)) k_ hk))
             (case aO => exact (by (with_reducible repeat (first | apply Kd.R_alloc | apply Kd.R_drewN | apply Kd.R_drew)); exact Kd.R_mono D8.out (fun _ hk => hk.2)))
             (case aS => exact (below_size (Cmp.g HB.out)))
             (case aL => have := LMc24.out; omega)
             intro v454 w73 ho hb hg hat
             rw [← Ea.out] at ho
             have n0_ := Cmp.bg D0 hg (Kd.R_ne D8.out D0.out (by decide))
             have n1_ := Cmp.bg D1 hg (Kd.R_ne D8.out D1.out (by decide))
             have n2_ := Aside0.mk (Kd.R_after (ok := (fun _ => True)) (Cmp.rr D3.out) hg hat)
             have n3_ := Cmp.bg D2 hg (Kd.R_ne D8.out D2.out (by decide))
             have n4_ := Aside0.mk (hb)
             have n5_ := Aside0.mk (ho)
             clear D0; clear D1; clear D3; clear D2; clear HB; clear D8; have D0 := n0_; have D1 := n1_; have D3 := n2_; have D2 := n3_; have HB := n4_; have D9 := n5_; clear n0_ n1_ n2_ n3_ n4_ n5_; clear ho hb hg hat
             refine hK.out _ _ ⟨(Cmp.c0 D0 :), (Cmp.c1 D0 :), (Cmp.c2 D0 :)⟩ (fun hHeld => ?_)
             clear hK K
             refine norm_ (a' := ?_) ?_ ?_
             rotate_left
             ·show Act.put _ (some 39) _ = _
              simp only [Act.put, Cmp.s, Cmp.z, Cmp.c, i64_w, i32_w]; rfl
             refine one_ (i := 9) (N := some 43) (Cmp.bb 18 31743) rfl rfl (one_of HT_.out (by kernel_rfl)) (by decide) (fun K hK => ?_)
             refine Kd.R_lit_step k35 _ 35 ?hg (N := 43) ?hd (xs := ([(⟨a1, a2, 0, false⟩ : S35)] : List (S35))) (inner := [.int .i64 a1, .int .i64 a2, .int .i64 0, .bool false]) (ok := fun _ => True) (okp := fun _ => True) ?hr ?hp (fun _ hk => hk) trivial (Below.refl _ _) (Nat.le_refl _) (by simp) ?_; (case hd => rfl); (case hg => rfl); (case hr => first | (go_simp; done) | (go_simp; rfl)); (case hp => exact (Reps.c4 (show Kd.M k35 _ _ _ (⟨a1, a2, 0, false⟩ : S35) [.int .i64 a1, .int .i64 a2, .int .i64 0, .bool false] from (k35_mkM _ _ _ (⟨a1, a2, 0, false⟩ : S35) )) (Reps.none _ _)))
             intro v457 w74 Eh hb hg_ hnew_
             clear hg_ hnew_
             (first | rw [← Dv.out] at Eh | (simp only [Int.reduceToNat] at Eh; rw [← Dv.out] at Eh))
             have n0_ := Aside0.mk (Kd.R_elder' (Cmp.rr D3.out) (Kd.R_base Eh) hb)
             have n1_ := Aside0.mk (Kd.R_elder' (Cmp.rr D9.out) (Kd.R_base Eh) hb)
             have n2_ := Aside0.mk (Kd.R_lower (Kd.R_new' (Kd.R_new' Eh (Kd.R_lt (Cmp.rr D3.out))) (Kd.R_lt (Cmp.rr D9.out))) (below_size (Cmp.g HB.out)))
             have n3_ := Cmp.be D0 hb
             have n4_ := Cmp.be D1 hb
             have n5_ := Cmp.be D2 hb
             have n6_ := Aside0.mk (below_step (Cmp.g HB.out) hb)
             clear D3; clear D9; clear D0; clear D1; clear D2; clear HB; have D3 := n0_; have D9 := n1_; have D5 := n2_; have D0 := n3_; have D1 := n4_; have D2 := n5_; have HB := n6_; clear n0_ n1_ n2_ n3_ n4_ n5_ n6_; clear hb Eh
             refine hK.out _ _ ⟨(Cmp.c0 D0 :), (Cmp.c1 D0 :), (Cmp.c2 D0 :)⟩ (fun hHeld => ?_)
             clear hK K
             refine norm_ (a' := ?_) ?_ ?_
             rotate_left
             ·show Act.put _ (some 43) _ = _
              simp only [Act.put, Cmp.s, Cmp.z, Cmp.c, i64_w, i32_w]; rfl
             exact norm_ (by simp only [putAll, Act.put, List.setIfInBounds_toArray, List.set_cons_zero, List.set_cons_succ]) (hCont (v447, v454, v457) _ ⟨hHeld, (by (with_reducible repeat (first | apply Kd.R_alloc | apply Kd.R_drewN | apply Kd.R_drew)); exact Kd.R_mono D3.out (fun _ hk => ⟨hk.1.2, hk.2⟩)), (Cmp.rr D9.out), (by (with_reducible repeat (first | apply Kd.R_alloc | apply Kd.R_drewN | apply Kd.R_drew)); exact Kd.R_mono D5.out (fun _ hk => ⟨hk.1.2, hk.2⟩)), (Cmp.b D0.out), (Cmp.b D1.out), (Cmp.b D2.out), (Cmp.g HB.out)⟩)
            ·skip
             refine Kd.R_lit_step k35 _ 35 ?hg (N := 43) ?hd (xs := ([(⟨a1, a2, 0, false⟩ : S35)] : List (S35))) (inner := [.int .i64 a1, .int .i64 a2, .int .i64 0, .bool false]) (ok := fun _ => True) (okp := fun _ => True) ?hr ?hp (fun _ hk => hk) trivial (Below.refl _ _) (Nat.le_refl _) (by simp) ?_; (case hd => rfl); (case hg => rfl); (case hr => first | (go_simp; done) | (go_simp; rfl)); (case hp => exact (Reps.c4 (show Kd.M k35 _ _ _ (⟨a1, a2, 0, false⟩ : S35) [.int .i64 a1, .int .i64 a2, .int .i64 0, .bool false] from (k35_mkM _ _ _ (⟨a1, a2, 0, false⟩ : S35) )) (Reps.none _ _)))
             intro v457 w73 E4 hb hg_ hnew_
             clear hg_ hnew_
             (first | rw [← Dv.out] at E4 | (simp only [Int.reduceToNat] at E4; rw [← Dv.out] at E4))
             have n0_ := Aside0.mk (Kd.R_elder' (Cmp.rr D3.out) (Kd.R_base E4) hb)
             have n1_ := Aside0.mk (Kd.R_elder' (Cmp.rr D8.out) (Kd.R_base E4) hb)
             have n2_ := Aside0.mk (Kd.R_lower (Kd.R_new' (Kd.R_new' E4 (Kd.R_lt (Cmp.rr D3.out))) (Kd.R_lt (Cmp.rr D8.out))) (below_size (Cmp.g HB.out)))
             have n3_ := Cmp.be D0 hb
             have n4_ := Cmp.be D1 hb
             have n5_ := Cmp.be D2 hb
             have n6_ := Aside0.mk (below_step (Cmp.g HB.out) hb)
             clear D3; clear D8; clear D0; clear D1; clear D2; clear HB; have D3 := n0_; have D8 := n1_; have D5 := n2_; have D0 := n3_; have D1 := n4_; have D2 := n5_; have HB := n6_; clear n0_ n1_ n2_ n3_ n4_ n5_ n6_; clear hb E4
             refine hK.out _ _ ⟨(Cmp.c0 D0 :), (Cmp.c1 D0 :), (Cmp.c2 D0 :)⟩ (fun hHeld => ?_)
             clear hK K
             refine norm_ (a' := ?_) ?_ ?_
             rotate_left
             ·show Act.put _ (some 43) _ = _
              simp only [Act.put, Cmp.s, Cmp.z, Cmp.c, i64_w, i32_w]; rfl
             refine one_ (i := 5) (N := some 39) (Cmp.bb 18 31743) rfl rfl (one_of HT_.out (by kernel_rfl)) (by decide) (fun K hK => ?_)
             refine Kd.R_append_rows_step k35 (w0 := w) w.heap.size (by rfl) (.tmp 34) (.tmp 38) 24 35 (.agg #[(.int .i64 0), (.int .i64 0), (.int .i64 0), (.bool false)]) 32 rfl Try.underlying24 info35 rfl (by decide) (by omega) v447 E9 Dy _ _ _ (fun k_ => some k_ ≠ (.slice Dl D7.length Dn : Value).ownBlock ∧ some k_ ≠ (v457 : Value).ownBlock) (fun _ => False) rfl rfl ?aO ?aR (fun _ _ h => h) (fun _ h => h.elim) ?aF ?aB ?aS ?aL ?_
             (case aR => repeat (first | exact (Kd.C_below HR452.out HB.out) | (with_reducible refine Kd.C_alloc ?_ _) | (with_reducible refine Kd.C_drewN ?_ _) | (with_reducible refine Kd.C_drew ?_)))
             (case aB => exact (Cmp.g HB.out))
             (case aF => exact (fun k_ hk => ⟨Kd.fresh' (Kd.R_lt (Cmp.rr D3.out)) k_ hk, Kd.fresh' (Kd.R_lt (Cmp.rr D5.out)) k_ hk⟩))
             (case aO => exact (by (with_reducible repeat (first | apply Kd.R_alloc | apply Kd.R_drewN | apply Kd.R_drew)); exact Kd.R_mono D8.out (fun _ hk => ⟨hk.1.2, hk.2⟩)))
             (case aS => exact (below_size (Cmp.g HB.out)))
             (case aL => have := LMc24.out; omega)
             intro v454 w75 ho hb hg hat
             rw [← Ea.out] at ho
             have n0_ := Cmp.bg D0 hg (Kd.R_ne D8.out D0.out (by decide))
             have n1_ := Cmp.bg D1 hg (Kd.R_ne D8.out D1.out (by decide))
             have n2_ := Aside0.mk (Kd.R_after (ok := (fun k_ => some k_ ≠ (v457 : Value).ownBlock)) (by (with_reducible repeat (first | apply Kd.R_alloc | apply Kd.R_drewN | apply Kd.R_drew)); exact Kd.R_mono D3.out (fun _ hk => ⟨hk.2, hk.1.2⟩)) hg hat)
             have n3_ := Cmp.bg D2 hg (Kd.R_ne D8.out D2.out (by decide))
             have n4_ := Aside0.mk (Kd.R_after (ok := (fun k_ => some k_ ≠ (.slice Dl D7.length Dn : Value).ownBlock)) (by (with_reducible repeat (first | apply Kd.R_alloc | apply Kd.R_drewN | apply Kd.R_drew)); exact Kd.R_mono D5.out (fun _ hk => ⟨hk.1.2, hk.2⟩)) hg hat)
             have n5_ := Aside0.mk (hb)
             have n6_ := Aside0.mk (ho)
             clear D0; clear D1; clear D3; clear D2; clear D5; clear HB; clear D8; have D0 := n0_; have D1 := n1_; have D3 := n2_; have D2 := n3_; have D5 := n4_; have HB := n5_; have D9 := n6_; clear n0_ n1_ n2_ n3_ n4_ n5_ n6_; clear ho hb hg hat
             refine hK.out _ _ ⟨(Cmp.c0 D0 :), (Cmp.c1 D0 :), (Cmp.c2 D0 :)⟩ (fun hHeld => ?_)
             clear hK K
             refine norm_ (a' := ?_) ?_ ?_
             rotate_left
             ·show Act.put _ (some 39) _ = _
              simp only [Act.put, Cmp.s, Cmp.z, Cmp.c, i64_w, i32_w]; rfl
             exact norm_ (by simp only [putAll, Act.put, List.setIfInBounds_toArray, List.set_cons_zero, List.set_cons_succ]) (hCont (v447, v454, v457) _ ⟨hHeld, (by (with_reducible repeat (first | apply Kd.R_alloc | apply Kd.R_drewN | apply Kd.R_drew)); exact Kd.R_mono D3.out (fun _ hk => ⟨hk.2, hk.1⟩)), (Cmp.rr D9.out), (Cmp.rr D5.out), (Cmp.b D0.out), (Cmp.b D1.out), (Cmp.b D2.out), (Cmp.g HB.out)⟩)
           ·skip
            refine Kd.R_lit_step k35 _ 35 ?hg (N := 43) ?hd (xs := ([(⟨a1, a2, 0, false⟩ : S35)] : List (S35))) (inner := [.int .i64 a1, .int .i64 a2, .int .i64 0, .bool false]) (ok := fun _ => True) (okp := fun _ => True) ?hr ?hp (fun _ hk => hk) trivial (Below.refl _ _) (Nat.le_refl _) (by simp) ?_; (case hd => rfl); (case hg => rfl); (case hr => first | (go_simp; done) | (go_simp; rfl)); (case hp => exact (Reps.c4 (show Kd.M k35 _ _ _ (⟨a1, a2, 0, false⟩ : S35) [.int .i64 a1, .int .i64 a2, .int .i64 0, .bool false] from (k35_mkM _ _ _ (⟨a1, a2, 0, false⟩ : S35) )) (Reps.none _ _)))
            intro v457 w71 E7 hb hg_ hnew_
            clear hg_ hnew_
            (first | rw [← Dv.out] at E7 | (simp only [Int.reduceToNat] at E7; rw [← Dv.out] at E7))
            have n0_ := Aside0.mk (Kd.R_elder' (Cmp.rr D3.out) (Kd.R_base E7) hb)
            have n1_ := Aside0.mk (Kd.R_lower (Kd.R_new' E7 (Kd.R_lt (Cmp.rr D3.out))) (below_size (Cmp.g HB.out)))
            have n2_ := Cmp.be D0 hb
            have n3_ := Cmp.be D1 hb
            have n4_ := Cmp.be D2 hb
            have n5_ := Aside0.mk (below_step (Cmp.g HB.out) hb)
            clear D3; clear D0; clear D1; clear D2; clear HB; have D3 := n0_; have D5 := n1_; have D0 := n2_; have D1 := n3_; have D2 := n4_; have HB := n5_; clear n0_ n1_ n2_ n3_ n4_ n5_; clear hb E7
            refine hK.out _ _ ⟨(Cmp.c0 D0 :), (Cmp.c1 D0 :), (Cmp.c2 D0 :)⟩ (fun hHeld => ?_)
            clear hK K
            refine norm_ (a' := ?_) ?_ ?_
            rotate_left
            ·show Act.put _ (some 43) _ = _
             simp only [Act.put, Cmp.s, Cmp.z, Cmp.c, i64_w, i32_w]; rfl
            refine one_ (i := 0) (N := some 34) (Cmp.bb 18 31711) rfl rfl (one_of HT_.out (by kernel_rfl)) (by decide) (fun K hK => ?_)
            refine Kd.R_lit_step k35 _ 35 ?hg (N := 34) ?hd (xs := ([] : List (S35))) (inner := []) (ok := fun _ => True) (okp := fun _ => True) ?hr ?hp (fun _ hk => hk) trivial (Below.refl _ _) (Nat.le_refl _) (by simp) ?_; (case hd => rfl); (case hg => rfl); (case hr => first | (go_simp; done) | (go_simp; rfl)); (case hp => exact (Reps.none _ _))
            intro v447 w73 E4 hb hg_ hnew_
            clear hg_ hnew_
            (first | rw [← E8.out] at E4 | (simp only [Int.reduceToNat] at E4; rw [← E8.out] at E4))
            have n0_ := Aside0.mk (Kd.R_elder' (Cmp.rr D3.out) (Kd.R_base E4) hb)
            have n1_ := Aside0.mk (Kd.R_elder' (Cmp.rr D5.out) (Kd.R_base E4) hb)
            have n2_ := Aside0.mk (Kd.R_lower (Kd.R_new' (Kd.R_new' E4 (Kd.R_lt (Cmp.rr D3.out))) (Kd.R_lt (Cmp.rr D5.out))) (below_size (Cmp.g HB.out)))
            have n3_ := Cmp.be D0 hb
            have n4_ := Cmp.be D1 hb
            have n5_ := Cmp.be D2 hb
            have n6_ := Aside0.mk (below_step (Cmp.g HB.out) hb)
            clear D3; clear D5; clear D0; clear D1; clear D2; clear HB; have D3 := n0_; have D5 := n1_; have D8 := n2_; have D0 := n3_; have D1 := n4_; have D2 := n5_; have HB := n6_; clear n0_ n1_ n2_ n3_ n4_ n5_ n6_; clear hb E4
            refine hK.out _ _ ⟨(Cmp.c0 D0 :), (Cmp.c1 D0 :), (Cmp.c2 D0 :)⟩ (fun hHeld => ?_)
            clear hK K
            refine norm_ (a' := ?_) ?_ ?_
            rotate_left
            ·show Act.put _ (some 34) _ = _
             simp only [Act.put, Cmp.s, Cmp.z, Cmp.c, i64_w, i32_w]; rfl
            refine one_ (i := 5) (N := some 39) (Cmp.bb 18 31743) rfl rfl (one_of HT_.out (by kernel_rfl)) (by decide) (fun K hK => ?_)
            refine Kd.R_append_rows_step k35 (w0 := w) w.heap.size (by rfl) (.tmp 34) (.tmp 38) 24 35 (.agg #[(.int .i64 0), (.int .i64 0), (.int .i64 0), (.bool false)]) 32 rfl Try.underlying24 info35 rfl (by decide) (by omega) v447 E9 Dy _ _ _ (fun k_ => some k_ ≠ (.slice Dl D7.length Dn : Value).ownBlock ∧ some k_ ≠ (v457 : Value).ownBlock) (fun _ => False) rfl rfl ?aO ?aR (fun _ _ h => h) (fun _ h => h.elim) ?aF ?aB ?aS ?aL ?_
            (case aR => repeat (first | exact (Kd.C_below HR452.out HB.out) | (with_reducible refine Kd.C_alloc ?_ _) | (with_reducible refine Kd.C_drewN ?_ _) | (with_reducible refine Kd.C_drew ?_)))
            (case aB => exact (Cmp.g HB.out))
            (case aF => exact (fun k_ hk => ⟨Kd.fresh' (Kd.R_lt (Cmp.rr D3.out)) k_ hk, Kd.fresh' (Kd.R_lt (Cmp.rr D5.out)) k_ hk⟩))
            (case aO => exact (by (with_reducible repeat (first | apply Kd.R_alloc | apply Kd.R_drewN | apply Kd.R_drew)); exact Kd.R_mono D8.out (fun _ hk => ⟨hk.1.2, hk.2⟩)))
            (case aS => exact (below_size (Cmp.g HB.out)))
            (case aL => have := LMc24.out; omega)
            intro v454 w75 ho hb hg hat
            rw [← Ea.out] at ho
            have n0_ := Cmp.bg D0 hg (Kd.R_ne D8.out D0.out (by decide))
            have n1_ := Cmp.bg D1 hg (Kd.R_ne D8.out D1.out (by decide))
            have n2_ := Aside0.mk (Kd.R_after (ok := (fun k_ => some k_ ≠ (v457 : Value).ownBlock)) (by (with_reducible repeat (first | apply Kd.R_alloc | apply Kd.R_drewN | apply Kd.R_drew)); exact Kd.R_mono D3.out (fun _ hk => ⟨hk.1.2, hk.2⟩)) hg hat)
            have n3_ := Cmp.bg D2 hg (Kd.R_ne D8.out D2.out (by decide))
            have n4_ := Aside0.mk (Kd.R_after (ok := (fun k_ => some k_ ≠ (.slice Dl D7.length Dn : Value).ownBlock)) (by (with_reducible repeat (first | apply Kd.R_alloc | apply Kd.R_drewN | apply Kd.R_drew)); exact Kd.R_mono D5.out (fun _ hk => ⟨hk.1.2, hk.2⟩)) hg hat)
            have n5_ := Aside0.mk (hb)
            have n6_ := Aside0.mk (ho)
            clear D0; clear D1; clear D3; clear D2; clear D5; clear HB; clear D8; have D0 := n0_; have D1 := n1_; have D3 := n2_; have D2 := n3_; have D5 := n4_; have HB := n5_; have D9 := n6_; clear n0_ n1_ n2_ n3_ n4_ n5_ n6_; clear ho hb hg hat
            refine hK.out _ _ ⟨(Cmp.c0 D0 :), (Cmp.c1 D0 :), (Cmp.c2 D0 :)⟩ (fun hHeld => ?_)
            clear hK K
            refine norm_ (a' := ?_) ?_ ?_
            rotate_left
            ·show Act.put _ (some 39) _ = _
             simp only [Act.put, Cmp.s, Cmp.z, Cmp.c, i64_w, i32_w]; rfl
            exact norm_ (by simp only [putAll, Act.put, List.setIfInBounds_toArray, List.set_cons_zero, List.set_cons_succ]) (hCont (v447, v454, v457) _ ⟨hHeld, (by (with_reducible repeat (first | apply Kd.R_alloc | apply Kd.R_drewN | apply Kd.R_drew)); exact Kd.R_mono D3.out (fun _ hk => ⟨hk.2, hk.1⟩)), (Cmp.rr D9.out), (Cmp.rr D5.out), (Cmp.b D0.out), (Cmp.b D1.out), (Cmp.b D2.out), (Cmp.g HB.out)⟩)
          rintro ⟨v447, v454, v457⟩ w76 ⟨hS_, h0_, h1_, h2_, h3_, h4_, h5_, h6_⟩
          have n0_ : Aside0 (Kd.R k35 35 w76 w.heap.size (fun k_ => some k_ ≠ (v454 : Value).ownBlock ∧ some k_ ≠ (v457 : Value).ownBlock) (.slice Dl D7.length Dn) D7) := ⟨h0_⟩
          have n1_ : Aside0 (Kd.R k35 35 w76 w.heap.size (fun k_ => some k_ ≠ (.slice Dl D7.length Dn : Value).ownBlock ∧ some k_ ≠ (v457 : Value).ownBlock) v454 Dw) := ⟨h1_⟩
          have n2_ : Aside0 (Kd.R k35 35 w76 w.heap.size (fun k_ => some k_ ≠ (.slice Dl D7.length Dn : Value).ownBlock ∧ some k_ ≠ (v454 : Value).ownBlock) v457 Dj) := ⟨h2_⟩
          have n3_ : Aside0 (w76.heap[D6]? = some (.cells #[.int .i64 a0_0, .int .i64 a0_1, .slice A0_2 l0_2.length c0_2] 26 (0, 0))) := ⟨h3_⟩
          have n4_ : Aside0 (w76.heap[Df]? = some (.cells #[.int .i64 0, .int .i64 0, .slice none 0 0] 26 (0, 0))) := ⟨h4_⟩
          have n5_ : Aside0 (w76.heap[D4]? = some (.cells #[.int .i64 Db, .int .i64 Dc, .slice Dl D7.length Dn] 26 (0, 0))) := ⟨h5_⟩
          have n6_ : Aside0 (Below w.heap.size w w76) := ⟨h6_⟩
          clear D3; clear D0; clear D1; clear D2; clear HB; clear h0_ h1_ h2_ h3_ h4_ h5_ h6_; have D3 := n0_; have D9 := n1_; have D5 := n2_; have D0 := n3_; have D1 := n4_; have D2 := n5_; have HB := n6_; clear n0_ n1_ n2_ n3_ n4_ n5_ n6_
          have hHeld : w76.cell? ⟨D6, 0, none⟩ = some (.int .i64 a0_0) ∧ w76.cell? ⟨D6, 1, none⟩ = some (.int .i64 a0_1) ∧ w76.cell? ⟨D6, 2, none⟩ = some (.slice A0_2 l0_2.length c0_2) := hS_
          obtain ⟨Ev, Ex, Gi⟩ := Kd.R_slice D5.out
          (first | subst Gi | (injection Gi with f1_ f2_ f3_; have f4_ := f1_.symm; have f5_ := f3_.symm; clear f1_ f2_ f3_; subst f4_; subst f5_))
          refine norm_ (a' := ?_) ?_ ?_
          rotate_left
          ·simp only [putAll, Act.put, List.setIfInBounds_toArray, List.set_cons_zero, List.set_cons_succ]; rfl
          refine one_ (i := 10) (N := some 44) (Cmp.bm 15 3) rfl rfl (one_of HT_.out (by kernel_rfl)) (by decide) (fun K hK => ?_)
          refine Kd.R_append_rows_step k35 (w0 := w) w.heap.size (by rfl) (.tmp 39) (.tmp 43) 24 35 (.agg #[(.int .i64 0), (.int .i64 0), (.int .i64 0), (.bool false)]) 32 rfl Try.underlying24 info35 rfl (by decide) (by omega) v454 Dw Dj _ _ _ (fun k_ => some k_ ≠ (.slice Dl D7.length Dn : Value).ownBlock ∧ some k_ ≠ (.slice Ev Dj.length Ex : Value).ownBlock) (fun _ => False) rfl rfl ?aO ?aR (fun _ _ h => h) (fun _ h => h.elim) ?aF ?aB ?aS ?aL ?_
          (case aR => repeat (first | exact (Kd.R_reads' D5.out).2.2 | (with_reducible refine Kd.C_alloc ?_ _) | (with_reducible refine Kd.C_drewN ?_ _) | (with_reducible refine Kd.C_drew ?_)))
          (case aB => exact (Cmp.g HB.out))
          (case aF => exact (fun k_ hk => ⟨Kd.fresh' (Kd.R_lt (Cmp.rr D3.out)) k_ hk, Kd.fresh' (Kd.R_lt (Cmp.rr D5.out)) k_ hk⟩))
          (case aO => exact (Cmp.rr D9.out))
          (case aS => exact (below_size (Cmp.g HB.out)))
          (case aL => have := LMc25.out; omega)
          intro v460 w77 ho hb hg hat
          rw [← Fi.out] at ho
          have n0_ := Cmp.bg D0 hg (Kd.R_ne D9.out D0.out (by decide))
          have n1_ := Cmp.bg D1 hg (Kd.R_ne D9.out D1.out (by decide))
          have n2_ := Aside0.mk (Kd.R_after (ok := (fun k_ => some k_ ≠ (.slice Ev Dj.length Ex : Value).ownBlock)) (by (with_reducible repeat (first | apply Kd.R_alloc | apply Kd.R_drewN | apply Kd.R_drew)); exact Kd.R_mono D3.out (fun _ hk => ⟨hk.2, hk.1⟩)) hg hat)
          have n3_ := Cmp.bg D2 hg (Kd.R_ne D9.out D2.out (by decide))
          have n4_ := Aside0.mk (Kd.R_after (ok := (fun k_ => some k_ ≠ (.slice Dl D7.length Dn : Value).ownBlock)) (Cmp.rr D5.out) hg hat)
          have n5_ := Aside0.mk (hb)
          have n6_ := Aside0.mk (ho)
          clear D0; clear D1; clear D3; clear D2; clear D5; clear HB; clear D9; have D0 := n0_; have D1 := n1_; have D3 := n2_; have D2 := n3_; have D5 := n4_; have HB := n5_; have Dx := n6_; clear n0_ n1_ n2_ n3_ n4_ n5_ n6_; clear ho hb hg hat
          refine hK.out _ _ ⟨(Cmp.c0 D0 :), (Cmp.c1 D0 :), (Cmp.c2 D0 :)⟩ (fun hHeld => ?_)
          clear hK K
          refine norm_ (a' := ?_) ?_ ?_
          rotate_left
          ·show Act.put _ (some 44) _ = _
           simp only [Act.put, Cmp.s, Cmp.z, Cmp.c, i64_w, i32_w]; rfl
          refine one_ (i := 15) (N := some 49) (Cmp.bm 16 2) rfl rfl (one_of HT_.out (by kernel_rfl)) (by decide) (fun K hK => ?_)
          refine Kd.R_append_rows_step k35 (w0 := w) w.heap.size (by rfl) (.tmp 44) (.tmp 48) 24 35 (.agg #[(.int .i64 0), (.int .i64 0), (.int .i64 0), (.bool false)]) 32 rfl Try.underlying24 info35 rfl (by decide) (by omega) v460 Dt Dg _ _ _ (fun k_ => some k_ ≠ (.slice Dl D7.length Dn : Value).ownBlock ∧ some k_ ≠ (.slice Ev Dj.length Ex : Value).ownBlock) (fun _ => False) rfl rfl ?aO ?aR (fun _ _ h => h) (fun _ h => h.elim) ?aF ?aB ?aS ?aL ?_
          (case aR => repeat (first | exact (Kd.C_below HR465.out HB.out) | (with_reducible refine Kd.C_alloc ?_ _) | (with_reducible refine Kd.C_drewN ?_ _) | (with_reducible refine Kd.C_drew ?_)))
          (case aB => exact (Cmp.g HB.out))
          (case aF => exact (fun k_ hk => ⟨Kd.fresh' (Kd.R_lt (Cmp.rr D3.out)) k_ hk, Kd.fresh' (Kd.R_lt (Cmp.rr D5.out)) k_ hk⟩))
          (case aO => exact (Cmp.rr Dx.out))
          (case aS => exact (below_size (Cmp.g HB.out)))
          (case aL => have := LMc28.out; omega)
          intro v467 w79 ho hb hg hat
          rw [← Fj.out] at ho
          have n0_ := Cmp.bg D0 hg (Kd.R_ne Dx.out D0.out (by decide))
          have n1_ := Cmp.bg D1 hg (Kd.R_ne Dx.out D1.out (by decide))
          have n2_ := Aside0.mk (Kd.R_after (ok := (fun k_ => some k_ ≠ (.slice Ev Dj.length Ex : Value).ownBlock)) (Cmp.rr D3.out) hg hat)
          have n3_ := Cmp.bg D2 hg (Kd.R_ne Dx.out D2.out (by decide))
          have n4_ := Aside0.mk (Kd.R_after (ok := (fun k_ => some k_ ≠ (.slice Dl D7.length Dn : Value).ownBlock)) (Cmp.rr D5.out) hg hat)
          have n5_ := Aside0.mk (hb)
          have n6_ := Aside0.mk (ho)
          clear D0; clear D1; clear D3; clear D2; clear D5; clear HB; clear Dx; have D0 := n0_; have D1 := n1_; have D3 := n2_; have D2 := n3_; have D5 := n4_; have HB := n5_; have Do := n6_; clear n0_ n1_ n2_ n3_ n4_ n5_ n6_; clear ho hb hg hat
          obtain ⟨Et, Ef, Gj⟩ := Kd.R_slice Do.out
          (first | subst Gj | (injection Gj with f1_ f2_ f3_; have f4_ := f1_.symm; have f5_ := f3_.symm; clear f1_ f2_ f3_; subst f4_; subst f5_))
          refine hK.out _ _ ⟨(Cmp.c0 D0 :), (Cmp.c1 D0 :), (Cmp.c2 D0 :)⟩ (fun hHeld => ?_)
          clear hK K
          refine norm_ (a' := ?_) ?_ ?_
          rotate_left
          ·show Act.put _ (some 49) _ = _
           simp only [Act.put, Cmp.s, Cmp.z, Cmp.c, i64_w, i32_w]; rfl
          refine Cmp.pu HT_ 16 50 (Cmp.bm 17 1) ?_
          refine one_ (i := 17) (N := none) (Cmp.bm 18 0) rfl rfl (one_of HT_.out (by kernel_rfl)) (by decide) (fun K hK => ?_)
          have hs81 : w79.cell? ⟨D4, 2, none⟩ = some (.slice Dl D7.length Dn) := (blk_cell D2.out 2).trans rfl
          have hfs81 := blk_frozen D2.out 2; have hns81_0 := Dd.out; have hns81_1 := Dp.out; have hms81_0 := Dq.out; have hms81_1 := Dr.out
          refine skip_ (w1 := ?_) (by rfl) rfl ?_ ?_
          rotate_left
          ·go_simp; rfl
          refine hK.out _ _ ⟨((cell_far (p := ⟨D4, _, none⟩) Dd.out _).trans (hHeld.1)), ((cell_far (p := ⟨D4, _, none⟩) Dd.out _).trans (hHeld.2.1)), ((cell_far (p := ⟨D4, _, none⟩) Dd.out _).trans (hHeld.2.2))⟩ (fun hHeld => ?_)
          clear hK K
          refine done_ (done_of HT_.out (by kernel_rfl)) ?_
          have J9 := Cmp.c0 D2
          have Ja := Cmp.c1 D2
          have Jb := Cmp.c2 D2
          have Kc := blk_frozen D2.out 0; have Ke := blk_frozen D2.out 1; have Kf := blk_frozen D2.out 2
          try go_wp2_with (first | ((with_reducible refine gate_callee (f := 16) rfl ?_); refine goesL_ (some 52) rfl rfl Try.func16 (by kernel_rfl) rfl #[.agg #[.int .i64 Db, .int .i64 Dc, .slice Et De.length Ef]] rfl Cmp.q ?_; (with_reducible refine (impl_IsValidAccount.calls kj5 Db Dc _ _ De false _ ?side1 ?side2 L0.out).mono ?_); (case side1 => refine (Kd.R_reads' (e := 35) (base := w.heap.size) (ok := fun k_ => (some k_ ≠ (.slice Dl D7.length Dn : Value).ownBlock ∧ some k_ ≠ (.slice Ev Dj.length Ex : Value).ownBlock)) (n := De.length) (c := Ef) ?_).2.2; exact (by (with_reducible repeat (first | apply Kd.R_alloc | apply Kd.R_drewN | apply Kd.R_drew)); exact (Kd.R_mono (Kd.R_far (p := ⟨D4, 2, none⟩) (Kd.R_types Do.out D2.out (by decide)) (fun _ hk => hk.2) (.slice Et De.length Ef)) (fun _ h_ => h_.1)))); (case side2 => exact (Kd.R_reads' Do.out).2.1); rintro e w83 ⟨rfl, hb⟩; refine ⟨_, rfl, ?_⟩; replace D3 := Aside0.mk (Kd.R_below (by (with_reducible repeat (first | apply Kd.R_alloc | apply Kd.R_drewN | apply Kd.R_drew)); exact (Kd.R_mono (Kd.R_far (p := ⟨D4, 2, none⟩) (Kd.R_types D3.out D2.out (by decide)) (fun _ hk => hk.2) (.slice Et De.length Ef)) (fun _ h_ => h_.1))) hb); replace D5 := Aside0.mk (Kd.R_below (by (with_reducible repeat (first | apply Kd.R_alloc | apply Kd.R_drewN | apply Kd.R_drew)); exact (Kd.R_mono (Kd.R_far (p := ⟨D4, 2, none⟩) (Kd.R_types D5.out D2.out (by decide)) (fun _ hk => hk.2) (.slice Et De.length Ef)) (fun _ h_ => h_.1))) hb); replace Do := Aside0.mk (Kd.R_below (by (with_reducible repeat (first | apply Kd.R_alloc | apply Kd.R_drewN | apply Kd.R_drew)); exact (Kd.R_mono (Kd.R_far (p := ⟨D4, 2, none⟩) (Kd.R_types Do.out D2.out (by decide)) (fun _ hk => hk.2) (.slice Et De.length Ef)) (fun _ h_ => h_.1))) hb); replace D0 := Aside0.mk (blk_below (g := D6) (o := .cells #[.int .i64 a0_0, .int .i64 a0_1, .slice A0_2 l0_2.length c0_2] 26 (0, 0)) (Cmp.bw D0.out) hb); replace D1 := Aside0.mk (blk_below (g := Df) (o := .cells #[.int .i64 0, .int .i64 0, .slice none 0 0] 26 (0, 0)) (Cmp.bw D1.out) hb); replace D2 := Aside0.mk (blk_below (g := D4) (o := .cells #[.int .i64 Db, .int .i64 Dc, .slice Et De.length Ef] 26 (0, 0)) (Cmp.bw D2.out) hb); replace HB := Cmp.bs HB hb; (try clear hb); (try clear hb2); (try clear hk); (try clear hi); have Jc := Cmp.c0 D0; have Jd := Cmp.c1 D0; have Je := Cmp.c2 D0; have Kg := blk_frozen D0.out 0; have Kh := blk_frozen D0.out 1; have Ki := blk_frozen D0.out 2) | ((with_reducible refine gate_callee (f := 56) rfl ?_); refine goesL_ (some 55) rfl rfl Try.func56 (by kernel_rfl) rfl #[.agg #[.int .i64 a0_0, .int .i64 a0_1, .slice A0_2 l0_2.length c0_2]] rfl Cmp.q ?_; (with_reducible refine (impl_copyAccount.calls a0_0 a0_1 _ _ l0_2 Fw Fx Fy _ ?side1 ?side2 Ln.out).mono ?_); (case side1 => exact Cmp.rc (Kd.C_below Du.out HB.out)); (case side2 => exact HC0_2.out); rintro e w85 ⟨v473, rfl, Eq, hb⟩; refine ⟨_, rfl, ?_⟩; have Fh := Aside0.mk (Kd.R_lower (Kd.R_new' (Kd.R_new' (Kd.R_new' Eq (Kd.R_lt (Cmp.rr D3.out))) (Kd.R_lt (Cmp.rr D5.out))) (Kd.R_lt (Cmp.rr Do.out))) (below_size (Cmp.g HB.out))); replace D3 := Aside0.mk (Kd.R_elder' (Cmp.rr D3.out) (Kd.R_base Eq) hb); replace D5 := Aside0.mk (Kd.R_elder' (Cmp.rr D5.out) (Kd.R_base Eq) hb); replace Do := Aside0.mk (Kd.R_elder' (Cmp.rr Do.out) (Kd.R_base Eq) hb); replace D0 := Cmp.be D0 hb; replace D1 := Cmp.be D1 hb; replace D2 := Cmp.be D2 hb; replace HB := Cmp.bs HB hb; (try clear hb); (try clear hb2); (try clear hk); (try clear hi); (try clear Eq); have Jf := Cmp.c0 D1; have Jg := Cmp.c1 D1; have Jh := Cmp.c2 D1; have Kj := blk_frozen D1.out 0; have Kk := blk_frozen D1.out 1; have Kl := blk_frozen D1.out 2; obtain ⟨G3, Ge, Kx⟩ := Kd.R_slice Fh.out; subst Kx))
          refine bodyPost_ret (results_ct rfl _ _ Df 26 #[.int .i64 Fw, .int .i64 Fx, .slice G3 Fy.length Ge] (0, 0) _ rfl (Cmp.bw D1.out) Try.underlying26 rfl (by kernel_rfl)) rfl ?_
          exact ⟨_, by first | rfl | (simp [errW_none, errW_some] <;> rfl) | (simp [*, errW_none, errW_some] <;> rfl), by (with_reducible repeat (first | apply Kd.R_alloc | apply Kd.R_drewN | apply Kd.R_drew)); exact Kd.R_mono (Kd.R_far (p := ⟨Df, 2, none⟩) (Kd.R_far (p := ⟨Df, 1, none⟩) (Kd.R_far (p := ⟨Df, 0, none⟩) (Kd.R_types Fh.out D1.out (by decide)) (fun _ hk => hk.2) (.int .i64 Fw)) (fun _ hk => hk.2) (.int .i64 Fx)) (fun _ hk => hk.2) (.slice G3 Fy.length Ge)) (fun _ hk => trivial), Cmp.g HB.out⟩
        ·rw [if_neg c28] at H; exact absurd H (by simp)
       ·rw [if_neg c25] at H; exact absurd H (by simp)
      ·rw [if_neg c24] at H; exact absurd H (by simp)
     ·rw [if_neg c23] at H; exact absurd H (by simp)
    ·rw [if_neg c22] at H; exact absurd H (by simp)
 ·replace c5 := Bool.eq_false_iff.mpr c5
  subst c5
  have H1 : ((impl_copyAccount.f a0_0 a0_1 l0_2).bind fun bt434 => (some (bt434.1, bt434.2.1, bt434.2.2, false))) = some (r1, r2, r3, r4) := by rw [if_neg (show ¬ (false = true) by decide)] at H; exact H
  clear H; have H := H1; clear H1; replace H := Option.bind_eq_some_iff.mp H; obtain ⟨⟨Ft, Fu, Fv⟩, G2, H⟩ := H; (try dsimp only at H); have Lp := Aside0.mk G2; clear G2
  simp only [Option.some.injEq, Prod.mk.injEq] at H
  obtain ⟨rfl, rfl, rfl, rfl⟩ := H
  go_enter Try.func11, Try.ntmps11
  go_wp2_with (first | ((with_reducible refine gate_dst (N := 3) rfl ?_); refine box_event ?hg (N := 3) ?hd (cs := #[.int .i64 a0_0, .int .i64 a0_1, .slice A0_2 l0_2.length c0_2]) (t := 26) ?hr ?_; (case hd => rfl); (case hg => rfl); (case hr => first | (go_simp; done) | (go_simp; rfl)); intro D6 hg w89 hbox hb; have D0 := Aside0.mk (hbox); have G8 := Cmp.gw hg HB; have G5 := Cmp.gw hg HB; replace HB := Cmp.bs HB hb; clear hb hbox hg) | ((with_reducible refine gate_dst (N := 6) rfl ?_); refine box_event ?hg (N := 6) ?hd (cs := #[.int .i64 0, .int .i64 0, .slice none 0 0]) (t := 26) ?hr ?_; (case hd => rfl); (case hg => rfl); (case hr => first | (go_simp; done) | (go_simp; rfl)); intro Df hg w90 hbox hb; have D1 := Aside0.mk (hbox); have G9 := Cmp.gw hg HB; have G6 := Cmp.gw hg HB; have Dh := Cmp.nl hg D0; have Di := Cmp.ng hg D0; replace D0 := Cmp.be D0 hb; replace HB := Cmp.bs HB hb; clear hb hbox hg; have Lb := Dh.out; have Ll := Di.out; have Ji := Cmp.c0 D0; have Jj := Cmp.c1 D0; have Jk := Cmp.c2 D0; have Km := blk_frozen D0.out 0; have Kn := blk_frozen D0.out 1; have Ko := blk_frozen D0.out 2) | ((with_reducible refine gate_callee (f := 16) rfl ?_); refine goesL_ (some 11) rfl rfl Try.func16 (by kernel_rfl) rfl #[.agg #[.int .i64 a0_0, .int .i64 a0_1, .slice A0_2 l0_2.length c0_2]] rfl Cmp.q ?_; (with_reducible refine (impl_IsValidAccount.calls k a0_0 a0_1 _ _ l0_2 false _ ?side1 ?side2 A4.out).mono ?_); (case side1 => exact Cmp.rc (Kd.C_below Du.out HB.out)); (case side2 => exact HC0_2.out); rintro e w93 ⟨rfl, hb⟩; refine ⟨_, rfl, ?_⟩; replace D0 := Cmp.be D0 hb; replace D1 := Cmp.be D1 hb; replace HB := Cmp.bs HB hb; (try clear hb); (try clear hb2); (try clear hk); (try clear hi); have Jl := Cmp.c0 D0; have Jm := Cmp.c1 D0; have Jn := Cmp.c2 D0; have Kp := blk_frozen D0.out 0; have Kq := blk_frozen D0.out 1; have Kr := blk_frozen D0.out 2) | ((with_reducible refine gate_callee (f := 56) rfl ?_); refine goesL_ (some 14) rfl rfl Try.func56 (by kernel_rfl) rfl #[.agg #[.int .i64 a0_0, .int .i64 a0_1, .slice A0_2 l0_2.length c0_2]] rfl Cmp.q ?_; (with_reducible refine (impl_copyAccount.calls a0_0 a0_1 _ _ l0_2 Ft Fu Fv _ ?side1 ?side2 Lp.out).mono ?_); (case side1 => exact Cmp.rc (Kd.C_below Du.out HB.out)); (case side2 => exact HC0_2.out); rintro e w95 ⟨v437, rfl, Eq, hb⟩; refine ⟨_, rfl, ?_⟩; have Fg := Aside0.mk (Kd.R_lower Eq (below_size (Cmp.g HB.out))); replace D0 := Cmp.be D0 hb; replace D1 := Cmp.be D1 hb; replace HB := Cmp.bs HB hb; (try clear hb); (try clear hb2); (try clear hk); (try clear hi); (try clear Eq); have Jo := Cmp.c0 D1; have Jp := Cmp.c1 D1; have Jq := Cmp.c2 D1; have Ks := blk_frozen D1.out 0; have Kt := blk_frozen D1.out 1; have Ku := blk_frozen D1.out 2; obtain ⟨G4, Gf, Ky⟩ := Kd.R_slice Fg.out; subst Ky))
  refine bodyPost_ret (results_ct rfl _ _ Df 26 #[.int .i64 Ft, .int .i64 Fu, .slice G4 Fv.length Gf] (0, 0) _ rfl (Cmp.bw D1.out) Try.underlying26 rfl (by kernel_rfl)) rfl ?_
  exact ⟨_, by first | rfl | (simp [errW_none, errW_some] <;> rfl) | (simp [*, errW_none, errW_some] <;> rfl), by (with_reducible repeat (first | apply Kd.R_alloc | apply Kd.R_drewN | apply Kd.R_drew)); exact Kd.R_mono (Kd.R_far (p := ⟨Df, 2, none⟩) (Kd.R_far (p := ⟨Df, 1, none⟩) (Kd.R_far (p := ⟨Df, 0, none⟩) (Kd.R_types Fg.out D1.out (by decide)) (fun _ hk => hk.2) (.int .i64 Ft)) (fun _ hk => hk.2) (.int .i64 Fu)) (fun _ hk => hk.2) (.slice G4 Fv.length Gf)) (fun _ hk => trivial), Cmp.g HB.out⟩

end Go.Proofs.Ytgcipecdaimjfaa.PFnCredentials

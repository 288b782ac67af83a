/- Printed functions of the program (by a changed copy of the printer). No condition. -/
import Derived.Test.YtgcipecdaimjfaaCmp
import Derived.Test.YtgcipecdaimjfaaPFnCredentialsx0
import Derived.Test.YtgcipecdaimjfaaPFnCredentialsx1
import Derived.Test.YtgcipecdaimjfaaPFnCredentialsx10
import Derived.Test.YtgcipecdaimjfaaPFnCredentialsx11
namespace Go.Proofs.Ytgcipecdaimjfaa.PFnCredentials
open Go.Proofs.Ytgcipecdaimjfaa
open Go.RowKit Go.Proofs.YtgcipecdaimjfaaW.PrintWords Go.Proofs.YtgcipecdaimjfaaW.PrintLast Go.Proofs.YtgcipecdaimjfaaW.PrintMore
attribute [local go_sem] max2_int min2_int max_two min_two max_three min_three max_four min_four   -- for this text's walks alone
set_option linter.unusedVariables false
set_option linter.unusedSimpArgs false

attribute [local go_sem high] eqA35
/-! ### impl_EqualAccounts: function 13 -/
mutual
def impl_EqualAccounts.j0 : Nat → Bool → Int → Int → List (S35) → Int → Int → List (S35) → Option (Bool)
  | 0, _, _, _, _, _, _, _ => none
  | k + 1, x26, x476000, x476001, x476002, x477000, x477001, x477002 => if x26 = true then (some false) else (impl_EqualAccounts.l0 k (x476002.length : Int) 0 x476000 x476001 x476002 x477000 x477001 x477002)
def impl_EqualAccounts.l0 : Nat → Int → Int → Int → Int → List (S35) → Int → Int → List (S35) → Option (Bool)
  | 0, _, _, _, _, _, _, _, _ => none
  | k + 1, x29, x30, x476000, x476001, x476002, x477000, x477001, x477002 => if x30 < x29 then (if 0 ≤ x30 then (if x30 < (x476002.length : Int) then (if x30 < (x477002.length : Int) then (if (!(((rd_T35 x476002 x30).f0) == ((rd_T35 x477002 x30).f0)) || (!(((rd_T35 x476002 x30).f1) == ((rd_T35 x477002 x30).f1)) || (!(((rd_T35 x476002 x30).f2) == ((rd_T35 x477002 x30).f2)) || (!(((rd_T35 x476002 x30).f3) == ((rd_T35 x477002 x30).f3)))))) = true then (some false) else (impl_EqualAccounts.l0 k x29 (wrap64 (x30 + 1)) x476000 x476001 x476002 x477000 x477001 x477002)) else (none)) else (none)) else (none)) else (some true)
end
def impl_EqualAccounts.f (k : Nat) (a0_0 : Int) (a0_1 : Int) (l0_2 : List (S35)) (a1_0 : Int) (a1_1 : Int) (l1_2 : List (S35)) : Option (Bool) := if a0_0 = a1_0 then (if a0_1 = a1_1 then (impl_EqualAccounts.j0 k ((l0_2.length : Int) != (l1_2.length : Int)) a0_0 a0_1 l0_2 a1_0 a1_1 l1_2) else (impl_EqualAccounts.j0 k true a0_0 a0_1 l0_2 a1_0 a1_1 l1_2)) else (impl_EqualAccounts.j0 k true a0_0 a0_1 l0_2 a1_0 a1_1 l1_2)
theorem impl_EqualAccounts.mono_l : ∀ k, (∀ y0 y1 y2 y3 y4 y5 y6, LeO (impl_EqualAccounts.j0 k y0 y1 y2 y3 y4 y5 y6) (impl_EqualAccounts.j0 (k + 1) y0 y1 y2 y3 y4 y5 y6)) ∧ (∀ y0 y1 y2 y3 y4 y5 y6 y7, LeO (impl_EqualAccounts.l0 k y0 y1 y2 y3 y4 y5 y6 y7) (impl_EqualAccounts.l0 (k + 1) y0 y1 y2 y3 y4 y5 y6 y7))
  | 0 => ⟨fun _ _ _ _ _ _ _ r h => by simp [impl_EqualAccounts.j0] at h, fun _ _ _ _ _ _ _ _ r h => by simp [impl_EqualAccounts.l0] at h⟩
  | k + 1 => by
    obtain ⟨ih0, ih1⟩ := impl_EqualAccounts.mono_l k
    refine ⟨?_, ?_⟩
    · intro y0 y1 y2 y3 y4 y5 y6
      unfold impl_EqualAccounts.j0
      repeat' first
      | (with_reducible exact ih0 _ _ _ _ _ _ _)
      | (with_reducible exact ih1 _ _ _ _ _ _ _ _)
      | (with_reducible exact LeO.refl _)
      | (with_reducible exact LeO.none _)
      | (with_reducible refine LeO.ite ?_ ?_)
      | (with_reducible refine LeO.bind ?_ (fun _ => ?_))
      | exact ih0 _ _ _ _ _ _ _
      | exact ih1 _ _ _ _ _ _ _ _
      | exact LeO.none _
      | refine LeO.ite ?_ ?_
      | refine LeO.bind ?_ (fun _ => ?_)
    · intro y0 y1 y2 y3 y4 y5 y6 y7
      unfold impl_EqualAccounts.l0
      repeat' first
      | (with_reducible exact ih0 _ _ _ _ _ _ _)
      | (with_reducible exact ih1 _ _ _ _ _ _ _ _)
      | (with_reducible exact LeO.refl _)
      | (with_reducible exact LeO.none _)
      | (with_reducible refine LeO.ite ?_ ?_)
      | (with_reducible refine LeO.bind ?_ (fun _ => ?_))
      | exact ih0 _ _ _ _ _ _ _
      | exact ih1 _ _ _ _ _ _ _ _
      | exact LeO.none _
      | refine LeO.ite ?_ ?_
      | refine LeO.bind ?_ (fun _ => ?_)
theorem impl_EqualAccounts.mono : ∀ a0 a1 a2 a3 a4 a5 k, LeO (impl_EqualAccounts.f k a0 a1 a2 a3 a4 a5) (impl_EqualAccounts.f (k + 1) a0 a1 a2 a3 a4 a5) := by
  intro a0 a1 a2 a3 a4 a5 k
  obtain ⟨ih0, ih1⟩ := impl_EqualAccounts.mono_l k
  unfold impl_EqualAccounts.f
  repeat' first
      | (with_reducible exact ih0 _ _ _ _ _ _ _)
      | (with_reducible exact ih1 _ _ _ _ _ _ _ _)
      | (with_reducible exact LeO.refl _)
      | (with_reducible exact LeO.none _)
      | (with_reducible refine LeO.ite ?_ ?_)
      | (with_reducible refine LeO.bind ?_ (fun _ => ?_))
      | exact ih0 _ _ _ _ _ _ _
      | exact ih1 _ _ _ _ _ _ _ _
      | exact LeO.none _
      | refine LeO.ite ?_ ?_
      | refine LeO.bind ?_ (fun _ => ?_)
set_option maxHeartbeats 8000000 in
set_option maxRecDepth 100000 in
theorem impl_EqualAccounts.calls (k : Nat) (a0_0 : Int) (a0_1 : Int) (A0_2 : Option Addr) (c0_2 : Nat) (l0_2 : List (S35)) (a1_0 : Int) (a1_1 : Int) (A1_2 : Option Addr) (c1_2 : Nat) (l1_2 : List (S35)) (r : Bool) (w : World) (hr0_2 : Kd.C k35 w A0_2 l0_2.length l0_2) (hc0_2 : l0_2.length ≤ c0_2) (hr1_2 : Kd.C k35 w A1_2 l1_2.length l1_2) (hc1_2 : l1_2.length ≤ c1_2) (h : impl_EqualAccounts.f k a0_0 a0_1 l0_2 a1_0 a1_1 l1_2 = some r) :
    Calls Try.prog 13 #[.agg #[.int .i64 a0_0, .int .i64 a0_1, .slice A0_2 l0_2.length c0_2], .agg #[.int .i64 a1_0, .int .i64 a1_1, .slice A1_2 l1_2.length c1_2]] w fun e w' => e = .returned (.bool r) ∧ Below w.heap.size w w' := by
 have hu26 := Try.underlying26; have hu35 := Try.underlying35; have Eq := Aside0.mk hr0_2; have HC0_2 := Aside0.mk hc0_2; clear hr0_2 hc0_2; have Er := Aside0.mk hr1_2; have HC1_2 := Aside0.mk hc1_2; clear hr1_2 hc1_2
 have HB := Aside0.mk (Below.refl w.heap.size w)
 have H : (if a0_0 = a1_0 then (if a0_1 = a1_1 then (impl_EqualAccounts.j0 k ((l0_2.length : Int) != (l1_2.length : Int)) a0_0 a0_1 l0_2 a1_0 a1_1 l1_2) else (impl_EqualAccounts.j0 k true a0_0 a0_1 l0_2 a1_0 a1_1 l1_2)) else (impl_EqualAccounts.j0 k true a0_0 a0_1 l0_2 a1_0 a1_1 l1_2)) = some r := h
 clear h; have HC3 := Aside0.mk H; clear H
 go_enter Try.func13, Try.ntmps13
 go_upto_region 1 with (first | ((with_reducible refine gate_dst (N := 2) rfl ?_); (try (refine gate_guard (by rfl) ?_; dsimp only)); refine box_event ?hg (N := 2) ?hd (cs := #[.int .i64 a0_0, .int .i64 a0_1, .slice A0_2 l0_2.length c0_2]) (t := 26) ?hr ?_; (case hd => rfl); (case hg => rfl); (case hr => first | (go_simp; done) | (go_simp; rfl)); intro D5 hg w4 hbox hb; have D0 := Aside0.mk (hbox); have Eo := Cmp.gw hg HB; have Em := Cmp.gw hg HB; replace HB := Cmp.bs HB hb; clear hb hbox hg) | ((with_reducible refine gate_dst (N := 3) rfl ?_); (try (refine gate_guard (by rfl) ?_; dsimp only)); refine box_event ?hg (N := 3) ?hd (cs := #[.int .i64 a1_0, .int .i64 a1_1, .slice A1_2 l1_2.length c1_2]) (t := 26) ?hr ?_; (case hd => rfl); (case hg => rfl); (case hr => first | (go_simp; done) | (go_simp; rfl)); intro D6 hg w5 hbox hb; have D2 := Aside0.mk (hbox); have Ep := Cmp.gw hg HB; have En := Cmp.gw hg HB; have D3 := Cmp.nl hg D0; have D4 := Cmp.ng hg D0; replace D0 := Cmp.be D0 hb; replace HB := Cmp.bs HB hb; clear hb hbox hg))
 repeat (go_quiet (first | ((with_reducible refine gate_dst (N := 2) rfl ?_); (try (refine gate_guard (by rfl) ?_; dsimp only)); refine box_event ?hg (N := 2) ?hd (cs := #[.int .i64 a0_0, .int .i64 a0_1, .slice A0_2 l0_2.length c0_2]) (t := 26) ?hr ?_; (case hd => rfl); (case hg => rfl); (case hr => first | (go_simp; done) | (go_simp; rfl)); intro D5 hg w4 hbox hb; have D0 := Aside0.mk (hbox); have Eo := Cmp.gw hg HB; have Em := Cmp.gw hg HB; replace HB := Cmp.bs HB hb; clear hb hbox hg) | ((with_reducible refine gate_dst (N := 3) rfl ?_); (try (refine gate_guard (by rfl) ?_; dsimp only)); refine box_event ?hg (N := 3) ?hd (cs := #[.int .i64 a1_0, .int .i64 a1_1, .slice A1_2 l1_2.length c1_2]) (t := 26) ?hr ?_; (case hd => rfl); (case hg => rfl); (case hr => first | (go_simp; done) | (go_simp; rfl)); intro D6 hg w5 hbox hb; have D2 := Aside0.mk (hbox); have Ep := Cmp.gw hg HB; have En := Cmp.gw hg HB; have D3 := Cmp.nl hg D0; have D4 := Cmp.ng hg D0; replace D0 := Cmp.be D0 hb; replace HB := Cmp.bs HB hb; clear hb hbox hg)); go_upto_region 1 with (first | ((with_reducible refine gate_dst (N := 2) rfl ?_); (try (refine gate_guard (by rfl) ?_; dsimp only)); refine box_event ?hg (N := 2) ?hd (cs := #[.int .i64 a0_0, .int .i64 a0_1, .slice A0_2 l0_2.length c0_2]) (t := 26) ?hr ?_; (case hd => rfl); (case hg => rfl); (case hr => first | (go_simp; done) | (go_simp; rfl)); intro D5 hg w4 hbox hb; have D0 := Aside0.mk (hbox); have Eo := Cmp.gw hg HB; have Em := Cmp.gw hg HB; replace HB := Cmp.bs HB hb; clear hb hbox hg) | ((with_reducible refine gate_dst (N := 3) rfl ?_); (try (refine gate_guard (by rfl) ?_; dsimp only)); refine box_event ?hg (N := 3) ?hd (cs := #[.int .i64 a1_0, .int .i64 a1_1, .slice A1_2 l1_2.length c1_2]) (t := 26) ?hr ?_; (case hd => rfl); (case hg => rfl); (case hr => first | (go_simp; done) | (go_simp; rfl)); intro D6 hg w5 hbox hb; have D2 := Aside0.mk (hbox); have Ep := Cmp.gw hg HB; have En := Cmp.gw hg HB; have D3 := Cmp.nl hg D0; have D4 := Cmp.ng hg D0; replace D0 := Cmp.be D0 hb; replace HB := Cmp.bs HB hb; clear hb hbox hg)))
 (try simp only [Act.put, List.setIfInBounds_toArray, List.set_cons_zero, List.set_cons_succ])
 go_cut [26] (fun v26 wc => ∃ (kq : Nat) (E9 : Bool), v26 = .bool E9 ∧ Aside0 (impl_EqualAccounts.j0 kq E9 a0_0 a0_1 l0_2 a1_0 a1_1 l1_2 = some r) ∧ Aside0 (kq ≤ k) ∧ Aside0 (wc.heap[D5]? = some (.cells #[.int .i64 a0_0, .int .i64 a0_1, (.slice A0_2 l0_2.length c0_2)] 26 (0, 0))) ∧ Aside0 (wc.heap[D6]? = some (.cells #[.int .i64 a1_0, .int .i64 a1_1, (.slice A1_2 l1_2.length c1_2)] 26 (0, 0))) ∧ Aside0 (Below w.heap.size w wc))
 case first =>
  have H := HC3.out; clear HC3
  by_cases c6 : a0_0 = a1_0
  ·rw [if_pos c6] at H; have c6b0 : (a0_0 == a1_0) = true := beq_iff_eq.mpr c6; have c6b1 : (a0_0 != a1_0) = false := bne_eq_false_iff_eq.mpr c6; clear c6
   (first | rw [c6b0] | (simp only [i64_w, i32_w]; rw [c6b0]) | skip)
   by_cases c7 : a0_1 = a1_1
   ·rw [if_pos c7] at H; have c7b0 : (a0_1 == a1_1) = true := beq_iff_eq.mpr c7; have c7b1 : (a0_1 != a1_1) = false := bne_eq_false_iff_eq.mpr c7; clear c7
    have H' := Aside0.mk H
    clear H; have Fs := D3.out; have Ft := D4.out
    have Ea := Cmp.c0 D0
    have Eb := Cmp.c1 D0
    have Ec := Cmp.c2 D0
    have Ed := blk_frozen D0.out 0; have Ee := blk_frozen D0.out 1; have Ef := blk_frozen D0.out 2
    have Df := Cmp.c0 D2
    have Dg := Cmp.c1 D2
    have Dh := Cmp.c2 D2
    have Du := blk_frozen D2.out 0; have Dv := blk_frozen D2.out 1; have Dw := blk_frozen D2.out 2
    go_wp2
    repeat (go_quiet (fail); try go_wp2)
    go_meet
    case rel => exact ⟨_, (((l0_2.length : Int) != (l1_2.length : Int))), (by first | rfl | simp | simp [*]), H', ⟨by first | omega | exact Nat.le_refl _⟩, Cmp.bq D0, Cmp.bq D2, ⟨Cmp.g HB.out⟩⟩
   ·rw [if_neg c7] at H; have c7b0 : (a0_1 == a1_1) = false := beq_eq_false_iff_ne.mpr c7; have c7b1 : (a0_1 != a1_1) = true := bne_iff_ne.mpr c7
    have H' := Aside0.mk H
    clear H; have Fi := D3.out; have Fn := D4.out
    have Di := Cmp.c0 D0
    have Dj := Cmp.c1 D0
    have Dk := Cmp.c2 D0
    have Dx := blk_frozen D0.out 0; have Dy := blk_frozen D0.out 1; have Dz := blk_frozen D0.out 2
    have Dl := Cmp.c0 D2
    have Dm := Cmp.c1 D2
    have Dn := Cmp.c2 D2
    have E0 := blk_frozen D2.out 0; have E1 := blk_frozen D2.out 1; have E2 := blk_frozen D2.out 2
    go_wp2
    repeat (go_quiet (fail); try go_wp2)
    go_meet
    case rel => exact ⟨_, (true), (by first | rfl | simp | simp [*]), H', ⟨by first | omega | exact Nat.le_refl _⟩, Cmp.bq D0, Cmp.bq D2, ⟨Cmp.g HB.out⟩⟩
  ·rw [if_neg c6] at H; have c6b0 : (a0_0 == a1_0) = false := beq_eq_false_iff_ne.mpr c6; have c6b1 : (a0_0 != a1_0) = true := bne_iff_ne.mpr c6
   (first | rw [c6b0] | (simp only [i64_w, i32_w]; rw [c6b0]) | skip)
   have H' := Aside0.mk H
   clear H; have Fj := D3.out; have Fo := D4.out
   have Do := Cmp.c0 D0
   have Dp := Cmp.c1 D0
   have Dq := Cmp.c2 D0
   have E3 := blk_frozen D0.out 0; have E4 := blk_frozen D0.out 1; have E5 := blk_frozen D0.out 2
   have Dr := Cmp.c0 D2
   have Ds := Cmp.c1 D2
   have Dt := Cmp.c2 D2
   have E6 := blk_frozen D2.out 0; have E7 := blk_frozen D2.out 1; have E8 := blk_frozen D2.out 2
   go_wp2
   repeat (go_quiet (fail); try go_wp2)
   go_meet
   case rel => exact ⟨_, (true), (by first | rfl | simp | simp [*]), H', ⟨by first | omega | exact Nat.le_refl _⟩, Cmp.bq D0, Cmp.bq D2, ⟨Cmp.g HB.out⟩⟩
 case rest =>
  clear HC3; (try clear c1); (try clear p2); (try clear c6); (try clear c6b0); (try clear c6b1); (try clear c7); (try clear c7b0); (try clear c7b1); (try clear c8); (try clear c11); (try clear c13); (try clear c14); (try clear Df); (try clear Dg); (try clear Dh); (try clear Di); (try clear Dj); (try clear Dk); (try clear Dl); (try clear Dm); (try clear Dn); (try clear Do); (try clear Dp); (try clear Dq); (try clear Dr); (try clear Ds); (try clear Dt); (try clear Ea); (try clear Eb); (try clear Ec); (try clear Du); (try clear Dv); (try clear Dw); (try clear Dx); (try clear Dy); (try clear Dz); (try clear E0); (try clear E1); (try clear E2); (try clear E3); (try clear E4); (try clear E5); (try clear E6); (try clear E7); (try clear E8); (try clear Ed); (try clear Ee); (try clear Ef)
  obtain ⟨kq, E9, rfl, HA, HJ2, D0, D2, HB⟩ := hcut
  cases kq with
  | zero => exact absurd HA.out (by simp [impl_EqualAccounts.j0])
  | succ kj2 =>
   have H := HA.out; clear HA
   simp only [impl_EqualAccounts.j0] at H
   by_cases c17 : E9 = true
   ·subst c17; rw [if_pos rfl] at H
    obtain rfl := Option.some.inj H
    go_wp2
    repeat (go_quiet (fail); try go_wp2)
    go_ret
    exact ⟨by first | rfl | (simp [errW_none, errW_some] <;> rfl) | (simp [*, errW_none, errW_some] <;> rfl), Cmp.g HB.out⟩
   ·replace c17 := Bool.eq_false_iff.mpr c17
    subst c17
    have H1 : (impl_EqualAccounts.l0 kj2 (l0_2.length : Int) 0 a0_0 a0_1 l0_2 a1_0 a1_1 l1_2) = some r := by rw [if_neg (show ¬ (false = true) by decide)] at H; exact H
    clear H; have H := H1; clear H1
    have H' := Aside0.mk H
    clear H; have Fk := D3.out; have Fp := D4.out
    have Eg : wc.cell? ⟨D5, 0, none⟩ = some (.int .i64 a0_0) := (blk_cell D0.out 0).trans rfl
    have Eh : wc.cell? ⟨D5, 1, none⟩ = some (.int .i64 a0_1) := (blk_cell D0.out 1).trans rfl
    have Ei : wc.cell? ⟨D5, 2, none⟩ = some (.slice A0_2 l0_2.length c0_2) := (blk_cell D0.out 2).trans rfl
    have Ej := blk_frozen D0.out 0; have Ek := blk_frozen D0.out 1; have El := blk_frozen D0.out 2
    go_wp2
    repeat (go_quiet (fail); try go_wp2)
    go_loopg [30] kj2 (fun kq v30 w' => ∃ (D1 : Int), v30 = .int .i64 D1 ∧ Aside0 (impl_EqualAccounts.l0 kq (l0_2.length : Int) D1 a0_0 a0_1 l0_2 a1_0 a1_1 l1_2 = some r) ∧ Aside0 (kq ≤ kj2) ∧ Aside0 (w'.heap[D5]? = some (.cells #[.int .i64 a0_0, .int .i64 a0_1, (.slice A0_2 l0_2.length c0_2)] 26 (0, 0))) ∧ Aside0 (w'.heap[D6]? = some (.cells #[.int .i64 a1_0, .int .i64 a1_1, (.slice A1_2 l1_2.length c1_2)] 26 (0, 0))) ∧ Aside0 (Below w.heap.size w w'))
    case atStart => exact ⟨(0), (by first | rfl | simp | simp [*]), H', ⟨Nat.le_refl _⟩, Cmp.bq D0, Cmp.bq D2, ⟨Cmp.g HB.out⟩⟩
    case round =>
     clear H'
     (try clear c1); (try clear p2); (try clear c6); (try clear c6b0); (try clear c6b1); (try clear c7); (try clear c7b0); (try clear c7b1); (try clear c8); (try clear c11); (try clear c13); (try clear c14); (try clear c17); (try clear c18); (try clear Df); (try clear Dg); (try clear Dh); (try clear Di); (try clear Dj); (try clear Dk); (try clear Dl); (try clear Dm); (try clear Dn); (try clear Do); (try clear Dp); (try clear Dq); (try clear Dr); (try clear Ds); (try clear Dt); (try clear Eg); (try clear Eh); (try clear Ei); (try clear Ea); (try clear Eb); (try clear Ec); (try clear Du); (try clear Dv); (try clear Dw); (try clear Dx); (try clear Dy); (try clear Dz); (try clear E0); (try clear E1); (try clear E2); (try clear E3); (try clear E4); (try clear E5); (try clear E6); (try clear E7); (try clear E8); (try clear Ej); (try clear Ek); (try clear El); (try clear Ed); (try clear Ee); (try clear Ef); (try clear p2)
     obtain ⟨D1, rfl, HA, HK2, D0, D2, HB⟩ := hrel
     cases gk with
     | zero => exact absurd HA.out (by simp [impl_EqualAccounts.l0])
     | succ k2 =>
      have H := HA.out; clear HA
      simp only [impl_EqualAccounts.l0] at H
      by_cases c20 : D1 < (l0_2.length : Int)
      ·rw [if_pos c20] at H
       have c20b0 : decide (D1 < (l0_2.length : Int)) = true := decide_eq_true c20
       clear c20
       by_cases c21 : 0 ≤ D1
       ·rw [if_pos c21] at H; have c21b0 : decide (0 ≤ D1) = true := decide_eq_true c21; clear c21
        by_cases c22 : D1 < (l0_2.length : Int)
        ·rw [if_pos c22] at H
         have c22b0 : decide (D1 < (l0_2.length : Int)) = true := decide_eq_true c22
         clear c22
         by_cases c23 : D1 < (l1_2.length : Int)
         ·rw [if_pos c23] at H
          have c23b0 : decide (D1 < (l1_2.length : Int)) = true := decide_eq_true c23
          clear c23
          by_cases c24 : (!(((rd_T35 l0_2 D1).f0) == ((rd_T35 l1_2 D1).f0)) || (!(((rd_T35 l0_2 D1).f1) == ((rd_T35 l1_2 D1).f1)) || (!(((rd_T35 l0_2 D1).f2) == ((rd_T35 l1_2 D1).f2)) || (!(((rd_T35 l0_2 D1).f3) == ((rd_T35 l1_2 D1).f3)))))) = true
          ·rw [if_pos c24] at H
           have c24b0 : (!(((rd_T35 l0_2 D1).f0) == ((rd_T35 l1_2 D1).f0)) || (!(((rd_T35 l0_2 D1).f1) == ((rd_T35 l1_2 D1).f1)) || (!(((rd_T35 l0_2 D1).f2) == ((rd_T35 l1_2 D1).f2)) || (!(((rd_T35 l0_2 D1).f3) == ((rd_T35 l1_2 D1).f3)))))) = true := c24
           clear c24
           obtain rfl := Option.some.inj H
           have Fl := D3.out; have Fq := D4.out
           have Eu : wr.cell? ⟨D5, 0, none⟩ = some (.int .i64 a0_0) := (blk_cell D0.out 0).trans rfl
           have Ev : wr.cell? ⟨D5, 1, none⟩ = some (.int .i64 a0_1) := (blk_cell D0.out 1).trans rfl
           have Ew : wr.cell? ⟨D5, 2, none⟩ = some (.slice A0_2 l0_2.length c0_2) := (blk_cell D0.out 2).trans rfl
           have F6 := blk_frozen D0.out 0; have F7 := blk_frozen D0.out 1; have F8 := blk_frozen D0.out 2
           have p477 : 0 ≤ (D1 : Int) := of_decide_eq_true Cmp.d
           have q477 : D1 < (l0_2.length : Int) := of_decide_eq_true Cmp.d
           obtain ⟨Es, e477, D7, D8, D9, Da⟩ := at_T35 Eq.out D1 p477 q477
           cases e477
           replace D7 := Cmp.hc HB D7
           replace D8 := Cmp.hc HB D8
           replace D9 := Cmp.hc HB D9
           replace Da := Cmp.hc HB Da
           replace p477 := eq_true p477; replace q477 := eq_true q477
           have Ex : wr.cell? ⟨D6, 0, none⟩ = some (.int .i64 a1_0) := (blk_cell D2.out 0).trans rfl
           have Ey : wr.cell? ⟨D6, 1, none⟩ = some (.int .i64 a1_1) := (blk_cell D2.out 1).trans rfl
           have Ez : wr.cell? ⟨D6, 2, none⟩ = some (.slice A1_2 l1_2.length c1_2) := (blk_cell D2.out 2).trans rfl
           have F9 := blk_frozen D2.out 0; have Fa := blk_frozen D2.out 1; have Fb := blk_frozen D2.out 2
           have p478 : 0 ≤ (D1 : Int) := of_decide_eq_true Cmp.d
           have q478 : D1 < (l1_2.length : Int) := of_decide_eq_true Cmp.d
           obtain ⟨Et, e478, Db, Dc, Dd, De⟩ := at_T35 Er.out D1 p478 q478
           cases e478
           replace Db := Cmp.hc HB Db
           replace Dc := Cmp.hc HB Dc
           replace Dd := Cmp.hc HB Dd
           replace De := Cmp.hc HB De
           replace p478 := eq_true p478; replace q478 := eq_true q478
           go_wp2
           repeat (go_quiet (fail); try go_wp2)
           go_ret
           exact ⟨by first | rfl | (simp [errW_none, errW_some] <;> rfl) | (simp [*, errW_none, errW_some] <;> rfl), Cmp.g HB.out⟩
          ·rw [if_neg c24] at H
           have c24b0 : (!(((rd_T35 l0_2 D1).f0) == ((rd_T35 l1_2 D1).f0)) || (!(((rd_T35 l0_2 D1).f1) == ((rd_T35 l1_2 D1).f1)) || (!(((rd_T35 l0_2 D1).f2) == ((rd_T35 l1_2 D1).f2)) || (!(((rd_T35 l0_2 D1).f3) == ((rd_T35 l1_2 D1).f3)))))) = false := by simpa using c24
           clear c24
           have H' := Aside0.mk H
           clear H; have Fm := D3.out; have Fr := D4.out
           have F0 : wr.cell? ⟨D5, 0, none⟩ = some (.int .i64 a0_0) := (blk_cell D0.out 0).trans rfl
           have F1 : wr.cell? ⟨D5, 1, none⟩ = some (.int .i64 a0_1) := (blk_cell D0.out 1).trans rfl
           have F2 : wr.cell? ⟨D5, 2, none⟩ = some (.slice A0_2 l0_2.length c0_2) := (blk_cell D0.out 2).trans rfl
           have Fc := blk_frozen D0.out 0; have Fd := blk_frozen D0.out 1; have Fe := blk_frozen D0.out 2
           have p477 : 0 ≤ (D1 : Int) := of_decide_eq_true Cmp.d
           have q477 : D1 < (l0_2.length : Int) := of_decide_eq_true Cmp.d
           obtain ⟨Es, e477, D7, D8, D9, Da⟩ := at_T35 Eq.out D1 p477 q477
           cases e477
           replace D7 := Cmp.hc HB D7
           replace D8 := Cmp.hc HB D8
           replace D9 := Cmp.hc HB D9
           replace Da := Cmp.hc HB Da
           replace p477 := eq_true p477; replace q477 := eq_true q477
           have F3 : wr.cell? ⟨D6, 0, none⟩ = some (.int .i64 a1_0) := (blk_cell D2.out 0).trans rfl
           have F4 : wr.cell? ⟨D6, 1, none⟩ = some (.int .i64 a1_1) := (blk_cell D2.out 1).trans rfl
           have F5 : wr.cell? ⟨D6, 2, none⟩ = some (.slice A1_2 l1_2.length c1_2) := (blk_cell D2.out 2).trans rfl
           have Ff := blk_frozen D2.out 0; have Fg := blk_frozen D2.out 1; have Fh := blk_frozen D2.out 2
           have p478 : 0 ≤ (D1 : Int) := of_decide_eq_true Cmp.d
           have q478 : D1 < (l1_2.length : Int) := of_decide_eq_true Cmp.d
           obtain ⟨Et, e478, Db, Dc, Dd, De⟩ := at_T35 Er.out D1 p478 q478
           cases e478
           replace Db := Cmp.hc HB Db
           replace Dc := Cmp.hc HB Dc
           replace Dd := Cmp.hc HB Dd
           replace De := Cmp.hc HB De
           replace p478 := eq_true p478; replace q478 := eq_true q478
           go_wp2
           repeat (go_quiet (fail); try go_wp2)
           go_roundg k2
           case measure => have := HJ2.out; have := HK2.out; omega
           case rel => exact ⟨(wrap64 (D1 + 1)), (by first | rfl | simp | simp [*]), H', ⟨by have := HJ2.out; have := HK2.out; omega⟩, Cmp.bq D0, Cmp.bq D2, ⟨Cmp.g HB.out⟩⟩
         ·rw [if_neg c23] at H; exact absurd H (by simp)
        ·rw [if_neg c22] at H; exact absurd H (by simp)
       ·rw [if_neg c21] at H; exact absurd H (by simp)
      ·rw [if_neg c20] at H
       have c20b0 : decide (D1 < (l0_2.length : Int)) = false := decide_eq_false c20
       clear c20
       obtain rfl := Option.some.inj H
       go_wp2
       repeat (go_quiet (fail); try go_wp2)
       go_ret
       exact ⟨by first | rfl | (simp [errW_none, errW_some] <;> rfl) | (simp [*, errW_none, errW_some] <;> rfl), Cmp.g HB.out⟩

/-! ### impl_FindCredential: function 14 -/
def impl_FindCredential.l0 : Nat → Int → List (S35) → Int → Int → Option (Int)
  | 0, _, _, _, _ => none
  | k + 1, x1, x8, x9, x10 => if x10 < x9 then (if 0 ≤ x10 then (if x10 < (x8.length : Int) then (if ((rd_T35 x8 x10).f0) = x1 then (some x10) else (impl_FindCredential.l0 k x1 x8 x9 (wrap64 (x10 + 1)))) else (none)) else (none)) else (some (-1))
def impl_FindCredential.f (k : Nat) (a0_0 : Int) (a0_1 : Int) (l0_2 : List (S35)) (a1 : Int) : Option (Int) := impl_FindCredential.l0 k a1 l0_2 (l0_2.length : Int) 0
theorem impl_FindCredential.mono_l : ∀ k, (∀ y0 y1 y2 y3, LeO (impl_FindCredential.l0 k y0 y1 y2 y3) (impl_FindCredential.l0 (k + 1) y0 y1 y2 y3))
  | 0 => fun _ _ _ _ r h => by simp [impl_FindCredential.l0] at h
  | k + 1 => by
    have ih0 := impl_FindCredential.mono_l k
    · intro y0 y1 y2 y3
      unfold impl_FindCredential.l0
      repeat' first
      | (with_reducible exact ih0 _ _ _ _)
      | (with_reducible exact LeO.refl _)
      | (with_reducible exact LeO.none _)
      | (with_reducible refine LeO.ite ?_ ?_)
      | (with_reducible refine LeO.bind ?_ (fun _ => ?_))
      | exact ih0 _ _ _ _
      | exact LeO.none _
      | refine LeO.ite ?_ ?_
      | refine LeO.bind ?_ (fun _ => ?_)
theorem impl_FindCredential.mono : ∀ a0 a1 a2 a3 k, LeO (impl_FindCredential.f k a0 a1 a2 a3) (impl_FindCredential.f (k + 1) a0 a1 a2 a3) := by
  intro a0 a1 a2 a3 k
  have ih0 := impl_FindCredential.mono_l k
  unfold impl_FindCredential.f
  repeat' first
      | (with_reducible exact ih0 _ _ _ _)
      | (with_reducible exact LeO.refl _)
      | (with_reducible exact LeO.none _)
      | (with_reducible refine LeO.ite ?_ ?_)
      | (with_reducible refine LeO.bind ?_ (fun _ => ?_))
      | exact ih0 _ _ _ _
      | exact LeO.none _
      | refine LeO.ite ?_ ?_
      | refine LeO.bind ?_ (fun _ => ?_)
set_option maxHeartbeats 8000000 in
set_option maxRecDepth 100000 in
theorem impl_FindCredential.calls (k : Nat) (a0_0 : Int) (a0_1 : Int) (A0_2 : Option Addr) (c0_2 : Nat) (l0_2 : List (S35)) (a1 : Int) (r : Int) (w : World) (hr0_2 : Kd.C k35 w A0_2 l0_2.length l0_2) (hc0_2 : l0_2.length ≤ c0_2) (h : impl_FindCredential.f k a0_0 a0_1 l0_2 a1 = some r) :
    Calls Try.prog 14 #[.agg #[.int .i64 a0_0, .int .i64 a0_1, .slice A0_2 l0_2.length c0_2], .int .i64 a1] w fun e w' => e = .returned (.int .i64 r) ∧ Below w.heap.size w w' := by
 have hu26 := Try.underlying26; have hu35 := Try.underlying35; have D9 := Aside0.mk hr0_2; have HC0_2 := Aside0.mk hc0_2; clear hr0_2 hc0_2
 have HB := Aside0.mk (Below.refl w.heap.size w)
 have H : (impl_FindCredential.l0 k a1 l0_2 (l0_2.length : Int) 0) = some r := h
 clear h
 have H' := Aside0.mk H
 clear H
 go_enter Try.func14, Try.ntmps14
 go_wp2_with (first | ((with_reducible refine gate_dst (N := 2) rfl ?_); refine box_event ?hg (N := 2) ?hd (cs := #[.int .i64 a0_0, .int .i64 a0_1, .slice A0_2 l0_2.length c0_2]) (t := 26) ?hr ?_; (case hd => rfl); (case hg => rfl); (case hr => first | (go_simp; done) | (go_simp; rfl)); intro Dj hg w3 hbox hb; have D1 := Aside0.mk (hbox); have E2 := Cmp.gw hg HB; have E1 := Cmp.gw hg HB; replace HB := Cmp.bs HB hb; clear hb hbox hg; have Da := Cmp.c0 D1; have Db := Cmp.c1 D1; have Dc := Cmp.c2 D1; have Dd := blk_frozen D1.out 0; have De := blk_frozen D1.out 1; have Df := blk_frozen D1.out 2))
 go_loopg [10] k (fun kq v10 w' => ∃ (D0 : Int), v10 = .int .i64 D0 ∧ Aside0 (impl_FindCredential.l0 kq a1 l0_2 (l0_2.length : Int) D0 = some r) ∧ Aside0 (kq ≤ k) ∧ Aside0 (w'.heap[Dj]? = some (.cells #[.int .i64 a0_0, .int .i64 a0_1, (.slice A0_2 l0_2.length c0_2)] 26 (0, 0))) ∧ Aside0 (Below w.heap.size w w'))
 case atStart => exact ⟨(0), (by first | rfl | simp | simp [*]), H', ⟨Nat.le_refl _⟩, Cmp.bq D1, ⟨Cmp.g HB.out⟩⟩
 case round =>
  clear H'
  (try clear c1); (try clear p2); (try clear Da); (try clear Db); (try clear Dc); (try clear Dd); (try clear De); (try clear Df)
  obtain ⟨D0, rfl, HA, HK1, D1, HB⟩ := hrel
  cases gk with
  | zero => exact absurd HA.out (by simp [impl_FindCredential.l0])
  | succ k1 =>
   have H := HA.out; clear HA
   simp only [impl_FindCredential.l0] at H
   by_cases c5 : D0 < (l0_2.length : Int)
   ·rw [if_pos c5] at H
    have c5b0 : decide (D0 < (l0_2.length : Int)) = true := decide_eq_true c5
    clear c5
    by_cases c6 : 0 ≤ D0
    ·rw [if_pos c6] at H; have c6b0 : decide (0 ≤ D0) = true := decide_eq_true c6; clear c6
     by_cases c7 : D0 < (l0_2.length : Int)
     ·rw [if_pos c7] at H
      have c7b0 : decide (D0 < (l0_2.length : Int)) = true := decide_eq_true c7
      clear c7
      by_cases c8 : ((rd_T35 l0_2 D0).f0) = a1
      ·rw [if_pos c8] at H; have c8b0 : (((rd_T35 l0_2 D0).f0) == a1) = true := beq_iff_eq.mpr c8; have c8b1 : (((rd_T35 l0_2 D0).f0) != a1) = false := bne_eq_false_iff_eq.mpr c8; clear c8
       obtain rfl := Option.some.inj H
       have p480 : 0 ≤ (D0 : Int) := of_decide_eq_true Cmp.d
       have q480 : D0 < (l0_2.length : Int) := of_decide_eq_true Cmp.d
       obtain ⟨Di, e480, D3, D4, D5, D6⟩ := at_T35 D9.out D0 p480 q480
       cases e480
       replace D3 := Cmp.hc HB D3
       replace D4 := Cmp.hc HB D4
       replace D5 := Cmp.hc HB D5
       replace D6 := Cmp.hc HB D6
       replace p480 := eq_true p480; replace q480 := eq_true q480
       go_wp2_with (first | ((with_reducible refine gate_dst (N := 6) rfl ?_); refine box_event ?hg (N := 6) ?hd (cs := #[.int .i64 0, .int .i64 0, .int .i64 0, .bool false]) (t := 35) ?hr ?_; (case hd => rfl); (case hg => rfl); (case hr => first | (go_simp; done) | (go_simp; rfl)); intro Dk hg w9 hbox hb; have D2 := Aside0.mk (hbox); have Dh := Cmp.gw hg HB; have Dg := Cmp.gw hg HB; have D7 := Cmp.nl hg D1; have D8 := Cmp.ng hg D1; replace D1 := Cmp.be D1 hb; replace HB := Cmp.bs HB hb; clear hb hbox hg; have E3 := D8.out; have E5 := D7.out; have Dl := Cmp.c0 D2; have Dm := Cmp.c1 D2; have Dn := Cmp.c2 D2; have Do := Cmp.c3 D2; have Dt := blk_frozen D2.out 0; have Du := blk_frozen D2.out 1; have Dv := blk_frozen D2.out 2; have Dw := blk_frozen D2.out 3))
       go_ret
       exact ⟨by first | rfl | (simp [errW_none, errW_some] <;> rfl) | (simp [*, errW_none, errW_some] <;> rfl), Cmp.g HB.out⟩
      ·rw [if_neg c8] at H; have c8b0 : (((rd_T35 l0_2 D0).f0) == a1) = false := beq_eq_false_iff_ne.mpr c8; have c8b1 : (((rd_T35 l0_2 D0).f0) != a1) = true := bne_iff_ne.mpr c8
       have H' := Aside0.mk H
       clear H
       have p480 : 0 ≤ (D0 : Int) := of_decide_eq_true Cmp.d
       have q480 : D0 < (l0_2.length : Int) := of_decide_eq_true Cmp.d
       obtain ⟨Di, e480, D3, D4, D5, D6⟩ := at_T35 D9.out D0 p480 q480
       cases e480
       replace D3 := Cmp.hc HB D3
       replace D4 := Cmp.hc HB D4
       replace D5 := Cmp.hc HB D5
       replace D6 := Cmp.hc HB D6
       replace p480 := eq_true p480; replace q480 := eq_true q480
       go_wp2_with (first | ((with_reducible refine gate_dst (N := 6) rfl ?_); refine box_event ?hg (N := 6) ?hd (cs := #[.int .i64 0, .int .i64 0, .int .i64 0, .bool false]) (t := 35) ?hr ?_; (case hd => rfl); (case hg => rfl); (case hr => first | (go_simp; done) | (go_simp; rfl)); intro Dk hg w12 hbox hb; have D2 := Aside0.mk (hbox); have Dh := Cmp.gw hg HB; have Dg := Cmp.gw hg HB; have D7 := Cmp.nl hg D1; have D8 := Cmp.ng hg D1; replace D1 := Cmp.be D1 hb; replace HB := Cmp.bs HB hb; clear hb hbox hg; have E4 := D8.out; have E6 := D7.out; have Dp := Cmp.c0 D2; have Dq := Cmp.c1 D2; have Dr := Cmp.c2 D2; have Ds := Cmp.c3 D2; have Dx := blk_frozen D2.out 0; have Dy := blk_frozen D2.out 1; have Dz := blk_frozen D2.out 2; have E0 := blk_frozen D2.out 3))
       go_roundg k1
       case measure => have := HK1.out; omega
       case rel => exact ⟨(wrap64 (D0 + 1)), (by first | rfl | simp | simp [*]), H', ⟨by have := HK1.out; omega⟩, ⟨Cmp.bw D1.out⟩, ⟨Cmp.g HB.out⟩⟩
     ·rw [if_neg c7] at H; exact absurd H (by simp)
    ·rw [if_neg c6] at H; exact absurd H (by simp)
   ·rw [if_neg c5] at H
    have c5b0 : decide (D0 < (l0_2.length : Int)) = false := decide_eq_false c5
    clear c5
    obtain rfl := Option.some.inj H
    go_wp2
    go_ret
    exact ⟨by first | rfl | (simp [errW_none, errW_some] <;> rfl) | (simp [*, errW_none, errW_some] <;> rfl), Cmp.g HB.out⟩

/-! ### impl_CutCredential: function 15 -/
def impl_CutCredential.f (k : Nat) (a0_0 : Int) (a0_1 : Int) (l0_2 : List (S35)) (a1 : Int) : Option (Int × Int × (List (S35)) × Bool) := (impl_copyAccount.f a0_0 a0_1 l0_2).bind fun bt484 => ((impl_FindCredential.f k a0_0 a0_1 l0_2 a1).bind fun t490 => ((impl_IsValidAccount.f k a0_0 a0_1 l0_2).bind fun t491 => (if t491 = true then (if t490 < 0 then (some (bt484.1, bt484.2.1, bt484.2.2, false)) else (if 0 ≤ t490 then (if t490 < (l0_2.length : Int) then (if (rd_T35 l0_2 t490).f3 = true then (some (bt484.1, bt484.2.1, bt484.2.2, false)) else (if t490 < (bt484.2.2.length : Int) then (some (bt484.1, bt484.2.1, (bt484.2.2.set (t490 : Int).toNat (⟨(rd_T35 bt484.2.2 t490).f0, (rd_T35 bt484.2.2 t490).f1, (rd_T35 bt484.2.2 t490).f2, true⟩ : S35)), true)) else (none))) else (none)) else (none))) else (some (bt484.1, bt484.2.1, bt484.2.2, false)))))
theorem impl_CutCredential.mono : ∀ a0 a1 a2 a3 k, LeO (impl_CutCredential.f k a0 a1 a2 a3) (impl_CutCredential.f (k + 1) a0 a1 a2 a3) := by
  intro a0 a1 a2 a3 k
  unfold impl_CutCredential.f
  repeat' first
      | (with_reducible exact impl_FindCredential.mono _ _ _ _ _)
      | (with_reducible exact impl_IsValidAccount.mono _ _ _ _)
      | (with_reducible exact LeO.refl _)
      | (with_reducible exact LeO.none _)
      | (with_reducible refine LeO.ite ?_ ?_)
      | (with_reducible refine LeO.bind ?_ (fun _ => ?_))
      | exact impl_FindCredential.mono _ _ _ _ _
      | exact impl_IsValidAccount.mono _ _ _ _
      | exact LeO.none _
      | refine LeO.ite ?_ ?_
      | refine LeO.bind ?_ (fun _ => ?_)
set_option maxHeartbeats 8000000 in
set_option maxRecDepth 100000 in
theorem impl_CutCredential.calls (k : Nat) (a0_0 : Int) (a0_1 : Int) (A0_2 : Option Addr) (c0_2 : Nat) (l0_2 : List (S35)) (a1 : Int) (r1 : Int) (r2 : Int) (r3 : List (S35)) (r4 : Bool) (w : World) (hr0_2 : Kd.C k35 w A0_2 l0_2.length l0_2) (hc0_2 : l0_2.length ≤ c0_2) (h : impl_CutCredential.f k a0_0 a0_1 l0_2 a1 = some (r1, r2, r3, r4)) :
    Calls Try.prog 15 #[.agg #[.int .i64 a0_0, .int .i64 a0_1, .slice A0_2 l0_2.length c0_2], .int .i64 a1] w fun e w' => ∃ v2_ : Value, e = .returned (.tuple #[.agg #[.int .i64 r1, .int .i64 r2, v2_], .bool r4]) ∧ Kd.R k35 35 w' w.heap.size (fun _ => True) v2_ r3 ∧ Below w.heap.size w w' := by
 have hu26 := Try.underlying26; have Dg := Aside0.mk hr0_2; have HC0_2 := Aside0.mk hc0_2; clear hr0_2 hc0_2
 have HB := Aside0.mk (Below.refl w.heap.size w)
 have H : ((impl_copyAccount.f a0_0 a0_1 l0_2).bind fun bt484 => ((impl_FindCredential.f k a0_0 a0_1 l0_2 a1).bind fun D3 => ((impl_IsValidAccount.f k a0_0 a0_1 l0_2).bind fun E1 => (if E1 = true then (if D3 < 0 then (some (bt484.1, bt484.2.1, bt484.2.2, false)) else (if 0 ≤ D3 then (if D3 < (l0_2.length : Int) then (if (rd_T35 l0_2 D3).f3 = true then (some (bt484.1, bt484.2.1, bt484.2.2, false)) else (if D3 < (bt484.2.2.length : Int) then (some (bt484.1, bt484.2.1, (bt484.2.2.set (D3 : Int).toNat (⟨(rd_T35 bt484.2.2 D3).f0, (rd_T35 bt484.2.2 D3).f1, (rd_T35 bt484.2.2 D3).f2, true⟩ : S35)), true)) else (none))) else (none)) else (none))) else (some (bt484.1, bt484.2.1, bt484.2.2, false)))))) = some (r1, r2, r3, r4) := h
 clear h; replace H := Option.bind_eq_some_iff.mp H; obtain ⟨⟨De, Df, D5⟩, Kz, H⟩ := H; (try dsimp only at H); have A3 := Aside0.mk Kz; clear Kz; replace H := Option.bind_eq_some_iff.mp H; obtain ⟨D3, L0, H⟩ := H; (try dsimp only at H); have A4 := Aside0.mk L0; clear L0; replace H := Option.bind_eq_some_iff.mp H; obtain ⟨E1, L1, H⟩ := H; (try dsimp only at H); have A5 := Aside0.mk L1; clear L1
 by_cases c6 : E1 = true
 ·subst c6; rw [if_pos rfl] at H
  by_cases c7 : D3 < 0
  ·rw [if_pos c7] at H; have c7b0 : decide (D3 < 0) = true := decide_eq_true c7; clear c7
   simp only [Option.some.injEq, Prod.mk.injEq] at H
   obtain ⟨rfl, rfl, rfl, rfl⟩ := H
   go_enter Try.func15, Try.ntmps15
   go_wp2_with (first | ((with_reducible refine gate_dst (N := 2) rfl ?_); refine box_event ?hg (N := 2) ?hd (cs := #[.int .i64 a0_0, .int .i64 a0_1, .slice A0_2 l0_2.length c0_2]) (t := 26) ?hr ?_; (case hd => rfl); (case hg => rfl); (case hr => first | (go_simp; done) | (go_simp; rfl)); intro Dl hg w8 hbox hb; have D0 := Aside0.mk (hbox); have Dq := Cmp.gw hg HB; have Dn := Cmp.gw hg HB; replace HB := Cmp.bs HB hb; clear hb hbox hg) | ((with_reducible refine gate_dst (N := 4) rfl ?_); refine box_event ?hg (N := 4) ?hd (cs := #[.int .i64 0, .int .i64 0, .slice none 0 0]) (t := 26) ?hr ?_; (case hd => rfl); (case hg => rfl); (case hr => first | (go_simp; done) | (go_simp; rfl)); intro D6 hg w9 hbox hb; have D2 := Aside0.mk (hbox); have Dr := Cmp.gw hg HB; have Do := Cmp.gw hg HB; have D8 := Cmp.nl hg D0; have Da := Cmp.ng hg D0; replace D0 := Cmp.be D0 hb; replace HB := Cmp.bs HB hb; clear hb hbox hg; have L2 := D8.out; have Le := Da.out; have E8 := Cmp.c0 D0; have E9 := Cmp.c1 D0; have Ea := Cmp.c2 D0; have Gh := blk_frozen D0.out 0; have Gi := blk_frozen D0.out 1; have Gj := blk_frozen D0.out 2) | ((with_reducible refine gate_callee (f := 56) rfl ?_); refine goesL_ (some 9) rfl rfl Try.func56 (by kernel_rfl) rfl #[.agg #[.int .i64 a0_0, .int .i64 a0_1, .slice A0_2 l0_2.length c0_2]] rfl Cmp.q ?_; (with_reducible refine (impl_copyAccount.calls a0_0 a0_1 _ _ l0_2 De Df D5 _ ?side1 ?side2 A3.out).mono ?_); (case side1 => exact Cmp.rc (Kd.C_below Dg.out HB.out)); (case side2 => exact HC0_2.out); rintro e w12 ⟨v487, rfl, Dt, hb⟩; refine ⟨_, rfl, ?_⟩; have D4 := Aside0.mk (Kd.R_lower Dt (below_size (Cmp.g HB.out))); replace D0 := Cmp.be D0 hb; replace D2 := Cmp.be D2 hb; replace HB := Cmp.bs HB hb; (try clear hb); (try clear hb2); (try clear hk); (try clear hi); (try clear Dt)) | ((with_reducible refine gate_dst (N := 6) rfl ?_); refine box_event ?hg (N := 6) ?hd (cs := #[.int .i64 0, .int .i64 0, .slice none 0 0]) (t := 26) ?hr ?_; (case hd => rfl); (case hg => rfl); (case hr => first | (go_simp; done) | (go_simp; rfl)); intro D7 hg w13 hbox hb; have D1 := Aside0.mk (hbox); have Ds := Cmp.gw hg HB; have Dp := Cmp.gw hg HB; have D9 := Cmp.nl hg D0; have Dc := Cmp.ng hg D0; have Db := Cmp.nl hg D2; have Dd := Cmp.ng hg D2; replace D4 := Aside0.mk (Kd.R_below (Cmp.rr D4.out) hb); replace D0 := Cmp.be D0 hb; replace D2 := Cmp.be D2 hb; replace HB := Cmp.bs HB hb; clear hb hbox hg; have L3 := Dc.out; have Lf := D9.out; have L4 := Dd.out; have Lg := Db.out; have Eb := Cmp.c0 D1; have Ec := Cmp.c1 D1; have Ed := Cmp.c2 D1; have Gk := blk_frozen D1.out 0; have Gl := blk_frozen D1.out 1; have Gm := blk_frozen D1.out 2; obtain ⟨Du, Dx, Kr⟩ := Kd.R_slice D4.out; subst Kr; have Ee := Cmp.c0 D0; have Ef := Cmp.c1 D0; have Eg := Cmp.c2 D0; have Gn := blk_frozen D0.out 0; have Go := blk_frozen D0.out 1; have Gp := blk_frozen D0.out 2) | ((with_reducible refine gate_callee (f := 14) rfl ?_); refine goesL_ (some 12) rfl rfl Try.func14 (by kernel_rfl) rfl #[.agg #[.int .i64 a0_0, .int .i64 a0_1, .slice A0_2 l0_2.length c0_2], .int .i64 a1] rfl Cmp.q ?_; (with_reducible refine (impl_FindCredential.calls k a0_0 a0_1 _ _ l0_2 a1 D3 _ ?side1 ?side2 A4.out).mono ?_); (case side1 => exact Kd.C_below Dg.out (Cmp.g HB.out)); (case side2 => exact HC0_2.out); rintro e w19 ⟨rfl, hb⟩; refine ⟨_, rfl, ?_⟩; replace D4 := Aside0.mk (Kd.R_below (by (with_reducible repeat (first | apply Kd.R_alloc | apply Kd.R_drewN | apply Kd.R_drew)); exact (Kd.R_mono (Kd.R_far (p := ⟨D7, 2, none⟩) (Kd.R_far (p := ⟨D7, 1, none⟩) (Kd.R_far (p := ⟨D7, 0, none⟩) (Kd.R_types D4.out D1.out (by decide)) (fun _ hk => hk.2) (.int .i64 De)) (fun _ hk => hk.2) (.int .i64 Df)) (fun _ hk => hk.2) (.slice Du D5.length Dx)) (fun _ h_ => h_.1))) hb); replace D0 := Aside0.mk (blk_below (g := Dl) (o := .cells #[.int .i64 a0_0, .int .i64 a0_1, .slice A0_2 l0_2.length c0_2] 26 (0, 0)) (Cmp.bw D0.out) hb); replace D2 := Aside0.mk (blk_below (g := D6) (o := .cells #[.int .i64 0, .int .i64 0, .slice none 0 0] 26 (0, 0)) (Cmp.bw D2.out) hb); replace D1 := Aside0.mk (blk_below (g := D7) (o := .cells #[.int .i64 De, .int .i64 Df, .slice Du D5.length Dx] 26 (0, 0)) (Cmp.bw D1.out) hb); replace HB := Cmp.bs HB hb; (try clear hb); (try clear hb2); (try clear hk); (try clear hi); have Eh := Cmp.c0 D0; have Ei := Cmp.c1 D0; have Ej := Cmp.c2 D0; have Gq := blk_frozen D0.out 0; have Gr := blk_frozen D0.out 1; have Gs := blk_frozen D0.out 2) | ((with_reducible refine gate_callee (f := 16) rfl ?_); refine goesL_ (some 14) rfl rfl Try.func16 (by kernel_rfl) rfl #[.agg #[.int .i64 a0_0, .int .i64 a0_1, .slice A0_2 l0_2.length c0_2]] rfl Cmp.q ?_; (with_reducible refine (impl_IsValidAccount.calls k a0_0 a0_1 _ _ l0_2 true _ ?side1 ?side2 A5.out).mono ?_); (case side1 => exact Cmp.rc (Kd.C_below Dg.out HB.out)); (case side2 => exact HC0_2.out); rintro e w21 ⟨rfl, hb⟩; refine ⟨_, rfl, ?_⟩; replace D4 := Aside0.mk (Kd.R_below (Cmp.rr D4.out) hb); replace D0 := Cmp.be D0 hb; replace D2 := Cmp.be D2 hb; replace D1 := Cmp.be D1 hb; replace HB := Cmp.bs HB hb; (try clear hb); (try clear hb2); (try clear hk); (try clear hi); have Ek := Cmp.c0 D1; have El := Cmp.c1 D1; have Em := Cmp.c2 D1; have Gt := blk_frozen D1.out 0; have Gu := blk_frozen D1.out 1; have Gv := blk_frozen D1.out 2; have En := Cmp.c0 D2; have Eo := Cmp.c1 D2; have Ep := Cmp.c2 D2; have Gw := blk_frozen D2.out 0; have Gx := blk_frozen D2.out 1; have Gy := blk_frozen D2.out 2))
   refine bodyPost_ret (results_ct rfl _ _ D6 26 #[.int .i64 De, .int .i64 Df, .slice Du D5.length Dx] (0, 0) _ rfl (Cmp.bw D2.out) Try.underlying26 rfl (by kernel_rfl)) rfl ?_
   exact ⟨_, by first | rfl | (simp [errW_none, errW_some] <;> rfl) | (simp [*, errW_none, errW_some] <;> rfl), by (with_reducible repeat (first | apply Kd.R_alloc | apply Kd.R_drewN | apply Kd.R_drew)); exact Kd.R_mono (Kd.R_far (p := ⟨D6, 2, none⟩) (Kd.R_far (p := ⟨D6, 1, none⟩) (Kd.R_far (p := ⟨D6, 0, none⟩) (Kd.R_types D4.out D2.out (by decide)) (fun _ hk => hk.2) (.int .i64 De)) (fun _ hk => hk.2) (.int .i64 Df)) (fun _ hk => hk.2) (.slice Du D5.length Dx)) (fun _ hk => trivial), Cmp.g HB.out⟩
  ·rw [if_neg c7] at H; have c7b0 : decide (D3 < 0) = false := decide_eq_false c7; clear c7
   by_cases c24 : 0 ≤ D3
   ·rw [if_pos c24] at H; have c24b0 : decide (0 ≤ D3) = true := decide_eq_true c24; clear c24
    by_cases c25 : D3 < (l0_2.length : Int)
    ·rw [if_pos c25] at H
     have c25b0 : decide (D3 < (l0_2.length : Int)) = true := decide_eq_true c25
     clear c25
     obtain ⟨bq26, hbq26⟩ : ∃ b_ : Bool, b_ = ((rd_T35 l0_2 D3).f3) := ⟨_, rfl⟩
     replace H : (if bq26 = true then (some (De, Df, D5, false)) else (if D3 < (D5.length : Int) then (some (De, Df, (D5.set (D3 : Int).toNat (⟨(rd_T35 D5 D3).f0, (rd_T35 D5 D3).f1, (rd_T35 D5 D3).f2, true⟩ : S35)), true)) else (none))) = some (r1, r2, r3, r4) := by rw [← hbq26] at H; exact H
     have Nbq26 := Aside0.mk hbq26; clear hbq26
     by_cases c27 : bq26 = true
     ·subst c27; rw [if_pos rfl] at H
      simp only [Option.some.injEq, Prod.mk.injEq] at H
      obtain ⟨rfl, rfl, rfl, rfl⟩ := H
      go_enter Try.func15, Try.ntmps15
      go_wp2_with (first | ((with_reducible refine gate_dst (N := 2) rfl ?_); refine box_event ?hg (N := 2) ?hd (cs := #[.int .i64 a0_0, .int .i64 a0_1, .slice A0_2 l0_2.length c0_2]) (t := 26) ?hr ?_; (case hd => rfl); (case hg => rfl); (case hr => first | (go_simp; done) | (go_simp; rfl)); intro Dl hg w28 hbox hb; have D0 := Aside0.mk (hbox); have Dq := Cmp.gw hg HB; have Dn := Cmp.gw hg HB; replace HB := Cmp.bs HB hb; clear hb hbox hg) | ((with_reducible refine gate_dst (N := 4) rfl ?_); refine box_event ?hg (N := 4) ?hd (cs := #[.int .i64 0, .int .i64 0, .slice none 0 0]) (t := 26) ?hr ?_; (case hd => rfl); (case hg => rfl); (case hr => first | (go_simp; done) | (go_simp; rfl)); intro D6 hg w29 hbox hb; have D2 := Aside0.mk (hbox); have Dr := Cmp.gw hg HB; have Do := Cmp.gw hg HB; have D8 := Cmp.nl hg D0; have Da := Cmp.ng hg D0; replace D0 := Cmp.be D0 hb; replace HB := Cmp.bs HB hb; clear hb hbox hg; have L5 := D8.out; have Lh := Da.out; have Eq := Cmp.c0 D0; have Er := Cmp.c1 D0; have Es := Cmp.c2 D0; have Gz := blk_frozen D0.out 0; have J0 := blk_frozen D0.out 1; have J1 := blk_frozen D0.out 2) | ((with_reducible refine gate_callee (f := 56) rfl ?_); refine goesL_ (some 9) rfl rfl Try.func56 (by kernel_rfl) rfl #[.agg #[.int .i64 a0_0, .int .i64 a0_1, .slice A0_2 l0_2.length c0_2]] rfl Cmp.q ?_; (with_reducible refine (impl_copyAccount.calls a0_0 a0_1 _ _ l0_2 De Df D5 _ ?side1 ?side2 A3.out).mono ?_); (case side1 => exact Cmp.rc (Kd.C_below Dg.out HB.out)); (case side2 => exact HC0_2.out); rintro e w32 ⟨v487, rfl, Dt, hb⟩; refine ⟨_, rfl, ?_⟩; have D4 := Aside0.mk (Kd.R_lower Dt (below_size (Cmp.g HB.out))); replace D0 := Cmp.be D0 hb; replace D2 := Cmp.be D2 hb; replace HB := Cmp.bs HB hb; (try clear hb); (try clear hb2); (try clear hk); (try clear hi); (try clear Dt)) | ((with_reducible refine gate_dst (N := 6) rfl ?_); refine box_event ?hg (N := 6) ?hd (cs := #[.int .i64 0, .int .i64 0, .slice none 0 0]) (t := 26) ?hr ?_; (case hd => rfl); (case hg => rfl); (case hr => first | (go_simp; done) | (go_simp; rfl)); intro D7 hg w33 hbox hb; have D1 := Aside0.mk (hbox); have Ds := Cmp.gw hg HB; have Dp := Cmp.gw hg HB; have D9 := Cmp.nl hg D0; have Dc := Cmp.ng hg D0; have Db := Cmp.nl hg D2; have Dd := Cmp.ng hg D2; replace D4 := Aside0.mk (Kd.R_below (Cmp.rr D4.out) hb); replace D0 := Cmp.be D0 hb; replace D2 := Cmp.be D2 hb; replace HB := Cmp.bs HB hb; clear hb hbox hg; have L6 := Dc.out; have Li := D9.out; have L7 := Dd.out; have Lj := Db.out; have Et := Cmp.c0 D1; have Eu := Cmp.c1 D1; have Ev := Cmp.c2 D1; have J2 := blk_frozen D1.out 0; have J3 := blk_frozen D1.out 1; have J4 := blk_frozen D1.out 2; obtain ⟨Dv, Dy, Ks⟩ := Kd.R_slice D4.out; subst Ks; have Ew := Cmp.c0 D0; have Ex := Cmp.c1 D0; have Ey := Cmp.c2 D0; have J5 := blk_frozen D0.out 0; have J6 := blk_frozen D0.out 1; have J7 := blk_frozen D0.out 2) | ((with_reducible refine gate_callee (f := 14) rfl ?_); refine goesL_ (some 12) rfl rfl Try.func14 (by kernel_rfl) rfl #[.agg #[.int .i64 a0_0, .int .i64 a0_1, .slice A0_2 l0_2.length c0_2], .int .i64 a1] rfl Cmp.q ?_; (with_reducible refine (impl_FindCredential.calls k a0_0 a0_1 _ _ l0_2 a1 D3 _ ?side1 ?side2 A4.out).mono ?_); (case side1 => exact Kd.C_below Dg.out (Cmp.g HB.out)); (case side2 => exact HC0_2.out); rintro e w39 ⟨rfl, hb⟩; refine ⟨_, rfl, ?_⟩; replace D4 := Aside0.mk (Kd.R_below (by (with_reducible repeat (first | apply Kd.R_alloc | apply Kd.R_drewN | apply Kd.R_drew)); exact (Kd.R_mono (Kd.R_far (p := ⟨D7, 2, none⟩) (Kd.R_far (p := ⟨D7, 1, none⟩) (Kd.R_far (p := ⟨D7, 0, none⟩) (Kd.R_types D4.out D1.out (by decide)) (fun _ hk => hk.2) (.int .i64 De)) (fun _ hk => hk.2) (.int .i64 Df)) (fun _ hk => hk.2) (.slice Dv D5.length Dy)) (fun _ h_ => h_.1))) hb); replace D0 := Aside0.mk (blk_below (g := Dl) (o := .cells #[.int .i64 a0_0, .int .i64 a0_1, .slice A0_2 l0_2.length c0_2] 26 (0, 0)) (Cmp.bw D0.out) hb); replace D2 := Aside0.mk (blk_below (g := D6) (o := .cells #[.int .i64 0, .int .i64 0, .slice none 0 0] 26 (0, 0)) (Cmp.bw D2.out) hb); replace D1 := Aside0.mk (blk_below (g := D7) (o := .cells #[.int .i64 De, .int .i64 Df, .slice Dv D5.length Dy] 26 (0, 0)) (Cmp.bw D1.out) hb); replace HB := Cmp.bs HB hb; (try clear hb); (try clear hb2); (try clear hk); (try clear hi); have Ez := Cmp.c0 D0; have F0 := Cmp.c1 D0; have F1 := Cmp.c2 D0; have J8 := blk_frozen D0.out 0; have J9 := blk_frozen D0.out 1; have Ja := blk_frozen D0.out 2) | ((with_reducible refine gate_callee (f := 16) rfl ?_); refine goesL_ (some 14) rfl rfl Try.func16 (by kernel_rfl) rfl #[.agg #[.int .i64 a0_0, .int .i64 a0_1, .slice A0_2 l0_2.length c0_2]] rfl Cmp.q ?_; (with_reducible refine (impl_IsValidAccount.calls k a0_0 a0_1 _ _ l0_2 true _ ?side1 ?side2 A5.out).mono ?_); (case side1 => exact Cmp.rc (Kd.C_below Dg.out HB.out)); (case side2 => exact HC0_2.out); rintro e w41 ⟨rfl, hb⟩; refine ⟨_, rfl, ?_⟩; replace D4 := Aside0.mk (Kd.R_below (Cmp.rr D4.out) hb); replace D0 := Cmp.be D0 hb; replace D2 := Cmp.be D2 hb; replace D1 := Cmp.be D1 hb; replace HB := Cmp.bs HB hb; (try clear hb); (try clear hb2); (try clear hk); (try clear hi); have F2 := Cmp.c0 D0; have F3 := Cmp.c1 D0; have F4 := Cmp.c2 D0; have Jb := blk_frozen D0.out 0; have Jc := blk_frozen D0.out 1; have Jd := blk_frozen D0.out 2; have p492 : 0 ≤ (D3 : Int) := of_decide_eq_true Cmp.d; have q492 : D3 < (l0_2.length : Int) := of_decide_eq_true Cmp.d; obtain ⟨E4, e492, Di, Dj, Dk, Dh⟩ := at_T35 Dg.out D3 p492 q492; (try rw [← Nbq26.out] at Dh); cases e492; replace Di := Cmp.hc HB Di; replace Dj := Cmp.hc HB Dj; replace Dk := Cmp.hc HB Dk; replace Dh := Cmp.hc HB Dh; replace p492 := eq_true p492; replace q492 := eq_true q492; have F5 := Cmp.c0 D1; have F6 := Cmp.c1 D1; have F7 := Cmp.c2 D1; have Je := blk_frozen D1.out 0; have Jf := blk_frozen D1.out 1; have Jg := blk_frozen D1.out 2; have F8 := Cmp.c0 D2; have F9 := Cmp.c1 D2; have Fa := Cmp.c2 D2; have Jh := blk_frozen D2.out 0; have Ji := blk_frozen D2.out 1; have Jj := blk_frozen D2.out 2))
      refine bodyPost_ret (results_ct rfl _ _ D6 26 #[.int .i64 De, .int .i64 Df, .slice Dv D5.length Dy] (0, 0) _ rfl (Cmp.bw D2.out) Try.underlying26 rfl (by kernel_rfl)) rfl ?_
      exact ⟨_, by first | rfl | (simp [errW_none, errW_some] <;> rfl) | (simp [*, errW_none, errW_some] <;> rfl), by (with_reducible repeat (first | apply Kd.R_alloc | apply Kd.R_drewN | apply Kd.R_drew)); exact Kd.R_mono (Kd.R_far (p := ⟨D6, 2, none⟩) (Kd.R_far (p := ⟨D6, 1, none⟩) (Kd.R_far (p := ⟨D6, 0, none⟩) (Kd.R_types D4.out D2.out (by decide)) (fun _ hk => hk.2) (.int .i64 De)) (fun _ hk => hk.2) (.int .i64 Df)) (fun _ hk => hk.2) (.slice Dv D5.length Dy)) (fun _ hk => trivial), Cmp.g HB.out⟩
     ·replace c27 := Bool.eq_false_iff.mpr c27
      subst c27
      have H1 : (if D3 < (D5.length : Int) then (some (De, Df, (D5.set (D3 : Int).toNat (⟨(rd_T35 D5 D3).f0, (rd_T35 D5 D3).f1, (rd_T35 D5 D3).f2, true⟩ : S35)), true)) else (none)) = some (r1, r2, r3, r4) := by rw [if_neg (show ¬ (false = true) by decide)] at H; exact H
      clear H; have H := H1; clear H1
      by_cases c45 : D3 < (D5.length : Int)
      ·rw [if_pos c45] at H
       have c45b0 : decide (D3 < (D5.length : Int)) = true := decide_eq_true c45
       clear c45
       obtain ⟨E7, hy493⟩ : ∃ y_ : List (S35), y_ = (D5.set (D3 : Int).toNat (⟨(rd_T35 D5 D3).f0, (rd_T35 D5 D3).f1, (rd_T35 D5 D3).f2, true⟩ : S35)) := ⟨_, rfl⟩
       replace H : (some (De, Df, E7, true)) = some (r1, r2, r3, r4) := by first | (rw [hy493]; with_reducible exact H) | (have H2_ := (Option.bind_some _ _).symm.trans H; rw [hy493]; with_reducible exact H2_) | (have H2_ := (Option.bind_some _ _).symm.trans H; with_reducible exact H2_) | with_reducible exact H | (rw [hy493]; exact H) | exact H
       have E3 := Aside0.mk hy493; clear hy493
       simp only [Option.some.injEq, Prod.mk.injEq] at H
       obtain ⟨rfl, rfl, rfl, rfl⟩ := H
       go_enter Try.func15, Try.ntmps15
       go_wp2_with (first | ((with_reducible refine gate_dst (N := 2) rfl ?_); refine box_event ?hg (N := 2) ?hd (cs := #[.int .i64 a0_0, .int .i64 a0_1, .slice A0_2 l0_2.length c0_2]) (t := 26) ?hr ?_; (case hd => rfl); (case hg => rfl); (case hr => first | (go_simp; done) | (go_simp; rfl)); intro Dl hg w47 hbox hb; have D0 := Aside0.mk (hbox); have Dq := Cmp.gw hg HB; have Dn := Cmp.gw hg HB; replace HB := Cmp.bs HB hb; clear hb hbox hg) | ((with_reducible refine gate_dst (N := 4) rfl ?_); refine box_event ?hg (N := 4) ?hd (cs := #[.int .i64 0, .int .i64 0, .slice none 0 0]) (t := 26) ?hr ?_; (case hd => rfl); (case hg => rfl); (case hr => first | (go_simp; done) | (go_simp; rfl)); intro D6 hg w48 hbox hb; have D2 := Aside0.mk (hbox); have Dr := Cmp.gw hg HB; have Do := Cmp.gw hg HB; have D8 := Cmp.nl hg D0; have Da := Cmp.ng hg D0; replace D0 := Cmp.be D0 hb; replace HB := Cmp.bs HB hb; clear hb hbox hg; have L8 := D8.out; have Lk := Da.out; have Fb := Cmp.c0 D0; have Fc := Cmp.c1 D0; have Fd := Cmp.c2 D0; have Jk := blk_frozen D0.out 0; have Jl := blk_frozen D0.out 1; have Jm := blk_frozen D0.out 2) | ((with_reducible refine gate_callee (f := 56) rfl ?_); refine goesL_ (some 9) rfl rfl Try.func56 (by kernel_rfl) rfl #[.agg #[.int .i64 a0_0, .int .i64 a0_1, .slice A0_2 l0_2.length c0_2]] rfl Cmp.q ?_; (with_reducible refine (impl_copyAccount.calls a0_0 a0_1 _ _ l0_2 De Df D5 _ ?side1 ?side2 A3.out).mono ?_); (case side1 => exact Cmp.rc (Kd.C_below Dg.out HB.out)); (case side2 => exact HC0_2.out); rintro e w51 ⟨v487, rfl, Dt, hb⟩; refine ⟨_, rfl, ?_⟩; have D4 := Aside0.mk (Kd.R_lower Dt (below_size (Cmp.g HB.out))); replace D0 := Cmp.be D0 hb; replace D2 := Cmp.be D2 hb; replace HB := Cmp.bs HB hb; (try clear hb); (try clear hb2); (try clear hk); (try clear hi); (try clear Dt)) | ((with_reducible refine gate_dst (N := 6) rfl ?_); refine box_event ?hg (N := 6) ?hd (cs := #[.int .i64 0, .int .i64 0, .slice none 0 0]) (t := 26) ?hr ?_; (case hd => rfl); (case hg => rfl); (case hr => first | (go_simp; done) | (go_simp; rfl)); intro D7 hg w52 hbox hb; have D1 := Aside0.mk (hbox); have Ds := Cmp.gw hg HB; have Dp := Cmp.gw hg HB; have D9 := Cmp.nl hg D0; have Dc := Cmp.ng hg D0; have Db := Cmp.nl hg D2; have Dd := Cmp.ng hg D2; replace D4 := Aside0.mk (Kd.R_below (Cmp.rr D4.out) hb); replace D0 := Cmp.be D0 hb; replace D2 := Cmp.be D2 hb; replace HB := Cmp.bs HB hb; clear hb hbox hg; have L9 := Dc.out; have Ll := D9.out; have La := Dd.out; have Lm := Db.out; have Fe := Cmp.c0 D1; have Ff := Cmp.c1 D1; have Fg := Cmp.c2 D1; have Jn := blk_frozen D1.out 0; have Jo := blk_frozen D1.out 1; have Jp := blk_frozen D1.out 2; obtain ⟨E2, Dm, Kt⟩ := Kd.R_slice D4.out; subst Kt; have Fh := Cmp.c0 D0; have Fi := Cmp.c1 D0; have Fj := Cmp.c2 D0; have Jq := blk_frozen D0.out 0; have Jr := blk_frozen D0.out 1; have Js := blk_frozen D0.out 2) | ((with_reducible refine gate_callee (f := 14) rfl ?_); refine goesL_ (some 12) rfl rfl Try.func14 (by kernel_rfl) rfl #[.agg #[.int .i64 a0_0, .int .i64 a0_1, .slice A0_2 l0_2.length c0_2], .int .i64 a1] rfl Cmp.q ?_; (with_reducible refine (impl_FindCredential.calls k a0_0 a0_1 _ _ l0_2 a1 D3 _ ?side1 ?side2 A4.out).mono ?_); (case side1 => exact Kd.C_below Dg.out (Cmp.g HB.out)); (case side2 => exact HC0_2.out); rintro e w58 ⟨rfl, hb⟩; refine ⟨_, rfl, ?_⟩; replace D4 := Aside0.mk (Kd.R_below (by (with_reducible repeat (first | apply Kd.R_alloc | apply Kd.R_drewN | apply Kd.R_drew)); exact (Kd.R_mono (Kd.R_far (p := ⟨D7, 2, none⟩) (Kd.R_far (p := ⟨D7, 1, none⟩) (Kd.R_far (p := ⟨D7, 0, none⟩) (Kd.R_types D4.out D1.out (by decide)) (fun _ hk => hk.2) (.int .i64 De)) (fun _ hk => hk.2) (.int .i64 Df)) (fun _ hk => hk.2) (.slice E2 D5.length Dm)) (fun _ h_ => h_.1))) hb); replace D0 := Aside0.mk (blk_below (g := Dl) (o := .cells #[.int .i64 a0_0, .int .i64 a0_1, .slice A0_2 l0_2.length c0_2] 26 (0, 0)) (Cmp.bw D0.out) hb); replace D2 := Aside0.mk (blk_below (g := D6) (o := .cells #[.int .i64 0, .int .i64 0, .slice none 0 0] 26 (0, 0)) (Cmp.bw D2.out) hb); replace D1 := Aside0.mk (blk_below (g := D7) (o := .cells #[.int .i64 De, .int .i64 Df, .slice E2 D5.length Dm] 26 (0, 0)) (Cmp.bw D1.out) hb); replace HB := Cmp.bs HB hb; (try clear hb); (try clear hb2); (try clear hk); (try clear hi); have Fk := Cmp.c0 D0; have Fl := Cmp.c1 D0; have Fm := Cmp.c2 D0; have Jt := blk_frozen D0.out 0; have Ju := blk_frozen D0.out 1; have Jv := blk_frozen D0.out 2) | ((with_reducible refine gate_callee (f := 16) rfl ?_); refine goesL_ (some 14) rfl rfl Try.func16 (by kernel_rfl) rfl #[.agg #[.int .i64 a0_0, .int .i64 a0_1, .slice A0_2 l0_2.length c0_2]] rfl Cmp.q ?_; (with_reducible refine (impl_IsValidAccount.calls k a0_0 a0_1 _ _ l0_2 true _ ?side1 ?side2 A5.out).mono ?_); (case side1 => exact Cmp.rc (Kd.C_below Dg.out HB.out)); (case side2 => exact HC0_2.out); rintro e w60 ⟨rfl, hb⟩; refine ⟨_, rfl, ?_⟩; replace D4 := Aside0.mk (Kd.R_below (Cmp.rr D4.out) hb); replace D0 := Cmp.be D0 hb; replace D2 := Cmp.be D2 hb; replace D1 := Cmp.be D1 hb; replace HB := Cmp.bs HB hb; (try clear hb); (try clear hb2); (try clear hk); (try clear hi); have Fn := Cmp.c0 D0; have Fo := Cmp.c1 D0; have Fp := Cmp.c2 D0; have Jw := blk_frozen D0.out 0; have Jx := blk_frozen D0.out 1; have Jy := blk_frozen D0.out 2; have p492 : 0 ≤ (D3 : Int) := of_decide_eq_true Cmp.d; have q492 : D3 < (l0_2.length : Int) := of_decide_eq_true Cmp.d; obtain ⟨E4, e492, Di, Dj, Dk, Dh⟩ := at_T35 Dg.out D3 p492 q492; (try rw [← Nbq26.out] at Dh); cases e492; replace Di := Cmp.hc HB Di; replace Dj := Cmp.hc HB Dj; replace Dk := Cmp.hc HB Dk; replace Dh := Cmp.hc HB Dh; replace p492 := eq_true p492; replace q492 := eq_true q492; have Fq := Cmp.c0 D1; have Fr := Cmp.c1 D1; have Fs := Cmp.c2 D1; have Jz := blk_frozen D1.out 0; have K0 := blk_frozen D1.out 1; have K1 := blk_frozen D1.out 2; have p46 : 0 ≤ (D3 : Int) := of_decide_eq_true Cmp.d; have q46 : (D3 : Int) < ((D5.length : Int) : Int) := of_decide_eq_true Cmp.d; obtain ⟨go46, Lq, E5, E6, gl46, cl46, HG46⟩ := Kd.R_form D4.out (by omega); (first | cases E5 | (injection E5 with ea_ en_ ec_; (first | subst ea_ | (injection ea_ with ea_; subst ea_)); subst ec_; clear en_)); have GB46 := Aside0.mk E6; have GG46 := Aside0.mk HG46; clear E6 gl46 HG46; obtain ⟨ce46, hcl46, hM46, hcc46, hfr46⟩ := Kd.R_elem D4.out z35 (D3 : Int) p46 q46; obtain rfl := k35_openM hM46; have Kv : w60.cell? ⟨go46, (D3 : Int).toNat * 4, none⟩ = some (.int .i64 ((rd_T35 D5 D3).f0)) := hcc46 0 _ rfl; have Kw : w60.cell? ⟨go46, (D3 : Int).toNat * 4 + 1, none⟩ = some (.int .i64 ((rd_T35 D5 D3).f1)) := hcc46 1 _ rfl; have Kx : w60.cell? ⟨go46, (D3 : Int).toNat * 4 + 2, none⟩ = some (.int .i64 ((rd_T35 D5 D3).f2)) := hcc46 2 _ rfl; have Ky : w60.cell? ⟨go46, (D3 : Int).toNat * 4 + 3, none⟩ = some (.bool ((rd_T35 D5 D3).f3)) := hcc46 3 _ rfl; have hf46_0 : w60.frozen? ⟨go46, (D3 : Int).toNat * 4, none⟩ = false := hfr46 0; have hf46_1 : w60.frozen? ⟨go46, (D3 : Int).toNat * 4 + 1, none⟩ = false := hfr46 1; have hf46_2 : w60.frozen? ⟨go46, (D3 : Int).toNat * 4 + 2, none⟩ = false := hfr46 2; have hf46_3 : w60.frozen? ⟨go46, (D3 : Int).toNat * 4 + 3, none⟩ = false := hfr46 3; clear hcl46 hcc46 hfr46 hM46; replace p46 := eq_true p46; replace q46 := eq_true q46; have HX63 := Aside0.mk (show Kd.R k35 35 w60 w.heap.size (fun _ => True) (.slice (some ⟨go46, 0, none⟩) D5.length Dm) D5 from (Cmp.rr D4.out)); obtain ⟨ce63, hcl63, hM63, hcc63, hfr63⟩ := Kd.R_elem HX63.out z35 (D3 : Int) (of_decide_eq_true Cmp.d) (by have h_ : (D3 : Int) < ((D5.length : Int) : Int) := of_decide_eq_true Cmp.d; first | exact h_ | (have e_ := (Kd.R_reads' D4.out).1; omega) | simpa using h_); obtain rfl := k35_openM hM63; have HP63 := Kd.R_seg HX63.out (D3 : Int) (of_decide_eq_true Cmp.d) (by have h_ : (D3 : Int) < ((D5.length : Int) : Int) := of_decide_eq_true Cmp.d; first | exact h_ | (have e_ := (Kd.R_reads' D4.out).1; omega) | simpa using h_) (seg := [.bool true]) (j := 3) hcl63 hcc63 (show 4 ≤ 4 from by decide) (x' := (⟨(rd_T35 D5 D3).f0, (rd_T35 D5 D3).f1, (rd_T35 D5 D3).f2, true⟩ : S35)) (k35_mkM _ _ _ (⟨(rd_T35 D5 D3).f0, (rd_T35 D5 D3).f1, (rd_T35 D5 D3).f2, true⟩ : S35) ) (fun _ hk => hk); have E0 := hcc63 3 _ rfl; (try simp only [show (k35).sz = 4 from rfl, Nat.mul_one, Nat.add_zero] at E0); have hf63_3 := hfr63 3; (try simp only [show (k35).sz = 4 from rfl, Nat.mul_one, Nat.add_zero] at hf63_3); clear hcl63 hcc63 hfr63 hM63) | ((with_reducible refine gate_store (t := 4) (p := 33) rfl ?_); refine store_event (t := 4) (p := 33) (v := ?vo_w64) (w1 := (w60.setCell ⟨go46, (D3 : Int).toNat * 4 + 3, none⟩ (.bool true))) ?hg ?ho ?hn ?hr ?_; (case ho => rfl); (case hg => rfl); (case hn => rfl); (case hr => first | (go_simp; done) | (go_simp; rfl)); intro w64 hw; have hg : w60.grownBy w64 (some go46) := (by rw [hw]; exact HP63.2); have hp_ : Kd.R k35 35 w64 w.heap.size (fun _ => True) (.slice (some ⟨go46, 0, none⟩) D5.length Dm) E7 := (by rw [hw, E3.out]; exact HP63.1); clear HP63; replace D0 := Cmp.bg D0 hg (Kd.R_ne D4.out D0.out (by decide)); replace D2 := Cmp.bg D2 hg (Kd.R_ne D4.out D2.out (by decide)); replace D1 := Cmp.bg D1 hg (Kd.R_ne D4.out D1.out (by decide)); replace D4 := Aside0.mk (hp_); replace HB := Aside0.mk ((by rw [hw]; exact below_set (HB.out) GB46.out : Below w.heap.size w w64)); clear hg hw hp_; have Ft := Cmp.c0 D1; have Fu := Cmp.c1 D1; have Fv := Cmp.c2 D1; have K2 := blk_frozen D1.out 0; have K3 := blk_frozen D1.out 1; have K4 := blk_frozen D1.out 2; have Fw := Cmp.c0 D2; have Fx := Cmp.c1 D2; have Fy := Cmp.c2 D2; have K5 := blk_frozen D2.out 0; have K6 := blk_frozen D2.out 1; have K7 := blk_frozen D2.out 2))
       refine bodyPost_ret (results_ct rfl _ _ D6 26 #[.int .i64 De, .int .i64 Df, .slice (some ⟨go46, 0, none⟩) D5.length Dm] (0, 0) _ rfl (Cmp.bw D2.out) Try.underlying26 rfl (by kernel_rfl)) rfl ?_
       exact ⟨_, by first | rfl | (simp [errW_none, errW_some] <;> rfl) | (simp [*, errW_none, errW_some] <;> rfl), by (with_reducible repeat (first | apply Kd.R_alloc | apply Kd.R_drewN | apply Kd.R_drew)); exact Kd.R_mono (Kd.R_far (p := ⟨D6, 2, none⟩) (Kd.R_far (p := ⟨D6, 1, none⟩) (Kd.R_far (p := ⟨D6, 0, none⟩) (Kd.R_types D4.out D2.out (by decide)) (fun _ hk => hk.2) (.int .i64 De)) (fun _ hk => hk.2) (.int .i64 Df)) (fun _ hk => hk.2) (.slice (some ⟨go46, 0, none⟩) D5.length Dm)) (fun _ hk => trivial), Cmp.g HB.out⟩
      ·rw [if_neg c45] at H; exact absurd H (by simp)
    ·rw [if_neg c25] at H; exact absurd H (by simp)
   ·rw [if_neg c24] at H; exact absurd H (by simp)
 ·replace c6 := Bool.eq_false_iff.mpr c6
  subst c6
  have H1 : (some (De, Df, D5, false)) = some (r1, r2, r3, r4) := by rw [if_neg (show ¬ (false = true) by decide)] at H; exact H
  clear H; have H := H1; clear H1
  simp only [Option.some.injEq, Prod.mk.injEq] at H
  obtain ⟨rfl, rfl, rfl, rfl⟩ := H
  go_enter Try.func15, Try.ntmps15
  go_wp2_with (first | ((with_reducible refine gate_dst (N := 2) rfl ?_); refine box_event ?hg (N := 2) ?hd (cs := #[.int .i64 a0_0, .int .i64 a0_1, .slice A0_2 l0_2.length c0_2]) (t := 26) ?hr ?_; (case hd => rfl); (case hg => rfl); (case hr => first | (go_simp; done) | (go_simp; rfl)); intro Dl hg w67 hbox hb; have D0 := Aside0.mk (hbox); have Dq := Cmp.gw hg HB; have Dn := Cmp.gw hg HB; replace HB := Cmp.bs HB hb; clear hb hbox hg) | ((with_reducible refine gate_dst (N := 4) rfl ?_); refine box_event ?hg (N := 4) ?hd (cs := #[.int .i64 0, .int .i64 0, .slice none 0 0]) (t := 26) ?hr ?_; (case hd => rfl); (case hg => rfl); (case hr => first | (go_simp; done) | (go_simp; rfl)); intro D6 hg w68 hbox hb; have D2 := Aside0.mk (hbox); have Dr := Cmp.gw hg HB; have Do := Cmp.gw hg HB; have D8 := Cmp.nl hg D0; have Da := Cmp.ng hg D0; replace D0 := Cmp.be D0 hb; replace HB := Cmp.bs HB hb; clear hb hbox hg; have Lb := D8.out; have Ln := Da.out; have Fz := Cmp.c0 D0; have G0 := Cmp.c1 D0; have G1 := Cmp.c2 D0; have K8 := blk_frozen D0.out 0; have K9 := blk_frozen D0.out 1; have Ka := blk_frozen D0.out 2) | ((with_reducible refine gate_callee (f := 56) rfl ?_); refine goesL_ (some 9) rfl rfl Try.func56 (by kernel_rfl) rfl #[.agg #[.int .i64 a0_0, .int .i64 a0_1, .slice A0_2 l0_2.length c0_2]] rfl Cmp.q ?_; (with_reducible refine (impl_copyAccount.calls a0_0 a0_1 _ _ l0_2 De Df D5 _ ?side1 ?side2 A3.out).mono ?_); (case side1 => exact Cmp.rc (Kd.C_below Dg.out HB.out)); (case side2 => exact HC0_2.out); rintro e w71 ⟨v487, rfl, Dt, hb⟩; refine ⟨_, rfl, ?_⟩; have D4 := Aside0.mk (Kd.R_lower Dt (below_size (Cmp.g HB.out))); replace D0 := Cmp.be D0 hb; replace D2 := Cmp.be D2 hb; replace HB := Cmp.bs HB hb; (try clear hb); (try clear hb2); (try clear hk); (try clear hi); (try clear Dt)) | ((with_reducible refine gate_dst (N := 6) rfl ?_); refine box_event ?hg (N := 6) ?hd (cs := #[.int .i64 0, .int .i64 0, .slice none 0 0]) (t := 26) ?hr ?_; (case hd => rfl); (case hg => rfl); (case hr => first | (go_simp; done) | (go_simp; rfl)); intro D7 hg w72 hbox hb; have D1 := Aside0.mk (hbox); have Ds := Cmp.gw hg HB; have Dp := Cmp.gw hg HB; have D9 := Cmp.nl hg D0; have Dc := Cmp.ng hg D0; have Db := Cmp.nl hg D2; have Dd := Cmp.ng hg D2; replace D4 := Aside0.mk (Kd.R_below (Cmp.rr D4.out) hb); replace D0 := Cmp.be D0 hb; replace D2 := Cmp.be D2 hb; replace HB := Cmp.bs HB hb; clear hb hbox hg; have Lc := Dc.out; have Lo := D9.out; have Ld := Dd.out; have Lp := Db.out; have G2 := Cmp.c0 D1; have G3 := Cmp.c1 D1; have G4 := Cmp.c2 D1; have Kb := blk_frozen D1.out 0; have Kc := blk_frozen D1.out 1; have Ke := blk_frozen D1.out 2; obtain ⟨Dw, Dz, Ku⟩ := Kd.R_slice D4.out; subst Ku; have G5 := Cmp.c0 D0; have G6 := Cmp.c1 D0; have G7 := Cmp.c2 D0; have Kf := blk_frozen D0.out 0; have Kg := blk_frozen D0.out 1; have Kh := blk_frozen D0.out 2) | ((with_reducible refine gate_callee (f := 14) rfl ?_); refine goesL_ (some 12) rfl rfl Try.func14 (by kernel_rfl) rfl #[.agg #[.int .i64 a0_0, .int .i64 a0_1, .slice A0_2 l0_2.length c0_2], .int .i64 a1] rfl Cmp.q ?_; (with_reducible refine (impl_FindCredential.calls k a0_0 a0_1 _ _ l0_2 a1 D3 _ ?side1 ?side2 A4.out).mono ?_); (case side1 => exact Kd.C_below Dg.out (Cmp.g HB.out)); (case side2 => exact HC0_2.out); rintro e w78 ⟨rfl, hb⟩; refine ⟨_, rfl, ?_⟩; replace D4 := Aside0.mk (Kd.R_below (by (with_reducible repeat (first | apply Kd.R_alloc | apply Kd.R_drewN | apply Kd.R_drew)); exact (Kd.R_mono (Kd.R_far (p := ⟨D7, 2, none⟩) (Kd.R_far (p := ⟨D7, 1, none⟩) (Kd.R_far (p := ⟨D7, 0, none⟩) (Kd.R_types D4.out D1.out (by decide)) (fun _ hk => hk.2) (.int .i64 De)) (fun _ hk => hk.2) (.int .i64 Df)) (fun _ hk => hk.2) (.slice Dw D5.length Dz)) (fun _ h_ => h_.1))) hb); replace D0 := Aside0.mk (blk_below (g := Dl) (o := .cells #[.int .i64 a0_0, .int .i64 a0_1, .slice A0_2 l0_2.length c0_2] 26 (0, 0)) (Cmp.bw D0.out) hb); replace D2 := Aside0.mk (blk_below (g := D6) (o := .cells #[.int .i64 0, .int .i64 0, .slice none 0 0] 26 (0, 0)) (Cmp.bw D2.out) hb); replace D1 := Aside0.mk (blk_below (g := D7) (o := .cells #[.int .i64 De, .int .i64 Df, .slice Dw D5.length Dz] 26 (0, 0)) (Cmp.bw D1.out) hb); replace HB := Cmp.bs HB hb; (try clear hb); (try clear hb2); (try clear hk); (try clear hi); have G8 := Cmp.c0 D0; have G9 := Cmp.c1 D0; have Ga := Cmp.c2 D0; have Ki := blk_frozen D0.out 0; have Kj := blk_frozen D0.out 1; have Kk := blk_frozen D0.out 2) | ((with_reducible refine gate_callee (f := 16) rfl ?_); refine goesL_ (some 14) rfl rfl Try.func16 (by kernel_rfl) rfl #[.agg #[.int .i64 a0_0, .int .i64 a0_1, .slice A0_2 l0_2.length c0_2]] rfl Cmp.q ?_; (with_reducible refine (impl_IsValidAccount.calls k a0_0 a0_1 _ _ l0_2 false _ ?side1 ?side2 A5.out).mono ?_); (case side1 => exact Cmp.rc (Kd.C_below Dg.out HB.out)); (case side2 => exact HC0_2.out); rintro e w80 ⟨rfl, hb⟩; refine ⟨_, rfl, ?_⟩; replace D4 := Aside0.mk (Kd.R_below (Cmp.rr D4.out) hb); replace D0 := Cmp.be D0 hb; replace D2 := Cmp.be D2 hb; replace D1 := Cmp.be D1 hb; replace HB := Cmp.bs HB hb; (try clear hb); (try clear hb2); (try clear hk); (try clear hi); have Gb := Cmp.c0 D1; have Gc := Cmp.c1 D1; have Gd := Cmp.c2 D1; have Kl := blk_frozen D1.out 0; have Km := blk_frozen D1.out 1; have Kn := blk_frozen D1.out 2; have Ge := Cmp.c0 D2; have Gf := Cmp.c1 D2; have Gg := Cmp.c2 D2; have Ko := blk_frozen D2.out 0; have Kp := blk_frozen D2.out 1; have Kq := blk_frozen D2.out 2))
  refine bodyPost_ret (results_ct rfl _ _ D6 26 #[.int .i64 De, .int .i64 Df, .slice Dw D5.length Dz] (0, 0) _ rfl (Cmp.bw D2.out) Try.underlying26 rfl (by kernel_rfl)) rfl ?_
  exact ⟨_, by first | rfl | (simp [errW_none, errW_some] <;> rfl) | (simp [*, errW_none, errW_some] <;> rfl), by (with_reducible repeat (first | apply Kd.R_alloc | apply Kd.R_drewN | apply Kd.R_drew)); exact Kd.R_mono (Kd.R_far (p := ⟨D6, 2, none⟩) (Kd.R_far (p := ⟨D6, 1, none⟩) (Kd.R_far (p := ⟨D6, 0, none⟩) (Kd.R_types D4.out D2.out (by decide)) (fun _ hk => hk.2) (.int .i64 De)) (fun _ hk => hk.2) (.int .i64 Df)) (fun _ hk => hk.2) (.slice Dw D5.length Dz)) (fun _ hk => trivial), Cmp.g HB.out⟩

end Go.Proofs.Ytgcipecdaimjfaa.PFnCredentials

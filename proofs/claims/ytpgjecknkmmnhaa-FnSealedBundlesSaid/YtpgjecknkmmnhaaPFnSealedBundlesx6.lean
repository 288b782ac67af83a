/- Printed functions of the program, out of print.sh, told more shortly. No condition. -/
import Derived.Test.YtpgjecknkmmnhaaCmp
import Derived.Test.YtpgjecknkmmnhaaPFnSealedBundlesx0
import Derived.Test.YtpgjecknkmmnhaaPFnSealedBundlesx2
import Derived.Test.YtpgjecknkmmnhaaPFnSealedBundlesx3
import Derived.Test.YtpgjecknkmmnhaaPFnSealedBundlesx4
import Derived.Test.YtpgjecknkmmnhaaPFnSealedBundlesx5
namespace Go.Proofs.Ytpgjecknkmmnhaa.PFnSealedBundles
open Go.Proofs.Ytpgjecknkmmnhaa
open Go.RowKit Go.Proofs.YtpgjecknkmmnhaaW.PrintWords Go.Proofs.YtpgjecknkmmnhaaW.PrintLast Go.Proofs.YtpgjecknkmmnhaaW.PrintMore
attribute [local go_sem] max2_int min2_int max_two min_two max_three min_three max_four min_four   -- for this text's walks alone
set_option linter.unusedVariables false
set_option linter.unusedSimpArgs false
/-! ### spec_PutEntry: function 124 -/
def spec_PutEntry.j0 : Nat → List (S94) → Int → Int → Int → Bool → Option ((List (S94)) × Bool)
  | 0, _, _, _, _, _ => none
  | k + 1, x214000, x216000, x216001, x216002, x216003 => (spec_l17Set.f k x214000 x216000 x216001 x216002 x216003).bind fun t222 => ((spec_IsBundle.f k x214000).bind fun t226 => (if t226 = true then ((spec_IsBundle.f k t222).bind fun t227 => (if t227 = true then (some (t222, true)) else ((spec_l17Copy.f x214000).bind fun t228 => (some (t228, false))))) else ((spec_l17Copy.f x214000).bind fun t231 => (some (t231, false)))))
def spec_PutEntry.f (k : Nat) (l0_0 : List (S94)) (a1 : Int) (a2 : Int) : Option ((List (S94)) × Bool) := (spec_FindEntry.f k l0_0 a1 a2).bind fun t216 => (if t216 ≥ 0 then (if 0 ≤ t216 then (if t216 < (l0_0.length : Int) then (if ((rd_T94 l0_0 t216).f3 = true) then (spec_PutEntry.j0 k l0_0 a1 a2 (wrap64 (((rd_T94 l0_0 t216).f2) + 1)) false) else ((spec_l17Copy.f l0_0).bind fun t219 => (some (t219, false)))) else (none)) else (none)) else (spec_PutEntry.j0 k l0_0 a1 a2 1 false))
theorem spec_PutEntry.mono_l : ∀ k, (∀ y0 y1 y2 y3 y4, LeO (spec_PutEntry.j0 k y0 y1 y2 y3 y4) (spec_PutEntry.j0 (k + 1) y0 y1 y2 y3 y4))
 | 0 => fun _ _ _ _ _ r h => by simp [spec_PutEntry.j0] at h
 | k + 1 => by
    have ih0 := spec_PutEntry.mono_l k
    · intro y0 y1 y2 y3 y4
      unfold spec_PutEntry.j0
      repeat' first
 | (with_reducible exact ih0 _ _ _ _ _)
 | (with_reducible exact spec_FindEntry.mono _ _ _ _)
 | (with_reducible exact spec_IsBundle.mono _ _)
 | (with_reducible exact spec_l17Set.mono _ _ _ _ _ _)
 | (with_reducible exact LeO.refl _)
 | (with_reducible exact LeO.none _)
 | (with_reducible refine LeO.ite ?_ ?_)
 | (with_reducible refine LeO.bind ?_ (fun _ => ?_))
theorem spec_PutEntry.mono : ∀ a0 a1 a2 k, LeO (spec_PutEntry.f k a0 a1 a2) (spec_PutEntry.f (k + 1) a0 a1 a2) := by
  intro a0 a1 a2 k
  have ih0 := spec_PutEntry.mono_l k
  unfold spec_PutEntry.f
  repeat' first
 | (with_reducible exact ih0 _ _ _ _ _)
 | (with_reducible exact spec_FindEntry.mono _ _ _ _)
 | (with_reducible exact spec_IsBundle.mono _ _)
 | (with_reducible exact spec_l17Set.mono _ _ _ _ _ _)
 | (with_reducible exact LeO.refl _)
 | (with_reducible exact LeO.none _)
 | (with_reducible refine LeO.ite ?_ ?_)
 | (with_reducible refine LeO.bind ?_ (fun _ => ?_))
set_option maxHeartbeats 8000000 in
set_option maxRecDepth 100000 in
theorem spec_PutEntry.calls (k : Nat) (A0_0 : Option Addr) (c0_0 : Nat) (l0_0 : List (S94)) (a1 : Int) (a2 : Int) (r1 : List (S94)) (r2 : Bool) (w : World) (hr0_0 : Kd.C k94 w A0_0 l0_0.length l0_0) (hc0_0 : l0_0.length ≤ c0_0) (h : spec_PutEntry.f k l0_0 a1 a2 = some (r1, r2)) :
    Calls Try.prog 124 #[.agg #[.slice A0_0 l0_0.length c0_0], .int .i64 a1, .int .i64 a2] w fun e w' => ∃ v0_ : Value, e = .returned (.tuple #[.agg #[v0_], .bool r2]) ∧ Kd.R k94 94 w' w.heap.size (fun _ => True) v0_ r1 ∧ Below w.heap.size w w' := by
 have hu45 := Try.underlying45; have hu94 := Try.underlying94; have Df := Cmp.A hr0_0; have HC0_0 := Cmp.A hc0_0; clear hr0_0 hc0_0
 have HB := Cmp.A (Below.refl w.heap.size w)
 have H : ((spec_FindEntry.f k l0_0 a1 a2).bind fun D7 => (if D7 ≥ 0 then (if 0 ≤ D7 then (if D7 < (l0_0.length : Int) then (if ((rd_T94 l0_0 D7).f3 = true) then (spec_PutEntry.j0 k l0_0 a1 a2 (wrap64 (((rd_T94 l0_0 D7).f2) + 1)) false) else ((spec_l17Copy.f l0_0).bind fun Dy => (some (Dy, false)))) else (none)) else (none)) else (spec_PutEntry.j0 k l0_0 a1 a2 1 false))) = some (r1, r2) := h
 clear h; replace H := Option.bind_eq_some_iff.mp H; obtain ⟨D7, Jb, H⟩ := H; (try dsimp only at H); have A4 := Cmp.A Jb; clear Jb; have HC5 := Cmp.A H; clear H
 go_enter Try.func124, Try.ntmps124
 go_upto_if 19 with (first | ((with_reducible refine gate_dst (N := 3) rfl ?_); refine box_event ?hg (N := 3) ?hd (cs := #[.slice A0_0 l0_0.length c0_0]) (t := 45) ?hr ?_; (case hd => rfl); (case hg => rfl); (case hr => first | (go_simp; done) | (go_simp; rfl)); intro Dr hg w6 hbox hb; have D1 := Cmp.A (hbox); have Jf := Cmp.gw hg HB; have Jc := Cmp.gw hg HB; replace HB := Cmp.bs HB hb; clear hb hbox hg) | ((with_reducible refine gate_dst (N := 6) rfl ?_); refine box_event ?hg (N := 6) ?hd (cs := #[.slice none 0 0]) (t := 45) ?hr ?_; (case hd => rfl); (case hg => rfl); (case hr => first | (go_simp; done) | (go_simp; rfl)); intro Dm hg w7 hbox hb; have D2 := Cmp.A (hbox); have Jg := Cmp.gw hg HB; have Jd := Cmp.gw hg HB; have D8 := Cmp.nl hg D1; have Da := Cmp.ng hg D1; replace D1 := Cmp.be D1 hb; replace HB := Cmp.bs HB hb; clear hb hbox hg) | ((with_reducible refine gate_dst (N := 8) rfl ?_); refine box_event ?hg (N := 8) ?hd (cs := #[.int .i64 0, .int .i64 0, .int .i64 0, .bool false]) (t := 94) ?hr ?_; (case hd => rfl); (case hg => rfl); (case hr => first | (go_simp; done) | (go_simp; rfl)); intro D6 hg w8 hbox hb; have D0 := Cmp.A (hbox); have Jh := Cmp.gw hg HB; have Je := Cmp.gw hg HB; have D9 := Cmp.nl hg D1; have Dc := Cmp.ng hg D1; have Db := Cmp.nl hg D2; have Dd := Cmp.ng hg D2; replace D1 := Cmp.be D1 hb; replace D2 := Cmp.be D2 hb; replace HB := Cmp.bs HB hb; clear hb hbox hg; have L2 := Dc.out; have L3 := D9.out; have Ji := Dd.out; have K8 := Db.out; obtain ⟨E4, E5, E6, E7⟩ := Cmp.q4 D0; obtain ⟨Eg, Eh, Ei, Ej⟩ := Cmp.f4 D0; have Jj := D8.out; have K9 := Da.out; have E8 := Cmp.c0 D1; have Ek := blk_frozen D1.out 0) | ((with_reducible refine gate_callee (f := 131) rfl ?_); refine goesL_ (some 17) rfl rfl Try.func131 (by kernel_rfl) rfl #[.agg #[.slice A0_0 l0_0.length c0_0], .int .i64 a1, .int .i64 a2] rfl Cmp.q ?_; (with_reducible refine (spec_FindEntry.calls k _ _ l0_0 a1 a2 D7 _ ?side1 ?side2 A4.out).mono ?_); (case side1 => exact Kd.C_below Df.out (Cmp.g HB.out)); (case side2 => exact HC0_0.out); rintro e w14 ⟨rfl, hb⟩; refine ⟨_, rfl, ?_⟩; replace D1 := Cmp.A (blk_below (g := Dr) (o := .cells #[.slice A0_0 l0_0.length c0_0] 45 (0, 0)) (Cmp.bw D1.out) hb); replace D2 := Cmp.A (blk_below (g := Dm) (o := .cells #[.slice none 0 0] 45 (0, 0)) (Cmp.bw D2.out) hb); replace D0 := Cmp.A (blk_below (g := D6) (o := .cells #[.int .i64 a1, .int .i64 a2, .int .i64 1, .bool false] 94 (0, 0)) (Cmp.bw D0.out) hb); replace HB := Cmp.bs HB hb; (try clear hb); (try clear hb2); (try clear hk); (try clear hi)))
 (try simp only [Act.put, List.setIfInBounds_toArray, List.set_cons_zero, List.set_cons_succ])
 go_cut [] (fun wc => ∃ (kq : Nat) (D3 : Int), Aside0 (spec_PutEntry.j0 kq l0_0 a1 a2 D3 false = some (r1, r2)) ∧ Aside0 (kq ≤ k) ∧ Aside0 (wc.heap[Dr]? = some (.cells #[(.slice A0_0 l0_0.length c0_0)] 45 (0, 0))) ∧ Aside0 (wc.heap[Dm]? = some (.cells #[(.slice none 0 0)] 45 (0, 0))) ∧ Aside0 (wc.heap[D6]? = some (.cells #[.int .i64 a1, .int .i64 a2, .int .i64 D3, .bool false] 94 (0, 0))) ∧ Aside0 (Below w.heap.size w wc))
 case first =>
  have H := HC5.out; clear HC5
  by_cases c15 : D7 ≥ 0
  ·rw [if_pos c15] at H; have c15b0 : decide (0 ≤ D7) = true := decide_eq_true c15; clear c15
   (first | rw [c15b0] | (simp only [i64_w, i32_w]; rw [c15b0]) | skip)
   by_cases c16 : 0 ≤ D7
   ·rw [if_pos c16] at H; have c16b0 : decide (0 ≤ D7) = true := decide_eq_true c16; clear c16
    by_cases c17 : D7 < (l0_0.length : Int)
    ·rw [if_pos c17] at H
     have c17b0 : decide (D7 < (l0_0.length : Int)) = true := decide_eq_true c17
     clear c17
     obtain ⟨bq18, hbq18⟩ : ∃ b_ : Bool, b_ = ((rd_T94 l0_0 D7).f3) := ⟨_, rfl⟩
     replace H : (if (bq18 = true) then (spec_PutEntry.j0 k l0_0 a1 a2 (wrap64 (((rd_T94 l0_0 D7).f2) + 1)) false) else ((spec_l17Copy.f l0_0).bind fun Dy => (some (Dy, false)))) = some (r1, r2) := by rw [← hbq18] at H; exact H
     have Nbq18 := Cmp.A hbq18; clear hbq18
     by_cases c19 : (bq18 = true)
     ·subst c19; rw [if_pos rfl] at H
      have H' := Cmp.A H
      clear H; have Jk := D8.out; have Ka := Da.out; have Jl := D9.out; have Kb := Dc.out
      have E9 := Cmp.c0 D1
      have El := blk_frozen D1.out 0
      have p217 : 0 ≤ (D7 : Int) := of_decide_eq_true Cmp.d
      have q217 : D7 < (l0_0.length : Int) := of_decide_eq_true Cmp.d
      obtain ⟨Dz, e217, Dn, Do, Dp, De⟩ := at_T94 Df.out D7 p217 q217
      (try rw [← Nbq18.out] at De)
      cases e217
      replace Dn := Cmp.hc HB Dn
      replace Do := Cmp.hc HB Do
      replace Dp := Cmp.hc HB Dp
      replace De := Cmp.hc HB De
      replace p217 := eq_true p217; replace q217 := eq_true q217
      have p218 : 0 ≤ (D7 : Int) := of_decide_eq_true Cmp.d
      have q218 : D7 < (l0_0.length : Int) := of_decide_eq_true Cmp.d
      obtain ⟨F8, e218, Dv, Dw, Dx, Dt⟩ := at_T94 Df.out D7 p218 q218
      (try rw [← Nbq18.out] at Dt)
      obtain rfl : Dz = F8 := (by injection e218)
      replace Dv := Cmp.hc HB Dv
      replace Dw := Cmp.hc HB Dw
      replace Dx := Cmp.hc HB Dx
      replace Dt := Cmp.hc HB Dt
      replace p218 := eq_true p218; replace q218 := eq_true q218; have Jm := Dd.out; have Kc := Db.out
      obtain ⟨Ea, Eb, Ec, Ed⟩ := Cmp.q4 D0
      obtain ⟨Em, En, Eo, Ep⟩ := Cmp.f4 D0
      go_wp2
      go_meet
      case rel => exact ⟨_, (wrap64 (((rd_T94 l0_0 D7).f2) + 1)), H', ⟨by first | omega | exact Nat.le_refl _⟩, ⟨Cmp.bw D1.out⟩, ⟨Cmp.bw D2.out⟩, ⟨Cmp.bw D0.out⟩, ⟨Cmp.g HB.out⟩⟩
     ·replace c19 := Bool.eq_false_iff.mpr c19
      subst c19
      have H1 : ((spec_l17Copy.f l0_0).bind fun Dy => (some (Dy, false))) = some (r1, r2) := by rw [if_neg (show ¬ (false = true) by decide)] at H; exact H
      clear H; have H := H1; clear H1; replace H := Option.bind_eq_some_iff.mp H; obtain ⟨Dy, Ex, H⟩ := H; (try dsimp only at H); have Kz := Cmp.A Ex; clear Ex
      simp only [Option.some.injEq, Prod.mk.injEq] at H
      obtain ⟨rfl, rfl⟩ := H; have Jn := D8.out; have Ke := Da.out; have Jo := D9.out; have Kf := Dc.out
      have Ee := Cmp.c0 D1
      have Eq := blk_frozen D1.out 0
      have p217 : 0 ≤ (D7 : Int) := of_decide_eq_true Cmp.d
      have q217 : D7 < (l0_0.length : Int) := of_decide_eq_true Cmp.d
      obtain ⟨Dz, e217, Dn, Do, Dp, De⟩ := at_T94 Df.out D7 p217 q217
      (try rw [← Nbq18.out] at De)
      cases e217
      replace Dn := Cmp.hc HB Dn
      replace Do := Cmp.hc HB Do
      replace Dp := Cmp.hc HB Dp
      replace De := Cmp.hc HB De
      replace p217 := eq_true p217; replace q217 := eq_true q217
      go_wp2_with (first | ((with_reducible refine gate_callee (f := 132) rfl ?_); refine goesL_ (some 28) rfl rfl Try.func132 (by kernel_rfl) rfl #[.agg #[.slice (some Dz) l0_0.length c0_0]] rfl Cmp.q ?_; (with_reducible refine (spec_l17Copy.calls _ _ l0_0 Dy _ ?side1 ?side2 Kz.out).mono ?_); (case side1 => exact Cmp.rc (Kd.C_below Df.out HB.out)); (case side2 => exact HC0_0.out); rintro e w29 ⟨v220, rfl, Du, hb⟩; refine ⟨_, rfl, ?_⟩; have Eu := Cmp.A (Kd.R_lower (Kd.R_newB Du (g := D6) (o := .cells #[.int .i64 a1, .int .i64 a2, .int .i64 1, .bool false] 94 (0, 0)) (Cmp.b D0.out)) (below_size (Cmp.g HB.out))); replace D1 := Cmp.be D1 hb; replace D2 := Cmp.be D2 hb; replace D0 := Cmp.be D0 hb; replace HB := Cmp.bs HB hb; (try clear hb); (try clear hb2); (try clear hk); (try clear hi); (try clear Du); obtain ⟨F3, F9, J2⟩ := Kd.R_slice Eu.out; subst J2; have Jp := Db.out; have Kg := Dd.out; have Ef := Cmp.c0 D2; have Er := blk_frozen D2.out 0))
      refine bodyPost_ret (results_ct rfl _ _ Dm 45 #[.slice F3 Dy.length F9] (0, 0) _ rfl (Cmp.bw D2.out) Try.underlying45 rfl (by kernel_rfl)) rfl ?_
      exact ⟨_, by first | rfl | (simp [errW_none, errW_some] <;> rfl) | (simp [*, errW_none, errW_some] <;> rfl), by (with_reducible repeat (first | apply Kd.R_alloc | apply Kd.R_drewN | apply Kd.R_drew)); exact Kd.R_mono (Kd.R_far (p := ⟨Dm, 0, none⟩) (Kd.R_types Eu.out D2.out (by decide)) (fun _ hk => hk.2) (.slice F3 Dy.length F9)) (fun _ hk => trivial), Cmp.g HB.out⟩
    ·rw [if_neg c17] at H; exact absurd H (by simp)
   ·rw [if_neg c16] at H; exact absurd H (by simp)
  ·rw [if_neg c15] at H; have c15b0 : decide (0 ≤ D7) = false := decide_eq_false c15; clear c15
   (first | rw [c15b0] | (simp only [i64_w, i32_w]; rw [c15b0]) | skip)
   have H' := Cmp.A H
   clear H
   go_wp2
   go_meet
   case rel => exact ⟨_, (1), H', ⟨by first | omega | exact Nat.le_refl _⟩, Cmp.bq D1, Cmp.bq D2, Cmp.bq D0, ⟨Cmp.g HB.out⟩⟩
 case rest =>
  clear HC5; (try clear c1); (try clear q1); (try clear c2); (try clear p2); (try clear q2); (try clear hx2); (try clear c3); (try clear p6); (try clear c9); (try clear c10); (try clear c12); (try clear c13); (try clear c15); (try clear c15b0); (try clear c16); (try clear c16b0); (try clear c17); (try clear c17b0); (try clear q18); (try clear c19); (try clear c20); (try clear c21); (try clear p21); (try clear q21); (try clear hx21); (try clear c23); (try clear c26); (try clear c27); (try clear c31); (try clear E4); (try clear E5); (try clear E6); (try clear E7); (try clear E8); (try clear E9); (try clear Ea); (try clear Eb); (try clear Ec); (try clear Ed); (try clear Ee); (try clear Ef); (try clear Eg); (try clear Eh); (try clear Ei); (try clear Ej); (try clear Ek); (try clear El); (try clear Em); (try clear En); (try clear Eo); (try clear Ep); (try clear Eq); (try clear Er); (try clear Dn); (try clear Do); (try clear Dp); (try clear De); (try clear Dv); (try clear Dw); (try clear Dx); (try clear Dt); (try clear p217); (try clear p218); (try clear q217); (try clear q218)
  obtain ⟨kq, D3, HA, HJ4, D1, D2, D0, HB⟩ := hcut
  cases kq with
  | zero => exact absurd HA.out (by simp [spec_PutEntry.j0])
  | succ kj4 =>
   have H := HA.out; clear HA
   simp only [spec_PutEntry.j0] at H
   replace H := Option.bind_eq_some_iff.mp H; obtain ⟨Dq, Ey, H⟩ := H; (try dsimp only at H); have J0 := Cmp.A Ey; clear Ey; replace H := Option.bind_eq_some_iff.mp H; obtain ⟨J8, Ez, H⟩ := H; (try dsimp only at H); have J1 := Cmp.A Ez; clear Ez
   by_cases c35 : J8 = true
   ·subst c35; rw [if_pos rfl] at H; replace H := Option.bind_eq_some_iff.mp H; obtain ⟨J9, F0, H⟩ := H; (try dsimp only at H); have Ja := Cmp.A F0; clear F0
    by_cases c37 : J9 = true
    ·subst c37; rw [if_pos rfl] at H
     simp only [Option.some.injEq, Prod.mk.injEq] at H
     obtain ⟨rfl, rfl⟩ := H; have Jq := D8.out; have Kh := Da.out; have Jr := D9.out; have Ki := Dc.out
     have Fe : wc.cell? ⟨Dr, 0, none⟩ = some (.slice A0_0 l0_0.length c0_0) := (blk_cell D1.out 0).trans rfl
     have G7 := blk_frozen D1.out 0; have Js := Dd.out; have Kj := Db.out
     have Ff : wc.cell? ⟨D6, 0, none⟩ = some (.int .i64 a1) := (blk_cell D0.out 0).trans rfl
     have Fg : wc.cell? ⟨D6, 1, none⟩ = some (.int .i64 a2) := (blk_cell D0.out 1).trans rfl
     have Fh : wc.cell? ⟨D6, 2, none⟩ = some (.int .i64 D3) := (blk_cell D0.out 2).trans rfl
     have Fi : wc.cell? ⟨D6, 3, none⟩ = some (.bool false) := (blk_cell D0.out 3).trans rfl
     obtain ⟨G8, G9, Ga, Gb⟩ := Cmp.f4 D0
     go_wp2_with (first | ((with_reducible refine gate_callee (f := 133) rfl ?_); refine goesL_ (some 39) rfl rfl Try.func133 (by kernel_rfl) rfl #[.agg #[.slice A0_0 l0_0.length c0_0], .agg #[.int .i64 a1, .int .i64 a2, .int .i64 D3, .bool false]] rfl Cmp.q ?_; (with_reducible refine (spec_l17Set.calls kj4 _ _ l0_0 a1 a2 D3 false Dq _ ?side1 ?side2 J0.out).mono ?_); (case side1 => exact Cmp.rc (Kd.C_below Df.out HB.out)); (case side2 => exact HC0_0.out); rintro e w43 ⟨v223, rfl, Du, hb⟩; refine ⟨_, rfl, ?_⟩; have D4 := Cmp.A (Kd.R_lower (Kd.R_newB Du (g := D6) (o := .cells #[.int .i64 a1, .int .i64 a2, .int .i64 D3, .bool false] 94 (0, 0)) (Cmp.b D0.out)) (below_size (Cmp.g HB.out))); replace D1 := Cmp.be D1 hb; replace D2 := Cmp.be D2 hb; replace D0 := Cmp.be D0 hb; replace HB := Cmp.bs HB hb; (try clear hb); (try clear hb2); (try clear hk); (try clear hi); (try clear Du)) | ((with_reducible refine gate_dst (N := 10) rfl ?_); refine box_event ?hg (N := 10) ?hd (cs := #[.slice none 0 0]) (t := 45) ?hr ?_; (case hd => rfl); (case hg => rfl); (case hr => first | (go_simp; done) | (go_simp; rfl)); intro Ds hg w44 hbox hb; have D5 := Cmp.A (hbox); have Et := Cmp.gw hg HB; have Es := Cmp.gw hg HB; have Dg := Cmp.nl hg D1; have Dj := Cmp.ng hg D1; have Dh := Cmp.nl hg D2; have Dk := Cmp.ng hg D2; have Di := Cmp.nl hg D0; have Dl := Cmp.ng hg D0; replace D4 := Cmp.A (Kd.R_below (Cmp.rr D4.out) hb); replace D1 := Cmp.be D1 hb; replace D2 := Cmp.be D2 hb; replace D0 := Cmp.be D0 hb; replace HB := Cmp.bs HB hb; clear hb hbox hg; obtain ⟨E2, E3, J3⟩ := Kd.R_slice D4.out; subst J3; have Jt := Dj.out; have Kk := Dg.out; have Ju := Dk.out; have Kl := Dh.out; have Jv := Dl.out; have Km := Di.out; have Fj := Cmp.c0 D5; have Gc := blk_frozen D5.out 0; have Fk := Cmp.c0 D1; have Gd := blk_frozen D1.out 0) | ((with_reducible refine gate_callee (f := 66) rfl ?_); refine goesL_ (some 41) rfl rfl Try.func66 (by kernel_rfl) rfl #[.agg #[.slice A0_0 l0_0.length c0_0]] rfl Cmp.q ?_; (with_reducible refine (spec_IsBundle.calls kj4 _ _ l0_0 true _ ?side1 ?side2 J1.out).mono ?_); (case side1 => exact Kd.C_below Df.out (Cmp.g HB.out)); (case side2 => exact HC0_0.out); rintro e w51 ⟨rfl, hb⟩; refine ⟨_, rfl, ?_⟩; replace D4 := Cmp.A (Kd.R_below (Cmp.rm (Kd.R_far (p := ⟨Ds, 0, none⟩) (Kd.R_types D4.out D5.out (by decide)) (fun _ hk => hk.2) (.slice E2 Dq.length E3)) (fun _ h_ => h_.1)) hb); replace D1 := Cmp.A (blk_below (g := Dr) (o := .cells #[.slice A0_0 l0_0.length c0_0] 45 (0, 0)) (Cmp.bw D1.out) hb); replace D2 := Cmp.A (blk_below (g := Dm) (o := .cells #[.slice none 0 0] 45 (0, 0)) (Cmp.bw D2.out) hb); replace D0 := Cmp.A (blk_below (g := D6) (o := .cells #[.int .i64 a1, .int .i64 a2, .int .i64 D3, .bool false] 94 (0, 0)) (Cmp.bw D0.out) hb); replace D5 := Cmp.A (blk_below (g := Ds) (o := .cells #[.slice E2 Dq.length E3] 45 (0, 0)) (Cmp.bw D5.out) hb); replace HB := Cmp.bs HB hb; (try clear hb); (try clear hb2); (try clear hk); (try clear hi); have Fl := Cmp.c0 D5; have Ge := blk_frozen D5.out 0) | (go_at_call 66; (with_reducible refine (spec_IsBundle.calls kj4 _ _ Dq true _ ?side1 ?side2 Ja.out).mono ?_); (case side1 => exact Cmp.rc (Kd.R_reads' D4.out).2.2); (case side2 => exact (Kd.R_reads' D4.out).2.1); rintro e w53 ⟨rfl, hb⟩; replace D4 := Cmp.A (Kd.R_below (Cmp.rr D4.out) hb); replace D1 := Cmp.be D1 hb; replace D2 := Cmp.be D2 hb; replace D0 := Cmp.be D0 hb; replace D5 := Cmp.be D5 hb; replace HB := Cmp.bs HB hb; (try clear hb); (try clear hb2); (try clear hk); (try clear hi); have Fm := Cmp.c0 D5; have Gf := blk_frozen D5.out 0; have Fn := Cmp.c0 D2; have Gg := blk_frozen D2.out 0))
     refine bodyPost_ret (results_ct rfl _ _ Dm 45 #[.slice E2 Dq.length E3] (0, 0) _ rfl (Cmp.bw D2.out) Try.underlying45 rfl (by kernel_rfl)) rfl ?_
     exact ⟨_, by first | rfl | (simp [errW_none, errW_some] <;> rfl) | (simp [*, errW_none, errW_some] <;> rfl), by (with_reducible repeat (first | apply Kd.R_alloc | apply Kd.R_drewN | apply Kd.R_drew)); exact Kd.R_mono (Kd.R_far (p := ⟨Dm, 0, none⟩) (Kd.R_types D4.out D2.out (by decide)) (fun _ hk => hk.2) (.slice E2 Dq.length E3)) (fun _ hk => trivial), Cmp.g HB.out⟩
    ·replace c37 := Bool.eq_false_iff.mpr c37
     subst c37
     have H1 : ((spec_l17Copy.f l0_0).bind fun E0 => (some (E0, false))) = some (r1, r2) := by rw [if_neg (show ¬ (false = true) by decide)] at H; exact H
     clear H; have H := H1; clear H1; replace H := Option.bind_eq_some_iff.mp H; obtain ⟨E0, F1, H⟩ := H; (try dsimp only at H); have L0 := Cmp.A F1; clear F1
     simp only [Option.some.injEq, Prod.mk.injEq] at H
     obtain ⟨rfl, rfl⟩ := H; have Jw := D8.out; have Kn := Da.out; have Jx := D9.out; have Ko := Dc.out
     have Fo : wc.cell? ⟨Dr, 0, none⟩ = some (.slice A0_0 l0_0.length c0_0) := (blk_cell D1.out 0).trans rfl
     have Gh := blk_frozen D1.out 0; have Jy := Dd.out; have Kp := Db.out
     have Fp : wc.cell? ⟨D6, 0, none⟩ = some (.int .i64 a1) := (blk_cell D0.out 0).trans rfl
     have Fq : wc.cell? ⟨D6, 1, none⟩ = some (.int .i64 a2) := (blk_cell D0.out 1).trans rfl
     have Fr : wc.cell? ⟨D6, 2, none⟩ = some (.int .i64 D3) := (blk_cell D0.out 2).trans rfl
     have Fs : wc.cell? ⟨D6, 3, none⟩ = some (.bool false) := (blk_cell D0.out 3).trans rfl
     obtain ⟨Gi, Gj, Gk, Gl⟩ := Cmp.f4 D0
     go_wp2_with (first | ((with_reducible refine gate_callee (f := 133) rfl ?_); refine goesL_ (some 39) rfl rfl Try.func133 (by kernel_rfl) rfl #[.agg #[.slice A0_0 l0_0.length c0_0], .agg #[.int .i64 a1, .int .i64 a2, .int .i64 D3, .bool false]] rfl Cmp.q ?_; (with_reducible refine (spec_l17Set.calls kj4 _ _ l0_0 a1 a2 D3 false Dq _ ?side1 ?side2 J0.out).mono ?_); (case side1 => exact Cmp.rc (Kd.C_below Df.out HB.out)); (case side2 => exact HC0_0.out); rintro e w62 ⟨v223, rfl, Du, hb⟩; refine ⟨_, rfl, ?_⟩; have D4 := Cmp.A (Kd.R_lower (Kd.R_newB Du (g := D6) (o := .cells #[.int .i64 a1, .int .i64 a2, .int .i64 D3, .bool false] 94 (0, 0)) (Cmp.b D0.out)) (below_size (Cmp.g HB.out))); replace D1 := Cmp.be D1 hb; replace D2 := Cmp.be D2 hb; replace D0 := Cmp.be D0 hb; replace HB := Cmp.bs HB hb; (try clear hb); (try clear hb2); (try clear hk); (try clear hi); (try clear Du)) | ((with_reducible refine gate_dst (N := 10) rfl ?_); refine box_event ?hg (N := 10) ?hd (cs := #[.slice none 0 0]) (t := 45) ?hr ?_; (case hd => rfl); (case hg => rfl); (case hr => first | (go_simp; done) | (go_simp; rfl)); intro Ds hg w63 hbox hb; have D5 := Cmp.A (hbox); have Et := Cmp.gw hg HB; have Es := Cmp.gw hg HB; have Dg := Cmp.nl hg D1; have Dj := Cmp.ng hg D1; have Dh := Cmp.nl hg D2; have Dk := Cmp.ng hg D2; have Di := Cmp.nl hg D0; have Dl := Cmp.ng hg D0; replace D4 := Cmp.A (Kd.R_below (Cmp.rr D4.out) hb); replace D1 := Cmp.be D1 hb; replace D2 := Cmp.be D2 hb; replace D0 := Cmp.be D0 hb; replace HB := Cmp.bs HB hb; clear hb hbox hg; obtain ⟨F4, Fa, J4⟩ := Kd.R_slice D4.out; subst J4; have Jz := Dj.out; have Kq := Dg.out; have K0 := Dk.out; have Kr := Dh.out; have K1 := Dl.out; have Ks := Di.out; have Ft := Cmp.c0 D5; have Gm := blk_frozen D5.out 0; have Fu := Cmp.c0 D1; have Gn := blk_frozen D1.out 0) | ((with_reducible refine gate_callee (f := 66) rfl ?_); refine goesL_ (some 41) rfl rfl Try.func66 (by kernel_rfl) rfl #[.agg #[.slice A0_0 l0_0.length c0_0]] rfl Cmp.q ?_; (with_reducible refine (spec_IsBundle.calls kj4 _ _ l0_0 true _ ?side1 ?side2 J1.out).mono ?_); (case side1 => exact Kd.C_below Df.out (Cmp.g HB.out)); (case side2 => exact HC0_0.out); rintro e w70 ⟨rfl, hb⟩; refine ⟨_, rfl, ?_⟩; replace D4 := Cmp.A (Kd.R_below (Cmp.rm (Kd.R_far (p := ⟨Ds, 0, none⟩) (Kd.R_types D4.out D5.out (by decide)) (fun _ hk => hk.2) (.slice F4 Dq.length Fa)) (fun _ h_ => h_.1)) hb); replace D1 := Cmp.A (blk_below (g := Dr) (o := .cells #[.slice A0_0 l0_0.length c0_0] 45 (0, 0)) (Cmp.bw D1.out) hb); replace D2 := Cmp.A (blk_below (g := Dm) (o := .cells #[.slice none 0 0] 45 (0, 0)) (Cmp.bw D2.out) hb); replace D0 := Cmp.A (blk_below (g := D6) (o := .cells #[.int .i64 a1, .int .i64 a2, .int .i64 D3, .bool false] 94 (0, 0)) (Cmp.bw D0.out) hb); replace D5 := Cmp.A (blk_below (g := Ds) (o := .cells #[.slice F4 Dq.length Fa] 45 (0, 0)) (Cmp.bw D5.out) hb); replace HB := Cmp.bs HB hb; (try clear hb); (try clear hb2); (try clear hk); (try clear hi); have Fv := Cmp.c0 D5; have Go := blk_frozen D5.out 0) | (go_at_call 66; (with_reducible refine (spec_IsBundle.calls kj4 _ _ Dq false _ ?side1 ?side2 Ja.out).mono ?_); (case side1 => exact Cmp.rc (Kd.R_reads' D4.out).2.2); (case side2 => exact (Kd.R_reads' D4.out).2.1); rintro e w72 ⟨rfl, hb⟩; replace D4 := Cmp.A (Kd.R_below (Cmp.rr D4.out) hb); replace D1 := Cmp.be D1 hb; replace D2 := Cmp.be D2 hb; replace D0 := Cmp.be D0 hb; replace D5 := Cmp.be D5 hb; replace HB := Cmp.bs HB hb; (try clear hb); (try clear hb2); (try clear hk); (try clear hi); have Fw := Cmp.c0 D1; have Gp := blk_frozen D1.out 0) | ((with_reducible refine gate_callee (f := 132) rfl ?_); refine goesL_ (some 49) rfl rfl Try.func132 (by kernel_rfl) rfl #[.agg #[.slice A0_0 l0_0.length c0_0]] rfl Cmp.q ?_; (with_reducible refine (spec_l17Copy.calls _ _ l0_0 E0 _ ?side1 ?side2 L0.out).mono ?_); (case side1 => exact Cmp.rc (Kd.C_below Df.out HB.out)); (case side2 => exact HC0_0.out); rintro e w74 ⟨v229, rfl, Du, hb⟩; refine ⟨_, rfl, ?_⟩; have Ev := Cmp.A (Kd.R_lower (Kd.R_newB (Kd.R_new' Du (Kd.R_lt (Cmp.rr D4.out))) (g := D6) (o := .cells #[.int .i64 a1, .int .i64 a2, .int .i64 D3, .bool false] 94 (0, 0)) (Cmp.b D0.out)) (below_size (Cmp.g HB.out))); replace D4 := Cmp.A (Kd.R_elder' (Cmp.rr D4.out) (Kd.R_base Du) hb); replace D1 := Cmp.be D1 hb; replace D2 := Cmp.be D2 hb; replace D0 := Cmp.be D0 hb; replace D5 := Cmp.be D5 hb; replace HB := Cmp.bs HB hb; (try clear hb); (try clear hb2); (try clear hk); (try clear hi); (try clear Du); obtain ⟨F5, Fb, J5⟩ := Kd.R_slice Ev.out; subst J5; have Fx := Cmp.c0 D2; have Gq := blk_frozen D2.out 0))
     refine bodyPost_ret (results_ct rfl _ _ Dm 45 #[.slice F5 E0.length Fb] (0, 0) _ rfl (Cmp.bw D2.out) Try.underlying45 rfl (by kernel_rfl)) rfl ?_
     exact ⟨_, by first | rfl | (simp [errW_none, errW_some] <;> rfl) | (simp [*, errW_none, errW_some] <;> rfl), by (with_reducible repeat (first | apply Kd.R_alloc | apply Kd.R_drewN | apply Kd.R_drew)); exact Kd.R_mono (Kd.R_far (p := ⟨Dm, 0, none⟩) (Kd.R_types Ev.out D2.out (by decide)) (fun _ hk => hk.2) (.slice F5 E0.length Fb)) (fun _ hk => trivial), Cmp.g HB.out⟩
   ·replace c35 := Bool.eq_false_iff.mpr c35
    subst c35
    have H1 : ((spec_l17Copy.f l0_0).bind fun E1 => (some (E1, false))) = some (r1, r2) := by rw [if_neg (show ¬ (false = true) by decide)] at H; exact H
    clear H; have H := H1; clear H1; replace H := Option.bind_eq_some_iff.mp H; obtain ⟨E1, F2, H⟩ := H; (try dsimp only at H); have L1 := Cmp.A F2; clear F2
    simp only [Option.some.injEq, Prod.mk.injEq] at H
    obtain ⟨rfl, rfl⟩ := H; have K2 := D8.out; have Kt := Da.out; have K3 := D9.out; have Ku := Dc.out
    have Fy : wc.cell? ⟨Dr, 0, none⟩ = some (.slice A0_0 l0_0.length c0_0) := (blk_cell D1.out 0).trans rfl
    have Gr := blk_frozen D1.out 0; have K4 := Dd.out; have Kv := Db.out
    have Fz : wc.cell? ⟨D6, 0, none⟩ = some (.int .i64 a1) := (blk_cell D0.out 0).trans rfl
    have G0 : wc.cell? ⟨D6, 1, none⟩ = some (.int .i64 a2) := (blk_cell D0.out 1).trans rfl
    have G1 : wc.cell? ⟨D6, 2, none⟩ = some (.int .i64 D3) := (blk_cell D0.out 2).trans rfl
    have G2 : wc.cell? ⟨D6, 3, none⟩ = some (.bool false) := (blk_cell D0.out 3).trans rfl
    obtain ⟨Gs, Gt, Gu, Gv⟩ := Cmp.f4 D0
    go_wp2_with (first | ((with_reducible refine gate_callee (f := 133) rfl ?_); refine goesL_ (some 39) rfl rfl Try.func133 (by kernel_rfl) rfl #[.agg #[.slice A0_0 l0_0.length c0_0], .agg #[.int .i64 a1, .int .i64 a2, .int .i64 D3, .bool false]] rfl Cmp.q ?_; (with_reducible refine (spec_l17Set.calls kj4 _ _ l0_0 a1 a2 D3 false Dq _ ?side1 ?side2 J0.out).mono ?_); (case side1 => exact Cmp.rc (Kd.C_below Df.out HB.out)); (case side2 => exact HC0_0.out); rintro e w83 ⟨v223, rfl, Du, hb⟩; refine ⟨_, rfl, ?_⟩; have D4 := Cmp.A (Kd.R_lower (Kd.R_newB Du (g := D6) (o := .cells #[.int .i64 a1, .int .i64 a2, .int .i64 D3, .bool false] 94 (0, 0)) (Cmp.b D0.out)) (below_size (Cmp.g HB.out))); replace D1 := Cmp.be D1 hb; replace D2 := Cmp.be D2 hb; replace D0 := Cmp.be D0 hb; replace HB := Cmp.bs HB hb; (try clear hb); (try clear hb2); (try clear hk); (try clear hi); (try clear Du)) | ((with_reducible refine gate_dst (N := 10) rfl ?_); refine box_event ?hg (N := 10) ?hd (cs := #[.slice none 0 0]) (t := 45) ?hr ?_; (case hd => rfl); (case hg => rfl); (case hr => first | (go_simp; done) | (go_simp; rfl)); intro Ds hg w84 hbox hb; have D5 := Cmp.A (hbox); have Et := Cmp.gw hg HB; have Es := Cmp.gw hg HB; have Dg := Cmp.nl hg D1; have Dj := Cmp.ng hg D1; have Dh := Cmp.nl hg D2; have Dk := Cmp.ng hg D2; have Di := Cmp.nl hg D0; have Dl := Cmp.ng hg D0; replace D4 := Cmp.A (Kd.R_below (Cmp.rr D4.out) hb); replace D1 := Cmp.be D1 hb; replace D2 := Cmp.be D2 hb; replace D0 := Cmp.be D0 hb; replace HB := Cmp.bs HB hb; clear hb hbox hg; obtain ⟨F6, Fc, J6⟩ := Kd.R_slice D4.out; subst J6; have K5 := Dj.out; have Kw := Dg.out; have K6 := Dk.out; have Kx := Dh.out; have K7 := Dl.out; have Ky := Di.out; have G3 := Cmp.c0 D5; have Gw := blk_frozen D5.out 0; have G4 := Cmp.c0 D1; have Gx := blk_frozen D1.out 0) | ((with_reducible refine gate_callee (f := 66) rfl ?_); refine goesL_ (some 41) rfl rfl Try.func66 (by kernel_rfl) rfl #[.agg #[.slice A0_0 l0_0.length c0_0]] rfl Cmp.q ?_; (with_reducible refine (spec_IsBundle.calls kj4 _ _ l0_0 false _ ?side1 ?side2 J1.out).mono ?_); (case side1 => exact Kd.C_below Df.out (Cmp.g HB.out)); (case side2 => exact HC0_0.out); rintro e w91 ⟨rfl, hb⟩; refine ⟨_, rfl, ?_⟩; replace D4 := Cmp.A (Kd.R_below (Cmp.rm (Kd.R_far (p := ⟨Ds, 0, none⟩) (Kd.R_types D4.out D5.out (by decide)) (fun _ hk => hk.2) (.slice F6 Dq.length Fc)) (fun _ h_ => h_.1)) hb); replace D1 := Cmp.A (blk_below (g := Dr) (o := .cells #[.slice A0_0 l0_0.length c0_0] 45 (0, 0)) (Cmp.bw D1.out) hb); replace D2 := Cmp.A (blk_below (g := Dm) (o := .cells #[.slice none 0 0] 45 (0, 0)) (Cmp.bw D2.out) hb); replace D0 := Cmp.A (blk_below (g := D6) (o := .cells #[.int .i64 a1, .int .i64 a2, .int .i64 D3, .bool false] 94 (0, 0)) (Cmp.bw D0.out) hb); replace D5 := Cmp.A (blk_below (g := Ds) (o := .cells #[.slice F6 Dq.length Fc] 45 (0, 0)) (Cmp.bw D5.out) hb); replace HB := Cmp.bs HB hb; (try clear hb); (try clear hb2); (try clear hk); (try clear hi); have G5 := Cmp.c0 D1; have Gy := blk_frozen D1.out 0) | ((with_reducible refine gate_callee (f := 132) rfl ?_); refine goesL_ (some 49) rfl rfl Try.func132 (by kernel_rfl) rfl #[.agg #[.slice A0_0 l0_0.length c0_0]] rfl Cmp.q ?_; (with_reducible refine (spec_l17Copy.calls _ _ l0_0 E1 _ ?side1 ?side2 L1.out).mono ?_); (case side1 => exact Cmp.rc (Kd.C_below Df.out HB.out)); (case side2 => exact HC0_0.out); rintro e w93 ⟨v232, rfl, Du, hb⟩; refine ⟨_, rfl, ?_⟩; have Ew := Cmp.A (Kd.R_lower (Kd.R_newB (Kd.R_new' Du (Kd.R_lt (Cmp.rr D4.out))) (g := D6) (o := .cells #[.int .i64 a1, .int .i64 a2, .int .i64 D3, .bool false] 94 (0, 0)) (Cmp.b D0.out)) (below_size (Cmp.g HB.out))); replace D4 := Cmp.A (Kd.R_elder' (Cmp.rr D4.out) (Kd.R_base Du) hb); replace D1 := Cmp.be D1 hb; replace D2 := Cmp.be D2 hb; replace D0 := Cmp.be D0 hb; replace D5 := Cmp.be D5 hb; replace HB := Cmp.bs HB hb; (try clear hb); (try clear hb2); (try clear hk); (try clear hi); (try clear Du); obtain ⟨F7, Fd, J7⟩ := Kd.R_slice Ew.out; subst J7; have G6 := Cmp.c0 D2; have Gz := blk_frozen D2.out 0))
    refine bodyPost_ret (results_ct rfl _ _ Dm 45 #[.slice F7 E1.length Fd] (0, 0) _ rfl (Cmp.bw D2.out) Try.underlying45 rfl (by kernel_rfl)) rfl ?_
    exact ⟨_, by first | rfl | (simp [errW_none, errW_some] <;> rfl) | (simp [*, errW_none, errW_some] <;> rfl), by (with_reducible repeat (first | apply Kd.R_alloc | apply Kd.R_drewN | apply Kd.R_drew)); exact Kd.R_mono (Kd.R_far (p := ⟨Dm, 0, none⟩) (Kd.R_types Ew.out D2.out (by decide)) (fun _ hk => hk.2) (.slice F7 E1.length Fd)) (fun _ hk => trivial), Cmp.g HB.out⟩
/-! ### spec_DeleteEntry: function 130 -/
def spec_DeleteEntry.j0 : Nat → Int → Int → Int → Bool → List (S94) → Option ((List (S94)) × Bool)
  | 0, _, _, _, _, _ => none
  | k + 1, x1, x2, x8, x36, x235000 => if x36 = true then ((spec_l17Copy.f x235000).bind fun t240 => (some (t240, false))) else (if 0 ≤ x8 then (if x8 < (x235000.length : Int) then ((spec_l17Set.f k x235000 x1 x2 (wrap64 (((rd_T94 x235000 x8).f2) + 1)) true).bind fun t244 => (some (t244, true))) else (none)) else (none))
def spec_DeleteEntry.f (k : Nat) (l0_0 : List (S94)) (a1 : Int) (a2 : Int) : Option ((List (S94)) × Bool) := (spec_FindEntry.f k l0_0 a1 a2).bind fun t236 => ((spec_IsBundle.f k l0_0).bind fun t237 => (if t237 = true then (if t236 < 0 then (spec_DeleteEntry.j0 k a1 a2 t236 true l0_0) else (if 0 ≤ t236 then (if t236 < (l0_0.length : Int) then (if (rd_T94 l0_0 t236).f3 = true then (spec_DeleteEntry.j0 k a1 a2 t236 true l0_0) else (spec_DeleteEntry.j0 k a1 a2 t236 (((rd_T94 l0_0 t236).f2) == 1000000) l0_0)) else (none)) else (none))) else (spec_DeleteEntry.j0 k a1 a2 t236 true l0_0)))
theorem spec_DeleteEntry.mono_l : ∀ k, (∀ y0 y1 y2 y3 y4, LeO (spec_DeleteEntry.j0 k y0 y1 y2 y3 y4) (spec_DeleteEntry.j0 (k + 1) y0 y1 y2 y3 y4))
 | 0 => fun _ _ _ _ _ r h => by simp [spec_DeleteEntry.j0] at h
 | k + 1 => by
    have ih0 := spec_DeleteEntry.mono_l k
    · intro y0 y1 y2 y3 y4
      unfold spec_DeleteEntry.j0
      repeat' first
 | (with_reducible exact ih0 _ _ _ _ _)
 | (with_reducible exact spec_FindEntry.mono _ _ _ _)
 | (with_reducible exact spec_IsBundle.mono _ _)
 | (with_reducible exact spec_l17Set.mono _ _ _ _ _ _)
 | (with_reducible exact LeO.refl _)
 | (with_reducible exact LeO.none _)
 | (with_reducible refine LeO.ite ?_ ?_)
 | (with_reducible refine LeO.bind ?_ (fun _ => ?_))
theorem spec_DeleteEntry.mono : ∀ a0 a1 a2 k, LeO (spec_DeleteEntry.f k a0 a1 a2) (spec_DeleteEntry.f (k + 1) a0 a1 a2) := by
  intro a0 a1 a2 k
  have ih0 := spec_DeleteEntry.mono_l k
  unfold spec_DeleteEntry.f
  repeat' first
 | (with_reducible exact ih0 _ _ _ _ _)
 | (with_reducible exact spec_FindEntry.mono _ _ _ _)
 | (with_reducible exact spec_IsBundle.mono _ _)
 | (with_reducible exact spec_l17Set.mono _ _ _ _ _ _)
 | (with_reducible exact LeO.refl _)
 | (with_reducible exact LeO.none _)
 | (with_reducible refine LeO.ite ?_ ?_)
 | (with_reducible refine LeO.bind ?_ (fun _ => ?_))
def spec_DeleteEntry.T4 : Bool × List (List Nat × List Nat) := (true, [([], []), ([], []), ([], []), ([], []), ([3], [3]), ([], []), ([4, 5], [4, 5]), ([6], [6]), ([7], [7]), ([8], [8]), ([1, 2, 9], [1, 2, 9]), ([0, 10], [0, 10]), ([11, 11, 0, 1, 2, 3, 4, 5, 6, 7, 8, 9, 10, 11], [11]), ([12, 0, 1, 2, 3, 4, 5, 6, 7, 8, 9, 10, 11, 12], [])])
def spec_DeleteEntry.B4 : List Nat := [0, 0, 0, 0, 8, 0, 56, 120, 248, 504, 1022, 2047, 4095, 8191]
theorem spec_DeleteEntry.tab4 : rtab .any (opsOf Try.f130 4) = spec_DeleteEntry.T4 := by kernel_rfl
theorem spec_DeleteEntry.bits4 : waitsOk spec_DeleteEntry.T4.2 spec_DeleteEntry.B4 = true := by kernel_rfl
set_option maxHeartbeats 8000000 in
set_option maxRecDepth 100000 in
theorem spec_DeleteEntry.calls (k : Nat) (A0_0 : Option Addr) (c0_0 : Nat) (l0_0 : List (S94)) (a1 : Int) (a2 : Int) (r1 : List (S94)) (r2 : Bool) (w : World) (hr0_0 : Kd.C k94 w A0_0 l0_0.length l0_0) (hc0_0 : l0_0.length ≤ c0_0) (h : spec_DeleteEntry.f k l0_0 a1 a2 = some (r1, r2)) :
    Calls Try.prog 130 #[.agg #[.slice A0_0 l0_0.length c0_0], .int .i64 a1, .int .i64 a2] w fun e w' => ∃ v0_ : Value, e = .returned (.tuple #[.agg #[v0_], .bool r2]) ∧ Kd.R k94 94 w' w.heap.size (fun _ => True) v0_ r1 ∧ Below w.heap.size w w' := by
 have hu45 := Try.underlying45; have hu94 := Try.underlying94; have D7 := Cmp.A hr0_0; have HC0_0 := Cmp.A hc0_0; clear hr0_0 hc0_0
 have HB := Cmp.A (Below.refl w.heap.size w)
 have H : ((spec_FindEntry.f k l0_0 a1 a2).bind fun D1 => ((spec_IsBundle.f k l0_0).bind fun E9 => (if E9 = true then (if D1 < 0 then (spec_DeleteEntry.j0 k a1 a2 D1 true l0_0) else (if 0 ≤ D1 then (if D1 < (l0_0.length : Int) then (if (rd_T94 l0_0 D1).f3 = true then (spec_DeleteEntry.j0 k a1 a2 D1 true l0_0) else (spec_DeleteEntry.j0 k a1 a2 D1 (((rd_T94 l0_0 D1).f2) == 1000000) l0_0)) else (none)) else (none))) else (spec_DeleteEntry.j0 k a1 a2 D1 true l0_0)))) = some (r1, r2) := h
 clear h; replace H := Option.bind_eq_some_iff.mp H; obtain ⟨D1, Er, H⟩ := H; (try dsimp only at H); have A4 := Cmp.A Er; clear Er; have HC5 := Cmp.A H; clear H
 go_enter Try.func130, Try.ntmps130
 go_upto_region 2 with (first | ((with_reducible refine gate_dst (N := 3) rfl ?_); refine box_event ?hg (N := 3) ?hd (cs := #[.slice A0_0 l0_0.length c0_0]) (t := 45) ?hr ?_; (case hd => rfl); (case hg => rfl); (case hr => first | (go_simp; done) | (go_simp; rfl)); intro Dq hg w6 hbox hb; have D0 := Cmp.A (hbox); have Eu := Cmp.gw hg HB; have Es := Cmp.gw hg HB; replace HB := Cmp.bs HB hb; clear hb hbox hg) | ((with_reducible refine gate_dst (N := 6) rfl ?_); refine box_event ?hg (N := 6) ?hd (cs := #[.slice none 0 0]) (t := 45) ?hr ?_; (case hd => rfl); (case hg => rfl); (case hr => first | (go_simp; done) | (go_simp; rfl)); intro D8 hg w7 hbox hb; have D2 := Cmp.A (hbox); have D5 := Cmp.gw hg HB; have Et := Cmp.gw hg HB; have D3 := Cmp.nl hg D0; have D4 := Cmp.ng hg D0; replace D0 := Cmp.be D0 hb; replace HB := Cmp.bs HB hb; clear hb hbox hg; have F7 := D3.out; have F8 := D4.out; have E7 := Cmp.c0 D0; have E8 := blk_frozen D0.out 0) | ((with_reducible refine gate_callee (f := 131) rfl ?_); refine goesL_ (some 12) rfl rfl Try.func131 (by kernel_rfl) rfl #[.agg #[.slice A0_0 l0_0.length c0_0], .int .i64 a1, .int .i64 a2] rfl Cmp.q ?_; (with_reducible refine (spec_FindEntry.calls k _ _ l0_0 a1 a2 D1 _ ?side1 ?side2 A4.out).mono ?_); (case side1 => exact Cmp.rc (Kd.C_below D7.out HB.out)); (case side2 => exact HC0_0.out); rintro e w10 ⟨rfl, hb⟩; refine ⟨_, rfl, ?_⟩; replace D0 := Cmp.be D0 hb; replace D2 := Cmp.be D2 hb; replace HB := Cmp.bs HB hb; (try clear hb); (try clear hb2); (try clear hk); (try clear hi)))
 (try simp only [Act.put, List.setIfInBounds_toArray, List.set_cons_zero, List.set_cons_succ])
 go_cut [36] (fun v36 wc => ∃ (kq : Nat) (Dp : Bool), v36 = .bool Dp ∧ Aside0 (spec_DeleteEntry.j0 kq a1 a2 D1 Dp l0_0 = some (r1, r2)) ∧ Aside0 (kq ≤ k) ∧ Aside0 (wc.heap[Dq]? = some (.cells #[(.slice A0_0 l0_0.length c0_0)] 45 (0, 0))) ∧ Aside0 (wc.heap[D8]? = some (.cells #[(.slice none 0 0)] 45 (0, 0))) ∧ Aside0 (Below w.heap.size w wc))
 case first =>
  have H := HC5.out; clear HC5; replace H := Option.bind_eq_some_iff.mp H; obtain ⟨E9, Eb, H⟩ := H; (try dsimp only at H); have El := Cmp.A Eb; clear Eb
  by_cases c12 : E9 = true
  ·subst c12; rw [if_pos rfl] at H
   by_cases c13 : D1 < 0
   ·rw [if_pos c13] at H; have c13b0 : decide (D1 < 0) = true := decide_eq_true c13; clear c13
    (first | rw [c13b0] | (simp only [i64_w, i32_w]; rw [c13b0]) | skip)
    have H' := Cmp.A H
    clear H; have Ev := D3.out; have F0 := D4.out
    have Ds := Cmp.c0 D0
    have Dy := blk_frozen D0.out 0
    go_wp2_with (first | ((with_reducible refine gate_callee (f := 66) rfl ?_); refine goesL_ (some 14) rfl rfl Try.func66 (by kernel_rfl) rfl #[.agg #[.slice A0_0 l0_0.length c0_0]] rfl Cmp.q ?_; (with_reducible refine (spec_IsBundle.calls k _ _ l0_0 true _ ?side1 ?side2 El.out).mono ?_); (case side1 => exact Cmp.rc (Kd.C_below D7.out HB.out)); (case side2 => exact HC0_0.out); rintro e w16 ⟨rfl, hb⟩; refine ⟨_, rfl, ?_⟩; replace D0 := Cmp.be D0 hb; replace D2 := Cmp.be D2 hb; replace HB := Cmp.bs HB hb; (try clear hb); (try clear hb2); (try clear hk); (try clear hi)))
    go_meet
    case rel => exact ⟨_, (true), (by first | rfl | simp | simp [*]), H', ⟨by first | omega | exact Nat.le_refl _⟩, Cmp.bq D0, Cmp.bq D2, ⟨Cmp.g HB.out⟩⟩
   ·rw [if_neg c13] at H; have c13b0 : decide (D1 < 0) = false := decide_eq_false c13; clear c13
    (first | rw [c13b0] | (simp only [i64_w, i32_w]; rw [c13b0]) | skip)
    by_cases c17 : 0 ≤ D1
    ·rw [if_pos c17] at H; have c17b0 : decide (0 ≤ D1) = true := decide_eq_true c17; clear c17
     by_cases c18 : D1 < (l0_0.length : Int)
     ·rw [if_pos c18] at H
      have c18b0 : decide (D1 < (l0_0.length : Int)) = true := decide_eq_true c18
      clear c18
      obtain ⟨bq19, hbq19⟩ : ∃ b_ : Bool, b_ = ((rd_T94 l0_0 D1).f3) := ⟨_, rfl⟩
      replace H : (if bq19 = true then (spec_DeleteEntry.j0 k a1 a2 D1 true l0_0) else (spec_DeleteEntry.j0 k a1 a2 D1 (((rd_T94 l0_0 D1).f2) == 1000000) l0_0)) = some (r1, r2) := by rw [← hbq19] at H; exact H
      have Nbq19 := Cmp.A hbq19; clear hbq19
      by_cases c20 : bq19 = true
      ·subst c20; rw [if_pos rfl] at H
       have H' := Cmp.A H
       clear H; have Ew := D3.out; have F1 := D4.out
       have Dt := Cmp.c0 D0
       have Dz := blk_frozen D0.out 0
       go_wp2_with (first | ((with_reducible refine gate_callee (f := 66) rfl ?_); refine goesL_ (some 14) rfl rfl Try.func66 (by kernel_rfl) rfl #[.agg #[.slice A0_0 l0_0.length c0_0]] rfl Cmp.q ?_; (with_reducible refine (spec_IsBundle.calls k _ _ l0_0 true _ ?side1 ?side2 El.out).mono ?_); (case side1 => exact Cmp.rc (Kd.C_below D7.out HB.out)); (case side2 => exact HC0_0.out); rintro e w23 ⟨rfl, hb⟩; refine ⟨_, rfl, ?_⟩; replace D0 := Cmp.be D0 hb; replace D2 := Cmp.be D2 hb; replace HB := Cmp.bs HB hb; (try clear hb); (try clear hb2); (try clear hk); (try clear hi); have Du := Cmp.c0 D0; have E0 := blk_frozen D0.out 0; have p238 : 0 ≤ (D1 : Int) := of_decide_eq_true Cmp.d; have q238 : D1 < (l0_0.length : Int) := of_decide_eq_true Cmp.d; obtain ⟨E6, e238, Dd, De, Df, D6⟩ := at_T94 D7.out D1 p238 q238; (try rw [← Nbq19.out] at D6); cases e238; replace Dd := Cmp.hc HB Dd; replace De := Cmp.hc HB De; replace Df := Cmp.hc HB Df; replace D6 := Cmp.hc HB D6; replace p238 := eq_true p238; replace q238 := eq_true q238))
       go_meet
       case rel => exact ⟨_, (true), (by first | rfl | simp | simp [*]), H', ⟨by first | omega | exact Nat.le_refl _⟩, Cmp.bq D0, Cmp.bq D2, ⟨Cmp.g HB.out⟩⟩
      ·replace c20 := Bool.eq_false_iff.mpr c20
       subst c20
       have H1 : (spec_DeleteEntry.j0 k a1 a2 D1 (((rd_T94 l0_0 D1).f2) == 1000000) l0_0) = some (r1, r2) := by rw [if_neg (show ¬ (false = true) by decide)] at H; exact H
       clear H; have H := H1; clear H1
       have H' := Cmp.A H
       clear H; have Ex := D3.out; have F2 := D4.out
       have Dv := Cmp.c0 D0
       have E1 := blk_frozen D0.out 0
       go_wp2_with (first | ((with_reducible refine gate_callee (f := 66) rfl ?_); refine goesL_ (some 14) rfl rfl Try.func66 (by kernel_rfl) rfl #[.agg #[.slice A0_0 l0_0.length c0_0]] rfl Cmp.q ?_; (with_reducible refine (spec_IsBundle.calls k _ _ l0_0 true _ ?side1 ?side2 El.out).mono ?_); (case side1 => exact Cmp.rc (Kd.C_below D7.out HB.out)); (case side2 => exact HC0_0.out); rintro e w27 ⟨rfl, hb⟩; refine ⟨_, rfl, ?_⟩; replace D0 := Cmp.be D0 hb; replace D2 := Cmp.be D2 hb; replace HB := Cmp.bs HB hb; (try clear hb); (try clear hb2); (try clear hk); (try clear hi); have Dw := Cmp.c0 D0; have E2 := blk_frozen D0.out 0; have p238 : 0 ≤ (D1 : Int) := of_decide_eq_true Cmp.d; have q238 : D1 < (l0_0.length : Int) := of_decide_eq_true Cmp.d; obtain ⟨E6, e238, Dd, De, Df, D6⟩ := at_T94 D7.out D1 p238 q238; (try rw [← Nbq19.out] at D6); cases e238; replace Dd := Cmp.hc HB Dd; replace De := Cmp.hc HB De; replace Df := Cmp.hc HB Df; replace D6 := Cmp.hc HB D6; replace p238 := eq_true p238; replace q238 := eq_true q238; have p239 : 0 ≤ (D1 : Int) := of_decide_eq_true Cmp.d; have q239 : D1 < (l0_0.length : Int) := of_decide_eq_true Cmp.d; obtain ⟨Eg, e239, Dm, Dn, Do, Dh⟩ := at_T94 D7.out D1 p239 q239; (try rw [← Nbq19.out] at Dh); obtain rfl : E6 = Eg := (by injection e239); replace Dm := Cmp.hc HB Dm; replace Dn := Cmp.hc HB Dn; replace Do := Cmp.hc HB Do; replace Dh := Cmp.hc HB Dh; replace p239 := eq_true p239; replace q239 := eq_true q239))
       go_meet
       case rel => exact ⟨_, ((((rd_T94 l0_0 D1).f2) == 1000000)), (by first | rfl | simp | simp [*]), H', ⟨by first | omega | exact Nat.le_refl _⟩, Cmp.bq D0, Cmp.bq D2, ⟨Cmp.g HB.out⟩⟩
     ·rw [if_neg c18] at H; exact absurd H (by simp)
    ·rw [if_neg c17] at H; exact absurd H (by simp)
  ·replace c12 := Bool.eq_false_iff.mpr c12
   subst c12
   have H1 : (spec_DeleteEntry.j0 k a1 a2 D1 true l0_0) = some (r1, r2) := by rw [if_neg (show ¬ (false = true) by decide)] at H; exact H
   clear H; have H := H1; clear H1
   have H' := Cmp.A H
   clear H; have Ey := D3.out; have F3 := D4.out
   have Dx := Cmp.c0 D0
   have E3 := blk_frozen D0.out 0
   go_wp2_with (first | ((with_reducible refine gate_callee (f := 66) rfl ?_); refine goesL_ (some 14) rfl rfl Try.func66 (by kernel_rfl) rfl #[.agg #[.slice A0_0 l0_0.length c0_0]] rfl Cmp.q ?_; (with_reducible refine (spec_IsBundle.calls k _ _ l0_0 false _ ?side1 ?side2 El.out).mono ?_); (case side1 => exact Cmp.rc (Kd.C_below D7.out HB.out)); (case side2 => exact HC0_0.out); rintro e w31 ⟨rfl, hb⟩; refine ⟨_, rfl, ?_⟩; replace D0 := Cmp.be D0 hb; replace D2 := Cmp.be D2 hb; replace HB := Cmp.bs HB hb; (try clear hb); (try clear hb2); (try clear hk); (try clear hi)))
   go_meet
   case rel => exact ⟨_, (true), (by first | rfl | simp | simp [*]), H', ⟨by first | omega | exact Nat.le_refl _⟩, Cmp.bq D0, Cmp.bq D2, ⟨Cmp.g HB.out⟩⟩
 case rest =>
  clear HC5; (try clear c1); (try clear q1); (try clear c2); (try clear p2); (try clear q2); (try clear hx2); (try clear c6); (try clear c8); (try clear c12); (try clear c13); (try clear c13b0); (try clear c14); (try clear c17); (try clear c17b0); (try clear c18); (try clear c18b0); (try clear q19); (try clear c20); (try clear c21); (try clear p23); (try clear q23); (try clear hx23); (try clear c25); (try clear c29); (try clear Ds); (try clear Dt); (try clear Du); (try clear Dv); (try clear Dw); (try clear Dx); (try clear E7); (try clear Dy); (try clear Dz); (try clear E0); (try clear E1); (try clear E2); (try clear E3); (try clear E8); (try clear Dd); (try clear De); (try clear Df); (try clear D6); (try clear Dm); (try clear Dn); (try clear Do); (try clear Dh); (try clear p238); (try clear p239); (try clear q238); (try clear q239)
  obtain ⟨kq, Dp, rfl, HA, HJ4, D0, D2, HB⟩ := hcut
  cases kq with
  | zero => exact absurd HA.out (by simp [spec_DeleteEntry.j0])
  | succ kj4 =>
   have H := HA.out; clear HA
   simp only [spec_DeleteEntry.j0] at H
   by_cases c32 : Dp = true
   ·subst c32; rw [if_pos rfl] at H; replace H := Option.bind_eq_some_iff.mp H; obtain ⟨Ea, Ec, H⟩ := H; (try dsimp only at H); have F5 := Cmp.A Ec; clear Ec
    simp only [Option.some.injEq, Prod.mk.injEq] at H
    obtain ⟨rfl, rfl⟩ := H; have Ez := D3.out; have F4 := D4.out
    have Em : wc.cell? ⟨Dq, 0, none⟩ = some (.slice A0_0 l0_0.length c0_0) := (blk_cell D0.out 0).trans rfl
    have Eo := blk_frozen D0.out 0
    go_wp2_with (first | ((with_reducible refine gate_callee (f := 132) rfl ?_); refine goesL_ (some 38) rfl rfl Try.func132 (by kernel_rfl) rfl #[.agg #[.slice A0_0 l0_0.length c0_0]] rfl Cmp.q ?_; (with_reducible refine (spec_l17Copy.calls _ _ l0_0 Ea _ ?side1 ?side2 F5.out).mono ?_); (case side1 => exact Cmp.rc (Kd.C_below D7.out HB.out)); (case side2 => exact HC0_0.out); rintro e w36 ⟨v241, rfl, Ek, hb⟩; refine ⟨_, rfl, ?_⟩; have E4 := Cmp.A (Kd.R_lower Ek (below_size (Cmp.g HB.out))); replace D0 := Cmp.be D0 hb; replace D2 := Cmp.be D2 hb; replace HB := Cmp.bs HB hb; (try clear hb); (try clear hb2); (try clear hk); (try clear hi); (try clear Ek); obtain ⟨Ee, Eh, Eq⟩ := Kd.R_slice E4.out; subst Eq; have En := Cmp.c0 D2; have Ep := blk_frozen D2.out 0))
    refine bodyPost_ret (results_ct rfl _ _ D8 45 #[.slice Ee Ea.length Eh] (0, 0) _ rfl (Cmp.bw D2.out) Try.underlying45 rfl (by kernel_rfl)) rfl ?_
    exact ⟨_, by first | rfl | (simp [errW_none, errW_some] <;> rfl) | (simp [*, errW_none, errW_some] <;> rfl), by (with_reducible repeat (first | apply Kd.R_alloc | apply Kd.R_drewN | apply Kd.R_drew)); exact Kd.R_mono (Kd.R_far (p := ⟨D8, 0, none⟩) (Kd.R_types E4.out D2.out (by decide)) (fun _ hk => hk.2) (.slice Ee Ea.length Eh)) (fun _ hk => trivial), Cmp.g HB.out⟩
   ·replace c32 := Bool.eq_false_iff.mpr c32
    subst c32
    have H1 : (if 0 ≤ D1 then (if D1 < (l0_0.length : Int) then ((spec_l17Set.f kj4 l0_0 a1 a2 (wrap64 (((rd_T94 l0_0 D1).f2) + 1)) true).bind fun Dr => (some (Dr, true))) else (none)) else (none)) = some (r1, r2) := by rw [if_neg (show ¬ (false = true) by decide)] at H; exact H
    clear H; have H := H1; clear H1
    by_cases c39 : 0 ≤ D1
    ·rw [if_pos c39] at H; have c39b0 : decide (0 ≤ D1) = true := decide_eq_true c39; clear c39
     by_cases c40 : D1 < (l0_0.length : Int)
     ·rw [if_pos c40] at H
      have c40b0 : decide (D1 < (l0_0.length : Int)) = true := decide_eq_true c40
      clear c40; replace H := Option.bind_eq_some_iff.mp H; obtain ⟨Dr, Ed, H⟩ := H; (try dsimp only at H); have F6 := Cmp.A Ed; clear Ed
      simp only [Option.some.injEq, Prod.mk.injEq] at H
      obtain ⟨rfl, rfl⟩ := H
      try go_wp2
      replace D0 := Cmp.A (blk_drew D0.out); replace D2 := Cmp.A (blk_drew D2.out); replace HB := Cmp.A (below_drew1 HB.out)
      have p243 : 0 ≤ (D1 : Int) := of_decide_eq_true Cmp.d
      have q243 : D1 < (l0_0.length : Int) := of_decide_eq_true Cmp.d
      obtain ⟨Dg, e243, Di, Dj, Dk, Dl⟩ := at_T94 D7.out D1 p243 q243
      have Dc := Dl; have Db := Dk; have Da := Dj; have D9 := Di; cases e243
      replace Di := Cmp.hc HB Di
      replace Dj := Cmp.hc HB Dj
      replace Dk := Cmp.hc HB Dk
      replace Dl := Cmp.hc HB Dl
      replace p243 := eq_true p243; replace q243 := eq_true q243
      refine start_ (n := 14) (S := fun w' => w'.cell? ⟨Dq, 0, none⟩ = some (.slice (some Dg) l0_0.length c0_0) ∧ w'.cell? (Dg.add ((D1).toNat * 4)) = some (.int .i64 ((rd_T94 l0_0 D1).f0)) ∧ w'.cell? ⟨(Dg.add ((D1).toNat * 4)).block, (Dg.add ((D1).toNat * 4)).off + 1, none⟩ = some (.int .i64 ((rd_T94 l0_0 D1).f1)) ∧ w'.cell? ⟨(Dg.add ((D1).toNat * 4)).block, (Dg.add ((D1).toNat * 4)).off + 2, none⟩ = some (.int .i64 ((rd_T94 l0_0 D1).f2)) ∧ w'.cell? ⟨(Dg.add ((D1).toNat * 4)).block, (Dg.add ((D1).toNat * 4)).off + 3, none⟩ = some (.bool ((rd_T94 l0_0 D1).f3))) (ds := []) (Cmp.bm 0 14) (by kernel_rfl) rfl rfl ⟨(Cmp.c0 D0 :), (Cmp.hc HB D9 :), (Cmp.hc HB Da :), (Cmp.hc HB Db :), (Cmp.hc HB Dc :)⟩ (fun hHeld => ?_); refine with_tabW spec_DeleteEntry.tab4 spec_DeleteEntry.bits4 (fun HT_ HW_ => ?_)
      generalize wc.drew = w42 at D0 D2 HB Di Dj Dk Dl hHeld ⊢
      refine Cmp.pu HT_ 1 40 (Cmp.bb 14 2) ?_; refine Cmp.pu HT_ 2 41 (Cmp.bb 14 6) ?_; refine Cmp.pu HT_ 3 42 (Cmp.bb 14 14) ?_; refine Cmp.pu HT_ 5 44 (Cmp.bb 14 46) ?_; refine Cmp.tk HT_ HW_ hHeld 0 39 (Cmp.bb 14 47) ?_; refine Cmp.tk HT_ HW_ hHeld 4 43 (Cmp.bm 6 8) ?_; refine Cmp.pu HT_ 6 45 (Cmp.bm 7 7) ?_; refine Cmp.pu HT_ 7 46 (Cmp.bm 8 6) ?_; refine Cmp.tk HT_ HW_ hHeld 8 47 (Cmp.bm 9 5) ?_; refine Cmp.pu HT_ 9 48 (Cmp.bm 10 4) ?_; refine Cmp.pu HT_ 10 49 (Cmp.bm 11 3) ?_
      refine one_ (i := 11) (N := some 50) (Cmp.bm 12 2) rfl rfl (one_of HT_.out (by kernel_rfl)) (by decide) (fun K hK => ?_)
      refine goes_ Try.func133 (by kernel_rfl) rfl #[.agg #[.slice (some Dg) l0_0.length c0_0], .agg #[.int .i64 a1, .int .i64 a2, .int .i64 (wrap64 (((rd_T94 l0_0 D1).f2) + 1)), .bool true]] (by rfl) rfl rfl Cmp.q ?_
      with_reducible refine (spec_l17Set.calls kj4 _ _ l0_0 a1 a2 (wrap64 (((rd_T94 l0_0 D1).f2) + 1)) true Dr _ ?side1 ?side2 F6.out).mono ?_
      (case side1 => exact Cmp.rc (Kd.C_below D7.out HB.out))
      (case side2 => exact HC0_0.out)
      rintro e w43 ⟨v245, rfl, Ek, hb⟩; refine ⟨_, rfl, ?_⟩
      have E5 := Cmp.A (Kd.R_lower Ek (below_size (Cmp.g HB.out))); replace D0 := Cmp.be D0 hb; replace D2 := Cmp.be D2 hb; replace HB := Cmp.A (below_step (Cmp.g HB.out) hb); (try clear hb); (try clear hb2); (try clear hk); (try clear hi); (try clear Ek)
      obtain ⟨Ef, Ei, Ej⟩ := Kd.R_slice E5.out
      (first | subst Ej | (injection Ej with f1_ f2_ f3_; have f4_ := f1_.symm; have f5_ := f3_.symm; clear f1_ f2_ f3_; subst f4_; subst f5_))
      refine hK.out _ _ ⟨(Cmp.c0 D0 :), (Cmp.hc HB D9 :), (Cmp.hc HB Da :), (Cmp.hc HB Db :), (Cmp.hc HB Dc :)⟩ (fun hHeld => ?_)
      clear hK K
      refine Cmp.no ?_
      refine one_ (i := 12) (N := none) (Cmp.bm 13 1) rfl rfl (one_of HT_.out (by kernel_rfl)) (by decide) (fun K hK => ?_)
      have hs45 : w43.cell? ⟨D8, 0, none⟩ = some (.slice none 0 0) := (blk_cell D2.out 0).trans rfl
      have hfs45 := blk_frozen D2.out 0; have hns45_0 := D3.out; have hms45_0 := D4.out
      refine skip_ (w1 := ?_) (by rfl) rfl ?_ ?_
      rotate_left
      ·go_simp; rfl
      refine hK.out _ _ ⟨((cell_far (p := ⟨D8, _, none⟩) D3.out _).trans (hHeld.1)), ((cell_far (p := ⟨D8, _, none⟩) (by first | exact Cmp.bn D9 D5 | (rw [add_block]; exact Cmp.bn D9 D5) | (show (Addr.add _ _).block ≠ _; rw [add_block]; exact Cmp.bn D9 D5) | (dsimp only; exact Cmp.bn D9 D5)) _).trans (hHeld.2.1)), ((cell_far (p := ⟨D8, _, none⟩) (by first | exact Cmp.bn Da D5 | (rw [add_block]; exact Cmp.bn Da D5) | (show (Addr.add _ _).block ≠ _; rw [add_block]; exact Cmp.bn Da D5) | (dsimp only; exact Cmp.bn Da D5)) _).trans (hHeld.2.2.1)), ((cell_far (p := ⟨D8, _, none⟩) (by first | exact Cmp.bn Db D5 | (rw [add_block]; exact Cmp.bn Db D5) | (show (Addr.add _ _).block ≠ _; rw [add_block]; exact Cmp.bn Db D5) | (dsimp only; exact Cmp.bn Db D5)) _).trans (hHeld.2.2.2.1)), ((cell_far (p := ⟨D8, _, none⟩) (by first | exact Cmp.bn Dc D5 | (rw [add_block]; exact Cmp.bn Dc D5) | (show (Addr.add _ _).block ≠ _; rw [add_block]; exact Cmp.bn Dc D5) | (dsimp only; exact Cmp.bn Dc D5)) _).trans (hHeld.2.2.2.2))⟩ (fun hHeld => ?_)
      clear hK K
      refine Cmp.pu HT_ 13 7 (Cmp.bm 14 0) ?_
      refine done_ (done_of HT_.out (by kernel_rfl)) ?_
      try go_wp2
      refine bodyPost_ret (results_ct rfl _ _ D8 45 #[.slice Ef Dr.length Ei] (0, 0) _ rfl (Cmp.bw D2.out) Try.underlying45 rfl (by kernel_rfl)) rfl ?_
      exact ⟨_, by first | rfl | (simp [errW_none, errW_some] <;> rfl) | (simp [*, errW_none, errW_some] <;> rfl), by (with_reducible repeat (first | apply Kd.R_alloc | apply Kd.R_drewN | apply Kd.R_drew)); exact Kd.R_mono (Kd.R_far (p := ⟨D8, 0, none⟩) (Kd.R_types E5.out D2.out (by decide)) (fun _ hk => hk.2) (.slice Ef Dr.length Ei)) (fun _ hk => trivial), Cmp.g HB.out⟩
     ·rw [if_neg c40] at H; exact absurd H (by simp)
    ·rw [if_neg c39] at H; exact absurd H (by simp)
/-! ### spec_l17Step: function 123 -/
def spec_l17Step.f (k : Nat) (s0_0 : List Int) (s0_1 : Int) (s0_2 : Int) (l1_0 : List (S94)) : Option ((List (S94)) × Int × Int) := (spec_l1Below.f s0_0 s0_1 s0_2 4).bind fun bt249 => ((spec_l1Below.f s0_0 bt249.2.1 bt249.2.2 3).bind fun bt252 => ((spec_l1Once.f s0_0 bt252.2.1 bt252.2.2 3).bind fun bt255 => (if bt255.1 = true then ((spec_DeleteEntry.f k l1_0 bt249.1 bt252.1).bind fun bt258 => (some (bt258.1, bt255.2.1, bt255.2.2))) else ((spec_PutEntry.f k l1_0 bt249.1 bt252.1).bind fun bt262 => (some (bt262.1, bt255.2.1, bt255.2.2))))))
theorem spec_l17Step.mono : ∀ a0 a1 a2 a3 k, LeO (spec_l17Step.f k a0 a1 a2 a3) (spec_l17Step.f (k + 1) a0 a1 a2 a3) := by
  intro a0 a1 a2 a3 k
  unfold spec_l17Step.f
  repeat' first
 | (with_reducible exact spec_DeleteEntry.mono _ _ _ _)
 | (with_reducible exact spec_PutEntry.mono _ _ _ _)
 | (with_reducible exact LeO.refl _)
 | (with_reducible exact LeO.none _)
 | (with_reducible refine LeO.ite ?_ ?_)
 | (with_reducible refine LeO.bind ?_ (fun _ => ?_))
set_option maxHeartbeats 8000000 in
set_option maxRecDepth 100000 in
theorem spec_l17Step.calls (k : Nat) (g : Nat) (s0_0 : List Int) (s0_1 : Int) (s0_2 : Int) (A1_0 : Option Addr) (c1_0 : Nat) (l1_0 : List (S94)) (r1 : List (S94)) (r2 : Int) (r3 : Int) (w0 w : World) (hI : IsS103 w0 w g s0_0 s0_1 s0_2) (hB : Below w0.heap.size w0 w) (hr1_0 : ∀ W_, KeepBut w W_ g none → Kd.C k94 W_ A1_0 l1_0.length l1_0) (hc1_0 : l1_0.length ≤ c1_0) (h : spec_l17Step.f k s0_0 s0_1 s0_2 l1_0 = some (r1, r2, r3)) :
    Calls Try.prog 123 #[.pointer (some ⟨g, 0, none⟩), .agg #[.slice A1_0 l1_0.length c1_0]] w fun e w' => ∃ v0_ : Value, e = .returned (.agg #[v0_]) ∧ Kd.R k94 94 w' w.heap.size (fun _ => True) v0_ r1 ∧ IsS103 w0 w' g s0_0 r2 r3 ∧ Below w0.heap.size w0 w' ∧ KeepBut w w' g none := by
 have hu45 := Try.underlying45; have Dl := Cmp.A hr1_0; have HC1_0 := Cmp.A hc1_0; clear hr1_0 hc1_0; have D6 := Cmp.A hI
 have HK := Cmp.A (KeepBut.refl w g none)
 have HL := Cmp.A hB.size; clear hI; have HW0 := Cmp.A hB.size; have HB := Cmp.A hB; clear hB
 have H : ((spec_l1Below.f s0_0 s0_1 s0_2 4).bind fun bt249 => ((spec_l1Below.f s0_0 bt249.2.1 bt249.2.2 3).bind fun bt252 => ((spec_l1Once.f s0_0 bt252.2.1 bt252.2.2 3).bind fun bt255 => (if bt255.1 = true then ((spec_DeleteEntry.f k l1_0 bt249.1 bt252.1).bind fun bt258 => (some (bt258.1, bt255.2.1, bt255.2.2))) else ((spec_PutEntry.f k l1_0 bt249.1 bt252.1).bind fun bt262 => (some (bt262.1, bt255.2.1, bt255.2.2))))))) = some (r1, r2, r3) := h
 clear h; replace H := Option.bind_eq_some_iff.mp H; obtain ⟨⟨Db, Dd, De⟩, Ef, H⟩ := H; (try dsimp only at H); have A3 := Cmp.A Ef; clear Ef; replace H := Option.bind_eq_some_iff.mp H; obtain ⟨⟨Dc, Df, Dg⟩, Eg, H⟩ := H; (try dsimp only at H); have A4 := Cmp.A Eg; clear Eg; replace H := Option.bind_eq_some_iff.mp H; obtain ⟨⟨Ec, Dq, Dr⟩, Eh, H⟩ := H; (try dsimp only at H); have A5 := Cmp.A Eh; clear Eh
 by_cases c6 : Ec = true
 ·subst c6; rw [if_pos rfl] at H; replace H := Option.bind_eq_some_iff.mp H; obtain ⟨⟨Dh, Ed⟩, Ei, H⟩ := H; (try dsimp only at H); have A7 := Cmp.A Ei; clear Ei
  simp only [Option.some.injEq, Prod.mk.injEq] at H
  obtain ⟨rfl, rfl, rfl⟩ := H
  go_enter Try.func123, Try.ntmps123
  go_wp2_with (first | ((with_reducible refine gate_dst (N := 3) rfl ?_); refine box_event ?hg (N := 3) ?hd (cs := #[.slice A1_0 l1_0.length c1_0]) (t := 45) ?hr ?_; (case hd => rfl); (case hg => rfl); (case hr => first | (go_simp; done) | (go_simp; rfl)); intro D3 hg w8 hbox hb; have D0 := Cmp.A (hbox); have Dv := Cmp.A ((by rw [hg]; exact (keep_size (w := w) (g := g) (row := none) (Cmp.kk HK.out)) : w.heap.size ≤ D3)); have Dt := Cmp.A ((Nat.le_trans HW0.out (by rw [hg]; exact (keep_size (w := w) (g := g) (row := none) (Cmp.kk HK.out)) : w.heap.size ≤ D3) : w0.heap.size ≤ D3)); have D9 := Cmp.A ((by rw [hg]; exact Nat.ne_of_lt (IsS103.lt (show IsS103 w0 _ g s0_0 s0_1 s0_2 from IsS103.go D6.out)) : g ≠ D3)); have D4 := Cmp.A ((by rw [hg]; exact Nat.ne_of_gt (IsS103.lt (show IsS103 w0 _ g s0_0 s0_1 s0_2 from IsS103.go D6.out)) : D3 ≠ g)); replace HK := Cmp.A (KeepBut.trans (Cmp.kk HK.out) (KeepBut.of_below hb g none) (.inl rfl)); replace HB := Cmp.A (below_step (IsS103.bl HB.out) hb); replace D6 := Cmp.A (IsS103.below (IsS103.go D6.out) hb); clear hb hbox hg) | ((with_reducible refine gate_dst (N := 4) rfl ?_); refine box_event ?hg (N := 4) ?hd (cs := #[.slice none 0 0]) (t := 45) ?hr ?_; (case hd => rfl); (case hg => rfl); (case hr => first | (go_simp; done) | (go_simp; rfl)); intro D2 hg w9 hbox hb; have D1 := Cmp.A (hbox); have Dw := Cmp.A ((by rw [hg]; exact (keep_size (w := w) (g := g) (row := none) (Cmp.kk HK.out)) : w.heap.size ≤ D2)); have Du := Cmp.A ((Nat.le_trans HW0.out (by rw [hg]; exact (keep_size (w := w) (g := g) (row := none) (Cmp.kk HK.out)) : w.heap.size ≤ D2) : w0.heap.size ≤ D2)); have D7 := Cmp.nl hg D0; have D8 := Cmp.ng hg D0; have Da := Cmp.A ((by rw [hg]; exact Nat.ne_of_lt (IsS103.lt (show IsS103 w0 _ g s0_0 s0_1 s0_2 from IsS103.go D6.out)) : g ≠ D2)); have D5 := Cmp.A ((by rw [hg]; exact Nat.ne_of_gt (IsS103.lt (show IsS103 w0 _ g s0_0 s0_1 s0_2 from IsS103.go D6.out)) : D2 ≠ g)); replace D0 := Cmp.be D0 hb; replace HK := Cmp.A (KeepBut.trans (Cmp.kk HK.out) (KeepBut.of_below hb g none) (.inl rfl)); replace HB := Cmp.A (below_step (IsS103.bl HB.out) hb); replace D6 := Cmp.A (IsS103.below (IsS103.go D6.out) hb); clear hb hbox hg) | ((with_reducible refine gate_callee (f := 42) rfl ?_); refine goesL_ (some 8) rfl rfl Try.func42 (by kernel_rfl) rfl #[.pointer (some ⟨g, 0, none⟩), .int .i64 4] rfl Cmp.q ?_; (with_reducible refine (spec_l1Below.calls g s0_0 s0_1 s0_2 4 Db Dd De w0 _ ?side1 ?side2 A3.out).mono ?_); (case side1 => exact IsS103.go D6.out); (case side2 => exact IsS103.bl HB.out); rintro e w10 ⟨rfl, hi, hb, hk⟩; refine ⟨_, rfl, ?_⟩; replace D0 := Cmp.A (KeepBut.blk hk (g' := D3) (o := .cells #[.slice A1_0 l1_0.length c1_0] 45 (0, 0)) (Cmp.b D0.out) D4.out (by simp)); replace D1 := Cmp.A (KeepBut.blk hk (g' := D2) (o := .cells #[.slice none 0 0] 45 (0, 0)) (Cmp.b D1.out) D5.out (by simp)); replace HK := Cmp.A (KeepBut.trans (Cmp.kk HK.out) hk (.inl rfl)); replace HB := Cmp.A (hb); replace D6 := Cmp.A (hi); (try clear hb); (try clear hb2); (try clear hk); (try clear hi)) | ((with_reducible refine gate_callee (f := 42) rfl ?_); refine goesL_ (some 10) rfl rfl Try.func42 (by kernel_rfl) rfl #[.pointer (some ⟨g, 0, none⟩), .int .i64 3] rfl Cmp.q ?_; (with_reducible refine (spec_l1Below.calls g s0_0 Dd De 3 Dc Df Dg w0 _ ?side1 ?side2 A4.out).mono ?_); (case side1 => exact IsS103.go D6.out); (case side2 => exact IsS103.bl HB.out); rintro e w11 ⟨rfl, hi, hb, hk⟩; refine ⟨_, rfl, ?_⟩; replace D0 := Cmp.A (KeepBut.blk hk (g' := D3) (o := .cells #[.slice A1_0 l1_0.length c1_0] 45 (0, 0)) (Cmp.b D0.out) D4.out (by simp)); replace D1 := Cmp.A (KeepBut.blk hk (g' := D2) (o := .cells #[.slice none 0 0] 45 (0, 0)) (Cmp.b D1.out) D5.out (by simp)); replace HK := Cmp.A (KeepBut.trans (Cmp.kk HK.out) hk (.inl rfl)); replace HB := Cmp.A (hb); replace D6 := Cmp.A (hi); (try clear hb); (try clear hb2); (try clear hk); (try clear hi)) | ((with_reducible refine gate_callee (f := 87) rfl ?_); refine goesL_ (some 12) rfl rfl Try.func87 (by kernel_rfl) rfl #[.pointer (some ⟨g, 0, none⟩), .int .i64 3] rfl Cmp.q ?_; (with_reducible refine (spec_l1Once.calls g s0_0 Df Dg 3 true Dq Dr w0 _ ?side1 ?side2 A5.out).mono ?_); (case side1 => exact IsS103.go D6.out); (case side2 => exact IsS103.bl HB.out); rintro e w12 ⟨rfl, hi, hb, hk⟩; refine ⟨_, rfl, ?_⟩; replace D0 := Cmp.A (KeepBut.blk hk (g' := D3) (o := .cells #[.slice A1_0 l1_0.length c1_0] 45 (0, 0)) (Cmp.b D0.out) D4.out (by simp)); replace D1 := Cmp.A (KeepBut.blk hk (g' := D2) (o := .cells #[.slice none 0 0] 45 (0, 0)) (Cmp.b D1.out) D5.out (by simp)); replace HK := Cmp.A (KeepBut.trans (Cmp.kk HK.out) hk (.inl rfl)); replace HB := Cmp.A (hb); replace D6 := Cmp.A (hi); (try clear hb); (try clear hb2); (try clear hk); (try clear hi); have Ej := D7.out; have Ep := D8.out; have Ek := D4.out; have Eq := D9.out; have Dy := Cmp.c0 D0; have E4 := blk_frozen D0.out 0) | ((with_reducible refine gate_callee (f := 130) rfl ?_); refine goesL_ (some 17) rfl rfl Try.func130 (by kernel_rfl) rfl #[.agg #[.slice A1_0 l1_0.length c1_0], .int .i64 Db, .int .i64 Dc] rfl Cmp.q ?_; (with_reducible refine (spec_DeleteEntry.calls k _ _ l1_0 Db Dc Dh Ed _ ?side1 ?side2 A7.out).mono ?_); (case side1 => exact Kd.C_foot_now Dl.out (Cmp.kk HK.out)); (case side2 => exact HC1_0.out); rintro e w16 ⟨v259, rfl, Dx, hb⟩; refine ⟨_, rfl, ?_⟩; have Dj := Cmp.A (Kd.R_lower Dx (keep_size (w := w) (g := g) (row := none) (Cmp.kk HK.out))); replace D0 := Cmp.be D0 hb; replace D1 := Cmp.be D1 hb; replace HK := Cmp.A (KeepBut.trans (Cmp.kk HK.out) (KeepBut.of_below hb g none) (.inl rfl)); replace HB := Cmp.A (below_step (IsS103.bl HB.out) hb); replace D6 := Cmp.A (IsS103.below (IsS103.go D6.out) hb); (try clear hb); (try clear hb2); (try clear hk); (try clear hi); (try clear Dx); obtain ⟨Dm, Do, Ea⟩ := Kd.R_slice Dj.out; subst Ea; have Dz := Cmp.c0 D0; have E5 := blk_frozen D0.out 0; have El := D5.out; have Er := Da.out; have E0 := Cmp.c0 D1; have E6 := blk_frozen D1.out 0))
  refine bodyPost_ret (results_cell_row rfl _ _ D2 45 #[.slice Dm Dh.length Do] (0, 0) _ rfl (Cmp.bw D1.out) Try.underlying45 rfl (by kernel_rfl)) rfl ?_
  exact ⟨_, by first | rfl | (simp [errW_none, errW_some] <;> rfl) | (simp [*, errW_none, errW_some] <;> rfl), by (with_reducible repeat (first | apply Kd.R_alloc | apply Kd.R_drewN | apply Kd.R_drew)); exact Kd.R_mono (Kd.R_far (p := ⟨D2, 0, none⟩) (Kd.R_far (p := ⟨D3, 0, none⟩) (Kd.R_types (Kd.R_types Dj.out D0.out (by decide)) D1.out (by decide)) (fun _ hk => hk.1.2) (.slice Dm Dh.length Do)) (fun _ hk => hk.2) (.slice Dm Dh.length Do)) (fun _ hk => trivial), IsS103.go D6.out, IsS103.bl HB.out, Cmp.kk HK.out⟩
 ·replace c6 := Bool.eq_false_iff.mpr c6
  subst c6
  have H1 : ((spec_PutEntry.f k l1_0 Db Dc).bind fun bt262 => (some (bt262.1, Dq, Dr))) = some (r1, r2, r3) := by rw [if_neg (show ¬ (false = true) by decide)] at H; exact H
  clear H; have H := H1; clear H1; replace H := Option.bind_eq_some_iff.mp H; obtain ⟨⟨Di, Ee⟩, Ds, H⟩ := H; (try dsimp only at H); have Ev := Cmp.A Ds; clear Ds
  simp only [Option.some.injEq, Prod.mk.injEq] at H
  obtain ⟨rfl, rfl, rfl⟩ := H
  go_enter Try.func123, Try.ntmps123
  go_wp2_with (first | ((with_reducible refine gate_dst (N := 3) rfl ?_); refine box_event ?hg (N := 3) ?hd (cs := #[.slice A1_0 l1_0.length c1_0]) (t := 45) ?hr ?_; (case hd => rfl); (case hg => rfl); (case hr => first | (go_simp; done) | (go_simp; rfl)); intro D3 hg w22 hbox hb; have D0 := Cmp.A (hbox); have Dv := Cmp.A ((by rw [hg]; exact (keep_size (w := w) (g := g) (row := none) (Cmp.kk HK.out)) : w.heap.size ≤ D3)); have Dt := Cmp.A ((Nat.le_trans HW0.out (by rw [hg]; exact (keep_size (w := w) (g := g) (row := none) (Cmp.kk HK.out)) : w.heap.size ≤ D3) : w0.heap.size ≤ D3)); have D9 := Cmp.A ((by rw [hg]; exact Nat.ne_of_lt (IsS103.lt (show IsS103 w0 _ g s0_0 s0_1 s0_2 from IsS103.go D6.out)) : g ≠ D3)); have D4 := Cmp.A ((by rw [hg]; exact Nat.ne_of_gt (IsS103.lt (show IsS103 w0 _ g s0_0 s0_1 s0_2 from IsS103.go D6.out)) : D3 ≠ g)); replace HK := Cmp.A (KeepBut.trans (Cmp.kk HK.out) (KeepBut.of_below hb g none) (.inl rfl)); replace HB := Cmp.A (below_step (IsS103.bl HB.out) hb); replace D6 := Cmp.A (IsS103.below (IsS103.go D6.out) hb); clear hb hbox hg) | ((with_reducible refine gate_dst (N := 4) rfl ?_); refine box_event ?hg (N := 4) ?hd (cs := #[.slice none 0 0]) (t := 45) ?hr ?_; (case hd => rfl); (case hg => rfl); (case hr => first | (go_simp; done) | (go_simp; rfl)); intro D2 hg w23 hbox hb; have D1 := Cmp.A (hbox); have Dw := Cmp.A ((by rw [hg]; exact (keep_size (w := w) (g := g) (row := none) (Cmp.kk HK.out)) : w.heap.size ≤ D2)); have Du := Cmp.A ((Nat.le_trans HW0.out (by rw [hg]; exact (keep_size (w := w) (g := g) (row := none) (Cmp.kk HK.out)) : w.heap.size ≤ D2) : w0.heap.size ≤ D2)); have D7 := Cmp.nl hg D0; have D8 := Cmp.ng hg D0; have Da := Cmp.A ((by rw [hg]; exact Nat.ne_of_lt (IsS103.lt (show IsS103 w0 _ g s0_0 s0_1 s0_2 from IsS103.go D6.out)) : g ≠ D2)); have D5 := Cmp.A ((by rw [hg]; exact Nat.ne_of_gt (IsS103.lt (show IsS103 w0 _ g s0_0 s0_1 s0_2 from IsS103.go D6.out)) : D2 ≠ g)); replace D0 := Cmp.be D0 hb; replace HK := Cmp.A (KeepBut.trans (Cmp.kk HK.out) (KeepBut.of_below hb g none) (.inl rfl)); replace HB := Cmp.A (below_step (IsS103.bl HB.out) hb); replace D6 := Cmp.A (IsS103.below (IsS103.go D6.out) hb); clear hb hbox hg) | ((with_reducible refine gate_callee (f := 42) rfl ?_); refine goesL_ (some 8) rfl rfl Try.func42 (by kernel_rfl) rfl #[.pointer (some ⟨g, 0, none⟩), .int .i64 4] rfl Cmp.q ?_; (with_reducible refine (spec_l1Below.calls g s0_0 s0_1 s0_2 4 Db Dd De w0 _ ?side1 ?side2 A3.out).mono ?_); (case side1 => exact IsS103.go D6.out); (case side2 => exact IsS103.bl HB.out); rintro e w24 ⟨rfl, hi, hb, hk⟩; refine ⟨_, rfl, ?_⟩; replace D0 := Cmp.A (KeepBut.blk hk (g' := D3) (o := .cells #[.slice A1_0 l1_0.length c1_0] 45 (0, 0)) (Cmp.b D0.out) D4.out (by simp)); replace D1 := Cmp.A (KeepBut.blk hk (g' := D2) (o := .cells #[.slice none 0 0] 45 (0, 0)) (Cmp.b D1.out) D5.out (by simp)); replace HK := Cmp.A (KeepBut.trans (Cmp.kk HK.out) hk (.inl rfl)); replace HB := Cmp.A (hb); replace D6 := Cmp.A (hi); (try clear hb); (try clear hb2); (try clear hk); (try clear hi)) | ((with_reducible refine gate_callee (f := 42) rfl ?_); refine goesL_ (some 10) rfl rfl Try.func42 (by kernel_rfl) rfl #[.pointer (some ⟨g, 0, none⟩), .int .i64 3] rfl Cmp.q ?_; (with_reducible refine (spec_l1Below.calls g s0_0 Dd De 3 Dc Df Dg w0 _ ?side1 ?side2 A4.out).mono ?_); (case side1 => exact IsS103.go D6.out); (case side2 => exact IsS103.bl HB.out); rintro e w25 ⟨rfl, hi, hb, hk⟩; refine ⟨_, rfl, ?_⟩; replace D0 := Cmp.A (KeepBut.blk hk (g' := D3) (o := .cells #[.slice A1_0 l1_0.length c1_0] 45 (0, 0)) (Cmp.b D0.out) D4.out (by simp)); replace D1 := Cmp.A (KeepBut.blk hk (g' := D2) (o := .cells #[.slice none 0 0] 45 (0, 0)) (Cmp.b D1.out) D5.out (by simp)); replace HK := Cmp.A (KeepBut.trans (Cmp.kk HK.out) hk (.inl rfl)); replace HB := Cmp.A (hb); replace D6 := Cmp.A (hi); (try clear hb); (try clear hb2); (try clear hk); (try clear hi)) | ((with_reducible refine gate_callee (f := 87) rfl ?_); refine goesL_ (some 12) rfl rfl Try.func87 (by kernel_rfl) rfl #[.pointer (some ⟨g, 0, none⟩), .int .i64 3] rfl Cmp.q ?_; (with_reducible refine (spec_l1Once.calls g s0_0 Df Dg 3 false Dq Dr w0 _ ?side1 ?side2 A5.out).mono ?_); (case side1 => exact IsS103.go D6.out); (case side2 => exact IsS103.bl HB.out); rintro e w26 ⟨rfl, hi, hb, hk⟩; refine ⟨_, rfl, ?_⟩; replace D0 := Cmp.A (KeepBut.blk hk (g' := D3) (o := .cells #[.slice A1_0 l1_0.length c1_0] 45 (0, 0)) (Cmp.b D0.out) D4.out (by simp)); replace D1 := Cmp.A (KeepBut.blk hk (g' := D2) (o := .cells #[.slice none 0 0] 45 (0, 0)) (Cmp.b D1.out) D5.out (by simp)); replace HK := Cmp.A (KeepBut.trans (Cmp.kk HK.out) hk (.inl rfl)); replace HB := Cmp.A (hb); replace D6 := Cmp.A (hi); (try clear hb); (try clear hb2); (try clear hk); (try clear hi); have Em := D7.out; have Es := D8.out; have En := D4.out; have Et := D9.out; have E1 := Cmp.c0 D0; have E7 := blk_frozen D0.out 0) | ((with_reducible refine gate_callee (f := 124) rfl ?_); refine goesL_ (some 25) rfl rfl Try.func124 (by kernel_rfl) rfl #[.agg #[.slice A1_0 l1_0.length c1_0], .int .i64 Db, .int .i64 Dc] rfl Cmp.q ?_; (with_reducible refine (spec_PutEntry.calls k _ _ l1_0 Db Dc Di Ee _ ?side1 ?side2 Ev.out).mono ?_); (case side1 => exact Kd.C_foot_now Dl.out (Cmp.kk HK.out)); (case side2 => exact HC1_0.out); rintro e w30 ⟨v263, rfl, Dx, hb⟩; refine ⟨_, rfl, ?_⟩; have Dk := Cmp.A (Kd.R_lower Dx (keep_size (w := w) (g := g) (row := none) (Cmp.kk HK.out))); replace D0 := Cmp.be D0 hb; replace D1 := Cmp.be D1 hb; replace HK := Cmp.A (KeepBut.trans (Cmp.kk HK.out) (KeepBut.of_below hb g none) (.inl rfl)); replace HB := Cmp.A (below_step (IsS103.bl HB.out) hb); replace D6 := Cmp.A (IsS103.below (IsS103.go D6.out) hb); (try clear hb); (try clear hb2); (try clear hk); (try clear hi); (try clear Dx); obtain ⟨Dn, Dp, Eb⟩ := Kd.R_slice Dk.out; subst Eb; have E2 := Cmp.c0 D0; have E8 := blk_frozen D0.out 0; have Eo := D5.out; have Eu := Da.out; have E3 := Cmp.c0 D1; have E9 := blk_frozen D1.out 0))
  refine bodyPost_ret (results_cell_row rfl _ _ D2 45 #[.slice Dn Di.length Dp] (0, 0) _ rfl (Cmp.bw D1.out) Try.underlying45 rfl (by kernel_rfl)) rfl ?_
  exact ⟨_, by first | rfl | (simp [errW_none, errW_some] <;> rfl) | (simp [*, errW_none, errW_some] <;> rfl), by (with_reducible repeat (first | apply Kd.R_alloc | apply Kd.R_drewN | apply Kd.R_drew)); exact Kd.R_mono (Kd.R_far (p := ⟨D2, 0, none⟩) (Kd.R_far (p := ⟨D3, 0, none⟩) (Kd.R_types (Kd.R_types Dk.out D0.out (by decide)) D1.out (by decide)) (fun _ hk => hk.1.2) (.slice Dn Di.length Dp)) (fun _ hk => hk.2) (.slice Dn Di.length Dp)) (fun _ hk => trivial), IsS103.go D6.out, IsS103.bl HB.out, Cmp.kk HK.out⟩
end Go.Proofs.Ytpgjecknkmmnhaa.PFnSealedBundles

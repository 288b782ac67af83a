/- Printed functions of the program, out of print.sh, told more shortly. No condition. -/
import Derived.Test.YtpgjecknkmmnhaaDoorCmp
import Derived.Test.YtpgjecknkmmnhaaDoorPFnExactNavigateTabx0
import Derived.Test.YtpgjecknkmmnhaaDoorPFnExactNavigateTabx4
namespace Go.Proofs.YtpgjecknkmmnhaaDoor.PFnExactNavigateTab
open Go.Proofs.YtpgjecknkmmnhaaDoor
open Go.RowKit Go.Proofs.YtpgjecknkmmnhaaDoorW.PrintWords Go.Proofs.YtpgjecknkmmnhaaDoorW.PrintLast Go.Proofs.YtpgjecknkmmnhaaDoorW.PrintMore
attribute [local go_sem] max2_int min2_int max_two min_two max_three min_three max_four min_four   -- for this text's walks alone
set_option linter.unusedVariables false
set_option linter.unusedSimpArgs false
/-! ### laws_heldBrowser: function 13 -/
def laws_heldBrowser.f (k : Nat) (a0_0 : Int) (a0_1 : Int) (a0_2 : Int) (a0_3 : Int) (l0_4 : List (S49)) (a0_5 : Int) (a1 : Int) : Option (Int) := (laws_heldTabS.f k l0_4 a1).bind fun t183 => (if t183 < 0 then (some (-1)) else (some t183))
theorem laws_heldBrowser.mono : ∀ a0 a1 a2 a3 a4 a5 a6 k, LeO (laws_heldBrowser.f k a0 a1 a2 a3 a4 a5 a6) (laws_heldBrowser.f (k + 1) a0 a1 a2 a3 a4 a5 a6) := by
  intro a0 a1 a2 a3 a4 a5 a6 k
  unfold laws_heldBrowser.f
  repeat' first
 | (with_reducible exact laws_heldTabS.mono _ _ _)
 | (with_reducible exact LeO.refl _)
 | (with_reducible exact LeO.none _)
 | (with_reducible refine LeO.ite ?_ ?_)
 | (with_reducible refine LeO.bind ?_ (fun _ => ?_))
set_option maxHeartbeats 8000000 in
set_option maxRecDepth 100000 in
theorem laws_heldBrowser.calls (k : Nat) (a0_0 : Int) (a0_1 : Int) (a0_2 : Int) (a0_3 : Int) (A0_4 : Option Addr) (c0_4 : Nat) (l0_4 : List (S49)) (a0_5 : Int) (a1 : Int) (r : Int) (w : World) (hr0_4 : Kd.C k49 w A0_4 l0_4.length l0_4) (hc0_4 : l0_4.length ≤ c0_4) (h : laws_heldBrowser.f k a0_0 a0_1 a0_2 a0_3 l0_4 a0_5 a1 = some r) :
    Calls Tryd.prog 13 #[.agg #[.int .i64 a0_0, .int .i64 a0_1, .int .i64 a0_2, .int .i64 a0_3, .slice A0_4 l0_4.length c0_4, .int .i64 a0_5], .int .i64 a1] w fun e w' => e = .returned (.int .i64 r) ∧ Below w.heap.size w w' := by
 have hu34 := Tryd.underlying34; have D2 := Cmp.A hr0_4; have HC0_4 := Cmp.A hc0_4; clear hr0_4 hc0_4
 have HB := Cmp.A (Below.refl w.heap.size w)
 have H : ((laws_heldTabS.f k l0_4 a1).bind fun D1 => (if D1 < 0 then (some (-1)) else (some D1))) = some r := h
 clear h; replace H := Option.bind_eq_some_iff.mp H; obtain ⟨D1, Du, H⟩ := H; (try dsimp only at H); have A3 := Cmp.A Du; clear Du
 by_cases c4 : D1 < 0
 ·rw [if_pos c4] at H; have c4b0 : decide (D1 < 0) = true := decide_eq_true c4; clear c4
  obtain rfl := Option.some.inj H
  go_enter Tryd.func13, Tryd.ntmps13
  go_wp2_with (first | ((with_reducible refine gate_dst (N := 2) rfl ?_); refine box_event ?hg (N := 2) ?hd (cs := #[.int .i64 a0_0, .int .i64 a0_1, .int .i64 a0_2, .int .i64 a0_3, .slice A0_4 l0_4.length c0_4, .int .i64 a0_5]) (t := 34) ?hr ?_; (case hd => rfl); (case hg => rfl); (case hr => first | (go_simp; done) | (go_simp; rfl)); intro D5 hg w5 hbox hb; have D0 := Cmp.A (hbox); have D4 := Cmp.gw hg HB; have D3 := Cmp.gw hg HB; replace HB := Cmp.bs HB hb; clear hb hbox hg; obtain ⟨D6, D7, D8, D9, Da, Db⟩ := Cmp.q6 D0; obtain ⟨Di, Dj, Dk, Dl, Dm, Dn⟩ := Cmp.f6 D0) | ((with_reducible refine gate_callee (f := 26) rfl ?_); refine goesL_ (some 8) rfl rfl Tryd.func26 (by kernel_rfl) rfl #[.slice A0_4 l0_4.length c0_4, .int .i64 a1] rfl Cmp.q ?_; (with_reducible refine (laws_heldTabS.calls k _ _ l0_4 a1 D1 _ ?side1 ?side2 A3.out).mono ?_); (case side1 => exact Cmp.rc (Kd.C_below D2.out HB.out)); (case side2 => exact HC0_4.out); rintro e w7 ⟨rfl, hb⟩; refine ⟨_, rfl, ?_⟩; replace D0 := Cmp.be D0 hb; replace HB := Cmp.bs HB hb; (try clear hb); (try clear hb2); (try clear hk); (try clear hi)))
  go_ret
  exact ⟨by first | rfl | (simp [errW_none, errW_some] <;> rfl) | (simp [*, errW_none, errW_some] <;> rfl), Cmp.g HB.out⟩
 ·rw [if_neg c4] at H; have c4b0 : decide (D1 < 0) = false := decide_eq_false c4; clear c4
  obtain rfl := Option.some.inj H
  go_enter Tryd.func13, Tryd.ntmps13
  go_wp2_with (first | ((with_reducible refine gate_dst (N := 2) rfl ?_); refine box_event ?hg (N := 2) ?hd (cs := #[.int .i64 a0_0, .int .i64 a0_1, .int .i64 a0_2, .int .i64 a0_3, .slice A0_4 l0_4.length c0_4, .int .i64 a0_5]) (t := 34) ?hr ?_; (case hd => rfl); (case hg => rfl); (case hr => first | (go_simp; done) | (go_simp; rfl)); intro D5 hg w8 hbox hb; have D0 := Cmp.A (hbox); have D4 := Cmp.gw hg HB; have D3 := Cmp.gw hg HB; replace HB := Cmp.bs HB hb; clear hb hbox hg; obtain ⟨Dc, Dd, De, Df, Dg, Dh⟩ := Cmp.q6 D0; obtain ⟨Do, Dp, Dq, Dr, Ds, Dt⟩ := Cmp.f6 D0) | ((with_reducible refine gate_callee (f := 26) rfl ?_); refine goesL_ (some 8) rfl rfl Tryd.func26 (by kernel_rfl) rfl #[.slice A0_4 l0_4.length c0_4, .int .i64 a1] rfl Cmp.q ?_; (with_reducible refine (laws_heldTabS.calls k _ _ l0_4 a1 D1 _ ?side1 ?side2 A3.out).mono ?_); (case side1 => exact Cmp.rc (Kd.C_below D2.out HB.out)); (case side2 => exact HC0_4.out); rintro e w10 ⟨rfl, hb⟩; refine ⟨_, rfl, ?_⟩; replace D0 := Cmp.be D0 hb; replace HB := Cmp.bs HB hb; (try clear hb); (try clear hb2); (try clear hk); (try clear hi)))
  go_ret
  exact ⟨by first | rfl | (simp [errW_none, errW_some] <;> rfl) | (simp [*, errW_none, errW_some] <;> rfl), Cmp.g HB.out⟩
/-! ### spec_l16Copy: function 17 -/
def spec_l16Copy.f (a0_0 : Int) (a0_1 : Int) (a0_2 : Int) (a0_3 : Int) (l0_4 : List (S49)) (a0_5 : Int) : Option (Int × Int × Int × Int × (List (S49)) × Int) := (some (([] : List (S49)) : List (S49))).bind fun y187 => (if y187.length + l0_4.length < 2199023255552 then (some (a0_0, a0_1, a0_2, a0_3, (y187 ++ l0_4), a0_5)) else (none))
set_option maxHeartbeats 8000000 in
set_option maxRecDepth 100000 in
theorem spec_l16Copy.calls (a0_0 : Int) (a0_1 : Int) (a0_2 : Int) (a0_3 : Int) (A0_4 : Option Addr) (c0_4 : Nat) (l0_4 : List (S49)) (a0_5 : Int) (r1 : Int) (r2 : Int) (r3 : Int) (r4 : Int) (r5 : List (S49)) (r6 : Int) (w : World) (hr0_4 : Kd.C k49 w A0_4 l0_4.length l0_4) (hc0_4 : l0_4.length ≤ c0_4) (h : spec_l16Copy.f a0_0 a0_1 a0_2 a0_3 l0_4 a0_5 = some (r1, r2, r3, r4, r5, r6)) :
    Calls Tryd.prog 17 #[.agg #[.int .i64 a0_0, .int .i64 a0_1, .int .i64 a0_2, .int .i64 a0_3, .slice A0_4 l0_4.length c0_4, .int .i64 a0_5]] w fun e w' => ∃ v4_ : Value, e = .returned (.agg #[.int .i64 r1, .int .i64 r2, .int .i64 r3, .int .i64 r4, v4_, .int .i64 r6]) ∧ Kd.R k49 49 w' w.heap.size (fun _ => True) v4_ r5 ∧ Below w.heap.size w w' := by
 have hu34 := Tryd.underlying34; have Dj := Cmp.A hr0_4; have HC0_4 := Cmp.A hc0_4; clear hr0_4 hc0_4
 have HB := Cmp.A (Below.refl w.heap.size w)
 have H : ((some (([] : List (S49)) : List (S49))).bind fun D5 => (if D5.length + l0_4.length < 2199023255552 then (some (a0_0, a0_1, a0_2, a0_3, (D5 ++ l0_4), a0_5)) else (none))) = some (r1, r2, r3, r4, r5, r6) := h
 clear h
 obtain ⟨D5, hy187⟩ : ∃ y_ : List (S49), y_ = (([] : List (S49))) := ⟨_, rfl⟩
 replace H : (if D5.length + l0_4.length < 2199023255552 then (some (a0_0, a0_1, a0_2, a0_3, (D5 ++ l0_4), a0_5)) else (none)) = some (r1, r2, r3, r4, r5, r6) := Cmp.hy hy187 H
 have Df := Cmp.A hy187; clear hy187
 by_cases c2 : D5.length + l0_4.length < 2199023255552
 ·rw [if_pos c2] at H; have LMc2 := Cmp.A c2; clear c2
  obtain ⟨Dd, hy190⟩ : ∃ y_ : List (S49), y_ = (D5 ++ l0_4) := ⟨_, rfl⟩
  replace H : (some (a0_0, a0_1, a0_2, a0_3, Dd, a0_5)) = some (r1, r2, r3, r4, r5, r6) := Cmp.hy hy190 H
  have Dk := Cmp.A hy190; clear hy190
  simp only [Option.some.injEq, Prod.mk.injEq] at H
  obtain ⟨rfl, rfl, rfl, rfl, rfl, rfl⟩ := H
  go_enter Tryd.func17, Tryd.ntmps17
  go_wp2_with (first | ((with_reducible refine gate_dst (N := 1) rfl ?_); refine box_event ?hg (N := 1) ?hd (cs := #[.int .i64 a0_0, .int .i64 a0_1, .int .i64 a0_2, .int .i64 a0_3, .slice A0_4 l0_4.length c0_4, .int .i64 a0_5]) (t := 34) ?hr ?_; (case hd => rfl); (case hg => rfl); (case hr => first | (go_simp; done) | (go_simp; rfl)); intro Dl hg w3 hbox hb; have D0 := Cmp.A (hbox); have Fe := Cmp.gw hg HB; have Fb := Cmp.gw hg HB; replace HB := Cmp.bs HB hb; clear hb hbox hg) | ((with_reducible refine gate_dst (N := 2) rfl ?_); refine box_event ?hg (N := 2) ?hd (cs := #[.int .i64 0, .int .i64 0, .int .i64 0, .int .i64 0, .slice none 0 0, .int .i64 0]) (t := 34) ?hr ?_; (case hd => rfl); (case hg => rfl); (case hr => first | (go_simp; done) | (go_simp; rfl)); intro D3 hg w4 hbox hb; have D2 := Cmp.A (hbox); have Ff := Cmp.gw hg HB; have Fc := Cmp.gw hg HB; have D6 := Cmp.nl hg D0; have D8 := Cmp.ng hg D0; replace D0 := Cmp.be D0 hb; replace HB := Cmp.bs HB hb; clear hb hbox hg; have Fh := D6.out; have Fk := D8.out; obtain ⟨Ez, F0, F1, F2, F3, F4⟩ := Cmp.q6 D0; obtain ⟨F5, F6, F7, F8, F9, Fa⟩ := Cmp.f6 D0) | ((with_reducible refine gate_dst (N := 3) rfl ?_); refine box_event ?hg (N := 3) ?hd (cs := #[.int .i64 0, .int .i64 0, .int .i64 0, .int .i64 0, .slice none 0 0, .int .i64 0]) (t := 34) ?hr ?_; (case hd => rfl); (case hg => rfl); (case hr => first | (go_simp; done) | (go_simp; rfl)); intro Dg hg w7 hbox hb; have D1 := Cmp.A (hbox); have Fg := Cmp.gw hg HB; have Fd := Cmp.gw hg HB; have D7 := Cmp.nl hg D0; have Da := Cmp.ng hg D0; have D9 := Cmp.nl hg D2; have Db := Cmp.ng hg D2; replace D0 := Cmp.be D0 hb; replace D2 := Cmp.be D2 hb; replace HB := Cmp.bs HB hb; clear hb hbox hg; have Fi := Da.out; have Fl := D7.out; have Fj := Db.out; have Fm := D9.out; obtain ⟨Dm, Dn, Do, Dp, Dq, Dr⟩ := Cmp.q6 D1; obtain ⟨Ea, Eb, Ec, Ed, Ee, Ef⟩ := Cmp.f6 D1) | ((with_reducible refine gate_dst (N := 5) rfl ?_); refine Kd.R_lit k49 _ 49 ?hg (N := 5) ?hd (xs := ([] : List (S49))) (inner := []) (ok := fun _ => True) (okp := fun _ => True) ?hr ?hp (fun _ hk => hk) trivial (Below.refl _ _) (Nat.le_refl _) (by simp) ?_; (case hd => rfl); (case hg => rfl); (case hr => first | (go_simp; done) | (go_simp; rfl)); (case hp => exact (Reps.none _ _)); intro v188 w11 Dc hb hg_ hnew_; clear hg_ hnew_; (first | rw [← Df.out] at Dc | (simp only [Int.reduceToNat] at Dc; rw [← Df.out] at Dc)); have D4 := Cmp.A (Kd.R_lower Dc (below_size (Cmp.g HB.out))); replace D0 := Cmp.A (blk_below (g := Dl) (o := .cells #[.int .i64 a0_0, .int .i64 a0_1, .int .i64 a0_2, .int .i64 a0_3, .slice A0_4 l0_4.length c0_4, .int .i64 a0_5] 34 (0, 0)) (Cmp.bw D0.out) hb); replace D2 := Cmp.A (blk_below (g := D3) (o := .cells #[.int .i64 0, .int .i64 0, .int .i64 0, .int .i64 0, .slice none 0 0, .int .i64 0] 34 (0, 0)) (Cmp.bw D2.out) hb); replace D1 := Cmp.A (blk_below (g := Dg) (o := .cells #[.int .i64 a0_0, .int .i64 a0_1, .int .i64 a0_2, .int .i64 a0_3, .slice A0_4 l0_4.length c0_4, .int .i64 a0_5] 34 (0, 0)) (Cmp.bw D1.out) hb); replace HB := Cmp.bs HB hb; clear hb Dc; obtain ⟨Ds, Dt, Du, Dv, Dw, Dx⟩ := Cmp.q6 D0; obtain ⟨Eg, Eh, Ei, Ej, Ek, El⟩ := Cmp.f6 D0) | ((with_reducible refine gate_builtin (b := .append) (xs := #[.tmp 5, .tmp 7]) rfl ?_); at_builtin; refine Kd.R_append_rows k49 (w0 := w) w.heap.size rfl (.tmp 5) (.tmp 7) 32 49 (.agg #[(.bool false), (.string ⟨#[]⟩), (.int .i64 0), (.bool false), (.string ⟨#[]⟩), (.int .i64 0)]) 64 rfl Tryd.underlying32 info49 rfl (by decide) (by omega) v188 D5 l0_4 _ _ _ (fun _ => True) (fun _ => False) rfl rfl ?aO ?aR (fun _ _ h => h) (fun _ h => h.elim) ?aF ?aB ?aS ?aL ?_; (case aR => repeat (first | exact (Kd.C_below Dj.out HB.out) | (with_reducible refine Kd.C_alloc ?_ _) | (with_reducible refine Kd.C_drewN ?_ _) | (with_reducible refine Kd.C_drew ?_))); (case aB => exact (Cmp.g HB.out)); (case aF => exact (fun _ _ => trivial)); (case aO => exact (Cmp.rr D4.out)); (case aS => exact (below_size (Cmp.g HB.out))); (case aL => have := LMc2.out; omega); intro v191 w14 ho hb hg hat; rw [← Dk.out] at ho; have De := Cmp.A (ho); replace D0 := Cmp.bg D0 hg (Kd.R_ne D4.out D0.out (by decide)); replace D2 := Cmp.bg D2 hg (Kd.R_ne D4.out D2.out (by decide)); replace D1 := Cmp.bg D1 hg (Kd.R_ne D4.out D1.out (by decide)); replace HB := Cmp.A (hb); clear D4; clear ho hb hg hat; obtain ⟨Dh, Di, Ey⟩ := Kd.R_slice De.out; subst Ey; obtain ⟨Dy, Dz, E0, E1, E2, E3⟩ := Cmp.q6 D1; obtain ⟨Em, En, Eo, Ep, Eq, Er⟩ := Cmp.f6 D1; obtain ⟨E4, E5, E6, E7, E8, E9⟩ := Cmp.q6 D2; obtain ⟨Es, Et, Eu, Ev, Ew, Ex⟩ := Cmp.f6 D2))
  refine bodyPost_ret (results_cell_row rfl _ _ D3 34 #[.int .i64 a0_0, .int .i64 a0_1, .int .i64 a0_2, .int .i64 a0_3, .slice Dh Dd.length Di, .int .i64 a0_5] (0, 0) _ rfl (Cmp.bw D2.out) Tryd.underlying34 rfl (by kernel_rfl)) rfl ?_
  exact ⟨_, by first | rfl | (simp [errW_none, errW_some] <;> rfl) | (simp [*, errW_none, errW_some] <;> rfl), by (with_reducible repeat (first | apply Kd.R_alloc | apply Kd.R_drewN | apply Kd.R_drew)); exact Kd.R_mono (Kd.R_far (p := ⟨D3, 5, none⟩) (Kd.R_far (p := ⟨D3, 4, none⟩) (Kd.R_far (p := ⟨D3, 3, none⟩) (Kd.R_far (p := ⟨D3, 2, none⟩) (Kd.R_far (p := ⟨D3, 1, none⟩) (Kd.R_far (p := ⟨D3, 0, none⟩) (Kd.R_far (p := ⟨Dg, 4, none⟩) (Kd.R_types (Kd.R_types De.out D1.out (by decide)) D2.out (by decide)) (fun _ hk => hk.1.2) (.slice Dh Dd.length Di)) (fun _ hk => hk.2) (.int .i64 a0_0)) (fun _ hk => hk.2) (.int .i64 a0_1)) (fun _ hk => hk.2) (.int .i64 a0_2)) (fun _ hk => hk.2) (.int .i64 a0_3)) (fun _ hk => hk.2) (.slice Dh Dd.length Di)) (fun _ hk => hk.2) (.int .i64 a0_5)) (fun _ hk => trivial), Cmp.g HB.out⟩
 ·rw [if_neg c2] at H; exact absurd H (by simp)
/-! ### spec_l1In: function 27 -/
def spec_l1In.f (a0 : Int) (a1 : Int) (a2 : Int) : Option (Bool) := if a0 ≥ a1 then (some (decide (a0 ≤ a2))) else (some false)
set_option maxHeartbeats 8000000 in
set_option maxRecDepth 100000 in
theorem spec_l1In.calls (a0 : Int) (a1 : Int) (a2 : Int) (r : Bool) (w : World) (h : spec_l1In.f a0 a1 a2 = some r) :
    Calls Tryd.prog 27 #[.int .i64 a0, .int .i64 a1, .int .i64 a2] w fun e w' => e = .returned (.bool r) ∧ Drawn0 w w' := by
 have H : (if a0 ≥ a1 then (some (decide (a0 ≤ a2))) else (some false)) = some r := h
 clear h
 by_cases c4 : a0 ≥ a1
 ·rw [if_pos c4] at H; have c4b0 : decide (a1 ≤ a0) = true := decide_eq_true c4; clear c4
  obtain rfl := Option.some.inj H
  go_enter Tryd.func27, Tryd.ntmps27
  go_wp2
  go_ret
  exact ⟨by first | rfl | (simp; done) | (simp [*]; done), by repeat (first | exact Drawn0.refl _ | apply Drawn0.step)⟩
 ·rw [if_neg c4] at H; have c4b0 : decide (a1 ≤ a0) = false := decide_eq_false c4; clear c4
  obtain rfl := Option.some.inj H
  go_enter Tryd.func27, Tryd.ntmps27
  go_wp2
  go_ret
  exact ⟨by first | rfl | (simp; done) | (simp [*]; done), by repeat (first | exact Drawn0.refl _ | apply Drawn0.step)⟩
/-! ### spec_l9Labels: function 35 -/
def spec_l9Labels.l0 : Nat → ByteArray → List ByteArray → Int → Int → Option (List ByteArray)
  | 0, _, _, _, _ => none
  | k + 1, x0, x3, x4, x5 => if x5 ≤ (x0.size : Int) then (if x5 = (x0.size : Int) then (if 0 ≤ x4 then (if x4 ≤ x5 then (if x3.length < 8796093022208 then (spec_l9Labels.l0 k x0 (x3 ++ [x0.extract (x4 : Int).toNat (x5 : Int).toNat]) (wrap64 (x5 + 1)) (wrap64 (x5 + 1))) else (none)) else (none)) else (none)) else (if 0 ≤ x5 then (if x5 < (x0.size : Int) then (if (bt x0 x5) = 46 then (if 0 ≤ x4 then (if x4 ≤ x5 then (if x3.length < 8796093022208 then (spec_l9Labels.l0 k x0 (x3 ++ [x0.extract (x4 : Int).toNat (x5 : Int).toNat]) (wrap64 (x5 + 1)) (wrap64 (x5 + 1))) else (none)) else (none)) else (none)) else (spec_l9Labels.l0 k x0 x3 x4 (wrap64 (x5 + 1)))) else (none)) else (none))) else (some x3)
def spec_l9Labels.f (k : Nat) (a0 : ByteArray) : Option (List ByteArray) := spec_l9Labels.l0 k a0 (([] : List ByteArray)) 0 0
theorem spec_l9Labels.mono_l : ∀ k, (∀ y0 y1 y2 y3, LeO (spec_l9Labels.l0 k y0 y1 y2 y3) (spec_l9Labels.l0 (k + 1) y0 y1 y2 y3))
 | 0 => fun _ _ _ _ r h => by simp [spec_l9Labels.l0] at h
 | k + 1 => by
    have ih0 := spec_l9Labels.mono_l k
    · intro y0 y1 y2 y3
      unfold spec_l9Labels.l0
      repeat' first
 | (with_reducible exact ih0 _ _ _ _)
 | (with_reducible exact LeO.refl _)
 | (with_reducible exact LeO.none _)
 | (with_reducible refine LeO.ite ?_ ?_)
 | (with_reducible refine LeO.bind ?_ (fun _ => ?_))
theorem spec_l9Labels.mono : ∀ a0 k, LeO (spec_l9Labels.f k a0) (spec_l9Labels.f (k + 1) a0) := by
  intro a0 k
  have ih0 := spec_l9Labels.mono_l k
  unfold spec_l9Labels.f
  repeat' first
 | (with_reducible exact ih0 _ _ _ _)
 | (with_reducible exact LeO.refl _)
 | (with_reducible exact LeO.none _)
 | (with_reducible refine LeO.ite ?_ ?_)
 | (with_reducible refine LeO.bind ?_ (fun _ => ?_))
set_option maxHeartbeats 8000000 in
set_option maxRecDepth 100000 in
theorem spec_l9Labels.calls (k : Nat) (a0 : ByteArray) (r : List ByteArray) (w : World) (h : spec_l9Labels.f k a0 = some r) :
    Calls Tryd.prog 35 #[.string a0] w fun e w' => ∃ v0_ : Value, e = .returned (v0_) ∧ Kd.R Kd.string 9 w' w.heap.size (fun _ => True) v0_ r ∧ Below w.heap.size w w' := by
 have HB := Cmp.A (Below.refl w.heap.size w)
 have H : (spec_l9Labels.l0 k a0 (([] : List ByteArray)) 0 0) = some r := h
 clear h
 obtain ⟨Db, hy193⟩ : ∃ y_ : List ByteArray, y_ = (([] : List ByteArray)) := ⟨_, rfl⟩
 replace H : (spec_l9Labels.l0 k a0 Db 0 0) = some r := Cmp.hy hy193 H
 have D4 := Cmp.A hy193; clear hy193
 have H' := Cmp.A H
 clear H
 go_enter Tryd.func35, Tryd.ntmps35
 go_wp2_with (first | ((with_reducible refine gate_dst (N := 6) rfl ?_); refine Kd.R_lit Kd.string _ 9 ?hg (N := 6) ?hd (xs := ([] : List ByteArray)) (inner := []) (ok := fun _ => True) (okp := fun _ => True) ?hr ?hp (fun _ hk => hk) trivial (Below.refl _ _) (Nat.le_refl _) (by simp) ?_; (case hd => rfl); (case hg => rfl); (case hr => first | (go_simp; done) | (go_simp; rfl)); (case hp => exact (Reps.none _ _)); intro v194 w2 Da hb hg_ hnew_; clear hg_ hnew_; (first | rw [← D4.out] at Da | (simp only [Int.reduceToNat] at Da; rw [← D4.out] at Da)); have D5 := Cmp.A (Kd.R_lower Da (below_size (Cmp.g HB.out))); replace HB := Cmp.bs HB hb; clear hb Da))
 go_loopg [3, 4, 5] k (fun kq v3 v4 v5 w' => ∃ (D2 : List ByteArray) (D1 : Int) (D0 : Int), v4 = .int .i64 D1 ∧ v5 = .int .i64 D0 ∧ Aside0 (spec_l9Labels.l0 kq a0 D2 D1 D0 = some r) ∧ Aside0 (kq ≤ k) ∧ Aside0 (Kd.R Kd.string 9 w' w.heap.size (fun _ => True) v3 D2) ∧ Aside0 (Below w.heap.size w w'))
 case atStart => exact ⟨(Db), (0), (0), (by first | rfl | simp | simp [*]), (by first | rfl | simp | simp [*]), H', ⟨Nat.le_refl _⟩, ⟨Cmp.rr D5.out⟩, ⟨Cmp.g HB.out⟩⟩
 case round =>
  clear H'
  (try clear p2); (try clear c3)
  obtain ⟨D2, D1, D0, rfl, rfl, HA, HK1, D3, HB⟩ := hrel
  cases gk with
  | zero => exact absurd HA.out (by simp [spec_l9Labels.l0])
  | succ k1 =>
   have H := HA.out; clear HA
   simp only [spec_l9Labels.l0] at H
   by_cases c4 : D0 ≤ (a0.size : Int)
   ·rw [if_pos c4] at H
    have c4b0 : decide (D0 ≤ (a0.size : Int)) = true := decide_eq_true c4
    clear c4
    by_cases c5 : D0 = (a0.size : Int)
    ·rw [if_pos c5] at H
     have c5b0 : (D0 == (a0.size : Int)) = true := beq_iff_eq.mpr c5
     have c5b1 : (D0 != (a0.size : Int)) = false := bne_eq_false_iff_eq.mpr c5
     clear c5
     by_cases c6 : 0 ≤ D1
     ·rw [if_pos c6] at H
      have c6b0 := eq_true c6
      have c6b1 : decide (0 ≤ D1) = true := decide_eq_true c6; clear c6
      by_cases c7 : D1 ≤ D0
      ·rw [if_pos c7] at H
       have c7b0 := eq_true c7
       have c7b1 : decide (D1 ≤ D0) = true := decide_eq_true c7; clear c7
       have c8b0 := eq_true (of_decide_eq_true Cmp.d : D0 ≤ (a0.size : Int))
       by_cases c9 : D2.length < 8796093022208
       ·rw [if_pos c9] at H; have LMc9 := Cmp.A c9; clear c9
        obtain ⟨Dc, hy196⟩ : ∃ y_ : List ByteArray, y_ = (D2 ++ [a0.extract (D1 : Int).toNat (D0 : Int).toNat]) := ⟨_, rfl⟩
        replace H : (spec_l9Labels.l0 k1 a0 Dc (wrap64 (D0 + 1)) (wrap64 (D0 + 1))) = some r := Cmp.hy hy196 H
        have D8 := Cmp.A hy196; clear hy196
        have H' := Cmp.A H
        clear H
        go_wp2_with (first | ((with_reducible refine gate_builtin (b := .append) (xs := #[.tmp 23, .tmp 28]) rfl ?_); at_builtin; refine Kd.R_append Kd.string (w0 := w) w.heap.size rfl (.tmp 23) (.tmp 28) 63 9 (.string ⟨#[]⟩) 16 rfl Tryd.underlying63 info9 rfl (by decide) (by omega) u3 D2 (a0.extract (D1 : Int).toNat (D0 : Int).toNat) [.string (a0.extract (D1 : Int).toNat (D0 : Int).toNat)] (fun _ => True) (fun _ => False) rfl rfl ?aP (fun _ hk => hk.elim) ?aF ?aO ?aB ?aS ?aL ?_; (case aP => exact rfl); (case aB => exact (Cmp.g HB.out)); (case aF => exact (fun _ _ => trivial)); (case aO => exact (Cmp.rr D3.out)); (case aS => exact (below_size (Cmp.g HB.out))); (case aL => have := LMc9.out; omega); intro v197 w10 ho hb hg hat; rw [← D8.out] at ho; have D6 := Cmp.A (ho); replace HB := Cmp.A (hb); clear D3; clear ho hb hg hat))
        go_roundg k1
        case measure => have := HK1.out; omega
        case rel => exact ⟨(Dc), (wrap64 (D0 + 1)), (wrap64 (D0 + 1)), (by first | rfl | simp | simp [*]), (by first | rfl | simp | simp [*]), H', ⟨by have := HK1.out; omega⟩, ⟨Cmp.rr D6.out⟩, ⟨Cmp.g HB.out⟩⟩
       ·rw [if_neg c9] at H; exact absurd H (by simp)
      ·rw [if_neg c7] at H; exact absurd H (by simp)
     ·rw [if_neg c6] at H; exact absurd H (by simp)
    ·rw [if_neg c5] at H
     have c5b0 : (D0 == (a0.size : Int)) = false := beq_eq_false_iff_ne.mpr c5
     have c5b1 : (D0 != (a0.size : Int)) = true := bne_iff_ne.mpr c5
     by_cases c11 : 0 ≤ D0
     ·rw [if_pos c11] at H; have c11b0 : decide (0 ≤ D0) = true := decide_eq_true c11; clear c11
      by_cases c12 : D0 < (a0.size : Int)
      ·rw [if_pos c12] at H
       have c12b0 : decide (D0 < (a0.size : Int)) = true := decide_eq_true c12
       clear c12
       by_cases c14 : (bt a0 D0) = 46
       ·rw [if_pos c14] at H; have c14b0 : ((bt a0 D0) == 46) = true := beq_iff_eq.mpr c14; have c14b1 : ((bt a0 D0) != 46) = false := bne_eq_false_iff_eq.mpr c14; clear c14
        by_cases c15 : 0 ≤ D1
        ·rw [if_pos c15] at H
         have c15b0 := eq_true c15
         have c15b1 : decide (0 ≤ D1) = true := decide_eq_true c15; clear c15
         by_cases c16 : D1 ≤ D0
         ·rw [if_pos c16] at H
          have c16b0 := eq_true c16
          have c16b1 : decide (D1 ≤ D0) = true := decide_eq_true c16; clear c16
          have c17b0 := eq_true (of_decide_eq_true Cmp.d : D0 ≤ (a0.size : Int))
          by_cases c18 : D2.length < 8796093022208
          ·rw [if_pos c18] at H; have LMc18 := Cmp.A c18; clear c18
           obtain ⟨Dd, hy199⟩ : ∃ y_ : List ByteArray, y_ = (D2 ++ [a0.extract (D1 : Int).toNat (D0 : Int).toNat]) := ⟨_, rfl⟩
           replace H : (spec_l9Labels.l0 k1 a0 Dd (wrap64 (D0 + 1)) (wrap64 (D0 + 1))) = some r := Cmp.hy hy199 H
           have D9 := Cmp.A hy199; clear hy199
           have H' := Cmp.A H
           clear H
           have p13 : 0 ≤ (D0 : Int) := of_decide_eq_true Cmp.d
           have q13 : D0 < (a0.size : Int) := of_decide_eq_true Cmp.d
           have hx13 := bt_at a0 D0
           replace p13 := eq_true p13; replace q13 := eq_true q13
           go_wp2_with (first | ((with_reducible refine gate_builtin (b := .append) (xs := #[.tmp 23, .tmp 28]) rfl ?_); at_builtin; refine Kd.R_append Kd.string (w0 := w) w.heap.size rfl (.tmp 23) (.tmp 28) 63 9 (.string ⟨#[]⟩) 16 rfl Tryd.underlying63 info9 rfl (by decide) (by omega) u3 D2 (a0.extract (D1 : Int).toNat (D0 : Int).toNat) [.string (a0.extract (D1 : Int).toNat (D0 : Int).toNat)] (fun _ => True) (fun _ => False) rfl rfl ?aP (fun _ hk => hk.elim) ?aF ?aO ?aB ?aS ?aL ?_; (case aP => exact rfl); (case aB => exact (Cmp.g HB.out)); (case aF => exact (fun _ _ => trivial)); (case aO => exact (Cmp.rr D3.out)); (case aS => exact (below_size (Cmp.g HB.out))); (case aL => have := LMc18.out; omega); intro v200 w19 ho hb hg hat; rw [← D9.out] at ho; have D7 := Cmp.A (ho); replace HB := Cmp.A (hb); clear D3; clear ho hb hg hat))
           go_roundg k1
           case measure => have := HK1.out; omega
           case rel => exact ⟨(Dd), (wrap64 (D0 + 1)), (wrap64 (D0 + 1)), (by first | rfl | simp | simp [*]), (by first | rfl | simp | simp [*]), H', ⟨by have := HK1.out; omega⟩, ⟨Cmp.rr D7.out⟩, ⟨Cmp.g HB.out⟩⟩
          ·rw [if_neg c18] at H; exact absurd H (by simp)
         ·rw [if_neg c16] at H; exact absurd H (by simp)
        ·rw [if_neg c15] at H; exact absurd H (by simp)
       ·rw [if_neg c14] at H; have c14b0 : ((bt a0 D0) == 46) = false := beq_eq_false_iff_ne.mpr c14; have c14b1 : ((bt a0 D0) != 46) = true := bne_iff_ne.mpr c14
        have H' := Cmp.A H
        clear H
        have p13 : 0 ≤ (D0 : Int) := of_decide_eq_true Cmp.d
        have q13 : D0 < (a0.size : Int) := of_decide_eq_true Cmp.d
        have hx13 := bt_at a0 D0
        replace p13 := eq_true p13; replace q13 := eq_true q13
        go_wp2
        go_roundg k1
        case measure => have := HK1.out; omega
        case rel => exact ⟨(D2), (D1), (wrap64 (D0 + 1)), (by first | rfl | simp | simp [*]), (by first | rfl | simp | simp [*]), H', ⟨by have := HK1.out; omega⟩, ⟨Cmp.rr D3.out⟩, ⟨Cmp.g HB.out⟩⟩
      ·rw [if_neg c12] at H; exact absurd H (by simp)
     ·rw [if_neg c11] at H; exact absurd H (by simp)
   ·rw [if_neg c4] at H
    have c4b0 : decide (D0 ≤ (a0.size : Int)) = false := decide_eq_false c4
    clear c4
    obtain rfl := Option.some.inj H
    go_wp2
    go_ret
    exact ⟨_, by first | rfl | (simp [errW_none, errW_some] <;> rfl) | (simp [*, errW_none, errW_some] <;> rfl), by (with_reducible repeat (first | apply Kd.R_alloc | apply Kd.R_drewN | apply Kd.R_drew)); exact D3.out, Cmp.g HB.out⟩
/-! ### spec_l9Label: function 36 -/
def spec_l9Label.l0 : Nat → ByteArray → Int → Option (Bool)
  | 0, _, _ => none
  | k + 1, x0, x3 => if x3 < (x0.size : Int) then (if 0 ≤ x3 then (if (bt x0 x3) ≥ 97 then (if (bt x0 x3) ≤ 122 then (spec_l9Label.l0 k x0 (wrap64 (x3 + 1))) else (if (bt x0 x3) ≥ 48 then (if (bt x0 x3) ≤ 57 then (spec_l9Label.l0 k x0 (wrap64 (x3 + 1))) else (if ((bt x0 x3) = 45) then (spec_l9Label.l0 k x0 (wrap64 (x3 + 1))) else (some false))) else (if ((bt x0 x3) = 45) then (spec_l9Label.l0 k x0 (wrap64 (x3 + 1))) else (some false)))) else (if (bt x0 x3) ≥ 48 then (if (bt x0 x3) ≤ 57 then (spec_l9Label.l0 k x0 (wrap64 (x3 + 1))) else (if ((bt x0 x3) = 45) then (spec_l9Label.l0 k x0 (wrap64 (x3 + 1))) else (some false))) else (if ((bt x0 x3) = 45) then (spec_l9Label.l0 k x0 (wrap64 (x3 + 1))) else (some false)))) else (none)) else ((spec_l1In.f (x0.size : Int) 1 20).bind fun t202 => (if t202 = true then (if 0 < (x0.size : Int) then (if (bt x0 0) = 45 then (some false) else (if 0 ≤ (wrap64 ((x0.size : Int) - 1)) then (if (wrap64 ((x0.size : Int) - 1)) < (x0.size : Int) then (some ((bt x0 (wrap64 ((x0.size : Int) - 1))) != 45)) else (none)) else (none))) else (none)) else (some false)))
def spec_l9Label.f (k : Nat) (a0 : ByteArray) : Option (Bool) := spec_l9Label.l0 k a0 0
theorem spec_l9Label.mono_l : ∀ k, (∀ y0 y1, LeO (spec_l9Label.l0 k y0 y1) (spec_l9Label.l0 (k + 1) y0 y1))
 | 0 => fun _ _ r h => by simp [spec_l9Label.l0] at h
 | k + 1 => by
    have ih0 := spec_l9Label.mono_l k
    · intro y0 y1
      unfold spec_l9Label.l0
      repeat' first
 | (with_reducible exact ih0 _ _)
 | (with_reducible exact LeO.refl _)
 | (with_reducible exact LeO.none _)
 | (with_reducible refine LeO.ite ?_ ?_)
 | (with_reducible refine LeO.bind ?_ (fun _ => ?_))
theorem spec_l9Label.mono : ∀ a0 k, LeO (spec_l9Label.f k a0) (spec_l9Label.f (k + 1) a0) := by
  intro a0 k
  have ih0 := spec_l9Label.mono_l k
  unfold spec_l9Label.f
  repeat' first
 | (with_reducible exact ih0 _ _)
 | (with_reducible exact LeO.refl _)
 | (with_reducible exact LeO.none _)
 | (with_reducible refine LeO.ite ?_ ?_)
 | (with_reducible refine LeO.bind ?_ (fun _ => ?_))
set_option maxHeartbeats 8000000 in
set_option maxRecDepth 100000 in
theorem spec_l9Label.calls (k : Nat) (a0 : ByteArray) (r : Bool) (w : World) (h : spec_l9Label.f k a0 = some r) :
    Calls Tryd.prog 36 #[.string a0] w fun e w' => e = .returned (.bool r) ∧ Drawn0 w w' := by
 have H : (spec_l9Label.l0 k a0 0) = some r := h
 clear h
 have H' := Cmp.A H
 clear H
 go_enter Tryd.func36, Tryd.ntmps36
 go_wp2
 go_loopg [3] k (fun kq v3 w' => ∃ (D0 : Int), v3 = .int .i64 D0 ∧ Aside0 (spec_l9Label.l0 kq a0 D0 = some r) ∧ Aside0 (kq ≤ k) ∧ Drawn0 w w')
 case atStart => exact ⟨(0), (by first | rfl | simp | simp [*]), H', ⟨Nat.le_refl _⟩, by repeat (first | exact Drawn0.refl _ | apply Drawn0.step)⟩
 case round =>
  clear H'
  obtain ⟨D0, rfl, HA, HK1, ⟨m1, rfl⟩⟩ := hrel
  cases gk with
  | zero => exact absurd HA.out (by simp [spec_l9Label.l0])
  | succ k1 =>
   have H := HA.out; clear HA
   simp only [spec_l9Label.l0] at H
   by_cases c2 : D0 < (a0.size : Int)
   ·rw [if_pos c2] at H
    have c2b0 : decide (D0 < (a0.size : Int)) = true := decide_eq_true c2
    clear c2
    by_cases c3 : 0 ≤ D0
    ·rw [if_pos c3] at H; have c3b0 : decide (0 ≤ D0) = true := decide_eq_true c3; clear c3
     by_cases c5 : (bt a0 D0) ≥ 97
     ·rw [if_pos c5] at H; have c5b0 : decide (97 ≤ (bt a0 D0)) = true := decide_eq_true c5; clear c5
      by_cases c7 : (bt a0 D0) ≤ 122
      ·rw [if_pos c7] at H; have c7b0 : decide ((bt a0 D0) ≤ 122) = true := decide_eq_true c7; clear c7
       have H' := Cmp.A H
       clear H
       have p4 : 0 ≤ (D0 : Int) := of_decide_eq_true Cmp.d
       have q4 : D0 < (a0.size : Int) := of_decide_eq_true Cmp.d
       have hx4 := bt_at a0 D0
       replace p4 := eq_true p4; replace q4 := eq_true q4
       have p6 : 0 ≤ (D0 : Int) := of_decide_eq_true Cmp.d
       have q6 : D0 < (a0.size : Int) := of_decide_eq_true Cmp.d
       have hx6 := bt_at a0 D0
       replace p6 := eq_true p6; replace q6 := eq_true q6
       go_wp2
       go_roundg k1
       case measure => have := HK1.out; omega
       case rel => exact ⟨(wrap64 (D0 + 1)), (by first | rfl | simp | simp [*]), H', ⟨by have := HK1.out; omega⟩, by repeat (first | exact Drawn0.refl _ | apply Drawn0.step)⟩
      ·rw [if_neg c7] at H; have c7b0 : decide ((bt a0 D0) ≤ 122) = false := decide_eq_false c7; clear c7
       by_cases c9 : (bt a0 D0) ≥ 48
       ·rw [if_pos c9] at H; have c9b0 : decide (48 ≤ (bt a0 D0)) = true := decide_eq_true c9; clear c9
        by_cases c11 : (bt a0 D0) ≤ 57
        ·rw [if_pos c11] at H; have c11b0 : decide ((bt a0 D0) ≤ 57) = true := decide_eq_true c11; clear c11
         have H' := Cmp.A H
         clear H
         have p4 : 0 ≤ (D0 : Int) := of_decide_eq_true Cmp.d
         have q4 : D0 < (a0.size : Int) := of_decide_eq_true Cmp.d
         have hx4 := bt_at a0 D0
         replace p4 := eq_true p4; replace q4 := eq_true q4
         have p6 : 0 ≤ (D0 : Int) := of_decide_eq_true Cmp.d
         have q6 : D0 < (a0.size : Int) := of_decide_eq_true Cmp.d
         have hx6 := bt_at a0 D0
         replace p6 := eq_true p6; replace q6 := eq_true q6
         have p8 : 0 ≤ (D0 : Int) := of_decide_eq_true Cmp.d
         have q8 : D0 < (a0.size : Int) := of_decide_eq_true Cmp.d
         have hx8 := bt_at a0 D0
         replace p8 := eq_true p8; replace q8 := eq_true q8
         have p10 : 0 ≤ (D0 : Int) := of_decide_eq_true Cmp.d
         have q10 : D0 < (a0.size : Int) := of_decide_eq_true Cmp.d
         have hx10 := bt_at a0 D0
         replace p10 := eq_true p10; replace q10 := eq_true q10
         go_wp2
         go_roundg k1
         case measure => have := HK1.out; omega
         case rel => exact ⟨(wrap64 (D0 + 1)), (by first | rfl | simp | simp [*]), H', ⟨by have := HK1.out; omega⟩, by repeat (first | exact Drawn0.refl _ | apply Drawn0.step)⟩
        ·rw [if_neg c11] at H; have c11b0 : decide ((bt a0 D0) ≤ 57) = false := decide_eq_false c11; clear c11
         by_cases c13 : ((bt a0 D0) = 45)
         ·rw [if_pos c13] at H; have c13b0 : ((bt a0 D0) == 45) = true := beq_iff_eq.mpr c13; have c13b1 : ((bt a0 D0) != 45) = false := bne_eq_false_iff_eq.mpr c13; clear c13
          have H' := Cmp.A H
          clear H
          have p4 : 0 ≤ (D0 : Int) := of_decide_eq_true Cmp.d
          have q4 : D0 < (a0.size : Int) := of_decide_eq_true Cmp.d
          have hx4 := bt_at a0 D0
          replace p4 := eq_true p4; replace q4 := eq_true q4
          have p6 : 0 ≤ (D0 : Int) := of_decide_eq_true Cmp.d
          have q6 : D0 < (a0.size : Int) := of_decide_eq_true Cmp.d
          have hx6 := bt_at a0 D0
          replace p6 := eq_true p6; replace q6 := eq_true q6
          have p8 : 0 ≤ (D0 : Int) := of_decide_eq_true Cmp.d
          have q8 : D0 < (a0.size : Int) := of_decide_eq_true Cmp.d
          have hx8 := bt_at a0 D0
          replace p8 := eq_true p8; replace q8 := eq_true q8
          have p10 : 0 ≤ (D0 : Int) := of_decide_eq_true Cmp.d
          have q10 : D0 < (a0.size : Int) := of_decide_eq_true Cmp.d
          have hx10 := bt_at a0 D0
          replace p10 := eq_true p10; replace q10 := eq_true q10
          have p12 : 0 ≤ (D0 : Int) := of_decide_eq_true Cmp.d
          have q12 : D0 < (a0.size : Int) := of_decide_eq_true Cmp.d
          have hx12 := bt_at a0 D0
          replace p12 := eq_true p12; replace q12 := eq_true q12
          go_wp2
          go_roundg k1
          case measure => have := HK1.out; omega
          case rel => exact ⟨(wrap64 (D0 + 1)), (by first | rfl | simp | simp [*]), H', ⟨by have := HK1.out; omega⟩, by repeat (first | exact Drawn0.refl _ | apply Drawn0.step)⟩
         ·rw [if_neg c13] at H; have c13b0 : ((bt a0 D0) == 45) = false := beq_eq_false_iff_ne.mpr c13; have c13b1 : ((bt a0 D0) != 45) = true := bne_iff_ne.mpr c13
          obtain rfl := Option.some.inj H
          have p4 : 0 ≤ (D0 : Int) := of_decide_eq_true Cmp.d
          have q4 : D0 < (a0.size : Int) := of_decide_eq_true Cmp.d
          have hx4 := bt_at a0 D0
          replace p4 := eq_true p4; replace q4 := eq_true q4
          have p6 : 0 ≤ (D0 : Int) := of_decide_eq_true Cmp.d
          have q6 : D0 < (a0.size : Int) := of_decide_eq_true Cmp.d
          have hx6 := bt_at a0 D0
          replace p6 := eq_true p6; replace q6 := eq_true q6
          have p8 : 0 ≤ (D0 : Int) := of_decide_eq_true Cmp.d
          have q8 : D0 < (a0.size : Int) := of_decide_eq_true Cmp.d
          have hx8 := bt_at a0 D0
          replace p8 := eq_true p8; replace q8 := eq_true q8
          have p10 : 0 ≤ (D0 : Int) := of_decide_eq_true Cmp.d
          have q10 : D0 < (a0.size : Int) := of_decide_eq_true Cmp.d
          have hx10 := bt_at a0 D0
          replace p10 := eq_true p10; replace q10 := eq_true q10
          have p12 : 0 ≤ (D0 : Int) := of_decide_eq_true Cmp.d
          have q12 : D0 < (a0.size : Int) := of_decide_eq_true Cmp.d
          have hx12 := bt_at a0 D0
          replace p12 := eq_true p12; replace q12 := eq_true q12
          go_wp2
          go_ret
          exact ⟨by first | rfl | (simp; done) | (simp [*]; done), by repeat (first | exact Drawn0.refl _ | apply Drawn0.step)⟩
       ·rw [if_neg c9] at H; have c9b0 : decide (48 ≤ (bt a0 D0)) = false := decide_eq_false c9; clear c9
        by_cases c15 : ((bt a0 D0) = 45)
        ·rw [if_pos c15] at H; have c15b0 : ((bt a0 D0) == 45) = true := beq_iff_eq.mpr c15; have c15b1 : ((bt a0 D0) != 45) = false := bne_eq_false_iff_eq.mpr c15; clear c15
         have H' := Cmp.A H
         clear H
         have p4 : 0 ≤ (D0 : Int) := of_decide_eq_true Cmp.d
         have q4 : D0 < (a0.size : Int) := of_decide_eq_true Cmp.d
         have hx4 := bt_at a0 D0
         replace p4 := eq_true p4; replace q4 := eq_true q4
         have p6 : 0 ≤ (D0 : Int) := of_decide_eq_true Cmp.d
         have q6 : D0 < (a0.size : Int) := of_decide_eq_true Cmp.d
         have hx6 := bt_at a0 D0
         replace p6 := eq_true p6; replace q6 := eq_true q6
         have p8 : 0 ≤ (D0 : Int) := of_decide_eq_true Cmp.d
         have q8 : D0 < (a0.size : Int) := of_decide_eq_true Cmp.d
         have hx8 := bt_at a0 D0
         replace p8 := eq_true p8; replace q8 := eq_true q8
         have p14 : 0 ≤ (D0 : Int) := of_decide_eq_true Cmp.d
         have q14 : D0 < (a0.size : Int) := of_decide_eq_true Cmp.d
         have hx14 := bt_at a0 D0
         replace p14 := eq_true p14; replace q14 := eq_true q14
         go_wp2
         go_roundg k1
         case measure => have := HK1.out; omega
         case rel => exact ⟨(wrap64 (D0 + 1)), (by first | rfl | simp | simp [*]), H', ⟨by have := HK1.out; omega⟩, by repeat (first | exact Drawn0.refl _ | apply Drawn0.step)⟩
        ·rw [if_neg c15] at H; have c15b0 : ((bt a0 D0) == 45) = false := beq_eq_false_iff_ne.mpr c15; have c15b1 : ((bt a0 D0) != 45) = true := bne_iff_ne.mpr c15
         obtain rfl := Option.some.inj H
         have p4 : 0 ≤ (D0 : Int) := of_decide_eq_true Cmp.d
         have q4 : D0 < (a0.size : Int) := of_decide_eq_true Cmp.d
         have hx4 := bt_at a0 D0
         replace p4 := eq_true p4; replace q4 := eq_true q4
         have p6 : 0 ≤ (D0 : Int) := of_decide_eq_true Cmp.d
         have q6 : D0 < (a0.size : Int) := of_decide_eq_true Cmp.d
         have hx6 := bt_at a0 D0
         replace p6 := eq_true p6; replace q6 := eq_true q6
         have p8 : 0 ≤ (D0 : Int) := of_decide_eq_true Cmp.d
         have q8 : D0 < (a0.size : Int) := of_decide_eq_true Cmp.d
         have hx8 := bt_at a0 D0
         replace p8 := eq_true p8; replace q8 := eq_true q8
         have p14 : 0 ≤ (D0 : Int) := of_decide_eq_true Cmp.d
         have q14 : D0 < (a0.size : Int) := of_decide_eq_true Cmp.d
         have hx14 := bt_at a0 D0
         replace p14 := eq_true p14; replace q14 := eq_true q14
         go_wp2
         go_ret
         exact ⟨by first | rfl | (simp; done) | (simp [*]; done), by repeat (first | exact Drawn0.refl _ | apply Drawn0.step)⟩
     ·rw [if_neg c5] at H; have c5b0 : decide (97 ≤ (bt a0 D0)) = false := decide_eq_false c5; clear c5
      by_cases c17 : (bt a0 D0) ≥ 48
      ·rw [if_pos c17] at H; have c17b0 : decide (48 ≤ (bt a0 D0)) = true := decide_eq_true c17; clear c17
       by_cases c19 : (bt a0 D0) ≤ 57
       ·rw [if_pos c19] at H; have c19b0 : decide ((bt a0 D0) ≤ 57) = true := decide_eq_true c19; clear c19
        have H' := Cmp.A H
        clear H
        have p4 : 0 ≤ (D0 : Int) := of_decide_eq_true Cmp.d
        have q4 : D0 < (a0.size : Int) := of_decide_eq_true Cmp.d
        have hx4 := bt_at a0 D0
        replace p4 := eq_true p4; replace q4 := eq_true q4
        have p16 : 0 ≤ (D0 : Int) := of_decide_eq_true Cmp.d
        have q16 : D0 < (a0.size : Int) := of_decide_eq_true Cmp.d
        have hx16 := bt_at a0 D0
        replace p16 := eq_true p16; replace q16 := eq_true q16
        have p18 : 0 ≤ (D0 : Int) := of_decide_eq_true Cmp.d
        have q18 : D0 < (a0.size : Int) := of_decide_eq_true Cmp.d
        have hx18 := bt_at a0 D0
        replace p18 := eq_true p18; replace q18 := eq_true q18
        go_wp2
        go_roundg k1
        case measure => have := HK1.out; omega
        case rel => exact ⟨(wrap64 (D0 + 1)), (by first | rfl | simp | simp [*]), H', ⟨by have := HK1.out; omega⟩, by repeat (first | exact Drawn0.refl _ | apply Drawn0.step)⟩
       ·rw [if_neg c19] at H; have c19b0 : decide ((bt a0 D0) ≤ 57) = false := decide_eq_false c19; clear c19
        by_cases c21 : ((bt a0 D0) = 45)
        ·rw [if_pos c21] at H; have c21b0 : ((bt a0 D0) == 45) = true := beq_iff_eq.mpr c21; have c21b1 : ((bt a0 D0) != 45) = false := bne_eq_false_iff_eq.mpr c21; clear c21
         have H' := Cmp.A H
         clear H
         have p4 : 0 ≤ (D0 : Int) := of_decide_eq_true Cmp.d
         have q4 : D0 < (a0.size : Int) := of_decide_eq_true Cmp.d
         have hx4 := bt_at a0 D0
         replace p4 := eq_true p4; replace q4 := eq_true q4
         have p16 : 0 ≤ (D0 : Int) := of_decide_eq_true Cmp.d
         have q16 : D0 < (a0.size : Int) := of_decide_eq_true Cmp.d
         have hx16 := bt_at a0 D0
         replace p16 := eq_true p16; replace q16 := eq_true q16
         have p18 : 0 ≤ (D0 : Int) := of_decide_eq_true Cmp.d
         have q18 : D0 < (a0.size : Int) := of_decide_eq_true Cmp.d
         have hx18 := bt_at a0 D0
         replace p18 := eq_true p18; replace q18 := eq_true q18
         have p20 : 0 ≤ (D0 : Int) := of_decide_eq_true Cmp.d
         have q20 : D0 < (a0.size : Int) := of_decide_eq_true Cmp.d
         have hx20 := bt_at a0 D0
         replace p20 := eq_true p20; replace q20 := eq_true q20
         go_wp2
         go_roundg k1
         case measure => have := HK1.out; omega
         case rel => exact ⟨(wrap64 (D0 + 1)), (by first | rfl | simp | simp [*]), H', ⟨by have := HK1.out; omega⟩, by repeat (first | exact Drawn0.refl _ | apply Drawn0.step)⟩
        ·rw [if_neg c21] at H; have c21b0 : ((bt a0 D0) == 45) = false := beq_eq_false_iff_ne.mpr c21; have c21b1 : ((bt a0 D0) != 45) = true := bne_iff_ne.mpr c21
         obtain rfl := Option.some.inj H
         have p4 : 0 ≤ (D0 : Int) := of_decide_eq_true Cmp.d
         have q4 : D0 < (a0.size : Int) := of_decide_eq_true Cmp.d
         have hx4 := bt_at a0 D0
         replace p4 := eq_true p4; replace q4 := eq_true q4
         have p16 : 0 ≤ (D0 : Int) := of_decide_eq_true Cmp.d
         have q16 : D0 < (a0.size : Int) := of_decide_eq_true Cmp.d
         have hx16 := bt_at a0 D0
         replace p16 := eq_true p16; replace q16 := eq_true q16
         have p18 : 0 ≤ (D0 : Int) := of_decide_eq_true Cmp.d
         have q18 : D0 < (a0.size : Int) := of_decide_eq_true Cmp.d
         have hx18 := bt_at a0 D0
         replace p18 := eq_true p18; replace q18 := eq_true q18
         have p20 : 0 ≤ (D0 : Int) := of_decide_eq_true Cmp.d
         have q20 : D0 < (a0.size : Int) := of_decide_eq_true Cmp.d
         have hx20 := bt_at a0 D0
         replace p20 := eq_true p20; replace q20 := eq_true q20
         go_wp2
         go_ret
         exact ⟨by first | rfl | (simp; done) | (simp [*]; done), by repeat (first | exact Drawn0.refl _ | apply Drawn0.step)⟩
      ·rw [if_neg c17] at H; have c17b0 : decide (48 ≤ (bt a0 D0)) = false := decide_eq_false c17; clear c17
       by_cases c23 : ((bt a0 D0) = 45)
       ·rw [if_pos c23] at H; have c23b0 : ((bt a0 D0) == 45) = true := beq_iff_eq.mpr c23; have c23b1 : ((bt a0 D0) != 45) = false := bne_eq_false_iff_eq.mpr c23; clear c23
        have H' := Cmp.A H
        clear H
        have p4 : 0 ≤ (D0 : Int) := of_decide_eq_true Cmp.d
        have q4 : D0 < (a0.size : Int) := of_decide_eq_true Cmp.d
        have hx4 := bt_at a0 D0
        replace p4 := eq_true p4; replace q4 := eq_true q4
        have p16 : 0 ≤ (D0 : Int) := of_decide_eq_true Cmp.d
        have q16 : D0 < (a0.size : Int) := of_decide_eq_true Cmp.d
        have hx16 := bt_at a0 D0
        replace p16 := eq_true p16; replace q16 := eq_true q16
        have p22 : 0 ≤ (D0 : Int) := of_decide_eq_true Cmp.d
        have q22 : D0 < (a0.size : Int) := of_decide_eq_true Cmp.d
        have hx22 := bt_at a0 D0
        replace p22 := eq_true p22; replace q22 := eq_true q22
        go_wp2
        go_roundg k1
        case measure => have := HK1.out; omega
        case rel => exact ⟨(wrap64 (D0 + 1)), (by first | rfl | simp | simp [*]), H', ⟨by have := HK1.out; omega⟩, by repeat (first | exact Drawn0.refl _ | apply Drawn0.step)⟩
       ·rw [if_neg c23] at H; have c23b0 : ((bt a0 D0) == 45) = false := beq_eq_false_iff_ne.mpr c23; have c23b1 : ((bt a0 D0) != 45) = true := bne_iff_ne.mpr c23
        obtain rfl := Option.some.inj H
        have p4 : 0 ≤ (D0 : Int) := of_decide_eq_true Cmp.d
        have q4 : D0 < (a0.size : Int) := of_decide_eq_true Cmp.d
        have hx4 := bt_at a0 D0
        replace p4 := eq_true p4; replace q4 := eq_true q4
        have p16 : 0 ≤ (D0 : Int) := of_decide_eq_true Cmp.d
        have q16 : D0 < (a0.size : Int) := of_decide_eq_true Cmp.d
        have hx16 := bt_at a0 D0
        replace p16 := eq_true p16; replace q16 := eq_true q16
        have p22 : 0 ≤ (D0 : Int) := of_decide_eq_true Cmp.d
        have q22 : D0 < (a0.size : Int) := of_decide_eq_true Cmp.d
        have hx22 := bt_at a0 D0
        replace p22 := eq_true p22; replace q22 := eq_true q22
        go_wp2
        go_ret
        exact ⟨by first | rfl | (simp; done) | (simp [*]; done), by repeat (first | exact Drawn0.refl _ | apply Drawn0.step)⟩
    ·rw [if_neg c3] at H; exact absurd H (by simp)
   ·rw [if_neg c2] at H
    have c2b0 : decide (D0 < (a0.size : Int)) = false := decide_eq_false c2
    clear c2; replace H := Option.bind_eq_some_iff.mp H; obtain ⟨D4, D2, H⟩ := H; (try dsimp only at H); have D3 := Cmp.A D2; clear D2
    by_cases c25 : D4 = true
    ·subst c25; rw [if_pos rfl] at H
     by_cases c26 : 0 < (a0.size : Int)
     ·rw [if_pos c26] at H
      have c26b0 : decide (0 < (a0.size : Int)) = true := decide_eq_true c26
      have c26b1 : decide (0 < a0.size) = true := decide_eq_true (by omega)
      clear c26
      by_cases c28 : (bt a0 0) = 45
      ·rw [if_pos c28] at H; have c28b0 : ((bt a0 0) == 45) = true := beq_iff_eq.mpr c28; have c28b1 : ((bt a0 0) != 45) = false := bne_eq_false_iff_eq.mpr c28; clear c28
       obtain rfl := Option.some.inj H
       go_wp2_with (first | ((with_reducible refine gate_callee (f := 27) rfl ?_); refine goesL_ (some 43) rfl rfl Tryd.func27 (by kernel_rfl) rfl #[.int .i64 (a0.size : Int), .int .i64 1, .int .i64 20] rfl Cmp.q ?_; (with_reducible refine (spec_l1In.calls (a0.size : Int) 1 20 true _ D3.out).mono ?_); rintro e w' ⟨rfl, ⟨nd, rfl⟩⟩; refine ⟨_, rfl, ?_⟩; have p27 : 0 ≤ (0 : Int) := (by omega); have q27 : 0 < a0.size := (by have : (0 : Int) < (a0.size : Int) := of_decide_eq_true Cmp.d; omega); have hx27 : ∀ h : 0 < a0.size, ((a0[0]'h).toNat : Int) = bt a0 0 := bt_at a0 0; clear p27; have qi27 : (0 < (a0.size : Int)) = True := eq_true (of_decide_eq_true Cmp.d); replace q27 := eq_true q27))
       go_ret
       exact ⟨by first | rfl | (simp; done) | (simp [*]; done), by repeat (first | exact Drawn0.refl _ | apply Drawn0.step)⟩
      ·rw [if_neg c28] at H; have c28b0 : ((bt a0 0) == 45) = false := beq_eq_false_iff_ne.mpr c28; have c28b1 : ((bt a0 0) != 45) = true := bne_iff_ne.mpr c28
       obtain ⟨D1, hji29⟩ : ∃ j_ : Int, (wrap64 ((a0.size : Int) - 1)) = j_ := ⟨_, rfl⟩
       replace H : (if 0 ≤ (D1) then (if (D1) < (a0.size : Int) then (some ((bt a0 (D1)) != 45)) else (none)) else (none)) = some r := by first | (rw [hji29] at H; exact H) | (simp only [hji29] at H ⊢; exact H)
       (try rw [hji29] at D3)
       have hji29w : (IntKind.i64.wrap ((a0.size : Int) - 1)) = D1 := (i64_w _).trans hji29
       by_cases c30 : 0 ≤ (D1)
       ·rw [if_pos c30] at H; have c30b0 : decide (0 ≤ (D1)) = true := decide_eq_true c30; clear c30
        by_cases c31 : (D1) < (a0.size : Int)
        ·rw [if_pos c31] at H
         have c31b0 : decide ((D1) < (a0.size : Int)) = true := decide_eq_true c31
         clear c31
         obtain rfl := Option.some.inj H
         go_wp2_with (first | ((with_reducible refine gate_callee (f := 27) rfl ?_); refine goesL_ (some 43) rfl rfl Tryd.func27 (by kernel_rfl) rfl #[.int .i64 (a0.size : Int), .int .i64 1, .int .i64 20] rfl Cmp.q ?_; (with_reducible refine (spec_l1In.calls (a0.size : Int) 1 20 true _ D3.out).mono ?_); rintro e w' ⟨rfl, ⟨nd, rfl⟩⟩; refine ⟨_, rfl, ?_⟩; have p27 : 0 ≤ (0 : Int) := (by omega); have q27 : 0 < a0.size := (by have : (0 : Int) < (a0.size : Int) := of_decide_eq_true Cmp.d; omega); have hx27 : ∀ h : 0 < a0.size, ((a0[0]'h).toNat : Int) = bt a0 0 := bt_at a0 0; clear p27; have qi27 : (0 < (a0.size : Int)) = True := eq_true (of_decide_eq_true Cmp.d); replace q27 := eq_true q27; have p32 : 0 ≤ ((D1) : Int) := of_decide_eq_true Cmp.d; have q32 : (D1) < (a0.size : Int) := of_decide_eq_true Cmp.d; have hx32 := bt_at a0 (D1); replace p32 := eq_true p32; replace q32 := eq_true q32))
         go_ret
         exact ⟨by first | rfl | (simp; done) | (simp only [← hji29] <;> (first | rfl | simp)) | (simp [*]; done), by repeat (first | exact Drawn0.refl _ | apply Drawn0.step)⟩
        ·rw [if_neg c31] at H; exact absurd H (by simp)
       ·rw [if_neg c30] at H; exact absurd H (by simp)
     ·rw [if_neg c26] at H; exact absurd H (by simp)
    ·replace c25 := Bool.eq_false_iff.mpr c25
     subst c25
     have H1 : (some false) = some r := by rw [if_neg (show ¬ (false = true) by decide)] at H; exact H
     clear H; have H := H1; clear H1
     obtain rfl := Option.some.inj H
     go_wp2_with (first | ((with_reducible refine gate_callee (f := 27) rfl ?_); refine goesL_ (some 43) rfl rfl Tryd.func27 (by kernel_rfl) rfl #[.int .i64 (a0.size : Int), .int .i64 1, .int .i64 20] rfl Cmp.q ?_; (with_reducible refine (spec_l1In.calls (a0.size : Int) 1 20 false _ D3.out).mono ?_); rintro e w' ⟨rfl, ⟨nd, rfl⟩⟩; refine ⟨_, rfl, ?_⟩))
     go_ret
     exact ⟨by first | rfl | (simp; done) | (simp [*]; done), by repeat (first | exact Drawn0.refl _ | apply Drawn0.step)⟩
/-! ### spec_IsHost: function 29 -/
def spec_IsHost.l0 : Nat → ByteArray → List ByteArray → Int → Option (Bool)
  | 0, _, _, _ => none
  | k + 1, x0, x3, x4 => if x4 < (x3.length : Int) then (if 0 ≤ x4 then ((spec_l9Label.f k (rdOf ByteArray.empty x3 x4)).bind fun t207 => (if t207 = true then (spec_IsHost.l0 k x0 x3 (wrap64 (x4 + 1))) else (some false))) else (none)) else (some (decide ((x0.size : Int) ≤ 60)))
def spec_IsHost.f (k : Nat) (a0 : ByteArray) : Option (Bool) := (spec_l9Labels.f k a0).bind fun t203 => (spec_IsHost.l0 k a0 t203 0)
theorem spec_IsHost.mono_l : ∀ k, (∀ y0 y1 y2, LeO (spec_IsHost.l0 k y0 y1 y2) (spec_IsHost.l0 (k + 1) y0 y1 y2))
 | 0 => fun _ _ _ r h => by simp [spec_IsHost.l0] at h
 | k + 1 => by
    have ih0 := spec_IsHost.mono_l k
    · intro y0 y1 y2
      unfold spec_IsHost.l0
      repeat' first
 | (with_reducible exact ih0 _ _ _)
 | (with_reducible exact spec_l9Label.mono _ _)
 | (with_reducible exact spec_l9Labels.mono _ _)
 | (with_reducible exact LeO.refl _)
 | (with_reducible exact LeO.none _)
 | (with_reducible refine LeO.ite ?_ ?_)
 | (with_reducible refine LeO.bind ?_ (fun _ => ?_))
theorem spec_IsHost.mono : ∀ a0 k, LeO (spec_IsHost.f k a0) (spec_IsHost.f (k + 1) a0) := by
  intro a0 k
  have ih0 := spec_IsHost.mono_l k
  unfold spec_IsHost.f
  repeat' first
 | (with_reducible exact ih0 _ _ _)
 | (with_reducible exact spec_l9Label.mono _ _)
 | (with_reducible exact spec_l9Labels.mono _ _)
 | (with_reducible exact LeO.refl _)
 | (with_reducible exact LeO.none _)
 | (with_reducible refine LeO.ite ?_ ?_)
 | (with_reducible refine LeO.bind ?_ (fun _ => ?_))
set_option maxHeartbeats 8000000 in
set_option maxRecDepth 100000 in
theorem spec_IsHost.calls (k : Nat) (a0 : ByteArray) (r : Bool) (w : World) (h : spec_IsHost.f k a0 = some r) :
    Calls Tryd.prog 29 #[.string a0] w fun e w' => e = .returned (.bool r) ∧ Below w.heap.size w w' := by
 have HB := Cmp.A (Below.refl w.heap.size w)
 have H : ((spec_l9Labels.f k a0).bind fun D1 => (spec_IsHost.l0 k a0 D1 0)) = some r := h
 clear h; replace H := Option.bind_eq_some_iff.mp H; obtain ⟨D1, D8, H⟩ := H; (try dsimp only at H); have A2 := Cmp.A D8; clear D8
 have H' := Cmp.A H
 clear H
 go_enter Tryd.func29, Tryd.ntmps29
 go_wp2_with (first | ((with_reducible refine gate_callee (f := 35) rfl ?_); refine goesL_ (some 6) rfl rfl Tryd.func35 (by kernel_rfl) rfl #[.string a0] rfl Cmp.q ?_; (with_reducible refine (spec_l9Labels.calls k a0 D1 _ A2.out).mono ?_); rintro e w3 ⟨v204, rfl, Da, hb⟩; refine ⟨_, rfl, ?_⟩; have D4 := Cmp.A (Kd.R_lower Da (below_size (Cmp.g HB.out))); replace HB := Cmp.bs HB hb; (try clear hb); (try clear hb2); (try clear hk); (try clear hi); (try clear Da)))
 go_loopg [4] k (fun kq v4 w' => ∃ (D0 : Int), v4 = .int .i64 D0 ∧ Aside0 (spec_IsHost.l0 kq a0 D1 D0 = some r) ∧ Aside0 (kq ≤ k) ∧ Aside0 (Kd.R Kd.string 9 w' w.heap.size (fun _ => True) v204 D1) ∧ Aside0 (Below w.heap.size w w'))
 case atStart => exact ⟨(0), (by first | rfl | simp | simp [*]), H', ⟨Nat.le_refl _⟩, ⟨Cmp.rr D4.out⟩, ⟨Cmp.g HB.out⟩⟩
 case round =>
  clear H'
  (try clear c2); (try clear p2); (try clear c3)
  obtain ⟨D0, rfl, HA, HK1, D2, HB⟩ := hrel
  cases gk with
  | zero => exact absurd HA.out (by simp [spec_IsHost.l0])
  | succ k1 =>
   have H := HA.out; clear HA
   simp only [spec_IsHost.l0] at H
   by_cases c4 : D0 < (D1.length : Int)
   ·rw [if_pos c4] at H
    have c4b0 : decide (D0 < (D1.length : Int)) = true := decide_eq_true c4
    clear c4
    by_cases c5 : 0 ≤ D0
    ·rw [if_pos c5] at H; have c5b0 : decide (0 ≤ D0) = true := decide_eq_true c5; clear c5; replace H := Option.bind_eq_some_iff.mp H; obtain ⟨D7, D9, H⟩ := H; (try dsimp only at H); have A6 := Cmp.A D9; clear D9
     by_cases c7 : D7 = true
     ·subst c7; rw [if_pos rfl] at H
      have H' := Cmp.A H
      clear H
      obtain ⟨Df, Dh, Dd⟩ := Kd.R_slice D2.out
      subst Dd
      have p206 : 0 ≤ (D0 : Int) := of_decide_eq_true Cmp.d
      have q206 : D0 < (D1.length : Int) := of_decide_eq_true Cmp.d
      obtain ⟨D5, e206, D3⟩ := Kd.at_string (Kd.R_reads' D2.out).2.2 D0 p206 q206
      cases e206; replace p206 := eq_true p206; replace q206 := eq_true q206
      go_wp2_with (first | ((with_reducible refine gate_callee (f := 36) rfl ?_); refine goesL_ (some 17) rfl rfl Tryd.func36 (by kernel_rfl) rfl #[.string (rdOf ByteArray.empty D1 D0)] rfl Cmp.q ?_; (with_reducible refine (spec_l9Label.calls k1 (rdOf ByteArray.empty D1 D0) true _ A6.out).mono ?_); rintro e w' ⟨rfl, ⟨nd, rfl⟩⟩; refine ⟨_, rfl, ?_⟩))
      go_roundg k1
      case measure => have := HK1.out; omega
      case rel => exact ⟨(wrap64 (D0 + 1)), (by first | rfl | simp | simp [*]), H', ⟨by have := HK1.out; omega⟩, ⟨Cmp.rr D2.out⟩, ⟨Cmp.g HB.out⟩⟩
     ·replace c7 := Bool.eq_false_iff.mpr c7
      subst c7
      have H1 : (some false) = some r := by rw [if_neg (show ¬ (false = true) by decide)] at H; exact H
      clear H; have H := H1; clear H1
      obtain rfl := Option.some.inj H
      obtain ⟨Dg, Di, De⟩ := Kd.R_slice D2.out
      subst De
      have p206 : 0 ≤ (D0 : Int) := of_decide_eq_true Cmp.d
      have q206 : D0 < (D1.length : Int) := of_decide_eq_true Cmp.d
      obtain ⟨D5, e206, D3⟩ := Kd.at_string (Kd.R_reads' D2.out).2.2 D0 p206 q206
      cases e206; replace p206 := eq_true p206; replace q206 := eq_true q206
      go_wp2_with (first | ((with_reducible refine gate_callee (f := 36) rfl ?_); refine goesL_ (some 17) rfl rfl Tryd.func36 (by kernel_rfl) rfl #[.string (rdOf ByteArray.empty D1 D0)] rfl Cmp.q ?_; (with_reducible refine (spec_l9Label.calls k1 (rdOf ByteArray.empty D1 D0) false _ A6.out).mono ?_); rintro e w' ⟨rfl, ⟨nd, rfl⟩⟩; refine ⟨_, rfl, ?_⟩))
      go_ret
      exact ⟨by first | rfl | (simp [errW_none, errW_some] <;> rfl) | (simp [*, errW_none, errW_some] <;> rfl), Cmp.g HB.out⟩
    ·rw [if_neg c5] at H; exact absurd H (by simp)
   ·rw [if_neg c4] at H
    have c4b0 : decide (D0 < (D1.length : Int)) = false := decide_eq_false c4
    clear c4
    obtain rfl := Option.some.inj H
    obtain ⟨Db, Dc, D6⟩ := Kd.R_slice D2.out
    subst D6
    go_wp2
    go_ret
    exact ⟨by first | rfl | (simp [errW_none, errW_some] <;> rfl) | (simp [*, errW_none, errW_some] <;> rfl), Cmp.g HB.out⟩
end Go.Proofs.YtpgjecknkmmnhaaDoor.PFnExactNavigateTab

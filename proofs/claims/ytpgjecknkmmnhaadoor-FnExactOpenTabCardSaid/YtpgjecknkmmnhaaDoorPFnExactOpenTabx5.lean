/- Printed functions of the program, out of print.sh, told more shortly. No condition. -/
import Derived.Test.YtpgjecknkmmnhaaDoorCmp
import Derived.Test.YtpgjecknkmmnhaaDoorPFnExactOpenTabx0
import Derived.Test.YtpgjecknkmmnhaaDoorPFnExactOpenTabx4
namespace Go.Proofs.YtpgjecknkmmnhaaDoor.PFnExactOpenTab
open Go.Proofs.YtpgjecknkmmnhaaDoor
open Go.RowKit Go.Proofs.YtpgjecknkmmnhaaDoorW.PrintWords Go.Proofs.YtpgjecknkmmnhaaDoorW.PrintLast Go.Proofs.YtpgjecknkmmnhaaDoorW.PrintMore
attribute [local go_sem] max2_int min2_int max_two min_two max_three min_three max_four min_four   -- for this text's walks alone
set_option linter.unusedVariables false
set_option linter.unusedSimpArgs false
/-! ### laws_eqOrigin: function 38 -/
def laws_eqOrigin.f (a0_0 : Bool) (a0_1 : ByteArray) (a0_2 : Int) (a1_0 : Bool) (a1_1 : ByteArray) (a1_2 : Int) : Option (Bool) := if (a0_0 != a1_0) = true then (some false) else (if a0_1.toList = a1_1.toList then (if a0_2 = a1_2 then (some true) else (some false)) else (some false))
set_option maxHeartbeats 8000000 in
set_option maxRecDepth 100000 in
theorem laws_eqOrigin.calls (a0_0 : Bool) (a0_1 : ByteArray) (a0_2 : Int) (a1_0 : Bool) (a1_1 : ByteArray) (a1_2 : Int) (r : Bool) (w : World) (h : laws_eqOrigin.f a0_0 a0_1 a0_2 a1_0 a1_1 a1_2 = some r) :
    Calls Tryd.prog 38 #[.agg #[.bool a0_0, .string a0_1, .int .i64 a0_2], .agg #[.bool a1_0, .string a1_1, .int .i64 a1_2]] w fun e w' => e = .returned (.bool r) ∧ Below w.heap.size w w' := by
 have hu38 := Tryd.underlying38
 have HB := Cmp.A (Below.refl w.heap.size w)
 have H : (if (a0_0 != a1_0) = true then (some false) else (if a0_1.toList = a1_1.toList then (if a0_2 = a1_2 then (some true) else (some false)) else (some false))) = some r := h
 clear h
 by_cases c3 : (a0_0 != a1_0) = true
 ·rw [if_pos c3] at H
  have c3b0 : (a0_0 != a1_0) = true := c3
  (try (have c3b1 : decide (a0_0 = a1_0) = false := by simpa using c3))
  (try (have c3b2 : (a0_0 == a1_0) = false := by simpa using c3))
  (try (have c3b3 : ¬ (a0_0 = a1_0) := by simpa using c3))
  clear c3
  obtain rfl := Option.some.inj H
  go_enter Tryd.func38, Tryd.ntmps38
  go_wp2_with (first | ((with_reducible refine gate_dst (N := 2) rfl ?_); refine box_event ?hg (N := 2) ?hd (cs := #[.bool a0_0, .string a0_1, .int .i64 a0_2]) (t := 38) ?hr ?_; (case hd => rfl); (case hg => rfl); (case hr => first | (go_simp; done) | (go_simp; rfl)); intro D8 hg w4 hbox hb; have D0 := Cmp.A (hbox); have D6 := Cmp.gw hg HB; have D4 := Cmp.gw hg HB; replace HB := Cmp.bs HB hb; clear hb hbox hg) | ((with_reducible refine gate_dst (N := 3) rfl ?_); refine box_event ?hg (N := 3) ?hd (cs := #[.bool a1_0, .string a1_1, .int .i64 a1_2]) (t := 38) ?hr ?_; (case hd => rfl); (case hg => rfl); (case hr => first | (go_simp; done) | (go_simp; rfl)); intro D9 hg w5 hbox hb; have D1 := Cmp.A (hbox); have D7 := Cmp.gw hg HB; have D5 := Cmp.gw hg HB; have D2 := Cmp.nl hg D0; have D3 := Cmp.ng hg D0; replace D0 := Cmp.be D0 hb; replace HB := Cmp.bs HB hb; clear hb hbox hg; have Es := D2.out; have Et := D3.out; obtain ⟨Ea, Eb, Ec⟩ := Cmp.q3 D0; obtain ⟨Eg, Eh, Ei⟩ := Cmp.f3 D0; obtain ⟨Ed, Ee, Ef⟩ := Cmp.q3 D1; obtain ⟨Ej, Ek, El⟩ := Cmp.f3 D1))
  go_ret
  exact ⟨by first | rfl | (simp [errW_none, errW_some] <;> rfl) | (simp [*, errW_none, errW_some] <;> rfl), Cmp.g HB.out⟩
 ·rw [if_neg c3] at H
  have c3b0 : (a0_0 != a1_0) = false := by simpa using c3
  (try (have c3b1 : decide (a0_0 = a1_0) = true := by simpa using c3))
  (try (have c3b2 : (a0_0 == a1_0) = true := by simpa using c3))
  clear c3
  by_cases c9 : a0_1.toList = a1_1.toList
  ·rw [if_pos c9] at H; have c9b0 : (a0_1.toList == a1_1.toList) = true := beq_iff_eq.mpr c9; have c9b1 : (a0_1.toList != a1_1.toList) = false := bne_eq_false_iff_eq.mpr c9; clear c9
   by_cases c10 : a0_2 = a1_2
   ·rw [if_pos c10] at H; have c10b0 : (a0_2 == a1_2) = true := beq_iff_eq.mpr c10; have c10b1 : (a0_2 != a1_2) = false := bne_eq_false_iff_eq.mpr c10; clear c10
    obtain rfl := Option.some.inj H
    go_enter Tryd.func38, Tryd.ntmps38
    go_wp2_with (first | ((with_reducible refine gate_dst (N := 2) rfl ?_); refine box_event ?hg (N := 2) ?hd (cs := #[.bool a0_0, .string a0_1, .int .i64 a0_2]) (t := 38) ?hr ?_; (case hd => rfl); (case hg => rfl); (case hr => first | (go_simp; done) | (go_simp; rfl)); intro D8 hg w11 hbox hb; have D0 := Cmp.A (hbox); have D6 := Cmp.gw hg HB; have D4 := Cmp.gw hg HB; replace HB := Cmp.bs HB hb; clear hb hbox hg) | ((with_reducible refine gate_dst (N := 3) rfl ?_); refine box_event ?hg (N := 3) ?hd (cs := #[.bool a1_0, .string a1_1, .int .i64 a1_2]) (t := 38) ?hr ?_; (case hd => rfl); (case hg => rfl); (case hr => first | (go_simp; done) | (go_simp; rfl)); intro D9 hg w12 hbox hb; have D1 := Cmp.A (hbox); have D7 := Cmp.gw hg HB; have D5 := Cmp.gw hg HB; have D2 := Cmp.nl hg D0; have D3 := Cmp.ng hg D0; replace D0 := Cmp.be D0 hb; replace HB := Cmp.bs HB hb; clear hb hbox hg; have Em := D2.out; have Ep := D3.out; obtain ⟨Da, Db, Dc⟩ := Cmp.q3 D0; obtain ⟨Ds, Dt, Du⟩ := Cmp.f3 D0; obtain ⟨Dd, De, Df⟩ := Cmp.q3 D1; obtain ⟨Dv, Dw, Dx⟩ := Cmp.f3 D1))
    go_ret
    exact ⟨by first | rfl | (simp [errW_none, errW_some] <;> rfl) | (simp [*, errW_none, errW_some] <;> rfl), Cmp.g HB.out⟩
   ·rw [if_neg c10] at H; have c10b0 : (a0_2 == a1_2) = false := beq_eq_false_iff_ne.mpr c10; have c10b1 : (a0_2 != a1_2) = true := bne_iff_ne.mpr c10
    obtain rfl := Option.some.inj H
    go_enter Tryd.func38, Tryd.ntmps38
    go_wp2_with (first | ((with_reducible refine gate_dst (N := 2) rfl ?_); refine box_event ?hg (N := 2) ?hd (cs := #[.bool a0_0, .string a0_1, .int .i64 a0_2]) (t := 38) ?hr ?_; (case hd => rfl); (case hg => rfl); (case hr => first | (go_simp; done) | (go_simp; rfl)); intro D8 hg w16 hbox hb; have D0 := Cmp.A (hbox); have D6 := Cmp.gw hg HB; have D4 := Cmp.gw hg HB; replace HB := Cmp.bs HB hb; clear hb hbox hg) | ((with_reducible refine gate_dst (N := 3) rfl ?_); refine box_event ?hg (N := 3) ?hd (cs := #[.bool a1_0, .string a1_1, .int .i64 a1_2]) (t := 38) ?hr ?_; (case hd => rfl); (case hg => rfl); (case hr => first | (go_simp; done) | (go_simp; rfl)); intro D9 hg w17 hbox hb; have D1 := Cmp.A (hbox); have D7 := Cmp.gw hg HB; have D5 := Cmp.gw hg HB; have D2 := Cmp.nl hg D0; have D3 := Cmp.ng hg D0; replace D0 := Cmp.be D0 hb; replace HB := Cmp.bs HB hb; clear hb hbox hg; have En := D2.out; have Eq := D3.out; obtain ⟨Dg, Dh, Di⟩ := Cmp.q3 D0; obtain ⟨Dy, Dz, E0⟩ := Cmp.f3 D0; obtain ⟨Dj, Dk, Dl⟩ := Cmp.q3 D1; obtain ⟨E1, E2, E3⟩ := Cmp.f3 D1))
    go_ret
    exact ⟨by first | rfl | (simp [errW_none, errW_some] <;> rfl) | (simp [*, errW_none, errW_some] <;> rfl), Cmp.g HB.out⟩
  ·rw [if_neg c9] at H; have c9b0 : (a0_1.toList == a1_1.toList) = false := beq_eq_false_iff_ne.mpr c9; have c9b1 : (a0_1.toList != a1_1.toList) = true := bne_iff_ne.mpr c9
   obtain rfl := Option.some.inj H
   go_enter Tryd.func38, Tryd.ntmps38
   go_wp2_with (first | ((with_reducible refine gate_dst (N := 2) rfl ?_); refine box_event ?hg (N := 2) ?hd (cs := #[.bool a0_0, .string a0_1, .int .i64 a0_2]) (t := 38) ?hr ?_; (case hd => rfl); (case hg => rfl); (case hr => first | (go_simp; done) | (go_simp; rfl)); intro D8 hg w21 hbox hb; have D0 := Cmp.A (hbox); have D6 := Cmp.gw hg HB; have D4 := Cmp.gw hg HB; replace HB := Cmp.bs HB hb; clear hb hbox hg) | ((with_reducible refine gate_dst (N := 3) rfl ?_); refine box_event ?hg (N := 3) ?hd (cs := #[.bool a1_0, .string a1_1, .int .i64 a1_2]) (t := 38) ?hr ?_; (case hd => rfl); (case hg => rfl); (case hr => first | (go_simp; done) | (go_simp; rfl)); intro D9 hg w22 hbox hb; have D1 := Cmp.A (hbox); have D7 := Cmp.gw hg HB; have D5 := Cmp.gw hg HB; have D2 := Cmp.nl hg D0; have D3 := Cmp.ng hg D0; replace D0 := Cmp.be D0 hb; replace HB := Cmp.bs HB hb; clear hb hbox hg; have Eo := D2.out; have Er := D3.out; obtain ⟨Dm, Dn, Do⟩ := Cmp.q3 D0; obtain ⟨E4, E5, E6⟩ := Cmp.f3 D0; obtain ⟨Dp, Dq, Dr⟩ := Cmp.q3 D1; obtain ⟨E7, E8, E9⟩ := Cmp.f3 D1))
   go_ret
   exact ⟨by first | rfl | (simp [errW_none, errW_some] <;> rfl) | (simp [*, errW_none, errW_some] <;> rfl), Cmp.g HB.out⟩
/-! ### laws_eqTab: function 33 -/
def laws_eqTab.f (a0_0 : Bool) (a0_1 : ByteArray) (a0_2 : Int) (a0_3 : Bool) (a0_4 : ByteArray) (a0_5 : Int) (a1_0 : Bool) (a1_1 : ByteArray) (a1_2 : Int) (a1_3 : Bool) (a1_4 : ByteArray) (a1_5 : Int) : Option (Bool) := (laws_eqOrigin.f a0_0 a0_1 a0_2 a1_0 a1_1 a1_2).bind fun t232 => (if t232 = true then ((laws_eqOrigin.f a0_3 a0_4 a0_5 a1_3 a1_4 a1_5).bind fun t233 => (if t233 = true then (some true) else (some false))) else (some false))
set_option maxHeartbeats 8000000 in
set_option maxRecDepth 100000 in
theorem laws_eqTab.calls (a0_0 : Bool) (a0_1 : ByteArray) (a0_2 : Int) (a0_3 : Bool) (a0_4 : ByteArray) (a0_5 : Int) (a1_0 : Bool) (a1_1 : ByteArray) (a1_2 : Int) (a1_3 : Bool) (a1_4 : ByteArray) (a1_5 : Int) (r : Bool) (w : World) (h : laws_eqTab.f a0_0 a0_1 a0_2 a0_3 a0_4 a0_5 a1_0 a1_1 a1_2 a1_3 a1_4 a1_5 = some r) :
    Calls Tryd.prog 33 #[.agg #[.bool a0_0, .string a0_1, .int .i64 a0_2, .bool a0_3, .string a0_4, .int .i64 a0_5], .agg #[.bool a1_0, .string a1_1, .int .i64 a1_2, .bool a1_3, .string a1_4, .int .i64 a1_5]] w fun e w' => e = .returned (.bool r) ∧ Below w.heap.size w w' := by
 have hu49 := Tryd.underlying49; have hu38 := Tryd.underlying38
 have HB := Cmp.A (Below.refl w.heap.size w)
 have H : ((laws_eqOrigin.f a0_0 a0_1 a0_2 a1_0 a1_1 a1_2).bind fun Da => (if Da = true then ((laws_eqOrigin.f a0_3 a0_4 a0_5 a1_3 a1_4 a1_5).bind fun Db => (if Db = true then (some true) else (some false))) else (some false))) = some r := h
 clear h; replace H := Option.bind_eq_some_iff.mp H; obtain ⟨Da, Go, H⟩ := H; (try dsimp only at H); have A3 := Cmp.A Go; clear Go
 by_cases c4 : Da = true
 ·subst c4; rw [if_pos rfl] at H; replace H := Option.bind_eq_some_iff.mp H; obtain ⟨Db, Gp, H⟩ := H; (try dsimp only at H); have A5 := Cmp.A Gp; clear Gp
  by_cases c6 : Db = true
  ·subst c6; rw [if_pos rfl] at H
   obtain rfl := Option.some.inj H
   go_enter Tryd.func33, Tryd.ntmps33
   go_wp2_with (first | ((with_reducible refine gate_dst (N := 2) rfl ?_); refine box_event ?hg (N := 2) ?hd (cs := #[.bool a0_0, .string a0_1, .int .i64 a0_2, .bool a0_3, .string a0_4, .int .i64 a0_5]) (t := 49) ?hr ?_; (case hd => rfl); (case hg => rfl); (case hr => first | (go_simp; done) | (go_simp; rfl)); intro D8 hg w7 hbox hb; have D0 := Cmp.A (hbox); have D6 := Cmp.gw hg HB; have D4 := Cmp.gw hg HB; replace HB := Cmp.bs HB hb; clear hb hbox hg) | ((with_reducible refine gate_dst (N := 3) rfl ?_); refine box_event ?hg (N := 3) ?hd (cs := #[.bool a1_0, .string a1_1, .int .i64 a1_2, .bool a1_3, .string a1_4, .int .i64 a1_5]) (t := 49) ?hr ?_; (case hd => rfl); (case hg => rfl); (case hr => first | (go_simp; done) | (go_simp; rfl)); intro D9 hg w8 hbox hb; have D1 := Cmp.A (hbox); have D7 := Cmp.gw hg HB; have D5 := Cmp.gw hg HB; have D2 := Cmp.nl hg D0; have D3 := Cmp.ng hg D0; replace D0 := Cmp.be D0 hb; replace HB := Cmp.bs HB hb; clear hb hbox hg; have Gu := D2.out; have Gv := D3.out; obtain ⟨Dc, Dd, De, Df, Dg, Dh⟩ := Cmp.q6 D0; obtain ⟨F0, F1, F2, F3, F4, F5⟩ := Cmp.f6 D0; obtain ⟨Di, Dj, Dk, Dl, Dm, Dn⟩ := Cmp.q6 D1; obtain ⟨F6, F7, F8, F9, Fa, Fb⟩ := Cmp.f6 D1) | ((with_reducible refine gate_callee (f := 38) rfl ?_); refine goesL_ (some 9) rfl rfl Tryd.func38 (by kernel_rfl) rfl #[.agg #[.bool a0_0, .string a0_1, .int .i64 a0_2], .agg #[.bool a1_0, .string a1_1, .int .i64 a1_2]] rfl Cmp.q ?_; (with_reducible refine (laws_eqOrigin.calls a0_0 a0_1 a0_2 a1_0 a1_1 a1_2 true _ A3.out).mono ?_); rintro e w12 ⟨rfl, hb⟩; refine ⟨_, rfl, ?_⟩; replace D0 := Cmp.be D0 hb; replace D1 := Cmp.be D1 hb; replace HB := Cmp.bs HB hb; (try clear hb); (try clear hb2); (try clear hk); (try clear hi); obtain ⟨Do, Dp, Dq, Dr, Ds, Dt⟩ := Cmp.q6 D0; obtain ⟨Fc, Fd, Fe, Ff, Fg, Fh⟩ := Cmp.f6 D0; obtain ⟨Du, Dv, Dw, Dx, Dy, Dz⟩ := Cmp.q6 D1; obtain ⟨Fi, Fj, Fk, Fl, Fm, Fn⟩ := Cmp.f6 D1) | ((with_reducible refine gate_callee (f := 38) rfl ?_); refine goesL_ (some 15) rfl rfl Tryd.func38 (by kernel_rfl) rfl #[.agg #[.bool a0_3, .string a0_4, .int .i64 a0_5], .agg #[.bool a1_3, .string a1_4, .int .i64 a1_5]] rfl Cmp.q ?_; (with_reducible refine (laws_eqOrigin.calls a0_3 a0_4 a0_5 a1_3 a1_4 a1_5 true _ A5.out).mono ?_); rintro e w15 ⟨rfl, hb⟩; refine ⟨_, rfl, ?_⟩; replace D0 := Cmp.be D0 hb; replace D1 := Cmp.be D1 hb; replace HB := Cmp.bs HB hb; (try clear hb); (try clear hb2); (try clear hk); (try clear hi)))
   go_ret
   exact ⟨by first | rfl | (simp [errW_none, errW_some] <;> rfl) | (simp [*, errW_none, errW_some] <;> rfl), Cmp.g HB.out⟩
  ·replace c6 := Bool.eq_false_iff.mpr c6
   subst c6
   have H1 : (some false) = some r := by rw [if_neg (show ¬ (false = true) by decide)] at H; exact H
   clear H; have H := H1; clear H1
   obtain rfl := Option.some.inj H
   go_enter Tryd.func33, Tryd.ntmps33
   go_wp2_with (first | ((with_reducible refine gate_dst (N := 2) rfl ?_); refine box_event ?hg (N := 2) ?hd (cs := #[.bool a0_0, .string a0_1, .int .i64 a0_2, .bool a0_3, .string a0_4, .int .i64 a0_5]) (t := 49) ?hr ?_; (case hd => rfl); (case hg => rfl); (case hr => first | (go_simp; done) | (go_simp; rfl)); intro D8 hg w16 hbox hb; have D0 := Cmp.A (hbox); have D6 := Cmp.gw hg HB; have D4 := Cmp.gw hg HB; replace HB := Cmp.bs HB hb; clear hb hbox hg) | ((with_reducible refine gate_dst (N := 3) rfl ?_); refine box_event ?hg (N := 3) ?hd (cs := #[.bool a1_0, .string a1_1, .int .i64 a1_2, .bool a1_3, .string a1_4, .int .i64 a1_5]) (t := 49) ?hr ?_; (case hd => rfl); (case hg => rfl); (case hr => first | (go_simp; done) | (go_simp; rfl)); intro D9 hg w17 hbox hb; have D1 := Cmp.A (hbox); have D7 := Cmp.gw hg HB; have D5 := Cmp.gw hg HB; have D2 := Cmp.nl hg D0; have D3 := Cmp.ng hg D0; replace D0 := Cmp.be D0 hb; replace HB := Cmp.bs HB hb; clear hb hbox hg; have Gq := D2.out; have Gs := D3.out; obtain ⟨E0, E1, E2, E3, E4, E5⟩ := Cmp.q6 D0; obtain ⟨Fo, Fp, Fq, Fr, Fs, Ft⟩ := Cmp.f6 D0; obtain ⟨E6, E7, E8, E9, Ea, Eb⟩ := Cmp.q6 D1; obtain ⟨Fu, Fv, Fw, Fx, Fy, Fz⟩ := Cmp.f6 D1) | ((with_reducible refine gate_callee (f := 38) rfl ?_); refine goesL_ (some 9) rfl rfl Tryd.func38 (by kernel_rfl) rfl #[.agg #[.bool a0_0, .string a0_1, .int .i64 a0_2], .agg #[.bool a1_0, .string a1_1, .int .i64 a1_2]] rfl Cmp.q ?_; (with_reducible refine (laws_eqOrigin.calls a0_0 a0_1 a0_2 a1_0 a1_1 a1_2 true _ A3.out).mono ?_); rintro e w21 ⟨rfl, hb⟩; refine ⟨_, rfl, ?_⟩; replace D0 := Cmp.be D0 hb; replace D1 := Cmp.be D1 hb; replace HB := Cmp.bs HB hb; (try clear hb); (try clear hb2); (try clear hk); (try clear hi); obtain ⟨Ec, Ed, Ee, Ef, Eg, Eh⟩ := Cmp.q6 D0; obtain ⟨G0, G1, G2, G3, G4, G5⟩ := Cmp.f6 D0; obtain ⟨Ei, Ej, Ek, El, Em, En⟩ := Cmp.q6 D1; obtain ⟨G6, G7, G8, G9, Ga, Gb⟩ := Cmp.f6 D1) | ((with_reducible refine gate_callee (f := 38) rfl ?_); refine goesL_ (some 15) rfl rfl Tryd.func38 (by kernel_rfl) rfl #[.agg #[.bool a0_3, .string a0_4, .int .i64 a0_5], .agg #[.bool a1_3, .string a1_4, .int .i64 a1_5]] rfl Cmp.q ?_; (with_reducible refine (laws_eqOrigin.calls a0_3 a0_4 a0_5 a1_3 a1_4 a1_5 false _ A5.out).mono ?_); rintro e w24 ⟨rfl, hb⟩; refine ⟨_, rfl, ?_⟩; replace D0 := Cmp.be D0 hb; replace D1 := Cmp.be D1 hb; replace HB := Cmp.bs HB hb; (try clear hb); (try clear hb2); (try clear hk); (try clear hi)))
   go_ret
   exact ⟨by first | rfl | (simp [errW_none, errW_some] <;> rfl) | (simp [*, errW_none, errW_some] <;> rfl), Cmp.g HB.out⟩
 ·replace c4 := Bool.eq_false_iff.mpr c4
  subst c4
  have H1 : (some false) = some r := by rw [if_neg (show ¬ (false = true) by decide)] at H; exact H
  clear H; have H := H1; clear H1
  obtain rfl := Option.some.inj H
  go_enter Tryd.func33, Tryd.ntmps33
  go_wp2_with (first | ((with_reducible refine gate_dst (N := 2) rfl ?_); refine box_event ?hg (N := 2) ?hd (cs := #[.bool a0_0, .string a0_1, .int .i64 a0_2, .bool a0_3, .string a0_4, .int .i64 a0_5]) (t := 49) ?hr ?_; (case hd => rfl); (case hg => rfl); (case hr => first | (go_simp; done) | (go_simp; rfl)); intro D8 hg w25 hbox hb; have D0 := Cmp.A (hbox); have D6 := Cmp.gw hg HB; have D4 := Cmp.gw hg HB; replace HB := Cmp.bs HB hb; clear hb hbox hg) | ((with_reducible refine gate_dst (N := 3) rfl ?_); refine box_event ?hg (N := 3) ?hd (cs := #[.bool a1_0, .string a1_1, .int .i64 a1_2, .bool a1_3, .string a1_4, .int .i64 a1_5]) (t := 49) ?hr ?_; (case hd => rfl); (case hg => rfl); (case hr => first | (go_simp; done) | (go_simp; rfl)); intro D9 hg w26 hbox hb; have D1 := Cmp.A (hbox); have D7 := Cmp.gw hg HB; have D5 := Cmp.gw hg HB; have D2 := Cmp.nl hg D0; have D3 := Cmp.ng hg D0; replace D0 := Cmp.be D0 hb; replace HB := Cmp.bs HB hb; clear hb hbox hg; have Gr := D2.out; have Gt := D3.out; obtain ⟨Eo, Ep, Eq, Er, Es, Et⟩ := Cmp.q6 D0; obtain ⟨Gc, Gd, Ge, Gf, Gg, Gh⟩ := Cmp.f6 D0; obtain ⟨Eu, Ev, Ew, Ex, Ey, Ez⟩ := Cmp.q6 D1; obtain ⟨Gi, Gj, Gk, Gl, Gm, Gn⟩ := Cmp.f6 D1) | ((with_reducible refine gate_callee (f := 38) rfl ?_); refine goesL_ (some 9) rfl rfl Tryd.func38 (by kernel_rfl) rfl #[.agg #[.bool a0_0, .string a0_1, .int .i64 a0_2], .agg #[.bool a1_0, .string a1_1, .int .i64 a1_2]] rfl Cmp.q ?_; (with_reducible refine (laws_eqOrigin.calls a0_0 a0_1 a0_2 a1_0 a1_1 a1_2 false _ A3.out).mono ?_); rintro e w30 ⟨rfl, hb⟩; refine ⟨_, rfl, ?_⟩; replace D0 := Cmp.be D0 hb; replace D1 := Cmp.be D1 hb; replace HB := Cmp.bs HB hb; (try clear hb); (try clear hb2); (try clear hk); (try clear hi)))
  go_ret
  exact ⟨by first | rfl | (simp [errW_none, errW_some] <;> rfl) | (simp [*, errW_none, errW_some] <;> rfl), Cmp.g HB.out⟩
/-! ### laws_eqTabS: function 24 -/
def laws_eqTabS.l0 : Nat → List (S49) → List (S49) → Int → Option (Bool)
  | 0, _, _, _ => none
  | k + 1, x0, x1, x5 => if x5 < (x0.length : Int) then (if 0 ≤ x5 then (if x5 < (x1.length : Int) then ((laws_eqTab.f ((rd_T49 x0 x5).f0.f0) ((rd_T49 x0 x5).f0.f1) ((rd_T49 x0 x5).f0.f2) ((rd_T49 x0 x5).f1.f0) ((rd_T49 x0 x5).f1.f1) ((rd_T49 x0 x5).f1.f2) ((rd_T49 x1 x5).f0.f0) ((rd_T49 x1 x5).f0.f1) ((rd_T49 x1 x5).f0.f2) ((rd_T49 x1 x5).f1.f0) ((rd_T49 x1 x5).f1.f1) ((rd_T49 x1 x5).f1.f2)).bind fun t236 => (if t236 = true then (laws_eqTabS.l0 k x0 x1 (wrap64 (x5 + 1))) else (some false))) else (none)) else (none)) else (some true)
def laws_eqTabS.f (k : Nat) (l0 : List (S49)) (l1 : List (S49)) : Option (Bool) := if (l0.length : Int) = (l1.length : Int) then (laws_eqTabS.l0 k l0 l1 0) else (some false)
theorem laws_eqTabS.mono_l : ∀ k, (∀ y0 y1 y2, LeO (laws_eqTabS.l0 k y0 y1 y2) (laws_eqTabS.l0 (k + 1) y0 y1 y2))
 | 0 => fun _ _ _ r h => by simp [laws_eqTabS.l0] at h
 | k + 1 => by
    have ih0 := laws_eqTabS.mono_l k
    · intro y0 y1 y2
      unfold laws_eqTabS.l0
      repeat' first
 | (with_reducible exact ih0 _ _ _)
 | (with_reducible exact LeO.refl _)
 | (with_reducible exact LeO.none _)
 | (with_reducible refine LeO.ite ?_ ?_)
 | (with_reducible refine LeO.bind ?_ (fun _ => ?_))
theorem laws_eqTabS.mono : ∀ a0 a1 k, LeO (laws_eqTabS.f k a0 a1) (laws_eqTabS.f (k + 1) a0 a1) := by
  intro a0 a1 k
  have ih0 := laws_eqTabS.mono_l k
  unfold laws_eqTabS.f
  repeat' first
 | (with_reducible exact ih0 _ _ _)
 | (with_reducible exact LeO.refl _)
 | (with_reducible exact LeO.none _)
 | (with_reducible refine LeO.ite ?_ ?_)
 | (with_reducible refine LeO.bind ?_ (fun _ => ?_))
def laws_eqTabS.T6 : Bool × List (List Nat × List Nat) := (true, [([], []), ([], []), ([0, 1], [0, 1]), ([2], [2]), ([], []), ([], []), ([4, 5], [4, 5]), ([6], [6]), ([3, 7], [3, 7]), ([8], [8])])
def laws_eqTabS.B6 : List Nat := [0, 0, 3, 7, 0, 0, 48, 112, 255, 511]
theorem laws_eqTabS.tab6 : rtab .any (opsOf Tryd.f24 6) = laws_eqTabS.T6 := by kernel_rfl
theorem laws_eqTabS.bits6 : waitsOk laws_eqTabS.T6.2 laws_eqTabS.B6 = true := by kernel_rfl
set_option maxHeartbeats 8000000 in
set_option maxRecDepth 100000 in
theorem laws_eqTabS.calls (k : Nat) (A0 : Option Addr) (c0 : Nat) (l0 : List (S49)) (A1 : Option Addr) (c1 : Nat) (l1 : List (S49)) (r : Bool) (w : World) (hr0 : Kd.C k49 w A0 l0.length l0) (hc0 : l0.length ≤ c0) (hr1 : Kd.C k49 w A1 l1.length l1) (hc1 : l1.length ≤ c1) (h : laws_eqTabS.f k l0 l1 = some r) :
    Calls Tryd.prog 24 #[.slice A0 l0.length c0, .slice A1 l1.length c1] w fun e w' => e = .returned (.bool r) ∧ Below w.heap.size w w' := by
 have hu49 := Tryd.underlying49; have HR0 := Cmp.A hr0; have HC0 := Cmp.A hc0; clear hr0 hc0; have HR1 := Cmp.A hr1; have HC1 := Cmp.A hc1; clear hr1 hc1
 have HB := Cmp.A (Below.refl w.heap.size w)
 have H : (if (l0.length : Int) = (l1.length : Int) then (laws_eqTabS.l0 k l0 l1 0) else (some false)) = some r := h
 clear h
 by_cases c3 : (l0.length : Int) = (l1.length : Int)
 ·rw [if_pos c3] at H
  have c3b0 : ((l0.length : Int) == (l1.length : Int)) = true := beq_iff_eq.mpr c3
  have c3b1 : ((l0.length : Int) != (l1.length : Int)) = false := bne_eq_false_iff_eq.mpr c3
  have c3b2 : (l0.length == l1.length) = true := by first | simpa using c3 | (simp at c3 ⊢; omega)
  clear c3
  have H' := Cmp.A H
  clear H
  go_enter Tryd.func24, Tryd.ntmps24
  go_wp2
  go_loopg [5] k (fun kq v5 w' => ∃ (D0 : Int), v5 = .int .i64 D0 ∧ Aside0 (laws_eqTabS.l0 kq l0 l1 D0 = some r) ∧ Aside0 (kq ≤ k) ∧ Aside0 (Below w.heap.size w w'))
  case atStart => exact ⟨(0), (by first | rfl | simp | simp [*]), H', ⟨Nat.le_refl _⟩, ⟨Cmp.g HB.out⟩⟩
  case round =>
   clear H'
   (try clear c1); (try clear c2); (try clear p2); (try clear c3); (try clear c3b0); (try clear c3b1); (try clear c3b2)
   obtain ⟨D0, rfl, HA, HK1, HB⟩ := hrel
   cases gk with
   | zero => exact absurd HA.out (by simp [laws_eqTabS.l0])
   | succ k1 =>
    have H := HA.out; clear HA
    simp only [laws_eqTabS.l0] at H
    by_cases c4 : D0 < (l0.length : Int)
    ·rw [if_pos c4] at H
     have c4b0 : decide (D0 < (l0.length : Int)) = true := decide_eq_true c4
     clear c4
     by_cases c5 : 0 ≤ D0
     ·rw [if_pos c5] at H; have c5b0 : decide (0 ≤ D0) = true := decide_eq_true c5; clear c5
      by_cases c6 : D0 < (l1.length : Int)
      ·rw [if_pos c6] at H
       have c6b0 : decide (D0 < (l1.length : Int)) = true := decide_eq_true c6
       clear c6; replace H := Option.bind_eq_some_iff.mp H; obtain ⟨Dr, Ds, H⟩ := H; (try dsimp only at H); have A7 := Cmp.A Ds; clear Ds
       by_cases c8 : Dr = true
       ·subst c8; rw [if_pos rfl] at H
        have H' := Cmp.A H
        clear H
        try go_wp2
        replace HB := Cmp.A (below_drew1 HB.out)
        have p234 : 0 ≤ (D0 : Int) := of_decide_eq_true Cmp.d
        have q234 : D0 < (l0.length : Int) := of_decide_eq_true Cmp.d
        obtain ⟨D1, e234, D3, D4, D5, D6, D7, D8⟩ := at_T49 HR0.out D0 p234 q234
        have Dk := D8; have Dj := D7; have Di := D6; have Dh := D5; have Dg := D4; have Df := D3; cases e234
        replace D3 := Cmp.hc HB D3
        replace D4 := Cmp.hc HB D4
        replace D5 := Cmp.hc HB D5
        replace D6 := Cmp.hc HB D6
        replace D7 := Cmp.hc HB D7
        replace D8 := Cmp.hc HB D8
        replace p234 := eq_true p234; replace q234 := eq_true q234
        have p235 : 0 ≤ (D0 : Int) := of_decide_eq_true Cmp.d
        have q235 : D0 < (l1.length : Int) := of_decide_eq_true Cmp.d
        obtain ⟨D2, e235, D9, Da, Db, Dc, Dd, De⟩ := at_T49 HR1.out D0 p235 q235
        have Dq := De; have Dp := Dd; have Do := Dc; have Dn := Db; have Dm := Da; have Dl := D9; cases e235
        replace D9 := Cmp.hc HB D9
        replace Da := Cmp.hc HB Da
        replace Db := Cmp.hc HB Db
        replace Dc := Cmp.hc HB Dc
        replace Dd := Cmp.hc HB Dd
        replace De := Cmp.hc HB De
        replace p235 := eq_true p235; replace q235 := eq_true q235
        refine start_ (n := 10) (S := fun w' => w'.cell? (D1.add ((D0).toNat * 6)) = some (.bool ((rd_T49 l0 D0).f0.f0)) ∧ w'.cell? ⟨(D1.add ((D0).toNat * 6)).block, (D1.add ((D0).toNat * 6)).off + 1, none⟩ = some (.string ((rd_T49 l0 D0).f0.f1)) ∧ w'.cell? ⟨(D1.add ((D0).toNat * 6)).block, (D1.add ((D0).toNat * 6)).off + 2, none⟩ = some (.int .i64 ((rd_T49 l0 D0).f0.f2)) ∧ w'.cell? ⟨(D1.add ((D0).toNat * 6)).block, (D1.add ((D0).toNat * 6)).off + 3, none⟩ = some (.bool ((rd_T49 l0 D0).f1.f0)) ∧ w'.cell? ⟨(D1.add ((D0).toNat * 6)).block, (D1.add ((D0).toNat * 6)).off + 4, none⟩ = some (.string ((rd_T49 l0 D0).f1.f1)) ∧ w'.cell? ⟨(D1.add ((D0).toNat * 6)).block, (D1.add ((D0).toNat * 6)).off + 5, none⟩ = some (.int .i64 ((rd_T49 l0 D0).f1.f2)) ∧ w'.cell? (D2.add ((D0).toNat * 6)) = some (.bool ((rd_T49 l1 D0).f0.f0)) ∧ w'.cell? ⟨(D2.add ((D0).toNat * 6)).block, (D2.add ((D0).toNat * 6)).off + 1, none⟩ = some (.string ((rd_T49 l1 D0).f0.f1)) ∧ w'.cell? ⟨(D2.add ((D0).toNat * 6)).block, (D2.add ((D0).toNat * 6)).off + 2, none⟩ = some (.int .i64 ((rd_T49 l1 D0).f0.f2)) ∧ w'.cell? ⟨(D2.add ((D0).toNat * 6)).block, (D2.add ((D0).toNat * 6)).off + 3, none⟩ = some (.bool ((rd_T49 l1 D0).f1.f0)) ∧ w'.cell? ⟨(D2.add ((D0).toNat * 6)).block, (D2.add ((D0).toNat * 6)).off + 4, none⟩ = some (.string ((rd_T49 l1 D0).f1.f1)) ∧ w'.cell? ⟨(D2.add ((D0).toNat * 6)).block, (D2.add ((D0).toNat * 6)).off + 5, none⟩ = some (.int .i64 ((rd_T49 l1 D0).f1.f2))) (ds := []) (Cmp.bm 0 10) (by kernel_rfl) rfl rfl ⟨(Cmp.hc HB Df :), (Cmp.hc HB Dg :), (Cmp.hc HB Dh :), (Cmp.hc HB Di :), (Cmp.hc HB Dj :), (Cmp.hc HB Dk :), (Cmp.hc HB Dl :), (Cmp.hc HB Dm :), (Cmp.hc HB Dn :), (Cmp.hc HB Do :), (Cmp.hc HB Dp :), (Cmp.hc HB Dq :)⟩ (fun hHeld => ?_); refine with_tabW laws_eqTabS.tab6 laws_eqTabS.bits6 (fun HT_ HW_ => ?_)
        generalize wr.drew = w9 at HB D3 D4 D5 D6 D7 D8 D9 Da Db Dc Dd De hHeld ⊢
        refine Cmp.pu HT_ 0 17 (Cmp.bm 1 9) ?_; refine Cmp.pu HT_ 1 18 (Cmp.bm 2 8) ?_; refine Cmp.pu HT_ 2 19 (Cmp.bm 3 7) ?_; refine Cmp.pu HT_ 4 21 (Cmp.bb 10 23) ?_; refine Cmp.pu HT_ 5 22 (Cmp.bb 10 55) ?_; refine Cmp.pu HT_ 6 23 (Cmp.bb 10 119) ?_; refine Cmp.tk HT_ HW_ hHeld 3 20 (Cmp.bm 7 3) ?_; refine Cmp.tk HT_ HW_ hHeld 7 24 (Cmp.bm 8 2) ?_
        refine one_ (i := 8) (N := some 25) (Cmp.bm 9 1) rfl rfl (one_of HT_.out (by kernel_rfl)) (by decide) (fun K hK => ?_)
        refine goes_ Tryd.func33 (by kernel_rfl) rfl #[.agg #[.bool ((rd_T49 l0 D0).f0.f0), .string ((rd_T49 l0 D0).f0.f1), .int .i64 ((rd_T49 l0 D0).f0.f2), .bool ((rd_T49 l0 D0).f1.f0), .string ((rd_T49 l0 D0).f1.f1), .int .i64 ((rd_T49 l0 D0).f1.f2)], .agg #[.bool ((rd_T49 l1 D0).f0.f0), .string ((rd_T49 l1 D0).f0.f1), .int .i64 ((rd_T49 l1 D0).f0.f2), .bool ((rd_T49 l1 D0).f1.f0), .string ((rd_T49 l1 D0).f1.f1), .int .i64 ((rd_T49 l1 D0).f1.f2)]] (by rfl) rfl rfl Cmp.q ?_
        with_reducible refine (laws_eqTab.calls ((rd_T49 l0 D0).f0.f0) ((rd_T49 l0 D0).f0.f1) ((rd_T49 l0 D0).f0.f2) ((rd_T49 l0 D0).f1.f0) ((rd_T49 l0 D0).f1.f1) ((rd_T49 l0 D0).f1.f2) ((rd_T49 l1 D0).f0.f0) ((rd_T49 l1 D0).f0.f1) ((rd_T49 l1 D0).f0.f2) ((rd_T49 l1 D0).f1.f0) ((rd_T49 l1 D0).f1.f1) ((rd_T49 l1 D0).f1.f2) true _ A7.out).mono ?_
        rintro e w10 ⟨rfl, hb⟩; refine ⟨_, rfl, ?_⟩
        replace HB := Cmp.A (below_step (Cmp.g HB.out) hb); (try clear hb); (try clear hb2); (try clear hk); (try clear hi)
        refine hK.out _ _ ⟨(Cmp.hc HB Df :), (Cmp.hc HB Dg :), (Cmp.hc HB Dh :), (Cmp.hc HB Di :), (Cmp.hc HB Dj :), (Cmp.hc HB Dk :), (Cmp.hc HB Dl :), (Cmp.hc HB Dm :), (Cmp.hc HB Dn :), (Cmp.hc HB Do :), (Cmp.hc HB Dp :), (Cmp.hc HB Dq :)⟩ (fun hHeld => ?_)
        clear hK K
        refine Cmp.no ?_
        refine Cmp.pu HT_ 9 26 (Cmp.bm 10 0) ?_
        refine done_ (done_of HT_.out (by kernel_rfl)) ?_
        try go_wp2
        go_roundg k1
        case measure => have := HK1.out; omega
        case rel => exact ⟨(wrap64 (D0 + 1)), (by first | rfl | simp | simp [*]), H', ⟨by have := HK1.out; omega⟩, ⟨Cmp.g HB.out⟩⟩
       ·replace c8 := Bool.eq_false_iff.mpr c8
        subst c8
        have H1 : (some false) = some r := by rw [if_neg (show ¬ (false = true) by decide)] at H; exact H
        clear H; have H := H1; clear H1
        obtain rfl := Option.some.inj H
        try go_wp2
        replace HB := Cmp.A (below_drew1 HB.out)
        have p234 : 0 ≤ (D0 : Int) := of_decide_eq_true Cmp.d
        have q234 : D0 < (l0.length : Int) := of_decide_eq_true Cmp.d
        obtain ⟨D1, e234, D3, D4, D5, D6, D7, D8⟩ := at_T49 HR0.out D0 p234 q234
        have Dk := D8; have Dj := D7; have Di := D6; have Dh := D5; have Dg := D4; have Df := D3; cases e234
        replace D3 := Cmp.hc HB D3
        replace D4 := Cmp.hc HB D4
        replace D5 := Cmp.hc HB D5
        replace D6 := Cmp.hc HB D6
        replace D7 := Cmp.hc HB D7
        replace D8 := Cmp.hc HB D8
        replace p234 := eq_true p234; replace q234 := eq_true q234
        have p235 : 0 ≤ (D0 : Int) := of_decide_eq_true Cmp.d
        have q235 : D0 < (l1.length : Int) := of_decide_eq_true Cmp.d
        obtain ⟨D2, e235, D9, Da, Db, Dc, Dd, De⟩ := at_T49 HR1.out D0 p235 q235
        have Dq := De; have Dp := Dd; have Do := Dc; have Dn := Db; have Dm := Da; have Dl := D9; cases e235
        replace D9 := Cmp.hc HB D9
        replace Da := Cmp.hc HB Da
        replace Db := Cmp.hc HB Db
        replace Dc := Cmp.hc HB Dc
        replace Dd := Cmp.hc HB Dd
        replace De := Cmp.hc HB De
        replace p235 := eq_true p235; replace q235 := eq_true q235
        refine start_ (n := 10) (S := fun w' => w'.cell? (D1.add ((D0).toNat * 6)) = some (.bool ((rd_T49 l0 D0).f0.f0)) ∧ w'.cell? ⟨(D1.add ((D0).toNat * 6)).block, (D1.add ((D0).toNat * 6)).off + 1, none⟩ = some (.string ((rd_T49 l0 D0).f0.f1)) ∧ w'.cell? ⟨(D1.add ((D0).toNat * 6)).block, (D1.add ((D0).toNat * 6)).off + 2, none⟩ = some (.int .i64 ((rd_T49 l0 D0).f0.f2)) ∧ w'.cell? ⟨(D1.add ((D0).toNat * 6)).block, (D1.add ((D0).toNat * 6)).off + 3, none⟩ = some (.bool ((rd_T49 l0 D0).f1.f0)) ∧ w'.cell? ⟨(D1.add ((D0).toNat * 6)).block, (D1.add ((D0).toNat * 6)).off + 4, none⟩ = some (.string ((rd_T49 l0 D0).f1.f1)) ∧ w'.cell? ⟨(D1.add ((D0).toNat * 6)).block, (D1.add ((D0).toNat * 6)).off + 5, none⟩ = some (.int .i64 ((rd_T49 l0 D0).f1.f2)) ∧ w'.cell? (D2.add ((D0).toNat * 6)) = some (.bool ((rd_T49 l1 D0).f0.f0)) ∧ w'.cell? ⟨(D2.add ((D0).toNat * 6)).block, (D2.add ((D0).toNat * 6)).off + 1, none⟩ = some (.string ((rd_T49 l1 D0).f0.f1)) ∧ w'.cell? ⟨(D2.add ((D0).toNat * 6)).block, (D2.add ((D0).toNat * 6)).off + 2, none⟩ = some (.int .i64 ((rd_T49 l1 D0).f0.f2)) ∧ w'.cell? ⟨(D2.add ((D0).toNat * 6)).block, (D2.add ((D0).toNat * 6)).off + 3, none⟩ = some (.bool ((rd_T49 l1 D0).f1.f0)) ∧ w'.cell? ⟨(D2.add ((D0).toNat * 6)).block, (D2.add ((D0).toNat * 6)).off + 4, none⟩ = some (.string ((rd_T49 l1 D0).f1.f1)) ∧ w'.cell? ⟨(D2.add ((D0).toNat * 6)).block, (D2.add ((D0).toNat * 6)).off + 5, none⟩ = some (.int .i64 ((rd_T49 l1 D0).f1.f2))) (ds := []) (Cmp.bm 0 10) (by kernel_rfl) rfl rfl ⟨(Cmp.hc HB Df :), (Cmp.hc HB Dg :), (Cmp.hc HB Dh :), (Cmp.hc HB Di :), (Cmp.hc HB Dj :), (Cmp.hc HB Dk :), (Cmp.hc HB Dl :), (Cmp.hc HB Dm :), (Cmp.hc HB Dn :), (Cmp.hc HB Do :), (Cmp.hc HB Dp :), (Cmp.hc HB Dq :)⟩ (fun hHeld => ?_); refine with_tabW laws_eqTabS.tab6 laws_eqTabS.bits6 (fun HT_ HW_ => ?_)
        generalize wr.drew = w11 at HB D3 D4 D5 D6 D7 D8 D9 Da Db Dc Dd De hHeld ⊢
        refine Cmp.pu HT_ 0 17 (Cmp.bm 1 9) ?_; refine Cmp.pu HT_ 1 18 (Cmp.bm 2 8) ?_; refine Cmp.pu HT_ 2 19 (Cmp.bm 3 7) ?_; refine Cmp.pu HT_ 4 21 (Cmp.bb 10 23) ?_; refine Cmp.pu HT_ 5 22 (Cmp.bb 10 55) ?_; refine Cmp.pu HT_ 6 23 (Cmp.bb 10 119) ?_; refine Cmp.tk HT_ HW_ hHeld 3 20 (Cmp.bm 7 3) ?_; refine Cmp.tk HT_ HW_ hHeld 7 24 (Cmp.bm 8 2) ?_
        refine one_ (i := 8) (N := some 25) (Cmp.bm 9 1) rfl rfl (one_of HT_.out (by kernel_rfl)) (by decide) (fun K hK => ?_)
        refine goes_ Tryd.func33 (by kernel_rfl) rfl #[.agg #[.bool ((rd_T49 l0 D0).f0.f0), .string ((rd_T49 l0 D0).f0.f1), .int .i64 ((rd_T49 l0 D0).f0.f2), .bool ((rd_T49 l0 D0).f1.f0), .string ((rd_T49 l0 D0).f1.f1), .int .i64 ((rd_T49 l0 D0).f1.f2)], .agg #[.bool ((rd_T49 l1 D0).f0.f0), .string ((rd_T49 l1 D0).f0.f1), .int .i64 ((rd_T49 l1 D0).f0.f2), .bool ((rd_T49 l1 D0).f1.f0), .string ((rd_T49 l1 D0).f1.f1), .int .i64 ((rd_T49 l1 D0).f1.f2)]] (by rfl) rfl rfl Cmp.q ?_
        with_reducible refine (laws_eqTab.calls ((rd_T49 l0 D0).f0.f0) ((rd_T49 l0 D0).f0.f1) ((rd_T49 l0 D0).f0.f2) ((rd_T49 l0 D0).f1.f0) ((rd_T49 l0 D0).f1.f1) ((rd_T49 l0 D0).f1.f2) ((rd_T49 l1 D0).f0.f0) ((rd_T49 l1 D0).f0.f1) ((rd_T49 l1 D0).f0.f2) ((rd_T49 l1 D0).f1.f0) ((rd_T49 l1 D0).f1.f1) ((rd_T49 l1 D0).f1.f2) false _ A7.out).mono ?_
        rintro e w12 ⟨rfl, hb⟩; refine ⟨_, rfl, ?_⟩
        replace HB := Cmp.A (below_step (Cmp.g HB.out) hb); (try clear hb); (try clear hb2); (try clear hk); (try clear hi)
        refine hK.out _ _ ⟨(Cmp.hc HB Df :), (Cmp.hc HB Dg :), (Cmp.hc HB Dh :), (Cmp.hc HB Di :), (Cmp.hc HB Dj :), (Cmp.hc HB Dk :), (Cmp.hc HB Dl :), (Cmp.hc HB Dm :), (Cmp.hc HB Dn :), (Cmp.hc HB Do :), (Cmp.hc HB Dp :), (Cmp.hc HB Dq :)⟩ (fun hHeld => ?_)
        clear hK K
        refine Cmp.no ?_
        refine Cmp.pu HT_ 9 26 (Cmp.bm 10 0) ?_
        refine done_ (done_of HT_.out (by kernel_rfl)) ?_
        try go_wp2
        go_ret
        exact ⟨by first | rfl | (simp [errW_none, errW_some] <;> rfl) | (simp [*, errW_none, errW_some] <;> rfl), Cmp.g HB.out⟩
      ·rw [if_neg c6] at H; exact absurd H (by simp)
     ·rw [if_neg c5] at H; exact absurd H (by simp)
    ·rw [if_neg c4] at H
     have c4b0 : decide (D0 < (l0.length : Int)) = false := decide_eq_false c4
     clear c4
     obtain rfl := Option.some.inj H
     go_wp2
     go_ret
     exact ⟨by first | rfl | (simp [errW_none, errW_some] <;> rfl) | (simp [*, errW_none, errW_some] <;> rfl), Cmp.g HB.out⟩
 ·rw [if_neg c3] at H
  have c3b0 : ((l0.length : Int) == (l1.length : Int)) = false := beq_eq_false_iff_ne.mpr c3
  have c3b1 : ((l0.length : Int) != (l1.length : Int)) = true := bne_iff_ne.mpr c3
  have c3b2 : (l0.length == l1.length) = false := by first | simpa using c3 | (simp at c3 ⊢; omega)
  obtain rfl := Option.some.inj H
  go_enter Tryd.func24, Tryd.ntmps24
  go_wp2
  go_ret
  exact ⟨by first | rfl | (simp [errW_none, errW_some] <;> rfl) | (simp [*, errW_none, errW_some] <;> rfl), Cmp.g HB.out⟩
/-! ### laws_eqBrowser: function 11 -/
def laws_eqBrowser.f (k : Nat) (a0_0 : Int) (a0_1 : Int) (a0_2 : Int) (a0_3 : Int) (l0_4 : List (S49)) (a0_5 : Int) (a1_0 : Int) (a1_1 : Int) (a1_2 : Int) (a1_3 : Int) (l1_4 : List (S49)) (a1_5 : Int) : Option (Bool) := (laws_eqKeyStore.f a0_0 a0_1 a0_2 a0_3 a1_0 a1_1 a1_2 a1_3).bind fun t239 => (if t239 = true then ((laws_eqTabS.f k l0_4 l1_4).bind fun t240 => (if t240 = true then (if a0_5 = a1_5 then (some true) else (some false)) else (some false))) else (some false))
theorem laws_eqBrowser.mono : ∀ a0 a1 a2 a3 a4 a5 a6 a7 a8 a9 a10 a11 k, LeO (laws_eqBrowser.f k a0 a1 a2 a3 a4 a5 a6 a7 a8 a9 a10 a11) (laws_eqBrowser.f (k + 1) a0 a1 a2 a3 a4 a5 a6 a7 a8 a9 a10 a11) := by
  intro a0 a1 a2 a3 a4 a5 a6 a7 a8 a9 a10 a11 k
  unfold laws_eqBrowser.f
  repeat' first
 | (with_reducible exact laws_eqTabS.mono _ _ _)
 | (with_reducible exact LeO.refl _)
 | (with_reducible exact LeO.none _)
 | (with_reducible refine LeO.ite ?_ ?_)
 | (with_reducible refine LeO.bind ?_ (fun _ => ?_))
set_option maxHeartbeats 8000000 in
set_option maxRecDepth 100000 in
theorem laws_eqBrowser.calls (k : Nat) (a0_0 : Int) (a0_1 : Int) (a0_2 : Int) (a0_3 : Int) (A0_4 : Option Addr) (c0_4 : Nat) (l0_4 : List (S49)) (a0_5 : Int) (a1_0 : Int) (a1_1 : Int) (a1_2 : Int) (a1_3 : Int) (A1_4 : Option Addr) (c1_4 : Nat) (l1_4 : List (S49)) (a1_5 : Int) (r : Bool) (w : World) (hr0_4 : Kd.C k49 w A0_4 l0_4.length l0_4) (hc0_4 : l0_4.length ≤ c0_4) (hr1_4 : Kd.C k49 w A1_4 l1_4.length l1_4) (hc1_4 : l1_4.length ≤ c1_4) (h : laws_eqBrowser.f k a0_0 a0_1 a0_2 a0_3 l0_4 a0_5 a1_0 a1_1 a1_2 a1_3 l1_4 a1_5 = some r) :
    Calls Tryd.prog 11 #[.agg #[.int .i64 a0_0, .int .i64 a0_1, .int .i64 a0_2, .int .i64 a0_3, .slice A0_4 l0_4.length c0_4, .int .i64 a0_5], .agg #[.int .i64 a1_0, .int .i64 a1_1, .int .i64 a1_2, .int .i64 a1_3, .slice A1_4 l1_4.length c1_4, .int .i64 a1_5]] w fun e w' => e = .returned (.bool r) ∧ Below w.heap.size w w' := by
 have hu34 := Tryd.underlying34; have hu31 := Tryd.underlying31; have D8 := Cmp.A hr0_4; have HC0_4 := Cmp.A hc0_4; clear hr0_4 hc0_4; have D9 := Cmp.A hr1_4; have HC1_4 := Cmp.A hc1_4; clear hr1_4 hc1_4
 have HB := Cmp.A (Below.refl w.heap.size w)
 have H : ((laws_eqKeyStore.f a0_0 a0_1 a0_2 a0_3 a1_0 a1_1 a1_2 a1_3).bind fun Dc => (if Dc = true then ((laws_eqTabS.f k l0_4 l1_4).bind fun Dd => (if Dd = true then (if a0_5 = a1_5 then (some true) else (some false)) else (some false))) else (some false))) = some r := h
 clear h; replace H := Option.bind_eq_some_iff.mp H; obtain ⟨Dc, Lf, H⟩ := H; (try dsimp only at H); have A3 := Cmp.A Lf; clear Lf
 by_cases c4 : Dc = true
 ·subst c4; rw [if_pos rfl] at H; replace H := Option.bind_eq_some_iff.mp H; obtain ⟨Dd, Lg, H⟩ := H; (try dsimp only at H); have A5 := Cmp.A Lg; clear Lg
  by_cases c6 : Dd = true
  ·subst c6; rw [if_pos rfl] at H
   by_cases c7 : a0_5 = a1_5
   ·rw [if_pos c7] at H; have c7b0 : (a0_5 == a1_5) = true := beq_iff_eq.mpr c7; have c7b1 : (a0_5 != a1_5) = false := bne_eq_false_iff_eq.mpr c7; clear c7
    obtain rfl := Option.some.inj H
    go_enter Tryd.func11, Tryd.ntmps11
    go_wp2_with (first | ((with_reducible refine gate_dst (N := 2) rfl ?_); refine box_event ?hg (N := 2) ?hd (cs := #[.int .i64 a0_0, .int .i64 a0_1, .int .i64 a0_2, .int .i64 a0_3, .slice A0_4 l0_4.length c0_4, .int .i64 a0_5]) (t := 34) ?hr ?_; (case hd => rfl); (case hg => rfl); (case hr => first | (go_simp; done) | (go_simp; rfl)); intro Da hg w8 hbox hb; have D0 := Cmp.A (hbox); have D6 := Cmp.gw hg HB; have D4 := Cmp.gw hg HB; replace HB := Cmp.bs HB hb; clear hb hbox hg) | ((with_reducible refine gate_dst (N := 3) rfl ?_); refine box_event ?hg (N := 3) ?hd (cs := #[.int .i64 a1_0, .int .i64 a1_1, .int .i64 a1_2, .int .i64 a1_3, .slice A1_4 l1_4.length c1_4, .int .i64 a1_5]) (t := 34) ?hr ?_; (case hd => rfl); (case hg => rfl); (case hr => first | (go_simp; done) | (go_simp; rfl)); intro Db hg w9 hbox hb; have D1 := Cmp.A (hbox); have D7 := Cmp.gw hg HB; have D5 := Cmp.gw hg HB; have D2 := Cmp.nl hg D0; have D3 := Cmp.ng hg D0; replace D0 := Cmp.be D0 hb; replace HB := Cmp.bs HB hb; clear hb hbox hg; have Lh := D2.out; have Ll := D3.out; obtain ⟨De, Df, Dg, Dh, Di, Dj⟩ := Cmp.q6 D0; obtain ⟨Ge, Gf, Gg, Gh, Gi, Gj⟩ := Cmp.f6 D0; obtain ⟨Dk, Dl, Dm, Dn, Do, Dp⟩ := Cmp.q6 D1; obtain ⟨Gk, Gl, Gm, Gn, Go, Gp⟩ := Cmp.f6 D1) | ((with_reducible refine gate_callee (f := 23) rfl ?_); refine goesL_ (some 9) rfl rfl Tryd.func23 (by kernel_rfl) rfl #[.agg #[.int .i64 a0_0, .int .i64 a0_1, .int .i64 a0_2, .int .i64 a0_3], .agg #[.int .i64 a1_0, .int .i64 a1_1, .int .i64 a1_2, .int .i64 a1_3]] rfl Cmp.q ?_; (with_reducible refine (laws_eqKeyStore.calls a0_0 a0_1 a0_2 a0_3 a1_0 a1_1 a1_2 a1_3 true _ A3.out).mono ?_); rintro e w13 ⟨rfl, hb⟩; refine ⟨_, rfl, ?_⟩; replace D0 := Cmp.be D0 hb; replace D1 := Cmp.be D1 hb; replace HB := Cmp.bs HB hb; (try clear hb); (try clear hb2); (try clear hk); (try clear hi); obtain ⟨Dq, Dr, Ds, Dt, Du, Dv⟩ := Cmp.q6 D0; obtain ⟨Gq, Gr, Gs, Gt, Gu, Gv⟩ := Cmp.f6 D0; obtain ⟨Dw, Dx, Dy, Dz, E0, E1⟩ := Cmp.q6 D1; obtain ⟨Gw, Gx, Gy, Gz, J0, J1⟩ := Cmp.f6 D1) | ((with_reducible refine gate_callee (f := 24) rfl ?_); refine goesL_ (some 15) rfl rfl Tryd.func24 (by kernel_rfl) rfl #[.slice A0_4 l0_4.length c0_4, .slice A1_4 l1_4.length c1_4] rfl Cmp.q ?_; (with_reducible refine (laws_eqTabS.calls k _ _ l0_4 _ _ l1_4 true _ ?side1 ?side2 ?side3 ?side4 A5.out).mono ?_); (case side1 => exact Cmp.rc (Kd.C_below D8.out HB.out)); (case side2 => exact HC0_4.out); (case side3 => exact Cmp.rc (Kd.C_below D9.out HB.out)); (case side4 => exact HC1_4.out); rintro e w16 ⟨rfl, hb⟩; refine ⟨_, rfl, ?_⟩; replace D0 := Cmp.be D0 hb; replace D1 := Cmp.be D1 hb; replace HB := Cmp.bs HB hb; (try clear hb); (try clear hb2); (try clear hk); (try clear hi); obtain ⟨E2, E3, E4, E5, E6, E7⟩ := Cmp.q6 D0; obtain ⟨J2, J3, J4, J5, J6, J7⟩ := Cmp.f6 D0; obtain ⟨E8, E9, Ea, Eb, Ec, Ed⟩ := Cmp.q6 D1; obtain ⟨J8, J9, Ja, Jb, Jc, Jd⟩ := Cmp.f6 D1))
    go_ret
    exact ⟨by first | rfl | (simp [errW_none, errW_some] <;> rfl) | (simp [*, errW_none, errW_some] <;> rfl), Cmp.g HB.out⟩
   ·rw [if_neg c7] at H; have c7b0 : (a0_5 == a1_5) = false := beq_eq_false_iff_ne.mpr c7; have c7b1 : (a0_5 != a1_5) = true := bne_iff_ne.mpr c7
    obtain rfl := Option.some.inj H
    go_enter Tryd.func11, Tryd.ntmps11
    go_wp2_with (first | ((with_reducible refine gate_dst (N := 2) rfl ?_); refine box_event ?hg (N := 2) ?hd (cs := #[.int .i64 a0_0, .int .i64 a0_1, .int .i64 a0_2, .int .i64 a0_3, .slice A0_4 l0_4.length c0_4, .int .i64 a0_5]) (t := 34) ?hr ?_; (case hd => rfl); (case hg => rfl); (case hr => first | (go_simp; done) | (go_simp; rfl)); intro Da hg w19 hbox hb; have D0 := Cmp.A (hbox); have D6 := Cmp.gw hg HB; have D4 := Cmp.gw hg HB; replace HB := Cmp.bs HB hb; clear hb hbox hg) | ((with_reducible refine gate_dst (N := 3) rfl ?_); refine box_event ?hg (N := 3) ?hd (cs := #[.int .i64 a1_0, .int .i64 a1_1, .int .i64 a1_2, .int .i64 a1_3, .slice A1_4 l1_4.length c1_4, .int .i64 a1_5]) (t := 34) ?hr ?_; (case hd => rfl); (case hg => rfl); (case hr => first | (go_simp; done) | (go_simp; rfl)); intro Db hg w20 hbox hb; have D1 := Cmp.A (hbox); have D7 := Cmp.gw hg HB; have D5 := Cmp.gw hg HB; have D2 := Cmp.nl hg D0; have D3 := Cmp.ng hg D0; replace D0 := Cmp.be D0 hb; replace HB := Cmp.bs HB hb; clear hb hbox hg; have Li := D2.out; have Lm := D3.out; obtain ⟨Ee, Ef, Eg, Eh, Ei, Ej⟩ := Cmp.q6 D0; obtain ⟨Je, Jf, Jg, Jh, Ji, Jj⟩ := Cmp.f6 D0; obtain ⟨Ek, El, Em, En, Eo, Ep⟩ := Cmp.q6 D1; obtain ⟨Jk, Jl, Jm, Jn, Jo, Jp⟩ := Cmp.f6 D1) | ((with_reducible refine gate_callee (f := 23) rfl ?_); refine goesL_ (some 9) rfl rfl Tryd.func23 (by kernel_rfl) rfl #[.agg #[.int .i64 a0_0, .int .i64 a0_1, .int .i64 a0_2, .int .i64 a0_3], .agg #[.int .i64 a1_0, .int .i64 a1_1, .int .i64 a1_2, .int .i64 a1_3]] rfl Cmp.q ?_; (with_reducible refine (laws_eqKeyStore.calls a0_0 a0_1 a0_2 a0_3 a1_0 a1_1 a1_2 a1_3 true _ A3.out).mono ?_); rintro e w24 ⟨rfl, hb⟩; refine ⟨_, rfl, ?_⟩; replace D0 := Cmp.be D0 hb; replace D1 := Cmp.be D1 hb; replace HB := Cmp.bs HB hb; (try clear hb); (try clear hb2); (try clear hk); (try clear hi); obtain ⟨Eq, Er, Es, Et, Eu, Ev⟩ := Cmp.q6 D0; obtain ⟨Jq, Jr, Js, Jt, Ju, Jv⟩ := Cmp.f6 D0; obtain ⟨Ew, Ex, Ey, Ez, F0, F1⟩ := Cmp.q6 D1; obtain ⟨Jw, Jx, Jy, Jz, K0, K1⟩ := Cmp.f6 D1) | ((with_reducible refine gate_callee (f := 24) rfl ?_); refine goesL_ (some 15) rfl rfl Tryd.func24 (by kernel_rfl) rfl #[.slice A0_4 l0_4.length c0_4, .slice A1_4 l1_4.length c1_4] rfl Cmp.q ?_; (with_reducible refine (laws_eqTabS.calls k _ _ l0_4 _ _ l1_4 true _ ?side1 ?side2 ?side3 ?side4 A5.out).mono ?_); (case side1 => exact Cmp.rc (Kd.C_below D8.out HB.out)); (case side2 => exact HC0_4.out); (case side3 => exact Cmp.rc (Kd.C_below D9.out HB.out)); (case side4 => exact HC1_4.out); rintro e w27 ⟨rfl, hb⟩; refine ⟨_, rfl, ?_⟩; replace D0 := Cmp.be D0 hb; replace D1 := Cmp.be D1 hb; replace HB := Cmp.bs HB hb; (try clear hb); (try clear hb2); (try clear hk); (try clear hi); obtain ⟨F2, F3, F4, F5, F6, F7⟩ := Cmp.q6 D0; obtain ⟨K2, K3, K4, K5, K6, K7⟩ := Cmp.f6 D0; obtain ⟨F8, F9, Fa, Fb, Fc, Fd⟩ := Cmp.q6 D1; obtain ⟨K8, K9, Ka, Kb, Kc, Ke⟩ := Cmp.f6 D1))
    go_ret
    exact ⟨by first | rfl | (simp [errW_none, errW_some] <;> rfl) | (simp [*, errW_none, errW_some] <;> rfl), Cmp.g HB.out⟩
  ·replace c6 := Bool.eq_false_iff.mpr c6
   subst c6
   have H1 : (some false) = some r := by rw [if_neg (show ¬ (false = true) by decide)] at H; exact H
   clear H; have H := H1; clear H1
   obtain rfl := Option.some.inj H
   go_enter Tryd.func11, Tryd.ntmps11
   go_wp2_with (first | ((with_reducible refine gate_dst (N := 2) rfl ?_); refine box_event ?hg (N := 2) ?hd (cs := #[.int .i64 a0_0, .int .i64 a0_1, .int .i64 a0_2, .int .i64 a0_3, .slice A0_4 l0_4.length c0_4, .int .i64 a0_5]) (t := 34) ?hr ?_; (case hd => rfl); (case hg => rfl); (case hr => first | (go_simp; done) | (go_simp; rfl)); intro Da hg w30 hbox hb; have D0 := Cmp.A (hbox); have D6 := Cmp.gw hg HB; have D4 := Cmp.gw hg HB; replace HB := Cmp.bs HB hb; clear hb hbox hg) | ((with_reducible refine gate_dst (N := 3) rfl ?_); refine box_event ?hg (N := 3) ?hd (cs := #[.int .i64 a1_0, .int .i64 a1_1, .int .i64 a1_2, .int .i64 a1_3, .slice A1_4 l1_4.length c1_4, .int .i64 a1_5]) (t := 34) ?hr ?_; (case hd => rfl); (case hg => rfl); (case hr => first | (go_simp; done) | (go_simp; rfl)); intro Db hg w31 hbox hb; have D1 := Cmp.A (hbox); have D7 := Cmp.gw hg HB; have D5 := Cmp.gw hg HB; have D2 := Cmp.nl hg D0; have D3 := Cmp.ng hg D0; replace D0 := Cmp.be D0 hb; replace HB := Cmp.bs HB hb; clear hb hbox hg; have Lj := D2.out; have Ln := D3.out; obtain ⟨Fe, Ff, Fg, Fh, Fi, Fj⟩ := Cmp.q6 D0; obtain ⟨Kf, Kg, Kh, Ki, Kj, Kk⟩ := Cmp.f6 D0; obtain ⟨Fk, Fl, Fm, Fn, Fo, Fp⟩ := Cmp.q6 D1; obtain ⟨Kl, Km, Kn, Ko, Kp, Kq⟩ := Cmp.f6 D1) | ((with_reducible refine gate_callee (f := 23) rfl ?_); refine goesL_ (some 9) rfl rfl Tryd.func23 (by kernel_rfl) rfl #[.agg #[.int .i64 a0_0, .int .i64 a0_1, .int .i64 a0_2, .int .i64 a0_3], .agg #[.int .i64 a1_0, .int .i64 a1_1, .int .i64 a1_2, .int .i64 a1_3]] rfl Cmp.q ?_; (with_reducible refine (laws_eqKeyStore.calls a0_0 a0_1 a0_2 a0_3 a1_0 a1_1 a1_2 a1_3 true _ A3.out).mono ?_); rintro e w35 ⟨rfl, hb⟩; refine ⟨_, rfl, ?_⟩; replace D0 := Cmp.be D0 hb; replace D1 := Cmp.be D1 hb; replace HB := Cmp.bs HB hb; (try clear hb); (try clear hb2); (try clear hk); (try clear hi); obtain ⟨Fq, Fr, Fs, Ft, Fu, Fv⟩ := Cmp.q6 D0; obtain ⟨Kr, Ks, Kt, Ku, Kv, Kw⟩ := Cmp.f6 D0; obtain ⟨Fw, Fx, Fy, Fz, G0, G1⟩ := Cmp.q6 D1; obtain ⟨Kx, Ky, Kz, L0, L1, L2⟩ := Cmp.f6 D1) | ((with_reducible refine gate_callee (f := 24) rfl ?_); refine goesL_ (some 15) rfl rfl Tryd.func24 (by kernel_rfl) rfl #[.slice A0_4 l0_4.length c0_4, .slice A1_4 l1_4.length c1_4] rfl Cmp.q ?_; (with_reducible refine (laws_eqTabS.calls k _ _ l0_4 _ _ l1_4 false _ ?side1 ?side2 ?side3 ?side4 A5.out).mono ?_); (case side1 => exact Cmp.rc (Kd.C_below D8.out HB.out)); (case side2 => exact HC0_4.out); (case side3 => exact Cmp.rc (Kd.C_below D9.out HB.out)); (case side4 => exact HC1_4.out); rintro e w38 ⟨rfl, hb⟩; refine ⟨_, rfl, ?_⟩; replace D0 := Cmp.be D0 hb; replace D1 := Cmp.be D1 hb; replace HB := Cmp.bs HB hb; (try clear hb); (try clear hb2); (try clear hk); (try clear hi)))
   go_ret
   exact ⟨by first | rfl | (simp [errW_none, errW_some] <;> rfl) | (simp [*, errW_none, errW_some] <;> rfl), Cmp.g HB.out⟩
 ·replace c4 := Bool.eq_false_iff.mpr c4
  subst c4
  have H1 : (some false) = some r := by rw [if_neg (show ¬ (false = true) by decide)] at H; exact H
  clear H; have H := H1; clear H1
  obtain rfl := Option.some.inj H
  go_enter Tryd.func11, Tryd.ntmps11
  go_wp2_with (first | ((with_reducible refine gate_dst (N := 2) rfl ?_); refine box_event ?hg (N := 2) ?hd (cs := #[.int .i64 a0_0, .int .i64 a0_1, .int .i64 a0_2, .int .i64 a0_3, .slice A0_4 l0_4.length c0_4, .int .i64 a0_5]) (t := 34) ?hr ?_; (case hd => rfl); (case hg => rfl); (case hr => first | (go_simp; done) | (go_simp; rfl)); intro Da hg w39 hbox hb; have D0 := Cmp.A (hbox); have D6 := Cmp.gw hg HB; have D4 := Cmp.gw hg HB; replace HB := Cmp.bs HB hb; clear hb hbox hg) | ((with_reducible refine gate_dst (N := 3) rfl ?_); refine box_event ?hg (N := 3) ?hd (cs := #[.int .i64 a1_0, .int .i64 a1_1, .int .i64 a1_2, .int .i64 a1_3, .slice A1_4 l1_4.length c1_4, .int .i64 a1_5]) (t := 34) ?hr ?_; (case hd => rfl); (case hg => rfl); (case hr => first | (go_simp; done) | (go_simp; rfl)); intro Db hg w40 hbox hb; have D1 := Cmp.A (hbox); have D7 := Cmp.gw hg HB; have D5 := Cmp.gw hg HB; have D2 := Cmp.nl hg D0; have D3 := Cmp.ng hg D0; replace D0 := Cmp.be D0 hb; replace HB := Cmp.bs HB hb; clear hb hbox hg; have Lk := D2.out; have Lo := D3.out; obtain ⟨G2, G3, G4, G5, G6, G7⟩ := Cmp.q6 D0; obtain ⟨L3, L4, L5, L6, L7, L8⟩ := Cmp.f6 D0; obtain ⟨G8, G9, Ga, Gb, Gc, Gd⟩ := Cmp.q6 D1; obtain ⟨L9, La, Lb, Lc, Ld, Le⟩ := Cmp.f6 D1) | ((with_reducible refine gate_callee (f := 23) rfl ?_); refine goesL_ (some 9) rfl rfl Tryd.func23 (by kernel_rfl) rfl #[.agg #[.int .i64 a0_0, .int .i64 a0_1, .int .i64 a0_2, .int .i64 a0_3], .agg #[.int .i64 a1_0, .int .i64 a1_1, .int .i64 a1_2, .int .i64 a1_3]] rfl Cmp.q ?_; (with_reducible refine (laws_eqKeyStore.calls a0_0 a0_1 a0_2 a0_3 a1_0 a1_1 a1_2 a1_3 false _ A3.out).mono ?_); rintro e w44 ⟨rfl, hb⟩; refine ⟨_, rfl, ?_⟩; replace D0 := Cmp.be D0 hb; replace D1 := Cmp.be D1 hb; replace HB := Cmp.bs HB hb; (try clear hb); (try clear hb2); (try clear hk); (try clear hi)))
  go_ret
  exact ⟨by first | rfl | (simp [errW_none, errW_some] <;> rfl) | (simp [*, errW_none, errW_some] <;> rfl), Cmp.g HB.out⟩
/-! ### laws_markText: function 34 -/
def laws_markText.l0 : Nat → Int → ByteArray → Option (ByteArray)
  | 0, _, _ => none
  | k + 1, x0, x3 => if x0 > 0 then ((some (([(wrap64 (48 + (Int.tmod x0 10))) % 256] : List Int) : List Int)).bind fun y241 => (if (strOfNums y241).size + x3.size ≤ 9223372036854775807 then (laws_markText.l0 k (wrap64 (Int.tdiv x0 10)) ((strOfNums y241) ++ x3)) else (none))) else (if 1 + x3.size ≤ 9223372036854775807 then (some ((⟨#[109]⟩ : ByteArray) ++ x3)) else (none))
def laws_markText.f (k : Nat) (a0 : Int) : Option (ByteArray) := if a0 ≤ 0 then (some (⟨#[109, 48]⟩ : ByteArray)) else (laws_markText.l0 k a0 (⟨#[]⟩ : ByteArray))
theorem laws_markText.mono_l : ∀ k, (∀ y0 y1, LeO (laws_markText.l0 k y0 y1) (laws_markText.l0 (k + 1) y0 y1))
 | 0 => fun _ _ r h => by simp [laws_markText.l0] at h
 | k + 1 => by
    have ih0 := laws_markText.mono_l k
    · intro y0 y1
      unfold laws_markText.l0
      repeat' first
 | (with_reducible exact ih0 _ _)
 | (with_reducible exact LeO.refl _)
 | (with_reducible exact LeO.none _)
 | (with_reducible refine LeO.ite ?_ ?_)
 | (with_reducible refine LeO.bind ?_ (fun _ => ?_))
theorem laws_markText.mono : ∀ a0 k, LeO (laws_markText.f k a0) (laws_markText.f (k + 1) a0) := by
  intro a0 k
  have ih0 := laws_markText.mono_l k
  unfold laws_markText.f
  repeat' first
 | (with_reducible exact ih0 _ _)
 | (with_reducible exact LeO.refl _)
 | (with_reducible exact LeO.none _)
 | (with_reducible refine LeO.ite ?_ ?_)
 | (with_reducible refine LeO.bind ?_ (fun _ => ?_))
set_option maxHeartbeats 8000000 in
set_option maxRecDepth 100000 in
theorem laws_markText.calls (k : Nat) (a0 : Int) (r : ByteArray) (w : World) (h : laws_markText.f k a0 = some r) :
    Calls Tryd.prog 34 #[.int .i64 a0] w fun e w' => e = .returned (.string r) ∧ Below w.heap.size w w' := by
 have HB := Cmp.A (Below.refl w.heap.size w)
 have H : (if a0 ≤ 0 then (some (⟨#[109, 48]⟩ : ByteArray)) else (laws_markText.l0 k a0 (⟨#[]⟩ : ByteArray))) = some r := h
 clear h
 by_cases c2 : a0 ≤ 0
 ·rw [if_pos c2] at H; have c2b0 : decide (a0 ≤ 0) = true := decide_eq_true c2; clear c2
  obtain rfl := Option.some.inj H
  go_enter Tryd.func34, Tryd.ntmps34
  go_wp2
  go_ret
  exact ⟨by first | rfl | (simp [errW_none, errW_some] <;> rfl) | (simp [*, errW_none, errW_some] <;> rfl), Cmp.g HB.out⟩
 ·rw [if_neg c2] at H; have c2b0 : decide (a0 ≤ 0) = false := decide_eq_false c2; clear c2
  have H' := Cmp.A H
  clear H
  go_enter Tryd.func34, Tryd.ntmps34
  go_wp2
  go_loopg [0, 3] k (fun kq v0 v3 w' => ∃ (D0 : Int) (D1 : ByteArray), v0 = .int .i64 D0 ∧ v3 = .string D1 ∧ Aside0 (laws_markText.l0 kq D0 D1 = some r) ∧ Aside0 (kq ≤ k) ∧ Aside0 (Below w.heap.size w w'))
  case atStart => exact ⟨(a0), ((⟨#[]⟩ : ByteArray)), (by first | rfl | simp | simp [*]), (by first | rfl | simp | simp [*]), H', ⟨Nat.le_refl _⟩, ⟨Cmp.g HB.out⟩⟩
  case round =>
   clear H'
   (try clear c2); (try clear c2b0); (try clear p2)
   obtain ⟨D0, D1, rfl, rfl, HA, HK1, HB⟩ := hrel
   cases gk with
   | zero => exact absurd HA.out (by simp [laws_markText.l0])
   | succ k1 =>
    have H := HA.out; clear HA
    simp only [laws_markText.l0] at H
    by_cases c3 : D0 > 0
    ·rw [if_pos c3] at H; have c3b0 : decide (0 < D0) = true := decide_eq_true c3; clear c3
     obtain ⟨D2, hy241⟩ : ∃ y_ : List Int, y_ = (([(wrap64 (48 + (Int.tmod D0 10))) % 256] : List Int)) := ⟨_, rfl⟩
     replace H : (if (strOfNums D2).size + D1.size ≤ 9223372036854775807 then (laws_markText.l0 k1 (wrap64 (Int.tdiv D0 10)) ((strOfNums D2) ++ D1)) else (none)) = some r := Cmp.hy hy241 H
     have D3 := Cmp.A hy241; clear hy241
     by_cases c4 : (strOfNums D2).size + D1.size ≤ 9223372036854775807
     ·rw [if_pos c4] at H
      have c4b0 := eq_true c4
      have c4b1 : decide ((strOfNums D2).size + D1.size ≤ 9223372036854775807) = true := decide_eq_true c4
      try have c4b2 : (9223372036854775807 < (strOfNums D2).size + D1.size) = False := eq_false (Nat.not_lt.2 c4)
      have H' := Cmp.A H
      clear H
      go_wp2_with (first | ((with_reducible refine gate_dst (N := 12) rfl ?_); refine Kd.R_lit (Kd.int .u8) _ 5 ?hg (N := 12) ?hd (xs := ([(wrap64 (48 + (Int.tmod D0 10))) % 256] : List Int)) (inner := [.int .u8 ((wrap64 (48 + (Int.tmod D0 10))) % 256)]) (ok := fun _ => True) (okp := fun _ => True) ?hr ?hp (fun _ hk => hk) trivial (Below.refl _ _) (Nat.le_refl _) (by simp) ?_; (case hd => rfl); (case hg => rfl); (case hr => first | (go_simp; done) | (go_simp; rfl)); (case hp => exact (Reps.one (show Kd.M (Kd.int .u8) _ _ _ ((wrap64 (48 + (Int.tmod D0 10))) % 256) [.int .u8 ((wrap64 (48 + (Int.tmod D0 10))) % 256)] from rfl) (Reps.none _ _))); intro v242 w5 D5 hb hg_ hnew_; clear hg_ hnew_; (first | rw [← D3.out] at D5 | (simp only [Int.reduceToNat] at D5; rw [← D3.out] at D5)); have D4 := Cmp.A (Kd.R_lower D5 (below_size (Cmp.g HB.out))); replace HB := Cmp.bs HB hb; clear hb D5; have hcv7 := own_string (P := Tryd.prog) Tryd.underlying67 Tryd.underlying5 Tryd.underlying9 (Kd.own_of_R D4.out)))
      go_roundg k1
      case measure => have := HK1.out; omega
      case rel => exact ⟨(wrap64 (Int.tdiv D0 10)), ((strOfNums D2) ++ D1), (by first | rfl | simp | simp [*]), (by first | rfl | simp | simp [*]), H', ⟨by have := HK1.out; omega⟩, ⟨Cmp.g HB.out⟩⟩
     ·rw [if_neg c4] at H; exact absurd H (by simp)
    ·rw [if_neg c3] at H; have c3b0 : decide (0 < D0) = false := decide_eq_false c3; clear c3
     by_cases c8 : 1 + D1.size ≤ 9223372036854775807
     ·rw [if_pos c8] at H
      have c8b0 := eq_true c8
      have c8b1 : decide (1 + D1.size ≤ 9223372036854775807) = true := decide_eq_true c8
      try have c8b2 : (9223372036854775807 < 1 + D1.size) = False := eq_false (Nat.not_lt.2 c8)
      obtain rfl := Option.some.inj H
      go_wp2
      go_ret
      exact ⟨by first | rfl | (simp [errW_none, errW_some] <;> rfl) | (simp [*, errW_none, errW_some] <;> rfl), Cmp.g HB.out⟩
     ·rw [if_neg c8] at H; exact absurd H (by simp)
/-! ### laws_markTabS: function 25 -/
def laws_markTabS.l0 : Nat → List (S49) → Int → Int → Option (Int × (List (S49)))
  | 0, _, _, _ => none
  | k + 1, x0, x1, x5 => if x5 < (x0.length : Int) then (if 0 ≤ x5 then ((some (x0.set (x5 : Int).toNat (⟨(⟨((Int.tmod x1 3) == 0), (rd_T49 x0 x5).f0.f1, (rd_T49 x0 x5).f0.f2⟩ : S38), (⟨(rd_T49 x0 x5).f1.f0, (rd_T49 x0 x5).f1.f1, (rd_T49 x0 x5).f1.f2⟩ : S38)⟩ : S49) : List (S49))).bind fun y244 => ((laws_markText.f k (wrap64 (x1 + 1))).bind fun t245 => ((some (y244.set (x5 : Int).toNat (⟨(⟨(rd_T49 y244 x5).f0.f0, t245, (rd_T49 y244 x5).f0.f2⟩ : S38), (⟨(rd_T49 y244 x5).f1.f0, (rd_T49 y244 x5).f1.f1, (rd_T49 y244 x5).f1.f2⟩ : S38)⟩ : S49) : List (S49))).bind fun y246 => ((some (y246.set (x5 : Int).toNat (⟨(⟨(rd_T49 y246 x5).f0.f0, (rd_T49 y246 x5).f0.f1, wrap64 ((wrap64 (x1 + 1)) + 1)⟩ : S38), (⟨(rd_T49 y246 x5).f1.f0, (rd_T49 y246 x5).f1.f1, (rd_T49 y246 x5).f1.f2⟩ : S38)⟩ : S49) : List (S49))).bind fun y247 => ((some (y247.set (x5 : Int).toNat (⟨(⟨(rd_T49 y247 x5).f0.f0, (rd_T49 y247 x5).f0.f1, (rd_T49 y247 x5).f0.f2⟩ : S38), (⟨((Int.tmod (wrap64 ((wrap64 ((wrap64 (x1 + 1)) + 1)) + 1)) 3) == 0), (rd_T49 y247 x5).f1.f1, (rd_T49 y247 x5).f1.f2⟩ : S38)⟩ : S49) : List (S49))).bind fun y248 => ((laws_markText.f k (wrap64 ((wrap64 ((wrap64 ((wrap64 (x1 + 1)) + 1)) + 1)) + 1))).bind fun t249 => ((some (y248.set (x5 : Int).toNat (⟨(⟨(rd_T49 y248 x5).f0.f0, (rd_T49 y248 x5).f0.f1, (rd_T49 y248 x5).f0.f2⟩ : S38), (⟨(rd_T49 y248 x5).f1.f0, t249, (rd_T49 y248 x5).f1.f2⟩ : S38)⟩ : S49) : List (S49))).bind fun y250 => (laws_markTabS.l0 k (y250.set (x5 : Int).toNat (⟨(⟨(rd_T49 y250 x5).f0.f0, (rd_T49 y250 x5).f0.f1, (rd_T49 y250 x5).f0.f2⟩ : S38), (⟨(rd_T49 y250 x5).f1.f0, (rd_T49 y250 x5).f1.f1, wrap64 ((wrap64 ((wrap64 ((wrap64 ((wrap64 (x1 + 1)) + 1)) + 1)) + 1)) + 1)⟩ : S38)⟩ : S49)) (wrap64 ((wrap64 ((wrap64 ((wrap64 ((wrap64 ((wrap64 (x1 + 1)) + 1)) + 1)) + 1)) + 1)) + 1)) (wrap64 (x5 + 1)))))))))) else (none)) else (some (x1, x0))
def laws_markTabS.f (k : Nat) (l0 : List (S49)) (a1 : Int) : Option (Int × (List (S49))) := laws_markTabS.l0 k l0 a1 0
theorem laws_markTabS.mono_l : ∀ k, (∀ y0 y1 y2, LeO (laws_markTabS.l0 k y0 y1 y2) (laws_markTabS.l0 (k + 1) y0 y1 y2))
 | 0 => fun _ _ _ r h => by simp [laws_markTabS.l0] at h
 | k + 1 => by
    have ih0 := laws_markTabS.mono_l k
    · intro y0 y1 y2
      unfold laws_markTabS.l0
      repeat' first
 | (with_reducible exact ih0 _ _ _)
 | (with_reducible exact laws_markText.mono _ _)
 | (with_reducible exact LeO.refl _)
 | (with_reducible exact LeO.none _)
 | (with_reducible refine LeO.ite ?_ ?_)
 | (with_reducible refine LeO.bind ?_ (fun _ => ?_))
theorem laws_markTabS.mono : ∀ a0 a1 k, LeO (laws_markTabS.f k a0 a1) (laws_markTabS.f (k + 1) a0 a1) := by
  intro a0 a1 k
  have ih0 := laws_markTabS.mono_l k
  unfold laws_markTabS.f
  repeat' first
 | (with_reducible exact ih0 _ _ _)
 | (with_reducible exact laws_markText.mono _ _)
 | (with_reducible exact LeO.refl _)
 | (with_reducible exact LeO.none _)
 | (with_reducible refine LeO.ite ?_ ?_)
 | (with_reducible refine LeO.bind ?_ (fun _ => ?_))
set_option maxHeartbeats 8000000 in
set_option maxRecDepth 100000 in
theorem laws_markTabS.calls (k : Nat) (P0_ : Nat → Prop) (u9000_ : Value) (l0 : List (S49)) (a1 : Int) (r1 : Int) (r2 : List (S49)) (w0 w : World) (hB : Below w0.heap.size w0 w) (ho0 : Kd.R k49 49 w w0.heap.size P0_ u9000_ l0) (h : laws_markTabS.f k l0 a1 = some (r1, r2)) :
    Calls Tryd.prog 25 #[u9000_, .int .i64 a1] w fun e w' => e = .returned (.int .i64 r1) ∧ Kd.R k49 49 w' w0.heap.size (fun k_ => (P0_ k_ ∨ w.heap.size ≤ k_)) u9000_ r2 ∧ Below w0.heap.size w0 w' ∧ Kept w w' (fun k_ => P0_ k_) := by
 have Ey := Cmp.A (show Kd.R k49 49 w w0.heap.size (fun k_ => (P0_ k_ ∨ w.heap.size ≤ k_)) u9000_ l0 from Kd.R_mono ho0 (fun k_ hk => (.inl hk)))
 have HK := Cmp.A (Kept.refl w (fun k_ => P0_ k_))
 have HW0 := Cmp.A hB.size; have HB := Cmp.A hB; clear hB
 have H : (laws_markTabS.l0 k l0 a1 0) = some (r1, r2) := h
 clear h
 have H' := Cmp.A H
 clear H
 go_enter Tryd.func25, Tryd.ntmps25
 go_wp2
 go_loopg [1, 5] k (fun kq v1 v5 w' => ∃ (D1 : List (S49)) (D4 : Int) (D0 : Int), v1 = .int .i64 D4 ∧ v5 = .int .i64 D0 ∧ Aside0 (laws_markTabS.l0 kq D1 D4 D0 = some (r1, r2)) ∧ Aside0 (kq ≤ k) ∧ Aside0 (Kd.R k49 49 w' w0.heap.size (fun k_ => (P0_ k_ ∨ w.heap.size ≤ k_)) u9000_ D1) ∧ Aside0 (Kept w w' (fun k_ => P0_ k_)) ∧ Aside0 (Below w0.heap.size w0 w'))
 case atStart => exact ⟨(l0), (a1), (0), (by first | rfl | simp | simp [*]), (by first | rfl | simp | simp [*]), H', ⟨Nat.le_refl _⟩, ⟨Cmp.rr Ey.out⟩, ⟨by repeat (first | (with_reducible first | exact HK.out | apply Kept.alloc | apply Kept.drewN | apply Kept.drew) | exact HK.out)⟩, ⟨Cmp.g HB.out⟩⟩
 case round =>
  clear H'
  (try clear c2); (try clear p2)
  obtain ⟨D1, D4, D0, rfl, rfl, HA, HK1, D5, HK, HB⟩ := hrel
  cases gk with
  | zero => exact absurd HA.out (by simp [laws_markTabS.l0])
  | succ k1 =>
   have H := HA.out; clear HA
   simp only [laws_markTabS.l0] at H
   by_cases c3 : D0 < (D1.length : Int)
   ·rw [if_pos c3] at H
    have c3b0 : decide (D0 < (D1.length : Int)) = true := decide_eq_true c3
    clear c3
    by_cases c4 : 0 ≤ D0
    ·rw [if_pos c4] at H; have c4b0 : decide (0 ≤ D0) = true := decide_eq_true c4; clear c4
     obtain ⟨D8, hy244⟩ : ∃ y_ : List (S49), y_ = (D1.set (D0 : Int).toNat (⟨(⟨((Int.tmod D4 3) == 0), (rd_T49 D1 D0).f0.f1, (rd_T49 D1 D0).f0.f2⟩ : S38), (⟨(rd_T49 D1 D0).f1.f0, (rd_T49 D1 D0).f1.f1, (rd_T49 D1 D0).f1.f2⟩ : S38)⟩ : S49)) := ⟨_, rfl⟩
     replace H : ((laws_markText.f k1 (wrap64 (D4 + 1))).bind fun Db => ((some (D8.set (D0 : Int).toNat (⟨(⟨(rd_T49 D8 D0).f0.f0, Db, (rd_T49 D8 D0).f0.f2⟩ : S38), (⟨(rd_T49 D8 D0).f1.f0, (rd_T49 D8 D0).f1.f1, (rd_T49 D8 D0).f1.f2⟩ : S38)⟩ : S49) : List (S49))).bind fun D7 => ((some (D7.set (D0 : Int).toNat (⟨(⟨(rd_T49 D7 D0).f0.f0, (rd_T49 D7 D0).f0.f1, wrap64 ((wrap64 (D4 + 1)) + 1)⟩ : S38), (⟨(rd_T49 D7 D0).f1.f0, (rd_T49 D7 D0).f1.f1, (rd_T49 D7 D0).f1.f2⟩ : S38)⟩ : S49) : List (S49))).bind fun D6 => ((some (D6.set (D0 : Int).toNat (⟨(⟨(rd_T49 D6 D0).f0.f0, (rd_T49 D6 D0).f0.f1, (rd_T49 D6 D0).f0.f2⟩ : S38), (⟨((Int.tmod (wrap64 ((wrap64 ((wrap64 (D4 + 1)) + 1)) + 1)) 3) == 0), (rd_T49 D6 D0).f1.f1, (rd_T49 D6 D0).f1.f2⟩ : S38)⟩ : S49) : List (S49))).bind fun D3 => ((laws_markText.f k1 (wrap64 ((wrap64 ((wrap64 ((wrap64 (D4 + 1)) + 1)) + 1)) + 1))).bind fun D9 => ((some (D3.set (D0 : Int).toNat (⟨(⟨(rd_T49 D3 D0).f0.f0, (rd_T49 D3 D0).f0.f1, (rd_T49 D3 D0).f0.f2⟩ : S38), (⟨(rd_T49 D3 D0).f1.f0, D9, (rd_T49 D3 D0).f1.f2⟩ : S38)⟩ : S49) : List (S49))).bind fun D2 => (laws_markTabS.l0 k1 (D2.set (D0 : Int).toNat (⟨(⟨(rd_T49 D2 D0).f0.f0, (rd_T49 D2 D0).f0.f1, (rd_T49 D2 D0).f0.f2⟩ : S38), (⟨(rd_T49 D2 D0).f1.f0, (rd_T49 D2 D0).f1.f1, wrap64 ((wrap64 ((wrap64 ((wrap64 ((wrap64 (D4 + 1)) + 1)) + 1)) + 1)) + 1)⟩ : S38)⟩ : S49)) (wrap64 ((wrap64 ((wrap64 ((wrap64 ((wrap64 ((wrap64 (D4 + 1)) + 1)) + 1)) + 1)) + 1)) + 1)) (wrap64 (D0 + 1))))))))) = some (r1, r2) := Cmp.hy hy244 H
     have Dk := Cmp.A hy244; clear hy244; replace H := Option.bind_eq_some_iff.mp H; obtain ⟨Db, E4, H⟩ := H; (try dsimp only at H); have A6 := Cmp.A E4; clear E4
     obtain ⟨D7, hy246⟩ : ∃ y_ : List (S49), y_ = (D8.set (D0 : Int).toNat (⟨(⟨(rd_T49 D8 D0).f0.f0, Db, (rd_T49 D8 D0).f0.f2⟩ : S38), (⟨(rd_T49 D8 D0).f1.f0, (rd_T49 D8 D0).f1.f1, (rd_T49 D8 D0).f1.f2⟩ : S38)⟩ : S49)) := ⟨_, rfl⟩
     replace H : ((some (D7.set (D0 : Int).toNat (⟨(⟨(rd_T49 D7 D0).f0.f0, (rd_T49 D7 D0).f0.f1, wrap64 ((wrap64 (D4 + 1)) + 1)⟩ : S38), (⟨(rd_T49 D7 D0).f1.f0, (rd_T49 D7 D0).f1.f1, (rd_T49 D7 D0).f1.f2⟩ : S38)⟩ : S49) : List (S49))).bind fun D6 => ((some (D6.set (D0 : Int).toNat (⟨(⟨(rd_T49 D6 D0).f0.f0, (rd_T49 D6 D0).f0.f1, (rd_T49 D6 D0).f0.f2⟩ : S38), (⟨((Int.tmod (wrap64 ((wrap64 ((wrap64 (D4 + 1)) + 1)) + 1)) 3) == 0), (rd_T49 D6 D0).f1.f1, (rd_T49 D6 D0).f1.f2⟩ : S38)⟩ : S49) : List (S49))).bind fun D3 => ((laws_markText.f k1 (wrap64 ((wrap64 ((wrap64 ((wrap64 (D4 + 1)) + 1)) + 1)) + 1))).bind fun D9 => ((some (D3.set (D0 : Int).toNat (⟨(⟨(rd_T49 D3 D0).f0.f0, (rd_T49 D3 D0).f0.f1, (rd_T49 D3 D0).f0.f2⟩ : S38), (⟨(rd_T49 D3 D0).f1.f0, D9, (rd_T49 D3 D0).f1.f2⟩ : S38)⟩ : S49) : List (S49))).bind fun D2 => (laws_markTabS.l0 k1 (D2.set (D0 : Int).toNat (⟨(⟨(rd_T49 D2 D0).f0.f0, (rd_T49 D2 D0).f0.f1, (rd_T49 D2 D0).f0.f2⟩ : S38), (⟨(rd_T49 D2 D0).f1.f0, (rd_T49 D2 D0).f1.f1, wrap64 ((wrap64 ((wrap64 ((wrap64 ((wrap64 (D4 + 1)) + 1)) + 1)) + 1)) + 1)⟩ : S38)⟩ : S49)) (wrap64 ((wrap64 ((wrap64 ((wrap64 ((wrap64 ((wrap64 (D4 + 1)) + 1)) + 1)) + 1)) + 1)) + 1)) (wrap64 (D0 + 1))))))) = some (r1, r2) := Cmp.hy hy246 H
     have Dl := Cmp.A hy246; clear hy246
     obtain ⟨D6, hy247⟩ : ∃ y_ : List (S49), y_ = (D7.set (D0 : Int).toNat (⟨(⟨(rd_T49 D7 D0).f0.f0, (rd_T49 D7 D0).f0.f1, wrap64 ((wrap64 (D4 + 1)) + 1)⟩ : S38), (⟨(rd_T49 D7 D0).f1.f0, (rd_T49 D7 D0).f1.f1, (rd_T49 D7 D0).f1.f2⟩ : S38)⟩ : S49)) := ⟨_, rfl⟩
     replace H : ((some (D6.set (D0 : Int).toNat (⟨(⟨(rd_T49 D6 D0).f0.f0, (rd_T49 D6 D0).f0.f1, (rd_T49 D6 D0).f0.f2⟩ : S38), (⟨((Int.tmod (wrap64 ((wrap64 ((wrap64 (D4 + 1)) + 1)) + 1)) 3) == 0), (rd_T49 D6 D0).f1.f1, (rd_T49 D6 D0).f1.f2⟩ : S38)⟩ : S49) : List (S49))).bind fun D3 => ((laws_markText.f k1 (wrap64 ((wrap64 ((wrap64 ((wrap64 (D4 + 1)) + 1)) + 1)) + 1))).bind fun D9 => ((some (D3.set (D0 : Int).toNat (⟨(⟨(rd_T49 D3 D0).f0.f0, (rd_T49 D3 D0).f0.f1, (rd_T49 D3 D0).f0.f2⟩ : S38), (⟨(rd_T49 D3 D0).f1.f0, D9, (rd_T49 D3 D0).f1.f2⟩ : S38)⟩ : S49) : List (S49))).bind fun D2 => (laws_markTabS.l0 k1 (D2.set (D0 : Int).toNat (⟨(⟨(rd_T49 D2 D0).f0.f0, (rd_T49 D2 D0).f0.f1, (rd_T49 D2 D0).f0.f2⟩ : S38), (⟨(rd_T49 D2 D0).f1.f0, (rd_T49 D2 D0).f1.f1, wrap64 ((wrap64 ((wrap64 ((wrap64 ((wrap64 (D4 + 1)) + 1)) + 1)) + 1)) + 1)⟩ : S38)⟩ : S49)) (wrap64 ((wrap64 ((wrap64 ((wrap64 ((wrap64 ((wrap64 (D4 + 1)) + 1)) + 1)) + 1)) + 1)) + 1)) (wrap64 (D0 + 1)))))) = some (r1, r2) := Cmp.hy hy247 H
     have Dm := Cmp.A hy247; clear hy247
     obtain ⟨D3, hy248⟩ : ∃ y_ : List (S49), y_ = (D6.set (D0 : Int).toNat (⟨(⟨(rd_T49 D6 D0).f0.f0, (rd_T49 D6 D0).f0.f1, (rd_T49 D6 D0).f0.f2⟩ : S38), (⟨((Int.tmod (wrap64 ((wrap64 ((wrap64 (D4 + 1)) + 1)) + 1)) 3) == 0), (rd_T49 D6 D0).f1.f1, (rd_T49 D6 D0).f1.f2⟩ : S38)⟩ : S49)) := ⟨_, rfl⟩
     replace H : ((laws_markText.f k1 (wrap64 ((wrap64 ((wrap64 ((wrap64 (D4 + 1)) + 1)) + 1)) + 1))).bind fun D9 => ((some (D3.set (D0 : Int).toNat (⟨(⟨(rd_T49 D3 D0).f0.f0, (rd_T49 D3 D0).f0.f1, (rd_T49 D3 D0).f0.f2⟩ : S38), (⟨(rd_T49 D3 D0).f1.f0, D9, (rd_T49 D3 D0).f1.f2⟩ : S38)⟩ : S49) : List (S49))).bind fun D2 => (laws_markTabS.l0 k1 (D2.set (D0 : Int).toNat (⟨(⟨(rd_T49 D2 D0).f0.f0, (rd_T49 D2 D0).f0.f1, (rd_T49 D2 D0).f0.f2⟩ : S38), (⟨(rd_T49 D2 D0).f1.f0, (rd_T49 D2 D0).f1.f1, wrap64 ((wrap64 ((wrap64 ((wrap64 ((wrap64 (D4 + 1)) + 1)) + 1)) + 1)) + 1)⟩ : S38)⟩ : S49)) (wrap64 ((wrap64 ((wrap64 ((wrap64 ((wrap64 ((wrap64 (D4 + 1)) + 1)) + 1)) + 1)) + 1)) + 1)) (wrap64 (D0 + 1))))) = some (r1, r2) := Cmp.hy hy248 H
     have Dn := Cmp.A hy248; clear hy248; replace H := Option.bind_eq_some_iff.mp H; obtain ⟨D9, Dj, H⟩ := H; (try dsimp only at H); have Ev := Cmp.A Dj; clear Dj
     obtain ⟨D2, hy250⟩ : ∃ y_ : List (S49), y_ = (D3.set (D0 : Int).toNat (⟨(⟨(rd_T49 D3 D0).f0.f0, (rd_T49 D3 D0).f0.f1, (rd_T49 D3 D0).f0.f2⟩ : S38), (⟨(rd_T49 D3 D0).f1.f0, D9, (rd_T49 D3 D0).f1.f2⟩ : S38)⟩ : S49)) := ⟨_, rfl⟩
     replace H : (laws_markTabS.l0 k1 (D2.set (D0 : Int).toNat (⟨(⟨(rd_T49 D2 D0).f0.f0, (rd_T49 D2 D0).f0.f1, (rd_T49 D2 D0).f0.f2⟩ : S38), (⟨(rd_T49 D2 D0).f1.f0, (rd_T49 D2 D0).f1.f1, wrap64 ((wrap64 ((wrap64 ((wrap64 ((wrap64 (D4 + 1)) + 1)) + 1)) + 1)) + 1)⟩ : S38)⟩ : S49)) (wrap64 ((wrap64 ((wrap64 ((wrap64 ((wrap64 ((wrap64 (D4 + 1)) + 1)) + 1)) + 1)) + 1)) + 1)) (wrap64 (D0 + 1))) = some (r1, r2) := Cmp.hy hy250 H
     have Do := Cmp.A hy250; clear hy250
     obtain ⟨Di, hy251⟩ : ∃ y_ : List (S49), y_ = (D2.set (D0 : Int).toNat (⟨(⟨(rd_T49 D2 D0).f0.f0, (rd_T49 D2 D0).f0.f1, (rd_T49 D2 D0).f0.f2⟩ : S38), (⟨(rd_T49 D2 D0).f1.f0, (rd_T49 D2 D0).f1.f1, wrap64 ((wrap64 ((wrap64 ((wrap64 ((wrap64 (D4 + 1)) + 1)) + 1)) + 1)) + 1)⟩ : S38)⟩ : S49)) := ⟨_, rfl⟩
     replace H : (laws_markTabS.l0 k1 Di (wrap64 ((wrap64 ((wrap64 ((wrap64 ((wrap64 ((wrap64 (D4 + 1)) + 1)) + 1)) + 1)) + 1)) + 1)) (wrap64 (D0 + 1))) = some (r1, r2) := Cmp.hy hy251 H
     have Dp := Cmp.A hy251; clear hy251
     have H' := Cmp.A H
     clear H
     obtain ⟨Ew, Da, Dq⟩ := Kd.R_slice D5.out
     subst Dq
     have p5 : 0 ≤ (D0 : Int) := of_decide_eq_true Cmp.d
     have q5 : (D0 : Int) < ((D1.length : Int) : Int) := of_decide_eq_true Cmp.d
     obtain ⟨go5, F0, E5, E6, gl5, cl5, HG5⟩ := Kd.R_form D5.out (by omega)
     (first | cases E5 | (injection E5 with ea_ en_ ec_; (first | subst ea_ | (injection ea_ with ea_; subst ea_)); subst ec_; clear en_))
     have GB5 := Cmp.A E6; have GG5 := Cmp.A HG5; clear E6 gl5 HG5
     have HMgo5 := Cmp.A (show (P0_ go5 ∨ w.heap.size ≤ go5) from (D5.out.1 _ rfl))
     obtain ⟨ce5, hcl5, hM5, hcc5, hfr5⟩ := Kd.R_elem D5.out z49 (D0 : Int) p5 q5
     obtain rfl := k49_openM hM5
     have E7 : wr.cell? ⟨go5, (D0 : Int).toNat * 6, none⟩ = some (.bool ((rd_T49 D1 D0).f0.f0)) := hcc5 0 _ rfl
     have E8 : wr.cell? ⟨go5, (D0 : Int).toNat * 6 + 1, none⟩ = some (.string ((rd_T49 D1 D0).f0.f1)) := hcc5 1 _ rfl
     have E9 : wr.cell? ⟨go5, (D0 : Int).toNat * 6 + 2, none⟩ = some (.int .i64 ((rd_T49 D1 D0).f0.f2)) := hcc5 2 _ rfl
     have Ea : wr.cell? ⟨go5, (D0 : Int).toNat * 6 + 3, none⟩ = some (.bool ((rd_T49 D1 D0).f1.f0)) := hcc5 3 _ rfl
     have Eb : wr.cell? ⟨go5, (D0 : Int).toNat * 6 + 4, none⟩ = some (.string ((rd_T49 D1 D0).f1.f1)) := hcc5 4 _ rfl
     have Ec : wr.cell? ⟨go5, (D0 : Int).toNat * 6 + 5, none⟩ = some (.int .i64 ((rd_T49 D1 D0).f1.f2)) := hcc5 5 _ rfl
     have hf5_0 : wr.frozen? ⟨go5, (D0 : Int).toNat * 6, none⟩ = false := hfr5 0
     have hf5_1 : wr.frozen? ⟨go5, (D0 : Int).toNat * 6 + 1, none⟩ = false := hfr5 1
     have hf5_2 : wr.frozen? ⟨go5, (D0 : Int).toNat * 6 + 2, none⟩ = false := hfr5 2
     have hf5_3 : wr.frozen? ⟨go5, (D0 : Int).toNat * 6 + 3, none⟩ = false := hfr5 3
     have hf5_4 : wr.frozen? ⟨go5, (D0 : Int).toNat * 6 + 4, none⟩ = false := hfr5 4
     have hf5_5 : wr.frozen? ⟨go5, (D0 : Int).toNat * 6 + 5, none⟩ = false := hfr5 5
     clear hcl5 hcc5 hfr5 hM5; replace p5 := eq_true p5; replace q5 := eq_true q5
     have HX14 := Cmp.A (show Kd.R k49 49 wr w0.heap.size (fun k_ => (P0_ k_ ∨ w.heap.size ≤ k_)) (.slice (some ⟨go5, 0, none⟩) D1.length Da) D1 from (Cmp.rr D5.out))
     obtain ⟨ce14, hcl14, hM14, hcc14, hfr14⟩ := Kd.R_elem HX14.out z49 (D0 : Int) (of_decide_eq_true Cmp.d) (by have h_ : (D0 : Int) < ((D1.length : Int) : Int) := of_decide_eq_true Cmp.d; first | exact h_ | (have e_ := (Kd.R_reads' D5.out).1; omega) | simpa using h_)
     obtain rfl := k49_openM hM14
     have HP14 := Kd.R_seg HX14.out (D0 : Int) (of_decide_eq_true Cmp.d) (by have h_ : (D0 : Int) < ((D1.length : Int) : Int) := of_decide_eq_true Cmp.d; first | exact h_ | (have e_ := (Kd.R_reads' D5.out).1; omega) | simpa using h_) (seg := [.bool ((Int.tmod D4 3) == 0)]) (j := 0) hcl14 hcc14 (show 1 ≤ 6 from by decide) (x' := (⟨(⟨((Int.tmod D4 3) == 0), (rd_T49 D1 D0).f0.f1, (rd_T49 D1 D0).f0.f2⟩ : S38), (⟨(rd_T49 D1 D0).f1.f0, (rd_T49 D1 D0).f1.f1, (rd_T49 D1 D0).f1.f2⟩ : S38)⟩ : S49)) (k49_mkM _ _ _ (⟨(⟨((Int.tmod D4 3) == 0), (rd_T49 D1 D0).f0.f1, (rd_T49 D1 D0).f0.f2⟩ : S38), (⟨(rd_T49 D1 D0).f1.f0, (rd_T49 D1 D0).f1.f1, (rd_T49 D1 D0).f1.f2⟩ : S38)⟩ : S49) ) (fun _ hk => hk)
     have Dc := hcc14 0 _ rfl
     (try simp only [show (k49).sz = 6 from rfl, Nat.mul_one, Nat.add_zero] at Dc)
     have hf14_0 := hfr14 0
     (try simp only [show (k49).sz = 6 from rfl, Nat.mul_one, Nat.add_zero] at hf14_0)
     clear hcl14 hcc14 hfr14 hM14
     go_wp2_with (first | ((with_reducible refine gate_store (t := 4) (p := 19) rfl ?_); refine store_event (t := 4) (p := 19) (v := ?vo_w15) (w1 := (wr.setCell ⟨go5, (D0 : Int).toNat * 6, none⟩ (.bool ((Int.tmod D4 3) == 0)))) ?hg ?ho ?hn ?hr ?_; (case ho => rfl); (case hg => rfl); (case hn => rfl); (case hr => first | (go_simp; done) | (go_simp; rfl)); intro w15 hw; have hg : wr.grownBy w15 (some go5) := (by rw [hw]; exact HP14.2); have hp_ : Kd.R k49 49 w15 w0.heap.size (fun k_ => (P0_ k_ ∨ w.heap.size ≤ k_)) (.slice (some ⟨go5, 0, none⟩) D1.length Da) D8 := (by rw [hw, Dk.out]; exact HP14.1); clear HP14; replace HB := Cmp.A ((by rw [hw]; exact below_set (HB.out) GB5.out : Below w0.heap.size w0 w15)); replace HK := Cmp.A (Kept.of_grown (S := (fun k_ => P0_ k_)) hg (by repeat (first | (with_reducible first | exact HK.out | apply Kept.alloc | apply Kept.drewN | apply Kept.drew) | exact HK.out)) (fun k_ e_ => (D5.out.1 k_ e_))); replace D5 := Cmp.A (hp_); clear hg hw hp_) | ((with_reducible refine gate_callee (f := 34) rfl ?_); refine goesL_ (some 25) rfl rfl Tryd.func34 (by kernel_rfl) rfl #[.int .i64 (wrap64 (D4 + 1))] rfl Cmp.q ?_; (with_reducible refine (laws_markText.calls k1 (wrap64 (D4 + 1)) Db _ A6.out).mono ?_); rintro e w16 ⟨rfl, hb⟩; refine ⟨_, rfl, ?_⟩; replace D5 := Cmp.A (Kd.R_below (Cmp.rr D5.out) hb); replace HK := Cmp.A (Kept.below (S := (fun k_ => P0_ k_)) (by repeat (first | (with_reducible first | exact HK.out | apply Kept.alloc | apply Kept.drewN | apply Kept.drew) | exact HK.out)) hb); replace HB := Cmp.bs HB hb; (try clear hb); (try clear hb2); (try clear hk); (try clear hi); have p7 : 0 ≤ (D0 : Int) := of_decide_eq_true Cmp.d; have q7 : (D0 : Int) < ((D1.length : Int) : Int) := of_decide_eq_true Cmp.d; obtain ⟨ce7, hcl7, hM7, hcc7, hfr7⟩ := Kd.R_elem D5.out z49 (D0 : Int) p7 q7; obtain rfl := k49_openM hM7; have Ed : w16.cell? ⟨go5, (D0 : Int).toNat * 6, none⟩ = some (.bool ((rd_T49 D8 D0).f0.f0)) := hcc7 0 _ rfl; have Ee : w16.cell? ⟨go5, (D0 : Int).toNat * 6 + 1, none⟩ = some (.string ((rd_T49 D8 D0).f0.f1)) := hcc7 1 _ rfl; have Ef : w16.cell? ⟨go5, (D0 : Int).toNat * 6 + 2, none⟩ = some (.int .i64 ((rd_T49 D8 D0).f0.f2)) := hcc7 2 _ rfl; have Eg : w16.cell? ⟨go5, (D0 : Int).toNat * 6 + 3, none⟩ = some (.bool ((rd_T49 D8 D0).f1.f0)) := hcc7 3 _ rfl; have Eh : w16.cell? ⟨go5, (D0 : Int).toNat * 6 + 4, none⟩ = some (.string ((rd_T49 D8 D0).f1.f1)) := hcc7 4 _ rfl; have Ei : w16.cell? ⟨go5, (D0 : Int).toNat * 6 + 5, none⟩ = some (.int .i64 ((rd_T49 D8 D0).f1.f2)) := hcc7 5 _ rfl; have hf7_0 : w16.frozen? ⟨go5, (D0 : Int).toNat * 6, none⟩ = false := hfr7 0; have hf7_1 : w16.frozen? ⟨go5, (D0 : Int).toNat * 6 + 1, none⟩ = false := hfr7 1; have hf7_2 : w16.frozen? ⟨go5, (D0 : Int).toNat * 6 + 2, none⟩ = false := hfr7 2; have hf7_3 : w16.frozen? ⟨go5, (D0 : Int).toNat * 6 + 3, none⟩ = false := hfr7 3; have hf7_4 : w16.frozen? ⟨go5, (D0 : Int).toNat * 6 + 4, none⟩ = false := hfr7 4; have hf7_5 : w16.frozen? ⟨go5, (D0 : Int).toNat * 6 + 5, none⟩ = false := hfr7 5; clear hcl7 hcc7 hfr7 hM7; replace p7 := eq_true p7; replace q7 := eq_true q7; have HX17 := Cmp.A (show Kd.R k49 49 w16 w0.heap.size (fun k_ => (P0_ k_ ∨ w.heap.size ≤ k_)) (.slice (some ⟨go5, 0, none⟩) D1.length Da) D8 from (Cmp.rr D5.out)); obtain ⟨ce17, hcl17, hM17, hcc17, hfr17⟩ := Kd.R_elem HX17.out z49 (D0 : Int) (of_decide_eq_true Cmp.d) (by have h_ : (D0 : Int) < ((D1.length : Int) : Int) := of_decide_eq_true Cmp.d; first | exact h_ | (have e_ := (Kd.R_reads' D5.out).1; omega) | simpa using h_); obtain rfl := k49_openM hM17; have HP17 := Kd.R_seg HX17.out (D0 : Int) (of_decide_eq_true Cmp.d) (by have h_ : (D0 : Int) < ((D1.length : Int) : Int) := of_decide_eq_true Cmp.d; first | exact h_ | (have e_ := (Kd.R_reads' D5.out).1; omega) | simpa using h_) (seg := [.string Db]) (j := 1) hcl17 hcc17 (show 2 ≤ 6 from by decide) (x' := (⟨(⟨(rd_T49 D8 D0).f0.f0, Db, (rd_T49 D8 D0).f0.f2⟩ : S38), (⟨(rd_T49 D8 D0).f1.f0, (rd_T49 D8 D0).f1.f1, (rd_T49 D8 D0).f1.f2⟩ : S38)⟩ : S49)) (k49_mkM _ _ _ (⟨(⟨(rd_T49 D8 D0).f0.f0, Db, (rd_T49 D8 D0).f0.f2⟩ : S38), (⟨(rd_T49 D8 D0).f1.f0, (rd_T49 D8 D0).f1.f1, (rd_T49 D8 D0).f1.f2⟩ : S38)⟩ : S49) ) (fun _ hk => hk); have Dd := hcc17 1 _ rfl; (try simp only [show (k49).sz = 6 from rfl, Nat.mul_one, Nat.add_zero] at Dd); have hf17_1 := hfr17 1; (try simp only [show (k49).sz = 6 from rfl, Nat.mul_one, Nat.add_zero] at hf17_1); clear hcl17 hcc17 hfr17 hM17) | ((with_reducible refine gate_store (t := 9) (p := 28) rfl ?_); refine store_event (t := 9) (p := 28) (v := ?vo_w18) (w1 := (w16.setCell ⟨go5, (D0 : Int).toNat * 6 + 1, none⟩ (.string Db))) ?hg ?ho ?hn ?hr ?_; (case ho => rfl); (case hg => rfl); (case hn => rfl); (case hr => first | (go_simp; done) | (go_simp; rfl)); intro w18 hw; have hg : w16.grownBy w18 (some go5) := (by rw [hw]; exact HP17.2); have hp_ : Kd.R k49 49 w18 w0.heap.size (fun k_ => (P0_ k_ ∨ w.heap.size ≤ k_)) (.slice (some ⟨go5, 0, none⟩) D1.length Da) D7 := (by rw [hw, Dl.out]; exact HP17.1); clear HP17; replace HB := Cmp.A ((by rw [hw]; exact below_set (HB.out) GB5.out : Below w0.heap.size w0 w18)); replace HK := Cmp.A (Kept.of_grown (S := (fun k_ => P0_ k_)) hg (by repeat (first | (with_reducible first | exact HK.out | apply Kept.alloc | apply Kept.drewN | apply Kept.drew) | exact HK.out)) (fun k_ e_ => (D5.out.1 k_ e_))); replace D5 := Cmp.A (hp_); clear hg hw hp_; have p8 : 0 ≤ (D0 : Int) := of_decide_eq_true Cmp.d; have q8 : (D0 : Int) < ((D1.length : Int) : Int) := of_decide_eq_true Cmp.d; obtain ⟨ce8, hcl8, hM8, hcc8, hfr8⟩ := Kd.R_elem D5.out z49 (D0 : Int) p8 q8; obtain rfl := k49_openM hM8; have Ej : w18.cell? ⟨go5, (D0 : Int).toNat * 6, none⟩ = some (.bool ((rd_T49 D7 D0).f0.f0)) := hcc8 0 _ rfl; have Ek : w18.cell? ⟨go5, (D0 : Int).toNat * 6 + 1, none⟩ = some (.string ((rd_T49 D7 D0).f0.f1)) := hcc8 1 _ rfl; have El : w18.cell? ⟨go5, (D0 : Int).toNat * 6 + 2, none⟩ = some (.int .i64 ((rd_T49 D7 D0).f0.f2)) := hcc8 2 _ rfl; have Em : w18.cell? ⟨go5, (D0 : Int).toNat * 6 + 3, none⟩ = some (.bool ((rd_T49 D7 D0).f1.f0)) := hcc8 3 _ rfl; have En : w18.cell? ⟨go5, (D0 : Int).toNat * 6 + 4, none⟩ = some (.string ((rd_T49 D7 D0).f1.f1)) := hcc8 4 _ rfl; have Eo : w18.cell? ⟨go5, (D0 : Int).toNat * 6 + 5, none⟩ = some (.int .i64 ((rd_T49 D7 D0).f1.f2)) := hcc8 5 _ rfl; have hf8_0 : w18.frozen? ⟨go5, (D0 : Int).toNat * 6, none⟩ = false := hfr8 0; have hf8_1 : w18.frozen? ⟨go5, (D0 : Int).toNat * 6 + 1, none⟩ = false := hfr8 1; have hf8_2 : w18.frozen? ⟨go5, (D0 : Int).toNat * 6 + 2, none⟩ = false := hfr8 2; have hf8_3 : w18.frozen? ⟨go5, (D0 : Int).toNat * 6 + 3, none⟩ = false := hfr8 3; have hf8_4 : w18.frozen? ⟨go5, (D0 : Int).toNat * 6 + 4, none⟩ = false := hfr8 4; have hf8_5 : w18.frozen? ⟨go5, (D0 : Int).toNat * 6 + 5, none⟩ = false := hfr8 5; clear hcl8 hcc8 hfr8 hM8; replace p8 := eq_true p8; replace q8 := eq_true q8; have HX19 := Cmp.A (show Kd.R k49 49 w18 w0.heap.size (fun k_ => (P0_ k_ ∨ w.heap.size ≤ k_)) (.slice (some ⟨go5, 0, none⟩) D1.length Da) D7 from (Cmp.rr D5.out)); obtain ⟨ce19, hcl19, hM19, hcc19, hfr19⟩ := Kd.R_elem HX19.out z49 (D0 : Int) (of_decide_eq_true Cmp.d) (by have h_ : (D0 : Int) < ((D1.length : Int) : Int) := of_decide_eq_true Cmp.d; first | exact h_ | (have e_ := (Kd.R_reads' D5.out).1; omega) | simpa using h_); obtain rfl := k49_openM hM19; have HP19 := Kd.R_seg HX19.out (D0 : Int) (of_decide_eq_true Cmp.d) (by have h_ : (D0 : Int) < ((D1.length : Int) : Int) := of_decide_eq_true Cmp.d; first | exact h_ | (have e_ := (Kd.R_reads' D5.out).1; omega) | simpa using h_) (seg := [.int .i64 (wrap64 ((wrap64 (D4 + 1)) + 1))]) (j := 2) hcl19 hcc19 (show 3 ≤ 6 from by decide) (x' := (⟨(⟨(rd_T49 D7 D0).f0.f0, (rd_T49 D7 D0).f0.f1, wrap64 ((wrap64 (D4 + 1)) + 1)⟩ : S38), (⟨(rd_T49 D7 D0).f1.f0, (rd_T49 D7 D0).f1.f1, (rd_T49 D7 D0).f1.f2⟩ : S38)⟩ : S49)) (k49_mkM _ _ _ (⟨(⟨(rd_T49 D7 D0).f0.f0, (rd_T49 D7 D0).f0.f1, wrap64 ((wrap64 (D4 + 1)) + 1)⟩ : S38), (⟨(rd_T49 D7 D0).f1.f0, (rd_T49 D7 D0).f1.f1, (rd_T49 D7 D0).f1.f2⟩ : S38)⟩ : S49) ) (fun _ hk => hk); have De := hcc19 2 _ rfl; (try simp only [show (k49).sz = 6 from rfl, Nat.mul_one, Nat.add_zero] at De); have hf19_2 := hfr19 2; (try simp only [show (k49).sz = 6 from rfl, Nat.mul_one, Nat.add_zero] at hf19_2); clear hcl19 hcc19 hfr19 hM19) | ((with_reducible refine gate_store (t := 3) (p := 36) rfl ?_); refine store_event (t := 3) (p := 36) (v := ?vo_w20) (w1 := (w18.setCell ⟨go5, (D0 : Int).toNat * 6 + 2, none⟩ (.int .i64 (wrap64 ((wrap64 (D4 + 1)) + 1))))) ?hg ?ho ?hn ?hr ?_; (case ho => rfl); (case hg => rfl); (case hn => rfl); (case hr => first | (go_simp; done) | (go_simp; rfl)); intro w20 hw; have hg : w18.grownBy w20 (some go5) := (by rw [hw]; exact HP19.2); have hp_ : Kd.R k49 49 w20 w0.heap.size (fun k_ => (P0_ k_ ∨ w.heap.size ≤ k_)) (.slice (some ⟨go5, 0, none⟩) D1.length Da) D6 := (by rw [hw, Dm.out]; exact HP19.1); clear HP19; replace HB := Cmp.A ((by rw [hw]; exact below_set (HB.out) GB5.out : Below w0.heap.size w0 w20)); replace HK := Cmp.A (Kept.of_grown (S := (fun k_ => P0_ k_)) hg (by repeat (first | (with_reducible first | exact HK.out | apply Kept.alloc | apply Kept.drewN | apply Kept.drew) | exact HK.out)) (fun k_ e_ => (D5.out.1 k_ e_))); replace D5 := Cmp.A (hp_); clear hg hw hp_; have p9 : 0 ≤ (D0 : Int) := of_decide_eq_true Cmp.d; have q9 : (D0 : Int) < ((D1.length : Int) : Int) := of_decide_eq_true Cmp.d; obtain ⟨ce9, hcl9, hM9, hcc9, hfr9⟩ := Kd.R_elem D5.out z49 (D0 : Int) p9 q9; obtain rfl := k49_openM hM9; have Ep : w20.cell? ⟨go5, (D0 : Int).toNat * 6, none⟩ = some (.bool ((rd_T49 D6 D0).f0.f0)) := hcc9 0 _ rfl; have Eq : w20.cell? ⟨go5, (D0 : Int).toNat * 6 + 1, none⟩ = some (.string ((rd_T49 D6 D0).f0.f1)) := hcc9 1 _ rfl; have Er : w20.cell? ⟨go5, (D0 : Int).toNat * 6 + 2, none⟩ = some (.int .i64 ((rd_T49 D6 D0).f0.f2)) := hcc9 2 _ rfl; have Es : w20.cell? ⟨go5, (D0 : Int).toNat * 6 + 3, none⟩ = some (.bool ((rd_T49 D6 D0).f1.f0)) := hcc9 3 _ rfl; have Et : w20.cell? ⟨go5, (D0 : Int).toNat * 6 + 4, none⟩ = some (.string ((rd_T49 D6 D0).f1.f1)) := hcc9 4 _ rfl; have Eu : w20.cell? ⟨go5, (D0 : Int).toNat * 6 + 5, none⟩ = some (.int .i64 ((rd_T49 D6 D0).f1.f2)) := hcc9 5 _ rfl; have hf9_0 : w20.frozen? ⟨go5, (D0 : Int).toNat * 6, none⟩ = false := hfr9 0; have hf9_1 : w20.frozen? ⟨go5, (D0 : Int).toNat * 6 + 1, none⟩ = false := hfr9 1; have hf9_2 : w20.frozen? ⟨go5, (D0 : Int).toNat * 6 + 2, none⟩ = false := hfr9 2; have hf9_3 : w20.frozen? ⟨go5, (D0 : Int).toNat * 6 + 3, none⟩ = false := hfr9 3; have hf9_4 : w20.frozen? ⟨go5, (D0 : Int).toNat * 6 + 4, none⟩ = false := hfr9 4; have hf9_5 : w20.frozen? ⟨go5, (D0 : Int).toNat * 6 + 5, none⟩ = false := hfr9 5; clear hcl9 hcc9 hfr9 hM9; replace p9 := eq_true p9; replace q9 := eq_true q9; have HX21 := Cmp.A (show Kd.R k49 49 w20 w0.heap.size (fun k_ => (P0_ k_ ∨ w.heap.size ≤ k_)) (.slice (some ⟨go5, 0, none⟩) D1.length Da) D6 from (Cmp.rr D5.out)); obtain ⟨ce21, hcl21, hM21, hcc21, hfr21⟩ := Kd.R_elem HX21.out z49 (D0 : Int) (of_decide_eq_true Cmp.d) (by have h_ : (D0 : Int) < ((D1.length : Int) : Int) := of_decide_eq_true Cmp.d; first | exact h_ | (have e_ := (Kd.R_reads' D5.out).1; omega) | simpa using h_); obtain rfl := k49_openM hM21; have HP21 := Kd.R_seg HX21.out (D0 : Int) (of_decide_eq_true Cmp.d) (by have h_ : (D0 : Int) < ((D1.length : Int) : Int) := of_decide_eq_true Cmp.d; first | exact h_ | (have e_ := (Kd.R_reads' D5.out).1; omega) | simpa using h_) (seg := [.bool ((Int.tmod (wrap64 ((wrap64 ((wrap64 (D4 + 1)) + 1)) + 1)) 3) == 0)]) (j := 3) hcl21 hcc21 (show 4 ≤ 6 from by decide) (x' := (⟨(⟨(rd_T49 D6 D0).f0.f0, (rd_T49 D6 D0).f0.f1, (rd_T49 D6 D0).f0.f2⟩ : S38), (⟨((Int.tmod (wrap64 ((wrap64 ((wrap64 (D4 + 1)) + 1)) + 1)) 3) == 0), (rd_T49 D6 D0).f1.f1, (rd_T49 D6 D0).f1.f2⟩ : S38)⟩ : S49)) (k49_mkM _ _ _ (⟨(⟨(rd_T49 D6 D0).f0.f0, (rd_T49 D6 D0).f0.f1, (rd_T49 D6 D0).f0.f2⟩ : S38), (⟨((Int.tmod (wrap64 ((wrap64 ((wrap64 (D4 + 1)) + 1)) + 1)) 3) == 0), (rd_T49 D6 D0).f1.f1, (rd_T49 D6 D0).f1.f2⟩ : S38)⟩ : S49) ) (fun _ hk => hk); have Df := hcc21 3 _ rfl; (try simp only [show (k49).sz = 6 from rfl, Nat.mul_one, Nat.add_zero] at Df); have hf21_3 := hfr21 3; (try simp only [show (k49).sz = 6 from rfl, Nat.mul_one, Nat.add_zero] at hf21_3); clear hcl21 hcc21 hfr21 hM21) | ((with_reducible refine gate_store (t := 4) (p := 46) rfl ?_); refine store_event (t := 4) (p := 46) (v := ?vo_w22) (w1 := (w20.setCell ⟨go5, (D0 : Int).toNat * 6 + 3, none⟩ (.bool ((Int.tmod (wrap64 ((wrap64 ((wrap64 (D4 + 1)) + 1)) + 1)) 3) == 0)))) ?hg ?ho ?hn ?hr ?_; (case ho => rfl); (case hg => rfl); (case hn => rfl); (case hr => first | (go_simp; done) | (go_simp; rfl)); intro w22 hw; have hg : w20.grownBy w22 (some go5) := (by rw [hw]; exact HP21.2); have hp_ : Kd.R k49 49 w22 w0.heap.size (fun k_ => (P0_ k_ ∨ w.heap.size ≤ k_)) (.slice (some ⟨go5, 0, none⟩) D1.length Da) D3 := (by rw [hw, Dn.out]; exact HP21.1); clear HP21; replace HB := Cmp.A ((by rw [hw]; exact below_set (HB.out) GB5.out : Below w0.heap.size w0 w22)); replace HK := Cmp.A (Kept.of_grown (S := (fun k_ => P0_ k_)) hg (by repeat (first | (with_reducible first | exact HK.out | apply Kept.alloc | apply Kept.drewN | apply Kept.drew) | exact HK.out)) (fun k_ e_ => (D5.out.1 k_ e_))); replace D5 := Cmp.A (hp_); clear hg hw hp_) | ((with_reducible refine gate_callee (f := 34) rfl ?_); refine goesL_ (some 52) rfl rfl Tryd.func34 (by kernel_rfl) rfl #[.int .i64 (wrap64 ((wrap64 ((wrap64 ((wrap64 (D4 + 1)) + 1)) + 1)) + 1))] rfl Cmp.q ?_; (with_reducible refine (laws_markText.calls k1 (wrap64 ((wrap64 ((wrap64 ((wrap64 (D4 + 1)) + 1)) + 1)) + 1)) D9 _ Ev.out).mono ?_); rintro e w23 ⟨rfl, hb⟩; refine ⟨_, rfl, ?_⟩; replace D5 := Cmp.A (Kd.R_below (Cmp.rr D5.out) hb); replace HK := Cmp.A (Kept.below (S := (fun k_ => P0_ k_)) (by repeat (first | (with_reducible first | exact HK.out | apply Kept.alloc | apply Kept.drewN | apply Kept.drew) | exact HK.out)) hb); replace HB := Cmp.bs HB hb; (try clear hb); (try clear hb2); (try clear hk); (try clear hi); have p11 : 0 ≤ (D0 : Int) := of_decide_eq_true Cmp.d; have q11 : (D0 : Int) < ((D1.length : Int) : Int) := of_decide_eq_true Cmp.d; obtain ⟨ce11, hcl11, hM11, hcc11, hfr11⟩ := Kd.R_elem D5.out z49 (D0 : Int) p11 q11; obtain rfl := k49_openM hM11; have Ds : w23.cell? ⟨go5, (D0 : Int).toNat * 6, none⟩ = some (.bool ((rd_T49 D3 D0).f0.f0)) := hcc11 0 _ rfl; have Dt : w23.cell? ⟨go5, (D0 : Int).toNat * 6 + 1, none⟩ = some (.string ((rd_T49 D3 D0).f0.f1)) := hcc11 1 _ rfl; have Du : w23.cell? ⟨go5, (D0 : Int).toNat * 6 + 2, none⟩ = some (.int .i64 ((rd_T49 D3 D0).f0.f2)) := hcc11 2 _ rfl; have Dv : w23.cell? ⟨go5, (D0 : Int).toNat * 6 + 3, none⟩ = some (.bool ((rd_T49 D3 D0).f1.f0)) := hcc11 3 _ rfl; have Dw : w23.cell? ⟨go5, (D0 : Int).toNat * 6 + 4, none⟩ = some (.string ((rd_T49 D3 D0).f1.f1)) := hcc11 4 _ rfl; have Dx : w23.cell? ⟨go5, (D0 : Int).toNat * 6 + 5, none⟩ = some (.int .i64 ((rd_T49 D3 D0).f1.f2)) := hcc11 5 _ rfl; have hf11_0 : w23.frozen? ⟨go5, (D0 : Int).toNat * 6, none⟩ = false := hfr11 0; have hf11_1 : w23.frozen? ⟨go5, (D0 : Int).toNat * 6 + 1, none⟩ = false := hfr11 1; have hf11_2 : w23.frozen? ⟨go5, (D0 : Int).toNat * 6 + 2, none⟩ = false := hfr11 2; have hf11_3 : w23.frozen? ⟨go5, (D0 : Int).toNat * 6 + 3, none⟩ = false := hfr11 3; have hf11_4 : w23.frozen? ⟨go5, (D0 : Int).toNat * 6 + 4, none⟩ = false := hfr11 4; have hf11_5 : w23.frozen? ⟨go5, (D0 : Int).toNat * 6 + 5, none⟩ = false := hfr11 5; clear hcl11 hcc11 hfr11 hM11; replace p11 := eq_true p11; replace q11 := eq_true q11; have HX24 := Cmp.A (show Kd.R k49 49 w23 w0.heap.size (fun k_ => (P0_ k_ ∨ w.heap.size ≤ k_)) (.slice (some ⟨go5, 0, none⟩) D1.length Da) D3 from (Cmp.rr D5.out)); obtain ⟨ce24, hcl24, hM24, hcc24, hfr24⟩ := Kd.R_elem HX24.out z49 (D0 : Int) (of_decide_eq_true Cmp.d) (by have h_ : (D0 : Int) < ((D1.length : Int) : Int) := of_decide_eq_true Cmp.d; first | exact h_ | (have e_ := (Kd.R_reads' D5.out).1; omega) | simpa using h_); obtain rfl := k49_openM hM24; have HP24 := Kd.R_seg HX24.out (D0 : Int) (of_decide_eq_true Cmp.d) (by have h_ : (D0 : Int) < ((D1.length : Int) : Int) := of_decide_eq_true Cmp.d; first | exact h_ | (have e_ := (Kd.R_reads' D5.out).1; omega) | simpa using h_) (seg := [.string D9]) (j := 4) hcl24 hcc24 (show 5 ≤ 6 from by decide) (x' := (⟨(⟨(rd_T49 D3 D0).f0.f0, (rd_T49 D3 D0).f0.f1, (rd_T49 D3 D0).f0.f2⟩ : S38), (⟨(rd_T49 D3 D0).f1.f0, D9, (rd_T49 D3 D0).f1.f2⟩ : S38)⟩ : S49)) (k49_mkM _ _ _ (⟨(⟨(rd_T49 D3 D0).f0.f0, (rd_T49 D3 D0).f0.f1, (rd_T49 D3 D0).f0.f2⟩ : S38), (⟨(rd_T49 D3 D0).f1.f0, D9, (rd_T49 D3 D0).f1.f2⟩ : S38)⟩ : S49) ) (fun _ hk => hk); have Dg := hcc24 4 _ rfl; (try simp only [show (k49).sz = 6 from rfl, Nat.mul_one, Nat.add_zero] at Dg); have hf24_4 := hfr24 4; (try simp only [show (k49).sz = 6 from rfl, Nat.mul_one, Nat.add_zero] at hf24_4); clear hcl24 hcc24 hfr24 hM24) | ((with_reducible refine gate_store (t := 9) (p := 55) rfl ?_); refine store_event (t := 9) (p := 55) (v := ?vo_w25) (w1 := (w23.setCell ⟨go5, (D0 : Int).toNat * 6 + 4, none⟩ (.string D9))) ?hg ?ho ?hn ?hr ?_; (case ho => rfl); (case hg => rfl); (case hn => rfl); (case hr => first | (go_simp; done) | (go_simp; rfl)); intro w25 hw; have hg : w23.grownBy w25 (some go5) := (by rw [hw]; exact HP24.2); have hp_ : Kd.R k49 49 w25 w0.heap.size (fun k_ => (P0_ k_ ∨ w.heap.size ≤ k_)) (.slice (some ⟨go5, 0, none⟩) D1.length Da) D2 := (by rw [hw, Do.out]; exact HP24.1); clear HP24; replace HB := Cmp.A ((by rw [hw]; exact below_set (HB.out) GB5.out : Below w0.heap.size w0 w25)); replace HK := Cmp.A (Kept.of_grown (S := (fun k_ => P0_ k_)) hg (by repeat (first | (with_reducible first | exact HK.out | apply Kept.alloc | apply Kept.drewN | apply Kept.drew) | exact HK.out)) (fun k_ e_ => (D5.out.1 k_ e_))); replace D5 := Cmp.A (hp_); clear hg hw hp_; have p12 : 0 ≤ (D0 : Int) := of_decide_eq_true Cmp.d; have q12 : (D0 : Int) < ((D1.length : Int) : Int) := of_decide_eq_true Cmp.d; obtain ⟨ce12, hcl12, hM12, hcc12, hfr12⟩ := Kd.R_elem D5.out z49 (D0 : Int) p12 q12; obtain rfl := k49_openM hM12; have Dy : w25.cell? ⟨go5, (D0 : Int).toNat * 6, none⟩ = some (.bool ((rd_T49 D2 D0).f0.f0)) := hcc12 0 _ rfl; have Dz : w25.cell? ⟨go5, (D0 : Int).toNat * 6 + 1, none⟩ = some (.string ((rd_T49 D2 D0).f0.f1)) := hcc12 1 _ rfl; have E0 : w25.cell? ⟨go5, (D0 : Int).toNat * 6 + 2, none⟩ = some (.int .i64 ((rd_T49 D2 D0).f0.f2)) := hcc12 2 _ rfl; have E1 : w25.cell? ⟨go5, (D0 : Int).toNat * 6 + 3, none⟩ = some (.bool ((rd_T49 D2 D0).f1.f0)) := hcc12 3 _ rfl; have E2 : w25.cell? ⟨go5, (D0 : Int).toNat * 6 + 4, none⟩ = some (.string ((rd_T49 D2 D0).f1.f1)) := hcc12 4 _ rfl; have E3 : w25.cell? ⟨go5, (D0 : Int).toNat * 6 + 5, none⟩ = some (.int .i64 ((rd_T49 D2 D0).f1.f2)) := hcc12 5 _ rfl; have hf12_0 : w25.frozen? ⟨go5, (D0 : Int).toNat * 6, none⟩ = false := hfr12 0; have hf12_1 : w25.frozen? ⟨go5, (D0 : Int).toNat * 6 + 1, none⟩ = false := hfr12 1; have hf12_2 : w25.frozen? ⟨go5, (D0 : Int).toNat * 6 + 2, none⟩ = false := hfr12 2; have hf12_3 : w25.frozen? ⟨go5, (D0 : Int).toNat * 6 + 3, none⟩ = false := hfr12 3; have hf12_4 : w25.frozen? ⟨go5, (D0 : Int).toNat * 6 + 4, none⟩ = false := hfr12 4; have hf12_5 : w25.frozen? ⟨go5, (D0 : Int).toNat * 6 + 5, none⟩ = false := hfr12 5; clear hcl12 hcc12 hfr12 hM12; replace p12 := eq_true p12; replace q12 := eq_true q12; have HX26 := Cmp.A (show Kd.R k49 49 w25 w0.heap.size (fun k_ => (P0_ k_ ∨ w.heap.size ≤ k_)) (.slice (some ⟨go5, 0, none⟩) D1.length Da) D2 from (Cmp.rr D5.out)); obtain ⟨ce26, hcl26, hM26, hcc26, hfr26⟩ := Kd.R_elem HX26.out z49 (D0 : Int) (of_decide_eq_true Cmp.d) (by have h_ : (D0 : Int) < ((D1.length : Int) : Int) := of_decide_eq_true Cmp.d; first | exact h_ | (have e_ := (Kd.R_reads' D5.out).1; omega) | simpa using h_); obtain rfl := k49_openM hM26; have HP26 := Kd.R_seg HX26.out (D0 : Int) (of_decide_eq_true Cmp.d) (by have h_ : (D0 : Int) < ((D1.length : Int) : Int) := of_decide_eq_true Cmp.d; first | exact h_ | (have e_ := (Kd.R_reads' D5.out).1; omega) | simpa using h_) (seg := [.int .i64 (wrap64 ((wrap64 ((wrap64 ((wrap64 ((wrap64 (D4 + 1)) + 1)) + 1)) + 1)) + 1))]) (j := 5) hcl26 hcc26 (show 6 ≤ 6 from by decide) (x' := (⟨(⟨(rd_T49 D2 D0).f0.f0, (rd_T49 D2 D0).f0.f1, (rd_T49 D2 D0).f0.f2⟩ : S38), (⟨(rd_T49 D2 D0).f1.f0, (rd_T49 D2 D0).f1.f1, wrap64 ((wrap64 ((wrap64 ((wrap64 ((wrap64 (D4 + 1)) + 1)) + 1)) + 1)) + 1)⟩ : S38)⟩ : S49)) (k49_mkM _ _ _ (⟨(⟨(rd_T49 D2 D0).f0.f0, (rd_T49 D2 D0).f0.f1, (rd_T49 D2 D0).f0.f2⟩ : S38), (⟨(rd_T49 D2 D0).f1.f0, (rd_T49 D2 D0).f1.f1, wrap64 ((wrap64 ((wrap64 ((wrap64 ((wrap64 (D4 + 1)) + 1)) + 1)) + 1)) + 1)⟩ : S38)⟩ : S49) ) (fun _ hk => hk); have Dh := hcc26 5 _ rfl; (try simp only [show (k49).sz = 6 from rfl, Nat.mul_one, Nat.add_zero] at Dh); have hf26_5 := hfr26 5; (try simp only [show (k49).sz = 6 from rfl, Nat.mul_one, Nat.add_zero] at hf26_5); clear hcl26 hcc26 hfr26 hM26) | ((with_reducible refine gate_store (t := 3) (p := 63) rfl ?_); refine store_event (t := 3) (p := 63) (v := ?vo_w27) (w1 := (w25.setCell ⟨go5, (D0 : Int).toNat * 6 + 5, none⟩ (.int .i64 (wrap64 ((wrap64 ((wrap64 ((wrap64 ((wrap64 (D4 + 1)) + 1)) + 1)) + 1)) + 1))))) ?hg ?ho ?hn ?hr ?_; (case ho => rfl); (case hg => rfl); (case hn => rfl); (case hr => first | (go_simp; done) | (go_simp; rfl)); intro w27 hw; have hg : w25.grownBy w27 (some go5) := (by rw [hw]; exact HP26.2); have hp_ : Kd.R k49 49 w27 w0.heap.size (fun k_ => (P0_ k_ ∨ w.heap.size ≤ k_)) (.slice (some ⟨go5, 0, none⟩) D1.length Da) Di := (by rw [hw, Dp.out]; exact HP26.1); clear HP26; replace HB := Cmp.A ((by rw [hw]; exact below_set (HB.out) GB5.out : Below w0.heap.size w0 w27)); replace HK := Cmp.A (Kept.of_grown (S := (fun k_ => P0_ k_)) hg (by repeat (first | (with_reducible first | exact HK.out | apply Kept.alloc | apply Kept.drewN | apply Kept.drew) | exact HK.out)) (fun k_ e_ => (D5.out.1 k_ e_))); replace D5 := Cmp.A (hp_); clear hg hw hp_))
     go_roundg k1
     case measure => have := HK1.out; omega
     case rel => exact ⟨(Di), (wrap64 ((wrap64 ((wrap64 ((wrap64 ((wrap64 ((wrap64 (D4 + 1)) + 1)) + 1)) + 1)) + 1)) + 1)), (wrap64 (D0 + 1)), (by first | rfl | simp | simp [*]), (by first | rfl | simp | simp [*]), H', ⟨by have := HK1.out; omega⟩, ⟨Cmp.rr D5.out⟩, ⟨by repeat (first | (with_reducible first | exact HK.out | apply Kept.alloc | apply Kept.drewN | apply Kept.drew) | exact HK.out)⟩, ⟨Cmp.g HB.out⟩⟩
    ·rw [if_neg c4] at H; exact absurd H (by simp)
   ·rw [if_neg c3] at H
    have c3b0 : decide (D0 < (D1.length : Int)) = false := decide_eq_false c3
    clear c3
    simp only [Option.some.injEq, Prod.mk.injEq] at H
    obtain ⟨rfl, rfl⟩ := H
    obtain ⟨Ex, Ez, Dr⟩ := Kd.R_slice D5.out
    subst Dr
    go_wp2
    go_ret
    exact ⟨by first | rfl | (simp [errW_none, errW_some] <;> rfl) | (simp [*, errW_none, errW_some] <;> rfl), by (with_reducible repeat (first | apply Kd.R_alloc | apply Kd.R_drewN | apply Kd.R_drew)); exact D5.out, Cmp.g HB.out, by repeat (first | (with_reducible first | exact HK.out | apply Kept.alloc | apply Kept.drewN | apply Kept.drew) | exact HK.out)⟩
end Go.Proofs.YtpgjecknkmmnhaaDoor.PFnExactOpenTab

/- Printed functions of the program, out of print.sh, told more shortly. No condition. -/
import Derived.Test.YtpgjecknkmmnhaaDoorCmp
import Derived.Test.YtpgjecknkmmnhaaDoorPFnExactOpenTabx0
import Derived.Test.YtpgjecknkmmnhaaDoorPFnExactOpenTabx7
namespace Go.Proofs.YtpgjecknkmmnhaaDoor.PFnExactOpenTab
open Go.Proofs.YtpgjecknkmmnhaaDoor
open Go.RowKit Go.Proofs.YtpgjecknkmmnhaaDoorW.PrintWords Go.Proofs.YtpgjecknkmmnhaaDoorW.PrintLast Go.Proofs.YtpgjecknkmmnhaaDoorW.PrintMore
attribute [local go_sem] max2_int min2_int max_two min_two max_three min_three max_four min_four   -- for this text's walks alone
set_option linter.unusedVariables false
set_option linter.unusedSimpArgs false
/-! ### laws_heldBrowser: function 13 -/
def laws_heldBrowser.f (k : Nat) (a0_0 : Int) (a0_1 : Int) (a0_2 : Int) (a0_3 : Int) (l0_4 : List (S49)) (a0_5 : Int) (a1 : Int) : Option (Int) := (laws_heldTabS.f k l0_4 a1).bind fun t264 => (if t264 < 0 then (some (-1)) else (some t264))
theorem laws_heldBrowser.mono : ∀ a0 a1 a2 a3 a4 a5 a6 k, LeO (laws_heldBrowser.f k a0 a1 a2 a3 a4 a5 a6) (laws_heldBrowser.f (k + 1) a0 a1 a2 a3 a4 a5 a6) := by
  intro a0 a1 a2 a3 a4 a5 a6 k
  unfold laws_heldBrowser.f
  repeat' first
 | (with_reducible exact laws_heldTabS.mono _ _ _)
 | (with_reducible exact LeO.refl _)
 | (with_reducible exact LeO.none _)
 | (with_reducible refine LeO.ite ?_ ?_)
 | (with_reducible refine LeO.bind ?_ (fun _ => ?_))
set_option maxHeartbeats 8000000 in
set_option maxRecDepth 100000 in
theorem laws_heldBrowser.calls (k : Nat) (a0_0 : Int) (a0_1 : Int) (a0_2 : Int) (a0_3 : Int) (A0_4 : Option Addr) (c0_4 : Nat) (l0_4 : List (S49)) (a0_5 : Int) (a1 : Int) (r : Int) (w : World) (hr0_4 : Kd.C k49 w A0_4 l0_4.length l0_4) (hc0_4 : l0_4.length ≤ c0_4) (h : laws_heldBrowser.f k a0_0 a0_1 a0_2 a0_3 l0_4 a0_5 a1 = some r) :
    Calls Tryd.prog 13 #[.agg #[.int .i64 a0_0, .int .i64 a0_1, .int .i64 a0_2, .int .i64 a0_3, .slice A0_4 l0_4.length c0_4, .int .i64 a0_5], .int .i64 a1] w fun e w' => e = .returned (.int .i64 r) ∧ Below w.heap.size w w' := by
 have hu34 := Tryd.underlying34; have D2 := Cmp.A hr0_4; have HC0_4 := Cmp.A hc0_4; clear hr0_4 hc0_4
 have HB := Cmp.A (Below.refl w.heap.size w)
 have H : ((laws_heldTabS.f k l0_4 a1).bind fun D1 => (if D1 < 0 then (some (-1)) else (some D1))) = some r := h
 clear h; replace H := Option.bind_eq_some_iff.mp H; obtain ⟨D1, Du, H⟩ := H; (try dsimp only at H); have A3 := Cmp.A Du; clear Du
 by_cases c4 : D1 < 0
 ·rw [if_pos c4] at H; have c4b0 : decide (D1 < 0) = true := decide_eq_true c4; clear c4
  obtain rfl := Option.some.inj H
  go_enter Tryd.func13, Tryd.ntmps13
  go_wp2_with (first | ((with_reducible refine gate_dst (N := 2) rfl ?_); refine box_event ?hg (N := 2) ?hd (cs := #[.int .i64 a0_0, .int .i64 a0_1, .int .i64 a0_2, .int .i64 a0_3, .slice A0_4 l0_4.length c0_4, .int .i64 a0_5]) (t := 34) ?hr ?_; (case hd => rfl); (case hg => rfl); (case hr => first | (go_simp; done) | (go_simp; rfl)); intro D5 hg w5 hbox hb; have D0 := Cmp.A (hbox); have D4 := Cmp.gw hg HB; have D3 := Cmp.gw hg HB; replace HB := Cmp.bs HB hb; clear hb hbox hg; obtain ⟨D6, D7, D8, D9, Da, Db⟩ := Cmp.q6 D0; obtain ⟨Di, Dj, Dk, Dl, Dm, Dn⟩ := Cmp.f6 D0) | ((with_reducible refine gate_callee (f := 26) rfl ?_); refine goesL_ (some 8) rfl rfl Tryd.func26 (by kernel_rfl) rfl #[.slice A0_4 l0_4.length c0_4, .int .i64 a1] rfl Cmp.q ?_; (with_reducible refine (laws_heldTabS.calls k _ _ l0_4 a1 D1 _ ?side1 ?side2 A3.out).mono ?_); (case side1 => exact Cmp.rc (Kd.C_below D2.out HB.out)); (case side2 => exact HC0_4.out); rintro e w7 ⟨rfl, hb⟩; refine ⟨_, rfl, ?_⟩; replace D0 := Cmp.be D0 hb; replace HB := Cmp.bs HB hb; (try clear hb); (try clear hb2); (try clear hk); (try clear hi)))
  go_ret
  exact ⟨by first | rfl | (simp [errW_none, errW_some] <;> rfl) | (simp [*, errW_none, errW_some] <;> rfl), Cmp.g HB.out⟩
 ·rw [if_neg c4] at H; have c4b0 : decide (D1 < 0) = false := decide_eq_false c4; clear c4
  obtain rfl := Option.some.inj H
  go_enter Tryd.func13, Tryd.ntmps13
  go_wp2_with (first | ((with_reducible refine gate_dst (N := 2) rfl ?_); refine box_event ?hg (N := 2) ?hd (cs := #[.int .i64 a0_0, .int .i64 a0_1, .int .i64 a0_2, .int .i64 a0_3, .slice A0_4 l0_4.length c0_4, .int .i64 a0_5]) (t := 34) ?hr ?_; (case hd => rfl); (case hg => rfl); (case hr => first | (go_simp; done) | (go_simp; rfl)); intro D5 hg w8 hbox hb; have D0 := Cmp.A (hbox); have D4 := Cmp.gw hg HB; have D3 := Cmp.gw hg HB; replace HB := Cmp.bs HB hb; clear hb hbox hg; obtain ⟨Dc, Dd, De, Df, Dg, Dh⟩ := Cmp.q6 D0; obtain ⟨Do, Dp, Dq, Dr, Ds, Dt⟩ := Cmp.f6 D0) | ((with_reducible refine gate_callee (f := 26) rfl ?_); refine goesL_ (some 8) rfl rfl Tryd.func26 (by kernel_rfl) rfl #[.slice A0_4 l0_4.length c0_4, .int .i64 a1] rfl Cmp.q ?_; (with_reducible refine (laws_heldTabS.calls k _ _ l0_4 a1 D1 _ ?side1 ?side2 A3.out).mono ?_); (case side1 => exact Cmp.rc (Kd.C_below D2.out HB.out)); (case side2 => exact HC0_4.out); rintro e w10 ⟨rfl, hb⟩; refine ⟨_, rfl, ?_⟩; replace D0 := Cmp.be D0 hb; replace HB := Cmp.bs HB hb; (try clear hb); (try clear hb2); (try clear hk); (try clear hi)))
  go_ret
  exact ⟨by first | rfl | (simp [errW_none, errW_some] <;> rfl) | (simp [*, errW_none, errW_some] <;> rfl), Cmp.g HB.out⟩
end Go.Proofs.YtpgjecknkmmnhaaDoor.PFnExactOpenTab

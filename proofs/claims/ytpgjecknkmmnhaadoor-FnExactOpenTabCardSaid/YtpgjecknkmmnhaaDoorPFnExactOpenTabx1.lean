/- Printed functions of the program, out of print.sh, told more shortly. No condition. -/
import Derived.Test.YtpgjecknkmmnhaaDoorCmp
import Derived.Test.YtpgjecknkmmnhaaDoorPFnExactOpenTabx0
namespace Go.Proofs.YtpgjecknkmmnhaaDoor.PFnExactOpenTab
open Go.Proofs.YtpgjecknkmmnhaaDoor
open Go.RowKit Go.Proofs.YtpgjecknkmmnhaaDoorW.PrintWords Go.Proofs.YtpgjecknkmmnhaaDoorW.PrintLast Go.Proofs.YtpgjecknkmmnhaaDoorW.PrintMore
attribute [local go_sem] max2_int min2_int max_two min_two max_three min_three max_four min_four   -- for this text's walks alone
set_option linter.unusedVariables false
set_option linter.unusedSimpArgs false
/-! ### laws_szOrigin: function 6 -/
def laws_szOrigin.f (a0_0 : Bool) (a0_1 : ByteArray) (a0_2 : Int) (a1 : Int) : Option (Int) := if (wrap64 (a1 - (a0_1.size : Int))) < 0 then (some (-1)) else (some (wrap64 (a1 - (a0_1.size : Int))))
set_option maxHeartbeats 8000000 in
set_option maxRecDepth 100000 in
theorem laws_szOrigin.calls (a0_0 : Bool) (a0_1 : ByteArray) (a0_2 : Int) (a1 : Int) (r : Int) (w : World) (h : laws_szOrigin.f a0_0 a0_1 a0_2 a1 = some r) :
    Calls Tryd.prog 6 #[.agg #[.bool a0_0, .string a0_1, .int .i64 a0_2], .int .i64 a1] w fun e w' => e = .returned (.int .i64 r) ∧ Below w.heap.size w w' := by
 have hu28 := Tryd.underlying28
 have HB := Cmp.A (Below.refl w.heap.size w)
 have H : (if (wrap64 (a1 - (a0_1.size : Int))) < 0 then (some (-1)) else (some (wrap64 (a1 - (a0_1.size : Int))))) = some r := h
 clear h
 by_cases c3 : (wrap64 (a1 - (a0_1.size : Int))) < 0
 ·rw [if_pos c3] at H
  have c3b0 : decide ((wrap64 (a1 - (a0_1.size : Int))) < 0) = true := decide_eq_true c3
  clear c3
  obtain rfl := Option.some.inj H
  go_enter Tryd.func6, Tryd.ntmps6
  go_wp2_with (first | ((with_reducible refine gate_dst (N := 2) rfl ?_); refine box_event ?hg (N := 2) ?hd (cs := #[.bool a0_0, .string a0_1, .int .i64 a0_2]) (t := 28) ?hr ?_; (case hd => rfl); (case hg => rfl); (case hr => first | (go_simp; done) | (go_simp; rfl)); intro D3 hg w4 hbox hb; have D0 := Cmp.A (hbox); have D2 := Cmp.gw hg HB; have D1 := Cmp.gw hg HB; replace HB := Cmp.bs HB hb; clear hb hbox hg; obtain ⟨D4, D5, D6⟩ := Cmp.q3 D0; obtain ⟨Da, Db, Dc⟩ := Cmp.f3 D0))
  go_ret
  exact ⟨by first | rfl | (simp [errW_none, errW_some] <;> rfl) | (simp [*, errW_none, errW_some] <;> rfl), Cmp.g HB.out⟩
 ·rw [if_neg c3] at H
  have c3b0 : decide ((wrap64 (a1 - (a0_1.size : Int))) < 0) = false := decide_eq_false c3
  clear c3
  obtain rfl := Option.some.inj H
  go_enter Tryd.func6, Tryd.ntmps6
  go_wp2_with (first | ((with_reducible refine gate_dst (N := 2) rfl ?_); refine box_event ?hg (N := 2) ?hd (cs := #[.bool a0_0, .string a0_1, .int .i64 a0_2]) (t := 28) ?hr ?_; (case hd => rfl); (case hg => rfl); (case hr => first | (go_simp; done) | (go_simp; rfl)); intro D3 hg w6 hbox hb; have D0 := Cmp.A (hbox); have D2 := Cmp.gw hg HB; have D1 := Cmp.gw hg HB; replace HB := Cmp.bs HB hb; clear hb hbox hg; obtain ⟨D7, D8, D9⟩ := Cmp.q3 D0; obtain ⟨Dd, De, Df⟩ := Cmp.f3 D0))
  go_ret
  exact ⟨by first | rfl | (simp [errW_none, errW_some] <;> rfl) | (simp [*, errW_none, errW_some] <;> rfl), Cmp.g HB.out⟩
/-! ### laws_szTab: function 28 -/
def laws_szTab.f (a0_0 : Bool) (a0_1 : ByteArray) (a0_2 : Int) (a0_3 : Bool) (a0_4 : ByteArray) (a0_5 : Int) (a1 : Int) : Option (Int) := (laws_szOrigin.f a0_0 a0_1 a0_2 a1).bind fun t103 => (if t103 < 0 then (some (-1)) else ((laws_szOrigin.f a0_3 a0_4 a0_5 t103).bind fun t104 => (if t104 < 0 then (some (-1)) else (some t104))))
set_option maxHeartbeats 8000000 in
set_option maxRecDepth 100000 in
theorem laws_szTab.calls (a0_0 : Bool) (a0_1 : ByteArray) (a0_2 : Int) (a0_3 : Bool) (a0_4 : ByteArray) (a0_5 : Int) (a1 : Int) (r : Int) (w : World) (h : laws_szTab.f a0_0 a0_1 a0_2 a0_3 a0_4 a0_5 a1 = some r) :
    Calls Tryd.prog 28 #[.agg #[.bool a0_0, .string a0_1, .int .i64 a0_2, .bool a0_3, .string a0_4, .int .i64 a0_5], .int .i64 a1] w fun e w' => e = .returned (.int .i64 r) ∧ Below w.heap.size w w' := by
 have hu58 := Tryd.underlying58; have hu28 := Tryd.underlying28
 have HB := Cmp.A (Below.refl w.heap.size w)
 have H : ((laws_szOrigin.f a0_0 a0_1 a0_2 a1).bind fun D1 => (if D1 < 0 then (some (-1)) else ((laws_szOrigin.f a0_3 a0_4 a0_5 D1).bind fun D2 => (if D2 < 0 then (some (-1)) else (some D2))))) = some r := h
 clear h; replace H := Option.bind_eq_some_iff.mp H; obtain ⟨D1, Eu, H⟩ := H; (try dsimp only at H); have A3 := Cmp.A Eu; clear Eu
 by_cases c4 : D1 < 0
 ·rw [if_pos c4] at H; have c4b0 : decide (D1 < 0) = true := decide_eq_true c4; clear c4
  obtain rfl := Option.some.inj H
  go_enter Tryd.func28, Tryd.ntmps28
  go_wp2_with (first | ((with_reducible refine gate_dst (N := 2) rfl ?_); refine box_event ?hg (N := 2) ?hd (cs := #[.bool a0_0, .string a0_1, .int .i64 a0_2, .bool a0_3, .string a0_4, .int .i64 a0_5]) (t := 58) ?hr ?_; (case hd => rfl); (case hg => rfl); (case hr => first | (go_simp; done) | (go_simp; rfl)); intro D5 hg w5 hbox hb; have D0 := Cmp.A (hbox); have D4 := Cmp.gw hg HB; have D3 := Cmp.gw hg HB; replace HB := Cmp.bs HB hb; clear hb hbox hg; obtain ⟨Ei, Ej, Ek, El, Em, En⟩ := Cmp.q6 D0; obtain ⟨Eo, Ep, Eq, Er, Es, Et⟩ := Cmp.f6 D0) | ((with_reducible refine gate_callee (f := 6) rfl ?_); refine goesL_ (some 8) rfl rfl Tryd.func6 (by kernel_rfl) rfl #[.agg #[.bool a0_0, .string a0_1, .int .i64 a0_2], .int .i64 a1] rfl Cmp.q ?_; (with_reducible refine (laws_szOrigin.calls a0_0 a0_1 a0_2 a1 D1 _ A3.out).mono ?_); rintro e w7 ⟨rfl, hb⟩; refine ⟨_, rfl, ?_⟩; replace D0 := Cmp.be D0 hb; replace HB := Cmp.bs HB hb; (try clear hb); (try clear hb2); (try clear hk); (try clear hi)))
  go_ret
  exact ⟨by first | rfl | (simp [errW_none, errW_some] <;> rfl) | (simp [*, errW_none, errW_some] <;> rfl), Cmp.g HB.out⟩
 ·rw [if_neg c4] at H; have c4b0 : decide (D1 < 0) = false := decide_eq_false c4; clear c4; replace H := Option.bind_eq_some_iff.mp H; obtain ⟨D2, Ev, H⟩ := H; (try dsimp only at H); have A8 := Cmp.A Ev; clear Ev
  by_cases c9 : D2 < 0
  ·rw [if_pos c9] at H; have c9b0 : decide (D2 < 0) = true := decide_eq_true c9; clear c9
   obtain rfl := Option.some.inj H
   go_enter Tryd.func28, Tryd.ntmps28
   go_wp2_with (first | ((with_reducible refine gate_dst (N := 2) rfl ?_); refine box_event ?hg (N := 2) ?hd (cs := #[.bool a0_0, .string a0_1, .int .i64 a0_2, .bool a0_3, .string a0_4, .int .i64 a0_5]) (t := 58) ?hr ?_; (case hd => rfl); (case hg => rfl); (case hr => first | (go_simp; done) | (go_simp; rfl)); intro D5 hg w10 hbox hb; have D0 := Cmp.A (hbox); have D4 := Cmp.gw hg HB; have D3 := Cmp.gw hg HB; replace HB := Cmp.bs HB hb; clear hb hbox hg; obtain ⟨D6, D7, D8, D9, Da, Db⟩ := Cmp.q6 D0; obtain ⟨Du, Dv, Dw, Dx, Dy, Dz⟩ := Cmp.f6 D0) | ((with_reducible refine gate_callee (f := 6) rfl ?_); refine goesL_ (some 8) rfl rfl Tryd.func6 (by kernel_rfl) rfl #[.agg #[.bool a0_0, .string a0_1, .int .i64 a0_2], .int .i64 a1] rfl Cmp.q ?_; (with_reducible refine (laws_szOrigin.calls a0_0 a0_1 a0_2 a1 D1 _ A3.out).mono ?_); rintro e w12 ⟨rfl, hb⟩; refine ⟨_, rfl, ?_⟩; replace D0 := Cmp.be D0 hb; replace HB := Cmp.bs HB hb; (try clear hb); (try clear hb2); (try clear hk); (try clear hi); obtain ⟨Dc, Dd, De, Df, Dg, Dh⟩ := Cmp.q6 D0; obtain ⟨E0, E1, E2, E3, E4, E5⟩ := Cmp.f6 D0) | ((with_reducible refine gate_callee (f := 6) rfl ?_); refine goesL_ (some 14) rfl rfl Tryd.func6 (by kernel_rfl) rfl #[.agg #[.bool a0_3, .string a0_4, .int .i64 a0_5], .int .i64 D1] rfl Cmp.q ?_; (with_reducible refine (laws_szOrigin.calls a0_3 a0_4 a0_5 D1 D2 _ A8.out).mono ?_); rintro e w14 ⟨rfl, hb⟩; refine ⟨_, rfl, ?_⟩; replace D0 := Cmp.be D0 hb; replace HB := Cmp.bs HB hb; (try clear hb); (try clear hb2); (try clear hk); (try clear hi)))
   go_ret
   exact ⟨by first | rfl | (simp [errW_none, errW_some] <;> rfl) | (simp [*, errW_none, errW_some] <;> rfl), Cmp.g HB.out⟩
  ·rw [if_neg c9] at H; have c9b0 : decide (D2 < 0) = false := decide_eq_false c9; clear c9
   obtain rfl := Option.some.inj H
   go_enter Tryd.func28, Tryd.ntmps28
   go_wp2_with (first | ((with_reducible refine gate_dst (N := 2) rfl ?_); refine box_event ?hg (N := 2) ?hd (cs := #[.bool a0_0, .string a0_1, .int .i64 a0_2, .bool a0_3, .string a0_4, .int .i64 a0_5]) (t := 58) ?hr ?_; (case hd => rfl); (case hg => rfl); (case hr => first | (go_simp; done) | (go_simp; rfl)); intro D5 hg w15 hbox hb; have D0 := Cmp.A (hbox); have D4 := Cmp.gw hg HB; have D3 := Cmp.gw hg HB; replace HB := Cmp.bs HB hb; clear hb hbox hg; obtain ⟨Di, Dj, Dk, Dl, Dm, Dn⟩ := Cmp.q6 D0; obtain ⟨E6, E7, E8, E9, Ea, Eb⟩ := Cmp.f6 D0) | ((with_reducible refine gate_callee (f := 6) rfl ?_); refine goesL_ (some 8) rfl rfl Tryd.func6 (by kernel_rfl) rfl #[.agg #[.bool a0_0, .string a0_1, .int .i64 a0_2], .int .i64 a1] rfl Cmp.q ?_; (with_reducible refine (laws_szOrigin.calls a0_0 a0_1 a0_2 a1 D1 _ A3.out).mono ?_); rintro e w17 ⟨rfl, hb⟩; refine ⟨_, rfl, ?_⟩; replace D0 := Cmp.be D0 hb; replace HB := Cmp.bs HB hb; (try clear hb); (try clear hb2); (try clear hk); (try clear hi); obtain ⟨Do, Dp, Dq, Dr, Ds, Dt⟩ := Cmp.q6 D0; obtain ⟨Ec, Ed, Ee, Ef, Eg, Eh⟩ := Cmp.f6 D0) | ((with_reducible refine gate_callee (f := 6) rfl ?_); refine goesL_ (some 14) rfl rfl Tryd.func6 (by kernel_rfl) rfl #[.agg #[.bool a0_3, .string a0_4, .int .i64 a0_5], .int .i64 D1] rfl Cmp.q ?_; (with_reducible refine (laws_szOrigin.calls a0_3 a0_4 a0_5 D1 D2 _ A8.out).mono ?_); rintro e w19 ⟨rfl, hb⟩; refine ⟨_, rfl, ?_⟩; replace D0 := Cmp.be D0 hb; replace HB := Cmp.bs HB hb; (try clear hb); (try clear hb2); (try clear hk); (try clear hi)))
   go_ret
   exact ⟨by first | rfl | (simp [errW_none, errW_some] <;> rfl) | (simp [*, errW_none, errW_some] <;> rfl), Cmp.g HB.out⟩
/-! ### laws_szTabS: function 16 -/
def laws_szTabS.l0 : Nat → List (S58) → Int → Int → Option (Int)
  | 0, _, _, _ => none
  | k + 1, x0, x1, x5 => if x5 < (x0.length : Int) then (if 0 ≤ x5 then ((laws_szTab.f ((rd_T58 x0 x5).f0.f0) ((rd_T58 x0 x5).f0.f1) ((rd_T58 x0 x5).f0.f2) ((rd_T58 x0 x5).f1.f0) ((rd_T58 x0 x5).f1.f1) ((rd_T58 x0 x5).f1.f2) x1).bind fun t106 => (if t106 < 0 then (some (-1)) else (laws_szTabS.l0 k x0 t106 (wrap64 (x5 + 1))))) else (none)) else (some x1)
def laws_szTabS.f (k : Nat) (l0 : List (S58)) (a1 : Int) : Option (Int) := if (wrap64 (a1 - (l0.length : Int))) < 0 then (some (-1)) else (laws_szTabS.l0 k l0 (wrap64 (a1 - (l0.length : Int))) 0)
theorem laws_szTabS.mono_l : ∀ k, (∀ y0 y1 y2, LeO (laws_szTabS.l0 k y0 y1 y2) (laws_szTabS.l0 (k + 1) y0 y1 y2))
 | 0 => fun _ _ _ r h => by simp [laws_szTabS.l0] at h
 | k + 1 => by
    have ih0 := laws_szTabS.mono_l k
    · intro y0 y1 y2
      unfold laws_szTabS.l0
      repeat' first
 | (with_reducible exact ih0 _ _ _)
 | (with_reducible exact LeO.refl _)
 | (with_reducible exact LeO.none _)
 | (with_reducible refine LeO.ite ?_ ?_)
 | (with_reducible refine LeO.bind ?_ (fun _ => ?_))
theorem laws_szTabS.mono : ∀ a0 a1 k, LeO (laws_szTabS.f k a0 a1) (laws_szTabS.f (k + 1) a0 a1) := by
  intro a0 a1 k
  have ih0 := laws_szTabS.mono_l k
  unfold laws_szTabS.f
  repeat' first
 | (with_reducible exact ih0 _ _ _)
 | (with_reducible exact LeO.refl _)
 | (with_reducible exact LeO.none _)
 | (with_reducible refine LeO.ite ?_ ?_)
 | (with_reducible refine LeO.bind ?_ (fun _ => ?_))
set_option maxHeartbeats 8000000 in
set_option maxRecDepth 100000 in
theorem laws_szTabS.calls (k : Nat) (A0 : Option Addr) (c0 : Nat) (l0 : List (S58)) (a1 : Int) (r : Int) (w : World) (hr0 : Kd.C k58 w A0 l0.length l0) (hc0 : l0.length ≤ c0) (h : laws_szTabS.f k l0 a1 = some r) :
    Calls Tryd.prog 16 #[.slice A0 l0.length c0, .int .i64 a1] w fun e w' => e = .returned (.int .i64 r) ∧ Below w.heap.size w w' := by
 have hu58 := Tryd.underlying58; have HR0 := Cmp.A hr0; have HC0 := Cmp.A hc0; clear hr0 hc0
 have HB := Cmp.A (Below.refl w.heap.size w)
 have H : (if (wrap64 (a1 - (l0.length : Int))) < 0 then (some (-1)) else (laws_szTabS.l0 k l0 (wrap64 (a1 - (l0.length : Int))) 0)) = some r := h
 clear h
 by_cases c3 : (wrap64 (a1 - (l0.length : Int))) < 0
 ·rw [if_pos c3] at H
  have c3b0 : decide ((wrap64 (a1 - (l0.length : Int))) < 0) = true := decide_eq_true c3
  clear c3
  obtain rfl := Option.some.inj H
  go_enter Tryd.func16, Tryd.ntmps16
  go_wp2
  go_ret
  exact ⟨by first | rfl | (simp [errW_none, errW_some] <;> rfl) | (simp [*, errW_none, errW_some] <;> rfl), Cmp.g HB.out⟩
 ·rw [if_neg c3] at H
  have c3b0 : decide ((wrap64 (a1 - (l0.length : Int))) < 0) = false := decide_eq_false c3
  clear c3
  have H' := Cmp.A H
  clear H
  go_enter Tryd.func16, Tryd.ntmps16
  go_wp2
  go_loopg [1, 5] k (fun kq v1 v5 w' => ∃ (D7 : Int) (D0 : Int), v1 = .int .i64 D7 ∧ v5 = .int .i64 D0 ∧ Aside0 (laws_szTabS.l0 kq l0 D7 D0 = some r) ∧ Aside0 (kq ≤ k) ∧ Aside0 (Below w.heap.size w w'))
  case atStart => exact ⟨(wrap64 (a1 - (l0.length : Int))), (0), (by first | rfl | simp | simp [*]), (by first | rfl | simp | simp [*]), H', ⟨Nat.le_refl _⟩, ⟨Cmp.g HB.out⟩⟩
  case round =>
   clear H'
   (try clear c1); (try clear p2); (try clear c3); (try clear c3b0)
   obtain ⟨D7, D0, rfl, rfl, HA, HK1, HB⟩ := hrel
   cases gk with
   | zero => exact absurd HA.out (by simp [laws_szTabS.l0])
   | succ k1 =>
    have H := HA.out; clear HA
    simp only [laws_szTabS.l0] at H
    by_cases c4 : D0 < (l0.length : Int)
    ·rw [if_pos c4] at H
     have c4b0 : decide (D0 < (l0.length : Int)) = true := decide_eq_true c4
     clear c4
     by_cases c5 : 0 ≤ D0
     ·rw [if_pos c5] at H; have c5b0 : decide (0 ≤ D0) = true := decide_eq_true c5; clear c5; replace H := Option.bind_eq_some_iff.mp H; obtain ⟨D8, Da, H⟩ := H; (try dsimp only at H); have A6 := Cmp.A Da; clear Da
      by_cases c7 : D8 < 0
      ·rw [if_pos c7] at H; have c7b0 : decide (D8 < 0) = true := decide_eq_true c7; clear c7
       obtain rfl := Option.some.inj H
       have p105 : 0 ≤ (D0 : Int) := of_decide_eq_true Cmp.d
       have q105 : D0 < (l0.length : Int) := of_decide_eq_true Cmp.d
       obtain ⟨D9, e105, D1, D2, D3, D4, D5, D6⟩ := at_T58 HR0.out D0 p105 q105
       cases e105
       replace D1 := Cmp.hc HB D1
       replace D2 := Cmp.hc HB D2
       replace D3 := Cmp.hc HB D3
       replace D4 := Cmp.hc HB D4
       replace D5 := Cmp.hc HB D5
       replace D6 := Cmp.hc HB D6
       replace p105 := eq_true p105; replace q105 := eq_true q105
       go_wp2_with (first | ((with_reducible refine gate_callee (f := 28) rfl ?_); refine goesL_ (some 23) rfl rfl Tryd.func28 (by kernel_rfl) rfl #[.agg #[.bool ((rd_T58 l0 D0).f0.f0), .string ((rd_T58 l0 D0).f0.f1), .int .i64 ((rd_T58 l0 D0).f0.f2), .bool ((rd_T58 l0 D0).f1.f0), .string ((rd_T58 l0 D0).f1.f1), .int .i64 ((rd_T58 l0 D0).f1.f2)], .int .i64 D7] rfl Cmp.q ?_; (with_reducible refine (laws_szTab.calls ((rd_T58 l0 D0).f0.f0) ((rd_T58 l0 D0).f0.f1) ((rd_T58 l0 D0).f0.f2) ((rd_T58 l0 D0).f1.f0) ((rd_T58 l0 D0).f1.f1) ((rd_T58 l0 D0).f1.f2) D7 D8 _ A6.out).mono ?_); rintro e w8 ⟨rfl, hb⟩; refine ⟨_, rfl, ?_⟩; replace HB := Cmp.bs HB hb; (try clear hb); (try clear hb2); (try clear hk); (try clear hi)))
       go_ret
       exact ⟨by first | rfl | (simp [errW_none, errW_some] <;> rfl) | (simp [*, errW_none, errW_some] <;> rfl), Cmp.g HB.out⟩
      ·rw [if_neg c7] at H; have c7b0 : decide (D8 < 0) = false := decide_eq_false c7; clear c7
       have H' := Cmp.A H
       clear H
       have p105 : 0 ≤ (D0 : Int) := of_decide_eq_true Cmp.d
       have q105 : D0 < (l0.length : Int) := of_decide_eq_true Cmp.d
       obtain ⟨D9, e105, D1, D2, D3, D4, D5, D6⟩ := at_T58 HR0.out D0 p105 q105
       cases e105
       replace D1 := Cmp.hc HB D1
       replace D2 := Cmp.hc HB D2
       replace D3 := Cmp.hc HB D3
       replace D4 := Cmp.hc HB D4
       replace D5 := Cmp.hc HB D5
       replace D6 := Cmp.hc HB D6
       replace p105 := eq_true p105; replace q105 := eq_true q105
       go_wp2_with (first | ((with_reducible refine gate_callee (f := 28) rfl ?_); refine goesL_ (some 23) rfl rfl Tryd.func28 (by kernel_rfl) rfl #[.agg #[.bool ((rd_T58 l0 D0).f0.f0), .string ((rd_T58 l0 D0).f0.f1), .int .i64 ((rd_T58 l0 D0).f0.f2), .bool ((rd_T58 l0 D0).f1.f0), .string ((rd_T58 l0 D0).f1.f1), .int .i64 ((rd_T58 l0 D0).f1.f2)], .int .i64 D7] rfl Cmp.q ?_; (with_reducible refine (laws_szTab.calls ((rd_T58 l0 D0).f0.f0) ((rd_T58 l0 D0).f0.f1) ((rd_T58 l0 D0).f0.f2) ((rd_T58 l0 D0).f1.f0) ((rd_T58 l0 D0).f1.f1) ((rd_T58 l0 D0).f1.f2) D7 D8 _ A6.out).mono ?_); rintro e w9 ⟨rfl, hb⟩; refine ⟨_, rfl, ?_⟩; replace HB := Cmp.bs HB hb; (try clear hb); (try clear hb2); (try clear hk); (try clear hi)))
       go_roundg k1
       case measure => have := HK1.out; omega
       case rel => exact ⟨(D8), (wrap64 (D0 + 1)), (by first | rfl | simp | simp [*]), (by first | rfl | simp | simp [*]), H', ⟨by have := HK1.out; omega⟩, ⟨Cmp.g HB.out⟩⟩
     ·rw [if_neg c5] at H; exact absurd H (by simp)
    ·rw [if_neg c4] at H
     have c4b0 : decide (D0 < (l0.length : Int)) = false := decide_eq_false c4
     clear c4
     obtain rfl := Option.some.inj H
     go_wp2
     go_ret
     exact ⟨by first | rfl | (simp [errW_none, errW_some] <;> rfl) | (simp [*, errW_none, errW_some] <;> rfl), Cmp.g HB.out⟩
/-! ### laws_szBrowser: function 5 -/
def laws_szBrowser.f (k : Nat) (a0_0 : Int) (a0_1 : Int) (a0_2 : Int) (a0_3 : Int) (l0_4 : List (S58)) (a0_5 : Int) (a1 : Int) : Option (Int) := (laws_szTabS.f k l0_4 a1).bind fun t108 => (if t108 < 0 then (some (-1)) else (some t108))
theorem laws_szBrowser.mono : ∀ a0 a1 a2 a3 a4 a5 a6 k, LeO (laws_szBrowser.f k a0 a1 a2 a3 a4 a5 a6) (laws_szBrowser.f (k + 1) a0 a1 a2 a3 a4 a5 a6) := by
  intro a0 a1 a2 a3 a4 a5 a6 k
  unfold laws_szBrowser.f
  repeat' first
 | (with_reducible exact laws_szTabS.mono _ _ _)
 | (with_reducible exact LeO.refl _)
 | (with_reducible exact LeO.none _)
 | (with_reducible refine LeO.ite ?_ ?_)
 | (with_reducible refine LeO.bind ?_ (fun _ => ?_))
set_option maxHeartbeats 8000000 in
set_option maxRecDepth 100000 in
theorem laws_szBrowser.calls (k : Nat) (a0_0 : Int) (a0_1 : Int) (a0_2 : Int) (a0_3 : Int) (A0_4 : Option Addr) (c0_4 : Nat) (l0_4 : List (S58)) (a0_5 : Int) (a1 : Int) (r : Int) (w : World) (hr0_4 : Kd.C k58 w A0_4 l0_4.length l0_4) (hc0_4 : l0_4.length ≤ c0_4) (h : laws_szBrowser.f k a0_0 a0_1 a0_2 a0_3 l0_4 a0_5 a1 = some r) :
    Calls Tryd.prog 5 #[.agg #[.int .i64 a0_0, .int .i64 a0_1, .int .i64 a0_2, .int .i64 a0_3, .slice A0_4 l0_4.length c0_4, .int .i64 a0_5], .int .i64 a1] w fun e w' => e = .returned (.int .i64 r) ∧ Below w.heap.size w w' := by
 have hu26 := Tryd.underlying26; have D2 := Cmp.A hr0_4; have HC0_4 := Cmp.A hc0_4; clear hr0_4 hc0_4
 have HB := Cmp.A (Below.refl w.heap.size w)
 have H : ((laws_szTabS.f k l0_4 a1).bind fun D1 => (if D1 < 0 then (some (-1)) else (some D1))) = some r := h
 clear h; replace H := Option.bind_eq_some_iff.mp H; obtain ⟨D1, Du, H⟩ := H; (try dsimp only at H); have A3 := Cmp.A Du; clear Du
 by_cases c4 : D1 < 0
 ·rw [if_pos c4] at H; have c4b0 : decide (D1 < 0) = true := decide_eq_true c4; clear c4
  obtain rfl := Option.some.inj H
  go_enter Tryd.func5, Tryd.ntmps5
  go_wp2_with (first | ((with_reducible refine gate_dst (N := 2) rfl ?_); refine box_event ?hg (N := 2) ?hd (cs := #[.int .i64 a0_0, .int .i64 a0_1, .int .i64 a0_2, .int .i64 a0_3, .slice A0_4 l0_4.length c0_4, .int .i64 a0_5]) (t := 26) ?hr ?_; (case hd => rfl); (case hg => rfl); (case hr => first | (go_simp; done) | (go_simp; rfl)); intro D5 hg w5 hbox hb; have D0 := Cmp.A (hbox); have D4 := Cmp.gw hg HB; have D3 := Cmp.gw hg HB; replace HB := Cmp.bs HB hb; clear hb hbox hg; obtain ⟨D6, D7, D8, D9, Da, Db⟩ := Cmp.q6 D0; obtain ⟨Di, Dj, Dk, Dl, Dm, Dn⟩ := Cmp.f6 D0) | ((with_reducible refine gate_callee (f := 16) rfl ?_); refine goesL_ (some 8) rfl rfl Tryd.func16 (by kernel_rfl) rfl #[.slice A0_4 l0_4.length c0_4, .int .i64 a1] rfl Cmp.q ?_; (with_reducible refine (laws_szTabS.calls k _ _ l0_4 a1 D1 _ ?side1 ?side2 A3.out).mono ?_); (case side1 => exact Cmp.rc (Kd.C_below D2.out HB.out)); (case side2 => exact HC0_4.out); rintro e w7 ⟨rfl, hb⟩; refine ⟨_, rfl, ?_⟩; replace D0 := Cmp.be D0 hb; replace HB := Cmp.bs HB hb; (try clear hb); (try clear hb2); (try clear hk); (try clear hi)))
  go_ret
  exact ⟨by first | rfl | (simp [errW_none, errW_some] <;> rfl) | (simp [*, errW_none, errW_some] <;> rfl), Cmp.g HB.out⟩
 ·rw [if_neg c4] at H; have c4b0 : decide (D1 < 0) = false := decide_eq_false c4; clear c4
  obtain rfl := Option.some.inj H
  go_enter Tryd.func5, Tryd.ntmps5
  go_wp2_with (first | ((with_reducible refine gate_dst (N := 2) rfl ?_); refine box_event ?hg (N := 2) ?hd (cs := #[.int .i64 a0_0, .int .i64 a0_1, .int .i64 a0_2, .int .i64 a0_3, .slice A0_4 l0_4.length c0_4, .int .i64 a0_5]) (t := 26) ?hr ?_; (case hd => rfl); (case hg => rfl); (case hr => first | (go_simp; done) | (go_simp; rfl)); intro D5 hg w8 hbox hb; have D0 := Cmp.A (hbox); have D4 := Cmp.gw hg HB; have D3 := Cmp.gw hg HB; replace HB := Cmp.bs HB hb; clear hb hbox hg; obtain ⟨Dc, Dd, De, Df, Dg, Dh⟩ := Cmp.q6 D0; obtain ⟨Do, Dp, Dq, Dr, Ds, Dt⟩ := Cmp.f6 D0) | ((with_reducible refine gate_callee (f := 16) rfl ?_); refine goesL_ (some 8) rfl rfl Tryd.func16 (by kernel_rfl) rfl #[.slice A0_4 l0_4.length c0_4, .int .i64 a1] rfl Cmp.q ?_; (with_reducible refine (laws_szTabS.calls k _ _ l0_4 a1 D1 _ ?side1 ?side2 A3.out).mono ?_); (case side1 => exact Cmp.rc (Kd.C_below D2.out HB.out)); (case side2 => exact HC0_4.out); rintro e w10 ⟨rfl, hb⟩; refine ⟨_, rfl, ?_⟩; replace D0 := Cmp.be D0 hb; replace HB := Cmp.bs HB hb; (try clear hb); (try clear hb2); (try clear hk); (try clear hi)))
  go_ret
  exact ⟨by first | rfl | (simp [errW_none, errW_some] <;> rfl) | (simp [*, errW_none, errW_some] <;> rfl), Cmp.g HB.out⟩
/-! ### spec_l16Copy: function 17 -/
def spec_l16Copy.f (a0_0 : Int) (a0_1 : Int) (a0_2 : Int) (a0_3 : Int) (l0_4 : List (S49)) (a0_5 : Int) : Option (Int × Int × Int × Int × (List (S49)) × Int) := (some (([] : List (S49)) : List (S49))).bind fun y112 => (if y112.length + l0_4.length < 2199023255552 then (some (a0_0, a0_1, a0_2, a0_3, (y112 ++ l0_4), a0_5)) else (none))
set_option maxHeartbeats 8000000 in
set_option maxRecDepth 100000 in
theorem spec_l16Copy.calls (a0_0 : Int) (a0_1 : Int) (a0_2 : Int) (a0_3 : Int) (A0_4 : Option Addr) (c0_4 : Nat) (l0_4 : List (S49)) (a0_5 : Int) (r1 : Int) (r2 : Int) (r3 : Int) (r4 : Int) (r5 : List (S49)) (r6 : Int) (w : World) (hr0_4 : Kd.C k49 w A0_4 l0_4.length l0_4) (hc0_4 : l0_4.length ≤ c0_4) (h : spec_l16Copy.f a0_0 a0_1 a0_2 a0_3 l0_4 a0_5 = some (r1, r2, r3, r4, r5, r6)) :
    Calls Tryd.prog 17 #[.agg #[.int .i64 a0_0, .int .i64 a0_1, .int .i64 a0_2, .int .i64 a0_3, .slice A0_4 l0_4.length c0_4, .int .i64 a0_5]] w fun e w' => ∃ v4_ : Value, e = .returned (.agg #[.int .i64 r1, .int .i64 r2, .int .i64 r3, .int .i64 r4, v4_, .int .i64 r6]) ∧ Kd.R k49 49 w' w.heap.size (fun _ => True) v4_ r5 ∧ Below w.heap.size w w' := by
 have hu34 := Tryd.underlying34; have Dj := Cmp.A hr0_4; have HC0_4 := Cmp.A hc0_4; clear hr0_4 hc0_4
 have HB := Cmp.A (Below.refl w.heap.size w)
 have H : ((some (([] : List (S49)) : List (S49))).bind fun D5 => (if D5.length + l0_4.length < 2199023255552 then (some (a0_0, a0_1, a0_2, a0_3, (D5 ++ l0_4), a0_5)) else (none))) = some (r1, r2, r3, r4, r5, r6) := h
 clear h
 obtain ⟨D5, hy112⟩ : ∃ y_ : List (S49), y_ = (([] : List (S49))) := ⟨_, rfl⟩
 replace H : (if D5.length + l0_4.length < 2199023255552 then (some (a0_0, a0_1, a0_2, a0_3, (D5 ++ l0_4), a0_5)) else (none)) = some (r1, r2, r3, r4, r5, r6) := Cmp.hy hy112 H
 have Df := Cmp.A hy112; clear hy112
 by_cases c2 : D5.length + l0_4.length < 2199023255552
 ·rw [if_pos c2] at H; have LMc2 := Cmp.A c2; clear c2
  obtain ⟨Dd, hy115⟩ : ∃ y_ : List (S49), y_ = (D5 ++ l0_4) := ⟨_, rfl⟩
  replace H : (some (a0_0, a0_1, a0_2, a0_3, Dd, a0_5)) = some (r1, r2, r3, r4, r5, r6) := Cmp.hy hy115 H
  have Dk := Cmp.A hy115; clear hy115
  simp only [Option.some.injEq, Prod.mk.injEq] at H
  obtain ⟨rfl, rfl, rfl, rfl, rfl, rfl⟩ := H
  go_enter Tryd.func17, Tryd.ntmps17
  go_wp2_with (first | ((with_reducible refine gate_dst (N := 1) rfl ?_); refine box_event ?hg (N := 1) ?hd (cs := #[.int .i64 a0_0, .int .i64 a0_1, .int .i64 a0_2, .int .i64 a0_3, .slice A0_4 l0_4.length c0_4, .int .i64 a0_5]) (t := 34) ?hr ?_; (case hd => rfl); (case hg => rfl); (case hr => first | (go_simp; done) | (go_simp; rfl)); intro Dl hg w3 hbox hb; have D0 := Cmp.A (hbox); have Fe := Cmp.gw hg HB; have Fb := Cmp.gw hg HB; replace HB := Cmp.bs HB hb; clear hb hbox hg) | ((with_reducible refine gate_dst (N := 2) rfl ?_); refine box_event ?hg (N := 2) ?hd (cs := #[.int .i64 0, .int .i64 0, .int .i64 0, .int .i64 0, .slice none 0 0, .int .i64 0]) (t := 34) ?hr ?_; (case hd => rfl); (case hg => rfl); (case hr => first | (go_simp; done) | (go_simp; rfl)); intro D3 hg w4 hbox hb; have D2 := Cmp.A (hbox); have Ff := Cmp.gw hg HB; have Fc := Cmp.gw hg HB; have D6 := Cmp.nl hg D0; have D8 := Cmp.ng hg D0; replace D0 := Cmp.be D0 hb; replace HB := Cmp.bs HB hb; clear hb hbox hg; have Fh := D6.out; have Fk := D8.out; obtain ⟨Ez, F0, F1, F2, F3, F4⟩ := Cmp.q6 D0; obtain ⟨F5, F6, F7, F8, F9, Fa⟩ := Cmp.f6 D0) | ((with_reducible refine gate_dst (N := 3) rfl ?_); refine box_event ?hg (N := 3) ?hd (cs := #[.int .i64 0, .int .i64 0, .int .i64 0, .int .i64 0, .slice none 0 0, .int .i64 0]) (t := 34) ?hr ?_; (case hd => rfl); (case hg => rfl); (case hr => first | (go_simp; done) | (go_simp; rfl)); intro Dg hg w7 hbox hb; have D1 := Cmp.A (hbox); have Fg := Cmp.gw hg HB; have Fd := Cmp.gw hg HB; have D7 := Cmp.nl hg D0; have Da := Cmp.ng hg D0; have D9 := Cmp.nl hg D2; have Db := Cmp.ng hg D2; replace D0 := Cmp.be D0 hb; replace D2 := Cmp.be D2 hb; replace HB := Cmp.bs HB hb; clear hb hbox hg; have Fi := Da.out; have Fl := D7.out; have Fj := Db.out; have Fm := D9.out; obtain ⟨Dm, Dn, Do, Dp, Dq, Dr⟩ := Cmp.q6 D1; obtain ⟨Ea, Eb, Ec, Ed, Ee, Ef⟩ := Cmp.f6 D1) | ((with_reducible refine gate_dst (N := 5) rfl ?_); refine Kd.R_lit k49 _ 49 ?hg (N := 5) ?hd (xs := ([] : List (S49))) (inner := []) (ok := fun _ => True) (okp := fun _ => True) ?hr ?hp (fun _ hk => hk) trivial (Below.refl _ _) (Nat.le_refl _) (by simp) ?_; (case hd => rfl); (case hg => rfl); (case hr => first | (go_simp; done) | (go_simp; rfl)); (case hp => exact (Reps.none _ _)); intro v113 w11 Dc hb hg_ hnew_; clear hg_ hnew_; (first | rw [← Df.out] at Dc | (simp only [Int.reduceToNat] at Dc; rw [← Df.out] at Dc)); have D4 := Cmp.A (Kd.R_lower Dc (below_size (Cmp.g HB.out))); replace D0 := Cmp.A (blk_below (g := Dl) (o := .cells #[.int .i64 a0_0, .int .i64 a0_1, .int .i64 a0_2, .int .i64 a0_3, .slice A0_4 l0_4.length c0_4, .int .i64 a0_5] 34 (0, 0)) (Cmp.bw D0.out) hb); replace D2 := Cmp.A (blk_below (g := D3) (o := .cells #[.int .i64 0, .int .i64 0, .int .i64 0, .int .i64 0, .slice none 0 0, .int .i64 0] 34 (0, 0)) (Cmp.bw D2.out) hb); replace D1 := Cmp.A (blk_below (g := Dg) (o := .cells #[.int .i64 a0_0, .int .i64 a0_1, .int .i64 a0_2, .int .i64 a0_3, .slice A0_4 l0_4.length c0_4, .int .i64 a0_5] 34 (0, 0)) (Cmp.bw D1.out) hb); replace HB := Cmp.bs HB hb; clear hb Dc; obtain ⟨Ds, Dt, Du, Dv, Dw, Dx⟩ := Cmp.q6 D0; obtain ⟨Eg, Eh, Ei, Ej, Ek, El⟩ := Cmp.f6 D0) | ((with_reducible refine gate_builtin (b := .append) (xs := #[.tmp 5, .tmp 7]) rfl ?_); at_builtin; refine Kd.R_append_rows k49 (w0 := w) w.heap.size rfl (.tmp 5) (.tmp 7) 32 49 (.agg #[(.bool false), (.string ⟨#[]⟩), (.int .i64 0), (.bool false), (.string ⟨#[]⟩), (.int .i64 0)]) 64 rfl Tryd.underlying32 info49 rfl (by decide) (by omega) v113 D5 l0_4 _ _ _ (fun _ => True) (fun _ => False) rfl rfl ?aO ?aR (fun _ _ h => h) (fun _ h => h.elim) ?aF ?aB ?aS ?aL ?_; (case aR => repeat (first | exact (Kd.C_below Dj.out HB.out) | (with_reducible refine Kd.C_alloc ?_ _) | (with_reducible refine Kd.C_drewN ?_ _) | (with_reducible refine Kd.C_drew ?_))); (case aB => exact (Cmp.g HB.out)); (case aF => exact (fun _ _ => trivial)); (case aO => exact (Cmp.rr D4.out)); (case aS => exact (below_size (Cmp.g HB.out))); (case aL => have := LMc2.out; omega); intro v116 w14 ho hb hg hat; rw [← Dk.out] at ho; have De := Cmp.A (ho); replace D0 := Cmp.bg D0 hg (Kd.R_ne D4.out D0.out (by decide)); replace D2 := Cmp.bg D2 hg (Kd.R_ne D4.out D2.out (by decide)); replace D1 := Cmp.bg D1 hg (Kd.R_ne D4.out D1.out (by decide)); replace HB := Cmp.A (hb); clear D4; clear ho hb hg hat; obtain ⟨Dh, Di, Ey⟩ := Kd.R_slice De.out; subst Ey; obtain ⟨Dy, Dz, E0, E1, E2, E3⟩ := Cmp.q6 D1; obtain ⟨Em, En, Eo, Ep, Eq, Er⟩ := Cmp.f6 D1; obtain ⟨E4, E5, E6, E7, E8, E9⟩ := Cmp.q6 D2; obtain ⟨Es, Et, Eu, Ev, Ew, Ex⟩ := Cmp.f6 D2))
  refine bodyPost_ret (results_cell_row rfl _ _ D3 34 #[.int .i64 a0_0, .int .i64 a0_1, .int .i64 a0_2, .int .i64 a0_3, .slice Dh Dd.length Di, .int .i64 a0_5] (0, 0) _ rfl (Cmp.bw D2.out) Tryd.underlying34 rfl (by kernel_rfl)) rfl ?_
  exact ⟨_, by first | rfl | (simp [errW_none, errW_some] <;> rfl) | (simp [*, errW_none, errW_some] <;> rfl), by (with_reducible repeat (first | apply Kd.R_alloc | apply Kd.R_drewN | apply Kd.R_drew)); exact Kd.R_mono (Kd.R_far (p := ⟨D3, 5, none⟩) (Kd.R_far (p := ⟨D3, 4, none⟩) (Kd.R_far (p := ⟨D3, 3, none⟩) (Kd.R_far (p := ⟨D3, 2, none⟩) (Kd.R_far (p := ⟨D3, 1, none⟩) (Kd.R_far (p := ⟨D3, 0, none⟩) (Kd.R_far (p := ⟨Dg, 4, none⟩) (Kd.R_types (Kd.R_types De.out D1.out (by decide)) D2.out (by decide)) (fun _ hk => hk.1.2) (.slice Dh Dd.length Di)) (fun _ hk => hk.2) (.int .i64 a0_0)) (fun _ hk => hk.2) (.int .i64 a0_1)) (fun _ hk => hk.2) (.int .i64 a0_2)) (fun _ hk => hk.2) (.int .i64 a0_3)) (fun _ hk => hk.2) (.slice Dh Dd.length Di)) (fun _ hk => hk.2) (.int .i64 a0_5)) (fun _ hk => trivial), Cmp.g HB.out⟩
 ·rw [if_neg c2] at H; exact absurd H (by simp)
/-! ### spec_l1In: function 27 -/
def spec_l1In.f (a0 : Int) (a1 : Int) (a2 : Int) : Option (Bool) := if a0 ≥ a1 then (some (decide (a0 ≤ a2))) else (some false)
set_option maxHeartbeats 8000000 in
set_option maxRecDepth 100000 in
theorem spec_l1In.calls (a0 : Int) (a1 : Int) (a2 : Int) (r : Bool) (w : World) (h : spec_l1In.f a0 a1 a2 = some r) :
    Calls Tryd.prog 27 #[.int .i64 a0, .int .i64 a1, .int .i64 a2] w fun e w' => e = .returned (.bool r) ∧ Drawn0 w w' := by
 have H : (if a0 ≥ a1 then (some (decide (a0 ≤ a2))) else (some false)) = some r := h
 clear h
 by_cases c4 : a0 ≥ a1
 ·rw [if_pos c4] at H; have c4b0 : decide (a1 ≤ a0) = true := decide_eq_true c4; clear c4
  obtain rfl := Option.some.inj H
  go_enter Tryd.func27, Tryd.ntmps27
  go_wp2
  go_ret
  exact ⟨by first | rfl | (simp; done) | (simp [*]; done), by repeat (first | exact Drawn0.refl _ | apply Drawn0.step)⟩
 ·rw [if_neg c4] at H; have c4b0 : decide (a1 ≤ a0) = false := decide_eq_false c4; clear c4
  obtain rfl := Option.some.inj H
  go_enter Tryd.func27, Tryd.ntmps27
  go_wp2
  go_ret
  exact ⟨by first | rfl | (simp; done) | (simp [*]; done), by repeat (first | exact Drawn0.refl _ | apply Drawn0.step)⟩
/-! ### spec_l9Labels: function 35 -/
def spec_l9Labels.l0 : Nat → ByteArray → List ByteArray → Int → Int → Option (List ByteArray)
  | 0, _, _, _, _ => none
  | k + 1, x0, x3, x4, x5 => if x5 ≤ (x0.size : Int) then (if x5 = (x0.size : Int) then (if 0 ≤ x4 then (if x4 ≤ x5 then (if x3.length < 8796093022208 then (spec_l9Labels.l0 k x0 (x3 ++ [x0.extract (x4 : Int).toNat (x5 : Int).toNat]) (wrap64 (x5 + 1)) (wrap64 (x5 + 1))) else (none)) else (none)) else (none)) else (if 0 ≤ x5 then (if x5 < (x0.size : Int) then (if (bt x0 x5) = 46 then (if 0 ≤ x4 then (if x4 ≤ x5 then (if x3.length < 8796093022208 then (spec_l9Labels.l0 k x0 (x3 ++ [x0.extract (x4 : Int).toNat (x5 : Int).toNat]) (wrap64 (x5 + 1)) (wrap64 (x5 + 1))) else (none)) else (none)) else (none)) else (spec_l9Labels.l0 k x0 x3 x4 (wrap64 (x5 + 1)))) else (none)) else (none))) else (some x3)
def spec_l9Labels.f (k : Nat) (a0 : ByteArray) : Option (List ByteArray) := spec_l9Labels.l0 k a0 (([] : List ByteArray)) 0 0
theorem spec_l9Labels.mono_l : ∀ k, (∀ y0 y1 y2 y3, LeO (spec_l9Labels.l0 k y0 y1 y2 y3) (spec_l9Labels.l0 (k + 1) y0 y1 y2 y3))
 | 0 => fun _ _ _ _ r h => by simp [spec_l9Labels.l0] at h
 | k + 1 => by
    have ih0 := spec_l9Labels.mono_l k
    · intro y0 y1 y2 y3
      unfold spec_l9Labels.l0
      repeat' first
 | (with_reducible exact ih0 _ _ _ _)
 | (with_reducible exact LeO.refl _)
 | (with_reducible exact LeO.none _)
 | (with_reducible refine LeO.ite ?_ ?_)
 | (with_reducible refine LeO.bind ?_ (fun _ => ?_))
theorem spec_l9Labels.mono : ∀ a0 k, LeO (spec_l9Labels.f k a0) (spec_l9Labels.f (k + 1) a0) := by
  intro a0 k
  have ih0 := spec_l9Labels.mono_l k
  unfold spec_l9Labels.f
  repeat' first
 | (with_reducible exact ih0 _ _ _ _)
 | (with_reducible exact LeO.refl _)
 | (with_reducible exact LeO.none _)
 | (with_reducible refine LeO.ite ?_ ?_)
 | (with_reducible refine LeO.bind ?_ (fun _ => ?_))
set_option maxHeartbeats 8000000 in
set_option maxRecDepth 100000 in
theorem spec_l9Labels.calls (k : Nat) (a0 : ByteArray) (r : List ByteArray) (w : World) (h : spec_l9Labels.f k a0 = some r) :
    Calls Tryd.prog 35 #[.string a0] w fun e w' => ∃ v0_ : Value, e = .returned (v0_) ∧ Kd.R Kd.string 9 w' w.heap.size (fun _ => True) v0_ r ∧ Below w.heap.size w w' := by
 have HB := Cmp.A (Below.refl w.heap.size w)
 have H : (spec_l9Labels.l0 k a0 (([] : List ByteArray)) 0 0) = some r := h
 clear h
 obtain ⟨Db, hy118⟩ : ∃ y_ : List ByteArray, y_ = (([] : List ByteArray)) := ⟨_, rfl⟩
 replace H : (spec_l9Labels.l0 k a0 Db 0 0) = some r := Cmp.hy hy118 H
 have D4 := Cmp.A hy118; clear hy118
 have H' := Cmp.A H
 clear H
 go_enter Tryd.func35, Tryd.ntmps35
 go_wp2_with (first | ((with_reducible refine gate_dst (N := 6) rfl ?_); refine Kd.R_lit Kd.string _ 9 ?hg (N := 6) ?hd (xs := ([] : List ByteArray)) (inner := []) (ok := fun _ => True) (okp := fun _ => True) ?hr ?hp (fun _ hk => hk) trivial (Below.refl _ _) (Nat.le_refl _) (by simp) ?_; (case hd => rfl); (case hg => rfl); (case hr => first | (go_simp; done) | (go_simp; rfl)); (case hp => exact (Reps.none _ _)); intro v119 w2 Da hb hg_ hnew_; clear hg_ hnew_; (first | rw [← D4.out] at Da | (simp only [Int.reduceToNat] at Da; rw [← D4.out] at Da)); have D5 := Cmp.A (Kd.R_lower Da (below_size (Cmp.g HB.out))); replace HB := Cmp.bs HB hb; clear hb Da))
 go_loopg [3, 4, 5] k (fun kq v3 v4 v5 w' => ∃ (D2 : List ByteArray) (D1 : Int) (D0 : Int), v4 = .int .i64 D1 ∧ v5 = .int .i64 D0 ∧ Aside0 (spec_l9Labels.l0 kq a0 D2 D1 D0 = some r) ∧ Aside0 (kq ≤ k) ∧ Aside0 (Kd.R Kd.string 9 w' w.heap.size (fun _ => True) v3 D2) ∧ Aside0 (Below w.heap.size w w'))
 case atStart => exact ⟨(Db), (0), (0), (by first | rfl | simp | simp [*]), (by first | rfl | simp | simp [*]), H', ⟨Nat.le_refl _⟩, ⟨Cmp.rr D5.out⟩, ⟨Cmp.g HB.out⟩⟩
 case round =>
  clear H'
  (try clear p2); (try clear c3)
  obtain ⟨D2, D1, D0, rfl, rfl, HA, HK1, D3, HB⟩ := hrel
  cases gk with
  | zero => exact absurd HA.out (by simp [spec_l9Labels.l0])
  | succ k1 =>
   have H := HA.out; clear HA
   simp only [spec_l9Labels.l0] at H
   by_cases c4 : D0 ≤ (a0.size : Int)
   ·rw [if_pos c4] at H
    have c4b0 : decide (D0 ≤ (a0.size : Int)) = true := decide_eq_true c4
    clear c4
    by_cases c5 : D0 = (a0.size : Int)
    ·rw [if_pos c5] at H
     have c5b0 : (D0 == (a0.size : Int)) = true := beq_iff_eq.mpr c5
     have c5b1 : (D0 != (a0.size : Int)) = false := bne_eq_false_iff_eq.mpr c5
     clear c5
     by_cases c6 : 0 ≤ D1
     ·rw [if_pos c6] at H
      have c6b0 := eq_true c6
      have c6b1 : decide (0 ≤ D1) = true := decide_eq_true c6; clear c6
      by_cases c7 : D1 ≤ D0
      ·rw [if_pos c7] at H
       have c7b0 := eq_true c7
       have c7b1 : decide (D1 ≤ D0) = true := decide_eq_true c7; clear c7
       have c8b0 := eq_true (of_decide_eq_true Cmp.d : D0 ≤ (a0.size : Int))
       by_cases c9 : D2.length < 8796093022208
       ·rw [if_pos c9] at H; have LMc9 := Cmp.A c9; clear c9
        obtain ⟨Dc, hy121⟩ : ∃ y_ : List ByteArray, y_ = (D2 ++ [a0.extract (D1 : Int).toNat (D0 : Int).toNat]) := ⟨_, rfl⟩
        replace H : (spec_l9Labels.l0 k1 a0 Dc (wrap64 (D0 + 1)) (wrap64 (D0 + 1))) = some r := Cmp.hy hy121 H
        have D8 := Cmp.A hy121; clear hy121
        have H' := Cmp.A H
        clear H
        go_wp2_with (first | ((with_reducible refine gate_builtin (b := .append) (xs := #[.tmp 23, .tmp 28]) rfl ?_); at_builtin; refine Kd.R_append Kd.string (w0 := w) w.heap.size rfl (.tmp 23) (.tmp 28) 63 9 (.string ⟨#[]⟩) 16 rfl Tryd.underlying63 info9 rfl (by decide) (by omega) u3 D2 (a0.extract (D1 : Int).toNat (D0 : Int).toNat) [.string (a0.extract (D1 : Int).toNat (D0 : Int).toNat)] (fun _ => True) (fun _ => False) rfl rfl ?aP (fun _ hk => hk.elim) ?aF ?aO ?aB ?aS ?aL ?_; (case aP => exact rfl); (case aB => exact (Cmp.g HB.out)); (case aF => exact (fun _ _ => trivial)); (case aO => exact (Cmp.rr D3.out)); (case aS => exact (below_size (Cmp.g HB.out))); (case aL => have := LMc9.out; omega); intro v122 w10 ho hb hg hat; rw [← D8.out] at ho; have D6 := Cmp.A (ho); replace HB := Cmp.A (hb); clear D3; clear ho hb hg hat))
        go_roundg k1
        case measure => have := HK1.out; omega
        case rel => exact ⟨(Dc), (wrap64 (D0 + 1)), (wrap64 (D0 + 1)), (by first | rfl | simp | simp [*]), (by first | rfl | simp | simp [*]), H', ⟨by have := HK1.out; omega⟩, ⟨Cmp.rr D6.out⟩, ⟨Cmp.g HB.out⟩⟩
       ·rw [if_neg c9] at H; exact absurd H (by simp)
      ·rw [if_neg c7] at H; exact absurd H (by simp)
     ·rw [if_neg c6] at H; exact absurd H (by simp)
    ·rw [if_neg c5] at H
     have c5b0 : (D0 == (a0.size : Int)) = false := beq_eq_false_iff_ne.mpr c5
     have c5b1 : (D0 != (a0.size : Int)) = true := bne_iff_ne.mpr c5
     by_cases c11 : 0 ≤ D0
     ·rw [if_pos c11] at H; have c11b0 : decide (0 ≤ D0) = true := decide_eq_true c11; clear c11
      by_cases c12 : D0 < (a0.size : Int)
      ·rw [if_pos c12] at H
       have c12b0 : decide (D0 < (a0.size : Int)) = true := decide_eq_true c12
       clear c12
       by_cases c14 : (bt a0 D0) = 46
       ·rw [if_pos c14] at H; have c14b0 : ((bt a0 D0) == 46) = true := beq_iff_eq.mpr c14; have c14b1 : ((bt a0 D0) != 46) = false := bne_eq_false_iff_eq.mpr c14; clear c14
        by_cases c15 : 0 ≤ D1
        ·rw [if_pos c15] at H
         have c15b0 := eq_true c15
         have c15b1 : decide (0 ≤ D1) = true := decide_eq_true c15; clear c15
         by_cases c16 : D1 ≤ D0
         ·rw [if_pos c16] at H
          have c16b0 := eq_true c16
          have c16b1 : decide (D1 ≤ D0) = true := decide_eq_true c16; clear c16
          have c17b0 := eq_true (of_decide_eq_true Cmp.d : D0 ≤ (a0.size : Int))
          by_cases c18 : D2.length < 8796093022208
          ·rw [if_pos c18] at H; have LMc18 := Cmp.A c18; clear c18
           obtain ⟨Dd, hy124⟩ : ∃ y_ : List ByteArray, y_ = (D2 ++ [a0.extract (D1 : Int).toNat (D0 : Int).toNat]) := ⟨_, rfl⟩
           replace H : (spec_l9Labels.l0 k1 a0 Dd (wrap64 (D0 + 1)) (wrap64 (D0 + 1))) = some r := Cmp.hy hy124 H
           have D9 := Cmp.A hy124; clear hy124
           have H' := Cmp.A H
           clear H
           have p13 : 0 ≤ (D0 : Int) := of_decide_eq_true Cmp.d
           have q13 : D0 < (a0.size : Int) := of_decide_eq_true Cmp.d
           have hx13 := bt_at a0 D0
           replace p13 := eq_true p13; replace q13 := eq_true q13
           go_wp2_with (first | ((with_reducible refine gate_builtin (b := .append) (xs := #[.tmp 23, .tmp 28]) rfl ?_); at_builtin; refine Kd.R_append Kd.string (w0 := w) w.heap.size rfl (.tmp 23) (.tmp 28) 63 9 (.string ⟨#[]⟩) 16 rfl Tryd.underlying63 info9 rfl (by decide) (by omega) u3 D2 (a0.extract (D1 : Int).toNat (D0 : Int).toNat) [.string (a0.extract (D1 : Int).toNat (D0 : Int).toNat)] (fun _ => True) (fun _ => False) rfl rfl ?aP (fun _ hk => hk.elim) ?aF ?aO ?aB ?aS ?aL ?_; (case aP => exact rfl); (case aB => exact (Cmp.g HB.out)); (case aF => exact (fun _ _ => trivial)); (case aO => exact (Cmp.rr D3.out)); (case aS => exact (below_size (Cmp.g HB.out))); (case aL => have := LMc18.out; omega); intro v125 w19 ho hb hg hat; rw [← D9.out] at ho; have D7 := Cmp.A (ho); replace HB := Cmp.A (hb); clear D3; clear ho hb hg hat))
           go_roundg k1
           case measure => have := HK1.out; omega
           case rel => exact ⟨(Dd), (wrap64 (D0 + 1)), (wrap64 (D0 + 1)), (by first | rfl | simp | simp [*]), (by first | rfl | simp | simp [*]), H', ⟨by have := HK1.out; omega⟩, ⟨Cmp.rr D7.out⟩, ⟨Cmp.g HB.out⟩⟩
          ·rw [if_neg c18] at H; exact absurd H (by simp)
         ·rw [if_neg c16] at H; exact absurd H (by simp)
        ·rw [if_neg c15] at H; exact absurd H (by simp)
       ·rw [if_neg c14] at H; have c14b0 : ((bt a0 D0) == 46) = false := beq_eq_false_iff_ne.mpr c14; have c14b1 : ((bt a0 D0) != 46) = true := bne_iff_ne.mpr c14
        have H' := Cmp.A H
        clear H
        have p13 : 0 ≤ (D0 : Int) := of_decide_eq_true Cmp.d
        have q13 : D0 < (a0.size : Int) := of_decide_eq_true Cmp.d
        have hx13 := bt_at a0 D0
        replace p13 := eq_true p13; replace q13 := eq_true q13
        go_wp2
        go_roundg k1
        case measure => have := HK1.out; omega
        case rel => exact ⟨(D2), (D1), (wrap64 (D0 + 1)), (by first | rfl | simp | simp [*]), (by first | rfl | simp | simp [*]), H', ⟨by have := HK1.out; omega⟩, ⟨Cmp.rr D3.out⟩, ⟨Cmp.g HB.out⟩⟩
      ·rw [if_neg c12] at H; exact absurd H (by simp)
     ·rw [if_neg c11] at H; exact absurd H (by simp)
   ·rw [if_neg c4] at H
    have c4b0 : decide (D0 ≤ (a0.size : Int)) = false := decide_eq_false c4
    clear c4
    obtain rfl := Option.some.inj H
    go_wp2
    go_ret
    exact ⟨_, by first | rfl | (simp [errW_none, errW_some] <;> rfl) | (simp [*, errW_none, errW_some] <;> rfl), by (with_reducible repeat (first | apply Kd.R_alloc | apply Kd.R_drewN | apply Kd.R_drew)); exact D3.out, Cmp.g HB.out⟩
end Go.Proofs.YtpgjecknkmmnhaaDoor.PFnExactOpenTab

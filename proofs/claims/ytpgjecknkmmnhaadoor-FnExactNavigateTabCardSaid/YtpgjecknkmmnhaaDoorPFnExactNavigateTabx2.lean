/- Printed functions of the program, out of print.sh, told more shortly. No condition. -/
import Derived.Test.YtpgjecknkmmnhaaDoorCmp
import Derived.Test.YtpgjecknkmmnhaaDoorPFnExactNavigateTabx0
namespace Go.Proofs.YtpgjecknkmmnhaaDoor.PFnExactNavigateTab
open Go.Proofs.YtpgjecknkmmnhaaDoor
open Go.RowKit Go.Proofs.YtpgjecknkmmnhaaDoorW.PrintWords Go.Proofs.YtpgjecknkmmnhaaDoorW.PrintLast Go.Proofs.YtpgjecknkmmnhaaDoorW.PrintMore
attribute [local go_sem] max2_int min2_int max_two min_two max_three min_three max_four min_four   -- for this text's walks alone
set_option linter.unusedVariables false
set_option linter.unusedSimpArgs false
/-! ### laws_szOrigin: function 6 -/
def laws_szOrigin.f (a0_0 : Bool) (a0_1 : ByteArray) (a0_2 : Int) (a1 : Int) : Option (Int) := if (wrap64 (a1 - (a0_1.size : Int))) < 0 then (some (-1)) else (some (wrap64 (a1 - (a0_1.size : Int))))
set_option maxHeartbeats 8000000 in
set_option maxRecDepth 100000 in
theorem laws_szOrigin.calls (a0_0 : Bool) (a0_1 : ByteArray) (a0_2 : Int) (a1 : Int) (r : Int) (w : World) (h : laws_szOrigin.f a0_0 a0_1 a0_2 a1 = some r) :
    Calls Tryd.prog 6 #[.agg #[.bool a0_0, .string a0_1, .int .i64 a0_2], .int .i64 a1] w fun e w' => e = .returned (.int .i64 r) ∧ Below w.heap.size w w' := by
 have hu28 := Tryd.underlying28
 have HB := Cmp.A (Below.refl w.heap.size w)
 have H : (if (wrap64 (a1 - (a0_1.size : Int))) < 0 then (some (-1)) else (some (wrap64 (a1 - (a0_1.size : Int))))) = some r := h
 clear h
 by_cases c3 : (wrap64 (a1 - (a0_1.size : Int))) < 0
 ·rw [if_pos c3] at H
  have c3b0 : decide ((wrap64 (a1 - (a0_1.size : Int))) < 0) = true := decide_eq_true c3
  clear c3
  obtain rfl := Option.some.inj H
  go_enter Tryd.func6, Tryd.ntmps6
  go_wp2_with (first | ((with_reducible refine gate_dst (N := 2) rfl ?_); refine box_event ?hg (N := 2) ?hd (cs := #[.bool a0_0, .string a0_1, .int .i64 a0_2]) (t := 28) ?hr ?_; (case hd => rfl); (case hg => rfl); (case hr => first | (go_simp; done) | (go_simp; rfl)); intro D3 hg w4 hbox hb; have D0 := Cmp.A (hbox); have D2 := Cmp.gw hg HB; have D1 := Cmp.gw hg HB; replace HB := Cmp.bs HB hb; clear hb hbox hg; obtain ⟨D4, D5, D6⟩ := Cmp.q3 D0; obtain ⟨Da, Db, Dc⟩ := Cmp.f3 D0))
  go_ret
  exact ⟨by first | rfl | (simp [errW_none, errW_some] <;> rfl) | (simp [*, errW_none, errW_some] <;> rfl), Cmp.g HB.out⟩
 ·rw [if_neg c3] at H
  have c3b0 : decide ((wrap64 (a1 - (a0_1.size : Int))) < 0) = false := decide_eq_false c3
  clear c3
  obtain rfl := Option.some.inj H
  go_enter Tryd.func6, Tryd.ntmps6
  go_wp2_with (first | ((with_reducible refine gate_dst (N := 2) rfl ?_); refine box_event ?hg (N := 2) ?hd (cs := #[.bool a0_0, .string a0_1, .int .i64 a0_2]) (t := 28) ?hr ?_; (case hd => rfl); (case hg => rfl); (case hr => first | (go_simp; done) | (go_simp; rfl)); intro D3 hg w6 hbox hb; have D0 := Cmp.A (hbox); have D2 := Cmp.gw hg HB; have D1 := Cmp.gw hg HB; replace HB := Cmp.bs HB hb; clear hb hbox hg; obtain ⟨D7, D8, D9⟩ := Cmp.q3 D0; obtain ⟨Dd, De, Df⟩ := Cmp.f3 D0))
  go_ret
  exact ⟨by first | rfl | (simp [errW_none, errW_some] <;> rfl) | (simp [*, errW_none, errW_some] <;> rfl), Cmp.g HB.out⟩
/-! ### laws_szTab: function 28 -/
def laws_szTab.f (a0_0 : Bool) (a0_1 : ByteArray) (a0_2 : Int) (a0_3 : Bool) (a0_4 : ByteArray) (a0_5 : Int) (a1 : Int) : Option (Int) := (laws_szOrigin.f a0_0 a0_1 a0_2 a1).bind fun t103 => (if t103 < 0 then (some (-1)) else ((laws_szOrigin.f a0_3 a0_4 a0_5 t103).bind fun t104 => (if t104 < 0 then (some (-1)) else (some t104))))
set_option maxHeartbeats 8000000 in
set_option maxRecDepth 100000 in
theorem laws_szTab.calls (a0_0 : Bool) (a0_1 : ByteArray) (a0_2 : Int) (a0_3 : Bool) (a0_4 : ByteArray) (a0_5 : Int) (a1 : Int) (r : Int) (w : World) (h : laws_szTab.f a0_0 a0_1 a0_2 a0_3 a0_4 a0_5 a1 = some r) :
    Calls Tryd.prog 28 #[.agg #[.bool a0_0, .string a0_1, .int .i64 a0_2, .bool a0_3, .string a0_4, .int .i64 a0_5], .int .i64 a1] w fun e w' => e = .returned (.int .i64 r) ∧ Below w.heap.size w w' := by
 have hu58 := Tryd.underlying58; have hu28 := Tryd.underlying28
 have HB := Cmp.A (Below.refl w.heap.size w)
 have H : ((laws_szOrigin.f a0_0 a0_1 a0_2 a1).bind fun D1 => (if D1 < 0 then (some (-1)) else ((laws_szOrigin.f a0_3 a0_4 a0_5 D1).bind fun D2 => (if D2 < 0 then (some (-1)) else (some D2))))) = some r := h
 clear h; replace H := Option.bind_eq_some_iff.mp H; obtain ⟨D1, Eu, H⟩ := H; (try dsimp only at H); have A3 := Cmp.A Eu; clear Eu
 by_cases c4 : D1 < 0
 ·rw [if_pos c4] at H; have c4b0 : decide (D1 < 0) = true := decide_eq_true c4; clear c4
  obtain rfl := Option.some.inj H
  go_enter Tryd.func28, Tryd.ntmps28
  go_wp2_with (first | ((with_reducible refine gate_dst (N := 2) rfl ?_); refine box_event ?hg (N := 2) ?hd (cs := #[.bool a0_0, .string a0_1, .int .i64 a0_2, .bool a0_3, .string a0_4, .int .i64 a0_5]) (t := 58) ?hr ?_; (case hd => rfl); (case hg => rfl); (case hr => first | (go_simp; done) | (go_simp; rfl)); intro D5 hg w5 hbox hb; have D0 := Cmp.A (hbox); have D4 := Cmp.gw hg HB; have D3 := Cmp.gw hg HB; replace HB := Cmp.bs HB hb; clear hb hbox hg; obtain ⟨Ei, Ej, Ek, El, Em, En⟩ := Cmp.q6 D0; obtain ⟨Eo, Ep, Eq, Er, Es, Et⟩ := Cmp.f6 D0) | ((with_reducible refine gate_callee (f := 6) rfl ?_); refine goesL_ (some 8) rfl rfl Tryd.func6 (by kernel_rfl) rfl #[.agg #[.bool a0_0, .string a0_1, .int .i64 a0_2], .int .i64 a1] rfl Cmp.q ?_; (with_reducible refine (laws_szOrigin.calls a0_0 a0_1 a0_2 a1 D1 _ A3.out).mono ?_); rintro e w7 ⟨rfl, hb⟩; refine ⟨_, rfl, ?_⟩; replace D0 := Cmp.be D0 hb; replace HB := Cmp.bs HB hb; (try clear hb); (try clear hb2); (try clear hk); (try clear hi)))
  go_ret
  exact ⟨by first | rfl | (simp [errW_none, errW_some] <;> rfl) | (simp [*, errW_none, errW_some] <;> rfl), Cmp.g HB.out⟩
 ·rw [if_neg c4] at H; have c4b0 : decide (D1 < 0) = false := decide_eq_false c4; clear c4; replace H := Option.bind_eq_some_iff.mp H; obtain ⟨D2, Ev, H⟩ := H; (try dsimp only at H); have A8 := Cmp.A Ev; clear Ev
  by_cases c9 : D2 < 0
  ·rw [if_pos c9] at H; have c9b0 : decide (D2 < 0) = true := decide_eq_true c9; clear c9
   obtain rfl := Option.some.inj H
   go_enter Tryd.func28, Tryd.ntmps28
   go_wp2_with (first | ((with_reducible refine gate_dst (N := 2) rfl ?_); refine box_event ?hg (N := 2) ?hd (cs := #[.bool a0_0, .string a0_1, .int .i64 a0_2, .bool a0_3, .string a0_4, .int .i64 a0_5]) (t := 58) ?hr ?_; (case hd => rfl); (case hg => rfl); (case hr => first | (go_simp; done) | (go_simp; rfl)); intro D5 hg w10 hbox hb; have D0 := Cmp.A (hbox); have D4 := Cmp.gw hg HB; have D3 := Cmp.gw hg HB; replace HB := Cmp.bs HB hb; clear hb hbox hg; obtain ⟨D6, D7, D8, D9, Da, Db⟩ := Cmp.q6 D0; obtain ⟨Du, Dv, Dw, Dx, Dy, Dz⟩ := Cmp.f6 D0) | ((with_reducible refine gate_callee (f := 6) rfl ?_); refine goesL_ (some 8) rfl rfl Tryd.func6 (by kernel_rfl) rfl #[.agg #[.bool a0_0, .string a0_1, .int .i64 a0_2], .int .i64 a1] rfl Cmp.q ?_; (with_reducible refine (laws_szOrigin.calls a0_0 a0_1 a0_2 a1 D1 _ A3.out).mono ?_); rintro e w12 ⟨rfl, hb⟩; refine ⟨_, rfl, ?_⟩; replace D0 := Cmp.be D0 hb; replace HB := Cmp.bs HB hb; (try clear hb); (try clear hb2); (try clear hk); (try clear hi); obtain ⟨Dc, Dd, De, Df, Dg, Dh⟩ := Cmp.q6 D0; obtain ⟨E0, E1, E2, E3, E4, E5⟩ := Cmp.f6 D0) | ((with_reducible refine gate_callee (f := 6) rfl ?_); refine goesL_ (some 14) rfl rfl Tryd.func6 (by kernel_rfl) rfl #[.agg #[.bool a0_3, .string a0_4, .int .i64 a0_5], .int .i64 D1] rfl Cmp.q ?_; (with_reducible refine (laws_szOrigin.calls a0_3 a0_4 a0_5 D1 D2 _ A8.out).mono ?_); rintro e w14 ⟨rfl, hb⟩; refine ⟨_, rfl, ?_⟩; replace D0 := Cmp.be D0 hb; replace HB := Cmp.bs HB hb; (try clear hb); (try clear hb2); (try clear hk); (try clear hi)))
   go_ret
   exact ⟨by first | rfl | (simp [errW_none, errW_some] <;> rfl) | (simp [*, errW_none, errW_some] <;> rfl), Cmp.g HB.out⟩
  ·rw [if_neg c9] at H; have c9b0 : decide (D2 < 0) = false := decide_eq_false c9; clear c9
   obtain rfl := Option.some.inj H
   go_enter Tryd.func28, Tryd.ntmps28
   go_wp2_with (first | ((with_reducible refine gate_dst (N := 2) rfl ?_); refine box_event ?hg (N := 2) ?hd (cs := #[.bool a0_0, .string a0_1, .int .i64 a0_2, .bool a0_3, .string a0_4, .int .i64 a0_5]) (t := 58) ?hr ?_; (case hd => rfl); (case hg => rfl); (case hr => first | (go_simp; done) | (go_simp; rfl)); intro D5 hg w15 hbox hb; have D0 := Cmp.A (hbox); have D4 := Cmp.gw hg HB; have D3 := Cmp.gw hg HB; replace HB := Cmp.bs HB hb; clear hb hbox hg; obtain ⟨Di, Dj, Dk, Dl, Dm, Dn⟩ := Cmp.q6 D0; obtain ⟨E6, E7, E8, E9, Ea, Eb⟩ := Cmp.f6 D0) | ((with_reducible refine gate_callee (f := 6) rfl ?_); refine goesL_ (some 8) rfl rfl Tryd.func6 (by kernel_rfl) rfl #[.agg #[.bool a0_0, .string a0_1, .int .i64 a0_2], .int .i64 a1] rfl Cmp.q ?_; (with_reducible refine (laws_szOrigin.calls a0_0 a0_1 a0_2 a1 D1 _ A3.out).mono ?_); rintro e w17 ⟨rfl, hb⟩; refine ⟨_, rfl, ?_⟩; replace D0 := Cmp.be D0 hb; replace HB := Cmp.bs HB hb; (try clear hb); (try clear hb2); (try clear hk); (try clear hi); obtain ⟨Do, Dp, Dq, Dr, Ds, Dt⟩ := Cmp.q6 D0; obtain ⟨Ec, Ed, Ee, Ef, Eg, Eh⟩ := Cmp.f6 D0) | ((with_reducible refine gate_callee (f := 6) rfl ?_); refine goesL_ (some 14) rfl rfl Tryd.func6 (by kernel_rfl) rfl #[.agg #[.bool a0_3, .string a0_4, .int .i64 a0_5], .int .i64 D1] rfl Cmp.q ?_; (with_reducible refine (laws_szOrigin.calls a0_3 a0_4 a0_5 D1 D2 _ A8.out).mono ?_); rintro e w19 ⟨rfl, hb⟩; refine ⟨_, rfl, ?_⟩; replace D0 := Cmp.be D0 hb; replace HB := Cmp.bs HB hb; (try clear hb); (try clear hb2); (try clear hk); (try clear hi)))
   go_ret
   exact ⟨by first | rfl | (simp [errW_none, errW_some] <;> rfl) | (simp [*, errW_none, errW_some] <;> rfl), Cmp.g HB.out⟩
/-! ### laws_szTabS: function 16 -/
def laws_szTabS.l0 : Nat → List (S58) → Int → Int → Option (Int)
  | 0, _, _, _ => none
  | k + 1, x0, x1, x5 => if x5 < (x0.length : Int) then (if 0 ≤ x5 then ((laws_szTab.f ((rd_T58 x0 x5).f0.f0) ((rd_T58 x0 x5).f0.f1) ((rd_T58 x0 x5).f0.f2) ((rd_T58 x0 x5).f1.f0) ((rd_T58 x0 x5).f1.f1) ((rd_T58 x0 x5).f1.f2) x1).bind fun t106 => (if t106 < 0 then (some (-1)) else (laws_szTabS.l0 k x0 t106 (wrap64 (x5 + 1))))) else (none)) else (some x1)
def laws_szTabS.f (k : Nat) (l0 : List (S58)) (a1 : Int) : Option (Int) := if (wrap64 (a1 - (l0.length : Int))) < 0 then (some (-1)) else (laws_szTabS.l0 k l0 (wrap64 (a1 - (l0.length : Int))) 0)
theorem laws_szTabS.mono_l : ∀ k, (∀ y0 y1 y2, LeO (laws_szTabS.l0 k y0 y1 y2) (laws_szTabS.l0 (k + 1) y0 y1 y2))
 | 0 => fun _ _ _ r h => by simp [laws_szTabS.l0] at h
 | k + 1 => by
    have ih0 := laws_szTabS.mono_l k
    · intro y0 y1 y2
      unfold laws_szTabS.l0
      repeat' first
 | (with_reducible exact ih0 _ _ _)
 | (with_reducible exact LeO.refl _)
 | (with_reducible exact LeO.none _)
 | (with_reducible refine LeO.ite ?_ ?_)
 | (with_reducible refine LeO.bind ?_ (fun _ => ?_))
theorem laws_szTabS.mono : ∀ a0 a1 k, LeO (laws_szTabS.f k a0 a1) (laws_szTabS.f (k + 1) a0 a1) := by
  intro a0 a1 k
  have ih0 := laws_szTabS.mono_l k
  unfold laws_szTabS.f
  repeat' first
 | (with_reducible exact ih0 _ _ _)
 | (with_reducible exact LeO.refl _)
 | (with_reducible exact LeO.none _)
 | (with_reducible refine LeO.ite ?_ ?_)
 | (with_reducible refine LeO.bind ?_ (fun _ => ?_))
set_option maxHeartbeats 8000000 in
set_option maxRecDepth 100000 in
theorem laws_szTabS.calls (k : Nat) (A0 : Option Addr) (c0 : Nat) (l0 : List (S58)) (a1 : Int) (r : Int) (w : World) (hr0 : Kd.C k58 w A0 l0.length l0) (hc0 : l0.length ≤ c0) (h : laws_szTabS.f k l0 a1 = some r) :
    Calls Tryd.prog 16 #[.slice A0 l0.length c0, .int .i64 a1] w fun e w' => e = .returned (.int .i64 r) ∧ Below w.heap.size w w' := by
 have hu58 := Tryd.underlying58; have HR0 := Cmp.A hr0; have HC0 := Cmp.A hc0; clear hr0 hc0
 have HB := Cmp.A (Below.refl w.heap.size w)
 have H : (if (wrap64 (a1 - (l0.length : Int))) < 0 then (some (-1)) else (laws_szTabS.l0 k l0 (wrap64 (a1 - (l0.length : Int))) 0)) = some r := h
 clear h
 by_cases c3 : (wrap64 (a1 - (l0.length : Int))) < 0
 ·rw [if_pos c3] at H
  have c3b0 : decide ((wrap64 (a1 - (l0.length : Int))) < 0) = true := decide_eq_true c3
  clear c3
  obtain rfl := Option.some.inj H
  go_enter Tryd.func16, Tryd.ntmps16
  go_wp2
  go_ret
  exact ⟨by first | rfl | (simp [errW_none, errW_some] <;> rfl) | (simp [*, errW_none, errW_some] <;> rfl), Cmp.g HB.out⟩
 ·rw [if_neg c3] at H
  have c3b0 : decide ((wrap64 (a1 - (l0.length : Int))) < 0) = false := decide_eq_false c3
  clear c3
  have H' := Cmp.A H
  clear H
  go_enter Tryd.func16, Tryd.ntmps16
  go_wp2
  go_loopg [1, 5] k (fun kq v1 v5 w' => ∃ (D7 : Int) (D0 : Int), v1 = .int .i64 D7 ∧ v5 = .int .i64 D0 ∧ Aside0 (laws_szTabS.l0 kq l0 D7 D0 = some r) ∧ Aside0 (kq ≤ k) ∧ Aside0 (Below w.heap.size w w'))
  case atStart => exact ⟨(wrap64 (a1 - (l0.length : Int))), (0), (by first | rfl | simp | simp [*]), (by first | rfl | simp | simp [*]), H', ⟨Nat.le_refl _⟩, ⟨Cmp.g HB.out⟩⟩
  case round =>
   clear H'
   (try clear c1); (try clear p2); (try clear c3); (try clear c3b0)
   obtain ⟨D7, D0, rfl, rfl, HA, HK1, HB⟩ := hrel
   cases gk with
   | zero => exact absurd HA.out (by simp [laws_szTabS.l0])
   | succ k1 =>
    have H := HA.out; clear HA
    simp only [laws_szTabS.l0] at H
    by_cases c4 : D0 < (l0.length : Int)
    ·rw [if_pos c4] at H
     have c4b0 : decide (D0 < (l0.length : Int)) = true := decide_eq_true c4
     clear c4
     by_cases c5 : 0 ≤ D0
     ·rw [if_pos c5] at H; have c5b0 : decide (0 ≤ D0) = true := decide_eq_true c5; clear c5; replace H := Option.bind_eq_some_iff.mp H; obtain ⟨D8, Da, H⟩ := H; (try dsimp only at H); have A6 := Cmp.A Da; clear Da
      by_cases c7 : D8 < 0
      ·rw [if_pos c7] at H; have c7b0 : decide (D8 < 0) = true := decide_eq_true c7; clear c7
       obtain rfl := Option.some.inj H
       have p105 : 0 ≤ (D0 : Int) := of_decide_eq_true Cmp.d
       have q105 : D0 < (l0.length : Int) := of_decide_eq_true Cmp.d
       obtain ⟨D9, e105, D1, D2, D3, D4, D5, D6⟩ := at_T58 HR0.out D0 p105 q105
       cases e105
       replace D1 := Cmp.hc HB D1
       replace D2 := Cmp.hc HB D2
       replace D3 := Cmp.hc HB D3
       replace D4 := Cmp.hc HB D4
       replace D5 := Cmp.hc HB D5
       replace D6 := Cmp.hc HB D6
       replace p105 := eq_true p105; replace q105 := eq_true q105
       go_wp2_with (first | ((with_reducible refine gate_callee (f := 28) rfl ?_); refine goesL_ (some 23) rfl rfl Tryd.func28 (by kernel_rfl) rfl #[.agg #[.bool ((rd_T58 l0 D0).f0.f0), .string ((rd_T58 l0 D0).f0.f1), .int .i64 ((rd_T58 l0 D0).f0.f2), .bool ((rd_T58 l0 D0).f1.f0), .string ((rd_T58 l0 D0).f1.f1), .int .i64 ((rd_T58 l0 D0).f1.f2)], .int .i64 D7] rfl Cmp.q ?_; (with_reducible refine (laws_szTab.calls ((rd_T58 l0 D0).f0.f0) ((rd_T58 l0 D0).f0.f1) ((rd_T58 l0 D0).f0.f2) ((rd_T58 l0 D0).f1.f0) ((rd_T58 l0 D0).f1.f1) ((rd_T58 l0 D0).f1.f2) D7 D8 _ A6.out).mono ?_); rintro e w8 ⟨rfl, hb⟩; refine ⟨_, rfl, ?_⟩; replace HB := Cmp.bs HB hb; (try clear hb); (try clear hb2); (try clear hk); (try clear hi)))
       go_ret
       exact ⟨by first | rfl | (simp [errW_none, errW_some] <;> rfl) | (simp [*, errW_none, errW_some] <;> rfl), Cmp.g HB.out⟩
      ·rw [if_neg c7] at H; have c7b0 : decide (D8 < 0) = false := decide_eq_false c7; clear c7
       have H' := Cmp.A H
       clear H
       have p105 : 0 ≤ (D0 : Int) := of_decide_eq_true Cmp.d
       have q105 : D0 < (l0.length : Int) := of_decide_eq_true Cmp.d
       obtain ⟨D9, e105, D1, D2, D3, D4, D5, D6⟩ := at_T58 HR0.out D0 p105 q105
       cases e105
       replace D1 := Cmp.hc HB D1
       replace D2 := Cmp.hc HB D2
       replace D3 := Cmp.hc HB D3
       replace D4 := Cmp.hc HB D4
       replace D5 := Cmp.hc HB D5
       replace D6 := Cmp.hc HB D6
       replace p105 := eq_true p105; replace q105 := eq_true q105
       go_wp2_with (first | ((with_reducible refine gate_callee (f := 28) rfl ?_); refine goesL_ (some 23) rfl rfl Tryd.func28 (by kernel_rfl) rfl #[.agg #[.bool ((rd_T58 l0 D0).f0.f0), .string ((rd_T58 l0 D0).f0.f1), .int .i64 ((rd_T58 l0 D0).f0.f2), .bool ((rd_T58 l0 D0).f1.f0), .string ((rd_T58 l0 D0).f1.f1), .int .i64 ((rd_T58 l0 D0).f1.f2)], .int .i64 D7] rfl Cmp.q ?_; (with_reducible refine (laws_szTab.calls ((rd_T58 l0 D0).f0.f0) ((rd_T58 l0 D0).f0.f1) ((rd_T58 l0 D0).f0.f2) ((rd_T58 l0 D0).f1.f0) ((rd_T58 l0 D0).f1.f1) ((rd_T58 l0 D0).f1.f2) D7 D8 _ A6.out).mono ?_); rintro e w9 ⟨rfl, hb⟩; refine ⟨_, rfl, ?_⟩; replace HB := Cmp.bs HB hb; (try clear hb); (try clear hb2); (try clear hk); (try clear hi)))
       go_roundg k1
       case measure => have := HK1.out; omega
       case rel => exact ⟨(D8), (wrap64 (D0 + 1)), (by first | rfl | simp | simp [*]), (by first | rfl | simp | simp [*]), H', ⟨by have := HK1.out; omega⟩, ⟨Cmp.g HB.out⟩⟩
     ·rw [if_neg c5] at H; exact absurd H (by simp)
    ·rw [if_neg c4] at H
     have c4b0 : decide (D0 < (l0.length : Int)) = false := decide_eq_false c4
     clear c4
     obtain rfl := Option.some.inj H
     go_wp2
     go_ret
     exact ⟨by first | rfl | (simp [errW_none, errW_some] <;> rfl) | (simp [*, errW_none, errW_some] <;> rfl), Cmp.g HB.out⟩
/-! ### laws_szBrowser: function 5 -/
def laws_szBrowser.f (k : Nat) (a0_0 : Int) (a0_1 : Int) (a0_2 : Int) (a0_3 : Int) (l0_4 : List (S58)) (a0_5 : Int) (a1 : Int) : Option (Int) := (laws_szTabS.f k l0_4 a1).bind fun t108 => (if t108 < 0 then (some (-1)) else (some t108))
theorem laws_szBrowser.mono : ∀ a0 a1 a2 a3 a4 a5 a6 k, LeO (laws_szBrowser.f k a0 a1 a2 a3 a4 a5 a6) (laws_szBrowser.f (k + 1) a0 a1 a2 a3 a4 a5 a6) := by
  intro a0 a1 a2 a3 a4 a5 a6 k
  unfold laws_szBrowser.f
  repeat' first
 | (with_reducible exact laws_szTabS.mono _ _ _)
 | (with_reducible exact LeO.refl _)
 | (with_reducible exact LeO.none _)
 | (with_reducible refine LeO.ite ?_ ?_)
 | (with_reducible refine LeO.bind ?_ (fun _ => ?_))
set_option maxHeartbeats 8000000 in
set_option maxRecDepth 100000 in
theorem laws_szBrowser.calls (k : Nat) (a0_0 : Int) (a0_1 : Int) (a0_2 : Int) (a0_3 : Int) (A0_4 : Option Addr) (c0_4 : Nat) (l0_4 : List (S58)) (a0_5 : Int) (a1 : Int) (r : Int) (w : World) (hr0_4 : Kd.C k58 w A0_4 l0_4.length l0_4) (hc0_4 : l0_4.length ≤ c0_4) (h : laws_szBrowser.f k a0_0 a0_1 a0_2 a0_3 l0_4 a0_5 a1 = some r) :
    Calls Tryd.prog 5 #[.agg #[.int .i64 a0_0, .int .i64 a0_1, .int .i64 a0_2, .int .i64 a0_3, .slice A0_4 l0_4.length c0_4, .int .i64 a0_5], .int .i64 a1] w fun e w' => e = .returned (.int .i64 r) ∧ Below w.heap.size w w' := by
 have hu26 := Tryd.underlying26; have D2 := Cmp.A hr0_4; have HC0_4 := Cmp.A hc0_4; clear hr0_4 hc0_4
 have HB := Cmp.A (Below.refl w.heap.size w)
 have H : ((laws_szTabS.f k l0_4 a1).bind fun D1 => (if D1 < 0 then (some (-1)) else (some D1))) = some r := h
 clear h; replace H := Option.bind_eq_some_iff.mp H; obtain ⟨D1, Du, H⟩ := H; (try dsimp only at H); have A3 := Cmp.A Du; clear Du
 by_cases c4 : D1 < 0
 ·rw [if_pos c4] at H; have c4b0 : decide (D1 < 0) = true := decide_eq_true c4; clear c4
  obtain rfl := Option.some.inj H
  go_enter Tryd.func5, Tryd.ntmps5
  go_wp2_with (first | ((with_reducible refine gate_dst (N := 2) rfl ?_); refine box_event ?hg (N := 2) ?hd (cs := #[.int .i64 a0_0, .int .i64 a0_1, .int .i64 a0_2, .int .i64 a0_3, .slice A0_4 l0_4.length c0_4, .int .i64 a0_5]) (t := 26) ?hr ?_; (case hd => rfl); (case hg => rfl); (case hr => first | (go_simp; done) | (go_simp; rfl)); intro D5 hg w5 hbox hb; have D0 := Cmp.A (hbox); have D4 := Cmp.gw hg HB; have D3 := Cmp.gw hg HB; replace HB := Cmp.bs HB hb; clear hb hbox hg; obtain ⟨D6, D7, D8, D9, Da, Db⟩ := Cmp.q6 D0; obtain ⟨Di, Dj, Dk, Dl, Dm, Dn⟩ := Cmp.f6 D0) | ((with_reducible refine gate_callee (f := 16) rfl ?_); refine goesL_ (some 8) rfl rfl Tryd.func16 (by kernel_rfl) rfl #[.slice A0_4 l0_4.length c0_4, .int .i64 a1] rfl Cmp.q ?_; (with_reducible refine (laws_szTabS.calls k _ _ l0_4 a1 D1 _ ?side1 ?side2 A3.out).mono ?_); (case side1 => exact Cmp.rc (Kd.C_below D2.out HB.out)); (case side2 => exact HC0_4.out); rintro e w7 ⟨rfl, hb⟩; refine ⟨_, rfl, ?_⟩; replace D0 := Cmp.be D0 hb; replace HB := Cmp.bs HB hb; (try clear hb); (try clear hb2); (try clear hk); (try clear hi)))
  go_ret
  exact ⟨by first | rfl | (simp [errW_none, errW_some] <;> rfl) | (simp [*, errW_none, errW_some] <;> rfl), Cmp.g HB.out⟩
 ·rw [if_neg c4] at H; have c4b0 : decide (D1 < 0) = false := decide_eq_false c4; clear c4
  obtain rfl := Option.some.inj H
  go_enter Tryd.func5, Tryd.ntmps5
  go_wp2_with (first | ((with_reducible refine gate_dst (N := 2) rfl ?_); refine box_event ?hg (N := 2) ?hd (cs := #[.int .i64 a0_0, .int .i64 a0_1, .int .i64 a0_2, .int .i64 a0_3, .slice A0_4 l0_4.length c0_4, .int .i64 a0_5]) (t := 26) ?hr ?_; (case hd => rfl); (case hg => rfl); (case hr => first | (go_simp; done) | (go_simp; rfl)); intro D5 hg w8 hbox hb; have D0 := Cmp.A (hbox); have D4 := Cmp.gw hg HB; have D3 := Cmp.gw hg HB; replace HB := Cmp.bs HB hb; clear hb hbox hg; obtain ⟨Dc, Dd, De, Df, Dg, Dh⟩ := Cmp.q6 D0; obtain ⟨Do, Dp, Dq, Dr, Ds, Dt⟩ := Cmp.f6 D0) | ((with_reducible refine gate_callee (f := 16) rfl ?_); refine goesL_ (some 8) rfl rfl Tryd.func16 (by kernel_rfl) rfl #[.slice A0_4 l0_4.length c0_4, .int .i64 a1] rfl Cmp.q ?_; (with_reducible refine (laws_szTabS.calls k _ _ l0_4 a1 D1 _ ?side1 ?side2 A3.out).mono ?_); (case side1 => exact Cmp.rc (Kd.C_below D2.out HB.out)); (case side2 => exact HC0_4.out); rintro e w10 ⟨rfl, hb⟩; refine ⟨_, rfl, ?_⟩; replace D0 := Cmp.be D0 hb; replace HB := Cmp.bs HB hb; (try clear hb); (try clear hb2); (try clear hk); (try clear hi)))
  go_ret
  exact ⟨by first | rfl | (simp [errW_none, errW_some] <;> rfl) | (simp [*, errW_none, errW_some] <;> rfl), Cmp.g HB.out⟩
/-! ### laws_toKeyStore: function 19 -/
def laws_toKeyStore.f (a0_0 : Int) (a0_1 : Int) (a0_2 : Int) (a0_3 : Int) : Option (Int × Int × Int × Int) := some (a0_0, a0_1, a0_2, a0_3)
set_option maxHeartbeats 8000000 in
set_option maxRecDepth 100000 in
theorem laws_toKeyStore.calls (a0_0 : Int) (a0_1 : Int) (a0_2 : Int) (a0_3 : Int) (r1 : Int) (r2 : Int) (r3 : Int) (r4 : Int) (w : World) (h : laws_toKeyStore.f a0_0 a0_1 a0_2 a0_3 = some (r1, r2, r3, r4)) :
    Calls Tryd.prog 19 #[.agg #[.int .i64 a0_0, .int .i64 a0_1, .int .i64 a0_2, .int .i64 a0_3]] w fun e w' => e = .returned (.agg #[.int .i64 r1, .int .i64 r2, .int .i64 r3, .int .i64 r4]) ∧ Below w.heap.size w w' := by
 have hu23 := Tryd.underlying23; have hu31 := Tryd.underlying31
 have HB := Cmp.A (Below.refl w.heap.size w)
 have H : (some (a0_0, a0_1, a0_2, a0_3)) = some (r1, r2, r3, r4) := h
 clear h
 simp only [Option.some.injEq, Prod.mk.injEq] at H
 obtain ⟨rfl, rfl, rfl, rfl⟩ := H
 go_enter Tryd.func19, Tryd.ntmps19
 go_wp2_with (first | ((with_reducible refine gate_dst (N := 1) rfl ?_); refine box_event ?hg (N := 1) ?hd (cs := #[.int .i64 a0_0, .int .i64 a0_1, .int .i64 a0_2, .int .i64 a0_3]) (t := 23) ?hr ?_; (case hd => rfl); (case hg => rfl); (case hr => first | (go_simp; done) | (go_simp; rfl)); intro E4 hg w2 hbox hb; have D0 := Cmp.A (hbox); have E1 := Cmp.gw hg HB; have Dy := Cmp.gw hg HB; replace HB := Cmp.bs HB hb; clear hb hbox hg) | ((with_reducible refine gate_dst (N := 2) rfl ?_); refine box_event ?hg (N := 2) ?hd (cs := #[.int .i64 0, .int .i64 0, .int .i64 0, .int .i64 0]) (t := 31) ?hr ?_; (case hd => rfl); (case hg => rfl); (case hr => first | (go_simp; done) | (go_simp; rfl)); intro D9 hg w3 hbox hb; have D1 := Cmp.A (hbox); have E2 := Cmp.gw hg HB; have Dz := Cmp.gw hg HB; have D3 := Cmp.nl hg D0; have D5 := Cmp.ng hg D0; replace D0 := Cmp.be D0 hb; replace HB := Cmp.bs HB hb; clear hb hbox hg) | ((with_reducible refine gate_dst (N := 3) rfl ?_); refine box_event ?hg (N := 3) ?hd (cs := #[.int .i64 0, .int .i64 0, .int .i64 0, .int .i64 0]) (t := 31) ?hr ?_; (case hd => rfl); (case hg => rfl); (case hr => first | (go_simp; done) | (go_simp; rfl)); intro E5 hg w4 hbox hb; have D2 := Cmp.A (hbox); have E3 := Cmp.gw hg HB; have E0 := Cmp.gw hg HB; have D4 := Cmp.nl hg D0; have D7 := Cmp.ng hg D0; have D6 := Cmp.nl hg D1; have D8 := Cmp.ng hg D1; replace D0 := Cmp.be D0 hb; replace D1 := Cmp.be D1 hb; replace HB := Cmp.bs HB hb; clear hb hbox hg; have E6 := D3.out; have E9 := D5.out; have E7 := D4.out; have Ea := D7.out; obtain ⟨Di, Dj, Dk, Dl⟩ := Cmp.q4 D0; obtain ⟨Dq, Dr, Ds, Dt⟩ := Cmp.f4 D0; have E8 := D8.out; have Eb := D6.out; obtain ⟨Dm, Dn, Do, Dp⟩ := Cmp.q4 D2; obtain ⟨Du, Dv, Dw, Dx⟩ := Cmp.f4 D2; obtain ⟨Da, Db, Dc, Dd⟩ := Cmp.q4 D1; obtain ⟨De, Df, Dg, Dh⟩ := Cmp.f4 D1))
 refine bodyPost_ret (results_cell_row rfl _ _ D9 31 #[.int .i64 a0_0, .int .i64 a0_1, .int .i64 a0_2, .int .i64 a0_3] (0, 0) _ rfl (Cmp.bw D1.out) Tryd.underlying31 rfl (by kernel_rfl)) rfl ?_
 exact ⟨by first | rfl | (simp [errW_none, errW_some] <;> rfl) | (simp [*, errW_none, errW_some] <;> rfl), Cmp.g HB.out⟩
/-! ### laws_toOrigin: function 9 -/
def laws_toOrigin.f (a0_0 : Bool) (a0_1 : ByteArray) (a0_2 : Int) : Option (Bool × ByteArray × Int) := some (a0_0, a0_1, a0_2)
set_option maxHeartbeats 8000000 in
set_option maxRecDepth 100000 in
theorem laws_toOrigin.calls (a0_0 : Bool) (a0_1 : ByteArray) (a0_2 : Int) (r1 : Bool) (r2 : ByteArray) (r3 : Int) (w : World) (h : laws_toOrigin.f a0_0 a0_1 a0_2 = some (r1, r2, r3)) :
    Calls Tryd.prog 9 #[.agg #[.bool a0_0, .string a0_1, .int .i64 a0_2]] w fun e w' => e = .returned (.agg #[.bool r1, .string r2, .int .i64 r3]) ∧ Below w.heap.size w w' := by
 have hu28 := Tryd.underlying28; have hu38 := Tryd.underlying38
 have HB := Cmp.A (Below.refl w.heap.size w)
 have H : (some (a0_0, a0_1, a0_2)) = some (r1, r2, r3) := h
 clear h
 simp only [Option.some.injEq, Prod.mk.injEq] at H
 obtain ⟨rfl, rfl, rfl⟩ := H
 go_enter Tryd.func9, Tryd.ntmps9
 go_wp2_with (first | ((with_reducible refine gate_dst (N := 1) rfl ?_); refine box_event ?hg (N := 1) ?hd (cs := #[.bool a0_0, .string a0_1, .int .i64 a0_2]) (t := 28) ?hr ?_; (case hd => rfl); (case hg => rfl); (case hr => first | (go_simp; done) | (go_simp; rfl)); intro Dy hg w2 hbox hb; have D0 := Cmp.A (hbox); have Dv := Cmp.gw hg HB; have Ds := Cmp.gw hg HB; replace HB := Cmp.bs HB hb; clear hb hbox hg) | ((with_reducible refine gate_dst (N := 2) rfl ?_); refine box_event ?hg (N := 2) ?hd (cs := #[.bool false, .string (⟨#[]⟩ : ByteArray), .int .i64 0]) (t := 38) ?hr ?_; (case hd => rfl); (case hg => rfl); (case hr => first | (go_simp; done) | (go_simp; rfl)); intro D9 hg w3 hbox hb; have D1 := Cmp.A (hbox); have Dw := Cmp.gw hg HB; have Dt := Cmp.gw hg HB; have D3 := Cmp.nl hg D0; have D5 := Cmp.ng hg D0; replace D0 := Cmp.be D0 hb; replace HB := Cmp.bs HB hb; clear hb hbox hg) | ((with_reducible refine gate_dst (N := 3) rfl ?_); refine box_event ?hg (N := 3) ?hd (cs := #[.bool false, .string (⟨#[]⟩ : ByteArray), .int .i64 0]) (t := 38) ?hr ?_; (case hd => rfl); (case hg => rfl); (case hr => first | (go_simp; done) | (go_simp; rfl)); intro Dz hg w4 hbox hb; have D2 := Cmp.A (hbox); have Dx := Cmp.gw hg HB; have Du := Cmp.gw hg HB; have D4 := Cmp.nl hg D0; have D7 := Cmp.ng hg D0; have D6 := Cmp.nl hg D1; have D8 := Cmp.ng hg D1; replace D0 := Cmp.be D0 hb; replace D1 := Cmp.be D1 hb; replace HB := Cmp.bs HB hb; clear hb hbox hg; have E0 := D3.out; have E3 := D5.out; have E1 := D4.out; have E4 := D7.out; obtain ⟨Dg, Dh, Di⟩ := Cmp.q3 D0; obtain ⟨Dm, Dn, Do⟩ := Cmp.f3 D0; have E2 := D8.out; have E5 := D6.out; obtain ⟨Dj, Dk, Dl⟩ := Cmp.q3 D2; obtain ⟨Dp, Dq, Dr⟩ := Cmp.f3 D2; obtain ⟨Da, Db, Dc⟩ := Cmp.q3 D1; obtain ⟨Dd, De, Df⟩ := Cmp.f3 D1))
 refine bodyPost_ret (results_cell_row rfl _ _ D9 38 #[.bool a0_0, .string a0_1, .int .i64 a0_2] (0, 0) _ rfl (Cmp.bw D1.out) Tryd.underlying38 rfl (by kernel_rfl)) rfl ?_
 exact ⟨by first | rfl | (simp [errW_none, errW_some] <;> rfl) | (simp [*, errW_none, errW_some] <;> rfl), Cmp.g HB.out⟩
/-! ### laws_toTab: function 30 -/
def laws_toTab.f (a0_0 : Bool) (a0_1 : ByteArray) (a0_2 : Int) (a0_3 : Bool) (a0_4 : ByteArray) (a0_5 : Int) : Option (Bool × ByteArray × Int × Bool × ByteArray × Int) := (laws_toOrigin.f a0_0 a0_1 a0_2).bind fun bt118 => ((laws_toOrigin.f a0_3 a0_4 a0_5).bind fun bt121 => (some (bt118.1, bt118.2.1, bt118.2.2, bt121.1, bt121.2.1, bt121.2.2)))
set_option maxHeartbeats 8000000 in
set_option maxRecDepth 100000 in
theorem laws_toTab.calls (a0_0 : Bool) (a0_1 : ByteArray) (a0_2 : Int) (a0_3 : Bool) (a0_4 : ByteArray) (a0_5 : Int) (r1 : Bool) (r2 : ByteArray) (r3 : Int) (r4 : Bool) (r5 : ByteArray) (r6 : Int) (w : World) (h : laws_toTab.f a0_0 a0_1 a0_2 a0_3 a0_4 a0_5 = some (r1, r2, r3, r4, r5, r6)) :
    Calls Tryd.prog 30 #[.agg #[.bool a0_0, .string a0_1, .int .i64 a0_2, .bool a0_3, .string a0_4, .int .i64 a0_5]] w fun e w' => e = .returned (.agg #[.bool r1, .string r2, .int .i64 r3, .bool r4, .string r5, .int .i64 r6]) ∧ Below w.heap.size w w' := by
 have hu58 := Tryd.underlying58; have hu49 := Tryd.underlying49; have hu28 := Tryd.underlying28; have hu38 := Tryd.underlying38
 have HB := Cmp.A (Below.refl w.heap.size w)
 have H : ((laws_toOrigin.f a0_0 a0_1 a0_2).bind fun bt118 => ((laws_toOrigin.f a0_3 a0_4 a0_5).bind fun bt121 => (some (bt118.1, bt118.2.1, bt118.2.2, bt121.1, bt121.2.1, bt121.2.2)))) = some (r1, r2, r3, r4, r5, r6) := h
 clear h; replace H := Option.bind_eq_some_iff.mp H; obtain ⟨⟨Da, Db, Dc⟩, F6, H⟩ := H; (try dsimp only at H); have A2 := Cmp.A F6; clear F6; replace H := Option.bind_eq_some_iff.mp H; obtain ⟨⟨Df, Dg, Dh⟩, F7, H⟩ := H; (try dsimp only at H); have A3 := Cmp.A F7; clear F7
 simp only [Option.some.injEq, Prod.mk.injEq] at H
 obtain ⟨rfl, rfl, rfl, rfl, rfl, rfl⟩ := H
 go_enter Tryd.func30, Tryd.ntmps30
 go_wp2_with (first | ((with_reducible refine gate_dst (N := 1) rfl ?_); refine box_event ?hg (N := 1) ?hd (cs := #[.bool a0_0, .string a0_1, .int .i64 a0_2, .bool a0_3, .string a0_4, .int .i64 a0_5]) (t := 58) ?hr ?_; (case hd => rfl); (case hg => rfl); (case hr => first | (go_simp; done) | (go_simp; rfl)); intro Dd hg w4 hbox hb; have D0 := Cmp.A (hbox); have Fb := Cmp.gw hg HB; have F8 := Cmp.gw hg HB; replace HB := Cmp.bs HB hb; clear hb hbox hg) | ((with_reducible refine gate_dst (N := 2) rfl ?_); refine box_event ?hg (N := 2) ?hd (cs := #[.bool false, .string (⟨#[]⟩ : ByteArray), .int .i64 0, .bool false, .string (⟨#[]⟩ : ByteArray), .int .i64 0]) (t := 49) ?hr ?_; (case hd => rfl); (case hg => rfl); (case hr => first | (go_simp; done) | (go_simp; rfl)); intro D9 hg w5 hbox hb; have D2 := Cmp.A (hbox); have Fc := Cmp.gw hg HB; have F9 := Cmp.gw hg HB; have D3 := Cmp.nl hg D0; have D5 := Cmp.ng hg D0; replace D0 := Cmp.be D0 hb; replace HB := Cmp.bs HB hb; clear hb hbox hg) | ((with_reducible refine gate_dst (N := 3) rfl ?_); refine box_event ?hg (N := 3) ?hd (cs := #[.bool false, .string (⟨#[]⟩ : ByteArray), .int .i64 0, .bool false, .string (⟨#[]⟩ : ByteArray), .int .i64 0]) (t := 49) ?hr ?_; (case hd => rfl); (case hg => rfl); (case hr => first | (go_simp; done) | (go_simp; rfl)); intro De hg w6 hbox hb; have D1 := Cmp.A (hbox); have Fd := Cmp.gw hg HB; have Fa := Cmp.gw hg HB; have D4 := Cmp.nl hg D0; have D7 := Cmp.ng hg D0; have D6 := Cmp.nl hg D2; have D8 := Cmp.ng hg D2; replace D0 := Cmp.be D0 hb; replace D2 := Cmp.be D2 hb; replace HB := Cmp.bs HB hb; clear hb hbox hg; have Fg := D3.out; have Fi := D5.out; have Fh := D4.out; have Fj := D7.out; obtain ⟨Eu, Ev, Ew, Ex, Ey, Ez⟩ := Cmp.q6 D0; obtain ⟨F0, F1, F2, F3, F4, F5⟩ := Cmp.f6 D0) | ((with_reducible refine gate_callee (f := 9) rfl ?_); refine goesL_ (some 6) rfl rfl Tryd.func9 (by kernel_rfl) rfl #[.agg #[.bool a0_0, .string a0_1, .int .i64 a0_2]] rfl Cmp.q ?_; (with_reducible refine (laws_toOrigin.calls a0_0 a0_1 a0_2 Da Db Dc _ A2.out).mono ?_); rintro e w10 ⟨rfl, hb⟩; refine ⟨_, rfl, ?_⟩; replace D0 := Cmp.be D0 hb; replace D2 := Cmp.be D2 hb; replace D1 := Cmp.be D1 hb; replace HB := Cmp.bs HB hb; (try clear hb); (try clear hb2); (try clear hk); (try clear hi); have Fe := D8.out; have Ff := D6.out; obtain ⟨Di, Dj, Dk, Dl, Dm, Dn⟩ := Cmp.q6 D1; obtain ⟨E6, E7, E8, E9, Ea, Eb⟩ := Cmp.f6 D1; obtain ⟨Do, Dp, Dq, Dr, Ds, Dt⟩ := Cmp.q6 D0; obtain ⟨Ec, Ed, Ee, Ef, Eg, Eh⟩ := Cmp.f6 D0) | ((with_reducible refine gate_callee (f := 9) rfl ?_); refine goesL_ (some 10) rfl rfl Tryd.func9 (by kernel_rfl) rfl #[.agg #[.bool a0_3, .string a0_4, .int .i64 a0_5]] rfl Cmp.q ?_; (with_reducible refine (laws_toOrigin.calls a0_3 a0_4 a0_5 Df Dg Dh _ A3.out).mono ?_); rintro e w14 ⟨rfl, hb⟩; refine ⟨_, rfl, ?_⟩; replace D0 := Cmp.A (blk_below (g := Dd) (o := .cells #[.bool a0_0, .string a0_1, .int .i64 a0_2, .bool a0_3, .string a0_4, .int .i64 a0_5] 58 (0, 0)) (Cmp.bw D0.out) hb); replace D2 := Cmp.A (blk_below (g := D9) (o := .cells #[.bool false, .string (⟨#[]⟩ : ByteArray), .int .i64 0, .bool false, .string (⟨#[]⟩ : ByteArray), .int .i64 0] 49 (0, 0)) (Cmp.bw D2.out) hb); replace D1 := Cmp.A (blk_below (g := De) (o := .cells #[.bool Da, .string Db, .int .i64 Dc, .bool false, .string (⟨#[]⟩ : ByteArray), .int .i64 0] 49 (0, 0)) (Cmp.bw D1.out) hb); replace HB := Cmp.bs HB hb; (try clear hb); (try clear hb2); (try clear hk); (try clear hi); obtain ⟨Du, Dv, Dw, Dx, Dy, Dz⟩ := Cmp.q6 D1; obtain ⟨Ei, Ej, Ek, El, Em, En⟩ := Cmp.f6 D1; obtain ⟨E0, E1, E2, E3, E4, E5⟩ := Cmp.q6 D2; obtain ⟨Eo, Ep, Eq, Er, Es, Et⟩ := Cmp.f6 D2))
 refine bodyPost_ret (results_cell_row rfl _ _ D9 49 #[.bool Da, .string Db, .int .i64 Dc, .bool Df, .string Dg, .int .i64 Dh] (0, 0) _ rfl (Cmp.bw D2.out) Tryd.underlying49 rfl (by kernel_rfl)) rfl ?_
 exact ⟨by first | rfl | (simp [errW_none, errW_some] <;> rfl) | (simp [*, errW_none, errW_some] <;> rfl), Cmp.g HB.out⟩
/-! ### laws_toTabS: function 20 -/
def laws_toTabS.l0 : Nat → List (S58) → List (S49) → Int → Option ((List (S49)))
  | 0, _, _, _ => none
  | k + 1, x0, x3, x4 => if x4 < (x0.length : Int) then (if 0 ≤ x4 then ((laws_toTab.f ((rd_T58 x0 x4).f0.f0) ((rd_T58 x0 x4).f0.f1) ((rd_T58 x0 x4).f0.f2) ((rd_T58 x0 x4).f1.f0) ((rd_T58 x0 x4).f1.f1) ((rd_T58 x0 x4).f1.f2)).bind fun bt128 => (if x4 < (x3.length : Int) then (laws_toTabS.l0 k x0 (x3.set (x4 : Int).toNat (⟨(⟨bt128.1, bt128.2.1, bt128.2.2.1⟩ : S38), (⟨bt128.2.2.2.1, bt128.2.2.2.2.1, bt128.2.2.2.2.2⟩ : S38)⟩ : S49)) (wrap64 (x4 + 1))) else (none))) else (none)) else (some x3)
def laws_toTabS.f (k : Nat) (l0 : List (S58)) : Option ((List (S49))) := if 0 ≤ (l0.length : Int) then (if ((l0.length : Int) : Int).toNat ≤ 4398046511104 then (laws_toTabS.l0 k l0 (List.replicate ((l0.length : Int) : Int).toNat z49) 0) else (none)) else (none)
theorem laws_toTabS.mono_l : ∀ k, (∀ y0 y1 y2, LeO (laws_toTabS.l0 k y0 y1 y2) (laws_toTabS.l0 (k + 1) y0 y1 y2))
 | 0 => fun _ _ _ r h => by simp [laws_toTabS.l0] at h
 | k + 1 => by
    have ih0 := laws_toTabS.mono_l k
    · intro y0 y1 y2
      unfold laws_toTabS.l0
      repeat' first
 | (with_reducible exact ih0 _ _ _)
 | (with_reducible exact LeO.refl _)
 | (with_reducible exact LeO.none _)
 | (with_reducible refine LeO.ite ?_ ?_)
 | (with_reducible refine LeO.bind ?_ (fun _ => ?_))
theorem laws_toTabS.mono : ∀ a0 k, LeO (laws_toTabS.f k a0) (laws_toTabS.f (k + 1) a0) := by
  intro a0 k
  have ih0 := laws_toTabS.mono_l k
  unfold laws_toTabS.f
  repeat' first
 | (with_reducible exact ih0 _ _ _)
 | (with_reducible exact LeO.refl _)
 | (with_reducible exact LeO.none _)
 | (with_reducible refine LeO.ite ?_ ?_)
 | (with_reducible refine LeO.bind ?_ (fun _ => ?_))
set_option maxHeartbeats 8000000 in
set_option maxRecDepth 100000 in
theorem laws_toTabS.calls (k : Nat) (A0 : Option Addr) (c0 : Nat) (l0 : List (S58)) (r : List (S49)) (w : World) (hr0 : Kd.C k58 w A0 l0.length l0) (hc0 : l0.length ≤ c0) (h : laws_toTabS.f k l0 = some r) :
    Calls Tryd.prog 20 #[.slice A0 l0.length c0] w fun e w' => ∃ v0_ : Value, e = .returned (v0_) ∧ Kd.R k49 49 w' w.heap.size (fun _ => True) v0_ r ∧ Below w.heap.size w w' := by
 have hu58 := Tryd.underlying58; have hu49 := Tryd.underlying49; have HR0 := Cmp.A hr0; have HC0 := Cmp.A hc0; clear hr0 hc0
 have HB := Cmp.A (Below.refl w.heap.size w)
 have H : (if 0 ≤ (l0.length : Int) then (if ((l0.length : Int) : Int).toNat ≤ 4398046511104 then (laws_toTabS.l0 k l0 (List.replicate ((l0.length : Int) : Int).toNat z49) 0) else (none)) else (none)) = some r := h
 clear h
 by_cases c2 : 0 ≤ (l0.length : Int)
 ·rw [if_pos c2] at H
  have c2b0 := eq_true c2
  have c2b1 : decide (0 ≤ (l0.length : Int)) = true := decide_eq_true c2
  clear c2
  by_cases c3 : ((l0.length : Int) : Int).toNat ≤ 4398046511104
  ·rw [if_pos c3] at H
   have c3b0 := eq_true c3
   have c3b1 : decide (((l0.length : Int) : Int).toNat ≤ 4398046511104) = true := decide_eq_true c3
   clear c3
   obtain ⟨Dt, hy124⟩ : ∃ y_ : List (S49), y_ = (List.replicate ((l0.length : Int) : Int).toNat z49) := ⟨_, rfl⟩
   replace H : (laws_toTabS.l0 k l0 Dt 0) = some r := Cmp.hy hy124 H
   have Df := Cmp.A hy124; clear hy124
   have H' := Cmp.A H
   clear H
   go_enter Tryd.func20, Tryd.ntmps20
   go_wp2_with (first | ((with_reducible refine gate_dst (N := 7) rfl ?_); refine Kd.R_make k49 _ 49 rfl (N := 7) rfl 32 _ _ rfl (l0.length : Int) rfl rfl Tryd.underlying32 (.agg #[(.bool false), (.string ⟨#[]⟩), (.int .i64 0), (.bool false), (.string ⟨#[]⟩), (.int .i64 0)]) 64 info49 rfl (by decide) (by omega) z49 (ok := fun _ => True) (okp := fun _ => True) (k49_mkM _ _ _ z49 ) (fun _ hk => hk) trivial (of_decide_eq_true Cmp.d) (Nat.le_trans (Nat.mul_le_mul_right _ (of_decide_eq_true Cmp.d : (l0.length : Int).toNat ≤ 4398046511104)) (by omega)) (Below.refl _ _) (Nat.le_refl _) ?_; intro v125 w4 Ds hb hg_ hnew_; clear hg_ hnew_; (first | rw [← Df.out] at Ds | (simp only [Int.reduceToNat] at Ds; rw [← Df.out] at Ds)); have Dn := Cmp.A (Kd.R_lower Ds (below_size (Cmp.g HB.out))); replace HB := Cmp.bs HB hb; clear hb Ds))
   go_loopg [4] k (fun kq v4 w' => ∃ (D1 : List (S49)) (D0 : Int), v4 = .int .i64 D0 ∧ Aside0 (laws_toTabS.l0 kq l0 D1 D0 = some r) ∧ Aside0 (kq ≤ k) ∧ Aside0 (Kd.R k49 49 w' w.heap.size (fun _ => True) v125 D1) ∧ Aside0 (Below w.heap.size w w'))
   case atStart => exact ⟨(Dt), (0), (by first | rfl | simp | simp [*]), H', ⟨Nat.le_refl _⟩, ⟨Cmp.rr Dn.out⟩, ⟨Cmp.g HB.out⟩⟩
   case round =>
    clear H'
    (try clear c2); (try clear c2b0); (try clear c2b1); (try clear p2); (try clear c3); (try clear c3b0); (try clear c3b1)
    obtain ⟨D1, D0, rfl, HA, HK1, D2, HB⟩ := hrel
    cases gk with
    | zero => exact absurd HA.out (by simp [laws_toTabS.l0])
    | succ k1 =>
     have H := HA.out; clear HA
     simp only [laws_toTabS.l0] at H
     by_cases c6 : D0 < (l0.length : Int)
     ·rw [if_pos c6] at H
      have c6b0 : decide (D0 < (l0.length : Int)) = true := decide_eq_true c6
      clear c6
      by_cases c7 : 0 ≤ D0
      ·rw [if_pos c7] at H; have c7b0 : decide (0 ≤ D0) = true := decide_eq_true c7; clear c7; replace H := Option.bind_eq_some_iff.mp H; obtain ⟨⟨D9, Da, Db, Dc, Dd, De⟩, E0, H⟩ := H; (try dsimp only at H); have A8 := Cmp.A E0; clear E0
       by_cases c9 : D0 < (D1.length : Int)
       ·rw [if_pos c9] at H
        have c9b0 : decide (D0 < (D1.length : Int)) = true := decide_eq_true c9
        clear c9
        obtain ⟨Dm, hy134⟩ : ∃ y_ : List (S49), y_ = (D1.set (D0 : Int).toNat (⟨(⟨D9, Da, Db⟩ : S38), (⟨Dc, Dd, De⟩ : S38)⟩ : S49)) := ⟨_, rfl⟩
        replace H : (laws_toTabS.l0 k1 l0 Dm (wrap64 (D0 + 1))) = some r := Cmp.hy hy134 H
        have Do := Cmp.A hy134; clear hy134
        have H' := Cmp.A H
        clear H
        have p127 : 0 ≤ (D0 : Int) := of_decide_eq_true Cmp.d
        have q127 : D0 < (l0.length : Int) := of_decide_eq_true Cmp.d
        obtain ⟨E1, e127, D3, D4, D5, D6, D7, D8⟩ := at_T58 HR0.out D0 p127 q127
        cases e127
        replace D3 := Cmp.hc HB D3
        replace D4 := Cmp.hc HB D4
        replace D5 := Cmp.hc HB D5
        replace D6 := Cmp.hc HB D6
        replace D7 := Cmp.hc HB D7
        replace D8 := Cmp.hc HB D8
        replace p127 := eq_true p127; replace q127 := eq_true q127
        go_wp2_with (first | ((with_reducible refine gate_callee (f := 30) rfl ?_); refine goesL_ (some 20) rfl rfl Tryd.func30 (by kernel_rfl) rfl #[.agg #[.bool ((rd_T58 l0 D0).f0.f0), .string ((rd_T58 l0 D0).f0.f1), .int .i64 ((rd_T58 l0 D0).f0.f2), .bool ((rd_T58 l0 D0).f1.f0), .string ((rd_T58 l0 D0).f1.f1), .int .i64 ((rd_T58 l0 D0).f1.f2)]] rfl Cmp.q ?_; (with_reducible refine (laws_toTab.calls ((rd_T58 l0 D0).f0.f0) ((rd_T58 l0 D0).f0.f1) ((rd_T58 l0 D0).f0.f2) ((rd_T58 l0 D0).f1.f0) ((rd_T58 l0 D0).f1.f1) ((rd_T58 l0 D0).f1.f2) D9 Da Db Dc Dd De _ A8.out).mono ?_); rintro e w11 ⟨rfl, hb⟩; refine ⟨_, rfl, ?_⟩; replace D2 := Cmp.A (Kd.R_below (Cmp.rr D2.out) hb); replace HB := Cmp.bs HB hb; (try clear hb); (try clear hb2); (try clear hk); (try clear hi); have p10 : 0 ≤ (D0 : Int) := of_decide_eq_true Cmp.d; have q10 : (D0 : Int) < ((D1.length : Int) : Int) := of_decide_eq_true Cmp.d; obtain ⟨go10, Dp, Dq, Dr, gl10, cl10, HG10⟩ := Kd.R_form D2.out (by omega); (first | cases Dq | (injection Dq with ea_ en_ ec_; (first | subst ea_ | (injection ea_ with ea_; subst ea_)); subst ec_; clear en_)); have GB10 := Cmp.A Dr; have GG10 := Cmp.A HG10; clear Dr gl10 HG10; obtain ⟨ce10, hcl10, hM10, hcc10, hfr10⟩ := Kd.R_elem D2.out z49 (D0 : Int) p10 q10; obtain rfl := k49_openM hM10; have Du : w11.cell? ⟨go10, (D0 : Int).toNat * 6, none⟩ = some (.bool ((rd_T49 D1 D0).f0.f0)) := hcc10 0 _ rfl; have Dv : w11.cell? ⟨go10, (D0 : Int).toNat * 6 + 1, none⟩ = some (.string ((rd_T49 D1 D0).f0.f1)) := hcc10 1 _ rfl; have Dw : w11.cell? ⟨go10, (D0 : Int).toNat * 6 + 2, none⟩ = some (.int .i64 ((rd_T49 D1 D0).f0.f2)) := hcc10 2 _ rfl; have Dx : w11.cell? ⟨go10, (D0 : Int).toNat * 6 + 3, none⟩ = some (.bool ((rd_T49 D1 D0).f1.f0)) := hcc10 3 _ rfl; have Dy : w11.cell? ⟨go10, (D0 : Int).toNat * 6 + 4, none⟩ = some (.string ((rd_T49 D1 D0).f1.f1)) := hcc10 4 _ rfl; have Dz : w11.cell? ⟨go10, (D0 : Int).toNat * 6 + 5, none⟩ = some (.int .i64 ((rd_T49 D1 D0).f1.f2)) := hcc10 5 _ rfl; have hf10_0 : w11.frozen? ⟨go10, (D0 : Int).toNat * 6, none⟩ = false := hfr10 0; have hf10_1 : w11.frozen? ⟨go10, (D0 : Int).toNat * 6 + 1, none⟩ = false := hfr10 1; have hf10_2 : w11.frozen? ⟨go10, (D0 : Int).toNat * 6 + 2, none⟩ = false := hfr10 2; have hf10_3 : w11.frozen? ⟨go10, (D0 : Int).toNat * 6 + 3, none⟩ = false := hfr10 3; have hf10_4 : w11.frozen? ⟨go10, (D0 : Int).toNat * 6 + 4, none⟩ = false := hfr10 4; have hf10_5 : w11.frozen? ⟨go10, (D0 : Int).toNat * 6 + 5, none⟩ = false := hfr10 5; clear hcl10 hcc10 hfr10 hM10; replace p10 := eq_true p10; replace q10 := eq_true q10; have HX12 := Cmp.A (show Kd.R k49 49 w11 w.heap.size (fun _ => True) (.slice (some ⟨go10, 0, none⟩) D1.length Dp) D1 from (Cmp.rr D2.out)); obtain ⟨ce12, hcl12, hM12, hcc12, hfr12⟩ := Kd.R_elem HX12.out z49 (D0 : Int) (of_decide_eq_true Cmp.d) (by have h_ : (D0 : Int) < ((D1.length : Int) : Int) := of_decide_eq_true Cmp.d; first | exact h_ | (have e_ := (Kd.R_reads' D2.out).1; omega) | simpa using h_); obtain rfl := k49_openM hM12; have HP12 := Kd.R_seg HX12.out (D0 : Int) (of_decide_eq_true Cmp.d) (by have h_ : (D0 : Int) < ((D1.length : Int) : Int) := of_decide_eq_true Cmp.d; first | exact h_ | (have e_ := (Kd.R_reads' D2.out).1; omega) | simpa using h_) (seg := [.bool D9, .string Da, .int .i64 Db, .bool Dc, .string Dd, .int .i64 De]) (j := 0) hcl12 hcc12 (show 6 ≤ 6 from by decide) (x' := (⟨(⟨D9, Da, Db⟩ : S38), (⟨Dc, Dd, De⟩ : S38)⟩ : S49)) (k49_mkM _ _ _ (⟨(⟨D9, Da, Db⟩ : S38), (⟨Dc, Dd, De⟩ : S38)⟩ : S49) ) (fun _ hk => hk); have Dg := hcc12 0 _ rfl; (try simp only [show (k49).sz = 6 from rfl, Nat.mul_one, Nat.add_zero] at Dg); have hf12_0 := hfr12 0; (try simp only [show (k49).sz = 6 from rfl, Nat.mul_one, Nat.add_zero] at hf12_0); have Dh := hcc12 1 _ rfl; (try simp only [show (k49).sz = 6 from rfl, Nat.mul_one, Nat.add_zero] at Dh); have hf12_1 := hfr12 1; (try simp only [show (k49).sz = 6 from rfl, Nat.mul_one, Nat.add_zero] at hf12_1); have Di := hcc12 2 _ rfl; (try simp only [show (k49).sz = 6 from rfl, Nat.mul_one, Nat.add_zero] at Di); have hf12_2 := hfr12 2; (try simp only [show (k49).sz = 6 from rfl, Nat.mul_one, Nat.add_zero] at hf12_2); have Dj := hcc12 3 _ rfl; (try simp only [show (k49).sz = 6 from rfl, Nat.mul_one, Nat.add_zero] at Dj); have hf12_3 := hfr12 3; (try simp only [show (k49).sz = 6 from rfl, Nat.mul_one, Nat.add_zero] at hf12_3); have Dk := hcc12 4 _ rfl; (try simp only [show (k49).sz = 6 from rfl, Nat.mul_one, Nat.add_zero] at Dk); have hf12_4 := hfr12 4; (try simp only [show (k49).sz = 6 from rfl, Nat.mul_one, Nat.add_zero] at hf12_4); have Dl := hcc12 5 _ rfl; (try simp only [show (k49).sz = 6 from rfl, Nat.mul_one, Nat.add_zero] at Dl); have hf12_5 := hfr12 5; (try simp only [show (k49).sz = 6 from rfl, Nat.mul_one, Nat.add_zero] at hf12_5); clear hcl12 hcc12 hfr12 hM12) | ((with_reducible refine gate_store (t := 49) (p := 21) rfl ?_); refine store_event (t := 49) (p := 21) (v := ?vo_w13) (w1 := ((((((w11.setCell ⟨go10, (D0 : Int).toNat * 6, none⟩ (.bool D9)).setCell ⟨go10, (D0 : Int).toNat * 6 + 1, none⟩ (.string Da)).setCell ⟨go10, (D0 : Int).toNat * 6 + 2, none⟩ (.int .i64 Db)).setCell ⟨go10, (D0 : Int).toNat * 6 + 3, none⟩ (.bool Dc)).setCell ⟨go10, (D0 : Int).toNat * 6 + 4, none⟩ (.string Dd)).setCell ⟨go10, (D0 : Int).toNat * 6 + 5, none⟩ (.int .i64 De))) ?hg ?ho ?hn ?hr ?_; (case ho => rfl); (case hg => rfl); (case hn => rfl); (case hr => first | (go_simp; done) | (go_simp; rfl)); intro w13 hw; have hg : w11.grownBy w13 (some go10) := (by rw [hw]; exact HP12.2); have hp_ : Kd.R k49 49 w13 w.heap.size (fun _ => True) (.slice (some ⟨go10, 0, none⟩) D1.length Dp) Dm := (by rw [hw, Do.out]; exact HP12.1); clear HP12; replace D2 := Cmp.A (hp_); replace HB := Cmp.A ((by rw [hw]; exact below_set (below_set (below_set (below_set (below_set (below_set (HB.out) GB10.out) GB10.out) GB10.out) GB10.out) GB10.out) GB10.out : Below w.heap.size w w13)); clear hg hw hp_))
        go_roundg k1
        case measure => have := HK1.out; omega
        case rel => exact ⟨(Dm), (wrap64 (D0 + 1)), (by first | rfl | simp | simp [*]), H', ⟨by have := HK1.out; omega⟩, ⟨Cmp.rr D2.out⟩, ⟨Cmp.g HB.out⟩⟩
       ·rw [if_neg c9] at H; exact absurd H (by simp)
      ·rw [if_neg c7] at H; exact absurd H (by simp)
     ·rw [if_neg c6] at H
      have c6b0 : decide (D0 < (l0.length : Int)) = false := decide_eq_false c6
      clear c6
      obtain rfl := Option.some.inj H
      go_wp2
      go_ret
      exact ⟨_, by first | rfl | (simp [errW_none, errW_some] <;> rfl) | (simp [*, errW_none, errW_some] <;> rfl), by (with_reducible repeat (first | apply Kd.R_alloc | apply Kd.R_drewN | apply Kd.R_drew)); exact D2.out, Cmp.g HB.out⟩
  ·rw [if_neg c3] at H; exact absurd H (by simp)
 ·rw [if_neg c2] at H; exact absurd H (by simp)
/-! ### laws_toBrowser: function 8 -/
def laws_toBrowser.f (k : Nat) (a0_0 : Int) (a0_1 : Int) (a0_2 : Int) (a0_3 : Int) (l0_4 : List (S58)) (a0_5 : Int) : Option (Int × Int × Int × Int × (List (S49)) × Int) := (laws_toKeyStore.f a0_0 a0_1 a0_2 a0_3).bind fun bt138 => ((laws_toTabS.f k l0_4).bind fun t142 => (some (bt138.1, bt138.2.1, bt138.2.2.1, bt138.2.2.2, t142, a0_5)))
theorem laws_toBrowser.mono : ∀ a0 a1 a2 a3 a4 a5 k, LeO (laws_toBrowser.f k a0 a1 a2 a3 a4 a5) (laws_toBrowser.f (k + 1) a0 a1 a2 a3 a4 a5) := by
  intro a0 a1 a2 a3 a4 a5 k
  unfold laws_toBrowser.f
  repeat' first
 | (with_reducible exact laws_toTabS.mono _ _)
 | (with_reducible exact LeO.refl _)
 | (with_reducible exact LeO.none _)
 | (with_reducible refine LeO.ite ?_ ?_)
 | (with_reducible refine LeO.bind ?_ (fun _ => ?_))
set_option maxHeartbeats 8000000 in
set_option maxRecDepth 100000 in
theorem laws_toBrowser.calls (k : Nat) (a0_0 : Int) (a0_1 : Int) (a0_2 : Int) (a0_3 : Int) (A0_4 : Option Addr) (c0_4 : Nat) (l0_4 : List (S58)) (a0_5 : Int) (r1 : Int) (r2 : Int) (r3 : Int) (r4 : Int) (r5 : List (S49)) (r6 : Int) (w : World) (hr0_4 : Kd.C k58 w A0_4 l0_4.length l0_4) (hc0_4 : l0_4.length ≤ c0_4) (h : laws_toBrowser.f k a0_0 a0_1 a0_2 a0_3 l0_4 a0_5 = some (r1, r2, r3, r4, r5, r6)) :
    Calls Tryd.prog 8 #[.agg #[.int .i64 a0_0, .int .i64 a0_1, .int .i64 a0_2, .int .i64 a0_3, .slice A0_4 l0_4.length c0_4, .int .i64 a0_5]] w fun e w' => ∃ v4_ : Value, e = .returned (.agg #[.int .i64 r1, .int .i64 r2, .int .i64 r3, .int .i64 r4, v4_, .int .i64 r6]) ∧ Kd.R k49 49 w' w.heap.size (fun _ => True) v4_ r5 ∧ Below w.heap.size w w' := by
 have hu26 := Tryd.underlying26; have hu34 := Tryd.underlying34; have hu23 := Tryd.underlying23; have hu31 := Tryd.underlying31; have Dj := Cmp.A hr0_4; have HC0_4 := Cmp.A hc0_4; clear hr0_4 hc0_4
 have HB := Cmp.A (Below.refl w.heap.size w)
 have H : ((laws_toKeyStore.f a0_0 a0_1 a0_2 a0_3).bind fun bt138 => ((laws_toTabS.f k l0_4).bind fun Da => (some (bt138.1, bt138.2.1, bt138.2.2.1, bt138.2.2.2, Da, a0_5)))) = some (r1, r2, r3, r4, r5, r6) := h
 clear h; replace H := Option.bind_eq_some_iff.mp H; obtain ⟨⟨Dc, Dd, De, Df⟩, Fm, H⟩ := H; (try dsimp only at H); have A2 := Cmp.A Fm; clear Fm; replace H := Option.bind_eq_some_iff.mp H; obtain ⟨Da, Fn, H⟩ := H; (try dsimp only at H); have A3 := Cmp.A Fn; clear Fn
 simp only [Option.some.injEq, Prod.mk.injEq] at H
 obtain ⟨rfl, rfl, rfl, rfl, rfl, rfl⟩ := H
 go_enter Tryd.func8, Tryd.ntmps8
 go_wp2_with (first | ((with_reducible refine gate_dst (N := 1) rfl ?_); refine box_event ?hg (N := 1) ?hd (cs := #[.int .i64 a0_0, .int .i64 a0_1, .int .i64 a0_2, .int .i64 a0_3, .slice A0_4 l0_4.length c0_4, .int .i64 a0_5]) (t := 26) ?hr ?_; (case hd => rfl); (case hg => rfl); (case hr => first | (go_simp; done) | (go_simp; rfl)); intro Dk hg w4 hbox hb; have D0 := Cmp.A (hbox); have Fr := Cmp.gw hg HB; have Fo := Cmp.gw hg HB; replace HB := Cmp.bs HB hb; clear hb hbox hg) | ((with_reducible refine gate_dst (N := 2) rfl ?_); refine box_event ?hg (N := 2) ?hd (cs := #[.int .i64 0, .int .i64 0, .int .i64 0, .int .i64 0, .slice none 0 0, .int .i64 0]) (t := 34) ?hr ?_; (case hd => rfl); (case hg => rfl); (case hr => first | (go_simp; done) | (go_simp; rfl)); intro D3 hg w5 hbox hb; have D2 := Cmp.A (hbox); have Fs := Cmp.gw hg HB; have Fp := Cmp.gw hg HB; have D4 := Cmp.nl hg D0; have D6 := Cmp.ng hg D0; replace D0 := Cmp.be D0 hb; replace HB := Cmp.bs HB hb; clear hb hbox hg) | ((with_reducible refine gate_dst (N := 3) rfl ?_); refine box_event ?hg (N := 3) ?hd (cs := #[.int .i64 0, .int .i64 0, .int .i64 0, .int .i64 0, .slice none 0 0, .int .i64 0]) (t := 34) ?hr ?_; (case hd => rfl); (case hg => rfl); (case hr => first | (go_simp; done) | (go_simp; rfl)); intro Db hg w6 hbox hb; have D1 := Cmp.A (hbox); have Ft := Cmp.gw hg HB; have Fq := Cmp.gw hg HB; have D5 := Cmp.nl hg D0; have D8 := Cmp.ng hg D0; have D7 := Cmp.nl hg D2; have D9 := Cmp.ng hg D2; replace D0 := Cmp.be D0 hb; replace D2 := Cmp.be D2 hb; replace HB := Cmp.bs HB hb; clear hb hbox hg; have Fx := D4.out; have Fz := D6.out; have Fy := D5.out; have G0 := D8.out; obtain ⟨Fa, Fb, Fc, Fd, Fe, Ff⟩ := Cmp.q6 D0; obtain ⟨Fg, Fh, Fi, Fj, Fk, Fl⟩ := Cmp.f6 D0) | ((with_reducible refine gate_callee (f := 19) rfl ?_); refine goesL_ (some 6) rfl rfl Tryd.func19 (by kernel_rfl) rfl #[.agg #[.int .i64 a0_0, .int .i64 a0_1, .int .i64 a0_2, .int .i64 a0_3]] rfl Cmp.q ?_; (with_reducible refine (laws_toKeyStore.calls a0_0 a0_1 a0_2 a0_3 Dc Dd De Df _ A2.out).mono ?_); rintro e w10 ⟨rfl, hb⟩; refine ⟨_, rfl, ?_⟩; replace D0 := Cmp.be D0 hb; replace D2 := Cmp.be D2 hb; replace D1 := Cmp.be D1 hb; replace HB := Cmp.bs HB hb; (try clear hb); (try clear hb2); (try clear hk); (try clear hi); have Fu := D9.out; have Fv := D7.out; obtain ⟨Dl, Dm, Dn, Do, Dp, Dq⟩ := Cmp.q6 D1; obtain ⟨Ef, Eg, Eh, Ei, Ej, Ek⟩ := Cmp.f6 D1; obtain ⟨Dr, Ds, Dt, Du, Dv, Dw⟩ := Cmp.q6 D0; obtain ⟨El, Em, En, Eo, Ep, Eq⟩ := Cmp.f6 D0) | ((with_reducible refine gate_callee (f := 20) rfl ?_); refine goesL_ (some 10) rfl rfl Tryd.func20 (by kernel_rfl) rfl #[.slice A0_4 l0_4.length c0_4] rfl Cmp.q ?_; (with_reducible refine (laws_toTabS.calls k _ _ l0_4 Da _ ?side1 ?side2 A3.out).mono ?_); (case side1 => exact Kd.C_below Dj.out (Cmp.g HB.out)); (case side2 => exact HC0_4.out); rintro e w14 ⟨v143, rfl, Fw, hb⟩; refine ⟨_, rfl, ?_⟩; have Dg := Cmp.A (Kd.R_lower Fw (below_size (Cmp.g HB.out))); replace D0 := Cmp.A (blk_below (g := Dk) (o := .cells #[.int .i64 a0_0, .int .i64 a0_1, .int .i64 a0_2, .int .i64 a0_3, .slice A0_4 l0_4.length c0_4, .int .i64 a0_5] 26 (0, 0)) (Cmp.bw D0.out) hb); replace D2 := Cmp.A (blk_below (g := D3) (o := .cells #[.int .i64 0, .int .i64 0, .int .i64 0, .int .i64 0, .slice none 0 0, .int .i64 0] 34 (0, 0)) (Cmp.bw D2.out) hb); replace D1 := Cmp.A (blk_below (g := Db) (o := .cells #[.int .i64 Dc, .int .i64 Dd, .int .i64 De, .int .i64 Df, .slice none 0 0, .int .i64 0] 34 (0, 0)) (Cmp.bw D1.out) hb); replace HB := Cmp.bs HB hb; (try clear hb); (try clear hb2); (try clear hk); (try clear hi); (try clear Fw); obtain ⟨Dh, Di, F9⟩ := Kd.R_slice Dg.out; subst F9; obtain ⟨Dx, Dy, Dz, E0, E1, E2⟩ := Cmp.q6 D1; obtain ⟨Er, Es, Et, Eu, Ev, Ew⟩ := Cmp.f6 D1; obtain ⟨E3, E4, E5, E6, E7, E8⟩ := Cmp.q6 D0; obtain ⟨Ex, Ey, Ez, F0, F1, F2⟩ := Cmp.f6 D0; obtain ⟨E9, Ea, Eb, Ec, Ed, Ee⟩ := Cmp.q6 D2; obtain ⟨F3, F4, F5, F6, F7, F8⟩ := Cmp.f6 D2))
 refine bodyPost_ret (results_cell_row rfl _ _ D3 34 #[.int .i64 Dc, .int .i64 Dd, .int .i64 De, .int .i64 Df, .slice Dh Da.length Di, .int .i64 a0_5] (0, 0) _ rfl (Cmp.bw D2.out) Tryd.underlying34 rfl (by kernel_rfl)) rfl ?_
 exact ⟨_, by first | rfl | (simp [errW_none, errW_some] <;> rfl) | (simp [*, errW_none, errW_some] <;> rfl), by (with_reducible repeat (first | apply Kd.R_alloc | apply Kd.R_drewN | apply Kd.R_drew)); exact Kd.R_mono (Kd.R_far (p := ⟨D3, 5, none⟩) (Kd.R_far (p := ⟨D3, 4, none⟩) (Kd.R_far (p := ⟨D3, 3, none⟩) (Kd.R_far (p := ⟨D3, 2, none⟩) (Kd.R_far (p := ⟨D3, 1, none⟩) (Kd.R_far (p := ⟨D3, 0, none⟩) (Kd.R_far (p := ⟨Db, 5, none⟩) (Kd.R_far (p := ⟨Db, 4, none⟩) (Kd.R_types (Kd.R_types Dg.out D1.out (by decide)) D2.out (by decide)) (fun _ hk => hk.1.2) (.slice Dh Da.length Di)) (fun _ hk => hk.1.2) (.int .i64 a0_5)) (fun _ hk => hk.2) (.int .i64 Dc)) (fun _ hk => hk.2) (.int .i64 Dd)) (fun _ hk => hk.2) (.int .i64 De)) (fun _ hk => hk.2) (.int .i64 Df)) (fun _ hk => hk.2) (.slice Dh Da.length Di)) (fun _ hk => hk.2) (.int .i64 a0_5)) (fun _ hk => trivial), Cmp.g HB.out⟩
/-! ### laws_eqKeyStore: function 23 -/
def laws_eqKeyStore.f (a0_0 : Int) (a0_1 : Int) (a0_2 : Int) (a0_3 : Int) (a1_0 : Int) (a1_1 : Int) (a1_2 : Int) (a1_3 : Int) : Option (Bool) := if a0_0 = a1_0 then (if a0_1 = a1_1 then (if a0_2 = a1_2 then (if a0_3 = a1_3 then (some true) else (some false)) else (some false)) else (some false)) else (some false)
set_option maxHeartbeats 8000000 in
set_option maxRecDepth 100000 in
theorem laws_eqKeyStore.calls (a0_0 : Int) (a0_1 : Int) (a0_2 : Int) (a0_3 : Int) (a1_0 : Int) (a1_1 : Int) (a1_2 : Int) (a1_3 : Int) (r : Bool) (w : World) (h : laws_eqKeyStore.f a0_0 a0_1 a0_2 a0_3 a1_0 a1_1 a1_2 a1_3 = some r) :
    Calls Tryd.prog 23 #[.agg #[.int .i64 a0_0, .int .i64 a0_1, .int .i64 a0_2, .int .i64 a0_3], .agg #[.int .i64 a1_0, .int .i64 a1_1, .int .i64 a1_2, .int .i64 a1_3]] w fun e w' => e = .returned (.bool r) ∧ Below w.heap.size w w' := by
 have hu31 := Tryd.underlying31
 have HB := Cmp.A (Below.refl w.heap.size w)
 have H : (if a0_0 = a1_0 then (if a0_1 = a1_1 then (if a0_2 = a1_2 then (if a0_3 = a1_3 then (some true) else (some false)) else (some false)) else (some false)) else (some false)) = some r := h
 clear h
 by_cases c3 : a0_0 = a1_0
 ·rw [if_pos c3] at H; have c3b0 : (a0_0 == a1_0) = true := beq_iff_eq.mpr c3; have c3b1 : (a0_0 != a1_0) = false := bne_eq_false_iff_eq.mpr c3; clear c3
  by_cases c4 : a0_1 = a1_1
  ·rw [if_pos c4] at H; have c4b0 : (a0_1 == a1_1) = true := beq_iff_eq.mpr c4; have c4b1 : (a0_1 != a1_1) = false := bne_eq_false_iff_eq.mpr c4; clear c4
   by_cases c5 : a0_2 = a1_2
   ·rw [if_pos c5] at H; have c5b0 : (a0_2 == a1_2) = true := beq_iff_eq.mpr c5; have c5b1 : (a0_2 != a1_2) = false := bne_eq_false_iff_eq.mpr c5; clear c5
    by_cases c6 : a0_3 = a1_3
    ·rw [if_pos c6] at H; have c6b0 : (a0_3 == a1_3) = true := beq_iff_eq.mpr c6; have c6b1 : (a0_3 != a1_3) = false := bne_eq_false_iff_eq.mpr c6; clear c6
     obtain rfl := Option.some.inj H
     go_enter Tryd.func23, Tryd.ntmps23
     go_wp2_with (first | ((with_reducible refine gate_dst (N := 2) rfl ?_); refine box_event ?hg (N := 2) ?hd (cs := #[.int .i64 a0_0, .int .i64 a0_1, .int .i64 a0_2, .int .i64 a0_3]) (t := 31) ?hr ?_; (case hd => rfl); (case hg => rfl); (case hr => first | (go_simp; done) | (go_simp; rfl)); intro D8 hg w7 hbox hb; have D0 := Cmp.A (hbox); have D6 := Cmp.gw hg HB; have D4 := Cmp.gw hg HB; replace HB := Cmp.bs HB hb; clear hb hbox hg) | ((with_reducible refine gate_dst (N := 3) rfl ?_); refine box_event ?hg (N := 3) ?hd (cs := #[.int .i64 a1_0, .int .i64 a1_1, .int .i64 a1_2, .int .i64 a1_3]) (t := 31) ?hr ?_; (case hd => rfl); (case hg => rfl); (case hr => first | (go_simp; done) | (go_simp; rfl)); intro D9 hg w8 hbox hb; have D1 := Cmp.A (hbox); have D7 := Cmp.gw hg HB; have D5 := Cmp.gw hg HB; have D2 := Cmp.nl hg D0; have D3 := Cmp.ng hg D0; replace D0 := Cmp.be D0 hb; replace HB := Cmp.bs HB hb; clear hb hbox hg; have Fq := D2.out; have Fr := D3.out; obtain ⟨Da, Db, Dc, Dd⟩ := Cmp.q4 D0; obtain ⟨Ee, Ef, Eg, Eh⟩ := Cmp.f4 D0; obtain ⟨De, Df, Dg, Dh⟩ := Cmp.q4 D1; obtain ⟨Ei, Ej, Ek, El⟩ := Cmp.f4 D1))
     go_ret
     exact ⟨by first | rfl | (simp [errW_none, errW_some] <;> rfl) | (simp [*, errW_none, errW_some] <;> rfl), Cmp.g HB.out⟩
    ·rw [if_neg c6] at H; have c6b0 : (a0_3 == a1_3) = false := beq_eq_false_iff_ne.mpr c6; have c6b1 : (a0_3 != a1_3) = true := bne_iff_ne.mpr c6
     obtain rfl := Option.some.inj H
     go_enter Tryd.func23, Tryd.ntmps23
     go_wp2_with (first | ((with_reducible refine gate_dst (N := 2) rfl ?_); refine box_event ?hg (N := 2) ?hd (cs := #[.int .i64 a0_0, .int .i64 a0_1, .int .i64 a0_2, .int .i64 a0_3]) (t := 31) ?hr ?_; (case hd => rfl); (case hg => rfl); (case hr => first | (go_simp; done) | (go_simp; rfl)); intro D8 hg w12 hbox hb; have D0 := Cmp.A (hbox); have D6 := Cmp.gw hg HB; have D4 := Cmp.gw hg HB; replace HB := Cmp.bs HB hb; clear hb hbox hg) | ((with_reducible refine gate_dst (N := 3) rfl ?_); refine box_event ?hg (N := 3) ?hd (cs := #[.int .i64 a1_0, .int .i64 a1_1, .int .i64 a1_2, .int .i64 a1_3]) (t := 31) ?hr ?_; (case hd => rfl); (case hg => rfl); (case hr => first | (go_simp; done) | (go_simp; rfl)); intro D9 hg w13 hbox hb; have D1 := Cmp.A (hbox); have D7 := Cmp.gw hg HB; have D5 := Cmp.gw hg HB; have D2 := Cmp.nl hg D0; have D3 := Cmp.ng hg D0; replace D0 := Cmp.be D0 hb; replace HB := Cmp.bs HB hb; clear hb hbox hg; have Fi := D2.out; have Fm := D3.out; obtain ⟨Di, Dj, Dk, Dl⟩ := Cmp.q4 D0; obtain ⟨Em, En, Eo, Ep⟩ := Cmp.f4 D0; obtain ⟨Dm, Dn, Do, Dp⟩ := Cmp.q4 D1; obtain ⟨Eq, Er, Es, Et⟩ := Cmp.f4 D1))
     go_ret
     exact ⟨by first | rfl | (simp [errW_none, errW_some] <;> rfl) | (simp [*, errW_none, errW_some] <;> rfl), Cmp.g HB.out⟩
   ·rw [if_neg c5] at H; have c5b0 : (a0_2 == a1_2) = false := beq_eq_false_iff_ne.mpr c5; have c5b1 : (a0_2 != a1_2) = true := bne_iff_ne.mpr c5
    obtain rfl := Option.some.inj H
    go_enter Tryd.func23, Tryd.ntmps23
    go_wp2_with (first | ((with_reducible refine gate_dst (N := 2) rfl ?_); refine box_event ?hg (N := 2) ?hd (cs := #[.int .i64 a0_0, .int .i64 a0_1, .int .i64 a0_2, .int .i64 a0_3]) (t := 31) ?hr ?_; (case hd => rfl); (case hg => rfl); (case hr => first | (go_simp; done) | (go_simp; rfl)); intro D8 hg w17 hbox hb; have D0 := Cmp.A (hbox); have D6 := Cmp.gw hg HB; have D4 := Cmp.gw hg HB; replace HB := Cmp.bs HB hb; clear hb hbox hg) | ((with_reducible refine gate_dst (N := 3) rfl ?_); refine box_event ?hg (N := 3) ?hd (cs := #[.int .i64 a1_0, .int .i64 a1_1, .int .i64 a1_2, .int .i64 a1_3]) (t := 31) ?hr ?_; (case hd => rfl); (case hg => rfl); (case hr => first | (go_simp; done) | (go_simp; rfl)); intro D9 hg w18 hbox hb; have D1 := Cmp.A (hbox); have D7 := Cmp.gw hg HB; have D5 := Cmp.gw hg HB; have D2 := Cmp.nl hg D0; have D3 := Cmp.ng hg D0; replace D0 := Cmp.be D0 hb; replace HB := Cmp.bs HB hb; clear hb hbox hg; have Fj := D2.out; have Fn := D3.out; obtain ⟨Dq, Dr, Ds, Dt⟩ := Cmp.q4 D0; obtain ⟨Eu, Ev, Ew, Ex⟩ := Cmp.f4 D0; obtain ⟨Du, Dv, Dw, Dx⟩ := Cmp.q4 D1; obtain ⟨Ey, Ez, F0, F1⟩ := Cmp.f4 D1))
    go_ret
    exact ⟨by first | rfl | (simp [errW_none, errW_some] <;> rfl) | (simp [*, errW_none, errW_some] <;> rfl), Cmp.g HB.out⟩
  ·rw [if_neg c4] at H; have c4b0 : (a0_1 == a1_1) = false := beq_eq_false_iff_ne.mpr c4; have c4b1 : (a0_1 != a1_1) = true := bne_iff_ne.mpr c4
   obtain rfl := Option.some.inj H
   go_enter Tryd.func23, Tryd.ntmps23
   go_wp2_with (first | ((with_reducible refine gate_dst (N := 2) rfl ?_); refine box_event ?hg (N := 2) ?hd (cs := #[.int .i64 a0_0, .int .i64 a0_1, .int .i64 a0_2, .int .i64 a0_3]) (t := 31) ?hr ?_; (case hd => rfl); (case hg => rfl); (case hr => first | (go_simp; done) | (go_simp; rfl)); intro D8 hg w22 hbox hb; have D0 := Cmp.A (hbox); have D6 := Cmp.gw hg HB; have D4 := Cmp.gw hg HB; replace HB := Cmp.bs HB hb; clear hb hbox hg) | ((with_reducible refine gate_dst (N := 3) rfl ?_); refine box_event ?hg (N := 3) ?hd (cs := #[.int .i64 a1_0, .int .i64 a1_1, .int .i64 a1_2, .int .i64 a1_3]) (t := 31) ?hr ?_; (case hd => rfl); (case hg => rfl); (case hr => first | (go_simp; done) | (go_simp; rfl)); intro D9 hg w23 hbox hb; have D1 := Cmp.A (hbox); have D7 := Cmp.gw hg HB; have D5 := Cmp.gw hg HB; have D2 := Cmp.nl hg D0; have D3 := Cmp.ng hg D0; replace D0 := Cmp.be D0 hb; replace HB := Cmp.bs HB hb; clear hb hbox hg; have Fk := D2.out; have Fo := D3.out; obtain ⟨Dy, Dz, E0, E1⟩ := Cmp.q4 D0; obtain ⟨F2, F3, F4, F5⟩ := Cmp.f4 D0; obtain ⟨E2, E3, E4, E5⟩ := Cmp.q4 D1; obtain ⟨F6, F7, F8, F9⟩ := Cmp.f4 D1))
   go_ret
   exact ⟨by first | rfl | (simp [errW_none, errW_some] <;> rfl) | (simp [*, errW_none, errW_some] <;> rfl), Cmp.g HB.out⟩
 ·rw [if_neg c3] at H; have c3b0 : (a0_0 == a1_0) = false := beq_eq_false_iff_ne.mpr c3; have c3b1 : (a0_0 != a1_0) = true := bne_iff_ne.mpr c3
  obtain rfl := Option.some.inj H
  go_enter Tryd.func23, Tryd.ntmps23
  go_wp2_with (first | ((with_reducible refine gate_dst (N := 2) rfl ?_); refine box_event ?hg (N := 2) ?hd (cs := #[.int .i64 a0_0, .int .i64 a0_1, .int .i64 a0_2, .int .i64 a0_3]) (t := 31) ?hr ?_; (case hd => rfl); (case hg => rfl); (case hr => first | (go_simp; done) | (go_simp; rfl)); intro D8 hg w27 hbox hb; have D0 := Cmp.A (hbox); have D6 := Cmp.gw hg HB; have D4 := Cmp.gw hg HB; replace HB := Cmp.bs HB hb; clear hb hbox hg) | ((with_reducible refine gate_dst (N := 3) rfl ?_); refine box_event ?hg (N := 3) ?hd (cs := #[.int .i64 a1_0, .int .i64 a1_1, .int .i64 a1_2, .int .i64 a1_3]) (t := 31) ?hr ?_; (case hd => rfl); (case hg => rfl); (case hr => first | (go_simp; done) | (go_simp; rfl)); intro D9 hg w28 hbox hb; have D1 := Cmp.A (hbox); have D7 := Cmp.gw hg HB; have D5 := Cmp.gw hg HB; have D2 := Cmp.nl hg D0; have D3 := Cmp.ng hg D0; replace D0 := Cmp.be D0 hb; replace HB := Cmp.bs HB hb; clear hb hbox hg; have Fl := D2.out; have Fp := D3.out; obtain ⟨E6, E7, E8, E9⟩ := Cmp.q4 D0; obtain ⟨Fa, Fb, Fc, Fd⟩ := Cmp.f4 D0; obtain ⟨Ea, Eb, Ec, Ed⟩ := Cmp.q4 D1; obtain ⟨Fe, Ff, Fg, Fh⟩ := Cmp.f4 D1))
  go_ret
  exact ⟨by first | rfl | (simp [errW_none, errW_some] <;> rfl) | (simp [*, errW_none, errW_some] <;> rfl), Cmp.g HB.out⟩
/-! ### laws_eqOrigin: function 38 -/
def laws_eqOrigin.f (a0_0 : Bool) (a0_1 : ByteArray) (a0_2 : Int) (a1_0 : Bool) (a1_1 : ByteArray) (a1_2 : Int) : Option (Bool) := if (a0_0 != a1_0) = true then (some false) else (if a0_1.toList = a1_1.toList then (if a0_2 = a1_2 then (some true) else (some false)) else (some false))
set_option maxHeartbeats 8000000 in
set_option maxRecDepth 100000 in
theorem laws_eqOrigin.calls (a0_0 : Bool) (a0_1 : ByteArray) (a0_2 : Int) (a1_0 : Bool) (a1_1 : ByteArray) (a1_2 : Int) (r : Bool) (w : World) (h : laws_eqOrigin.f a0_0 a0_1 a0_2 a1_0 a1_1 a1_2 = some r) :
    Calls Tryd.prog 38 #[.agg #[.bool a0_0, .string a0_1, .int .i64 a0_2], .agg #[.bool a1_0, .string a1_1, .int .i64 a1_2]] w fun e w' => e = .returned (.bool r) ∧ Below w.heap.size w w' := by
 have hu38 := Tryd.underlying38
 have HB := Cmp.A (Below.refl w.heap.size w)
 have H : (if (a0_0 != a1_0) = true then (some false) else (if a0_1.toList = a1_1.toList then (if a0_2 = a1_2 then (some true) else (some false)) else (some false))) = some r := h
 clear h
 by_cases c3 : (a0_0 != a1_0) = true
 ·rw [if_pos c3] at H
  have c3b0 : (a0_0 != a1_0) = true := c3
  (try (have c3b1 : decide (a0_0 = a1_0) = false := by simpa using c3))
  (try (have c3b2 : (a0_0 == a1_0) = false := by simpa using c3))
  (try (have c3b3 : ¬ (a0_0 = a1_0) := by simpa using c3))
  clear c3
  obtain rfl := Option.some.inj H
  go_enter Tryd.func38, Tryd.ntmps38
  go_wp2_with (first | ((with_reducible refine gate_dst (N := 2) rfl ?_); refine box_event ?hg (N := 2) ?hd (cs := #[.bool a0_0, .string a0_1, .int .i64 a0_2]) (t := 38) ?hr ?_; (case hd => rfl); (case hg => rfl); (case hr => first | (go_simp; done) | (go_simp; rfl)); intro D8 hg w4 hbox hb; have D0 := Cmp.A (hbox); have D6 := Cmp.gw hg HB; have D4 := Cmp.gw hg HB; replace HB := Cmp.bs HB hb; clear hb hbox hg) | ((with_reducible refine gate_dst (N := 3) rfl ?_); refine box_event ?hg (N := 3) ?hd (cs := #[.bool a1_0, .string a1_1, .int .i64 a1_2]) (t := 38) ?hr ?_; (case hd => rfl); (case hg => rfl); (case hr => first | (go_simp; done) | (go_simp; rfl)); intro D9 hg w5 hbox hb; have D1 := Cmp.A (hbox); have D7 := Cmp.gw hg HB; have D5 := Cmp.gw hg HB; have D2 := Cmp.nl hg D0; have D3 := Cmp.ng hg D0; replace D0 := Cmp.be D0 hb; replace HB := Cmp.bs HB hb; clear hb hbox hg; have Es := D2.out; have Et := D3.out; obtain ⟨Ea, Eb, Ec⟩ := Cmp.q3 D0; obtain ⟨Eg, Eh, Ei⟩ := Cmp.f3 D0; obtain ⟨Ed, Ee, Ef⟩ := Cmp.q3 D1; obtain ⟨Ej, Ek, El⟩ := Cmp.f3 D1))
  go_ret
  exact ⟨by first | rfl | (simp [errW_none, errW_some] <;> rfl) | (simp [*, errW_none, errW_some] <;> rfl), Cmp.g HB.out⟩
 ·rw [if_neg c3] at H
  have c3b0 : (a0_0 != a1_0) = false := by simpa using c3
  (try (have c3b1 : decide (a0_0 = a1_0) = true := by simpa using c3))
  (try (have c3b2 : (a0_0 == a1_0) = true := by simpa using c3))
  clear c3
  by_cases c9 : a0_1.toList = a1_1.toList
  ·rw [if_pos c9] at H; have c9b0 : (a0_1.toList == a1_1.toList) = true := beq_iff_eq.mpr c9; have c9b1 : (a0_1.toList != a1_1.toList) = false := bne_eq_false_iff_eq.mpr c9; clear c9
   by_cases c10 : a0_2 = a1_2
   ·rw [if_pos c10] at H; have c10b0 : (a0_2 == a1_2) = true := beq_iff_eq.mpr c10; have c10b1 : (a0_2 != a1_2) = false := bne_eq_false_iff_eq.mpr c10; clear c10
    obtain rfl := Option.some.inj H
    go_enter Tryd.func38, Tryd.ntmps38
    go_wp2_with (first | ((with_reducible refine gate_dst (N := 2) rfl ?_); refine box_event ?hg (N := 2) ?hd (cs := #[.bool a0_0, .string a0_1, .int .i64 a0_2]) (t := 38) ?hr ?_; (case hd => rfl); (case hg => rfl); (case hr => first | (go_simp; done) | (go_simp; rfl)); intro D8 hg w11 hbox hb; have D0 := Cmp.A (hbox); have D6 := Cmp.gw hg HB; have D4 := Cmp.gw hg HB; replace HB := Cmp.bs HB hb; clear hb hbox hg) | ((with_reducible refine gate_dst (N := 3) rfl ?_); refine box_event ?hg (N := 3) ?hd (cs := #[.bool a1_0, .string a1_1, .int .i64 a1_2]) (t := 38) ?hr ?_; (case hd => rfl); (case hg => rfl); (case hr => first | (go_simp; done) | (go_simp; rfl)); intro D9 hg w12 hbox hb; have D1 := Cmp.A (hbox); have D7 := Cmp.gw hg HB; have D5 := Cmp.gw hg HB; have D2 := Cmp.nl hg D0; have D3 := Cmp.ng hg D0; replace D0 := Cmp.be D0 hb; replace HB := Cmp.bs HB hb; clear hb hbox hg; have Em := D2.out; have Ep := D3.out; obtain ⟨Da, Db, Dc⟩ := Cmp.q3 D0; obtain ⟨Ds, Dt, Du⟩ := Cmp.f3 D0; obtain ⟨Dd, De, Df⟩ := Cmp.q3 D1; obtain ⟨Dv, Dw, Dx⟩ := Cmp.f3 D1))
    go_ret
    exact ⟨by first | rfl | (simp [errW_none, errW_some] <;> rfl) | (simp [*, errW_none, errW_some] <;> rfl), Cmp.g HB.out⟩
   ·rw [if_neg c10] at H; have c10b0 : (a0_2 == a1_2) = false := beq_eq_false_iff_ne.mpr c10; have c10b1 : (a0_2 != a1_2) = true := bne_iff_ne.mpr c10
    obtain rfl := Option.some.inj H
    go_enter Tryd.func38, Tryd.ntmps38
    go_wp2_with (first | ((with_reducible refine gate_dst (N := 2) rfl ?_); refine box_event ?hg (N := 2) ?hd (cs := #[.bool a0_0, .string a0_1, .int .i64 a0_2]) (t := 38) ?hr ?_; (case hd => rfl); (case hg => rfl); (case hr => first | (go_simp; done) | (go_simp; rfl)); intro D8 hg w16 hbox hb; have D0 := Cmp.A (hbox); have D6 := Cmp.gw hg HB; have D4 := Cmp.gw hg HB; replace HB := Cmp.bs HB hb; clear hb hbox hg) | ((with_reducible refine gate_dst (N := 3) rfl ?_); refine box_event ?hg (N := 3) ?hd (cs := #[.bool a1_0, .string a1_1, .int .i64 a1_2]) (t := 38) ?hr ?_; (case hd => rfl); (case hg => rfl); (case hr => first | (go_simp; done) | (go_simp; rfl)); intro D9 hg w17 hbox hb; have D1 := Cmp.A (hbox); have D7 := Cmp.gw hg HB; have D5 := Cmp.gw hg HB; have D2 := Cmp.nl hg D0; have D3 := Cmp.ng hg D0; replace D0 := Cmp.be D0 hb; replace HB := Cmp.bs HB hb; clear hb hbox hg; have En := D2.out; have Eq := D3.out; obtain ⟨Dg, Dh, Di⟩ := Cmp.q3 D0; obtain ⟨Dy, Dz, E0⟩ := Cmp.f3 D0; obtain ⟨Dj, Dk, Dl⟩ := Cmp.q3 D1; obtain ⟨E1, E2, E3⟩ := Cmp.f3 D1))
    go_ret
    exact ⟨by first | rfl | (simp [errW_none, errW_some] <;> rfl) | (simp [*, errW_none, errW_some] <;> rfl), Cmp.g HB.out⟩
  ·rw [if_neg c9] at H; have c9b0 : (a0_1.toList == a1_1.toList) = false := beq_eq_false_iff_ne.mpr c9; have c9b1 : (a0_1.toList != a1_1.toList) = true := bne_iff_ne.mpr c9
   obtain rfl := Option.some.inj H
   go_enter Tryd.func38, Tryd.ntmps38
   go_wp2_with (first | ((with_reducible refine gate_dst (N := 2) rfl ?_); refine box_event ?hg (N := 2) ?hd (cs := #[.bool a0_0, .string a0_1, .int .i64 a0_2]) (t := 38) ?hr ?_; (case hd => rfl); (case hg => rfl); (case hr => first | (go_simp; done) | (go_simp; rfl)); intro D8 hg w21 hbox hb; have D0 := Cmp.A (hbox); have D6 := Cmp.gw hg HB; have D4 := Cmp.gw hg HB; replace HB := Cmp.bs HB hb; clear hb hbox hg) | ((with_reducible refine gate_dst (N := 3) rfl ?_); refine box_event ?hg (N := 3) ?hd (cs := #[.bool a1_0, .string a1_1, .int .i64 a1_2]) (t := 38) ?hr ?_; (case hd => rfl); (case hg => rfl); (case hr => first | (go_simp; done) | (go_simp; rfl)); intro D9 hg w22 hbox hb; have D1 := Cmp.A (hbox); have D7 := Cmp.gw hg HB; have D5 := Cmp.gw hg HB; have D2 := Cmp.nl hg D0; have D3 := Cmp.ng hg D0; replace D0 := Cmp.be D0 hb; replace HB := Cmp.bs HB hb; clear hb hbox hg; have Eo := D2.out; have Er := D3.out; obtain ⟨Dm, Dn, Do⟩ := Cmp.q3 D0; obtain ⟨E4, E5, E6⟩ := Cmp.f3 D0; obtain ⟨Dp, Dq, Dr⟩ := Cmp.q3 D1; obtain ⟨E7, E8, E9⟩ := Cmp.f3 D1))
   go_ret
   exact ⟨by first | rfl | (simp [errW_none, errW_some] <;> rfl) | (simp [*, errW_none, errW_some] <;> rfl), Cmp.g HB.out⟩
/-! ### laws_eqTab: function 33 -/
def laws_eqTab.f (a0_0 : Bool) (a0_1 : ByteArray) (a0_2 : Int) (a0_3 : Bool) (a0_4 : ByteArray) (a0_5 : Int) (a1_0 : Bool) (a1_1 : ByteArray) (a1_2 : Int) (a1_3 : Bool) (a1_4 : ByteArray) (a1_5 : Int) : Option (Bool) := (laws_eqOrigin.f a0_0 a0_1 a0_2 a1_0 a1_1 a1_2).bind fun t151 => (if t151 = true then ((laws_eqOrigin.f a0_3 a0_4 a0_5 a1_3 a1_4 a1_5).bind fun t152 => (if t152 = true then (some true) else (some false))) else (some false))
set_option maxHeartbeats 8000000 in
set_option maxRecDepth 100000 in
theorem laws_eqTab.calls (a0_0 : Bool) (a0_1 : ByteArray) (a0_2 : Int) (a0_3 : Bool) (a0_4 : ByteArray) (a0_5 : Int) (a1_0 : Bool) (a1_1 : ByteArray) (a1_2 : Int) (a1_3 : Bool) (a1_4 : ByteArray) (a1_5 : Int) (r : Bool) (w : World) (h : laws_eqTab.f a0_0 a0_1 a0_2 a0_3 a0_4 a0_5 a1_0 a1_1 a1_2 a1_3 a1_4 a1_5 = some r) :
    Calls Tryd.prog 33 #[.agg #[.bool a0_0, .string a0_1, .int .i64 a0_2, .bool a0_3, .string a0_4, .int .i64 a0_5], .agg #[.bool a1_0, .string a1_1, .int .i64 a1_2, .bool a1_3, .string a1_4, .int .i64 a1_5]] w fun e w' => e = .returned (.bool r) ∧ Below w.heap.size w w' := by
 have hu49 := Tryd.underlying49; have hu38 := Tryd.underlying38
 have HB := Cmp.A (Below.refl w.heap.size w)
 have H : ((laws_eqOrigin.f a0_0 a0_1 a0_2 a1_0 a1_1 a1_2).bind fun Da => (if Da = true then ((laws_eqOrigin.f a0_3 a0_4 a0_5 a1_3 a1_4 a1_5).bind fun Db => (if Db = true then (some true) else (some false))) else (some false))) = some r := h
 clear h; replace H := Option.bind_eq_some_iff.mp H; obtain ⟨Da, Go, H⟩ := H; (try dsimp only at H); have A3 := Cmp.A Go; clear Go
 by_cases c4 : Da = true
 ·subst c4; rw [if_pos rfl] at H; replace H := Option.bind_eq_some_iff.mp H; obtain ⟨Db, Gp, H⟩ := H; (try dsimp only at H); have A5 := Cmp.A Gp; clear Gp
  by_cases c6 : Db = true
  ·subst c6; rw [if_pos rfl] at H
   obtain rfl := Option.some.inj H
   go_enter Tryd.func33, Tryd.ntmps33
   go_wp2_with (first | ((with_reducible refine gate_dst (N := 2) rfl ?_); refine box_event ?hg (N := 2) ?hd (cs := #[.bool a0_0, .string a0_1, .int .i64 a0_2, .bool a0_3, .string a0_4, .int .i64 a0_5]) (t := 49) ?hr ?_; (case hd => rfl); (case hg => rfl); (case hr => first | (go_simp; done) | (go_simp; rfl)); intro D8 hg w7 hbox hb; have D0 := Cmp.A (hbox); have D6 := Cmp.gw hg HB; have D4 := Cmp.gw hg HB; replace HB := Cmp.bs HB hb; clear hb hbox hg) | ((with_reducible refine gate_dst (N := 3) rfl ?_); refine box_event ?hg (N := 3) ?hd (cs := #[.bool a1_0, .string a1_1, .int .i64 a1_2, .bool a1_3, .string a1_4, .int .i64 a1_5]) (t := 49) ?hr ?_; (case hd => rfl); (case hg => rfl); (case hr => first | (go_simp; done) | (go_simp; rfl)); intro D9 hg w8 hbox hb; have D1 := Cmp.A (hbox); have D7 := Cmp.gw hg HB; have D5 := Cmp.gw hg HB; have D2 := Cmp.nl hg D0; have D3 := Cmp.ng hg D0; replace D0 := Cmp.be D0 hb; replace HB := Cmp.bs HB hb; clear hb hbox hg; have Gu := D2.out; have Gv := D3.out; obtain ⟨Dc, Dd, De, Df, Dg, Dh⟩ := Cmp.q6 D0; obtain ⟨F0, F1, F2, F3, F4, F5⟩ := Cmp.f6 D0; obtain ⟨Di, Dj, Dk, Dl, Dm, Dn⟩ := Cmp.q6 D1; obtain ⟨F6, F7, F8, F9, Fa, Fb⟩ := Cmp.f6 D1) | ((with_reducible refine gate_callee (f := 38) rfl ?_); refine goesL_ (some 9) rfl rfl Tryd.func38 (by kernel_rfl) rfl #[.agg #[.bool a0_0, .string a0_1, .int .i64 a0_2], .agg #[.bool a1_0, .string a1_1, .int .i64 a1_2]] rfl Cmp.q ?_; (with_reducible refine (laws_eqOrigin.calls a0_0 a0_1 a0_2 a1_0 a1_1 a1_2 true _ A3.out).mono ?_); rintro e w12 ⟨rfl, hb⟩; refine ⟨_, rfl, ?_⟩; replace D0 := Cmp.be D0 hb; replace D1 := Cmp.be D1 hb; replace HB := Cmp.bs HB hb; (try clear hb); (try clear hb2); (try clear hk); (try clear hi); obtain ⟨Do, Dp, Dq, Dr, Ds, Dt⟩ := Cmp.q6 D0; obtain ⟨Fc, Fd, Fe, Ff, Fg, Fh⟩ := Cmp.f6 D0; obtain ⟨Du, Dv, Dw, Dx, Dy, Dz⟩ := Cmp.q6 D1; obtain ⟨Fi, Fj, Fk, Fl, Fm, Fn⟩ := Cmp.f6 D1) | ((with_reducible refine gate_callee (f := 38) rfl ?_); refine goesL_ (some 15) rfl rfl Tryd.func38 (by kernel_rfl) rfl #[.agg #[.bool a0_3, .string a0_4, .int .i64 a0_5], .agg #[.bool a1_3, .string a1_4, .int .i64 a1_5]] rfl Cmp.q ?_; (with_reducible refine (laws_eqOrigin.calls a0_3 a0_4 a0_5 a1_3 a1_4 a1_5 true _ A5.out).mono ?_); rintro e w15 ⟨rfl, hb⟩; refine ⟨_, rfl, ?_⟩; replace D0 := Cmp.be D0 hb; replace D1 := Cmp.be D1 hb; replace HB := Cmp.bs HB hb; (try clear hb); (try clear hb2); (try clear hk); (try clear hi)))
   go_ret
   exact ⟨by first | rfl | (simp [errW_none, errW_some] <;> rfl) | (simp [*, errW_none, errW_some] <;> rfl), Cmp.g HB.out⟩
  ·replace c6 := Bool.eq_false_iff.mpr c6
   subst c6
   have H1 : (some false) = some r := by rw [if_neg (show ¬ (false = true) by decide)] at H; exact H
   clear H; have H := H1; clear H1
   obtain rfl := Option.some.inj H
   go_enter Tryd.func33, Tryd.ntmps33
   go_wp2_with (first | ((with_reducible refine gate_dst (N := 2) rfl ?_); refine box_event ?hg (N := 2) ?hd (cs := #[.bool a0_0, .string a0_1, .int .i64 a0_2, .bool a0_3, .string a0_4, .int .i64 a0_5]) (t := 49) ?hr ?_; (case hd => rfl); (case hg => rfl); (case hr => first | (go_simp; done) | (go_simp; rfl)); intro D8 hg w16 hbox hb; have D0 := Cmp.A (hbox); have D6 := Cmp.gw hg HB; have D4 := Cmp.gw hg HB; replace HB := Cmp.bs HB hb; clear hb hbox hg) | ((with_reducible refine gate_dst (N := 3) rfl ?_); refine box_event ?hg (N := 3) ?hd (cs := #[.bool a1_0, .string a1_1, .int .i64 a1_2, .bool a1_3, .string a1_4, .int .i64 a1_5]) (t := 49) ?hr ?_; (case hd => rfl); (case hg => rfl); (case hr => first | (go_simp; done) | (go_simp; rfl)); intro D9 hg w17 hbox hb; have D1 := Cmp.A (hbox); have D7 := Cmp.gw hg HB; have D5 := Cmp.gw hg HB; have D2 := Cmp.nl hg D0; have D3 := Cmp.ng hg D0; replace D0 := Cmp.be D0 hb; replace HB := Cmp.bs HB hb; clear hb hbox hg; have Gq := D2.out; have Gs := D3.out; obtain ⟨E0, E1, E2, E3, E4, E5⟩ := Cmp.q6 D0; obtain ⟨Fo, Fp, Fq, Fr, Fs, Ft⟩ := Cmp.f6 D0; obtain ⟨E6, E7, E8, E9, Ea, Eb⟩ := Cmp.q6 D1; obtain ⟨Fu, Fv, Fw, Fx, Fy, Fz⟩ := Cmp.f6 D1) | ((with_reducible refine gate_callee (f := 38) rfl ?_); refine goesL_ (some 9) rfl rfl Tryd.func38 (by kernel_rfl) rfl #[.agg #[.bool a0_0, .string a0_1, .int .i64 a0_2], .agg #[.bool a1_0, .string a1_1, .int .i64 a1_2]] rfl Cmp.q ?_; (with_reducible refine (laws_eqOrigin.calls a0_0 a0_1 a0_2 a1_0 a1_1 a1_2 true _ A3.out).mono ?_); rintro e w21 ⟨rfl, hb⟩; refine ⟨_, rfl, ?_⟩; replace D0 := Cmp.be D0 hb; replace D1 := Cmp.be D1 hb; replace HB := Cmp.bs HB hb; (try clear hb); (try clear hb2); (try clear hk); (try clear hi); obtain ⟨Ec, Ed, Ee, Ef, Eg, Eh⟩ := Cmp.q6 D0; obtain ⟨G0, G1, G2, G3, G4, G5⟩ := Cmp.f6 D0; obtain ⟨Ei, Ej, Ek, El, Em, En⟩ := Cmp.q6 D1; obtain ⟨G6, G7, G8, G9, Ga, Gb⟩ := Cmp.f6 D1) | ((with_reducible refine gate_callee (f := 38) rfl ?_); refine goesL_ (some 15) rfl rfl Tryd.func38 (by kernel_rfl) rfl #[.agg #[.bool a0_3, .string a0_4, .int .i64 a0_5], .agg #[.bool a1_3, .string a1_4, .int .i64 a1_5]] rfl Cmp.q ?_; (with_reducible refine (laws_eqOrigin.calls a0_3 a0_4 a0_5 a1_3 a1_4 a1_5 false _ A5.out).mono ?_); rintro e w24 ⟨rfl, hb⟩; refine ⟨_, rfl, ?_⟩; replace D0 := Cmp.be D0 hb; replace D1 := Cmp.be D1 hb; replace HB := Cmp.bs HB hb; (try clear hb); (try clear hb2); (try clear hk); (try clear hi)))
   go_ret
   exact ⟨by first | rfl | (simp [errW_none, errW_some] <;> rfl) | (simp [*, errW_none, errW_some] <;> rfl), Cmp.g HB.out⟩
 ·replace c4 := Bool.eq_false_iff.mpr c4
  subst c4
  have H1 : (some false) = some r := by rw [if_neg (show ¬ (false = true) by decide)] at H; exact H
  clear H; have H := H1; clear H1
  obtain rfl := Option.some.inj H
  go_enter Tryd.func33, Tryd.ntmps33
  go_wp2_with (first | ((with_reducible refine gate_dst (N := 2) rfl ?_); refine box_event ?hg (N := 2) ?hd (cs := #[.bool a0_0, .string a0_1, .int .i64 a0_2, .bool a0_3, .string a0_4, .int .i64 a0_5]) (t := 49) ?hr ?_; (case hd => rfl); (case hg => rfl); (case hr => first | (go_simp; done) | (go_simp; rfl)); intro D8 hg w25 hbox hb; have D0 := Cmp.A (hbox); have D6 := Cmp.gw hg HB; have D4 := Cmp.gw hg HB; replace HB := Cmp.bs HB hb; clear hb hbox hg) | ((with_reducible refine gate_dst (N := 3) rfl ?_); refine box_event ?hg (N := 3) ?hd (cs := #[.bool a1_0, .string a1_1, .int .i64 a1_2, .bool a1_3, .string a1_4, .int .i64 a1_5]) (t := 49) ?hr ?_; (case hd => rfl); (case hg => rfl); (case hr => first | (go_simp; done) | (go_simp; rfl)); intro D9 hg w26 hbox hb; have D1 := Cmp.A (hbox); have D7 := Cmp.gw hg HB; have D5 := Cmp.gw hg HB; have D2 := Cmp.nl hg D0; have D3 := Cmp.ng hg D0; replace D0 := Cmp.be D0 hb; replace HB := Cmp.bs HB hb; clear hb hbox hg; have Gr := D2.out; have Gt := D3.out; obtain ⟨Eo, Ep, Eq, Er, Es, Et⟩ := Cmp.q6 D0; obtain ⟨Gc, Gd, Ge, Gf, Gg, Gh⟩ := Cmp.f6 D0; obtain ⟨Eu, Ev, Ew, Ex, Ey, Ez⟩ := Cmp.q6 D1; obtain ⟨Gi, Gj, Gk, Gl, Gm, Gn⟩ := Cmp.f6 D1) | ((with_reducible refine gate_callee (f := 38) rfl ?_); refine goesL_ (some 9) rfl rfl Tryd.func38 (by kernel_rfl) rfl #[.agg #[.bool a0_0, .string a0_1, .int .i64 a0_2], .agg #[.bool a1_0, .string a1_1, .int .i64 a1_2]] rfl Cmp.q ?_; (with_reducible refine (laws_eqOrigin.calls a0_0 a0_1 a0_2 a1_0 a1_1 a1_2 false _ A3.out).mono ?_); rintro e w30 ⟨rfl, hb⟩; refine ⟨_, rfl, ?_⟩; replace D0 := Cmp.be D0 hb; replace D1 := Cmp.be D1 hb; replace HB := Cmp.bs HB hb; (try clear hb); (try clear hb2); (try clear hk); (try clear hi)))
  go_ret
  exact ⟨by first | rfl | (simp [errW_none, errW_some] <;> rfl) | (simp [*, errW_none, errW_some] <;> rfl), Cmp.g HB.out⟩
end Go.Proofs.YtpgjecknkmmnhaaDoor.PFnExactNavigateTab

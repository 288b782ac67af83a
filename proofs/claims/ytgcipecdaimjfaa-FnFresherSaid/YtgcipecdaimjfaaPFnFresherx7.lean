/- Printed functions of the program, out of print.sh, told more shortly. No condition. -/
import Derived.Test.YtgcipecdaimjfaaCmp
import Derived.Test.YtgcipecdaimjfaaPFnFresherx0
import Derived.Test.YtgcipecdaimjfaaPFnFresherx1
import Derived.Test.YtgcipecdaimjfaaPFnFresherx6
namespace Go.Proofs.Ytgcipecdaimjfaa.PFnFresher
open Go.Proofs.Ytgcipecdaimjfaa
open Go.RowKit Go.Proofs.YtgcipecdaimjfaaW.PrintWords Go.Proofs.YtgcipecdaimjfaaW.PrintLast Go.Proofs.YtgcipecdaimjfaaW.PrintMore
attribute [local go_sem] max2_int min2_int max_two min_two max_three min_three max_four min_four   -- for this text's walks alone
set_option linter.unusedVariables false
set_option linter.unusedSimpArgs false

/-! ### spec_l1Below: function 106 -/
def spec_l1Below.f (s0_0 : List Int) (s0_1 : Int) (s0_2 : Int) (a1 : Int) : Option (Int × Int × Int) := if a1 ≤ 0 then (some (0, s0_1, s0_2)) else (if a1 ≤ 256 then ((spec_l1Byte.f s0_0 s0_1 s0_2).bind fun bt235 => (if a1 = 0 then (none) else (some (Int.tmod bt235.1 a1, bt235.2.1, bt235.2.2)))) else ((spec_l1Byte.f s0_0 s0_1 s0_2).bind fun bt238 => ((spec_l1Byte.f s0_0 bt238.2.1 bt238.2.2).bind fun bt241 => ((spec_l1Byte.f s0_0 bt241.2.1 bt241.2.2).bind fun bt244 => (if a1 = 0 then (none) else (some (Int.tmod (wrap64 ((wrap64 ((wrap64 (bt238.1 * 65536)) + (wrap64 (bt241.1 * 256)))) + bt244.1)) a1, bt244.2.1, bt244.2.2)))))))
set_option maxHeartbeats 8000000 in
set_option maxRecDepth 100000 in
theorem spec_l1Below.calls (g : Nat) (s0_0 : List Int) (s0_1 : Int) (s0_2 : Int) (a1 : Int) (r1 : Int) (r2 : Int) (r3 : Int) (w0 w : World) (hI : IsS146 w0 w g s0_0 s0_1 s0_2) (hB : Below w0.heap.size w0 w) (h : spec_l1Below.f s0_0 s0_1 s0_2 a1 = some (r1, r2, r3)) :
    Calls Try.prog 106 #[.pointer (some ⟨g, 0, none⟩), .int .i64 a1] w fun e w' => e = .returned (.int .i64 r1) ∧ IsS146 w0 w' g s0_0 r2 r3 ∧ Below w0.heap.size w0 w' ∧ KeepBut w w' g none := by
 have D0 := Aside0.mk hI
 have HK := Aside0.mk (KeepBut.refl w g none)
 have HL := Aside0.mk hB.size; clear hI; have HW0 := Aside0.mk hB.size; have HB := Aside0.mk hB; clear hB
 have H : (if a1 ≤ 0 then (some (0, s0_1, s0_2)) else (if a1 ≤ 256 then ((spec_l1Byte.f s0_0 s0_1 s0_2).bind fun bt235 => (if a1 = 0 then (none) else (some (Int.tmod bt235.1 a1, bt235.2.1, bt235.2.2)))) else ((spec_l1Byte.f s0_0 s0_1 s0_2).bind fun bt238 => ((spec_l1Byte.f s0_0 bt238.2.1 bt238.2.2).bind fun bt241 => ((spec_l1Byte.f s0_0 bt241.2.1 bt241.2.2).bind fun bt244 => (if a1 = 0 then (none) else (some (Int.tmod (wrap64 ((wrap64 ((wrap64 (bt238.1 * 65536)) + (wrap64 (bt241.1 * 256)))) + bt244.1)) a1, bt244.2.1, bt244.2.2)))))))) = some (r1, r2, r3) := h
 clear h
 by_cases c3 : a1 ≤ 0
 ·rw [if_pos c3] at H; have c3b0 : decide (a1 ≤ 0) = true := decide_eq_true c3; clear c3
  simp only [Option.some.injEq, Prod.mk.injEq] at H
  obtain ⟨rfl, rfl, rfl⟩ := H
  go_enter Try.func106, Try.ntmps106
  go_wp2
  go_ret
  exact ⟨by first | rfl | (simp [errW_none, errW_some] <;> rfl) | (simp [*, errW_none, errW_some] <;> rfl), IsS146.go D0.out, IsS146.bl HB.out, Cmp.kk HK.out⟩
 ·rw [if_neg c3] at H; have c3b0 : decide (a1 ≤ 0) = false := decide_eq_false c3; clear c3
  by_cases c4 : a1 ≤ 256
  ·rw [if_pos c4] at H; have c4b0 : decide (a1 ≤ 256) = true := decide_eq_true c4; clear c4; replace H := Option.bind_eq_some_iff.mp H; obtain ⟨⟨D6, D7, D8⟩, De, H⟩ := H; (try dsimp only at H); have A5 := Aside0.mk De; clear De
   by_cases c6 : a1 = 0
   ·rw [if_pos c6] at H; exact absurd H (by simp)
   ·rw [if_neg c6] at H; have c6b0 : (a1 == 0) = false := beq_eq_false_iff_ne.mpr c6; have c6b1 : (a1 != 0) = true := bne_iff_ne.mpr c6
    simp only [Option.some.injEq, Prod.mk.injEq] at H
    obtain ⟨rfl, rfl, rfl⟩ := H
    go_enter Try.func106, Try.ntmps106
    go_wp2_with (first | ((with_reducible refine gate_callee (f := 145) rfl ?_); refine goesL_ (some 13) rfl rfl Try.func145 (by kernel_rfl) rfl #[.pointer (some ⟨g, 0, none⟩)] rfl Cmp.q ?_; (with_reducible refine (spec_l1Byte.calls g s0_0 s0_1 s0_2 D6 D7 D8 w0 _ ?side1 ?side2 A5.out).mono ?_); (case side1 => exact IsS146.go D0.out); (case side2 => exact IsS146.bl HB.out); rintro e w7 ⟨rfl, hi, hb, hk⟩; refine ⟨_, rfl, ?_⟩; replace HK := Aside0.mk (KeepBut.trans (Cmp.kk HK.out) hk (.inl rfl)); replace HB := Aside0.mk (hb); replace D0 := Aside0.mk (hi); (try clear hb); (try clear hb2); (try clear hk); (try clear hi)))
    go_ret
    exact ⟨by first | rfl | (simp [errW_none, errW_some] <;> rfl) | (simp [*, errW_none, errW_some] <;> rfl), IsS146.go D0.out, IsS146.bl HB.out, Cmp.kk HK.out⟩
  ·rw [if_neg c4] at H; have c4b0 : decide (a1 ≤ 256) = false := decide_eq_false c4; clear c4; replace H := Option.bind_eq_some_iff.mp H; obtain ⟨⟨D9, D2, D3⟩, Df, H⟩ := H; (try dsimp only at H); have A8 := Aside0.mk Df; clear Df; replace H := Option.bind_eq_some_iff.mp H; obtain ⟨⟨Da, D4, D5⟩, Dg, H⟩ := H; (try dsimp only at H); have A9 := Aside0.mk Dg; clear Dg; replace H := Option.bind_eq_some_iff.mp H; obtain ⟨⟨Db, Dc, Dd⟩, D1, H⟩ := H; (try dsimp only at H); have Dh := Aside0.mk D1; clear D1
   by_cases c11 : a1 = 0
   ·rw [if_pos c11] at H; exact absurd H (by simp)
   ·rw [if_neg c11] at H; have c11b0 : (a1 == 0) = false := beq_eq_false_iff_ne.mpr c11; have c11b1 : (a1 != 0) = true := bne_iff_ne.mpr c11
    simp only [Option.some.injEq, Prod.mk.injEq] at H
    obtain ⟨rfl, rfl, rfl⟩ := H
    go_enter Try.func106, Try.ntmps106
    go_wp2_with (first | ((with_reducible refine gate_callee (f := 145) rfl ?_); refine goesL_ (some 17) rfl rfl Try.func145 (by kernel_rfl) rfl #[.pointer (some ⟨g, 0, none⟩)] rfl Cmp.q ?_; (with_reducible refine (spec_l1Byte.calls g s0_0 s0_1 s0_2 D9 D2 D3 w0 _ ?side1 ?side2 A8.out).mono ?_); (case side1 => exact IsS146.go D0.out); (case side2 => exact IsS146.bl HB.out); rintro e w12 ⟨rfl, hi, hb, hk⟩; refine ⟨_, rfl, ?_⟩; replace HK := Aside0.mk (KeepBut.trans (Cmp.kk HK.out) hk (.inl rfl)); replace HB := Aside0.mk (hb); replace D0 := Aside0.mk (hi); (try clear hb); (try clear hb2); (try clear hk); (try clear hi)) | ((with_reducible refine gate_callee (f := 145) rfl ?_); refine goesL_ (some 19) rfl rfl Try.func145 (by kernel_rfl) rfl #[.pointer (some ⟨g, 0, none⟩)] rfl Cmp.q ?_; (with_reducible refine (spec_l1Byte.calls g s0_0 D2 D3 Da D4 D5 w0 _ ?side1 ?side2 A9.out).mono ?_); (case side1 => exact IsS146.go D0.out); (case side2 => exact IsS146.bl HB.out); rintro e w13 ⟨rfl, hi, hb, hk⟩; refine ⟨_, rfl, ?_⟩; replace HK := Aside0.mk (KeepBut.trans (Cmp.kk HK.out) hk (.inl rfl)); replace HB := Aside0.mk (hb); replace D0 := Aside0.mk (hi); (try clear hb); (try clear hb2); (try clear hk); (try clear hi)) | ((with_reducible refine gate_callee (f := 145) rfl ?_); refine goesL_ (some 21) rfl rfl Try.func145 (by kernel_rfl) rfl #[.pointer (some ⟨g, 0, none⟩)] rfl Cmp.q ?_; (with_reducible refine (spec_l1Byte.calls g s0_0 D4 D5 Db Dc Dd w0 _ ?side1 ?side2 Dh.out).mono ?_); (case side1 => exact IsS146.go D0.out); (case side2 => exact IsS146.bl HB.out); rintro e w14 ⟨rfl, hi, hb, hk⟩; refine ⟨_, rfl, ?_⟩; replace HK := Aside0.mk (KeepBut.trans (Cmp.kk HK.out) hk (.inl rfl)); replace HB := Aside0.mk (hb); replace D0 := Aside0.mk (hi); (try clear hb); (try clear hb2); (try clear hk); (try clear hi)))
    go_ret
    exact ⟨by first | rfl | (simp [errW_none, errW_some] <;> rfl) | (simp [*, errW_none, errW_some] <;> rfl), IsS146.go D0.out, IsS146.bl HB.out, Cmp.kk HK.out⟩

/-! ### spec_l1Int: function 52 -/
def spec_l1Int.f (s0_0 : List Int) (s0_1 : Int) (s0_2 : Int) (l1 : List Int) : Option (Int × Int × Int) := (spec_l1Below.f s0_0 s0_1 s0_2 (l1.length : Int)).bind fun bt247 => (if 0 ≤ bt247.1 then (if bt247.1 < (l1.length : Int) then (some (rd l1 bt247.1, bt247.2.1, bt247.2.2)) else (none)) else (none))
set_option maxHeartbeats 8000000 in
set_option maxRecDepth 100000 in
theorem spec_l1Int.calls (g : Nat) (s0_0 : List Int) (s0_1 : Int) (s0_2 : Int) (A1 : Option Addr) (c1 : Nat) (l1 : List Int) (r1 : Int) (r2 : Int) (r3 : Int) (w0 w : World) (hI : IsS146 w0 w g s0_0 s0_1 s0_2) (hB : Below w0.heap.size w0 w) (hr1 : Kd.C (Kd.int .i64) w A1 l1.length l1) (hc1 : l1.length ≤ c1) (hf1 : ∀ ad, A1 = some ad → 0 < l1.length → ad.block ≠ g) (h : spec_l1Int.f s0_0 s0_1 s0_2 l1 = some (r1, r2, r3)) :
    Calls Try.prog 52 #[.pointer (some ⟨g, 0, none⟩), .slice A1 l1.length c1] w fun e w' => e = .returned (.int .i64 r1) ∧ IsS146 w0 w' g s0_0 r2 r3 ∧ Below w0.heap.size w0 w' ∧ KeepBut w w' g none := by
 have HR1 := Aside0.mk hr1; have HC1 := Aside0.mk hc1; clear hr1 hc1; have D3 := Aside0.mk hI
 have HK := Aside0.mk (KeepBut.refl w g none)
 have HL := Aside0.mk hB.size; clear hI; have HW0 := Aside0.mk hB.size; have HB := Aside0.mk hB; clear hB
 have H : ((spec_l1Below.f s0_0 s0_1 s0_2 (l1.length : Int)).bind fun bt247 => (if 0 ≤ bt247.1 then (if bt247.1 < (l1.length : Int) then (some (rd l1 bt247.1, bt247.2.1, bt247.2.2)) else (none)) else (none))) = some (r1, r2, r3) := h
 clear h; replace H := Option.bind_eq_some_iff.mp H; obtain ⟨⟨D0, D4, D5⟩, D6, H⟩ := H; (try dsimp only at H); have A3 := Aside0.mk D6; clear D6
 by_cases c4 : 0 ≤ D0
 ·rw [if_pos c4] at H; have c4b0 : decide (0 ≤ D0) = true := decide_eq_true c4; clear c4
  by_cases c5 : D0 < (l1.length : Int)
  ·rw [if_pos c5] at H
   have c5b0 : decide (D0 < (l1.length : Int)) = true := decide_eq_true c5
   clear c5
   simp only [Option.some.injEq, Prod.mk.injEq] at H
   obtain ⟨rfl, rfl, rfl⟩ := H
   go_enter Try.func52, Try.ntmps52
   go_wp2_with (first | ((with_reducible refine gate_callee (f := 106) rfl ?_); refine goesL_ (some 9) rfl rfl Try.func106 (by kernel_rfl) rfl #[.pointer (some ⟨g, 0, none⟩), .int .i64 (l1.length : Int)] rfl Cmp.q ?_; (with_reducible refine (spec_l1Below.calls g s0_0 s0_1 s0_2 (l1.length : Int) D0 D4 D5 w0 _ ?side1 ?side2 A3.out).mono ?_); (case side1 => exact IsS146.go D3.out); (case side2 => exact IsS146.bl HB.out); rintro e w6 ⟨rfl, hi, hb, hk⟩; refine ⟨_, rfl, ?_⟩; replace HK := Aside0.mk (KeepBut.trans (Cmp.kk HK.out) hk (.inl rfl)); replace HB := Aside0.mk (hb); replace D3 := Aside0.mk (hi); (try clear hb); (try clear hb2); (try clear hk); (try clear hi); have p250 : 0 ≤ (D0 : Int) := of_decide_eq_true Cmp.d; have q250 : D0 < (l1.length : Int) := of_decide_eq_true Cmp.d; obtain ⟨D2, e250, D1⟩ := Kd.at_int HR1.out D0 p250 q250; cases e250; replace D1 := keep_cell HK.out D1 (by first | (rw [add_block]; exact hf1 _ rfl (by omega)) | exact hf1 _ rfl (by omega) | exact hf1 D2 rfl (by omega)); replace p250 := eq_true p250; replace q250 := eq_true q250))
   go_ret
   exact ⟨by first | rfl | (simp [errW_none, errW_some] <;> rfl) | (simp [*, errW_none, errW_some] <;> rfl), IsS146.go D3.out, IsS146.bl HB.out, Cmp.kk HK.out⟩
  ·rw [if_neg c5] at H; exact absurd H (by simp)
 ·rw [if_neg c4] at H; exact absurd H (by simp)

/-! ### spec_l1Once: function 55 -/
def spec_l1Once.f (s0_0 : List Int) (s0_1 : Int) (s0_2 : Int) (a1 : Int) : Option (Bool × Int × Int) := (spec_l1Below.f s0_0 s0_1 s0_2 a1).bind fun bt251 => (some ((bt251.1 == 0), bt251.2.1, bt251.2.2))
set_option maxHeartbeats 8000000 in
set_option maxRecDepth 100000 in
theorem spec_l1Once.calls (g : Nat) (s0_0 : List Int) (s0_1 : Int) (s0_2 : Int) (a1 : Int) (r1 : Bool) (r2 : Int) (r3 : Int) (w0 w : World) (hI : IsS146 w0 w g s0_0 s0_1 s0_2) (hB : Below w0.heap.size w0 w) (h : spec_l1Once.f s0_0 s0_1 s0_2 a1 = some (r1, r2, r3)) :
    Calls Try.prog 55 #[.pointer (some ⟨g, 0, none⟩), .int .i64 a1] w fun e w' => e = .returned (.bool r1) ∧ IsS146 w0 w' g s0_0 r2 r3 ∧ Below w0.heap.size w0 w' ∧ KeepBut w w' g none := by
 have D0 := Aside0.mk hI
 have HK := Aside0.mk (KeepBut.refl w g none)
 have HL := Aside0.mk hB.size; clear hI; have HW0 := Aside0.mk hB.size; have HB := Aside0.mk hB; clear hB
 have H : ((spec_l1Below.f s0_0 s0_1 s0_2 a1).bind fun bt251 => (some ((bt251.1 == 0), bt251.2.1, bt251.2.2))) = some (r1, r2, r3) := h
 clear h; replace H := Option.bind_eq_some_iff.mp H; obtain ⟨⟨D1, D2, D3⟩, D4, H⟩ := H; (try dsimp only at H); have A3 := Aside0.mk D4; clear D4
 simp only [Option.some.injEq, Prod.mk.injEq] at H
 obtain ⟨rfl, rfl, rfl⟩ := H
 go_enter Try.func55, Try.ntmps55
 go_wp2_with (first | ((with_reducible refine gate_callee (f := 106) rfl ?_); refine goesL_ (some 7) rfl rfl Try.func106 (by kernel_rfl) rfl #[.pointer (some ⟨g, 0, none⟩), .int .i64 a1] rfl Cmp.q ?_; (with_reducible refine (spec_l1Below.calls g s0_0 s0_1 s0_2 a1 D1 D2 D3 w0 _ ?side1 ?side2 A3.out).mono ?_); (case side1 => exact IsS146.go D0.out); (case side2 => exact IsS146.bl HB.out); rintro e w4 ⟨rfl, hi, hb, hk⟩; refine ⟨_, rfl, ?_⟩; replace HK := Aside0.mk (KeepBut.trans (Cmp.kk HK.out) hk (.inl rfl)); replace HB := Aside0.mk (hb); replace D0 := Aside0.mk (hi); (try clear hb); (try clear hb2); (try clear hk); (try clear hi)))
 go_ret
 exact ⟨by first | rfl | (simp [errW_none, errW_some] <;> rfl) | (simp [*, errW_none, errW_some] <;> rfl), IsS146.go D0.out, IsS146.bl HB.out, Cmp.kk HK.out⟩

/-! ### spec_FindEntry: function 164 -/
def spec_FindEntry.l0 : Nat → Int → Int → Int → List (S143) → Option (Int)
  | 0, _, _, _, _ => none
  | k + 1, x1, x2, x7, x255000 => if x7 < (x255000.length : Int) then (if 0 ≤ x7 then (if ((rd_T143 x255000 x7).f0) = x1 then (if ((rd_T143 x255000 x7).f1) = x2 then (some x7) else (spec_FindEntry.l0 k x1 x2 (wrap64 (x7 + 1)) x255000)) else (spec_FindEntry.l0 k x1 x2 (wrap64 (x7 + 1)) x255000)) else (none)) else (some (-1))
def spec_FindEntry.f (k : Nat) (l0_0 : List (S143)) (a1 : Int) (a2 : Int) : Option (Int) := spec_FindEntry.l0 k a1 a2 0 l0_0
theorem spec_FindEntry.mono_l : ∀ k, (∀ y0 y1 y2 y3, LeO (spec_FindEntry.l0 k y0 y1 y2 y3) (spec_FindEntry.l0 (k + 1) y0 y1 y2 y3))
  | 0 => fun _ _ _ _ r h => by simp [spec_FindEntry.l0] at h
  | k + 1 => by
    have ih0 := spec_FindEntry.mono_l k
    · intro y0 y1 y2 y3
      unfold spec_FindEntry.l0
      repeat' first
      | (with_reducible exact ih0 _ _ _ _)
      | (with_reducible exact LeO.refl _)
      | (with_reducible exact LeO.none _)
      | (with_reducible refine LeO.ite ?_ ?_)
      | (with_reducible refine LeO.bind ?_ (fun _ => ?_))
      | exact ih0 _ _ _ _
      | exact LeO.none _
      | refine LeO.ite ?_ ?_
      | refine LeO.bind ?_ (fun _ => ?_)
theorem spec_FindEntry.mono : ∀ a0 a1 a2 k, LeO (spec_FindEntry.f k a0 a1 a2) (spec_FindEntry.f (k + 1) a0 a1 a2) := by
  intro a0 a1 a2 k
  have ih0 := spec_FindEntry.mono_l k
  unfold spec_FindEntry.f
  repeat' first
      | (with_reducible exact ih0 _ _ _ _)
      | (with_reducible exact LeO.refl _)
      | (with_reducible exact LeO.none _)
      | (with_reducible refine LeO.ite ?_ ?_)
      | (with_reducible refine LeO.bind ?_ (fun _ => ?_))
      | exact ih0 _ _ _ _
      | exact LeO.none _
      | refine LeO.ite ?_ ?_
      | refine LeO.bind ?_ (fun _ => ?_)
set_option maxHeartbeats 8000000 in
set_option maxRecDepth 100000 in
theorem spec_FindEntry.calls (k : Nat) (A0_0 : Option Addr) (c0_0 : Nat) (l0_0 : List (S143)) (a1 : Int) (a2 : Int) (r : Int) (w : World) (hr0_0 : Kd.C k143 w A0_0 l0_0.length l0_0) (hc0_0 : l0_0.length ≤ c0_0) (h : spec_FindEntry.f k l0_0 a1 a2 = some r) :
    Calls Try.prog 164 #[.agg #[.slice A0_0 l0_0.length c0_0], .int .i64 a1, .int .i64 a2] w fun e w' => e = .returned (.int .i64 r) ∧ Below w.heap.size w w' := by
 have hu71 := Try.underlying71; have Da := Aside0.mk hr0_0; have HC0_0 := Aside0.mk hc0_0; clear hr0_0 hc0_0
 have HB := Aside0.mk (Below.refl w.heap.size w)
 have H : (spec_FindEntry.l0 k a1 a2 0 l0_0) = some r := h
 clear h
 have H' := Aside0.mk H
 clear H
 go_enter Try.func164, Try.ntmps164
 go_wp2_with (first | ((with_reducible refine gate_dst (N := 3) rfl ?_); refine box_event ?hg (N := 3) ?hd (cs := #[.slice A0_0 l0_0.length c0_0]) (t := 71) ?hr ?_; (case hd => rfl); (case hg => rfl); (case hr => first | (go_simp; done) | (go_simp; rfl)); intro Db hg w4 hbox hb; have D5 := Aside0.mk (hbox); have Dn := Cmp.gw hg HB; have Dm := Cmp.gw hg HB; replace HB := Cmp.bs HB hb; clear hb hbox hg))
 go_loopg [7] k (fun kq v7 w' => ∃ (D0 : Int), v7 = .int .i64 D0 ∧ Aside0 (spec_FindEntry.l0 kq a1 a2 D0 l0_0 = some r) ∧ Aside0 (kq ≤ k) ∧ Aside0 (w'.heap[Db]? = some (.cells #[(.slice A0_0 l0_0.length c0_0)] 71 (0, 0))) ∧ Aside0 (Below w.heap.size w w'))
 case atStart => exact ⟨(0), (by first | rfl | simp | simp [*]), H', ⟨Nat.le_refl _⟩, Cmp.bq D5, ⟨Cmp.g HB.out⟩⟩
 case round =>
  clear H'
  (try clear c1); (try clear p2)
  obtain ⟨D0, rfl, HA, HK1, D5, HB⟩ := hrel
  cases gk with
  | zero => exact absurd HA.out (by simp [spec_FindEntry.l0])
  | succ k1 =>
   have H := HA.out; clear HA
   simp only [spec_FindEntry.l0] at H
   by_cases c5 : D0 < (l0_0.length : Int)
   ·rw [if_pos c5] at H
    have c5b0 : decide (D0 < (l0_0.length : Int)) = true := decide_eq_true c5
    clear c5
    by_cases c6 : 0 ≤ D0
    ·rw [if_pos c6] at H; have c6b0 : decide (0 ≤ D0) = true := decide_eq_true c6; clear c6
     by_cases c7 : ((rd_T143 l0_0 D0).f0) = a1
     ·rw [if_pos c7] at H; have c7b0 : (((rd_T143 l0_0 D0).f0) == a1) = true := beq_iff_eq.mpr c7; have c7b1 : (((rd_T143 l0_0 D0).f0) != a1) = false := bne_eq_false_iff_eq.mpr c7; clear c7
      by_cases c8 : ((rd_T143 l0_0 D0).f1) = a2
      ·rw [if_pos c8] at H; have c8b0 : (((rd_T143 l0_0 D0).f1) == a2) = true := beq_iff_eq.mpr c8; have c8b1 : (((rd_T143 l0_0 D0).f1) != a2) = false := bne_eq_false_iff_eq.mpr c8; clear c8
       obtain rfl := Option.some.inj H
       have Dk : wr.cell? ⟨Db, 0, none⟩ = some (.slice A0_0 l0_0.length c0_0) := (blk_cell D5.out 0).trans rfl
       have Dl := blk_frozen D5.out 0
       have p255 : 0 ≤ (D0 : Int) := of_decide_eq_true Cmp.d
       have q255 : D0 < (l0_0.length : Int) := of_decide_eq_true Cmp.d
       obtain ⟨Dc, e255, D1, D2, D3, D4⟩ := at_T143 Da.out D0 p255 q255
       cases e255
       replace D1 := Cmp.hc HB D1
       replace D2 := Cmp.hc HB D2
       replace D3 := Cmp.hc HB D3
       replace D4 := Cmp.hc HB D4
       replace p255 := eq_true p255; replace q255 := eq_true q255
       have p256 : 0 ≤ (D0 : Int) := of_decide_eq_true Cmp.d
       have q256 : D0 < (l0_0.length : Int) := of_decide_eq_true Cmp.d
       obtain ⟨Dd, e256, D6, D7, D8, D9⟩ := at_T143 Da.out D0 p256 q256
       obtain rfl : Dc = Dd := (by injection e256)
       replace D6 := Cmp.hc HB D6
       replace D7 := Cmp.hc HB D7
       replace D8 := Cmp.hc HB D8
       replace D9 := Cmp.hc HB D9
       replace p256 := eq_true p256; replace q256 := eq_true q256
       go_wp2
       go_ret
       exact ⟨by first | rfl | (simp [errW_none, errW_some] <;> rfl) | (simp [*, errW_none, errW_some] <;> rfl), Cmp.g HB.out⟩
      ·rw [if_neg c8] at H; have c8b0 : (((rd_T143 l0_0 D0).f1) == a2) = false := beq_eq_false_iff_ne.mpr c8; have c8b1 : (((rd_T143 l0_0 D0).f1) != a2) = true := bne_iff_ne.mpr c8
       have H' := Aside0.mk H
       clear H
       have De : wr.cell? ⟨Db, 0, none⟩ = some (.slice A0_0 l0_0.length c0_0) := (blk_cell D5.out 0).trans rfl
       have Dh := blk_frozen D5.out 0
       have p255 : 0 ≤ (D0 : Int) := of_decide_eq_true Cmp.d
       have q255 : D0 < (l0_0.length : Int) := of_decide_eq_true Cmp.d
       obtain ⟨Dc, e255, D1, D2, D3, D4⟩ := at_T143 Da.out D0 p255 q255
       cases e255
       replace D1 := Cmp.hc HB D1
       replace D2 := Cmp.hc HB D2
       replace D3 := Cmp.hc HB D3
       replace D4 := Cmp.hc HB D4
       replace p255 := eq_true p255; replace q255 := eq_true q255
       have p256 : 0 ≤ (D0 : Int) := of_decide_eq_true Cmp.d
       have q256 : D0 < (l0_0.length : Int) := of_decide_eq_true Cmp.d
       obtain ⟨Dd, e256, D6, D7, D8, D9⟩ := at_T143 Da.out D0 p256 q256
       obtain rfl : Dc = Dd := (by injection e256)
       replace D6 := Cmp.hc HB D6
       replace D7 := Cmp.hc HB D7
       replace D8 := Cmp.hc HB D8
       replace D9 := Cmp.hc HB D9
       replace p256 := eq_true p256; replace q256 := eq_true q256
       go_wp2
       go_roundg k1
       case measure => have := HK1.out; omega
       case rel => exact ⟨(wrap64 (D0 + 1)), (by first | rfl | simp | simp [*]), H', ⟨by have := HK1.out; omega⟩, Cmp.bq D5, ⟨Cmp.g HB.out⟩⟩
     ·rw [if_neg c7] at H; have c7b0 : (((rd_T143 l0_0 D0).f0) == a1) = false := beq_eq_false_iff_ne.mpr c7; have c7b1 : (((rd_T143 l0_0 D0).f0) != a1) = true := bne_iff_ne.mpr c7
      have H' := Aside0.mk H
      clear H
      have Df : wr.cell? ⟨Db, 0, none⟩ = some (.slice A0_0 l0_0.length c0_0) := (blk_cell D5.out 0).trans rfl
      have Di := blk_frozen D5.out 0
      have p255 : 0 ≤ (D0 : Int) := of_decide_eq_true Cmp.d
      have q255 : D0 < (l0_0.length : Int) := of_decide_eq_true Cmp.d
      obtain ⟨Dc, e255, D1, D2, D3, D4⟩ := at_T143 Da.out D0 p255 q255
      cases e255
      replace D1 := Cmp.hc HB D1
      replace D2 := Cmp.hc HB D2
      replace D3 := Cmp.hc HB D3
      replace D4 := Cmp.hc HB D4
      replace p255 := eq_true p255; replace q255 := eq_true q255
      go_wp2
      go_roundg k1
      case measure => have := HK1.out; omega
      case rel => exact ⟨(wrap64 (D0 + 1)), (by first | rfl | simp | simp [*]), H', ⟨by have := HK1.out; omega⟩, Cmp.bq D5, ⟨Cmp.g HB.out⟩⟩
    ·rw [if_neg c6] at H; exact absurd H (by simp)
   ·rw [if_neg c5] at H
    have c5b0 : decide (D0 < (l0_0.length : Int)) = false := decide_eq_false c5
    clear c5
    obtain rfl := Option.some.inj H
    have Dg : wr.cell? ⟨Db, 0, none⟩ = some (.slice A0_0 l0_0.length c0_0) := (blk_cell D5.out 0).trans rfl
    have Dj := blk_frozen D5.out 0
    go_wp2
    go_ret
    exact ⟨by first | rfl | (simp [errW_none, errW_some] <;> rfl) | (simp [*, errW_none, errW_some] <;> rfl), Cmp.g HB.out⟩

/-! ### spec_l17Copy: function 165 -/
def spec_l17Copy.f (l0_0 : List (S143)) : Option ((List (S143))) := (some (([] : List (S143)) : List (S143))).bind fun y259 => (if y259.length + l0_0.length < 4398046511104 then (some (y259 ++ l0_0)) else (none))
set_option maxHeartbeats 8000000 in
set_option maxRecDepth 100000 in
theorem spec_l17Copy.calls (A0_0 : Option Addr) (c0_0 : Nat) (l0_0 : List (S143)) (r : List (S143)) (w : World) (hr0_0 : Kd.C k143 w A0_0 l0_0.length l0_0) (hc0_0 : l0_0.length ≤ c0_0) (h : spec_l17Copy.f l0_0 = some r) :
    Calls Try.prog 165 #[.agg #[.slice A0_0 l0_0.length c0_0]] w fun e w' => ∃ v0_ : Value, e = .returned (.agg #[v0_]) ∧ Kd.R k143 143 w' w.heap.size (fun _ => True) v0_ r ∧ Below w.heap.size w w' := by
 have hu71 := Try.underlying71; have Db := Aside0.mk hr0_0; have HC0_0 := Aside0.mk hc0_0; clear hr0_0 hc0_0
 have HB := Aside0.mk (Below.refl w.heap.size w)
 have H : ((some (([] : List (S143)) : List (S143))).bind fun D2 => (if D2.length + l0_0.length < 4398046511104 then (some (D2 ++ l0_0)) else (none))) = some r := h
 clear h
 obtain ⟨D2, hy259⟩ : ∃ y_ : List (S143), y_ = (([] : List (S143))) := ⟨_, rfl⟩
 replace H : (if D2.length + l0_0.length < 4398046511104 then (some (D2 ++ l0_0)) else (none)) = some r := by first | (rw [hy259]; with_reducible exact H) | (have H2_ := (Option.bind_some _ _).symm.trans H; rw [hy259]; with_reducible exact H2_) | (have H2_ := (Option.bind_some _ _).symm.trans H; with_reducible exact H2_) | with_reducible exact H | (rw [hy259]; exact H) | exact H
 have D7 := Aside0.mk hy259; clear hy259
 by_cases c2 : D2.length + l0_0.length < 4398046511104
 ·rw [if_pos c2] at H; have LMc2 := Aside0.mk c2; clear c2
  obtain ⟨D9, hy262⟩ : ∃ y_ : List (S143), y_ = (D2 ++ l0_0) := ⟨_, rfl⟩
  replace H : (some D9) = some r := by first | (rw [hy262]; with_reducible exact H) | (have H2_ := (Option.bind_some _ _).symm.trans H; rw [hy262]; with_reducible exact H2_) | (have H2_ := (Option.bind_some _ _).symm.trans H; with_reducible exact H2_) | with_reducible exact H | (rw [hy262]; exact H) | exact H
  have Dc := Aside0.mk hy262; clear hy262
  obtain rfl := Option.some.inj H
  go_enter Try.func165, Try.ntmps165
  go_wp2_with (first | ((with_reducible refine gate_dst (N := 1) rfl ?_); refine box_event ?hg (N := 1) ?hd (cs := #[.slice A0_0 l0_0.length c0_0]) (t := 71) ?hr ?_; (case hd => rfl); (case hg => rfl); (case hr => first | (go_simp; done) | (go_simp; rfl)); intro Do hg w3 hbox hb; have D0 := Aside0.mk (hbox); have Dm := Cmp.gw hg HB; have Dk := Cmp.gw hg HB; replace HB := Cmp.bs HB hb; clear hb hbox hg) | ((with_reducible refine gate_dst (N := 2) rfl ?_); refine box_event ?hg (N := 2) ?hd (cs := #[.slice none 0 0]) (t := 71) ?hr ?_; (case hd => rfl); (case hg => rfl); (case hr => first | (go_simp; done) | (go_simp; rfl)); intro D8 hg w4 hbox hb; have D1 := Aside0.mk (hbox); have Dn := Cmp.gw hg HB; have Dl := Cmp.gw hg HB; have D4 := Cmp.nl hg D0; have D5 := Cmp.ng hg D0; replace D0 := Cmp.be D0 hb; replace HB := Cmp.bs HB hb; clear hb hbox hg) | ((with_reducible refine gate_dst (N := 3) rfl ?_); refine Kd.R_lit k143 _ 143 ?hg (N := 3) ?hd (xs := ([] : List (S143))) (inner := []) (ok := fun _ => True) (okp := fun _ => True) ?hr ?hp (fun _ hk => hk) trivial (Below.refl _ _) (Nat.le_refl _) (by simp) ?_; (case hd => rfl); (case hg => rfl); (case hr => first | (go_simp; done) | (go_simp; rfl)); (case hp => exact (Reps.none _ _)); intro v260 w5 De hb hg_ hnew_; clear hg_ hnew_; (first | rw [← D7.out] at De | (simp only [Int.reduceToNat] at De; rw [← D7.out] at De)); have D3 := Aside0.mk (Kd.R_lower De (below_size (Cmp.g HB.out))); replace D0 := Cmp.be D0 hb; replace D1 := Cmp.be D1 hb; replace HB := Cmp.bs HB hb; clear hb De; have Dp := D4.out; have Dq := D5.out; have Di := Cmp.c0 D0; have Dj := blk_frozen D0.out 0) | ((with_reducible refine gate_builtin (b := .append) (xs := #[.tmp 3, .tmp 5]) rfl ?_); at_builtin; refine Kd.R_append_rows k143 (w0 := w) w.heap.size rfl (.tmp 3) (.tmp 5) 69 143 (.agg #[(.int .i64 0), (.int .i64 0), (.int .i64 0), (.bool false)]) 32 rfl Try.underlying69 info143 rfl (by decide) (by omega) v260 D2 l0_0 _ _ _ (fun _ => True) (fun _ => False) rfl rfl ?aO ?aR (fun _ _ h => h) (fun _ h => h.elim) ?aF ?aB ?aS ?aL ?_; (case aR => repeat (first | exact (Kd.C_below Db.out HB.out) | (with_reducible refine Kd.C_alloc ?_ _) | (with_reducible refine Kd.C_drewN ?_ _) | (with_reducible refine Kd.C_drew ?_))); (case aB => exact (Cmp.g HB.out)); (case aF => exact (fun _ _ => trivial)); (case aO => exact (Cmp.rr D3.out)); (case aS => exact (below_size (Cmp.g HB.out))); (case aL => have := LMc2.out; omega); intro v263 w9 ho hb hg hat; rw [← Dc.out] at ho; have D6 := Aside0.mk (ho); replace D0 := Cmp.bg D0 hg (Kd.R_ne D3.out D0.out (by decide)); replace D1 := Cmp.bg D1 hg (Kd.R_ne D3.out D1.out (by decide)); replace HB := Aside0.mk (hb); clear D3; clear ho hb hg hat; obtain ⟨Da, Dd, Dh⟩ := Kd.R_slice D6.out; subst Dh; have Df := Cmp.c0 D1; have Dg := blk_frozen D1.out 0))
  refine bodyPost_ret (results_cell_row rfl _ _ D8 71 #[.slice Da D9.length Dd] (0, 0) _ rfl (Cmp.bw D1.out) Try.underlying71 rfl (by kernel_rfl)) rfl ?_
  exact ⟨_, by first | rfl | (simp [errW_none, errW_some] <;> rfl) | (simp [*, errW_none, errW_some] <;> rfl), by (with_reducible repeat (first | apply Kd.R_alloc | apply Kd.R_drewN | apply Kd.R_drew)); exact Kd.R_mono (Kd.R_far (p := ⟨D8, 0, none⟩) (Kd.R_types D6.out D1.out (by decide)) (fun _ hk => hk.2) (.slice Da D9.length Dd)) (fun _ hk => trivial), Cmp.g HB.out⟩
 ·rw [if_neg c2] at H; exact absurd H (by simp)

end Go.Proofs.Ytgcipecdaimjfaa.PFnFresher

/- Printed functions of the program, out of print.sh, told more shortly. No condition. -/
import Derived.Test.YtpgjecknkmmnhaaDoorCmp
import Derived.Test.YtpgjecknkmmnhaaDoorPFnExactOpenTabx0
import Derived.Test.YtpgjecknkmmnhaaDoorPFnExactOpenTabx1
namespace Go.Proofs.YtpgjecknkmmnhaaDoor.PFnExactOpenTab
open Go.Proofs.YtpgjecknkmmnhaaDoor
open Go.RowKit Go.Proofs.YtpgjecknkmmnhaaDoorW.PrintWords Go.Proofs.YtpgjecknkmmnhaaDoorW.PrintLast Go.Proofs.YtpgjecknkmmnhaaDoorW.PrintMore
attribute [local go_sem] max2_int min2_int max_two min_two max_three min_three max_four min_four   -- for this text's walks alone
set_option linter.unusedVariables false
set_option linter.unusedSimpArgs false
/-! ### spec_l9Label: function 36 -/
def spec_l9Label.l0 : Nat → ByteArray → Int → Option (Bool)
  | 0, _, _ => none
  | k + 1, x0, x3 => if x3 < (x0.size : Int) then (if 0 ≤ x3 then (if (bt x0 x3) ≥ 97 then (if (bt x0 x3) ≤ 122 then (spec_l9Label.l0 k x0 (wrap64 (x3 + 1))) else (if (bt x0 x3) ≥ 48 then (if (bt x0 x3) ≤ 57 then (spec_l9Label.l0 k x0 (wrap64 (x3 + 1))) else (if ((bt x0 x3) = 45) then (spec_l9Label.l0 k x0 (wrap64 (x3 + 1))) else (some false))) else (if ((bt x0 x3) = 45) then (spec_l9Label.l0 k x0 (wrap64 (x3 + 1))) else (some false)))) else (if (bt x0 x3) ≥ 48 then (if (bt x0 x3) ≤ 57 then (spec_l9Label.l0 k x0 (wrap64 (x3 + 1))) else (if ((bt x0 x3) = 45) then (spec_l9Label.l0 k x0 (wrap64 (x3 + 1))) else (some false))) else (if ((bt x0 x3) = 45) then (spec_l9Label.l0 k x0 (wrap64 (x3 + 1))) else (some false)))) else (none)) else ((spec_l1In.f (x0.size : Int) 1 20).bind fun t127 => (if t127 = true then (if 0 < (x0.size : Int) then (if (bt x0 0) = 45 then (some false) else (if 0 ≤ (wrap64 ((x0.size : Int) - 1)) then (if (wrap64 ((x0.size : Int) - 1)) < (x0.size : Int) then (some ((bt x0 (wrap64 ((x0.size : Int) - 1))) != 45)) else (none)) else (none))) else (none)) else (some false)))
def spec_l9Label.f (k : Nat) (a0 : ByteArray) : Option (Bool) := spec_l9Label.l0 k a0 0
theorem spec_l9Label.mono_l : ∀ k, (∀ y0 y1, LeO (spec_l9Label.l0 k y0 y1) (spec_l9Label.l0 (k + 1) y0 y1))
 | 0 => fun _ _ r h => by simp [spec_l9Label.l0] at h
 | k + 1 => by
    have ih0 := spec_l9Label.mono_l k
    · intro y0 y1
      unfold spec_l9Label.l0
      repeat' first
 | (with_reducible exact ih0 _ _)
 | (with_reducible exact LeO.refl _)
 | (with_reducible exact LeO.none _)
 | (with_reducible refine LeO.ite ?_ ?_)
 | (with_reducible refine LeO.bind ?_ (fun _ => ?_))
theorem spec_l9Label.mono : ∀ a0 k, LeO (spec_l9Label.f k a0) (spec_l9Label.f (k + 1) a0) := by
  intro a0 k
  have ih0 := spec_l9Label.mono_l k
  unfold spec_l9Label.f
  repeat' first
 | (with_reducible exact ih0 _ _)
 | (with_reducible exact LeO.refl _)
 | (with_reducible exact LeO.none _)
 | (with_reducible refine LeO.ite ?_ ?_)
 | (with_reducible refine LeO.bind ?_ (fun _ => ?_))
set_option maxHeartbeats 8000000 in
set_option maxRecDepth 100000 in
theorem spec_l9Label.calls (k : Nat) (a0 : ByteArray) (r : Bool) (w : World) (h : spec_l9Label.f k a0 = some r) :
    Calls Tryd.prog 36 #[.string a0] w fun e w' => e = .returned (.bool r) ∧ Drawn0 w w' := by
 have H : (spec_l9Label.l0 k a0 0) = some r := h
 clear h
 have H' := Cmp.A H
 clear H
 go_enter Tryd.func36, Tryd.ntmps36
 go_wp2
 go_loopg [3] k (fun kq v3 w' => ∃ (D0 : Int), v3 = .int .i64 D0 ∧ Aside0 (spec_l9Label.l0 kq a0 D0 = some r) ∧ Aside0 (kq ≤ k) ∧ Drawn0 w w')
 case atStart => exact ⟨(0), (by first | rfl | simp | simp [*]), H', ⟨Nat.le_refl _⟩, by repeat (first | exact Drawn0.refl _ | apply Drawn0.step)⟩
 case round =>
  clear H'
  obtain ⟨D0, rfl, HA, HK1, ⟨m1, rfl⟩⟩ := hrel
  cases gk with
  | zero => exact absurd HA.out (by simp [spec_l9Label.l0])
  | succ k1 =>
   have H := HA.out; clear HA
   simp only [spec_l9Label.l0] at H
   by_cases c2 : D0 < (a0.size : Int)
   ·rw [if_pos c2] at H
    have c2b0 : decide (D0 < (a0.size : Int)) = true := decide_eq_true c2
    clear c2
    by_cases c3 : 0 ≤ D0
    ·rw [if_pos c3] at H; have c3b0 : decide (0 ≤ D0) = true := decide_eq_true c3; clear c3
     by_cases c5 : (bt a0 D0) ≥ 97
     ·rw [if_pos c5] at H; have c5b0 : decide (97 ≤ (bt a0 D0)) = true := decide_eq_true c5; clear c5
      by_cases c7 : (bt a0 D0) ≤ 122
      ·rw [if_pos c7] at H; have c7b0 : decide ((bt a0 D0) ≤ 122) = true := decide_eq_true c7; clear c7
       have H' := Cmp.A H
       clear H
       have p4 : 0 ≤ (D0 : Int) := of_decide_eq_true Cmp.d
       have q4 : D0 < (a0.size : Int) := of_decide_eq_true Cmp.d
       have hx4 := bt_at a0 D0
       replace p4 := eq_true p4; replace q4 := eq_true q4
       have p6 : 0 ≤ (D0 : Int) := of_decide_eq_true Cmp.d
       have q6 : D0 < (a0.size : Int) := of_decide_eq_true Cmp.d
       have hx6 := bt_at a0 D0
       replace p6 := eq_true p6; replace q6 := eq_true q6
       go_wp2
       go_roundg k1
       case measure => have := HK1.out; omega
       case rel => exact ⟨(wrap64 (D0 + 1)), (by first | rfl | simp | simp [*]), H', ⟨by have := HK1.out; omega⟩, by repeat (first | exact Drawn0.refl _ | apply Drawn0.step)⟩
      ·rw [if_neg c7] at H; have c7b0 : decide ((bt a0 D0) ≤ 122) = false := decide_eq_false c7; clear c7
       by_cases c9 : (bt a0 D0) ≥ 48
       ·rw [if_pos c9] at H; have c9b0 : decide (48 ≤ (bt a0 D0)) = true := decide_eq_true c9; clear c9
        by_cases c11 : (bt a0 D0) ≤ 57
        ·rw [if_pos c11] at H; have c11b0 : decide ((bt a0 D0) ≤ 57) = true := decide_eq_true c11; clear c11
         have H' := Cmp.A H
         clear H
         have p4 : 0 ≤ (D0 : Int) := of_decide_eq_true Cmp.d
         have q4 : D0 < (a0.size : Int) := of_decide_eq_true Cmp.d
         have hx4 := bt_at a0 D0
         replace p4 := eq_true p4; replace q4 := eq_true q4
         have p6 : 0 ≤ (D0 : Int) := of_decide_eq_true Cmp.d
         have q6 : D0 < (a0.size : Int) := of_decide_eq_true Cmp.d
         have hx6 := bt_at a0 D0
         replace p6 := eq_true p6; replace q6 := eq_true q6
         have p8 : 0 ≤ (D0 : Int) := of_decide_eq_true Cmp.d
         have q8 : D0 < (a0.size : Int) := of_decide_eq_true Cmp.d
         have hx8 := bt_at a0 D0
         replace p8 := eq_true p8; replace q8 := eq_true q8
         have p10 : 0 ≤ (D0 : Int) := of_decide_eq_true Cmp.d
         have q10 : D0 < (a0.size : Int) := of_decide_eq_true Cmp.d
         have hx10 := bt_at a0 D0
         replace p10 := eq_true p10; replace q10 := eq_true q10
         go_wp2
         go_roundg k1
         case measure => have := HK1.out; omega
         case rel => exact ⟨(wrap64 (D0 + 1)), (by first | rfl | simp | simp [*]), H', ⟨by have := HK1.out; omega⟩, by repeat (first | exact Drawn0.refl _ | apply Drawn0.step)⟩
        ·rw [if_neg c11] at H; have c11b0 : decide ((bt a0 D0) ≤ 57) = false := decide_eq_false c11; clear c11
         by_cases c13 : ((bt a0 D0) = 45)
         ·rw [if_pos c13] at H; have c13b0 : ((bt a0 D0) == 45) = true := beq_iff_eq.mpr c13; have c13b1 : ((bt a0 D0) != 45) = false := bne_eq_false_iff_eq.mpr c13; clear c13
          have H' := Cmp.A H
          clear H
          have p4 : 0 ≤ (D0 : Int) := of_decide_eq_true Cmp.d
          have q4 : D0 < (a0.size : Int) := of_decide_eq_true Cmp.d
          have hx4 := bt_at a0 D0
          replace p4 := eq_true p4; replace q4 := eq_true q4
          have p6 : 0 ≤ (D0 : Int) := of_decide_eq_true Cmp.d
          have q6 : D0 < (a0.size : Int) := of_decide_eq_true Cmp.d
          have hx6 := bt_at a0 D0
          replace p6 := eq_true p6; replace q6 := eq_true q6
          have p8 : 0 ≤ (D0 : Int) := of_decide_eq_true Cmp.d
          have q8 : D0 < (a0.size : Int) := of_decide_eq_true Cmp.d
          have hx8 := bt_at a0 D0
          replace p8 := eq_true p8; replace q8 := eq_true q8
          have p10 : 0 ≤ (D0 : Int) := of_decide_eq_true Cmp.d
          have q10 : D0 < (a0.size : Int) := of_decide_eq_true Cmp.d
          have hx10 := bt_at a0 D0
          replace p10 := eq_true p10; replace q10 := eq_true q10
          have p12 : 0 ≤ (D0 : Int) := of_decide_eq_true Cmp.d
          have q12 : D0 < (a0.size : Int) := of_decide_eq_true Cmp.d
          have hx12 := bt_at a0 D0
          replace p12 := eq_true p12; replace q12 := eq_true q12
          go_wp2
          go_roundg k1
          case measure => have := HK1.out; omega
          case rel => exact ⟨(wrap64 (D0 + 1)), (by first | rfl | simp | simp [*]), H', ⟨by have := HK1.out; omega⟩, by repeat (first | exact Drawn0.refl _ | apply Drawn0.step)⟩
         ·rw [if_neg c13] at H; have c13b0 : ((bt a0 D0) == 45) = false := beq_eq_false_iff_ne.mpr c13; have c13b1 : ((bt a0 D0) != 45) = true := bne_iff_ne.mpr c13
          obtain rfl := Option.some.inj H
          have p4 : 0 ≤ (D0 : Int) := of_decide_eq_true Cmp.d
          have q4 : D0 < (a0.size : Int) := of_decide_eq_true Cmp.d
          have hx4 := bt_at a0 D0
          replace p4 := eq_true p4; replace q4 := eq_true q4
          have p6 : 0 ≤ (D0 : Int) := of_decide_eq_true Cmp.d
          have q6 : D0 < (a0.size : Int) := of_decide_eq_true Cmp.d
          have hx6 := bt_at a0 D0
          replace p6 := eq_true p6; replace q6 := eq_true q6
          have p8 : 0 ≤ (D0 : Int) := of_decide_eq_true Cmp.d
          have q8 : D0 < (a0.size : Int) := of_decide_eq_true Cmp.d
          have hx8 := bt_at a0 D0
          replace p8 := eq_true p8; replace q8 := eq_true q8
          have p10 : 0 ≤ (D0 : Int) := of_decide_eq_true Cmp.d
          have q10 : D0 < (a0.size : Int) := of_decide_eq_true Cmp.d
          have hx10 := bt_at a0 D0
          replace p10 := eq_true p10; replace q10 := eq_true q10
          have p12 : 0 ≤ (D0 : Int) := of_decide_eq_true Cmp.d
          have q12 : D0 < (a0.size : Int) := of_decide_eq_true Cmp.d
          have hx12 := bt_at a0 D0
          replace p12 := eq_true p12; replace q12 := eq_true q12
          go_wp2
          go_ret
          exact ⟨by first | rfl | (simp; done) | (simp [*]; done), by repeat (first | exact Drawn0.refl _ | apply Drawn0.step)⟩
       ·rw [if_neg c9] at H; have c9b0 : decide (48 ≤ (bt a0 D0)) = false := decide_eq_false c9; clear c9
        by_cases c15 : ((bt a0 D0) = 45)
        ·rw [if_pos c15] at H; have c15b0 : ((bt a0 D0) == 45) = true := beq_iff_eq.mpr c15; have c15b1 : ((bt a0 D0) != 45) = false := bne_eq_false_iff_eq.mpr c15; clear c15
         have H' := Cmp.A H
         clear H
         have p4 : 0 ≤ (D0 : Int) := of_decide_eq_true Cmp.d
         have q4 : D0 < (a0.size : Int) := of_decide_eq_true Cmp.d
         have hx4 := bt_at a0 D0
         replace p4 := eq_true p4; replace q4 := eq_true q4
         have p6 : 0 ≤ (D0 : Int) := of_decide_eq_true Cmp.d
         have q6 : D0 < (a0.size : Int) := of_decide_eq_true Cmp.d
         have hx6 := bt_at a0 D0
         replace p6 := eq_true p6; replace q6 := eq_true q6
         have p8 : 0 ≤ (D0 : Int) := of_decide_eq_true Cmp.d
         have q8 : D0 < (a0.size : Int) := of_decide_eq_true Cmp.d
         have hx8 := bt_at a0 D0
         replace p8 := eq_true p8; replace q8 := eq_true q8
         have p14 : 0 ≤ (D0 : Int) := of_decide_eq_true Cmp.d
         have q14 : D0 < (a0.size : Int) := of_decide_eq_true Cmp.d
         have hx14 := bt_at a0 D0
         replace p14 := eq_true p14; replace q14 := eq_true q14
         go_wp2
         go_roundg k1
         case measure => have := HK1.out; omega
         case rel => exact ⟨(wrap64 (D0 + 1)), (by first | rfl | simp | simp [*]), H', ⟨by have := HK1.out; omega⟩, by repeat (first | exact Drawn0.refl _ | apply Drawn0.step)⟩
        ·rw [if_neg c15] at H; have c15b0 : ((bt a0 D0) == 45) = false := beq_eq_false_iff_ne.mpr c15; have c15b1 : ((bt a0 D0) != 45) = true := bne_iff_ne.mpr c15
         obtain rfl := Option.some.inj H
         have p4 : 0 ≤ (D0 : Int) := of_decide_eq_true Cmp.d
         have q4 : D0 < (a0.size : Int) := of_decide_eq_true Cmp.d
         have hx4 := bt_at a0 D0
         replace p4 := eq_true p4; replace q4 := eq_true q4
         have p6 : 0 ≤ (D0 : Int) := of_decide_eq_true Cmp.d
         have q6 : D0 < (a0.size : Int) := of_decide_eq_true Cmp.d
         have hx6 := bt_at a0 D0
         replace p6 := eq_true p6; replace q6 := eq_true q6
         have p8 : 0 ≤ (D0 : Int) := of_decide_eq_true Cmp.d
         have q8 : D0 < (a0.size : Int) := of_decide_eq_true Cmp.d
         have hx8 := bt_at a0 D0
         replace p8 := eq_true p8; replace q8 := eq_true q8
         have p14 : 0 ≤ (D0 : Int) := of_decide_eq_true Cmp.d
         have q14 : D0 < (a0.size : Int) := of_decide_eq_true Cmp.d
         have hx14 := bt_at a0 D0
         replace p14 := eq_true p14; replace q14 := eq_true q14
         go_wp2
         go_ret
         exact ⟨by first | rfl | (simp; done) | (simp [*]; done), by repeat (first | exact Drawn0.refl _ | apply Drawn0.step)⟩
     ·rw [if_neg c5] at H; have c5b0 : decide (97 ≤ (bt a0 D0)) = false := decide_eq_false c5; clear c5
      by_cases c17 : (bt a0 D0) ≥ 48
      ·rw [if_pos c17] at H; have c17b0 : decide (48 ≤ (bt a0 D0)) = true := decide_eq_true c17; clear c17
       by_cases c19 : (bt a0 D0) ≤ 57
       ·rw [if_pos c19] at H; have c19b0 : decide ((bt a0 D0) ≤ 57) = true := decide_eq_true c19; clear c19
        have H' := Cmp.A H
        clear H
        have p4 : 0 ≤ (D0 : Int) := of_decide_eq_true Cmp.d
        have q4 : D0 < (a0.size : Int) := of_decide_eq_true Cmp.d
        have hx4 := bt_at a0 D0
        replace p4 := eq_true p4; replace q4 := eq_true q4
        have p16 : 0 ≤ (D0 : Int) := of_decide_eq_true Cmp.d
        have q16 : D0 < (a0.size : Int) := of_decide_eq_true Cmp.d
        have hx16 := bt_at a0 D0
        replace p16 := eq_true p16; replace q16 := eq_true q16
        have p18 : 0 ≤ (D0 : Int) := of_decide_eq_true Cmp.d
        have q18 : D0 < (a0.size : Int) := of_decide_eq_true Cmp.d
        have hx18 := bt_at a0 D0
        replace p18 := eq_true p18; replace q18 := eq_true q18
        go_wp2
        go_roundg k1
        case measure => have := HK1.out; omega
        case rel => exact ⟨(wrap64 (D0 + 1)), (by first | rfl | simp | simp [*]), H', ⟨by have := HK1.out; omega⟩, by repeat (first | exact Drawn0.refl _ | apply Drawn0.step)⟩
       ·rw [if_neg c19] at H; have c19b0 : decide ((bt a0 D0) ≤ 57) = false := decide_eq_false c19; clear c19
        by_cases c21 : ((bt a0 D0) = 45)
        ·rw [if_pos c21] at H; have c21b0 : ((bt a0 D0) == 45) = true := beq_iff_eq.mpr c21; have c21b1 : ((bt a0 D0) != 45) = false := bne_eq_false_iff_eq.mpr c21; clear c21
         have H' := Cmp.A H
         clear H
         have p4 : 0 ≤ (D0 : Int) := of_decide_eq_true Cmp.d
         have q4 : D0 < (a0.size : Int) := of_decide_eq_true Cmp.d
         have hx4 := bt_at a0 D0
         replace p4 := eq_true p4; replace q4 := eq_true q4
         have p16 : 0 ≤ (D0 : Int) := of_decide_eq_true Cmp.d
         have q16 : D0 < (a0.size : Int) := of_decide_eq_true Cmp.d
         have hx16 := bt_at a0 D0
         replace p16 := eq_true p16; replace q16 := eq_true q16
         have p18 : 0 ≤ (D0 : Int) := of_decide_eq_true Cmp.d
         have q18 : D0 < (a0.size : Int) := of_decide_eq_true Cmp.d
         have hx18 := bt_at a0 D0
         replace p18 := eq_true p18; replace q18 := eq_true q18
         have p20 : 0 ≤ (D0 : Int) := of_decide_eq_true Cmp.d
         have q20 : D0 < (a0.size : Int) := of_decide_eq_true Cmp.d
         have hx20 := bt_at a0 D0
         replace p20 := eq_true p20; replace q20 := eq_true q20
         go_wp2
         go_roundg k1
         case measure => have := HK1.out; omega
         case rel => exact ⟨(wrap64 (D0 + 1)), (by first | rfl | simp | simp [*]), H', ⟨by have := HK1.out; omega⟩, by repeat (first | exact Drawn0.refl _ | apply Drawn0.step)⟩
        ·rw [if_neg c21] at H; have c21b0 : ((bt a0 D0) == 45) = false := beq_eq_false_iff_ne.mpr c21; have c21b1 : ((bt a0 D0) != 45) = true := bne_iff_ne.mpr c21
         obtain rfl := Option.some.inj H
         have p4 : 0 ≤ (D0 : Int) := of_decide_eq_true Cmp.d
         have q4 : D0 < (a0.size : Int) := of_decide_eq_true Cmp.d
         have hx4 := bt_at a0 D0
         replace p4 := eq_true p4; replace q4 := eq_true q4
         have p16 : 0 ≤ (D0 : Int) := of_decide_eq_true Cmp.d
         have q16 : D0 < (a0.size : Int) := of_decide_eq_true Cmp.d
         have hx16 := bt_at a0 D0
         replace p16 := eq_true p16; replace q16 := eq_true q16
         have p18 : 0 ≤ (D0 : Int) := of_decide_eq_true Cmp.d
         have q18 : D0 < (a0.size : Int) := of_decide_eq_true Cmp.d
         have hx18 := bt_at a0 D0
         replace p18 := eq_true p18; replace q18 := eq_true q18
         have p20 : 0 ≤ (D0 : Int) := of_decide_eq_true Cmp.d
         have q20 : D0 < (a0.size : Int) := of_decide_eq_true Cmp.d
         have hx20 := bt_at a0 D0
         replace p20 := eq_true p20; replace q20 := eq_true q20
         go_wp2
         go_ret
         exact ⟨by first | rfl | (simp; done) | (simp [*]; done), by repeat (first | exact Drawn0.refl _ | apply Drawn0.step)⟩
      ·rw [if_neg c17] at H; have c17b0 : decide (48 ≤ (bt a0 D0)) = false := decide_eq_false c17; clear c17
       by_cases c23 : ((bt a0 D0) = 45)
       ·rw [if_pos c23] at H; have c23b0 : ((bt a0 D0) == 45) = true := beq_iff_eq.mpr c23; have c23b1 : ((bt a0 D0) != 45) = false := bne_eq_false_iff_eq.mpr c23; clear c23
        have H' := Cmp.A H
        clear H
        have p4 : 0 ≤ (D0 : Int) := of_decide_eq_true Cmp.d
        have q4 : D0 < (a0.size : Int) := of_decide_eq_true Cmp.d
        have hx4 := bt_at a0 D0
        replace p4 := eq_true p4; replace q4 := eq_true q4
        have p16 : 0 ≤ (D0 : Int) := of_decide_eq_true Cmp.d
        have q16 : D0 < (a0.size : Int) := of_decide_eq_true Cmp.d
        have hx16 := bt_at a0 D0
        replace p16 := eq_true p16; replace q16 := eq_true q16
        have p22 : 0 ≤ (D0 : Int) := of_decide_eq_true Cmp.d
        have q22 : D0 < (a0.size : Int) := of_decide_eq_true Cmp.d
        have hx22 := bt_at a0 D0
        replace p22 := eq_true p22; replace q22 := eq_true q22
        go_wp2
        go_roundg k1
        case measure => have := HK1.out; omega
        case rel => exact ⟨(wrap64 (D0 + 1)), (by first | rfl | simp | simp [*]), H', ⟨by have := HK1.out; omega⟩, by repeat (first | exact Drawn0.refl _ | apply Drawn0.step)⟩
       ·rw [if_neg c23] at H; have c23b0 : ((bt a0 D0) == 45) = false := beq_eq_false_iff_ne.mpr c23; have c23b1 : ((bt a0 D0) != 45) = true := bne_iff_ne.mpr c23
        obtain rfl := Option.some.inj H
        have p4 : 0 ≤ (D0 : Int) := of_decide_eq_true Cmp.d
        have q4 : D0 < (a0.size : Int) := of_decide_eq_true Cmp.d
        have hx4 := bt_at a0 D0
        replace p4 := eq_true p4; replace q4 := eq_true q4
        have p16 : 0 ≤ (D0 : Int) := of_decide_eq_true Cmp.d
        have q16 : D0 < (a0.size : Int) := of_decide_eq_true Cmp.d
        have hx16 := bt_at a0 D0
        replace p16 := eq_true p16; replace q16 := eq_true q16
        have p22 : 0 ≤ (D0 : Int) := of_decide_eq_true Cmp.d
        have q22 : D0 < (a0.size : Int) := of_decide_eq_true Cmp.d
        have hx22 := bt_at a0 D0
        replace p22 := eq_true p22; replace q22 := eq_true q22
        go_wp2
        go_ret
        exact ⟨by first | rfl | (simp; done) | (simp [*]; done), by repeat (first | exact Drawn0.refl _ | apply Drawn0.step)⟩
    ·rw [if_neg c3] at H; exact absurd H (by simp)
   ·rw [if_neg c2] at H
    have c2b0 : decide (D0 < (a0.size : Int)) = false := decide_eq_false c2
    clear c2; replace H := Option.bind_eq_some_iff.mp H; obtain ⟨D4, D2, H⟩ := H; (try dsimp only at H); have D3 := Cmp.A D2; clear D2
    by_cases c25 : D4 = true
    ·subst c25; rw [if_pos rfl] at H
     by_cases c26 : 0 < (a0.size : Int)
     ·rw [if_pos c26] at H
      have c26b0 : decide (0 < (a0.size : Int)) = true := decide_eq_true c26
      have c26b1 : decide (0 < a0.size) = true := decide_eq_true (by omega)
      clear c26
      by_cases c28 : (bt a0 0) = 45
      ·rw [if_pos c28] at H; have c28b0 : ((bt a0 0) == 45) = true := beq_iff_eq.mpr c28; have c28b1 : ((bt a0 0) != 45) = false := bne_eq_false_iff_eq.mpr c28; clear c28
       obtain rfl := Option.some.inj H
       go_wp2_with (first | ((with_reducible refine gate_callee (f := 27) rfl ?_); refine goesL_ (some 43) rfl rfl Tryd.func27 (by kernel_rfl) rfl #[.int .i64 (a0.size : Int), .int .i64 1, .int .i64 20] rfl Cmp.q ?_; (with_reducible refine (spec_l1In.calls (a0.size : Int) 1 20 true _ D3.out).mono ?_); rintro e w' ⟨rfl, ⟨nd, rfl⟩⟩; refine ⟨_, rfl, ?_⟩; have p27 : 0 ≤ (0 : Int) := (by omega); have q27 : 0 < a0.size := (by have : (0 : Int) < (a0.size : Int) := of_decide_eq_true Cmp.d; omega); have hx27 : ∀ h : 0 < a0.size, ((a0[0]'h).toNat : Int) = bt a0 0 := bt_at a0 0; clear p27; have qi27 : (0 < (a0.size : Int)) = True := eq_true (of_decide_eq_true Cmp.d); replace q27 := eq_true q27))
       go_ret
       exact ⟨by first | rfl | (simp; done) | (simp [*]; done), by repeat (first | exact Drawn0.refl _ | apply Drawn0.step)⟩
      ·rw [if_neg c28] at H; have c28b0 : ((bt a0 0) == 45) = false := beq_eq_false_iff_ne.mpr c28; have c28b1 : ((bt a0 0) != 45) = true := bne_iff_ne.mpr c28
       obtain ⟨D1, hji29⟩ : ∃ j_ : Int, (wrap64 ((a0.size : Int) - 1)) = j_ := ⟨_, rfl⟩
       replace H : (if 0 ≤ (D1) then (if (D1) < (a0.size : Int) then (some ((bt a0 (D1)) != 45)) else (none)) else (none)) = some r := by first | (rw [hji29] at H; exact H) | (simp only [hji29] at H ⊢; exact H)
       (try rw [hji29] at D3)
       have hji29w : (IntKind.i64.wrap ((a0.size : Int) - 1)) = D1 := (i64_w _).trans hji29
       by_cases c30 : 0 ≤ (D1)
       ·rw [if_pos c30] at H; have c30b0 : decide (0 ≤ (D1)) = true := decide_eq_true c30; clear c30
        by_cases c31 : (D1) < (a0.size : Int)
        ·rw [if_pos c31] at H
         have c31b0 : decide ((D1) < (a0.size : Int)) = true := decide_eq_true c31
         clear c31
         obtain rfl := Option.some.inj H
         go_wp2_with (first | ((with_reducible refine gate_callee (f := 27) rfl ?_); refine goesL_ (some 43) rfl rfl Tryd.func27 (by kernel_rfl) rfl #[.int .i64 (a0.size : Int), .int .i64 1, .int .i64 20] rfl Cmp.q ?_; (with_reducible refine (spec_l1In.calls (a0.size : Int) 1 20 true _ D3.out).mono ?_); rintro e w' ⟨rfl, ⟨nd, rfl⟩⟩; refine ⟨_, rfl, ?_⟩; have p27 : 0 ≤ (0 : Int) := (by omega); have q27 : 0 < a0.size := (by have : (0 : Int) < (a0.size : Int) := of_decide_eq_true Cmp.d; omega); have hx27 : ∀ h : 0 < a0.size, ((a0[0]'h).toNat : Int) = bt a0 0 := bt_at a0 0; clear p27; have qi27 : (0 < (a0.size : Int)) = True := eq_true (of_decide_eq_true Cmp.d); replace q27 := eq_true q27; have p32 : 0 ≤ ((D1) : Int) := of_decide_eq_true Cmp.d; have q32 : (D1) < (a0.size : Int) := of_decide_eq_true Cmp.d; have hx32 := bt_at a0 (D1); replace p32 := eq_true p32; replace q32 := eq_true q32))
         go_ret
         exact ⟨by first | rfl | (simp; done) | (simp only [← hji29] <;> (first | rfl | simp)) | (simp [*]; done), by repeat (first | exact Drawn0.refl _ | apply Drawn0.step)⟩
        ·rw [if_neg c31] at H; exact absurd H (by simp)
       ·rw [if_neg c30] at H; exact absurd H (by simp)
     ·rw [if_neg c26] at H; exact absurd H (by simp)
    ·replace c25 := Bool.eq_false_iff.mpr c25
     subst c25
     have H1 : (some false) = some r := by rw [if_neg (show ¬ (false = true) by decide)] at H; exact H
     clear H; have H := H1; clear H1
     obtain rfl := Option.some.inj H
     go_wp2_with (first | ((with_reducible refine gate_callee (f := 27) rfl ?_); refine goesL_ (some 43) rfl rfl Tryd.func27 (by kernel_rfl) rfl #[.int .i64 (a0.size : Int), .int .i64 1, .int .i64 20] rfl Cmp.q ?_; (with_reducible refine (spec_l1In.calls (a0.size : Int) 1 20 false _ D3.out).mono ?_); rintro e w' ⟨rfl, ⟨nd, rfl⟩⟩; refine ⟨_, rfl, ?_⟩))
     go_ret
     exact ⟨by first | rfl | (simp; done) | (simp [*]; done), by repeat (first | exact Drawn0.refl _ | apply Drawn0.step)⟩
/-! ### spec_IsHost: function 29 -/
def spec_IsHost.l0 : Nat → ByteArray → List ByteArray → Int → Option (Bool)
  | 0, _, _, _ => none
  | k + 1, x0, x3, x4 => if x4 < (x3.length : Int) then (if 0 ≤ x4 then ((spec_l9Label.f k (rdOf ByteArray.empty x3 x4)).bind fun t132 => (if t132 = true then (spec_IsHost.l0 k x0 x3 (wrap64 (x4 + 1))) else (some false))) else (none)) else (some (decide ((x0.size : Int) ≤ 60)))
def spec_IsHost.f (k : Nat) (a0 : ByteArray) : Option (Bool) := (spec_l9Labels.f k a0).bind fun t128 => (spec_IsHost.l0 k a0 t128 0)
theorem spec_IsHost.mono_l : ∀ k, (∀ y0 y1 y2, LeO (spec_IsHost.l0 k y0 y1 y2) (spec_IsHost.l0 (k + 1) y0 y1 y2))
 | 0 => fun _ _ _ r h => by simp [spec_IsHost.l0] at h
 | k + 1 => by
    have ih0 := spec_IsHost.mono_l k
    · intro y0 y1 y2
      unfold spec_IsHost.l0
      repeat' first
 | (with_reducible exact ih0 _ _ _)
 | (with_reducible exact spec_l9Label.mono _ _)
 | (with_reducible exact spec_l9Labels.mono _ _)
 | (with_reducible exact LeO.refl _)
 | (with_reducible exact LeO.none _)
 | (with_reducible refine LeO.ite ?_ ?_)
 | (with_reducible refine LeO.bind ?_ (fun _ => ?_))
theorem spec_IsHost.mono : ∀ a0 k, LeO (spec_IsHost.f k a0) (spec_IsHost.f (k + 1) a0) := by
  intro a0 k
  have ih0 := spec_IsHost.mono_l k
  unfold spec_IsHost.f
  repeat' first
 | (with_reducible exact ih0 _ _ _)
 | (with_reducible exact spec_l9Label.mono _ _)
 | (with_reducible exact spec_l9Labels.mono _ _)
 | (with_reducible exact LeO.refl _)
 | (with_reducible exact LeO.none _)
 | (with_reducible refine LeO.ite ?_ ?_)
 | (with_reducible refine LeO.bind ?_ (fun _ => ?_))
set_option maxHeartbeats 8000000 in
set_option maxRecDepth 100000 in
theorem spec_IsHost.calls (k : Nat) (a0 : ByteArray) (r : Bool) (w : World) (h : spec_IsHost.f k a0 = some r) :
    Calls Tryd.prog 29 #[.string a0] w fun e w' => e = .returned (.bool r) ∧ Below w.heap.size w w' := by
 have HB := Cmp.A (Below.refl w.heap.size w)
 have H : ((spec_l9Labels.f k a0).bind fun D1 => (spec_IsHost.l0 k a0 D1 0)) = some r := h
 clear h; replace H := Option.bind_eq_some_iff.mp H; obtain ⟨D1, D8, H⟩ := H; (try dsimp only at H); have A2 := Cmp.A D8; clear D8
 have H' := Cmp.A H
 clear H
 go_enter Tryd.func29, Tryd.ntmps29
 go_wp2_with (first | ((with_reducible refine gate_callee (f := 35) rfl ?_); refine goesL_ (some 6) rfl rfl Tryd.func35 (by kernel_rfl) rfl #[.string a0] rfl Cmp.q ?_; (with_reducible refine (spec_l9Labels.calls k a0 D1 _ A2.out).mono ?_); rintro e w3 ⟨v129, rfl, Da, hb⟩; refine ⟨_, rfl, ?_⟩; have D4 := Cmp.A (Kd.R_lower Da (below_size (Cmp.g HB.out))); replace HB := Cmp.bs HB hb; (try clear hb); (try clear hb2); (try clear hk); (try clear hi); (try clear Da)))
 go_loopg [4] k (fun kq v4 w' => ∃ (D0 : Int), v4 = .int .i64 D0 ∧ Aside0 (spec_IsHost.l0 kq a0 D1 D0 = some r) ∧ Aside0 (kq ≤ k) ∧ Aside0 (Kd.R Kd.string 9 w' w.heap.size (fun _ => True) v129 D1) ∧ Aside0 (Below w.heap.size w w'))
 case atStart => exact ⟨(0), (by first | rfl | simp | simp [*]), H', ⟨Nat.le_refl _⟩, ⟨Cmp.rr D4.out⟩, ⟨Cmp.g HB.out⟩⟩
 case round =>
  clear H'
  (try clear c2); (try clear p2); (try clear c3)
  obtain ⟨D0, rfl, HA, HK1, D2, HB⟩ := hrel
  cases gk with
  | zero => exact absurd HA.out (by simp [spec_IsHost.l0])
  | succ k1 =>
   have H := HA.out; clear HA
   simp only [spec_IsHost.l0] at H
   by_cases c4 : D0 < (D1.length : Int)
   ·rw [if_pos c4] at H
    have c4b0 : decide (D0 < (D1.length : Int)) = true := decide_eq_true c4
    clear c4
    by_cases c5 : 0 ≤ D0
    ·rw [if_pos c5] at H; have c5b0 : decide (0 ≤ D0) = true := decide_eq_true c5; clear c5; replace H := Option.bind_eq_some_iff.mp H; obtain ⟨D7, D9, H⟩ := H; (try dsimp only at H); have A6 := Cmp.A D9; clear D9
     by_cases c7 : D7 = true
     ·subst c7; rw [if_pos rfl] at H
      have H' := Cmp.A H
      clear H
      obtain ⟨Df, Dh, Dd⟩ := Kd.R_slice D2.out
      subst Dd
      have p131 : 0 ≤ (D0 : Int) := of_decide_eq_true Cmp.d
      have q131 : D0 < (D1.length : Int) := of_decide_eq_true Cmp.d
      obtain ⟨D5, e131, D3⟩ := Kd.at_string (Kd.R_reads' D2.out).2.2 D0 p131 q131
      cases e131; replace p131 := eq_true p131; replace q131 := eq_true q131
      go_wp2_with (first | ((with_reducible refine gate_callee (f := 36) rfl ?_); refine goesL_ (some 17) rfl rfl Tryd.func36 (by kernel_rfl) rfl #[.string (rdOf ByteArray.empty D1 D0)] rfl Cmp.q ?_; (with_reducible refine (spec_l9Label.calls k1 (rdOf ByteArray.empty D1 D0) true _ A6.out).mono ?_); rintro e w' ⟨rfl, ⟨nd, rfl⟩⟩; refine ⟨_, rfl, ?_⟩))
      go_roundg k1
      case measure => have := HK1.out; omega
      case rel => exact ⟨(wrap64 (D0 + 1)), (by first | rfl | simp | simp [*]), H', ⟨by have := HK1.out; omega⟩, ⟨Cmp.rr D2.out⟩, ⟨Cmp.g HB.out⟩⟩
     ·replace c7 := Bool.eq_false_iff.mpr c7
      subst c7
      have H1 : (some false) = some r := by rw [if_neg (show ¬ (false = true) by decide)] at H; exact H
      clear H; have H := H1; clear H1
      obtain rfl := Option.some.inj H
      obtain ⟨Dg, Di, De⟩ := Kd.R_slice D2.out
      subst De
      have p131 : 0 ≤ (D0 : Int) := of_decide_eq_true Cmp.d
      have q131 : D0 < (D1.length : Int) := of_decide_eq_true Cmp.d
      obtain ⟨D5, e131, D3⟩ := Kd.at_string (Kd.R_reads' D2.out).2.2 D0 p131 q131
      cases e131; replace p131 := eq_true p131; replace q131 := eq_true q131
      go_wp2_with (first | ((with_reducible refine gate_callee (f := 36) rfl ?_); refine goesL_ (some 17) rfl rfl Tryd.func36 (by kernel_rfl) rfl #[.string (rdOf ByteArray.empty D1 D0)] rfl Cmp.q ?_; (with_reducible refine (spec_l9Label.calls k1 (rdOf ByteArray.empty D1 D0) false _ A6.out).mono ?_); rintro e w' ⟨rfl, ⟨nd, rfl⟩⟩; refine ⟨_, rfl, ?_⟩))
      go_ret
      exact ⟨by first | rfl | (simp [errW_none, errW_some] <;> rfl) | (simp [*, errW_none, errW_some] <;> rfl), Cmp.g HB.out⟩
    ·rw [if_neg c5] at H; exact absurd H (by simp)
   ·rw [if_neg c4] at H
    have c4b0 : decide (D0 < (D1.length : Int)) = false := decide_eq_false c4
    clear c4
    obtain rfl := Option.some.inj H
    obtain ⟨Db, Dc, D6⟩ := Kd.R_slice D2.out
    subst D6
    go_wp2
    go_ret
    exact ⟨by first | rfl | (simp [errW_none, errW_some] <;> rfl) | (simp [*, errW_none, errW_some] <;> rfl), Cmp.g HB.out⟩
/-! ### spec_IsOrigin: function 18 -/
def spec_IsOrigin.f (k : Nat) (a0_0 : Bool) (a0_1 : ByteArray) (a0_2 : Int) : Option (Bool) := (spec_IsHost.f k a0_1).bind fun t134 => (if t134 = true then ((spec_l1In.f a0_2 1 65535).bind fun t135 => (some t135)) else (some false))
theorem spec_IsOrigin.mono : ∀ a0 a1 a2 k, LeO (spec_IsOrigin.f k a0 a1 a2) (spec_IsOrigin.f (k + 1) a0 a1 a2) := by
  intro a0 a1 a2 k
  unfold spec_IsOrigin.f
  repeat' first
 | (with_reducible exact spec_IsHost.mono _ _)
 | (with_reducible exact LeO.refl _)
 | (with_reducible exact LeO.none _)
 | (with_reducible refine LeO.ite ?_ ?_)
 | (with_reducible refine LeO.bind ?_ (fun _ => ?_))
set_option maxHeartbeats 8000000 in
set_option maxRecDepth 100000 in
theorem spec_IsOrigin.calls (k : Nat) (a0_0 : Bool) (a0_1 : ByteArray) (a0_2 : Int) (r : Bool) (w : World) (h : spec_IsOrigin.f k a0_0 a0_1 a0_2 = some r) :
    Calls Tryd.prog 18 #[.agg #[.bool a0_0, .string a0_1, .int .i64 a0_2]] w fun e w' => e = .returned (.bool r) ∧ Below w.heap.size w w' := by
 have hu38 := Tryd.underlying38
 have HB := Cmp.A (Below.refl w.heap.size w)
 have H : ((spec_IsHost.f k a0_1).bind fun D1 => (if D1 = true then ((spec_l1In.f a0_2 1 65535).bind fun D2 => (some D2)) else (some false))) = some r := h
 clear h; replace H := Option.bind_eq_some_iff.mp H; obtain ⟨D1, Do, H⟩ := H; (try dsimp only at H); have A2 := Cmp.A Do; clear Do
 by_cases c3 : D1 = true
 ·subst c3; rw [if_pos rfl] at H; replace H := Option.bind_eq_some_iff.mp H; obtain ⟨D2, Dp, H⟩ := H; (try dsimp only at H); have A4 := Cmp.A Dp; clear Dp
  obtain rfl := Option.some.inj H
  go_enter Tryd.func18, Tryd.ntmps18
  go_wp2_with (first | ((with_reducible refine gate_dst (N := 1) rfl ?_); refine box_event ?hg (N := 1) ?hd (cs := #[.bool a0_0, .string a0_1, .int .i64 a0_2]) (t := 38) ?hr ?_; (case hd => rfl); (case hg => rfl); (case hr => first | (go_simp; done) | (go_simp; rfl)); intro D5 hg w5 hbox hb; have D0 := Cmp.A (hbox); have D4 := Cmp.gw hg HB; have D3 := Cmp.gw hg HB; replace HB := Cmp.bs HB hb; clear hb hbox hg; obtain ⟨Dc, Dd, De⟩ := Cmp.q3 D0; obtain ⟨Di, Dj, Dk⟩ := Cmp.f3 D0) | ((with_reducible refine gate_callee (f := 29) rfl ?_); refine goesL_ (some 5) rfl rfl Tryd.func29 (by kernel_rfl) rfl #[.string a0_1] rfl Cmp.q ?_; (with_reducible refine (spec_IsHost.calls k a0_1 true _ A2.out).mono ?_); rintro e w7 ⟨rfl, hb⟩; refine ⟨_, rfl, ?_⟩; replace D0 := Cmp.be D0 hb; replace HB := Cmp.bs HB hb; (try clear hb); (try clear hb2); (try clear hk); (try clear hi); obtain ⟨Df, Dg, Dh⟩ := Cmp.q3 D0; obtain ⟨Dl, Dm, Dn⟩ := Cmp.f3 D0) | (go_at_call 27; (with_reducible refine (spec_l1In.calls a0_2 1 65535 D2 _ A4.out).mono ?_); rintro e w' ⟨rfl, ⟨nd, rfl⟩⟩))
  go_ret
  exact ⟨by first | rfl | (simp [errW_none, errW_some] <;> rfl) | (simp [*, errW_none, errW_some] <;> rfl), Cmp.g HB.out⟩
 ·replace c3 := Bool.eq_false_iff.mpr c3
  subst c3
  have H1 : (some false) = some r := by rw [if_neg (show ¬ (false = true) by decide)] at H; exact H
  clear H; have H := H1; clear H1
  obtain rfl := Option.some.inj H
  go_enter Tryd.func18, Tryd.ntmps18
  go_wp2_with (first | ((with_reducible refine gate_dst (N := 1) rfl ?_); refine box_event ?hg (N := 1) ?hd (cs := #[.bool a0_0, .string a0_1, .int .i64 a0_2]) (t := 38) ?hr ?_; (case hd => rfl); (case hg => rfl); (case hr => first | (go_simp; done) | (go_simp; rfl)); intro D5 hg w9 hbox hb; have D0 := Cmp.A (hbox); have D4 := Cmp.gw hg HB; have D3 := Cmp.gw hg HB; replace HB := Cmp.bs HB hb; clear hb hbox hg; obtain ⟨D6, D7, D8⟩ := Cmp.q3 D0; obtain ⟨D9, Da, Db⟩ := Cmp.f3 D0) | ((with_reducible refine gate_callee (f := 29) rfl ?_); refine goesL_ (some 5) rfl rfl Tryd.func29 (by kernel_rfl) rfl #[.string a0_1] rfl Cmp.q ?_; (with_reducible refine (spec_IsHost.calls k a0_1 false _ A2.out).mono ?_); rintro e w11 ⟨rfl, hb⟩; refine ⟨_, rfl, ?_⟩; replace D0 := Cmp.be D0 hb; replace HB := Cmp.bs HB hb; (try clear hb); (try clear hb2); (try clear hk); (try clear hi)))
  go_ret
  exact ⟨by first | rfl | (simp [errW_none, errW_some] <;> rfl) | (simp [*, errW_none, errW_some] <;> rfl), Cmp.g HB.out⟩
/-! ### spec_OpenTab: function 7 -/
def spec_OpenTab.f (k : Nat) (a0_0 : Int) (a0_1 : Int) (a0_2 : Int) (a0_3 : Int) (l0_4 : List (S49)) (a0_5 : Int) (a1_0 : Bool) (a1_1 : ByteArray) (a1_2 : Int) (a2_0 : Bool) (a2_1 : ByteArray) (a2_2 : Int) : Option (Int × Int × Int × Int × (List (S49)) × Int × Bool) := (spec_l16Copy.f a0_0 a0_1 a0_2 a0_3 l0_4 a0_5).bind fun bt140 => ((spec_IsOrigin.f k a1_0 a1_1 a1_2).bind fun t149 => (if t149 = true then ((spec_IsOrigin.f k a2_0 a2_1 a2_2).bind fun t150 => (if t150 = true then (if (l0_4.length : Int) ≥ 8 then (some (bt140.1, bt140.2.1, bt140.2.2.1, bt140.2.2.2.1, bt140.2.2.2.2.1, bt140.2.2.2.2.2, false)) else (if bt140.2.2.2.2.1.length < 2199023255552 then (some (bt140.1, bt140.2.1, bt140.2.2.1, bt140.2.2.2.1, (bt140.2.2.2.2.1 ++ [(⟨(⟨a1_0, a1_1, a1_2⟩ : S38), (⟨a2_0, a2_1, a2_2⟩ : S38)⟩ : S49)]), bt140.2.2.2.2.2, true)) else (none))) else (some (bt140.1, bt140.2.1, bt140.2.2.1, bt140.2.2.2.1, bt140.2.2.2.2.1, bt140.2.2.2.2.2, false)))) else (some (bt140.1, bt140.2.1, bt140.2.2.1, bt140.2.2.2.1, bt140.2.2.2.2.1, bt140.2.2.2.2.2, false))))
theorem spec_OpenTab.mono : ∀ a0 a1 a2 a3 a4 a5 a6 a7 a8 a9 a10 a11 k, LeO (spec_OpenTab.f k a0 a1 a2 a3 a4 a5 a6 a7 a8 a9 a10 a11) (spec_OpenTab.f (k + 1) a0 a1 a2 a3 a4 a5 a6 a7 a8 a9 a10 a11) := by
  intro a0 a1 a2 a3 a4 a5 a6 a7 a8 a9 a10 a11 k
  unfold spec_OpenTab.f
  repeat' first
 | (with_reducible exact spec_IsOrigin.mono _ _ _ _)
 | (with_reducible exact LeO.refl _)
 | (with_reducible exact LeO.none _)
 | (with_reducible refine LeO.ite ?_ ?_)
 | (with_reducible refine LeO.bind ?_ (fun _ => ?_))
set_option maxHeartbeats 8000000 in
set_option maxRecDepth 100000 in
theorem spec_OpenTab.calls (k : Nat) (a0_0 : Int) (a0_1 : Int) (a0_2 : Int) (a0_3 : Int) (A0_4 : Option Addr) (c0_4 : Nat) (l0_4 : List (S49)) (a0_5 : Int) (a1_0 : Bool) (a1_1 : ByteArray) (a1_2 : Int) (a2_0 : Bool) (a2_1 : ByteArray) (a2_2 : Int) (r1 : Int) (r2 : Int) (r3 : Int) (r4 : Int) (r5 : List (S49)) (r6 : Int) (r7 : Bool) (w : World) (hr0_4 : Kd.C k49 w A0_4 l0_4.length l0_4) (hc0_4 : l0_4.length ≤ c0_4) (h : spec_OpenTab.f k a0_0 a0_1 a0_2 a0_3 l0_4 a0_5 a1_0 a1_1 a1_2 a2_0 a2_1 a2_2 = some (r1, r2, r3, r4, r5, r6, r7)) :
    Calls Tryd.prog 7 #[.agg #[.int .i64 a0_0, .int .i64 a0_1, .int .i64 a0_2, .int .i64 a0_3, .slice A0_4 l0_4.length c0_4, .int .i64 a0_5], .agg #[.bool a1_0, .string a1_1, .int .i64 a1_2], .agg #[.bool a2_0, .string a2_1, .int .i64 a2_2]] w fun e w' => ∃ v4_ : Value, e = .returned (.tuple #[.agg #[.int .i64 r1, .int .i64 r2, .int .i64 r3, .int .i64 r4, v4_, .int .i64 r6], .bool r7]) ∧ Kd.R k49 49 w' w.heap.size (fun _ => True) v4_ r5 ∧ Below w.heap.size w w' := by
 have hu34 := Tryd.underlying34; have hu38 := Tryd.underlying38; have hu49 := Tryd.underlying49; have E2 := Cmp.A hr0_4; have HC0_4 := Cmp.A hc0_4; clear hr0_4 hc0_4
 have HB := Cmp.A (Below.refl w.heap.size w)
 have H : ((spec_l16Copy.f a0_0 a0_1 a0_2 a0_3 l0_4 a0_5).bind fun bt140 => ((spec_IsOrigin.f k a1_0 a1_1 a1_2).bind fun Ep => (if Ep = true then ((spec_IsOrigin.f k a2_0 a2_1 a2_2).bind fun Eq => (if Eq = true then (if (l0_4.length : Int) ≥ 8 then (some (bt140.1, bt140.2.1, bt140.2.2.1, bt140.2.2.2.1, bt140.2.2.2.2.1, bt140.2.2.2.2.2, false)) else (if bt140.2.2.2.2.1.length < 2199023255552 then (some (bt140.1, bt140.2.1, bt140.2.2.1, bt140.2.2.2.1, (bt140.2.2.2.2.1 ++ [(⟨(⟨a1_0, a1_1, a1_2⟩ : S38), (⟨a2_0, a2_1, a2_2⟩ : S38)⟩ : S49)]), bt140.2.2.2.2.2, true)) else (none))) else (some (bt140.1, bt140.2.1, bt140.2.2.1, bt140.2.2.2.1, bt140.2.2.2.2.1, bt140.2.2.2.2.2, false)))) else (some (bt140.1, bt140.2.1, bt140.2.2.1, bt140.2.2.2.1, bt140.2.2.2.2.1, bt140.2.2.2.2.2, false))))) = some (r1, r2, r3, r4, r5, r6, r7) := h
 clear h; replace H := Option.bind_eq_some_iff.mp H; obtain ⟨⟨Dt, Du, Dv, Dw, Ds, Dx⟩, Q6, H⟩ := H; (try dsimp only at H); have A4 := Cmp.A Q6; clear Q6; replace H := Option.bind_eq_some_iff.mp H; obtain ⟨Ep, Q7, H⟩ := H; (try dsimp only at H); have A5 := Cmp.A Q7; clear Q7
 by_cases c6 : Ep = true
 ·subst c6; rw [if_pos rfl] at H; replace H := Option.bind_eq_some_iff.mp H; obtain ⟨Eq, Q8, H⟩ := H; (try dsimp only at H); have A7 := Cmp.A Q8; clear Q8
  by_cases c8 : Eq = true
  ·subst c8; rw [if_pos rfl] at H
   by_cases c9 : (l0_4.length : Int) ≥ 8
   ·rw [if_pos c9] at H
    have c9b0 : decide (8 ≤ (l0_4.length : Int)) = true := decide_eq_true c9
    have c9b1 : decide (8 ≤ l0_4.length) = true := decide_eq_true (by omega)
    clear c9
    simp only [Option.some.injEq, Prod.mk.injEq] at H
    obtain ⟨rfl, rfl, rfl, rfl, rfl, rfl, rfl⟩ := H
    go_enter Tryd.func7, Tryd.ntmps7
    go_wp2_with (first | ((with_reducible refine gate_dst (N := 3) rfl ?_); (try (refine gate_guard (by rfl) ?_; dsimp only)); refine box_event ?hg (N := 3) ?hd (cs := #[.int .i64 a0_0, .int .i64 a0_1, .int .i64 a0_2, .int .i64 a0_3, .slice A0_4 l0_4.length c0_4, .int .i64 a0_5]) (t := 34) ?hr ?_; (case hd => rfl); (case hg => rfl); (case hr => first | (go_simp; done) | (go_simp; rfl)); intro Dy hg w10 hbox hb; have D0 := Cmp.A (hbox); have E9 := Cmp.gw hg HB; have E4 := Cmp.gw hg HB; replace HB := Cmp.bs HB hb; clear hb hbox hg) | ((with_reducible refine gate_dst (N := 4) rfl ?_); (try (refine gate_guard (by rfl) ?_; dsimp only)); refine box_event ?hg (N := 4) ?hd (cs := #[.bool a1_0, .string a1_1, .int .i64 a1_2]) (t := 38) ?hr ?_; (case hd => rfl); (case hg => rfl); (case hr => first | (go_simp; done) | (go_simp; rfl)); intro Dz hg w11 hbox hb; have D2 := Cmp.A (hbox); have Ea := Cmp.gw hg HB; have E5 := Cmp.gw hg HB; have D8 := Cmp.nl hg D0; have Dc := Cmp.ng hg D0; replace D0 := Cmp.be D0 hb; replace HB := Cmp.bs HB hb; clear hb hbox hg) | ((with_reducible refine gate_dst (N := 5) rfl ?_); (try (refine gate_guard (by rfl) ?_; dsimp only)); refine box_event ?hg (N := 5) ?hd (cs := #[.bool a2_0, .string a2_1, .int .i64 a2_2]) (t := 38) ?hr ?_; (case hd => rfl); (case hg => rfl); (case hr => first | (go_simp; done) | (go_simp; rfl)); intro E0 hg w12 hbox hb; have D4 := Cmp.A (hbox); have Eb := Cmp.gw hg HB; have E6 := Cmp.gw hg HB; have D9 := Cmp.nl hg D0; have Dg := Cmp.ng hg D0; have Dd := Cmp.nl hg D2; have Dh := Cmp.ng hg D2; replace D0 := Cmp.be D0 hb; replace D2 := Cmp.be D2 hb; replace HB := Cmp.bs HB hb; clear hb hbox hg) | ((with_reducible refine gate_dst (N := 6) rfl ?_); (try (refine gate_guard (by rfl) ?_; dsimp only)); refine box_event ?hg (N := 6) ?hd (cs := #[.int .i64 0, .int .i64 0, .int .i64 0, .int .i64 0, .slice none 0 0, .int .i64 0]) (t := 34) ?hr ?_; (case hd => rfl); (case hg => rfl); (case hr => first | (go_simp; done) | (go_simp; rfl)); intro D6 hg w13 hbox hb; have D3 := Cmp.A (hbox); have Ec := Cmp.gw hg HB; have E7 := Cmp.gw hg HB; have Da := Cmp.nl hg D0; have Dk := Cmp.ng hg D0; have De := Cmp.nl hg D2; have Dl := Cmp.ng hg D2; have Di := Cmp.nl hg D4; have Dm := Cmp.ng hg D4; replace D0 := Cmp.be D0 hb; replace D2 := Cmp.be D2 hb; replace D4 := Cmp.be D4 hb; replace HB := Cmp.bs HB hb; clear hb hbox hg; have Q9 := D8.out; have R6 := Dc.out; have Qa := D9.out; have R7 := Dg.out; have Qb := Da.out; have R8 := Dk.out; obtain ⟨Gb, Gc, Gd, Ge, Gf, Gg⟩ := Cmp.q6 D0; obtain ⟨Li, Lj, Lk, Ll, Lm, Ln⟩ := Cmp.f6 D0) | ((with_reducible refine gate_callee (f := 17) rfl ?_); refine goesL_ (some 10) rfl rfl Tryd.func17 (by kernel_rfl) rfl #[.agg #[.int .i64 a0_0, .int .i64 a0_1, .int .i64 a0_2, .int .i64 a0_3, .slice A0_4 l0_4.length c0_4, .int .i64 a0_5]] rfl Cmp.q ?_; (with_reducible refine (spec_l16Copy.calls a0_0 a0_1 a0_2 a0_3 _ _ l0_4 a0_5 Dt Du Dv Dw Ds Dx _ ?side1 ?side2 A4.out).mono ?_); (case side1 => exact Cmp.rc (Kd.C_below E2.out HB.out)); (case side2 => exact HC0_4.out); rintro e w18 ⟨v145, rfl, Ee, hb⟩; refine ⟨_, rfl, ?_⟩; have D5 := Cmp.A (Kd.R_lower Ee (below_size (Cmp.g HB.out))); replace D0 := Cmp.be D0 hb; replace D2 := Cmp.be D2 hb; replace D4 := Cmp.be D4 hb; replace D3 := Cmp.be D3 hb; replace HB := Cmp.bs HB hb; (try clear hb); (try clear hb2); (try clear hk); (try clear hi); (try clear Ee)) | ((with_reducible refine gate_dst (N := 8) rfl ?_); (try (refine gate_guard (by rfl) ?_; dsimp only)); refine box_event ?hg (N := 8) ?hd (cs := #[.int .i64 0, .int .i64 0, .int .i64 0, .int .i64 0, .slice none 0 0, .int .i64 0]) (t := 34) ?hr ?_; (case hd => rfl); (case hg => rfl); (case hr => first | (go_simp; done) | (go_simp; rfl)); intro D7 hg w19 hbox hb; have D1 := Cmp.A (hbox); have Ed := Cmp.gw hg HB; have E8 := Cmp.gw hg HB; have Db := Cmp.nl hg D0; have Do := Cmp.ng hg D0; have Df := Cmp.nl hg D2; have Dp := Cmp.ng hg D2; have Dj := Cmp.nl hg D4; have Dq := Cmp.ng hg D4; have Dn := Cmp.nl hg D3; have Dr := Cmp.ng hg D3; replace D5 := Cmp.A (Kd.R_below (Cmp.rr D5.out) hb); replace D0 := Cmp.be D0 hb; replace D2 := Cmp.be D2 hb; replace D4 := Cmp.be D4 hb; replace D3 := Cmp.be D3 hb; replace HB := Cmp.bs HB hb; clear hb hbox hg; have Qc := Do.out; have R9 := Db.out; have Qd := Dp.out; have Ra := Df.out; have Qe := Dq.out; have Rb := Dj.out; have Qf := Dr.out; have Rc := Dn.out; obtain ⟨Gh, Gi, Gj, Gk, Gl, Gm⟩ := Cmp.q6 D1; obtain ⟨Lo, Lp, Lq, Lr, Ls, Lt⟩ := Cmp.f6 D1; obtain ⟨Ef, Eh, Po⟩ := Kd.R_slice D5.out; subst Po; have Qg := Dd.out; have Rd := Dh.out; have Qh := De.out; have Re := Dl.out; obtain ⟨Gn, Go, Gp⟩ := Cmp.q3 D2; obtain ⟨Lu, Lv, Lw⟩ := Cmp.f3 D2) | ((with_reducible refine gate_callee (f := 18) rfl ?_); refine goesL_ (some 12) rfl rfl Tryd.func18 (by kernel_rfl) rfl #[.agg #[.bool a1_0, .string a1_1, .int .i64 a1_2]] rfl Cmp.q ?_; (with_reducible refine (spec_IsOrigin.calls k a1_0 a1_1 a1_2 true _ A5.out).mono ?_); rintro e w29 ⟨rfl, hb⟩; refine ⟨_, rfl, ?_⟩; replace D5 := Cmp.A (Kd.R_below (Cmp.rm (Kd.R_far (p := ⟨D7, 5, none⟩) (Kd.R_far (p := ⟨D7, 4, none⟩) (Kd.R_far (p := ⟨D7, 3, none⟩) (Kd.R_far (p := ⟨D7, 2, none⟩) (Kd.R_far (p := ⟨D7, 1, none⟩) (Kd.R_far (p := ⟨D7, 0, none⟩) (Kd.R_types D5.out D1.out (by decide)) (fun _ hk => hk.2) (.int .i64 Dt)) (fun _ hk => hk.2) (.int .i64 Du)) (fun _ hk => hk.2) (.int .i64 Dv)) (fun _ hk => hk.2) (.int .i64 Dw)) (fun _ hk => hk.2) (.slice Ef Ds.length Eh)) (fun _ hk => hk.2) (.int .i64 Dx)) (fun _ h_ => h_.1)) hb); replace D0 := Cmp.A (blk_below (g := Dy) (o := .cells #[.int .i64 a0_0, .int .i64 a0_1, .int .i64 a0_2, .int .i64 a0_3, .slice A0_4 l0_4.length c0_4, .int .i64 a0_5] 34 (0, 0)) (Cmp.bw D0.out) hb); replace D2 := Cmp.A (blk_below (g := Dz) (o := .cells #[.bool a1_0, .string a1_1, .int .i64 a1_2] 38 (0, 0)) (Cmp.bw D2.out) hb); replace D4 := Cmp.A (blk_below (g := E0) (o := .cells #[.bool a2_0, .string a2_1, .int .i64 a2_2] 38 (0, 0)) (Cmp.bw D4.out) hb); replace D3 := Cmp.A (blk_below (g := D6) (o := .cells #[.int .i64 0, .int .i64 0, .int .i64 0, .int .i64 0, .slice none 0 0, .int .i64 0] 34 (0, 0)) (Cmp.bw D3.out) hb); replace D1 := Cmp.A (blk_below (g := D7) (o := .cells #[.int .i64 Dt, .int .i64 Du, .int .i64 Dv, .int .i64 Dw, .slice Ef Ds.length Eh, .int .i64 Dx] 34 (0, 0)) (Cmp.bw D1.out) hb); replace HB := Cmp.bs HB hb; (try clear hb); (try clear hb2); (try clear hk); (try clear hi); have Qi := Di.out; have Rf := Dm.out; obtain ⟨Gq, Gr, Gs⟩ := Cmp.q3 D4; obtain ⟨Lx, Ly, Lz⟩ := Cmp.f3 D4) | (go_at_call 18; (with_reducible refine (spec_IsOrigin.calls k a2_0 a2_1 a2_2 true _ A7.out).mono ?_); rintro e w32 ⟨rfl, hb⟩; replace D5 := Cmp.A (Kd.R_below (Cmp.rr D5.out) hb); replace D0 := Cmp.be D0 hb; replace D2 := Cmp.be D2 hb; replace D4 := Cmp.be D4 hb; replace D3 := Cmp.be D3 hb; replace D1 := Cmp.be D1 hb; replace HB := Cmp.bs HB hb; (try clear hb); (try clear hb2); (try clear hk); (try clear hi); obtain ⟨Gt, Gu, Gv, Gw, Gx, Gy⟩ := Cmp.q6 D0; obtain ⟨M0, M1, M2, M3, M4, M5⟩ := Cmp.f6 D0; obtain ⟨Gz, J0, J1, J2, J3, J4⟩ := Cmp.q6 D1; obtain ⟨M6, M7, M8, M9, Ma, Mb⟩ := Cmp.f6 D1; obtain ⟨J5, J6, J7, J8, J9, Ja⟩ := Cmp.q6 D3; obtain ⟨Mc, Md, Me, Mf, Mg, Mh⟩ := Cmp.f6 D3))
    refine bodyPost_ret (results_ct rfl _ _ D6 34 #[.int .i64 Dt, .int .i64 Du, .int .i64 Dv, .int .i64 Dw, .slice Ef Ds.length Eh, .int .i64 Dx] (0, 0) _ rfl (Cmp.bw D3.out) Tryd.underlying34 rfl (by kernel_rfl)) rfl ?_
    exact ⟨_, by first | rfl | (simp [errW_none, errW_some] <;> rfl) | (simp [*, errW_none, errW_some] <;> rfl), by (with_reducible repeat (first | apply Kd.R_alloc | apply Kd.R_drewN | apply Kd.R_drew)); exact Kd.R_mono (Kd.R_far (p := ⟨D6, 5, none⟩) (Kd.R_far (p := ⟨D6, 4, none⟩) (Kd.R_far (p := ⟨D6, 3, none⟩) (Kd.R_far (p := ⟨D6, 2, none⟩) (Kd.R_far (p := ⟨D6, 1, none⟩) (Kd.R_far (p := ⟨D6, 0, none⟩) (Kd.R_types D5.out D3.out (by decide)) (fun _ hk => hk.2) (.int .i64 Dt)) (fun _ hk => hk.2) (.int .i64 Du)) (fun _ hk => hk.2) (.int .i64 Dv)) (fun _ hk => hk.2) (.int .i64 Dw)) (fun _ hk => hk.2) (.slice Ef Ds.length Eh)) (fun _ hk => hk.2) (.int .i64 Dx)) (fun _ hk => trivial), Cmp.g HB.out⟩
   ·rw [if_neg c9] at H
    have c9b0 : decide (8 ≤ (l0_4.length : Int)) = false := decide_eq_false c9
    have c9b1 : decide (8 ≤ l0_4.length) = false := decide_eq_false (by omega)
    clear c9
    by_cases c36 : Ds.length < 2199023255552
    ·rw [if_pos c36] at H; have LMc36 := Cmp.A c36; clear c36
     obtain ⟨Ej, hy151⟩ : ∃ y_ : List (S49), y_ = (Ds ++ [(⟨(⟨a1_0, a1_1, a1_2⟩ : S38), (⟨a2_0, a2_1, a2_2⟩ : S38)⟩ : S49)]) := ⟨_, rfl⟩
     replace H : (some (Dt, Du, Dv, Dw, Ej, Dx, true)) = some (r1, r2, r3, r4, r5, r6, r7) := Cmp.hy hy151 H
     have Er := Cmp.A hy151; clear hy151
     simp only [Option.some.injEq, Prod.mk.injEq] at H
     obtain ⟨rfl, rfl, rfl, rfl, rfl, rfl, rfl⟩ := H
     go_enter Tryd.func7, Tryd.ntmps7
     go_wp2_with (first | ((with_reducible refine gate_dst (N := 3) rfl ?_); (try (refine gate_guard (by rfl) ?_; dsimp only)); refine box_event ?hg (N := 3) ?hd (cs := #[.int .i64 a0_0, .int .i64 a0_1, .int .i64 a0_2, .int .i64 a0_3, .slice A0_4 l0_4.length c0_4, .int .i64 a0_5]) (t := 34) ?hr ?_; (case hd => rfl); (case hg => rfl); (case hr => first | (go_simp; done) | (go_simp; rfl)); intro Dy hg w37 hbox hb; have D0 := Cmp.A (hbox); have E9 := Cmp.gw hg HB; have E4 := Cmp.gw hg HB; replace HB := Cmp.bs HB hb; clear hb hbox hg) | ((with_reducible refine gate_dst (N := 4) rfl ?_); (try (refine gate_guard (by rfl) ?_; dsimp only)); refine box_event ?hg (N := 4) ?hd (cs := #[.bool a1_0, .string a1_1, .int .i64 a1_2]) (t := 38) ?hr ?_; (case hd => rfl); (case hg => rfl); (case hr => first | (go_simp; done) | (go_simp; rfl)); intro Dz hg w38 hbox hb; have D2 := Cmp.A (hbox); have Ea := Cmp.gw hg HB; have E5 := Cmp.gw hg HB; have D8 := Cmp.nl hg D0; have Dc := Cmp.ng hg D0; replace D0 := Cmp.be D0 hb; replace HB := Cmp.bs HB hb; clear hb hbox hg) | ((with_reducible refine gate_dst (N := 5) rfl ?_); (try (refine gate_guard (by rfl) ?_; dsimp only)); refine box_event ?hg (N := 5) ?hd (cs := #[.bool a2_0, .string a2_1, .int .i64 a2_2]) (t := 38) ?hr ?_; (case hd => rfl); (case hg => rfl); (case hr => first | (go_simp; done) | (go_simp; rfl)); intro E0 hg w39 hbox hb; have D4 := Cmp.A (hbox); have Eb := Cmp.gw hg HB; have E6 := Cmp.gw hg HB; have D9 := Cmp.nl hg D0; have Dg := Cmp.ng hg D0; have Dd := Cmp.nl hg D2; have Dh := Cmp.ng hg D2; replace D0 := Cmp.be D0 hb; replace D2 := Cmp.be D2 hb; replace HB := Cmp.bs HB hb; clear hb hbox hg) | ((with_reducible refine gate_dst (N := 6) rfl ?_); (try (refine gate_guard (by rfl) ?_; dsimp only)); refine box_event ?hg (N := 6) ?hd (cs := #[.int .i64 0, .int .i64 0, .int .i64 0, .int .i64 0, .slice none 0 0, .int .i64 0]) (t := 34) ?hr ?_; (case hd => rfl); (case hg => rfl); (case hr => first | (go_simp; done) | (go_simp; rfl)); intro D6 hg w40 hbox hb; have D3 := Cmp.A (hbox); have Ec := Cmp.gw hg HB; have E7 := Cmp.gw hg HB; have Da := Cmp.nl hg D0; have Dk := Cmp.ng hg D0; have De := Cmp.nl hg D2; have Dl := Cmp.ng hg D2; have Di := Cmp.nl hg D4; have Dm := Cmp.ng hg D4; replace D0 := Cmp.be D0 hb; replace D2 := Cmp.be D2 hb; replace D4 := Cmp.be D4 hb; replace HB := Cmp.bs HB hb; clear hb hbox hg; have Qj := D8.out; have Rg := Dc.out; have Qk := D9.out; have Rh := Dg.out; have Ql := Da.out; have Ri := Dk.out; obtain ⟨Jb, Jc, Jd, Je, Jf, Jg⟩ := Cmp.q6 D0; obtain ⟨Mi, Mj, Mk, Ml, Mm, Mn⟩ := Cmp.f6 D0) | ((with_reducible refine gate_callee (f := 17) rfl ?_); refine goesL_ (some 10) rfl rfl Tryd.func17 (by kernel_rfl) rfl #[.agg #[.int .i64 a0_0, .int .i64 a0_1, .int .i64 a0_2, .int .i64 a0_3, .slice A0_4 l0_4.length c0_4, .int .i64 a0_5]] rfl Cmp.q ?_; (with_reducible refine (spec_l16Copy.calls a0_0 a0_1 a0_2 a0_3 _ _ l0_4 a0_5 Dt Du Dv Dw Ds Dx _ ?side1 ?side2 A4.out).mono ?_); (case side1 => exact Cmp.rc (Kd.C_below E2.out HB.out)); (case side2 => exact HC0_4.out); rintro e w45 ⟨v145, rfl, Ee, hb⟩; refine ⟨_, rfl, ?_⟩; have D5 := Cmp.A (Kd.R_lower Ee (below_size (Cmp.g HB.out))); replace D0 := Cmp.be D0 hb; replace D2 := Cmp.be D2 hb; replace D4 := Cmp.be D4 hb; replace D3 := Cmp.be D3 hb; replace HB := Cmp.bs HB hb; (try clear hb); (try clear hb2); (try clear hk); (try clear hi); (try clear Ee)) | ((with_reducible refine gate_dst (N := 8) rfl ?_); (try (refine gate_guard (by rfl) ?_; dsimp only)); refine box_event ?hg (N := 8) ?hd (cs := #[.int .i64 0, .int .i64 0, .int .i64 0, .int .i64 0, .slice none 0 0, .int .i64 0]) (t := 34) ?hr ?_; (case hd => rfl); (case hg => rfl); (case hr => first | (go_simp; done) | (go_simp; rfl)); intro D7 hg w46 hbox hb; have D1 := Cmp.A (hbox); have Ed := Cmp.gw hg HB; have E8 := Cmp.gw hg HB; have Db := Cmp.nl hg D0; have Do := Cmp.ng hg D0; have Df := Cmp.nl hg D2; have Dp := Cmp.ng hg D2; have Dj := Cmp.nl hg D4; have Dq := Cmp.ng hg D4; have Dn := Cmp.nl hg D3; have Dr := Cmp.ng hg D3; replace D5 := Cmp.A (Kd.R_below (Cmp.rr D5.out) hb); replace D0 := Cmp.be D0 hb; replace D2 := Cmp.be D2 hb; replace D4 := Cmp.be D4 hb; replace D3 := Cmp.be D3 hb; replace HB := Cmp.bs HB hb; clear hb hbox hg; have Qm := Do.out; have Rj := Db.out; have Qn := Dp.out; have Rk := Df.out; have Qo := Dq.out; have Rl := Dj.out; have Qp := Dr.out; have Rm := Dn.out; obtain ⟨Jh, Ji, Jj, Jk, Jl, Jm⟩ := Cmp.q6 D1; obtain ⟨Mo, Mp, Mq, Mr, Ms, Mt⟩ := Cmp.f6 D1; obtain ⟨El, En, Pp⟩ := Kd.R_slice D5.out; subst Pp; have Qq := Dd.out; have Rn := Dh.out; have Qr := De.out; have Ro := Dl.out; obtain ⟨Jn, Jo, Jp⟩ := Cmp.q3 D2; obtain ⟨Mu, Mv, Mw⟩ := Cmp.f3 D2) | ((with_reducible refine gate_callee (f := 18) rfl ?_); refine goesL_ (some 12) rfl rfl Tryd.func18 (by kernel_rfl) rfl #[.agg #[.bool a1_0, .string a1_1, .int .i64 a1_2]] rfl Cmp.q ?_; (with_reducible refine (spec_IsOrigin.calls k a1_0 a1_1 a1_2 true _ A5.out).mono ?_); rintro e w56 ⟨rfl, hb⟩; refine ⟨_, rfl, ?_⟩; replace D5 := Cmp.A (Kd.R_below (Cmp.rm (Kd.R_far (p := ⟨D7, 5, none⟩) (Kd.R_far (p := ⟨D7, 4, none⟩) (Kd.R_far (p := ⟨D7, 3, none⟩) (Kd.R_far (p := ⟨D7, 2, none⟩) (Kd.R_far (p := ⟨D7, 1, none⟩) (Kd.R_far (p := ⟨D7, 0, none⟩) (Kd.R_types D5.out D1.out (by decide)) (fun _ hk => hk.2) (.int .i64 Dt)) (fun _ hk => hk.2) (.int .i64 Du)) (fun _ hk => hk.2) (.int .i64 Dv)) (fun _ hk => hk.2) (.int .i64 Dw)) (fun _ hk => hk.2) (.slice El Ds.length En)) (fun _ hk => hk.2) (.int .i64 Dx)) (fun _ h_ => h_.1)) hb); replace D0 := Cmp.A (blk_below (g := Dy) (o := .cells #[.int .i64 a0_0, .int .i64 a0_1, .int .i64 a0_2, .int .i64 a0_3, .slice A0_4 l0_4.length c0_4, .int .i64 a0_5] 34 (0, 0)) (Cmp.bw D0.out) hb); replace D2 := Cmp.A (blk_below (g := Dz) (o := .cells #[.bool a1_0, .string a1_1, .int .i64 a1_2] 38 (0, 0)) (Cmp.bw D2.out) hb); replace D4 := Cmp.A (blk_below (g := E0) (o := .cells #[.bool a2_0, .string a2_1, .int .i64 a2_2] 38 (0, 0)) (Cmp.bw D4.out) hb); replace D3 := Cmp.A (blk_below (g := D6) (o := .cells #[.int .i64 0, .int .i64 0, .int .i64 0, .int .i64 0, .slice none 0 0, .int .i64 0] 34 (0, 0)) (Cmp.bw D3.out) hb); replace D1 := Cmp.A (blk_below (g := D7) (o := .cells #[.int .i64 Dt, .int .i64 Du, .int .i64 Dv, .int .i64 Dw, .slice El Ds.length En, .int .i64 Dx] 34 (0, 0)) (Cmp.bw D1.out) hb); replace HB := Cmp.bs HB hb; (try clear hb); (try clear hb2); (try clear hk); (try clear hi); have Qs := Di.out; have Rp := Dm.out; obtain ⟨Jq, Jr, Js⟩ := Cmp.q3 D4; obtain ⟨Mx, My, Mz⟩ := Cmp.f3 D4) | (go_at_call 18; (with_reducible refine (spec_IsOrigin.calls k a2_0 a2_1 a2_2 true _ A7.out).mono ?_); rintro e w59 ⟨rfl, hb⟩; replace D5 := Cmp.A (Kd.R_below (Cmp.rr D5.out) hb); replace D0 := Cmp.be D0 hb; replace D2 := Cmp.be D2 hb; replace D4 := Cmp.be D4 hb; replace D3 := Cmp.be D3 hb; replace D1 := Cmp.be D1 hb; replace HB := Cmp.bs HB hb; (try clear hb); (try clear hb2); (try clear hk); (try clear hi); obtain ⟨Jt, Ju, Jv, Jw, Jx, Jy⟩ := Cmp.q6 D0; obtain ⟨N0, N1, N2, N3, N4, N5⟩ := Cmp.f6 D0; obtain ⟨Jz, K0, K1, K2, K3, K4⟩ := Cmp.q6 D1; obtain ⟨N6, N7, N8, N9, Na, Nb⟩ := Cmp.f6 D1; obtain ⟨K5, K6, K7⟩ := Cmp.q3 D2; obtain ⟨Nc, Nd, Ne⟩ := Cmp.f3 D2; obtain ⟨K8, K9, Ka⟩ := Cmp.q3 D4; obtain ⟨Nf, Ng, Nh⟩ := Cmp.f3 D4) | ((with_reducible refine gate_builtin (b := .append) (xs := #[.tmp 27, .tmp 31]) rfl ?_); (try (refine gate_guard (by rfl) ?_; dsimp only)); at_builtin; refine Kd.R_append k49 (w0 := w) w.heap.size rfl (.tmp 27) (.tmp 31) 32 49 (.agg #[(.bool false), (.string ⟨#[]⟩), (.int .i64 0), (.bool false), (.string ⟨#[]⟩), (.int .i64 0)]) 64 rfl Tryd.underlying32 info49 rfl (by decide) (by omega) (.slice El Ds.length En) Ds (⟨(⟨a1_0, a1_1, a1_2⟩ : S38), (⟨a2_0, a2_1, a2_2⟩ : S38)⟩ : S49) [.bool a1_0, .string a1_1, .int .i64 a1_2, .bool a2_0, .string a2_1, .int .i64 a2_2] (fun _ => True) (fun _ => False) rfl rfl ?aP (fun _ hk => hk.elim) ?aF ?aO ?aB ?aS ?aL ?_; (case aP => exact k49_mkM _ _ _ (⟨(⟨a1_0, a1_1, a1_2⟩ : S38), (⟨a2_0, a2_1, a2_2⟩ : S38)⟩ : S49)); (case aB => exact (Cmp.g HB.out)); (case aF => exact (fun _ _ => trivial)); (case aO => exact (Cmp.rr D5.out)); (case aS => exact (below_size (Cmp.g HB.out))); (case aL => have := LMc36.out; omega); intro v152 w64 ho hb hg hat; rw [← Er.out] at ho; have Ek := Cmp.A (ho); replace D0 := Cmp.bg D0 hg (Kd.R_ne D5.out D0.out (by decide)); replace D2 := Cmp.bg D2 hg (Kd.R_ne D5.out D2.out (by decide)); replace D4 := Cmp.bg D4 hg (Kd.R_ne D5.out D4.out (by decide)); replace D3 := Cmp.bg D3 hg (Kd.R_ne D5.out D3.out (by decide)); replace D1 := Cmp.bg D1 hg (Kd.R_ne D5.out D1.out (by decide)); replace HB := Cmp.A (hb); clear D5; clear ho hb hg hat; obtain ⟨Em, Eo, Pq⟩ := Kd.R_slice Ek.out; subst Pq; obtain ⟨Kb, Kc, Ke, Kf, Kg, Kh⟩ := Cmp.q6 D1; obtain ⟨Ni, Nj, Nk, Nl, Nm, Nn⟩ := Cmp.f6 D1; obtain ⟨Ki, Kj, Kk, Kl, Km, Kn⟩ := Cmp.q6 D3; obtain ⟨No, Np, Nq, Nr, Ns, Nt⟩ := Cmp.f6 D3))
     refine bodyPost_ret (results_ct rfl _ _ D6 34 #[.int .i64 Dt, .int .i64 Du, .int .i64 Dv, .int .i64 Dw, .slice Em Ej.length Eo, .int .i64 Dx] (0, 0) _ rfl (Cmp.bw D3.out) Tryd.underlying34 rfl (by kernel_rfl)) rfl ?_
     exact ⟨_, by first | rfl | (simp [errW_none, errW_some] <;> rfl) | (simp [*, errW_none, errW_some] <;> rfl), by (with_reducible repeat (first | apply Kd.R_alloc | apply Kd.R_drewN | apply Kd.R_drew)); exact Kd.R_mono (Kd.R_far (p := ⟨D6, 5, none⟩) (Kd.R_far (p := ⟨D6, 4, none⟩) (Kd.R_far (p := ⟨D6, 3, none⟩) (Kd.R_far (p := ⟨D6, 2, none⟩) (Kd.R_far (p := ⟨D6, 1, none⟩) (Kd.R_far (p := ⟨D6, 0, none⟩) (Kd.R_far (p := ⟨D7, 4, none⟩) (Kd.R_types (Kd.R_types Ek.out D1.out (by decide)) D3.out (by decide)) (fun _ hk => hk.1.2) (.slice Em Ej.length Eo)) (fun _ hk => hk.2) (.int .i64 Dt)) (fun _ hk => hk.2) (.int .i64 Du)) (fun _ hk => hk.2) (.int .i64 Dv)) (fun _ hk => hk.2) (.int .i64 Dw)) (fun _ hk => hk.2) (.slice Em Ej.length Eo)) (fun _ hk => hk.2) (.int .i64 Dx)) (fun _ hk => trivial), Cmp.g HB.out⟩
    ·rw [if_neg c36] at H; exact absurd H (by simp)
  ·replace c8 := Bool.eq_false_iff.mpr c8
   subst c8
   have H1 : (some (Dt, Du, Dv, Dw, Ds, Dx, false)) = some (r1, r2, r3, r4, r5, r6, r7) := by rw [if_neg (show ¬ (false = true) by decide)] at H; exact H
   clear H; have H := H1; clear H1
   simp only [Option.some.injEq, Prod.mk.injEq] at H
   obtain ⟨rfl, rfl, rfl, rfl, rfl, rfl, rfl⟩ := H
   go_enter Tryd.func7, Tryd.ntmps7
   go_wp2_with (first | ((with_reducible refine gate_dst (N := 3) rfl ?_); (try (refine gate_guard (by rfl) ?_; dsimp only)); refine box_event ?hg (N := 3) ?hd (cs := #[.int .i64 a0_0, .int .i64 a0_1, .int .i64 a0_2, .int .i64 a0_3, .slice A0_4 l0_4.length c0_4, .int .i64 a0_5]) (t := 34) ?hr ?_; (case hd => rfl); (case hg => rfl); (case hr => first | (go_simp; done) | (go_simp; rfl)); intro Dy hg w68 hbox hb; have D0 := Cmp.A (hbox); have E9 := Cmp.gw hg HB; have E4 := Cmp.gw hg HB; replace HB := Cmp.bs HB hb; clear hb hbox hg) | ((with_reducible refine gate_dst (N := 4) rfl ?_); (try (refine gate_guard (by rfl) ?_; dsimp only)); refine box_event ?hg (N := 4) ?hd (cs := #[.bool a1_0, .string a1_1, .int .i64 a1_2]) (t := 38) ?hr ?_; (case hd => rfl); (case hg => rfl); (case hr => first | (go_simp; done) | (go_simp; rfl)); intro Dz hg w69 hbox hb; have D2 := Cmp.A (hbox); have Ea := Cmp.gw hg HB; have E5 := Cmp.gw hg HB; have D8 := Cmp.nl hg D0; have Dc := Cmp.ng hg D0; replace D0 := Cmp.be D0 hb; replace HB := Cmp.bs HB hb; clear hb hbox hg) | ((with_reducible refine gate_dst (N := 5) rfl ?_); (try (refine gate_guard (by rfl) ?_; dsimp only)); refine box_event ?hg (N := 5) ?hd (cs := #[.bool a2_0, .string a2_1, .int .i64 a2_2]) (t := 38) ?hr ?_; (case hd => rfl); (case hg => rfl); (case hr => first | (go_simp; done) | (go_simp; rfl)); intro E0 hg w70 hbox hb; have D4 := Cmp.A (hbox); have Eb := Cmp.gw hg HB; have E6 := Cmp.gw hg HB; have D9 := Cmp.nl hg D0; have Dg := Cmp.ng hg D0; have Dd := Cmp.nl hg D2; have Dh := Cmp.ng hg D2; replace D0 := Cmp.be D0 hb; replace D2 := Cmp.be D2 hb; replace HB := Cmp.bs HB hb; clear hb hbox hg) | ((with_reducible refine gate_dst (N := 6) rfl ?_); (try (refine gate_guard (by rfl) ?_; dsimp only)); refine box_event ?hg (N := 6) ?hd (cs := #[.int .i64 0, .int .i64 0, .int .i64 0, .int .i64 0, .slice none 0 0, .int .i64 0]) (t := 34) ?hr ?_; (case hd => rfl); (case hg => rfl); (case hr => first | (go_simp; done) | (go_simp; rfl)); intro D6 hg w71 hbox hb; have D3 := Cmp.A (hbox); have Ec := Cmp.gw hg HB; have E7 := Cmp.gw hg HB; have Da := Cmp.nl hg D0; have Dk := Cmp.ng hg D0; have De := Cmp.nl hg D2; have Dl := Cmp.ng hg D2; have Di := Cmp.nl hg D4; have Dm := Cmp.ng hg D4; replace D0 := Cmp.be D0 hb; replace D2 := Cmp.be D2 hb; replace D4 := Cmp.be D4 hb; replace HB := Cmp.bs HB hb; clear hb hbox hg; have Qt := D8.out; have Rq := Dc.out; have Qu := D9.out; have Rr := Dg.out; have Qv := Da.out; have Rs := Dk.out; obtain ⟨Ko, Kp, Kq, Kr, Ks, Kt⟩ := Cmp.q6 D0; obtain ⟨Nu, Nv, Nw, Nx, Ny, Nz⟩ := Cmp.f6 D0) | ((with_reducible refine gate_callee (f := 17) rfl ?_); refine goesL_ (some 10) rfl rfl Tryd.func17 (by kernel_rfl) rfl #[.agg #[.int .i64 a0_0, .int .i64 a0_1, .int .i64 a0_2, .int .i64 a0_3, .slice A0_4 l0_4.length c0_4, .int .i64 a0_5]] rfl Cmp.q ?_; (with_reducible refine (spec_l16Copy.calls a0_0 a0_1 a0_2 a0_3 _ _ l0_4 a0_5 Dt Du Dv Dw Ds Dx _ ?side1 ?side2 A4.out).mono ?_); (case side1 => exact Cmp.rc (Kd.C_below E2.out HB.out)); (case side2 => exact HC0_4.out); rintro e w76 ⟨v145, rfl, Ee, hb⟩; refine ⟨_, rfl, ?_⟩; have D5 := Cmp.A (Kd.R_lower Ee (below_size (Cmp.g HB.out))); replace D0 := Cmp.be D0 hb; replace D2 := Cmp.be D2 hb; replace D4 := Cmp.be D4 hb; replace D3 := Cmp.be D3 hb; replace HB := Cmp.bs HB hb; (try clear hb); (try clear hb2); (try clear hk); (try clear hi); (try clear Ee)) | ((with_reducible refine gate_dst (N := 8) rfl ?_); (try (refine gate_guard (by rfl) ?_; dsimp only)); refine box_event ?hg (N := 8) ?hd (cs := #[.int .i64 0, .int .i64 0, .int .i64 0, .int .i64 0, .slice none 0 0, .int .i64 0]) (t := 34) ?hr ?_; (case hd => rfl); (case hg => rfl); (case hr => first | (go_simp; done) | (go_simp; rfl)); intro D7 hg w77 hbox hb; have D1 := Cmp.A (hbox); have Ed := Cmp.gw hg HB; have E8 := Cmp.gw hg HB; have Db := Cmp.nl hg D0; have Do := Cmp.ng hg D0; have Df := Cmp.nl hg D2; have Dp := Cmp.ng hg D2; have Dj := Cmp.nl hg D4; have Dq := Cmp.ng hg D4; have Dn := Cmp.nl hg D3; have Dr := Cmp.ng hg D3; replace D5 := Cmp.A (Kd.R_below (Cmp.rr D5.out) hb); replace D0 := Cmp.be D0 hb; replace D2 := Cmp.be D2 hb; replace D4 := Cmp.be D4 hb; replace D3 := Cmp.be D3 hb; replace HB := Cmp.bs HB hb; clear hb hbox hg; have Qw := Do.out; have Rt := Db.out; have Qx := Dp.out; have Ru := Df.out; have Qy := Dq.out; have Rv := Dj.out; have Qz := Dr.out; have Rw := Dn.out; obtain ⟨Ku, Kv, Kw, Kx, Ky, Kz⟩ := Cmp.q6 D1; obtain ⟨P0, P1, P2, P3, P4, P5⟩ := Cmp.f6 D1; obtain ⟨Eg, Ei, Pr⟩ := Kd.R_slice D5.out; subst Pr; have R0 := Dd.out; have Rx := Dh.out; have R1 := De.out; have Ry := Dl.out; obtain ⟨L0, L1, L2⟩ := Cmp.q3 D2; obtain ⟨P6, P7, P8⟩ := Cmp.f3 D2) | ((with_reducible refine gate_callee (f := 18) rfl ?_); refine goesL_ (some 12) rfl rfl Tryd.func18 (by kernel_rfl) rfl #[.agg #[.bool a1_0, .string a1_1, .int .i64 a1_2]] rfl Cmp.q ?_; (with_reducible refine (spec_IsOrigin.calls k a1_0 a1_1 a1_2 true _ A5.out).mono ?_); rintro e w87 ⟨rfl, hb⟩; refine ⟨_, rfl, ?_⟩; replace D5 := Cmp.A (Kd.R_below (Cmp.rm (Kd.R_far (p := ⟨D7, 5, none⟩) (Kd.R_far (p := ⟨D7, 4, none⟩) (Kd.R_far (p := ⟨D7, 3, none⟩) (Kd.R_far (p := ⟨D7, 2, none⟩) (Kd.R_far (p := ⟨D7, 1, none⟩) (Kd.R_far (p := ⟨D7, 0, none⟩) (Kd.R_types D5.out D1.out (by decide)) (fun _ hk => hk.2) (.int .i64 Dt)) (fun _ hk => hk.2) (.int .i64 Du)) (fun _ hk => hk.2) (.int .i64 Dv)) (fun _ hk => hk.2) (.int .i64 Dw)) (fun _ hk => hk.2) (.slice Eg Ds.length Ei)) (fun _ hk => hk.2) (.int .i64 Dx)) (fun _ h_ => h_.1)) hb); replace D0 := Cmp.A (blk_below (g := Dy) (o := .cells #[.int .i64 a0_0, .int .i64 a0_1, .int .i64 a0_2, .int .i64 a0_3, .slice A0_4 l0_4.length c0_4, .int .i64 a0_5] 34 (0, 0)) (Cmp.bw D0.out) hb); replace D2 := Cmp.A (blk_below (g := Dz) (o := .cells #[.bool a1_0, .string a1_1, .int .i64 a1_2] 38 (0, 0)) (Cmp.bw D2.out) hb); replace D4 := Cmp.A (blk_below (g := E0) (o := .cells #[.bool a2_0, .string a2_1, .int .i64 a2_2] 38 (0, 0)) (Cmp.bw D4.out) hb); replace D3 := Cmp.A (blk_below (g := D6) (o := .cells #[.int .i64 0, .int .i64 0, .int .i64 0, .int .i64 0, .slice none 0 0, .int .i64 0] 34 (0, 0)) (Cmp.bw D3.out) hb); replace D1 := Cmp.A (blk_below (g := D7) (o := .cells #[.int .i64 Dt, .int .i64 Du, .int .i64 Dv, .int .i64 Dw, .slice Eg Ds.length Ei, .int .i64 Dx] 34 (0, 0)) (Cmp.bw D1.out) hb); replace HB := Cmp.bs HB hb; (try clear hb); (try clear hb2); (try clear hk); (try clear hi); have R2 := Di.out; have Rz := Dm.out; obtain ⟨L3, L4, L5⟩ := Cmp.q3 D4; obtain ⟨P9, Pa, Pb⟩ := Cmp.f3 D4) | (go_at_call 18; (with_reducible refine (spec_IsOrigin.calls k a2_0 a2_1 a2_2 false _ A7.out).mono ?_); rintro e w90 ⟨rfl, hb⟩; replace D5 := Cmp.A (Kd.R_below (Cmp.rr D5.out) hb); replace D0 := Cmp.be D0 hb; replace D2 := Cmp.be D2 hb; replace D4 := Cmp.be D4 hb; replace D3 := Cmp.be D3 hb; replace D1 := Cmp.be D1 hb; replace HB := Cmp.bs HB hb; (try clear hb); (try clear hb2); (try clear hk); (try clear hi); obtain ⟨L6, L7, L8, L9, La, Lb⟩ := Cmp.q6 D1; obtain ⟨Pc, Pd, Pe, Pf, Pg, Ph⟩ := Cmp.f6 D1; obtain ⟨Lc, Ld, Le, Lf, Lg, Lh⟩ := Cmp.q6 D3; obtain ⟨Pi, Pj, Pk, Pl, Pm, Pn⟩ := Cmp.f6 D3))
   refine bodyPost_ret (results_ct rfl _ _ D6 34 #[.int .i64 Dt, .int .i64 Du, .int .i64 Dv, .int .i64 Dw, .slice Eg Ds.length Ei, .int .i64 Dx] (0, 0) _ rfl (Cmp.bw D3.out) Tryd.underlying34 rfl (by kernel_rfl)) rfl ?_
   exact ⟨_, by first | rfl | (simp [errW_none, errW_some] <;> rfl) | (simp [*, errW_none, errW_some] <;> rfl), by (with_reducible repeat (first | apply Kd.R_alloc | apply Kd.R_drewN | apply Kd.R_drew)); exact Kd.R_mono (Kd.R_far (p := ⟨D6, 5, none⟩) (Kd.R_far (p := ⟨D6, 4, none⟩) (Kd.R_far (p := ⟨D6, 3, none⟩) (Kd.R_far (p := ⟨D6, 2, none⟩) (Kd.R_far (p := ⟨D6, 1, none⟩) (Kd.R_far (p := ⟨D6, 0, none⟩) (Kd.R_types D5.out D3.out (by decide)) (fun _ hk => hk.2) (.int .i64 Dt)) (fun _ hk => hk.2) (.int .i64 Du)) (fun _ hk => hk.2) (.int .i64 Dv)) (fun _ hk => hk.2) (.int .i64 Dw)) (fun _ hk => hk.2) (.slice Eg Ds.length Ei)) (fun _ hk => hk.2) (.int .i64 Dx)) (fun _ hk => trivial), Cmp.g HB.out⟩
 ·replace c6 := Bool.eq_false_iff.mpr c6
  subst c6
  have H1 : (some (Dt, Du, Dv, Dw, Ds, Dx, false)) = some (r1, r2, r3, r4, r5, r6, r7) := by rw [if_neg (show ¬ (false = true) by decide)] at H; exact H
  clear H; have H := H1; clear H1
  simp only [Option.some.injEq, Prod.mk.injEq] at H
  obtain ⟨rfl, rfl, rfl, rfl, rfl, rfl, rfl⟩ := H
  go_enter Tryd.func7, Tryd.ntmps7
  go_wp2_with (first | ((with_reducible refine gate_dst (N := 3) rfl ?_); (try (refine gate_guard (by rfl) ?_; dsimp only)); refine box_event ?hg (N := 3) ?hd (cs := #[.int .i64 a0_0, .int .i64 a0_1, .int .i64 a0_2, .int .i64 a0_3, .slice A0_4 l0_4.length c0_4, .int .i64 a0_5]) (t := 34) ?hr ?_; (case hd => rfl); (case hg => rfl); (case hr => first | (go_simp; done) | (go_simp; rfl)); intro Dy hg w93 hbox hb; have D0 := Cmp.A (hbox); have E9 := Cmp.gw hg HB; have E4 := Cmp.gw hg HB; replace HB := Cmp.bs HB hb; clear hb hbox hg) | ((with_reducible refine gate_dst (N := 4) rfl ?_); (try (refine gate_guard (by rfl) ?_; dsimp only)); refine box_event ?hg (N := 4) ?hd (cs := #[.bool a1_0, .string a1_1, .int .i64 a1_2]) (t := 38) ?hr ?_; (case hd => rfl); (case hg => rfl); (case hr => first | (go_simp; done) | (go_simp; rfl)); intro Dz hg w94 hbox hb; have D2 := Cmp.A (hbox); have Ea := Cmp.gw hg HB; have E5 := Cmp.gw hg HB; have D8 := Cmp.nl hg D0; have Dc := Cmp.ng hg D0; replace D0 := Cmp.be D0 hb; replace HB := Cmp.bs HB hb; clear hb hbox hg) | ((with_reducible refine gate_dst (N := 5) rfl ?_); (try (refine gate_guard (by rfl) ?_; dsimp only)); refine box_event ?hg (N := 5) ?hd (cs := #[.bool a2_0, .string a2_1, .int .i64 a2_2]) (t := 38) ?hr ?_; (case hd => rfl); (case hg => rfl); (case hr => first | (go_simp; done) | (go_simp; rfl)); intro E0 hg w95 hbox hb; have D4 := Cmp.A (hbox); have Eb := Cmp.gw hg HB; have E6 := Cmp.gw hg HB; have D9 := Cmp.nl hg D0; have Dg := Cmp.ng hg D0; have Dd := Cmp.nl hg D2; have Dh := Cmp.ng hg D2; replace D0 := Cmp.be D0 hb; replace D2 := Cmp.be D2 hb; replace HB := Cmp.bs HB hb; clear hb hbox hg) | ((with_reducible refine gate_dst (N := 6) rfl ?_); (try (refine gate_guard (by rfl) ?_; dsimp only)); refine box_event ?hg (N := 6) ?hd (cs := #[.int .i64 0, .int .i64 0, .int .i64 0, .int .i64 0, .slice none 0 0, .int .i64 0]) (t := 34) ?hr ?_; (case hd => rfl); (case hg => rfl); (case hr => first | (go_simp; done) | (go_simp; rfl)); intro D6 hg w96 hbox hb; have D3 := Cmp.A (hbox); have Ec := Cmp.gw hg HB; have E7 := Cmp.gw hg HB; have Da := Cmp.nl hg D0; have Dk := Cmp.ng hg D0; have De := Cmp.nl hg D2; have Dl := Cmp.ng hg D2; have Di := Cmp.nl hg D4; have Dm := Cmp.ng hg D4; replace D0 := Cmp.be D0 hb; replace D2 := Cmp.be D2 hb; replace D4 := Cmp.be D4 hb; replace HB := Cmp.bs HB hb; clear hb hbox hg; have R3 := D8.out; have S0 := Dc.out; have R4 := D9.out; have S1 := Dg.out; have R5 := Da.out; have S2 := Dk.out; obtain ⟨Et, Eu, Ev, Ew, Ex, Ey⟩ := Cmp.q6 D0; obtain ⟨Fk, Fl, Fm, Fn, Fo, Fp⟩ := Cmp.f6 D0) | ((with_reducible refine gate_callee (f := 17) rfl ?_); refine goesL_ (some 10) rfl rfl Tryd.func17 (by kernel_rfl) rfl #[.agg #[.int .i64 a0_0, .int .i64 a0_1, .int .i64 a0_2, .int .i64 a0_3, .slice A0_4 l0_4.length c0_4, .int .i64 a0_5]] rfl Cmp.q ?_; (with_reducible refine (spec_l16Copy.calls a0_0 a0_1 a0_2 a0_3 _ _ l0_4 a0_5 Dt Du Dv Dw Ds Dx _ ?side1 ?side2 A4.out).mono ?_); (case side1 => exact Cmp.rc (Kd.C_below E2.out HB.out)); (case side2 => exact HC0_4.out); rintro e w101 ⟨v145, rfl, Ee, hb⟩; refine ⟨_, rfl, ?_⟩; have D5 := Cmp.A (Kd.R_lower Ee (below_size (Cmp.g HB.out))); replace D0 := Cmp.be D0 hb; replace D2 := Cmp.be D2 hb; replace D4 := Cmp.be D4 hb; replace D3 := Cmp.be D3 hb; replace HB := Cmp.bs HB hb; (try clear hb); (try clear hb2); (try clear hk); (try clear hi); (try clear Ee)) | ((with_reducible refine gate_dst (N := 8) rfl ?_); (try (refine gate_guard (by rfl) ?_; dsimp only)); refine box_event ?hg (N := 8) ?hd (cs := #[.int .i64 0, .int .i64 0, .int .i64 0, .int .i64 0, .slice none 0 0, .int .i64 0]) (t := 34) ?hr ?_; (case hd => rfl); (case hg => rfl); (case hr => first | (go_simp; done) | (go_simp; rfl)); intro D7 hg w102 hbox hb; have D1 := Cmp.A (hbox); have Ed := Cmp.gw hg HB; have E8 := Cmp.gw hg HB; have Db := Cmp.nl hg D0; have Do := Cmp.ng hg D0; have Df := Cmp.nl hg D2; have Dp := Cmp.ng hg D2; have Dj := Cmp.nl hg D4; have Dq := Cmp.ng hg D4; have Dn := Cmp.nl hg D3; have Dr := Cmp.ng hg D3; replace D5 := Cmp.A (Kd.R_below (Cmp.rr D5.out) hb); replace D0 := Cmp.be D0 hb; replace D2 := Cmp.be D2 hb; replace D4 := Cmp.be D4 hb; replace D3 := Cmp.be D3 hb; replace HB := Cmp.bs HB hb; clear hb hbox hg; have Ps := Do.out; have Pz := Db.out; have Pt := Dp.out; have Q0 := Df.out; have Pu := Dq.out; have Q1 := Dj.out; have Pv := Dr.out; have Q2 := Dn.out; obtain ⟨Ez, F0, F1, F2, F3, F4⟩ := Cmp.q6 D1; obtain ⟨Fq, Fr, Fs, Ft, Fu, Fv⟩ := Cmp.f6 D1; obtain ⟨E1, E3, Es⟩ := Kd.R_slice D5.out; subst Es; have Pw := Dd.out; have Q3 := Dh.out; have Px := De.out; have Q4 := Dl.out; obtain ⟨F5, F6, F7⟩ := Cmp.q3 D2; obtain ⟨Fw, Fx, Fy⟩ := Cmp.f3 D2) | ((with_reducible refine gate_callee (f := 18) rfl ?_); refine goesL_ (some 12) rfl rfl Tryd.func18 (by kernel_rfl) rfl #[.agg #[.bool a1_0, .string a1_1, .int .i64 a1_2]] rfl Cmp.q ?_; (with_reducible refine (spec_IsOrigin.calls k a1_0 a1_1 a1_2 false _ A5.out).mono ?_); rintro e w112 ⟨rfl, hb⟩; refine ⟨_, rfl, ?_⟩; replace D5 := Cmp.A (Kd.R_below (Cmp.rm (Kd.R_far (p := ⟨D7, 5, none⟩) (Kd.R_far (p := ⟨D7, 4, none⟩) (Kd.R_far (p := ⟨D7, 3, none⟩) (Kd.R_far (p := ⟨D7, 2, none⟩) (Kd.R_far (p := ⟨D7, 1, none⟩) (Kd.R_far (p := ⟨D7, 0, none⟩) (Kd.R_types D5.out D1.out (by decide)) (fun _ hk => hk.2) (.int .i64 Dt)) (fun _ hk => hk.2) (.int .i64 Du)) (fun _ hk => hk.2) (.int .i64 Dv)) (fun _ hk => hk.2) (.int .i64 Dw)) (fun _ hk => hk.2) (.slice E1 Ds.length E3)) (fun _ hk => hk.2) (.int .i64 Dx)) (fun _ h_ => h_.1)) hb); replace D0 := Cmp.A (blk_below (g := Dy) (o := .cells #[.int .i64 a0_0, .int .i64 a0_1, .int .i64 a0_2, .int .i64 a0_3, .slice A0_4 l0_4.length c0_4, .int .i64 a0_5] 34 (0, 0)) (Cmp.bw D0.out) hb); replace D2 := Cmp.A (blk_below (g := Dz) (o := .cells #[.bool a1_0, .string a1_1, .int .i64 a1_2] 38 (0, 0)) (Cmp.bw D2.out) hb); replace D4 := Cmp.A (blk_below (g := E0) (o := .cells #[.bool a2_0, .string a2_1, .int .i64 a2_2] 38 (0, 0)) (Cmp.bw D4.out) hb); replace D3 := Cmp.A (blk_below (g := D6) (o := .cells #[.int .i64 0, .int .i64 0, .int .i64 0, .int .i64 0, .slice none 0 0, .int .i64 0] 34 (0, 0)) (Cmp.bw D3.out) hb); replace D1 := Cmp.A (blk_below (g := D7) (o := .cells #[.int .i64 Dt, .int .i64 Du, .int .i64 Dv, .int .i64 Dw, .slice E1 Ds.length E3, .int .i64 Dx] 34 (0, 0)) (Cmp.bw D1.out) hb); replace HB := Cmp.bs HB hb; (try clear hb); (try clear hb2); (try clear hk); (try clear hi); obtain ⟨F8, F9, Fa, Fb, Fc, Fd⟩ := Cmp.q6 D1; obtain ⟨Fz, G0, G1, G2, G3, G4⟩ := Cmp.f6 D1; have Py := Dm.out; have Q5 := Di.out; obtain ⟨Fe, Ff, Fg, Fh, Fi, Fj⟩ := Cmp.q6 D3; obtain ⟨G5, G6, G7, G8, G9, Ga⟩ := Cmp.f6 D3))
  refine bodyPost_ret (results_ct rfl _ _ D6 34 #[.int .i64 Dt, .int .i64 Du, .int .i64 Dv, .int .i64 Dw, .slice E1 Ds.length E3, .int .i64 Dx] (0, 0) _ rfl (Cmp.bw D3.out) Tryd.underlying34 rfl (by kernel_rfl)) rfl ?_
  exact ⟨_, by first | rfl | (simp [errW_none, errW_some] <;> rfl) | (simp [*, errW_none, errW_some] <;> rfl), by (with_reducible repeat (first | apply Kd.R_alloc | apply Kd.R_drewN | apply Kd.R_drew)); exact Kd.R_mono (Kd.R_far (p := ⟨D6, 5, none⟩) (Kd.R_far (p := ⟨D6, 4, none⟩) (Kd.R_far (p := ⟨D6, 3, none⟩) (Kd.R_far (p := ⟨D6, 2, none⟩) (Kd.R_far (p := ⟨D6, 1, none⟩) (Kd.R_far (p := ⟨D6, 0, none⟩) (Kd.R_types D5.out D3.out (by decide)) (fun _ hk => hk.2) (.int .i64 Dt)) (fun _ hk => hk.2) (.int .i64 Du)) (fun _ hk => hk.2) (.int .i64 Dv)) (fun _ hk => hk.2) (.int .i64 Dw)) (fun _ hk => hk.2) (.slice E1 Ds.length E3)) (fun _ hk => hk.2) (.int .i64 Dx)) (fun _ hk => trivial), Cmp.g HB.out⟩
/-! ### laws_toKeyStore: function 19 -/
def laws_toKeyStore.f (a0_0 : Int) (a0_1 : Int) (a0_2 : Int) (a0_3 : Int) : Option (Int × Int × Int × Int) := some (a0_0, a0_1, a0_2, a0_3)
set_option maxHeartbeats 8000000 in
set_option maxRecDepth 100000 in
theorem laws_toKeyStore.calls (a0_0 : Int) (a0_1 : Int) (a0_2 : Int) (a0_3 : Int) (r1 : Int) (r2 : Int) (r3 : Int) (r4 : Int) (w : World) (h : laws_toKeyStore.f a0_0 a0_1 a0_2 a0_3 = some (r1, r2, r3, r4)) :
    Calls Tryd.prog 19 #[.agg #[.int .i64 a0_0, .int .i64 a0_1, .int .i64 a0_2, .int .i64 a0_3]] w fun e w' => e = .returned (.agg #[.int .i64 r1, .int .i64 r2, .int .i64 r3, .int .i64 r4]) ∧ Below w.heap.size w w' := by
 have hu23 := Tryd.underlying23; have hu31 := Tryd.underlying31
 have HB := Cmp.A (Below.refl w.heap.size w)
 have H : (some (a0_0, a0_1, a0_2, a0_3)) = some (r1, r2, r3, r4) := h
 clear h
 simp only [Option.some.injEq, Prod.mk.injEq] at H
 obtain ⟨rfl, rfl, rfl, rfl⟩ := H
 go_enter Tryd.func19, Tryd.ntmps19
 go_wp2_with (first | ((with_reducible refine gate_dst (N := 1) rfl ?_); refine box_event ?hg (N := 1) ?hd (cs := #[.int .i64 a0_0, .int .i64 a0_1, .int .i64 a0_2, .int .i64 a0_3]) (t := 23) ?hr ?_; (case hd => rfl); (case hg => rfl); (case hr => first | (go_simp; done) | (go_simp; rfl)); intro E4 hg w2 hbox hb; have D0 := Cmp.A (hbox); have E1 := Cmp.gw hg HB; have Dy := Cmp.gw hg HB; replace HB := Cmp.bs HB hb; clear hb hbox hg) | ((with_reducible refine gate_dst (N := 2) rfl ?_); refine box_event ?hg (N := 2) ?hd (cs := #[.int .i64 0, .int .i64 0, .int .i64 0, .int .i64 0]) (t := 31) ?hr ?_; (case hd => rfl); (case hg => rfl); (case hr => first | (go_simp; done) | (go_simp; rfl)); intro D9 hg w3 hbox hb; have D1 := Cmp.A (hbox); have E2 := Cmp.gw hg HB; have Dz := Cmp.gw hg HB; have D3 := Cmp.nl hg D0; have D5 := Cmp.ng hg D0; replace D0 := Cmp.be D0 hb; replace HB := Cmp.bs HB hb; clear hb hbox hg) | ((with_reducible refine gate_dst (N := 3) rfl ?_); refine box_event ?hg (N := 3) ?hd (cs := #[.int .i64 0, .int .i64 0, .int .i64 0, .int .i64 0]) (t := 31) ?hr ?_; (case hd => rfl); (case hg => rfl); (case hr => first | (go_simp; done) | (go_simp; rfl)); intro E5 hg w4 hbox hb; have D2 := Cmp.A (hbox); have E3 := Cmp.gw hg HB; have E0 := Cmp.gw hg HB; have D4 := Cmp.nl hg D0; have D7 := Cmp.ng hg D0; have D6 := Cmp.nl hg D1; have D8 := Cmp.ng hg D1; replace D0 := Cmp.be D0 hb; replace D1 := Cmp.be D1 hb; replace HB := Cmp.bs HB hb; clear hb hbox hg; have E6 := D3.out; have E9 := D5.out; have E7 := D4.out; have Ea := D7.out; obtain ⟨Di, Dj, Dk, Dl⟩ := Cmp.q4 D0; obtain ⟨Dq, Dr, Ds, Dt⟩ := Cmp.f4 D0; have E8 := D8.out; have Eb := D6.out; obtain ⟨Dm, Dn, Do, Dp⟩ := Cmp.q4 D2; obtain ⟨Du, Dv, Dw, Dx⟩ := Cmp.f4 D2; obtain ⟨Da, Db, Dc, Dd⟩ := Cmp.q4 D1; obtain ⟨De, Df, Dg, Dh⟩ := Cmp.f4 D1))
 refine bodyPost_ret (results_cell_row rfl _ _ D9 31 #[.int .i64 a0_0, .int .i64 a0_1, .int .i64 a0_2, .int .i64 a0_3] (0, 0) _ rfl (Cmp.bw D1.out) Tryd.underlying31 rfl (by kernel_rfl)) rfl ?_
 exact ⟨by first | rfl | (simp [errW_none, errW_some] <;> rfl) | (simp [*, errW_none, errW_some] <;> rfl), Cmp.g HB.out⟩
/-! ### laws_toOrigin: function 9 -/
def laws_toOrigin.f (a0_0 : Bool) (a0_1 : ByteArray) (a0_2 : Int) : Option (Bool × ByteArray × Int) := some (a0_0, a0_1, a0_2)
set_option maxHeartbeats 8000000 in
set_option maxRecDepth 100000 in
theorem laws_toOrigin.calls (a0_0 : Bool) (a0_1 : ByteArray) (a0_2 : Int) (r1 : Bool) (r2 : ByteArray) (r3 : Int) (w : World) (h : laws_toOrigin.f a0_0 a0_1 a0_2 = some (r1, r2, r3)) :
    Calls Tryd.prog 9 #[.agg #[.bool a0_0, .string a0_1, .int .i64 a0_2]] w fun e w' => e = .returned (.agg #[.bool r1, .string r2, .int .i64 r3]) ∧ Below w.heap.size w w' := by
 have hu28 := Tryd.underlying28; have hu38 := Tryd.underlying38
 have HB := Cmp.A (Below.refl w.heap.size w)
 have H : (some (a0_0, a0_1, a0_2)) = some (r1, r2, r3) := h
 clear h
 simp only [Option.some.injEq, Prod.mk.injEq] at H
 obtain ⟨rfl, rfl, rfl⟩ := H
 go_enter Tryd.func9, Tryd.ntmps9
 go_wp2_with (first | ((with_reducible refine gate_dst (N := 1) rfl ?_); refine box_event ?hg (N := 1) ?hd (cs := #[.bool a0_0, .string a0_1, .int .i64 a0_2]) (t := 28) ?hr ?_; (case hd => rfl); (case hg => rfl); (case hr => first | (go_simp; done) | (go_simp; rfl)); intro Dy hg w2 hbox hb; have D0 := Cmp.A (hbox); have Dv := Cmp.gw hg HB; have Ds := Cmp.gw hg HB; replace HB := Cmp.bs HB hb; clear hb hbox hg) | ((with_reducible refine gate_dst (N := 2) rfl ?_); refine box_event ?hg (N := 2) ?hd (cs := #[.bool false, .string (⟨#[]⟩ : ByteArray), .int .i64 0]) (t := 38) ?hr ?_; (case hd => rfl); (case hg => rfl); (case hr => first | (go_simp; done) | (go_simp; rfl)); intro D9 hg w3 hbox hb; have D1 := Cmp.A (hbox); have Dw := Cmp.gw hg HB; have Dt := Cmp.gw hg HB; have D3 := Cmp.nl hg D0; have D5 := Cmp.ng hg D0; replace D0 := Cmp.be D0 hb; replace HB := Cmp.bs HB hb; clear hb hbox hg) | ((with_reducible refine gate_dst (N := 3) rfl ?_); refine box_event ?hg (N := 3) ?hd (cs := #[.bool false, .string (⟨#[]⟩ : ByteArray), .int .i64 0]) (t := 38) ?hr ?_; (case hd => rfl); (case hg => rfl); (case hr => first | (go_simp; done) | (go_simp; rfl)); intro Dz hg w4 hbox hb; have D2 := Cmp.A (hbox); have Dx := Cmp.gw hg HB; have Du := Cmp.gw hg HB; have D4 := Cmp.nl hg D0; have D7 := Cmp.ng hg D0; have D6 := Cmp.nl hg D1; have D8 := Cmp.ng hg D1; replace D0 := Cmp.be D0 hb; replace D1 := Cmp.be D1 hb; replace HB := Cmp.bs HB hb; clear hb hbox hg; have E0 := D3.out; have E3 := D5.out; have E1 := D4.out; have E4 := D7.out; obtain ⟨Dg, Dh, Di⟩ := Cmp.q3 D0; obtain ⟨Dm, Dn, Do⟩ := Cmp.f3 D0; have E2 := D8.out; have E5 := D6.out; obtain ⟨Dj, Dk, Dl⟩ := Cmp.q3 D2; obtain ⟨Dp, Dq, Dr⟩ := Cmp.f3 D2; obtain ⟨Da, Db, Dc⟩ := Cmp.q3 D1; obtain ⟨Dd, De, Df⟩ := Cmp.f3 D1))
 refine bodyPost_ret (results_cell_row rfl _ _ D9 38 #[.bool a0_0, .string a0_1, .int .i64 a0_2] (0, 0) _ rfl (Cmp.bw D1.out) Tryd.underlying38 rfl (by kernel_rfl)) rfl ?_
 exact ⟨by first | rfl | (simp [errW_none, errW_some] <;> rfl) | (simp [*, errW_none, errW_some] <;> rfl), Cmp.g HB.out⟩
/-! ### laws_toTab: function 30 -/
def laws_toTab.f (a0_0 : Bool) (a0_1 : ByteArray) (a0_2 : Int) (a0_3 : Bool) (a0_4 : ByteArray) (a0_5 : Int) : Option (Bool × ByteArray × Int × Bool × ByteArray × Int) := (laws_toOrigin.f a0_0 a0_1 a0_2).bind fun bt163 => ((laws_toOrigin.f a0_3 a0_4 a0_5).bind fun bt166 => (some (bt163.1, bt163.2.1, bt163.2.2, bt166.1, bt166.2.1, bt166.2.2)))
set_option maxHeartbeats 8000000 in
set_option maxRecDepth 100000 in
theorem laws_toTab.calls (a0_0 : Bool) (a0_1 : ByteArray) (a0_2 : Int) (a0_3 : Bool) (a0_4 : ByteArray) (a0_5 : Int) (r1 : Bool) (r2 : ByteArray) (r3 : Int) (r4 : Bool) (r5 : ByteArray) (r6 : Int) (w : World) (h : laws_toTab.f a0_0 a0_1 a0_2 a0_3 a0_4 a0_5 = some (r1, r2, r3, r4, r5, r6)) :
    Calls Tryd.prog 30 #[.agg #[.bool a0_0, .string a0_1, .int .i64 a0_2, .bool a0_3, .string a0_4, .int .i64 a0_5]] w fun e w' => e = .returned (.agg #[.bool r1, .string r2, .int .i64 r3, .bool r4, .string r5, .int .i64 r6]) ∧ Below w.heap.size w w' := by
 have hu58 := Tryd.underlying58; have hu49 := Tryd.underlying49; have hu28 := Tryd.underlying28; have hu38 := Tryd.underlying38
 have HB := Cmp.A (Below.refl w.heap.size w)
 have H : ((laws_toOrigin.f a0_0 a0_1 a0_2).bind fun bt163 => ((laws_toOrigin.f a0_3 a0_4 a0_5).bind fun bt166 => (some (bt163.1, bt163.2.1, bt163.2.2, bt166.1, bt166.2.1, bt166.2.2)))) = some (r1, r2, r3, r4, r5, r6) := h
 clear h; replace H := Option.bind_eq_some_iff.mp H; obtain ⟨⟨Da, Db, Dc⟩, F6, H⟩ := H; (try dsimp only at H); have A2 := Cmp.A F6; clear F6; replace H := Option.bind_eq_some_iff.mp H; obtain ⟨⟨Df, Dg, Dh⟩, F7, H⟩ := H; (try dsimp only at H); have A3 := Cmp.A F7; clear F7
 simp only [Option.some.injEq, Prod.mk.injEq] at H
 obtain ⟨rfl, rfl, rfl, rfl, rfl, rfl⟩ := H
 go_enter Tryd.func30, Tryd.ntmps30
 go_wp2_with (first | ((with_reducible refine gate_dst (N := 1) rfl ?_); refine box_event ?hg (N := 1) ?hd (cs := #[.bool a0_0, .string a0_1, .int .i64 a0_2, .bool a0_3, .string a0_4, .int .i64 a0_5]) (t := 58) ?hr ?_; (case hd => rfl); (case hg => rfl); (case hr => first | (go_simp; done) | (go_simp; rfl)); intro Dd hg w4 hbox hb; have D0 := Cmp.A (hbox); have Fb := Cmp.gw hg HB; have F8 := Cmp.gw hg HB; replace HB := Cmp.bs HB hb; clear hb hbox hg) | ((with_reducible refine gate_dst (N := 2) rfl ?_); refine box_event ?hg (N := 2) ?hd (cs := #[.bool false, .string (⟨#[]⟩ : ByteArray), .int .i64 0, .bool false, .string (⟨#[]⟩ : ByteArray), .int .i64 0]) (t := 49) ?hr ?_; (case hd => rfl); (case hg => rfl); (case hr => first | (go_simp; done) | (go_simp; rfl)); intro D9 hg w5 hbox hb; have D2 := Cmp.A (hbox); have Fc := Cmp.gw hg HB; have F9 := Cmp.gw hg HB; have D3 := Cmp.nl hg D0; have D5 := Cmp.ng hg D0; replace D0 := Cmp.be D0 hb; replace HB := Cmp.bs HB hb; clear hb hbox hg) | ((with_reducible refine gate_dst (N := 3) rfl ?_); refine box_event ?hg (N := 3) ?hd (cs := #[.bool false, .string (⟨#[]⟩ : ByteArray), .int .i64 0, .bool false, .string (⟨#[]⟩ : ByteArray), .int .i64 0]) (t := 49) ?hr ?_; (case hd => rfl); (case hg => rfl); (case hr => first | (go_simp; done) | (go_simp; rfl)); intro De hg w6 hbox hb; have D1 := Cmp.A (hbox); have Fd := Cmp.gw hg HB; have Fa := Cmp.gw hg HB; have D4 := Cmp.nl hg D0; have D7 := Cmp.ng hg D0; have D6 := Cmp.nl hg D2; have D8 := Cmp.ng hg D2; replace D0 := Cmp.be D0 hb; replace D2 := Cmp.be D2 hb; replace HB := Cmp.bs HB hb; clear hb hbox hg; have Fg := D3.out; have Fi := D5.out; have Fh := D4.out; have Fj := D7.out; obtain ⟨Eu, Ev, Ew, Ex, Ey, Ez⟩ := Cmp.q6 D0; obtain ⟨F0, F1, F2, F3, F4, F5⟩ := Cmp.f6 D0) | ((with_reducible refine gate_callee (f := 9) rfl ?_); refine goesL_ (some 6) rfl rfl Tryd.func9 (by kernel_rfl) rfl #[.agg #[.bool a0_0, .string a0_1, .int .i64 a0_2]] rfl Cmp.q ?_; (with_reducible refine (laws_toOrigin.calls a0_0 a0_1 a0_2 Da Db Dc _ A2.out).mono ?_); rintro e w10 ⟨rfl, hb⟩; refine ⟨_, rfl, ?_⟩; replace D0 := Cmp.be D0 hb; replace D2 := Cmp.be D2 hb; replace D1 := Cmp.be D1 hb; replace HB := Cmp.bs HB hb; (try clear hb); (try clear hb2); (try clear hk); (try clear hi); have Fe := D8.out; have Ff := D6.out; obtain ⟨Di, Dj, Dk, Dl, Dm, Dn⟩ := Cmp.q6 D1; obtain ⟨E6, E7, E8, E9, Ea, Eb⟩ := Cmp.f6 D1; obtain ⟨Do, Dp, Dq, Dr, Ds, Dt⟩ := Cmp.q6 D0; obtain ⟨Ec, Ed, Ee, Ef, Eg, Eh⟩ := Cmp.f6 D0) | ((with_reducible refine gate_callee (f := 9) rfl ?_); refine goesL_ (some 10) rfl rfl Tryd.func9 (by kernel_rfl) rfl #[.agg #[.bool a0_3, .string a0_4, .int .i64 a0_5]] rfl Cmp.q ?_; (with_reducible refine (laws_toOrigin.calls a0_3 a0_4 a0_5 Df Dg Dh _ A3.out).mono ?_); rintro e w14 ⟨rfl, hb⟩; refine ⟨_, rfl, ?_⟩; replace D0 := Cmp.A (blk_below (g := Dd) (o := .cells #[.bool a0_0, .string a0_1, .int .i64 a0_2, .bool a0_3, .string a0_4, .int .i64 a0_5] 58 (0, 0)) (Cmp.bw D0.out) hb); replace D2 := Cmp.A (blk_below (g := D9) (o := .cells #[.bool false, .string (⟨#[]⟩ : ByteArray), .int .i64 0, .bool false, .string (⟨#[]⟩ : ByteArray), .int .i64 0] 49 (0, 0)) (Cmp.bw D2.out) hb); replace D1 := Cmp.A (blk_below (g := De) (o := .cells #[.bool Da, .string Db, .int .i64 Dc, .bool false, .string (⟨#[]⟩ : ByteArray), .int .i64 0] 49 (0, 0)) (Cmp.bw D1.out) hb); replace HB := Cmp.bs HB hb; (try clear hb); (try clear hb2); (try clear hk); (try clear hi); obtain ⟨Du, Dv, Dw, Dx, Dy, Dz⟩ := Cmp.q6 D1; obtain ⟨Ei, Ej, Ek, El, Em, En⟩ := Cmp.f6 D1; obtain ⟨E0, E1, E2, E3, E4, E5⟩ := Cmp.q6 D2; obtain ⟨Eo, Ep, Eq, Er, Es, Et⟩ := Cmp.f6 D2))
 refine bodyPost_ret (results_cell_row rfl _ _ D9 49 #[.bool Da, .string Db, .int .i64 Dc, .bool Df, .string Dg, .int .i64 Dh] (0, 0) _ rfl (Cmp.bw D2.out) Tryd.underlying49 rfl (by kernel_rfl)) rfl ?_
 exact ⟨by first | rfl | (simp [errW_none, errW_some] <;> rfl) | (simp [*, errW_none, errW_some] <;> rfl), Cmp.g HB.out⟩
end Go.Proofs.YtpgjecknkmmnhaaDoor.PFnExactOpenTab

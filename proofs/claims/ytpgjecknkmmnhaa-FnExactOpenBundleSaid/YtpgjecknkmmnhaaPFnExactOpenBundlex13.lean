/- Printed functions of the program, out of print.sh, told more shortly. No condition. -/
import Derived.Test.YtpgjecknkmmnhaaCmp
import Derived.Test.YtpgjecknkmmnhaaPFnExactOpenBundlex0
import Derived.Test.YtpgjecknkmmnhaaPFnExactOpenBundlex8
import Derived.Test.YtpgjecknkmmnhaaPFnExactOpenBundlex10
import Derived.Test.YtpgjecknkmmnhaaPFnExactOpenBundlex12
namespace Go.Proofs.Ytpgjecknkmmnhaa.PFnExactOpenBundle
open Go.Proofs.Ytpgjecknkmmnhaa
open Go.RowKit Go.Proofs.YtpgjecknkmmnhaaW.PrintWords Go.Proofs.YtpgjecknkmmnhaaW.PrintLast Go.Proofs.YtpgjecknkmmnhaaW.PrintMore
attribute [local go_sem] max2_int min2_int max_two min_two max_three min_three max_four min_four   -- for this text's walks alone
set_option linter.unusedVariables false
set_option linter.unusedSimpArgs false

/-! ### spec_ReadUvarint: function 114 -/
mutual
def spec_ReadUvarint.l0 : Nat → List Int → Int → Int → Int → Option (Int × Int × Bool)
  | 0, _, _, _, _ => none
  | k + 1, x0, x1, x7, x8 => if x8 < 6 then (if x1 < 0 then (spec_ReadUvarint.j1 k x0 x1 x7 x8 true) else (spec_ReadUvarint.j1 k x0 x1 x7 x8 (decide (x1 ≥ (wrap64 ((x0.length : Int) - x8)))))) else (some (0, 0, false))
def spec_ReadUvarint.j1 : Nat → List Int → Int → Int → Int → Bool → Option (Int × Int × Bool)
  | 0, _, _, _, _, _ => none
  | k + 1, x0, x1, x7, x8, x23 => if x23 = true then (some (0, 0, false)) else (if 0 ≤ (wrap64 (x1 + x8)) then (if (wrap64 (x1 + x8)) < (x0.length : Int) then (if 0 ≤ (wrap64 (7 * x8)) then (if (wrap64 (rd x0 (wrap64 (x1 + x8)))) < 128 then (if (wrap64 (rd x0 (wrap64 (x1 + x8)))) = 0 then (if x8 > 0 then (some (0, 0, false)) else (if (Go.bits .or .i64 x7 (shl .i64 (Go.bits .and .i64 (wrap64 (rd x0 (wrap64 (x1 + x8)))) 127) (wrap64 (7 * x8)))) > 1000000000000 then (some (0, 0, false)) else (some (Go.bits .or .i64 x7 (shl .i64 (Go.bits .and .i64 (wrap64 (rd x0 (wrap64 (x1 + x8)))) 127) (wrap64 (7 * x8))), wrap64 ((wrap64 (x1 + x8)) + 1), true)))) else (if (Go.bits .or .i64 x7 (shl .i64 (Go.bits .and .i64 (wrap64 (rd x0 (wrap64 (x1 + x8)))) 127) (wrap64 (7 * x8)))) > 1000000000000 then (some (0, 0, false)) else (some (Go.bits .or .i64 x7 (shl .i64 (Go.bits .and .i64 (wrap64 (rd x0 (wrap64 (x1 + x8)))) 127) (wrap64 (7 * x8))), wrap64 ((wrap64 (x1 + x8)) + 1), true)))) else (spec_ReadUvarint.l0 k x0 x1 (Go.bits .or .i64 x7 (shl .i64 (Go.bits .and .i64 (wrap64 (rd x0 (wrap64 (x1 + x8)))) 127) (wrap64 (7 * x8)))) (wrap64 (x8 + 1)))) else (none)) else (none)) else (none))
end
def spec_ReadUvarint.f (k : Nat) (l0 : List Int) (a1 : Int) : Option (Int × Int × Bool) := spec_ReadUvarint.l0 k l0 a1 0 0
theorem spec_ReadUvarint.mono_l : ∀ k, (∀ y0 y1 y2 y3, LeO (spec_ReadUvarint.l0 k y0 y1 y2 y3) (spec_ReadUvarint.l0 (k + 1) y0 y1 y2 y3)) ∧ (∀ y0 y1 y2 y3 y4, LeO (spec_ReadUvarint.j1 k y0 y1 y2 y3 y4) (spec_ReadUvarint.j1 (k + 1) y0 y1 y2 y3 y4))
  | 0 => ⟨fun _ _ _ _ r h => by simp [spec_ReadUvarint.l0] at h, fun _ _ _ _ _ r h => by simp [spec_ReadUvarint.j1] at h⟩
  | k + 1 => by
    obtain ⟨ih0, ih1⟩ := spec_ReadUvarint.mono_l k
    refine ⟨?_, ?_⟩
    · intro y0 y1 y2 y3
      unfold spec_ReadUvarint.l0
      repeat' first
      | (with_reducible exact ih0 _ _ _ _)
      | (with_reducible exact ih1 _ _ _ _ _)
      | (with_reducible exact LeO.refl _)
      | (with_reducible exact LeO.none _)
      | (with_reducible refine LeO.ite ?_ ?_)
      | (with_reducible refine LeO.bind ?_ (fun _ => ?_))
      | exact ih0 _ _ _ _
      | exact ih1 _ _ _ _ _
      | exact LeO.none _
      | refine LeO.ite ?_ ?_
      | refine LeO.bind ?_ (fun _ => ?_)
    · intro y0 y1 y2 y3 y4
      unfold spec_ReadUvarint.j1
      repeat' first
      | (with_reducible exact ih0 _ _ _ _)
      | (with_reducible exact ih1 _ _ _ _ _)
      | (with_reducible exact LeO.refl _)
      | (with_reducible exact LeO.none _)
      | (with_reducible refine LeO.ite ?_ ?_)
      | (with_reducible refine LeO.bind ?_ (fun _ => ?_))
      | exact ih0 _ _ _ _
      | exact ih1 _ _ _ _ _
      | exact LeO.none _
      | refine LeO.ite ?_ ?_
      | refine LeO.bind ?_ (fun _ => ?_)
theorem spec_ReadUvarint.mono : ∀ a0 a1 k, LeO (spec_ReadUvarint.f k a0 a1) (spec_ReadUvarint.f (k + 1) a0 a1) := by
  intro a0 a1 k
  obtain ⟨ih0, ih1⟩ := spec_ReadUvarint.mono_l k
  unfold spec_ReadUvarint.f
  repeat' first
      | (with_reducible exact ih0 _ _ _ _)
      | (with_reducible exact ih1 _ _ _ _ _)
      | (with_reducible exact LeO.refl _)
      | (with_reducible exact LeO.none _)
      | (with_reducible refine LeO.ite ?_ ?_)
      | (with_reducible refine LeO.bind ?_ (fun _ => ?_))
      | exact ih0 _ _ _ _
      | exact ih1 _ _ _ _ _
      | exact LeO.none _
      | refine LeO.ite ?_ ?_
      | refine LeO.bind ?_ (fun _ => ?_)
set_option maxHeartbeats 8000000 in
set_option maxRecDepth 100000 in
theorem spec_ReadUvarint.calls (k : Nat) (A0 : Option Addr) (c0 : Nat) (l0 : List Int) (a1 : Int) (r1 : Int) (r2 : Int) (r3 : Bool) (w : World) (hr0 : Kd.C (Kd.int .u8) w A0 l0.length l0) (hc0 : l0.length ≤ c0) (h : spec_ReadUvarint.f k l0 a1 = some (r1, r2, r3)) :
    Calls Try.prog 114 #[.slice A0 l0.length c0, .int .i64 a1] w fun e w' => e = .returned (.tuple #[.int .i64 r1, .int .i64 r2, .bool r3]) ∧ Drawn0 w w' := by
 have HR0 := Aside0.mk hr0; have HC0 := Aside0.mk hc0; clear hr0 hc0
 have H : (spec_ReadUvarint.l0 k l0 a1 0 0) = some (r1, r2, r3) := h
 clear h
 have H' := Aside0.mk H
 clear H
 go_enter Try.func114, Try.ntmps114
 go_wp2
 go_loopg [7, 8] k (fun kq v7 v8 w' => ∃ (x7_1 : Int) (x8_1 : Int), v7 = .int .i64 x7_1 ∧ v8 = .int .i64 x8_1 ∧ Aside0 (spec_ReadUvarint.l0 kq l0 a1 x7_1 x8_1 = some (r1, r2, r3)) ∧ Aside0 (kq ≤ k) ∧ Drawn0 w w')
 case atStart => exact ⟨(0), (0), (by first | rfl | simp | simp [*]), (by first | rfl | simp | simp [*]), H', ⟨Nat.le_refl _⟩, by repeat (first | exact Drawn0.refl _ | apply Drawn0.step)⟩
 case round =>
  clear H'
  (try clear c1); (try clear p2)
  obtain ⟨x7_1, x8_1, rfl, rfl, HA, HK1, ⟨m1, rfl⟩⟩ := hrel
  cases gk with
  | zero => exact absurd HA.out (by simp [spec_ReadUvarint.l0])
  | succ k1 =>
   have H := HA.out; clear HA
   simp only [spec_ReadUvarint.l0] at H
   by_cases c3 : x8_1 < 6
   ·rw [if_pos c3] at H; have c3b0 : decide (x8_1 < 6) = true := decide_eq_true c3; clear c3; have HC4 := Aside0.mk H; clear H
    go_upto_region 5 with (fail)
    go_cut [23] (fun v23 wc => ∃ (kq : Nat) (x23_3 : Bool), v23 = .bool x23_3 ∧ Aside0 (spec_ReadUvarint.j1 kq l0 a1 x7_1 x8_1 x23_3 = some (r1, r2, r3)) ∧ Aside0 (kq ≤ k1) ∧ Drawn0 w wc)
    case first =>
     have H := HC4.out; clear HC4
     by_cases c5 : a1 < 0
     ·rw [if_pos c5] at H; have c5b0 : decide (a1 < 0) = true := decide_eq_true c5; clear c5
      (first | rw [c5b0] | (simp only [i64_w, i32_w]; rw [c5b0]) | skip)
      have H' := Aside0.mk H
      clear H
      go_wp2
      go_meet
      case rel => exact ⟨_, (true), (by first | rfl | simp | simp [*]), H', ⟨by have := HK1.out; first | omega | exact Nat.le_refl _⟩, by repeat (first | exact Drawn0.refl _ | apply Drawn0.step)⟩
     ·rw [if_neg c5] at H; have c5b0 : decide (a1 < 0) = false := decide_eq_false c5; clear c5
      (first | rw [c5b0] | (simp only [i64_w, i32_w]; rw [c5b0]) | skip)
      have H' := Aside0.mk H
      clear H
      go_wp2
      go_meet
      case rel => exact ⟨_, (decide (a1 ≥ (wrap64 ((l0.length : Int) - x8_1)))), (by first | rfl | simp | simp [*]), H', ⟨by have := HK1.out; first | omega | exact Nat.le_refl _⟩, by repeat (first | exact Drawn0.refl _ | apply Drawn0.step)⟩
    case rest =>
     clear HC4; (try clear c1); (try clear p2); (try clear c3); (try clear c3b0); (try clear c5); (try clear c5b0); (try clear p2)
     obtain ⟨kq, x23_3, rfl, HA, HJ3, ⟨mc3, rfl⟩⟩ := hcut
     cases kq with
     | zero => exact absurd HA.out (by simp [spec_ReadUvarint.j1])
     | succ kj3 =>
      have H := HA.out; clear HA
      simp only [spec_ReadUvarint.j1] at H
      by_cases c6 : x23_3 = true
      ·subst c6; rw [if_pos rfl] at H
       simp only [Option.some.injEq, Prod.mk.injEq] at H
       obtain ⟨rfl, rfl, rfl⟩ := H
       go_wp2
       go_ret3
       exact ⟨by first | rfl | (simp; done) | (simp [*]; done), by repeat (first | exact Drawn0.refl _ | apply Drawn0.step)⟩
      ·replace c6 := Bool.eq_false_iff.mpr c6
       subst c6
       have H1 : (if 0 ≤ (wrap64 (a1 + x8_1)) then (if (wrap64 (a1 + x8_1)) < (l0.length : Int) then (if 0 ≤ (wrap64 (7 * x8_1)) then (if (wrap64 (rd l0 (wrap64 (a1 + x8_1)))) < 128 then (if (wrap64 (rd l0 (wrap64 (a1 + x8_1)))) = 0 then (if x8_1 > 0 then (some (0, 0, false)) else (if (Go.bits .or .i64 x7_1 (shl .i64 (Go.bits .and .i64 (wrap64 (rd l0 (wrap64 (a1 + x8_1)))) 127) (wrap64 (7 * x8_1)))) > 1000000000000 then (some (0, 0, false)) else (some (Go.bits .or .i64 x7_1 (shl .i64 (Go.bits .and .i64 (wrap64 (rd l0 (wrap64 (a1 + x8_1)))) 127) (wrap64 (7 * x8_1))), wrap64 ((wrap64 (a1 + x8_1)) + 1), true)))) else (if (Go.bits .or .i64 x7_1 (shl .i64 (Go.bits .and .i64 (wrap64 (rd l0 (wrap64 (a1 + x8_1)))) 127) (wrap64 (7 * x8_1)))) > 1000000000000 then (some (0, 0, false)) else (some (Go.bits .or .i64 x7_1 (shl .i64 (Go.bits .and .i64 (wrap64 (rd l0 (wrap64 (a1 + x8_1)))) 127) (wrap64 (7 * x8_1))), wrap64 ((wrap64 (a1 + x8_1)) + 1), true)))) else (spec_ReadUvarint.l0 kj3 l0 a1 (Go.bits .or .i64 x7_1 (shl .i64 (Go.bits .and .i64 (wrap64 (rd l0 (wrap64 (a1 + x8_1)))) 127) (wrap64 (7 * x8_1)))) (wrap64 (x8_1 + 1)))) else (none)) else (none)) else (none)) = some (r1, r2, r3) := by rw [if_neg (show ¬ (false = true) by decide)] at H; exact H
       clear H; have H := H1; clear H1
       obtain ⟨ji7, hji7⟩ : ∃ j_ : Int, (wrap64 (a1 + x8_1)) = j_ := ⟨_, rfl⟩
       replace H : (if 0 ≤ (ji7) then (if (ji7) < (l0.length : Int) then (if 0 ≤ (wrap64 (7 * x8_1)) then (if (wrap64 (rd l0 (ji7))) < 128 then (if (wrap64 (rd l0 (ji7))) = 0 then (if x8_1 > 0 then (some (0, 0, false)) else (if (Go.bits .or .i64 x7_1 (shl .i64 (Go.bits .and .i64 (wrap64 (rd l0 (ji7))) 127) (wrap64 (7 * x8_1)))) > 1000000000000 then (some (0, 0, false)) else (some (Go.bits .or .i64 x7_1 (shl .i64 (Go.bits .and .i64 (wrap64 (rd l0 (ji7))) 127) (wrap64 (7 * x8_1))), wrap64 ((ji7) + 1), true)))) else (if (Go.bits .or .i64 x7_1 (shl .i64 (Go.bits .and .i64 (wrap64 (rd l0 (ji7))) 127) (wrap64 (7 * x8_1)))) > 1000000000000 then (some (0, 0, false)) else (some (Go.bits .or .i64 x7_1 (shl .i64 (Go.bits .and .i64 (wrap64 (rd l0 (ji7))) 127) (wrap64 (7 * x8_1))), wrap64 ((ji7) + 1), true)))) else (spec_ReadUvarint.l0 kj3 l0 a1 (Go.bits .or .i64 x7_1 (shl .i64 (Go.bits .and .i64 (wrap64 (rd l0 (ji7))) 127) (wrap64 (7 * x8_1)))) (wrap64 (x8_1 + 1)))) else (none)) else (none)) else (none)) = some (r1, r2, r3) := by first | (rw [hji7] at H; exact H) | (simp only [hji7] at H ⊢; exact H)
       have hji7w : (IntKind.i64.wrap (a1 + x8_1)) = ji7 := (i64_w _).trans hji7
       by_cases c8 : 0 ≤ (ji7)
       ·rw [if_pos c8] at H; have c8b0 : decide (0 ≤ (ji7)) = true := decide_eq_true c8; clear c8
        by_cases c9 : (ji7) < (l0.length : Int)
        ·rw [if_pos c9] at H
         have c9b0 : decide ((ji7) < (l0.length : Int)) = true := decide_eq_true c9
         clear c9
         obtain ⟨ji10, hji10⟩ : ∃ j_ : Int, (wrap64 (7 * x8_1)) = j_ := ⟨_, rfl⟩
         replace H : (if 0 ≤ (ji10) then (if (wrap64 (rd l0 (ji7))) < 128 then (if (wrap64 (rd l0 (ji7))) = 0 then (if x8_1 > 0 then (some (0, 0, false)) else (if (Go.bits .or .i64 x7_1 (shl .i64 (Go.bits .and .i64 (wrap64 (rd l0 (ji7))) 127) (ji10))) > 1000000000000 then (some (0, 0, false)) else (some (Go.bits .or .i64 x7_1 (shl .i64 (Go.bits .and .i64 (wrap64 (rd l0 (ji7))) 127) (ji10)), wrap64 ((ji7) + 1), true)))) else (if (Go.bits .or .i64 x7_1 (shl .i64 (Go.bits .and .i64 (wrap64 (rd l0 (ji7))) 127) (ji10))) > 1000000000000 then (some (0, 0, false)) else (some (Go.bits .or .i64 x7_1 (shl .i64 (Go.bits .and .i64 (wrap64 (rd l0 (ji7))) 127) (ji10)), wrap64 ((ji7) + 1), true)))) else (spec_ReadUvarint.l0 kj3 l0 a1 (Go.bits .or .i64 x7_1 (shl .i64 (Go.bits .and .i64 (wrap64 (rd l0 (ji7))) 127) (ji10))) (wrap64 (x8_1 + 1)))) else (none)) = some (r1, r2, r3) := by first | (rw [hji10] at H; exact H) | (simp only [hji10] at H ⊢; exact H)
         have hji10w : (IntKind.i64.wrap (7 * x8_1)) = ji10 := (i64_w _).trans hji10
         by_cases c11 : 0 ≤ (ji10)
         ·rw [if_pos c11] at H
          have c11b0 := eq_true c11
          have c11b1 : decide (0 ≤ (ji10)) = true := decide_eq_true c11; clear c11
          obtain ⟨ji12, hji12⟩ : ∃ j_ : Int, (shl .i64 (Go.bits .and .i64 (wrap64 (rd l0 (ji7))) 127) (ji10)) = j_ := ⟨_, rfl⟩
          replace H : (if (wrap64 (rd l0 (ji7))) < 128 then (if (wrap64 (rd l0 (ji7))) = 0 then (if x8_1 > 0 then (some (0, 0, false)) else (if (Go.bits .or .i64 x7_1 (ji12)) > 1000000000000 then (some (0, 0, false)) else (some (Go.bits .or .i64 x7_1 (ji12), wrap64 ((ji7) + 1), true)))) else (if (Go.bits .or .i64 x7_1 (ji12)) > 1000000000000 then (some (0, 0, false)) else (some (Go.bits .or .i64 x7_1 (ji12), wrap64 ((ji7) + 1), true)))) else (spec_ReadUvarint.l0 kj3 l0 a1 (Go.bits .or .i64 x7_1 (ji12)) (wrap64 (x8_1 + 1)))) = some (r1, r2, r3) := by first | (rw [hji12] at H; exact H) | (simp only [hji12] at H ⊢; exact H)
          have hji12_ : (IntKind.i64.wrap ((Go.bits .and .i64 (wrap64 (rd l0 (ji7))) 127) * 2 ^ min (ji10).toNat 64)) = ji12 := hji12
          have hji12z : (ji10) ≤ 64 → (IntKind.i64.wrap ((Go.bits .and .i64 (wrap64 (rd l0 (ji7))) 127) * 2 ^ (ji10).toNat)) = ji12 := shl_small hji12
          have hji12y : (wrap64 ((Go.bits .and .i64 (wrap64 (rd l0 (ji7))) 127) * 2 ^ min (ji10).toNat 64)) = ji12 := (i64_w _).symm.trans hji12_
          have hji12x : (ji10) ≤ 64 → (wrap64 ((Go.bits .and .i64 (wrap64 (rd l0 (ji7))) 127) * 2 ^ (ji10).toNat)) = ji12 := fun h_ => (i64_w _).symm.trans (hji12z h_)
          by_cases c13 : (wrap64 (rd l0 (ji7))) < 128
          ·rw [if_pos c13] at H; have c13b0 : decide ((wrap64 (rd l0 (ji7))) < 128) = true := decide_eq_true c13; clear c13
           by_cases c14 : (wrap64 (rd l0 (ji7))) = 0
           ·rw [if_pos c14] at H; have c14b0 : ((wrap64 (rd l0 (ji7))) == 0) = true := beq_iff_eq.mpr c14; have c14b1 : ((wrap64 (rd l0 (ji7))) != 0) = false := bne_eq_false_iff_eq.mpr c14; clear c14
            by_cases c15 : x8_1 > 0
            ·rw [if_pos c15] at H; have c15b0 : decide (0 < x8_1) = true := decide_eq_true c15; clear c15
             simp only [Option.some.injEq, Prod.mk.injEq] at H
             obtain ⟨rfl, rfl, rfl⟩ := H
             have p340 : 0 ≤ ((ji7) : Int) := of_decide_eq_true Cmp.d
             have q340 : (ji7) < (l0.length : Int) := of_decide_eq_true Cmp.d
             obtain ⟨ad340, e340, hx340_0⟩ := Kd.at_int HR0.out (ji7) p340 q340
             cases e340; replace p340 := eq_true p340; replace q340 := eq_true q340
             go_wp2
             go_ret3
             exact ⟨by first | rfl | (simp; done) | (simp only [← hji7, ← hji10, ← hji12] <;> (first | rfl | simp)) | (simp [*]; done), by repeat (first | exact Drawn0.refl _ | apply Drawn0.step)⟩
            ·rw [if_neg c15] at H; have c15b0 : decide (0 < x8_1) = false := decide_eq_false c15; clear c15
             by_cases c16 : (Go.bits .or .i64 x7_1 (ji12)) > 1000000000000
             ·rw [if_pos c16] at H; have c16b0 : decide (1000000000000 < (Go.bits .or .i64 x7_1 (ji12))) = true := decide_eq_true c16; clear c16
              simp only [Option.some.injEq, Prod.mk.injEq] at H
              obtain ⟨rfl, rfl, rfl⟩ := H
              have p340 : 0 ≤ ((ji7) : Int) := of_decide_eq_true Cmp.d
              have q340 : (ji7) < (l0.length : Int) := of_decide_eq_true Cmp.d
              obtain ⟨ad340, e340, hx340_0⟩ := Kd.at_int HR0.out (ji7) p340 q340
              cases e340; replace p340 := eq_true p340; replace q340 := eq_true q340
              go_wp2
              go_ret3
              exact ⟨by first | rfl | (simp; done) | (simp only [← hji7, ← hji10, ← hji12] <;> (first | rfl | simp)) | (simp [*]; done), by repeat (first | exact Drawn0.refl _ | apply Drawn0.step)⟩
             ·rw [if_neg c16] at H; have c16b0 : decide (1000000000000 < (Go.bits .or .i64 x7_1 (ji12))) = false := decide_eq_false c16; clear c16
              simp only [Option.some.injEq, Prod.mk.injEq] at H
              obtain ⟨rfl, rfl, rfl⟩ := H
              have p340 : 0 ≤ ((ji7) : Int) := of_decide_eq_true Cmp.d
              have q340 : (ji7) < (l0.length : Int) := of_decide_eq_true Cmp.d
              obtain ⟨ad340, e340, hx340_0⟩ := Kd.at_int HR0.out (ji7) p340 q340
              cases e340; replace p340 := eq_true p340; replace q340 := eq_true q340
              go_wp2
              go_ret3
              exact ⟨by first | rfl | (simp; done) | (simp only [← hji7, ← hji10, ← hji12] <;> (first | rfl | simp)) | (simp [*]; done), by repeat (first | exact Drawn0.refl _ | apply Drawn0.step)⟩
           ·rw [if_neg c14] at H; have c14b0 : ((wrap64 (rd l0 (ji7))) == 0) = false := beq_eq_false_iff_ne.mpr c14; have c14b1 : ((wrap64 (rd l0 (ji7))) != 0) = true := bne_iff_ne.mpr c14
            by_cases c17 : (Go.bits .or .i64 x7_1 (ji12)) > 1000000000000
            ·rw [if_pos c17] at H; have c17b0 : decide (1000000000000 < (Go.bits .or .i64 x7_1 (ji12))) = true := decide_eq_true c17; clear c17
             simp only [Option.some.injEq, Prod.mk.injEq] at H
             obtain ⟨rfl, rfl, rfl⟩ := H
             have p340 : 0 ≤ ((ji7) : Int) := of_decide_eq_true Cmp.d
             have q340 : (ji7) < (l0.length : Int) := of_decide_eq_true Cmp.d
             obtain ⟨ad340, e340, hx340_0⟩ := Kd.at_int HR0.out (ji7) p340 q340
             cases e340; replace p340 := eq_true p340; replace q340 := eq_true q340
             go_wp2
             go_ret3
             exact ⟨by first | rfl | (simp; done) | (simp only [← hji7, ← hji10, ← hji12] <;> (first | rfl | simp)) | (simp [*]; done), by repeat (first | exact Drawn0.refl _ | apply Drawn0.step)⟩
            ·rw [if_neg c17] at H; have c17b0 : decide (1000000000000 < (Go.bits .or .i64 x7_1 (ji12))) = false := decide_eq_false c17; clear c17
             simp only [Option.some.injEq, Prod.mk.injEq] at H
             obtain ⟨rfl, rfl, rfl⟩ := H
             have p340 : 0 ≤ ((ji7) : Int) := of_decide_eq_true Cmp.d
             have q340 : (ji7) < (l0.length : Int) := of_decide_eq_true Cmp.d
             obtain ⟨ad340, e340, hx340_0⟩ := Kd.at_int HR0.out (ji7) p340 q340
             cases e340; replace p340 := eq_true p340; replace q340 := eq_true q340
             go_wp2
             go_ret3
             exact ⟨by first | rfl | (simp; done) | (simp only [← hji7, ← hji10, ← hji12] <;> (first | rfl | simp)) | (simp [*]; done), by repeat (first | exact Drawn0.refl _ | apply Drawn0.step)⟩
          ·rw [if_neg c13] at H; have c13b0 : decide ((wrap64 (rd l0 (ji7))) < 128) = false := decide_eq_false c13; clear c13
           have H' := Aside0.mk H
           clear H
           have p340 : 0 ≤ ((ji7) : Int) := of_decide_eq_true Cmp.d
           have q340 : (ji7) < (l0.length : Int) := of_decide_eq_true Cmp.d
           obtain ⟨ad340, e340, hx340_0⟩ := Kd.at_int HR0.out (ji7) p340 q340
           cases e340; replace p340 := eq_true p340; replace q340 := eq_true q340
           go_wp2
           go_roundg kj3
           case measure => have := HK1.out; have := HJ3.out; omega
           case rel => exact ⟨(Go.bits .or .i64 x7_1 (ji12)), (wrap64 (x8_1 + 1)), (by first | rfl | (simp; done) | (simp only [← hji12] <;> (first | rfl | simp)) | (simp [*]; done)), (by first | rfl | simp | simp [*]), H', ⟨by have := HK1.out; have := HJ3.out; omega⟩, by repeat (first | exact Drawn0.refl _ | apply Drawn0.step)⟩
         ·rw [if_neg c11] at H; exact absurd H (by simp)
        ·rw [if_neg c9] at H; exact absurd H (by simp)
       ·rw [if_neg c8] at H; exact absurd H (by simp)
   ·rw [if_neg c3] at H; have c3b0 : decide (x8_1 < 6) = false := decide_eq_false c3; clear c3
    simp only [Option.some.injEq, Prod.mk.injEq] at H
    obtain ⟨rfl, rfl, rfl⟩ := H
    go_wp2
    go_ret3
    exact ⟨by first | rfl | (simp; done) | (simp [*]; done), by repeat (first | exact Drawn0.refl _ | apply Drawn0.step)⟩

/-! ### spec_DecodeInts: function 115 -/
mutual
def spec_DecodeInts.j0 : Nat → List Int → Int → Int → List Int → Bool → Option (List Int × Int × Bool)
  | 0, _, _, _, _, _ => none
  | k + 1, x0, x1, x2, x9, x24 => if x24 = true then (some (x9, 0, false)) else (spec_DecodeInts.l0 k x0 x1 x2 x9 0)
def spec_DecodeInts.l0 : Nat → List Int → Int → Int → List Int → Int → Option (List Int × Int × Bool)
  | 0, _, _, _, _, _ => none
  | k + 1, x0, x1, x2, x9, x10 => if x10 < x2 then ((spec_ReadUvarint.f k x0 x1).bind fun bt346 => (if bt346.2.2 = true then (if x9.length < 17592186044416 then (spec_DecodeInts.l0 k x0 bt346.2.1 x2 (x9 ++ [bt346.1]) (wrap64 (x10 + 1))) else (none)) else (some ((([] : List Int)), 0, false)))) else (some (x9, x1, true))
end
def spec_DecodeInts.f (k : Nat) (l0 : List Int) (a1 : Int) (a2 : Int) : Option (List Int × Int × Bool) := (some (([] : List Int) : List Int)).bind fun y341 => ((spec_l1In.f a2 0 100).bind fun t344 => (if t344 = true then ((spec_l1In.f a1 0 (l0.length : Int)).bind fun t345 => (spec_DecodeInts.j0 k l0 a1 a2 y341 (!t345))) else (spec_DecodeInts.j0 k l0 a1 a2 y341 true)))
theorem spec_DecodeInts.mono_l : ∀ k, (∀ y0 y1 y2 y3 y4, LeO (spec_DecodeInts.j0 k y0 y1 y2 y3 y4) (spec_DecodeInts.j0 (k + 1) y0 y1 y2 y3 y4)) ∧ (∀ y0 y1 y2 y3 y4, LeO (spec_DecodeInts.l0 k y0 y1 y2 y3 y4) (spec_DecodeInts.l0 (k + 1) y0 y1 y2 y3 y4))
  | 0 => ⟨fun _ _ _ _ _ r h => by simp [spec_DecodeInts.j0] at h, fun _ _ _ _ _ r h => by simp [spec_DecodeInts.l0] at h⟩
  | k + 1 => by
    obtain ⟨ih0, ih1⟩ := spec_DecodeInts.mono_l k
    refine ⟨?_, ?_⟩
    · intro y0 y1 y2 y3 y4
      unfold spec_DecodeInts.j0
      repeat' first
      | (with_reducible exact ih0 _ _ _ _ _)
      | (with_reducible exact ih1 _ _ _ _ _)
      | (with_reducible exact spec_ReadUvarint.mono _ _ _)
      | (with_reducible exact LeO.refl _)
      | (with_reducible exact LeO.none _)
      | (with_reducible refine LeO.ite ?_ ?_)
      | (with_reducible refine LeO.bind ?_ (fun _ => ?_))
      | exact ih0 _ _ _ _ _
      | exact ih1 _ _ _ _ _
      | exact spec_ReadUvarint.mono _ _ _
      | exact LeO.none _
      | refine LeO.ite ?_ ?_
      | refine LeO.bind ?_ (fun _ => ?_)
    · intro y0 y1 y2 y3 y4
      unfold spec_DecodeInts.l0
      repeat' first
      | (with_reducible exact ih0 _ _ _ _ _)
      | (with_reducible exact ih1 _ _ _ _ _)
      | (with_reducible exact spec_ReadUvarint.mono _ _ _)
      | (with_reducible exact LeO.refl _)
      | (with_reducible exact LeO.none _)
      | (with_reducible refine LeO.ite ?_ ?_)
      | (with_reducible refine LeO.bind ?_ (fun _ => ?_))
      | exact ih0 _ _ _ _ _
      | exact ih1 _ _ _ _ _
      | exact spec_ReadUvarint.mono _ _ _
      | exact LeO.none _
      | refine LeO.ite ?_ ?_
      | refine LeO.bind ?_ (fun _ => ?_)
theorem spec_DecodeInts.mono : ∀ a0 a1 a2 k, LeO (spec_DecodeInts.f k a0 a1 a2) (spec_DecodeInts.f (k + 1) a0 a1 a2) := by
  intro a0 a1 a2 k
  obtain ⟨ih0, ih1⟩ := spec_DecodeInts.mono_l k
  unfold spec_DecodeInts.f
  repeat' first
      | (with_reducible exact ih0 _ _ _ _ _)
      | (with_reducible exact ih1 _ _ _ _ _)
      | (with_reducible exact spec_ReadUvarint.mono _ _ _)
      | (with_reducible exact LeO.refl _)
      | (with_reducible exact LeO.none _)
      | (with_reducible refine LeO.ite ?_ ?_)
      | (with_reducible refine LeO.bind ?_ (fun _ => ?_))
      | exact ih0 _ _ _ _ _
      | exact ih1 _ _ _ _ _
      | exact spec_ReadUvarint.mono _ _ _
      | exact LeO.none _
      | refine LeO.ite ?_ ?_
      | refine LeO.bind ?_ (fun _ => ?_)
set_option maxHeartbeats 8000000 in
set_option maxRecDepth 100000 in
theorem spec_DecodeInts.calls (k : Nat) (A0 : Option Addr) (c0 : Nat) (l0 : List Int) (a1 : Int) (a2 : Int) (r1 : List Int) (r2 : Int) (r3 : Bool) (w : World) (hr0 : Kd.C (Kd.int .u8) w A0 l0.length l0) (hc0 : l0.length ≤ c0) (h : spec_DecodeInts.f k l0 a1 a2 = some (r1, r2, r3)) :
    Calls Try.prog 115 #[.slice A0 l0.length c0, .int .i64 a1, .int .i64 a2] w fun e w' => ∃ v0_ : Value, e = .returned (.tuple #[v0_, .int .i64 r2, .bool r3]) ∧ Kd.R (Kd.int .i64) 3 w' w.heap.size (fun _ => True) v0_ r1 ∧ Below w.heap.size w w' := by
 have HR0 := Aside0.mk hr0; have HC0 := Aside0.mk hc0; clear hr0 hc0
 have HB := Aside0.mk (Below.refl w.heap.size w)
 have H : ((some (([] : List Int) : List Int)).bind fun y341 => ((spec_l1In.f a2 0 100).bind fun t344 => (if t344 = true then ((spec_l1In.f a1 0 (l0.length : Int)).bind fun t345 => (spec_DecodeInts.j0 k l0 a1 a2 y341 (!t345))) else (spec_DecodeInts.j0 k l0 a1 a2 y341 true)))) = some (r1, r2, r3) := h
 clear h
 obtain ⟨y341, hy341⟩ : ∃ y_ : List Int, y_ = (([] : List Int)) := ⟨_, rfl⟩
 replace H : ((spec_l1In.f a2 0 100).bind fun t344 => (if t344 = true then ((spec_l1In.f a1 0 (l0.length : Int)).bind fun t345 => (spec_DecodeInts.j0 k l0 a1 a2 y341 (!t345))) else (spec_DecodeInts.j0 k l0 a1 a2 y341 true))) = some (r1, r2, r3) := by first | (rw [hy341]; with_reducible exact H) | (have H2_ := (Option.bind_some _ _).symm.trans H; rw [hy341]; with_reducible exact H2_) | (have H2_ := (Option.bind_some _ _).symm.trans H; with_reducible exact H2_) | with_reducible exact H | (rw [hy341]; exact H) | exact H
 have Ny341 := Aside0.mk hy341; clear hy341; have HC4 := Aside0.mk H; clear H
 go_enter Try.func115, Try.ntmps115
 go_upto_region 2 with (first | ((with_reducible refine gate_dst (N := 14) rfl ?_); (try (refine gate_guard (by rfl) ?_; dsimp only)); refine Kd.R_lit (Kd.int .i64) _ 3 ?hg (N := 14) ?hd (xs := ([] : List Int)) (inner := []) (ok := fun _ => True) (okp := fun _ => True) ?hr ?hp (fun _ hk => hk) trivial (Below.refl _ _) (Nat.le_refl _) (by simp) ?_; (case hd => rfl); (case hg => rfl); (case hr => first | (go_simp; done) | (go_simp; rfl)); (case hp => exact (Reps.none _ _)); intro v342 w5 ho6 hb hg_ hnew_; clear hg_ hnew_; (first | rw [← Ny341.out] at ho6 | (simp only [Int.reduceToNat] at ho6; rw [← Ny341.out] at ho6)); have n0_ := Aside0.mk (Kd.R_lower ho6 (below_size (Cmp.g HB.out))); have n1_ := Aside0.mk (below_step (Cmp.g HB.out) hb); clear HB; have HO343 := n0_; have HB := n1_; clear n0_ n1_; clear hb ho6))
 (try simp only [Act.put, List.setIfInBounds_toArray, List.set_cons_zero, List.set_cons_succ])
 go_cut [24] (fun v24 wc => ∃ (kq : Nat) (x24_3 : Bool), v24 = .bool x24_3 ∧ Aside0 (spec_DecodeInts.j0 kq l0 a1 a2 y341 x24_3 = some (r1, r2, r3)) ∧ Aside0 (kq ≤ k) ∧ Aside0 (Kd.R (Kd.int .i64) 3 wc w.heap.size (fun _ => True) v342 y341) ∧ Aside0 (Below w.heap.size w wc))
 case first =>
  have H := HC4.out; clear HC4; replace H := Option.bind_eq_some_iff.mp H; obtain ⟨t344, A70, H⟩ := H; (try dsimp only at H); have A7 := Aside0.mk A70; clear A70
  by_cases c8 : t344 = true
  ·subst c8; rw [if_pos rfl] at H; replace H := Option.bind_eq_some_iff.mp H; obtain ⟨t345, A90, H⟩ := H; (try dsimp only at H); have A9 := Aside0.mk A90; clear A90
   have H' := Aside0.mk H
   clear H
   go_wp2_with (first | ((with_reducible refine gate_callee (f := 99) rfl ?_); refine goesL_ (some 16) rfl rfl Try.func99 (by kernel_rfl) rfl #[.int .i64 a2, .int .i64 0, .int .i64 100] rfl Cmp.q ?_; (with_reducible refine (spec_l1In.calls a2 0 100 true _ A7.out).mono ?_); rintro e w' ⟨rfl, ⟨nd, rfl⟩⟩; refine ⟨_, rfl, ?_⟩) | (go_at_call 99; (with_reducible refine (spec_l1In.calls a1 0 (l0.length : Int) t345 _ A9.out).mono ?_); rintro e w' ⟨rfl, ⟨nd, rfl⟩⟩))
   go_meet
   case rel => exact ⟨_, (!t345), (by first | rfl | simp | simp [*]), H', ⟨by first | omega | exact Nat.le_refl _⟩, ⟨by (with_reducible repeat (first | apply Kd.R_alloc | apply Kd.R_drewN | apply Kd.R_drew)); exact HO343.out⟩, ⟨Cmp.g HB.out⟩⟩
  ·replace c8 := Bool.eq_false_iff.mpr c8
   subst c8
   have H1 : (spec_DecodeInts.j0 k l0 a1 a2 y341 true) = some (r1, r2, r3) := by rw [if_neg (show ¬ (false = true) by decide)] at H; exact H
   clear H; have H := H1; clear H1
   have H' := Aside0.mk H
   clear H
   go_wp2_with (first | ((with_reducible refine gate_callee (f := 99) rfl ?_); refine goesL_ (some 16) rfl rfl Try.func99 (by kernel_rfl) rfl #[.int .i64 a2, .int .i64 0, .int .i64 100] rfl Cmp.q ?_; (with_reducible refine (spec_l1In.calls a2 0 100 false _ A7.out).mono ?_); rintro e w' ⟨rfl, ⟨nd, rfl⟩⟩; refine ⟨_, rfl, ?_⟩))
   go_meet
   case rel => exact ⟨_, (true), (by first | rfl | simp | simp [*]), H', ⟨by first | omega | exact Nat.le_refl _⟩, ⟨by (with_reducible repeat (first | apply Kd.R_alloc | apply Kd.R_drewN | apply Kd.R_drew)); exact HO343.out⟩, ⟨Cmp.g HB.out⟩⟩
 case rest =>
  clear HC4; (try clear c1); (try clear p2); (try clear c8); (try clear c9)
  obtain ⟨kq, x24_3, rfl, HA, HJ3, HO_9, HB⟩ := hcut
  cases kq with
  | zero => exact absurd HA.out (by simp [spec_DecodeInts.j0])
  | succ kj3 =>
   have H := HA.out; clear HA
   simp only [spec_DecodeInts.j0] at H
   by_cases c10 : x24_3 = true
   ·subst c10; rw [if_pos rfl] at H
    simp only [Option.some.injEq, Prod.mk.injEq] at H
    obtain ⟨rfl, rfl, rfl⟩ := H
    go_wp2
    go_ret3
    exact ⟨_, by first | rfl | (simp [errW_none, errW_some] <;> rfl) | (simp [*, errW_none, errW_some] <;> rfl), by (with_reducible repeat (first | apply Kd.R_alloc | apply Kd.R_drewN | apply Kd.R_drew)); exact HO_9.out, Cmp.g HB.out⟩
   ·replace c10 := Bool.eq_false_iff.mpr c10
    subst c10
    have H1 : (spec_DecodeInts.l0 kj3 l0 a1 a2 y341 0) = some (r1, r2, r3) := by rw [if_neg (show ¬ (false = true) by decide)] at H; exact H
    clear H; have H := H1; clear H1
    have H' := Aside0.mk H
    clear H
    go_wp2
    go_loopg [1, 9, 10] kj3 (fun kq v1 v9 v10 w' => ∃ (x1_2 : Int) (x9_2 : List Int) (x10_2 : Int), v1 = .int .i64 x1_2 ∧ v10 = .int .i64 x10_2 ∧ Aside0 (spec_DecodeInts.l0 kq l0 x1_2 a2 x9_2 x10_2 = some (r1, r2, r3)) ∧ Aside0 (kq ≤ kj3) ∧ Aside0 (Kd.R (Kd.int .i64) 3 w' w.heap.size (fun _ => True) v9 x9_2) ∧ Aside0 (Below w.heap.size w w'))
    case atStart => exact ⟨(a1), (y341), (0), (by first | rfl | simp | simp [*]), (by first | rfl | simp | simp [*]), H', ⟨Nat.le_refl _⟩, ⟨by (with_reducible repeat (first | apply Kd.R_alloc | apply Kd.R_drewN | apply Kd.R_drew)); exact HO_9.out⟩, ⟨Cmp.g HB.out⟩⟩
    case round =>
     clear H'
     (try clear c1); (try clear p2); (try clear c8); (try clear c9); (try clear c10); (try clear p2)
     obtain ⟨x1_2, x9_2, x10_2, rfl, rfl, HA, HK2, HO_9, HB⟩ := hrel
     cases gk with
     | zero => exact absurd HA.out (by simp [spec_DecodeInts.l0])
     | succ k2 =>
      have H := HA.out; clear HA
      simp only [spec_DecodeInts.l0] at H
      by_cases c11 : x10_2 < a2
      ·rw [if_pos c11] at H; have c11b0 : decide (x10_2 < a2) = true := decide_eq_true c11; clear c11; replace H := Option.bind_eq_some_iff.mp H; obtain ⟨⟨t346, t347, t348⟩, A120, H⟩ := H; (try dsimp only at H); have A12 := Aside0.mk A120; clear A120
       by_cases c13 : t348 = true
       ·subst c13; rw [if_pos rfl] at H
        by_cases c14 : x9_2.length < 17592186044416
        ·rw [if_pos c14] at H; have LMc14 := Aside0.mk c14; clear c14
         obtain ⟨y349, hy349⟩ : ∃ y_ : List Int, y_ = (x9_2 ++ [t346]) := ⟨_, rfl⟩
         replace H : (spec_DecodeInts.l0 k2 l0 t347 a2 y349 (wrap64 (x10_2 + 1))) = some (r1, r2, r3) := by first | (rw [hy349]; with_reducible exact H) | (have H2_ := (Option.bind_some _ _).symm.trans H; rw [hy349]; with_reducible exact H2_) | (have H2_ := (Option.bind_some _ _).symm.trans H; with_reducible exact H2_) | with_reducible exact H | (rw [hy349]; exact H) | exact H
         have Ny349 := Aside0.mk hy349; clear hy349
         have H' := Aside0.mk H
         clear H
         go_wp2_with (first | ((with_reducible refine gate_callee (f := 114) rfl ?_); refine goesL_ (some 34) rfl rfl Try.func114 (by kernel_rfl) rfl #[.slice A0 l0.length c0, .int .i64 x1_2] rfl Cmp.q ?_; (with_reducible refine (spec_ReadUvarint.calls k2 _ _ l0 x1_2 t346 t347 true _ ?side1 ?side2 A12.out).mono ?_); (case side1 => exact Cmp.rc (Kd.C_below HR0.out HB.out)); (case side2 => exact HC0.out); rintro e w' ⟨rfl, ⟨nd, rfl⟩⟩; refine ⟨_, rfl, ?_⟩) | ((with_reducible refine gate_builtin (b := .append) (xs := #[.tmp 41, .tmp 43]) rfl ?_); (try (refine gate_guard (by rfl) ?_; dsimp only)); at_builtin; refine Kd.R_append (Kd.int .i64) (w0 := w) w.heap.size rfl (.tmp 41) (.tmp 43) 32 3 (.int .i64 0) 8 rfl Try.underlying32 info3 rfl (by decide) (by omega) u9 x9_2 t346 [.int .i64 t346] (fun _ => True) (fun _ => False) rfl rfl ?aP (fun _ hk => hk.elim) ?aF ?aO ?aB ?aS ?aL ?_; (case aP => exact rfl); (case aB => exact (Cmp.g HB.out)); (case aF => exact (fun _ _ => trivial)); (case aO => exact (Cmp.rr HO_9.out)); (case aS => exact (below_size (Cmp.g HB.out))); (case aL => have := LMc14.out; omega); intro v350 w15 ho hb hg hat; rw [← Ny349.out] at ho; have n0_ := Aside0.mk (hb); have n1_ := Aside0.mk (ho); clear HB; clear HO_9; have HB := n0_; have HO351 := n1_; clear n0_ n1_; clear ho hb hg hat))
         go_roundg k2
         case measure => have := HJ3.out; have := HK2.out; omega
         case rel => exact ⟨(t347), (y349), (wrap64 (x10_2 + 1)), (by first | rfl | simp | simp [*]), (by first | rfl | simp | simp [*]), H', ⟨by have := HJ3.out; have := HK2.out; omega⟩, ⟨by (with_reducible repeat (first | apply Kd.R_alloc | apply Kd.R_drewN | apply Kd.R_drew)); exact HO351.out⟩, ⟨Cmp.g HB.out⟩⟩
        ·rw [if_neg c14] at H; exact absurd H (by simp)
       ·replace c13 := Bool.eq_false_iff.mpr c13
        subst c13
        have H1 : (some ((([] : List Int)), 0, false)) = some (r1, r2, r3) := by rw [if_neg (show ¬ (false = true) by decide)] at H; exact H
        clear H; have H := H1; clear H1
        obtain ⟨y352, hy352⟩ : ∃ y_ : List Int, y_ = (([] : List Int)) := ⟨_, rfl⟩
        replace H : (some (y352, 0, false)) = some (r1, r2, r3) := by first | (rw [hy352]; with_reducible exact H) | (have H2_ := (Option.bind_some _ _).symm.trans H; rw [hy352]; with_reducible exact H2_) | (have H2_ := (Option.bind_some _ _).symm.trans H; with_reducible exact H2_) | with_reducible exact H | (rw [hy352]; exact H) | exact H
        have Ny352 := Aside0.mk hy352; clear hy352
        simp only [Option.some.injEq, Prod.mk.injEq] at H
        obtain ⟨rfl, rfl, rfl⟩ := H
        go_wp2_with (first | ((with_reducible refine gate_callee (f := 114) rfl ?_); refine goesL_ (some 34) rfl rfl Try.func114 (by kernel_rfl) rfl #[.slice A0 l0.length c0, .int .i64 x1_2] rfl Cmp.q ?_; (with_reducible refine (spec_ReadUvarint.calls k2 _ _ l0 x1_2 t346 t347 false _ ?side1 ?side2 A12.out).mono ?_); (case side1 => exact Cmp.rc (Kd.C_below HR0.out HB.out)); (case side2 => exact HC0.out); rintro e w' ⟨rfl, ⟨nd, rfl⟩⟩; refine ⟨_, rfl, ?_⟩) | ((with_reducible refine gate_dst (N := 40) rfl ?_); (try (refine gate_guard (by rfl) ?_; dsimp only)); refine Kd.R_lit (Kd.int .i64) _ 3 ?hg (N := 40) ?hd (xs := ([] : List Int)) (inner := []) (ok := fun _ => True) (okp := fun _ => True) ?hr ?hp (fun _ hk => hk) trivial (Below.refl _ _) (Nat.le_refl _) (by simp) ?_; (case hd => rfl); (case hg => rfl); (case hr => first | (go_simp; done) | (go_simp; rfl)); (case hp => exact (Reps.none _ _)); intro v353 w16 ho17 hb hg_ hnew_; clear hg_ hnew_; (first | rw [← Ny352.out] at ho17 | (simp only [Int.reduceToNat] at ho17; rw [← Ny352.out] at ho17)); have n0_ := Aside0.mk (Kd.R_elder' (Cmp.rr HO_9.out) (Kd.R_base ho17) hb); have n1_ := Aside0.mk (Kd.R_lower (Kd.R_new' ho17 (Kd.R_lt (Cmp.rr HO_9.out))) (below_size (Cmp.g HB.out))); have n2_ := Aside0.mk (below_step (Cmp.g HB.out) hb); clear HO_9; clear HB; have HO_9 := n0_; have HO354 := n1_; have HB := n2_; clear n0_ n1_ n2_; clear hb ho17))
        go_ret3
        exact ⟨_, by first | rfl | (simp [errW_none, errW_some] <;> rfl) | (simp [*, errW_none, errW_some] <;> rfl), by (with_reducible repeat (first | apply Kd.R_alloc | apply Kd.R_drewN | apply Kd.R_drew)); exact Kd.R_mono HO354.out (fun _ hk => trivial), Cmp.g HB.out⟩
      ·rw [if_neg c11] at H; have c11b0 : decide (x10_2 < a2) = false := decide_eq_false c11; clear c11
       simp only [Option.some.injEq, Prod.mk.injEq] at H
       obtain ⟨rfl, rfl, rfl⟩ := H
       go_wp2
       go_ret3
       exact ⟨_, by first | rfl | (simp [errW_none, errW_some] <;> rfl) | (simp [*, errW_none, errW_some] <;> rfl), by (with_reducible repeat (first | apply Kd.R_alloc | apply Kd.R_drewN | apply Kd.R_drew)); exact HO_9.out, Cmp.g HB.out⟩

/-! ### spec_EqualBytes: function 116 -/
def spec_EqualBytes.f (l0 : List Int) (l1 : List Int) : Option (Bool) := some ((strOfNums l0).toList == (strOfNums l1).toList)
set_option maxHeartbeats 8000000 in
set_option maxRecDepth 100000 in
theorem spec_EqualBytes.calls (A0 : Option Addr) (c0 : Nat) (l0 : List Int) (A1 : Option Addr) (c1 : Nat) (l1 : List Int) (r : Bool) (w : World) (hr0 : Kd.C (Kd.int .u8) w A0 l0.length l0) (hc0 : l0.length ≤ c0) (hr1 : Kd.C (Kd.int .u8) w A1 l1.length l1) (hc1 : l1.length ≤ c1) (h : spec_EqualBytes.f l0 l1 = some r) :
    Calls Try.prog 116 #[.slice A0 l0.length c0, .slice A1 l1.length c1] w fun e w' => e = .returned (.bool r) ∧ Drawn0 w w' := by
 have HR0 := Aside0.mk hr0; have HC0 := Aside0.mk hc0; clear hr0 hc0; have HR1 := Aside0.mk hr1; have HC1 := Aside0.mk hc1; clear hr1 hc1
 have H : (some ((strOfNums l0).toList == (strOfNums l1).toList)) = some r := h
 clear h
 obtain rfl := Option.some.inj H
 have hcv3 := Kd.C_string (P := Try.prog) (A := A0) (c := c0) Try.underlying22 Try.underlying5 Try.underlying9 HR0.out
 have hcv4 := Kd.C_string (P := Try.prog) (A := A1) (c := c1) Try.underlying22 Try.underlying5 Try.underlying9 HR1.out
 go_enter Try.func116, Try.ntmps116
 go_wp2
 go_ret
 exact ⟨by first | rfl | (simp; done) | (simp [*]; done), by repeat (first | exact Drawn0.refl _ | apply Drawn0.step)⟩

/-! ### spec_DecodeBundle: function 78 -/
mutual
def spec_DecodeBundle.j0 : Nat → List Int → Int → Int → Bool → Option ((List (S94)) × Bool)
  | 0, _, _, _, _ => none
  | k + 1, x0, x4, x5, x24 => if x24 = true then (some (([] : List (S94)), false)) else (spec_DecodeBundle.l0 k x0 x4 x5 0 ([] : List (S94)))
def spec_DecodeBundle.l0 : Nat → List Int → Int → Int → Int → List (S94) → Option ((List (S94)) × Bool)
  | 0, _, _, _, _, _ => none
  | k + 1, x0, x4, x5, x8, x360000 => if x8 < x4 then ((spec_DecodeInts.f k x0 x5 4).bind fun bt361 => (if bt361.2.2 = true then (if 0 < (bt361.1.length : Int) then (if 1 < (bt361.1.length : Int) then (if 2 < (bt361.1.length : Int) then (if 3 < (bt361.1.length : Int) then (if x360000.length < 4398046511104 then (spec_DecodeBundle.l0 k x0 x4 bt361.2.1 (wrap64 (x8 + 1)) (x360000 ++ [(⟨rd bt361.1 0, rd bt361.1 1, rd bt361.1 2, ((rd bt361.1 3) == 1)⟩ : S94)])) else (none)) else (none)) else (none)) else (none)) else (none)) else (some (([] : List (S94)), false)))) else ((spec_IsBundle.f k x360000).bind fun t373 => (if t373 = true then ((spec_EncodeBundle.f k x360000).bind fun t374 => ((spec_EqualBytes.f t374 x0).bind fun t377 => (if t377 = true then (some (x360000, true)) else (some (([] : List (S94)), false))))) else (some (([] : List (S94)), false))))
end
def spec_DecodeBundle.f (k : Nat) (l0 : List Int) : Option ((List (S94)) × Bool) := (spec_ReadUvarint.f k l0 0).bind fun bt356 => (if bt356.2.2 = true then (spec_DecodeBundle.j0 k l0 bt356.1 bt356.2.1 (decide (bt356.1 > 20))) else (spec_DecodeBundle.j0 k l0 bt356.1 bt356.2.1 true))
theorem spec_DecodeBundle.mono_l : ∀ k, (∀ y0 y1 y2 y3, LeO (spec_DecodeBundle.j0 k y0 y1 y2 y3) (spec_DecodeBundle.j0 (k + 1) y0 y1 y2 y3)) ∧ (∀ y0 y1 y2 y3 y4, LeO (spec_DecodeBundle.l0 k y0 y1 y2 y3 y4) (spec_DecodeBundle.l0 (k + 1) y0 y1 y2 y3 y4))
  | 0 => ⟨fun _ _ _ _ r h => by simp [spec_DecodeBundle.j0] at h, fun _ _ _ _ _ r h => by simp [spec_DecodeBundle.l0] at h⟩
  | k + 1 => by
    obtain ⟨ih0, ih1⟩ := spec_DecodeBundle.mono_l k
    refine ⟨?_, ?_⟩
    · intro y0 y1 y2 y3
      unfold spec_DecodeBundle.j0
      repeat' first
      | (with_reducible exact ih0 _ _ _ _)
      | (with_reducible exact ih1 _ _ _ _ _)
      | (with_reducible exact spec_DecodeInts.mono _ _ _ _)
      | (with_reducible exact spec_EncodeBundle.mono _ _)
      | (with_reducible exact spec_IsBundle.mono _ _)
      | (with_reducible exact spec_ReadUvarint.mono _ _ _)
      | (with_reducible exact LeO.refl _)
      | (with_reducible exact LeO.none _)
      | (with_reducible refine LeO.ite ?_ ?_)
      | (with_reducible refine LeO.bind ?_ (fun _ => ?_))
      | exact ih0 _ _ _ _
      | exact ih1 _ _ _ _ _
      | exact spec_DecodeInts.mono _ _ _ _
      | exact spec_EncodeBundle.mono _ _
      | exact spec_IsBundle.mono _ _
      | exact spec_ReadUvarint.mono _ _ _
      | exact LeO.none _
      | refine LeO.ite ?_ ?_
      | refine LeO.bind ?_ (fun _ => ?_)
    · intro y0 y1 y2 y3 y4
      unfold spec_DecodeBundle.l0
      repeat' first
      | (with_reducible exact ih0 _ _ _ _)
      | (with_reducible exact ih1 _ _ _ _ _)
      | (with_reducible exact spec_DecodeInts.mono _ _ _ _)
      | (with_reducible exact spec_EncodeBundle.mono _ _)
      | (with_reducible exact spec_IsBundle.mono _ _)
      | (with_reducible exact spec_ReadUvarint.mono _ _ _)
      | (with_reducible exact LeO.refl _)
      | (with_reducible exact LeO.none _)
      | (with_reducible refine LeO.ite ?_ ?_)
      | (with_reducible refine LeO.bind ?_ (fun _ => ?_))
      | exact ih0 _ _ _ _
      | exact ih1 _ _ _ _ _
      | exact spec_DecodeInts.mono _ _ _ _
      | exact spec_EncodeBundle.mono _ _
      | exact spec_IsBundle.mono _ _
      | exact spec_ReadUvarint.mono _ _ _
      | exact LeO.none _
      | refine LeO.ite ?_ ?_
      | refine LeO.bind ?_ (fun _ => ?_)
theorem spec_DecodeBundle.mono : ∀ a0 k, LeO (spec_DecodeBundle.f k a0) (spec_DecodeBundle.f (k + 1) a0) := by
  intro a0 k
  obtain ⟨ih0, ih1⟩ := spec_DecodeBundle.mono_l k
  unfold spec_DecodeBundle.f
  repeat' first
      | (with_reducible exact ih0 _ _ _ _)
      | (with_reducible exact ih1 _ _ _ _ _)
      | (with_reducible exact spec_DecodeInts.mono _ _ _ _)
      | (with_reducible exact spec_EncodeBundle.mono _ _)
      | (with_reducible exact spec_IsBundle.mono _ _)
      | (with_reducible exact spec_ReadUvarint.mono _ _ _)
      | (with_reducible exact LeO.refl _)
      | (with_reducible exact LeO.none _)
      | (with_reducible refine LeO.ite ?_ ?_)
      | (with_reducible refine LeO.bind ?_ (fun _ => ?_))
      | exact ih0 _ _ _ _
      | exact ih1 _ _ _ _ _
      | exact spec_DecodeInts.mono _ _ _ _
      | exact spec_EncodeBundle.mono _ _
      | exact spec_IsBundle.mono _ _
      | exact spec_ReadUvarint.mono _ _ _
      | exact LeO.none _
      | refine LeO.ite ?_ ?_
      | refine LeO.bind ?_ (fun _ => ?_)
set_option maxHeartbeats 8000000 in
set_option maxRecDepth 100000 in
theorem spec_DecodeBundle.calls (k : Nat) (A0 : Option Addr) (c0 : Nat) (l0 : List Int) (r1 : List (S94)) (r2 : Bool) (w : World) (hr0 : Kd.C (Kd.int .u8) w A0 l0.length l0) (hc0 : l0.length ≤ c0) (h : spec_DecodeBundle.f k l0 = some (r1, r2)) :
    Calls Try.prog 78 #[.slice A0 l0.length c0] w fun e w' => ∃ v0_ : Value, e = .returned (.tuple #[.agg #[v0_], .bool r2]) ∧ Kd.R k94 94 w' w.heap.size (fun _ => True) v0_ r1 ∧ Below w.heap.size w w' := by
 have hu45 := Try.underlying45; have hu94 := Try.underlying94; have HR0 := Aside0.mk hr0; have HC0 := Aside0.mk hc0; clear hr0 hc0
 have HB := Aside0.mk (Below.refl w.heap.size w)
 have H : ((spec_ReadUvarint.f k l0 0).bind fun bt356 => (if bt356.2.2 = true then (spec_DecodeBundle.j0 k l0 bt356.1 bt356.2.1 (decide (bt356.1 > 20))) else (spec_DecodeBundle.j0 k l0 bt356.1 bt356.2.1 true))) = some (r1, r2) := h
 clear h; replace H := Option.bind_eq_some_iff.mp H; obtain ⟨⟨t356, t357, t358⟩, A20, H⟩ := H; (try dsimp only at H); have A2 := Aside0.mk A20; clear A20; have HC3 := Aside0.mk H; clear H
 go_enter Try.func78, Try.ntmps78
 go_upto_region 2 with (first | ((with_reducible refine gate_dst (N := 2) rfl ?_); refine box_event ?hg (N := 2) ?hd (cs := #[.slice none 0 0]) (t := 45) ?hr ?_; (case hd => rfl); (case hg => rfl); (case hr => first | (go_simp; done) | (go_simp; rfl)); intro gb355 hg w4 hbox hb; have n0_ := Aside0.mk (below_step (Cmp.g HB.out) hb); have n1_ := Aside0.mk (hbox); have n2_ := Aside0.mk ((by rw [hg]; exact (below_size (Cmp.g HB.out)) : w.heap.size ≤ gb355)); have n3_ := Aside0.mk ((by rw [hg]; exact (below_size (Cmp.g HB.out)) : w.heap.size ≤ gb355)); clear HB; have HB := n0_; have BK355 := n1_; have GW355 := n2_; have GE355 := n3_; clear n0_ n1_ n2_ n3_; clear hb hbox hg) | ((with_reducible refine gate_callee (f := 114) rfl ?_); refine goesL_ (some 15) rfl rfl Try.func114 (by kernel_rfl) rfl #[.slice A0 l0.length c0, .int .i64 0] rfl Cmp.q ?_; (with_reducible refine (spec_ReadUvarint.calls k _ _ l0 0 t356 t357 t358 _ ?side1 ?side2 A2.out).mono ?_); (case side1 => exact Cmp.rc (Kd.C_below HR0.out HB.out)); (case side2 => exact HC0.out); rintro e w' ⟨rfl, ⟨nd, rfl⟩⟩; refine ⟨_, rfl, ?_⟩))
 (try simp only [Act.put, List.setIfInBounds_toArray, List.set_cons_zero, List.set_cons_succ])
 go_cut [24] (fun v24 wc => ∃ (kq : Nat) (x24_2 : Bool), v24 = .bool x24_2 ∧ Aside0 (spec_DecodeBundle.j0 kq l0 t356 t357 x24_2 = some (r1, r2)) ∧ Aside0 (kq ≤ k) ∧ Aside0 (wc.heap[gb355]? = some (.cells #[(.slice none 0 0)] 45 (0, 0))) ∧ Aside0 (Below w.heap.size w wc))
 case first =>
  have H := HC3.out; clear HC3
  by_cases c5 : t358 = true
  ·subst c5; rw [if_pos rfl] at H
   have H' := Aside0.mk H
   clear H
   go_wp2
   go_meet
   case rel => exact ⟨_, (decide (t356 > 20)), (by first | rfl | simp | simp [*]), H', ⟨by first | omega | exact Nat.le_refl _⟩, ⟨by (with_reducible repeat (first | refine blk_drewN ?_ _ | refine blk_drew ?_ | refine blk_alloc ?_ _)); exact BK355.out⟩, ⟨Cmp.g HB.out⟩⟩
  ·replace c5 := Bool.eq_false_iff.mpr c5
   subst c5
   have H1 : (spec_DecodeBundle.j0 k l0 t356 t357 true) = some (r1, r2) := by rw [if_neg (show ¬ (false = true) by decide)] at H; exact H
   clear H; have H := H1; clear H1
   have H' := Aside0.mk H
   clear H
   go_wp2
   go_meet
   case rel => exact ⟨_, (true), (by first | rfl | simp | simp [*]), H', ⟨by first | omega | exact Nat.le_refl _⟩, ⟨by (with_reducible repeat (first | refine blk_drewN ?_ _ | refine blk_drew ?_ | refine blk_alloc ?_ _)); exact BK355.out⟩, ⟨Cmp.g HB.out⟩⟩
 case rest =>
  clear HC3; (try clear c1); (try clear p2); (try clear c5)
  obtain ⟨kq, x24_2, rfl, HA, HJ2, BK355, HB⟩ := hcut
  cases kq with
  | zero => exact absurd HA.out (by simp [spec_DecodeBundle.j0])
  | succ kj2 =>
   have H := HA.out; clear HA
   simp only [spec_DecodeBundle.j0] at H
   by_cases c6 : x24_2 = true
   ·subst c6; rw [if_pos rfl] at H
    simp only [Option.some.injEq, Prod.mk.injEq] at H
    obtain ⟨rfl, rfl⟩ := H
    have hcz7_0 : wc.cell? ⟨gb355, 0, none⟩ = some (.slice none 0 0) := (blk_cell BK355.out 0).trans rfl
    have hfz7_0 := blk_frozen BK355.out 0
    go_wp2
    refine bodyPost_ret (results_ct rfl _ _ gb355 45 #[.slice none 0 0] (0, 0) _ rfl (by (with_reducible repeat (first | refine blk_drewN ?_ _ | refine blk_drew ?_ | refine blk_alloc ?_ _)); refine blk_put (cs := #[.slice none 0 0]) ?_ 0 _ rfl; (with_reducible repeat (first | refine blk_drewN ?_ _ | refine blk_drew ?_ | refine blk_alloc ?_ _)); exact BK355.out) Try.underlying45 rfl (by kernel_rfl)) rfl ?_
    exact ⟨_, by first | rfl | (simp [errW_none, errW_some] <;> rfl) | (simp [*, errW_none, errW_some] <;> rfl), by first | exact Kd.R_nil _ _ _ _ _ | exact Kd.N_nil _ _ _ _ _ | exact Kd.V_nil _ _ _ _ _ | exact Kd.Q_nil _ _ _ _ _ | exact Kd.S_nil _ _ _ _ _, Cmp.g HB.out⟩
   ·replace c6 := Bool.eq_false_iff.mpr c6
    subst c6
    have H1 : (spec_DecodeBundle.l0 kj2 l0 t356 t357 0 ([] : List (S94))) = some (r1, r2) := by rw [if_neg (show ¬ (false = true) by decide)] at H; exact H
    clear H; have H := H1; clear H1
    have H' := Aside0.mk H
    clear H
    go_wp2_with (first | ((with_reducible refine gate_dst (N := 7) rfl ?_); refine box_event ?hg (N := 7) ?hd (cs := #[.slice none 0 0]) (t := 45) ?hr ?_; (case hd => rfl); (case hg => rfl); (case hr => first | (go_simp; done) | (go_simp; rfl)); intro gb359 hg w8 hbox hb; have n0_ := Aside0.mk (blk_below (Cmp.b BK355.out) hb); have n1_ := Aside0.mk (below_step (Cmp.g HB.out) hb); have n2_ := Aside0.mk (hbox); have n3_ := Aside0.mk ((by rw [hg]; exact (below_size (Cmp.g HB.out)) : w.heap.size ≤ gb359)); have n4_ := Aside0.mk ((by rw [hg]; exact (below_size (Cmp.g HB.out)) : w.heap.size ≤ gb359)); have n5_ := Aside0.mk ((by rw [hg]; exact Nat.ne_of_lt (blk_lt (Cmp.b BK355.out)) : gb355 ≠ gb359)); have n6_ := Aside0.mk ((by rw [hg]; exact Nat.ne_of_gt (blk_lt (Cmp.b BK355.out)) : gb359 ≠ gb355)); clear BK355; clear HB; have BK355 := n0_; have HB := n1_; have BK359 := n2_; have GW359 := n3_; have GE359 := n4_; have NB355_359 := n5_; have NB359_355 := n6_; clear n0_ n1_ n2_ n3_ n4_ n5_ n6_; clear hb hbox hg; have hnb9 := NB359_355.out; have hnc9 := NB355_359.out; have hcz10_0 : w8.cell? ⟨gb359, 0, none⟩ = some (.slice none 0 0) := (blk_cell BK359.out 0).trans rfl; have hfz10_0 := blk_frozen BK359.out 0))
    go_loopg [5, 8] kj2 (fun kq v5 v8 w' => ∃ (x5_2 : Int) (x8_2 : Int) (x360000_2 : List (S94)) (u360000 : Value), v5 = .int .i64 x5_2 ∧ v8 = .int .i64 x8_2 ∧ Aside0 (spec_DecodeBundle.l0 kq l0 t356 x5_2 x8_2 x360000_2 = some (r1, r2)) ∧ Aside0 (kq ≤ kj2) ∧ Aside0 (Kd.R k94 94 w' w.heap.size (fun _ => True) u360000 x360000_2) ∧ Aside0 (w'.heap[gb355]? = some (.cells #[(.slice none 0 0)] 45 (0, 0))) ∧ Aside0 (w'.heap[gb359]? = some (.cells #[u360000] 45 (0, 0))) ∧ Aside0 (Below w.heap.size w w'))
    case atStart => exact ⟨(t357), (0), (([] : List (S94))), (.slice none 0 0), (by first | rfl | simp | simp [*]), (by first | rfl | simp | simp [*]), H', ⟨Nat.le_refl _⟩, ⟨by first | exact Kd.R_nil _ _ _ _ _ | exact Kd.N_nil _ _ _ _ _ | exact Kd.V_nil _ _ _ _ _ | exact Kd.Q_nil _ _ _ _ _ | exact Kd.S_nil _ _ _ _ _⟩, ⟨by (with_reducible repeat (first | refine blk_drewN ?_ _ | refine blk_drew ?_ | refine blk_alloc ?_ _)); refine blk_far ?_ NB355_359.out _; (with_reducible repeat (first | refine blk_drewN ?_ _ | refine blk_drew ?_ | refine blk_alloc ?_ _)); exact BK355.out⟩, ⟨by (with_reducible repeat (first | refine blk_drewN ?_ _ | refine blk_drew ?_ | refine blk_alloc ?_ _)); refine blk_put (cs := #[.slice none 0 0]) ?_ 0 _ rfl; (with_reducible repeat (first | refine blk_drewN ?_ _ | refine blk_drew ?_ | refine blk_alloc ?_ _)); exact BK359.out⟩, ⟨Cmp.g HB.out⟩⟩
    case round =>
     clear H'
     (try clear c1); (try clear p2); (try clear c5); (try clear c6); (try clear c7); (try clear c9); (try clear hcz10_0); (try clear hcz7_0); (try clear hfz10_0); (try clear hfz7_0); (try clear p2)
     obtain ⟨x5_2, x8_2, x360000_2, u360000, rfl, rfl, HA, HK2, HO_360000, BK355, BK359, HB⟩ := hrel
     cases gk with
     | zero => exact absurd HA.out (by simp [spec_DecodeBundle.l0])
     | succ k2 =>
      have H := HA.out; clear HA
      simp only [spec_DecodeBundle.l0] at H
      by_cases c11 : x8_2 < t356
      ·rw [if_pos c11] at H; have c11b0 : decide (x8_2 < t356) = true := decide_eq_true c11; clear c11; replace H := Option.bind_eq_some_iff.mp H; obtain ⟨⟨t361, t362, t363⟩, A120, H⟩ := H; (try dsimp only at H); have A12 := Aside0.mk A120; clear A120
       by_cases c13 : t363 = true
       ·subst c13; rw [if_pos rfl] at H
        by_cases c14 : 0 < (t361.length : Int)
        ·rw [if_pos c14] at H
         have c14b0 : decide (0 < (t361.length : Int)) = true := decide_eq_true c14
         have c14b1 : decide (0 < t361.length) = true := decide_eq_true (by omega)
         clear c14
         by_cases c15 : 1 < (t361.length : Int)
         ·rw [if_pos c15] at H
          have c15b0 : decide (1 < (t361.length : Int)) = true := decide_eq_true c15
          have c15b1 : decide (1 < t361.length) = true := decide_eq_true (by omega)
          clear c15
          by_cases c16 : 2 < (t361.length : Int)
          ·rw [if_pos c16] at H
           have c16b0 : decide (2 < (t361.length : Int)) = true := decide_eq_true c16
           have c16b1 : decide (2 < t361.length) = true := decide_eq_true (by omega)
           clear c16
           by_cases c17 : 3 < (t361.length : Int)
           ·rw [if_pos c17] at H
            have c17b0 : decide (3 < (t361.length : Int)) = true := decide_eq_true c17
            have c17b1 : decide (3 < t361.length) = true := decide_eq_true (by omega)
            clear c17
            by_cases c18 : x360000_2.length < 4398046511104
            ·rw [if_pos c18] at H; have LMc18 := Aside0.mk c18; clear c18
             obtain ⟨y370, hy370⟩ : ∃ y_ : List (S94), y_ = (x360000_2 ++ [(⟨rd t361 0, rd t361 1, rd t361 2, ((rd t361 3) == 1)⟩ : S94)]) := ⟨_, rfl⟩
             replace H : (spec_DecodeBundle.l0 k2 l0 t356 t362 (wrap64 (x8_2 + 1)) y370) = some (r1, r2) := by first | (rw [hy370]; with_reducible exact H) | (have H2_ := (Option.bind_some _ _).symm.trans H; rw [hy370]; with_reducible exact H2_) | (have H2_ := (Option.bind_some _ _).symm.trans H; with_reducible exact H2_) | with_reducible exact H | (rw [hy370]; exact H) | exact H
             have Ny370 := Aside0.mk hy370; clear hy370
             have H' := Aside0.mk H
             clear H
             go_wp2_with (first | ((with_reducible refine gate_dst (N := 9) rfl ?_); refine box_event ?hg (N := 9) ?hd (cs := #[.int .i64 0, .int .i64 0, .int .i64 0, .bool false]) (t := 94) ?hr ?_; (case hd => rfl); (case hg => rfl); (case hr => first | (go_simp; done) | (go_simp; rfl)); intro gb360 hg w19 hbox hb; have n0_ := Aside0.mk (Kd.R_below (Kd.R_elderB (Cmp.rr HO_360000.out) gb360 (Nat.le_of_eq hg.symm)) hb); have n1_ := Aside0.mk (blk_below (Cmp.b BK355.out) hb); have n2_ := Aside0.mk (blk_below (Cmp.b BK359.out) hb); have n3_ := Aside0.mk (below_step (Cmp.g HB.out) hb); have n4_ := Aside0.mk (hbox); have n5_ := Aside0.mk ((by rw [hg]; exact (below_size (Cmp.g HB.out)) : w.heap.size ≤ gb360)); have n6_ := Aside0.mk ((by rw [hg]; exact (below_size (Cmp.g HB.out)) : w.heap.size ≤ gb360)); have n7_ := Aside0.mk ((by rw [hg]; exact Nat.ne_of_lt (blk_lt (Cmp.b BK355.out)) : gb355 ≠ gb360)); have n8_ := Aside0.mk ((by rw [hg]; exact Nat.ne_of_gt (blk_lt (Cmp.b BK355.out)) : gb360 ≠ gb355)); have n9_ := Aside0.mk ((by rw [hg]; exact Nat.ne_of_lt (blk_lt (Cmp.b BK359.out)) : gb359 ≠ gb360)); have n10_ := Aside0.mk ((by rw [hg]; exact Nat.ne_of_gt (blk_lt (Cmp.b BK359.out)) : gb360 ≠ gb359)); clear HO_360000; clear BK355; clear BK359; clear HB; have HO_360000 := n0_; have BK355 := n1_; have BK359 := n2_; have HB := n3_; have BK360 := n4_; have GW360 := n5_; have GE360 := n6_; have NB355_360 := n7_; have NB360_355 := n8_; have NB359_360 := n9_; have NB360_359 := n10_; clear n0_ n1_ n2_ n3_ n4_ n5_ n6_ n7_ n8_ n9_ n10_; clear hb hbox hg; have hnb20 := NB360_355.out; have hnc20 := NB355_360.out; have hnb21 := NB360_359.out; have hnc21 := NB359_360.out; have hcz22_0 : w19.cell? ⟨gb360, 0, none⟩ = some (.int .i64 0) := (blk_cell BK360.out 0).trans rfl; have hcz22_1 : w19.cell? ⟨gb360, 1, none⟩ = some (.int .i64 0) := (blk_cell BK360.out 1).trans rfl; have hcz22_2 : w19.cell? ⟨gb360, 2, none⟩ = some (.int .i64 0) := (blk_cell BK360.out 2).trans rfl; have hcz22_3 : w19.cell? ⟨gb360, 3, none⟩ = some (.bool false) := (blk_cell BK360.out 3).trans rfl; have hfz22_0 := blk_frozen BK360.out 0; have hfz22_1 := blk_frozen BK360.out 1; have hfz22_2 := blk_frozen BK360.out 2; have hfz22_3 := blk_frozen BK360.out 3) | ((with_reducible refine gate_callee (f := 115) rfl ?_); refine goesL_ (some 36) rfl rfl Try.func115 (by kernel_rfl) rfl #[.slice A0 l0.length c0, .int .i64 x5_2, .int .i64 4] rfl Cmp.q ?_; (with_reducible refine (spec_DecodeInts.calls k2 _ _ l0 x5_2 4 t361 t362 true _ ?side1 ?side2 A12.out).mono ?_); (case side1 => exact Kd.C_below HR0.out (Cmp.g HB.out)); (case side2 => exact HC0.out); rintro e w23 ⟨v364, rfl, ho0, hb⟩; refine ⟨_, rfl, ?_⟩; have n0_ := Aside0.mk (Kd.R_below (by (with_reducible repeat (first | apply Kd.R_alloc | apply Kd.R_drewN | apply Kd.R_drew)); exact (Kd.R_mono (Kd.R_far (p := ⟨gb360, 3, none⟩) (Kd.R_far (p := ⟨gb360, 2, none⟩) (Kd.R_far (p := ⟨gb360, 1, none⟩) (Kd.R_far (p := ⟨gb360, 0, none⟩) (Kd.R_mono HO_360000.out (fun k_ hk => (⟨hk, hk.2⟩ : _ ∧ k_ ≠ gb360))) (fun _ hk => hk.2) (.int .i64 0)) (fun _ hk => hk.2) (.int .i64 0)) (fun _ hk => hk.2) (.int .i64 0)) (fun _ hk => hk.2) (.bool false)) (fun _ h_ => h_.1))) hb); have n1_ := Aside0.mk (Kd.R_lower ho0 (below_size (Cmp.g HB.out))); have n2_ := Aside0.mk (blk_below (g := gb355) (o := .cells #[.slice none 0 0] 45 (0, 0)) (by (with_reducible repeat (first | refine blk_drewN ?_ _ | refine blk_drew ?_ | refine blk_alloc ?_ _)); refine blk_far ?_ NB355_360.out _; (with_reducible repeat (first | refine blk_drewN ?_ _ | refine blk_drew ?_ | refine blk_alloc ?_ _)); refine blk_far ?_ NB355_360.out _; (with_reducible repeat (first | refine blk_drewN ?_ _ | refine blk_drew ?_ | refine blk_alloc ?_ _)); refine blk_far ?_ NB355_360.out _; (with_reducible repeat (first | refine blk_drewN ?_ _ | refine blk_drew ?_ | refine blk_alloc ?_ _)); refine blk_far ?_ NB355_360.out _; (with_reducible repeat (first | refine blk_drewN ?_ _ | refine blk_drew ?_ | refine blk_alloc ?_ _)); exact BK355.out) hb); have n3_ := Aside0.mk (blk_below (g := gb359) (o := .cells #[u360000] 45 (0, 0)) (by (with_reducible repeat (first | refine blk_drewN ?_ _ | refine blk_drew ?_ | refine blk_alloc ?_ _)); refine blk_far ?_ NB359_360.out _; (with_reducible repeat (first | refine blk_drewN ?_ _ | refine blk_drew ?_ | refine blk_alloc ?_ _)); refine blk_far ?_ NB359_360.out _; (with_reducible repeat (first | refine blk_drewN ?_ _ | refine blk_drew ?_ | refine blk_alloc ?_ _)); refine blk_far ?_ NB359_360.out _; (with_reducible repeat (first | refine blk_drewN ?_ _ | refine blk_drew ?_ | refine blk_alloc ?_ _)); refine blk_far ?_ NB359_360.out _; (with_reducible repeat (first | refine blk_drewN ?_ _ | refine blk_drew ?_ | refine blk_alloc ?_ _)); exact BK359.out) hb); have n4_ := Aside0.mk (blk_below (g := gb360) (o := .cells #[.int .i64 0, .int .i64 0, .int .i64 0, .bool false] 94 (0, 0)) (by (with_reducible repeat (first | refine blk_drewN ?_ _ | refine blk_drew ?_ | refine blk_alloc ?_ _)); refine blk_put (cs := #[.int .i64 0, .int .i64 0, .int .i64 0, .bool false]) ?_ 3 _ rfl; (with_reducible repeat (first | refine blk_drewN ?_ _ | refine blk_drew ?_ | refine blk_alloc ?_ _)); refine blk_put (cs := #[.int .i64 0, .int .i64 0, .int .i64 0, .bool false]) ?_ 2 _ rfl; (with_reducible repeat (first | refine blk_drewN ?_ _ | refine blk_drew ?_ | refine blk_alloc ?_ _)); refine blk_put (cs := #[.int .i64 0, .int .i64 0, .int .i64 0, .bool false]) ?_ 1 _ rfl; (with_reducible repeat (first | refine blk_drewN ?_ _ | refine blk_drew ?_ | refine blk_alloc ?_ _)); refine blk_put (cs := #[.int .i64 0, .int .i64 0, .int .i64 0, .bool false]) ?_ 0 _ rfl; (with_reducible repeat (first | refine blk_drewN ?_ _ | refine blk_drew ?_ | refine blk_alloc ?_ _)); exact BK360.out) hb); have n5_ := Aside0.mk (below_step (Cmp.g HB.out) hb); clear HO_360000; clear BK355; clear BK359; clear BK360; clear HB; have HO_360000 := n0_; have HO365 := n1_; have BK355 := n2_; have BK359 := n3_; have BK360 := n4_; have HB := n5_; clear n0_ n1_ n2_ n3_ n4_ n5_; (try clear hb); (try clear hb2); (try clear hk); (try clear hi); (try clear ho0); obtain ⟨Ao24, co24, eo24⟩ := Kd.R_slice HO365.out; subst eo24; have p366 : 0 ≤ (0 : Int) := (by omega); have q366 : 0 < (t361.length : Int) := of_decide_eq_true Cmp.d; obtain ⟨ad366, e366, hx366_0⟩ := Kd.at_int (Kd.R_reads' HO365.out).2.2 0 p366 q366; cases e366; have qi366 : (0 < t361.length) = True := eq_true (by omega); (try rw [show ((0 : Int)).toNat = 0 from rfl] at hx366_0); (try rw [Addr.add_zero'] at hx366_0); replace p366 := eq_true p366; replace q366 := eq_true q366; have hcz25_0 : w23.cell? ⟨gb360, 0, none⟩ = some (.int .i64 0) := (blk_cell BK360.out 0).trans rfl; have hcz25_1 : w23.cell? ⟨gb360, 1, none⟩ = some (.int .i64 0) := (blk_cell BK360.out 1).trans rfl; have hcz25_2 : w23.cell? ⟨gb360, 2, none⟩ = some (.int .i64 0) := (blk_cell BK360.out 2).trans rfl; have hcz25_3 : w23.cell? ⟨gb360, 3, none⟩ = some (.bool false) := (blk_cell BK360.out 3).trans rfl; have hfz25_0 := blk_frozen BK360.out 0; have hfz25_1 := blk_frozen BK360.out 1; have hfz25_2 := blk_frozen BK360.out 2; have hfz25_3 := blk_frozen BK360.out 3; have p367 : 0 ≤ (1 : Int) := (by omega); have q367 : 1 < (t361.length : Int) := of_decide_eq_true Cmp.d; obtain ⟨ad367, e367, hx367_0⟩ := Kd.at_int (Kd.R_reads' HO365.out).2.2 1 p367 q367; obtain rfl : ad366 = ad367 := (by injection e367); (try simp only [show (1 : Int).toNat = 1 from rfl, Nat.reduceMul, Nat.reduceEqDiff, Go.Addr.add, ↓reduceIte] at hx367_0); have qi367 : (1 < t361.length) = True := eq_true (by omega); (try rw [show ((1 : Int)).toNat = 1 from rfl] at hx367_0); have hn367_0 : ad366.block ≠ gb360 := Kd.own_blk (Kd.R_ne HO365.out BK360.out (by decide)); replace hx367_0 := (cell_far (p := ⟨gb360, 0, none⟩) (by first | (rw [add_block]; exact hn367_0) | (show (Addr.add _ _).block ≠ _; rw [add_block]; exact hn367_0) | exact hn367_0) (.int .i64 (rd t361 0))).trans hx367_0; clear hn367_0; replace p367 := eq_true p367; replace q367 := eq_true q367; have p368 : 0 ≤ (2 : Int) := (by omega); have q368 : 2 < (t361.length : Int) := of_decide_eq_true Cmp.d; obtain ⟨ad368, e368, hx368_0⟩ := Kd.at_int (Kd.R_reads' HO365.out).2.2 2 p368 q368; obtain rfl : ad366 = ad368 := (by injection e368); (try simp only [show (2 : Int).toNat = 2 from rfl, Nat.reduceMul, Nat.reduceEqDiff, Go.Addr.add, ↓reduceIte] at hx368_0); have qi368 : (2 < t361.length) = True := eq_true (by omega); (try rw [show ((2 : Int)).toNat = 2 from rfl] at hx368_0); have hn368_0 : ad366.block ≠ gb360 := Kd.own_blk (Kd.R_ne HO365.out BK360.out (by decide)); have hn368_1 : ad366.block ≠ gb360 := Kd.own_blk (Kd.R_ne HO365.out BK360.out (by decide)); replace hx368_0 := (cell_far (p := ⟨gb360, 0, none⟩) (by first | (rw [add_block]; exact hn368_0) | (show (Addr.add _ _).block ≠ _; rw [add_block]; exact hn368_0) | exact hn368_0) (.int .i64 (rd t361 0))).trans hx368_0; replace hx368_0 := (cell_far (p := ⟨gb360, 1, none⟩) (by first | (rw [add_block]; exact hn368_1) | (show (Addr.add _ _).block ≠ _; rw [add_block]; exact hn368_1) | exact hn368_1) (.int .i64 (rd t361 1))).trans hx368_0; clear hn368_0; clear hn368_1; replace p368 := eq_true p368; replace q368 := eq_true q368; have p369 : 0 ≤ (3 : Int) := (by omega); have q369 : 3 < (t361.length : Int) := of_decide_eq_true Cmp.d; obtain ⟨ad369, e369, hx369_0⟩ := Kd.at_int (Kd.R_reads' HO365.out).2.2 3 p369 q369; obtain rfl : ad366 = ad369 := (by injection e369); (try simp only [show (3 : Int).toNat = 3 from rfl, Nat.reduceMul, Nat.reduceEqDiff, Go.Addr.add, ↓reduceIte] at hx369_0); have qi369 : (3 < t361.length) = True := eq_true (by omega); (try rw [show ((3 : Int)).toNat = 3 from rfl] at hx369_0); have hn369_0 : ad366.block ≠ gb360 := Kd.own_blk (Kd.R_ne HO365.out BK360.out (by decide)); have hn369_1 : ad366.block ≠ gb360 := Kd.own_blk (Kd.R_ne HO365.out BK360.out (by decide)); have hn369_2 : ad366.block ≠ gb360 := Kd.own_blk (Kd.R_ne HO365.out BK360.out (by decide)); replace hx369_0 := (cell_far (p := ⟨gb360, 0, none⟩) (by first | (rw [add_block]; exact hn369_0) | (show (Addr.add _ _).block ≠ _; rw [add_block]; exact hn369_0) | exact hn369_0) (.int .i64 (rd t361 0))).trans hx369_0; replace hx369_0 := (cell_far (p := ⟨gb360, 1, none⟩) (by first | (rw [add_block]; exact hn369_1) | (show (Addr.add _ _).block ≠ _; rw [add_block]; exact hn369_1) | exact hn369_1) (.int .i64 (rd t361 1))).trans hx369_0; replace hx369_0 := (cell_far (p := ⟨gb360, 2, none⟩) (by first | (rw [add_block]; exact hn369_2) | (show (Addr.add _ _).block ≠ _; rw [add_block]; exact hn369_2) | exact hn369_2) (.int .i64 (rd t361 2))).trans hx369_0; clear hn369_0; clear hn369_1; clear hn369_2; replace p369 := eq_true p369; replace q369 := eq_true q369; have hnb26 := NB359_355.out; have hnc26 := NB355_359.out; have hcz27_0 : w23.cell? ⟨gb359, 0, none⟩ = some (u360000) := (blk_cell BK359.out 0).trans rfl; have hfz27_0 := blk_frozen BK359.out 0) | ((with_reducible refine gate_builtin (b := .append) (xs := #[.tmp 61, .tmp 63]) rfl ?_); at_builtin; refine Kd.R_append k94 (w0 := w) w.heap.size rfl (.tmp 61) (.tmp 63) 43 94 (.agg #[(.int .i64 0), (.int .i64 0), (.int .i64 0), (.bool false)]) 32 rfl Try.underlying43 info94 rfl (by decide) (by omega) u360000 x360000_2 (⟨rd t361 0, rd t361 1, rd t361 2, ((rd t361 3) == 1)⟩ : S94) [.int .i64 (rd t361 0), .int .i64 (rd t361 1), .int .i64 (rd t361 2), .bool ((rd t361 3) == 1)] (fun k_ => k_ ≠ gb360) (fun _ => False) rfl (by first | (go_simp; done) | (go_simp; rfl)) ?aP (fun _ hk => hk.elim) ?aF ?aO ?aB ?aS ?aL ?_; (case aP => exact k94_mkM _ _ _ (⟨rd t361 0, rd t361 1, rd t361 2, ((rd t361 3) == 1)⟩ : S94)); (case aB => exact (Cmp.g HB.out)); (case aF => exact (fun k_ hk => Kd.freshB (g := gb360) (o := .cells #[.int .i64 (rd t361 0), .int .i64 (rd t361 1), .int .i64 (rd t361 2), .bool ((rd t361 3) == 1)] 94 (0, 0)) (by (with_reducible repeat (first | refine blk_drewN ?_ _ | refine blk_drew ?_ | refine blk_alloc ?_ _)); refine blk_put (cs := #[.int .i64 (rd t361 0), .int .i64 (rd t361 1), .int .i64 (rd t361 2), .bool false]) ?_ 3 _ rfl; (with_reducible repeat (first | refine blk_drewN ?_ _ | refine blk_drew ?_ | refine blk_alloc ?_ _)); refine blk_put (cs := #[.int .i64 (rd t361 0), .int .i64 (rd t361 1), .int .i64 0, .bool false]) ?_ 2 _ rfl; (with_reducible repeat (first | refine blk_drewN ?_ _ | refine blk_drew ?_ | refine blk_alloc ?_ _)); refine blk_put (cs := #[.int .i64 (rd t361 0), .int .i64 0, .int .i64 0, .bool false]) ?_ 1 _ rfl; (with_reducible repeat (first | refine blk_drewN ?_ _ | refine blk_drew ?_ | refine blk_alloc ?_ _)); refine blk_put (cs := #[.int .i64 0, .int .i64 0, .int .i64 0, .bool false]) ?_ 0 _ rfl; (with_reducible repeat (first | refine blk_drewN ?_ _ | refine blk_drew ?_ | refine blk_alloc ?_ _)); exact BK360.out) k_ hk)); (case aO => exact (by (with_reducible repeat (first | apply Kd.R_alloc | apply Kd.R_drewN | apply Kd.R_drew)); exact Kd.R_mono (Kd.R_far (p := ⟨gb360, 3, none⟩) (Kd.R_far (p := ⟨gb360, 2, none⟩) (Kd.R_far (p := ⟨gb360, 1, none⟩) (Kd.R_far (p := ⟨gb360, 0, none⟩) (Kd.R_mono HO_360000.out (fun k_ hk => (⟨hk, hk.2⟩ : _ ∧ k_ ≠ gb360))) (fun _ hk => hk.2) (.int .i64 (rd t361 0))) (fun _ hk => hk.2) (.int .i64 (rd t361 1))) (fun _ hk => hk.2) (.int .i64 (rd t361 2))) (fun _ hk => hk.2) (.bool ((rd t361 3) == 1))) (fun _ hk => hk.1.2))); (case aS => exact (below_size (Cmp.g HB.out))); (case aL => have := LMc18.out; omega); intro v371 w28 ho hb hg hat; rw [← Ny370.out] at ho; have n0_ := Aside0.mk (blk_grown (g := gb355) (o := .cells #[.slice none 0 0] 45 (0, 0)) (by (with_reducible repeat (first | refine blk_drewN ?_ _ | refine blk_drew ?_ | refine blk_alloc ?_ _)); refine blk_far ?_ NB355_360.out _; (with_reducible repeat (first | refine blk_drewN ?_ _ | refine blk_drew ?_ | refine blk_alloc ?_ _)); refine blk_far ?_ NB355_360.out _; (with_reducible repeat (first | refine blk_drewN ?_ _ | refine blk_drew ?_ | refine blk_alloc ?_ _)); refine blk_far ?_ NB355_360.out _; (with_reducible repeat (first | refine blk_drewN ?_ _ | refine blk_drew ?_ | refine blk_alloc ?_ _)); refine blk_far ?_ NB355_360.out _; (with_reducible repeat (first | refine blk_drewN ?_ _ | refine blk_drew ?_ | refine blk_alloc ?_ _)); exact BK355.out) hg (Kd.R_ne HO_360000.out BK355.out (by decide))); have n1_ := Aside0.mk (blk_grown (g := gb359) (o := .cells #[u360000] 45 (0, 0)) (by (with_reducible repeat (first | refine blk_drewN ?_ _ | refine blk_drew ?_ | refine blk_alloc ?_ _)); refine blk_far ?_ NB359_360.out _; (with_reducible repeat (first | refine blk_drewN ?_ _ | refine blk_drew ?_ | refine blk_alloc ?_ _)); refine blk_far ?_ NB359_360.out _; (with_reducible repeat (first | refine blk_drewN ?_ _ | refine blk_drew ?_ | refine blk_alloc ?_ _)); refine blk_far ?_ NB359_360.out _; (with_reducible repeat (first | refine blk_drewN ?_ _ | refine blk_drew ?_ | refine blk_alloc ?_ _)); refine blk_far ?_ NB359_360.out _; (with_reducible repeat (first | refine blk_drewN ?_ _ | refine blk_drew ?_ | refine blk_alloc ?_ _)); exact BK359.out) hg (Kd.R_ne HO_360000.out BK359.out (by decide))); have n2_ := Aside0.mk (blk_grown (g := gb360) (o := .cells #[.int .i64 (rd t361 0), .int .i64 (rd t361 1), .int .i64 (rd t361 2), .bool ((rd t361 3) == 1)] 94 (0, 0)) (by (with_reducible repeat (first | refine blk_drewN ?_ _ | refine blk_drew ?_ | refine blk_alloc ?_ _)); refine blk_put (cs := #[.int .i64 (rd t361 0), .int .i64 (rd t361 1), .int .i64 (rd t361 2), .bool false]) ?_ 3 _ rfl; (with_reducible repeat (first | refine blk_drewN ?_ _ | refine blk_drew ?_ | refine blk_alloc ?_ _)); refine blk_put (cs := #[.int .i64 (rd t361 0), .int .i64 (rd t361 1), .int .i64 0, .bool false]) ?_ 2 _ rfl; (with_reducible repeat (first | refine blk_drewN ?_ _ | refine blk_drew ?_ | refine blk_alloc ?_ _)); refine blk_put (cs := #[.int .i64 (rd t361 0), .int .i64 0, .int .i64 0, .bool false]) ?_ 1 _ rfl; (with_reducible repeat (first | refine blk_drewN ?_ _ | refine blk_drew ?_ | refine blk_alloc ?_ _)); refine blk_put (cs := #[.int .i64 0, .int .i64 0, .int .i64 0, .bool false]) ?_ 0 _ rfl; (with_reducible repeat (first | refine blk_drewN ?_ _ | refine blk_drew ?_ | refine blk_alloc ?_ _)); exact BK360.out) hg (Kd.R_away HO_360000.out (fun _ hk => hk.2))); have n3_ := Aside0.mk (Kd.R_over' (by (with_reducible repeat (first | apply Kd.R_alloc | apply Kd.R_drewN | apply Kd.R_drew)); exact (Kd.R_mono (Kd.R_far (p := ⟨gb360, 3, none⟩) (Kd.R_far (p := ⟨gb360, 2, none⟩) (Kd.R_far (p := ⟨gb360, 1, none⟩) (Kd.R_far (p := ⟨gb360, 0, none⟩) (Kd.R_types HO365.out BK360.out (by decide)) (fun _ hk => hk.2) (.int .i64 (rd t361 0))) (fun _ hk => hk.2) (.int .i64 (rd t361 1))) (fun _ hk => hk.2) (.int .i64 (rd t361 2))) (fun _ hk => hk.2) (.bool ((rd t361 3) == 1))) (fun _ h_ => h_.1))) (Kd.R_typed (by (with_reducible repeat (first | apply Kd.R_alloc | apply Kd.R_drewN | apply Kd.R_drew)); exact (Kd.R_mono (Kd.R_far (p := ⟨gb360, 3, none⟩) (Kd.R_far (p := ⟨gb360, 2, none⟩) (Kd.R_far (p := ⟨gb360, 1, none⟩) (Kd.R_far (p := ⟨gb360, 0, none⟩) (Kd.R_mono HO_360000.out (fun k_ hk => (⟨hk, hk.2⟩ : _ ∧ k_ ≠ gb360))) (fun _ hk => hk.2) (.int .i64 (rd t361 0))) (fun _ hk => hk.2) (.int .i64 (rd t361 1))) (fun _ hk => hk.2) (.int .i64 (rd t361 2))) (fun _ hk => hk.2) (.bool ((rd t361 3) == 1))) (fun _ h_ => h_.1)))) (by decide) hg); have n4_ := Aside0.mk (hb); have n5_ := Aside0.mk (ho); clear BK355; clear BK359; clear BK360; clear HO365; clear HB; clear HO_360000; have BK355 := n0_; have BK359 := n1_; have BK360 := n2_; have HO365 := n3_; have HB := n4_; have HO372 := n5_; clear n0_ n1_ n2_ n3_ n4_ n5_; clear ho hb hg hat; obtain ⟨Ao29, co29, eo29⟩ := Kd.R_slice HO372.out; subst eo29; have hcz30_0 : w28.cell? ⟨gb359, 0, none⟩ = some (u360000) := (blk_cell BK359.out 0).trans rfl; have hfz30_0 := blk_frozen BK359.out 0))
             go_roundg k2
             case measure => have := HJ2.out; have := HK2.out; omega
             case rel => exact ⟨(t362), (wrap64 (x8_2 + 1)), (y370), (.slice Ao29 y370.length co29), (by first | rfl | simp | simp [*]), (by first | rfl | simp | simp [*]), H', ⟨by have := HJ2.out; have := HK2.out; omega⟩, ⟨by (with_reducible repeat (first | apply Kd.R_alloc | apply Kd.R_drewN | apply Kd.R_drew)); exact Kd.R_mono (Kd.R_far (p := ⟨gb359, 0, none⟩) (Kd.R_types HO372.out BK359.out (by decide)) (fun _ hk => hk.2) (.slice Ao29 y370.length co29)) (fun _ hk => trivial)⟩, ⟨by (with_reducible repeat (first | refine blk_drewN ?_ _ | refine blk_drew ?_ | refine blk_alloc ?_ _)); refine blk_far ?_ NB355_359.out _; (with_reducible repeat (first | refine blk_drewN ?_ _ | refine blk_drew ?_ | refine blk_alloc ?_ _)); exact BK355.out⟩, ⟨by (with_reducible repeat (first | refine blk_drewN ?_ _ | refine blk_drew ?_ | refine blk_alloc ?_ _)); refine blk_put (cs := #[u360000]) ?_ 0 _ rfl; (with_reducible repeat (first | refine blk_drewN ?_ _ | refine blk_drew ?_ | refine blk_alloc ?_ _)); exact BK359.out⟩, ⟨Cmp.g HB.out⟩⟩
            ·rw [if_neg c18] at H; exact absurd H (by simp)
           ·rw [if_neg c17] at H; exact absurd H (by simp)
          ·rw [if_neg c16] at H; exact absurd H (by simp)
         ·rw [if_neg c15] at H; exact absurd H (by simp)
        ·rw [if_neg c14] at H; exact absurd H (by simp)
       ·replace c13 := Bool.eq_false_iff.mpr c13
        subst c13
        have H1 : (some (([] : List (S94)), false)) = some (r1, r2) := by rw [if_neg (show ¬ (false = true) by decide)] at H; exact H
        clear H; have H := H1; clear H1
        simp only [Option.some.injEq, Prod.mk.injEq] at H
        obtain ⟨rfl, rfl⟩ := H
        go_wp2_with (first | ((with_reducible refine gate_dst (N := 9) rfl ?_); refine box_event ?hg (N := 9) ?hd (cs := #[.int .i64 0, .int .i64 0, .int .i64 0, .bool false]) (t := 94) ?hr ?_; (case hd => rfl); (case hg => rfl); (case hr => first | (go_simp; done) | (go_simp; rfl)); intro gb360 hg w31 hbox hb; have n0_ := Aside0.mk (Kd.R_below (Kd.R_elderB (Cmp.rr HO_360000.out) gb360 (Nat.le_of_eq hg.symm)) hb); have n1_ := Aside0.mk (blk_below (Cmp.b BK355.out) hb); have n2_ := Aside0.mk (blk_below (Cmp.b BK359.out) hb); have n3_ := Aside0.mk (below_step (Cmp.g HB.out) hb); have n4_ := Aside0.mk (hbox); have n5_ := Aside0.mk ((by rw [hg]; exact (below_size (Cmp.g HB.out)) : w.heap.size ≤ gb360)); have n6_ := Aside0.mk ((by rw [hg]; exact (below_size (Cmp.g HB.out)) : w.heap.size ≤ gb360)); have n7_ := Aside0.mk ((by rw [hg]; exact Nat.ne_of_lt (blk_lt (Cmp.b BK355.out)) : gb355 ≠ gb360)); have n8_ := Aside0.mk ((by rw [hg]; exact Nat.ne_of_gt (blk_lt (Cmp.b BK355.out)) : gb360 ≠ gb355)); have n9_ := Aside0.mk ((by rw [hg]; exact Nat.ne_of_lt (blk_lt (Cmp.b BK359.out)) : gb359 ≠ gb360)); have n10_ := Aside0.mk ((by rw [hg]; exact Nat.ne_of_gt (blk_lt (Cmp.b BK359.out)) : gb360 ≠ gb359)); clear HO_360000; clear BK355; clear BK359; clear HB; have HO_360000 := n0_; have BK355 := n1_; have BK359 := n2_; have HB := n3_; have BK360 := n4_; have GW360 := n5_; have GE360 := n6_; have NB355_360 := n7_; have NB360_355 := n8_; have NB359_360 := n9_; have NB360_359 := n10_; clear n0_ n1_ n2_ n3_ n4_ n5_ n6_ n7_ n8_ n9_ n10_; clear hb hbox hg; have hnb32 := NB360_355.out; have hnc32 := NB355_360.out; have hnb33 := NB360_359.out; have hnc33 := NB359_360.out; have hcz34_0 : w31.cell? ⟨gb360, 0, none⟩ = some (.int .i64 0) := (blk_cell BK360.out 0).trans rfl; have hcz34_1 : w31.cell? ⟨gb360, 1, none⟩ = some (.int .i64 0) := (blk_cell BK360.out 1).trans rfl; have hcz34_2 : w31.cell? ⟨gb360, 2, none⟩ = some (.int .i64 0) := (blk_cell BK360.out 2).trans rfl; have hcz34_3 : w31.cell? ⟨gb360, 3, none⟩ = some (.bool false) := (blk_cell BK360.out 3).trans rfl; have hfz34_0 := blk_frozen BK360.out 0; have hfz34_1 := blk_frozen BK360.out 1; have hfz34_2 := blk_frozen BK360.out 2; have hfz34_3 := blk_frozen BK360.out 3) | ((with_reducible refine gate_callee (f := 115) rfl ?_); refine goesL_ (some 36) rfl rfl Try.func115 (by kernel_rfl) rfl #[.slice A0 l0.length c0, .int .i64 x5_2, .int .i64 4] rfl Cmp.q ?_; (with_reducible refine (spec_DecodeInts.calls k2 _ _ l0 x5_2 4 t361 t362 false _ ?side1 ?side2 A12.out).mono ?_); (case side1 => exact Kd.C_below HR0.out (Cmp.g HB.out)); (case side2 => exact HC0.out); rintro e w35 ⟨v364, rfl, ho0, hb⟩; refine ⟨_, rfl, ?_⟩; have n0_ := Aside0.mk (Kd.R_below (by (with_reducible repeat (first | apply Kd.R_alloc | apply Kd.R_drewN | apply Kd.R_drew)); exact (Kd.R_mono (Kd.R_far (p := ⟨gb360, 3, none⟩) (Kd.R_far (p := ⟨gb360, 2, none⟩) (Kd.R_far (p := ⟨gb360, 1, none⟩) (Kd.R_far (p := ⟨gb360, 0, none⟩) (Kd.R_mono HO_360000.out (fun k_ hk => (⟨hk, hk.2⟩ : _ ∧ k_ ≠ gb360))) (fun _ hk => hk.2) (.int .i64 0)) (fun _ hk => hk.2) (.int .i64 0)) (fun _ hk => hk.2) (.int .i64 0)) (fun _ hk => hk.2) (.bool false)) (fun _ h_ => h_.1))) hb); have n1_ := Aside0.mk (Kd.R_lower ho0 (below_size (Cmp.g HB.out))); have n2_ := Aside0.mk (blk_below (g := gb355) (o := .cells #[.slice none 0 0] 45 (0, 0)) (by (with_reducible repeat (first | refine blk_drewN ?_ _ | refine blk_drew ?_ | refine blk_alloc ?_ _)); refine blk_far ?_ NB355_360.out _; (with_reducible repeat (first | refine blk_drewN ?_ _ | refine blk_drew ?_ | refine blk_alloc ?_ _)); refine blk_far ?_ NB355_360.out _; (with_reducible repeat (first | refine blk_drewN ?_ _ | refine blk_drew ?_ | refine blk_alloc ?_ _)); refine blk_far ?_ NB355_360.out _; (with_reducible repeat (first | refine blk_drewN ?_ _ | refine blk_drew ?_ | refine blk_alloc ?_ _)); refine blk_far ?_ NB355_360.out _; (with_reducible repeat (first | refine blk_drewN ?_ _ | refine blk_drew ?_ | refine blk_alloc ?_ _)); exact BK355.out) hb); have n3_ := Aside0.mk (blk_below (g := gb359) (o := .cells #[u360000] 45 (0, 0)) (by (with_reducible repeat (first | refine blk_drewN ?_ _ | refine blk_drew ?_ | refine blk_alloc ?_ _)); refine blk_far ?_ NB359_360.out _; (with_reducible repeat (first | refine blk_drewN ?_ _ | refine blk_drew ?_ | refine blk_alloc ?_ _)); refine blk_far ?_ NB359_360.out _; (with_reducible repeat (first | refine blk_drewN ?_ _ | refine blk_drew ?_ | refine blk_alloc ?_ _)); refine blk_far ?_ NB359_360.out _; (with_reducible repeat (first | refine blk_drewN ?_ _ | refine blk_drew ?_ | refine blk_alloc ?_ _)); refine blk_far ?_ NB359_360.out _; (with_reducible repeat (first | refine blk_drewN ?_ _ | refine blk_drew ?_ | refine blk_alloc ?_ _)); exact BK359.out) hb); have n4_ := Aside0.mk (blk_below (g := gb360) (o := .cells #[.int .i64 0, .int .i64 0, .int .i64 0, .bool false] 94 (0, 0)) (by (with_reducible repeat (first | refine blk_drewN ?_ _ | refine blk_drew ?_ | refine blk_alloc ?_ _)); refine blk_put (cs := #[.int .i64 0, .int .i64 0, .int .i64 0, .bool false]) ?_ 3 _ rfl; (with_reducible repeat (first | refine blk_drewN ?_ _ | refine blk_drew ?_ | refine blk_alloc ?_ _)); refine blk_put (cs := #[.int .i64 0, .int .i64 0, .int .i64 0, .bool false]) ?_ 2 _ rfl; (with_reducible repeat (first | refine blk_drewN ?_ _ | refine blk_drew ?_ | refine blk_alloc ?_ _)); refine blk_put (cs := #[.int .i64 0, .int .i64 0, .int .i64 0, .bool false]) ?_ 1 _ rfl; (with_reducible repeat (first | refine blk_drewN ?_ _ | refine blk_drew ?_ | refine blk_alloc ?_ _)); refine blk_put (cs := #[.int .i64 0, .int .i64 0, .int .i64 0, .bool false]) ?_ 0 _ rfl; (with_reducible repeat (first | refine blk_drewN ?_ _ | refine blk_drew ?_ | refine blk_alloc ?_ _)); exact BK360.out) hb); have n5_ := Aside0.mk (below_step (Cmp.g HB.out) hb); clear HO_360000; clear BK355; clear BK359; clear BK360; clear HB; have HO_360000 := n0_; have HO365 := n1_; have BK355 := n2_; have BK359 := n3_; have BK360 := n4_; have HB := n5_; clear n0_ n1_ n2_ n3_ n4_ n5_; (try clear hb); (try clear hb2); (try clear hk); (try clear hi); (try clear ho0); have hnb36 := NB355_359.out; have hnc36 := NB359_355.out; have hcz37_0 : w35.cell? ⟨gb355, 0, none⟩ = some (.slice none 0 0) := (blk_cell BK355.out 0).trans rfl; have hfz37_0 := blk_frozen BK355.out 0))
        refine bodyPost_ret (results_ct rfl _ _ gb355 45 #[.slice none 0 0] (0, 0) _ rfl (by (with_reducible repeat (first | refine blk_drewN ?_ _ | refine blk_drew ?_ | refine blk_alloc ?_ _)); refine blk_put (cs := #[.slice none 0 0]) ?_ 0 _ rfl; (with_reducible repeat (first | refine blk_drewN ?_ _ | refine blk_drew ?_ | refine blk_alloc ?_ _)); exact BK355.out) Try.underlying45 rfl (by kernel_rfl)) rfl ?_
        exact ⟨_, by first | rfl | (simp [errW_none, errW_some] <;> rfl) | (simp [*, errW_none, errW_some] <;> rfl), by first | exact Kd.R_nil _ _ _ _ _ | exact Kd.N_nil _ _ _ _ _ | exact Kd.V_nil _ _ _ _ _ | exact Kd.Q_nil _ _ _ _ _ | exact Kd.S_nil _ _ _ _ _, Cmp.g HB.out⟩
      ·rw [if_neg c11] at H; have c11b0 : decide (x8_2 < t356) = false := decide_eq_false c11; clear c11; replace H := Option.bind_eq_some_iff.mp H; obtain ⟨t373, A380, H⟩ := H; (try dsimp only at H); have A38 := Aside0.mk A380; clear A380
       by_cases c39 : t373 = true
       ·subst c39; rw [if_pos rfl] at H; replace H := Option.bind_eq_some_iff.mp H; obtain ⟨t374, A400, H⟩ := H; (try dsimp only at H); have A40 := Aside0.mk A400; clear A400; replace H := Option.bind_eq_some_iff.mp H; obtain ⟨t377, A410, H⟩ := H; (try dsimp only at H); have A41 := Aside0.mk A410; clear A410
        by_cases c42 : t377 = true
        ·subst c42; rw [if_pos rfl] at H
         simp only [Option.some.injEq, Prod.mk.injEq] at H
         obtain ⟨rfl, rfl⟩ := H; have hnb43 := NB359_355.out; have hnc43 := NB355_359.out
         have hcz44_0 : wr.cell? ⟨gb359, 0, none⟩ = some (u360000) := (blk_cell BK359.out 0).trans rfl
         have hfz44_0 := blk_frozen BK359.out 0
         obtain ⟨Ao45, co45, eo45⟩ := Kd.R_slice HO_360000.out
         subst eo45
         go_wp2_with (first | ((with_reducible refine gate_callee (f := 66) rfl ?_); refine goesL_ (some 68) rfl rfl Try.func66 (by kernel_rfl) rfl #[.agg #[.slice Ao45 x360000_2.length co45]] rfl Cmp.q ?_; (with_reducible refine (spec_IsBundle.calls k2 _ _ x360000_2 true _ ?side1 ?side2 A38.out).mono ?_); (case side1 => exact Cmp.rc (Kd.R_reads' HO_360000.out).2.2); (case side2 => exact (Kd.R_reads' HO_360000.out).2.1); rintro e w46 ⟨rfl, hb⟩; refine ⟨_, rfl, ?_⟩; have n0_ := Aside0.mk (Kd.R_below (Cmp.rr HO_360000.out) hb); have n1_ := Aside0.mk (blk_below (Cmp.b BK355.out) hb); have n2_ := Aside0.mk (blk_below (Cmp.b BK359.out) hb); have n3_ := Aside0.mk (below_step (Cmp.g HB.out) hb); clear HO_360000; clear BK355; clear BK359; clear HB; have HO_360000 := n0_; have BK355 := n1_; have BK359 := n2_; have HB := n3_; clear n0_ n1_ n2_ n3_; (try clear hb); (try clear hb2); (try clear hk); (try clear hi); have hcz47_0 : w46.cell? ⟨gb359, 0, none⟩ = some (.slice Ao45 x360000_2.length co45) := (blk_cell BK359.out 0).trans rfl; have hfz47_0 := blk_frozen BK359.out 0) | (go_at_call 69; (with_reducible refine (spec_EncodeBundle.calls k2 _ _ x360000_2 t374 _ ?side1 ?side2 A40.out).mono ?_); (case side1 => exact Cmp.rc (Kd.R_reads' HO_360000.out).2.2); (case side2 => exact (Kd.R_reads' HO_360000.out).2.1); rintro e w48 ⟨v375, rfl, ho0, hb⟩; have n0_ := Aside0.mk (Kd.R_below (Cmp.rr HO_360000.out) hb); have n1_ := Aside0.mk (Kd.R_lower ho0 (below_size (Cmp.g HB.out))); have n2_ := Aside0.mk (blk_below (Cmp.b BK355.out) hb); have n3_ := Aside0.mk (blk_below (Cmp.b BK359.out) hb); have n4_ := Aside0.mk (below_step (Cmp.g HB.out) hb); clear HO_360000; clear BK355; clear BK359; clear HB; have HO_360000 := n0_; have HO376 := n1_; have BK355 := n2_; have BK359 := n3_; have HB := n4_; clear n0_ n1_ n2_ n3_ n4_; (try clear hb); (try clear hb2); (try clear hk); (try clear hi); (try clear ho0); obtain ⟨Ao49, co49, eo49⟩ := Kd.R_slice HO376.out; subst eo49) | (go_at_call 116; (with_reducible refine (spec_EqualBytes.calls _ _ t374 _ _ l0 true _ ?side1 ?side2 ?side3 ?side4 A41.out).mono ?_); (case side1 => exact Cmp.rc (Kd.R_reads' HO376.out).2.2); (case side2 => exact (Kd.R_reads' HO376.out).2.1); (case side3 => exact Cmp.rc (Kd.C_below HR0.out HB.out)); (case side4 => exact HC0.out); rintro e w' ⟨rfl, ⟨nd, rfl⟩⟩; (try (rw [drewN_self w48]; generalize hq_ : World.drewN w48 _ = w48; have n0_ : Aside0 (Kd.R (Kd.int .u8) 5 w48 w.heap.size (fun _ => True) (.slice Ao49 t374.length co49) t374) := ⟨by rw [← hq_]; exact (Cmp.rr HO376.out)⟩; have n1_ : Aside0 (Kd.R k94 94 w48 w.heap.size (fun _ => True) (.slice Ao45 x360000_2.length co45) x360000_2) := ⟨by rw [← hq_]; exact (Cmp.rr HO_360000.out)⟩; have n2_ : Aside0 (w48.heap[gb355]? = some (.cells #[.slice none 0 0] 45 (0, 0))) := ⟨by rw [← hq_]; exact (Cmp.b BK355.out)⟩; have n3_ : Aside0 (w48.heap[gb359]? = some (.cells #[.slice Ao45 x360000_2.length co45] 45 (0, 0))) := ⟨by rw [← hq_]; exact (Cmp.b BK359.out)⟩; have n4_ : Aside0 (Below w.heap.size w w48) := ⟨by rw [← hq_]; exact (Cmp.g HB.out)⟩; clear HO376 HO_360000 BK355 BK359 HB hq_; have HO376 := n0_; have HO_360000 := n1_; have BK355 := n2_; have BK359 := n3_; have HB := n4_; clear n0_ n1_ n2_ n3_ n4_)); have hcz50_0 : w48.cell? ⟨gb359, 0, none⟩ = some (.slice Ao45 x360000_2.length co45) := (blk_cell BK359.out 0).trans rfl; have hfz50_0 := blk_frozen BK359.out 0; have hcz51_0 : w48.cell? ⟨gb355, 0, none⟩ = some (.slice none 0 0) := (blk_cell BK355.out 0).trans rfl; have hfz51_0 := blk_frozen BK355.out 0))
         refine bodyPost_ret (results_ct rfl _ _ gb355 45 #[.slice Ao45 x360000_2.length co45] (0, 0) _ rfl (by (with_reducible repeat (first | refine blk_drewN ?_ _ | refine blk_drew ?_ | refine blk_alloc ?_ _)); refine blk_put (cs := #[.slice none 0 0]) ?_ 0 _ rfl; (with_reducible repeat (first | refine blk_drewN ?_ _ | refine blk_drew ?_ | refine blk_alloc ?_ _)); exact BK355.out) Try.underlying45 rfl (by kernel_rfl)) rfl ?_
         exact ⟨_, by first | rfl | (simp [errW_none, errW_some] <;> rfl) | (simp [*, errW_none, errW_some] <;> rfl), by (with_reducible repeat (first | apply Kd.R_alloc | apply Kd.R_drewN | apply Kd.R_drew)); exact Kd.R_mono (Kd.R_far (p := ⟨gb355, 0, none⟩) (Kd.R_types HO_360000.out BK355.out (by decide)) (fun _ hk => hk.2) (.slice Ao45 x360000_2.length co45)) (fun _ hk => trivial), Cmp.g HB.out⟩
        ·replace c42 := Bool.eq_false_iff.mpr c42
         subst c42
         have H1 : (some (([] : List (S94)), false)) = some (r1, r2) := by rw [if_neg (show ¬ (false = true) by decide)] at H; exact H
         clear H; have H := H1; clear H1
         simp only [Option.some.injEq, Prod.mk.injEq] at H
         obtain ⟨rfl, rfl⟩ := H; have hnb52 := NB359_355.out; have hnc52 := NB355_359.out
         have hcz53_0 : wr.cell? ⟨gb359, 0, none⟩ = some (u360000) := (blk_cell BK359.out 0).trans rfl
         have hfz53_0 := blk_frozen BK359.out 0
         obtain ⟨Ao54, co54, eo54⟩ := Kd.R_slice HO_360000.out
         subst eo54
         go_wp2_with (first | ((with_reducible refine gate_callee (f := 66) rfl ?_); refine goesL_ (some 68) rfl rfl Try.func66 (by kernel_rfl) rfl #[.agg #[.slice Ao54 x360000_2.length co54]] rfl Cmp.q ?_; (with_reducible refine (spec_IsBundle.calls k2 _ _ x360000_2 true _ ?side1 ?side2 A38.out).mono ?_); (case side1 => exact Cmp.rc (Kd.R_reads' HO_360000.out).2.2); (case side2 => exact (Kd.R_reads' HO_360000.out).2.1); rintro e w55 ⟨rfl, hb⟩; refine ⟨_, rfl, ?_⟩; have n0_ := Aside0.mk (Kd.R_below (Cmp.rr HO_360000.out) hb); have n1_ := Aside0.mk (blk_below (Cmp.b BK355.out) hb); have n2_ := Aside0.mk (blk_below (Cmp.b BK359.out) hb); have n3_ := Aside0.mk (below_step (Cmp.g HB.out) hb); clear HO_360000; clear BK355; clear BK359; clear HB; have HO_360000 := n0_; have BK355 := n1_; have BK359 := n2_; have HB := n3_; clear n0_ n1_ n2_ n3_; (try clear hb); (try clear hb2); (try clear hk); (try clear hi); have hcz56_0 : w55.cell? ⟨gb359, 0, none⟩ = some (.slice Ao54 x360000_2.length co54) := (blk_cell BK359.out 0).trans rfl; have hfz56_0 := blk_frozen BK359.out 0) | (go_at_call 69; (with_reducible refine (spec_EncodeBundle.calls k2 _ _ x360000_2 t374 _ ?side1 ?side2 A40.out).mono ?_); (case side1 => exact Cmp.rc (Kd.R_reads' HO_360000.out).2.2); (case side2 => exact (Kd.R_reads' HO_360000.out).2.1); rintro e w57 ⟨v375, rfl, ho0, hb⟩; have n0_ := Aside0.mk (Kd.R_below (Cmp.rr HO_360000.out) hb); have n1_ := Aside0.mk (Kd.R_lower ho0 (below_size (Cmp.g HB.out))); have n2_ := Aside0.mk (blk_below (Cmp.b BK355.out) hb); have n3_ := Aside0.mk (blk_below (Cmp.b BK359.out) hb); have n4_ := Aside0.mk (below_step (Cmp.g HB.out) hb); clear HO_360000; clear BK355; clear BK359; clear HB; have HO_360000 := n0_; have HO376 := n1_; have BK355 := n2_; have BK359 := n3_; have HB := n4_; clear n0_ n1_ n2_ n3_ n4_; (try clear hb); (try clear hb2); (try clear hk); (try clear hi); (try clear ho0); obtain ⟨Ao58, co58, eo58⟩ := Kd.R_slice HO376.out; subst eo58) | (go_at_call 116; (with_reducible refine (spec_EqualBytes.calls _ _ t374 _ _ l0 false _ ?side1 ?side2 ?side3 ?side4 A41.out).mono ?_); (case side1 => exact Cmp.rc (Kd.R_reads' HO376.out).2.2); (case side2 => exact (Kd.R_reads' HO376.out).2.1); (case side3 => exact Cmp.rc (Kd.C_below HR0.out HB.out)); (case side4 => exact HC0.out); rintro e w' ⟨rfl, ⟨nd, rfl⟩⟩; (try (rw [drewN_self w57]; generalize hq_ : World.drewN w57 _ = w57; have n0_ : Aside0 (Kd.R (Kd.int .u8) 5 w57 w.heap.size (fun _ => True) (.slice Ao58 t374.length co58) t374) := ⟨by rw [← hq_]; exact (Cmp.rr HO376.out)⟩; have n1_ : Aside0 (Kd.R k94 94 w57 w.heap.size (fun _ => True) (.slice Ao54 x360000_2.length co54) x360000_2) := ⟨by rw [← hq_]; exact (Cmp.rr HO_360000.out)⟩; have n2_ : Aside0 (w57.heap[gb355]? = some (.cells #[.slice none 0 0] 45 (0, 0))) := ⟨by rw [← hq_]; exact (Cmp.b BK355.out)⟩; have n3_ : Aside0 (w57.heap[gb359]? = some (.cells #[.slice Ao54 x360000_2.length co54] 45 (0, 0))) := ⟨by rw [← hq_]; exact (Cmp.b BK359.out)⟩; have n4_ : Aside0 (Below w.heap.size w w57) := ⟨by rw [← hq_]; exact (Cmp.g HB.out)⟩; clear HO376 HO_360000 BK355 BK359 HB hq_; have HO376 := n0_; have HO_360000 := n1_; have BK355 := n2_; have BK359 := n3_; have HB := n4_; clear n0_ n1_ n2_ n3_ n4_)); have hcz59_0 : w57.cell? ⟨gb355, 0, none⟩ = some (.slice none 0 0) := (blk_cell BK355.out 0).trans rfl; have hfz59_0 := blk_frozen BK355.out 0))
         refine bodyPost_ret (results_ct rfl _ _ gb355 45 #[.slice none 0 0] (0, 0) _ rfl (by (with_reducible repeat (first | refine blk_drewN ?_ _ | refine blk_drew ?_ | refine blk_alloc ?_ _)); refine blk_put (cs := #[.slice none 0 0]) ?_ 0 _ rfl; (with_reducible repeat (first | refine blk_drewN ?_ _ | refine blk_drew ?_ | refine blk_alloc ?_ _)); exact BK355.out) Try.underlying45 rfl (by kernel_rfl)) rfl ?_
         exact ⟨_, by first | rfl | (simp [errW_none, errW_some] <;> rfl) | (simp [*, errW_none, errW_some] <;> rfl), by first | exact Kd.R_nil _ _ _ _ _ | exact Kd.N_nil _ _ _ _ _ | exact Kd.V_nil _ _ _ _ _ | exact Kd.Q_nil _ _ _ _ _ | exact Kd.S_nil _ _ _ _ _, Cmp.g HB.out⟩
       ·replace c39 := Bool.eq_false_iff.mpr c39
        subst c39
        have H1 : (some (([] : List (S94)), false)) = some (r1, r2) := by rw [if_neg (show ¬ (false = true) by decide)] at H; exact H
        clear H; have H := H1; clear H1
        simp only [Option.some.injEq, Prod.mk.injEq] at H
        obtain ⟨rfl, rfl⟩ := H; have hnb60 := NB359_355.out; have hnc60 := NB355_359.out
        have hcz61_0 : wr.cell? ⟨gb359, 0, none⟩ = some (u360000) := (blk_cell BK359.out 0).trans rfl
        have hfz61_0 := blk_frozen BK359.out 0
        obtain ⟨Ao62, co62, eo62⟩ := Kd.R_slice HO_360000.out
        subst eo62
        go_wp2_with (first | ((with_reducible refine gate_callee (f := 66) rfl ?_); refine goesL_ (some 68) rfl rfl Try.func66 (by kernel_rfl) rfl #[.agg #[.slice Ao62 x360000_2.length co62]] rfl Cmp.q ?_; (with_reducible refine (spec_IsBundle.calls k2 _ _ x360000_2 false _ ?side1 ?side2 A38.out).mono ?_); (case side1 => exact Cmp.rc (Kd.R_reads' HO_360000.out).2.2); (case side2 => exact (Kd.R_reads' HO_360000.out).2.1); rintro e w63 ⟨rfl, hb⟩; refine ⟨_, rfl, ?_⟩; have n0_ := Aside0.mk (Kd.R_below (Cmp.rr HO_360000.out) hb); have n1_ := Aside0.mk (blk_below (Cmp.b BK355.out) hb); have n2_ := Aside0.mk (blk_below (Cmp.b BK359.out) hb); have n3_ := Aside0.mk (below_step (Cmp.g HB.out) hb); clear HO_360000; clear BK355; clear BK359; clear HB; have HO_360000 := n0_; have BK355 := n1_; have BK359 := n2_; have HB := n3_; clear n0_ n1_ n2_ n3_; (try clear hb); (try clear hb2); (try clear hk); (try clear hi); have hcz64_0 : w63.cell? ⟨gb355, 0, none⟩ = some (.slice none 0 0) := (blk_cell BK355.out 0).trans rfl; have hfz64_0 := blk_frozen BK355.out 0))
        refine bodyPost_ret (results_ct rfl _ _ gb355 45 #[.slice none 0 0] (0, 0) _ rfl (by (with_reducible repeat (first | refine blk_drewN ?_ _ | refine blk_drew ?_ | refine blk_alloc ?_ _)); refine blk_put (cs := #[.slice none 0 0]) ?_ 0 _ rfl; (with_reducible repeat (first | refine blk_drewN ?_ _ | refine blk_drew ?_ | refine blk_alloc ?_ _)); exact BK355.out) Try.underlying45 rfl (by kernel_rfl)) rfl ?_
        exact ⟨_, by first | rfl | (simp [errW_none, errW_some] <;> rfl) | (simp [*, errW_none, errW_some] <;> rfl), by first | exact Kd.R_nil _ _ _ _ _ | exact Kd.N_nil _ _ _ _ _ | exact Kd.V_nil _ _ _ _ _ | exact Kd.Q_nil _ _ _ _ _ | exact Kd.S_nil _ _ _ _ _, Cmp.g HB.out⟩

end Go.Proofs.Ytpgjecknkmmnhaa.PFnExactOpenBundle

/- Printed functions of the program, out of print.sh, told more shortly. No condition. -/
import Derived.Test.YtpgjecknkmmnhaaCmp
import Derived.Test.YtpgjecknkmmnhaaPFnSealedBundlesx0
namespace Go.Proofs.Ytpgjecknkmmnhaa.PFnSealedBundles
open Go.Proofs.Ytpgjecknkmmnhaa
open Go.RowKit Go.Proofs.YtpgjecknkmmnhaaW.PrintWords Go.Proofs.YtpgjecknkmmnhaaW.PrintLast Go.Proofs.YtpgjecknkmmnhaaW.PrintMore
attribute [local go_sem] max2_int min2_int max_two min_two max_three min_three max_four min_four   -- for this text's walks alone
set_option linter.unusedVariables false
set_option linter.unusedSimpArgs false
/-! ### impl_ReadUvarint: function 72 -/
mutual
def impl_ReadUvarint.j0 : Nat → List Int → Int → Bool → Option (Int × Int × Bool)
  | 0, _, _, _ => none
  | k + 1, x0, x1, x18 => if x18 = true then (some (0, 0, false)) else (impl_ReadUvarint.l0 k x0 x1 0 1 0)
def impl_ReadUvarint.l0 : Nat → List Int → Int → Int → Int → Int → Option (Int × Int × Bool)
  | 0, _, _, _, _, _ => none
  | k + 1, x0, x1, x7, x8, x9 => if x9 < 6 then (if (wrap64 (x1 + x9)) ≥ (x0.length : Int) then (some (0, 0, false)) else (if 0 ≤ (wrap64 (x1 + x9)) then (if (wrap64 (x1 + x9)) < (x0.length : Int) then (if (wrap64 (rd x0 (wrap64 (x1 + x9)))) < 128 then (if x9 > 0 then (if (wrap64 (rd x0 (wrap64 (x1 + x9)))) = 0 then (some (0, 0, false)) else (if (wrap64 (x7 + (wrap64 ((Int.tmod (wrap64 (rd x0 (wrap64 (x1 + x9)))) 128) * x8)))) > 1000000000000 then (some (0, 0, false)) else (some (wrap64 (x7 + (wrap64 ((Int.tmod (wrap64 (rd x0 (wrap64 (x1 + x9)))) 128) * x8))), wrap64 ((wrap64 (x1 + x9)) + 1), true)))) else (if (wrap64 (x7 + (wrap64 ((Int.tmod (wrap64 (rd x0 (wrap64 (x1 + x9)))) 128) * x8)))) > 1000000000000 then (some (0, 0, false)) else (some (wrap64 (x7 + (wrap64 ((Int.tmod (wrap64 (rd x0 (wrap64 (x1 + x9)))) 128) * x8))), wrap64 ((wrap64 (x1 + x9)) + 1), true)))) else (impl_ReadUvarint.l0 k x0 x1 (wrap64 (x7 + (wrap64 ((Int.tmod (wrap64 (rd x0 (wrap64 (x1 + x9)))) 128) * x8)))) (wrap64 (x8 * 128)) (wrap64 (x9 + 1)))) else (none)) else (none))) else (some (0, 0, false))
end
def impl_ReadUvarint.f (k : Nat) (l0 : List Int) (a1 : Int) : Option (Int × Int × Bool) := if a1 < 0 then (impl_ReadUvarint.j0 k l0 a1 true) else (impl_ReadUvarint.j0 k l0 a1 (decide (a1 ≥ (l0.length : Int))))
theorem impl_ReadUvarint.mono_l : ∀ k, (∀ y0 y1 y2, LeO (impl_ReadUvarint.j0 k y0 y1 y2) (impl_ReadUvarint.j0 (k + 1) y0 y1 y2)) ∧ (∀ y0 y1 y2 y3 y4, LeO (impl_ReadUvarint.l0 k y0 y1 y2 y3 y4) (impl_ReadUvarint.l0 (k + 1) y0 y1 y2 y3 y4))
 | 0 => ⟨fun _ _ _ r h => by simp [impl_ReadUvarint.j0] at h, fun _ _ _ _ _ r h => by simp [impl_ReadUvarint.l0] at h⟩
 | k + 1 => by
    obtain ⟨ih0, ih1⟩ := impl_ReadUvarint.mono_l k
    refine ⟨?_, ?_⟩
    · intro y0 y1 y2
      unfold impl_ReadUvarint.j0
      repeat' first
 | (with_reducible exact ih0 _ _ _)
 | (with_reducible exact ih1 _ _ _ _ _)
 | (with_reducible exact LeO.refl _)
 | (with_reducible exact LeO.none _)
 | (with_reducible refine LeO.ite ?_ ?_)
 | (with_reducible refine LeO.bind ?_ (fun _ => ?_))
    · intro y0 y1 y2 y3 y4
      unfold impl_ReadUvarint.l0
      repeat' first
 | (with_reducible exact ih0 _ _ _)
 | (with_reducible exact ih1 _ _ _ _ _)
 | (with_reducible exact LeO.refl _)
 | (with_reducible exact LeO.none _)
 | (with_reducible refine LeO.ite ?_ ?_)
 | (with_reducible refine LeO.bind ?_ (fun _ => ?_))
theorem impl_ReadUvarint.mono : ∀ a0 a1 k, LeO (impl_ReadUvarint.f k a0 a1) (impl_ReadUvarint.f (k + 1) a0 a1) := by
  intro a0 a1 k
  obtain ⟨ih0, ih1⟩ := impl_ReadUvarint.mono_l k
  unfold impl_ReadUvarint.f
  repeat' first
 | (with_reducible exact ih0 _ _ _)
 | (with_reducible exact ih1 _ _ _ _ _)
 | (with_reducible exact LeO.refl _)
 | (with_reducible exact LeO.none _)
 | (with_reducible refine LeO.ite ?_ ?_)
 | (with_reducible refine LeO.bind ?_ (fun _ => ?_))
set_option maxHeartbeats 8000000 in
set_option maxRecDepth 100000 in
theorem impl_ReadUvarint.calls (k : Nat) (A0 : Option Addr) (c0 : Nat) (l0 : List Int) (a1 : Int) (r1 : Int) (r2 : Int) (r3 : Bool) (w : World) (hr0 : Kd.C (Kd.int .u8) w A0 l0.length l0) (hc0 : l0.length ≤ c0) (h : impl_ReadUvarint.f k l0 a1 = some (r1, r2, r3)) :
    Calls Try.prog 72 #[.slice A0 l0.length c0, .int .i64 a1] w fun e w' => e = .returned (.tuple #[.int .i64 r1, .int .i64 r2, .bool r3]) ∧ Drawn0 w w' := by
 have HR0 := Cmp.A hr0; have HC0 := Cmp.A hc0; clear hr0 hc0
 have H : (if a1 < 0 then (impl_ReadUvarint.j0 k l0 a1 true) else (impl_ReadUvarint.j0 k l0 a1 (decide (a1 ≥ (l0.length : Int))))) = some (r1, r2, r3) := h
 clear h; have HC3 := Cmp.A H; clear H
 go_enter Try.func72, Try.ntmps72
 go_upto_region 1 with (fail)
 go_cut [18] (fun v18 wc => ∃ (kq : Nat) (D6 : Bool), v18 = .bool D6 ∧ Aside0 (impl_ReadUvarint.j0 kq l0 a1 D6 = some (r1, r2, r3)) ∧ Aside0 (kq ≤ k) ∧ Drawn0 w wc)
 case first =>
  have H := HC3.out; clear HC3
  by_cases c4 : a1 < 0
  ·rw [if_pos c4] at H; have c4b0 : decide (a1 < 0) = true := decide_eq_true c4; clear c4
   (first | rw [c4b0] | (simp only [i64_w, i32_w]; rw [c4b0]) | skip)
   have H' := Cmp.A H
   clear H
   go_wp2
   go_meet
   case rel => exact ⟨_, (true), (by first | rfl | simp | simp [*]), H', ⟨by first | omega | exact Nat.le_refl _⟩, by repeat (first | exact Drawn0.refl _ | apply Drawn0.step)⟩
  ·rw [if_neg c4] at H; have c4b0 : decide (a1 < 0) = false := decide_eq_false c4; clear c4
   (first | rw [c4b0] | (simp only [i64_w, i32_w]; rw [c4b0]) | skip)
   have H' := Cmp.A H
   clear H
   go_wp2
   go_meet
   case rel => exact ⟨_, (decide (a1 ≥ (l0.length : Int))), (by first | rfl | simp | simp [*]), H', ⟨by first | omega | exact Nat.le_refl _⟩, by repeat (first | exact Drawn0.refl _ | apply Drawn0.step)⟩
 case rest =>
  clear HC3; (try clear p2); (try clear c4); (try clear c4b0)
  obtain ⟨kq, D6, rfl, HA, HJ2, ⟨mc2, rfl⟩⟩ := hcut
  cases kq with
  | zero => exact absurd HA.out (by simp [impl_ReadUvarint.j0])
  | succ kj2 =>
   have H := HA.out; clear HA
   simp only [impl_ReadUvarint.j0] at H
   by_cases c5 : D6 = true
   ·subst c5; rw [if_pos rfl] at H
    simp only [Option.some.injEq, Prod.mk.injEq] at H
    obtain ⟨rfl, rfl, rfl⟩ := H
    go_wp2
    go_ret3
    exact ⟨by first | rfl | (simp; done) | (simp [*]; done), by repeat (first | exact Drawn0.refl _ | apply Drawn0.step)⟩
   ·replace c5 := Bool.eq_false_iff.mpr c5
    subst c5
    have H1 : (impl_ReadUvarint.l0 kj2 l0 a1 0 1 0) = some (r1, r2, r3) := by rw [if_neg (show ¬ (false = true) by decide)] at H; exact H
    clear H; have H := H1; clear H1
    have H' := Cmp.A H
    clear H
    go_wp2
    go_loopg [7, 8, 9] kj2 (fun kq v7 v8 v9 w' => ∃ (D3 : Int) (D1 : Int) (D2 : Int), v7 = .int .i64 D3 ∧ v8 = .int .i64 D1 ∧ v9 = .int .i64 D2 ∧ Aside0 (impl_ReadUvarint.l0 kq l0 a1 D3 D1 D2 = some (r1, r2, r3)) ∧ Aside0 (kq ≤ kj2) ∧ Drawn0 w w')
    case atStart => exact ⟨(0), (1), (0), (by first | rfl | simp | simp [*]), (by first | rfl | simp | simp [*]), (by first | rfl | simp | simp [*]), H', ⟨Nat.le_refl _⟩, by repeat (first | exact Drawn0.refl _ | apply Drawn0.step)⟩
    case round =>
     clear H'
     (try clear c2); (try clear p2); (try clear c4); (try clear c4b0); (try clear c5); (try clear p2)
     obtain ⟨D3, D1, D2, rfl, rfl, rfl, HA, HK2, ⟨m2, rfl⟩⟩ := hrel
     cases gk with
     | zero => exact absurd HA.out (by simp [impl_ReadUvarint.l0])
     | succ k2 =>
      have H := HA.out; clear HA
      simp only [impl_ReadUvarint.l0] at H
      by_cases c6 : D2 < 6
      ·rw [if_pos c6] at H; have c6b0 : decide (D2 < 6) = true := decide_eq_true c6; clear c6
       by_cases c7 : (wrap64 (a1 + D2)) ≥ (l0.length : Int)
       ·rw [if_pos c7] at H
        have c7b0 : decide ((l0.length : Int) ≤ (wrap64 (a1 + D2))) = true := decide_eq_true c7
        clear c7
        simp only [Option.some.injEq, Prod.mk.injEq] at H
        obtain ⟨rfl, rfl, rfl⟩ := H
        go_wp2
        go_ret3
        exact ⟨by first | rfl | (simp; done) | (simp [*]; done), by repeat (first | exact Drawn0.refl _ | apply Drawn0.step)⟩
       ·rw [if_neg c7] at H
        have c7b0 : decide ((l0.length : Int) ≤ (wrap64 (a1 + D2))) = false := decide_eq_false c7
        clear c7
        obtain ⟨D0, hji8⟩ : ∃ j_ : Int, (wrap64 (a1 + D2)) = j_ := ⟨_, rfl⟩
        replace H : (if 0 ≤ (D0) then (if (D0) < (l0.length : Int) then (if (wrap64 (rd l0 (D0))) < 128 then (if D2 > 0 then (if (wrap64 (rd l0 (D0))) = 0 then (some (0, 0, false)) else (if (wrap64 (D3 + (wrap64 ((Int.tmod (wrap64 (rd l0 (D0))) 128) * D1)))) > 1000000000000 then (some (0, 0, false)) else (some (wrap64 (D3 + (wrap64 ((Int.tmod (wrap64 (rd l0 (D0))) 128) * D1))), wrap64 ((D0) + 1), true)))) else (if (wrap64 (D3 + (wrap64 ((Int.tmod (wrap64 (rd l0 (D0))) 128) * D1)))) > 1000000000000 then (some (0, 0, false)) else (some (wrap64 (D3 + (wrap64 ((Int.tmod (wrap64 (rd l0 (D0))) 128) * D1))), wrap64 ((D0) + 1), true)))) else (impl_ReadUvarint.l0 k2 l0 a1 (wrap64 (D3 + (wrap64 ((Int.tmod (wrap64 (rd l0 (D0))) 128) * D1)))) (wrap64 (D1 * 128)) (wrap64 (D2 + 1)))) else (none)) else (none)) = some (r1, r2, r3) := by first | (rw [hji8] at H; exact H) | (simp only [hji8] at H ⊢; exact H)
        (try rw [hji8] at c7b0)
        have hji8w : (IntKind.i64.wrap (a1 + D2)) = D0 := (i64_w _).trans hji8
        by_cases c9 : 0 ≤ (D0)
        ·rw [if_pos c9] at H; have c9b0 : decide (0 ≤ (D0)) = true := decide_eq_true c9; clear c9
         by_cases c10 : (D0) < (l0.length : Int)
         ·rw [if_pos c10] at H
          have c10b0 : decide ((D0) < (l0.length : Int)) = true := decide_eq_true c10
          clear c10
          by_cases c11 : (wrap64 (rd l0 (D0))) < 128
          ·rw [if_pos c11] at H; have c11b0 : decide ((wrap64 (rd l0 (D0))) < 128) = true := decide_eq_true c11; clear c11
           by_cases c12 : D2 > 0
           ·rw [if_pos c12] at H; have c12b0 : decide (0 < D2) = true := decide_eq_true c12; clear c12
            by_cases c13 : (wrap64 (rd l0 (D0))) = 0
            ·rw [if_pos c13] at H; have c13b0 : ((wrap64 (rd l0 (D0))) == 0) = true := beq_iff_eq.mpr c13; have c13b1 : ((wrap64 (rd l0 (D0))) != 0) = false := bne_eq_false_iff_eq.mpr c13; clear c13
             simp only [Option.some.injEq, Prod.mk.injEq] at H
             obtain ⟨rfl, rfl, rfl⟩ := H
             have p600 : 0 ≤ ((D0) : Int) := of_decide_eq_true Cmp.d
             have q600 : (D0) < (l0.length : Int) := of_decide_eq_true Cmp.d
             obtain ⟨D5, e600, D4⟩ := Kd.at_int HR0.out (D0) p600 q600
             cases e600; replace p600 := eq_true p600; replace q600 := eq_true q600
             go_wp2
             go_ret3
             exact ⟨by first | rfl | (simp; done) | (simp only [← hji8] <;> (first | rfl | simp)) | (simp [*]; done), by repeat (first | exact Drawn0.refl _ | apply Drawn0.step)⟩
            ·rw [if_neg c13] at H; have c13b0 : ((wrap64 (rd l0 (D0))) == 0) = false := beq_eq_false_iff_ne.mpr c13; have c13b1 : ((wrap64 (rd l0 (D0))) != 0) = true := bne_iff_ne.mpr c13
             by_cases c14 : (wrap64 (D3 + (wrap64 ((Int.tmod (wrap64 (rd l0 (D0))) 128) * D1)))) > 1000000000000
             ·rw [if_pos c14] at H; have c14b0 : decide (1000000000000 < (wrap64 (D3 + (wrap64 ((Int.tmod (wrap64 (rd l0 (D0))) 128) * D1))))) = true := decide_eq_true c14; clear c14
              simp only [Option.some.injEq, Prod.mk.injEq] at H
              obtain ⟨rfl, rfl, rfl⟩ := H
              have p600 : 0 ≤ ((D0) : Int) := of_decide_eq_true Cmp.d
              have q600 : (D0) < (l0.length : Int) := of_decide_eq_true Cmp.d
              obtain ⟨D5, e600, D4⟩ := Kd.at_int HR0.out (D0) p600 q600
              cases e600; replace p600 := eq_true p600; replace q600 := eq_true q600
              go_wp2
              go_ret3
              exact ⟨by first | rfl | (simp; done) | (simp only [← hji8] <;> (first | rfl | simp)) | (simp [*]; done), by repeat (first | exact Drawn0.refl _ | apply Drawn0.step)⟩
             ·rw [if_neg c14] at H; have c14b0 : decide (1000000000000 < (wrap64 (D3 + (wrap64 ((Int.tmod (wrap64 (rd l0 (D0))) 128) * D1))))) = false := decide_eq_false c14; clear c14
              simp only [Option.some.injEq, Prod.mk.injEq] at H
              obtain ⟨rfl, rfl, rfl⟩ := H
              have p600 : 0 ≤ ((D0) : Int) := of_decide_eq_true Cmp.d
              have q600 : (D0) < (l0.length : Int) := of_decide_eq_true Cmp.d
              obtain ⟨D5, e600, D4⟩ := Kd.at_int HR0.out (D0) p600 q600
              cases e600; replace p600 := eq_true p600; replace q600 := eq_true q600
              go_wp2
              go_ret3
              exact ⟨by first | rfl | (simp; done) | (simp only [← hji8] <;> (first | rfl | simp)) | (simp [*]; done), by repeat (first | exact Drawn0.refl _ | apply Drawn0.step)⟩
           ·rw [if_neg c12] at H; have c12b0 : decide (0 < D2) = false := decide_eq_false c12; clear c12
            by_cases c15 : (wrap64 (D3 + (wrap64 ((Int.tmod (wrap64 (rd l0 (D0))) 128) * D1)))) > 1000000000000
            ·rw [if_pos c15] at H; have c15b0 : decide (1000000000000 < (wrap64 (D3 + (wrap64 ((Int.tmod (wrap64 (rd l0 (D0))) 128) * D1))))) = true := decide_eq_true c15; clear c15
             simp only [Option.some.injEq, Prod.mk.injEq] at H
             obtain ⟨rfl, rfl, rfl⟩ := H
             have p600 : 0 ≤ ((D0) : Int) := of_decide_eq_true Cmp.d
             have q600 : (D0) < (l0.length : Int) := of_decide_eq_true Cmp.d
             obtain ⟨D5, e600, D4⟩ := Kd.at_int HR0.out (D0) p600 q600
             cases e600; replace p600 := eq_true p600; replace q600 := eq_true q600
             go_wp2
             go_ret3
             exact ⟨by first | rfl | (simp; done) | (simp only [← hji8] <;> (first | rfl | simp)) | (simp [*]; done), by repeat (first | exact Drawn0.refl _ | apply Drawn0.step)⟩
            ·rw [if_neg c15] at H; have c15b0 : decide (1000000000000 < (wrap64 (D3 + (wrap64 ((Int.tmod (wrap64 (rd l0 (D0))) 128) * D1))))) = false := decide_eq_false c15; clear c15
             simp only [Option.some.injEq, Prod.mk.injEq] at H
             obtain ⟨rfl, rfl, rfl⟩ := H
             have p600 : 0 ≤ ((D0) : Int) := of_decide_eq_true Cmp.d
             have q600 : (D0) < (l0.length : Int) := of_decide_eq_true Cmp.d
             obtain ⟨D5, e600, D4⟩ := Kd.at_int HR0.out (D0) p600 q600
             cases e600; replace p600 := eq_true p600; replace q600 := eq_true q600
             go_wp2
             go_ret3
             exact ⟨by first | rfl | (simp; done) | (simp only [← hji8] <;> (first | rfl | simp)) | (simp [*]; done), by repeat (first | exact Drawn0.refl _ | apply Drawn0.step)⟩
          ·rw [if_neg c11] at H; have c11b0 : decide ((wrap64 (rd l0 (D0))) < 128) = false := decide_eq_false c11; clear c11
           have H' := Cmp.A H
           clear H
           have p600 : 0 ≤ ((D0) : Int) := of_decide_eq_true Cmp.d
           have q600 : (D0) < (l0.length : Int) := of_decide_eq_true Cmp.d
           obtain ⟨D5, e600, D4⟩ := Kd.at_int HR0.out (D0) p600 q600
           cases e600; replace p600 := eq_true p600; replace q600 := eq_true q600
           go_wp2
           go_roundg k2
           case measure => have := HJ2.out; have := HK2.out; omega
           case rel => exact ⟨(wrap64 (D3 + (wrap64 ((Int.tmod (wrap64 (rd l0 (D0))) 128) * D1)))), (wrap64 (D1 * 128)), (wrap64 (D2 + 1)), (by first | rfl | (simp; done) | (simp only [← hji8] <;> (first | rfl | simp)) | (simp [*]; done)), (by first | rfl | simp | simp [*]), (by first | rfl | simp | simp [*]), H', ⟨by have := HJ2.out; have := HK2.out; omega⟩, by repeat (first | exact Drawn0.refl _ | apply Drawn0.step)⟩
         ·rw [if_neg c10] at H; exact absurd H (by simp)
        ·rw [if_neg c9] at H; exact absurd H (by simp)
      ·rw [if_neg c6] at H; have c6b0 : decide (D2 < 6) = false := decide_eq_false c6; clear c6
       simp only [Option.some.injEq, Prod.mk.injEq] at H
       obtain ⟨rfl, rfl, rfl⟩ := H
       go_wp2
       go_ret3
       exact ⟨by first | rfl | (simp; done) | (simp [*]; done), by repeat (first | exact Drawn0.refl _ | apply Drawn0.step)⟩
/-! ### impl_DecodeInts: function 73 -/
mutual
def impl_DecodeInts.j0 : Nat → List Int → Int → Int → Bool → Option (List Int × Int × Bool)
  | 0, _, _, _, _ => none
  | k + 1, x0, x1, x2, x29 => if x29 = true then (some (([] : List Int), 0, false)) else (impl_DecodeInts.l0 k x0 x1 x2 (([] : List Int)) 0)
def impl_DecodeInts.l0 : Nat → List Int → Int → Int → List Int → Int → Option (List Int × Int × Bool)
  | 0, _, _, _, _, _ => none
  | k + 1, x0, x1, x2, x9, x10 => if x10 < x2 then ((impl_ReadUvarint.f k x0 x1).bind fun bt604 => (if bt604.2.2 = true then (if x9.length < 17592186044416 then (impl_DecodeInts.l0 k x0 bt604.2.1 x2 (x9 ++ [bt604.1]) (wrap64 (x10 + 1))) else (none)) else (some (([] : List Int), 0, false)))) else (some (x9, x1, true))
end
def impl_DecodeInts.f (k : Nat) (l0 : List Int) (a1 : Int) (a2 : Int) : Option (List Int × Int × Bool) := if a2 < 0 then (impl_DecodeInts.j0 k l0 a1 a2 true) else (if a2 > 100 then (impl_DecodeInts.j0 k l0 a1 a2 true) else (if a1 < 0 then (impl_DecodeInts.j0 k l0 a1 a2 true) else (impl_DecodeInts.j0 k l0 a1 a2 (decide (a1 > (l0.length : Int))))))
theorem impl_DecodeInts.mono_l : ∀ k, (∀ y0 y1 y2 y3, LeO (impl_DecodeInts.j0 k y0 y1 y2 y3) (impl_DecodeInts.j0 (k + 1) y0 y1 y2 y3)) ∧ (∀ y0 y1 y2 y3 y4, LeO (impl_DecodeInts.l0 k y0 y1 y2 y3 y4) (impl_DecodeInts.l0 (k + 1) y0 y1 y2 y3 y4))
 | 0 => ⟨fun _ _ _ _ r h => by simp [impl_DecodeInts.j0] at h, fun _ _ _ _ _ r h => by simp [impl_DecodeInts.l0] at h⟩
 | k + 1 => by
    obtain ⟨ih0, ih1⟩ := impl_DecodeInts.mono_l k
    refine ⟨?_, ?_⟩
    · intro y0 y1 y2 y3
      unfold impl_DecodeInts.j0
      repeat' first
 | (with_reducible exact ih0 _ _ _ _)
 | (with_reducible exact ih1 _ _ _ _ _)
 | (with_reducible exact impl_ReadUvarint.mono _ _ _)
 | (with_reducible exact LeO.refl _)
 | (with_reducible exact LeO.none _)
 | (with_reducible refine LeO.ite ?_ ?_)
 | (with_reducible refine LeO.bind ?_ (fun _ => ?_))
    · intro y0 y1 y2 y3 y4
      unfold impl_DecodeInts.l0
      repeat' first
 | (with_reducible exact ih0 _ _ _ _)
 | (with_reducible exact ih1 _ _ _ _ _)
 | (with_reducible exact impl_ReadUvarint.mono _ _ _)
 | (with_reducible exact LeO.refl _)
 | (with_reducible exact LeO.none _)
 | (with_reducible refine LeO.ite ?_ ?_)
 | (with_reducible refine LeO.bind ?_ (fun _ => ?_))
theorem impl_DecodeInts.mono : ∀ a0 a1 a2 k, LeO (impl_DecodeInts.f k a0 a1 a2) (impl_DecodeInts.f (k + 1) a0 a1 a2) := by
  intro a0 a1 a2 k
  obtain ⟨ih0, ih1⟩ := impl_DecodeInts.mono_l k
  unfold impl_DecodeInts.f
  repeat' first
 | (with_reducible exact ih0 _ _ _ _)
 | (with_reducible exact ih1 _ _ _ _ _)
 | (with_reducible exact impl_ReadUvarint.mono _ _ _)
 | (with_reducible exact LeO.refl _)
 | (with_reducible exact LeO.none _)
 | (with_reducible refine LeO.ite ?_ ?_)
 | (with_reducible refine LeO.bind ?_ (fun _ => ?_))
set_option maxHeartbeats 8000000 in
set_option maxRecDepth 100000 in
theorem impl_DecodeInts.calls (k : Nat) (A0 : Option Addr) (c0 : Nat) (l0 : List Int) (a1 : Int) (a2 : Int) (r1 : List Int) (r2 : Int) (r3 : Bool) (w : World) (hr0 : Kd.C (Kd.int .u8) w A0 l0.length l0) (hc0 : l0.length ≤ c0) (h : impl_DecodeInts.f k l0 a1 a2 = some (r1, r2, r3)) :
    Calls Try.prog 73 #[.slice A0 l0.length c0, .int .i64 a1, .int .i64 a2] w fun e w' => ∃ v0_ : Value, e = .returned (.tuple #[v0_, .int .i64 r2, .bool r3]) ∧ Kd.R (Kd.int .i64) 3 w' w.heap.size (fun _ => True) v0_ r1 ∧ Below w.heap.size w w' := by
 have HR0 := Cmp.A hr0; have HC0 := Cmp.A hc0; clear hr0 hc0
 have HB := Cmp.A (Below.refl w.heap.size w)
 have H : (if a2 < 0 then (impl_DecodeInts.j0 k l0 a1 a2 true) else (if a2 > 100 then (impl_DecodeInts.j0 k l0 a1 a2 true) else (if a1 < 0 then (impl_DecodeInts.j0 k l0 a1 a2 true) else (impl_DecodeInts.j0 k l0 a1 a2 (decide (a1 > (l0.length : Int))))))) = some (r1, r2, r3) := h
 clear h; have HC4 := Cmp.A H; clear H
 go_enter Try.func73, Try.ntmps73
 go_upto_region 1 with (fail)
 go_cut [29] (fun v29 wc => ∃ (kq : Nat) (D2 : Bool), v29 = .bool D2 ∧ Aside0 (impl_DecodeInts.j0 kq l0 a1 a2 D2 = some (r1, r2, r3)) ∧ Aside0 (kq ≤ k) ∧ Aside0 (Below w.heap.size w wc))
 case first =>
  have H := HC4.out; clear HC4
  by_cases c5 : a2 < 0
  ·rw [if_pos c5] at H; have c5b0 : decide (a2 < 0) = true := decide_eq_true c5; clear c5
   (first | rw [c5b0] | (simp only [i64_w, i32_w]; rw [c5b0]) | skip)
   have H' := Cmp.A H
   clear H
   go_wp2
   go_meet
   case rel => exact ⟨_, (true), (by first | rfl | simp | simp [*]), H', ⟨by first | omega | exact Nat.le_refl _⟩, ⟨Cmp.g HB.out⟩⟩
  ·rw [if_neg c5] at H; have c5b0 : decide (a2 < 0) = false := decide_eq_false c5; clear c5
   (first | rw [c5b0] | (simp only [i64_w, i32_w]; rw [c5b0]) | skip)
   by_cases c6 : a2 > 100
   ·rw [if_pos c6] at H; have c6b0 : decide (100 < a2) = true := decide_eq_true c6; clear c6
    have H' := Cmp.A H
    clear H
    go_wp2
    go_meet
    case rel => exact ⟨_, (true), (by first | rfl | simp | simp [*]), H', ⟨by first | omega | exact Nat.le_refl _⟩, ⟨Cmp.g HB.out⟩⟩
   ·rw [if_neg c6] at H; have c6b0 : decide (100 < a2) = false := decide_eq_false c6; clear c6
    by_cases c7 : a1 < 0
    ·rw [if_pos c7] at H; have c7b0 : decide (a1 < 0) = true := decide_eq_true c7; clear c7
     have H' := Cmp.A H
     clear H
     go_wp2
     go_meet
     case rel => exact ⟨_, (true), (by first | rfl | simp | simp [*]), H', ⟨by first | omega | exact Nat.le_refl _⟩, ⟨Cmp.g HB.out⟩⟩
    ·rw [if_neg c7] at H; have c7b0 : decide (a1 < 0) = false := decide_eq_false c7; clear c7
     have H' := Cmp.A H
     clear H
     go_wp2
     go_meet
     case rel => exact ⟨_, (decide (a1 > (l0.length : Int))), (by first | rfl | simp | simp [*]), H', ⟨by first | omega | exact Nat.le_refl _⟩, ⟨Cmp.g HB.out⟩⟩
 case rest =>
  clear HC4; (try clear p2); (try clear c5); (try clear c5b0); (try clear c6); (try clear c6b0); (try clear c7); (try clear c7b0)
  obtain ⟨kq, D2, rfl, HA, HJ3, HB⟩ := hcut
  cases kq with
  | zero => exact absurd HA.out (by simp [impl_DecodeInts.j0])
  | succ kj3 =>
   have H := HA.out; clear HA
   simp only [impl_DecodeInts.j0] at H
   by_cases c8 : D2 = true
   ·subst c8; rw [if_pos rfl] at H
    simp only [Option.some.injEq, Prod.mk.injEq] at H
    obtain ⟨rfl, rfl, rfl⟩ := H
    go_wp2
    go_ret3
    exact ⟨_, by first | rfl | (simp [errW_none, errW_some] <;> rfl) | (simp [*, errW_none, errW_some] <;> rfl), by first | exact Kd.R_nil _ _ _ _ _ | exact Kd.N_nil _ _ _ _ _ | exact Kd.V_nil _ _ _ _ _ | exact Kd.Q_nil _ _ _ _ _ | exact Kd.S_nil _ _ _ _ _, Cmp.g HB.out⟩
   ·replace c8 := Bool.eq_false_iff.mpr c8
    subst c8
    have H1 : (impl_DecodeInts.l0 kj3 l0 a1 a2 (([] : List Int)) 0) = some (r1, r2, r3) := by rw [if_neg (show ¬ (false = true) by decide)] at H; exact H
    clear H; have H := H1; clear H1
    obtain ⟨Dd, hy601⟩ : ∃ y_ : List Int, y_ = (([] : List Int)) := ⟨_, rfl⟩
    replace H : (impl_DecodeInts.l0 kj3 l0 a1 a2 Dd 0) = some (r1, r2, r3) := Cmp.hy hy601 H
    have D7 := Cmp.A hy601; clear hy601
    have H' := Cmp.A H
    clear H
    go_wp2_with (first | ((with_reducible refine gate_dst (N := 30) rfl ?_); (try (refine gate_guard (by rfl) ?_; dsimp only)); refine Kd.R_lit (Kd.int .i64) _ 3 ?hg (N := 30) ?hd (xs := ([] : List Int)) (inner := []) (ok := fun _ => True) (okp := fun _ => True) ?hr ?hp (fun _ hk => hk) trivial (Below.refl _ _) (Nat.le_refl _) (by simp) ?_; (case hd => rfl); (case hg => rfl); (case hr => first | (go_simp; done) | (go_simp; rfl)); (case hp => exact (Reps.none _ _)); intro v602 w9 D4 hb hg_ hnew_; clear hg_ hnew_; (first | rw [← D7.out] at D4 | (simp only [Int.reduceToNat] at D4; rw [← D7.out] at D4)); have Da := Cmp.A (Kd.R_lower D4 (below_size (Cmp.g HB.out))); replace HB := Cmp.bs HB hb; clear hb D4))
    go_loopg [1, 9, 10] kj3 (fun kq v1 v9 v10 w' => ∃ (D1 : Int) (D3 : List Int) (D0 : Int), v1 = .int .i64 D1 ∧ v10 = .int .i64 D0 ∧ Aside0 (impl_DecodeInts.l0 kq l0 D1 a2 D3 D0 = some (r1, r2, r3)) ∧ Aside0 (kq ≤ kj3) ∧ Aside0 (Kd.R (Kd.int .i64) 3 w' w.heap.size (fun _ => True) v9 D3) ∧ Aside0 (Below w.heap.size w w'))
    case atStart => exact ⟨(a1), (Dd), (0), (by first | rfl | simp | simp [*]), (by first | rfl | simp | simp [*]), H', ⟨Nat.le_refl _⟩, ⟨Cmp.rr Da.out⟩, ⟨Cmp.g HB.out⟩⟩
    case round =>
     clear H'
     (try clear p2); (try clear c5); (try clear c5b0); (try clear c6); (try clear c6b0); (try clear c7); (try clear c7b0); (try clear c8); (try clear p2)
     obtain ⟨D1, D3, D0, rfl, rfl, HA, HK2, D8, HB⟩ := hrel
     cases gk with
     | zero => exact absurd HA.out (by simp [impl_DecodeInts.l0])
     | succ k2 =>
      have H := HA.out; clear HA
      simp only [impl_DecodeInts.l0] at H
      by_cases c11 : D0 < a2
      ·rw [if_pos c11] at H; have c11b0 : decide (D0 < a2) = true := decide_eq_true c11; clear c11; replace H := Option.bind_eq_some_iff.mp H; obtain ⟨⟨D5, D6, Df⟩, D9, H⟩ := H; (try dsimp only at H); have Dg := Cmp.A D9; clear D9
       by_cases c13 : Df = true
       ·subst c13; rw [if_pos rfl] at H
        by_cases c14 : D3.length < 17592186044416
        ·rw [if_pos c14] at H; have LMc14 := Cmp.A c14; clear c14
         obtain ⟨De, hy607⟩ : ∃ y_ : List Int, y_ = (D3 ++ [D5]) := ⟨_, rfl⟩
         replace H : (impl_DecodeInts.l0 k2 l0 D6 a2 De (wrap64 (D0 + 1))) = some (r1, r2, r3) := Cmp.hy hy607 H
         have Dc := Cmp.A hy607; clear hy607
         have H' := Cmp.A H
         clear H
         go_wp2_with (first | ((with_reducible refine gate_callee (f := 72) rfl ?_); refine goesL_ (some 39) rfl rfl Try.func72 (by kernel_rfl) rfl #[.slice A0 l0.length c0, .int .i64 D1] rfl Cmp.q ?_; (with_reducible refine (impl_ReadUvarint.calls k2 _ _ l0 D1 D5 D6 true _ ?side1 ?side2 Dg.out).mono ?_); (case side1 => exact Cmp.rc (Kd.C_below HR0.out HB.out)); (case side2 => exact HC0.out); rintro e w' ⟨rfl, ⟨nd, rfl⟩⟩; refine ⟨_, rfl, ?_⟩) | ((with_reducible refine gate_builtin (b := .append) (xs := #[.tmp 45, .tmp 47]) rfl ?_); (try (refine gate_guard (by rfl) ?_; dsimp only)); at_builtin; refine Kd.R_append (Kd.int .i64) (w0 := w) w.heap.size rfl (.tmp 45) (.tmp 47) 32 3 (.int .i64 0) 8 rfl Try.underlying32 info3 rfl (by decide) (by omega) u9 D3 D5 [.int .i64 D5] (fun _ => True) (fun _ => False) rfl rfl ?aP (fun _ hk => hk.elim) ?aF ?aO ?aB ?aS ?aL ?_; (case aP => exact rfl); (case aB => exact (Cmp.g HB.out)); (case aF => exact (fun _ _ => trivial)); (case aO => exact (Cmp.rr D8.out)); (case aS => exact (below_size (Cmp.g HB.out))); (case aL => have := LMc14.out; omega); intro v608 w15 ho hb hg hat; rw [← Dc.out] at ho; have Db := Cmp.A (ho); replace HB := Cmp.A (hb); clear D8; clear ho hb hg hat))
         go_roundg k2
         case measure => have := HJ3.out; have := HK2.out; omega
         case rel => exact ⟨(D6), (De), (wrap64 (D0 + 1)), (by first | rfl | simp | simp [*]), (by first | rfl | simp | simp [*]), H', ⟨by have := HJ3.out; have := HK2.out; omega⟩, ⟨Cmp.rr Db.out⟩, ⟨Cmp.g HB.out⟩⟩
        ·rw [if_neg c14] at H; exact absurd H (by simp)
       ·replace c13 := Bool.eq_false_iff.mpr c13
        subst c13
        have H1 : (some (([] : List Int), 0, false)) = some (r1, r2, r3) := by rw [if_neg (show ¬ (false = true) by decide)] at H; exact H
        clear H; have H := H1; clear H1
        simp only [Option.some.injEq, Prod.mk.injEq] at H
        obtain ⟨rfl, rfl, rfl⟩ := H
        go_wp2_with (first | ((with_reducible refine gate_callee (f := 72) rfl ?_); refine goesL_ (some 39) rfl rfl Try.func72 (by kernel_rfl) rfl #[.slice A0 l0.length c0, .int .i64 D1] rfl Cmp.q ?_; (with_reducible refine (impl_ReadUvarint.calls k2 _ _ l0 D1 D5 D6 false _ ?side1 ?side2 Dg.out).mono ?_); (case side1 => exact Cmp.rc (Kd.C_below HR0.out HB.out)); (case side2 => exact HC0.out); rintro e w' ⟨rfl, ⟨nd, rfl⟩⟩; refine ⟨_, rfl, ?_⟩))
        go_ret3
        exact ⟨_, by first | rfl | (simp [errW_none, errW_some] <;> rfl) | (simp [*, errW_none, errW_some] <;> rfl), by first | exact Kd.R_nil _ _ _ _ _ | exact Kd.N_nil _ _ _ _ _ | exact Kd.V_nil _ _ _ _ _ | exact Kd.Q_nil _ _ _ _ _ | exact Kd.S_nil _ _ _ _ _, Cmp.g HB.out⟩
      ·rw [if_neg c11] at H; have c11b0 : decide (D0 < a2) = false := decide_eq_false c11; clear c11
       simp only [Option.some.injEq, Prod.mk.injEq] at H
       obtain ⟨rfl, rfl, rfl⟩ := H
       go_wp2
       go_ret3
       exact ⟨_, by first | rfl | (simp [errW_none, errW_some] <;> rfl) | (simp [*, errW_none, errW_some] <;> rfl), by (with_reducible repeat (first | apply Kd.R_alloc | apply Kd.R_drewN | apply Kd.R_drew)); exact D8.out, Cmp.g HB.out⟩
end Go.Proofs.Ytpgjecknkmmnhaa.PFnSealedBundles

/- Printed functions of the program, out of print.sh, told more shortly. No condition. -/
import Derived.Test.YtpgjecknkmmnhaaCmp
import Derived.Test.YtpgjecknkmmnhaaPFnExactAppendEntryx0
namespace Go.Proofs.Ytpgjecknkmmnhaa.PFnExactAppendEntry
open Go.Proofs.Ytpgjecknkmmnhaa
open Go.RowKit Go.Proofs.YtpgjecknkmmnhaaW.PrintWords Go.Proofs.YtpgjecknkmmnhaaW.PrintLast Go.Proofs.YtpgjecknkmmnhaaW.PrintMore
attribute [local go_sem] max2_int min2_int max_two min_two max_three min_three max_four min_four   -- for this text's walks alone
set_option linter.unusedVariables false
set_option linter.unusedSimpArgs false

/-! ### laws_heldLogEntryS: function 19 -/
def laws_heldLogEntryS.l0 : Nat → List (S74) → Int → Int → Option (Int)
  | 0, _, _, _ => none
  | k + 1, x0, x1, x5 => if x5 < (x0.length : Int) then (if 0 ≤ x5 then (if ((rd_T74 x0 x5).f0) = x1 then (if ((rd_T74 x0 x5).f1) = (wrap64 (x1 + 1)) then (if ((rd_T74 x0 x5).f2) = (wrap64 ((wrap64 (x1 + 1)) + 1)) then (if ((rd_T74 x0 x5).f3) = (wrap64 ((wrap64 ((wrap64 (x1 + 1)) + 1)) + 1)) then (if ((rd_T74 x0 x5).f4) = (wrap64 ((wrap64 ((wrap64 ((wrap64 (x1 + 1)) + 1)) + 1)) + 1)) then (if ((rd_T74 x0 x5).f5) = (wrap64 ((wrap64 ((wrap64 ((wrap64 ((wrap64 (x1 + 1)) + 1)) + 1)) + 1)) + 1)) then (laws_heldLogEntryS.l0 k x0 (wrap64 ((wrap64 ((wrap64 ((wrap64 ((wrap64 ((wrap64 (x1 + 1)) + 1)) + 1)) + 1)) + 1)) + 1)) (wrap64 (x5 + 1))) else (some (-1))) else (some (-1))) else (some (-1))) else (some (-1))) else (some (-1))) else (some (-1))) else (none)) else (some x1)
def laws_heldLogEntryS.f (k : Nat) (l0 : List (S74)) (a1 : Int) : Option (Int) := laws_heldLogEntryS.l0 k l0 a1 0
theorem laws_heldLogEntryS.mono_l : ∀ k, (∀ y0 y1 y2, LeO (laws_heldLogEntryS.l0 k y0 y1 y2) (laws_heldLogEntryS.l0 (k + 1) y0 y1 y2))
  | 0 => fun _ _ _ r h => by simp [laws_heldLogEntryS.l0] at h
  | k + 1 => by
    have ih0 := laws_heldLogEntryS.mono_l k
    · intro y0 y1 y2
      unfold laws_heldLogEntryS.l0
      repeat' first
      | (with_reducible exact ih0 _ _ _)
      | (with_reducible exact LeO.refl _)
      | (with_reducible exact LeO.none _)
      | (with_reducible refine LeO.ite ?_ ?_)
      | (with_reducible refine LeO.bind ?_ (fun _ => ?_))
      | exact ih0 _ _ _
      | exact LeO.none _
      | refine LeO.ite ?_ ?_
      | refine LeO.bind ?_ (fun _ => ?_)
theorem laws_heldLogEntryS.mono : ∀ a0 a1 k, LeO (laws_heldLogEntryS.f k a0 a1) (laws_heldLogEntryS.f (k + 1) a0 a1) := by
  intro a0 a1 k
  have ih0 := laws_heldLogEntryS.mono_l k
  unfold laws_heldLogEntryS.f
  repeat' first
      | (with_reducible exact ih0 _ _ _)
      | (with_reducible exact LeO.refl _)
      | (with_reducible exact LeO.none _)
      | (with_reducible refine LeO.ite ?_ ?_)
      | (with_reducible refine LeO.bind ?_ (fun _ => ?_))
      | exact ih0 _ _ _
      | exact LeO.none _
      | refine LeO.ite ?_ ?_
      | refine LeO.bind ?_ (fun _ => ?_)
set_option maxHeartbeats 8000000 in
set_option maxRecDepth 100000 in
theorem laws_heldLogEntryS.calls (k : Nat) (A0 : Option Addr) (c0 : Nat) (l0 : List (S74)) (a1 : Int) (r : Int) (w : World) (hr0 : Kd.C k74 w A0 l0.length l0) (hc0 : l0.length ≤ c0) (h : laws_heldLogEntryS.f k l0 a1 = some r) :
    Calls Try.prog 19 #[.slice A0 l0.length c0, .int .i64 a1] w fun e w' => e = .returned (.int .i64 r) ∧ Drawn0 w w' := by
 have HR0 := Aside0.mk hr0; have HC0 := Aside0.mk hc0; clear hr0 hc0
 have H : (laws_heldLogEntryS.l0 k l0 a1 0) = some r := h
 clear h
 have H' := Aside0.mk H
 clear H
 go_enter Try.func19, Try.ntmps19
 go_wp2
 go_loopg [1, 5] k (fun kq v1 v5 w' => ∃ (x1_1 : Int) (x5_1 : Int), v1 = .int .i64 x1_1 ∧ v5 = .int .i64 x5_1 ∧ Aside0 (laws_heldLogEntryS.l0 kq l0 x1_1 x5_1 = some r) ∧ Aside0 (kq ≤ k) ∧ Drawn0 w w')
 case atStart => exact ⟨(a1), (0), (by first | rfl | simp | simp [*]), (by first | rfl | simp | simp [*]), H', ⟨Nat.le_refl _⟩, by repeat (first | exact Drawn0.refl _ | apply Drawn0.step)⟩
 case round =>
  clear H'
  (try clear c1); (try clear p2)
  obtain ⟨x1_1, x5_1, rfl, rfl, HA, HK1, ⟨m1, rfl⟩⟩ := hrel
  cases gk with
  | zero => exact absurd HA.out (by simp [laws_heldLogEntryS.l0])
  | succ k1 =>
   have H := HA.out; clear HA
   simp only [laws_heldLogEntryS.l0] at H
   by_cases c3 : x5_1 < (l0.length : Int)
   ·rw [if_pos c3] at H
    have c3b0 : decide (x5_1 < (l0.length : Int)) = true := decide_eq_true c3
    clear c3
    by_cases c4 : 0 ≤ x5_1
    ·rw [if_pos c4] at H; have c4b0 : decide (0 ≤ x5_1) = true := decide_eq_true c4; clear c4
     by_cases c5 : ((rd_T74 l0 x5_1).f0) = x1_1
     ·rw [if_pos c5] at H; have c5b0 : (((rd_T74 l0 x5_1).f0) == x1_1) = true := beq_iff_eq.mpr c5; have c5b1 : (((rd_T74 l0 x5_1).f0) != x1_1) = false := bne_eq_false_iff_eq.mpr c5; clear c5
      by_cases c6 : ((rd_T74 l0 x5_1).f1) = (wrap64 (x1_1 + 1))
      ·rw [if_pos c6] at H; have c6b0 : (((rd_T74 l0 x5_1).f1) == (wrap64 (x1_1 + 1))) = true := beq_iff_eq.mpr c6; have c6b1 : (((rd_T74 l0 x5_1).f1) != (wrap64 (x1_1 + 1))) = false := bne_eq_false_iff_eq.mpr c6; clear c6
       by_cases c7 : ((rd_T74 l0 x5_1).f2) = (wrap64 ((wrap64 (x1_1 + 1)) + 1))
       ·rw [if_pos c7] at H; have c7b0 : (((rd_T74 l0 x5_1).f2) == (wrap64 ((wrap64 (x1_1 + 1)) + 1))) = true := beq_iff_eq.mpr c7; have c7b1 : (((rd_T74 l0 x5_1).f2) != (wrap64 ((wrap64 (x1_1 + 1)) + 1))) = false := bne_eq_false_iff_eq.mpr c7; clear c7
        by_cases c8 : ((rd_T74 l0 x5_1).f3) = (wrap64 ((wrap64 ((wrap64 (x1_1 + 1)) + 1)) + 1))
        ·rw [if_pos c8] at H; have c8b0 : (((rd_T74 l0 x5_1).f3) == (wrap64 ((wrap64 ((wrap64 (x1_1 + 1)) + 1)) + 1))) = true := beq_iff_eq.mpr c8; have c8b1 : (((rd_T74 l0 x5_1).f3) != (wrap64 ((wrap64 ((wrap64 (x1_1 + 1)) + 1)) + 1))) = false := bne_eq_false_iff_eq.mpr c8; clear c8
         by_cases c9 : ((rd_T74 l0 x5_1).f4) = (wrap64 ((wrap64 ((wrap64 ((wrap64 (x1_1 + 1)) + 1)) + 1)) + 1))
         ·rw [if_pos c9] at H; have c9b0 : (((rd_T74 l0 x5_1).f4) == (wrap64 ((wrap64 ((wrap64 ((wrap64 (x1_1 + 1)) + 1)) + 1)) + 1))) = true := beq_iff_eq.mpr c9; have c9b1 : (((rd_T74 l0 x5_1).f4) != (wrap64 ((wrap64 ((wrap64 ((wrap64 (x1_1 + 1)) + 1)) + 1)) + 1))) = false := bne_eq_false_iff_eq.mpr c9; clear c9
          by_cases c10 : ((rd_T74 l0 x5_1).f5) = (wrap64 ((wrap64 ((wrap64 ((wrap64 ((wrap64 (x1_1 + 1)) + 1)) + 1)) + 1)) + 1))
          ·rw [if_pos c10] at H; have c10b0 : (((rd_T74 l0 x5_1).f5) == (wrap64 ((wrap64 ((wrap64 ((wrap64 ((wrap64 (x1_1 + 1)) + 1)) + 1)) + 1)) + 1))) = true := beq_iff_eq.mpr c10; have c10b1 : (((rd_T74 l0 x5_1).f5) != (wrap64 ((wrap64 ((wrap64 ((wrap64 ((wrap64 (x1_1 + 1)) + 1)) + 1)) + 1)) + 1))) = false := bne_eq_false_iff_eq.mpr c10; clear c10
           have H' := Aside0.mk H
           clear H
           have p402 : 0 ≤ (x5_1 : Int) := of_decide_eq_true Cmp.d
           have q402 : x5_1 < (l0.length : Int) := of_decide_eq_true Cmp.d
           obtain ⟨ad402, e402, hx402_0, hx402_1, hx402_2, hx402_3, hx402_4, hx402_5⟩ := at_T74 HR0.out x5_1 p402 q402
           cases e402; replace p402 := eq_true p402; replace q402 := eq_true q402
           have p403 : 0 ≤ (x5_1 : Int) := of_decide_eq_true Cmp.d
           have q403 : x5_1 < (l0.length : Int) := of_decide_eq_true Cmp.d
           obtain ⟨ad403, e403, hx403_0, hx403_1, hx403_2, hx403_3, hx403_4, hx403_5⟩ := at_T74 HR0.out x5_1 p403 q403
           obtain rfl : ad402 = ad403 := (by injection e403)
           replace p403 := eq_true p403; replace q403 := eq_true q403
           have p404 : 0 ≤ (x5_1 : Int) := of_decide_eq_true Cmp.d
           have q404 : x5_1 < (l0.length : Int) := of_decide_eq_true Cmp.d
           obtain ⟨ad404, e404, hx404_0, hx404_1, hx404_2, hx404_3, hx404_4, hx404_5⟩ := at_T74 HR0.out x5_1 p404 q404
           obtain rfl : ad402 = ad404 := (by injection e404)
           replace p404 := eq_true p404; replace q404 := eq_true q404
           have p405 : 0 ≤ (x5_1 : Int) := of_decide_eq_true Cmp.d
           have q405 : x5_1 < (l0.length : Int) := of_decide_eq_true Cmp.d
           obtain ⟨ad405, e405, hx405_0, hx405_1, hx405_2, hx405_3, hx405_4, hx405_5⟩ := at_T74 HR0.out x5_1 p405 q405
           obtain rfl : ad402 = ad405 := (by injection e405)
           replace p405 := eq_true p405; replace q405 := eq_true q405
           have p406 : 0 ≤ (x5_1 : Int) := of_decide_eq_true Cmp.d
           have q406 : x5_1 < (l0.length : Int) := of_decide_eq_true Cmp.d
           obtain ⟨ad406, e406, hx406_0, hx406_1, hx406_2, hx406_3, hx406_4, hx406_5⟩ := at_T74 HR0.out x5_1 p406 q406
           obtain rfl : ad402 = ad406 := (by injection e406)
           replace p406 := eq_true p406; replace q406 := eq_true q406
           have p407 : 0 ≤ (x5_1 : Int) := of_decide_eq_true Cmp.d
           have q407 : x5_1 < (l0.length : Int) := of_decide_eq_true Cmp.d
           obtain ⟨ad407, e407, hx407_0, hx407_1, hx407_2, hx407_3, hx407_4, hx407_5⟩ := at_T74 HR0.out x5_1 p407 q407
           obtain rfl : ad402 = ad407 := (by injection e407)
           replace p407 := eq_true p407; replace q407 := eq_true q407
           go_wp2
           go_roundg k1
           case measure => have := HK1.out; omega
           case rel => exact ⟨(wrap64 ((wrap64 ((wrap64 ((wrap64 ((wrap64 ((wrap64 (x1_1 + 1)) + 1)) + 1)) + 1)) + 1)) + 1)), (wrap64 (x5_1 + 1)), (by first | rfl | simp | simp [*]), (by first | rfl | simp | simp [*]), H', ⟨by have := HK1.out; omega⟩, by repeat (first | exact Drawn0.refl _ | apply Drawn0.step)⟩
          ·rw [if_neg c10] at H; have c10b0 : (((rd_T74 l0 x5_1).f5) == (wrap64 ((wrap64 ((wrap64 ((wrap64 ((wrap64 (x1_1 + 1)) + 1)) + 1)) + 1)) + 1))) = false := beq_eq_false_iff_ne.mpr c10; have c10b1 : (((rd_T74 l0 x5_1).f5) != (wrap64 ((wrap64 ((wrap64 ((wrap64 ((wrap64 (x1_1 + 1)) + 1)) + 1)) + 1)) + 1))) = true := bne_iff_ne.mpr c10
           obtain rfl := Option.some.inj H
           have p402 : 0 ≤ (x5_1 : Int) := of_decide_eq_true Cmp.d
           have q402 : x5_1 < (l0.length : Int) := of_decide_eq_true Cmp.d
           obtain ⟨ad402, e402, hx402_0, hx402_1, hx402_2, hx402_3, hx402_4, hx402_5⟩ := at_T74 HR0.out x5_1 p402 q402
           cases e402; replace p402 := eq_true p402; replace q402 := eq_true q402
           have p403 : 0 ≤ (x5_1 : Int) := of_decide_eq_true Cmp.d
           have q403 : x5_1 < (l0.length : Int) := of_decide_eq_true Cmp.d
           obtain ⟨ad403, e403, hx403_0, hx403_1, hx403_2, hx403_3, hx403_4, hx403_5⟩ := at_T74 HR0.out x5_1 p403 q403
           obtain rfl : ad402 = ad403 := (by injection e403)
           replace p403 := eq_true p403; replace q403 := eq_true q403
           have p404 : 0 ≤ (x5_1 : Int) := of_decide_eq_true Cmp.d
           have q404 : x5_1 < (l0.length : Int) := of_decide_eq_true Cmp.d
           obtain ⟨ad404, e404, hx404_0, hx404_1, hx404_2, hx404_3, hx404_4, hx404_5⟩ := at_T74 HR0.out x5_1 p404 q404
           obtain rfl : ad402 = ad404 := (by injection e404)
           replace p404 := eq_true p404; replace q404 := eq_true q404
           have p405 : 0 ≤ (x5_1 : Int) := of_decide_eq_true Cmp.d
           have q405 : x5_1 < (l0.length : Int) := of_decide_eq_true Cmp.d
           obtain ⟨ad405, e405, hx405_0, hx405_1, hx405_2, hx405_3, hx405_4, hx405_5⟩ := at_T74 HR0.out x5_1 p405 q405
           obtain rfl : ad402 = ad405 := (by injection e405)
           replace p405 := eq_true p405; replace q405 := eq_true q405
           have p406 : 0 ≤ (x5_1 : Int) := of_decide_eq_true Cmp.d
           have q406 : x5_1 < (l0.length : Int) := of_decide_eq_true Cmp.d
           obtain ⟨ad406, e406, hx406_0, hx406_1, hx406_2, hx406_3, hx406_4, hx406_5⟩ := at_T74 HR0.out x5_1 p406 q406
           obtain rfl : ad402 = ad406 := (by injection e406)
           replace p406 := eq_true p406; replace q406 := eq_true q406
           have p407 : 0 ≤ (x5_1 : Int) := of_decide_eq_true Cmp.d
           have q407 : x5_1 < (l0.length : Int) := of_decide_eq_true Cmp.d
           obtain ⟨ad407, e407, hx407_0, hx407_1, hx407_2, hx407_3, hx407_4, hx407_5⟩ := at_T74 HR0.out x5_1 p407 q407
           obtain rfl : ad402 = ad407 := (by injection e407)
           replace p407 := eq_true p407; replace q407 := eq_true q407
           go_wp2
           go_ret
           exact ⟨by first | rfl | (simp; done) | (simp [*]; done), by repeat (first | exact Drawn0.refl _ | apply Drawn0.step)⟩
         ·rw [if_neg c9] at H; have c9b0 : (((rd_T74 l0 x5_1).f4) == (wrap64 ((wrap64 ((wrap64 ((wrap64 (x1_1 + 1)) + 1)) + 1)) + 1))) = false := beq_eq_false_iff_ne.mpr c9; have c9b1 : (((rd_T74 l0 x5_1).f4) != (wrap64 ((wrap64 ((wrap64 ((wrap64 (x1_1 + 1)) + 1)) + 1)) + 1))) = true := bne_iff_ne.mpr c9
          obtain rfl := Option.some.inj H
          have p402 : 0 ≤ (x5_1 : Int) := of_decide_eq_true Cmp.d
          have q402 : x5_1 < (l0.length : Int) := of_decide_eq_true Cmp.d
          obtain ⟨ad402, e402, hx402_0, hx402_1, hx402_2, hx402_3, hx402_4, hx402_5⟩ := at_T74 HR0.out x5_1 p402 q402
          cases e402; replace p402 := eq_true p402; replace q402 := eq_true q402
          have p403 : 0 ≤ (x5_1 : Int) := of_decide_eq_true Cmp.d
          have q403 : x5_1 < (l0.length : Int) := of_decide_eq_true Cmp.d
          obtain ⟨ad403, e403, hx403_0, hx403_1, hx403_2, hx403_3, hx403_4, hx403_5⟩ := at_T74 HR0.out x5_1 p403 q403
          obtain rfl : ad402 = ad403 := (by injection e403)
          replace p403 := eq_true p403; replace q403 := eq_true q403
          have p404 : 0 ≤ (x5_1 : Int) := of_decide_eq_true Cmp.d
          have q404 : x5_1 < (l0.length : Int) := of_decide_eq_true Cmp.d
          obtain ⟨ad404, e404, hx404_0, hx404_1, hx404_2, hx404_3, hx404_4, hx404_5⟩ := at_T74 HR0.out x5_1 p404 q404
          obtain rfl : ad402 = ad404 := (by injection e404)
          replace p404 := eq_true p404; replace q404 := eq_true q404
          have p405 : 0 ≤ (x5_1 : Int) := of_decide_eq_true Cmp.d
          have q405 : x5_1 < (l0.length : Int) := of_decide_eq_true Cmp.d
          obtain ⟨ad405, e405, hx405_0, hx405_1, hx405_2, hx405_3, hx405_4, hx405_5⟩ := at_T74 HR0.out x5_1 p405 q405
          obtain rfl : ad402 = ad405 := (by injection e405)
          replace p405 := eq_true p405; replace q405 := eq_true q405
          have p406 : 0 ≤ (x5_1 : Int) := of_decide_eq_true Cmp.d
          have q406 : x5_1 < (l0.length : Int) := of_decide_eq_true Cmp.d
          obtain ⟨ad406, e406, hx406_0, hx406_1, hx406_2, hx406_3, hx406_4, hx406_5⟩ := at_T74 HR0.out x5_1 p406 q406
          obtain rfl : ad402 = ad406 := (by injection e406)
          replace p406 := eq_true p406; replace q406 := eq_true q406
          go_wp2
          go_ret
          exact ⟨by first | rfl | (simp; done) | (simp [*]; done), by repeat (first | exact Drawn0.refl _ | apply Drawn0.step)⟩
        ·rw [if_neg c8] at H; have c8b0 : (((rd_T74 l0 x5_1).f3) == (wrap64 ((wrap64 ((wrap64 (x1_1 + 1)) + 1)) + 1))) = false := beq_eq_false_iff_ne.mpr c8; have c8b1 : (((rd_T74 l0 x5_1).f3) != (wrap64 ((wrap64 ((wrap64 (x1_1 + 1)) + 1)) + 1))) = true := bne_iff_ne.mpr c8
         obtain rfl := Option.some.inj H
         have p402 : 0 ≤ (x5_1 : Int) := of_decide_eq_true Cmp.d
         have q402 : x5_1 < (l0.length : Int) := of_decide_eq_true Cmp.d
         obtain ⟨ad402, e402, hx402_0, hx402_1, hx402_2, hx402_3, hx402_4, hx402_5⟩ := at_T74 HR0.out x5_1 p402 q402
         cases e402; replace p402 := eq_true p402; replace q402 := eq_true q402
         have p403 : 0 ≤ (x5_1 : Int) := of_decide_eq_true Cmp.d
         have q403 : x5_1 < (l0.length : Int) := of_decide_eq_true Cmp.d
         obtain ⟨ad403, e403, hx403_0, hx403_1, hx403_2, hx403_3, hx403_4, hx403_5⟩ := at_T74 HR0.out x5_1 p403 q403
         obtain rfl : ad402 = ad403 := (by injection e403)
         replace p403 := eq_true p403; replace q403 := eq_true q403
         have p404 : 0 ≤ (x5_1 : Int) := of_decide_eq_true Cmp.d
         have q404 : x5_1 < (l0.length : Int) := of_decide_eq_true Cmp.d
         obtain ⟨ad404, e404, hx404_0, hx404_1, hx404_2, hx404_3, hx404_4, hx404_5⟩ := at_T74 HR0.out x5_1 p404 q404
         obtain rfl : ad402 = ad404 := (by injection e404)
         replace p404 := eq_true p404; replace q404 := eq_true q404
         have p405 : 0 ≤ (x5_1 : Int) := of_decide_eq_true Cmp.d
         have q405 : x5_1 < (l0.length : Int) := of_decide_eq_true Cmp.d
         obtain ⟨ad405, e405, hx405_0, hx405_1, hx405_2, hx405_3, hx405_4, hx405_5⟩ := at_T74 HR0.out x5_1 p405 q405
         obtain rfl : ad402 = ad405 := (by injection e405)
         replace p405 := eq_true p405; replace q405 := eq_true q405
         go_wp2
         go_ret
         exact ⟨by first | rfl | (simp; done) | (simp [*]; done), by repeat (first | exact Drawn0.refl _ | apply Drawn0.step)⟩
       ·rw [if_neg c7] at H; have c7b0 : (((rd_T74 l0 x5_1).f2) == (wrap64 ((wrap64 (x1_1 + 1)) + 1))) = false := beq_eq_false_iff_ne.mpr c7; have c7b1 : (((rd_T74 l0 x5_1).f2) != (wrap64 ((wrap64 (x1_1 + 1)) + 1))) = true := bne_iff_ne.mpr c7
        obtain rfl := Option.some.inj H
        have p402 : 0 ≤ (x5_1 : Int) := of_decide_eq_true Cmp.d
        have q402 : x5_1 < (l0.length : Int) := of_decide_eq_true Cmp.d
        obtain ⟨ad402, e402, hx402_0, hx402_1, hx402_2, hx402_3, hx402_4, hx402_5⟩ := at_T74 HR0.out x5_1 p402 q402
        cases e402; replace p402 := eq_true p402; replace q402 := eq_true q402
        have p403 : 0 ≤ (x5_1 : Int) := of_decide_eq_true Cmp.d
        have q403 : x5_1 < (l0.length : Int) := of_decide_eq_true Cmp.d
        obtain ⟨ad403, e403, hx403_0, hx403_1, hx403_2, hx403_3, hx403_4, hx403_5⟩ := at_T74 HR0.out x5_1 p403 q403
        obtain rfl : ad402 = ad403 := (by injection e403)
        replace p403 := eq_true p403; replace q403 := eq_true q403
        have p404 : 0 ≤ (x5_1 : Int) := of_decide_eq_true Cmp.d
        have q404 : x5_1 < (l0.length : Int) := of_decide_eq_true Cmp.d
        obtain ⟨ad404, e404, hx404_0, hx404_1, hx404_2, hx404_3, hx404_4, hx404_5⟩ := at_T74 HR0.out x5_1 p404 q404
        obtain rfl : ad402 = ad404 := (by injection e404)
        replace p404 := eq_true p404; replace q404 := eq_true q404
        go_wp2
        go_ret
        exact ⟨by first | rfl | (simp; done) | (simp [*]; done), by repeat (first | exact Drawn0.refl _ | apply Drawn0.step)⟩
      ·rw [if_neg c6] at H; have c6b0 : (((rd_T74 l0 x5_1).f1) == (wrap64 (x1_1 + 1))) = false := beq_eq_false_iff_ne.mpr c6; have c6b1 : (((rd_T74 l0 x5_1).f1) != (wrap64 (x1_1 + 1))) = true := bne_iff_ne.mpr c6
       obtain rfl := Option.some.inj H
       have p402 : 0 ≤ (x5_1 : Int) := of_decide_eq_true Cmp.d
       have q402 : x5_1 < (l0.length : Int) := of_decide_eq_true Cmp.d
       obtain ⟨ad402, e402, hx402_0, hx402_1, hx402_2, hx402_3, hx402_4, hx402_5⟩ := at_T74 HR0.out x5_1 p402 q402
       cases e402; replace p402 := eq_true p402; replace q402 := eq_true q402
       have p403 : 0 ≤ (x5_1 : Int) := of_decide_eq_true Cmp.d
       have q403 : x5_1 < (l0.length : Int) := of_decide_eq_true Cmp.d
       obtain ⟨ad403, e403, hx403_0, hx403_1, hx403_2, hx403_3, hx403_4, hx403_5⟩ := at_T74 HR0.out x5_1 p403 q403
       obtain rfl : ad402 = ad403 := (by injection e403)
       replace p403 := eq_true p403; replace q403 := eq_true q403
       go_wp2
       go_ret
       exact ⟨by first | rfl | (simp; done) | (simp [*]; done), by repeat (first | exact Drawn0.refl _ | apply Drawn0.step)⟩
     ·rw [if_neg c5] at H; have c5b0 : (((rd_T74 l0 x5_1).f0) == x1_1) = false := beq_eq_false_iff_ne.mpr c5; have c5b1 : (((rd_T74 l0 x5_1).f0) != x1_1) = true := bne_iff_ne.mpr c5
      obtain rfl := Option.some.inj H
      have p402 : 0 ≤ (x5_1 : Int) := of_decide_eq_true Cmp.d
      have q402 : x5_1 < (l0.length : Int) := of_decide_eq_true Cmp.d
      obtain ⟨ad402, e402, hx402_0, hx402_1, hx402_2, hx402_3, hx402_4, hx402_5⟩ := at_T74 HR0.out x5_1 p402 q402
      cases e402; replace p402 := eq_true p402; replace q402 := eq_true q402
      go_wp2
      go_ret
      exact ⟨by first | rfl | (simp; done) | (simp [*]; done), by repeat (first | exact Drawn0.refl _ | apply Drawn0.step)⟩
    ·rw [if_neg c4] at H; exact absurd H (by simp)
   ·rw [if_neg c3] at H
    have c3b0 : decide (x5_1 < (l0.length : Int)) = false := decide_eq_false c3
    clear c3
    obtain rfl := Option.some.inj H
    go_wp2
    go_ret
    exact ⟨by first | rfl | (simp; done) | (simp [*]; done), by repeat (first | exact Drawn0.refl _ | apply Drawn0.step)⟩

end Go.Proofs.Ytpgjecknkmmnhaa.PFnExactAppendEntry

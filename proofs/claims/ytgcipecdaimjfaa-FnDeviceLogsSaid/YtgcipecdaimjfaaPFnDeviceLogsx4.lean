/- Printed functions of the program, out of print.sh, told more shortly. No condition. -/
import Derived.Test.YtgcipecdaimjfaaCmp
import Derived.Test.YtgcipecdaimjfaaPFnDeviceLogsx0
import Derived.Test.YtgcipecdaimjfaaPFnDeviceLogsx2
import Derived.Test.YtgcipecdaimjfaaPFnDeviceLogsx3
namespace Go.Proofs.Ytgcipecdaimjfaa.PFnDeviceLogs
open Go.Proofs.Ytgcipecdaimjfaa
open Go.RowKit Go.Proofs.YtgcipecdaimjfaaW.PrintWords Go.Proofs.YtgcipecdaimjfaaW.PrintLast Go.Proofs.YtgcipecdaimjfaaW.PrintMore
attribute [local go_sem] max2_int min2_int max_two min_two max_three min_three max_four min_four   -- for this text's walks alone
set_option linter.unusedVariables false
set_option linter.unusedSimpArgs false

/-! ### impl_VerifyLog: function 20 -/
mutual
def impl_VerifyLog.j0 : Nat → List (S86) → Bool → Option (Bool)
  | 0, _, _ => none
  | k + 1, x0, x14 => if x14 = true then (some false) else (impl_VerifyLog.l0 k x0 x0 (x0.length : Int) 0)
def impl_VerifyLog.l0 : Nat → List (S86) → List (S86) → Int → Int → Option (Bool)
  | 0, _, _, _, _ => none
  | k + 1, x0, x15, x16, x17 => if x17 < x16 then (if 0 ≤ x17 then (if x17 < (x15.length : Int) then (if x17 ≤ (x0.length : Int) then ((some (x0.take (x17 : Int).toNat : List (S86))).bind fun y170 => ((impl_DevicesOf.f k y170).bind fun t174 => (if ((rd_T86 x15 x17).f0) = x17 then ((impl_LogHead.f k y170).bind fun t177 => (if ((rd_T86 x15 x17).f4) = t177 then ((impl_has.f k t174 ((rd_T86 x15 x17).f3)).bind fun t178 => (if t178 = true then (impl_VerifyLog.j2 k x0 y170 t174 x15 x16 x17 false ((rd_T86 x15 x17).f0) ((rd_T86 x15 x17).f1) ((rd_T86 x15 x17).f2) ((rd_T86 x15 x17).f3) ((rd_T86 x15 x17).f4) ((rd_T86 x15 x17).f5)) else (if x17 = 0 then (impl_VerifyLog.j2 k x0 y170 t174 x15 x16 x17 (!(((rd_T86 x15 x17).f3) == ((rd_T86 x15 x17).f2))) ((rd_T86 x15 x17).f0) ((rd_T86 x15 x17).f1) ((rd_T86 x15 x17).f2) ((rd_T86 x15 x17).f3) ((rd_T86 x15 x17).f4) ((rd_T86 x15 x17).f5)) else (impl_VerifyLog.j2 k x0 y170 t174 x15 x16 x17 (!false) ((rd_T86 x15 x17).f0) ((rd_T86 x15 x17).f1) ((rd_T86 x15 x17).f2) ((rd_T86 x15 x17).f3) ((rd_T86 x15 x17).f4) ((rd_T86 x15 x17).f5))))) else (impl_VerifyLog.j2 k x0 y170 t174 x15 x16 x17 true ((rd_T86 x15 x17).f0) ((rd_T86 x15 x17).f1) ((rd_T86 x15 x17).f2) ((rd_T86 x15 x17).f3) ((rd_T86 x15 x17).f4) ((rd_T86 x15 x17).f5)))) else (impl_VerifyLog.j2 k x0 y170 t174 x15 x16 x17 true ((rd_T86 x15 x17).f0) ((rd_T86 x15 x17).f1) ((rd_T86 x15 x17).f2) ((rd_T86 x15 x17).f3) ((rd_T86 x15 x17).f4) ((rd_T86 x15 x17).f5))))) else (none)) else (none)) else (none)) else (some true)
def impl_VerifyLog.j2 : Nat → List (S86) → List (S86) → List Int → List (S86) → Int → Int → Bool → Int → Int → Int → Int → Int → Int → Option (Bool)
  | 0, _, _, _, _, _, _, _, _, _, _, _, _, _ => none
  | k + 1, x0, x5, x6, x15, x16, x17, x56, x170000, x170001, x170002, x170003, x170004, x170005 => if x56 = true then (some false) else (if x170001 = 1 then ((impl_has.f k x6 x170002).bind fun t179 => (if t179 = true then (some false) else ((impl_wasRemoved.f k x5 x170002).bind fun t180 => (if t180 = true then (some false) else (if (x6.length : Int) ≥ 6 then (some false) else (impl_VerifyLog.j3 k x0 x15 x16 x17 x170000 x170001 x170002 x170003 x170004 x170005)))))) else (if x170001 = 2 then ((impl_has.f k x6 x170002).bind fun t181 => (if t181 = true then (if (x6.length : Int) = 1 then (some false) else (impl_VerifyLog.j3 k x0 x15 x16 x17 x170000 x170001 x170002 x170003 x170004 x170005)) else (some false))) else (some false)))
def impl_VerifyLog.j3 : Nat → List (S86) → List (S86) → Int → Int → Int → Int → Int → Int → Int → Int → Option (Bool)
  | 0, _, _, _, _, _, _, _, _, _, _ => none
  | k + 1, x0, x15, x16, x17, x170000, x170001, x170002, x170003, x170004, x170005 => (impl_EntryHash.f k x170000 x170001 x170002 x170003 x170004 x170005).bind fun t182 => ((impl_VerifySignature.f k x170003 (([t182] : List Int)) x170005).bind fun t186 => (if t186 = true then (impl_VerifyLog.l0 k x0 x15 x16 (wrap64 (x17 + 1))) else (some false)))
end
def impl_VerifyLog.f (k : Nat) (l0 : List (S86)) : Option (Bool) := if (l0.length : Int) < 1 then (impl_VerifyLog.j0 k l0 true) else (impl_VerifyLog.j0 k l0 (decide ((l0.length : Int) > 40)))
theorem impl_VerifyLog.mono_l : ∀ k, (∀ y0 y1, LeO (impl_VerifyLog.j0 k y0 y1) (impl_VerifyLog.j0 (k + 1) y0 y1)) ∧ (∀ y0 y1 y2 y3, LeO (impl_VerifyLog.l0 k y0 y1 y2 y3) (impl_VerifyLog.l0 (k + 1) y0 y1 y2 y3)) ∧ (∀ y0 y1 y2 y3 y4 y5 y6 y7 y8 y9 y10 y11 y12, LeO (impl_VerifyLog.j2 k y0 y1 y2 y3 y4 y5 y6 y7 y8 y9 y10 y11 y12) (impl_VerifyLog.j2 (k + 1) y0 y1 y2 y3 y4 y5 y6 y7 y8 y9 y10 y11 y12)) ∧ (∀ y0 y1 y2 y3 y4 y5 y6 y7 y8 y9, LeO (impl_VerifyLog.j3 k y0 y1 y2 y3 y4 y5 y6 y7 y8 y9) (impl_VerifyLog.j3 (k + 1) y0 y1 y2 y3 y4 y5 y6 y7 y8 y9))
  | 0 => ⟨fun _ _ r h => by simp [impl_VerifyLog.j0] at h, fun _ _ _ _ r h => by simp [impl_VerifyLog.l0] at h, fun _ _ _ _ _ _ _ _ _ _ _ _ _ r h => by simp [impl_VerifyLog.j2] at h, fun _ _ _ _ _ _ _ _ _ _ r h => by simp [impl_VerifyLog.j3] at h⟩
  | k + 1 => by
    obtain ⟨ih0, ih1, ih2, ih3⟩ := impl_VerifyLog.mono_l k
    refine ⟨?_, ?_, ?_, ?_⟩
    · intro y0 y1
      unfold impl_VerifyLog.j0
      repeat' first
      | (with_reducible exact ih0 _ _)
      | (with_reducible exact ih1 _ _ _ _)
      | (with_reducible exact ih2 _ _ _ _ _ _ _ _ _ _ _ _ _)
      | (with_reducible exact ih3 _ _ _ _ _ _ _ _ _ _)
      | (with_reducible exact impl_DevicesOf.mono _ _)
      | (with_reducible exact impl_EntryHash.mono _ _ _ _ _ _ _)
      | (with_reducible exact impl_LogHead.mono _ _)
      | (with_reducible exact impl_VerifySignature.mono _ _ _ _)
      | (with_reducible exact impl_has.mono _ _ _)
      | (with_reducible exact impl_wasRemoved.mono _ _ _)
      | (with_reducible exact LeO.refl _)
      | (with_reducible exact LeO.none _)
      | (with_reducible refine LeO.ite ?_ ?_)
      | (with_reducible refine LeO.bind ?_ (fun _ => ?_))
      | exact ih0 _ _
      | exact ih1 _ _ _ _
      | exact ih2 _ _ _ _ _ _ _ _ _ _ _ _ _
      | exact ih3 _ _ _ _ _ _ _ _ _ _
      | exact impl_DevicesOf.mono _ _
      | exact impl_EntryHash.mono _ _ _ _ _ _ _
      | exact impl_LogHead.mono _ _
      | exact impl_VerifySignature.mono _ _ _ _
      | exact impl_has.mono _ _ _
      | exact impl_wasRemoved.mono _ _ _
      | exact LeO.none _
      | refine LeO.ite ?_ ?_
      | refine LeO.bind ?_ (fun _ => ?_)
    · intro y0 y1 y2 y3
      unfold impl_VerifyLog.l0
      repeat' first
      | (with_reducible exact ih0 _ _)
      | (with_reducible exact ih1 _ _ _ _)
      | (with_reducible exact ih2 _ _ _ _ _ _ _ _ _ _ _ _ _)
      | (with_reducible exact ih3 _ _ _ _ _ _ _ _ _ _)
      | (with_reducible exact impl_DevicesOf.mono _ _)
      | (with_reducible exact impl_EntryHash.mono _ _ _ _ _ _ _)
      | (with_reducible exact impl_LogHead.mono _ _)
      | (with_reducible exact impl_VerifySignature.mono _ _ _ _)
      | (with_reducible exact impl_has.mono _ _ _)
      | (with_reducible exact impl_wasRemoved.mono _ _ _)
      | (with_reducible exact LeO.refl _)
      | (with_reducible exact LeO.none _)
      | (with_reducible refine LeO.ite ?_ ?_)
      | (with_reducible refine LeO.bind ?_ (fun _ => ?_))
      | exact ih0 _ _
      | exact ih1 _ _ _ _
      | exact ih2 _ _ _ _ _ _ _ _ _ _ _ _ _
      | exact ih3 _ _ _ _ _ _ _ _ _ _
      | exact impl_DevicesOf.mono _ _
      | exact impl_EntryHash.mono _ _ _ _ _ _ _
      | exact impl_LogHead.mono _ _
      | exact impl_VerifySignature.mono _ _ _ _
      | exact impl_has.mono _ _ _
      | exact impl_wasRemoved.mono _ _ _
      | exact LeO.none _
      | refine LeO.ite ?_ ?_
      | refine LeO.bind ?_ (fun _ => ?_)
    · intro y0 y1 y2 y3 y4 y5 y6 y7 y8 y9 y10 y11 y12
      unfold impl_VerifyLog.j2
      repeat' first
      | (with_reducible exact ih0 _ _)
      | (with_reducible exact ih1 _ _ _ _)
      | (with_reducible exact ih2 _ _ _ _ _ _ _ _ _ _ _ _ _)
      | (with_reducible exact ih3 _ _ _ _ _ _ _ _ _ _)
      | (with_reducible exact impl_DevicesOf.mono _ _)
      | (with_reducible exact impl_EntryHash.mono _ _ _ _ _ _ _)
      | (with_reducible exact impl_LogHead.mono _ _)
      | (with_reducible exact impl_VerifySignature.mono _ _ _ _)
      | (with_reducible exact impl_has.mono _ _ _)
      | (with_reducible exact impl_wasRemoved.mono _ _ _)
      | (with_reducible exact LeO.refl _)
      | (with_reducible exact LeO.none _)
      | (with_reducible refine LeO.ite ?_ ?_)
      | (with_reducible refine LeO.bind ?_ (fun _ => ?_))
      | exact ih0 _ _
      | exact ih1 _ _ _ _
      | exact ih2 _ _ _ _ _ _ _ _ _ _ _ _ _
      | exact ih3 _ _ _ _ _ _ _ _ _ _
      | exact impl_DevicesOf.mono _ _
      | exact impl_EntryHash.mono _ _ _ _ _ _ _
      | exact impl_LogHead.mono _ _
      | exact impl_VerifySignature.mono _ _ _ _
      | exact impl_has.mono _ _ _
      | exact impl_wasRemoved.mono _ _ _
      | exact LeO.none _
      | refine LeO.ite ?_ ?_
      | refine LeO.bind ?_ (fun _ => ?_)
    · intro y0 y1 y2 y3 y4 y5 y6 y7 y8 y9
      unfold impl_VerifyLog.j3
      repeat' first
      | (with_reducible exact ih0 _ _)
      | (with_reducible exact ih1 _ _ _ _)
      | (with_reducible exact ih2 _ _ _ _ _ _ _ _ _ _ _ _ _)
      | (with_reducible exact ih3 _ _ _ _ _ _ _ _ _ _)
      | (with_reducible exact impl_DevicesOf.mono _ _)
      | (with_reducible exact impl_EntryHash.mono _ _ _ _ _ _ _)
      | (with_reducible exact impl_LogHead.mono _ _)
      | (with_reducible exact impl_VerifySignature.mono _ _ _ _)
      | (with_reducible exact impl_has.mono _ _ _)
      | (with_reducible exact impl_wasRemoved.mono _ _ _)
      | (with_reducible exact LeO.refl _)
      | (with_reducible exact LeO.none _)
      | (with_reducible refine LeO.ite ?_ ?_)
      | (with_reducible refine LeO.bind ?_ (fun _ => ?_))
      | exact ih0 _ _
      | exact ih1 _ _ _ _
      | exact ih2 _ _ _ _ _ _ _ _ _ _ _ _ _
      | exact ih3 _ _ _ _ _ _ _ _ _ _
      | exact impl_DevicesOf.mono _ _
      | exact impl_EntryHash.mono _ _ _ _ _ _ _
      | exact impl_LogHead.mono _ _
      | exact impl_VerifySignature.mono _ _ _ _
      | exact impl_has.mono _ _ _
      | exact impl_wasRemoved.mono _ _ _
      | exact LeO.none _
      | refine LeO.ite ?_ ?_
      | refine LeO.bind ?_ (fun _ => ?_)
theorem impl_VerifyLog.mono : ∀ a0 k, LeO (impl_VerifyLog.f k a0) (impl_VerifyLog.f (k + 1) a0) := by
  intro a0 k
  obtain ⟨ih0, ih1, ih2, ih3⟩ := impl_VerifyLog.mono_l k
  unfold impl_VerifyLog.f
  repeat' first
      | (with_reducible exact ih0 _ _)
      | (with_reducible exact ih1 _ _ _ _)
      | (with_reducible exact ih2 _ _ _ _ _ _ _ _ _ _ _ _ _)
      | (with_reducible exact ih3 _ _ _ _ _ _ _ _ _ _)
      | (with_reducible exact impl_DevicesOf.mono _ _)
      | (with_reducible exact impl_EntryHash.mono _ _ _ _ _ _ _)
      | (with_reducible exact impl_LogHead.mono _ _)
      | (with_reducible exact impl_VerifySignature.mono _ _ _ _)
      | (with_reducible exact impl_has.mono _ _ _)
      | (with_reducible exact impl_wasRemoved.mono _ _ _)
      | (with_reducible exact LeO.refl _)
      | (with_reducible exact LeO.none _)
      | (with_reducible refine LeO.ite ?_ ?_)
      | (with_reducible refine LeO.bind ?_ (fun _ => ?_))
      | exact ih0 _ _
      | exact ih1 _ _ _ _
      | exact ih2 _ _ _ _ _ _ _ _ _ _ _ _ _
      | exact ih3 _ _ _ _ _ _ _ _ _ _
      | exact impl_DevicesOf.mono _ _
      | exact impl_EntryHash.mono _ _ _ _ _ _ _
      | exact impl_LogHead.mono _ _
      | exact impl_VerifySignature.mono _ _ _ _
      | exact impl_has.mono _ _ _
      | exact impl_wasRemoved.mono _ _ _
      | exact LeO.none _
      | refine LeO.ite ?_ ?_
      | refine LeO.bind ?_ (fun _ => ?_)
def impl_VerifyLog.T8 : Bool × List (List Nat × List Nat) := (true, [([], []), ([0], [0]), ([], []), ([1, 2], [1, 2]), ([3], [3]), ([4], [4]), ([5, 4], [4, 5]), ([4], [4]), ([7, 4, 4], [4, 7]), ([6, 8, 4], [4, 6, 8]), ([4, 9], [4, 9]), ([10, 8], [10]), ([11], [11]), ([11], [11]), ([13, 11], [11, 13]), ([12, 14, 11, 11], [11, 12, 14]), ([15, 11], [11, 15]), ([16, 15, 11], [11, 16]), ([17], [17]), ([18, 17], [17, 18]), ([19, 17, 17], [17, 19]), ([20], [20]), ([21, 20], [20, 21]), ([20], [20]), ([23, 20], [20, 23]), ([22, 24, 20], [20, 22, 24]), ([20, 25, 17], [17, 20, 25]), ([26, 17], [17, 26]), ([17, 27, 11], [11, 17, 27]), ([11, 28], [11, 28])])
def impl_VerifyLog.B8 : List Nat := [0, 1, 0, 7, 15, 31, 63, 31, 159, 511, 1023, 2047, 4095, 4095, 12287, 32767, 65535, 131071, 262143, 524287, 1048575, 2097151, 4194303, 2097151, 10485759, 33554431, 67108863, 134217727, 268435455, 536870911]
theorem impl_VerifyLog.tab8 : rtab .any (opsOf Try.f20 8) = impl_VerifyLog.T8 := by kernel_rfl
theorem impl_VerifyLog.bits8 : waitsOk impl_VerifyLog.T8.2 impl_VerifyLog.B8 = true := by kernel_rfl
def impl_VerifyLog.T18 : Bool × List (List Nat × List Nat) := (true, [([], []), ([0], [0]), ([], []), ([2], [2]), ([3], [3]), ([], []), ([5], [5]), ([1, 4, 6, 3], [1, 4, 6]), ([7], [7])])
def impl_VerifyLog.B18 : List Nat := [0, 1, 0, 4, 12, 0, 32, 127, 255]
theorem impl_VerifyLog.tab18 : rtab .any (opsOf Try.f20 18) = impl_VerifyLog.T18 := by kernel_rfl
theorem impl_VerifyLog.bits18 : waitsOk impl_VerifyLog.T18.2 impl_VerifyLog.B18 = true := by kernel_rfl
set_option maxHeartbeats 8000000 in
set_option maxRecDepth 100000 in
theorem impl_VerifyLog.calls (k : Nat) (A0 : Option Addr) (c0 : Nat) (l0 : List (S86)) (r : Bool) (w : World) (hr0 : Kd.C k86 w A0 l0.length l0) (hc0 : l0.length ≤ c0) (h : impl_VerifyLog.f k l0 = some r) :
    Calls Try.prog 20 #[.slice A0 l0.length c0] w fun e w' => e = .returned (.bool r) ∧ Below w.heap.size w w' := by
 have hu86 := Try.underlying86; have HR0 := Aside0.mk hr0; have HC0 := Aside0.mk hc0; clear hr0 hc0
 have HB := Aside0.mk (Below.refl w.heap.size w)
 have H : (if (l0.length : Int) < 1 then (impl_VerifyLog.j0 k l0 true) else (impl_VerifyLog.j0 k l0 (decide ((l0.length : Int) > 40)))) = some r := h
 clear h; have HC2 := Aside0.mk H; clear H
 go_enter Try.func20, Try.ntmps20
 go_upto_region 1 with (fail)
 go_cut [14] (fun v14 wc => ∃ (kq : Nat) (x14_1 : Bool), v14 = .bool x14_1 ∧ Aside0 (impl_VerifyLog.j0 kq l0 x14_1 = some r) ∧ Aside0 (kq ≤ k) ∧ Aside0 (Below w.heap.size w wc))
 case first =>
  have H := HC2.out; clear HC2
  by_cases c3 : (l0.length : Int) < 1
  ·rw [if_pos c3] at H
   have c3b0 : decide ((l0.length : Int) < 1) = true := decide_eq_true c3
   have c3b1 : decide (l0.length < 1) = true := decide_eq_true (by omega)
   clear c3
   (first | rw [c3b0] | (simp only [i64_w, i32_w]; rw [c3b0]) | skip)
   have H' := Aside0.mk H
   clear H
   go_wp2
   go_meet
   case rel => exact ⟨_, (true), (by first | rfl | simp | simp [*]), H', ⟨by first | omega | exact Nat.le_refl _⟩, ⟨Cmp.g HB.out⟩⟩
  ·rw [if_neg c3] at H
   have c3b0 : decide ((l0.length : Int) < 1) = false := decide_eq_false c3
   have c3b1 : decide (l0.length < 1) = false := decide_eq_false (by omega)
   clear c3
   (first | rw [c3b0] | (simp only [i64_w, i32_w]; rw [c3b0]) | skip)
   have H' := Aside0.mk H
   clear H
   go_wp2
   go_meet
   case rel => exact ⟨_, (decide ((l0.length : Int) > 40)), (by first | rfl | simp | simp [*]), H', ⟨by first | omega | exact Nat.le_refl _⟩, ⟨Cmp.g HB.out⟩⟩
 case rest =>
  clear HC2; (try clear c2); (try clear p2); (try clear c3); (try clear c3b0); (try clear c3b1)
  obtain ⟨kq, x14_1, rfl, HA, HJ1, HB⟩ := hcut
  cases kq with
  | zero => exact absurd HA.out (by simp [impl_VerifyLog.j0])
  | succ kj1 =>
   have H := HA.out; clear HA
   simp only [impl_VerifyLog.j0] at H
   by_cases c4 : x14_1 = true
   ·subst c4; rw [if_pos rfl] at H
    obtain rfl := Option.some.inj H
    go_wp2
    go_ret
    exact ⟨by first | rfl | (simp [errW_none, errW_some] <;> rfl) | (simp [*, errW_none, errW_some] <;> rfl), Cmp.g HB.out⟩
   ·replace c4 := Bool.eq_false_iff.mpr c4
    subst c4
    have H1 : (impl_VerifyLog.l0 kj1 l0 l0 (l0.length : Int) 0) = some r := by rw [if_neg (show ¬ (false = true) by decide)] at H; exact H
    clear H; have H := H1; clear H1
    have H' := Aside0.mk H
    clear H
    go_wp2
    go_loopg [17] kj1 (fun kq v17 w' => ∃ (x17_2 : Int), v17 = .int .i64 x17_2 ∧ Aside0 (impl_VerifyLog.l0 kq l0 l0 (l0.length : Int) x17_2 = some r) ∧ Aside0 (kq ≤ kj1) ∧ Aside0 (Below w.heap.size w w'))
    case atStart => exact ⟨(0), (by first | rfl | simp | simp [*]), H', ⟨Nat.le_refl _⟩, ⟨Cmp.g HB.out⟩⟩
    case round =>
     clear H'
     (try clear c2); (try clear p2); (try clear c3); (try clear c3b0); (try clear c3b1); (try clear c4); (try clear p2)
     obtain ⟨x17_2, rfl, HA, HK2, HB⟩ := hrel
     cases gk with
     | zero => exact absurd HA.out (by simp [impl_VerifyLog.l0])
     | succ k2 =>
      have H := HA.out; clear HA
      simp only [impl_VerifyLog.l0] at H
      by_cases c5 : x17_2 < (l0.length : Int)
      ·rw [if_pos c5] at H
       have c5b0 : decide (x17_2 < (l0.length : Int)) = true := decide_eq_true c5
       clear c5
       by_cases c6 : 0 ≤ x17_2
       ·rw [if_pos c6] at H; have c6b0 : decide (0 ≤ x17_2) = true := decide_eq_true c6; clear c6
        by_cases c7 : x17_2 < (l0.length : Int)
        ·rw [if_pos c7] at H
         have c7b0 : decide (x17_2 < (l0.length : Int)) = true := decide_eq_true c7
         clear c7
         have c8b0 := eq_true (of_decide_eq_true Cmp.d : 0 ≤ x17_2)
         by_cases c9 : x17_2 ≤ (l0.length : Int)
         ·rw [if_pos c9] at H
          have c9b0 := eq_true c9
          have c9b1 : decide (x17_2 ≤ (l0.length : Int)) = true := decide_eq_true c9
          clear c9
          obtain ⟨y170, hy170⟩ : ∃ y_ : List (S86), y_ = (l0.take (x17_2 : Int).toNat) := ⟨_, rfl⟩
          replace H : ((impl_DevicesOf.f k2 y170).bind fun t174 => (if ((rd_T86 l0 x17_2).f0) = x17_2 then ((impl_LogHead.f k2 y170).bind fun t177 => (if ((rd_T86 l0 x17_2).f4) = t177 then ((impl_has.f k2 t174 ((rd_T86 l0 x17_2).f3)).bind fun t178 => (if t178 = true then (impl_VerifyLog.j2 k2 l0 y170 t174 l0 (l0.length : Int) x17_2 false ((rd_T86 l0 x17_2).f0) ((rd_T86 l0 x17_2).f1) ((rd_T86 l0 x17_2).f2) ((rd_T86 l0 x17_2).f3) ((rd_T86 l0 x17_2).f4) ((rd_T86 l0 x17_2).f5)) else (if x17_2 = 0 then (impl_VerifyLog.j2 k2 l0 y170 t174 l0 (l0.length : Int) x17_2 (!(((rd_T86 l0 x17_2).f3) == ((rd_T86 l0 x17_2).f2))) ((rd_T86 l0 x17_2).f0) ((rd_T86 l0 x17_2).f1) ((rd_T86 l0 x17_2).f2) ((rd_T86 l0 x17_2).f3) ((rd_T86 l0 x17_2).f4) ((rd_T86 l0 x17_2).f5)) else (impl_VerifyLog.j2 k2 l0 y170 t174 l0 (l0.length : Int) x17_2 (!false) ((rd_T86 l0 x17_2).f0) ((rd_T86 l0 x17_2).f1) ((rd_T86 l0 x17_2).f2) ((rd_T86 l0 x17_2).f3) ((rd_T86 l0 x17_2).f4) ((rd_T86 l0 x17_2).f5))))) else (impl_VerifyLog.j2 k2 l0 y170 t174 l0 (l0.length : Int) x17_2 true ((rd_T86 l0 x17_2).f0) ((rd_T86 l0 x17_2).f1) ((rd_T86 l0 x17_2).f2) ((rd_T86 l0 x17_2).f3) ((rd_T86 l0 x17_2).f4) ((rd_T86 l0 x17_2).f5)))) else (impl_VerifyLog.j2 k2 l0 y170 t174 l0 (l0.length : Int) x17_2 true ((rd_T86 l0 x17_2).f0) ((rd_T86 l0 x17_2).f1) ((rd_T86 l0 x17_2).f2) ((rd_T86 l0 x17_2).f3) ((rd_T86 l0 x17_2).f4) ((rd_T86 l0 x17_2).f5)))) = some r := by first | (rw [hy170]; with_reducible exact H) | (have H2_ := (Option.bind_some _ _).symm.trans H; rw [hy170]; with_reducible exact H2_) | (have H2_ := (Option.bind_some _ _).symm.trans H; with_reducible exact H2_) | with_reducible exact H | (rw [hy170]; exact H) | exact H
          have Ny170 := Aside0.mk hy170; clear hy170; replace H := Option.bind_eq_some_iff.mp H; obtain ⟨t174, A100, H⟩ := H; (try dsimp only at H); have A10 := Aside0.mk A100; clear A100; have HC11 := Aside0.mk H; clear H
          have p168 : 0 ≤ (x17_2 : Int) := of_decide_eq_true Cmp.d
          have q168 : x17_2 < (l0.length : Int) := of_decide_eq_true Cmp.d
          obtain ⟨ad168, e168, hx168_0, hx168_1, hx168_2, hx168_3, hx168_4, hx168_5⟩ := at_T86 HR0.out x17_2 p168 q168
          cases e168
          replace hx168_0 := (HB.out.cell (World.block_lt_of_cell? w _ hx168_0)).trans hx168_0
          replace hx168_1 := (HB.out.cell (World.block_lt_of_cell? w _ hx168_1)).trans hx168_1
          replace hx168_2 := (HB.out.cell (World.block_lt_of_cell? w _ hx168_2)).trans hx168_2
          replace hx168_3 := (HB.out.cell (World.block_lt_of_cell? w _ hx168_3)).trans hx168_3
          replace hx168_4 := (HB.out.cell (World.block_lt_of_cell? w _ hx168_4)).trans hx168_4
          replace hx168_5 := (HB.out.cell (World.block_lt_of_cell? w _ hx168_5)).trans hx168_5
          replace p168 := eq_true p168; replace q168 := eq_true q168
          go_upto_region 8 with (first | ((with_reducible refine gate_dst (N := 4) rfl ?_); (try (refine gate_guard (by rfl) ?_; dsimp only)); refine box_event ?hg (N := 4) ?hd (cs := #[.int .i64 0, .int .i64 0, .int .i64 0, .int .i64 0, .int .i64 0, .int .i64 0]) (t := 86) ?hr ?_; (case hd => rfl); (case hg => rfl); (case hr => first | (go_simp; done) | (go_simp; rfl)); intro gb169 hg w12 hbox hb; have n0_ := Aside0.mk (below_step (Cmp.g HB.out) hb); have n1_ := Aside0.mk (hbox); have n2_ := Aside0.mk ((by rw [hg]; exact (below_size (Cmp.g HB.out)) : w.heap.size ≤ gb169)); have n3_ := Aside0.mk ((by rw [hg]; exact (below_size (Cmp.g HB.out)) : w.heap.size ≤ gb169)); clear HB; have HB := n0_; have BK169 := n1_; have GW169 := n2_; have GE169 := n3_; clear n0_ n1_ n2_ n3_; clear hb hbox hg; have hcz13_0 : w12.cell? ⟨gb169, 0, none⟩ = some (.int .i64 0) := (blk_cell BK169.out 0).trans rfl; have hcz13_1 : w12.cell? ⟨gb169, 1, none⟩ = some (.int .i64 0) := (blk_cell BK169.out 1).trans rfl; have hcz13_2 : w12.cell? ⟨gb169, 2, none⟩ = some (.int .i64 0) := (blk_cell BK169.out 2).trans rfl; have hcz13_3 : w12.cell? ⟨gb169, 3, none⟩ = some (.int .i64 0) := (blk_cell BK169.out 3).trans rfl; have hcz13_4 : w12.cell? ⟨gb169, 4, none⟩ = some (.int .i64 0) := (blk_cell BK169.out 4).trans rfl; have hcz13_5 : w12.cell? ⟨gb169, 5, none⟩ = some (.int .i64 0) := (blk_cell BK169.out 5).trans rfl; have hfz13_0 := blk_frozen BK169.out 0; have hfz13_1 := blk_frozen BK169.out 1; have hfz13_2 := blk_frozen BK169.out 2; have hfz13_3 := blk_frozen BK169.out 3; have hfz13_4 := blk_frozen BK169.out 4; have hfz13_5 := blk_frozen BK169.out 5) | ((with_reducible refine gate_store (t := 86) (p := 4) rfl ?_); refine store_event (t := 86) (p := 4) (v := ?vo_w14) (w1 := ((((((w12.setCell ⟨gb169, 0, none⟩ (.int .i64 ((rd_T86 l0 x17_2).f0))).setCell ⟨gb169, 1, none⟩ (.int .i64 ((rd_T86 l0 x17_2).f1))).setCell ⟨gb169, 2, none⟩ (.int .i64 ((rd_T86 l0 x17_2).f2))).setCell ⟨gb169, 3, none⟩ (.int .i64 ((rd_T86 l0 x17_2).f3))).setCell ⟨gb169, 4, none⟩ (.int .i64 ((rd_T86 l0 x17_2).f4))).setCell ⟨gb169, 5, none⟩ (.int .i64 ((rd_T86 l0 x17_2).f5)))) ?hg ?ho ?hn ?hr ?_; (case ho => rfl); (case hg => rfl); (case hn => rfl); (case hr => first | (go_simp; done) | (go_simp; rfl)); intro w14 hw; have n0_ : Aside0 (w14.heap[gb169]? = some (.cells #[.int .i64 ((rd_T86 l0 x17_2).f0), .int .i64 ((rd_T86 l0 x17_2).f1), .int .i64 ((rd_T86 l0 x17_2).f2), .int .i64 ((rd_T86 l0 x17_2).f3), .int .i64 ((rd_T86 l0 x17_2).f4), .int .i64 ((rd_T86 l0 x17_2).f5)] 86 (0, 0))) := ⟨(by rw [hw]; exact (by (with_reducible repeat (first | refine blk_drewN ?_ _ | refine blk_drew ?_ | refine blk_alloc ?_ _)); refine blk_put (cs := #[.int .i64 ((rd_T86 l0 x17_2).f0), .int .i64 ((rd_T86 l0 x17_2).f1), .int .i64 ((rd_T86 l0 x17_2).f2), .int .i64 ((rd_T86 l0 x17_2).f3), .int .i64 ((rd_T86 l0 x17_2).f4), .int .i64 0]) ?_ 5 _ rfl; (with_reducible repeat (first | refine blk_drewN ?_ _ | refine blk_drew ?_ | refine blk_alloc ?_ _)); refine blk_put (cs := #[.int .i64 ((rd_T86 l0 x17_2).f0), .int .i64 ((rd_T86 l0 x17_2).f1), .int .i64 ((rd_T86 l0 x17_2).f2), .int .i64 ((rd_T86 l0 x17_2).f3), .int .i64 0, .int .i64 0]) ?_ 4 _ rfl; (with_reducible repeat (first | refine blk_drewN ?_ _ | refine blk_drew ?_ | refine blk_alloc ?_ _)); refine blk_put (cs := #[.int .i64 ((rd_T86 l0 x17_2).f0), .int .i64 ((rd_T86 l0 x17_2).f1), .int .i64 ((rd_T86 l0 x17_2).f2), .int .i64 0, .int .i64 0, .int .i64 0]) ?_ 3 _ rfl; (with_reducible repeat (first | refine blk_drewN ?_ _ | refine blk_drew ?_ | refine blk_alloc ?_ _)); refine blk_put (cs := #[.int .i64 ((rd_T86 l0 x17_2).f0), .int .i64 ((rd_T86 l0 x17_2).f1), .int .i64 0, .int .i64 0, .int .i64 0, .int .i64 0]) ?_ 2 _ rfl; (with_reducible repeat (first | refine blk_drewN ?_ _ | refine blk_drew ?_ | refine blk_alloc ?_ _)); refine blk_put (cs := #[.int .i64 ((rd_T86 l0 x17_2).f0), .int .i64 0, .int .i64 0, .int .i64 0, .int .i64 0, .int .i64 0]) ?_ 1 _ rfl; (with_reducible repeat (first | refine blk_drewN ?_ _ | refine blk_drew ?_ | refine blk_alloc ?_ _)); refine blk_put (cs := #[.int .i64 0, .int .i64 0, .int .i64 0, .int .i64 0, .int .i64 0, .int .i64 0]) ?_ 0 _ rfl; (with_reducible repeat (first | refine blk_drewN ?_ _ | refine blk_drew ?_ | refine blk_alloc ?_ _)); exact BK169.out))⟩; have n1_ : Aside0 (Below w.heap.size w w14) := ⟨(by rw [hw]; exact (Cmp.g HB.out))⟩; clear hw; clear BK169; clear HB; have BK169 := n0_; have HB := n1_; clear n0_ n1_; have q15 : (x17_2 : Int) ≤ ((l0.length : Int) : Int) := of_decide_eq_true Cmp.d; obtain ⟨i015, hi015, _, hsz15, _⟩ := info_parts info86; have hroom15 : l0.length ≤ c0 := HC0.out; have hC15 : Kd.C k86 _ (some ad168) l0.length l0 := HR0.out; have hcut15 := cut_to (P := Try.prog) 40 86 .i64 Try.underlying40 hi015 (some ad168) l0.length c0 x17_2 (of_decide_eq_true Cmp.d) q15 hroom15; have hr15 := Kd.C_take (m := (x17_2 : Int).toNat) hC15 (by omega); have hy15 : y170.length = (x17_2 : Int).toNat := (by rw [Ny170.out, List.length_take]; omega); rw [← Ny170.out] at hr15; rw [← hy15] at hcut15; have HR173 := Aside0.mk hr15; have HC173 := Aside0.mk (show y170.length ≤ c0 from by omega); clear hr15 hC15 hroom15 hi015 hsz15; have KY15 := Aside0.mk hy15; clear hy15; replace q15 := eq_true q15) | ((with_reducible refine gate_callee (f := 38) rfl ?_); refine goesL_ (some 26) rfl rfl Try.func38 (by kernel_rfl) rfl #[.slice (some ad168) y170.length c0] rfl Cmp.q ?_; (with_reducible refine (impl_DevicesOf.calls k2 _ _ y170 t174 _ ?side1 ?side2 A10.out).mono ?_); (case side1 => exact Cmp.rc (Kd.C_below HR173.out HB.out)); (case side2 => exact HC173.out); rintro e w16 ⟨v175, rfl, ho0, hb⟩; refine ⟨_, rfl, ?_⟩; have n0_ := Aside0.mk (Kd.R_lower ho0 (below_size (Cmp.g HB.out))); have n1_ := Aside0.mk (blk_below (Cmp.b BK169.out) hb); have n2_ := Aside0.mk (below_step (Cmp.g HB.out) hb); clear BK169; clear HB; have HO176 := n0_; have BK169 := n1_; have HB := n2_; clear n0_ n1_ n2_; (try clear hb); (try clear hb2); (try clear hk); (try clear hi); (try clear ho0)))
          (try simp only [Act.put, List.setIfInBounds_toArray, List.set_cons_zero, List.set_cons_succ])
          go_cut [56] (fun v56 wc => ∃ (kq : Nat) (x56_10 : Bool), v56 = .bool x56_10 ∧ Aside0 (impl_VerifyLog.j2 kq l0 y170 t174 l0 (l0.length : Int) x17_2 x56_10 ((rd_T86 l0 x17_2).f0) ((rd_T86 l0 x17_2).f1) ((rd_T86 l0 x17_2).f2) ((rd_T86 l0 x17_2).f3) ((rd_T86 l0 x17_2).f4) ((rd_T86 l0 x17_2).f5) = some r) ∧ Aside0 (kq ≤ k2) ∧ Aside0 (Kd.R (Kd.int .i64) 3 wc w.heap.size (fun _ => True) v175 t174) ∧ Aside0 (wc.heap[gb169]? = some (.cells #[.int .i64 ((rd_T86 l0 x17_2).f0), .int .i64 ((rd_T86 l0 x17_2).f1), .int .i64 ((rd_T86 l0 x17_2).f2), .int .i64 ((rd_T86 l0 x17_2).f3), .int .i64 ((rd_T86 l0 x17_2).f4), .int .i64 ((rd_T86 l0 x17_2).f5)] 86 (0, 0))) ∧ Aside0 (Below w.heap.size w wc))
          case first =>
           have H := HC11.out; clear HC11
           by_cases c17 : ((rd_T86 l0 x17_2).f0) = x17_2
           ·rw [if_pos c17] at H; have c17b0 : (((rd_T86 l0 x17_2).f0) == x17_2) = true := beq_iff_eq.mpr c17; have c17b1 : (((rd_T86 l0 x17_2).f0) != x17_2) = false := bne_eq_false_iff_eq.mpr c17; clear c17
            (first | rw [c17b0] | (simp only [i64_w, i32_w]; rw [c17b0]) | skip)
            replace H := Option.bind_eq_some_iff.mp H; obtain ⟨t177, A180, H⟩ := H; (try dsimp only at H); have A18 := Aside0.mk A180; clear A180
            by_cases c19 : ((rd_T86 l0 x17_2).f4) = t177
            ·rw [if_pos c19] at H; have c19b0 : (((rd_T86 l0 x17_2).f4) == t177) = true := beq_iff_eq.mpr c19; have c19b1 : (((rd_T86 l0 x17_2).f4) != t177) = false := bne_eq_false_iff_eq.mpr c19; clear c19; replace H := Option.bind_eq_some_iff.mp H; obtain ⟨t178, A200, H⟩ := H; (try dsimp only at H); have A20 := Aside0.mk A200; clear A200
             by_cases c21 : t178 = true
             ·subst c21; rw [if_pos rfl] at H
              have H' := Aside0.mk H
              clear H
              try go_wp2
              have n0_ := Aside0.mk (Kd.R_drew HO176.out); have n1_ := Aside0.mk (blk_drew BK169.out); have n2_ := Aside0.mk (below_drew1 HB.out); clear HO176; clear BK169; clear HB; have HO176 := n0_; have BK169 := n1_; have HB := n2_; clear n0_ n1_ n2_
              refine start_ (n := 30) (S := fun w' => w'.cell? ⟨gb169, 0, none⟩ = some (.int .i64 ((rd_T86 l0 x17_2).f0)) ∧ w'.cell? ⟨gb169, 1, none⟩ = some (.int .i64 ((rd_T86 l0 x17_2).f1)) ∧ w'.cell? ⟨gb169, 2, none⟩ = some (.int .i64 ((rd_T86 l0 x17_2).f2)) ∧ w'.cell? ⟨gb169, 3, none⟩ = some (.int .i64 ((rd_T86 l0 x17_2).f3)) ∧ w'.cell? ⟨gb169, 4, none⟩ = some (.int .i64 ((rd_T86 l0 x17_2).f4)) ∧ w'.cell? ⟨gb169, 5, none⟩ = some (.int .i64 ((rd_T86 l0 x17_2).f5))) (ds := []) (Cmp.bm 0 30) (by kernel_rfl) rfl rfl ⟨(blk_cell BK169.out 0).trans rfl, (blk_cell BK169.out 1).trans rfl, (blk_cell BK169.out 2).trans rfl, (blk_cell BK169.out 3).trans rfl, (blk_cell BK169.out 4).trans rfl, (blk_cell BK169.out 5).trans rfl⟩ (fun hHeld => ?_); refine with_tabW impl_VerifyLog.tab8 impl_VerifyLog.bits8 (fun HT_ HW_ => ?_)
              generalize w16.drew = w22 at HO176 BK169 HB hHeld ⊢
              refine Cmp.pu HT_ 0 27 (Cmp.bm 1 29) ?_; refine Cmp.pu HT_ 2 29 (Cmp.bb 30 5) ?_; refine Cmp.tk HT_ HW_ hHeld 1 28 (Cmp.bm 3 27) ?_; refine Cmp.pu HT_ 3 30 (Cmp.bm 4 26) ?_; refine Cmp.pu HT_ 4 31 (Cmp.bm 5 25) ?_; refine Cmp.pu HT_ 5 32 (Cmp.bm 6 24) ?_; refine Cmp.pu HT_ 7 34 (Cmp.bb 30 191) ?_; refine Cmp.tk HT_ HW_ hHeld 6 33 (Cmp.bm 8 22) ?_
              refine one_ (i := 8) (N := some 35) (Cmp.bm 9 21) rfl rfl (one_of HT_.out (by kernel_rfl)) (by decide) (fun K hK => ?_)
              refine goes_ Try.func37 (by kernel_rfl) rfl #[.slice (some ad168) y170.length c0] (by rfl) rfl rfl Cmp.q ?_
              with_reducible refine (impl_LogHead.calls k2 _ _ y170 t177 _ ?side1 ?side2 A18.out).mono ?_
              (case side1 => exact Cmp.rc (Kd.C_below HR173.out HB.out))
              (case side2 => exact HC173.out)
              rintro e w23 ⟨rfl, hb⟩; refine ⟨_, rfl, ?_⟩
              have n0_ := Aside0.mk (Kd.R_below (Cmp.rr HO176.out) hb)
              have n1_ := Aside0.mk (blk_below (Cmp.b BK169.out) hb)
              have n2_ := Aside0.mk (below_step (Cmp.g HB.out) hb)
              clear HO176; clear BK169; clear HB; have HO176 := n0_; have BK169 := n1_; have HB := n2_; clear n0_ n1_ n2_; (try clear hb); (try clear hb2); (try clear hk); (try clear hi)
              obtain ⟨Ao24, co24, eo24⟩ := Kd.R_slice HO176.out
              (first | subst eo24 | (injection eo24 with f1_ f2_ f3_; have f4_ := f1_.symm; have f5_ := f3_.symm; clear f1_ f2_ f3_; subst f4_; subst f5_))
              refine hK.out _ _ ⟨(blk_cell BK169.out 0).trans rfl, (blk_cell BK169.out 1).trans rfl, (blk_cell BK169.out 2).trans rfl, (blk_cell BK169.out 3).trans rfl, (blk_cell BK169.out 4).trans rfl, (blk_cell BK169.out 5).trans rfl⟩ (fun hHeld => ?_)
              clear hK K
              refine norm_ (a' := ?_) ?_ ?_
              rotate_left
              ·show Act.put _ (some 35) _ = _
               simp only [Act.put, Cmp.s, Cmp.z, Cmp.c, i64_w, i32_w]; rfl
              refine Cmp.pu HT_ 9 36 (Cmp.bm 10 20) ?_; refine Cmp.pu HT_ 10 37 (Cmp.bm 11 19) ?_; refine Cmp.pu HT_ 11 38 (Cmp.bm 12 18) ?_; refine Cmp.pu HT_ 12 39 (Cmp.bm 13 17) ?_; refine Cmp.pu HT_ 13 40 (Cmp.bm 14 16) ?_; refine Cmp.tk HT_ HW_ hHeld 14 41 (Cmp.bm 15 15) ?_
              refine one_ (i := 15) (N := some 42) (Cmp.bm 16 14) rfl rfl (one_of HT_.out (by kernel_rfl)) (by decide) (fun K hK => ?_)
              refine goes_ Try.func64 (by kernel_rfl) rfl #[.slice Ao24 t174.length co24, .int .i64 ((rd_T86 l0 x17_2).f3)] (by rfl) rfl rfl Cmp.q ?_
              with_reducible refine (impl_has.calls k2 _ _ t174 ((rd_T86 l0 x17_2).f3) true _ ?side1 ?side2 A20.out).mono ?_
              (case side1 => exact Cmp.rc (Kd.R_reads' HO176.out).2.2)
              (case side2 => exact (Kd.R_reads' HO176.out).2.1)
              rintro e w' ⟨rfl, ⟨nd, rfl⟩⟩; refine ⟨_, rfl, ?_⟩
              refine hK.out _ _ ⟨(blk_cell BK169.out 0).trans rfl, (blk_cell BK169.out 1).trans rfl, (blk_cell BK169.out 2).trans rfl, (blk_cell BK169.out 3).trans rfl, (blk_cell BK169.out 4).trans rfl, (blk_cell BK169.out 5).trans rfl⟩ (fun hHeld => ?_)
              clear hK K
              refine norm_ (a' := ?_) ?_ ?_
              rotate_left
              ·show Act.put _ (some 42) _ = _
               simp only [Act.put, Cmp.s, Cmp.z, Cmp.c, i64_w, i32_w]; rfl
              refine Cmp.pu HT_ 16 43 (Cmp.bm 17 13) ?_; refine Cmp.pu HT_ 17 44 (Cmp.bm 18 12) ?_; refine Cmp.pv HT_ 18 45 (Cmp.bm 19 11) ?_; refine Cmp.pv HT_ 19 46 (Cmp.bm 20 10) ?_; refine Cmp.pv HT_ 20 47 (Cmp.bm 21 9) ?_; refine Cmp.pv HT_ 21 48 (Cmp.bm 22 8) ?_; refine Cmp.pv HT_ 22 49 (Cmp.bm 23 7) ?_; refine Cmp.pv HT_ 23 50 (Cmp.bm 24 6) ?_; refine Cmp.pv HT_ 24 51 (Cmp.bm 25 5) ?_; refine Cmp.pv HT_ 25 52 (Cmp.bm 26 4) ?_; refine Cmp.pv HT_ 26 53 (Cmp.bm 27 3) ?_; refine Cmp.pv HT_ 27 54 (Cmp.bm 28 2) ?_; refine Cmp.pu HT_ 28 55 (Cmp.bm 29 1) ?_; refine Cmp.pu HT_ 29 56 (Cmp.bm 30 0) ?_
              refine done_ (done_of HT_.out (by kernel_rfl)) ?_
              try go_wp2
              go_meet
              case rel => exact ⟨_, (false), (by first | rfl | simp | simp [*]), H', ⟨by have := HJ1.out; have := HK2.out; first | omega | exact Nat.le_refl _⟩, ⟨by (with_reducible repeat (first | apply Kd.R_alloc | apply Kd.R_drewN | apply Kd.R_drew)); exact HO176.out⟩, ⟨by (with_reducible repeat (first | refine blk_drewN ?_ _ | refine blk_drew ?_ | refine blk_alloc ?_ _)); exact BK169.out⟩, ⟨Cmp.g HB.out⟩⟩
             ·replace c21 := Bool.eq_false_iff.mpr c21
              subst c21
              have H1 : (if x17_2 = 0 then (impl_VerifyLog.j2 k2 l0 y170 t174 l0 (l0.length : Int) x17_2 (!(((rd_T86 l0 x17_2).f3) == ((rd_T86 l0 x17_2).f2))) ((rd_T86 l0 x17_2).f0) ((rd_T86 l0 x17_2).f1) ((rd_T86 l0 x17_2).f2) ((rd_T86 l0 x17_2).f3) ((rd_T86 l0 x17_2).f4) ((rd_T86 l0 x17_2).f5)) else (impl_VerifyLog.j2 k2 l0 y170 t174 l0 (l0.length : Int) x17_2 (!false) ((rd_T86 l0 x17_2).f0) ((rd_T86 l0 x17_2).f1) ((rd_T86 l0 x17_2).f2) ((rd_T86 l0 x17_2).f3) ((rd_T86 l0 x17_2).f4) ((rd_T86 l0 x17_2).f5))) = some r := by rw [if_neg (show ¬ (false = true) by decide)] at H; exact H
              clear H; have H := H1; clear H1
              by_cases c25 : x17_2 = 0
              ·rw [if_pos c25] at H; have c25b0 : (x17_2 == 0) = true := beq_iff_eq.mpr c25; have c25b1 : (x17_2 != 0) = false := bne_eq_false_iff_eq.mpr c25; clear c25
               have H' := Aside0.mk H
               clear H
               try go_wp2
               have n0_ := Aside0.mk (Kd.R_drew HO176.out); have n1_ := Aside0.mk (blk_drew BK169.out); have n2_ := Aside0.mk (below_drew1 HB.out); clear HO176; clear BK169; clear HB; have HO176 := n0_; have BK169 := n1_; have HB := n2_; clear n0_ n1_ n2_
               refine start_ (n := 30) (S := fun w' => w'.cell? ⟨gb169, 0, none⟩ = some (.int .i64 ((rd_T86 l0 x17_2).f0)) ∧ w'.cell? ⟨gb169, 1, none⟩ = some (.int .i64 ((rd_T86 l0 x17_2).f1)) ∧ w'.cell? ⟨gb169, 2, none⟩ = some (.int .i64 ((rd_T86 l0 x17_2).f2)) ∧ w'.cell? ⟨gb169, 3, none⟩ = some (.int .i64 ((rd_T86 l0 x17_2).f3)) ∧ w'.cell? ⟨gb169, 4, none⟩ = some (.int .i64 ((rd_T86 l0 x17_2).f4)) ∧ w'.cell? ⟨gb169, 5, none⟩ = some (.int .i64 ((rd_T86 l0 x17_2).f5))) (ds := []) (Cmp.bm 0 30) (by kernel_rfl) rfl rfl ⟨(blk_cell BK169.out 0).trans rfl, (blk_cell BK169.out 1).trans rfl, (blk_cell BK169.out 2).trans rfl, (blk_cell BK169.out 3).trans rfl, (blk_cell BK169.out 4).trans rfl, (blk_cell BK169.out 5).trans rfl⟩ (fun hHeld => ?_); refine with_tabW impl_VerifyLog.tab8 impl_VerifyLog.bits8 (fun HT_ HW_ => ?_)
               generalize w16.drew = w26 at HO176 BK169 HB hHeld ⊢
               refine Cmp.pu HT_ 0 27 (Cmp.bm 1 29) ?_; refine Cmp.pu HT_ 2 29 (Cmp.bb 30 5) ?_; refine Cmp.tk HT_ HW_ hHeld 1 28 (Cmp.bm 3 27) ?_; refine Cmp.pu HT_ 3 30 (Cmp.bm 4 26) ?_; refine Cmp.pu HT_ 4 31 (Cmp.bm 5 25) ?_; refine Cmp.pu HT_ 5 32 (Cmp.bm 6 24) ?_; refine Cmp.pu HT_ 7 34 (Cmp.bb 30 191) ?_; refine Cmp.tk HT_ HW_ hHeld 6 33 (Cmp.bm 8 22) ?_
               refine one_ (i := 8) (N := some 35) (Cmp.bm 9 21) rfl rfl (one_of HT_.out (by kernel_rfl)) (by decide) (fun K hK => ?_)
               refine goes_ Try.func37 (by kernel_rfl) rfl #[.slice (some ad168) y170.length c0] (by rfl) rfl rfl Cmp.q ?_
               with_reducible refine (impl_LogHead.calls k2 _ _ y170 t177 _ ?side1 ?side2 A18.out).mono ?_
               (case side1 => exact Cmp.rc (Kd.C_below HR173.out HB.out))
               (case side2 => exact HC173.out)
               rintro e w27 ⟨rfl, hb⟩; refine ⟨_, rfl, ?_⟩
               have n0_ := Aside0.mk (Kd.R_below (Cmp.rr HO176.out) hb)
               have n1_ := Aside0.mk (blk_below (Cmp.b BK169.out) hb)
               have n2_ := Aside0.mk (below_step (Cmp.g HB.out) hb)
               clear HO176; clear BK169; clear HB; have HO176 := n0_; have BK169 := n1_; have HB := n2_; clear n0_ n1_ n2_; (try clear hb); (try clear hb2); (try clear hk); (try clear hi)
               obtain ⟨Ao28, co28, eo28⟩ := Kd.R_slice HO176.out
               (first | subst eo28 | (injection eo28 with f1_ f2_ f3_; have f4_ := f1_.symm; have f5_ := f3_.symm; clear f1_ f2_ f3_; subst f4_; subst f5_))
               refine hK.out _ _ ⟨(blk_cell BK169.out 0).trans rfl, (blk_cell BK169.out 1).trans rfl, (blk_cell BK169.out 2).trans rfl, (blk_cell BK169.out 3).trans rfl, (blk_cell BK169.out 4).trans rfl, (blk_cell BK169.out 5).trans rfl⟩ (fun hHeld => ?_)
               clear hK K
               refine norm_ (a' := ?_) ?_ ?_
               rotate_left
               ·show Act.put _ (some 35) _ = _
                simp only [Act.put, Cmp.s, Cmp.z, Cmp.c, i64_w, i32_w]; rfl
               refine Cmp.pu HT_ 9 36 (Cmp.bm 10 20) ?_; refine Cmp.pu HT_ 10 37 (Cmp.bm 11 19) ?_; refine Cmp.pu HT_ 11 38 (Cmp.bm 12 18) ?_; refine Cmp.pu HT_ 12 39 (Cmp.bm 13 17) ?_; refine Cmp.pu HT_ 13 40 (Cmp.bm 14 16) ?_; refine Cmp.tk HT_ HW_ hHeld 14 41 (Cmp.bm 15 15) ?_
               refine one_ (i := 15) (N := some 42) (Cmp.bm 16 14) rfl rfl (one_of HT_.out (by kernel_rfl)) (by decide) (fun K hK => ?_)
               refine goes_ Try.func64 (by kernel_rfl) rfl #[.slice Ao28 t174.length co28, .int .i64 ((rd_T86 l0 x17_2).f3)] (by rfl) rfl rfl Cmp.q ?_
               with_reducible refine (impl_has.calls k2 _ _ t174 ((rd_T86 l0 x17_2).f3) false _ ?side1 ?side2 A20.out).mono ?_
               (case side1 => exact Cmp.rc (Kd.R_reads' HO176.out).2.2)
               (case side2 => exact (Kd.R_reads' HO176.out).2.1)
               rintro e w' ⟨rfl, ⟨nd, rfl⟩⟩; refine ⟨_, rfl, ?_⟩
               refine hK.out _ _ ⟨(blk_cell BK169.out 0).trans rfl, (blk_cell BK169.out 1).trans rfl, (blk_cell BK169.out 2).trans rfl, (blk_cell BK169.out 3).trans rfl, (blk_cell BK169.out 4).trans rfl, (blk_cell BK169.out 5).trans rfl⟩ (fun hHeld => ?_)
               clear hK K
               refine norm_ (a' := ?_) ?_ ?_
               rotate_left
               ·show Act.put _ (some 42) _ = _
                simp only [Act.put, Cmp.s, Cmp.z, Cmp.c, i64_w, i32_w]; rfl
               refine Cmp.pu HT_ 16 43 (Cmp.bm 17 13) ?_; refine Cmp.pu HT_ 17 44 (Cmp.bm 18 12) ?_; refine Cmp.pu HT_ 18 45 (Cmp.bm 19 11) ?_; refine Cmp.pu HT_ 19 46 (Cmp.bm 20 10) ?_; refine Cmp.pu HT_ 20 47 (Cmp.bm 21 9) ?_; refine Cmp.pu HT_ 21 48 (Cmp.bm 22 8) ?_; refine Cmp.pu HT_ 23 50 (Cmp.bb 30 12582911) ?_; refine Cmp.tk HT_ HW_ hHeld 22 49 (Cmp.bm 24 6) ?_; refine Cmp.tk HT_ HW_ hHeld 24 51 (Cmp.bm 25 5) ?_; refine Cmp.pu HT_ 25 52 (Cmp.bm 26 4) ?_; refine Cmp.pu HT_ 26 53 (Cmp.bm 27 3) ?_; refine Cmp.pu HT_ 27 54 (Cmp.bm 28 2) ?_; refine Cmp.pu HT_ 28 55 (Cmp.bm 29 1) ?_; refine Cmp.pu HT_ 29 56 (Cmp.bm 30 0) ?_
               refine done_ (done_of HT_.out (by kernel_rfl)) ?_
               try go_wp2
               go_meet
               case rel => exact ⟨_, (!(((rd_T86 l0 x17_2).f3) == ((rd_T86 l0 x17_2).f2))), (by first | rfl | simp | simp [*]), H', ⟨by have := HJ1.out; have := HK2.out; first | omega | exact Nat.le_refl _⟩, ⟨by (with_reducible repeat (first | apply Kd.R_alloc | apply Kd.R_drewN | apply Kd.R_drew)); exact HO176.out⟩, ⟨by (with_reducible repeat (first | refine blk_drewN ?_ _ | refine blk_drew ?_ | refine blk_alloc ?_ _)); exact BK169.out⟩, ⟨Cmp.g HB.out⟩⟩
              ·rw [if_neg c25] at H; have c25b0 : (x17_2 == 0) = false := beq_eq_false_iff_ne.mpr c25; have c25b1 : (x17_2 != 0) = true := bne_iff_ne.mpr c25
               have H' := Aside0.mk H
               clear H
               try go_wp2
               have n0_ := Aside0.mk (Kd.R_drew HO176.out); have n1_ := Aside0.mk (blk_drew BK169.out); have n2_ := Aside0.mk (below_drew1 HB.out); clear HO176; clear BK169; clear HB; have HO176 := n0_; have BK169 := n1_; have HB := n2_; clear n0_ n1_ n2_
               refine start_ (n := 30) (S := fun w' => w'.cell? ⟨gb169, 0, none⟩ = some (.int .i64 ((rd_T86 l0 x17_2).f0)) ∧ w'.cell? ⟨gb169, 1, none⟩ = some (.int .i64 ((rd_T86 l0 x17_2).f1)) ∧ w'.cell? ⟨gb169, 2, none⟩ = some (.int .i64 ((rd_T86 l0 x17_2).f2)) ∧ w'.cell? ⟨gb169, 3, none⟩ = some (.int .i64 ((rd_T86 l0 x17_2).f3)) ∧ w'.cell? ⟨gb169, 4, none⟩ = some (.int .i64 ((rd_T86 l0 x17_2).f4)) ∧ w'.cell? ⟨gb169, 5, none⟩ = some (.int .i64 ((rd_T86 l0 x17_2).f5))) (ds := []) (Cmp.bm 0 30) (by kernel_rfl) rfl rfl ⟨(blk_cell BK169.out 0).trans rfl, (blk_cell BK169.out 1).trans rfl, (blk_cell BK169.out 2).trans rfl, (blk_cell BK169.out 3).trans rfl, (blk_cell BK169.out 4).trans rfl, (blk_cell BK169.out 5).trans rfl⟩ (fun hHeld => ?_); refine with_tabW impl_VerifyLog.tab8 impl_VerifyLog.bits8 (fun HT_ HW_ => ?_)
               generalize w16.drew = w29 at HO176 BK169 HB hHeld ⊢
               refine Cmp.pu HT_ 0 27 (Cmp.bm 1 29) ?_; refine Cmp.pu HT_ 2 29 (Cmp.bb 30 5) ?_; refine Cmp.tk HT_ HW_ hHeld 1 28 (Cmp.bm 3 27) ?_; refine Cmp.pu HT_ 3 30 (Cmp.bm 4 26) ?_; refine Cmp.pu HT_ 4 31 (Cmp.bm 5 25) ?_; refine Cmp.pu HT_ 5 32 (Cmp.bm 6 24) ?_; refine Cmp.pu HT_ 7 34 (Cmp.bb 30 191) ?_; refine Cmp.tk HT_ HW_ hHeld 6 33 (Cmp.bm 8 22) ?_
               refine one_ (i := 8) (N := some 35) (Cmp.bm 9 21) rfl rfl (one_of HT_.out (by kernel_rfl)) (by decide) (fun K hK => ?_)
               refine goes_ Try.func37 (by kernel_rfl) rfl #[.slice (some ad168) y170.length c0] (by rfl) rfl rfl Cmp.q ?_
               with_reducible refine (impl_LogHead.calls k2 _ _ y170 t177 _ ?side1 ?side2 A18.out).mono ?_
               (case side1 => exact Cmp.rc (Kd.C_below HR173.out HB.out))
               (case side2 => exact HC173.out)
               rintro e w30 ⟨rfl, hb⟩; refine ⟨_, rfl, ?_⟩
               have n0_ := Aside0.mk (Kd.R_below (Cmp.rr HO176.out) hb)
               have n1_ := Aside0.mk (blk_below (Cmp.b BK169.out) hb)
               have n2_ := Aside0.mk (below_step (Cmp.g HB.out) hb)
               clear HO176; clear BK169; clear HB; have HO176 := n0_; have BK169 := n1_; have HB := n2_; clear n0_ n1_ n2_; (try clear hb); (try clear hb2); (try clear hk); (try clear hi)
               obtain ⟨Ao31, co31, eo31⟩ := Kd.R_slice HO176.out
               (first | subst eo31 | (injection eo31 with f1_ f2_ f3_; have f4_ := f1_.symm; have f5_ := f3_.symm; clear f1_ f2_ f3_; subst f4_; subst f5_))
               refine hK.out _ _ ⟨(blk_cell BK169.out 0).trans rfl, (blk_cell BK169.out 1).trans rfl, (blk_cell BK169.out 2).trans rfl, (blk_cell BK169.out 3).trans rfl, (blk_cell BK169.out 4).trans rfl, (blk_cell BK169.out 5).trans rfl⟩ (fun hHeld => ?_)
               clear hK K
               refine norm_ (a' := ?_) ?_ ?_
               rotate_left
               ·show Act.put _ (some 35) _ = _
                simp only [Act.put, Cmp.s, Cmp.z, Cmp.c, i64_w, i32_w]; rfl
               refine Cmp.pu HT_ 9 36 (Cmp.bm 10 20) ?_; refine Cmp.pu HT_ 10 37 (Cmp.bm 11 19) ?_; refine Cmp.pu HT_ 11 38 (Cmp.bm 12 18) ?_; refine Cmp.pu HT_ 12 39 (Cmp.bm 13 17) ?_; refine Cmp.pu HT_ 13 40 (Cmp.bm 14 16) ?_; refine Cmp.tk HT_ HW_ hHeld 14 41 (Cmp.bm 15 15) ?_
               refine one_ (i := 15) (N := some 42) (Cmp.bm 16 14) rfl rfl (one_of HT_.out (by kernel_rfl)) (by decide) (fun K hK => ?_)
               refine goes_ Try.func64 (by kernel_rfl) rfl #[.slice Ao31 t174.length co31, .int .i64 ((rd_T86 l0 x17_2).f3)] (by rfl) rfl rfl Cmp.q ?_
               with_reducible refine (impl_has.calls k2 _ _ t174 ((rd_T86 l0 x17_2).f3) false _ ?side1 ?side2 A20.out).mono ?_
               (case side1 => exact Cmp.rc (Kd.R_reads' HO176.out).2.2)
               (case side2 => exact (Kd.R_reads' HO176.out).2.1)
               rintro e w' ⟨rfl, ⟨nd, rfl⟩⟩; refine ⟨_, rfl, ?_⟩
               refine hK.out _ _ ⟨(blk_cell BK169.out 0).trans rfl, (blk_cell BK169.out 1).trans rfl, (blk_cell BK169.out 2).trans rfl, (blk_cell BK169.out 3).trans rfl, (blk_cell BK169.out 4).trans rfl, (blk_cell BK169.out 5).trans rfl⟩ (fun hHeld => ?_)
               clear hK K
               refine norm_ (a' := ?_) ?_ ?_
               rotate_left
               ·show Act.put _ (some 42) _ = _
                simp only [Act.put, Cmp.s, Cmp.z, Cmp.c, i64_w, i32_w]; rfl
               refine Cmp.pu HT_ 16 43 (Cmp.bm 17 13) ?_; refine Cmp.pu HT_ 17 44 (Cmp.bm 18 12) ?_; refine Cmp.pu HT_ 18 45 (Cmp.bm 19 11) ?_; refine Cmp.pu HT_ 19 46 (Cmp.bm 20 10) ?_; refine Cmp.pu HT_ 20 47 (Cmp.bm 21 9) ?_; refine Cmp.pv HT_ 21 48 (Cmp.bm 22 8) ?_; refine Cmp.pv HT_ 22 49 (Cmp.bm 23 7) ?_; refine Cmp.pv HT_ 23 50 (Cmp.bm 24 6) ?_; refine Cmp.pv HT_ 24 51 (Cmp.bm 25 5) ?_; refine Cmp.pv HT_ 25 52 (Cmp.bm 26 4) ?_; refine Cmp.pu HT_ 26 53 (Cmp.bm 27 3) ?_; refine Cmp.pu HT_ 27 54 (Cmp.bm 28 2) ?_; refine Cmp.pu HT_ 28 55 (Cmp.bm 29 1) ?_; refine Cmp.pu HT_ 29 56 (Cmp.bm 30 0) ?_
               refine done_ (done_of HT_.out (by kernel_rfl)) ?_
               try go_wp2
               go_meet
               case rel => exact ⟨_, (!false), (by first | rfl | simp | simp [*]), H', ⟨by have := HJ1.out; have := HK2.out; first | omega | exact Nat.le_refl _⟩, ⟨by (with_reducible repeat (first | apply Kd.R_alloc | apply Kd.R_drewN | apply Kd.R_drew)); exact HO176.out⟩, ⟨by (with_reducible repeat (first | refine blk_drewN ?_ _ | refine blk_drew ?_ | refine blk_alloc ?_ _)); exact BK169.out⟩, ⟨Cmp.g HB.out⟩⟩
            ·rw [if_neg c19] at H; have c19b0 : (((rd_T86 l0 x17_2).f4) == t177) = false := beq_eq_false_iff_ne.mpr c19; have c19b1 : (((rd_T86 l0 x17_2).f4) != t177) = true := bne_iff_ne.mpr c19
             have H' := Aside0.mk H
             clear H
             try go_wp2
             have n0_ := Aside0.mk (Kd.R_drew HO176.out); have n1_ := Aside0.mk (blk_drew BK169.out); have n2_ := Aside0.mk (below_drew1 HB.out); clear HO176; clear BK169; clear HB; have HO176 := n0_; have BK169 := n1_; have HB := n2_; clear n0_ n1_ n2_
             refine start_ (n := 30) (S := fun w' => w'.cell? ⟨gb169, 0, none⟩ = some (.int .i64 ((rd_T86 l0 x17_2).f0)) ∧ w'.cell? ⟨gb169, 1, none⟩ = some (.int .i64 ((rd_T86 l0 x17_2).f1)) ∧ w'.cell? ⟨gb169, 2, none⟩ = some (.int .i64 ((rd_T86 l0 x17_2).f2)) ∧ w'.cell? ⟨gb169, 3, none⟩ = some (.int .i64 ((rd_T86 l0 x17_2).f3)) ∧ w'.cell? ⟨gb169, 4, none⟩ = some (.int .i64 ((rd_T86 l0 x17_2).f4)) ∧ w'.cell? ⟨gb169, 5, none⟩ = some (.int .i64 ((rd_T86 l0 x17_2).f5))) (ds := []) (Cmp.bm 0 30) (by kernel_rfl) rfl rfl ⟨(blk_cell BK169.out 0).trans rfl, (blk_cell BK169.out 1).trans rfl, (blk_cell BK169.out 2).trans rfl, (blk_cell BK169.out 3).trans rfl, (blk_cell BK169.out 4).trans rfl, (blk_cell BK169.out 5).trans rfl⟩ (fun hHeld => ?_); refine with_tabW impl_VerifyLog.tab8 impl_VerifyLog.bits8 (fun HT_ HW_ => ?_)
             generalize w16.drew = w32 at HO176 BK169 HB hHeld ⊢
             refine Cmp.pu HT_ 0 27 (Cmp.bm 1 29) ?_; refine Cmp.pu HT_ 2 29 (Cmp.bb 30 5) ?_; refine Cmp.tk HT_ HW_ hHeld 1 28 (Cmp.bm 3 27) ?_; refine Cmp.pu HT_ 3 30 (Cmp.bm 4 26) ?_; refine Cmp.pu HT_ 4 31 (Cmp.bm 5 25) ?_; refine Cmp.pu HT_ 5 32 (Cmp.bm 6 24) ?_; refine Cmp.pu HT_ 7 34 (Cmp.bb 30 191) ?_; refine Cmp.tk HT_ HW_ hHeld 6 33 (Cmp.bm 8 22) ?_
             refine one_ (i := 8) (N := some 35) (Cmp.bm 9 21) rfl rfl (one_of HT_.out (by kernel_rfl)) (by decide) (fun K hK => ?_)
             refine goes_ Try.func37 (by kernel_rfl) rfl #[.slice (some ad168) y170.length c0] (by rfl) rfl rfl Cmp.q ?_
             with_reducible refine (impl_LogHead.calls k2 _ _ y170 t177 _ ?side1 ?side2 A18.out).mono ?_
             (case side1 => exact Cmp.rc (Kd.C_below HR173.out HB.out))
             (case side2 => exact HC173.out)
             rintro e w33 ⟨rfl, hb⟩; refine ⟨_, rfl, ?_⟩
             have n0_ := Aside0.mk (Kd.R_below (Cmp.rr HO176.out) hb)
             have n1_ := Aside0.mk (blk_below (Cmp.b BK169.out) hb)
             have n2_ := Aside0.mk (below_step (Cmp.g HB.out) hb)
             clear HO176; clear BK169; clear HB; have HO176 := n0_; have BK169 := n1_; have HB := n2_; clear n0_ n1_ n2_; (try clear hb); (try clear hb2); (try clear hk); (try clear hi)
             refine hK.out _ _ ⟨(blk_cell BK169.out 0).trans rfl, (blk_cell BK169.out 1).trans rfl, (blk_cell BK169.out 2).trans rfl, (blk_cell BK169.out 3).trans rfl, (blk_cell BK169.out 4).trans rfl, (blk_cell BK169.out 5).trans rfl⟩ (fun hHeld => ?_)
             clear hK K
             refine norm_ (a' := ?_) ?_ ?_
             rotate_left
             ·show Act.put _ (some 35) _ = _
              simp only [Act.put, Cmp.s, Cmp.z, Cmp.c, i64_w, i32_w]; rfl
             refine Cmp.pu HT_ 9 36 (Cmp.bm 10 20) ?_; refine Cmp.pu HT_ 10 37 (Cmp.bm 11 19) ?_; refine Cmp.pu HT_ 11 38 (Cmp.bm 12 18) ?_; refine Cmp.pv HT_ 12 39 (Cmp.bm 13 17) ?_; refine Cmp.pv HT_ 13 40 (Cmp.bm 14 16) ?_; refine Cmp.pv HT_ 14 41 (Cmp.bm 15 15) ?_; refine Cmp.pv HT_ 15 42 (Cmp.bm 16 14) ?_; refine Cmp.pv HT_ 16 43 (Cmp.bm 17 13) ?_; refine Cmp.pv HT_ 17 44 (Cmp.bm 18 12) ?_; refine Cmp.pv HT_ 18 45 (Cmp.bm 19 11) ?_; refine Cmp.pv HT_ 19 46 (Cmp.bm 20 10) ?_; refine Cmp.pv HT_ 20 47 (Cmp.bm 21 9) ?_; refine Cmp.pv HT_ 21 48 (Cmp.bm 22 8) ?_; refine Cmp.pv HT_ 22 49 (Cmp.bm 23 7) ?_; refine Cmp.pv HT_ 23 50 (Cmp.bm 24 6) ?_; refine Cmp.pv HT_ 24 51 (Cmp.bm 25 5) ?_; refine Cmp.pv HT_ 25 52 (Cmp.bm 26 4) ?_; refine Cmp.pv HT_ 26 53 (Cmp.bm 27 3) ?_; refine Cmp.pv HT_ 27 54 (Cmp.bm 28 2) ?_; refine Cmp.pv HT_ 28 55 (Cmp.bm 29 1) ?_; refine Cmp.pu HT_ 29 56 (Cmp.bm 30 0) ?_
             refine done_ (done_of HT_.out (by kernel_rfl)) ?_
             try go_wp2
             go_meet
             case rel => exact ⟨_, (true), (by first | rfl | simp | simp [*]), H', ⟨by have := HJ1.out; have := HK2.out; first | omega | exact Nat.le_refl _⟩, ⟨by (with_reducible repeat (first | apply Kd.R_alloc | apply Kd.R_drewN | apply Kd.R_drew)); exact HO176.out⟩, ⟨by (with_reducible repeat (first | refine blk_drewN ?_ _ | refine blk_drew ?_ | refine blk_alloc ?_ _)); exact BK169.out⟩, ⟨Cmp.g HB.out⟩⟩
           ·rw [if_neg c17] at H; have c17b0 : (((rd_T86 l0 x17_2).f0) == x17_2) = false := beq_eq_false_iff_ne.mpr c17; have c17b1 : (((rd_T86 l0 x17_2).f0) != x17_2) = true := bne_iff_ne.mpr c17
            (first | rw [c17b0] | (simp only [i64_w, i32_w]; rw [c17b0]) | skip)
            have H' := Aside0.mk H
            clear H
            try go_wp2
            have n0_ := Aside0.mk (Kd.R_drew HO176.out); have n1_ := Aside0.mk (blk_drew BK169.out); have n2_ := Aside0.mk (below_drew1 HB.out); clear HO176; clear BK169; clear HB; have HO176 := n0_; have BK169 := n1_; have HB := n2_; clear n0_ n1_ n2_
            refine start_ (n := 30) (S := fun w' => w'.cell? ⟨gb169, 0, none⟩ = some (.int .i64 ((rd_T86 l0 x17_2).f0)) ∧ w'.cell? ⟨gb169, 1, none⟩ = some (.int .i64 ((rd_T86 l0 x17_2).f1)) ∧ w'.cell? ⟨gb169, 2, none⟩ = some (.int .i64 ((rd_T86 l0 x17_2).f2)) ∧ w'.cell? ⟨gb169, 3, none⟩ = some (.int .i64 ((rd_T86 l0 x17_2).f3)) ∧ w'.cell? ⟨gb169, 4, none⟩ = some (.int .i64 ((rd_T86 l0 x17_2).f4)) ∧ w'.cell? ⟨gb169, 5, none⟩ = some (.int .i64 ((rd_T86 l0 x17_2).f5))) (ds := []) (Cmp.bm 0 30) (by kernel_rfl) rfl rfl ⟨(blk_cell BK169.out 0).trans rfl, (blk_cell BK169.out 1).trans rfl, (blk_cell BK169.out 2).trans rfl, (blk_cell BK169.out 3).trans rfl, (blk_cell BK169.out 4).trans rfl, (blk_cell BK169.out 5).trans rfl⟩ (fun hHeld => ?_); refine with_tabW impl_VerifyLog.tab8 impl_VerifyLog.bits8 (fun HT_ HW_ => ?_)
            generalize w16.drew = w34 at HO176 BK169 HB hHeld ⊢
            refine Cmp.pu HT_ 0 27 (Cmp.bm 1 29) ?_; refine Cmp.pu HT_ 2 29 (Cmp.bb 30 5) ?_; refine Cmp.tk HT_ HW_ hHeld 1 28 (Cmp.bm 3 27) ?_; refine Cmp.pu HT_ 3 30 (Cmp.bm 4 26) ?_; refine Cmp.pu HT_ 4 31 (Cmp.bm 5 25) ?_; refine Cmp.pv HT_ 5 32 (Cmp.bm 6 24) ?_; refine Cmp.pv HT_ 6 33 (Cmp.bm 7 23) ?_; refine Cmp.pv HT_ 7 34 (Cmp.bm 8 22) ?_; refine Cmp.pv HT_ 8 35 (Cmp.bm 9 21) ?_; refine Cmp.pv HT_ 9 36 (Cmp.bm 10 20) ?_; refine Cmp.pu HT_ 10 37 (Cmp.bm 11 19) ?_; refine Cmp.pu HT_ 11 38 (Cmp.bm 12 18) ?_; refine Cmp.pv HT_ 12 39 (Cmp.bm 13 17) ?_; refine Cmp.pv HT_ 13 40 (Cmp.bm 14 16) ?_; refine Cmp.pv HT_ 14 41 (Cmp.bm 15 15) ?_; refine Cmp.pv HT_ 15 42 (Cmp.bm 16 14) ?_; refine Cmp.pv HT_ 16 43 (Cmp.bm 17 13) ?_; refine Cmp.pv HT_ 17 44 (Cmp.bm 18 12) ?_; refine Cmp.pv HT_ 18 45 (Cmp.bm 19 11) ?_; refine Cmp.pv HT_ 19 46 (Cmp.bm 20 10) ?_; refine Cmp.pv HT_ 20 47 (Cmp.bm 21 9) ?_; refine Cmp.pv HT_ 21 48 (Cmp.bm 22 8) ?_; refine Cmp.pv HT_ 22 49 (Cmp.bm 23 7) ?_; refine Cmp.pv HT_ 23 50 (Cmp.bm 24 6) ?_; refine Cmp.pv HT_ 24 51 (Cmp.bm 25 5) ?_; refine Cmp.pv HT_ 25 52 (Cmp.bm 26 4) ?_; refine Cmp.pv HT_ 26 53 (Cmp.bm 27 3) ?_; refine Cmp.pv HT_ 27 54 (Cmp.bm 28 2) ?_; refine Cmp.pv HT_ 28 55 (Cmp.bm 29 1) ?_; refine Cmp.pu HT_ 29 56 (Cmp.bm 30 0) ?_
            refine done_ (done_of HT_.out (by kernel_rfl)) ?_
            try go_wp2
            go_meet
            case rel => exact ⟨_, (true), (by first | rfl | simp | simp [*]), H', ⟨by have := HJ1.out; have := HK2.out; first | omega | exact Nat.le_refl _⟩, ⟨by (with_reducible repeat (first | apply Kd.R_alloc | apply Kd.R_drewN | apply Kd.R_drew)); exact HO176.out⟩, ⟨by (with_reducible repeat (first | refine blk_drewN ?_ _ | refine blk_drew ?_ | refine blk_alloc ?_ _)); exact BK169.out⟩, ⟨Cmp.g HB.out⟩⟩
          case rest =>
           clear HC11; (try clear c1); (try clear p2); (try clear c3); (try clear c6); (try clear c17); (try clear c17b0); (try clear c17b1); (try clear c19); (try clear c19b0); (try clear c19b1)
           obtain ⟨kq, x56_10, rfl, HA, HJ10, HO_6, BK169, HB⟩ := hcut
           cases kq with
           | zero => exact absurd HA.out (by simp [impl_VerifyLog.j2])
           | succ kj10 =>
            have H := HA.out; clear HA
            simp only [impl_VerifyLog.j2] at H
            by_cases c35 : x56_10 = true
            ·subst c35; rw [if_pos rfl] at H
             obtain rfl := Option.some.inj H
             go_wp2
             go_ret
             exact ⟨by first | rfl | (simp [errW_none, errW_some] <;> rfl) | (simp [*, errW_none, errW_some] <;> rfl), Cmp.g HB.out⟩
            ·replace c35 := Bool.eq_false_iff.mpr c35
             subst c35
             have H1 : (if ((rd_T86 l0 x17_2).f1) = 1 then ((impl_has.f kj10 t174 ((rd_T86 l0 x17_2).f2)).bind fun t179 => (if t179 = true then (some false) else ((impl_wasRemoved.f kj10 y170 ((rd_T86 l0 x17_2).f2)).bind fun t180 => (if t180 = true then (some false) else (if (t174.length : Int) ≥ 6 then (some false) else (impl_VerifyLog.j3 kj10 l0 l0 (l0.length : Int) x17_2 ((rd_T86 l0 x17_2).f0) ((rd_T86 l0 x17_2).f1) ((rd_T86 l0 x17_2).f2) ((rd_T86 l0 x17_2).f3) ((rd_T86 l0 x17_2).f4) ((rd_T86 l0 x17_2).f5))))))) else (if ((rd_T86 l0 x17_2).f1) = 2 then ((impl_has.f kj10 t174 ((rd_T86 l0 x17_2).f2)).bind fun t181 => (if t181 = true then (if (t174.length : Int) = 1 then (some false) else (impl_VerifyLog.j3 kj10 l0 l0 (l0.length : Int) x17_2 ((rd_T86 l0 x17_2).f0) ((rd_T86 l0 x17_2).f1) ((rd_T86 l0 x17_2).f2) ((rd_T86 l0 x17_2).f3) ((rd_T86 l0 x17_2).f4) ((rd_T86 l0 x17_2).f5))) else (some false))) else (some false))) = some r := by rw [if_neg (show ¬ (false = true) by decide)] at H; exact H
             clear H; have H := H1; clear H1; have HC36 := Aside0.mk H; clear H
             have hcz37_0 : wc.cell? ⟨gb169, 0, none⟩ = some (.int .i64 ((rd_T86 l0 x17_2).f0)) := (blk_cell BK169.out 0).trans rfl
             have hcz37_1 : wc.cell? ⟨gb169, 1, none⟩ = some (.int .i64 ((rd_T86 l0 x17_2).f1)) := (blk_cell BK169.out 1).trans rfl
             have hcz37_2 : wc.cell? ⟨gb169, 2, none⟩ = some (.int .i64 ((rd_T86 l0 x17_2).f2)) := (blk_cell BK169.out 2).trans rfl
             have hcz37_3 : wc.cell? ⟨gb169, 3, none⟩ = some (.int .i64 ((rd_T86 l0 x17_2).f3)) := (blk_cell BK169.out 3).trans rfl
             have hcz37_4 : wc.cell? ⟨gb169, 4, none⟩ = some (.int .i64 ((rd_T86 l0 x17_2).f4)) := (blk_cell BK169.out 4).trans rfl
             have hcz37_5 : wc.cell? ⟨gb169, 5, none⟩ = some (.int .i64 ((rd_T86 l0 x17_2).f5)) := (blk_cell BK169.out 5).trans rfl
             have hfz37_0 := blk_frozen BK169.out 0; have hfz37_1 := blk_frozen BK169.out 1; have hfz37_2 := blk_frozen BK169.out 2; have hfz37_3 := blk_frozen BK169.out 3; have hfz37_4 := blk_frozen BK169.out 4; have hfz37_5 := blk_frozen BK169.out 5
             go_upto_block 2 with (fail)
             go_cut [] (fun wc => ∃ (kq : Nat), Aside0 (impl_VerifyLog.j3 kq l0 l0 (l0.length : Int) x17_2 ((rd_T86 l0 x17_2).f0) ((rd_T86 l0 x17_2).f1) ((rd_T86 l0 x17_2).f2) ((rd_T86 l0 x17_2).f3) ((rd_T86 l0 x17_2).f4) ((rd_T86 l0 x17_2).f5) = some r) ∧ Aside0 (kq ≤ kj10) ∧ Aside0 (wc.heap[gb169]? = some (.cells #[.int .i64 ((rd_T86 l0 x17_2).f0), .int .i64 ((rd_T86 l0 x17_2).f1), .int .i64 ((rd_T86 l0 x17_2).f2), .int .i64 ((rd_T86 l0 x17_2).f3), .int .i64 ((rd_T86 l0 x17_2).f4), .int .i64 ((rd_T86 l0 x17_2).f5)] 86 (0, 0))) ∧ Aside0 (Below w.heap.size w wc))
             case first =>
              have H := HC36.out; clear HC36
              by_cases c38 : ((rd_T86 l0 x17_2).f1) = 1
              ·rw [if_pos c38] at H; have c38b0 : (((rd_T86 l0 x17_2).f1) == 1) = true := beq_iff_eq.mpr c38; have c38b1 : (((rd_T86 l0 x17_2).f1) != 1) = false := bne_eq_false_iff_eq.mpr c38; clear c38
               (first | rw [c38b0] | (simp only [i64_w, i32_w]; rw [c38b0]) | skip)
               replace H := Option.bind_eq_some_iff.mp H; obtain ⟨t179, A390, H⟩ := H; (try dsimp only at H); have A39 := Aside0.mk A390; clear A390
               by_cases c40 : t179 = true
               ·subst c40; rw [if_pos rfl] at H
                obtain rfl := Option.some.inj H
                have hcz41_0 : wc.cell? ⟨gb169, 0, none⟩ = some (.int .i64 ((rd_T86 l0 x17_2).f0)) := (blk_cell BK169.out 0).trans rfl
                have hcz41_1 : wc.cell? ⟨gb169, 1, none⟩ = some (.int .i64 ((rd_T86 l0 x17_2).f1)) := (blk_cell BK169.out 1).trans rfl
                have hcz41_2 : wc.cell? ⟨gb169, 2, none⟩ = some (.int .i64 ((rd_T86 l0 x17_2).f2)) := (blk_cell BK169.out 2).trans rfl
                have hcz41_3 : wc.cell? ⟨gb169, 3, none⟩ = some (.int .i64 ((rd_T86 l0 x17_2).f3)) := (blk_cell BK169.out 3).trans rfl
                have hcz41_4 : wc.cell? ⟨gb169, 4, none⟩ = some (.int .i64 ((rd_T86 l0 x17_2).f4)) := (blk_cell BK169.out 4).trans rfl
                have hcz41_5 : wc.cell? ⟨gb169, 5, none⟩ = some (.int .i64 ((rd_T86 l0 x17_2).f5)) := (blk_cell BK169.out 5).trans rfl
                have hfz41_0 := blk_frozen BK169.out 0; have hfz41_1 := blk_frozen BK169.out 1; have hfz41_2 := blk_frozen BK169.out 2; have hfz41_3 := blk_frozen BK169.out 3; have hfz41_4 := blk_frozen BK169.out 4; have hfz41_5 := blk_frozen BK169.out 5
                obtain ⟨Ao42, co42, eo42⟩ := Kd.R_slice HO_6.out
                subst eo42
                go_wp2_with (first | ((with_reducible refine gate_callee (f := 64) rfl ?_); refine goesL_ (some 64) rfl rfl Try.func64 (by kernel_rfl) rfl #[.slice Ao42 t174.length co42, .int .i64 ((rd_T86 l0 x17_2).f2)] rfl Cmp.q ?_; (with_reducible refine (impl_has.calls kj10 _ _ t174 ((rd_T86 l0 x17_2).f2) true _ ?side1 ?side2 A39.out).mono ?_); (case side1 => exact Cmp.rc (Kd.R_reads' HO_6.out).2.2); (case side2 => exact (Kd.R_reads' HO_6.out).2.1); rintro e w' ⟨rfl, ⟨nd, rfl⟩⟩; refine ⟨_, rfl, ?_⟩))
                go_ret
                exact ⟨by first | rfl | (simp [errW_none, errW_some] <;> rfl) | (simp [*, errW_none, errW_some] <;> rfl), Cmp.g HB.out⟩
               ·replace c40 := Bool.eq_false_iff.mpr c40
                subst c40
                have H1 : ((impl_wasRemoved.f kj10 y170 ((rd_T86 l0 x17_2).f2)).bind fun t180 => (if t180 = true then (some false) else (if (t174.length : Int) ≥ 6 then (some false) else (impl_VerifyLog.j3 kj10 l0 l0 (l0.length : Int) x17_2 ((rd_T86 l0 x17_2).f0) ((rd_T86 l0 x17_2).f1) ((rd_T86 l0 x17_2).f2) ((rd_T86 l0 x17_2).f3) ((rd_T86 l0 x17_2).f4) ((rd_T86 l0 x17_2).f5))))) = some r := by rw [if_neg (show ¬ (false = true) by decide)] at H; exact H
                clear H; have H := H1; clear H1; replace H := Option.bind_eq_some_iff.mp H; obtain ⟨t180, A430, H⟩ := H; (try dsimp only at H); have A43 := Aside0.mk A430; clear A430
                by_cases c44 : t180 = true
                ·subst c44; rw [if_pos rfl] at H
                 obtain rfl := Option.some.inj H
                 have hcz45_0 : wc.cell? ⟨gb169, 0, none⟩ = some (.int .i64 ((rd_T86 l0 x17_2).f0)) := (blk_cell BK169.out 0).trans rfl
                 have hcz45_1 : wc.cell? ⟨gb169, 1, none⟩ = some (.int .i64 ((rd_T86 l0 x17_2).f1)) := (blk_cell BK169.out 1).trans rfl
                 have hcz45_2 : wc.cell? ⟨gb169, 2, none⟩ = some (.int .i64 ((rd_T86 l0 x17_2).f2)) := (blk_cell BK169.out 2).trans rfl
                 have hcz45_3 : wc.cell? ⟨gb169, 3, none⟩ = some (.int .i64 ((rd_T86 l0 x17_2).f3)) := (blk_cell BK169.out 3).trans rfl
                 have hcz45_4 : wc.cell? ⟨gb169, 4, none⟩ = some (.int .i64 ((rd_T86 l0 x17_2).f4)) := (blk_cell BK169.out 4).trans rfl
                 have hcz45_5 : wc.cell? ⟨gb169, 5, none⟩ = some (.int .i64 ((rd_T86 l0 x17_2).f5)) := (blk_cell BK169.out 5).trans rfl
                 have hfz45_0 := blk_frozen BK169.out 0; have hfz45_1 := blk_frozen BK169.out 1; have hfz45_2 := blk_frozen BK169.out 2; have hfz45_3 := blk_frozen BK169.out 3; have hfz45_4 := blk_frozen BK169.out 4; have hfz45_5 := blk_frozen BK169.out 5
                 obtain ⟨Ao46, co46, eo46⟩ := Kd.R_slice HO_6.out
                 subst eo46
                 go_wp2_with (first | ((with_reducible refine gate_callee (f := 64) rfl ?_); refine goesL_ (some 64) rfl rfl Try.func64 (by kernel_rfl) rfl #[.slice Ao46 t174.length co46, .int .i64 ((rd_T86 l0 x17_2).f2)] rfl Cmp.q ?_; (with_reducible refine (impl_has.calls kj10 _ _ t174 ((rd_T86 l0 x17_2).f2) false _ ?side1 ?side2 A39.out).mono ?_); (case side1 => exact Cmp.rc (Kd.R_reads' HO_6.out).2.2); (case side2 => exact (Kd.R_reads' HO_6.out).2.1); rintro e w' ⟨rfl, ⟨nd, rfl⟩⟩; refine ⟨_, rfl, ?_⟩) | (go_at_call 65; (with_reducible refine (impl_wasRemoved.calls kj10 _ _ y170 ((rd_T86 l0 x17_2).f2) true _ ?side1 ?side2 A43.out).mono ?_); (case side1 => exact Cmp.rc (Kd.C_below HR173.out (Cmp.g HB.out))); (case side2 => exact HC173.out); rintro e w47 ⟨rfl, hb⟩; have n0_ := Aside0.mk (Kd.R_below (Cmp.rr HO_6.out) hb); have n1_ := Aside0.mk (blk_below (Cmp.b BK169.out) hb); have n2_ := Aside0.mk (below_step (Cmp.g HB.out) hb); clear HO_6; clear BK169; clear HB; have HO_6 := n0_; have BK169 := n1_; have HB := n2_; clear n0_ n1_ n2_; (try clear hb); (try clear hb2); (try clear hk); (try clear hi)))
                 go_ret
                 exact ⟨by first | rfl | (simp [errW_none, errW_some] <;> rfl) | (simp [*, errW_none, errW_some] <;> rfl), Cmp.g HB.out⟩
                ·replace c44 := Bool.eq_false_iff.mpr c44
                 subst c44
                 have H1 : (if (t174.length : Int) ≥ 6 then (some false) else (impl_VerifyLog.j3 kj10 l0 l0 (l0.length : Int) x17_2 ((rd_T86 l0 x17_2).f0) ((rd_T86 l0 x17_2).f1) ((rd_T86 l0 x17_2).f2) ((rd_T86 l0 x17_2).f3) ((rd_T86 l0 x17_2).f4) ((rd_T86 l0 x17_2).f5))) = some r := by rw [if_neg (show ¬ (false = true) by decide)] at H; exact H
                 clear H; have H := H1; clear H1
                 by_cases c48 : (t174.length : Int) ≥ 6
                 ·rw [if_pos c48] at H
                  have c48b0 : decide (6 ≤ (t174.length : Int)) = true := decide_eq_true c48
                  have c48b1 : decide (6 ≤ t174.length) = true := decide_eq_true (by omega)
                  clear c48
                  obtain rfl := Option.some.inj H
                  have hcz49_0 : wc.cell? ⟨gb169, 0, none⟩ = some (.int .i64 ((rd_T86 l0 x17_2).f0)) := (blk_cell BK169.out 0).trans rfl
                  have hcz49_1 : wc.cell? ⟨gb169, 1, none⟩ = some (.int .i64 ((rd_T86 l0 x17_2).f1)) := (blk_cell BK169.out 1).trans rfl
                  have hcz49_2 : wc.cell? ⟨gb169, 2, none⟩ = some (.int .i64 ((rd_T86 l0 x17_2).f2)) := (blk_cell BK169.out 2).trans rfl
                  have hcz49_3 : wc.cell? ⟨gb169, 3, none⟩ = some (.int .i64 ((rd_T86 l0 x17_2).f3)) := (blk_cell BK169.out 3).trans rfl
                  have hcz49_4 : wc.cell? ⟨gb169, 4, none⟩ = some (.int .i64 ((rd_T86 l0 x17_2).f4)) := (blk_cell BK169.out 4).trans rfl
                  have hcz49_5 : wc.cell? ⟨gb169, 5, none⟩ = some (.int .i64 ((rd_T86 l0 x17_2).f5)) := (blk_cell BK169.out 5).trans rfl
                  have hfz49_0 := blk_frozen BK169.out 0; have hfz49_1 := blk_frozen BK169.out 1; have hfz49_2 := blk_frozen BK169.out 2; have hfz49_3 := blk_frozen BK169.out 3; have hfz49_4 := blk_frozen BK169.out 4; have hfz49_5 := blk_frozen BK169.out 5
                  obtain ⟨Ao50, co50, eo50⟩ := Kd.R_slice HO_6.out
                  subst eo50
                  go_wp2_with (first | ((with_reducible refine gate_callee (f := 64) rfl ?_); refine goesL_ (some 64) rfl rfl Try.func64 (by kernel_rfl) rfl #[.slice Ao50 t174.length co50, .int .i64 ((rd_T86 l0 x17_2).f2)] rfl Cmp.q ?_; (with_reducible refine (impl_has.calls kj10 _ _ t174 ((rd_T86 l0 x17_2).f2) false _ ?side1 ?side2 A39.out).mono ?_); (case side1 => exact Cmp.rc (Kd.R_reads' HO_6.out).2.2); (case side2 => exact (Kd.R_reads' HO_6.out).2.1); rintro e w' ⟨rfl, ⟨nd, rfl⟩⟩; refine ⟨_, rfl, ?_⟩) | (go_at_call 65; (with_reducible refine (impl_wasRemoved.calls kj10 _ _ y170 ((rd_T86 l0 x17_2).f2) false _ ?side1 ?side2 A43.out).mono ?_); (case side1 => exact Cmp.rc (Kd.C_below HR173.out (Cmp.g HB.out))); (case side2 => exact HC173.out); rintro e w51 ⟨rfl, hb⟩; have n0_ := Aside0.mk (Kd.R_below (Cmp.rr HO_6.out) hb); have n1_ := Aside0.mk (blk_below (Cmp.b BK169.out) hb); have n2_ := Aside0.mk (below_step (Cmp.g HB.out) hb); clear HO_6; clear BK169; clear HB; have HO_6 := n0_; have BK169 := n1_; have HB := n2_; clear n0_ n1_ n2_; (try clear hb); (try clear hb2); (try clear hk); (try clear hi)))
                  go_ret
                  exact ⟨by first | rfl | (simp [errW_none, errW_some] <;> rfl) | (simp [*, errW_none, errW_some] <;> rfl), Cmp.g HB.out⟩
                 ·rw [if_neg c48] at H
                  have c48b0 : decide (6 ≤ (t174.length : Int)) = false := decide_eq_false c48
                  have c48b1 : decide (6 ≤ t174.length) = false := decide_eq_false (by omega)
                  clear c48
                  have H' := Aside0.mk H
                  clear H
                  have hcz52_0 : wc.cell? ⟨gb169, 0, none⟩ = some (.int .i64 ((rd_T86 l0 x17_2).f0)) := (blk_cell BK169.out 0).trans rfl
                  have hcz52_1 : wc.cell? ⟨gb169, 1, none⟩ = some (.int .i64 ((rd_T86 l0 x17_2).f1)) := (blk_cell BK169.out 1).trans rfl
                  have hcz52_2 : wc.cell? ⟨gb169, 2, none⟩ = some (.int .i64 ((rd_T86 l0 x17_2).f2)) := (blk_cell BK169.out 2).trans rfl
                  have hcz52_3 : wc.cell? ⟨gb169, 3, none⟩ = some (.int .i64 ((rd_T86 l0 x17_2).f3)) := (blk_cell BK169.out 3).trans rfl
                  have hcz52_4 : wc.cell? ⟨gb169, 4, none⟩ = some (.int .i64 ((rd_T86 l0 x17_2).f4)) := (blk_cell BK169.out 4).trans rfl
                  have hcz52_5 : wc.cell? ⟨gb169, 5, none⟩ = some (.int .i64 ((rd_T86 l0 x17_2).f5)) := (blk_cell BK169.out 5).trans rfl
                  have hfz52_0 := blk_frozen BK169.out 0; have hfz52_1 := blk_frozen BK169.out 1; have hfz52_2 := blk_frozen BK169.out 2; have hfz52_3 := blk_frozen BK169.out 3; have hfz52_4 := blk_frozen BK169.out 4; have hfz52_5 := blk_frozen BK169.out 5
                  obtain ⟨Ao53, co53, eo53⟩ := Kd.R_slice HO_6.out
                  subst eo53
                  go_wp2_with (first | ((with_reducible refine gate_callee (f := 64) rfl ?_); refine goesL_ (some 64) rfl rfl Try.func64 (by kernel_rfl) rfl #[.slice Ao53 t174.length co53, .int .i64 ((rd_T86 l0 x17_2).f2)] rfl Cmp.q ?_; (with_reducible refine (impl_has.calls kj10 _ _ t174 ((rd_T86 l0 x17_2).f2) false _ ?side1 ?side2 A39.out).mono ?_); (case side1 => exact Cmp.rc (Kd.R_reads' HO_6.out).2.2); (case side2 => exact (Kd.R_reads' HO_6.out).2.1); rintro e w' ⟨rfl, ⟨nd, rfl⟩⟩; refine ⟨_, rfl, ?_⟩) | (go_at_call 65; (with_reducible refine (impl_wasRemoved.calls kj10 _ _ y170 ((rd_T86 l0 x17_2).f2) false _ ?side1 ?side2 A43.out).mono ?_); (case side1 => exact Cmp.rc (Kd.C_below HR173.out (Cmp.g HB.out))); (case side2 => exact HC173.out); rintro e w54 ⟨rfl, hb⟩; have n0_ := Aside0.mk (Kd.R_below (Cmp.rr HO_6.out) hb); have n1_ := Aside0.mk (blk_below (Cmp.b BK169.out) hb); have n2_ := Aside0.mk (below_step (Cmp.g HB.out) hb); clear HO_6; clear BK169; clear HB; have HO_6 := n0_; have BK169 := n1_; have HB := n2_; clear n0_ n1_ n2_; (try clear hb); (try clear hb2); (try clear hk); (try clear hi)))
                  go_meet
                  case rel => exact ⟨_, H', ⟨by have := HJ1.out; have := HK2.out; have := HJ10.out; first | omega | exact Nat.le_refl _⟩, ⟨by (with_reducible repeat (first | refine blk_drewN ?_ _ | refine blk_drew ?_ | refine blk_alloc ?_ _)); exact BK169.out⟩, ⟨Cmp.g HB.out⟩⟩
              ·rw [if_neg c38] at H; have c38b0 : (((rd_T86 l0 x17_2).f1) == 1) = false := beq_eq_false_iff_ne.mpr c38; have c38b1 : (((rd_T86 l0 x17_2).f1) != 1) = true := bne_iff_ne.mpr c38
               (first | rw [c38b0] | (simp only [i64_w, i32_w]; rw [c38b0]) | skip)
               by_cases c55 : ((rd_T86 l0 x17_2).f1) = 2
               ·rw [if_pos c55] at H; have c55b0 : (((rd_T86 l0 x17_2).f1) == 2) = true := beq_iff_eq.mpr c55; have c55b1 : (((rd_T86 l0 x17_2).f1) != 2) = false := bne_eq_false_iff_eq.mpr c55; clear c55; replace H := Option.bind_eq_some_iff.mp H; obtain ⟨t181, A560, H⟩ := H; (try dsimp only at H); have A56 := Aside0.mk A560; clear A560
                by_cases c57 : t181 = true
                ·subst c57; rw [if_pos rfl] at H
                 by_cases c58 : (t174.length : Int) = 1
                 ·rw [if_pos c58] at H
                  have c58b0 : ((t174.length : Int) == 1) = true := beq_iff_eq.mpr c58
                  have c58b1 : ((t174.length : Int) != 1) = false := bne_eq_false_iff_eq.mpr c58
                  clear c58
                  obtain rfl := Option.some.inj H
                  have hcz59_0 : wc.cell? ⟨gb169, 0, none⟩ = some (.int .i64 ((rd_T86 l0 x17_2).f0)) := (blk_cell BK169.out 0).trans rfl
                  have hcz59_1 : wc.cell? ⟨gb169, 1, none⟩ = some (.int .i64 ((rd_T86 l0 x17_2).f1)) := (blk_cell BK169.out 1).trans rfl
                  have hcz59_2 : wc.cell? ⟨gb169, 2, none⟩ = some (.int .i64 ((rd_T86 l0 x17_2).f2)) := (blk_cell BK169.out 2).trans rfl
                  have hcz59_3 : wc.cell? ⟨gb169, 3, none⟩ = some (.int .i64 ((rd_T86 l0 x17_2).f3)) := (blk_cell BK169.out 3).trans rfl
                  have hcz59_4 : wc.cell? ⟨gb169, 4, none⟩ = some (.int .i64 ((rd_T86 l0 x17_2).f4)) := (blk_cell BK169.out 4).trans rfl
                  have hcz59_5 : wc.cell? ⟨gb169, 5, none⟩ = some (.int .i64 ((rd_T86 l0 x17_2).f5)) := (blk_cell BK169.out 5).trans rfl
                  have hfz59_0 := blk_frozen BK169.out 0; have hfz59_1 := blk_frozen BK169.out 1; have hfz59_2 := blk_frozen BK169.out 2; have hfz59_3 := blk_frozen BK169.out 3; have hfz59_4 := blk_frozen BK169.out 4; have hfz59_5 := blk_frozen BK169.out 5
                  obtain ⟨Ao60, co60, eo60⟩ := Kd.R_slice HO_6.out
                  subst eo60
                  go_wp2_with (first | ((with_reducible refine gate_callee (f := 64) rfl ?_); refine goesL_ (some 81) rfl rfl Try.func64 (by kernel_rfl) rfl #[.slice Ao60 t174.length co60, .int .i64 ((rd_T86 l0 x17_2).f2)] rfl Cmp.q ?_; (with_reducible refine (impl_has.calls kj10 _ _ t174 ((rd_T86 l0 x17_2).f2) true _ ?side1 ?side2 A56.out).mono ?_); (case side1 => exact Cmp.rc (Kd.R_reads' HO_6.out).2.2); (case side2 => exact (Kd.R_reads' HO_6.out).2.1); rintro e w' ⟨rfl, ⟨nd, rfl⟩⟩; refine ⟨_, rfl, ?_⟩))
                  go_ret
                  exact ⟨by first | rfl | (simp [errW_none, errW_some] <;> rfl) | (simp [*, errW_none, errW_some] <;> rfl), Cmp.g HB.out⟩
                 ·rw [if_neg c58] at H
                  have c58b0 : ((t174.length : Int) == 1) = false := beq_eq_false_iff_ne.mpr c58
                  have c58b1 : ((t174.length : Int) != 1) = true := bne_iff_ne.mpr c58
                  have H' := Aside0.mk H
                  clear H
                  have hcz61_0 : wc.cell? ⟨gb169, 0, none⟩ = some (.int .i64 ((rd_T86 l0 x17_2).f0)) := (blk_cell BK169.out 0).trans rfl
                  have hcz61_1 : wc.cell? ⟨gb169, 1, none⟩ = some (.int .i64 ((rd_T86 l0 x17_2).f1)) := (blk_cell BK169.out 1).trans rfl
                  have hcz61_2 : wc.cell? ⟨gb169, 2, none⟩ = some (.int .i64 ((rd_T86 l0 x17_2).f2)) := (blk_cell BK169.out 2).trans rfl
                  have hcz61_3 : wc.cell? ⟨gb169, 3, none⟩ = some (.int .i64 ((rd_T86 l0 x17_2).f3)) := (blk_cell BK169.out 3).trans rfl
                  have hcz61_4 : wc.cell? ⟨gb169, 4, none⟩ = some (.int .i64 ((rd_T86 l0 x17_2).f4)) := (blk_cell BK169.out 4).trans rfl
                  have hcz61_5 : wc.cell? ⟨gb169, 5, none⟩ = some (.int .i64 ((rd_T86 l0 x17_2).f5)) := (blk_cell BK169.out 5).trans rfl
                  have hfz61_0 := blk_frozen BK169.out 0; have hfz61_1 := blk_frozen BK169.out 1; have hfz61_2 := blk_frozen BK169.out 2; have hfz61_3 := blk_frozen BK169.out 3; have hfz61_4 := blk_frozen BK169.out 4; have hfz61_5 := blk_frozen BK169.out 5
                  obtain ⟨Ao62, co62, eo62⟩ := Kd.R_slice HO_6.out
                  subst eo62
                  go_wp2_with (first | ((with_reducible refine gate_callee (f := 64) rfl ?_); refine goesL_ (some 81) rfl rfl Try.func64 (by kernel_rfl) rfl #[.slice Ao62 t174.length co62, .int .i64 ((rd_T86 l0 x17_2).f2)] rfl Cmp.q ?_; (with_reducible refine (impl_has.calls kj10 _ _ t174 ((rd_T86 l0 x17_2).f2) true _ ?side1 ?side2 A56.out).mono ?_); (case side1 => exact Cmp.rc (Kd.R_reads' HO_6.out).2.2); (case side2 => exact (Kd.R_reads' HO_6.out).2.1); rintro e w' ⟨rfl, ⟨nd, rfl⟩⟩; refine ⟨_, rfl, ?_⟩))
                  go_meet
                  case rel => exact ⟨_, H', ⟨by have := HJ1.out; have := HK2.out; have := HJ10.out; first | omega | exact Nat.le_refl _⟩, ⟨by (with_reducible repeat (first | refine blk_drewN ?_ _ | refine blk_drew ?_ | refine blk_alloc ?_ _)); exact BK169.out⟩, ⟨Cmp.g HB.out⟩⟩
                ·replace c57 := Bool.eq_false_iff.mpr c57
                 subst c57
                 have H1 : (some false) = some r := by rw [if_neg (show ¬ (false = true) by decide)] at H; exact H
                 clear H; have H := H1; clear H1
                 obtain rfl := Option.some.inj H
                 have hcz63_0 : wc.cell? ⟨gb169, 0, none⟩ = some (.int .i64 ((rd_T86 l0 x17_2).f0)) := (blk_cell BK169.out 0).trans rfl
                 have hcz63_1 : wc.cell? ⟨gb169, 1, none⟩ = some (.int .i64 ((rd_T86 l0 x17_2).f1)) := (blk_cell BK169.out 1).trans rfl
                 have hcz63_2 : wc.cell? ⟨gb169, 2, none⟩ = some (.int .i64 ((rd_T86 l0 x17_2).f2)) := (blk_cell BK169.out 2).trans rfl
                 have hcz63_3 : wc.cell? ⟨gb169, 3, none⟩ = some (.int .i64 ((rd_T86 l0 x17_2).f3)) := (blk_cell BK169.out 3).trans rfl
                 have hcz63_4 : wc.cell? ⟨gb169, 4, none⟩ = some (.int .i64 ((rd_T86 l0 x17_2).f4)) := (blk_cell BK169.out 4).trans rfl
                 have hcz63_5 : wc.cell? ⟨gb169, 5, none⟩ = some (.int .i64 ((rd_T86 l0 x17_2).f5)) := (blk_cell BK169.out 5).trans rfl
                 have hfz63_0 := blk_frozen BK169.out 0; have hfz63_1 := blk_frozen BK169.out 1; have hfz63_2 := blk_frozen BK169.out 2; have hfz63_3 := blk_frozen BK169.out 3; have hfz63_4 := blk_frozen BK169.out 4; have hfz63_5 := blk_frozen BK169.out 5
                 obtain ⟨Ao64, co64, eo64⟩ := Kd.R_slice HO_6.out
                 subst eo64
                 go_wp2_with (first | ((with_reducible refine gate_callee (f := 64) rfl ?_); refine goesL_ (some 81) rfl rfl Try.func64 (by kernel_rfl) rfl #[.slice Ao64 t174.length co64, .int .i64 ((rd_T86 l0 x17_2).f2)] rfl Cmp.q ?_; (with_reducible refine (impl_has.calls kj10 _ _ t174 ((rd_T86 l0 x17_2).f2) false _ ?side1 ?side2 A56.out).mono ?_); (case side1 => exact Cmp.rc (Kd.R_reads' HO_6.out).2.2); (case side2 => exact (Kd.R_reads' HO_6.out).2.1); rintro e w' ⟨rfl, ⟨nd, rfl⟩⟩; refine ⟨_, rfl, ?_⟩))
                 go_ret
                 exact ⟨by first | rfl | (simp [errW_none, errW_some] <;> rfl) | (simp [*, errW_none, errW_some] <;> rfl), Cmp.g HB.out⟩
               ·rw [if_neg c55] at H; have c55b0 : (((rd_T86 l0 x17_2).f1) == 2) = false := beq_eq_false_iff_ne.mpr c55; have c55b1 : (((rd_T86 l0 x17_2).f1) != 2) = true := bne_iff_ne.mpr c55
                obtain rfl := Option.some.inj H
                go_wp2
                go_ret
                exact ⟨by first | rfl | (simp [errW_none, errW_some] <;> rfl) | (simp [*, errW_none, errW_some] <;> rfl), Cmp.g HB.out⟩
             case rest =>
              clear HC36; (try clear c1); (try clear p2); (try clear c3); (try clear c4); (try clear c5); (try clear c6); (try clear c17); (try clear c17b0); (try clear c17b1); (try clear c19); (try clear c19b0); (try clear c19b1); (try clear c35); (try clear c37); (try clear c38); (try clear c38b0); (try clear c38b1); (try clear c40); (try clear c44); (try clear c48); (try clear c48b0); (try clear c48b1); (try clear c55); (try clear c55b0); (try clear c55b1); (try clear c57); (try clear c58); (try clear c58b0); (try clear c58b1); (try clear c64); (try clear hcz37_0); (try clear hcz37_1); (try clear hcz37_2); (try clear hcz37_3); (try clear hcz37_4); (try clear hcz37_5); (try clear hcz41_0); (try clear hcz41_1); (try clear hcz41_2); (try clear hcz41_3); (try clear hcz41_4); (try clear hcz41_5); (try clear hcz45_0); (try clear hcz45_1); (try clear hcz45_2); (try clear hcz45_3); (try clear hcz45_4); (try clear hcz45_5); (try clear hcz49_0); (try clear hcz49_1); (try clear hcz49_2); (try clear hcz49_3); (try clear hcz49_4); (try clear hcz49_5); (try clear hcz52_0); (try clear hcz52_1); (try clear hcz52_2); (try clear hcz52_3); (try clear hcz52_4); (try clear hcz52_5); (try clear hcz59_0); (try clear hcz59_1); (try clear hcz59_2); (try clear hcz59_3); (try clear hcz59_4); (try clear hcz59_5); (try clear hcz61_0); (try clear hcz61_1); (try clear hcz61_2); (try clear hcz61_3); (try clear hcz61_4); (try clear hcz61_5); (try clear hcz63_0); (try clear hcz63_1); (try clear hcz63_2); (try clear hcz63_3); (try clear hcz63_4); (try clear hcz63_5); (try clear hfz37_0); (try clear hfz37_1); (try clear hfz37_2); (try clear hfz37_3); (try clear hfz37_4); (try clear hfz37_5); (try clear hfz41_0); (try clear hfz41_1); (try clear hfz41_2); (try clear hfz41_3); (try clear hfz41_4); (try clear hfz41_5); (try clear hfz45_0); (try clear hfz45_1); (try clear hfz45_2); (try clear hfz45_3); (try clear hfz45_4); (try clear hfz45_5); (try clear hfz49_0); (try clear hfz49_1); (try clear hfz49_2); (try clear hfz49_3); (try clear hfz49_4); (try clear hfz49_5); (try clear hfz52_0); (try clear hfz52_1); (try clear hfz52_2); (try clear hfz52_3); (try clear hfz52_4); (try clear hfz52_5); (try clear hfz59_0); (try clear hfz59_1); (try clear hfz59_2); (try clear hfz59_3); (try clear hfz59_4); (try clear hfz59_5); (try clear hfz61_0); (try clear hfz61_1); (try clear hfz61_2); (try clear hfz61_3); (try clear hfz61_4); (try clear hfz61_5); (try clear hfz63_0); (try clear hfz63_1); (try clear hfz63_2); (try clear hfz63_3); (try clear hfz63_4); (try clear hfz63_5); (try clear p2)
              obtain ⟨kq, HA, HJ35, BK169, HB⟩ := hcut
              cases kq with
              | zero => exact absurd HA.out (by simp [impl_VerifyLog.j3])
              | succ kj35 =>
               have H := HA.out; clear HA
               simp only [impl_VerifyLog.j3] at H
               replace H := Option.bind_eq_some_iff.mp H; obtain ⟨t182, A650, H⟩ := H; (try dsimp only at H); have A65 := Aside0.mk A650; clear A650
               obtain ⟨y183, hy183⟩ : ∃ y_ : List Int, y_ = (([t182] : List Int)) := ⟨_, rfl⟩
               replace H : ((impl_VerifySignature.f kj35 ((rd_T86 l0 x17_2).f3) y183 ((rd_T86 l0 x17_2).f5)).bind fun t186 => (if t186 = true then (impl_VerifyLog.l0 kj35 l0 l0 (l0.length : Int) (wrap64 (x17_2 + 1))) else (some false))) = some r := by first | (rw [hy183]; with_reducible exact H) | (have H2_ := (Option.bind_some _ _).symm.trans H; rw [hy183]; with_reducible exact H2_) | (have H2_ := (Option.bind_some _ _).symm.trans H; with_reducible exact H2_) | with_reducible exact H | (rw [hy183]; exact H) | exact H
               have Ny183 := Aside0.mk hy183; clear hy183; replace H := Option.bind_eq_some_iff.mp H; obtain ⟨t186, A660, H⟩ := H; (try dsimp only at H); have A66 := Aside0.mk A660; clear A660
               by_cases c67 : t186 = true
               ·subst c67; rw [if_pos rfl] at H
                have H' := Aside0.mk H
                clear H
                try go_wp2
                have n0_ := Aside0.mk (blk_drew BK169.out); have n1_ := Aside0.mk (below_drew1 HB.out); clear BK169; clear HB; have BK169 := n0_; have HB := n1_; clear n0_ n1_
                refine start_ (n := 9) (S := fun w' => w'.cell? ⟨gb169, 0, none⟩ = some (.int .i64 ((rd_T86 l0 x17_2).f0)) ∧ w'.cell? ⟨gb169, 1, none⟩ = some (.int .i64 ((rd_T86 l0 x17_2).f1)) ∧ w'.cell? ⟨gb169, 2, none⟩ = some (.int .i64 ((rd_T86 l0 x17_2).f2)) ∧ w'.cell? ⟨gb169, 3, none⟩ = some (.int .i64 ((rd_T86 l0 x17_2).f3)) ∧ w'.cell? ⟨gb169, 4, none⟩ = some (.int .i64 ((rd_T86 l0 x17_2).f4)) ∧ w'.cell? ⟨gb169, 5, none⟩ = some (.int .i64 ((rd_T86 l0 x17_2).f5))) (ds := []) (Cmp.bm 0 9) (by kernel_rfl) rfl rfl ⟨(blk_cell BK169.out 0).trans rfl, (blk_cell BK169.out 1).trans rfl, (blk_cell BK169.out 2).trans rfl, (blk_cell BK169.out 3).trans rfl, (blk_cell BK169.out 4).trans rfl, (blk_cell BK169.out 5).trans rfl⟩ (fun hHeld => ?_); refine with_tabW impl_VerifyLog.tab18 impl_VerifyLog.bits18 (fun HT_ HW_ => ?_)
                generalize wc.drew = w68 at BK169 HB hHeld ⊢
                refine Cmp.pu HT_ 0 88 (Cmp.bm 1 8) ?_; refine Cmp.pu HT_ 5 93 (Cmp.bb 9 33) ?_; refine Cmp.tk HT_ HW_ hHeld 1 89 (Cmp.bb 9 35) ?_; refine Cmp.tk HT_ HW_ hHeld 2 90 (Cmp.bb 9 39) ?_; refine Cmp.tk HT_ HW_ hHeld 6 94 (Cmp.bb 9 103) ?_
                refine one_ (i := 3) (N := some 91) (Cmp.bb 9 111) rfl rfl (one_of HT_.out (by kernel_rfl)) (by decide) (fun K hK => ?_)
                refine goes_ Try.func42 (by kernel_rfl) rfl #[.agg #[.int .i64 ((rd_T86 l0 x17_2).f0), .int .i64 ((rd_T86 l0 x17_2).f1), .int .i64 ((rd_T86 l0 x17_2).f2), .int .i64 ((rd_T86 l0 x17_2).f3), .int .i64 ((rd_T86 l0 x17_2).f4), .int .i64 ((rd_T86 l0 x17_2).f5)]] (by rfl) rfl rfl Cmp.q ?_
                with_reducible refine (impl_EntryHash.calls kj35 ((rd_T86 l0 x17_2).f0) ((rd_T86 l0 x17_2).f1) ((rd_T86 l0 x17_2).f2) ((rd_T86 l0 x17_2).f3) ((rd_T86 l0 x17_2).f4) ((rd_T86 l0 x17_2).f5) t182 _ A65.out).mono ?_
                rintro e w69 ⟨rfl, hb⟩; refine ⟨_, rfl, ?_⟩
                have n0_ := Aside0.mk (blk_below (Cmp.b BK169.out) hb)
                have n1_ := Aside0.mk (below_step (Cmp.g HB.out) hb)
                clear BK169; clear HB; have BK169 := n0_; have HB := n1_; clear n0_ n1_; (try clear hb); (try clear hb2); (try clear hk); (try clear hi)
                refine hK.out _ _ ⟨(blk_cell BK169.out 0).trans rfl, (blk_cell BK169.out 1).trans rfl, (blk_cell BK169.out 2).trans rfl, (blk_cell BK169.out 3).trans rfl, (blk_cell BK169.out 4).trans rfl, (blk_cell BK169.out 5).trans rfl⟩ (fun hHeld => ?_)
                clear hK K
                refine norm_ (a' := ?_) ?_ ?_
                rotate_left
                ·show Act.put _ (some 91) _ = _
                 simp only [Act.put, Cmp.s, Cmp.z, Cmp.c, i64_w, i32_w]; rfl
                refine one_ (i := 4) (N := some 92) (Cmp.bm 7 2) rfl rfl (one_of HT_.out (by kernel_rfl)) (by decide) (fun K hK => ?_)
                refine Kd.R_lit_step (Kd.int .i64) _ 3 ?hg (N := 92) ?hd (xs := ([t182] : List Int)) (inner := [.int .i64 t182]) (ok := fun _ => True) (okp := fun _ => True) ?hr ?hp (fun _ hk => hk) trivial (Below.refl _ _) (Nat.le_refl _) (by simp) ?_; (case hd => rfl); (case hg => rfl); (case hr => first | (go_simp; done) | (go_simp; rfl)); (case hp => exact (Reps.one (show Kd.M (Kd.int .i64) _ _ _ t182 [.int .i64 t182] from rfl) (Reps.none _ _)))
                intro v184 w70 ho71 hb hg_ hnew_
                clear hg_ hnew_
                (first | rw [← Ny183.out] at ho71 | (simp only [Int.reduceToNat] at ho71; rw [← Ny183.out] at ho71))
                have n0_ := Aside0.mk (Kd.R_lower ho71 (below_size (Cmp.g HB.out)))
                have n1_ := Aside0.mk (blk_below (Cmp.b BK169.out) hb)
                have n2_ := Aside0.mk (below_step (Cmp.g HB.out) hb)
                clear BK169; clear HB; have HO185 := n0_; have BK169 := n1_; have HB := n2_; clear n0_ n1_ n2_; clear hb ho71
                obtain ⟨Ao72, co72, eo72⟩ := Kd.R_slice HO185.out
                (first | subst eo72 | (injection eo72 with f1_ f2_ f3_; have f4_ := f1_.symm; have f5_ := f3_.symm; clear f1_ f2_ f3_; subst f4_; subst f5_))
                refine hK.out _ _ ⟨(blk_cell BK169.out 0).trans rfl, (blk_cell BK169.out 1).trans rfl, (blk_cell BK169.out 2).trans rfl, (blk_cell BK169.out 3).trans rfl, (blk_cell BK169.out 4).trans rfl, (blk_cell BK169.out 5).trans rfl⟩ (fun hHeld => ?_)
                clear hK K
                refine norm_ (a' := ?_) ?_ ?_
                rotate_left
                ·show Act.put _ (some 92) _ = _
                 simp only [Act.put, Cmp.s, Cmp.z, Cmp.c, i64_w, i32_w]; rfl
                refine one_ (i := 7) (N := some 95) (Cmp.bm 8 1) rfl rfl (one_of HT_.out (by kernel_rfl)) (by decide) (fun K hK => ?_)
                refine goes_ Try.func66 (by kernel_rfl) rfl #[.int .i64 ((rd_T86 l0 x17_2).f3), .slice Ao72 y183.length co72, .int .i64 ((rd_T86 l0 x17_2).f5)] (by rfl) rfl rfl Cmp.q ?_
                with_reducible refine (impl_VerifySignature.calls kj35 ((rd_T86 l0 x17_2).f3) _ _ y183 ((rd_T86 l0 x17_2).f5) true _ ?side1 ?side2 A66.out).mono ?_
                (case side1 => exact Cmp.rc (Kd.R_reads' HO185.out).2.2)
                (case side2 => exact (Kd.R_reads' HO185.out).2.1)
                rintro e w73 ⟨rfl, hb⟩; refine ⟨_, rfl, ?_⟩
                have n0_ := Aside0.mk (Kd.R_below (Cmp.rr HO185.out) hb)
                have n1_ := Aside0.mk (blk_below (Cmp.b BK169.out) hb)
                have n2_ := Aside0.mk (below_step (Cmp.g HB.out) hb)
                clear HO185; clear BK169; clear HB; have HO185 := n0_; have BK169 := n1_; have HB := n2_; clear n0_ n1_ n2_; (try clear hb); (try clear hb2); (try clear hk); (try clear hi)
                refine hK.out _ _ ⟨(blk_cell BK169.out 0).trans rfl, (blk_cell BK169.out 1).trans rfl, (blk_cell BK169.out 2).trans rfl, (blk_cell BK169.out 3).trans rfl, (blk_cell BK169.out 4).trans rfl, (blk_cell BK169.out 5).trans rfl⟩ (fun hHeld => ?_)
                clear hK K
                refine norm_ (a' := ?_) ?_ ?_
                rotate_left
                ·show Act.put _ (some 95) _ = _
                 simp only [Act.put, Cmp.s, Cmp.z, Cmp.c, i64_w, i32_w]; rfl
                refine Cmp.pu HT_ 8 96 (Cmp.bm 9 0) ?_
                refine done_ (done_of HT_.out (by kernel_rfl)) ?_
                try go_wp2
                go_roundg kj35
                case measure => have := HJ1.out; have := HK2.out; have := HJ10.out; have := HJ35.out; omega
                case rel => exact ⟨(wrap64 (x17_2 + 1)), (by first | rfl | simp | simp [*]), H', ⟨by have := HJ1.out; have := HK2.out; have := HJ10.out; have := HJ35.out; omega⟩, ⟨Cmp.g HB.out⟩⟩
               ·replace c67 := Bool.eq_false_iff.mpr c67
                subst c67
                have H1 : (some false) = some r := by rw [if_neg (show ¬ (false = true) by decide)] at H; exact H
                clear H; have H := H1; clear H1
                obtain rfl := Option.some.inj H
                try go_wp2
                have n0_ := Aside0.mk (blk_drew BK169.out); have n1_ := Aside0.mk (below_drew1 HB.out); clear BK169; clear HB; have BK169 := n0_; have HB := n1_; clear n0_ n1_
                refine start_ (n := 9) (S := fun w' => w'.cell? ⟨gb169, 0, none⟩ = some (.int .i64 ((rd_T86 l0 x17_2).f0)) ∧ w'.cell? ⟨gb169, 1, none⟩ = some (.int .i64 ((rd_T86 l0 x17_2).f1)) ∧ w'.cell? ⟨gb169, 2, none⟩ = some (.int .i64 ((rd_T86 l0 x17_2).f2)) ∧ w'.cell? ⟨gb169, 3, none⟩ = some (.int .i64 ((rd_T86 l0 x17_2).f3)) ∧ w'.cell? ⟨gb169, 4, none⟩ = some (.int .i64 ((rd_T86 l0 x17_2).f4)) ∧ w'.cell? ⟨gb169, 5, none⟩ = some (.int .i64 ((rd_T86 l0 x17_2).f5))) (ds := []) (Cmp.bm 0 9) (by kernel_rfl) rfl rfl ⟨(blk_cell BK169.out 0).trans rfl, (blk_cell BK169.out 1).trans rfl, (blk_cell BK169.out 2).trans rfl, (blk_cell BK169.out 3).trans rfl, (blk_cell BK169.out 4).trans rfl, (blk_cell BK169.out 5).trans rfl⟩ (fun hHeld => ?_); refine with_tabW impl_VerifyLog.tab18 impl_VerifyLog.bits18 (fun HT_ HW_ => ?_)
                generalize wc.drew = w74 at BK169 HB hHeld ⊢
                refine Cmp.pu HT_ 0 88 (Cmp.bm 1 8) ?_; refine Cmp.pu HT_ 5 93 (Cmp.bb 9 33) ?_; refine Cmp.tk HT_ HW_ hHeld 1 89 (Cmp.bb 9 35) ?_; refine Cmp.tk HT_ HW_ hHeld 2 90 (Cmp.bb 9 39) ?_; refine Cmp.tk HT_ HW_ hHeld 6 94 (Cmp.bb 9 103) ?_
                refine one_ (i := 3) (N := some 91) (Cmp.bb 9 111) rfl rfl (one_of HT_.out (by kernel_rfl)) (by decide) (fun K hK => ?_)
                refine goes_ Try.func42 (by kernel_rfl) rfl #[.agg #[.int .i64 ((rd_T86 l0 x17_2).f0), .int .i64 ((rd_T86 l0 x17_2).f1), .int .i64 ((rd_T86 l0 x17_2).f2), .int .i64 ((rd_T86 l0 x17_2).f3), .int .i64 ((rd_T86 l0 x17_2).f4), .int .i64 ((rd_T86 l0 x17_2).f5)]] (by rfl) rfl rfl Cmp.q ?_
                with_reducible refine (impl_EntryHash.calls kj35 ((rd_T86 l0 x17_2).f0) ((rd_T86 l0 x17_2).f1) ((rd_T86 l0 x17_2).f2) ((rd_T86 l0 x17_2).f3) ((rd_T86 l0 x17_2).f4) ((rd_T86 l0 x17_2).f5) t182 _ A65.out).mono ?_
                rintro e w75 ⟨rfl, hb⟩; refine ⟨_, rfl, ?_⟩
                have n0_ := Aside0.mk (blk_below (Cmp.b BK169.out) hb)
                have n1_ := Aside0.mk (below_step (Cmp.g HB.out) hb)
                clear BK169; clear HB; have BK169 := n0_; have HB := n1_; clear n0_ n1_; (try clear hb); (try clear hb2); (try clear hk); (try clear hi)
                refine hK.out _ _ ⟨(blk_cell BK169.out 0).trans rfl, (blk_cell BK169.out 1).trans rfl, (blk_cell BK169.out 2).trans rfl, (blk_cell BK169.out 3).trans rfl, (blk_cell BK169.out 4).trans rfl, (blk_cell BK169.out 5).trans rfl⟩ (fun hHeld => ?_)
                clear hK K
                refine norm_ (a' := ?_) ?_ ?_
                rotate_left
                ·show Act.put _ (some 91) _ = _
                 simp only [Act.put, Cmp.s, Cmp.z, Cmp.c, i64_w, i32_w]; rfl
                refine one_ (i := 4) (N := some 92) (Cmp.bm 7 2) rfl rfl (one_of HT_.out (by kernel_rfl)) (by decide) (fun K hK => ?_)
                refine Kd.R_lit_step (Kd.int .i64) _ 3 ?hg (N := 92) ?hd (xs := ([t182] : List Int)) (inner := [.int .i64 t182]) (ok := fun _ => True) (okp := fun _ => True) ?hr ?hp (fun _ hk => hk) trivial (Below.refl _ _) (Nat.le_refl _) (by simp) ?_; (case hd => rfl); (case hg => rfl); (case hr => first | (go_simp; done) | (go_simp; rfl)); (case hp => exact (Reps.one (show Kd.M (Kd.int .i64) _ _ _ t182 [.int .i64 t182] from rfl) (Reps.none _ _)))
                intro v184 w76 ho77 hb hg_ hnew_
                clear hg_ hnew_
                (first | rw [← Ny183.out] at ho77 | (simp only [Int.reduceToNat] at ho77; rw [← Ny183.out] at ho77))
                have n0_ := Aside0.mk (Kd.R_lower ho77 (below_size (Cmp.g HB.out)))
                have n1_ := Aside0.mk (blk_below (Cmp.b BK169.out) hb)
                have n2_ := Aside0.mk (below_step (Cmp.g HB.out) hb)
                clear BK169; clear HB; have HO185 := n0_; have BK169 := n1_; have HB := n2_; clear n0_ n1_ n2_; clear hb ho77
                obtain ⟨Ao78, co78, eo78⟩ := Kd.R_slice HO185.out
                (first | subst eo78 | (injection eo78 with f1_ f2_ f3_; have f4_ := f1_.symm; have f5_ := f3_.symm; clear f1_ f2_ f3_; subst f4_; subst f5_))
                refine hK.out _ _ ⟨(blk_cell BK169.out 0).trans rfl, (blk_cell BK169.out 1).trans rfl, (blk_cell BK169.out 2).trans rfl, (blk_cell BK169.out 3).trans rfl, (blk_cell BK169.out 4).trans rfl, (blk_cell BK169.out 5).trans rfl⟩ (fun hHeld => ?_)
                clear hK K
                refine norm_ (a' := ?_) ?_ ?_
                rotate_left
                ·show Act.put _ (some 92) _ = _
                 simp only [Act.put, Cmp.s, Cmp.z, Cmp.c, i64_w, i32_w]; rfl
                refine one_ (i := 7) (N := some 95) (Cmp.bm 8 1) rfl rfl (one_of HT_.out (by kernel_rfl)) (by decide) (fun K hK => ?_)
                refine goes_ Try.func66 (by kernel_rfl) rfl #[.int .i64 ((rd_T86 l0 x17_2).f3), .slice Ao78 y183.length co78, .int .i64 ((rd_T86 l0 x17_2).f5)] (by rfl) rfl rfl Cmp.q ?_
                with_reducible refine (impl_VerifySignature.calls kj35 ((rd_T86 l0 x17_2).f3) _ _ y183 ((rd_T86 l0 x17_2).f5) false _ ?side1 ?side2 A66.out).mono ?_
                (case side1 => exact Cmp.rc (Kd.R_reads' HO185.out).2.2)
                (case side2 => exact (Kd.R_reads' HO185.out).2.1)
                rintro e w79 ⟨rfl, hb⟩; refine ⟨_, rfl, ?_⟩
                have n0_ := Aside0.mk (Kd.R_below (Cmp.rr HO185.out) hb)
                have n1_ := Aside0.mk (blk_below (Cmp.b BK169.out) hb)
                have n2_ := Aside0.mk (below_step (Cmp.g HB.out) hb)
                clear HO185; clear BK169; clear HB; have HO185 := n0_; have BK169 := n1_; have HB := n2_; clear n0_ n1_ n2_; (try clear hb); (try clear hb2); (try clear hk); (try clear hi)
                refine hK.out _ _ ⟨(blk_cell BK169.out 0).trans rfl, (blk_cell BK169.out 1).trans rfl, (blk_cell BK169.out 2).trans rfl, (blk_cell BK169.out 3).trans rfl, (blk_cell BK169.out 4).trans rfl, (blk_cell BK169.out 5).trans rfl⟩ (fun hHeld => ?_)
                clear hK K
                refine norm_ (a' := ?_) ?_ ?_
                rotate_left
                ·show Act.put _ (some 95) _ = _
                 simp only [Act.put, Cmp.s, Cmp.z, Cmp.c, i64_w, i32_w]; rfl
                refine Cmp.pu HT_ 8 96 (Cmp.bm 9 0) ?_
                refine done_ (done_of HT_.out (by kernel_rfl)) ?_
                try go_wp2
                go_ret
                exact ⟨by first | rfl | (simp [errW_none, errW_some] <;> rfl) | (simp [*, errW_none, errW_some] <;> rfl), Cmp.g HB.out⟩
         ·rw [if_neg c9] at H; exact absurd H (by simp)
        ·rw [if_neg c7] at H; exact absurd H (by simp)
       ·rw [if_neg c6] at H; exact absurd H (by simp)
      ·rw [if_neg c5] at H
       have c5b0 : decide (x17_2 < (l0.length : Int)) = false := decide_eq_false c5
       clear c5
       obtain rfl := Option.some.inj H
       go_wp2
       go_ret
       exact ⟨by first | rfl | (simp [errW_none, errW_some] <;> rfl) | (simp [*, errW_none, errW_some] <;> rfl), Cmp.g HB.out⟩

end Go.Proofs.Ytgcipecdaimjfaa.PFnDeviceLogs

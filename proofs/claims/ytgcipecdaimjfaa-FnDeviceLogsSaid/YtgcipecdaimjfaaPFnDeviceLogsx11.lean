/- Printed functions of the program, out of print.sh, told more shortly. No condition. -/
import Derived.Test.YtgcipecdaimjfaaCmp
import Derived.Test.YtgcipecdaimjfaaPFnDeviceLogsx0
import Derived.Test.YtgcipecdaimjfaaPFnDeviceLogsx2
import Derived.Test.YtgcipecdaimjfaaPFnDeviceLogsx4
import Derived.Test.YtgcipecdaimjfaaPFnDeviceLogsx5
import Derived.Test.YtgcipecdaimjfaaPFnDeviceLogsx10
namespace Go.Proofs.Ytgcipecdaimjfaa.PFnDeviceLogs
open Go.Proofs.Ytgcipecdaimjfaa
open Go.RowKit Go.Proofs.YtgcipecdaimjfaaW.PrintWords Go.Proofs.YtgcipecdaimjfaaW.PrintLast Go.Proofs.YtgcipecdaimjfaaW.PrintMore
attribute [local go_sem] max2_int min2_int max_two min_two max_three min_three max_four min_four   -- for this text's walks alone
set_option linter.unusedVariables false
set_option linter.unusedSimpArgs false

/-! ### laws_FnDeviceLogs: function 7 -/
def laws_FnDeviceLogs.l0 : Nat → List (S86) → List (S86) → List (S86) → Int → Option (Bool)
  | 0, _, _, _, _ => none
  | k + 1, x3, x5, x6, x7 => if x7 ≤ (x3.length : Int) then (if 0 ≤ x7 then ((impl_VerifyLog.f k (x3.take (x7 : Int).toNat)).bind fun t411 => (if t411 = true then ((impl_ExtendsLog.f k x3 (x3.take (x7 : Int).toNat)).bind fun t416 => (if t416 = true then (if 0 ≤ (wrap64 (x7 - 1)) then (if (wrap64 (x7 - 1)) ≤ (x3.length : Int) then ((impl_ExtendsLog.f k (x3.take ((wrap64 (x7 - 1)) : Int).toNat) (x3.take (x7 : Int).toNat)).bind fun t425 => (if t425 = true then (some false) else (laws_FnDeviceLogs.l0 k x3 x5 x6 (wrap64 (x7 + 1))))) else (none)) else (none)) else (some false))) else (some false))) else (none)) else ((impl_VerifyLog.f k x5).bind fun t426 => (if t426 = true then (some false) else ((impl_VerifyLog.f k x6).bind fun t427 => (if t427 = true then (some false) else ((impl_LogHead.f k x3).bind fun t428 => (if 0 ≤ (wrap64 ((x3.length : Int) - 1)) then (if (wrap64 ((x3.length : Int) - 1)) < (x3.length : Int) then ((impl_EntryHash.f k ((rd_T86 x3 (wrap64 ((x3.length : Int) - 1))).f0) ((rd_T86 x3 (wrap64 ((x3.length : Int) - 1))).f1) ((rd_T86 x3 (wrap64 ((x3.length : Int) - 1))).f2) ((rd_T86 x3 (wrap64 ((x3.length : Int) - 1))).f3) ((rd_T86 x3 (wrap64 ((x3.length : Int) - 1))).f4) ((rd_T86 x3 (wrap64 ((x3.length : Int) - 1))).f5)).bind fun t430 => (if t428 = t430 then ((impl_DevicesOf.f k x3).bind fun t431 => (if (t431.length : Int) ≥ 1 then ((impl_DevicesOf.f k x3).bind fun t434 => ((impl_EpochOf.f k x3).bind fun t437 => (some ((t434.length : Int) == (wrap64 ((x3.length : Int) - (wrap64 (2 * t437)))))))) else (some false))) else (some false))) else (none)) else (none)))))))
def laws_FnDeviceLogs.f (k : Nat) (l0 : List Int) : Option (Bool) := (laws_big.f l0).bind fun t381 => (if t381 = true then (some true) else ((spec_DrawLog.f k l0).bind fun t382 => (if (t382.length : Int) = 0 then ((impl_VerifyLog.f k t382).bind fun t385 => (if t385 = true then (some false) else ((impl_LogHead.f k t382).bind fun t386 => (if t386 = 0 then ((impl_DevicesOf.f k t382).bind fun t387 => (some ((t387.length : Int) == 0))) else (some false))))) else ((laws_at.f l0 0).bind fun t390 => ((some (([] : List (S86)) : List (S86))).bind fun y391 => (if y391.length + t382.length < 2932031007402 then ((some (y391 ++ t382 : List (S86))).bind fun y394 => ((spec_DevicePublic.f k 0 0 900 0).bind fun t397 => (if 0 ≤ (Int.tmod t390 (t382.length : Int)) then (if (Int.tmod t390 (t382.length : Int)) < (y394.length : Int) then ((some (([] : List (S86)) : List (S86))).bind fun y399 => (if y399.length + t382.length < 2932031007402 then ((some (y399 ++ t382 : List (S86))).bind fun y402 => (if (Int.tmod t390 (t382.length : Int)) < (y402.length : Int) then (laws_FnDeviceLogs.l0 k t382 (y394.set ((Int.tmod t390 (t382.length : Int)) : Int).toNat (⟨(rd_T86 y394 (Int.tmod t390 (t382.length : Int))).f0, (rd_T86 y394 (Int.tmod t390 (t382.length : Int))).f1, t397, (rd_T86 y394 (Int.tmod t390 (t382.length : Int))).f3, (rd_T86 y394 (Int.tmod t390 (t382.length : Int))).f4, (rd_T86 y394 (Int.tmod t390 (t382.length : Int))).f5⟩ : S86)) (y402.set ((Int.tmod t390 (t382.length : Int)) : Int).toNat (⟨(rd_T86 y402 (Int.tmod t390 (t382.length : Int))).f0, (rd_T86 y402 (Int.tmod t390 (t382.length : Int))).f1, (rd_T86 y402 (Int.tmod t390 (t382.length : Int))).f2, (rd_T86 y402 (Int.tmod t390 (t382.length : Int))).f3, (rd_T86 y402 (Int.tmod t390 (t382.length : Int))).f4, wrap64 (((rd_T86 y402 (Int.tmod t390 (t382.length : Int))).f5) + 1)⟩ : S86)) 1) else (none))) else (none))) else (none)) else (none)))) else (none)))))))
theorem laws_FnDeviceLogs.mono_l : ∀ k, (∀ y0 y1 y2 y3, LeO (laws_FnDeviceLogs.l0 k y0 y1 y2 y3) (laws_FnDeviceLogs.l0 (k + 1) y0 y1 y2 y3))
  | 0 => fun _ _ _ _ r h => by simp [laws_FnDeviceLogs.l0] at h
  | k + 1 => by
    have ih0 := laws_FnDeviceLogs.mono_l k
    · intro y0 y1 y2 y3
      unfold laws_FnDeviceLogs.l0
      repeat' first
      | (with_reducible exact ih0 _ _ _ _)
      | (with_reducible exact impl_DevicesOf.mono _ _)
      | (with_reducible exact impl_EntryHash.mono _ _ _ _ _ _ _)
      | (with_reducible exact impl_EpochOf.mono _ _)
      | (with_reducible exact impl_ExtendsLog.mono _ _ _)
      | (with_reducible exact impl_LogHead.mono _ _)
      | (with_reducible exact impl_VerifyLog.mono _ _)
      | (with_reducible exact spec_DevicePublic.mono _ _ _ _ _)
      | (with_reducible exact spec_DrawLog.mono _ _)
      | (with_reducible exact LeO.refl _)
      | (with_reducible exact LeO.none _)
      | (with_reducible refine LeO.ite ?_ ?_)
      | (with_reducible refine LeO.bind ?_ (fun _ => ?_))
      | exact ih0 _ _ _ _
      | exact impl_DevicesOf.mono _ _
      | exact impl_EntryHash.mono _ _ _ _ _ _ _
      | exact impl_EpochOf.mono _ _
      | exact impl_ExtendsLog.mono _ _ _
      | exact impl_LogHead.mono _ _
      | exact impl_VerifyLog.mono _ _
      | exact spec_DevicePublic.mono _ _ _ _ _
      | exact spec_DrawLog.mono _ _
      | exact LeO.none _
      | refine LeO.ite ?_ ?_
      | refine LeO.bind ?_ (fun _ => ?_)
theorem laws_FnDeviceLogs.mono : ∀ a0 k, LeO (laws_FnDeviceLogs.f k a0) (laws_FnDeviceLogs.f (k + 1) a0) := by
  intro a0 k
  have ih0 := laws_FnDeviceLogs.mono_l k
  unfold laws_FnDeviceLogs.f
  repeat' first
      | (with_reducible exact ih0 _ _ _ _)
      | (with_reducible exact impl_DevicesOf.mono _ _)
      | (with_reducible exact impl_EntryHash.mono _ _ _ _ _ _ _)
      | (with_reducible exact impl_EpochOf.mono _ _)
      | (with_reducible exact impl_ExtendsLog.mono _ _ _)
      | (with_reducible exact impl_LogHead.mono _ _)
      | (with_reducible exact impl_VerifyLog.mono _ _)
      | (with_reducible exact spec_DevicePublic.mono _ _ _ _ _)
      | (with_reducible exact spec_DrawLog.mono _ _)
      | (with_reducible exact LeO.refl _)
      | (with_reducible exact LeO.none _)
      | (with_reducible refine LeO.ite ?_ ?_)
      | (with_reducible refine LeO.bind ?_ (fun _ => ?_))
      | exact ih0 _ _ _ _
      | exact impl_DevicesOf.mono _ _
      | exact impl_EntryHash.mono _ _ _ _ _ _ _
      | exact impl_EpochOf.mono _ _
      | exact impl_ExtendsLog.mono _ _ _
      | exact impl_LogHead.mono _ _
      | exact impl_VerifyLog.mono _ _
      | exact spec_DevicePublic.mono _ _ _ _ _
      | exact spec_DrawLog.mono _ _
      | exact LeO.none _
      | refine LeO.ite ?_ ?_
      | refine LeO.bind ?_ (fun _ => ?_)
def laws_FnDeviceLogs.T14 : Bool × List (List Nat × List Nat) := (true, [([], []), ([], []), ([0, 1], [0, 1]), ([2], [2]), ([3], [3]), ([4, 3], [4]), ([5], [5]), ([5], [5]), ([5], [5]), ([7, 8, 5], [5, 7, 8]), ([6, 9, 5, 5], [5, 6, 9]), ([10, 5], [5, 10]), ([5, 11], [5, 11]), ([12, 10], [12]), ([13], [13]), ([13], [13]), ([15, 13], [13, 15]), ([14, 16, 13], [13, 14, 16]), ([13], [13]), ([13], [13]), ([18, 19, 13], [13, 18, 19]), ([17, 20, 13, 13], [13, 17, 20]), ([13, 21], [13, 21])])
def laws_FnDeviceLogs.B14 : List Nat := [0, 0, 3, 7, 15, 31, 63, 63, 63, 447, 1023, 2047, 4095, 8191, 16383, 16383, 49151, 131071, 16383, 16383, 802815, 2097151, 4194303]
theorem laws_FnDeviceLogs.tab14 : rtab .any (opsOf Try.f7 14) = laws_FnDeviceLogs.T14 := by kernel_rfl
theorem laws_FnDeviceLogs.bits14 : waitsOk laws_FnDeviceLogs.T14.2 laws_FnDeviceLogs.B14 = true := by kernel_rfl
def laws_FnDeviceLogs.T16 : Bool × List (List Nat × List Nat) := (true, [([], []), ([0], [0]), ([1], [1]), ([2, 1], [2]), ([3], [3]), ([4, 3, 3], [3, 4]), ([5, 3], [3, 5]), ([3, 6], [3, 6]), ([7, 5], [7]), ([8], [8]), ([9, 8, 8], [8, 9]), ([8], [8]), ([8], [8]), ([12, 8], [8, 12]), ([13, 8], [8, 13]), ([11, 14, 8], [8, 11, 14]), ([15, 8], [8, 15]), ([16, 10, 8], [8, 16]), ([10, 17, 8], [8, 10, 17]), ([8, 18], [8, 18]), ([19, 17], [19]), ([20], [20]), ([21, 20, 20], [20, 21]), ([22, 20], [20, 22]), ([23, 20], [20, 23]), ([20, 24], [20, 24]), ([25, 22], [25]), ([26], [26]), ([27, 26, 26], [26, 27]), ([28, 26], [26, 28]), ([26], [26]), ([30, 26], [26, 30]), ([26], [26]), ([32, 28, 26], [26, 32]), ([33, 26], [26, 33]), ([31, 34, 26], [26, 31, 34]), ([29, 35, 26], [26, 29, 35]), ([26, 36], [26, 36]), ([37, 33, 0, 1, 2, 3, 4, 5, 6, 7, 8, 9, 10, 11, 12, 13, 14, 15, 16, 17, 18, 19, 20, 21, 22, 23, 24, 25, 26, 27, 28, 29, 30, 31, 32, 33, 34, 35, 36, 37], [37])])
def laws_FnDeviceLogs.B16 : List Nat := [0, 1, 3, 7, 15, 31, 63, 127, 255, 511, 1023, 511, 511, 4607, 12799, 31231, 63999, 131071, 262143, 524287, 1048575, 2097151, 4194303, 8388607, 16777215, 33554431, 67108863, 134217727, 268435455, 536870911, 134217727, 1207959551, 134217727, 4831838207, 13421772799, 33822867455, 68719476735, 137438953471, 274877906943]
theorem laws_FnDeviceLogs.tab16 : rtab .any (opsOf Try.f7 16) = laws_FnDeviceLogs.T16 := by kernel_rfl
theorem laws_FnDeviceLogs.bits16 : waitsOk laws_FnDeviceLogs.T16.2 laws_FnDeviceLogs.B16 = true := by kernel_rfl
set_option maxHeartbeats 8000000 in
set_option maxRecDepth 100000 in
theorem laws_FnDeviceLogs.calls (k : Nat) (A0 : Option Addr) (c0 : Nat) (l0 : List Int) (r : Bool) (w : World) (hr0 : Kd.C (Kd.int .u8) w A0 l0.length l0) (hc0 : l0.length ≤ c0) (h : laws_FnDeviceLogs.f k l0 = some r) :
    Calls Try.prog 7 #[.slice A0 l0.length c0] w fun e w' => e = .returned (.bool r) ∧ Below w.heap.size w w' := by
 have hu84 := Try.underlying84; have hu86 := Try.underlying86; have HR0 := Aside0.mk hr0; have HC0 := Aside0.mk hc0; clear hr0 hc0
 have HB := Aside0.mk (Below.refl w.heap.size w)
 have H : ((laws_big.f l0).bind fun t381 => (if t381 = true then (some true) else ((spec_DrawLog.f k l0).bind fun t382 => (if (t382.length : Int) = 0 then ((impl_VerifyLog.f k t382).bind fun t385 => (if t385 = true then (some false) else ((impl_LogHead.f k t382).bind fun t386 => (if t386 = 0 then ((impl_DevicesOf.f k t382).bind fun t387 => (some ((t387.length : Int) == 0))) else (some false))))) else ((laws_at.f l0 0).bind fun t390 => ((some (([] : List (S86)) : List (S86))).bind fun y391 => (if y391.length + t382.length < 2932031007402 then ((some (y391 ++ t382 : List (S86))).bind fun y394 => ((spec_DevicePublic.f k 0 0 900 0).bind fun t397 => (if 0 ≤ (Int.tmod t390 (t382.length : Int)) then (if (Int.tmod t390 (t382.length : Int)) < (y394.length : Int) then ((some (([] : List (S86)) : List (S86))).bind fun y399 => (if y399.length + t382.length < 2932031007402 then ((some (y399 ++ t382 : List (S86))).bind fun y402 => (if (Int.tmod t390 (t382.length : Int)) < (y402.length : Int) then (laws_FnDeviceLogs.l0 k t382 (y394.set ((Int.tmod t390 (t382.length : Int)) : Int).toNat (⟨(rd_T86 y394 (Int.tmod t390 (t382.length : Int))).f0, (rd_T86 y394 (Int.tmod t390 (t382.length : Int))).f1, t397, (rd_T86 y394 (Int.tmod t390 (t382.length : Int))).f3, (rd_T86 y394 (Int.tmod t390 (t382.length : Int))).f4, (rd_T86 y394 (Int.tmod t390 (t382.length : Int))).f5⟩ : S86)) (y402.set ((Int.tmod t390 (t382.length : Int)) : Int).toNat (⟨(rd_T86 y402 (Int.tmod t390 (t382.length : Int))).f0, (rd_T86 y402 (Int.tmod t390 (t382.length : Int))).f1, (rd_T86 y402 (Int.tmod t390 (t382.length : Int))).f2, (rd_T86 y402 (Int.tmod t390 (t382.length : Int))).f3, (rd_T86 y402 (Int.tmod t390 (t382.length : Int))).f4, wrap64 (((rd_T86 y402 (Int.tmod t390 (t382.length : Int))).f5) + 1)⟩ : S86)) 1) else (none))) else (none))) else (none)) else (none)))) else (none)))))))) = some r := h
 clear h; replace H := Option.bind_eq_some_iff.mp H; obtain ⟨t381, A20, H⟩ := H; (try dsimp only at H); have A2 := Aside0.mk A20; clear A20
 by_cases c3 : t381 = true
 ·subst c3; rw [if_pos rfl] at H
  obtain rfl := Option.some.inj H
  go_enter Try.func7, Try.ntmps7
  go_wp2_with (first | ((with_reducible refine gate_callee (f := 9) rfl ?_); refine goesL_ (some 9) rfl rfl Try.func9 (by kernel_rfl) rfl #[.slice A0 l0.length c0] rfl Cmp.q ?_; (with_reducible refine (laws_big.calls _ _ l0 true _ ?side1 ?side2 A2.out).mono ?_); (case side1 => repeat (first | exact HR0.out | (with_reducible refine Kd.C_alloc ?_ _) | (with_reducible refine Kd.C_drewN ?_ _) | (with_reducible refine Kd.C_drew ?_))); (case side2 => exact HC0.out); rintro e w' ⟨rfl, ⟨nd, rfl⟩⟩; refine ⟨_, rfl, ?_⟩))
  go_ret
  exact ⟨by first | rfl | (simp [errW_none, errW_some] <;> rfl) | (simp [*, errW_none, errW_some] <;> rfl), Cmp.g HB.out⟩
 ·replace c3 := Bool.eq_false_iff.mpr c3
  subst c3
  have H1 : ((spec_DrawLog.f k l0).bind fun t382 => (if (t382.length : Int) = 0 then ((impl_VerifyLog.f k t382).bind fun t385 => (if t385 = true then (some false) else ((impl_LogHead.f k t382).bind fun t386 => (if t386 = 0 then ((impl_DevicesOf.f k t382).bind fun t387 => (some ((t387.length : Int) == 0))) else (some false))))) else ((laws_at.f l0 0).bind fun t390 => ((some (([] : List (S86)) : List (S86))).bind fun y391 => (if y391.length + t382.length < 2932031007402 then ((some (y391 ++ t382 : List (S86))).bind fun y394 => ((spec_DevicePublic.f k 0 0 900 0).bind fun t397 => (if 0 ≤ (Int.tmod t390 (t382.length : Int)) then (if (Int.tmod t390 (t382.length : Int)) < (y394.length : Int) then ((some (([] : List (S86)) : List (S86))).bind fun y399 => (if y399.length + t382.length < 2932031007402 then ((some (y399 ++ t382 : List (S86))).bind fun y402 => (if (Int.tmod t390 (t382.length : Int)) < (y402.length : Int) then (laws_FnDeviceLogs.l0 k t382 (y394.set ((Int.tmod t390 (t382.length : Int)) : Int).toNat (⟨(rd_T86 y394 (Int.tmod t390 (t382.length : Int))).f0, (rd_T86 y394 (Int.tmod t390 (t382.length : Int))).f1, t397, (rd_T86 y394 (Int.tmod t390 (t382.length : Int))).f3, (rd_T86 y394 (Int.tmod t390 (t382.length : Int))).f4, (rd_T86 y394 (Int.tmod t390 (t382.length : Int))).f5⟩ : S86)) (y402.set ((Int.tmod t390 (t382.length : Int)) : Int).toNat (⟨(rd_T86 y402 (Int.tmod t390 (t382.length : Int))).f0, (rd_T86 y402 (Int.tmod t390 (t382.length : Int))).f1, (rd_T86 y402 (Int.tmod t390 (t382.length : Int))).f2, (rd_T86 y402 (Int.tmod t390 (t382.length : Int))).f3, (rd_T86 y402 (Int.tmod t390 (t382.length : Int))).f4, wrap64 (((rd_T86 y402 (Int.tmod t390 (t382.length : Int))).f5) + 1)⟩ : S86)) 1) else (none))) else (none))) else (none)) else (none)))) else (none)))))) = some r := by rw [if_neg (show ¬ (false = true) by decide)] at H; exact H
  clear H; have H := H1; clear H1; replace H := Option.bind_eq_some_iff.mp H; obtain ⟨t382, A40, H⟩ := H; (try dsimp only at H); have A4 := Aside0.mk A40; clear A40
  by_cases c5 : (t382.length : Int) = 0
  ·rw [if_pos c5] at H
   have c5b0 : ((t382.length : Int) == 0) = true := beq_iff_eq.mpr c5
   have c5b1 : ((t382.length : Int) != 0) = false := bne_eq_false_iff_eq.mpr c5
   clear c5; replace H := Option.bind_eq_some_iff.mp H; obtain ⟨t385, A60, H⟩ := H; (try dsimp only at H); have A6 := Aside0.mk A60; clear A60
   by_cases c7 : t385 = true
   ·subst c7; rw [if_pos rfl] at H
    obtain rfl := Option.some.inj H
    go_enter Try.func7, Try.ntmps7
    go_wp2_with (first | ((with_reducible refine gate_callee (f := 9) rfl ?_); refine goesL_ (some 9) rfl rfl Try.func9 (by kernel_rfl) rfl #[.slice A0 l0.length c0] rfl Cmp.q ?_; (with_reducible refine (laws_big.calls _ _ l0 false _ ?side1 ?side2 A2.out).mono ?_); (case side1 => repeat (first | exact HR0.out | (with_reducible refine Kd.C_alloc ?_ _) | (with_reducible refine Kd.C_drewN ?_ _) | (with_reducible refine Kd.C_drew ?_))); (case side2 => exact HC0.out); rintro e w' ⟨rfl, ⟨nd, rfl⟩⟩; refine ⟨_, rfl, ?_⟩) | ((with_reducible refine gate_callee (f := 36) rfl ?_); refine goesL_ (some 11) rfl rfl Try.func36 (by kernel_rfl) rfl #[.slice A0 l0.length c0] rfl Cmp.q ?_; (with_reducible refine (spec_DrawLog.calls k _ _ l0 t382 _ ?side1 ?side2 A4.out).mono ?_); (case side1 => repeat (first | exact HR0.out | (with_reducible refine Kd.C_alloc ?_ _) | (with_reducible refine Kd.C_drewN ?_ _) | (with_reducible refine Kd.C_drew ?_))); (case side2 => exact HC0.out); rintro e w8 ⟨v383, rfl, ho0, hb⟩; refine ⟨_, rfl, ?_⟩; have n0_ := Aside0.mk (Kd.R_lower ho0 (below_size (Cmp.g HB.out))); have n1_ := Aside0.mk (below_step (Cmp.g HB.out) hb); clear HB; have HO384 := n0_; have HB := n1_; clear n0_ n1_; (try clear hb); (try clear hb2); (try clear hk); (try clear hi); (try clear ho0); obtain ⟨Ao9, co9, eo9⟩ := Kd.R_slice HO384.out; subst eo9) | ((with_reducible refine gate_callee (f := 20) rfl ?_); refine goesL_ (some 16) rfl rfl Try.func20 (by kernel_rfl) rfl #[.slice Ao9 t382.length co9] rfl Cmp.q ?_; (with_reducible refine (impl_VerifyLog.calls k _ _ t382 true _ ?side1 ?side2 A6.out).mono ?_); (case side1 => exact Cmp.rc (Kd.R_reads' HO384.out).2.2); (case side2 => exact (Kd.R_reads' HO384.out).2.1); rintro e w10 ⟨rfl, hb⟩; refine ⟨_, rfl, ?_⟩; have n0_ := Aside0.mk (Kd.R_below (Cmp.rr HO384.out) hb); have n1_ := Aside0.mk (below_step (Cmp.g HB.out) hb); clear HO384; clear HB; have HO384 := n0_; have HB := n1_; clear n0_ n1_; (try clear hb); (try clear hb2); (try clear hk); (try clear hi)))
    go_ret
    exact ⟨by first | rfl | (simp [errW_none, errW_some] <;> rfl) | (simp [*, errW_none, errW_some] <;> rfl), Cmp.g HB.out⟩
   ·replace c7 := Bool.eq_false_iff.mpr c7
    subst c7
    have H1 : ((impl_LogHead.f k t382).bind fun t386 => (if t386 = 0 then ((impl_DevicesOf.f k t382).bind fun t387 => (some ((t387.length : Int) == 0))) else (some false))) = some r := by rw [if_neg (show ¬ (false = true) by decide)] at H; exact H
    clear H; have H := H1; clear H1; replace H := Option.bind_eq_some_iff.mp H; obtain ⟨t386, A110, H⟩ := H; (try dsimp only at H); have A11 := Aside0.mk A110; clear A110
    by_cases c12 : t386 = 0
    ·rw [if_pos c12] at H; have c12b0 : (t386 == 0) = true := beq_iff_eq.mpr c12; have c12b1 : (t386 != 0) = false := bne_eq_false_iff_eq.mpr c12; clear c12; replace H := Option.bind_eq_some_iff.mp H; obtain ⟨t387, A130, H⟩ := H; (try dsimp only at H); have A13 := Aside0.mk A130; clear A130
     obtain rfl := Option.some.inj H
     go_enter Try.func7, Try.ntmps7
     go_wp2_with (first | ((with_reducible refine gate_callee (f := 9) rfl ?_); refine goesL_ (some 9) rfl rfl Try.func9 (by kernel_rfl) rfl #[.slice A0 l0.length c0] rfl Cmp.q ?_; (with_reducible refine (laws_big.calls _ _ l0 false _ ?side1 ?side2 A2.out).mono ?_); (case side1 => repeat (first | exact HR0.out | (with_reducible refine Kd.C_alloc ?_ _) | (with_reducible refine Kd.C_drewN ?_ _) | (with_reducible refine Kd.C_drew ?_))); (case side2 => exact HC0.out); rintro e w' ⟨rfl, ⟨nd, rfl⟩⟩; refine ⟨_, rfl, ?_⟩) | ((with_reducible refine gate_callee (f := 36) rfl ?_); refine goesL_ (some 11) rfl rfl Try.func36 (by kernel_rfl) rfl #[.slice A0 l0.length c0] rfl Cmp.q ?_; (with_reducible refine (spec_DrawLog.calls k _ _ l0 t382 _ ?side1 ?side2 A4.out).mono ?_); (case side1 => repeat (first | exact HR0.out | (with_reducible refine Kd.C_alloc ?_ _) | (with_reducible refine Kd.C_drewN ?_ _) | (with_reducible refine Kd.C_drew ?_))); (case side2 => exact HC0.out); rintro e w14 ⟨v383, rfl, ho0, hb⟩; refine ⟨_, rfl, ?_⟩; have n0_ := Aside0.mk (Kd.R_lower ho0 (below_size (Cmp.g HB.out))); have n1_ := Aside0.mk (below_step (Cmp.g HB.out) hb); clear HB; have HO384 := n0_; have HB := n1_; clear n0_ n1_; (try clear hb); (try clear hb2); (try clear hk); (try clear hi); (try clear ho0); obtain ⟨Ao15, co15, eo15⟩ := Kd.R_slice HO384.out; subst eo15) | ((with_reducible refine gate_callee (f := 20) rfl ?_); refine goesL_ (some 16) rfl rfl Try.func20 (by kernel_rfl) rfl #[.slice Ao15 t382.length co15] rfl Cmp.q ?_; (with_reducible refine (impl_VerifyLog.calls k _ _ t382 false _ ?side1 ?side2 A6.out).mono ?_); (case side1 => exact Cmp.rc (Kd.R_reads' HO384.out).2.2); (case side2 => exact (Kd.R_reads' HO384.out).2.1); rintro e w16 ⟨rfl, hb⟩; refine ⟨_, rfl, ?_⟩; have n0_ := Aside0.mk (Kd.R_below (Cmp.rr HO384.out) hb); have n1_ := Aside0.mk (below_step (Cmp.g HB.out) hb); clear HO384; clear HB; have HO384 := n0_; have HB := n1_; clear n0_ n1_; (try clear hb); (try clear hb2); (try clear hk); (try clear hi)) | (go_at_call 37; (with_reducible refine (impl_LogHead.calls k _ _ t382 t386 _ ?side1 ?side2 A11.out).mono ?_); (case side1 => exact Cmp.rc (Kd.R_reads' HO384.out).2.2); (case side2 => exact (Kd.R_reads' HO384.out).2.1); rintro e w17 ⟨rfl, hb⟩; have n0_ := Aside0.mk (Kd.R_below (Cmp.rr HO384.out) hb); have n1_ := Aside0.mk (below_step (Cmp.g HB.out) hb); clear HO384; clear HB; have HO384 := n0_; have HB := n1_; clear n0_ n1_; (try clear hb); (try clear hb2); (try clear hk); (try clear hi)) | (go_at_call 38; (with_reducible refine (impl_DevicesOf.calls k _ _ t382 t387 _ ?side1 ?side2 A13.out).mono ?_); (case side1 => exact Cmp.rc (Kd.R_reads' HO384.out).2.2); (case side2 => exact (Kd.R_reads' HO384.out).2.1); rintro e w18 ⟨v388, rfl, ho0, hb⟩; have n0_ := Aside0.mk (Kd.R_below (Cmp.rr HO384.out) hb); have n1_ := Aside0.mk (Kd.R_lower ho0 (below_size (Cmp.g HB.out))); have n2_ := Aside0.mk (below_step (Cmp.g HB.out) hb); clear HO384; clear HB; have HO384 := n0_; have HO389 := n1_; have HB := n2_; clear n0_ n1_ n2_; (try clear hb); (try clear hb2); (try clear hk); (try clear hi); (try clear ho0); obtain ⟨Ao19, co19, eo19⟩ := Kd.R_slice HO389.out; subst eo19))
     go_ret
     exact ⟨by first | rfl | (simp [errW_none, errW_some] <;> rfl) | (simp [*, errW_none, errW_some] <;> rfl), Cmp.g HB.out⟩
    ·rw [if_neg c12] at H; have c12b0 : (t386 == 0) = false := beq_eq_false_iff_ne.mpr c12; have c12b1 : (t386 != 0) = true := bne_iff_ne.mpr c12
     obtain rfl := Option.some.inj H
     go_enter Try.func7, Try.ntmps7
     go_wp2_with (first | ((with_reducible refine gate_callee (f := 9) rfl ?_); refine goesL_ (some 9) rfl rfl Try.func9 (by kernel_rfl) rfl #[.slice A0 l0.length c0] rfl Cmp.q ?_; (with_reducible refine (laws_big.calls _ _ l0 false _ ?side1 ?side2 A2.out).mono ?_); (case side1 => repeat (first | exact HR0.out | (with_reducible refine Kd.C_alloc ?_ _) | (with_reducible refine Kd.C_drewN ?_ _) | (with_reducible refine Kd.C_drew ?_))); (case side2 => exact HC0.out); rintro e w' ⟨rfl, ⟨nd, rfl⟩⟩; refine ⟨_, rfl, ?_⟩) | ((with_reducible refine gate_callee (f := 36) rfl ?_); refine goesL_ (some 11) rfl rfl Try.func36 (by kernel_rfl) rfl #[.slice A0 l0.length c0] rfl Cmp.q ?_; (with_reducible refine (spec_DrawLog.calls k _ _ l0 t382 _ ?side1 ?side2 A4.out).mono ?_); (case side1 => repeat (first | exact HR0.out | (with_reducible refine Kd.C_alloc ?_ _) | (with_reducible refine Kd.C_drewN ?_ _) | (with_reducible refine Kd.C_drew ?_))); (case side2 => exact HC0.out); rintro e w20 ⟨v383, rfl, ho0, hb⟩; refine ⟨_, rfl, ?_⟩; have n0_ := Aside0.mk (Kd.R_lower ho0 (below_size (Cmp.g HB.out))); have n1_ := Aside0.mk (below_step (Cmp.g HB.out) hb); clear HB; have HO384 := n0_; have HB := n1_; clear n0_ n1_; (try clear hb); (try clear hb2); (try clear hk); (try clear hi); (try clear ho0); obtain ⟨Ao21, co21, eo21⟩ := Kd.R_slice HO384.out; subst eo21) | ((with_reducible refine gate_callee (f := 20) rfl ?_); refine goesL_ (some 16) rfl rfl Try.func20 (by kernel_rfl) rfl #[.slice Ao21 t382.length co21] rfl Cmp.q ?_; (with_reducible refine (impl_VerifyLog.calls k _ _ t382 false _ ?side1 ?side2 A6.out).mono ?_); (case side1 => exact Cmp.rc (Kd.R_reads' HO384.out).2.2); (case side2 => exact (Kd.R_reads' HO384.out).2.1); rintro e w22 ⟨rfl, hb⟩; refine ⟨_, rfl, ?_⟩; have n0_ := Aside0.mk (Kd.R_below (Cmp.rr HO384.out) hb); have n1_ := Aside0.mk (below_step (Cmp.g HB.out) hb); clear HO384; clear HB; have HO384 := n0_; have HB := n1_; clear n0_ n1_; (try clear hb); (try clear hb2); (try clear hk); (try clear hi)) | (go_at_call 37; (with_reducible refine (impl_LogHead.calls k _ _ t382 t386 _ ?side1 ?side2 A11.out).mono ?_); (case side1 => exact Cmp.rc (Kd.R_reads' HO384.out).2.2); (case side2 => exact (Kd.R_reads' HO384.out).2.1); rintro e w23 ⟨rfl, hb⟩; have n0_ := Aside0.mk (Kd.R_below (Cmp.rr HO384.out) hb); have n1_ := Aside0.mk (below_step (Cmp.g HB.out) hb); clear HO384; clear HB; have HO384 := n0_; have HB := n1_; clear n0_ n1_; (try clear hb); (try clear hb2); (try clear hk); (try clear hi)))
     go_ret
     exact ⟨by first | rfl | (simp [errW_none, errW_some] <;> rfl) | (simp [*, errW_none, errW_some] <;> rfl), Cmp.g HB.out⟩
  ·rw [if_neg c5] at H
   have c5b0 : ((t382.length : Int) == 0) = false := beq_eq_false_iff_ne.mpr c5
   have c5b1 : ((t382.length : Int) != 0) = true := bne_iff_ne.mpr c5
   have c5b2 : ¬ (t382 = []) := fun h_ => c5 (by rw [h_]; rfl)
   replace H := Option.bind_eq_some_iff.mp H; obtain ⟨t390, A240, H⟩ := H; (try dsimp only at H); have A24 := Aside0.mk A240; clear A240
   obtain ⟨y391, hy391⟩ : ∃ y_ : List (S86), y_ = (([] : List (S86))) := ⟨_, rfl⟩
   replace H : (if y391.length + t382.length < 2932031007402 then ((some (y391 ++ t382 : List (S86))).bind fun y394 => ((spec_DevicePublic.f k 0 0 900 0).bind fun t397 => (if 0 ≤ (Int.tmod t390 (t382.length : Int)) then (if (Int.tmod t390 (t382.length : Int)) < (y394.length : Int) then ((some (([] : List (S86)) : List (S86))).bind fun y399 => (if y399.length + t382.length < 2932031007402 then ((some (y399 ++ t382 : List (S86))).bind fun y402 => (if (Int.tmod t390 (t382.length : Int)) < (y402.length : Int) then (laws_FnDeviceLogs.l0 k t382 (y394.set ((Int.tmod t390 (t382.length : Int)) : Int).toNat (⟨(rd_T86 y394 (Int.tmod t390 (t382.length : Int))).f0, (rd_T86 y394 (Int.tmod t390 (t382.length : Int))).f1, t397, (rd_T86 y394 (Int.tmod t390 (t382.length : Int))).f3, (rd_T86 y394 (Int.tmod t390 (t382.length : Int))).f4, (rd_T86 y394 (Int.tmod t390 (t382.length : Int))).f5⟩ : S86)) (y402.set ((Int.tmod t390 (t382.length : Int)) : Int).toNat (⟨(rd_T86 y402 (Int.tmod t390 (t382.length : Int))).f0, (rd_T86 y402 (Int.tmod t390 (t382.length : Int))).f1, (rd_T86 y402 (Int.tmod t390 (t382.length : Int))).f2, (rd_T86 y402 (Int.tmod t390 (t382.length : Int))).f3, (rd_T86 y402 (Int.tmod t390 (t382.length : Int))).f4, wrap64 (((rd_T86 y402 (Int.tmod t390 (t382.length : Int))).f5) + 1)⟩ : S86)) 1) else (none))) else (none))) else (none)) else (none)))) else (none)) = some r := by first | (rw [hy391]; with_reducible exact H) | (have H2_ := (Option.bind_some _ _).symm.trans H; rw [hy391]; with_reducible exact H2_) | (have H2_ := (Option.bind_some _ _).symm.trans H; with_reducible exact H2_) | with_reducible exact H | (rw [hy391]; exact H) | exact H
   have Ny391 := Aside0.mk hy391; clear hy391
   by_cases c25 : y391.length + t382.length < 2932031007402
   ·rw [if_pos c25] at H; have LMc25 := Aside0.mk c25; clear c25
    obtain ⟨y394, hy394⟩ : ∃ y_ : List (S86), y_ = (y391 ++ t382) := ⟨_, rfl⟩
    replace H : ((spec_DevicePublic.f k 0 0 900 0).bind fun t397 => (if 0 ≤ (Int.tmod t390 (t382.length : Int)) then (if (Int.tmod t390 (t382.length : Int)) < (y394.length : Int) then ((some (([] : List (S86)) : List (S86))).bind fun y399 => (if y399.length + t382.length < 2932031007402 then ((some (y399 ++ t382 : List (S86))).bind fun y402 => (if (Int.tmod t390 (t382.length : Int)) < (y402.length : Int) then (laws_FnDeviceLogs.l0 k t382 (y394.set ((Int.tmod t390 (t382.length : Int)) : Int).toNat (⟨(rd_T86 y394 (Int.tmod t390 (t382.length : Int))).f0, (rd_T86 y394 (Int.tmod t390 (t382.length : Int))).f1, t397, (rd_T86 y394 (Int.tmod t390 (t382.length : Int))).f3, (rd_T86 y394 (Int.tmod t390 (t382.length : Int))).f4, (rd_T86 y394 (Int.tmod t390 (t382.length : Int))).f5⟩ : S86)) (y402.set ((Int.tmod t390 (t382.length : Int)) : Int).toNat (⟨(rd_T86 y402 (Int.tmod t390 (t382.length : Int))).f0, (rd_T86 y402 (Int.tmod t390 (t382.length : Int))).f1, (rd_T86 y402 (Int.tmod t390 (t382.length : Int))).f2, (rd_T86 y402 (Int.tmod t390 (t382.length : Int))).f3, (rd_T86 y402 (Int.tmod t390 (t382.length : Int))).f4, wrap64 (((rd_T86 y402 (Int.tmod t390 (t382.length : Int))).f5) + 1)⟩ : S86)) 1) else (none))) else (none))) else (none)) else (none))) = some r := by first | (rw [hy394]; with_reducible exact H) | (have H2_ := (Option.bind_some _ _).symm.trans H; rw [hy394]; with_reducible exact H2_) | (have H2_ := (Option.bind_some _ _).symm.trans H; with_reducible exact H2_) | with_reducible exact H | (rw [hy394]; exact H) | exact H
    have Ny394 := Aside0.mk hy394; clear hy394; replace H := Option.bind_eq_some_iff.mp H; obtain ⟨t397, A260, H⟩ := H; (try dsimp only at H); have A26 := Aside0.mk A260; clear A260
    obtain ⟨ji27, hji27⟩ : ∃ j_ : Int, (Int.tmod t390 (t382.length : Int)) = j_ := ⟨_, rfl⟩
    replace H : (if 0 ≤ (ji27) then (if (ji27) < (y394.length : Int) then ((some (([] : List (S86)) : List (S86))).bind fun y399 => (if y399.length + t382.length < 2932031007402 then ((some (y399 ++ t382 : List (S86))).bind fun y402 => (if (ji27) < (y402.length : Int) then (laws_FnDeviceLogs.l0 k t382 (y394.set ((ji27) : Int).toNat (⟨(rd_T86 y394 (ji27)).f0, (rd_T86 y394 (ji27)).f1, t397, (rd_T86 y394 (ji27)).f3, (rd_T86 y394 (ji27)).f4, (rd_T86 y394 (ji27)).f5⟩ : S86)) (y402.set ((ji27) : Int).toNat (⟨(rd_T86 y402 (ji27)).f0, (rd_T86 y402 (ji27)).f1, (rd_T86 y402 (ji27)).f2, (rd_T86 y402 (ji27)).f3, (rd_T86 y402 (ji27)).f4, wrap64 (((rd_T86 y402 (ji27)).f5) + 1)⟩ : S86)) 1) else (none))) else (none))) else (none)) else (none)) = some r := by first | (rw [hji27] at H; exact H) | (simp only [hji27] at H ⊢; exact H)
    (try rw [hji27] at A2)
    (try rw [hji27] at A4)
    (try rw [hji27] at A24)
    (try rw [hji27] at A26)
    by_cases c28 : 0 ≤ (ji27)
    ·rw [if_pos c28] at H; have c28b0 : decide (0 ≤ (ji27)) = true := decide_eq_true c28; clear c28
     by_cases c29 : (ji27) < (y394.length : Int)
     ·rw [if_pos c29] at H
      have c29b0 : decide ((ji27) < (y394.length : Int)) = true := decide_eq_true c29
      clear c29
      obtain ⟨y398, hy398⟩ : ∃ y_ : List (S86), y_ = (y394.set ((ji27) : Int).toNat (⟨(rd_T86 y394 (ji27)).f0, (rd_T86 y394 (ji27)).f1, t397, (rd_T86 y394 (ji27)).f3, (rd_T86 y394 (ji27)).f4, (rd_T86 y394 (ji27)).f5⟩ : S86)) := ⟨_, rfl⟩
      replace H : ((some (([] : List (S86)) : List (S86))).bind fun y399 => (if y399.length + t382.length < 2932031007402 then ((some (y399 ++ t382 : List (S86))).bind fun y402 => (if (ji27) < (y402.length : Int) then (laws_FnDeviceLogs.l0 k t382 y398 (y402.set ((ji27) : Int).toNat (⟨(rd_T86 y402 (ji27)).f0, (rd_T86 y402 (ji27)).f1, (rd_T86 y402 (ji27)).f2, (rd_T86 y402 (ji27)).f3, (rd_T86 y402 (ji27)).f4, wrap64 (((rd_T86 y402 (ji27)).f5) + 1)⟩ : S86)) 1) else (none))) else (none))) = some r := by first | (rw [hy398]; with_reducible exact H) | (have H2_ := (Option.bind_some _ _).symm.trans H; rw [hy398]; with_reducible exact H2_) | (have H2_ := (Option.bind_some _ _).symm.trans H; with_reducible exact H2_) | with_reducible exact H | (rw [hy398]; exact H) | exact H
      have Ny398 := Aside0.mk hy398; clear hy398
      obtain ⟨y399, hy399⟩ : ∃ y_ : List (S86), y_ = (([] : List (S86))) := ⟨_, rfl⟩
      replace H : (if y399.length + t382.length < 2932031007402 then ((some (y399 ++ t382 : List (S86))).bind fun y402 => (if (ji27) < (y402.length : Int) then (laws_FnDeviceLogs.l0 k t382 y398 (y402.set ((ji27) : Int).toNat (⟨(rd_T86 y402 (ji27)).f0, (rd_T86 y402 (ji27)).f1, (rd_T86 y402 (ji27)).f2, (rd_T86 y402 (ji27)).f3, (rd_T86 y402 (ji27)).f4, wrap64 (((rd_T86 y402 (ji27)).f5) + 1)⟩ : S86)) 1) else (none))) else (none)) = some r := by first | (rw [hy399]; with_reducible exact H) | (have H2_ := (Option.bind_some _ _).symm.trans H; rw [hy399]; with_reducible exact H2_) | (have H2_ := (Option.bind_some _ _).symm.trans H; with_reducible exact H2_) | with_reducible exact H | (rw [hy399]; exact H) | exact H
      have Ny399 := Aside0.mk hy399; clear hy399
      by_cases c31 : y399.length + t382.length < 2932031007402
      ·rw [if_pos c31] at H; have LMc31 := Aside0.mk c31; clear c31
       obtain ⟨y402, hy402⟩ : ∃ y_ : List (S86), y_ = (y399 ++ t382) := ⟨_, rfl⟩
       replace H : (if (ji27) < (y402.length : Int) then (laws_FnDeviceLogs.l0 k t382 y398 (y402.set ((ji27) : Int).toNat (⟨(rd_T86 y402 (ji27)).f0, (rd_T86 y402 (ji27)).f1, (rd_T86 y402 (ji27)).f2, (rd_T86 y402 (ji27)).f3, (rd_T86 y402 (ji27)).f4, wrap64 (((rd_T86 y402 (ji27)).f5) + 1)⟩ : S86)) 1) else (none)) = some r := by first | (rw [hy402]; with_reducible exact H) | (have H2_ := (Option.bind_some _ _).symm.trans H; rw [hy402]; with_reducible exact H2_) | (have H2_ := (Option.bind_some _ _).symm.trans H; with_reducible exact H2_) | with_reducible exact H | (rw [hy402]; exact H) | exact H
       have Ny402 := Aside0.mk hy402; clear hy402
       by_cases c32 : (ji27) < (y402.length : Int)
       ·rw [if_pos c32] at H
        have c32b0 : decide ((ji27) < (y402.length : Int)) = true := decide_eq_true c32
        clear c32
        obtain ⟨y406, hy406⟩ : ∃ y_ : List (S86), y_ = (y402.set ((ji27) : Int).toNat (⟨(rd_T86 y402 (ji27)).f0, (rd_T86 y402 (ji27)).f1, (rd_T86 y402 (ji27)).f2, (rd_T86 y402 (ji27)).f3, (rd_T86 y402 (ji27)).f4, wrap64 (((rd_T86 y402 (ji27)).f5) + 1)⟩ : S86)) := ⟨_, rfl⟩
        replace H : (laws_FnDeviceLogs.l0 k t382 y398 y406 1) = some r := by first | (rw [hy406]; with_reducible exact H) | (have H2_ := (Option.bind_some _ _).symm.trans H; rw [hy406]; with_reducible exact H2_) | (have H2_ := (Option.bind_some _ _).symm.trans H; with_reducible exact H2_) | with_reducible exact H | (rw [hy406]; exact H) | exact H
        have Ny406 := Aside0.mk hy406; clear hy406
        have H' := Aside0.mk H
        clear H
        go_enter Try.func7, Try.ntmps7
        go_wp2_with (first | ((with_reducible refine gate_callee (f := 9) rfl ?_); refine goesL_ (some 9) rfl rfl Try.func9 (by kernel_rfl) rfl #[.slice A0 l0.length c0] rfl Cmp.q ?_; (with_reducible refine (laws_big.calls _ _ l0 false _ ?side1 ?side2 A2.out).mono ?_); (case side1 => repeat (first | exact HR0.out | (with_reducible refine Kd.C_alloc ?_ _) | (with_reducible refine Kd.C_drewN ?_ _) | (with_reducible refine Kd.C_drew ?_))); (case side2 => exact HC0.out); rintro e w' ⟨rfl, ⟨nd, rfl⟩⟩; refine ⟨_, rfl, ?_⟩) | ((with_reducible refine gate_callee (f := 36) rfl ?_); refine goesL_ (some 11) rfl rfl Try.func36 (by kernel_rfl) rfl #[.slice A0 l0.length c0] rfl Cmp.q ?_; (with_reducible refine (spec_DrawLog.calls k _ _ l0 t382 _ ?side1 ?side2 A4.out).mono ?_); (case side1 => repeat (first | exact HR0.out | (with_reducible refine Kd.C_alloc ?_ _) | (with_reducible refine Kd.C_drewN ?_ _) | (with_reducible refine Kd.C_drew ?_))); (case side2 => exact HC0.out); rintro e w34 ⟨v383, rfl, ho0, hb⟩; refine ⟨_, rfl, ?_⟩; have n0_ := Aside0.mk (Kd.R_lower ho0 (below_size (Cmp.g HB.out))); have n1_ := Aside0.mk (below_step (Cmp.g HB.out) hb); clear HB; have HO384 := n0_; have HB := n1_; clear n0_ n1_; (try clear hb); (try clear hb2); (try clear hk); (try clear hi); (try clear ho0); obtain ⟨Ao35, co35, eo35⟩ := Kd.R_slice HO384.out; subst eo35) | ((with_reducible refine gate_callee (f := 39) rfl ?_); refine goesL_ (some 30) rfl rfl Try.func39 (by kernel_rfl) rfl #[.slice A0 l0.length c0, .int .i64 0] rfl Cmp.q ?_; (with_reducible refine (laws_at.calls _ _ l0 0 t390 _ ?side1 ?side2 A24.out).mono ?_); (case side1 => exact Cmp.rc (Kd.C_below HR0.out HB.out)); (case side2 => exact HC0.out); rintro e w' ⟨rfl, ⟨nd, rfl⟩⟩; refine ⟨_, rfl, ?_⟩; (try (rw [drewN_self w34]; generalize hq_ : World.drewN w34 _ = w34; have n0_ : Aside0 (Kd.R k86 86 w34 w.heap.size (fun _ => True) (.slice Ao35 t382.length co35) t382) := ⟨by rw [← hq_]; exact (Cmp.rr HO384.out)⟩; have n1_ : Aside0 (Below w.heap.size w w34) := ⟨by rw [← hq_]; exact (Cmp.g HB.out)⟩; clear HO384 HB hq_; have HO384 := n0_; have HB := n1_; clear n0_ n1_))) | ((with_reducible refine gate_dst (N := 34) rfl ?_); (try (refine gate_guard (by rfl) ?_; dsimp only)); refine Kd.R_lit k86 _ 86 ?hg (N := 34) ?hd (xs := ([] : List (S86))) (inner := []) (ok := fun _ => True) (okp := fun _ => True) ?hr ?hp (fun _ hk => hk) trivial (Below.refl _ _) (Nat.le_refl _) (by simp) ?_; (case hd => rfl); (case hg => rfl); (case hr => first | (go_simp; done) | (go_simp; rfl)); (case hp => exact (Reps.none _ _)); intro v392 w36 ho37 hb hg_ hnew_; clear hg_ hnew_; (first | rw [← Ny391.out] at ho37 | (simp only [Int.reduceToNat] at ho37; rw [← Ny391.out] at ho37)); have n0_ := Aside0.mk (Kd.R_elder' (Cmp.rr HO384.out) (Kd.R_base ho37) hb); have n1_ := Aside0.mk (Kd.R_lower (Kd.R_new' ho37 (Kd.R_lt (Cmp.rr HO384.out))) (below_size (Cmp.g HB.out))); have n2_ := Aside0.mk (below_step (Cmp.g HB.out) hb); clear HO384; clear HB; have HO384 := n0_; have HO393 := n1_; have HB := n2_; clear n0_ n1_ n2_; clear hb ho37) | ((with_reducible refine gate_builtin (b := .append) (xs := #[.tmp 34, .tmp 35]) rfl ?_); (try (refine gate_guard (by rfl) ?_; dsimp only)); at_builtin; refine Kd.R_append_rows k86 (w0 := w) w.heap.size rfl (.tmp 34) (.tmp 35) 40 86 (.agg #[(.int .i64 0), (.int .i64 0), (.int .i64 0), (.int .i64 0), (.int .i64 0), (.int .i64 0)]) 48 rfl Try.underlying40 info86 rfl (by decide) (by omega) v392 y391 t382 _ _ _ (fun k_ => some k_ ≠ (.slice Ao35 t382.length co35 : Value).ownBlock) (fun _ => False) rfl rfl ?aO ?aR (fun _ _ h => h) (fun _ h => h.elim) ?aF ?aB ?aS ?aL ?_; (case aR => repeat (first | exact (Kd.R_reads' HO384.out).2.2 | (with_reducible refine Kd.C_alloc ?_ _) | (with_reducible refine Kd.C_drewN ?_ _) | (with_reducible refine Kd.C_drew ?_))); (case aB => exact (Cmp.g HB.out)); (case aF => exact (fun k_ hk => Kd.fresh' (Kd.R_lt (Cmp.rr HO384.out)) k_ hk)); (case aO => exact (by (with_reducible repeat (first | apply Kd.R_alloc | apply Kd.R_drewN | apply Kd.R_drew)); exact Kd.R_mono HO393.out (fun _ hk => hk.2))); (case aS => exact (below_size (Cmp.g HB.out))); (case aL => have := LMc25.out; omega); intro v395 w38 ho hb hg hat; rw [← Ny394.out] at ho; have n0_ := Aside0.mk (Kd.R_after (ok := (fun _ => True)) (Cmp.rr HO384.out) hg hat); have n1_ := Aside0.mk (hb); have n2_ := Aside0.mk (ho); clear HO384; clear HB; clear HO393; have HO384 := n0_; have HB := n1_; have HO396 := n2_; clear n0_ n1_ n2_; clear ho hb hg hat) | ((with_reducible refine gate_callee (f := 40) rfl ?_); refine goesL_ (some 40) rfl rfl Try.func40 (by kernel_rfl) rfl #[.agg #[.int .i64 0, .int .i64 0, .int .i64 900, .int .i64 0]] rfl Cmp.q ?_; (with_reducible refine (spec_DevicePublic.calls k 0 0 900 0 t397 _ A26.out).mono ?_); rintro e w39 ⟨rfl, hb⟩; refine ⟨_, rfl, ?_⟩; have n0_ := Aside0.mk (Kd.R_below (Cmp.rr HO384.out) hb); have n1_ := Aside0.mk (Kd.R_below (Cmp.rr HO396.out) hb); have n2_ := Aside0.mk (below_step (Cmp.g HB.out) hb); clear HO384; clear HO396; clear HB; have HO384 := n0_; have HO396 := n1_; have HB := n2_; clear n0_ n1_ n2_; (try clear hb); (try clear hb2); (try clear hk); (try clear hi); have p30 : 0 ≤ ((ji27) : Int) := of_decide_eq_true Cmp.d; have q30 : ((ji27) : Int) < ((y394.length : Int) : Int) := of_decide_eq_true Cmp.d; obtain ⟨go30, co30, eo30, gb30, gl30, cl30, HG30⟩ := Kd.R_form HO396.out (by omega); (first | cases eo30 | (injection eo30 with ea_ en_ ec_; (first | subst ea_ | (injection ea_ with ea_; subst ea_)); subst ec_; clear en_)); have GB30 := Aside0.mk gb30; have GG30 := Aside0.mk HG30; clear gb30 gl30 HG30; obtain ⟨ce30, hcl30, hM30, hcc30, hfr30⟩ := Kd.R_elem HO396.out z86 ((ji27) : Int) p30 q30; obtain rfl := k86_openM hM30; have hx30_0 : w39.cell? ⟨go30, ((ji27) : Int).toNat * 6, none⟩ = some (.int .i64 ((rd_T86 y394 (ji27)).f0)) := hcc30 0 _ rfl; have hx30_1 : w39.cell? ⟨go30, ((ji27) : Int).toNat * 6 + 1, none⟩ = some (.int .i64 ((rd_T86 y394 (ji27)).f1)) := hcc30 1 _ rfl; have hx30_2 : w39.cell? ⟨go30, ((ji27) : Int).toNat * 6 + 2, none⟩ = some (.int .i64 ((rd_T86 y394 (ji27)).f2)) := hcc30 2 _ rfl; have hx30_3 : w39.cell? ⟨go30, ((ji27) : Int).toNat * 6 + 3, none⟩ = some (.int .i64 ((rd_T86 y394 (ji27)).f3)) := hcc30 3 _ rfl; have hx30_4 : w39.cell? ⟨go30, ((ji27) : Int).toNat * 6 + 4, none⟩ = some (.int .i64 ((rd_T86 y394 (ji27)).f4)) := hcc30 4 _ rfl; have hx30_5 : w39.cell? ⟨go30, ((ji27) : Int).toNat * 6 + 5, none⟩ = some (.int .i64 ((rd_T86 y394 (ji27)).f5)) := hcc30 5 _ rfl; have hf30_0 : w39.frozen? ⟨go30, ((ji27) : Int).toNat * 6, none⟩ = false := hfr30 0; have hf30_1 : w39.frozen? ⟨go30, ((ji27) : Int).toNat * 6 + 1, none⟩ = false := hfr30 1; have hf30_2 : w39.frozen? ⟨go30, ((ji27) : Int).toNat * 6 + 2, none⟩ = false := hfr30 2; have hf30_3 : w39.frozen? ⟨go30, ((ji27) : Int).toNat * 6 + 3, none⟩ = false := hfr30 3; have hf30_4 : w39.frozen? ⟨go30, ((ji27) : Int).toNat * 6 + 4, none⟩ = false := hfr30 4; have hf30_5 : w39.frozen? ⟨go30, ((ji27) : Int).toNat * 6 + 5, none⟩ = false := hfr30 5; clear hcl30 hcc30 hfr30 hM30; replace p30 := eq_true p30; replace q30 := eq_true q30; have HX40 := Aside0.mk (show Kd.R k86 86 w39 w.heap.size (fun k_ => some k_ ≠ (.slice Ao35 t382.length co35 : Value).ownBlock) (.slice (some ⟨go30, 0, none⟩) y394.length co30) y394 from (Cmp.rr HO396.out)); obtain ⟨ce40, hcl40, hM40, hcc40, hfr40⟩ := Kd.R_elem HX40.out z86 ((ji27) : Int) (of_decide_eq_true Cmp.d) (by have h_ : ((ji27) : Int) < ((y394.length : Int) : Int) := of_decide_eq_true Cmp.d; first | exact h_ | (have e_ := (Kd.R_reads' HO396.out).1; omega) | simpa using h_); obtain rfl := k86_openM hM40; have HP40 := Kd.R_seg HX40.out ((ji27) : Int) (of_decide_eq_true Cmp.d) (by have h_ : ((ji27) : Int) < ((y394.length : Int) : Int) := of_decide_eq_true Cmp.d; first | exact h_ | (have e_ := (Kd.R_reads' HO396.out).1; omega) | simpa using h_) (seg := [.int .i64 t397]) (j := 2) hcl40 hcc40 (show 3 ≤ 6 from by decide) (x' := (⟨(rd_T86 y394 (ji27)).f0, (rd_T86 y394 (ji27)).f1, t397, (rd_T86 y394 (ji27)).f3, (rd_T86 y394 (ji27)).f4, (rd_T86 y394 (ji27)).f5⟩ : S86)) (k86_mkM _ _ _ (⟨(rd_T86 y394 (ji27)).f0, (rd_T86 y394 (ji27)).f1, t397, (rd_T86 y394 (ji27)).f3, (rd_T86 y394 (ji27)).f4, (rd_T86 y394 (ji27)).f5⟩ : S86) ) (fun _ hk => hk); have hx40_2 := hcc40 2 _ rfl; (try simp only [show (k86).sz = 6 from rfl, Nat.mul_one, Nat.add_zero] at hx40_2); have hf40_2 := hfr40 2; (try simp only [show (k86).sz = 6 from rfl, Nat.mul_one, Nat.add_zero] at hf40_2); clear hcl40 hcc40 hfr40 hM40) | ((with_reducible refine gate_store (t := 3) (p := 42) rfl ?_); refine store_event (t := 3) (p := 42) (v := ?vo_w41) (w1 := (w39.setCell ⟨go30, ((ji27) : Int).toNat * 6 + 2, none⟩ (.int .i64 t397))) ?hg ?ho ?hn ?hr ?_; (case ho => rfl); (case hg => rfl); (case hn => rfl); (case hr => first | (go_simp; done) | (go_simp; rfl)); intro w41 hw; have hg : w39.grownBy w41 (some go30) := (by rw [hw]; exact HP40.2); have hp_ : Kd.R k86 86 w41 w.heap.size (fun k_ => some k_ ≠ (.slice Ao35 t382.length co35 : Value).ownBlock) (.slice (some ⟨go30, 0, none⟩) y394.length co30) y398 := (by rw [hw, Ny398.out]; exact HP40.1); clear HP40; have n0_ := Aside0.mk (Kd.R_after (v := (.slice (some ⟨go30, 0, none⟩) y394.length co30)) (v1 := (.slice (some ⟨go30, 0, none⟩) y394.length co30)) (ok := (fun _ => True)) (Cmp.rr HO384.out) hg (.inl rfl)); have n1_ := Aside0.mk (hp_); have n2_ := Aside0.mk ((by rw [hw]; exact below_set (HB.out) GB30.out : Below w.heap.size w w41)); clear HO384; clear HO396; clear HB; have HO384 := n0_; have HO396 := n1_; have HB := n2_; clear n0_ n1_ n2_; clear hg hw hp_) | ((with_reducible refine gate_dst (N := 43) rfl ?_); (try (refine gate_guard (by rfl) ?_; dsimp only)); refine Kd.R_lit k86 _ 86 ?hg (N := 43) ?hd (xs := ([] : List (S86))) (inner := []) (ok := fun _ => True) (okp := fun _ => True) ?hr ?hp (fun _ hk => hk) trivial (Below.refl _ _) (Nat.le_refl _) (by simp) ?_; (case hd => rfl); (case hg => rfl); (case hr => first | (go_simp; done) | (go_simp; rfl)); (case hp => exact (Reps.none _ _)); intro v400 w42 ho43 hb hg_ hnew_; clear hg_ hnew_; (first | rw [← Ny399.out] at ho43 | (simp only [Int.reduceToNat] at ho43; rw [← Ny399.out] at ho43)); have n0_ := Aside0.mk (Kd.R_elder' (Cmp.rr HO384.out) (Kd.R_base ho43) hb); have n1_ := Aside0.mk (Kd.R_elder' (Cmp.rr HO396.out) (Kd.R_base ho43) hb); have n2_ := Aside0.mk (Kd.R_lower (Kd.R_new' (Kd.R_new' ho43 (Kd.R_lt (Cmp.rr HO384.out))) (Kd.R_lt (Cmp.rr HO396.out))) (below_size (Cmp.g HB.out))); have n3_ := Aside0.mk (below_step (Cmp.g HB.out) hb); clear HO384; clear HO396; clear HB; have HO384 := n0_; have HO396 := n1_; have HO401 := n2_; have HB := n3_; clear n0_ n1_ n2_ n3_; clear hb ho43) | ((with_reducible refine gate_builtin (b := .append) (xs := #[.tmp 43, .tmp 44]) rfl ?_); (try (refine gate_guard (by rfl) ?_; dsimp only)); at_builtin; refine Kd.R_append_rows k86 (w0 := w) w.heap.size rfl (.tmp 43) (.tmp 44) 40 86 (.agg #[(.int .i64 0), (.int .i64 0), (.int .i64 0), (.int .i64 0), (.int .i64 0), (.int .i64 0)]) 48 rfl Try.underlying40 info86 rfl (by decide) (by omega) v400 y399 t382 _ _ _ (fun k_ => some k_ ≠ (.slice Ao35 t382.length co35 : Value).ownBlock ∧ some k_ ≠ (.slice (some ⟨go30, 0, none⟩) y394.length co30 : Value).ownBlock) (fun _ => False) rfl rfl ?aO ?aR (fun _ _ h => h) (fun _ h => h.elim) ?aF ?aB ?aS ?aL ?_; (case aR => repeat (first | exact (Kd.R_reads' HO384.out).2.2 | (with_reducible refine Kd.C_alloc ?_ _) | (with_reducible refine Kd.C_drewN ?_ _) | (with_reducible refine Kd.C_drew ?_))); (case aB => exact (Cmp.g HB.out)); (case aF => exact (fun k_ hk => ⟨Kd.fresh' (Kd.R_lt (Cmp.rr HO384.out)) k_ hk, Kd.fresh' (Kd.R_lt (Cmp.rr HO396.out)) k_ hk⟩)); (case aO => exact (by (with_reducible repeat (first | apply Kd.R_alloc | apply Kd.R_drewN | apply Kd.R_drew)); exact Kd.R_mono HO401.out (fun _ hk => ⟨hk.1.2, hk.2⟩))); (case aS => exact (below_size (Cmp.g HB.out))); (case aL => have := LMc31.out; omega); intro v403 w44 ho hb hg hat; rw [← Ny402.out] at ho; have n0_ := Aside0.mk (Kd.R_after (ok := (fun k_ => some k_ ≠ (.slice (some ⟨go30, 0, none⟩) y394.length co30 : Value).ownBlock)) (by (with_reducible repeat (first | apply Kd.R_alloc | apply Kd.R_drewN | apply Kd.R_drew)); exact Kd.R_mono HO384.out (fun _ hk => ⟨hk.1.2, hk.2⟩)) hg hat); have n1_ := Aside0.mk (Kd.R_after (ok := (fun k_ => some k_ ≠ (.slice Ao35 t382.length co35 : Value).ownBlock)) (Cmp.rr HO396.out) hg hat); have n2_ := Aside0.mk (hb); have n3_ := Aside0.mk (ho); clear HO384; clear HO396; clear HB; clear HO401; have HO384 := n0_; have HO396 := n1_; have HB := n2_; have HO404 := n3_; clear n0_ n1_ n2_ n3_; clear ho hb hg hat; obtain ⟨Ao45, co45, eo45⟩ := Kd.R_slice HO404.out; subst eo45; have p405 : 0 ≤ ((ji27) : Int) := of_decide_eq_true Cmp.d; have q405 : (ji27) < (y402.length : Int) := of_decide_eq_true Cmp.d; obtain ⟨ad405, e405, hx405_0, hx405_1, hx405_2, hx405_3, hx405_4, hx405_5⟩ := at_T86 (Kd.R_reads' HO404.out).2.2 (ji27) p405 q405; cases e405; replace p405 := eq_true p405; replace q405 := eq_true q405; have p33 : 0 ≤ ((ji27) : Int) := of_decide_eq_true Cmp.d; have q33 : ((ji27) : Int) < ((y402.length : Int) : Int) := of_decide_eq_true Cmp.d; obtain ⟨go33, co33, eo33, gb33, gl33, cl33, HG33⟩ := Kd.R_form HO404.out (by omega); (first | cases eo33 | (injection eo33 with ea_ en_ ec_; (first | subst ea_ | (injection ea_ with ea_; subst ea_)); subst ec_; clear en_)); have GB33 := Aside0.mk gb33; have GG33 := Aside0.mk HG33; clear gb33 gl33 HG33; (first | simp only [add_plain] at hx405_0 | skip); (first | simp only [add_plain] at hx405_1 | skip); (first | simp only [add_plain] at hx405_2 | skip); (first | simp only [add_plain] at hx405_3 | skip); (first | simp only [add_plain] at hx405_4 | skip); (first | simp only [add_plain] at hx405_5 | skip); obtain ⟨ce33, hcl33, hM33, hcc33, hfr33⟩ := Kd.R_elem HO404.out z86 ((ji27) : Int) p33 q33; obtain rfl := k86_openM hM33; have hx33_0 : w44.cell? ⟨go33, ((ji27) : Int).toNat * 6, none⟩ = some (.int .i64 ((rd_T86 y402 (ji27)).f0)) := hcc33 0 _ rfl; have hx33_1 : w44.cell? ⟨go33, ((ji27) : Int).toNat * 6 + 1, none⟩ = some (.int .i64 ((rd_T86 y402 (ji27)).f1)) := hcc33 1 _ rfl; have hx33_2 : w44.cell? ⟨go33, ((ji27) : Int).toNat * 6 + 2, none⟩ = some (.int .i64 ((rd_T86 y402 (ji27)).f2)) := hcc33 2 _ rfl; have hx33_3 : w44.cell? ⟨go33, ((ji27) : Int).toNat * 6 + 3, none⟩ = some (.int .i64 ((rd_T86 y402 (ji27)).f3)) := hcc33 3 _ rfl; have hx33_4 : w44.cell? ⟨go33, ((ji27) : Int).toNat * 6 + 4, none⟩ = some (.int .i64 ((rd_T86 y402 (ji27)).f4)) := hcc33 4 _ rfl; have hx33_5 : w44.cell? ⟨go33, ((ji27) : Int).toNat * 6 + 5, none⟩ = some (.int .i64 ((rd_T86 y402 (ji27)).f5)) := hcc33 5 _ rfl; have hf33_0 : w44.frozen? ⟨go33, ((ji27) : Int).toNat * 6, none⟩ = false := hfr33 0; have hf33_1 : w44.frozen? ⟨go33, ((ji27) : Int).toNat * 6 + 1, none⟩ = false := hfr33 1; have hf33_2 : w44.frozen? ⟨go33, ((ji27) : Int).toNat * 6 + 2, none⟩ = false := hfr33 2; have hf33_3 : w44.frozen? ⟨go33, ((ji27) : Int).toNat * 6 + 3, none⟩ = false := hfr33 3; have hf33_4 : w44.frozen? ⟨go33, ((ji27) : Int).toNat * 6 + 4, none⟩ = false := hfr33 4; have hf33_5 : w44.frozen? ⟨go33, ((ji27) : Int).toNat * 6 + 5, none⟩ = false := hfr33 5; clear hcl33 hcc33 hfr33 hM33; replace p33 := eq_true p33; replace q33 := eq_true q33; have HX46 := Aside0.mk (show Kd.R k86 86 w44 w.heap.size (fun k_ => some k_ ≠ (.slice Ao35 t382.length co35 : Value).ownBlock ∧ some k_ ≠ (.slice (some ⟨go30, 0, none⟩) y394.length co30 : Value).ownBlock) (.slice (some ⟨go33, 0, none⟩) y402.length co45) y402 from (Cmp.rr HO404.out)); obtain ⟨ce46, hcl46, hM46, hcc46, hfr46⟩ := Kd.R_elem HX46.out z86 ((ji27) : Int) (of_decide_eq_true Cmp.d) (by have h_ : ((ji27) : Int) < ((y402.length : Int) : Int) := of_decide_eq_true Cmp.d; first | exact h_ | (have e_ := (Kd.R_reads' HO404.out).1; omega) | simpa using h_); obtain rfl := k86_openM hM46; have HP46 := Kd.R_seg HX46.out ((ji27) : Int) (of_decide_eq_true Cmp.d) (by have h_ : ((ji27) : Int) < ((y402.length : Int) : Int) := of_decide_eq_true Cmp.d; first | exact h_ | (have e_ := (Kd.R_reads' HO404.out).1; omega) | simpa using h_) (seg := [.int .i64 (wrap64 (((rd_T86 y402 (ji27)).f5) + 1))]) (j := 5) hcl46 hcc46 (show 6 ≤ 6 from by decide) (x' := (⟨(rd_T86 y402 (ji27)).f0, (rd_T86 y402 (ji27)).f1, (rd_T86 y402 (ji27)).f2, (rd_T86 y402 (ji27)).f3, (rd_T86 y402 (ji27)).f4, wrap64 (((rd_T86 y402 (ji27)).f5) + 1)⟩ : S86)) (k86_mkM _ _ _ (⟨(rd_T86 y402 (ji27)).f0, (rd_T86 y402 (ji27)).f1, (rd_T86 y402 (ji27)).f2, (rd_T86 y402 (ji27)).f3, (rd_T86 y402 (ji27)).f4, wrap64 (((rd_T86 y402 (ji27)).f5) + 1)⟩ : S86) ) (fun _ hk => hk); have hx46_5 := hcc46 5 _ rfl; (try simp only [show (k86).sz = 6 from rfl, Nat.mul_one, Nat.add_zero] at hx46_5); have hf46_5 := hfr46 5; (try simp only [show (k86).sz = 6 from rfl, Nat.mul_one, Nat.add_zero] at hf46_5); clear hcl46 hcc46 hfr46 hM46) | ((with_reducible refine gate_store (t := 3) (p := 55) rfl ?_); refine store_event (t := 3) (p := 55) (v := ?vo_w47) (w1 := (w44.setCell ⟨go33, ((ji27) : Int).toNat * 6 + 5, none⟩ (.int .i64 (wrap64 (((rd_T86 y402 (ji27)).f5) + 1))))) ?hg ?ho ?hn ?hr ?_; (case ho => rfl); (case hg => rfl); (case hn => rfl); (case hr => first | (go_simp; done) | (go_simp; rfl)); intro w47 hw; have hg : w44.grownBy w47 (some go33) := (by rw [hw]; exact HP46.2); have hp_ : Kd.R k86 86 w47 w.heap.size (fun k_ => some k_ ≠ (.slice Ao35 t382.length co35 : Value).ownBlock ∧ some k_ ≠ (.slice (some ⟨go30, 0, none⟩) y394.length co30 : Value).ownBlock) (.slice (some ⟨go33, 0, none⟩) y402.length co45) y406 := (by rw [hw, Ny406.out]; exact HP46.1); clear HP46; have n0_ := Aside0.mk (Kd.R_after (v := (.slice (some ⟨go33, 0, none⟩) y402.length co45)) (v1 := (.slice (some ⟨go33, 0, none⟩) y402.length co45)) (ok := (fun k_ => some k_ ≠ (.slice (some ⟨go30, 0, none⟩) y394.length co30 : Value).ownBlock)) (Cmp.rr HO384.out) hg (.inl rfl)); have n1_ := Aside0.mk (Kd.R_after (v := (.slice (some ⟨go33, 0, none⟩) y402.length co45)) (v1 := (.slice (some ⟨go33, 0, none⟩) y402.length co45)) (ok := (fun k_ => some k_ ≠ (.slice Ao35 t382.length co35 : Value).ownBlock)) (Cmp.rr HO396.out) hg (.inl rfl)); have n2_ := Aside0.mk (hp_); have n3_ := Aside0.mk ((by rw [hw]; exact below_set (HB.out) GB33.out : Below w.heap.size w w47)); clear HO384; clear HO396; clear HO404; clear HB; have HO384 := n0_; have HO396 := n1_; have HO404 := n2_; have HB := n3_; clear n0_ n1_ n2_ n3_; clear hg hw hp_))
        go_loopg [7] k (fun kq v7 w' => ∃ (x7_1 : Int), v7 = .int .i64 x7_1 ∧ Aside0 (laws_FnDeviceLogs.l0 kq t382 y398 y406 x7_1 = some r) ∧ Aside0 (kq ≤ k) ∧ Aside0 (Kd.R k86 86 w' w.heap.size (fun k_ => some k_ ≠ ((.slice (some ⟨go30, 0, none⟩) y394.length co30) : Value).ownBlock ∧ some k_ ≠ ((.slice (some ⟨go33, 0, none⟩) y402.length co45) : Value).ownBlock) (.slice Ao35 t382.length co35) t382) ∧ Aside0 (Kd.R k86 86 w' w.heap.size (fun k_ => some k_ ≠ ((.slice Ao35 t382.length co35) : Value).ownBlock ∧ some k_ ≠ ((.slice (some ⟨go33, 0, none⟩) y402.length co45) : Value).ownBlock) (.slice (some ⟨go30, 0, none⟩) y394.length co30) y398) ∧ Aside0 (Kd.R k86 86 w' w.heap.size (fun k_ => some k_ ≠ ((.slice Ao35 t382.length co35) : Value).ownBlock ∧ some k_ ≠ ((.slice (some ⟨go30, 0, none⟩) y394.length co30) : Value).ownBlock) (.slice (some ⟨go33, 0, none⟩) y402.length co45) y406) ∧ Aside0 (Below w.heap.size w w'))
        case atStart => exact ⟨(1), (by first | rfl | simp | simp [*]), H', ⟨Nat.le_refl _⟩, ⟨by (with_reducible repeat (first | apply Kd.R_alloc | apply Kd.R_drewN | apply Kd.R_drew)); exact HO384.out⟩, ⟨by (with_reducible repeat (first | apply Kd.R_alloc | apply Kd.R_drewN | apply Kd.R_drew)); exact HO396.out⟩, ⟨by (with_reducible repeat (first | apply Kd.R_alloc | apply Kd.R_drewN | apply Kd.R_drew)); exact HO404.out⟩, ⟨Cmp.g HB.out⟩⟩
        case round =>
         clear H'
         (try clear c1); (try clear c2); (try clear p2); (try clear c3); (try clear p3); (try clear q3); (try clear hx3); (try clear hf3); (try clear c4); (try clear p4); (try clear q4); (try clear hx4); (try clear hf4); (try clear c5); (try clear c5b0); (try clear c5b1); (try clear c5b2); (try clear p6); (try clear c7); (try clear c9); (try clear c12); (try clear c12b0); (try clear c12b1); (try clear c20); (try clear c25); (try clear c28); (try clear c28b0); (try clear c29); (try clear c29b0); (try clear c30); (try clear p30); (try clear q30); (try clear hx30); (try clear hf30); (try clear c31); (try clear c32); (try clear c32b0); (try clear c33); (try clear p33); (try clear q33); (try clear hx33); (try clear hf33); (try clear c36); (try clear c39); (try clear c40); (try clear p40); (try clear q40); (try clear hx40); (try clear hf40); (try clear c46); (try clear hx46); (try clear hf46); (try clear hx30_0); (try clear hx30_1); (try clear hx30_2); (try clear hx30_3); (try clear hx30_4); (try clear hx30_5); (try clear hx33_0); (try clear hx33_1); (try clear hx33_2); (try clear hx33_3); (try clear hx33_4); (try clear hx33_5); (try clear hx405_0); (try clear hx405_1); (try clear hx405_2); (try clear hx405_3); (try clear hx405_4); (try clear hx405_5); (try clear hx40_2); (try clear hx46_5); (try clear p30); (try clear p33); (try clear p405); (try clear q30); (try clear q33); (try clear q405)
         obtain ⟨x7_1, rfl, HA, HK1, HO_3, HO_5, HO_6, HB⟩ := hrel
         have hl5_1 := (Kd.R_reads' HO_5.out).1
         rw [hl5_1] at HO_5
         (try simp only [hl5_1])
         (try simp only [hl5_1] at HO_3)
         (try simp only [hl5_1] at HO_6)
         have hl6_1 := (Kd.R_reads' HO_6.out).1
         rw [hl6_1] at HO_6
         (try simp only [hl6_1])
         (try simp only [hl6_1] at HO_3)
         (try simp only [hl6_1] at HO_5)
         cases gk with
         | zero => exact absurd HA.out (by simp [laws_FnDeviceLogs.l0])
         | succ k1 =>
          have H := HA.out; clear HA
          simp only [laws_FnDeviceLogs.l0] at H
          by_cases c48 : x7_1 ≤ (t382.length : Int)
          ·rw [if_pos c48] at H
           have c48b0 : decide (x7_1 ≤ (t382.length : Int)) = true := decide_eq_true c48
           clear c48
           by_cases c49 : 0 ≤ x7_1
           ·rw [if_pos c49] at H
            have c49b0 := eq_true c49
            have c49b1 : decide (0 ≤ x7_1) = true := decide_eq_true c49; clear c49
            have c50b0 := eq_true (of_decide_eq_true Cmp.d : x7_1 ≤ (t382.length : Int))
            obtain ⟨y407, hy407⟩ : ∃ y_ : List (S86), y_ = (t382.take (x7_1 : Int).toNat) := ⟨_, rfl⟩
            replace H : ((impl_VerifyLog.f k1 y407).bind fun t411 => (if t411 = true then ((impl_ExtendsLog.f k1 t382 (t382.take (x7_1 : Int).toNat)).bind fun t416 => (if t416 = true then (if 0 ≤ (wrap64 (x7_1 - 1)) then (if (wrap64 (x7_1 - 1)) ≤ (t382.length : Int) then ((impl_ExtendsLog.f k1 (t382.take ((wrap64 (x7_1 - 1)) : Int).toNat) (t382.take (x7_1 : Int).toNat)).bind fun t425 => (if t425 = true then (some false) else (laws_FnDeviceLogs.l0 k1 t382 y398 y406 (wrap64 (x7_1 + 1))))) else (none)) else (none)) else (some false))) else (some false))) = some r := by first | (rw [hy407]; with_reducible exact H) | (have H2_ := (Option.bind_some _ _).symm.trans H; rw [hy407]; with_reducible exact H2_) | (have H2_ := (Option.bind_some _ _).symm.trans H; with_reducible exact H2_) | with_reducible exact H | (rw [hy407]; exact H) | exact H
            have Ny407 := Aside0.mk hy407; clear hy407; replace H := Option.bind_eq_some_iff.mp H; obtain ⟨t411, A510, H⟩ := H; (try dsimp only at H); have A51 := Aside0.mk A510; clear A510
            by_cases c52 : t411 = true
            ·subst c52; rw [if_pos rfl] at H
             have c53b0 := eq_true (of_decide_eq_true Cmp.d : 0 ≤ x7_1)
             have c54b0 := eq_true (of_decide_eq_true Cmp.d : x7_1 ≤ (t382.length : Int))
             obtain ⟨y412, hy412⟩ : ∃ y_ : List (S86), y_ = (t382.take (x7_1 : Int).toNat) := ⟨_, rfl⟩
             replace H : ((impl_ExtendsLog.f k1 t382 y412).bind fun t416 => (if t416 = true then (if 0 ≤ (wrap64 (x7_1 - 1)) then (if (wrap64 (x7_1 - 1)) ≤ (t382.length : Int) then ((impl_ExtendsLog.f k1 (t382.take ((wrap64 (x7_1 - 1)) : Int).toNat) (t382.take (x7_1 : Int).toNat)).bind fun t425 => (if t425 = true then (some false) else (laws_FnDeviceLogs.l0 k1 t382 y398 y406 (wrap64 (x7_1 + 1))))) else (none)) else (none)) else (some false))) = some r := by first | (rw [hy412]; with_reducible exact H) | (have H2_ := (Option.bind_some _ _).symm.trans H; rw [hy412]; with_reducible exact H2_) | (have H2_ := (Option.bind_some _ _).symm.trans H; with_reducible exact H2_) | with_reducible exact H | (rw [hy412]; exact H) | exact H
             have Ny412 := Aside0.mk hy412; clear hy412; replace H := Option.bind_eq_some_iff.mp H; obtain ⟨t416, A550, H⟩ := H; (try dsimp only at H); have A55 := Aside0.mk A550; clear A550
             by_cases c56 : t416 = true
             ·subst c56; rw [if_pos rfl] at H
              obtain ⟨ji57, hji57⟩ : ∃ j_ : Int, (wrap64 (x7_1 - 1)) = j_ := ⟨_, rfl⟩
              replace H : (if 0 ≤ (ji57) then (if (ji57) ≤ (t382.length : Int) then ((impl_ExtendsLog.f k1 (t382.take ((ji57) : Int).toNat) (t382.take (x7_1 : Int).toNat)).bind fun t425 => (if t425 = true then (some false) else (laws_FnDeviceLogs.l0 k1 t382 y398 y406 (wrap64 (x7_1 + 1))))) else (none)) else (none)) = some r := by first | (rw [hji57] at H; exact H) | (simp only [hji57] at H ⊢; exact H)
              (try rw [hji57] at A51)
              (try rw [hji57] at A55)
              have hji57w : (IntKind.i64.wrap (x7_1 - 1)) = ji57 := (i64_w _).trans hji57
              by_cases c58 : 0 ≤ (ji57)
              ·rw [if_pos c58] at H
               have c58b0 := eq_true c58
               have c58b1 : decide (0 ≤ (ji57)) = true := decide_eq_true c58; clear c58
               by_cases c59 : (ji57) ≤ (t382.length : Int)
               ·rw [if_pos c59] at H
                have c59b0 := eq_true c59
                have c59b1 : decide ((ji57) ≤ (t382.length : Int)) = true := decide_eq_true c59
                clear c59
                obtain ⟨y417, hy417⟩ : ∃ y_ : List (S86), y_ = (t382.take ((ji57) : Int).toNat) := ⟨_, rfl⟩
                replace H : ((impl_ExtendsLog.f k1 y417 (t382.take (x7_1 : Int).toNat)).bind fun t425 => (if t425 = true then (some false) else (laws_FnDeviceLogs.l0 k1 t382 y398 y406 (wrap64 (x7_1 + 1))))) = some r := by first | (rw [hy417]; with_reducible exact H) | (have H2_ := (Option.bind_some _ _).symm.trans H; rw [hy417]; with_reducible exact H2_) | (have H2_ := (Option.bind_some _ _).symm.trans H; with_reducible exact H2_) | with_reducible exact H | (rw [hy417]; exact H) | exact H
                have Ny417 := Aside0.mk hy417; clear hy417
                have c60b0 := eq_true (of_decide_eq_true Cmp.d : 0 ≤ x7_1)
                have c61b0 := eq_true (of_decide_eq_true Cmp.d : x7_1 ≤ (t382.length : Int))
                obtain ⟨y421, hy421⟩ : ∃ y_ : List (S86), y_ = (t382.take (x7_1 : Int).toNat) := ⟨_, rfl⟩
                replace H : ((impl_ExtendsLog.f k1 y417 y421).bind fun t425 => (if t425 = true then (some false) else (laws_FnDeviceLogs.l0 k1 t382 y398 y406 (wrap64 (x7_1 + 1))))) = some r := by first | (rw [hy421]; with_reducible exact H) | (have H2_ := (Option.bind_some _ _).symm.trans H; rw [hy421]; with_reducible exact H2_) | (have H2_ := (Option.bind_some _ _).symm.trans H; with_reducible exact H2_) | with_reducible exact H | (rw [hy421]; exact H) | exact H
                have Ny421 := Aside0.mk hy421; clear hy421; replace H := Option.bind_eq_some_iff.mp H; obtain ⟨t425, A620, H⟩ := H; (try dsimp only at H); have A62 := Aside0.mk A620; clear A620
                by_cases c63 : t425 = true
                ·subst c63; rw [if_pos rfl] at H
                 obtain rfl := Option.some.inj H
                 try go_wp2
                 have n0_ := Aside0.mk (Kd.R_drew HO_3.out); have n1_ := Aside0.mk (Kd.R_drew HO_5.out); have n2_ := Aside0.mk (Kd.R_drew HO_6.out); have n3_ := Aside0.mk (below_drew1 HB.out); clear HO_3; clear HO_5; clear HO_6; clear HB; have HO_3 := n0_; have HO_5 := n1_; have HO_6 := n2_; have HB := n3_; clear n0_ n1_ n2_ n3_
                 have q65 : (x7_1 : Int) ≤ ((t382.length : Int) : Int) := of_decide_eq_true Cmp.d
                 obtain ⟨i065, hi065, _, hsz65, _⟩ := info_parts info86
                 have hroom65 : t382.length ≤ co35 := (Kd.R_reads' HO_3.out).2.1
                 have hC65 : Kd.C k86 _ Ao35 t382.length t382 := (Kd.R_reads' HO_3.out).2.2
                 have hcut65 := cut_to (P := Try.prog) 40 86 .i64 Try.underlying40 hi065 Ao35 t382.length co35 x7_1 (of_decide_eq_true Cmp.d) q65 hroom65
                 have hr65 := Kd.C_take (m := (x7_1 : Int).toNat) hC65 (by omega)
                 have hy65 : y407.length = (x7_1 : Int).toNat := (by rw [Ny407.out, List.length_take]; omega)
                 rw [← Ny407.out] at hr65
                 rw [← hy65] at hcut65
                 have HR410 := Aside0.mk hr65
                 have HC410 := Aside0.mk (show y407.length ≤ co35 from by omega)
                 clear hr65 hC65 hroom65 hi065 hsz65; have KY65 := Aside0.mk hy65; clear hy65
                 have KL65 := Aside0.mk (show (x7_1 : Int).toNat ≤ t382.length from by omega)
                 replace q65 := eq_true q65
                 refine start_ (n := 23) (S := fun w' => True) (ds := []) (Cmp.bm 0 23) (by kernel_rfl) rfl rfl trivial (fun hHeld => ?_); refine with_tabW laws_FnDeviceLogs.tab14 laws_FnDeviceLogs.bits14 (fun HT_ HW_ => ?_)
                 generalize wr.drew = w64 at HO_3 HO_5 HO_6 HB HR410 hHeld ⊢
                 refine Cmp.pu HT_ 0 62 (Cmp.bm 1 22) ?_; refine Cmp.pu HT_ 1 63 (Cmp.bm 2 21) ?_; refine Cmp.pu HT_ 2 64 (Cmp.bm 3 20) ?_
                 refine one_ (i := 3) (N := some 65) (Cmp.bm 4 19) rfl rfl (one_of HT_.out (by kernel_rfl)) (by decide) (fun K hK => ?_)
                 refine goes_ Try.func20 (by kernel_rfl) rfl #[.slice Ao35 y407.length co35] (by rfl) rfl rfl Cmp.q ?_
                 with_reducible refine (impl_VerifyLog.calls k1 _ _ y407 true _ ?side1 ?side2 A51.out).mono ?_
                 (case side1 => repeat (first | exact (by repeat (first | (with_reducible exact HR410.out) | (with_reducible refine Kd.C_alloc ?_ _) | (with_reducible refine Kd.C_drewN ?_ _) | (with_reducible refine Kd.C_drew ?_) | exact HR410.out)) | (with_reducible refine Kd.C_alloc ?_ _) | (with_reducible refine Kd.C_drewN ?_ _) | (with_reducible refine Kd.C_drew ?_)))
                 (case side2 => exact HC410.out)
                 rintro e w66 ⟨rfl, hb⟩; refine ⟨_, rfl, ?_⟩
                 have n0_ := Aside0.mk (Kd.R_below (Cmp.rr HO_3.out) hb)
                 have n1_ := Aside0.mk (Kd.R_below (Cmp.rr HO_5.out) hb)
                 have n2_ := Aside0.mk (Kd.R_below (Cmp.rr HO_6.out) hb)
                 have n3_ := Aside0.mk (Kd.C_below (by repeat (first | (with_reducible exact HR410.out) | (with_reducible refine Kd.C_alloc ?_ _) | (with_reducible refine Kd.C_drewN ?_ _) | (with_reducible refine Kd.C_drew ?_) | exact HR410.out)) hb)
                 have n4_ := Aside0.mk (below_step (Cmp.g HB.out) hb)
                 clear HO_3; clear HO_5; clear HO_6; clear HR410; clear HB; have HO_3 := n0_; have HO_5 := n1_; have HO_6 := n2_; have HR410 := n3_; have HB := n4_; clear n0_ n1_ n2_ n3_ n4_; (try clear hb); (try clear hb2); (try clear hk); (try clear hi)
                 have q67 : (x7_1 : Int) ≤ ((t382.length : Int) : Int) := of_decide_eq_true Cmp.d
                 obtain ⟨i067, hi067, _, hsz67, _⟩ := info_parts info86
                 have hroom67 : t382.length ≤ co35 := (Kd.R_reads' HO_3.out).2.1
                 have hC67 : Kd.C k86 _ Ao35 t382.length t382 := (Kd.R_reads' HO_3.out).2.2
                 have hcut67 := cut_to (P := Try.prog) 40 86 .i64 Try.underlying40 hi067 Ao35 t382.length co35 x7_1 (of_decide_eq_true Cmp.d) q67 hroom67
                 have hr67 := Kd.C_take (m := (x7_1 : Int).toNat) hC67 (by omega)
                 have hy67 : y412.length = (x7_1 : Int).toNat := (by rw [Ny412.out, List.length_take]; omega)
                 rw [← Ny412.out] at hr67
                 rw [← hy67] at hcut67
                 have HR415 := Aside0.mk hr67
                 have HC415 := Aside0.mk (show y412.length ≤ co35 from by omega)
                 clear hr67 hC67 hroom67 hi067 hsz67; have KY67 := Aside0.mk hy67; clear hy67
                 have KL67 := Aside0.mk (show (x7_1 : Int).toNat ≤ t382.length from by omega)
                 replace q67 := eq_true q67
                 refine hK.out _ _ trivial (fun hHeld => ?_)
                 clear hK K
                 refine norm_ (a' := ?_) ?_ ?_
                 rotate_left
                 ·show Act.put _ (some 65) _ = _
                  simp only [Act.put, Cmp.s, Cmp.z, Cmp.c, i64_w, i32_w]; rfl
                 refine Cmp.pu HT_ 4 66 (Cmp.bm 5 18) ?_; refine Cmp.pu HT_ 5 67 (Cmp.bm 6 17) ?_; refine Cmp.pu HT_ 6 68 (Cmp.bm 7 16) ?_; refine Cmp.pu HT_ 7 69 (Cmp.bm 8 15) ?_; refine Cmp.pu HT_ 8 70 (Cmp.bm 9 14) ?_; refine Cmp.pu HT_ 9 71 (Cmp.bm 10 13) ?_
                 refine one_ (i := 10) (N := some 72) (Cmp.bm 11 12) rfl rfl (one_of HT_.out (by kernel_rfl)) (by decide) (fun K hK => ?_)
                 refine goes_ Try.func41 (by kernel_rfl) rfl #[.slice Ao35 t382.length co35, .slice Ao35 y412.length co35] (by rfl) rfl rfl (by go_simp; rw [Ny407.out, Ny412.out]) ?_
                 with_reducible refine (impl_ExtendsLog.calls k1 _ _ t382 _ _ y412 true _ ?side1 ?side2 ?side3 ?side4 A55.out).mono ?_
                 (case side1 => exact Cmp.rc (Kd.R_reads' HO_3.out).2.2)
                 (case side2 => exact (Kd.R_reads' HO_3.out).2.1)
                 (case side3 => repeat (first | exact (by repeat (first | (with_reducible exact HR415.out) | (with_reducible refine Kd.C_alloc ?_ _) | (with_reducible refine Kd.C_drewN ?_ _) | (with_reducible refine Kd.C_drew ?_) | exact HR415.out)) | (with_reducible refine Kd.C_alloc ?_ _) | (with_reducible refine Kd.C_drewN ?_ _) | (with_reducible refine Kd.C_drew ?_)))
                 (case side4 => exact HC415.out)
                 rintro e w' ⟨rfl, ⟨nd, rfl⟩⟩; refine ⟨_, rfl, ?_⟩
                 have q68 : ((ji57) : Int) ≤ ((t382.length : Int) : Int) := of_decide_eq_true Cmp.d
                 obtain ⟨i068, hi068, _, hsz68, _⟩ := info_parts info86
                 have hroom68 : t382.length ≤ co35 := (Kd.R_reads' HO_3.out).2.1
                 have hC68 : Kd.C k86 _ Ao35 t382.length t382 := (Kd.R_reads' HO_3.out).2.2
                 have hcut68 := cut_to (P := Try.prog) 40 86 .i64 Try.underlying40 hi068 Ao35 t382.length co35 (ji57) (of_decide_eq_true Cmp.d) q68 hroom68
                 have hr68 := Kd.C_take (m := ((ji57) : Int).toNat) hC68 (by omega)
                 have hy68 : y417.length = ((ji57) : Int).toNat := (by rw [Ny417.out, List.length_take]; omega)
                 rw [← Ny417.out] at hr68
                 rw [← hy68] at hcut68
                 have HR420 := Aside0.mk hr68
                 have HC420 := Aside0.mk (show y417.length ≤ co35 from by omega)
                 clear hr68 hC68 hroom68 hi068 hsz68; have KY68 := Aside0.mk hy68; clear hy68
                 have KL68 := Aside0.mk (show ((ji57) : Int).toNat ≤ t382.length from by omega)
                 replace q68 := eq_true q68
                 have q69 : (x7_1 : Int) ≤ ((t382.length : Int) : Int) := of_decide_eq_true Cmp.d
                 obtain ⟨i069, hi069, _, hsz69, _⟩ := info_parts info86
                 have hroom69 : t382.length ≤ co35 := (Kd.R_reads' HO_3.out).2.1
                 have hC69 : Kd.C k86 _ Ao35 t382.length t382 := (Kd.R_reads' HO_3.out).2.2
                 have hcut69 := cut_to (P := Try.prog) 40 86 .i64 Try.underlying40 hi069 Ao35 t382.length co35 x7_1 (of_decide_eq_true Cmp.d) q69 hroom69
                 have hr69 := Kd.C_take (m := (x7_1 : Int).toNat) hC69 (by omega)
                 have hy69 : y421.length = (x7_1 : Int).toNat := (by rw [Ny421.out, List.length_take]; omega)
                 rw [← Ny421.out] at hr69
                 rw [← hy69] at hcut69
                 have HR424 := Aside0.mk hr69
                 have HC424 := Aside0.mk (show y421.length ≤ co35 from by omega)
                 clear hr69 hC69 hroom69 hi069 hsz69; have KY69 := Aside0.mk hy69; clear hy69
                 have KL69 := Aside0.mk (show (x7_1 : Int).toNat ≤ t382.length from by omega)
                 replace q69 := eq_true q69
                 refine hK.out _ _ trivial (fun hHeld => ?_)
                 clear hK K
                 refine norm_ (a' := ?_) ?_ ?_
                 rotate_left
                 ·show Act.put _ (some 72) _ = _
                  simp only [Act.put, Cmp.s, Cmp.z, Cmp.c, i64_w, i32_w]; rfl
                 refine Cmp.pu HT_ 11 73 (Cmp.bm 12 11) ?_; refine Cmp.pu HT_ 12 74 (Cmp.bm 13 10) ?_; refine Cmp.pu HT_ 13 75 (Cmp.bm 14 9) ?_; refine Cmp.pu HT_ 14 76 (Cmp.bm 15 8) ?_; refine Cmp.pu HT_ 15 77 (Cmp.bm 16 7) ?_; refine Cmp.pu HT_ 16 78 (Cmp.bm 17 6) ?_; refine Cmp.pu HT_ 17 79 (Cmp.bm 18 5) ?_; refine Cmp.pu HT_ 18 80 (Cmp.bm 19 4) ?_; refine Cmp.pu HT_ 19 81 (Cmp.bm 20 3) ?_; refine Cmp.pu HT_ 20 82 (Cmp.bm 21 2) ?_
                 refine one_ (i := 21) (N := some 83) (Cmp.bm 22 1) rfl rfl (one_of HT_.out (by kernel_rfl)) (by decide) (fun K hK => ?_)
                 refine goes_ Try.func41 (by kernel_rfl) rfl #[.slice Ao35 y417.length co35, .slice Ao35 y421.length co35] (by rfl) rfl rfl (by go_simp; rw [Ny407.out, Ny421.out]) ?_
                 with_reducible refine (impl_ExtendsLog.calls k1 _ _ y417 _ _ y421 true _ ?side1 ?side2 ?side3 ?side4 A62.out).mono ?_
                 (case side1 => repeat (first | exact (by repeat (first | (with_reducible exact HR420.out) | (with_reducible refine Kd.C_alloc ?_ _) | (with_reducible refine Kd.C_drewN ?_ _) | (with_reducible refine Kd.C_drew ?_) | exact HR420.out)) | (with_reducible refine Kd.C_alloc ?_ _) | (with_reducible refine Kd.C_drewN ?_ _) | (with_reducible refine Kd.C_drew ?_)))
                 (case side2 => exact HC420.out)
                 (case side3 => repeat (first | exact (by repeat (first | (with_reducible exact HR424.out) | (with_reducible refine Kd.C_alloc ?_ _) | (with_reducible refine Kd.C_drewN ?_ _) | (with_reducible refine Kd.C_drew ?_) | exact HR424.out)) | (with_reducible refine Kd.C_alloc ?_ _) | (with_reducible refine Kd.C_drewN ?_ _) | (with_reducible refine Kd.C_drew ?_)))
                 (case side4 => exact HC424.out)
                 rintro e w' ⟨rfl, ⟨nd, rfl⟩⟩; refine ⟨_, rfl, ?_⟩
                 refine hK.out _ _ trivial (fun hHeld => ?_)
                 clear hK K
                 refine norm_ (a' := ?_) ?_ ?_
                 rotate_left
                 ·show Act.put _ (some 83) _ = _
                  simp only [Act.put, Cmp.s, Cmp.z, Cmp.c, i64_w, i32_w]; rfl
                 refine Cmp.pu HT_ 22 84 (Cmp.bm 23 0) ?_
                 refine done_ (done_of HT_.out (by kernel_rfl)) ?_
                 try go_wp2
                 go_ret
                 exact ⟨by first | rfl | (simp [errW_none, errW_some] <;> rfl) | (simp only [← hji27, ← hji57]; first | rfl | (simp [errW_none, errW_some] <;> rfl)) | (simp [*, errW_none, errW_some] <;> rfl), Cmp.g HB.out⟩
                ·replace c63 := Bool.eq_false_iff.mpr c63
                 subst c63
                 have H1 : (laws_FnDeviceLogs.l0 k1 t382 y398 y406 (wrap64 (x7_1 + 1))) = some r := by rw [if_neg (show ¬ (false = true) by decide)] at H; exact H
                 clear H; have H := H1; clear H1
                 have H' := Aside0.mk H
                 clear H
                 try go_wp2
                 have n0_ := Aside0.mk (Kd.R_drew HO_3.out); have n1_ := Aside0.mk (Kd.R_drew HO_5.out); have n2_ := Aside0.mk (Kd.R_drew HO_6.out); have n3_ := Aside0.mk (below_drew1 HB.out); clear HO_3; clear HO_5; clear HO_6; clear HB; have HO_3 := n0_; have HO_5 := n1_; have HO_6 := n2_; have HB := n3_; clear n0_ n1_ n2_ n3_
                 have q71 : (x7_1 : Int) ≤ ((t382.length : Int) : Int) := of_decide_eq_true Cmp.d
                 obtain ⟨i071, hi071, _, hsz71, _⟩ := info_parts info86
                 have hroom71 : t382.length ≤ co35 := (Kd.R_reads' HO_3.out).2.1
                 have hC71 : Kd.C k86 _ Ao35 t382.length t382 := (Kd.R_reads' HO_3.out).2.2
                 have hcut71 := cut_to (P := Try.prog) 40 86 .i64 Try.underlying40 hi071 Ao35 t382.length co35 x7_1 (of_decide_eq_true Cmp.d) q71 hroom71
                 have hr71 := Kd.C_take (m := (x7_1 : Int).toNat) hC71 (by omega)
                 have hy71 : y407.length = (x7_1 : Int).toNat := (by rw [Ny407.out, List.length_take]; omega)
                 rw [← Ny407.out] at hr71
                 rw [← hy71] at hcut71
                 have HR410 := Aside0.mk hr71
                 have HC410 := Aside0.mk (show y407.length ≤ co35 from by omega)
                 clear hr71 hC71 hroom71 hi071 hsz71; have KY71 := Aside0.mk hy71; clear hy71
                 have KL71 := Aside0.mk (show (x7_1 : Int).toNat ≤ t382.length from by omega)
                 replace q71 := eq_true q71
                 refine start_ (n := 23) (S := fun w' => True) (ds := []) (Cmp.bm 0 23) (by kernel_rfl) rfl rfl trivial (fun hHeld => ?_); refine with_tabW laws_FnDeviceLogs.tab14 laws_FnDeviceLogs.bits14 (fun HT_ HW_ => ?_)
                 generalize wr.drew = w70 at HO_3 HO_5 HO_6 HB HR410 hHeld ⊢
                 refine Cmp.pu HT_ 0 62 (Cmp.bm 1 22) ?_; refine Cmp.pu HT_ 1 63 (Cmp.bm 2 21) ?_; refine Cmp.pu HT_ 2 64 (Cmp.bm 3 20) ?_
                 refine one_ (i := 3) (N := some 65) (Cmp.bm 4 19) rfl rfl (one_of HT_.out (by kernel_rfl)) (by decide) (fun K hK => ?_)
                 refine goes_ Try.func20 (by kernel_rfl) rfl #[.slice Ao35 y407.length co35] (by rfl) rfl rfl Cmp.q ?_
                 with_reducible refine (impl_VerifyLog.calls k1 _ _ y407 true _ ?side1 ?side2 A51.out).mono ?_
                 (case side1 => repeat (first | exact (by repeat (first | (with_reducible exact HR410.out) | (with_reducible refine Kd.C_alloc ?_ _) | (with_reducible refine Kd.C_drewN ?_ _) | (with_reducible refine Kd.C_drew ?_) | exact HR410.out)) | (with_reducible refine Kd.C_alloc ?_ _) | (with_reducible refine Kd.C_drewN ?_ _) | (with_reducible refine Kd.C_drew ?_)))
                 (case side2 => exact HC410.out)
                 rintro e w72 ⟨rfl, hb⟩; refine ⟨_, rfl, ?_⟩
                 have n0_ := Aside0.mk (Kd.R_below (Cmp.rr HO_3.out) hb)
                 have n1_ := Aside0.mk (Kd.R_below (Cmp.rr HO_5.out) hb)
                 have n2_ := Aside0.mk (Kd.R_below (Cmp.rr HO_6.out) hb)
                 have n3_ := Aside0.mk (Kd.C_below (by repeat (first | (with_reducible exact HR410.out) | (with_reducible refine Kd.C_alloc ?_ _) | (with_reducible refine Kd.C_drewN ?_ _) | (with_reducible refine Kd.C_drew ?_) | exact HR410.out)) hb)
                 have n4_ := Aside0.mk (below_step (Cmp.g HB.out) hb)
                 clear HO_3; clear HO_5; clear HO_6; clear HR410; clear HB; have HO_3 := n0_; have HO_5 := n1_; have HO_6 := n2_; have HR410 := n3_; have HB := n4_; clear n0_ n1_ n2_ n3_ n4_; (try clear hb); (try clear hb2); (try clear hk); (try clear hi)
                 have q73 : (x7_1 : Int) ≤ ((t382.length : Int) : Int) := of_decide_eq_true Cmp.d
                 obtain ⟨i073, hi073, _, hsz73, _⟩ := info_parts info86
                 have hroom73 : t382.length ≤ co35 := (Kd.R_reads' HO_3.out).2.1
                 have hC73 : Kd.C k86 _ Ao35 t382.length t382 := (Kd.R_reads' HO_3.out).2.2
                 have hcut73 := cut_to (P := Try.prog) 40 86 .i64 Try.underlying40 hi073 Ao35 t382.length co35 x7_1 (of_decide_eq_true Cmp.d) q73 hroom73
                 have hr73 := Kd.C_take (m := (x7_1 : Int).toNat) hC73 (by omega)
                 have hy73 : y412.length = (x7_1 : Int).toNat := (by rw [Ny412.out, List.length_take]; omega)
                 rw [← Ny412.out] at hr73
                 rw [← hy73] at hcut73
                 have HR415 := Aside0.mk hr73
                 have HC415 := Aside0.mk (show y412.length ≤ co35 from by omega)
                 clear hr73 hC73 hroom73 hi073 hsz73; have KY73 := Aside0.mk hy73; clear hy73
                 have KL73 := Aside0.mk (show (x7_1 : Int).toNat ≤ t382.length from by omega)
                 replace q73 := eq_true q73
                 refine hK.out _ _ trivial (fun hHeld => ?_)
                 clear hK K
                 refine norm_ (a' := ?_) ?_ ?_
                 rotate_left
                 ·show Act.put _ (some 65) _ = _
                  simp only [Act.put, Cmp.s, Cmp.z, Cmp.c, i64_w, i32_w]; rfl
                 refine Cmp.pu HT_ 4 66 (Cmp.bm 5 18) ?_; refine Cmp.pu HT_ 5 67 (Cmp.bm 6 17) ?_; refine Cmp.pu HT_ 6 68 (Cmp.bm 7 16) ?_; refine Cmp.pu HT_ 7 69 (Cmp.bm 8 15) ?_; refine Cmp.pu HT_ 8 70 (Cmp.bm 9 14) ?_; refine Cmp.pu HT_ 9 71 (Cmp.bm 10 13) ?_
                 refine one_ (i := 10) (N := some 72) (Cmp.bm 11 12) rfl rfl (one_of HT_.out (by kernel_rfl)) (by decide) (fun K hK => ?_)
                 refine goes_ Try.func41 (by kernel_rfl) rfl #[.slice Ao35 t382.length co35, .slice Ao35 y412.length co35] (by rfl) rfl rfl (by go_simp; rw [Ny407.out, Ny412.out]) ?_
                 with_reducible refine (impl_ExtendsLog.calls k1 _ _ t382 _ _ y412 true _ ?side1 ?side2 ?side3 ?side4 A55.out).mono ?_
                 (case side1 => exact Cmp.rc (Kd.R_reads' HO_3.out).2.2)
                 (case side2 => exact (Kd.R_reads' HO_3.out).2.1)
                 (case side3 => repeat (first | exact (by repeat (first | (with_reducible exact HR415.out) | (with_reducible refine Kd.C_alloc ?_ _) | (with_reducible refine Kd.C_drewN ?_ _) | (with_reducible refine Kd.C_drew ?_) | exact HR415.out)) | (with_reducible refine Kd.C_alloc ?_ _) | (with_reducible refine Kd.C_drewN ?_ _) | (with_reducible refine Kd.C_drew ?_)))
                 (case side4 => exact HC415.out)
                 rintro e w' ⟨rfl, ⟨nd, rfl⟩⟩; refine ⟨_, rfl, ?_⟩
                 have q74 : ((ji57) : Int) ≤ ((t382.length : Int) : Int) := of_decide_eq_true Cmp.d
                 obtain ⟨i074, hi074, _, hsz74, _⟩ := info_parts info86
                 have hroom74 : t382.length ≤ co35 := (Kd.R_reads' HO_3.out).2.1
                 have hC74 : Kd.C k86 _ Ao35 t382.length t382 := (Kd.R_reads' HO_3.out).2.2
                 have hcut74 := cut_to (P := Try.prog) 40 86 .i64 Try.underlying40 hi074 Ao35 t382.length co35 (ji57) (of_decide_eq_true Cmp.d) q74 hroom74
                 have hr74 := Kd.C_take (m := ((ji57) : Int).toNat) hC74 (by omega)
                 have hy74 : y417.length = ((ji57) : Int).toNat := (by rw [Ny417.out, List.length_take]; omega)
                 rw [← Ny417.out] at hr74
                 rw [← hy74] at hcut74
                 have HR420 := Aside0.mk hr74
                 have HC420 := Aside0.mk (show y417.length ≤ co35 from by omega)
                 clear hr74 hC74 hroom74 hi074 hsz74; have KY74 := Aside0.mk hy74; clear hy74
                 have KL74 := Aside0.mk (show ((ji57) : Int).toNat ≤ t382.length from by omega)
                 replace q74 := eq_true q74
                 have q75 : (x7_1 : Int) ≤ ((t382.length : Int) : Int) := of_decide_eq_true Cmp.d
                 obtain ⟨i075, hi075, _, hsz75, _⟩ := info_parts info86
                 have hroom75 : t382.length ≤ co35 := (Kd.R_reads' HO_3.out).2.1
                 have hC75 : Kd.C k86 _ Ao35 t382.length t382 := (Kd.R_reads' HO_3.out).2.2
                 have hcut75 := cut_to (P := Try.prog) 40 86 .i64 Try.underlying40 hi075 Ao35 t382.length co35 x7_1 (of_decide_eq_true Cmp.d) q75 hroom75
                 have hr75 := Kd.C_take (m := (x7_1 : Int).toNat) hC75 (by omega)
                 have hy75 : y421.length = (x7_1 : Int).toNat := (by rw [Ny421.out, List.length_take]; omega)
                 rw [← Ny421.out] at hr75
                 rw [← hy75] at hcut75
                 have HR424 := Aside0.mk hr75
                 have HC424 := Aside0.mk (show y421.length ≤ co35 from by omega)
                 clear hr75 hC75 hroom75 hi075 hsz75; have KY75 := Aside0.mk hy75; clear hy75
                 have KL75 := Aside0.mk (show (x7_1 : Int).toNat ≤ t382.length from by omega)
                 replace q75 := eq_true q75
                 refine hK.out _ _ trivial (fun hHeld => ?_)
                 clear hK K
                 refine norm_ (a' := ?_) ?_ ?_
                 rotate_left
                 ·show Act.put _ (some 72) _ = _
                  simp only [Act.put, Cmp.s, Cmp.z, Cmp.c, i64_w, i32_w]; rfl
                 refine Cmp.pu HT_ 11 73 (Cmp.bm 12 11) ?_; refine Cmp.pu HT_ 12 74 (Cmp.bm 13 10) ?_; refine Cmp.pu HT_ 13 75 (Cmp.bm 14 9) ?_; refine Cmp.pu HT_ 14 76 (Cmp.bm 15 8) ?_; refine Cmp.pu HT_ 15 77 (Cmp.bm 16 7) ?_; refine Cmp.pu HT_ 16 78 (Cmp.bm 17 6) ?_; refine Cmp.pu HT_ 17 79 (Cmp.bm 18 5) ?_; refine Cmp.pu HT_ 18 80 (Cmp.bm 19 4) ?_; refine Cmp.pu HT_ 19 81 (Cmp.bm 20 3) ?_; refine Cmp.pu HT_ 20 82 (Cmp.bm 21 2) ?_
                 refine one_ (i := 21) (N := some 83) (Cmp.bm 22 1) rfl rfl (one_of HT_.out (by kernel_rfl)) (by decide) (fun K hK => ?_)
                 refine goes_ Try.func41 (by kernel_rfl) rfl #[.slice Ao35 y417.length co35, .slice Ao35 y421.length co35] (by rfl) rfl rfl (by go_simp; rw [Ny407.out, Ny421.out]) ?_
                 with_reducible refine (impl_ExtendsLog.calls k1 _ _ y417 _ _ y421 false _ ?side1 ?side2 ?side3 ?side4 A62.out).mono ?_
                 (case side1 => repeat (first | exact (by repeat (first | (with_reducible exact HR420.out) | (with_reducible refine Kd.C_alloc ?_ _) | (with_reducible refine Kd.C_drewN ?_ _) | (with_reducible refine Kd.C_drew ?_) | exact HR420.out)) | (with_reducible refine Kd.C_alloc ?_ _) | (with_reducible refine Kd.C_drewN ?_ _) | (with_reducible refine Kd.C_drew ?_)))
                 (case side2 => exact HC420.out)
                 (case side3 => repeat (first | exact (by repeat (first | (with_reducible exact HR424.out) | (with_reducible refine Kd.C_alloc ?_ _) | (with_reducible refine Kd.C_drewN ?_ _) | (with_reducible refine Kd.C_drew ?_) | exact HR424.out)) | (with_reducible refine Kd.C_alloc ?_ _) | (with_reducible refine Kd.C_drewN ?_ _) | (with_reducible refine Kd.C_drew ?_)))
                 (case side4 => exact HC424.out)
                 rintro e w' ⟨rfl, ⟨nd, rfl⟩⟩; refine ⟨_, rfl, ?_⟩
                 refine hK.out _ _ trivial (fun hHeld => ?_)
                 clear hK K
                 refine norm_ (a' := ?_) ?_ ?_
                 rotate_left
                 ·show Act.put _ (some 83) _ = _
                  simp only [Act.put, Cmp.s, Cmp.z, Cmp.c, i64_w, i32_w]; rfl
                 refine Cmp.pu HT_ 22 84 (Cmp.bm 23 0) ?_
                 refine done_ (done_of HT_.out (by kernel_rfl)) ?_
                 try go_wp2
                 (try simp only [← hl5_1, ← hl6_1])
                 go_roundg k1
                 case measure => have := HK1.out; omega
                 case rel => exact ⟨(wrap64 (x7_1 + 1)), (by first | rfl | simp | simp [*]), H', ⟨by have := HK1.out; omega⟩, ⟨by (try simp only [hl5_1]); (try simp only [hl6_1]); (with_reducible repeat (first | apply Kd.R_alloc | apply Kd.R_drewN | apply Kd.R_drew)); exact HO_3.out⟩, ⟨by (try simp only [hl5_1]); (try simp only [hl6_1]); (with_reducible repeat (first | apply Kd.R_alloc | apply Kd.R_drewN | apply Kd.R_drew)); exact HO_5.out⟩, ⟨by (try simp only [hl5_1]); (try simp only [hl6_1]); (with_reducible repeat (first | apply Kd.R_alloc | apply Kd.R_drewN | apply Kd.R_drew)); exact HO_6.out⟩, ⟨Cmp.g HB.out⟩⟩
               ·rw [if_neg c59] at H; exact absurd H (by simp)
              ·rw [if_neg c58] at H; exact absurd H (by simp)
             ·replace c56 := Bool.eq_false_iff.mpr c56
              subst c56
              have H1 : (some false) = some r := by rw [if_neg (show ¬ (false = true) by decide)] at H; exact H
              clear H; have H := H1; clear H1
              obtain rfl := Option.some.inj H
              try go_wp2
              have n0_ := Aside0.mk (Kd.R_drew HO_3.out); have n1_ := Aside0.mk (Kd.R_drew HO_5.out); have n2_ := Aside0.mk (Kd.R_drew HO_6.out); have n3_ := Aside0.mk (below_drew1 HB.out); clear HO_3; clear HO_5; clear HO_6; clear HB; have HO_3 := n0_; have HO_5 := n1_; have HO_6 := n2_; have HB := n3_; clear n0_ n1_ n2_ n3_
              have q77 : (x7_1 : Int) ≤ ((t382.length : Int) : Int) := of_decide_eq_true Cmp.d
              obtain ⟨i077, hi077, _, hsz77, _⟩ := info_parts info86
              have hroom77 : t382.length ≤ co35 := (Kd.R_reads' HO_3.out).2.1
              have hC77 : Kd.C k86 _ Ao35 t382.length t382 := (Kd.R_reads' HO_3.out).2.2
              have hcut77 := cut_to (P := Try.prog) 40 86 .i64 Try.underlying40 hi077 Ao35 t382.length co35 x7_1 (of_decide_eq_true Cmp.d) q77 hroom77
              have hr77 := Kd.C_take (m := (x7_1 : Int).toNat) hC77 (by omega)
              have hy77 : y407.length = (x7_1 : Int).toNat := (by rw [Ny407.out, List.length_take]; omega)
              rw [← Ny407.out] at hr77
              rw [← hy77] at hcut77
              have HR410 := Aside0.mk hr77
              have HC410 := Aside0.mk (show y407.length ≤ co35 from by omega)
              clear hr77 hC77 hroom77 hi077 hsz77; have KY77 := Aside0.mk hy77; clear hy77
              have KL77 := Aside0.mk (show (x7_1 : Int).toNat ≤ t382.length from by omega)
              replace q77 := eq_true q77
              refine start_ (n := 23) (S := fun w' => True) (ds := []) (Cmp.bm 0 23) (by kernel_rfl) rfl rfl trivial (fun hHeld => ?_); refine with_tabW laws_FnDeviceLogs.tab14 laws_FnDeviceLogs.bits14 (fun HT_ HW_ => ?_)
              generalize wr.drew = w76 at HO_3 HO_5 HO_6 HB HR410 hHeld ⊢
              refine Cmp.pu HT_ 0 62 (Cmp.bm 1 22) ?_; refine Cmp.pu HT_ 1 63 (Cmp.bm 2 21) ?_; refine Cmp.pu HT_ 2 64 (Cmp.bm 3 20) ?_
              refine one_ (i := 3) (N := some 65) (Cmp.bm 4 19) rfl rfl (one_of HT_.out (by kernel_rfl)) (by decide) (fun K hK => ?_)
              refine goes_ Try.func20 (by kernel_rfl) rfl #[.slice Ao35 y407.length co35] (by rfl) rfl rfl Cmp.q ?_
              with_reducible refine (impl_VerifyLog.calls k1 _ _ y407 true _ ?side1 ?side2 A51.out).mono ?_
              (case side1 => repeat (first | exact (by repeat (first | (with_reducible exact HR410.out) | (with_reducible refine Kd.C_alloc ?_ _) | (with_reducible refine Kd.C_drewN ?_ _) | (with_reducible refine Kd.C_drew ?_) | exact HR410.out)) | (with_reducible refine Kd.C_alloc ?_ _) | (with_reducible refine Kd.C_drewN ?_ _) | (with_reducible refine Kd.C_drew ?_)))
              (case side2 => exact HC410.out)
              rintro e w78 ⟨rfl, hb⟩; refine ⟨_, rfl, ?_⟩
              have n0_ := Aside0.mk (Kd.R_below (Cmp.rr HO_3.out) hb)
              have n1_ := Aside0.mk (Kd.R_below (Cmp.rr HO_5.out) hb)
              have n2_ := Aside0.mk (Kd.R_below (Cmp.rr HO_6.out) hb)
              have n3_ := Aside0.mk (Kd.C_below (by repeat (first | (with_reducible exact HR410.out) | (with_reducible refine Kd.C_alloc ?_ _) | (with_reducible refine Kd.C_drewN ?_ _) | (with_reducible refine Kd.C_drew ?_) | exact HR410.out)) hb)
              have n4_ := Aside0.mk (below_step (Cmp.g HB.out) hb)
              clear HO_3; clear HO_5; clear HO_6; clear HR410; clear HB; have HO_3 := n0_; have HO_5 := n1_; have HO_6 := n2_; have HR410 := n3_; have HB := n4_; clear n0_ n1_ n2_ n3_ n4_; (try clear hb); (try clear hb2); (try clear hk); (try clear hi)
              have q79 : (x7_1 : Int) ≤ ((t382.length : Int) : Int) := of_decide_eq_true Cmp.d
              obtain ⟨i079, hi079, _, hsz79, _⟩ := info_parts info86
              have hroom79 : t382.length ≤ co35 := (Kd.R_reads' HO_3.out).2.1
              have hC79 : Kd.C k86 _ Ao35 t382.length t382 := (Kd.R_reads' HO_3.out).2.2
              have hcut79 := cut_to (P := Try.prog) 40 86 .i64 Try.underlying40 hi079 Ao35 t382.length co35 x7_1 (of_decide_eq_true Cmp.d) q79 hroom79
              have hr79 := Kd.C_take (m := (x7_1 : Int).toNat) hC79 (by omega)
              have hy79 : y412.length = (x7_1 : Int).toNat := (by rw [Ny412.out, List.length_take]; omega)
              rw [← Ny412.out] at hr79
              rw [← hy79] at hcut79
              have HR415 := Aside0.mk hr79
              have HC415 := Aside0.mk (show y412.length ≤ co35 from by omega)
              clear hr79 hC79 hroom79 hi079 hsz79; have KY79 := Aside0.mk hy79; clear hy79
              have KL79 := Aside0.mk (show (x7_1 : Int).toNat ≤ t382.length from by omega)
              replace q79 := eq_true q79
              refine hK.out _ _ trivial (fun hHeld => ?_)
              clear hK K
              refine norm_ (a' := ?_) ?_ ?_
              rotate_left
              ·show Act.put _ (some 65) _ = _
               simp only [Act.put, Cmp.s, Cmp.z, Cmp.c, i64_w, i32_w]; rfl
              refine Cmp.pu HT_ 4 66 (Cmp.bm 5 18) ?_; refine Cmp.pu HT_ 5 67 (Cmp.bm 6 17) ?_; refine Cmp.pu HT_ 6 68 (Cmp.bm 7 16) ?_; refine Cmp.pu HT_ 7 69 (Cmp.bm 8 15) ?_; refine Cmp.pu HT_ 8 70 (Cmp.bm 9 14) ?_; refine Cmp.pu HT_ 9 71 (Cmp.bm 10 13) ?_
              refine one_ (i := 10) (N := some 72) (Cmp.bm 11 12) rfl rfl (one_of HT_.out (by kernel_rfl)) (by decide) (fun K hK => ?_)
              refine goes_ Try.func41 (by kernel_rfl) rfl #[.slice Ao35 t382.length co35, .slice Ao35 y412.length co35] (by rfl) rfl rfl (by go_simp; rw [Ny407.out, Ny412.out]) ?_
              with_reducible refine (impl_ExtendsLog.calls k1 _ _ t382 _ _ y412 false _ ?side1 ?side2 ?side3 ?side4 A55.out).mono ?_
              (case side1 => exact Cmp.rc (Kd.R_reads' HO_3.out).2.2)
              (case side2 => exact (Kd.R_reads' HO_3.out).2.1)
              (case side3 => repeat (first | exact (by repeat (first | (with_reducible exact HR415.out) | (with_reducible refine Kd.C_alloc ?_ _) | (with_reducible refine Kd.C_drewN ?_ _) | (with_reducible refine Kd.C_drew ?_) | exact HR415.out)) | (with_reducible refine Kd.C_alloc ?_ _) | (with_reducible refine Kd.C_drewN ?_ _) | (with_reducible refine Kd.C_drew ?_)))
              (case side4 => exact HC415.out)
              rintro e w' ⟨rfl, ⟨nd, rfl⟩⟩; refine ⟨_, rfl, ?_⟩
              refine hK.out _ _ trivial (fun hHeld => ?_)
              clear hK K
              refine norm_ (a' := ?_) ?_ ?_
              rotate_left
              ·show Act.put _ (some 72) _ = _
               simp only [Act.put, Cmp.s, Cmp.z, Cmp.c, i64_w, i32_w]; rfl
              refine Cmp.pu HT_ 11 73 (Cmp.bm 12 11) ?_; refine Cmp.pu HT_ 12 74 (Cmp.bm 13 10) ?_; refine Cmp.pu HT_ 13 75 (Cmp.bm 14 9) ?_; refine Cmp.pv HT_ 14 76 (Cmp.bm 15 8) ?_; refine Cmp.pv HT_ 15 77 (Cmp.bm 16 7) ?_; refine Cmp.pv HT_ 16 78 (Cmp.bm 17 6) ?_; refine Cmp.pv HT_ 17 79 (Cmp.bm 18 5) ?_; refine Cmp.pv HT_ 18 80 (Cmp.bm 19 4) ?_; refine Cmp.pv HT_ 19 81 (Cmp.bm 20 3) ?_; refine Cmp.pv HT_ 20 82 (Cmp.bm 21 2) ?_; refine Cmp.pv HT_ 21 83 (Cmp.bm 22 1) ?_; refine Cmp.pu HT_ 22 84 (Cmp.bm 23 0) ?_
              refine done_ (done_of HT_.out (by kernel_rfl)) ?_
              try go_wp2
              go_ret
              exact ⟨by first | rfl | (simp [errW_none, errW_some] <;> rfl) | (simp only [← hji27]; first | rfl | (simp [errW_none, errW_some] <;> rfl)) | (simp [*, errW_none, errW_some] <;> rfl), Cmp.g HB.out⟩
            ·replace c52 := Bool.eq_false_iff.mpr c52
             subst c52
             have H1 : (some false) = some r := by rw [if_neg (show ¬ (false = true) by decide)] at H; exact H
             clear H; have H := H1; clear H1
             obtain rfl := Option.some.inj H
             try go_wp2
             have n0_ := Aside0.mk (Kd.R_drew HO_3.out); have n1_ := Aside0.mk (Kd.R_drew HO_5.out); have n2_ := Aside0.mk (Kd.R_drew HO_6.out); have n3_ := Aside0.mk (below_drew1 HB.out); clear HO_3; clear HO_5; clear HO_6; clear HB; have HO_3 := n0_; have HO_5 := n1_; have HO_6 := n2_; have HB := n3_; clear n0_ n1_ n2_ n3_
             have q81 : (x7_1 : Int) ≤ ((t382.length : Int) : Int) := of_decide_eq_true Cmp.d
             obtain ⟨i081, hi081, _, hsz81, _⟩ := info_parts info86
             have hroom81 : t382.length ≤ co35 := (Kd.R_reads' HO_3.out).2.1
             have hC81 : Kd.C k86 _ Ao35 t382.length t382 := (Kd.R_reads' HO_3.out).2.2
             have hcut81 := cut_to (P := Try.prog) 40 86 .i64 Try.underlying40 hi081 Ao35 t382.length co35 x7_1 (of_decide_eq_true Cmp.d) q81 hroom81
             have hr81 := Kd.C_take (m := (x7_1 : Int).toNat) hC81 (by omega)
             have hy81 : y407.length = (x7_1 : Int).toNat := (by rw [Ny407.out, List.length_take]; omega)
             rw [← Ny407.out] at hr81
             rw [← hy81] at hcut81
             have HR410 := Aside0.mk hr81
             have HC410 := Aside0.mk (show y407.length ≤ co35 from by omega)
             clear hr81 hC81 hroom81 hi081 hsz81; have KY81 := Aside0.mk hy81; clear hy81
             have KL81 := Aside0.mk (show (x7_1 : Int).toNat ≤ t382.length from by omega)
             replace q81 := eq_true q81
             refine start_ (n := 23) (S := fun w' => True) (ds := []) (Cmp.bm 0 23) (by kernel_rfl) rfl rfl trivial (fun hHeld => ?_); refine with_tabW laws_FnDeviceLogs.tab14 laws_FnDeviceLogs.bits14 (fun HT_ HW_ => ?_)
             generalize wr.drew = w80 at HO_3 HO_5 HO_6 HB HR410 hHeld ⊢
             refine Cmp.pu HT_ 0 62 (Cmp.bm 1 22) ?_; refine Cmp.pu HT_ 1 63 (Cmp.bm 2 21) ?_; refine Cmp.pu HT_ 2 64 (Cmp.bm 3 20) ?_
             refine one_ (i := 3) (N := some 65) (Cmp.bm 4 19) rfl rfl (one_of HT_.out (by kernel_rfl)) (by decide) (fun K hK => ?_)
             refine goes_ Try.func20 (by kernel_rfl) rfl #[.slice Ao35 y407.length co35] (by rfl) rfl rfl Cmp.q ?_
             with_reducible refine (impl_VerifyLog.calls k1 _ _ y407 false _ ?side1 ?side2 A51.out).mono ?_
             (case side1 => repeat (first | exact (by repeat (first | (with_reducible exact HR410.out) | (with_reducible refine Kd.C_alloc ?_ _) | (with_reducible refine Kd.C_drewN ?_ _) | (with_reducible refine Kd.C_drew ?_) | exact HR410.out)) | (with_reducible refine Kd.C_alloc ?_ _) | (with_reducible refine Kd.C_drewN ?_ _) | (with_reducible refine Kd.C_drew ?_)))
             (case side2 => exact HC410.out)
             rintro e w82 ⟨rfl, hb⟩; refine ⟨_, rfl, ?_⟩
             have n0_ := Aside0.mk (Kd.R_below (Cmp.rr HO_3.out) hb)
             have n1_ := Aside0.mk (Kd.R_below (Cmp.rr HO_5.out) hb)
             have n2_ := Aside0.mk (Kd.R_below (Cmp.rr HO_6.out) hb)
             have n3_ := Aside0.mk (Kd.C_below (by repeat (first | (with_reducible exact HR410.out) | (with_reducible refine Kd.C_alloc ?_ _) | (with_reducible refine Kd.C_drewN ?_ _) | (with_reducible refine Kd.C_drew ?_) | exact HR410.out)) hb)
             have n4_ := Aside0.mk (below_step (Cmp.g HB.out) hb)
             clear HO_3; clear HO_5; clear HO_6; clear HR410; clear HB; have HO_3 := n0_; have HO_5 := n1_; have HO_6 := n2_; have HR410 := n3_; have HB := n4_; clear n0_ n1_ n2_ n3_ n4_; (try clear hb); (try clear hb2); (try clear hk); (try clear hi)
             refine hK.out _ _ trivial (fun hHeld => ?_)
             clear hK K
             refine norm_ (a' := ?_) ?_ ?_
             rotate_left
             ·show Act.put _ (some 65) _ = _
              simp only [Act.put, Cmp.s, Cmp.z, Cmp.c, i64_w, i32_w]; rfl
             refine Cmp.pu HT_ 4 66 (Cmp.bm 5 18) ?_; refine Cmp.pu HT_ 5 67 (Cmp.bm 6 17) ?_; refine Cmp.pv HT_ 6 68 (Cmp.bm 7 16) ?_; refine Cmp.pv HT_ 7 69 (Cmp.bm 8 15) ?_; refine Cmp.pv HT_ 8 70 (Cmp.bm 9 14) ?_; refine Cmp.pv HT_ 9 71 (Cmp.bm 10 13) ?_; refine Cmp.pv HT_ 10 72 (Cmp.bm 11 12) ?_; refine Cmp.pv HT_ 11 73 (Cmp.bm 12 11) ?_; refine Cmp.pu HT_ 12 74 (Cmp.bm 13 10) ?_; refine Cmp.pu HT_ 13 75 (Cmp.bm 14 9) ?_; refine Cmp.pv HT_ 14 76 (Cmp.bm 15 8) ?_; refine Cmp.pv HT_ 15 77 (Cmp.bm 16 7) ?_; refine Cmp.pv HT_ 16 78 (Cmp.bm 17 6) ?_; refine Cmp.pv HT_ 17 79 (Cmp.bm 18 5) ?_; refine Cmp.pv HT_ 18 80 (Cmp.bm 19 4) ?_; refine Cmp.pv HT_ 19 81 (Cmp.bm 20 3) ?_; refine Cmp.pv HT_ 20 82 (Cmp.bm 21 2) ?_; refine Cmp.pv HT_ 21 83 (Cmp.bm 22 1) ?_; refine Cmp.pu HT_ 22 84 (Cmp.bm 23 0) ?_
             refine done_ (done_of HT_.out (by kernel_rfl)) ?_
             try go_wp2
             go_ret
             exact ⟨by first | rfl | (simp [errW_none, errW_some] <;> rfl) | (simp only [← hji27]; first | rfl | (simp [errW_none, errW_some] <;> rfl)) | (simp [*, errW_none, errW_some] <;> rfl), Cmp.g HB.out⟩
           ·rw [if_neg c49] at H; exact absurd H (by simp)
          ·rw [if_neg c48] at H
           have c48b0 : decide (x7_1 ≤ (t382.length : Int)) = false := decide_eq_false c48
           clear c48; replace H := Option.bind_eq_some_iff.mp H; obtain ⟨t426, A830, H⟩ := H; (try dsimp only at H); have A83 := Aside0.mk A830; clear A830
           by_cases c84 : t426 = true
           ·subst c84; rw [if_pos rfl] at H
            obtain rfl := Option.some.inj H
            try go_wp2
            have n0_ := Aside0.mk (Kd.R_drew HO_3.out); have n1_ := Aside0.mk (Kd.R_drew HO_5.out); have n2_ := Aside0.mk (Kd.R_drew HO_6.out); have n3_ := Aside0.mk (below_drew1 HB.out); clear HO_3; clear HO_5; clear HO_6; clear HB; have HO_3 := n0_; have HO_5 := n1_; have HO_6 := n2_; have HB := n3_; clear n0_ n1_ n2_ n3_
            refine start_ (n := 39) (S := fun w' => True) (ds := []) (Cmp.bm 0 39) (by kernel_rfl) rfl rfl trivial (fun hHeld => ?_); refine with_tabW laws_FnDeviceLogs.tab16 laws_FnDeviceLogs.bits16 (fun HT_ HW_ => ?_)
            generalize wr.drew = w85 at HO_3 HO_5 HO_6 HB hHeld ⊢
            refine Cmp.pu HT_ 0 85 (Cmp.bm 1 38) ?_
            refine one_ (i := 1) (N := some 86) (Cmp.bm 2 37) rfl rfl (one_of HT_.out (by kernel_rfl)) (by decide) (fun K hK => ?_)
            refine goes_ Try.func20 (by kernel_rfl) rfl #[.slice (some ⟨go30, 0, none⟩) y398.length co30] (by rfl) rfl rfl Cmp.q ?_
            with_reducible refine (impl_VerifyLog.calls k1 _ _ y398 true _ ?side1 ?side2 A83.out).mono ?_
            (case side1 => exact Cmp.rc (Kd.R_reads' HO_5.out).2.2)
            (case side2 => exact (Kd.R_reads' HO_5.out).2.1)
            rintro e w86 ⟨rfl, hb⟩; refine ⟨_, rfl, ?_⟩
            have n0_ := Aside0.mk (Kd.R_below (Cmp.rr HO_3.out) hb)
            have n1_ := Aside0.mk (Kd.R_below (Cmp.rr HO_5.out) hb)
            have n2_ := Aside0.mk (Kd.R_below (Cmp.rr HO_6.out) hb)
            have n3_ := Aside0.mk (below_step (Cmp.g HB.out) hb)
            clear HO_3; clear HO_5; clear HO_6; clear HB; have HO_3 := n0_; have HO_5 := n1_; have HO_6 := n2_; have HB := n3_; clear n0_ n1_ n2_ n3_; (try clear hb); (try clear hb2); (try clear hk); (try clear hi)
            refine hK.out _ _ trivial (fun hHeld => ?_)
            clear hK K
            refine norm_ (a' := ?_) ?_ ?_
            rotate_left
            ·show Act.put _ (some 86) _ = _
             simp only [Act.put, Cmp.s, Cmp.z, Cmp.c, i64_w, i32_w]; rfl
            refine Cmp.pu HT_ 2 87 (Cmp.bm 3 36) ?_; refine Cmp.pu HT_ 3 88 (Cmp.bm 4 35) ?_; refine Cmp.pv HT_ 4 89 (Cmp.bm 5 34) ?_; refine Cmp.pv HT_ 5 90 (Cmp.bm 6 33) ?_; refine Cmp.pv HT_ 6 91 (Cmp.bm 7 32) ?_; refine Cmp.pu HT_ 7 92 (Cmp.bm 8 31) ?_; refine Cmp.pu HT_ 8 93 (Cmp.bm 9 30) ?_; refine Cmp.pv HT_ 9 94 (Cmp.bm 10 29) ?_; refine Cmp.pv HT_ 10 95 (Cmp.bm 11 28) ?_; refine Cmp.pv HT_ 11 96 (Cmp.bm 12 27) ?_; refine Cmp.pv HT_ 12 97 (Cmp.bm 13 26) ?_; refine Cmp.pv HT_ 13 98 (Cmp.bm 14 25) ?_; refine Cmp.pv HT_ 14 99 (Cmp.bm 15 24) ?_; refine Cmp.pv HT_ 15 100 (Cmp.bm 16 23) ?_; refine Cmp.pv HT_ 16 101 (Cmp.bm 17 22) ?_; refine Cmp.pv HT_ 17 102 (Cmp.bm 18 21) ?_; refine Cmp.pv HT_ 18 103 (Cmp.bm 19 20) ?_; refine Cmp.pu HT_ 19 104 (Cmp.bm 20 19) ?_; refine Cmp.pu HT_ 20 105 (Cmp.bm 21 18) ?_; refine Cmp.pv HT_ 21 106 (Cmp.bm 22 17) ?_; refine Cmp.pv HT_ 22 107 (Cmp.bm 23 16) ?_; refine Cmp.pv HT_ 23 108 (Cmp.bm 24 15) ?_; refine Cmp.pv HT_ 24 109 (Cmp.bm 25 14) ?_; refine Cmp.pu HT_ 25 110 (Cmp.bm 26 13) ?_; refine Cmp.pu HT_ 26 111 (Cmp.bm 27 12) ?_; refine Cmp.pv HT_ 27 112 (Cmp.bm 28 11) ?_; refine Cmp.pv HT_ 28 113 (Cmp.bm 29 10) ?_; refine Cmp.pv HT_ 29 114 (Cmp.bm 30 9) ?_; refine Cmp.pv HT_ 30 115 (Cmp.bm 31 8) ?_; refine Cmp.pv HT_ 31 116 (Cmp.bm 32 7) ?_; refine Cmp.pv HT_ 32 117 (Cmp.bm 33 6) ?_; refine Cmp.pv HT_ 33 118 (Cmp.bm 34 5) ?_; refine Cmp.pv HT_ 34 119 (Cmp.bm 35 4) ?_; refine Cmp.pv HT_ 35 120 (Cmp.bm 36 3) ?_; refine Cmp.pv HT_ 36 121 (Cmp.bm 37 2) ?_; refine Cmp.pu HT_ 37 122 (Cmp.bm 38 1) ?_; refine Cmp.pu HT_ 38 2 (Cmp.bm 39 0) ?_
            refine done_ (done_of HT_.out (by kernel_rfl)) ?_
            try go_wp2
            go_ret
            exact ⟨by first | rfl | (simp [errW_none, errW_some] <;> rfl) | (simp only [← hji27]; first | rfl | (simp [errW_none, errW_some] <;> rfl)) | (simp [*, errW_none, errW_some] <;> rfl), Cmp.g HB.out⟩
           ·replace c84 := Bool.eq_false_iff.mpr c84
            subst c84
            have H1 : ((impl_VerifyLog.f k1 y406).bind fun t427 => (if t427 = true then (some false) else ((impl_LogHead.f k1 t382).bind fun t428 => (if 0 ≤ (wrap64 ((t382.length : Int) - 1)) then (if (wrap64 ((t382.length : Int) - 1)) < (t382.length : Int) then ((impl_EntryHash.f k1 ((rd_T86 t382 (wrap64 ((t382.length : Int) - 1))).f0) ((rd_T86 t382 (wrap64 ((t382.length : Int) - 1))).f1) ((rd_T86 t382 (wrap64 ((t382.length : Int) - 1))).f2) ((rd_T86 t382 (wrap64 ((t382.length : Int) - 1))).f3) ((rd_T86 t382 (wrap64 ((t382.length : Int) - 1))).f4) ((rd_T86 t382 (wrap64 ((t382.length : Int) - 1))).f5)).bind fun t430 => (if t428 = t430 then ((impl_DevicesOf.f k1 t382).bind fun t431 => (if (t431.length : Int) ≥ 1 then ((impl_DevicesOf.f k1 t382).bind fun t434 => ((impl_EpochOf.f k1 t382).bind fun t437 => (some ((t434.length : Int) == (wrap64 ((t382.length : Int) - (wrap64 (2 * t437)))))))) else (some false))) else (some false))) else (none)) else (none))))) = some r := by rw [if_neg (show ¬ (false = true) by decide)] at H; exact H
            clear H; have H := H1; clear H1; replace H := Option.bind_eq_some_iff.mp H; obtain ⟨t427, A870, H⟩ := H; (try dsimp only at H); have A87 := Aside0.mk A870; clear A870
            by_cases c88 : t427 = true
            ·subst c88; rw [if_pos rfl] at H
             obtain rfl := Option.some.inj H
             try go_wp2
             have n0_ := Aside0.mk (Kd.R_drew HO_3.out); have n1_ := Aside0.mk (Kd.R_drew HO_5.out); have n2_ := Aside0.mk (Kd.R_drew HO_6.out); have n3_ := Aside0.mk (below_drew1 HB.out); clear HO_3; clear HO_5; clear HO_6; clear HB; have HO_3 := n0_; have HO_5 := n1_; have HO_6 := n2_; have HB := n3_; clear n0_ n1_ n2_ n3_
             refine start_ (n := 39) (S := fun w' => True) (ds := []) (Cmp.bm 0 39) (by kernel_rfl) rfl rfl trivial (fun hHeld => ?_); refine with_tabW laws_FnDeviceLogs.tab16 laws_FnDeviceLogs.bits16 (fun HT_ HW_ => ?_)
             generalize wr.drew = w89 at HO_3 HO_5 HO_6 HB hHeld ⊢
             refine Cmp.pu HT_ 0 85 (Cmp.bm 1 38) ?_
             refine one_ (i := 1) (N := some 86) (Cmp.bm 2 37) rfl rfl (one_of HT_.out (by kernel_rfl)) (by decide) (fun K hK => ?_)
             refine goes_ Try.func20 (by kernel_rfl) rfl #[.slice (some ⟨go30, 0, none⟩) y398.length co30] (by rfl) rfl rfl Cmp.q ?_
             with_reducible refine (impl_VerifyLog.calls k1 _ _ y398 false _ ?side1 ?side2 A83.out).mono ?_
             (case side1 => exact Cmp.rc (Kd.R_reads' HO_5.out).2.2)
             (case side2 => exact (Kd.R_reads' HO_5.out).2.1)
             rintro e w90 ⟨rfl, hb⟩; refine ⟨_, rfl, ?_⟩
             have n0_ := Aside0.mk (Kd.R_below (Cmp.rr HO_3.out) hb)
             have n1_ := Aside0.mk (Kd.R_below (Cmp.rr HO_5.out) hb)
             have n2_ := Aside0.mk (Kd.R_below (Cmp.rr HO_6.out) hb)
             have n3_ := Aside0.mk (below_step (Cmp.g HB.out) hb)
             clear HO_3; clear HO_5; clear HO_6; clear HB; have HO_3 := n0_; have HO_5 := n1_; have HO_6 := n2_; have HB := n3_; clear n0_ n1_ n2_ n3_; (try clear hb); (try clear hb2); (try clear hk); (try clear hi)
             refine hK.out _ _ trivial (fun hHeld => ?_)
             clear hK K
             refine norm_ (a' := ?_) ?_ ?_
             rotate_left
             ·show Act.put _ (some 86) _ = _
              simp only [Act.put, Cmp.s, Cmp.z, Cmp.c, i64_w, i32_w]; rfl
             refine Cmp.pu HT_ 2 87 (Cmp.bm 3 36) ?_; refine Cmp.pu HT_ 3 88 (Cmp.bm 4 35) ?_; refine Cmp.pu HT_ 4 89 (Cmp.bm 5 34) ?_
             refine one_ (i := 5) (N := some 90) (Cmp.bm 6 33) rfl rfl (one_of HT_.out (by kernel_rfl)) (by decide) (fun K hK => ?_)
             refine goes_ Try.func20 (by kernel_rfl) rfl #[.slice (some ⟨go33, 0, none⟩) y406.length co45] (by rfl) rfl rfl Cmp.q ?_
             with_reducible refine (impl_VerifyLog.calls k1 _ _ y406 true _ ?side1 ?side2 A87.out).mono ?_
             (case side1 => exact Cmp.rc (Kd.R_reads' HO_6.out).2.2)
             (case side2 => exact (Kd.R_reads' HO_6.out).2.1)
             rintro e w91 ⟨rfl, hb⟩; refine ⟨_, rfl, ?_⟩
             have n0_ := Aside0.mk (Kd.R_below (Cmp.rr HO_3.out) hb)
             have n1_ := Aside0.mk (Kd.R_below (Cmp.rr HO_5.out) hb)
             have n2_ := Aside0.mk (Kd.R_below (Cmp.rr HO_6.out) hb)
             have n3_ := Aside0.mk (below_step (Cmp.g HB.out) hb)
             clear HO_3; clear HO_5; clear HO_6; clear HB; have HO_3 := n0_; have HO_5 := n1_; have HO_6 := n2_; have HB := n3_; clear n0_ n1_ n2_ n3_; (try clear hb); (try clear hb2); (try clear hk); (try clear hi)
             refine hK.out _ _ trivial (fun hHeld => ?_)
             clear hK K
             refine norm_ (a' := ?_) ?_ ?_
             rotate_left
             ·show Act.put _ (some 90) _ = _
              simp only [Act.put, Cmp.s, Cmp.z, Cmp.c, i64_w, i32_w]; rfl
             refine Cmp.pu HT_ 6 91 (Cmp.bm 7 32) ?_; refine Cmp.pu HT_ 7 92 (Cmp.bm 8 31) ?_; refine Cmp.pu HT_ 8 93 (Cmp.bm 9 30) ?_; refine Cmp.pv HT_ 9 94 (Cmp.bm 10 29) ?_; refine Cmp.pv HT_ 10 95 (Cmp.bm 11 28) ?_; refine Cmp.pv HT_ 11 96 (Cmp.bm 12 27) ?_; refine Cmp.pv HT_ 12 97 (Cmp.bm 13 26) ?_; refine Cmp.pv HT_ 13 98 (Cmp.bm 14 25) ?_; refine Cmp.pv HT_ 14 99 (Cmp.bm 15 24) ?_; refine Cmp.pv HT_ 15 100 (Cmp.bm 16 23) ?_; refine Cmp.pv HT_ 16 101 (Cmp.bm 17 22) ?_; refine Cmp.pv HT_ 17 102 (Cmp.bm 18 21) ?_; refine Cmp.pv HT_ 18 103 (Cmp.bm 19 20) ?_; refine Cmp.pu HT_ 19 104 (Cmp.bm 20 19) ?_; refine Cmp.pu HT_ 20 105 (Cmp.bm 21 18) ?_; refine Cmp.pv HT_ 21 106 (Cmp.bm 22 17) ?_; refine Cmp.pv HT_ 22 107 (Cmp.bm 23 16) ?_; refine Cmp.pv HT_ 23 108 (Cmp.bm 24 15) ?_; refine Cmp.pv HT_ 24 109 (Cmp.bm 25 14) ?_; refine Cmp.pu HT_ 25 110 (Cmp.bm 26 13) ?_; refine Cmp.pu HT_ 26 111 (Cmp.bm 27 12) ?_; refine Cmp.pv HT_ 27 112 (Cmp.bm 28 11) ?_; refine Cmp.pv HT_ 28 113 (Cmp.bm 29 10) ?_; refine Cmp.pv HT_ 29 114 (Cmp.bm 30 9) ?_; refine Cmp.pv HT_ 30 115 (Cmp.bm 31 8) ?_; refine Cmp.pv HT_ 31 116 (Cmp.bm 32 7) ?_; refine Cmp.pv HT_ 32 117 (Cmp.bm 33 6) ?_; refine Cmp.pv HT_ 33 118 (Cmp.bm 34 5) ?_; refine Cmp.pv HT_ 34 119 (Cmp.bm 35 4) ?_; refine Cmp.pv HT_ 35 120 (Cmp.bm 36 3) ?_; refine Cmp.pv HT_ 36 121 (Cmp.bm 37 2) ?_; refine Cmp.pu HT_ 37 122 (Cmp.bm 38 1) ?_; refine Cmp.pu HT_ 38 2 (Cmp.bm 39 0) ?_
             refine done_ (done_of HT_.out (by kernel_rfl)) ?_
             try go_wp2
             go_ret
             exact ⟨by first | rfl | (simp [errW_none, errW_some] <;> rfl) | (simp only [← hji27]; first | rfl | (simp [errW_none, errW_some] <;> rfl)) | (simp [*, errW_none, errW_some] <;> rfl), Cmp.g HB.out⟩
            ·replace c88 := Bool.eq_false_iff.mpr c88
             subst c88
             have H1 : ((impl_LogHead.f k1 t382).bind fun t428 => (if 0 ≤ (wrap64 ((t382.length : Int) - 1)) then (if (wrap64 ((t382.length : Int) - 1)) < (t382.length : Int) then ((impl_EntryHash.f k1 ((rd_T86 t382 (wrap64 ((t382.length : Int) - 1))).f0) ((rd_T86 t382 (wrap64 ((t382.length : Int) - 1))).f1) ((rd_T86 t382 (wrap64 ((t382.length : Int) - 1))).f2) ((rd_T86 t382 (wrap64 ((t382.length : Int) - 1))).f3) ((rd_T86 t382 (wrap64 ((t382.length : Int) - 1))).f4) ((rd_T86 t382 (wrap64 ((t382.length : Int) - 1))).f5)).bind fun t430 => (if t428 = t430 then ((impl_DevicesOf.f k1 t382).bind fun t431 => (if (t431.length : Int) ≥ 1 then ((impl_DevicesOf.f k1 t382).bind fun t434 => ((impl_EpochOf.f k1 t382).bind fun t437 => (some ((t434.length : Int) == (wrap64 ((t382.length : Int) - (wrap64 (2 * t437)))))))) else (some false))) else (some false))) else (none)) else (none))) = some r := by rw [if_neg (show ¬ (false = true) by decide)] at H; exact H
             clear H; have H := H1; clear H1; replace H := Option.bind_eq_some_iff.mp H; obtain ⟨t428, A920, H⟩ := H; (try dsimp only at H); have A92 := Aside0.mk A920; clear A920
             obtain ⟨ji93, hji93⟩ : ∃ j_ : Int, (wrap64 ((t382.length : Int) - 1)) = j_ := ⟨_, rfl⟩
             replace H : (if 0 ≤ (ji93) then (if (ji93) < (t382.length : Int) then ((impl_EntryHash.f k1 ((rd_T86 t382 (ji93)).f0) ((rd_T86 t382 (ji93)).f1) ((rd_T86 t382 (ji93)).f2) ((rd_T86 t382 (ji93)).f3) ((rd_T86 t382 (ji93)).f4) ((rd_T86 t382 (ji93)).f5)).bind fun t430 => (if t428 = t430 then ((impl_DevicesOf.f k1 t382).bind fun t431 => (if (t431.length : Int) ≥ 1 then ((impl_DevicesOf.f k1 t382).bind fun t434 => ((impl_EpochOf.f k1 t382).bind fun t437 => (some ((t434.length : Int) == (wrap64 ((t382.length : Int) - (wrap64 (2 * t437)))))))) else (some false))) else (some false))) else (none)) else (none)) = some r := by first | (rw [hji93] at H; exact H) | (simp only [hji93] at H ⊢; exact H)
             (try rw [hji93] at A83)
             (try rw [hji93] at A87)
             (try rw [hji93] at A92)
             have hji93w : (IntKind.i64.wrap ((t382.length : Int) - 1)) = ji93 := (i64_w _).trans hji93
             by_cases c94 : 0 ≤ (ji93)
             ·rw [if_pos c94] at H; have c94b0 : decide (0 ≤ (ji93)) = true := decide_eq_true c94; clear c94
              by_cases c95 : (ji93) < (t382.length : Int)
              ·rw [if_pos c95] at H
               have c95b0 : decide ((ji93) < (t382.length : Int)) = true := decide_eq_true c95
               clear c95; replace H := Option.bind_eq_some_iff.mp H; obtain ⟨t430, A960, H⟩ := H; (try dsimp only at H); have A96 := Aside0.mk A960; clear A960
               by_cases c97 : t428 = t430
               ·rw [if_pos c97] at H; have c97b0 : (t428 == t430) = true := beq_iff_eq.mpr c97; have c97b1 : (t428 != t430) = false := bne_eq_false_iff_eq.mpr c97; clear c97; replace H := Option.bind_eq_some_iff.mp H; obtain ⟨t431, A980, H⟩ := H; (try dsimp only at H); have A98 := Aside0.mk A980; clear A980
                by_cases c99 : (t431.length : Int) ≥ 1
                ·rw [if_pos c99] at H
                 have c99b0 : decide (1 ≤ (t431.length : Int)) = true := decide_eq_true c99
                 have c99b1 : decide (1 ≤ t431.length) = true := decide_eq_true (by omega)
                 clear c99; replace H := Option.bind_eq_some_iff.mp H; obtain ⟨t434, A1000, H⟩ := H; (try dsimp only at H); have A100 := Aside0.mk A1000; clear A1000; replace H := Option.bind_eq_some_iff.mp H; obtain ⟨t437, A1010, H⟩ := H; (try dsimp only at H); have A101 := Aside0.mk A1010; clear A1010
                 obtain rfl := Option.some.inj H
                 try go_wp2
                 have n0_ := Aside0.mk (Kd.R_drew HO_3.out); have n1_ := Aside0.mk (Kd.R_drew HO_5.out); have n2_ := Aside0.mk (Kd.R_drew HO_6.out); have n3_ := Aside0.mk (below_drew1 HB.out); clear HO_3; clear HO_5; clear HO_6; clear HB; have HO_3 := n0_; have HO_5 := n1_; have HO_6 := n2_; have HB := n3_; clear n0_ n1_ n2_ n3_
                 have p429 : 0 ≤ ((ji93) : Int) := of_decide_eq_true Cmp.d
                 have q429 : (ji93) < (t382.length : Int) := of_decide_eq_true Cmp.d
                 obtain ⟨ad429, e429, hx429_0, hx429_1, hx429_2, hx429_3, hx429_4, hx429_5⟩ := at_T86 (Kd.R_reads' HO_3.out).2.2 (ji93) p429 q429
                 cases e429; replace p429 := eq_true p429; replace q429 := eq_true q429
                 refine start_ (n := 39) (S := fun w' => w'.cell? (ad429.add (((ji93)).toNat * 6)) = some (.int .i64 ((rd_T86 t382 (ji93)).f0)) ∧ w'.cell? ⟨(ad429.add (((ji93)).toNat * 6)).block, (ad429.add (((ji93)).toNat * 6)).off + 1, none⟩ = some (.int .i64 ((rd_T86 t382 (ji93)).f1)) ∧ w'.cell? ⟨(ad429.add (((ji93)).toNat * 6)).block, (ad429.add (((ji93)).toNat * 6)).off + 2, none⟩ = some (.int .i64 ((rd_T86 t382 (ji93)).f2)) ∧ w'.cell? ⟨(ad429.add (((ji93)).toNat * 6)).block, (ad429.add (((ji93)).toNat * 6)).off + 3, none⟩ = some (.int .i64 ((rd_T86 t382 (ji93)).f3)) ∧ w'.cell? ⟨(ad429.add (((ji93)).toNat * 6)).block, (ad429.add (((ji93)).toNat * 6)).off + 4, none⟩ = some (.int .i64 ((rd_T86 t382 (ji93)).f4)) ∧ w'.cell? ⟨(ad429.add (((ji93)).toNat * 6)).block, (ad429.add (((ji93)).toNat * 6)).off + 5, none⟩ = some (.int .i64 ((rd_T86 t382 (ji93)).f5))) (ds := []) (Cmp.bm 0 39) (by kernel_rfl) rfl rfl ⟨hx429_0, hx429_1, hx429_2, hx429_3, hx429_4, hx429_5⟩ (fun hHeld => ?_); refine with_tabW laws_FnDeviceLogs.tab16 laws_FnDeviceLogs.bits16 (fun HT_ HW_ => ?_)
                 generalize wr.drew = w102 at HO_3 HO_5 HO_6 HB hx429_0 hx429_1 hx429_2 hx429_3 hx429_4 hx429_5 hHeld ⊢
                 refine Cmp.pu HT_ 0 85 (Cmp.bm 1 38) ?_
                 refine one_ (i := 1) (N := some 86) (Cmp.bm 2 37) rfl rfl (one_of HT_.out (by kernel_rfl)) (by decide) (fun K hK => ?_)
                 refine goes_ Try.func20 (by kernel_rfl) rfl #[.slice (some ⟨go30, 0, none⟩) y398.length co30] (by rfl) rfl rfl Cmp.q ?_
                 with_reducible refine (impl_VerifyLog.calls k1 _ _ y398 false _ ?side1 ?side2 A83.out).mono ?_
                 (case side1 => exact Cmp.rc (Kd.R_reads' HO_5.out).2.2)
                 (case side2 => exact (Kd.R_reads' HO_5.out).2.1)
                 rintro e w103 ⟨rfl, hb⟩
                 have HS0_ := (hb.cell (World.block_lt_of_cell? _ _ (hHeld.1))).trans (hHeld.1)
                 have HS1_ := (hb.cell (World.block_lt_of_cell? _ _ (hHeld.2.1))).trans (hHeld.2.1)
                 have HS2_ := (hb.cell (World.block_lt_of_cell? _ _ (hHeld.2.2.1))).trans (hHeld.2.2.1)
                 have HS3_ := (hb.cell (World.block_lt_of_cell? _ _ (hHeld.2.2.2.1))).trans (hHeld.2.2.2.1)
                 have HS4_ := (hb.cell (World.block_lt_of_cell? _ _ (hHeld.2.2.2.2.1))).trans (hHeld.2.2.2.2.1)
                 have HS5_ := (hb.cell (World.block_lt_of_cell? _ _ (hHeld.2.2.2.2.2))).trans (hHeld.2.2.2.2.2)
                 refine ⟨_, rfl, ?_⟩
                 have n0_ := Aside0.mk (Kd.R_below (Cmp.rr HO_3.out) hb)
                 have n1_ := Aside0.mk (Kd.R_below (Cmp.rr HO_5.out) hb)
                 have n2_ := Aside0.mk (Kd.R_below (Cmp.rr HO_6.out) hb)
                 have n3_ := Aside0.mk (below_step (Cmp.g HB.out) hb)
                 clear HO_3; clear HO_5; clear HO_6; clear HB; have HO_3 := n0_; have HO_5 := n1_; have HO_6 := n2_; have HB := n3_; clear n0_ n1_ n2_ n3_; (try clear hb); (try clear hb2); (try clear hk); (try clear hi)
                 refine hK.out _ _ ⟨HS0_, HS1_, HS2_, HS3_, HS4_, HS5_⟩ (fun hHeld => ?_)
                 clear hK K
                 refine norm_ (a' := ?_) ?_ ?_
                 rotate_left
                 ·show Act.put _ (some 86) _ = _
                  simp only [Act.put, Cmp.s, Cmp.z, Cmp.c, i64_w, i32_w]; rfl
                 refine Cmp.pu HT_ 2 87 (Cmp.bm 3 36) ?_; refine Cmp.pu HT_ 3 88 (Cmp.bm 4 35) ?_; refine Cmp.pu HT_ 4 89 (Cmp.bm 5 34) ?_
                 refine one_ (i := 5) (N := some 90) (Cmp.bm 6 33) rfl rfl (one_of HT_.out (by kernel_rfl)) (by decide) (fun K hK => ?_)
                 refine goes_ Try.func20 (by kernel_rfl) rfl #[.slice (some ⟨go33, 0, none⟩) y406.length co45] (by rfl) rfl rfl Cmp.q ?_
                 with_reducible refine (impl_VerifyLog.calls k1 _ _ y406 false _ ?side1 ?side2 A87.out).mono ?_
                 (case side1 => exact Cmp.rc (Kd.R_reads' HO_6.out).2.2)
                 (case side2 => exact (Kd.R_reads' HO_6.out).2.1)
                 rintro e w104 ⟨rfl, hb⟩
                 have HS0_ := (hb.cell (World.block_lt_of_cell? _ _ (hHeld.1))).trans (hHeld.1)
                 have HS1_ := (hb.cell (World.block_lt_of_cell? _ _ (hHeld.2.1))).trans (hHeld.2.1)
                 have HS2_ := (hb.cell (World.block_lt_of_cell? _ _ (hHeld.2.2.1))).trans (hHeld.2.2.1)
                 have HS3_ := (hb.cell (World.block_lt_of_cell? _ _ (hHeld.2.2.2.1))).trans (hHeld.2.2.2.1)
                 have HS4_ := (hb.cell (World.block_lt_of_cell? _ _ (hHeld.2.2.2.2.1))).trans (hHeld.2.2.2.2.1)
                 have HS5_ := (hb.cell (World.block_lt_of_cell? _ _ (hHeld.2.2.2.2.2))).trans (hHeld.2.2.2.2.2)
                 refine ⟨_, rfl, ?_⟩
                 have n0_ := Aside0.mk (Kd.R_below (Cmp.rr HO_3.out) hb)
                 have n1_ := Aside0.mk (Kd.R_below (Cmp.rr HO_5.out) hb)
                 have n2_ := Aside0.mk (Kd.R_below (Cmp.rr HO_6.out) hb)
                 have n3_ := Aside0.mk (below_step (Cmp.g HB.out) hb)
                 clear HO_3; clear HO_5; clear HO_6; clear HB; have HO_3 := n0_; have HO_5 := n1_; have HO_6 := n2_; have HB := n3_; clear n0_ n1_ n2_ n3_; (try clear hb); (try clear hb2); (try clear hk); (try clear hi)
                 refine hK.out _ _ ⟨HS0_, HS1_, HS2_, HS3_, HS4_, HS5_⟩ (fun hHeld => ?_)
                 clear hK K
                 refine norm_ (a' := ?_) ?_ ?_
                 rotate_left
                 ·show Act.put _ (some 90) _ = _
                  simp only [Act.put, Cmp.s, Cmp.z, Cmp.c, i64_w, i32_w]; rfl
                 refine Cmp.pu HT_ 6 91 (Cmp.bm 7 32) ?_; refine Cmp.pu HT_ 7 92 (Cmp.bm 8 31) ?_; refine Cmp.pu HT_ 8 93 (Cmp.bm 9 30) ?_; refine Cmp.pu HT_ 9 94 (Cmp.bm 10 29) ?_; refine Cmp.pu HT_ 11 96 (Cmp.bb 39 3071) ?_; refine Cmp.pu HT_ 12 97 (Cmp.bb 39 7167) ?_; refine Cmp.pu HT_ 13 98 (Cmp.bb 39 15359) ?_; refine Cmp.pu HT_ 14 99 (Cmp.bb 39 31743) ?_; refine Cmp.pu HT_ 15 100 (Cmp.bb 39 64511) ?_; refine Cmp.tk HT_ HW_ hHeld 16 101 (Cmp.bb 39 130047) ?_
                 refine one_ (i := 10) (N := some 95) (Cmp.bm 17 22) rfl rfl (one_of HT_.out (by kernel_rfl)) (by decide) (fun K hK => ?_)
                 refine goes_ Try.func37 (by kernel_rfl) rfl #[.slice (some ad429) t382.length co35] (by rfl) rfl rfl Cmp.q ?_
                 with_reducible refine (impl_LogHead.calls k1 _ _ t382 t428 _ ?side1 ?side2 A92.out).mono ?_
                 (case side1 => exact Cmp.rc (Kd.R_reads' HO_3.out).2.2)
                 (case side2 => exact (Kd.R_reads' HO_3.out).2.1)
                 rintro e w105 ⟨rfl, hb⟩
                 have HS0_ := (hb.cell (World.block_lt_of_cell? _ _ (hHeld.1))).trans (hHeld.1)
                 have HS1_ := (hb.cell (World.block_lt_of_cell? _ _ (hHeld.2.1))).trans (hHeld.2.1)
                 have HS2_ := (hb.cell (World.block_lt_of_cell? _ _ (hHeld.2.2.1))).trans (hHeld.2.2.1)
                 have HS3_ := (hb.cell (World.block_lt_of_cell? _ _ (hHeld.2.2.2.1))).trans (hHeld.2.2.2.1)
                 have HS4_ := (hb.cell (World.block_lt_of_cell? _ _ (hHeld.2.2.2.2.1))).trans (hHeld.2.2.2.2.1)
                 have HS5_ := (hb.cell (World.block_lt_of_cell? _ _ (hHeld.2.2.2.2.2))).trans (hHeld.2.2.2.2.2)
                 refine ⟨_, rfl, ?_⟩
                 have n0_ := Aside0.mk (Kd.R_below (Cmp.rr HO_3.out) hb)
                 have n1_ := Aside0.mk (Kd.R_below (Cmp.rr HO_5.out) hb)
                 have n2_ := Aside0.mk (Kd.R_below (Cmp.rr HO_6.out) hb)
                 have n3_ := Aside0.mk (below_step (Cmp.g HB.out) hb)
                 clear HO_3; clear HO_5; clear HO_6; clear HB; have HO_3 := n0_; have HO_5 := n1_; have HO_6 := n2_; have HB := n3_; clear n0_ n1_ n2_ n3_; (try clear hb); (try clear hb2); (try clear hk); (try clear hi)
                 refine hK.out _ _ ⟨HS0_, HS1_, HS2_, HS3_, HS4_, HS5_⟩ (fun hHeld => ?_)
                 clear hK K
                 refine norm_ (a' := ?_) ?_ ?_
                 rotate_left
                 ·show Act.put _ (some 95) _ = _
                  simp only [Act.put, Cmp.s, Cmp.z, Cmp.c, i64_w, i32_w]; rfl
                 refine one_ (i := 17) (N := some 102) (Cmp.bm 18 21) rfl rfl (one_of HT_.out (by kernel_rfl)) (by decide) (fun K hK => ?_)
                 refine goes_ Try.func42 (by kernel_rfl) rfl #[.agg #[.int .i64 ((rd_T86 t382 (ji93)).f0), .int .i64 ((rd_T86 t382 (ji93)).f1), .int .i64 ((rd_T86 t382 (ji93)).f2), .int .i64 ((rd_T86 t382 (ji93)).f3), .int .i64 ((rd_T86 t382 (ji93)).f4), .int .i64 ((rd_T86 t382 (ji93)).f5)]] (by rfl) rfl rfl (by (try simp only [List.map_toArray, List.map_cons, List.map_nil]); first | done | (simp only [hji93]; rfl) | rfl | (simp only [List.length_drop, List.length_take]; rfl)) ?_
                 with_reducible refine (impl_EntryHash.calls k1 ((rd_T86 t382 (ji93)).f0) ((rd_T86 t382 (ji93)).f1) ((rd_T86 t382 (ji93)).f2) ((rd_T86 t382 (ji93)).f3) ((rd_T86 t382 (ji93)).f4) ((rd_T86 t382 (ji93)).f5) t430 _ A96.out).mono ?_
                 rintro e w106 ⟨rfl, hb⟩
                 have HS0_ := (hb.cell (World.block_lt_of_cell? _ _ (hHeld.1))).trans (hHeld.1)
                 have HS1_ := (hb.cell (World.block_lt_of_cell? _ _ (hHeld.2.1))).trans (hHeld.2.1)
                 have HS2_ := (hb.cell (World.block_lt_of_cell? _ _ (hHeld.2.2.1))).trans (hHeld.2.2.1)
                 have HS3_ := (hb.cell (World.block_lt_of_cell? _ _ (hHeld.2.2.2.1))).trans (hHeld.2.2.2.1)
                 have HS4_ := (hb.cell (World.block_lt_of_cell? _ _ (hHeld.2.2.2.2.1))).trans (hHeld.2.2.2.2.1)
                 have HS5_ := (hb.cell (World.block_lt_of_cell? _ _ (hHeld.2.2.2.2.2))).trans (hHeld.2.2.2.2.2)
                 refine ⟨_, rfl, ?_⟩
                 have n0_ := Aside0.mk (Kd.R_below (Cmp.rr HO_3.out) hb)
                 have n1_ := Aside0.mk (Kd.R_below (Cmp.rr HO_5.out) hb)
                 have n2_ := Aside0.mk (Kd.R_below (Cmp.rr HO_6.out) hb)
                 have n3_ := Aside0.mk (below_step (Cmp.g HB.out) hb)
                 clear HO_3; clear HO_5; clear HO_6; clear HB; have HO_3 := n0_; have HO_5 := n1_; have HO_6 := n2_; have HB := n3_; clear n0_ n1_ n2_ n3_; (try clear hb); (try clear hb2); (try clear hk); (try clear hi)
                 refine hK.out _ _ ⟨HS0_, HS1_, HS2_, HS3_, HS4_, HS5_⟩ (fun hHeld => ?_)
                 clear hK K
                 refine norm_ (a' := ?_) ?_ ?_
                 rotate_left
                 ·show Act.put _ (some 102) _ = _
                  simp only [Act.put, Cmp.s, Cmp.z, Cmp.c, i64_w, i32_w]; rfl
                 refine Cmp.pu HT_ 18 103 (Cmp.bm 19 20) ?_; refine Cmp.pu HT_ 19 104 (Cmp.bm 20 19) ?_; refine Cmp.pu HT_ 20 105 (Cmp.bm 21 18) ?_; refine Cmp.pu HT_ 21 106 (Cmp.bm 22 17) ?_
                 refine one_ (i := 22) (N := some 107) (Cmp.bm 23 16) rfl rfl (one_of HT_.out (by kernel_rfl)) (by decide) (fun K hK => ?_)
                 refine goes_ Try.func38 (by kernel_rfl) rfl #[.slice (some ad429) t382.length co35] (by rfl) rfl rfl Cmp.q ?_
                 with_reducible refine (impl_DevicesOf.calls k1 _ _ t382 t431 _ ?side1 ?side2 A98.out).mono ?_
                 (case side1 => exact Cmp.rc (Kd.R_reads' HO_3.out).2.2)
                 (case side2 => exact (Kd.R_reads' HO_3.out).2.1)
                 rintro e w107 ⟨v432, rfl, ho0, hb⟩
                 have HS0_ := (hb.cell (World.block_lt_of_cell? _ _ (hHeld.1))).trans (hHeld.1)
                 have HS1_ := (hb.cell (World.block_lt_of_cell? _ _ (hHeld.2.1))).trans (hHeld.2.1)
                 have HS2_ := (hb.cell (World.block_lt_of_cell? _ _ (hHeld.2.2.1))).trans (hHeld.2.2.1)
                 have HS3_ := (hb.cell (World.block_lt_of_cell? _ _ (hHeld.2.2.2.1))).trans (hHeld.2.2.2.1)
                 have HS4_ := (hb.cell (World.block_lt_of_cell? _ _ (hHeld.2.2.2.2.1))).trans (hHeld.2.2.2.2.1)
                 have HS5_ := (hb.cell (World.block_lt_of_cell? _ _ (hHeld.2.2.2.2.2))).trans (hHeld.2.2.2.2.2)
                 refine ⟨_, rfl, ?_⟩
                 have n0_ := Aside0.mk (Kd.R_below (Cmp.rr HO_3.out) hb)
                 have n1_ := Aside0.mk (Kd.R_below (Cmp.rr HO_5.out) hb)
                 have n2_ := Aside0.mk (Kd.R_below (Cmp.rr HO_6.out) hb)
                 have n3_ := Aside0.mk (Kd.R_lower ho0 (below_size (Cmp.g HB.out)))
                 have n4_ := Aside0.mk (below_step (Cmp.g HB.out) hb)
                 clear HO_3; clear HO_5; clear HO_6; clear HB; have HO_3 := n0_; have HO_5 := n1_; have HO_6 := n2_; have HO433 := n3_; have HB := n4_; clear n0_ n1_ n2_ n3_ n4_; (try clear hb); (try clear hb2); (try clear hk); (try clear hi); (try clear ho0)
                 obtain ⟨Ao108, co108, eo108⟩ := Kd.R_slice HO433.out
                 (first | subst eo108 | (injection eo108 with f1_ f2_ f3_; have f4_ := f1_.symm; have f5_ := f3_.symm; clear f1_ f2_ f3_; subst f4_; subst f5_))
                 refine hK.out _ _ ⟨HS0_, HS1_, HS2_, HS3_, HS4_, HS5_⟩ (fun hHeld => ?_)
                 clear hK K
                 refine norm_ (a' := ?_) ?_ ?_
                 rotate_left
                 ·show Act.put _ (some 107) _ = _
                  simp only [Act.put, Cmp.s, Cmp.z, Cmp.c, i64_w, i32_w]; rfl
                 refine Cmp.pu HT_ 23 108 (Cmp.bm 24 15) ?_; refine Cmp.pu HT_ 24 109 (Cmp.bm 25 14) ?_; refine Cmp.pu HT_ 25 110 (Cmp.bm 26 13) ?_; refine Cmp.pu HT_ 26 111 (Cmp.bm 27 12) ?_; refine Cmp.pu HT_ 27 112 (Cmp.bm 28 11) ?_; refine Cmp.pu HT_ 30 115 (Cmp.bb 39 1342177279) ?_; refine Cmp.pu HT_ 31 116 (Cmp.bb 39 3489660927) ?_; refine Cmp.pu HT_ 32 117 (Cmp.bb 39 7784628223) ?_
                 refine one_ (i := 28) (N := some 113) (Cmp.bb 39 8053063679) rfl rfl (one_of HT_.out (by kernel_rfl)) (by decide) (fun K hK => ?_)
                 refine goes_ Try.func38 (by kernel_rfl) rfl #[.slice (some ad429) t382.length co35] (by rfl) rfl rfl Cmp.q ?_
                 with_reducible refine (impl_DevicesOf.calls k1 _ _ t382 t434 _ ?side1 ?side2 A100.out).mono ?_
                 (case side1 => exact Cmp.rc (Kd.R_reads' HO_3.out).2.2)
                 (case side2 => exact (Kd.R_reads' HO_3.out).2.1)
                 rintro e w109 ⟨v435, rfl, ho0, hb⟩
                 have HS0_ := (hb.cell (World.block_lt_of_cell? _ _ (hHeld.1))).trans (hHeld.1)
                 have HS1_ := (hb.cell (World.block_lt_of_cell? _ _ (hHeld.2.1))).trans (hHeld.2.1)
                 have HS2_ := (hb.cell (World.block_lt_of_cell? _ _ (hHeld.2.2.1))).trans (hHeld.2.2.1)
                 have HS3_ := (hb.cell (World.block_lt_of_cell? _ _ (hHeld.2.2.2.1))).trans (hHeld.2.2.2.1)
                 have HS4_ := (hb.cell (World.block_lt_of_cell? _ _ (hHeld.2.2.2.2.1))).trans (hHeld.2.2.2.2.1)
                 have HS5_ := (hb.cell (World.block_lt_of_cell? _ _ (hHeld.2.2.2.2.2))).trans (hHeld.2.2.2.2.2)
                 refine ⟨_, rfl, ?_⟩
                 have n0_ := Aside0.mk (Kd.R_below (Cmp.rr HO_3.out) hb)
                 have n1_ := Aside0.mk (Kd.R_below (Cmp.rr HO_5.out) hb)
                 have n2_ := Aside0.mk (Kd.R_below (Cmp.rr HO_6.out) hb)
                 have n3_ := Aside0.mk (Kd.R_elder' (Cmp.rr HO433.out) (Kd.R_base ho0) hb)
                 have n4_ := Aside0.mk (Kd.R_lower (Kd.R_new' ho0 (Kd.R_lt (Cmp.rr HO433.out))) (below_size (Cmp.g HB.out)))
                 have n5_ := Aside0.mk (below_step (Cmp.g HB.out) hb)
                 clear HO_3; clear HO_5; clear HO_6; clear HO433; clear HB; have HO_3 := n0_; have HO_5 := n1_; have HO_6 := n2_; have HO433 := n3_; have HO436 := n4_; have HB := n5_; clear n0_ n1_ n2_ n3_ n4_ n5_; (try clear hb); (try clear hb2); (try clear hk); (try clear hi); (try clear ho0)
                 obtain ⟨Ao110, co110, eo110⟩ := Kd.R_slice HO436.out
                 (first | subst eo110 | (injection eo110 with f1_ f2_ f3_; have f4_ := f1_.symm; have f5_ := f3_.symm; clear f1_ f2_ f3_; subst f4_; subst f5_))
                 refine hK.out _ _ ⟨HS0_, HS1_, HS2_, HS3_, HS4_, HS5_⟩ (fun hHeld => ?_)
                 clear hK K
                 refine norm_ (a' := ?_) ?_ ?_
                 rotate_left
                 ·show Act.put _ (some 113) _ = _
                  simp only [Act.put, Cmp.s, Cmp.z, Cmp.c, i64_w, i32_w]; rfl
                 refine Cmp.pu HT_ 29 114 (Cmp.bm 33 6) ?_
                 refine one_ (i := 33) (N := some 118) (Cmp.bm 34 5) rfl rfl (one_of HT_.out (by kernel_rfl)) (by decide) (fun K hK => ?_)
                 refine goes_ Try.func43 (by kernel_rfl) rfl #[.slice (some ad429) t382.length co35] (by rfl) rfl rfl Cmp.q ?_
                 with_reducible refine (impl_EpochOf.calls k1 _ _ t382 t437 _ ?side1 ?side2 A101.out).mono ?_
                 (case side1 => exact Cmp.rc (Kd.R_reads' HO_3.out).2.2)
                 (case side2 => exact (Kd.R_reads' HO_3.out).2.1)
                 rintro e w111 ⟨rfl, hb⟩
                 have HS0_ := (hb.cell (World.block_lt_of_cell? _ _ (hHeld.1))).trans (hHeld.1)
                 have HS1_ := (hb.cell (World.block_lt_of_cell? _ _ (hHeld.2.1))).trans (hHeld.2.1)
                 have HS2_ := (hb.cell (World.block_lt_of_cell? _ _ (hHeld.2.2.1))).trans (hHeld.2.2.1)
                 have HS3_ := (hb.cell (World.block_lt_of_cell? _ _ (hHeld.2.2.2.1))).trans (hHeld.2.2.2.1)
                 have HS4_ := (hb.cell (World.block_lt_of_cell? _ _ (hHeld.2.2.2.2.1))).trans (hHeld.2.2.2.2.1)
                 have HS5_ := (hb.cell (World.block_lt_of_cell? _ _ (hHeld.2.2.2.2.2))).trans (hHeld.2.2.2.2.2)
                 refine ⟨_, rfl, ?_⟩
                 have n0_ := Aside0.mk (Kd.R_below (Cmp.rr HO_3.out) hb)
                 have n1_ := Aside0.mk (Kd.R_below (Cmp.rr HO_5.out) hb)
                 have n2_ := Aside0.mk (Kd.R_below (Cmp.rr HO_6.out) hb)
                 have n3_ := Aside0.mk (Kd.R_below (Cmp.rr HO433.out) hb)
                 have n4_ := Aside0.mk (Kd.R_below (Cmp.rr HO436.out) hb)
                 have n5_ := Aside0.mk (below_step (Cmp.g HB.out) hb)
                 clear HO_3; clear HO_5; clear HO_6; clear HO433; clear HO436; clear HB; have HO_3 := n0_; have HO_5 := n1_; have HO_6 := n2_; have HO433 := n3_; have HO436 := n4_; have HB := n5_; clear n0_ n1_ n2_ n3_ n4_ n5_; (try clear hb); (try clear hb2); (try clear hk); (try clear hi)
                 refine hK.out _ _ ⟨HS0_, HS1_, HS2_, HS3_, HS4_, HS5_⟩ (fun hHeld => ?_)
                 clear hK K
                 refine norm_ (a' := ?_) ?_ ?_
                 rotate_left
                 ·show Act.put _ (some 118) _ = _
                  simp only [Act.put, Cmp.s, Cmp.z, Cmp.c, i64_w, i32_w]; rfl
                 refine Cmp.pu HT_ 34 119 (Cmp.bm 35 4) ?_; refine Cmp.pu HT_ 35 120 (Cmp.bm 36 3) ?_; refine Cmp.pu HT_ 36 121 (Cmp.bm 37 2) ?_; refine Cmp.pu HT_ 37 122 (Cmp.bm 38 1) ?_; refine Cmp.pu HT_ 38 2 (Cmp.bm 39 0) ?_
                 refine done_ (done_of HT_.out (by kernel_rfl)) ?_
                 try go_wp2
                 go_ret
                 exact ⟨by first | rfl | (simp [errW_none, errW_some] <;> rfl) | (simp only [← hji27, ← hji93]; first | rfl | (simp [errW_none, errW_some] <;> rfl)) | (simp [*, errW_none, errW_some] <;> rfl), Cmp.g HB.out⟩
                ·rw [if_neg c99] at H
                 have c99b0 : decide (1 ≤ (t431.length : Int)) = false := decide_eq_false c99
                 have c99b1 : decide (1 ≤ t431.length) = false := decide_eq_false (by omega)
                 clear c99
                 obtain rfl := Option.some.inj H
                 try go_wp2
                 have n0_ := Aside0.mk (Kd.R_drew HO_3.out); have n1_ := Aside0.mk (Kd.R_drew HO_5.out); have n2_ := Aside0.mk (Kd.R_drew HO_6.out); have n3_ := Aside0.mk (below_drew1 HB.out); clear HO_3; clear HO_5; clear HO_6; clear HB; have HO_3 := n0_; have HO_5 := n1_; have HO_6 := n2_; have HB := n3_; clear n0_ n1_ n2_ n3_
                 have p429 : 0 ≤ ((ji93) : Int) := of_decide_eq_true Cmp.d
                 have q429 : (ji93) < (t382.length : Int) := of_decide_eq_true Cmp.d
                 obtain ⟨ad429, e429, hx429_0, hx429_1, hx429_2, hx429_3, hx429_4, hx429_5⟩ := at_T86 (Kd.R_reads' HO_3.out).2.2 (ji93) p429 q429
                 cases e429; replace p429 := eq_true p429; replace q429 := eq_true q429
                 refine start_ (n := 39) (S := fun w' => w'.cell? (ad429.add (((ji93)).toNat * 6)) = some (.int .i64 ((rd_T86 t382 (ji93)).f0)) ∧ w'.cell? ⟨(ad429.add (((ji93)).toNat * 6)).block, (ad429.add (((ji93)).toNat * 6)).off + 1, none⟩ = some (.int .i64 ((rd_T86 t382 (ji93)).f1)) ∧ w'.cell? ⟨(ad429.add (((ji93)).toNat * 6)).block, (ad429.add (((ji93)).toNat * 6)).off + 2, none⟩ = some (.int .i64 ((rd_T86 t382 (ji93)).f2)) ∧ w'.cell? ⟨(ad429.add (((ji93)).toNat * 6)).block, (ad429.add (((ji93)).toNat * 6)).off + 3, none⟩ = some (.int .i64 ((rd_T86 t382 (ji93)).f3)) ∧ w'.cell? ⟨(ad429.add (((ji93)).toNat * 6)).block, (ad429.add (((ji93)).toNat * 6)).off + 4, none⟩ = some (.int .i64 ((rd_T86 t382 (ji93)).f4)) ∧ w'.cell? ⟨(ad429.add (((ji93)).toNat * 6)).block, (ad429.add (((ji93)).toNat * 6)).off + 5, none⟩ = some (.int .i64 ((rd_T86 t382 (ji93)).f5))) (ds := []) (Cmp.bm 0 39) (by kernel_rfl) rfl rfl ⟨hx429_0, hx429_1, hx429_2, hx429_3, hx429_4, hx429_5⟩ (fun hHeld => ?_); refine with_tabW laws_FnDeviceLogs.tab16 laws_FnDeviceLogs.bits16 (fun HT_ HW_ => ?_)
                 generalize wr.drew = w112 at HO_3 HO_5 HO_6 HB hx429_0 hx429_1 hx429_2 hx429_3 hx429_4 hx429_5 hHeld ⊢
                 refine Cmp.pu HT_ 0 85 (Cmp.bm 1 38) ?_
                 refine one_ (i := 1) (N := some 86) (Cmp.bm 2 37) rfl rfl (one_of HT_.out (by kernel_rfl)) (by decide) (fun K hK => ?_)
                 refine goes_ Try.func20 (by kernel_rfl) rfl #[.slice (some ⟨go30, 0, none⟩) y398.length co30] (by rfl) rfl rfl Cmp.q ?_
                 with_reducible refine (impl_VerifyLog.calls k1 _ _ y398 false _ ?side1 ?side2 A83.out).mono ?_
                 (case side1 => exact Cmp.rc (Kd.R_reads' HO_5.out).2.2)
                 (case side2 => exact (Kd.R_reads' HO_5.out).2.1)
                 rintro e w113 ⟨rfl, hb⟩
                 have HS0_ := (hb.cell (World.block_lt_of_cell? _ _ (hHeld.1))).trans (hHeld.1)
                 have HS1_ := (hb.cell (World.block_lt_of_cell? _ _ (hHeld.2.1))).trans (hHeld.2.1)
                 have HS2_ := (hb.cell (World.block_lt_of_cell? _ _ (hHeld.2.2.1))).trans (hHeld.2.2.1)
                 have HS3_ := (hb.cell (World.block_lt_of_cell? _ _ (hHeld.2.2.2.1))).trans (hHeld.2.2.2.1)
                 have HS4_ := (hb.cell (World.block_lt_of_cell? _ _ (hHeld.2.2.2.2.1))).trans (hHeld.2.2.2.2.1)
                 have HS5_ := (hb.cell (World.block_lt_of_cell? _ _ (hHeld.2.2.2.2.2))).trans (hHeld.2.2.2.2.2)
                 refine ⟨_, rfl, ?_⟩
                 have n0_ := Aside0.mk (Kd.R_below (Cmp.rr HO_3.out) hb)
                 have n1_ := Aside0.mk (Kd.R_below (Cmp.rr HO_5.out) hb)
                 have n2_ := Aside0.mk (Kd.R_below (Cmp.rr HO_6.out) hb)
                 have n3_ := Aside0.mk (below_step (Cmp.g HB.out) hb)
                 clear HO_3; clear HO_5; clear HO_6; clear HB; have HO_3 := n0_; have HO_5 := n1_; have HO_6 := n2_; have HB := n3_; clear n0_ n1_ n2_ n3_; (try clear hb); (try clear hb2); (try clear hk); (try clear hi)
                 refine hK.out _ _ ⟨HS0_, HS1_, HS2_, HS3_, HS4_, HS5_⟩ (fun hHeld => ?_)
                 clear hK K
                 refine norm_ (a' := ?_) ?_ ?_
                 rotate_left
                 ·show Act.put _ (some 86) _ = _
                  simp only [Act.put, Cmp.s, Cmp.z, Cmp.c, i64_w, i32_w]; rfl
                 refine Cmp.pu HT_ 2 87 (Cmp.bm 3 36) ?_; refine Cmp.pu HT_ 3 88 (Cmp.bm 4 35) ?_; refine Cmp.pu HT_ 4 89 (Cmp.bm 5 34) ?_
                 refine one_ (i := 5) (N := some 90) (Cmp.bm 6 33) rfl rfl (one_of HT_.out (by kernel_rfl)) (by decide) (fun K hK => ?_)
                 refine goes_ Try.func20 (by kernel_rfl) rfl #[.slice (some ⟨go33, 0, none⟩) y406.length co45] (by rfl) rfl rfl Cmp.q ?_
                 with_reducible refine (impl_VerifyLog.calls k1 _ _ y406 false _ ?side1 ?side2 A87.out).mono ?_
                 (case side1 => exact Cmp.rc (Kd.R_reads' HO_6.out).2.2)
                 (case side2 => exact (Kd.R_reads' HO_6.out).2.1)
                 rintro e w114 ⟨rfl, hb⟩
                 have HS0_ := (hb.cell (World.block_lt_of_cell? _ _ (hHeld.1))).trans (hHeld.1)
                 have HS1_ := (hb.cell (World.block_lt_of_cell? _ _ (hHeld.2.1))).trans (hHeld.2.1)
                 have HS2_ := (hb.cell (World.block_lt_of_cell? _ _ (hHeld.2.2.1))).trans (hHeld.2.2.1)
                 have HS3_ := (hb.cell (World.block_lt_of_cell? _ _ (hHeld.2.2.2.1))).trans (hHeld.2.2.2.1)
                 have HS4_ := (hb.cell (World.block_lt_of_cell? _ _ (hHeld.2.2.2.2.1))).trans (hHeld.2.2.2.2.1)
                 have HS5_ := (hb.cell (World.block_lt_of_cell? _ _ (hHeld.2.2.2.2.2))).trans (hHeld.2.2.2.2.2)
                 refine ⟨_, rfl, ?_⟩
                 have n0_ := Aside0.mk (Kd.R_below (Cmp.rr HO_3.out) hb)
                 have n1_ := Aside0.mk (Kd.R_below (Cmp.rr HO_5.out) hb)
                 have n2_ := Aside0.mk (Kd.R_below (Cmp.rr HO_6.out) hb)
                 have n3_ := Aside0.mk (below_step (Cmp.g HB.out) hb)
                 clear HO_3; clear HO_5; clear HO_6; clear HB; have HO_3 := n0_; have HO_5 := n1_; have HO_6 := n2_; have HB := n3_; clear n0_ n1_ n2_ n3_; (try clear hb); (try clear hb2); (try clear hk); (try clear hi)
                 refine hK.out _ _ ⟨HS0_, HS1_, HS2_, HS3_, HS4_, HS5_⟩ (fun hHeld => ?_)
                 clear hK K
                 refine norm_ (a' := ?_) ?_ ?_
                 rotate_left
                 ·show Act.put _ (some 90) _ = _
                  simp only [Act.put, Cmp.s, Cmp.z, Cmp.c, i64_w, i32_w]; rfl
                 refine Cmp.pu HT_ 6 91 (Cmp.bm 7 32) ?_; refine Cmp.pu HT_ 7 92 (Cmp.bm 8 31) ?_; refine Cmp.pu HT_ 8 93 (Cmp.bm 9 30) ?_; refine Cmp.pu HT_ 9 94 (Cmp.bm 10 29) ?_; refine Cmp.pu HT_ 11 96 (Cmp.bb 39 3071) ?_; refine Cmp.pu HT_ 12 97 (Cmp.bb 39 7167) ?_; refine Cmp.pu HT_ 13 98 (Cmp.bb 39 15359) ?_; refine Cmp.pu HT_ 14 99 (Cmp.bb 39 31743) ?_; refine Cmp.pu HT_ 15 100 (Cmp.bb 39 64511) ?_; refine Cmp.tk HT_ HW_ hHeld 16 101 (Cmp.bb 39 130047) ?_
                 refine one_ (i := 10) (N := some 95) (Cmp.bm 17 22) rfl rfl (one_of HT_.out (by kernel_rfl)) (by decide) (fun K hK => ?_)
                 refine goes_ Try.func37 (by kernel_rfl) rfl #[.slice (some ad429) t382.length co35] (by rfl) rfl rfl Cmp.q ?_
                 with_reducible refine (impl_LogHead.calls k1 _ _ t382 t428 _ ?side1 ?side2 A92.out).mono ?_
                 (case side1 => exact Cmp.rc (Kd.R_reads' HO_3.out).2.2)
                 (case side2 => exact (Kd.R_reads' HO_3.out).2.1)
                 rintro e w115 ⟨rfl, hb⟩
                 have HS0_ := (hb.cell (World.block_lt_of_cell? _ _ (hHeld.1))).trans (hHeld.1)
                 have HS1_ := (hb.cell (World.block_lt_of_cell? _ _ (hHeld.2.1))).trans (hHeld.2.1)
                 have HS2_ := (hb.cell (World.block_lt_of_cell? _ _ (hHeld.2.2.1))).trans (hHeld.2.2.1)
                 have HS3_ := (hb.cell (World.block_lt_of_cell? _ _ (hHeld.2.2.2.1))).trans (hHeld.2.2.2.1)
                 have HS4_ := (hb.cell (World.block_lt_of_cell? _ _ (hHeld.2.2.2.2.1))).trans (hHeld.2.2.2.2.1)
                 have HS5_ := (hb.cell (World.block_lt_of_cell? _ _ (hHeld.2.2.2.2.2))).trans (hHeld.2.2.2.2.2)
                 refine ⟨_, rfl, ?_⟩
                 have n0_ := Aside0.mk (Kd.R_below (Cmp.rr HO_3.out) hb)
                 have n1_ := Aside0.mk (Kd.R_below (Cmp.rr HO_5.out) hb)
                 have n2_ := Aside0.mk (Kd.R_below (Cmp.rr HO_6.out) hb)
                 have n3_ := Aside0.mk (below_step (Cmp.g HB.out) hb)
                 clear HO_3; clear HO_5; clear HO_6; clear HB; have HO_3 := n0_; have HO_5 := n1_; have HO_6 := n2_; have HB := n3_; clear n0_ n1_ n2_ n3_; (try clear hb); (try clear hb2); (try clear hk); (try clear hi)
                 refine hK.out _ _ ⟨HS0_, HS1_, HS2_, HS3_, HS4_, HS5_⟩ (fun hHeld => ?_)
                 clear hK K
                 refine norm_ (a' := ?_) ?_ ?_
                 rotate_left
                 ·show Act.put _ (some 95) _ = _
                  simp only [Act.put, Cmp.s, Cmp.z, Cmp.c, i64_w, i32_w]; rfl
                 refine one_ (i := 17) (N := some 102) (Cmp.bm 18 21) rfl rfl (one_of HT_.out (by kernel_rfl)) (by decide) (fun K hK => ?_)
                 refine goes_ Try.func42 (by kernel_rfl) rfl #[.agg #[.int .i64 ((rd_T86 t382 (ji93)).f0), .int .i64 ((rd_T86 t382 (ji93)).f1), .int .i64 ((rd_T86 t382 (ji93)).f2), .int .i64 ((rd_T86 t382 (ji93)).f3), .int .i64 ((rd_T86 t382 (ji93)).f4), .int .i64 ((rd_T86 t382 (ji93)).f5)]] (by rfl) rfl rfl (by (try simp only [List.map_toArray, List.map_cons, List.map_nil]); first | done | (simp only [hji93]; rfl) | rfl | (simp only [List.length_drop, List.length_take]; rfl)) ?_
                 with_reducible refine (impl_EntryHash.calls k1 ((rd_T86 t382 (ji93)).f0) ((rd_T86 t382 (ji93)).f1) ((rd_T86 t382 (ji93)).f2) ((rd_T86 t382 (ji93)).f3) ((rd_T86 t382 (ji93)).f4) ((rd_T86 t382 (ji93)).f5) t430 _ A96.out).mono ?_
                 rintro e w116 ⟨rfl, hb⟩
                 have HS0_ := (hb.cell (World.block_lt_of_cell? _ _ (hHeld.1))).trans (hHeld.1)
                 have HS1_ := (hb.cell (World.block_lt_of_cell? _ _ (hHeld.2.1))).trans (hHeld.2.1)
                 have HS2_ := (hb.cell (World.block_lt_of_cell? _ _ (hHeld.2.2.1))).trans (hHeld.2.2.1)
                 have HS3_ := (hb.cell (World.block_lt_of_cell? _ _ (hHeld.2.2.2.1))).trans (hHeld.2.2.2.1)
                 have HS4_ := (hb.cell (World.block_lt_of_cell? _ _ (hHeld.2.2.2.2.1))).trans (hHeld.2.2.2.2.1)
                 have HS5_ := (hb.cell (World.block_lt_of_cell? _ _ (hHeld.2.2.2.2.2))).trans (hHeld.2.2.2.2.2)
                 refine ⟨_, rfl, ?_⟩
                 have n0_ := Aside0.mk (Kd.R_below (Cmp.rr HO_3.out) hb)
                 have n1_ := Aside0.mk (Kd.R_below (Cmp.rr HO_5.out) hb)
                 have n2_ := Aside0.mk (Kd.R_below (Cmp.rr HO_6.out) hb)
                 have n3_ := Aside0.mk (below_step (Cmp.g HB.out) hb)
                 clear HO_3; clear HO_5; clear HO_6; clear HB; have HO_3 := n0_; have HO_5 := n1_; have HO_6 := n2_; have HB := n3_; clear n0_ n1_ n2_ n3_; (try clear hb); (try clear hb2); (try clear hk); (try clear hi)
                 refine hK.out _ _ ⟨HS0_, HS1_, HS2_, HS3_, HS4_, HS5_⟩ (fun hHeld => ?_)
                 clear hK K
                 refine norm_ (a' := ?_) ?_ ?_
                 rotate_left
                 ·show Act.put _ (some 102) _ = _
                  simp only [Act.put, Cmp.s, Cmp.z, Cmp.c, i64_w, i32_w]; rfl
                 refine Cmp.pu HT_ 18 103 (Cmp.bm 19 20) ?_; refine Cmp.pu HT_ 19 104 (Cmp.bm 20 19) ?_; refine Cmp.pu HT_ 20 105 (Cmp.bm 21 18) ?_; refine Cmp.pu HT_ 21 106 (Cmp.bm 22 17) ?_
                 refine one_ (i := 22) (N := some 107) (Cmp.bm 23 16) rfl rfl (one_of HT_.out (by kernel_rfl)) (by decide) (fun K hK => ?_)
                 refine goes_ Try.func38 (by kernel_rfl) rfl #[.slice (some ad429) t382.length co35] (by rfl) rfl rfl Cmp.q ?_
                 with_reducible refine (impl_DevicesOf.calls k1 _ _ t382 t431 _ ?side1 ?side2 A98.out).mono ?_
                 (case side1 => exact Cmp.rc (Kd.R_reads' HO_3.out).2.2)
                 (case side2 => exact (Kd.R_reads' HO_3.out).2.1)
                 rintro e w117 ⟨v432, rfl, ho0, hb⟩
                 have HS0_ := (hb.cell (World.block_lt_of_cell? _ _ (hHeld.1))).trans (hHeld.1)
                 have HS1_ := (hb.cell (World.block_lt_of_cell? _ _ (hHeld.2.1))).trans (hHeld.2.1)
                 have HS2_ := (hb.cell (World.block_lt_of_cell? _ _ (hHeld.2.2.1))).trans (hHeld.2.2.1)
                 have HS3_ := (hb.cell (World.block_lt_of_cell? _ _ (hHeld.2.2.2.1))).trans (hHeld.2.2.2.1)
                 have HS4_ := (hb.cell (World.block_lt_of_cell? _ _ (hHeld.2.2.2.2.1))).trans (hHeld.2.2.2.2.1)
                 have HS5_ := (hb.cell (World.block_lt_of_cell? _ _ (hHeld.2.2.2.2.2))).trans (hHeld.2.2.2.2.2)
                 refine ⟨_, rfl, ?_⟩
                 have n0_ := Aside0.mk (Kd.R_below (Cmp.rr HO_3.out) hb)
                 have n1_ := Aside0.mk (Kd.R_below (Cmp.rr HO_5.out) hb)
                 have n2_ := Aside0.mk (Kd.R_below (Cmp.rr HO_6.out) hb)
                 have n3_ := Aside0.mk (Kd.R_lower ho0 (below_size (Cmp.g HB.out)))
                 have n4_ := Aside0.mk (below_step (Cmp.g HB.out) hb)
                 clear HO_3; clear HO_5; clear HO_6; clear HB; have HO_3 := n0_; have HO_5 := n1_; have HO_6 := n2_; have HO433 := n3_; have HB := n4_; clear n0_ n1_ n2_ n3_ n4_; (try clear hb); (try clear hb2); (try clear hk); (try clear hi); (try clear ho0)
                 obtain ⟨Ao118, co118, eo118⟩ := Kd.R_slice HO433.out
                 (first | subst eo118 | (injection eo118 with f1_ f2_ f3_; have f4_ := f1_.symm; have f5_ := f3_.symm; clear f1_ f2_ f3_; subst f4_; subst f5_))
                 refine hK.out _ _ ⟨HS0_, HS1_, HS2_, HS3_, HS4_, HS5_⟩ (fun hHeld => ?_)
                 clear hK K
                 refine norm_ (a' := ?_) ?_ ?_
                 rotate_left
                 ·show Act.put _ (some 107) _ = _
                  simp only [Act.put, Cmp.s, Cmp.z, Cmp.c, i64_w, i32_w]; rfl
                 refine Cmp.pu HT_ 23 108 (Cmp.bm 24 15) ?_; refine Cmp.pu HT_ 24 109 (Cmp.bm 25 14) ?_; refine Cmp.pu HT_ 25 110 (Cmp.bm 26 13) ?_; refine Cmp.pu HT_ 26 111 (Cmp.bm 27 12) ?_; refine Cmp.pv HT_ 27 112 (Cmp.bm 28 11) ?_; refine Cmp.pv HT_ 28 113 (Cmp.bm 29 10) ?_; refine Cmp.pv HT_ 29 114 (Cmp.bm 30 9) ?_; refine Cmp.pv HT_ 30 115 (Cmp.bm 31 8) ?_; refine Cmp.pv HT_ 31 116 (Cmp.bm 32 7) ?_; refine Cmp.pv HT_ 32 117 (Cmp.bm 33 6) ?_; refine Cmp.pv HT_ 33 118 (Cmp.bm 34 5) ?_; refine Cmp.pv HT_ 34 119 (Cmp.bm 35 4) ?_; refine Cmp.pv HT_ 35 120 (Cmp.bm 36 3) ?_; refine Cmp.pv HT_ 36 121 (Cmp.bm 37 2) ?_; refine Cmp.pu HT_ 37 122 (Cmp.bm 38 1) ?_; refine Cmp.pu HT_ 38 2 (Cmp.bm 39 0) ?_
                 refine done_ (done_of HT_.out (by kernel_rfl)) ?_
                 try go_wp2
                 go_ret
                 exact ⟨by first | rfl | (simp [errW_none, errW_some] <;> rfl) | (simp only [← hji27, ← hji93]; first | rfl | (simp [errW_none, errW_some] <;> rfl)) | (simp [*, errW_none, errW_some] <;> rfl), Cmp.g HB.out⟩
               ·rw [if_neg c97] at H; have c97b0 : (t428 == t430) = false := beq_eq_false_iff_ne.mpr c97; have c97b1 : (t428 != t430) = true := bne_iff_ne.mpr c97
                obtain rfl := Option.some.inj H
                try go_wp2
                have n0_ := Aside0.mk (Kd.R_drew HO_3.out); have n1_ := Aside0.mk (Kd.R_drew HO_5.out); have n2_ := Aside0.mk (Kd.R_drew HO_6.out); have n3_ := Aside0.mk (below_drew1 HB.out); clear HO_3; clear HO_5; clear HO_6; clear HB; have HO_3 := n0_; have HO_5 := n1_; have HO_6 := n2_; have HB := n3_; clear n0_ n1_ n2_ n3_
                have p429 : 0 ≤ ((ji93) : Int) := of_decide_eq_true Cmp.d
                have q429 : (ji93) < (t382.length : Int) := of_decide_eq_true Cmp.d
                obtain ⟨ad429, e429, hx429_0, hx429_1, hx429_2, hx429_3, hx429_4, hx429_5⟩ := at_T86 (Kd.R_reads' HO_3.out).2.2 (ji93) p429 q429
                cases e429; replace p429 := eq_true p429; replace q429 := eq_true q429
                refine start_ (n := 39) (S := fun w' => w'.cell? (ad429.add (((ji93)).toNat * 6)) = some (.int .i64 ((rd_T86 t382 (ji93)).f0)) ∧ w'.cell? ⟨(ad429.add (((ji93)).toNat * 6)).block, (ad429.add (((ji93)).toNat * 6)).off + 1, none⟩ = some (.int .i64 ((rd_T86 t382 (ji93)).f1)) ∧ w'.cell? ⟨(ad429.add (((ji93)).toNat * 6)).block, (ad429.add (((ji93)).toNat * 6)).off + 2, none⟩ = some (.int .i64 ((rd_T86 t382 (ji93)).f2)) ∧ w'.cell? ⟨(ad429.add (((ji93)).toNat * 6)).block, (ad429.add (((ji93)).toNat * 6)).off + 3, none⟩ = some (.int .i64 ((rd_T86 t382 (ji93)).f3)) ∧ w'.cell? ⟨(ad429.add (((ji93)).toNat * 6)).block, (ad429.add (((ji93)).toNat * 6)).off + 4, none⟩ = some (.int .i64 ((rd_T86 t382 (ji93)).f4)) ∧ w'.cell? ⟨(ad429.add (((ji93)).toNat * 6)).block, (ad429.add (((ji93)).toNat * 6)).off + 5, none⟩ = some (.int .i64 ((rd_T86 t382 (ji93)).f5))) (ds := []) (Cmp.bm 0 39) (by kernel_rfl) rfl rfl ⟨hx429_0, hx429_1, hx429_2, hx429_3, hx429_4, hx429_5⟩ (fun hHeld => ?_); refine with_tabW laws_FnDeviceLogs.tab16 laws_FnDeviceLogs.bits16 (fun HT_ HW_ => ?_)
                generalize wr.drew = w119 at HO_3 HO_5 HO_6 HB hx429_0 hx429_1 hx429_2 hx429_3 hx429_4 hx429_5 hHeld ⊢
                refine Cmp.pu HT_ 0 85 (Cmp.bm 1 38) ?_
                refine one_ (i := 1) (N := some 86) (Cmp.bm 2 37) rfl rfl (one_of HT_.out (by kernel_rfl)) (by decide) (fun K hK => ?_)
                refine goes_ Try.func20 (by kernel_rfl) rfl #[.slice (some ⟨go30, 0, none⟩) y398.length co30] (by rfl) rfl rfl Cmp.q ?_
                with_reducible refine (impl_VerifyLog.calls k1 _ _ y398 false _ ?side1 ?side2 A83.out).mono ?_
                (case side1 => exact Cmp.rc (Kd.R_reads' HO_5.out).2.2)
                (case side2 => exact (Kd.R_reads' HO_5.out).2.1)
                rintro e w120 ⟨rfl, hb⟩
                have HS0_ := (hb.cell (World.block_lt_of_cell? _ _ (hHeld.1))).trans (hHeld.1)
                have HS1_ := (hb.cell (World.block_lt_of_cell? _ _ (hHeld.2.1))).trans (hHeld.2.1)
                have HS2_ := (hb.cell (World.block_lt_of_cell? _ _ (hHeld.2.2.1))).trans (hHeld.2.2.1)
                have HS3_ := (hb.cell (World.block_lt_of_cell? _ _ (hHeld.2.2.2.1))).trans (hHeld.2.2.2.1)
                have HS4_ := (hb.cell (World.block_lt_of_cell? _ _ (hHeld.2.2.2.2.1))).trans (hHeld.2.2.2.2.1)
                have HS5_ := (hb.cell (World.block_lt_of_cell? _ _ (hHeld.2.2.2.2.2))).trans (hHeld.2.2.2.2.2)
                refine ⟨_, rfl, ?_⟩
                have n0_ := Aside0.mk (Kd.R_below (Cmp.rr HO_3.out) hb)
                have n1_ := Aside0.mk (Kd.R_below (Cmp.rr HO_5.out) hb)
                have n2_ := Aside0.mk (Kd.R_below (Cmp.rr HO_6.out) hb)
                have n3_ := Aside0.mk (below_step (Cmp.g HB.out) hb)
                clear HO_3; clear HO_5; clear HO_6; clear HB; have HO_3 := n0_; have HO_5 := n1_; have HO_6 := n2_; have HB := n3_; clear n0_ n1_ n2_ n3_; (try clear hb); (try clear hb2); (try clear hk); (try clear hi)
                refine hK.out _ _ ⟨HS0_, HS1_, HS2_, HS3_, HS4_, HS5_⟩ (fun hHeld => ?_)
                clear hK K
                refine norm_ (a' := ?_) ?_ ?_
                rotate_left
                ·show Act.put _ (some 86) _ = _
                 simp only [Act.put, Cmp.s, Cmp.z, Cmp.c, i64_w, i32_w]; rfl
                refine Cmp.pu HT_ 2 87 (Cmp.bm 3 36) ?_; refine Cmp.pu HT_ 3 88 (Cmp.bm 4 35) ?_; refine Cmp.pu HT_ 4 89 (Cmp.bm 5 34) ?_
                refine one_ (i := 5) (N := some 90) (Cmp.bm 6 33) rfl rfl (one_of HT_.out (by kernel_rfl)) (by decide) (fun K hK => ?_)
                refine goes_ Try.func20 (by kernel_rfl) rfl #[.slice (some ⟨go33, 0, none⟩) y406.length co45] (by rfl) rfl rfl Cmp.q ?_
                with_reducible refine (impl_VerifyLog.calls k1 _ _ y406 false _ ?side1 ?side2 A87.out).mono ?_
                (case side1 => exact Cmp.rc (Kd.R_reads' HO_6.out).2.2)
                (case side2 => exact (Kd.R_reads' HO_6.out).2.1)
                rintro e w121 ⟨rfl, hb⟩
                have HS0_ := (hb.cell (World.block_lt_of_cell? _ _ (hHeld.1))).trans (hHeld.1)
                have HS1_ := (hb.cell (World.block_lt_of_cell? _ _ (hHeld.2.1))).trans (hHeld.2.1)
                have HS2_ := (hb.cell (World.block_lt_of_cell? _ _ (hHeld.2.2.1))).trans (hHeld.2.2.1)
                have HS3_ := (hb.cell (World.block_lt_of_cell? _ _ (hHeld.2.2.2.1))).trans (hHeld.2.2.2.1)
                have HS4_ := (hb.cell (World.block_lt_of_cell? _ _ (hHeld.2.2.2.2.1))).trans (hHeld.2.2.2.2.1)
                have HS5_ := (hb.cell (World.block_lt_of_cell? _ _ (hHeld.2.2.2.2.2))).trans (hHeld.2.2.2.2.2)
                refine ⟨_, rfl, ?_⟩
                have n0_ := Aside0.mk (Kd.R_below (Cmp.rr HO_3.out) hb)
                have n1_ := Aside0.mk (Kd.R_below (Cmp.rr HO_5.out) hb)
                have n2_ := Aside0.mk (Kd.R_below (Cmp.rr HO_6.out) hb)
                have n3_ := Aside0.mk (below_step (Cmp.g HB.out) hb)
                clear HO_3; clear HO_5; clear HO_6; clear HB; have HO_3 := n0_; have HO_5 := n1_; have HO_6 := n2_; have HB := n3_; clear n0_ n1_ n2_ n3_; (try clear hb); (try clear hb2); (try clear hk); (try clear hi)
                refine hK.out _ _ ⟨HS0_, HS1_, HS2_, HS3_, HS4_, HS5_⟩ (fun hHeld => ?_)
                clear hK K
                refine norm_ (a' := ?_) ?_ ?_
                rotate_left
                ·show Act.put _ (some 90) _ = _
                 simp only [Act.put, Cmp.s, Cmp.z, Cmp.c, i64_w, i32_w]; rfl
                refine Cmp.pu HT_ 6 91 (Cmp.bm 7 32) ?_; refine Cmp.pu HT_ 7 92 (Cmp.bm 8 31) ?_; refine Cmp.pu HT_ 8 93 (Cmp.bm 9 30) ?_; refine Cmp.pu HT_ 9 94 (Cmp.bm 10 29) ?_; refine Cmp.pu HT_ 11 96 (Cmp.bb 39 3071) ?_; refine Cmp.pu HT_ 12 97 (Cmp.bb 39 7167) ?_; refine Cmp.pu HT_ 13 98 (Cmp.bb 39 15359) ?_; refine Cmp.pu HT_ 14 99 (Cmp.bb 39 31743) ?_; refine Cmp.pu HT_ 15 100 (Cmp.bb 39 64511) ?_; refine Cmp.tk HT_ HW_ hHeld 16 101 (Cmp.bb 39 130047) ?_
                refine one_ (i := 10) (N := some 95) (Cmp.bm 17 22) rfl rfl (one_of HT_.out (by kernel_rfl)) (by decide) (fun K hK => ?_)
                refine goes_ Try.func37 (by kernel_rfl) rfl #[.slice (some ad429) t382.length co35] (by rfl) rfl rfl Cmp.q ?_
                with_reducible refine (impl_LogHead.calls k1 _ _ t382 t428 _ ?side1 ?side2 A92.out).mono ?_
                (case side1 => exact Cmp.rc (Kd.R_reads' HO_3.out).2.2)
                (case side2 => exact (Kd.R_reads' HO_3.out).2.1)
                rintro e w122 ⟨rfl, hb⟩
                have HS0_ := (hb.cell (World.block_lt_of_cell? _ _ (hHeld.1))).trans (hHeld.1)
                have HS1_ := (hb.cell (World.block_lt_of_cell? _ _ (hHeld.2.1))).trans (hHeld.2.1)
                have HS2_ := (hb.cell (World.block_lt_of_cell? _ _ (hHeld.2.2.1))).trans (hHeld.2.2.1)
                have HS3_ := (hb.cell (World.block_lt_of_cell? _ _ (hHeld.2.2.2.1))).trans (hHeld.2.2.2.1)
                have HS4_ := (hb.cell (World.block_lt_of_cell? _ _ (hHeld.2.2.2.2.1))).trans (hHeld.2.2.2.2.1)
                have HS5_ := (hb.cell (World.block_lt_of_cell? _ _ (hHeld.2.2.2.2.2))).trans (hHeld.2.2.2.2.2)
                refine ⟨_, rfl, ?_⟩
                have n0_ := Aside0.mk (Kd.R_below (Cmp.rr HO_3.out) hb)
                have n1_ := Aside0.mk (Kd.R_below (Cmp.rr HO_5.out) hb)
                have n2_ := Aside0.mk (Kd.R_below (Cmp.rr HO_6.out) hb)
                have n3_ := Aside0.mk (below_step (Cmp.g HB.out) hb)
                clear HO_3; clear HO_5; clear HO_6; clear HB; have HO_3 := n0_; have HO_5 := n1_; have HO_6 := n2_; have HB := n3_; clear n0_ n1_ n2_ n3_; (try clear hb); (try clear hb2); (try clear hk); (try clear hi)
                refine hK.out _ _ ⟨HS0_, HS1_, HS2_, HS3_, HS4_, HS5_⟩ (fun hHeld => ?_)
                clear hK K
                refine norm_ (a' := ?_) ?_ ?_
                rotate_left
                ·show Act.put _ (some 95) _ = _
                 simp only [Act.put, Cmp.s, Cmp.z, Cmp.c, i64_w, i32_w]; rfl
                refine one_ (i := 17) (N := some 102) (Cmp.bm 18 21) rfl rfl (one_of HT_.out (by kernel_rfl)) (by decide) (fun K hK => ?_)
                refine goes_ Try.func42 (by kernel_rfl) rfl #[.agg #[.int .i64 ((rd_T86 t382 (ji93)).f0), .int .i64 ((rd_T86 t382 (ji93)).f1), .int .i64 ((rd_T86 t382 (ji93)).f2), .int .i64 ((rd_T86 t382 (ji93)).f3), .int .i64 ((rd_T86 t382 (ji93)).f4), .int .i64 ((rd_T86 t382 (ji93)).f5)]] (by rfl) rfl rfl (by (try simp only [List.map_toArray, List.map_cons, List.map_nil]); first | done | (simp only [hji93]; rfl) | rfl | (simp only [List.length_drop, List.length_take]; rfl)) ?_
                with_reducible refine (impl_EntryHash.calls k1 ((rd_T86 t382 (ji93)).f0) ((rd_T86 t382 (ji93)).f1) ((rd_T86 t382 (ji93)).f2) ((rd_T86 t382 (ji93)).f3) ((rd_T86 t382 (ji93)).f4) ((rd_T86 t382 (ji93)).f5) t430 _ A96.out).mono ?_
                rintro e w123 ⟨rfl, hb⟩
                have HS0_ := (hb.cell (World.block_lt_of_cell? _ _ (hHeld.1))).trans (hHeld.1)
                have HS1_ := (hb.cell (World.block_lt_of_cell? _ _ (hHeld.2.1))).trans (hHeld.2.1)
                have HS2_ := (hb.cell (World.block_lt_of_cell? _ _ (hHeld.2.2.1))).trans (hHeld.2.2.1)
                have HS3_ := (hb.cell (World.block_lt_of_cell? _ _ (hHeld.2.2.2.1))).trans (hHeld.2.2.2.1)
                have HS4_ := (hb.cell (World.block_lt_of_cell? _ _ (hHeld.2.2.2.2.1))).trans (hHeld.2.2.2.2.1)
                have HS5_ := (hb.cell (World.block_lt_of_cell? _ _ (hHeld.2.2.2.2.2))).trans (hHeld.2.2.2.2.2)
                refine ⟨_, rfl, ?_⟩
                have n0_ := Aside0.mk (Kd.R_below (Cmp.rr HO_3.out) hb)
                have n1_ := Aside0.mk (Kd.R_below (Cmp.rr HO_5.out) hb)
                have n2_ := Aside0.mk (Kd.R_below (Cmp.rr HO_6.out) hb)
                have n3_ := Aside0.mk (below_step (Cmp.g HB.out) hb)
                clear HO_3; clear HO_5; clear HO_6; clear HB; have HO_3 := n0_; have HO_5 := n1_; have HO_6 := n2_; have HB := n3_; clear n0_ n1_ n2_ n3_; (try clear hb); (try clear hb2); (try clear hk); (try clear hi)
                refine hK.out _ _ ⟨HS0_, HS1_, HS2_, HS3_, HS4_, HS5_⟩ (fun hHeld => ?_)
                clear hK K
                refine norm_ (a' := ?_) ?_ ?_
                rotate_left
                ·show Act.put _ (some 102) _ = _
                 simp only [Act.put, Cmp.s, Cmp.z, Cmp.c, i64_w, i32_w]; rfl
                refine Cmp.pu HT_ 18 103 (Cmp.bm 19 20) ?_; refine Cmp.pu HT_ 19 104 (Cmp.bm 20 19) ?_; refine Cmp.pu HT_ 20 105 (Cmp.bm 21 18) ?_; refine Cmp.pv HT_ 21 106 (Cmp.bm 22 17) ?_; refine Cmp.pv HT_ 22 107 (Cmp.bm 23 16) ?_; refine Cmp.pv HT_ 23 108 (Cmp.bm 24 15) ?_; refine Cmp.pv HT_ 24 109 (Cmp.bm 25 14) ?_; refine Cmp.pu HT_ 25 110 (Cmp.bm 26 13) ?_; refine Cmp.pu HT_ 26 111 (Cmp.bm 27 12) ?_; refine Cmp.pv HT_ 27 112 (Cmp.bm 28 11) ?_; refine Cmp.pv HT_ 28 113 (Cmp.bm 29 10) ?_; refine Cmp.pv HT_ 29 114 (Cmp.bm 30 9) ?_; refine Cmp.pv HT_ 30 115 (Cmp.bm 31 8) ?_; refine Cmp.pv HT_ 31 116 (Cmp.bm 32 7) ?_; refine Cmp.pv HT_ 32 117 (Cmp.bm 33 6) ?_; refine Cmp.pv HT_ 33 118 (Cmp.bm 34 5) ?_; refine Cmp.pv HT_ 34 119 (Cmp.bm 35 4) ?_; refine Cmp.pv HT_ 35 120 (Cmp.bm 36 3) ?_; refine Cmp.pv HT_ 36 121 (Cmp.bm 37 2) ?_; refine Cmp.pu HT_ 37 122 (Cmp.bm 38 1) ?_; refine Cmp.pu HT_ 38 2 (Cmp.bm 39 0) ?_
                refine done_ (done_of HT_.out (by kernel_rfl)) ?_
                try go_wp2
                go_ret
                exact ⟨by first | rfl | (simp [errW_none, errW_some] <;> rfl) | (simp only [← hji27, ← hji93]; first | rfl | (simp [errW_none, errW_some] <;> rfl)) | (simp [*, errW_none, errW_some] <;> rfl), Cmp.g HB.out⟩
              ·rw [if_neg c95] at H; exact absurd H (by simp)
             ·rw [if_neg c94] at H; exact absurd H (by simp)
       ·rw [if_neg c32] at H; exact absurd H (by simp)
      ·rw [if_neg c31] at H; exact absurd H (by simp)
     ·rw [if_neg c29] at H; exact absurd H (by simp)
    ·rw [if_neg c28] at H; exact absurd H (by simp)
   ·rw [if_neg c25] at H; exact absurd H (by simp)

/-- THE ONE PURE STATEMENT of laws_FnDeviceLogs: yours. -/
def laws_FnDeviceLogs.Pure : Prop := ∀ (l0 : List Int), l0.length ≤ maxLen → l0.length * 1 ≤ 140737488351232 → (∀ x ∈ l0, (Lit.int .u8 x).wf = true) → ∃ k, laws_FnDeviceLogs.f k l0 = some true
theorem laws_FnDeviceLogs.walk (P : laws_FnDeviceLogs.Pure) (a0 : Option Addr) (len0 cap0 : Nat) (z0 : List Int) (w : World) (w0 : (a0 = none ∧ len0 = 0 ∧ cap0 = 0 ∧ z0 = []) ∨ ∃ x, a0 = some x ∧ len0 ≤ cap0 ∧ cap0 ≤ maxLen ∧ z0.length = cap0 ∧ (∀ i, i < z0.length → w.cell? (x.add i) = some (.int .u8 (z0.getD i 0))) ∧ ∀ n ∈ z0, (Lit.int .u8 n).wf = true) (y0 : len0 * 1 ≤ 140737488351232) :
    Calls Try.prog 7 #[.slice a0 len0 cap0] w fun e w' => e = .returned (.bool true) ∧ Below w.heap.size w w' := by
  obtain ⟨l0, rfl, hr0, hm0, hw0, hc0⟩ := ReadsInt.ofRowC w0
  obtain ⟨k, h⟩ := P l0 hm0 y0 hw0
  refine (laws_FnDeviceLogs.calls k _ _ l0 true w (Kd.C_of_reads (d := (0 : Int)) (h1 := fun _ => rfl) hr0) hc0 h).mono ?_
  rintro e w' ⟨rfl, hd⟩
  exact ⟨rfl, hd⟩

end Go.Proofs.Ytgcipecdaimjfaa.PFnDeviceLogs

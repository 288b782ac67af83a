/- Printed functions of the program, out of print.sh, told more shortly. No condition. -/
import Derived.Test.YtpgjecknkmmnhaaCmp
import Derived.Test.YtpgjecknkmmnhaaPFnRemovedx0
import Derived.Test.YtpgjecknkmmnhaaPFnRemovedx2
namespace Go.Proofs.Ytpgjecknkmmnhaa.PFnRemoved
open Go.Proofs.Ytpgjecknkmmnhaa
open Go.RowKit Go.Proofs.YtpgjecknkmmnhaaW.PrintWords Go.Proofs.YtpgjecknkmmnhaaW.PrintLast Go.Proofs.YtpgjecknkmmnhaaW.PrintMore
attribute [local go_sem] max2_int min2_int max_two min_two max_three min_three max_four min_four   -- for this text's walks alone
set_option linter.unusedVariables false
set_option linter.unusedSimpArgs false

/-! ### spec_VerifySignature: function 122 -/
def spec_VerifySignature.f (k : Nat) (a0 : Int) (l1 : List Int) (a2 : Int) : Option (Bool) := (spec_PrivateKey.f k a0).bind fun t195 => (if t195 = 0 then (some false) else ((spec_SignMessage.f k t195 l1).bind fun t196 => (some (t196 == a2))))
theorem spec_VerifySignature.mono : ∀ a0 a1 a2 k, LeO (spec_VerifySignature.f k a0 a1 a2) (spec_VerifySignature.f (k + 1) a0 a1 a2) := by
  intro a0 a1 a2 k
  unfold spec_VerifySignature.f
  repeat' first
      | (with_reducible exact spec_PrivateKey.mono _ _)
      | (with_reducible exact spec_SignMessage.mono _ _ _)
      | (with_reducible exact LeO.refl _)
      | (with_reducible exact LeO.none _)
      | (with_reducible refine LeO.ite ?_ ?_)
      | (with_reducible refine LeO.bind ?_ (fun _ => ?_))
      | exact spec_PrivateKey.mono _ _
      | exact spec_SignMessage.mono _ _ _
      | exact LeO.none _
      | refine LeO.ite ?_ ?_
      | refine LeO.bind ?_ (fun _ => ?_)
set_option maxHeartbeats 8000000 in
set_option maxRecDepth 100000 in
theorem spec_VerifySignature.calls (k : Nat) (a0 : Int) (A1 : Option Addr) (c1 : Nat) (l1 : List Int) (a2 : Int) (r : Bool) (w : World) (hr1 : Kd.C (Kd.int .i64) w A1 l1.length l1) (hc1 : l1.length ≤ c1) (h : spec_VerifySignature.f k a0 l1 a2 = some r) :
    Calls Try.prog 122 #[.int .i64 a0, .slice A1 l1.length c1, .int .i64 a2] w fun e w' => e = .returned (.bool r) ∧ Below w.heap.size w w' := by
 have HR1 := Aside0.mk hr1; have HC1 := Aside0.mk hc1; clear hr1 hc1
 have HB := Aside0.mk (Below.refl w.heap.size w)
 have H : ((spec_PrivateKey.f k a0).bind fun t195 => (if t195 = 0 then (some false) else ((spec_SignMessage.f k t195 l1).bind fun t196 => (some (t196 == a2))))) = some r := h
 clear h; replace H := Option.bind_eq_some_iff.mp H; obtain ⟨t195, A40, H⟩ := H; (try dsimp only at H); have A4 := Aside0.mk A40; clear A40
 by_cases c5 : t195 = 0
 ·rw [if_pos c5] at H; have c5b0 : (t195 == 0) = true := beq_iff_eq.mpr c5; have c5b1 : (t195 != 0) = false := bne_eq_false_iff_eq.mpr c5; clear c5
  obtain rfl := Option.some.inj H
  go_enter Try.func122, Try.ntmps122
  go_wp2_with (first | ((with_reducible refine gate_callee (f := 129) rfl ?_); refine goesL_ (some 9) rfl rfl Try.func129 (by kernel_rfl) rfl #[.int .i64 a0] rfl Cmp.q ?_; (with_reducible refine (spec_PrivateKey.calls k a0 t195 _ A4.out).mono ?_); rintro e w' ⟨rfl, ⟨nd, rfl⟩⟩; refine ⟨_, rfl, ?_⟩))
  go_ret
  exact ⟨by first | rfl | (simp [errW_none, errW_some] <;> rfl) | (simp [*, errW_none, errW_some] <;> rfl), Cmp.g HB.out⟩
 ·rw [if_neg c5] at H; have c5b0 : (t195 == 0) = false := beq_eq_false_iff_ne.mpr c5; have c5b1 : (t195 != 0) = true := bne_iff_ne.mpr c5; replace H := Option.bind_eq_some_iff.mp H; obtain ⟨t196, A60, H⟩ := H; (try dsimp only at H); have A6 := Aside0.mk A60; clear A60
  obtain rfl := Option.some.inj H
  go_enter Try.func122, Try.ntmps122
  go_wp2_with (first | ((with_reducible refine gate_callee (f := 129) rfl ?_); refine goesL_ (some 9) rfl rfl Try.func129 (by kernel_rfl) rfl #[.int .i64 a0] rfl Cmp.q ?_; (with_reducible refine (spec_PrivateKey.calls k a0 t195 _ A4.out).mono ?_); rintro e w' ⟨rfl, ⟨nd, rfl⟩⟩; refine ⟨_, rfl, ?_⟩) | (go_at_call 96; (with_reducible refine (spec_SignMessage.calls k t195 _ _ l1 t196 _ ?side1 ?side2 A6.out).mono ?_); (case side1 => repeat (first | exact HR1.out | (with_reducible refine Kd.C_alloc ?_ _) | (with_reducible refine Kd.C_drewN ?_ _) | (with_reducible refine Kd.C_drew ?_))); (case side2 => exact HC1.out); rintro e w7 ⟨rfl, hb⟩; have n0_ := Aside0.mk (below_step (Cmp.g HB.out) hb); clear HB; have HB := n0_; clear n0_; (try clear hb); (try clear hb2); (try clear hk); (try clear hi)))
  go_ret
  exact ⟨by first | rfl | (simp [errW_none, errW_some] <;> rfl) | (simp [*, errW_none, errW_some] <;> rfl), Cmp.g HB.out⟩

end Go.Proofs.Ytpgjecknkmmnhaa.PFnRemoved

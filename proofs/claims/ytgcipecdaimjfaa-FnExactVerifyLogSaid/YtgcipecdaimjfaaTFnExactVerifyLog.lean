/- The law FnExactVerifyLog's own function, walked where it answers true. No condition. -/
import Derived.Test.YtgcipecdaimjfaaCmp
import Derived.Test.YtgcipecdaimjfaaPFnExactVerifyLogx8
import Derived.Test.YtgcipecdaimjfaaPFnExactVerifyLogx0
import Derived.Test.YtgcipecdaimjfaaPFnExactVerifyLogx1
import Derived.Test.YtgcipecdaimjfaaPFnExactVerifyLogx4
import Derived.Test.YtgcipecdaimjfaaPFnExactVerifyLogx7
namespace Go.Proofs.Ytgcipecdaimjfaa.PFnExactVerifyLog
open Go.Proofs.Ytgcipecdaimjfaa
open Go.RowKit Go.Proofs.YtgcipecdaimjfaaW.PrintWords Go.Proofs.YtgcipecdaimjfaaW.PrintLast Go.Proofs.YtgcipecdaimjfaaW.PrintMore
attribute [local go_sem] max2_int min2_int max_two min_two max_three min_three max_four min_four   -- for this text's walks alone
set_option linter.unusedVariables false
set_option linter.unusedSimpArgs false

/-! ### laws_FnExactVerifyLog: function 4 -/
def laws_FnExactVerifyLog.f (k : Nat) (l0 : List (S106)) : Option (Bool) := (laws_szLogEntryS.f l0 1048576).bind fun t282 => (if t282 < 0 then (some true) else ((laws_toLogEntryS.f k l0).bind fun t283 => ((spec_VerifyLog.f k t283).bind fun t286 => ((laws_toLogEntryS.f k l0).bind fun t287 => ((impl_VerifyLog.f k t287).bind fun t290 => (if (t290 != t286) = true then (some false) else ((laws_toLogEntryS.f k l0).bind fun t291 => ((laws_eqLogEntryS.f k t287 t291).bind fun t294 => (if t294 = true then (some true) else (some false))))))))))
theorem laws_FnExactVerifyLog.mono : ∀ a0 k, LeO (laws_FnExactVerifyLog.f k a0) (laws_FnExactVerifyLog.f (k + 1) a0) := by
  intro a0 k
  unfold laws_FnExactVerifyLog.f
  repeat' first
      | (with_reducible exact impl_VerifyLog.mono _ _)
      | (with_reducible exact laws_eqLogEntryS.mono _ _ _)
      | (with_reducible exact laws_toLogEntryS.mono _ _)
      | (with_reducible exact spec_VerifyLog.mono _ _)
      | (with_reducible exact LeO.refl _)
      | (with_reducible exact LeO.none _)
      | (with_reducible refine LeO.ite ?_ ?_)
      | (with_reducible refine LeO.bind ?_ (fun _ => ?_))
      | exact impl_VerifyLog.mono _ _
      | exact laws_eqLogEntryS.mono _ _ _
      | exact laws_toLogEntryS.mono _ _
      | exact spec_VerifyLog.mono _ _
      | exact LeO.none _
      | refine LeO.ite ?_ ?_
      | refine LeO.bind ?_ (fun _ => ?_)
set_option maxHeartbeats 8000000 in
set_option maxRecDepth 100000 in
theorem laws_FnExactVerifyLog.calls (k : Nat) (A0 : Option Addr) (c0 : Nat) (l0 : List (S106)) (w : World) (hr0 : Kd.C k106 w A0 l0.length l0) (hc0 : l0.length ≤ c0) (h : laws_FnExactVerifyLog.f k l0 = some true) :
    Calls Try.prog 4 #[.slice A0 l0.length c0] w fun e w' => e = .returned (.bool true) ∧ Below w.heap.size w w' := by
 have HR0 := Aside0.mk hr0; have HC0 := Aside0.mk hc0; clear hr0 hc0
 have HB := Aside0.mk (Below.refl w.heap.size w)
 have H : ((laws_szLogEntryS.f l0 1048576).bind fun t282 => (if t282 < 0 then (some true) else ((laws_toLogEntryS.f k l0).bind fun t283 => ((spec_VerifyLog.f k t283).bind fun t286 => ((laws_toLogEntryS.f k l0).bind fun t287 => ((impl_VerifyLog.f k t287).bind fun t290 => (if (t290 != t286) = true then (some false) else ((laws_toLogEntryS.f k l0).bind fun t291 => ((laws_eqLogEntryS.f k t287 t291).bind fun t294 => (if t294 = true then (some true) else (some false))))))))))) = some true := h
 clear h; replace H := Option.bind_eq_some_iff.mp H; obtain ⟨t282, A20, H⟩ := H; (try dsimp only at H); have A2 := Aside0.mk A20; clear A20
 by_cases c3 : t282 < 0
 ·rw [if_pos c3] at H; have c3b0 : decide (t282 < 0) = true := decide_eq_true c3; clear c3; clear H
  go_enter Try.func4, Try.ntmps4
  go_wp2_with (first | ((with_reducible refine gate_callee (f := 17) rfl ?_); refine goesL_ (some 9) rfl rfl Try.func17 (by kernel_rfl) rfl #[.slice A0 l0.length c0, .int .i64 1048576] rfl Cmp.q ?_; (with_reducible refine (laws_szLogEntryS.calls _ _ l0 1048576 t282 _ ?side1 ?side2 A2.out).mono ?_); (case side1 => repeat (first | exact HR0.out | (with_reducible refine Kd.C_alloc ?_ _) | (with_reducible refine Kd.C_drewN ?_ _) | (with_reducible refine Kd.C_drew ?_))); (case side2 => exact HC0.out); rintro e w' ⟨rfl, ⟨nd, rfl⟩⟩; refine ⟨_, rfl, ?_⟩))
  go_ret
  exact ⟨by first | rfl | (simp [errW_none, errW_some] <;> rfl) | (simp [*, errW_none, errW_some] <;> rfl), Cmp.g HB.out⟩
 ·rw [if_neg c3] at H; have c3b0 : decide (t282 < 0) = false := decide_eq_false c3; clear c3; replace H := Option.bind_eq_some_iff.mp H; obtain ⟨t283, A40, H⟩ := H; (try dsimp only at H); have A4 := Aside0.mk A40; clear A40; replace H := Option.bind_eq_some_iff.mp H; obtain ⟨t286, A50, H⟩ := H; (try dsimp only at H); have A5 := Aside0.mk A50; clear A50; replace H := Option.bind_eq_some_iff.mp H; obtain ⟨t287, A60, H⟩ := H; (try dsimp only at H); have A6 := Aside0.mk A60; clear A60; replace H := Option.bind_eq_some_iff.mp H; obtain ⟨t290, A70, H⟩ := H; (try dsimp only at H); have A7 := Aside0.mk A70; clear A70
  by_cases c8 : (t290 != t286) = true
  ·rw [if_pos c8] at H
   have c8b0 : (t290 != t286) = true := c8
   (try (have c8b1 : decide (t290 = t286) = false := by simpa using c8))
   (try (have c8b2 : (t290 == t286) = false := by simpa using c8))
   (try (have c8b3 : ¬ (t290 = t286) := by simpa using c8))
   clear c8; exact absurd H (by simp)
  ·rw [if_neg c8] at H
   have c8b0 : (t290 != t286) = false := by simpa using c8
   (try (have c8b1 : decide (t290 = t286) = true := by simpa using c8))
   (try (have c8b2 : (t290 == t286) = true := by simpa using c8))
   clear c8; replace H := Option.bind_eq_some_iff.mp H; obtain ⟨t291, A150, H⟩ := H; (try dsimp only at H); have A15 := Aside0.mk A150; clear A150; replace H := Option.bind_eq_some_iff.mp H; obtain ⟨t294, A160, H⟩ := H; (try dsimp only at H); have A16 := Aside0.mk A160; clear A160
   by_cases c17 : t294 = true
   ·subst c17; rw [if_pos rfl] at H; clear H
    go_enter Try.func4, Try.ntmps4
    go_wp2_with (first | ((with_reducible refine gate_callee (f := 17) rfl ?_); refine goesL_ (some 9) rfl rfl Try.func17 (by kernel_rfl) rfl #[.slice A0 l0.length c0, .int .i64 1048576] rfl Cmp.q ?_; (with_reducible refine (laws_szLogEntryS.calls _ _ l0 1048576 t282 _ ?side1 ?side2 A2.out).mono ?_); (case side1 => repeat (first | exact HR0.out | (with_reducible refine Kd.C_alloc ?_ _) | (with_reducible refine Kd.C_drewN ?_ _) | (with_reducible refine Kd.C_drew ?_))); (case side2 => exact HC0.out); rintro e w' ⟨rfl, ⟨nd, rfl⟩⟩; refine ⟨_, rfl, ?_⟩) | ((with_reducible refine gate_callee (f := 19) rfl ?_); refine goesL_ (some 13) rfl rfl Try.func19 (by kernel_rfl) rfl #[.slice A0 l0.length c0] rfl Cmp.q ?_; (with_reducible refine (laws_toLogEntryS.calls k _ _ l0 t283 _ ?side1 ?side2 A4.out).mono ?_); (case side1 => repeat (first | exact HR0.out | (with_reducible refine Kd.C_alloc ?_ _) | (with_reducible refine Kd.C_drewN ?_ _) | (with_reducible refine Kd.C_drew ?_))); (case side2 => exact HC0.out); rintro e w18 ⟨v284, rfl, ho0, hb⟩; refine ⟨_, rfl, ?_⟩; have n0_ := Aside0.mk (Kd.R_lower ho0 (below_size (Cmp.g HB.out))); have n1_ := Aside0.mk (below_step (Cmp.g HB.out) hb); clear HB; have HO285 := n0_; have HB := n1_; clear n0_ n1_; (try clear hb); (try clear hb2); (try clear hk); (try clear hi); (try clear ho0); obtain ⟨Ao19, co19, eo19⟩ := Kd.R_slice HO285.out; subst eo19) | ((with_reducible refine gate_callee (f := 18) rfl ?_); refine goesL_ (some 14) rfl rfl Try.func18 (by kernel_rfl) rfl #[.slice Ao19 t283.length co19] rfl Cmp.q ?_; (with_reducible refine (spec_VerifyLog.calls k _ _ t283 t286 _ ?side1 ?side2 A5.out).mono ?_); (case side1 => exact Cmp.rc (Kd.R_reads' HO285.out).2.2); (case side2 => exact (Kd.R_reads' HO285.out).2.1); rintro e w20 ⟨rfl, hb⟩; refine ⟨_, rfl, ?_⟩; have n0_ := Aside0.mk (Kd.R_below (Cmp.rr HO285.out) hb); have n1_ := Aside0.mk (below_step (Cmp.g HB.out) hb); clear HO285; clear HB; have HO285 := n0_; have HB := n1_; clear n0_ n1_; (try clear hb); (try clear hb2); (try clear hk); (try clear hi)) | ((with_reducible refine gate_callee (f := 19) rfl ?_); refine goesL_ (some 16) rfl rfl Try.func19 (by kernel_rfl) rfl #[.slice A0 l0.length c0] rfl Cmp.q ?_; (with_reducible refine (laws_toLogEntryS.calls k _ _ l0 t287 _ ?side1 ?side2 A6.out).mono ?_); (case side1 => exact Cmp.rc (Kd.C_below HR0.out HB.out)); (case side2 => exact HC0.out); rintro e w21 ⟨v288, rfl, ho0, hb⟩; refine ⟨_, rfl, ?_⟩; have n0_ := Aside0.mk (Kd.R_elder' (Cmp.rr HO285.out) (Kd.R_base ho0) hb); have n1_ := Aside0.mk (Kd.R_lower (Kd.R_new' ho0 (Kd.R_lt (Cmp.rr HO285.out))) (below_size (Cmp.g HB.out))); have n2_ := Aside0.mk (below_step (Cmp.g HB.out) hb); clear HO285; clear HB; have HO285 := n0_; have HO289 := n1_; have HB := n2_; clear n0_ n1_ n2_; (try clear hb); (try clear hb2); (try clear hk); (try clear hi); (try clear ho0); obtain ⟨Ao22, co22, eo22⟩ := Kd.R_slice HO289.out; subst eo22) | ((with_reducible refine gate_callee (f := 20) rfl ?_); refine goesL_ (some 18) rfl rfl Try.func20 (by kernel_rfl) rfl #[.slice Ao22 t287.length co22] rfl Cmp.q ?_; (with_reducible refine (impl_VerifyLog.calls k _ _ t287 t290 _ ?side1 ?side2 A7.out).mono ?_); (case side1 => exact Cmp.rc (Kd.R_reads' HO289.out).2.2); (case side2 => exact (Kd.R_reads' HO289.out).2.1); rintro e w23 ⟨rfl, hb⟩; refine ⟨_, rfl, ?_⟩; have n0_ := Aside0.mk (Kd.R_below (Cmp.rr HO285.out) hb); have n1_ := Aside0.mk (Kd.R_below (Cmp.rr HO289.out) hb); have n2_ := Aside0.mk (below_step (Cmp.g HB.out) hb); clear HO285; clear HO289; clear HB; have HO285 := n0_; have HO289 := n1_; have HB := n2_; clear n0_ n1_ n2_; (try clear hb); (try clear hb2); (try clear hk); (try clear hi)) | ((with_reducible refine gate_callee (f := 19) rfl ?_); refine goesL_ (some 24) rfl rfl Try.func19 (by kernel_rfl) rfl #[.slice A0 l0.length c0] rfl Cmp.q ?_; (with_reducible refine (laws_toLogEntryS.calls k _ _ l0 t291 _ ?side1 ?side2 A15.out).mono ?_); (case side1 => exact Cmp.rc (Kd.C_below HR0.out HB.out)); (case side2 => exact HC0.out); rintro e w24 ⟨v292, rfl, ho0, hb⟩; refine ⟨_, rfl, ?_⟩; have n0_ := Aside0.mk (Kd.R_elder' (Cmp.rr HO285.out) (Kd.R_base ho0) hb); have n1_ := Aside0.mk (Kd.R_elder' (Cmp.rr HO289.out) (Kd.R_base ho0) hb); have n2_ := Aside0.mk (Kd.R_lower (Kd.R_new' (Kd.R_new' ho0 (Kd.R_lt (Cmp.rr HO285.out))) (Kd.R_lt (Cmp.rr HO289.out))) (below_size (Cmp.g HB.out))); have n3_ := Aside0.mk (below_step (Cmp.g HB.out) hb); clear HO285; clear HO289; clear HB; have HO285 := n0_; have HO289 := n1_; have HO293 := n2_; have HB := n3_; clear n0_ n1_ n2_ n3_; (try clear hb); (try clear hb2); (try clear hk); (try clear hi); (try clear ho0); obtain ⟨Ao25, co25, eo25⟩ := Kd.R_slice HO293.out; subst eo25) | ((with_reducible refine gate_callee (f := 21) rfl ?_); refine goesL_ (some 25) rfl rfl Try.func21 (by kernel_rfl) rfl #[.slice Ao22 t287.length co22, .slice Ao25 t291.length co25] rfl Cmp.q ?_; (with_reducible refine (laws_eqLogEntryS.calls k _ _ t287 _ _ t291 true _ ?side1 ?side2 ?side3 ?side4 A16.out).mono ?_); (case side1 => exact Cmp.rc (Kd.R_reads' HO289.out).2.2); (case side2 => exact (Kd.R_reads' HO289.out).2.1); (case side3 => exact Cmp.rc (Kd.R_reads' HO293.out).2.2); (case side4 => exact (Kd.R_reads' HO293.out).2.1); rintro e w26 ⟨rfl, hb⟩; refine ⟨_, rfl, ?_⟩; have n0_ := Aside0.mk (Kd.R_below (Cmp.rr HO285.out) hb); have n1_ := Aside0.mk (Kd.R_below (Cmp.rr HO289.out) hb); have n2_ := Aside0.mk (Kd.R_below (Cmp.rr HO293.out) hb); have n3_ := Aside0.mk (below_step (Cmp.g HB.out) hb); clear HO285; clear HO289; clear HO293; clear HB; have HO285 := n0_; have HO289 := n1_; have HO293 := n2_; have HB := n3_; clear n0_ n1_ n2_ n3_; (try clear hb); (try clear hb2); (try clear hk); (try clear hi)))
    go_ret
    exact ⟨by first | rfl | (simp [errW_none, errW_some] <;> rfl) | (simp [*, errW_none, errW_some] <;> rfl), Cmp.g HB.out⟩
   ·replace c17 := Bool.eq_false_iff.mpr c17
    subst c17
    have H1 : (some false) = some true := by first | (rw [if_neg (show ¬ (false = true) by decide)] at H; exact H) | (rw [if_neg (show ¬ (false = true) by decide)] at H)
    clear H; have H := H1; clear H1
    exact absurd H (by simp)end Go.Proofs.Ytgcipecdaimjfaa.PFnExactVerifyLog

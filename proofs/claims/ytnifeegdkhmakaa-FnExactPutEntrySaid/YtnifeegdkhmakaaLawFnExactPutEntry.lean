/- The row of the law FnExactPutEntry, out of its plain law and the contract of its function. No condition. -/
import Derived.Test.YtnifeegdkhmakaaRows
import Derived.Test.YtnifeegdkhmakaaTFnExactPutEntry
import Derived.Test.YtnifeegdkhmakaaOpFnExactPutEntry
import Derived.Test.YtnifeegdkhmakaaPureFnExactPutEntry
import Derived.WalkKit
import Derived.ProofKit
import Derived.OpenShut
import Derived.ShutString
import Derived.ChangeOld
import Derived.Below
import Derived.SizedLaws
import Derived.Carry
namespace Go.Proofs.Ytnifeegdkhmakaa.fnExactPutEntry
open Go.ChangeShapes Go.WideShapes Go.ChangeAt Go.RowKit Go.Proofs.Ytnifeegdkhmakaa.PFnExactPutEntry Go.Proofs.Ytnifeegdkhmakaa.Op Go.Proofs.YtnifeegdkhmakaaW.PrintWords
open Go.ChangeMaps (open_string shut_string)
set_option linter.unusedVariables false
theorem own : ownKnob Try.prog.godebug = none := by kernel_rfl
theorem laidOut : laidOutB Try.prog = true := by kernel_rfl
theorem opens0 : Opens Try.prog 35 (Kd.slice 80 k80) (fun xs => xs.length ≤ 9223372036854775807 ∧ ∀ x ∈ xs, Fit80 x) := (opens_struct Try.underlying35 (opensAt_one (opens_slice Try.underlying33 op80 (by kernel_rfl)) (by rfl) (by kernel_rfl)) (by kernel_rfl))
set_option maxRecDepth 100000 in
theorem lifted (os : Os) (started : os.Started) (H : Type) (enc : TypeId × Value → H) :
    ReturnsInHanded {} Try.checked os 7 .any (Rows.fnExactPutEntrySpec.pre6 enc Try.prog Try.f7 Rows.fnExactPutEntryRow.domain false) (Rows.fnExactPutEntrySpec.post enc Try.prog Try.f7 false true false false) := by
  refine returnsInHanded_of_change_sized (C := Try.checked) own started (by kernel_rfl) Try.func7
    (ChangeSpec.witness6 (enc := enc) (C := Try.checked) false ⟨#[], #[.agg #[.slice none 0 0], .int .i64 0, .int .i64 0], []⟩ 8 (by kernel_rfl) (by kernel_rfl) (by kernel_rfl) (by kernel_rfl)) ?_
  intro W base args ds gs before hval0 hW hcnd hsz0 _
  have hval : ∀ (j : Nat) t v, Try.f7.params[j]? = some t → args[j]? = some v → Value.okWide Try.prog W .any base t v := hval0
  have hW' := hW
  obtain ⟨p, q, hA0, hV, rfl, hfz, hnd⟩ := hW
  have hA : DataW.TrodAll enc Try.prog W 0 (fun _ => true) true Try.f7.params.toList args.toList ds p := hA0
  rw [Try.params7] at hA hval
  obtain ⟨v0, vs0, d0, ds0, p0, q0, hargs, rfl, rfl, h0, r0⟩ := trodAll_cons hA
  obtain ⟨v1, vs1, d1, ds1, p1, q1, rfl, rfl, rfl, h1, r1⟩ := trodAll_cons r0
  obtain ⟨v2, vs2, d2, ds2, p2, q2, rfl, rfl, rfl, h2, r2⟩ := trodAll_cons r1
  obtain ⟨rfl, rfl, rfl⟩ := trodAll_nil r2
  obtain rfl : args = #[v0, v1, v2] := by cases args; simp_all
  obtain ⟨rfl, rfl⟩ := trodVars_none hV
  have k0 := h0
  have lt0 : ∀ x ∈ p0, x.block < W.heap.size := by obtain ⟨m, hm⟩ := k0; exact DataW.trod_lt m _ _ _ hm
  obtain ⟨⟨cs0⟩, rfl, hz0⟩ := okWide_struct Try.underlying35 (hval 0 35 v0 rfl rfl)
  obtain ⟨y0, K0, F0⟩ : ∃ y, (Kd.slice 80 k80).K W y cs0 ∧ (fun xs => xs.length ≤ 9223372036854775807 ∧ ∀ x ∈ xs, Fit80 x) y := by obtain ⟨m, hm⟩ := h0; exact opens0 hm
  obtain ⟨l0_0, rfl⟩ : ∃ z, z = y0 := ⟨_, rfl⟩
  obtain ⟨A0_0, c0_0, rfl, hc0_0, hr0_0⟩ := K0
  obtain ⟨a1, rfl, rfl, rfl, w1⟩ := open_int Try.underlying3 (hval 1 3 v1 rfl rfl) h1
  obtain ⟨a2, rfl, rfl, rfl, w2⟩ := open_int Try.underlying3 (hval 2 3 v2 rfl rfl) h2
  clear hA0 hval0 hsz0
  obtain ⟨k, H⟩ := Pure.FnExactPutEntry l0_0 a1 a2 F0.1
  refine (laws_FnExactPutEntry.calls k A0_0 c0_0 l0_0 a1 a2 W hr0_0 hc0_0 H).mono fun e W' h_ => ?_
  obtain ⟨he, bel0⟩ := h_
  have bel : Below W.heap.size W W' := bel0
  subst he
  exact ⟨_, rfl, _, _, _, [], _, [], hW', trodAll_mk1 (shut_bool Try.underlying4 _), (trodAll_cons_mk (Below.trod laidOut (by kernel_rfl) (of_decide_eq_true (by kernel_rfl)) k0 bel lt0) (trodAll_cons_mk (shut_int Try.underlying3 w1) (trodAll_cons_mk (shut_int Try.underlying3 w2) trodAll_mk0))), rfl, bel.frame _, fun h => by cases h⟩
theorem over : Rows.fnExactPutEntryRow.holds Try.pinned (OpenSpec.ofChange Rows.fnExactPutEntrySpec) :=
  OpenClaim.holds_of_wide 7 Try.f7 rfl rfl rfl rfl rfl rfl rfl ⟨rfl, rfl, rfl, rfl, rfl⟩ rfl rfl rfl rfl rfl (by kernel_rfl) Try.func7 (by kernel_rfl)
    (of_decide_eq_true (by kernel_rfl)) (by unfold Func.isWrapper; first | (rw [if_pos (by decide +kernel)]; kernel_rfl) | (rw [if_neg (by decide +kernel)]; exact ⟨rfl, rfl⟩))
    (fun os started H enc _ => lifted os started H enc)
theorem proved : Rows.FnExactPutEntrySaid := over
end Go.Proofs.Ytnifeegdkhmakaa.fnExactPutEntry
namespace Go.Proofs.Ytnifeegdkhmakaa
/-- The row, under a short name, for the claim. -/
theorem fnExactPutEntry_holds : Rows.FnExactPutEntrySaid := fnExactPutEntry.proved
end Go.Proofs.Ytnifeegdkhmakaa

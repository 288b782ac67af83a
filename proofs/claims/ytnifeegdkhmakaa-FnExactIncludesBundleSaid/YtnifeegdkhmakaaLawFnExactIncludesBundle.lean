/- The row of the law FnExactIncludesBundle, out of its plain law and the contract of its function. No condition. -/
import Derived.Test.YtnifeegdkhmakaaRows
import Derived.Test.YtnifeegdkhmakaaTFnExactIncludesBundle
import Derived.Test.YtnifeegdkhmakaaOpFnExactIncludesBundle
import Derived.Test.YtnifeegdkhmakaaPureFnExactIncludesBundle
import Derived.WalkKit
import Derived.ProofKit
import Derived.OpenShut
import Derived.ShutString
import Derived.ChangeOld
import Derived.Below
import Derived.SizedLaws
import Derived.Carry
namespace Go.Proofs.Ytnifeegdkhmakaa.fnExactIncludesBundle
open Go.ChangeShapes Go.WideShapes Go.ChangeAt Go.RowKit Go.Proofs.Ytnifeegdkhmakaa.PFnExactIncludesBundle Go.Proofs.Ytnifeegdkhmakaa.Op Go.Proofs.YtnifeegdkhmakaaW.PrintWords
open Go.ChangeMaps (open_string shut_string)
set_option linter.unusedVariables false
theorem own : ownKnob Try.prog.godebug = none := by kernel_rfl
theorem laidOut : laidOutB Try.prog = true := by kernel_rfl
theorem opens0 : Opens Try.prog 35 (Kd.slice 80 k80) (fun xs => xs.length ≤ 9223372036854775807 ∧ ∀ x ∈ xs, Fit80 x) := (opens_struct Try.underlying35 (opensAt_one (opens_slice Try.underlying33 op80 (by kernel_rfl)) (by rfl) (by kernel_rfl)) (by kernel_rfl))
theorem opens1 : Opens Try.prog 35 (Kd.slice 80 k80) (fun xs => xs.length ≤ 9223372036854775807 ∧ ∀ x ∈ xs, Fit80 x) := (opens_struct Try.underlying35 (opensAt_one (opens_slice Try.underlying33 op80 (by kernel_rfl)) (by rfl) (by kernel_rfl)) (by kernel_rfl))
set_option maxRecDepth 100000 in
theorem lifted (os : Os) (started : os.Started) (H : Type) (enc : TypeId × Value → H) :
    ReturnsInHanded {} Try.checked os 5 .any (Rows.fnExactIncludesBundleSpec.pre6 enc Try.prog Try.f5 Rows.fnExactIncludesBundleRow.domain false) (Rows.fnExactIncludesBundleSpec.post enc Try.prog Try.f5 false true false false) := by
  refine returnsInHanded_of_change_sized (C := Try.checked) own started (by kernel_rfl) Try.func5
    (ChangeSpec.witness6 (enc := enc) (C := Try.checked) false ⟨#[], #[.agg #[.slice none 0 0], .agg #[.slice none 0 0]], []⟩ 8 (by kernel_rfl) (by kernel_rfl) (by kernel_rfl) (by kernel_rfl)) ?_
  intro W base args ds gs before hval0 hW hcnd hsz0 _
  have hval : ∀ (j : Nat) t v, Try.f5.params[j]? = some t → args[j]? = some v → Value.okWide Try.prog W .any base t v := hval0
  have hW' := hW
  obtain ⟨p, q, hA0, hV, rfl, hfz, hnd⟩ := hW
  have hA : DataW.TrodAll enc Try.prog W 0 (fun _ => true) true Try.f5.params.toList args.toList ds p := hA0
  rw [Try.params5] at hA hval
  obtain ⟨v0, vs0, d0, ds0, p0, q0, hargs, rfl, rfl, h0, r0⟩ := trodAll_cons hA
  obtain ⟨v1, vs1, d1, ds1, p1, q1, rfl, rfl, rfl, h1, r1⟩ := trodAll_cons r0
  obtain ⟨rfl, rfl, rfl⟩ := trodAll_nil r1
  obtain rfl : args = #[v0, v1] := by cases args; simp_all
  obtain ⟨rfl, rfl⟩ := trodVars_none hV
  have k0 := h0
  have lt0 : ∀ x ∈ p0, x.block < W.heap.size := by obtain ⟨m, hm⟩ := k0; exact DataW.trod_lt m _ _ _ hm
  obtain ⟨⟨cs0⟩, rfl, hz0⟩ := okWide_struct Try.underlying35 (hval 0 35 v0 rfl rfl)
  obtain ⟨y0, K0, F0⟩ : ∃ y, (Kd.slice 80 k80).K W y cs0 ∧ (fun xs => xs.length ≤ 9223372036854775807 ∧ ∀ x ∈ xs, Fit80 x) y := by obtain ⟨m, hm⟩ := h0; exact opens0 hm
  obtain ⟨l0_0, rfl⟩ : ∃ z, z = y0 := ⟨_, rfl⟩
  obtain ⟨A0_0, c0_0, rfl, hc0_0, hr0_0⟩ := K0
  have k1 := h1
  have lt1 : ∀ x ∈ p1, x.block < W.heap.size := by obtain ⟨m, hm⟩ := k1; exact DataW.trod_lt m _ _ _ hm
  obtain ⟨⟨cs1⟩, rfl, hz1⟩ := okWide_struct Try.underlying35 (hval 1 35 v1 rfl rfl)
  obtain ⟨y1, K1, F1⟩ : ∃ y, (Kd.slice 80 k80).K W y cs1 ∧ (fun xs => xs.length ≤ 9223372036854775807 ∧ ∀ x ∈ xs, Fit80 x) y := by obtain ⟨m, hm⟩ := h1; exact opens1 hm
  obtain ⟨l1_0, rfl⟩ : ∃ z, z = y1 := ⟨_, rfl⟩
  obtain ⟨A1_0, c1_0, rfl, hc1_0, hr1_0⟩ := K1
  clear hA0 hval0 hsz0
  obtain ⟨k, H⟩ := Pure.FnExactIncludesBundle l0_0 l1_0 F0.1 F1.1
  refine (laws_FnExactIncludesBundle.calls k A0_0 c0_0 l0_0 A1_0 c1_0 l1_0 W hr0_0 hc0_0 hr1_0 hc1_0 H).mono fun e W' h_ => ?_
  obtain ⟨he, bel0⟩ := h_
  have bel : Below W.heap.size W W' := bel0
  subst he
  exact ⟨_, rfl, _, _, _, [], _, [], hW', trodAll_mk1 (shut_bool Try.underlying4 _), (trodAll_cons_mk (Below.trod laidOut (by kernel_rfl) (of_decide_eq_true (by kernel_rfl)) k0 bel lt0) (trodAll_cons_mk (Below.trod laidOut (by kernel_rfl) (of_decide_eq_true (by kernel_rfl)) k1 bel lt1) trodAll_mk0)), rfl, bel.frame _, fun h => by cases h⟩
theorem over : Rows.fnExactIncludesBundleRow.holds Try.pinned (OpenSpec.ofChange Rows.fnExactIncludesBundleSpec) :=
  OpenClaim.holds_of_wide 5 Try.f5 rfl rfl rfl rfl rfl rfl rfl ⟨rfl, rfl, rfl, rfl, rfl⟩ rfl rfl rfl rfl rfl (by kernel_rfl) Try.func5 (by kernel_rfl)
    (of_decide_eq_true (by kernel_rfl)) (by unfold Func.isWrapper; first | (rw [if_pos (by decide +kernel)]; kernel_rfl) | (rw [if_neg (by decide +kernel)]; exact ⟨rfl, rfl⟩))
    (fun os started H enc _ => lifted os started H enc)
theorem proved : Rows.FnExactIncludesBundleSaid := over
end Go.Proofs.Ytnifeegdkhmakaa.fnExactIncludesBundle
namespace Go.Proofs.Ytnifeegdkhmakaa
/-- The row, under a short name, for the claim. -/
theorem fnExactIncludesBundle_holds : Rows.FnExactIncludesBundleSaid := fnExactIncludesBundle.proved
end Go.Proofs.Ytnifeegdkhmakaa

/- The row of the law FnExactSealBundle, out of its plain law and the contract of its function. No condition. -/
import Derived.Test.YtgcipecdaimjfaaRows
import Derived.Test.YtgcipecdaimjfaaTFnExactSealBundle
import Derived.Test.YtgcipecdaimjfaaOpFnExactSealBundle
import Derived.Test.YtgcipecdaimjfaaPureFnExactSealBundle
import Derived.WalkKit
import Derived.ProofKit
import Derived.OpenShut
import Derived.ShutString
import Derived.ChangeOld
import Derived.Below
import Derived.SizedLaws
import Derived.Carry
namespace Go.Proofs.Ytgcipecdaimjfaa.fnExactSealBundle
open Go.ChangeShapes Go.WideShapes Go.ChangeAt Go.RowKit Go.Proofs.Ytgcipecdaimjfaa.PFnExactSealBundle Go.Proofs.Ytgcipecdaimjfaa.Op Go.Proofs.YtgcipecdaimjfaaW.PrintWords
open Go.ChangeMaps (open_string shut_string)
set_option linter.unusedVariables false
theorem own : ownKnob Try.prog.godebug = none := by kernel_rfl
theorem laidOut : laidOutB Try.prog = true := by kernel_rfl
theorem opens3 : Opens Try.prog 63 (Kd.slice 163 k163) (fun xs => xs.length ≤ 9223372036854775807 ∧ ∀ x ∈ xs, Fit163 x) := (opens_struct Try.underlying63 (opensAt_one (opens_slice Try.underlying61 op163 (by kernel_rfl)) (by rfl) (by kernel_rfl)) (by kernel_rfl))
set_option maxRecDepth 100000 in
theorem lifted (os : Os) (started : os.Started) (H : Type) (enc : TypeId × Value → H) :
    ReturnsInHanded {} Try.checked os 6 .any (Rows.fnExactSealBundleSpec.pre6 enc Try.prog Try.f6 Rows.fnExactSealBundleRow.domain false) (Rows.fnExactSealBundleSpec.post enc Try.prog Try.f6 false true false false) := by
  refine returnsInHanded_of_change_sized (C := Try.checked) own started (by kernel_rfl) Try.func6
    (ChangeSpec.witness6 (enc := enc) (C := Try.checked) false ⟨#[], #[.int .i64 0, .int .i64 0, .int .i64 0, .agg #[.slice none 0 0]], []⟩ 8 (by kernel_rfl) (by kernel_rfl) (by kernel_rfl) (by kernel_rfl)) ?_
  intro W base args ds gs before hval0 hW hcnd hsz0 _
  have hval : ∀ (j : Nat) t v, Try.f6.params[j]? = some t → args[j]? = some v → Value.okWide Try.prog W .any base t v := hval0
  have hW' := hW
  obtain ⟨p, q, hA0, hV, rfl, hfz, hnd⟩ := hW
  have hA : DataW.TrodAll enc Try.prog W 0 (fun _ => true) true Try.f6.params.toList args.toList ds p := hA0
  rw [Try.params6] at hA hval
  obtain ⟨v0, vs0, d0, ds0, p0, q0, hargs, rfl, rfl, h0, r0⟩ := trodAll_cons hA
  obtain ⟨v1, vs1, d1, ds1, p1, q1, rfl, rfl, rfl, h1, r1⟩ := trodAll_cons r0
  obtain ⟨v2, vs2, d2, ds2, p2, q2, rfl, rfl, rfl, h2, r2⟩ := trodAll_cons r1
  obtain ⟨v3, vs3, d3, ds3, p3, q3, rfl, rfl, rfl, h3, r3⟩ := trodAll_cons r2
  obtain ⟨rfl, rfl, rfl⟩ := trodAll_nil r3
  obtain rfl : args = #[v0, v1, v2, v3] := by cases args; simp_all
  obtain ⟨rfl, rfl⟩ := trodVars_none hV
  obtain ⟨a0, rfl, rfl, rfl, w0⟩ := open_int Try.underlying3 (hval 0 3 v0 rfl rfl) h0
  obtain ⟨a1, rfl, rfl, rfl, w1⟩ := open_int Try.underlying3 (hval 1 3 v1 rfl rfl) h1
  obtain ⟨a2, rfl, rfl, rfl, w2⟩ := open_int Try.underlying3 (hval 2 3 v2 rfl rfl) h2
  have k3 := h3
  have lt3 : ∀ x ∈ p3, x.block < W.heap.size := by obtain ⟨m, hm⟩ := k3; exact DataW.trod_lt m _ _ _ hm
  obtain ⟨⟨cs3⟩, rfl, hz3⟩ := okWide_struct Try.underlying63 (hval 3 63 v3 rfl rfl)
  obtain ⟨y3, K3, F3⟩ : ∃ y, (Kd.slice 163 k163).K W y cs3 ∧ (fun xs => xs.length ≤ 9223372036854775807 ∧ ∀ x ∈ xs, Fit163 x) y := by obtain ⟨m, hm⟩ := h3; exact opens3 hm
  obtain ⟨l3_0, rfl⟩ : ∃ z, z = y3 := ⟨_, rfl⟩
  obtain ⟨A3_0, c3_0, rfl, hc3_0, hr3_0⟩ := K3
  clear hA0 hval0 hsz0
  obtain ⟨k, H⟩ := Pure.FnExactSealBundle a0 a1 a2 l3_0 F3.1
  refine (laws_FnExactSealBundle.calls k a0 a1 a2 A3_0 c3_0 l3_0 W hr3_0 hc3_0 H).mono fun e W' h_ => ?_
  obtain ⟨he, bel0⟩ := h_
  have bel : Below W.heap.size W W' := bel0
  subst he
  exact ⟨_, rfl, _, _, _, [], _, [], hW', trodAll_mk1 (shut_bool Try.underlying4 _), (trodAll_cons_mk (shut_int Try.underlying3 w0) (trodAll_cons_mk (shut_int Try.underlying3 w1) (trodAll_cons_mk (shut_int Try.underlying3 w2) (trodAll_cons_mk (Below.trod laidOut (by kernel_rfl) (of_decide_eq_true (by kernel_rfl)) k3 bel lt3) trodAll_mk0)))), rfl, bel.frame _, fun h => by cases h⟩
theorem over : Rows.fnExactSealBundleRow.holds Try.pinned (OpenSpec.ofChange Rows.fnExactSealBundleSpec) :=
  OpenClaim.holds_of_wide 6 Try.f6 rfl rfl rfl rfl rfl rfl rfl ⟨rfl, rfl, rfl, rfl, rfl⟩ rfl rfl rfl rfl rfl (by kernel_rfl) Try.func6 (by kernel_rfl)
    (of_decide_eq_true (by kernel_rfl)) (by unfold Func.isWrapper; first | (rw [if_pos (by decide +kernel)]; kernel_rfl) | (rw [if_neg (by decide +kernel)]; exact ⟨rfl, rfl⟩))
    (fun os started H enc _ => lifted os started H enc)
theorem proved : Rows.FnExactSealBundleSaid := over
end Go.Proofs.Ytgcipecdaimjfaa.fnExactSealBundle
namespace Go.Proofs.Ytgcipecdaimjfaa
/-- The row, under a short name, for the claim. -/
theorem fnExactSealBundle_holds : Rows.FnExactSealBundleSaid := fnExactSealBundle.proved
end Go.Proofs.Ytgcipecdaimjfaa

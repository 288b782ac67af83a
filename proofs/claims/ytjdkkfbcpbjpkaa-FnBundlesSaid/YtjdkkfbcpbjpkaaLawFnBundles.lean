/- The row of the law FnBundles, out of its plain law and the contract of its function. No condition. -/
import Derived.Test.YtjdkkfbcpbjpkaaRows
import Derived.Test.YtjdkkfbcpbjpkaaTFnBundles
import Derived.Test.YtjdkkfbcpbjpkaaOpFnBundles
import Derived.Test.YtjdkkfbcpbjpkaaPureFnBundles
import Derived.WalkKit
import Derived.ProofKit
import Derived.OpenShut
import Derived.ShutString
import Derived.ChangeOld
import Derived.Below
import Derived.SizedLaws
import Derived.Carry
namespace Go.Proofs.Ytjdkkfbcpbjpkaa.fnBundles
open Go.ChangeShapes Go.WideShapes Go.ChangeAt Go.RowKit Go.Proofs.Ytjdkkfbcpbjpkaa.PFnBundles Go.Proofs.Ytjdkkfbcpbjpkaa.Op Go.Proofs.YtjdkkfbcpbjpkaaW.PrintWords
open Go.ChangeMaps (open_string shut_string)
set_option linter.unusedVariables false
theorem own : ownKnob Try.prog.godebug = none := by kernel_rfl
theorem laidOut : laidOutB Try.prog = true := by kernel_rfl
theorem opens0 : Opens Try.prog 69 (Kd.slice 5 (Kd.int .u8)) (fun xs => xs.length ≤ 9223372036854775807 ∧ ∀ x ∈ xs, (fun n => (Lit.int .u8 n).wf = true) x) := (opens_slice Try.underlying69 (opens_int Try.underlying5) (by kernel_rfl))
set_option maxRecDepth 100000 in
theorem lifted (os : Os) (started : os.Started) (H : Type) (enc : TypeId × Value → H) :
    ReturnsInHanded {} Try.checked os 8 .any (Rows.fnBundlesSpec.pre6 enc Try.prog Try.f8 Rows.fnBundlesRow.domain false) (Rows.fnBundlesSpec.post enc Try.prog Try.f8 false true false false) := by
  refine returnsInHanded_of_change_sized (C := Try.checked) own started (by kernel_rfl) Try.func8
    (ChangeSpec.witness6 (enc := enc) (C := Try.checked) false ⟨#[], #[.slice none 0 0], []⟩ 8 (by kernel_rfl) (by kernel_rfl) (by kernel_rfl) (by kernel_rfl)) ?_
  intro W base args ds gs before hval0 hW hcnd hsz0 _
  have hval : ∀ (j : Nat) t v, Try.f8.params[j]? = some t → args[j]? = some v → Value.okWide Try.prog W .any base t v := hval0
  have hW' := hW
  obtain ⟨p, q, hA0, hV, rfl, hfz, hnd⟩ := hW
  have hA : DataW.TrodAll enc Try.prog W 0 (fun _ => true) true Try.f8.params.toList args.toList ds p := hA0
  rw [Try.params8] at hA hval
  obtain ⟨v0, vs0, d0, ds0, p0, q0, hargs, rfl, rfl, h0, r0⟩ := trodAll_cons hA
  obtain ⟨rfl, rfl, rfl⟩ := trodAll_nil r0
  obtain rfl : args = #[v0] := by cases args; simp_all
  obtain ⟨rfl, rfl⟩ := trodVars_none hV
  have k0 := h0
  have lt0 : ∀ x ∈ p0, x.block < W.heap.size := by obtain ⟨m, hm⟩ := k0; exact DataW.trod_lt m _ _ _ hm
  obtain ⟨A0, n0, c0, rfl⟩ := okWide_slice Try.underlying69 (hval 0 69 v0 rfl rfl)
  obtain ⟨l0, ⟨A0z, c0z, e0, hc0, hr0⟩, F0⟩ : ∃ y, (Kd.slice 5 (Kd.int .u8)).K W y [.slice A0 n0 c0] ∧ (fun xs => xs.length ≤ 9223372036854775807 ∧ ∀ x ∈ xs, (fun n => (Lit.int .u8 n).wf = true) x) y := by obtain ⟨m, hm⟩ := h0; exact opens0 hm
  obtain ⟨rfl, rfl, rfl⟩ : A0 = A0z ∧ n0 = l0.length ∧ c0 = c0z := by simpa using e0
  clear hA0 hval0 hsz0
  obtain ⟨k, H⟩ := Pure.FnBundles l0 F0.1
  refine (laws_FnBundles.calls k A0 c0 l0 W hr0 hc0 H).mono fun e W' h_ => ?_
  obtain ⟨he, bel0⟩ := h_
  have bel : Below W.heap.size W W' := bel0
  subst he
  exact ⟨_, rfl, _, _, _, [], _, [], hW', trodAll_mk1 (shut_bool Try.underlying4 _), (trodAll_cons_mk (Below.trod laidOut (by kernel_rfl) (of_decide_eq_true (by kernel_rfl)) k0 bel lt0) trodAll_mk0), rfl, bel.frame _, fun h => by cases h⟩
theorem over : Rows.fnBundlesRow.holds Try.pinned (OpenSpec.ofChange Rows.fnBundlesSpec) :=
  OpenClaim.holds_of_wide 8 Try.f8 rfl rfl rfl rfl rfl rfl rfl ⟨rfl, rfl, rfl, rfl, rfl⟩ rfl rfl rfl rfl rfl (by kernel_rfl) Try.func8 (by kernel_rfl)
    (of_decide_eq_true (by kernel_rfl)) (by unfold Func.isWrapper; first | (rw [if_pos (by decide +kernel)]; kernel_rfl) | (rw [if_neg (by decide +kernel)]; exact ⟨rfl, rfl⟩))
    (fun os started H enc _ => lifted os started H enc)
theorem proved : Rows.FnBundlesSaid := over
end Go.Proofs.Ytjdkkfbcpbjpkaa.fnBundles
namespace Go.Proofs.Ytjdkkfbcpbjpkaa
/-- The row, under a short name, for the claim. -/
theorem fnBundles_holds : Rows.FnBundlesSaid := fnBundles.proved
end Go.Proofs.Ytjdkkfbcpbjpkaa

/- The row of the law FnSealedBundles, out of its plain law and the contract of its function. No condition. -/
import Derived.Test.YtpgjecknkmmnhaaRows
import Derived.Test.YtpgjecknkmmnhaaTFnSealedBundles
import Derived.Test.YtpgjecknkmmnhaaOpFnSealedBundles
import Derived.Test.YtpgjecknkmmnhaaPureFnSealedBundles
import Derived.WalkKit
import Derived.ProofKit
import Derived.OpenShut
import Derived.ShutString
import Derived.ChangeOld
import Derived.Below
import Derived.SizedLaws
import Derived.Carry
namespace Go.Proofs.Ytpgjecknkmmnhaa.fnSealedBundles
open Go.ChangeShapes Go.WideShapes Go.ChangeAt Go.RowKit Go.Proofs.Ytpgjecknkmmnhaa.PFnSealedBundles Go.Proofs.Ytpgjecknkmmnhaa.Op Go.Proofs.YtpgjecknkmmnhaaW.PrintWords
open Go.ChangeMaps (open_string shut_string)
set_option linter.unusedVariables false
theorem own : ownKnob Try.prog.godebug = none := by kernel_rfl
theorem laidOut : laidOutB Try.prog = true := by kernel_rfl
theorem opens0 : Opens Try.prog 22 (Kd.slice 5 (Kd.int .u8)) (fun xs => xs.length ≤ 9223372036854775807 ∧ ∀ x ∈ xs, (fun n => (Lit.int .u8 n).wf = true) x) := (opens_slice Try.underlying22 (opens_int Try.underlying5) (by kernel_rfl))
set_option maxRecDepth 100000 in
theorem lifted (os : Os) (started : os.Started) (H : Type) (enc : TypeId × Value → H) :
    ReturnsInHanded {} Try.checked os 5 .any (Rows.fnSealedBundlesSpec.pre6 enc Try.prog Try.f5 Rows.fnSealedBundlesRow.domain false) (Rows.fnSealedBundlesSpec.post enc Try.prog Try.f5 false true false false) := by
  refine returnsInHanded_of_change_sized (C := Try.checked) own started (by kernel_rfl) Try.func5
    (ChangeSpec.witness6 (enc := enc) (C := Try.checked) false ⟨#[], #[.slice none 0 0], []⟩ 8 (by kernel_rfl) (by kernel_rfl) (by kernel_rfl) (by kernel_rfl)) ?_
  intro W base args ds gs before hval0 hW hcnd hsz0 _
  have hval : ∀ (j : Nat) t v, Try.f5.params[j]? = some t → args[j]? = some v → Value.okWide Try.prog W .any base t v := hval0
  have hW' := hW
  obtain ⟨p, q, hA0, hV, rfl, hfz, hnd⟩ := hW
  have hA : DataW.TrodAll enc Try.prog W 0 (fun _ => true) true Try.f5.params.toList args.toList ds p := hA0
  rw [Try.params5] at hA hval
  obtain ⟨v0, vs0, d0, ds0, p0, q0, hargs, rfl, rfl, h0, r0⟩ := trodAll_cons hA
  obtain ⟨rfl, rfl, rfl⟩ := trodAll_nil r0
  obtain rfl : args = #[v0] := by cases args; simp_all
  obtain ⟨rfl, rfl⟩ := trodVars_none hV
  have k0 := h0
  have lt0 : ∀ x ∈ p0, x.block < W.heap.size := by obtain ⟨m, hm⟩ := k0; exact DataW.trod_lt m _ _ _ hm
  obtain ⟨A0, n0, c0, rfl⟩ := okWide_slice Try.underlying22 (hval 0 22 v0 rfl rfl)
  obtain ⟨l0, ⟨A0z, c0z, e0, hc0, hr0⟩, F0⟩ : ∃ y, (Kd.slice 5 (Kd.int .u8)).K W y [.slice A0 n0 c0] ∧ (fun xs => xs.length ≤ 9223372036854775807 ∧ ∀ x ∈ xs, (fun n => (Lit.int .u8 n).wf = true) x) y := by obtain ⟨m, hm⟩ := h0; exact opens0 hm
  obtain ⟨rfl, rfl, rfl⟩ : A0 = A0z ∧ n0 = l0.length ∧ c0 = c0z := by simpa using e0
  clear hA0 hval0 hsz0
  obtain ⟨k, H⟩ := Pure.FnSealedBundles l0 F0
  refine (laws_FnSealedBundles.calls k A0 c0 l0 W hr0 hc0 H).mono fun e W' h_ => ?_
  obtain ⟨he, bel0⟩ := h_
  have bel : Below W.heap.size W W' := bel0
  subst he
  exact ⟨_, rfl, _, _, _, [], _, [], hW', trodAll_mk1 (shut_bool Try.underlying4 _), (trodAll_cons_mk (Below.trod laidOut (by kernel_rfl) (of_decide_eq_true (by kernel_rfl)) k0 bel lt0) trodAll_mk0), rfl, bel.frame _, fun h => by cases h⟩
theorem over : Rows.fnSealedBundlesRow.holds Try.pinned (OpenSpec.ofChange Rows.fnSealedBundlesSpec) :=
  OpenClaim.holds_of_wide 5 Try.f5 rfl rfl rfl rfl rfl rfl rfl ⟨rfl, rfl, rfl, rfl, rfl⟩ rfl rfl rfl rfl rfl (by kernel_rfl) Try.func5 (by kernel_rfl)
    (of_decide_eq_true (by kernel_rfl)) (by unfold Func.isWrapper; first | (rw [if_pos (by decide +kernel)]; kernel_rfl) | (rw [if_neg (by decide +kernel)]; exact ⟨rfl, rfl⟩))
    (fun os started H enc _ => lifted os started H enc)
theorem proved : Rows.FnSealedBundlesSaid := over
end Go.Proofs.Ytpgjecknkmmnhaa.fnSealedBundles
namespace Go.Proofs.Ytpgjecknkmmnhaa
/-- The row, under a short name, for the claim. -/
theorem fnSealedBundles_holds : Rows.FnSealedBundlesSaid := fnSealedBundles.proved
end Go.Proofs.Ytpgjecknkmmnhaa

/- The kinds of the law FnExactEqualBrowsers's arguments, opened. No condition. -/
import Derived.Test.YtjdkkfbcpbjpkaaOp
import Derived.KernelRfl
import Derived.Test.YtjdkkfbcpbjpkaaPFnExactEqualBrowsersx0
namespace Go.Proofs.Ytjdkkfbcpbjpkaa.PFnExactEqualBrowsers
open Go.RowKit Go.Proofs.YtjdkkfbcpbjpkaaW.PrintWords Go.Proofs.Ytjdkkfbcpbjpkaa.Op
set_option linter.unusedVariables false
def Fit128 (x : S128) : Prop := (x.f1.size ≤ 9223372036854775807)
theorem op128 : Opens Try.prog 128 k128 Fit128 :=
  Opens.weaken (opens_iso (opens_struct Try.underlying128 (opensAt_cons (opens_bool Try.underlying4) (by rfl) (by kernel_rfl) (opensAt_cons (opens_string Try.underlying9) (by rfl) (by kernel_rfl) (opensAt_one (opens_int Try.underlying3) (by rfl) (by kernel_rfl)))) (by kernel_rfl)) _ (fun p => (⟨p.1, p.2.1, p.2.2⟩ : S128)) (fun _ => rfl)) fun x h => h.2.1
def Fit130 (x : S130) : Prop := (Fit128 x.f0) ∧ (Fit128 x.f1)
theorem op130 : Opens Try.prog 130 k130 Fit130 :=
  Opens.weaken (opens_iso (opens_struct Try.underlying130 (opensAt_cons op128 (by rfl) (by kernel_rfl) (opensAt_one op128 (by rfl) (by kernel_rfl))) (by kernel_rfl)) _ (fun p => (⟨p.1, p.2⟩ : S130)) (fun _ => rfl)) fun x h => ⟨h.1, h.2⟩
end Go.Proofs.Ytjdkkfbcpbjpkaa.PFnExactEqualBrowsers

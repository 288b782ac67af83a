/- The kinds of the law FnExactIsValidAccount's arguments, opened. No condition. -/
import Derived.Test.YtjdkkfbcpbjpkaaOp
import Derived.KernelRfl
import Derived.Test.YtjdkkfbcpbjpkaaPFnExactIsValidAccountx0
namespace Go.Proofs.Ytjdkkfbcpbjpkaa.PFnExactIsValidAccount
open Go.RowKit Go.Proofs.YtjdkkfbcpbjpkaaW.PrintWords Go.Proofs.Ytjdkkfbcpbjpkaa.Op
set_option linter.unusedVariables false
def Fit123 (x : S123) : Prop := True
theorem op123 : Opens Try.prog 123 k123 Fit123 :=
  Opens.weaken (opens_iso (opens_struct Try.underlying123 (opensAt_cons (opens_int Try.underlying3) (by rfl) (by kernel_rfl) (opensAt_cons (opens_int Try.underlying3) (by rfl) (by kernel_rfl) (opensAt_cons (opens_int Try.underlying3) (by rfl) (by kernel_rfl) (opensAt_one (opens_bool Try.underlying4) (by rfl) (by kernel_rfl))))) (by kernel_rfl)) _ (fun p => (⟨p.1, p.2.1, p.2.2.1, p.2.2.2⟩ : S123)) (fun _ => rfl)) fun x h => trivial
end Go.Proofs.Ytjdkkfbcpbjpkaa.PFnExactIsValidAccount

/- The kinds of the law FnExactAllowsMethod's arguments, opened. No condition. -/
import Derived.Test.YtnifeegdkhmakaaOp
import Derived.KernelRfl
import Derived.Test.YtnifeegdkhmakaaPFnExactAllowsMethodx0
namespace Go.Proofs.Ytnifeegdkhmakaa.PFnExactAllowsMethod
open Go.RowKit Go.Proofs.YtnifeegdkhmakaaW.PrintWords Go.Proofs.Ytnifeegdkhmakaa.Op
set_option linter.unusedVariables false
def Fit76 (x : S76) : Prop := True
theorem op76 : Opens Try.prog 76 k76 Fit76 :=
  Opens.weaken (opens_iso (opens_struct Try.underlying76 (opensAt_cons (opens_int Try.underlying3) (by rfl) (by kernel_rfl) (opensAt_cons (opens_int Try.underlying3) (by rfl) (by kernel_rfl) (opensAt_cons (opens_int Try.underlying3) (by rfl) (by kernel_rfl) (opensAt_one (opens_bool Try.underlying4) (by rfl) (by kernel_rfl))))) (by kernel_rfl)) _ (fun p => (⟨p.1, p.2.1, p.2.2.1, p.2.2.2⟩ : S76)) (fun _ => rfl)) fun x h => trivial
end Go.Proofs.Ytnifeegdkhmakaa.PFnExactAllowsMethod

/- The kinds of the law FnExactIncludesBundle's arguments, opened. No condition. -/
import Derived.Test.YtnifeegdkhmakaaOp
import Derived.KernelRfl
import Derived.Test.YtnifeegdkhmakaaPFnExactIncludesBundlex0
namespace Go.Proofs.Ytnifeegdkhmakaa.PFnExactIncludesBundle
open Go.RowKit Go.Proofs.YtnifeegdkhmakaaW.PrintWords Go.Proofs.Ytnifeegdkhmakaa.Op
set_option linter.unusedVariables false
def Fit80 (x : S80) : Prop := True
theorem op80 : Opens Try.prog 80 k80 Fit80 :=
  Opens.weaken (opens_iso (opens_struct Try.underlying80 (opensAt_cons (opens_int Try.underlying3) (by rfl) (by kernel_rfl) (opensAt_cons (opens_int Try.underlying3) (by rfl) (by kernel_rfl) (opensAt_cons (opens_int Try.underlying3) (by rfl) (by kernel_rfl) (opensAt_one (opens_bool Try.underlying4) (by rfl) (by kernel_rfl))))) (by kernel_rfl)) _ (fun p => (⟨p.1, p.2.1, p.2.2.1, p.2.2.2⟩ : S80)) (fun _ => rfl)) fun x h => trivial
end Go.Proofs.Ytnifeegdkhmakaa.PFnExactIncludesBundle

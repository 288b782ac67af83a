/- The kinds of the law FnExactAddCredential's arguments, opened. No condition. -/
import Derived.Test.YtoffbjjkegeccaaOp
import Derived.KernelRfl
import Derived.Test.YtoffbjjkegeccaaPFnExactAddCredentialx0
namespace Go.Proofs.Ytoffbjjkegeccaa.PFnExactAddCredential
open Go.RowKit Go.Proofs.YtoffbjjkegeccaaW.PrintWords Go.Proofs.Ytoffbjjkegeccaa.Op
set_option linter.unusedVariables false
def Fit106 (x : S106) : Prop := True
theorem op106 : Opens Try.prog 106 k106 Fit106 :=
  Opens.weaken (opens_iso (opens_struct Try.underlying106 (opensAt_cons (opens_int Try.underlying3) (by rfl) (by kernel_rfl) (opensAt_cons (opens_int Try.underlying3) (by rfl) (by kernel_rfl) (opensAt_cons (opens_int Try.underlying3) (by rfl) (by kernel_rfl) (opensAt_one (opens_bool Try.underlying4) (by rfl) (by kernel_rfl))))) (by kernel_rfl)) _ (fun p => (⟨p.1, p.2.1, p.2.2.1, p.2.2.2⟩ : S106)) (fun _ => rfl)) fun x h => trivial
end Go.Proofs.Ytoffbjjkegeccaa.PFnExactAddCredential

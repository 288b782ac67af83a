/- The kinds of the law FnExactEpochOf's arguments, opened. No condition. -/
import Derived.Test.YtghbdajdmdcoiaaOp
import Derived.KernelRfl
import Derived.Test.YtghbdajdmdcoiaaPFnExactEpochOfx0
namespace Go.Proofs.Ytghbdajdmdcoiaa.PFnExactEpochOf
open Go.RowKit Go.Proofs.YtghbdajdmdcoiaaW.PrintWords Go.Proofs.Ytghbdajdmdcoiaa.Op
set_option linter.unusedVariables false
def Fit23 (x : S23) : Prop := True
theorem op23 : Opens Try.prog 23 k23 Fit23 :=
  Opens.weaken (opens_iso (opens_struct Try.underlying23 (opensAt_cons (opens_int Try.underlying3) (by rfl) (by kernel_rfl) (opensAt_cons (opens_int Try.underlying3) (by rfl) (by kernel_rfl) (opensAt_cons (opens_int Try.underlying3) (by rfl) (by kernel_rfl) (opensAt_cons (opens_int Try.underlying3) (by rfl) (by kernel_rfl) (opensAt_cons (opens_int Try.underlying3) (by rfl) (by kernel_rfl) (opensAt_one (opens_int Try.underlying3) (by rfl) (by kernel_rfl))))))) (by kernel_rfl)) _ (fun p => (⟨p.1, p.2.1, p.2.2.1, p.2.2.2.1, p.2.2.2.2.1, p.2.2.2.2.2⟩ : S23)) (fun _ => rfl)) fun x h => trivial
end Go.Proofs.Ytghbdajdmdcoiaa.PFnExactEpochOf

/- The kinds of the law FnExactEqualBundles's arguments, opened. No condition. -/
import Derived.Test.YtghbdajdmdcoiabOp
import Derived.KernelRfl
import Derived.Test.YtghbdajdmdcoiabPFnExactEqualBundlesx0
namespace Go.Proofs.Ytghbdajdmdcoiab.PFnExactEqualBundles
open Go.RowKit Go.Proofs.YtghbdajdmdcoiabW.PrintWords Go.Proofs.Ytghbdajdmdcoiab.Op
set_option linter.unusedVariables false
def Fit74 (x : S74) : Prop := True
theorem op74 : Opens Try.prog 74 k74 Fit74 :=
  Opens.weaken (opens_iso (opens_struct Try.underlying74 (opensAt_cons (opens_int Try.underlying3) (by rfl) (by kernel_rfl) (opensAt_cons (opens_int Try.underlying3) (by rfl) (by kernel_rfl) (opensAt_cons (opens_int Try.underlying3) (by rfl) (by kernel_rfl) (opensAt_one (opens_bool Try.underlying4) (by rfl) (by kernel_rfl))))) (by kernel_rfl)) _ (fun p => (⟨p.1, p.2.1, p.2.2.1, p.2.2.2⟩ : S74)) (fun _ => rfl)) fun x h => trivial
end Go.Proofs.Ytghbdajdmdcoiab.PFnExactEqualBundles

/- The kinds of the law FnExactSealBundle's arguments, opened. No condition. -/
import Derived.Test.YtgcipecdaimjfaaOp
import Derived.KernelRfl
import Derived.Test.YtgcipecdaimjfaaPFnExactSealBundlex0
namespace Go.Proofs.Ytgcipecdaimjfaa.PFnExactSealBundle
open Go.RowKit Go.Proofs.YtgcipecdaimjfaaW.PrintWords Go.Proofs.Ytgcipecdaimjfaa.Op
set_option linter.unusedVariables false
def Fit163 (x : S163) : Prop := True
theorem op163 : Opens Try.prog 163 k163 Fit163 :=
  Opens.weaken (opens_iso (opens_struct Try.underlying163 (opensAt_cons (opens_int Try.underlying3) (by rfl) (by kernel_rfl) (opensAt_cons (opens_int Try.underlying3) (by rfl) (by kernel_rfl) (opensAt_cons (opens_int Try.underlying3) (by rfl) (by kernel_rfl) (opensAt_one (opens_bool Try.underlying4) (by rfl) (by kernel_rfl))))) (by kernel_rfl)) _ (fun p => (⟨p.1, p.2.1, p.2.2.1, p.2.2.2⟩ : S163)) (fun _ => rfl)) fun x h => trivial
end Go.Proofs.Ytgcipecdaimjfaa.PFnExactSealBundle

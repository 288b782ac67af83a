/- The kinds of the law FnExactAppendEntry's arguments, opened. No condition. -/
import Derived.Test.YtpgjecknkmmnhaaOp
import Derived.KernelRfl
import Derived.Test.YtpgjecknkmmnhaaPFnExactAppendEntryx0
namespace Go.Proofs.Ytpgjecknkmmnhaa.PFnExactAppendEntry
open Go.RowKit Go.Proofs.YtpgjecknkmmnhaaW.PrintWords Go.Proofs.Ytpgjecknkmmnhaa.Op
set_option linter.unusedVariables false
def Fit78 (x : S78) : Prop := True
theorem op78 : Opens Try.prog 78 k78 Fit78 :=
  Opens.weaken (opens_iso (opens_struct Try.underlying78 (opensAt_cons (opens_int Try.underlying3) (by rfl) (by kernel_rfl) (opensAt_cons (opens_int Try.underlying3) (by rfl) (by kernel_rfl) (opensAt_cons (opens_int Try.underlying3) (by rfl) (by kernel_rfl) (opensAt_cons (opens_int Try.underlying3) (by rfl) (by kernel_rfl) (opensAt_cons (opens_int Try.underlying3) (by rfl) (by kernel_rfl) (opensAt_one (opens_int Try.underlying3) (by rfl) (by kernel_rfl))))))) (by kernel_rfl)) _ (fun p => (⟨p.1, p.2.1, p.2.2.1, p.2.2.2.1, p.2.2.2.2.1, p.2.2.2.2.2⟩ : S78)) (fun _ => rfl)) fun x h => trivial
end Go.Proofs.Ytpgjecknkmmnhaa.PFnExactAppendEntry

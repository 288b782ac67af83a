/- The kinds of the law FnExactActiveEntries's arguments, opened. No condition. -/
import Derived.Test.YtjfdaehpifgjbaaOp
import Derived.KernelRfl
import Derived.Test.YtjfdaehpifgjbaaPFnExactActiveEntriesx0
namespace Go.Proofs.Ytjfdaehpifgjbaa.PFnExactActiveEntries
open Go.RowKit Go.Proofs.YtjfdaehpifgjbaaW.PrintWords Go.Proofs.Ytjfdaehpifgjbaa.Op
set_option linter.unusedVariables false
def Fit42 (x : S42) : Prop := True
theorem op42 : Opens Try.prog 42 k42 Fit42 :=
  Opens.weaken (opens_iso (opens_struct Try.underlying42 (opensAt_cons (opens_int Try.underlying3) (by rfl) (by kernel_rfl) (opensAt_cons (opens_int Try.underlying3) (by rfl) (by kernel_rfl) (opensAt_cons (opens_int Try.underlying3) (by rfl) (by kernel_rfl) (opensAt_one (opens_bool Try.underlying4) (by rfl) (by kernel_rfl))))) (by kernel_rfl)) _ (fun p => (⟨p.1, p.2.1, p.2.2.1, p.2.2.2⟩ : S42)) (fun _ => rfl)) fun x h => trivial
end Go.Proofs.Ytjfdaehpifgjbaa.PFnExactActiveEntries

/- The kinds of the law FnExactEqualEpochBoxes's arguments, opened. No condition. -/
import Derived.Test.YtjdkkfbcpbjpkaaOp
import Derived.KernelRfl
import Derived.Test.YtjdkkfbcpbjpkaaPFnExactEqualEpochBoxesx0
namespace Go.Proofs.Ytjdkkfbcpbjpkaa.PFnExactEqualEpochBoxes
open Go.RowKit Go.Proofs.YtjdkkfbcpbjpkaaW.PrintWords Go.Proofs.Ytjdkkfbcpbjpkaa.Op
set_option linter.unusedVariables false
def Fit118 (x : S118) : Prop := (x.f2.length ≤ 9223372036854775807)
theorem op118 : Opens Try.prog 118 k118 Fit118 :=
  Opens.weaken (opens_iso (opens_struct Try.underlying118 (opensAt_cons (opens_int Try.underlying3) (by rfl) (by kernel_rfl) (opensAt_cons (opens_int Try.underlying3) (by rfl) (by kernel_rfl) (opensAt_cons (opens_slice Try.underlying69 (opens_int Try.underlying5) (by kernel_rfl)) (by rfl) (by kernel_rfl) (opensAt_one (opens_int Try.underlying3) (by rfl) (by kernel_rfl))))) (by kernel_rfl)) _ (fun p => (⟨p.1, p.2.1, p.2.2.1, p.2.2.2⟩ : S118)) (fun _ => rfl)) fun x h => h.2.2.1.1
end Go.Proofs.Ytjdkkfbcpbjpkaa.PFnExactEqualEpochBoxes

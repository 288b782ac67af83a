/- The kinds of the law FnExactLogHead's arguments, opened. No condition. -/
import Derived.Test.YtghbdajdmdcoiabOp
import Derived.KernelRfl
import Derived.Test.YtghbdajdmdcoiabPFnExactLogHeadx0
namespace Go.Proofs.Ytghbdajdmdcoiab.PFnExactLogHead
open Go.RowKit Go.Proofs.YtghbdajdmdcoiabW.PrintWords Go.Proofs.Ytghbdajdmdcoiab.Op
set_option linter.unusedVariables false
def Fit64 (x : S64) : Prop := True
theorem op64 : Opens Try.prog 64 k64 Fit64 :=
  Opens.weaken (opens_iso (opens_struct Try.underlying64 (opensAt_cons (opens_int Try.underlying3) (by rfl) (by kernel_rfl) (opensAt_cons (opens_int Try.underlying3) (by rfl) (by kernel_rfl) (opensAt_cons (opens_int Try.underlying3) (by rfl) (by kernel_rfl) (opensAt_cons (opens_int Try.underlying3) (by rfl) (by kernel_rfl) (opensAt_cons (opens_int Try.underlying3) (by rfl) (by kernel_rfl) (opensAt_one (opens_int Try.underlying3) (by rfl) (by kernel_rfl))))))) (by kernel_rfl)) _ (fun p => (⟨p.1, p.2.1, p.2.2.1, p.2.2.2.1, p.2.2.2.2.1, p.2.2.2.2.2⟩ : S64)) (fun _ => rfl)) fun x h => trivial
end Go.Proofs.Ytghbdajdmdcoiab.PFnExactLogHead

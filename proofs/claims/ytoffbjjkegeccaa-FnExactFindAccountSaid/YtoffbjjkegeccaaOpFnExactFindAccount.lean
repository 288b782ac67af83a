/- The kinds of the law FnExactFindAccount's arguments, opened. No condition. -/
import Derived.Test.YtoffbjjkegeccaaOp
import Derived.KernelRfl
import Derived.Test.YtoffbjjkegeccaaPFnExactFindAccountx0
namespace Go.Proofs.Ytoffbjjkegeccaa.PFnExactFindAccount
open Go.RowKit Go.Proofs.YtoffbjjkegeccaaW.PrintWords Go.Proofs.Ytoffbjjkegeccaa.Op
set_option linter.unusedVariables false
def Fit106 (x : S106) : Prop := True
theorem op106 : Opens Try.prog 106 k106 Fit106 :=
  Opens.weaken (opens_iso (opens_struct Try.underlying106 (opensAt_cons (opens_int Try.underlying3) (by rfl) (by kernel_rfl) (opensAt_cons (opens_int Try.underlying3) (by rfl) (by kernel_rfl) (opensAt_cons (opens_int Try.underlying3) (by rfl) (by kernel_rfl) (opensAt_one (opens_bool Try.underlying4) (by rfl) (by kernel_rfl))))) (by kernel_rfl)) _ (fun p => (⟨p.1, p.2.1, p.2.2.1, p.2.2.2⟩ : S106)) (fun _ => rfl)) fun x h => trivial
def Fit24 (x : S24) : Prop := (x.f2.length ≤ 9223372036854775807)
theorem op24 : Opens Try.prog 24 k24 Fit24 :=
  Opens.weaken (opens_iso (opens_struct Try.underlying24 (opensAt_cons (opens_int Try.underlying3) (by rfl) (by kernel_rfl) (opensAt_cons (opens_int Try.underlying3) (by rfl) (by kernel_rfl) (opensAt_one (opens_slice Try.underlying22 op106 (by kernel_rfl)) (by rfl) (by kernel_rfl)))) (by kernel_rfl)) _ (fun p => (⟨p.1, p.2.1, p.2.2⟩ : S24)) (fun _ => rfl)) fun x h => h.2.2.1
def Fit127 (x : S127) : Prop := True
theorem op127 : Opens Try.prog 127 k127 Fit127 :=
  Opens.weaken (opens_iso (opens_struct Try.underlying127 (opensAt_cons (opens_int Try.underlying3) (by rfl) (by kernel_rfl) (opensAt_cons (opens_int Try.underlying3) (by rfl) (by kernel_rfl) (opensAt_one (opens_int Try.underlying3) (by rfl) (by kernel_rfl)))) (by kernel_rfl)) _ (fun p => (⟨p.1, p.2.1, p.2.2⟩ : S127)) (fun _ => rfl)) fun x h => trivial
end Go.Proofs.Ytoffbjjkegeccaa.PFnExactFindAccount

/- The kinds of the law FnExactEqualSites's arguments, opened. No condition. -/
import Derived.Test.YtgcipecdaimjfaaOp
import Derived.KernelRfl
import Derived.Test.YtgcipecdaimjfaaPFnExactEqualSitesx0
namespace Go.Proofs.Ytgcipecdaimjfaa.PFnExactEqualSites
open Go.RowKit Go.Proofs.YtgcipecdaimjfaaW.PrintWords Go.Proofs.Ytgcipecdaimjfaa.Op
set_option linter.unusedVariables false
def Fit189 (x : S189) : Prop := True
theorem op189 : Opens Try.prog 189 k189 Fit189 :=
  Opens.weaken (opens_iso (opens_struct Try.underlying189 (opensAt_cons (opens_int Try.underlying3) (by rfl) (by kernel_rfl) (opensAt_cons (opens_int Try.underlying3) (by rfl) (by kernel_rfl) (opensAt_cons (opens_int Try.underlying3) (by rfl) (by kernel_rfl) (opensAt_one (opens_bool Try.underlying4) (by rfl) (by kernel_rfl))))) (by kernel_rfl)) _ (fun p => (⟨p.1, p.2.1, p.2.2.1, p.2.2.2⟩ : S189)) (fun _ => rfl)) fun x h => trivial
def Fit153 (x : S153) : Prop := (x.f2.length ≤ 9223372036854775807)
theorem op153 : Opens Try.prog 153 k153 Fit153 :=
  Opens.weaken (opens_iso (opens_struct Try.underlying153 (opensAt_cons (opens_int Try.underlying3) (by rfl) (by kernel_rfl) (opensAt_cons (opens_int Try.underlying3) (by rfl) (by kernel_rfl) (opensAt_one (opens_slice Try.underlying151 op189 (by kernel_rfl)) (by rfl) (by kernel_rfl)))) (by kernel_rfl)) _ (fun p => (⟨p.1, p.2.1, p.2.2⟩ : S153)) (fun _ => rfl)) fun x h => h.2.2.1
def Fit178 (x : S178) : Prop := True
theorem op178 : Opens Try.prog 178 k178 Fit178 :=
  Opens.weaken (opens_iso (opens_struct Try.underlying178 (opensAt_cons (opens_int Try.underlying3) (by rfl) (by kernel_rfl) (opensAt_cons (opens_int Try.underlying3) (by rfl) (by kernel_rfl) (opensAt_one (opens_int Try.underlying3) (by rfl) (by kernel_rfl)))) (by kernel_rfl)) _ (fun p => (⟨p.1, p.2.1, p.2.2⟩ : S178)) (fun _ => rfl)) fun x h => trivial
end Go.Proofs.Ytgcipecdaimjfaa.PFnExactEqualSites

/- The kinds of the law FnExactOpenTab's arguments, opened. No condition. -/
import Derived.Test.YtpgjecknkmmnhaaDoorOp
import Derived.KernelRfl
import Derived.Test.YtpgjecknkmmnhaaDoorPFnExactOpenTabx0
namespace Go.Proofs.YtpgjecknkmmnhaaDoor.PFnExactOpenTab
open Go.RowKit Go.Proofs.YtpgjecknkmmnhaaDoorW.PrintWords Go.Proofs.YtpgjecknkmmnhaaDoor.Op
set_option linter.unusedVariables false
def Fit28 (x : S28) : Prop := (x.f1.size ≤ 9223372036854775807)
theorem op28 : Opens Tryd.prog 28 k28 Fit28 :=
  Opens.weaken (opens_iso (opens_struct Tryd.underlying28 (opensAt_cons (opens_bool Tryd.underlying4) (by rfl) (by kernel_rfl) (opensAt_cons (opens_string Tryd.underlying9) (by rfl) (by kernel_rfl) (opensAt_one (opens_int Tryd.underlying3) (by rfl) (by kernel_rfl)))) (by kernel_rfl)) _ (fun p => (⟨p.1, p.2.1, p.2.2⟩ : S28)) (fun _ => rfl)) fun x h => h.2.1
def Fit58 (x : S58) : Prop := (Fit28 x.f0) ∧ (Fit28 x.f1)
theorem op58 : Opens Tryd.prog 58 k58 Fit58 :=
  Opens.weaken (opens_iso (opens_struct Tryd.underlying58 (opensAt_cons op28 (by rfl) (by kernel_rfl) (opensAt_one op28 (by rfl) (by kernel_rfl))) (by kernel_rfl)) _ (fun p => (⟨p.1, p.2⟩ : S58)) (fun _ => rfl)) fun x h => ⟨h.1, h.2⟩
end Go.Proofs.YtpgjecknkmmnhaaDoor.PFnExactOpenTab

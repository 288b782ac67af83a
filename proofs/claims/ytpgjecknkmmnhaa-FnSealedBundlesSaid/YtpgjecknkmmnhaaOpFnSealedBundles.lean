/- The kinds of the law FnSealedBundles's arguments, opened. No condition. -/
import Derived.Test.YtpgjecknkmmnhaaOp
import Derived.KernelRfl
import Derived.Test.YtpgjecknkmmnhaaPFnSealedBundlesx0
namespace Go.Proofs.Ytpgjecknkmmnhaa.PFnSealedBundles
open Go.RowKit Go.Proofs.YtpgjecknkmmnhaaW.PrintWords Go.Proofs.Ytpgjecknkmmnhaa.Op
set_option linter.unusedVariables false
end Go.Proofs.Ytpgjecknkmmnhaa.PFnSealedBundles

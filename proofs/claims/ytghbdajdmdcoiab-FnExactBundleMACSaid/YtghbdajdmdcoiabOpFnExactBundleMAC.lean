/- The kinds of the law FnExactBundleMAC's arguments, opened. No condition. -/
import Derived.Test.YtghbdajdmdcoiabOp
import Derived.KernelRfl
import Derived.Test.YtghbdajdmdcoiabPFnExactBundleMACx0
namespace Go.Proofs.Ytghbdajdmdcoiab.PFnExactBundleMAC
open Go.RowKit Go.Proofs.YtghbdajdmdcoiabW.PrintWords Go.Proofs.Ytghbdajdmdcoiab.Op
set_option linter.unusedVariables false
end Go.Proofs.Ytghbdajdmdcoiab.PFnExactBundleMAC

/- The kinds of the law FnBundles's arguments, opened. No condition. -/
import Derived.Test.YtjdkkfbcpbjpkaaOp
import Derived.KernelRfl
import Derived.Test.YtjdkkfbcpbjpkaaPFnBundlesx0
namespace Go.Proofs.Ytjdkkfbcpbjpkaa.PFnBundles
open Go.RowKit Go.Proofs.YtjdkkfbcpbjpkaaW.PrintWords Go.Proofs.Ytjdkkfbcpbjpkaa.Op
set_option linter.unusedVariables false
end Go.Proofs.Ytjdkkfbcpbjpkaa.PFnBundles

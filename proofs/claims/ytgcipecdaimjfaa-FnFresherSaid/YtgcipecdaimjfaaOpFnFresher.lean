/- The kinds of the law FnFresher's arguments, opened. No condition. -/
import Derived.Test.YtgcipecdaimjfaaOp
import Derived.KernelRfl
import Derived.Test.YtgcipecdaimjfaaPFnFresherx0
namespace Go.Proofs.Ytgcipecdaimjfaa.PFnFresher
open Go.RowKit Go.Proofs.YtgcipecdaimjfaaW.PrintWords Go.Proofs.Ytgcipecdaimjfaa.Op
set_option linter.unusedVariables false
end Go.Proofs.Ytgcipecdaimjfaa.PFnFresher

/- The kinds of the law FnCredentials's arguments, opened. No condition. -/
import Derived.Test.YtgcipecdaimjfaaOp
import Derived.KernelRfl
import Derived.Test.YtgcipecdaimjfaaPFnCredentialsx0
namespace Go.Proofs.Ytgcipecdaimjfaa.PFnCredentials
open Go.RowKit Go.Proofs.YtgcipecdaimjfaaW.PrintWords Go.Proofs.Ytgcipecdaimjfaa.Op
set_option linter.unusedVariables false
end Go.Proofs.Ytgcipecdaimjfaa.PFnCredentials

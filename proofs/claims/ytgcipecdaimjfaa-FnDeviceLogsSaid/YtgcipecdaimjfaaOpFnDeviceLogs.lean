/- The kinds of the law FnDeviceLogs's arguments, opened. No condition. -/
import Derived.Test.YtgcipecdaimjfaaOp
import Derived.KernelRfl
import Derived.Test.YtgcipecdaimjfaaPFnDeviceLogsx0
namespace Go.Proofs.Ytgcipecdaimjfaa.PFnDeviceLogs
open Go.RowKit Go.Proofs.YtgcipecdaimjfaaW.PrintWords Go.Proofs.Ytgcipecdaimjfaa.Op
set_option linter.unusedVariables false
end Go.Proofs.Ytgcipecdaimjfaa.PFnDeviceLogs

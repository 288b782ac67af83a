/- The kinds of the law FnRemoved's arguments, opened. No condition. -/
import Derived.Test.YtpgjecknkmmnhaaOp
import Derived.KernelRfl
import Derived.Test.YtpgjecknkmmnhaaPFnRemovedx0
namespace Go.Proofs.Ytpgjecknkmmnhaa.PFnRemoved
open Go.RowKit Go.Proofs.YtpgjecknkmmnhaaW.PrintWords Go.Proofs.Ytpgjecknkmmnhaa.Op
set_option linter.unusedVariables false
end Go.Proofs.Ytpgjecknkmmnhaa.PFnRemoved

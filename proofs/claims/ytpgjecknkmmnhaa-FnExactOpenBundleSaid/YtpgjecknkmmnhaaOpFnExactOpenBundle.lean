/- The kinds of the law FnExactOpenBundle's arguments, opened. No condition. -/
import Derived.Test.YtpgjecknkmmnhaaOp
import Derived.KernelRfl
import Derived.Test.YtpgjecknkmmnhaaPFnExactOpenBundlex0
namespace Go.Proofs.Ytpgjecknkmmnhaa.PFnExactOpenBundle
open Go.RowKit Go.Proofs.YtpgjecknkmmnhaaW.PrintWords Go.Proofs.Ytpgjecknkmmnhaa.Op
set_option linter.unusedVariables false
end Go.Proofs.Ytpgjecknkmmnhaa.PFnExactOpenBundle

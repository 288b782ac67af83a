/- The kinds of the law FnExactDecodeBundle's arguments, opened. No condition. -/
import Derived.Test.YtoffbjjkegeccaaOp
import Derived.KernelRfl
import Derived.Test.YtoffbjjkegeccaaPFnExactDecodeBundlex0
namespace Go.Proofs.Ytoffbjjkegeccaa.PFnExactDecodeBundle
open Go.RowKit Go.Proofs.YtoffbjjkegeccaaW.PrintWords Go.Proofs.Ytoffbjjkegeccaa.Op
set_option linter.unusedVariables false
end Go.Proofs.Ytoffbjjkegeccaa.PFnExactDecodeBundle

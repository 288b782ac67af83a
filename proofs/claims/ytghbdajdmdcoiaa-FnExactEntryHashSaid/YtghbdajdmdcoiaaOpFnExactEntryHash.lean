/- The kinds of the law FnExactEntryHash's arguments, opened. No condition. -/
import Derived.Test.YtghbdajdmdcoiaaOp
import Derived.KernelRfl
import Derived.Test.YtghbdajdmdcoiaaPFnExactEntryHashx0
namespace Go.Proofs.Ytghbdajdmdcoiaa.PFnExactEntryHash
open Go.RowKit Go.Proofs.YtghbdajdmdcoiaaW.PrintWords Go.Proofs.Ytghbdajdmdcoiaa.Op
set_option linter.unusedVariables false
end Go.Proofs.Ytghbdajdmdcoiaa.PFnExactEntryHash

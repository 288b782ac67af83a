/- The kinds of the law FnExactIsFresher's arguments, opened. No condition. -/
import Derived.Test.YtghbdajdmdcoiaaOp
import Derived.KernelRfl
import Derived.Test.YtghbdajdmdcoiaaPFnExactIsFresherx0
namespace Go.Proofs.Ytghbdajdmdcoiaa.PFnExactIsFresher
open Go.RowKit Go.Proofs.YtghbdajdmdcoiaaW.PrintWords Go.Proofs.Ytghbdajdmdcoiaa.Op
set_option linter.unusedVariables false
end Go.Proofs.Ytghbdajdmdcoiaa.PFnExactIsFresher

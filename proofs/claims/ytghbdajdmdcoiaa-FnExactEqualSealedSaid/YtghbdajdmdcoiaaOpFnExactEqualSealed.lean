/- The kinds of the law FnExactEqualSealed's arguments, opened. No condition. -/
import Derived.Test.YtghbdajdmdcoiaaOp
import Derived.KernelRfl
import Derived.Test.YtghbdajdmdcoiaaPFnExactEqualSealedx0
namespace Go.Proofs.Ytghbdajdmdcoiaa.PFnExactEqualSealed
open Go.RowKit Go.Proofs.YtghbdajdmdcoiaaW.PrintWords Go.Proofs.Ytghbdajdmdcoiaa.Op
set_option linter.unusedVariables false
end Go.Proofs.Ytghbdajdmdcoiaa.PFnExactEqualSealed

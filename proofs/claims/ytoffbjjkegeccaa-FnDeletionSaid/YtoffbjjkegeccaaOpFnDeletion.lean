/- The kinds of the law FnDeletion's arguments, opened. No condition. -/
import Derived.Test.YtoffbjjkegeccaaOp
import Derived.KernelRfl
import Derived.Test.YtoffbjjkegeccaaPFnDeletionx0
namespace Go.Proofs.Ytoffbjjkegeccaa.PFnDeletion
open Go.RowKit Go.Proofs.YtoffbjjkegeccaaW.PrintWords Go.Proofs.Ytoffbjjkegeccaa.Op
set_option linter.unusedVariables false
end Go.Proofs.Ytoffbjjkegeccaa.PFnDeletion

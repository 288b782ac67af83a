/- Words of the print: those that are used here. No condition. -/
import Derived.Test.YtgcipecdaimjfaaWInv
import Derived.Test.YtgcipecdaimjfaaWFootNe
namespace Go.Proofs.YtgcipecdaimjfaaW.PrintWords
open Go.RowKit
end Go.Proofs.YtgcipecdaimjfaaW.PrintWords
namespace Go.Proofs.YtgcipecdaimjfaaW.PrintLast
section
variable {ops : Array Oper} {a : Act} {o og : Oper} {g : Nat} {t : Tmp} {u : Bool}
end
end Go.Proofs.YtgcipecdaimjfaaW.PrintLast

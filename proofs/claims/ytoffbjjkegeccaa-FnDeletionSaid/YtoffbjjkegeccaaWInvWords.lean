/- Words of the print: those that are used here. No condition. -/
import Derived.Test.YtoffbjjkegeccaaWInv
import Derived.Test.YtoffbjjkegeccaaWFootNe
namespace Go.Proofs.YtoffbjjkegeccaaW.PrintWords
open Go.RowKit
end Go.Proofs.YtoffbjjkegeccaaW.PrintWords
namespace Go.Proofs.YtoffbjjkegeccaaW.PrintLast
section
variable {ops : Array Oper} {a : Act} {o og : Oper} {g : Nat} {t : Tmp} {u : Bool}
end
end Go.Proofs.YtoffbjjkegeccaaW.PrintLast

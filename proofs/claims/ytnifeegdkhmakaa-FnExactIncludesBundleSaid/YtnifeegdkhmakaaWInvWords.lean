/- Words of the print: those that are used here. No condition. -/
import Derived.Test.YtnifeegdkhmakaaWInv
import Derived.Test.YtnifeegdkhmakaaWFootNe
namespace Go.Proofs.YtnifeegdkhmakaaW.PrintWords
open Go.RowKit
end Go.Proofs.YtnifeegdkhmakaaW.PrintWords
namespace Go.Proofs.YtnifeegdkhmakaaW.PrintLast
section
variable {ops : Array Oper} {a : Act} {o og : Oper} {g : Nat} {t : Tmp} {u : Bool}
end
end Go.Proofs.YtnifeegdkhmakaaW.PrintLast

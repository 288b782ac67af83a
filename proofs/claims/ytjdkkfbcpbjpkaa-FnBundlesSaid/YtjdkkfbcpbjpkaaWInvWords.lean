/- Words of the print: those that are used here. No condition. -/
import Derived.Test.YtjdkkfbcpbjpkaaWInv
import Derived.Test.YtjdkkfbcpbjpkaaWFootNe
namespace Go.Proofs.YtjdkkfbcpbjpkaaW.PrintWords
open Go.RowKit
end Go.Proofs.YtjdkkfbcpbjpkaaW.PrintWords
namespace Go.Proofs.YtjdkkfbcpbjpkaaW.PrintLast
section
variable {ops : Array Oper} {a : Act} {o og : Oper} {g : Nat} {t : Tmp} {u : Bool}
end
end Go.Proofs.YtjdkkfbcpbjpkaaW.PrintLast

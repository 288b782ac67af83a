/- Words of the print: those that are used here. No condition. -/
import Derived.Test.YtpgjecknkmmnhaaWInv
import Derived.Test.YtpgjecknkmmnhaaWFootNe
namespace Go.Proofs.YtpgjecknkmmnhaaW.PrintWords
open Go.RowKit
end Go.Proofs.YtpgjecknkmmnhaaW.PrintWords
namespace Go.Proofs.YtpgjecknkmmnhaaW.PrintLast
section
variable {ops : Array Oper} {a : Act} {o og : Oper} {g : Nat} {t : Tmp} {u : Bool}
end
end Go.Proofs.YtpgjecknkmmnhaaW.PrintLast

/- Words of the print: those that are used here. No condition. -/
import Derived.Test.YtpgjecknkmmnhaaWTab
namespace Go.Proofs.YtpgjecknkmmnhaaW.PrintLast
section
variable {P : Program} {ops : Array Oper} {Q : Exit → Act → World → Prop} {md : Region.Mode} {S : World → Prop} {ds : List Nat} {T : Bool × List (List Nat × List Nat)}
end
end Go.Proofs.YtpgjecknkmmnhaaW.PrintLast

import Derived.Test.YtmcegphcjphdcaaCOWInv
import Derived.Test.YtmcegphcjphdcaaCOWFootNe
namespace Go.Proofs.YtmcegphcjphdcaaW.PrintWords
open Go.RowKit
end Go.Proofs.YtmcegphcjphdcaaW.PrintWords
namespace Go.Proofs.YtmcegphcjphdcaaW.PrintLast
section
variable {ops : Array Oper} {a : Act} {o og : Oper} {g : Nat} {t : Tmp} {u : Bool}
end
end Go.Proofs.YtmcegphcjphdcaaW.PrintLast

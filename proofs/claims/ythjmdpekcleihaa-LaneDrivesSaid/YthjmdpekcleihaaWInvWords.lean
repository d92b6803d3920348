import Derived.Test.YthjmdpekcleihaaWInv
import Derived.Test.YthjmdpekcleihaaWFootNe
namespace Go.Proofs.YthjmdpekcleihaaW.PrintWords
open Go.RowKit
end Go.Proofs.YthjmdpekcleihaaW.PrintWords
namespace Go.Proofs.YthjmdpekcleihaaW.PrintLast
section
variable {ops : Array Oper} {a : Act} {o og : Oper} {g : Nat} {t : Tmp} {u : Bool}
end
end Go.Proofs.YthjmdpekcleihaaW.PrintLast


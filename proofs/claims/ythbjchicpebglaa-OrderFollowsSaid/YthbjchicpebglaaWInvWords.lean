import Derived.Test.YthbjchicpebglaaWInv
import Derived.Test.YthbjchicpebglaaWFootNe
namespace Go.Proofs.YthbjchicpebglaaW.PrintWords
open Go.RowKit
end Go.Proofs.YthbjchicpebglaaW.PrintWords
namespace Go.Proofs.YthbjchicpebglaaW.PrintLast
section
variable {ops : Array Oper} {a : Act} {o og : Oper} {g : Nat} {t : Tmp} {u : Bool}
end
end Go.Proofs.YthbjchicpebglaaW.PrintLast


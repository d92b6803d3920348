import Derived.Test.YtbdijpjlgokfkaaWInv
import Derived.Test.YtbdijpjlgokfkaaWFootNe
namespace Go.Proofs.YtbdijpjlgokfkaaW.PrintWords
open Go.RowKit
end Go.Proofs.YtbdijpjlgokfkaaW.PrintWords
namespace Go.Proofs.YtbdijpjlgokfkaaW.PrintLast
section
variable {ops : Array Oper} {a : Act} {o og : Oper} {g : Nat} {t : Tmp} {u : Bool}
end
end Go.Proofs.YtbdijpjlgokfkaaW.PrintLast


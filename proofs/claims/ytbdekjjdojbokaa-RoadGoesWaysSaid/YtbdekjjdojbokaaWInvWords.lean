import Derived.Test.YtbdekjjdojbokaaWInv
import Derived.Test.YtbdekjjdojbokaaWFootNe
namespace Go.Proofs.YtbdekjjdojbokaaW.PrintWords
open Go.RowKit
end Go.Proofs.YtbdekjjdojbokaaW.PrintWords
namespace Go.Proofs.YtbdekjjdojbokaaW.PrintLast
section
variable {ops : Array Oper} {a : Act} {o og : Oper} {g : Nat} {t : Tmp} {u : Bool}
end
end Go.Proofs.YtbdekjjdojbokaaW.PrintLast


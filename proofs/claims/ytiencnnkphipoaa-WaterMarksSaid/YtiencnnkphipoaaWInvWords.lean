import Derived.Test.YtiencnnkphipoaaWInv
import Derived.Test.YtiencnnkphipoaaWFootNe
namespace Go.Proofs.YtiencnnkphipoaaW.PrintWords
open Go.RowKit
end Go.Proofs.YtiencnnkphipoaaW.PrintWords
namespace Go.Proofs.YtiencnnkphipoaaW.PrintLast
section
variable {ops : Array Oper} {a : Act} {o og : Oper} {g : Nat} {t : Tmp} {u : Bool}
end
end Go.Proofs.YtiencnnkphipoaaW.PrintLast


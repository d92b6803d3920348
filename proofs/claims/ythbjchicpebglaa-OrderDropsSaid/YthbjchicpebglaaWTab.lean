import Derived.Test.YthbjchicpebglaaWLast
import Derived.Test.YthbjchicpebglaaWWords
namespace Go.Proofs.YthbjchicpebglaaW.PrintLast
open Go.Proofs.YthbjchicpebglaaW.PrintWords (Aside0)
section
variable {md : Region.Mode} {ops : Array Oper} {T : Bool × List (List Nat × List Nat)} {l l' li lj lk : Array Bool} {ds : List Nat} {i j k : Nat}
end
end Go.Proofs.YthbjchicpebglaaW.PrintLast


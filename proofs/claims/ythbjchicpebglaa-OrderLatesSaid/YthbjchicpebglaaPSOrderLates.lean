/- Functions of this seat as plain Lean functions, with proofs that the Go code comes to just their answers, or what stands between them and a law's statement; no conditions. (Laid by a program of this session, out of the kit's print.) -/
import Derived.Test.YthbjchicpebglaaPx11
import Derived.Test.YthbjchicpebglaaPV
namespace Go.Proofs.Ythbjchicpebglaa.P
open Go.RowKit Go.Proofs.Ythbjchicpebglaa
/-- The one pure statement of OrderLates. -/
def hinterlandlaw15_OrderLates.Pure : Prop := ∀ (l0 : List (S33)) (a1 : Int) (a2 : Int) (a3 : Int), (V.gList g33) l0 → (V.gInt .i64) a1 → (V.gInt .i64) a2 → (V.gInt .i64) a3 → ∃ k, hinterlandlaw15_OrderLates.f k l0 a1 a2 a3 = some true
end Go.Proofs.Ythbjchicpebglaa.P

/- Functions of this seat as plain Lean functions, with proofs that the Go code comes to just their answers, or what stands between them and a law's statement; no conditions. (Laid by a program of this session, out of the kit's print.) -/
import Derived.Test.YthbjchicpebglaaPx9
import Derived.Test.YthbjchicpebglaaPV
namespace Go.Proofs.Ythbjchicpebglaa.P
open Go.RowKit Go.Proofs.Ythbjchicpebglaa
/-- The one pure statement of OrderMoves. -/
def hinterlandlaw15_OrderMoves.Pure : Prop := ∀ (a0 : Int) (a1 : Int) (a2 : Bool) (a3 : Int), (V.gInt .i64) a0 → (V.gInt .i64) a1 → (V.gInt .i64) a3 → ∃ k, hinterlandlaw15_OrderMoves.f k a0 a1 a2 a3 = some true
end Go.Proofs.Ythbjchicpebglaa.P

/- Functions of this seat as plain Lean functions, with proofs that the Go code comes to just their answers, or what stands between them and a law's statement; no conditions. (Laid by a program of this session, out of the kit's print.) -/
import Derived.Test.YthbjchicpebglaaPx15
import Derived.Test.YthbjchicpebglaaPV
namespace Go.Proofs.Ythbjchicpebglaa.P
open Go.RowKit Go.Proofs.Ythbjchicpebglaa
/-- The one pure statement of OrderDrops. -/
def hinterlandlaw15_OrderDrops.Pure : Prop := ∀ (l0 : List (S33)) (a1 : Int), (V.gList g33) l0 → (V.gInt .i64) a1 → ∃ k, hinterlandlaw15_OrderDrops.f k l0 a1 = some true
end Go.Proofs.Ythbjchicpebglaa.P

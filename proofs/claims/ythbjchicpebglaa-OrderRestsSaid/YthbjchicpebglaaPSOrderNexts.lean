/- Functions of this seat as plain Lean functions, with proofs that the Go code comes to just their answers, or what stands between them and a law's statement; no conditions. (Laid by a program of this session, out of the kit's print.) -/
import Derived.Test.YthbjchicpebglaaPx7
import Derived.Test.YthbjchicpebglaaPV
namespace Go.Proofs.Ythbjchicpebglaa.P
open Go.RowKit Go.Proofs.Ythbjchicpebglaa
/-- The one pure statement of OrderNexts. -/
def hinterlandlaw15_OrderNexts.Pure : Prop := ∀ (l0 : List (S33)) (a1 : Int) (a2_0 : Int) (a2_1 : Int) (a2_2 : Int) (a2_3 : Int), (V.gList g33) l0 → (V.gInt .i64) a1 → (V.gInt .i64) a2_0 → (V.gInt .i64) a2_1 → (V.gInt .i64) a2_2 → (V.gInt .i64) a2_3 → ∃ k, hinterlandlaw15_OrderNexts.f k l0 a1 a2_0 a2_1 a2_2 a2_3 = some true
end Go.Proofs.Ythbjchicpebglaa.P

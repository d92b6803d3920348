/- Functions of this seat as plain Lean functions, with proofs that the Go code comes to just their answers, or what stands between them and a law's statement; no conditions. (Laid by a program of this session, out of the kit's print.) -/
import Derived.Test.YthbjchicpebglaaPx10
import Derived.Test.YthbjchicpebglaaPV
namespace Go.Proofs.Ythbjchicpebglaa.P
open Go.RowKit Go.Proofs.Ythbjchicpebglaa
/-- The one pure statement of OrderInserts. -/
def hinterlandlaw15_OrderInserts.Pure : Prop := ∀ (l0 : List (S33)) (a1 : Int) (a2_0 : Int) (a2_1 : Int) (a2_2 : Int) (a2_3 : Int) (a2_4 : Int) (a2_5 : Int) (a2_6 : Int) (a2_7 : Int) (a2_8 : Int), (V.gList g33) l0 → (V.gInt .i64) a1 → (V.gInt .i64) a2_0 → (V.gInt .i64) a2_1 → (V.gInt .i64) a2_2 → (V.gInt .i64) a2_3 → (V.gInt .i64) a2_4 → (V.gInt .i64) a2_5 → (V.gInt .i64) a2_6 → (V.gInt .i64) a2_7 → (V.gInt .i64) a2_8 → ∃ k, hinterlandlaw15_OrderInserts.f k l0 a1 a2_0 a2_1 a2_2 a2_3 a2_4 a2_5 a2_6 a2_7 a2_8 = some true
end Go.Proofs.Ythbjchicpebglaa.P

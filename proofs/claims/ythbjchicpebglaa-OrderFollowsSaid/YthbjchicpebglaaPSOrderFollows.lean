/- Functions of this seat as plain Lean functions, with proofs that the Go code comes to just their answers, or what stands between them and a law's statement; no conditions. (Laid by a program of this session, out of the kit's print.) -/
import Derived.Test.YthbjchicpebglaaPx12
import Derived.Test.YthbjchicpebglaaPV
namespace Go.Proofs.Ythbjchicpebglaa.P
open Go.RowKit Go.Proofs.Ythbjchicpebglaa
/-- The one pure statement of OrderFollows. -/
def hinterlandlaw15_OrderFollows.Pure : Prop := ∀ (l0 : List (S33)) (a1 : Int) (a2 : Int) (a3_0 : Int) (a3_1 : Int) (a3_2 : Int) (a3_3 : Int) (a3_4 : Int) (a3_5 : Int) (a3_6 : Int) (a3_7 : Int) (a3_8 : Int) (a4_0 : Int) (a4_1 : Int) (a4_2 : Int) (a4_3 : Int), (V.gList g33) l0 → (V.gInt .i64) a1 → (V.gInt .i64) a2 → (V.gInt .i64) a3_0 → (V.gInt .i64) a3_1 → (V.gInt .i64) a3_2 → (V.gInt .i64) a3_3 → (V.gInt .i64) a3_4 → (V.gInt .i64) a3_5 → (V.gInt .i64) a3_6 → (V.gInt .i64) a3_7 → (V.gInt .i64) a3_8 → (V.gInt .i64) a4_0 → (V.gInt .i64) a4_1 → (V.gInt .i64) a4_2 → (V.gInt .i64) a4_3 → ∃ k, hinterlandlaw15_OrderFollows.f k l0 a1 a2 a3_0 a3_1 a3_2 a3_3 a3_4 a3_5 a3_6 a3_7 a3_8 a4_0 a4_1 a4_2 a4_3 = some true
end Go.Proofs.Ythbjchicpebglaa.P

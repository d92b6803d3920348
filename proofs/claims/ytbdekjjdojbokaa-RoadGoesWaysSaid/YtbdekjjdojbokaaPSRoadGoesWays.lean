/- Functions of this seat as plain Lean functions, with proofs that the Go code comes to just their answers, or what stands between them and a law's statement; no conditions. (Laid by a program of this session, out of the kit's print.) -/
import Derived.Test.YtbdekjjdojbokaaPx6
import Derived.Test.YtbdekjjdojbokaaPV
namespace Go.Proofs.Ytbdekjjdojbokaa.P
open Go.RowKit Go.Proofs.Ytbdekjjdojbokaa
/-- The one pure statement of RoadGoesWays. -/
def hinterlandlaw04_RoadGoesWays.Pure : Prop := ∀ (a0_0 : Int) (a0_1 : Int) (l0_2 : List Int) (l0_3 : List Int) (a1 : Int) (a2 : Int) (l3 : List Int), (V.gInt .i64) a0_0 → (V.gInt .i64) a0_1 → (V.gList (V.gInt .i64)) l0_2 → (V.gList (V.gInt .i64)) l0_3 → (V.gInt .i64) a1 → (V.gInt .i64) a2 → (V.gList (V.gInt .i64)) l3 → ∃ k, hinterlandlaw04_RoadGoesWays.f k a0_0 a0_1 l0_2 l0_3 a1 a2 l3 = some true
end Go.Proofs.Ytbdekjjdojbokaa.P

/- Functions of this seat as plain Lean functions, with proofs that the Go code comes to just their answers, or what stands between them and a law's statement; no conditions. (Laid by a program of this session, out of the kit's print.) -/
import Derived.Test.YtbdekjjdojbokaaPx12
import Derived.Test.YtbdekjjdojbokaaPV
namespace Go.Proofs.Ytbdekjjdojbokaa.P
open Go.RowKit Go.Proofs.Ytbdekjjdojbokaa
/-- The one pure statement of RoadFits. -/
def hinterlandlaw04_RoadFits.Pure : Prop := ∀ (a0 : Int) (a1 : Int), (V.gInt .i64) a0 → (V.gInt .i64) a1 → ∃ k, hinterlandlaw04_RoadFits.f k a0 a1 = some true
end Go.Proofs.Ytbdekjjdojbokaa.P

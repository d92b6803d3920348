/- Functions of this seat as plain Lean functions, with proofs that the Go code comes to just their answers, or what stands between them and a law's statement; no conditions. (Laid by a program of this session, out of the kit's print.) -/
import Derived.Test.YtbdijpjlgokfkaaPx24
import Derived.Test.YtbdijpjlgokfkaaPV
namespace Go.Proofs.Ytbdijpjlgokfkaa.P
open Go.RowKit Go.Proofs.Ytbdijpjlgokfkaa
/-- The one pure statement of TownValidates. -/
def hinterlandlaw11_TownValidates.Pure : Prop := ∀ (l0 : List (S80)) (a1_0 : Int) (l1_1 : List (S68)) (l1_2 : List Int) (a1_3 : Int) (a1_4 : Int), (V.gList g80) l0 → (V.gInt .i64) a1_0 → (V.gList g68) l1_1 → (V.gList (V.gInt .i64)) l1_2 → (V.gInt .i64) a1_3 → (V.gInt .i64) a1_4 → ∃ k, hinterlandlaw11_TownValidates.f k l0 a1_0 l1_1 l1_2 a1_3 a1_4 = some true
end Go.Proofs.Ytbdijpjlgokfkaa.P

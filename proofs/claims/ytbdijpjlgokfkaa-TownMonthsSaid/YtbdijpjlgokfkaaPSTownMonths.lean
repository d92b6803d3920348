/- Functions of this seat as plain Lean functions, with proofs that the Go code comes to just their answers, or what stands between them and a law's statement; no conditions. (Laid by a program of this session, out of the kit's print.) -/
import Derived.Test.YtbdijpjlgokfkaaPx12
import Derived.Test.YtbdijpjlgokfkaaPV
namespace Go.Proofs.Ytbdijpjlgokfkaa.P
open Go.RowKit Go.Proofs.Ytbdijpjlgokfkaa
/-- The one pure statement of TownMonths. -/
def hinterlandlaw11_TownMonths.Pure : Prop := ∀ (a0_0 : Int) (l0_1 : List (S68)) (l0_2 : List Int) (a0_3 : Int) (a0_4 : Int), (V.gInt .i64) a0_0 → (V.gList g68) l0_1 → (V.gList (V.gInt .i64)) l0_2 → (V.gInt .i64) a0_3 → (V.gInt .i64) a0_4 → ∃ k, hinterlandlaw11_TownMonths.f k a0_0 l0_1 l0_2 a0_3 a0_4 = some true
end Go.Proofs.Ytbdijpjlgokfkaa.P

/- Functions of this seat as plain Lean functions, with proofs that the Go code comes to just their answers, or what stands between them and a law's statement; no conditions. (Laid by a program of this session, out of the kit's print.) -/
import Derived.Test.YtbdijpjlgokfkaaPx17
import Derived.Test.YtbdijpjlgokfkaaPV
namespace Go.Proofs.Ytbdijpjlgokfkaa.P
open Go.RowKit Go.Proofs.Ytbdijpjlgokfkaa
/-- The one pure statement of TownBribes. -/
def hinterlandlaw11_TownBribes.Pure : Prop := ∀ (a0_0 : Int) (l0_1 : List (S68)) (l0_2 : List Int) (a0_3 : Int) (a0_4 : Int) (a1 : Int) (a2_0 : Int), (V.gInt .i64) a0_0 → (V.gList g68) l0_1 → (V.gList (V.gInt .i64)) l0_2 → (V.gInt .i64) a0_3 → (V.gInt .i64) a0_4 → (V.gInt .i64) a1 → (V.gInt .u64) a2_0 → ∃ k, hinterlandlaw11_TownBribes.f k a0_0 l0_1 l0_2 a0_3 a0_4 a1 a2_0 = some true
end Go.Proofs.Ytbdijpjlgokfkaa.P

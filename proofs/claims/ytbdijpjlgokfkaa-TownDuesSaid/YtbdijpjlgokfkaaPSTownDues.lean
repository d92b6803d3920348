/- Functions of this seat as plain Lean functions, with proofs that the Go code comes to just their answers, or what stands between them and a law's statement; no conditions. (Laid by a program of this session, out of the kit's print.) -/
import Derived.Test.YtbdijpjlgokfkaaPx14
import Derived.Test.YtbdijpjlgokfkaaPV
namespace Go.Proofs.Ytbdijpjlgokfkaa.P
open Go.RowKit Go.Proofs.Ytbdijpjlgokfkaa
/-- The one pure statement of TownDues. -/
def hinterlandlaw11_TownDues.Pure : Prop := ∀ (a0 : Int) (a1 : Int), (V.gInt .i64) a0 → (V.gInt .i64) a1 → ∃ k, hinterlandlaw11_TownDues.f k a0 a1 = some true
end Go.Proofs.Ytbdijpjlgokfkaa.P

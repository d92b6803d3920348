/- Functions of this seat as plain Lean functions, with proofs that the Go code comes to just their answers, or what stands between them and a law's statement; no conditions. (Laid by a program of this session, out of the kit's print.) -/
import Derived.Test.YthbjchicpebglaaPx6
import Derived.Test.YthbjchicpebglaaPV
namespace Go.Proofs.Ythbjchicpebglaa.P
open Go.RowKit Go.Proofs.Ythbjchicpebglaa
/-- The one pure statement of OrderValidates. -/
def hinterlandlaw15_OrderValidates.Pure : Prop := ∀ (l0 : List (S33)), (V.gList g33) l0 → ∃ k, hinterlandlaw15_OrderValidates.f k l0 = some true
end Go.Proofs.Ythbjchicpebglaa.P

/- Functions of this seat as plain Lean functions, with proofs that the Go code comes to just their answers, or what stands between them and a law's statement; no conditions. (Laid by a program of this session, out of the kit's print.) -/
import Derived.Test.YtiencnnkphipoaaPx13
import Derived.Test.YtiencnnkphipoaaPV
namespace Go.Proofs.Ytiencnnkphipoaa.P
open Go.RowKit Go.Proofs.Ytiencnnkphipoaa
/-- The one pure statement of WaterMarks. -/
def hinterlandlaw06_WaterMarks.Pure : Prop := ∀ (a0_0 : Int) (a0_1 : Int) (l0_2 : List Int) (l1_0 : List Int) (l1_1 : List Int) (a2 : Int), (V.gInt .i64) a0_0 → (V.gInt .i64) a0_1 → (V.gList (V.gInt .i64)) l0_2 → (V.gList (V.gInt .i64)) l1_0 → (V.gList (V.gInt .i64)) l1_1 → (V.gInt .i64) a2 → ∃ k, hinterlandlaw06_WaterMarks.f k a0_0 a0_1 l0_2 l1_0 l1_1 a2 = some true
end Go.Proofs.Ytiencnnkphipoaa.P

/- Functions of this seat as plain Lean functions, with proofs that the Go code comes to just their answers, or what stands between them and a law's statement; no conditions. (Laid by a program of this session, out of the kit's print.) -/
import Derived.Test.YthjmdpekcleihaaPx14
import Derived.Test.YthjmdpekcleihaaPV
namespace Go.Proofs.Ythjmdpekcleihaa.P
open Go.RowKit Go.Proofs.Ythjmdpekcleihaa
/-- The one pure statement of LaneDrives. -/
def hinterlandlaw17_LaneDrives.Pure : Prop := ∀ (a0_0 : Int) (a0_1 : Int) (l0_2 : List Int) (l0_3 : List Int) (l0_4 : List Int) (l0_5 : List (S50)) (l1 : List Int) (l2 : List Int) (a3 : Int), (V.gInt .i64) a0_0 → (V.gInt .i64) a0_1 → (V.gList (V.gInt .i64)) l0_2 → (V.gList (V.gInt .i64)) l0_3 → (V.gList (V.gInt .i64)) l0_4 → (V.gList g50) l0_5 → (V.gList (V.gInt .i64)) l1 → (V.gList (V.gInt .u8)) l2 → (V.gInt .u8) a3 → ∃ k, hinterlandlaw17_LaneDrives.f k a0_0 a0_1 l0_2 l0_3 l0_4 l0_5 l1 l2 a3 = some true
end Go.Proofs.Ythjmdpekcleihaa.P

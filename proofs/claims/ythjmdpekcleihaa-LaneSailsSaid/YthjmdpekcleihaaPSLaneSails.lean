/- Functions of this seat as plain Lean functions, with proofs that the Go code comes to just their answers, or what stands between them and a law's statement; no conditions. (Laid by a program of this session, out of the kit's print.) -/
import Derived.Test.YthjmdpekcleihaaPx13
import Derived.Test.YthjmdpekcleihaaPV
namespace Go.Proofs.Ythjmdpekcleihaa.P
open Go.RowKit Go.Proofs.Ythjmdpekcleihaa
/-- The one pure statement of LaneSails. -/
def hinterlandlaw17_LaneSails.Pure : Prop := ∀ (a0_0 : Int) (a0_1 : Int) (l0_2 : List Int) (l1_0 : List Int) (l1_1 : List Int) (a2_0 : Int) (a2_1 : Int) (a2_2 : Int) (a2_3 : Int) (a2_4 : Int) (a3 : Int), (V.gInt .i64) a0_0 → (V.gInt .i64) a0_1 → (V.gList (V.gInt .i64)) l0_2 → (V.gList (V.gInt .i64)) l1_0 → (V.gList (V.gInt .i64)) l1_1 → (V.gInt .i64) a2_0 → (V.gInt .i64) a2_1 → (V.gInt .i64) a2_2 → (V.gInt .i64) a2_3 → (V.gInt .i64) a2_4 → (V.gInt .i64) a3 → ∃ k, hinterlandlaw17_LaneSails.f k a0_0 a0_1 l0_2 l1_0 l1_1 a2_0 a2_1 a2_2 a2_3 a2_4 a3 = some true
end Go.Proofs.Ythjmdpekcleihaa.P

/- Functions of this seat as plain Lean functions, with proofs that the Go code comes to just their answers, or what stands between them and a law's statement; no conditions. (Laid by a program of this session, out of the kit's print.) -/
import Derived.Test.YtbdijpjlgokfkaaPx18
import Derived.Test.YtbdijpjlgokfkaaPV
namespace Go.Proofs.Ytbdijpjlgokfkaa.P
open Go.RowKit Go.Proofs.Ytbdijpjlgokfkaa
def w11_TownYears.Pure:Prop:=∀ (l0:List (S80)) (a1_0:Int) (a1_1:Int) (l1_2:List Int) (a1_3:Int) (a1_4:Int) (l1_5:List Int) (l1_6:List Int) (l1_7:List Int) (a2_0:Int) (l2_1:List (S68)) (l2_2:List Int) (a2_3:Int) (a2_4:Int) (a3:Int) (a4_0:Int) (a5:Int),(V.gList g80) l0→(V.gInt .i64) a1_0→(V.gInt .i64) a1_1→(V.gList (V.gInt .i64)) l1_2→(V.gInt .i64) a1_3→(V.gInt .i64) a1_4→(V.gList (V.gInt .i64)) l1_5→(V.gList (V.gInt .i64)) l1_6→(V.gList (V.gInt .i64)) l1_7→(V.gInt .i64) a2_0→(V.gList g68) l2_1→(V.gList (V.gInt .i64)) l2_2→(V.gInt .i64) a2_3→(V.gInt .i64) a2_4→(V.gInt .i64) a3→(V.gInt .u64) a4_0→(V.gInt .u8) a5→∃ k,w11_TownYears.f k l0 a1_0 a1_1 l1_2 a1_3 a1_4 l1_5 l1_6 l1_7 a2_0 l2_1 l2_2 a2_3 a2_4 a3 a4_0 a5=some true
end Go.Proofs.Ytbdijpjlgokfkaa.P

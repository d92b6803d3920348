/-
  No cell of these rows narrows 'for every input' (looked for: loops, veiled, ifaces, maps, wideKeys, modest, calm, conditions, laid).
  DERIVED. THE GIVEN ROWS OF THIS SEAT. 12 by the template 'for every input the law returns true; each argument reads behind the call as it read before'; 0 by the template 'total and deterministic' (their statements: YtbdekjjdojbokaaTotals.lean).
  GIVEN WITH THE SEED: the statements are not yours to turn. If you find one false, say at which input.
  Laid BY PROGRAM, IN A SANDBOX (cutbox-rows.mjs): the forced cells as the released guide's own fill.sh prints them over the translation 93ef1751b3e45eee… (all of the seat's roots in one cut). By AI agents, Wed Nov 11 2026. No macro, syntax, notation, axiom, sorry.
-/
import Derived.Test.YtbdekjjdojbokaaChecked
import GoSem.Claim
import GoSem.ClaimJoined
import GoSem.ClaimMapViews
import Derived.JoinedTies
import Derived.KernelRfl
namespace Go.Proofs.Ytbdekjjdojbokaa
/- THE CELL 'sum', in the pinned program and in every row, IS THE sha256 OF THE DUMP (.gsa) THAT YtbdekjjdojbokaaProg.lean LOADS. Nothing in Lean hashes anything: it is a label: what it is worth is what the hold of that sum in a sandbox is worth. -/
noncomputable def Try.pinned : Pinned := { name := "ytbdekjjdojbokaa", sum := "93ef1751b3e45eee33aa41d85e973ca379db08e254de0f44c7d80179d886f2a4", checked := Try.checked }
namespace Rows
def none {H : Type} : Left H := { results := [], args := [] }

/-- 'hinterlandlaw04.RoadValidates': WHATEVER THE INPUT: true; the input reads as it did. -/
def roadValidatesSpec : ChangeSpec := { name := "roadValidates", fn := fun _ => fun
  | [d] => { results := [.lit (.bool true)], args := [d] }
  | _ => none }
def roadValidatesRow : OpenClaim := { program := "ytbdekjjdojbokaa", sum := "93ef1751b3e45eee33aa41d85e973ca379db08e254de0f44c7d80179d886f2a4", func := "hinterland/hinterlandlaw04.RoadValidates", spec := "roadValidates", unfollowed := true, recurses := true, apart := false }
def RoadValidatesSaid : Prop := roadValidatesRow.holds Try.pinned (OpenSpec.ofChange roadValidatesSpec)

/-- ITS FALSE NEIGHBOUR: 'it returns false'. Refute it at one input. -/
def roadValidatesWrong : ChangeSpec := { name := "roadValidates", fn := fun _ => fun
  | [d] => { results := [.lit (.bool false)], args := [d] }
  | _ => none }
def RoadValidatesWrongFalsely : Prop := roadValidatesRow.holds Try.pinned (OpenSpec.ofChange roadValidatesWrong)

/-- 'hinterlandlaw04.RoadJoins': WHATEVER THE INPUT: true; the input reads as it did. -/
def roadJoinsSpec : ChangeSpec := { name := "roadJoins", fn := fun _ => fun
  | [d1, d2, d3] => { results := [.lit (.bool true)], args := [d1, d2, d3] }
  | _ => none }
def roadJoinsRow : OpenClaim := { program := "ytbdekjjdojbokaa", sum := "93ef1751b3e45eee33aa41d85e973ca379db08e254de0f44c7d80179d886f2a4", func := "hinterland/hinterlandlaw04.RoadJoins", spec := "roadJoins", unfollowed := true, recurses := true, apart := false }
def RoadJoinsSaid : Prop := roadJoinsRow.holds Try.pinned (OpenSpec.ofChange roadJoinsSpec)

/-- ITS FALSE NEIGHBOUR: 'it returns false'. Refute it at one input. -/
def roadJoinsWrong : ChangeSpec := { name := "roadJoins", fn := fun _ => fun
  | [d1, d2, d3] => { results := [.lit (.bool false)], args := [d1, d2, d3] }
  | _ => none }
def RoadJoinsWrongFalsely : Prop := roadJoinsRow.holds Try.pinned (OpenSpec.ofChange roadJoinsWrong)

/-- 'hinterlandlaw04.RoadNexts': WHATEVER THE INPUT: true; the input reads as it did. -/
def roadNextsSpec : ChangeSpec := { name := "roadNexts", fn := fun _ => fun
  | [d1, d2, d3] => { results := [.lit (.bool true)], args := [d1, d2, d3] }
  | _ => none }
def roadNextsRow : OpenClaim := { program := "ytbdekjjdojbokaa", sum := "93ef1751b3e45eee33aa41d85e973ca379db08e254de0f44c7d80179d886f2a4", func := "hinterland/hinterlandlaw04.RoadNexts", spec := "roadNexts", unfollowed := true, recurses := true, apart := false }
def RoadNextsSaid : Prop := roadNextsRow.holds Try.pinned (OpenSpec.ofChange roadNextsSpec)

/-- ITS FALSE NEIGHBOUR: 'it returns false'. Refute it at one input. -/
def roadNextsWrong : ChangeSpec := { name := "roadNexts", fn := fun _ => fun
  | [d1, d2, d3] => { results := [.lit (.bool false)], args := [d1, d2, d3] }
  | _ => none }
def RoadNextsWrongFalsely : Prop := roadNextsRow.holds Try.pinned (OpenSpec.ofChange roadNextsWrong)

/-- 'hinterlandlaw04.RoadFits': WHATEVER THE INPUT: true; the input reads as it did. -/
def roadFitsSpec : ChangeSpec := { name := "roadFits", fn := fun _ => fun
  | [d1, d2] => { results := [.lit (.bool true)], args := [d1, d2] }
  | _ => none }
def roadFitsRow : OpenClaim := { program := "ytbdekjjdojbokaa", sum := "93ef1751b3e45eee33aa41d85e973ca379db08e254de0f44c7d80179d886f2a4", func := "hinterland/hinterlandlaw04.RoadFits", spec := "roadFits", unfollowed := true, recurses := true, apart := false }
def RoadFitsSaid : Prop := roadFitsRow.holds Try.pinned (OpenSpec.ofChange roadFitsSpec)

/-- ITS FALSE NEIGHBOUR: 'it returns false'. Refute it at one input. -/
def roadFitsWrong : ChangeSpec := { name := "roadFits", fn := fun _ => fun
  | [d1, d2] => { results := [.lit (.bool false)], args := [d1, d2] }
  | _ => none }
def RoadFitsWrongFalsely : Prop := roadFitsRow.holds Try.pinned (OpenSpec.ofChange roadFitsWrong)

/-- 'hinterlandlaw04.RoadTurns': WHATEVER THE INPUT: true; the input reads as it did. -/
def roadTurnsSpec : ChangeSpec := { name := "roadTurns", fn := fun _ => fun
  | [d1, d2, d3] => { results := [.lit (.bool true)], args := [d1, d2, d3] }
  | _ => none }
def roadTurnsRow : OpenClaim := { program := "ytbdekjjdojbokaa", sum := "93ef1751b3e45eee33aa41d85e973ca379db08e254de0f44c7d80179d886f2a4", func := "hinterland/hinterlandlaw04.RoadTurns", spec := "roadTurns", unfollowed := true, recurses := true, apart := false }
def RoadTurnsSaid : Prop := roadTurnsRow.holds Try.pinned (OpenSpec.ofChange roadTurnsSpec)

/-- ITS FALSE NEIGHBOUR: 'it returns false'. Refute it at one input. -/
def roadTurnsWrong : ChangeSpec := { name := "roadTurns", fn := fun _ => fun
  | [d1, d2, d3] => { results := [.lit (.bool false)], args := [d1, d2, d3] }
  | _ => none }
def RoadTurnsWrongFalsely : Prop := roadTurnsRow.holds Try.pinned (OpenSpec.ofChange roadTurnsWrong)

/-- 'hinterlandlaw04.RoadPaves': WHATEVER THE INPUT: true; the input reads as it did. -/
def roadPavesSpec : ChangeSpec := { name := "roadPaves", fn := fun _ => fun
  | [d1, d2, d3] => { results := [.lit (.bool true)], args := [d1, d2, d3] }
  | _ => none }
def roadPavesRow : OpenClaim := { program := "ytbdekjjdojbokaa", sum := "93ef1751b3e45eee33aa41d85e973ca379db08e254de0f44c7d80179d886f2a4", func := "hinterland/hinterlandlaw04.RoadPaves", spec := "roadPaves", unfollowed := true, recurses := true, apart := false }
def RoadPavesSaid : Prop := roadPavesRow.holds Try.pinned (OpenSpec.ofChange roadPavesSpec)

/-- ITS FALSE NEIGHBOUR: 'it returns false'. Refute it at one input. -/
def roadPavesWrong : ChangeSpec := { name := "roadPaves", fn := fun _ => fun
  | [d1, d2, d3] => { results := [.lit (.bool false)], args := [d1, d2, d3] }
  | _ => none }
def RoadPavesWrongFalsely : Prop := roadPavesRow.holds Try.pinned (OpenSpec.ofChange roadPavesWrong)

/-- 'hinterlandlaw04.RoadTears': WHATEVER THE INPUT: true; the input reads as it did. -/
def roadTearsSpec : ChangeSpec := { name := "roadTears", fn := fun _ => fun
  | [d1, d2, d3] => { results := [.lit (.bool true)], args := [d1, d2, d3] }
  | _ => none }
def roadTearsRow : OpenClaim := { program := "ytbdekjjdojbokaa", sum := "93ef1751b3e45eee33aa41d85e973ca379db08e254de0f44c7d80179d886f2a4", func := "hinterland/hinterlandlaw04.RoadTears", spec := "roadTears", unfollowed := true, recurses := true, apart := false }
def RoadTearsSaid : Prop := roadTearsRow.holds Try.pinned (OpenSpec.ofChange roadTearsSpec)

/-- ITS FALSE NEIGHBOUR: 'it returns false'. Refute it at one input. -/
def roadTearsWrong : ChangeSpec := { name := "roadTears", fn := fun _ => fun
  | [d1, d2, d3] => { results := [.lit (.bool false)], args := [d1, d2, d3] }
  | _ => none }
def RoadTearsWrongFalsely : Prop := roadTearsRow.holds Try.pinned (OpenSpec.ofChange roadTearsWrong)

/-- 'hinterlandlaw04.RoadGoes': WHATEVER THE INPUT: true; the input reads as it did. -/
def roadGoesSpec : ChangeSpec := { name := "roadGoes", fn := fun _ => fun
  | [d1, d2, d3, d4] => { results := [.lit (.bool true)], args := [d1, d2, d3, d4] }
  | _ => none }
def roadGoesRow : OpenClaim := { program := "ytbdekjjdojbokaa", sum := "93ef1751b3e45eee33aa41d85e973ca379db08e254de0f44c7d80179d886f2a4", func := "hinterland/hinterlandlaw04.RoadGoes", spec := "roadGoes", unfollowed := true, recurses := true, apart := false }
def RoadGoesSaid : Prop := roadGoesRow.holds Try.pinned (OpenSpec.ofChange roadGoesSpec)

/-- ITS FALSE NEIGHBOUR: 'it returns false'. Refute it at one input. -/
def roadGoesWrong : ChangeSpec := { name := "roadGoes", fn := fun _ => fun
  | [d1, d2, d3, d4] => { results := [.lit (.bool false)], args := [d1, d2, d3, d4] }
  | _ => none }
def RoadGoesWrongFalsely : Prop := roadGoesRow.holds Try.pinned (OpenSpec.ofChange roadGoesWrong)

/-- 'hinterlandlaw04.RoadPavesBack': WHATEVER THE INPUT: true; the input reads as it did. -/
def roadPavesBackSpec : ChangeSpec := { name := "roadPavesBack", fn := fun _ => fun
  | [d1, d2, d3] => { results := [.lit (.bool true)], args := [d1, d2, d3] }
  | _ => none }
def roadPavesBackRow : OpenClaim := { program := "ytbdekjjdojbokaa", sum := "93ef1751b3e45eee33aa41d85e973ca379db08e254de0f44c7d80179d886f2a4", func := "hinterland/hinterlandlaw04.RoadPavesBack", spec := "roadPavesBack", unfollowed := true, recurses := true, apart := false }
def RoadPavesBackSaid : Prop := roadPavesBackRow.holds Try.pinned (OpenSpec.ofChange roadPavesBackSpec)

/-- ITS FALSE NEIGHBOUR: 'it returns false'. Refute it at one input. -/
def roadPavesBackWrong : ChangeSpec := { name := "roadPavesBack", fn := fun _ => fun
  | [d1, d2, d3] => { results := [.lit (.bool false)], args := [d1, d2, d3] }
  | _ => none }
def RoadPavesBackWrongFalsely : Prop := roadPavesBackRow.holds Try.pinned (OpenSpec.ofChange roadPavesBackWrong)

/-- 'hinterlandlaw04.RoadParts': WHATEVER THE INPUT: true; the input reads as it did. -/
def roadPartsSpec : ChangeSpec := { name := "roadParts", fn := fun _ => fun
  | [d] => { results := [.lit (.bool true)], args := [d] }
  | _ => none }
def roadPartsRow : OpenClaim := { program := "ytbdekjjdojbokaa", sum := "93ef1751b3e45eee33aa41d85e973ca379db08e254de0f44c7d80179d886f2a4", func := "hinterland/hinterlandlaw04.RoadParts", spec := "roadParts", unfollowed := true, recurses := true, apart := false }
def RoadPartsSaid : Prop := roadPartsRow.holds Try.pinned (OpenSpec.ofChange roadPartsSpec)

/-- ITS FALSE NEIGHBOUR: 'it returns false'. Refute it at one input. -/
def roadPartsWrong : ChangeSpec := { name := "roadParts", fn := fun _ => fun
  | [d] => { results := [.lit (.bool false)], args := [d] }
  | _ => none }
def RoadPartsWrongFalsely : Prop := roadPartsRow.holds Try.pinned (OpenSpec.ofChange roadPartsWrong)

/-- 'hinterlandlaw04.RoadPartsHang': WHATEVER THE INPUT: true; the input reads as it did. -/
def roadPartsHangSpec : ChangeSpec := { name := "roadPartsHang", fn := fun _ => fun
  | [d1, d2, d3] => { results := [.lit (.bool true)], args := [d1, d2, d3] }
  | _ => none }
def roadPartsHangRow : OpenClaim := { program := "ytbdekjjdojbokaa", sum := "93ef1751b3e45eee33aa41d85e973ca379db08e254de0f44c7d80179d886f2a4", func := "hinterland/hinterlandlaw04.RoadPartsHang", spec := "roadPartsHang", unfollowed := true, recurses := true, apart := false }
def RoadPartsHangSaid : Prop := roadPartsHangRow.holds Try.pinned (OpenSpec.ofChange roadPartsHangSpec)

/-- ITS FALSE NEIGHBOUR: 'it returns false'. Refute it at one input. -/
def roadPartsHangWrong : ChangeSpec := { name := "roadPartsHang", fn := fun _ => fun
  | [d1, d2, d3] => { results := [.lit (.bool false)], args := [d1, d2, d3] }
  | _ => none }
def RoadPartsHangWrongFalsely : Prop := roadPartsHangRow.holds Try.pinned (OpenSpec.ofChange roadPartsHangWrong)

/-- 'hinterlandlaw04.RoadGoesWays': WHATEVER THE INPUT: true; the input reads as it did. -/
def roadGoesWaysSpec : ChangeSpec := { name := "roadGoesWays", fn := fun _ => fun
  | [d1, d2, d3, d4] => { results := [.lit (.bool true)], args := [d1, d2, d3, d4] }
  | _ => none }
def roadGoesWaysRow : OpenClaim := { program := "ytbdekjjdojbokaa", sum := "93ef1751b3e45eee33aa41d85e973ca379db08e254de0f44c7d80179d886f2a4", func := "hinterland/hinterlandlaw04.RoadGoesWays", spec := "roadGoesWays", unfollowed := true, recurses := true, apart := false }
def RoadGoesWaysSaid : Prop := roadGoesWaysRow.holds Try.pinned (OpenSpec.ofChange roadGoesWaysSpec)

/-- ITS FALSE NEIGHBOUR: 'it returns false'. Refute it at one input. -/
def roadGoesWaysWrong : ChangeSpec := { name := "roadGoesWays", fn := fun _ => fun
  | [d1, d2, d3, d4] => { results := [.lit (.bool false)], args := [d1, d2, d3, d4] }
  | _ => none }
def RoadGoesWaysWrongFalsely : Prop := roadGoesWaysRow.holds Try.pinned (OpenSpec.ofChange roadGoesWaysWrong)

/- THE SECOND FORM. 'bulk': how many values and letters a reading holds, each counted each time it is reached (what is shared counts as often as it is met; a slice's spare places count too). A statement '..UptoSaid' is the law's where the arguments, and the package variables that the reading takes, are together of bulk at most 1048576: NARROWER than '..Said'. Prove '..Said' where nothing that the law and all that it calls make is longer than what came in: it says more and counts as full. Else prove '..UptoSaid'. A law counts once. -/
mutual
def uptoBulk {H : Type} : DataW H → Nat
  | .lit (.string bytes) => bytes.length + 1
  | .lit _ => 1
  | .nil => 1
  | .ptr d => uptoBulk d + 1
  | .slice elems spare => uptoBulkAll elems + uptoBulkAll spare + 1
  | .agg parts => uptoBulkAll parts + 1
  | .iface _ d => uptoBulk d + 1
  | .map entries => uptoBulkEntries entries + 1
  | .held _ => 1
def uptoBulkAll {H : Type} : List (DataW H) → Nat
  | [] => 0
  | d :: r => uptoBulk d + uptoBulkAll r
def uptoBulkEntries {H : Type} : List (Lit × DataW H) → Nat
  | [] => 0
  | x :: r => uptoBulkEntry x + uptoBulkEntries r
def uptoBulkEntry {H : Type} : Lit × DataW H → Nat
  | (.string bytes, d) => bytes.length + uptoBulk d + 1
  | (_, d) => uptoBulk d + 1
 end
def uptoSmall : (H : Type) → List (DataW H) → Bool := fun _ ds => decide (uptoBulkAll ds ≤ 1048576)
def OpenSpec.upto (s : _root_.Go.ChangeSpec) : _root_.Go.OpenSpec := { _root_.Go.OpenSpec.ofChange s with cond := some uptoSmall }

/-- 'hinterlandlaw04.RoadValidates', WHERE WHAT IT READS IS OF BULK AT MOST 1048576: true; the input reads as it did. -/
def roadValidatesUptoRow : OpenClaim := { program := "ytbdekjjdojbokaa", sum := "93ef1751b3e45eee33aa41d85e973ca379db08e254de0f44c7d80179d886f2a4", func := "hinterland/hinterlandlaw04.RoadValidates", spec := "roadValidates", unfollowed := true, recurses := true, apart := false, narrowed := true }
def RoadValidatesUptoSaid : Prop := roadValidatesUptoRow.holds Try.pinned (OpenSpec.upto roadValidatesSpec)

/-- 'hinterlandlaw04.RoadJoins', WHERE WHAT IT READS IS OF BULK AT MOST 1048576: true; the input reads as it did. -/
def roadJoinsUptoRow : OpenClaim := { program := "ytbdekjjdojbokaa", sum := "93ef1751b3e45eee33aa41d85e973ca379db08e254de0f44c7d80179d886f2a4", func := "hinterland/hinterlandlaw04.RoadJoins", spec := "roadJoins", unfollowed := true, recurses := true, apart := false, narrowed := true }
def RoadJoinsUptoSaid : Prop := roadJoinsUptoRow.holds Try.pinned (OpenSpec.upto roadJoinsSpec)

/-- 'hinterlandlaw04.RoadNexts', WHERE WHAT IT READS IS OF BULK AT MOST 1048576: true; the input reads as it did. -/
def roadNextsUptoRow : OpenClaim := { program := "ytbdekjjdojbokaa", sum := "93ef1751b3e45eee33aa41d85e973ca379db08e254de0f44c7d80179d886f2a4", func := "hinterland/hinterlandlaw04.RoadNexts", spec := "roadNexts", unfollowed := true, recurses := true, apart := false, narrowed := true }
def RoadNextsUptoSaid : Prop := roadNextsUptoRow.holds Try.pinned (OpenSpec.upto roadNextsSpec)

/-- 'hinterlandlaw04.RoadFits', WHERE WHAT IT READS IS OF BULK AT MOST 1048576: true; the input reads as it did. -/
def roadFitsUptoRow : OpenClaim := { program := "ytbdekjjdojbokaa", sum := "93ef1751b3e45eee33aa41d85e973ca379db08e254de0f44c7d80179d886f2a4", func := "hinterland/hinterlandlaw04.RoadFits", spec := "roadFits", unfollowed := true, recurses := true, apart := false, narrowed := true }
def RoadFitsUptoSaid : Prop := roadFitsUptoRow.holds Try.pinned (OpenSpec.upto roadFitsSpec)

/-- 'hinterlandlaw04.RoadTurns', WHERE WHAT IT READS IS OF BULK AT MOST 1048576: true; the input reads as it did. -/
def roadTurnsUptoRow : OpenClaim := { program := "ytbdekjjdojbokaa", sum := "93ef1751b3e45eee33aa41d85e973ca379db08e254de0f44c7d80179d886f2a4", func := "hinterland/hinterlandlaw04.RoadTurns", spec := "roadTurns", unfollowed := true, recurses := true, apart := false, narrowed := true }
def RoadTurnsUptoSaid : Prop := roadTurnsUptoRow.holds Try.pinned (OpenSpec.upto roadTurnsSpec)

/-- 'hinterlandlaw04.RoadPaves', WHERE WHAT IT READS IS OF BULK AT MOST 1048576: true; the input reads as it did. -/
def roadPavesUptoRow : OpenClaim := { program := "ytbdekjjdojbokaa", sum := "93ef1751b3e45eee33aa41d85e973ca379db08e254de0f44c7d80179d886f2a4", func := "hinterland/hinterlandlaw04.RoadPaves", spec := "roadPaves", unfollowed := true, recurses := true, apart := false, narrowed := true }
def RoadPavesUptoSaid : Prop := roadPavesUptoRow.holds Try.pinned (OpenSpec.upto roadPavesSpec)

/-- 'hinterlandlaw04.RoadTears', WHERE WHAT IT READS IS OF BULK AT MOST 1048576: true; the input reads as it did. -/
def roadTearsUptoRow : OpenClaim := { program := "ytbdekjjdojbokaa", sum := "93ef1751b3e45eee33aa41d85e973ca379db08e254de0f44c7d80179d886f2a4", func := "hinterland/hinterlandlaw04.RoadTears", spec := "roadTears", unfollowed := true, recurses := true, apart := false, narrowed := true }
def RoadTearsUptoSaid : Prop := roadTearsUptoRow.holds Try.pinned (OpenSpec.upto roadTearsSpec)

/-- 'hinterlandlaw04.RoadGoes', WHERE WHAT IT READS IS OF BULK AT MOST 1048576: true; the input reads as it did. -/
def roadGoesUptoRow : OpenClaim := { program := "ytbdekjjdojbokaa", sum := "93ef1751b3e45eee33aa41d85e973ca379db08e254de0f44c7d80179d886f2a4", func := "hinterland/hinterlandlaw04.RoadGoes", spec := "roadGoes", unfollowed := true, recurses := true, apart := false, narrowed := true }
def RoadGoesUptoSaid : Prop := roadGoesUptoRow.holds Try.pinned (OpenSpec.upto roadGoesSpec)

/-- 'hinterlandlaw04.RoadPavesBack', WHERE WHAT IT READS IS OF BULK AT MOST 1048576: true; the input reads as it did. -/
def roadPavesBackUptoRow : OpenClaim := { program := "ytbdekjjdojbokaa", sum := "93ef1751b3e45eee33aa41d85e973ca379db08e254de0f44c7d80179d886f2a4", func := "hinterland/hinterlandlaw04.RoadPavesBack", spec := "roadPavesBack", unfollowed := true, recurses := true, apart := false, narrowed := true }
def RoadPavesBackUptoSaid : Prop := roadPavesBackUptoRow.holds Try.pinned (OpenSpec.upto roadPavesBackSpec)

/-- 'hinterlandlaw04.RoadParts', WHERE WHAT IT READS IS OF BULK AT MOST 1048576: true; the input reads as it did. -/
def roadPartsUptoRow : OpenClaim := { program := "ytbdekjjdojbokaa", sum := "93ef1751b3e45eee33aa41d85e973ca379db08e254de0f44c7d80179d886f2a4", func := "hinterland/hinterlandlaw04.RoadParts", spec := "roadParts", unfollowed := true, recurses := true, apart := false, narrowed := true }
def RoadPartsUptoSaid : Prop := roadPartsUptoRow.holds Try.pinned (OpenSpec.upto roadPartsSpec)

/-- 'hinterlandlaw04.RoadPartsHang', WHERE WHAT IT READS IS OF BULK AT MOST 1048576: true; the input reads as it did. -/
def roadPartsHangUptoRow : OpenClaim := { program := "ytbdekjjdojbokaa", sum := "93ef1751b3e45eee33aa41d85e973ca379db08e254de0f44c7d80179d886f2a4", func := "hinterland/hinterlandlaw04.RoadPartsHang", spec := "roadPartsHang", unfollowed := true, recurses := true, apart := false, narrowed := true }
def RoadPartsHangUptoSaid : Prop := roadPartsHangUptoRow.holds Try.pinned (OpenSpec.upto roadPartsHangSpec)

/-- 'hinterlandlaw04.RoadGoesWays', WHERE WHAT IT READS IS OF BULK AT MOST 1048576: true; the input reads as it did. -/
def roadGoesWaysUptoRow : OpenClaim := { program := "ytbdekjjdojbokaa", sum := "93ef1751b3e45eee33aa41d85e973ca379db08e254de0f44c7d80179d886f2a4", func := "hinterland/hinterlandlaw04.RoadGoesWays", spec := "roadGoesWays", unfollowed := true, recurses := true, apart := false, narrowed := true }
def RoadGoesWaysUptoSaid : Prop := roadGoesWaysUptoRow.holds Try.pinned (OpenSpec.upto roadGoesWaysSpec)

end Rows
end Go.Proofs.Ytbdekjjdojbokaa

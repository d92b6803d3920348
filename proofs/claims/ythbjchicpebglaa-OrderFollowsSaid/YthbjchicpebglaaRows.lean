/-
  No cell of these rows narrows 'for every input' (looked for: loops, veiled, ifaces, maps, wideKeys, modest, calm, conditions, laid).
  DERIVED. THE GIVEN ROWS OF THIS SEAT. 13 by the template 'for every input the law returns true; each argument reads behind the call as it read before'; 0 by the template 'total and deterministic' (their statements: YthbjchicpebglaaTotals.lean).
  GIVEN WITH THE SEED: the statements are not yours to turn. If you find one false, say at which input.
  Laid BY PROGRAM, IN A SANDBOX (cutbox-rows.mjs): the forced cells as the released guide's own fill.sh prints them over the translation 88c2d83e74e22bf9… (all of the seat's roots in one cut). By AI agents, Wed Nov 11 2026. No macro, syntax, notation, axiom, sorry.
-/
import Derived.Test.YthbjchicpebglaaChecked
import GoSem.Claim
import GoSem.ClaimJoined
import GoSem.ClaimMapViews
import Derived.JoinedTies
import Derived.KernelRfl
namespace Go.Proofs.Ythbjchicpebglaa
/- THE CELL 'sum', in the pinned program and in every row, IS THE sha256 OF THE DUMP (.gsa) THAT YthbjchicpebglaaProg.lean LOADS. Nothing in Lean hashes anything: it is a label: what it is worth is what the hold of that sum in a sandbox is worth. -/
noncomputable def Try.pinned : Pinned := { name := "ythbjchicpebglaa", sum := "88c2d83e74e22bf963123a66a2b9e7355d900b7495d6ea41e1097ee6eaaa2113", checked := Try.checked }
namespace Rows
def none {H : Type} : Left H := { results := [], args := [] }

/-- 'hinterlandlaw15.OrderValidates': WHATEVER THE INPUT: true; the input reads as it did. -/
def orderValidatesSpec : ChangeSpec := { name := "orderValidates", fn := fun _ => fun
  | [d] => { results := [.lit (.bool true)], args := [d] }
  | _ => none }
def orderValidatesRow : OpenClaim := { program := "ythbjchicpebglaa", sum := "88c2d83e74e22bf963123a66a2b9e7355d900b7495d6ea41e1097ee6eaaa2113", func := "hinterland/hinterlandlaw15.OrderValidates", spec := "orderValidates", unfollowed := true, recurses := true, apart := false }
def OrderValidatesSaid : Prop := orderValidatesRow.holds Try.pinned (OpenSpec.ofChange orderValidatesSpec)

/-- ITS FALSE NEIGHBOUR: 'it returns false'. Refute it at one input. -/
def orderValidatesWrong : ChangeSpec := { name := "orderValidates", fn := fun _ => fun
  | [d] => { results := [.lit (.bool false)], args := [d] }
  | _ => none }
def OrderValidatesWrongFalsely : Prop := orderValidatesRow.holds Try.pinned (OpenSpec.ofChange orderValidatesWrong)

/-- 'hinterlandlaw15.OrderNexts': WHATEVER THE INPUT: true; the input reads as it did. -/
def orderNextsSpec : ChangeSpec := { name := "orderNexts", fn := fun _ => fun
  | [d1, d2, d3] => { results := [.lit (.bool true)], args := [d1, d2, d3] }
  | _ => none }
def orderNextsRow : OpenClaim := { program := "ythbjchicpebglaa", sum := "88c2d83e74e22bf963123a66a2b9e7355d900b7495d6ea41e1097ee6eaaa2113", func := "hinterland/hinterlandlaw15.OrderNexts", spec := "orderNexts", unfollowed := true, recurses := true, apart := false }
def OrderNextsSaid : Prop := orderNextsRow.holds Try.pinned (OpenSpec.ofChange orderNextsSpec)

/-- ITS FALSE NEIGHBOUR: 'it returns false'. Refute it at one input. -/
def orderNextsWrong : ChangeSpec := { name := "orderNexts", fn := fun _ => fun
  | [d1, d2, d3] => { results := [.lit (.bool false)], args := [d1, d2, d3] }
  | _ => none }
def OrderNextsWrongFalsely : Prop := orderNextsRow.holds Try.pinned (OpenSpec.ofChange orderNextsWrong)

/-- 'hinterlandlaw15.OrderRests': WHATEVER THE INPUT: true; the input reads as it did. -/
def orderRestsSpec : ChangeSpec := { name := "orderRests", fn := fun _ => fun
  | [d1, d2, d3] => { results := [.lit (.bool true)], args := [d1, d2, d3] }
  | _ => none }
def orderRestsRow : OpenClaim := { program := "ythbjchicpebglaa", sum := "88c2d83e74e22bf963123a66a2b9e7355d900b7495d6ea41e1097ee6eaaa2113", func := "hinterland/hinterlandlaw15.OrderRests", spec := "orderRests", unfollowed := true, recurses := true, apart := false }
def OrderRestsSaid : Prop := orderRestsRow.holds Try.pinned (OpenSpec.ofChange orderRestsSpec)

/-- ITS FALSE NEIGHBOUR: 'it returns false'. Refute it at one input. -/
def orderRestsWrong : ChangeSpec := { name := "orderRests", fn := fun _ => fun
  | [d1, d2, d3] => { results := [.lit (.bool false)], args := [d1, d2, d3] }
  | _ => none }
def OrderRestsWrongFalsely : Prop := orderRestsRow.holds Try.pinned (OpenSpec.ofChange orderRestsWrong)

/-- 'hinterlandlaw15.OrderAfters': WHATEVER THE INPUT: true; the input reads as it did. -/
def orderAftersSpec : ChangeSpec := { name := "orderAfters", fn := fun _ => fun
  | [d1, d2, d3] => { results := [.lit (.bool true)], args := [d1, d2, d3] }
  | _ => none }
def orderAftersRow : OpenClaim := { program := "ythbjchicpebglaa", sum := "88c2d83e74e22bf963123a66a2b9e7355d900b7495d6ea41e1097ee6eaaa2113", func := "hinterland/hinterlandlaw15.OrderAfters", spec := "orderAfters", unfollowed := true, recurses := true, apart := false }
def OrderAftersSaid : Prop := orderAftersRow.holds Try.pinned (OpenSpec.ofChange orderAftersSpec)

/-- ITS FALSE NEIGHBOUR: 'it returns false'. Refute it at one input. -/
def orderAftersWrong : ChangeSpec := { name := "orderAfters", fn := fun _ => fun
  | [d1, d2, d3] => { results := [.lit (.bool false)], args := [d1, d2, d3] }
  | _ => none }
def OrderAftersWrongFalsely : Prop := orderAftersRow.holds Try.pinned (OpenSpec.ofChange orderAftersWrong)

/-- 'hinterlandlaw15.OrderMoves': WHATEVER THE INPUT: true; the input reads as it did. -/
def orderMovesSpec : ChangeSpec := { name := "orderMoves", fn := fun _ => fun
  | [d1, d2, d3, d4] => { results := [.lit (.bool true)], args := [d1, d2, d3, d4] }
  | _ => none }
def orderMovesRow : OpenClaim := { program := "ythbjchicpebglaa", sum := "88c2d83e74e22bf963123a66a2b9e7355d900b7495d6ea41e1097ee6eaaa2113", func := "hinterland/hinterlandlaw15.OrderMoves", spec := "orderMoves", unfollowed := true, recurses := true, apart := false }
def OrderMovesSaid : Prop := orderMovesRow.holds Try.pinned (OpenSpec.ofChange orderMovesSpec)

/-- ITS FALSE NEIGHBOUR: 'it returns false'. Refute it at one input. -/
def orderMovesWrong : ChangeSpec := { name := "orderMoves", fn := fun _ => fun
  | [d1, d2, d3, d4] => { results := [.lit (.bool false)], args := [d1, d2, d3, d4] }
  | _ => none }
def OrderMovesWrongFalsely : Prop := orderMovesRow.holds Try.pinned (OpenSpec.ofChange orderMovesWrong)

/-- 'hinterlandlaw15.OrderTimes': WHATEVER THE INPUT: true; the input reads as it did. -/
def orderTimesSpec : ChangeSpec := { name := "orderTimes", fn := fun _ => fun
  | [d1, d2] => { results := [.lit (.bool true)], args := [d1, d2] }
  | _ => none }
def orderTimesRow : OpenClaim := { program := "ythbjchicpebglaa", sum := "88c2d83e74e22bf963123a66a2b9e7355d900b7495d6ea41e1097ee6eaaa2113", func := "hinterland/hinterlandlaw15.OrderTimes", spec := "orderTimes", unfollowed := true, recurses := true, apart := false }
def OrderTimesSaid : Prop := orderTimesRow.holds Try.pinned (OpenSpec.ofChange orderTimesSpec)

/-- ITS FALSE NEIGHBOUR: 'it returns false'. Refute it at one input. -/
def orderTimesWrong : ChangeSpec := { name := "orderTimes", fn := fun _ => fun
  | [d1, d2] => { results := [.lit (.bool false)], args := [d1, d2] }
  | _ => none }
def OrderTimesWrongFalsely : Prop := orderTimesRow.holds Try.pinned (OpenSpec.ofChange orderTimesWrong)

/-- 'hinterlandlaw15.OrderRemoves': WHATEVER THE INPUT: true; the input reads as it did. -/
def orderRemovesSpec : ChangeSpec := { name := "orderRemoves", fn := fun _ => fun
  | [d1, d2] => { results := [.lit (.bool true)], args := [d1, d2] }
  | _ => none }
def orderRemovesRow : OpenClaim := { program := "ythbjchicpebglaa", sum := "88c2d83e74e22bf963123a66a2b9e7355d900b7495d6ea41e1097ee6eaaa2113", func := "hinterland/hinterlandlaw15.OrderRemoves", spec := "orderRemoves", unfollowed := true, recurses := true, apart := false }
def OrderRemovesSaid : Prop := orderRemovesRow.holds Try.pinned (OpenSpec.ofChange orderRemovesSpec)

/-- ITS FALSE NEIGHBOUR: 'it returns false'. Refute it at one input. -/
def orderRemovesWrong : ChangeSpec := { name := "orderRemoves", fn := fun _ => fun
  | [d1, d2] => { results := [.lit (.bool false)], args := [d1, d2] }
  | _ => none }
def OrderRemovesWrongFalsely : Prop := orderRemovesRow.holds Try.pinned (OpenSpec.ofChange orderRemovesWrong)

/-- 'hinterlandlaw15.OrderLates': WHATEVER THE INPUT: true; the input reads as it did. -/
def orderLatesSpec : ChangeSpec := { name := "orderLates", fn := fun _ => fun
  | [d1, d2, d3, d4] => { results := [.lit (.bool true)], args := [d1, d2, d3, d4] }
  | _ => none }
def orderLatesRow : OpenClaim := { program := "ythbjchicpebglaa", sum := "88c2d83e74e22bf963123a66a2b9e7355d900b7495d6ea41e1097ee6eaaa2113", func := "hinterland/hinterlandlaw15.OrderLates", spec := "orderLates", unfollowed := true, recurses := true, apart := false }
def OrderLatesSaid : Prop := orderLatesRow.holds Try.pinned (OpenSpec.ofChange orderLatesSpec)

/-- ITS FALSE NEIGHBOUR: 'it returns false'. Refute it at one input. -/
def orderLatesWrong : ChangeSpec := { name := "orderLates", fn := fun _ => fun
  | [d1, d2, d3, d4] => { results := [.lit (.bool false)], args := [d1, d2, d3, d4] }
  | _ => none }
def OrderLatesWrongFalsely : Prop := orderLatesRow.holds Try.pinned (OpenSpec.ofChange orderLatesWrong)

/-- 'hinterlandlaw15.OrderDrops': WHATEVER THE INPUT: true; the input reads as it did. -/
def orderDropsSpec : ChangeSpec := { name := "orderDrops", fn := fun _ => fun
  | [d1, d2] => { results := [.lit (.bool true)], args := [d1, d2] }
  | _ => none }
def orderDropsRow : OpenClaim := { program := "ythbjchicpebglaa", sum := "88c2d83e74e22bf963123a66a2b9e7355d900b7495d6ea41e1097ee6eaaa2113", func := "hinterland/hinterlandlaw15.OrderDrops", spec := "orderDrops", unfollowed := true, recurses := true, apart := false }
def OrderDropsSaid : Prop := orderDropsRow.holds Try.pinned (OpenSpec.ofChange orderDropsSpec)

/-- ITS FALSE NEIGHBOUR: 'it returns false'. Refute it at one input. -/
def orderDropsWrong : ChangeSpec := { name := "orderDrops", fn := fun _ => fun
  | [d1, d2] => { results := [.lit (.bool false)], args := [d1, d2] }
  | _ => none }
def OrderDropsWrongFalsely : Prop := orderDropsRow.holds Try.pinned (OpenSpec.ofChange orderDropsWrong)

/-- 'hinterlandlaw15.OrderRounds': WHATEVER THE INPUT: true; the input reads as it did. -/
def orderRoundsSpec : ChangeSpec := { name := "orderRounds", fn := fun _ => fun
  | [d1, d2, d3, d4, d5] => { results := [.lit (.bool true)], args := [d1, d2, d3, d4, d5] }
  | _ => none }
def orderRoundsRow : OpenClaim := { program := "ythbjchicpebglaa", sum := "88c2d83e74e22bf963123a66a2b9e7355d900b7495d6ea41e1097ee6eaaa2113", func := "hinterland/hinterlandlaw15.OrderRounds", spec := "orderRounds", unfollowed := true, recurses := true, apart := false }
def OrderRoundsSaid : Prop := orderRoundsRow.holds Try.pinned (OpenSpec.ofChange orderRoundsSpec)

/-- ITS FALSE NEIGHBOUR: 'it returns false'. Refute it at one input. -/
def orderRoundsWrong : ChangeSpec := { name := "orderRounds", fn := fun _ => fun
  | [d1, d2, d3, d4, d5] => { results := [.lit (.bool false)], args := [d1, d2, d3, d4, d5] }
  | _ => none }
def OrderRoundsWrongFalsely : Prop := orderRoundsRow.holds Try.pinned (OpenSpec.ofChange orderRoundsWrong)

/-- 'hinterlandlaw15.OrderInserts': WHATEVER THE INPUT: true; the input reads as it did. -/
def orderInsertsSpec : ChangeSpec := { name := "orderInserts", fn := fun _ => fun
  | [d1, d2, d3] => { results := [.lit (.bool true)], args := [d1, d2, d3] }
  | _ => none }
def orderInsertsRow : OpenClaim := { program := "ythbjchicpebglaa", sum := "88c2d83e74e22bf963123a66a2b9e7355d900b7495d6ea41e1097ee6eaaa2113", func := "hinterland/hinterlandlaw15.OrderInserts", spec := "orderInserts", inPlace := ["slices.overlaps[hinterland/api.Order]"], unfollowed := true, recurses := true, apart := false }
def OrderInsertsSaid : Prop := orderInsertsRow.holds Try.pinned (OpenSpec.ofChange orderInsertsSpec)

/-- ITS FALSE NEIGHBOUR: 'it returns false'. Refute it at one input. -/
def orderInsertsWrong : ChangeSpec := { name := "orderInserts", fn := fun _ => fun
  | [d1, d2, d3] => { results := [.lit (.bool false)], args := [d1, d2, d3] }
  | _ => none }
def OrderInsertsWrongFalsely : Prop := orderInsertsRow.holds Try.pinned (OpenSpec.ofChange orderInsertsWrong)

/-- 'hinterlandlaw15.OrderFollows': WHATEVER THE INPUT: true; the input reads as it did. -/
def orderFollowsSpec : ChangeSpec := { name := "orderFollows", fn := fun _ => fun
  | [d1, d2, d3, d4, d5] => { results := [.lit (.bool true)], args := [d1, d2, d3, d4, d5] }
  | _ => none }
def orderFollowsRow : OpenClaim := { program := "ythbjchicpebglaa", sum := "88c2d83e74e22bf963123a66a2b9e7355d900b7495d6ea41e1097ee6eaaa2113", func := "hinterland/hinterlandlaw15.OrderFollows", spec := "orderFollows", inPlace := ["slices.overlaps[hinterland/api.Order]"], unfollowed := true, recurses := true, apart := false }
def OrderFollowsSaid : Prop := orderFollowsRow.holds Try.pinned (OpenSpec.ofChange orderFollowsSpec)

/-- ITS FALSE NEIGHBOUR: 'it returns false'. Refute it at one input. -/
def orderFollowsWrong : ChangeSpec := { name := "orderFollows", fn := fun _ => fun
  | [d1, d2, d3, d4, d5] => { results := [.lit (.bool false)], args := [d1, d2, d3, d4, d5] }
  | _ => none }
def OrderFollowsWrongFalsely : Prop := orderFollowsRow.holds Try.pinned (OpenSpec.ofChange orderFollowsWrong)

/-- 'hinterlandlaw15.OrderUndone': WHATEVER THE INPUT: true; the input reads as it did. -/
def orderUndoneSpec : ChangeSpec := { name := "orderUndone", fn := fun _ => fun
  | [d1, d2, d3] => { results := [.lit (.bool true)], args := [d1, d2, d3] }
  | _ => none }
def orderUndoneRow : OpenClaim := { program := "ythbjchicpebglaa", sum := "88c2d83e74e22bf963123a66a2b9e7355d900b7495d6ea41e1097ee6eaaa2113", func := "hinterland/hinterlandlaw15.OrderUndone", spec := "orderUndone", inPlace := ["slices.overlaps[hinterland/api.Order]"], unfollowed := true, recurses := true, apart := false }
def OrderUndoneSaid : Prop := orderUndoneRow.holds Try.pinned (OpenSpec.ofChange orderUndoneSpec)

/-- ITS FALSE NEIGHBOUR: 'it returns false'. Refute it at one input. -/
def orderUndoneWrong : ChangeSpec := { name := "orderUndone", fn := fun _ => fun
  | [d1, d2, d3] => { results := [.lit (.bool false)], args := [d1, d2, d3] }
  | _ => none }
def OrderUndoneWrongFalsely : Prop := orderUndoneRow.holds Try.pinned (OpenSpec.ofChange orderUndoneWrong)

/- THE SECOND FORM. 'bulk': how many values and letters a reading holds, each counted each time it is reached (what is shared counts as often as it is met; a slice's spare places count too). A statement '..UptoSaid' is the law's where the arguments, and the package variables that the reading takes, are together of bulk at most 1048576: NARROWER than '..Said'. Prove '..Said' where nothing that the law and all that it calls make is longer than what came in: it says more and counts as full. Else prove '..UptoSaid'. A law counts once. -/
mutual
def uptoBulk {H : Type} : DataW H → Nat
  | .lit (.string bytes) => bytes.length + 1
  | .lit _ => 1
  | .nil => 1
  | .ptr d => uptoBulk d + 1
  | .slice elems spare => uptoBulkAll elems + uptoBulkAll spare + 1
  | .agg parts => uptoBulkAll parts + 1
  | .iface _ d => uptoBulk d + 1
  | .map entries => uptoBulkEntries entries + 1
  | .held _ => 1
def uptoBulkAll {H : Type} : List (DataW H) → Nat
  | [] => 0
  | d :: r => uptoBulk d + uptoBulkAll r
def uptoBulkEntries {H : Type} : List (Lit × DataW H) → Nat
  | [] => 0
  | x :: r => uptoBulkEntry x + uptoBulkEntries r
def uptoBulkEntry {H : Type} : Lit × DataW H → Nat
  | (.string bytes, d) => bytes.length + uptoBulk d + 1
  | (_, d) => uptoBulk d + 1
 end
def uptoSmall : (H : Type) → List (DataW H) → Bool := fun _ ds => decide (uptoBulkAll ds ≤ 1048576)
def OpenSpec.upto (s : _root_.Go.ChangeSpec) : _root_.Go.OpenSpec := { _root_.Go.OpenSpec.ofChange s with cond := some uptoSmall }

/-- 'hinterlandlaw15.OrderValidates', WHERE WHAT IT READS IS OF BULK AT MOST 1048576: true; the input reads as it did. -/
def orderValidatesUptoRow : OpenClaim := { program := "ythbjchicpebglaa", sum := "88c2d83e74e22bf963123a66a2b9e7355d900b7495d6ea41e1097ee6eaaa2113", func := "hinterland/hinterlandlaw15.OrderValidates", spec := "orderValidates", unfollowed := true, recurses := true, apart := false, narrowed := true }
def OrderValidatesUptoSaid : Prop := orderValidatesUptoRow.holds Try.pinned (OpenSpec.upto orderValidatesSpec)

/-- 'hinterlandlaw15.OrderNexts', WHERE WHAT IT READS IS OF BULK AT MOST 1048576: true; the input reads as it did. -/
def orderNextsUptoRow : OpenClaim := { program := "ythbjchicpebglaa", sum := "88c2d83e74e22bf963123a66a2b9e7355d900b7495d6ea41e1097ee6eaaa2113", func := "hinterland/hinterlandlaw15.OrderNexts", spec := "orderNexts", unfollowed := true, recurses := true, apart := false, narrowed := true }
def OrderNextsUptoSaid : Prop := orderNextsUptoRow.holds Try.pinned (OpenSpec.upto orderNextsSpec)

/-- 'hinterlandlaw15.OrderRests', WHERE WHAT IT READS IS OF BULK AT MOST 1048576: true; the input reads as it did. -/
def orderRestsUptoRow : OpenClaim := { program := "ythbjchicpebglaa", sum := "88c2d83e74e22bf963123a66a2b9e7355d900b7495d6ea41e1097ee6eaaa2113", func := "hinterland/hinterlandlaw15.OrderRests", spec := "orderRests", unfollowed := true, recurses := true, apart := false, narrowed := true }
def OrderRestsUptoSaid : Prop := orderRestsUptoRow.holds Try.pinned (OpenSpec.upto orderRestsSpec)

/-- 'hinterlandlaw15.OrderAfters', WHERE WHAT IT READS IS OF BULK AT MOST 1048576: true; the input reads as it did. -/
def orderAftersUptoRow : OpenClaim := { program := "ythbjchicpebglaa", sum := "88c2d83e74e22bf963123a66a2b9e7355d900b7495d6ea41e1097ee6eaaa2113", func := "hinterland/hinterlandlaw15.OrderAfters", spec := "orderAfters", unfollowed := true, recurses := true, apart := false, narrowed := true }
def OrderAftersUptoSaid : Prop := orderAftersUptoRow.holds Try.pinned (OpenSpec.upto orderAftersSpec)

/-- 'hinterlandlaw15.OrderMoves', WHERE WHAT IT READS IS OF BULK AT MOST 1048576: true; the input reads as it did. -/
def orderMovesUptoRow : OpenClaim := { program := "ythbjchicpebglaa", sum := "88c2d83e74e22bf963123a66a2b9e7355d900b7495d6ea41e1097ee6eaaa2113", func := "hinterland/hinterlandlaw15.OrderMoves", spec := "orderMoves", unfollowed := true, recurses := true, apart := false, narrowed := true }
def OrderMovesUptoSaid : Prop := orderMovesUptoRow.holds Try.pinned (OpenSpec.upto orderMovesSpec)

/-- 'hinterlandlaw15.OrderTimes', WHERE WHAT IT READS IS OF BULK AT MOST 1048576: true; the input reads as it did. -/
def orderTimesUptoRow : OpenClaim := { program := "ythbjchicpebglaa", sum := "88c2d83e74e22bf963123a66a2b9e7355d900b7495d6ea41e1097ee6eaaa2113", func := "hinterland/hinterlandlaw15.OrderTimes", spec := "orderTimes", unfollowed := true, recurses := true, apart := false, narrowed := true }
def OrderTimesUptoSaid : Prop := orderTimesUptoRow.holds Try.pinned (OpenSpec.upto orderTimesSpec)

/-- 'hinterlandlaw15.OrderRemoves', WHERE WHAT IT READS IS OF BULK AT MOST 1048576: true; the input reads as it did. -/
def orderRemovesUptoRow : OpenClaim := { program := "ythbjchicpebglaa", sum := "88c2d83e74e22bf963123a66a2b9e7355d900b7495d6ea41e1097ee6eaaa2113", func := "hinterland/hinterlandlaw15.OrderRemoves", spec := "orderRemoves", unfollowed := true, recurses := true, apart := false, narrowed := true }
def OrderRemovesUptoSaid : Prop := orderRemovesUptoRow.holds Try.pinned (OpenSpec.upto orderRemovesSpec)

/-- 'hinterlandlaw15.OrderLates', WHERE WHAT IT READS IS OF BULK AT MOST 1048576: true; the input reads as it did. -/
def orderLatesUptoRow : OpenClaim := { program := "ythbjchicpebglaa", sum := "88c2d83e74e22bf963123a66a2b9e7355d900b7495d6ea41e1097ee6eaaa2113", func := "hinterland/hinterlandlaw15.OrderLates", spec := "orderLates", unfollowed := true, recurses := true, apart := false, narrowed := true }
def OrderLatesUptoSaid : Prop := orderLatesUptoRow.holds Try.pinned (OpenSpec.upto orderLatesSpec)

/-- 'hinterlandlaw15.OrderDrops', WHERE WHAT IT READS IS OF BULK AT MOST 1048576: true; the input reads as it did. -/
def orderDropsUptoRow : OpenClaim := { program := "ythbjchicpebglaa", sum := "88c2d83e74e22bf963123a66a2b9e7355d900b7495d6ea41e1097ee6eaaa2113", func := "hinterland/hinterlandlaw15.OrderDrops", spec := "orderDrops", unfollowed := true, recurses := true, apart := false, narrowed := true }
def OrderDropsUptoSaid : Prop := orderDropsUptoRow.holds Try.pinned (OpenSpec.upto orderDropsSpec)

/-- 'hinterlandlaw15.OrderRounds', WHERE WHAT IT READS IS OF BULK AT MOST 1048576: true; the input reads as it did. -/
def orderRoundsUptoRow : OpenClaim := { program := "ythbjchicpebglaa", sum := "88c2d83e74e22bf963123a66a2b9e7355d900b7495d6ea41e1097ee6eaaa2113", func := "hinterland/hinterlandlaw15.OrderRounds", spec := "orderRounds", unfollowed := true, recurses := true, apart := false, narrowed := true }
def OrderRoundsUptoSaid : Prop := orderRoundsUptoRow.holds Try.pinned (OpenSpec.upto orderRoundsSpec)

/-- 'hinterlandlaw15.OrderInserts', WHERE WHAT IT READS IS OF BULK AT MOST 1048576: true; the input reads as it did. -/
def orderInsertsUptoRow : OpenClaim := { program := "ythbjchicpebglaa", sum := "88c2d83e74e22bf963123a66a2b9e7355d900b7495d6ea41e1097ee6eaaa2113", func := "hinterland/hinterlandlaw15.OrderInserts", spec := "orderInserts", inPlace := ["slices.overlaps[hinterland/api.Order]"], unfollowed := true, recurses := true, apart := false, narrowed := true }
def OrderInsertsUptoSaid : Prop := orderInsertsUptoRow.holds Try.pinned (OpenSpec.upto orderInsertsSpec)

/-- 'hinterlandlaw15.OrderFollows', WHERE WHAT IT READS IS OF BULK AT MOST 1048576: true; the input reads as it did. -/
def orderFollowsUptoRow : OpenClaim := { program := "ythbjchicpebglaa", sum := "88c2d83e74e22bf963123a66a2b9e7355d900b7495d6ea41e1097ee6eaaa2113", func := "hinterland/hinterlandlaw15.OrderFollows", spec := "orderFollows", inPlace := ["slices.overlaps[hinterland/api.Order]"], unfollowed := true, recurses := true, apart := false, narrowed := true }
def OrderFollowsUptoSaid : Prop := orderFollowsUptoRow.holds Try.pinned (OpenSpec.upto orderFollowsSpec)

/-- 'hinterlandlaw15.OrderUndone', WHERE WHAT IT READS IS OF BULK AT MOST 1048576: true; the input reads as it did. -/
def orderUndoneUptoRow : OpenClaim := { program := "ythbjchicpebglaa", sum := "88c2d83e74e22bf963123a66a2b9e7355d900b7495d6ea41e1097ee6eaaa2113", func := "hinterland/hinterlandlaw15.OrderUndone", spec := "orderUndone", inPlace := ["slices.overlaps[hinterland/api.Order]"], unfollowed := true, recurses := true, apart := false, narrowed := true }
def OrderUndoneUptoSaid : Prop := orderUndoneUptoRow.holds Try.pinned (OpenSpec.upto orderUndoneSpec)

end Rows
end Go.Proofs.Ythbjchicpebglaa

/-
  No cell of these rows narrows 'for every input' (looked for: loops, veiled, ifaces, maps, wideKeys, modest, calm, conditions, laid).
  DERIVED. THE GIVEN ROWS OF THIS SEAT. 9 by the template 'for every input the law returns true; each argument reads behind the call as it read before'; 0 by the template 'total and deterministic' (their statements: YthjmdpekcleihaaTotals.lean).
  GIVEN WITH THE SEED: the statements are not yours to turn. If you find one false, say at which input.
  Laid BY PROGRAM, IN A SANDBOX (cutbox-rows.mjs): the forced cells as the released guide's own fill.sh prints them over the translation cf70353dc4ef2e62… (all of the seat's roots in one cut). By AI agents, Wed Nov 11 2026. No macro, syntax, notation, axiom, sorry.
-/
import Derived.Test.YthjmdpekcleihaaChecked
import GoSem.Claim
import GoSem.ClaimJoined
import GoSem.ClaimMapViews
import Derived.JoinedTies
import Derived.KernelRfl
namespace Go.Proofs.Ythjmdpekcleihaa
/- THE CELL 'sum', in the pinned program and in every row, IS THE sha256 OF THE DUMP (.gsa) THAT YthjmdpekcleihaaProg.lean LOADS. Nothing in Lean hashes anything: it is a label: what it is worth is what the hold of that sum in a sandbox is worth. -/
noncomputable def Try.pinned : Pinned := { name := "ythjmdpekcleihaa", sum := "cf70353dc4ef2e623ecc69f6a5dc471ff5484f8f67635149f34ee8659b6c1ac2", checked := Try.checked }
namespace Rows
def none {H : Type} : Left H := { results := [], args := [] }

/-- 'hinterlandlaw17.LaneChooses': WHATEVER THE INPUT: true; the input reads as it did. -/
def laneChoosesSpec : ChangeSpec := { name := "laneChooses", fn := fun _ => fun
  | [d1, d2, d3, d4] => { results := [.lit (.bool true)], args := [d1, d2, d3, d4] }
  | _ => none }
def laneChoosesRow : OpenClaim := { program := "ythjmdpekcleihaa", sum := "cf70353dc4ef2e623ecc69f6a5dc471ff5484f8f67635149f34ee8659b6c1ac2", func := "hinterland/hinterlandlaw17.LaneChooses", spec := "laneChooses", unfollowed := true, recurses := true, plainKeys := false, apart := false }
def LaneChoosesSaid : Prop := laneChoosesRow.holds Try.pinned (OpenSpec.ofChange laneChoosesSpec)

/-- ITS FALSE NEIGHBOUR: 'it returns false'. Refute it at one input. -/
def laneChoosesWrong : ChangeSpec := { name := "laneChooses", fn := fun _ => fun
  | [d1, d2, d3, d4] => { results := [.lit (.bool false)], args := [d1, d2, d3, d4] }
  | _ => none }
def LaneChoosesWrongFalsely : Prop := laneChoosesRow.holds Try.pinned (OpenSpec.ofChange laneChoosesWrong)

/-- 'hinterlandlaw17.LaneValidates': WHATEVER THE INPUT: true; the input reads as it did. -/
def laneValidatesSpec : ChangeSpec := { name := "laneValidates", fn := fun _ => fun
  | [d] => { results := [.lit (.bool true)], args := [d] }
  | _ => none }
def laneValidatesRow : OpenClaim := { program := "ythjmdpekcleihaa", sum := "cf70353dc4ef2e623ecc69f6a5dc471ff5484f8f67635149f34ee8659b6c1ac2", func := "hinterland/hinterlandlaw17.LaneValidates", spec := "laneValidates", unfollowed := true, recurses := true, plainKeys := false, apart := false }
def LaneValidatesSaid : Prop := laneValidatesRow.holds Try.pinned (OpenSpec.ofChange laneValidatesSpec)

/-- ITS FALSE NEIGHBOUR: 'it returns false'. Refute it at one input. -/
def laneValidatesWrong : ChangeSpec := { name := "laneValidates", fn := fun _ => fun
  | [d] => { results := [.lit (.bool false)], args := [d] }
  | _ => none }
def LaneValidatesWrongFalsely : Prop := laneValidatesRow.holds Try.pinned (OpenSpec.ofChange laneValidatesWrong)

/-- 'hinterlandlaw17.LaneEnters': WHATEVER THE INPUT: true; the input reads as it did. -/
def laneEntersSpec : ChangeSpec := { name := "laneEnters", fn := fun _ => fun
  | [d1, d2, d3, d4] => { results := [.lit (.bool true)], args := [d1, d2, d3, d4] }
  | _ => none }
def laneEntersRow : OpenClaim := { program := "ythjmdpekcleihaa", sum := "cf70353dc4ef2e623ecc69f6a5dc471ff5484f8f67635149f34ee8659b6c1ac2", func := "hinterland/hinterlandlaw17.LaneEnters", spec := "laneEnters", unfollowed := true, recurses := true, plainKeys := false, apart := false }
def LaneEntersSaid : Prop := laneEntersRow.holds Try.pinned (OpenSpec.ofChange laneEntersSpec)

/-- ITS FALSE NEIGHBOUR: 'it returns false'. Refute it at one input. -/
def laneEntersWrong : ChangeSpec := { name := "laneEnters", fn := fun _ => fun
  | [d1, d2, d3, d4] => { results := [.lit (.bool false)], args := [d1, d2, d3, d4] }
  | _ => none }
def LaneEntersWrongFalsely : Prop := laneEntersRow.holds Try.pinned (OpenSpec.ofChange laneEntersWrong)

/-- 'hinterlandlaw17.LaneSteps': WHATEVER THE INPUT: true; the input reads as it did. -/
def laneStepsSpec : ChangeSpec := { name := "laneSteps", fn := fun _ => fun
  | [d1, d2, d3] => { results := [.lit (.bool true)], args := [d1, d2, d3] }
  | _ => none }
def laneStepsRow : OpenClaim := { program := "ythjmdpekcleihaa", sum := "cf70353dc4ef2e623ecc69f6a5dc471ff5484f8f67635149f34ee8659b6c1ac2", func := "hinterland/hinterlandlaw17.LaneSteps", spec := "laneSteps", unfollowed := true, recurses := true, plainKeys := false, apart := false }
def LaneStepsSaid : Prop := laneStepsRow.holds Try.pinned (OpenSpec.ofChange laneStepsSpec)

/-- ITS FALSE NEIGHBOUR: 'it returns false'. Refute it at one input. -/
def laneStepsWrong : ChangeSpec := { name := "laneSteps", fn := fun _ => fun
  | [d1, d2, d3] => { results := [.lit (.bool false)], args := [d1, d2, d3] }
  | _ => none }
def LaneStepsWrongFalsely : Prop := laneStepsRow.holds Try.pinned (OpenSpec.ofChange laneStepsWrong)

/-- 'hinterlandlaw17.LaneRuns': WHATEVER THE INPUT: true; the input reads as it did. -/
def laneRunsSpec : ChangeSpec := { name := "laneRuns", fn := fun _ => fun
  | [d1, d2] => { results := [.lit (.bool true)], args := [d1, d2] }
  | _ => none }
def laneRunsRow : OpenClaim := { program := "ythjmdpekcleihaa", sum := "cf70353dc4ef2e623ecc69f6a5dc471ff5484f8f67635149f34ee8659b6c1ac2", func := "hinterland/hinterlandlaw17.LaneRuns", spec := "laneRuns", unfollowed := true, recurses := true, plainKeys := false, apart := false }
def LaneRunsSaid : Prop := laneRunsRow.holds Try.pinned (OpenSpec.ofChange laneRunsSpec)

/-- ITS FALSE NEIGHBOUR: 'it returns false'. Refute it at one input. -/
def laneRunsWrong : ChangeSpec := { name := "laneRuns", fn := fun _ => fun
  | [d1, d2] => { results := [.lit (.bool false)], args := [d1, d2] }
  | _ => none }
def LaneRunsWrongFalsely : Prop := laneRunsRow.holds Try.pinned (OpenSpec.ofChange laneRunsWrong)

/-- 'hinterlandlaw17.LaneDrives': WHATEVER THE INPUT: true; the input reads as it did. -/
def laneDrivesSpec : ChangeSpec := { name := "laneDrives", fn := fun _ => fun
  | [d1, d2, d3, d4] => { results := [.lit (.bool true)], args := [d1, d2, d3, d4] }
  | _ => none }
def laneDrivesRow : OpenClaim := { program := "ythjmdpekcleihaa", sum := "cf70353dc4ef2e623ecc69f6a5dc471ff5484f8f67635149f34ee8659b6c1ac2", func := "hinterland/hinterlandlaw17.LaneDrives", spec := "laneDrives", unfollowed := true, recurses := true, plainKeys := false, apart := false }
def LaneDrivesSaid : Prop := laneDrivesRow.holds Try.pinned (OpenSpec.ofChange laneDrivesSpec)

/-- ITS FALSE NEIGHBOUR: 'it returns false'. Refute it at one input. -/
def laneDrivesWrong : ChangeSpec := { name := "laneDrives", fn := fun _ => fun
  | [d1, d2, d3, d4] => { results := [.lit (.bool false)], args := [d1, d2, d3, d4] }
  | _ => none }
def LaneDrivesWrongFalsely : Prop := laneDrivesRow.holds Try.pinned (OpenSpec.ofChange laneDrivesWrong)

/-- 'hinterlandlaw17.LaneLaunches': WHATEVER THE INPUT: true; the input reads as it did. -/
def laneLaunchesSpec : ChangeSpec := { name := "laneLaunches", fn := fun _ => fun
  | [d1, d2, d3, d4] => { results := [.lit (.bool true)], args := [d1, d2, d3, d4] }
  | _ => none }
def laneLaunchesRow : OpenClaim := { program := "ythjmdpekcleihaa", sum := "cf70353dc4ef2e623ecc69f6a5dc471ff5484f8f67635149f34ee8659b6c1ac2", func := "hinterland/hinterlandlaw17.LaneLaunches", spec := "laneLaunches", unfollowed := true, recurses := true, plainKeys := false, apart := false }
def LaneLaunchesSaid : Prop := laneLaunchesRow.holds Try.pinned (OpenSpec.ofChange laneLaunchesSpec)

/-- ITS FALSE NEIGHBOUR: 'it returns false'. Refute it at one input. -/
def laneLaunchesWrong : ChangeSpec := { name := "laneLaunches", fn := fun _ => fun
  | [d1, d2, d3, d4] => { results := [.lit (.bool false)], args := [d1, d2, d3, d4] }
  | _ => none }
def LaneLaunchesWrongFalsely : Prop := laneLaunchesRow.holds Try.pinned (OpenSpec.ofChange laneLaunchesWrong)

/-- 'hinterlandlaw17.LaneSails': WHATEVER THE INPUT: true; the input reads as it did. -/
def laneSailsSpec : ChangeSpec := { name := "laneSails", fn := fun _ => fun
  | [d1, d2, d3, d4] => { results := [.lit (.bool true)], args := [d1, d2, d3, d4] }
  | _ => none }
def laneSailsRow : OpenClaim := { program := "ythjmdpekcleihaa", sum := "cf70353dc4ef2e623ecc69f6a5dc471ff5484f8f67635149f34ee8659b6c1ac2", func := "hinterland/hinterlandlaw17.LaneSails", spec := "laneSails", unfollowed := true, recurses := true, plainKeys := false, apart := false }
def LaneSailsSaid : Prop := laneSailsRow.holds Try.pinned (OpenSpec.ofChange laneSailsSpec)

/-- ITS FALSE NEIGHBOUR: 'it returns false'. Refute it at one input. -/
def laneSailsWrong : ChangeSpec := { name := "laneSails", fn := fun _ => fun
  | [d1, d2, d3, d4] => { results := [.lit (.bool false)], args := [d1, d2, d3, d4] }
  | _ => none }
def LaneSailsWrongFalsely : Prop := laneSailsRow.holds Try.pinned (OpenSpec.ofChange laneSailsWrong)

/-- 'hinterlandlaw17.LaneArrives': WHATEVER THE INPUT: true; the input reads as it did. -/
def laneArrivesSpec : ChangeSpec := { name := "laneArrives", fn := fun _ => fun
  | [d1, d2, d3, d4] => { results := [.lit (.bool true)], args := [d1, d2, d3, d4] }
  | _ => none }
def laneArrivesRow : OpenClaim := { program := "ythjmdpekcleihaa", sum := "cf70353dc4ef2e623ecc69f6a5dc471ff5484f8f67635149f34ee8659b6c1ac2", func := "hinterland/hinterlandlaw17.LaneArrives", spec := "laneArrives", unfollowed := true, recurses := true, plainKeys := false, apart := false }
def LaneArrivesSaid : Prop := laneArrivesRow.holds Try.pinned (OpenSpec.ofChange laneArrivesSpec)

/-- ITS FALSE NEIGHBOUR: 'it returns false'. Refute it at one input. -/
def laneArrivesWrong : ChangeSpec := { name := "laneArrives", fn := fun _ => fun
  | [d1, d2, d3, d4] => { results := [.lit (.bool false)], args := [d1, d2, d3, d4] }
  | _ => none }
def LaneArrivesWrongFalsely : Prop := laneArrivesRow.holds Try.pinned (OpenSpec.ofChange laneArrivesWrong)

/- THE SECOND FORM. 'bulk': how many values and letters a reading holds, each counted each time it is reached (what is shared counts as often as it is met; a slice's spare places count too). A statement '..UptoSaid' is the law's where the arguments, and the package variables that the reading takes, are together of bulk at most 1048576: NARROWER than '..Said'. Prove '..Said' where nothing that the law and all that it calls make is longer than what came in: it says more and counts as full. Else prove '..UptoSaid'. A law counts once. -/
mutual
def uptoBulk {H : Type} : DataW H → Nat
  | .lit (.string bytes) => bytes.length + 1
  | .lit _ => 1
  | .nil => 1
  | .ptr d => uptoBulk d + 1
  | .slice elems spare => uptoBulkAll elems + uptoBulkAll spare + 1
  | .agg parts => uptoBulkAll parts + 1
  | .iface _ d => uptoBulk d + 1
  | .map entries => uptoBulkEntries entries + 1
  | .held _ => 1
def uptoBulkAll {H : Type} : List (DataW H) → Nat
  | [] => 0
  | d :: r => uptoBulk d + uptoBulkAll r
def uptoBulkEntries {H : Type} : List (Lit × DataW H) → Nat
  | [] => 0
  | x :: r => uptoBulkEntry x + uptoBulkEntries r
def uptoBulkEntry {H : Type} : Lit × DataW H → Nat
  | (.string bytes, d) => bytes.length + uptoBulk d + 1
  | (_, d) => uptoBulk d + 1
 end
def uptoSmall : (H : Type) → List (DataW H) → Bool := fun _ ds => decide (uptoBulkAll ds ≤ 1048576)
def OpenSpec.upto (s : _root_.Go.ChangeSpec) : _root_.Go.OpenSpec := { _root_.Go.OpenSpec.ofChange s with cond := some uptoSmall }

/-- 'hinterlandlaw17.LaneChooses', WHERE WHAT IT READS IS OF BULK AT MOST 1048576: true; the input reads as it did. -/
def laneChoosesUptoRow : OpenClaim := { program := "ythjmdpekcleihaa", sum := "cf70353dc4ef2e623ecc69f6a5dc471ff5484f8f67635149f34ee8659b6c1ac2", func := "hinterland/hinterlandlaw17.LaneChooses", spec := "laneChooses", unfollowed := true, recurses := true, plainKeys := false, apart := false, narrowed := true }
def LaneChoosesUptoSaid : Prop := laneChoosesUptoRow.holds Try.pinned (OpenSpec.upto laneChoosesSpec)

/-- 'hinterlandlaw17.LaneValidates', WHERE WHAT IT READS IS OF BULK AT MOST 1048576: true; the input reads as it did. -/
def laneValidatesUptoRow : OpenClaim := { program := "ythjmdpekcleihaa", sum := "cf70353dc4ef2e623ecc69f6a5dc471ff5484f8f67635149f34ee8659b6c1ac2", func := "hinterland/hinterlandlaw17.LaneValidates", spec := "laneValidates", unfollowed := true, recurses := true, plainKeys := false, apart := false, narrowed := true }
def LaneValidatesUptoSaid : Prop := laneValidatesUptoRow.holds Try.pinned (OpenSpec.upto laneValidatesSpec)

/-- 'hinterlandlaw17.LaneEnters', WHERE WHAT IT READS IS OF BULK AT MOST 1048576: true; the input reads as it did. -/
def laneEntersUptoRow : OpenClaim := { program := "ythjmdpekcleihaa", sum := "cf70353dc4ef2e623ecc69f6a5dc471ff5484f8f67635149f34ee8659b6c1ac2", func := "hinterland/hinterlandlaw17.LaneEnters", spec := "laneEnters", unfollowed := true, recurses := true, plainKeys := false, apart := false, narrowed := true }
def LaneEntersUptoSaid : Prop := laneEntersUptoRow.holds Try.pinned (OpenSpec.upto laneEntersSpec)

/-- 'hinterlandlaw17.LaneSteps', WHERE WHAT IT READS IS OF BULK AT MOST 1048576: true; the input reads as it did. -/
def laneStepsUptoRow : OpenClaim := { program := "ythjmdpekcleihaa", sum := "cf70353dc4ef2e623ecc69f6a5dc471ff5484f8f67635149f34ee8659b6c1ac2", func := "hinterland/hinterlandlaw17.LaneSteps", spec := "laneSteps", unfollowed := true, recurses := true, plainKeys := false, apart := false, narrowed := true }
def LaneStepsUptoSaid : Prop := laneStepsUptoRow.holds Try.pinned (OpenSpec.upto laneStepsSpec)

/-- 'hinterlandlaw17.LaneRuns', WHERE WHAT IT READS IS OF BULK AT MOST 1048576: true; the input reads as it did. -/
def laneRunsUptoRow : OpenClaim := { program := "ythjmdpekcleihaa", sum := "cf70353dc4ef2e623ecc69f6a5dc471ff5484f8f67635149f34ee8659b6c1ac2", func := "hinterland/hinterlandlaw17.LaneRuns", spec := "laneRuns", unfollowed := true, recurses := true, plainKeys := false, apart := false, narrowed := true }
def LaneRunsUptoSaid : Prop := laneRunsUptoRow.holds Try.pinned (OpenSpec.upto laneRunsSpec)

/-- 'hinterlandlaw17.LaneDrives', WHERE WHAT IT READS IS OF BULK AT MOST 1048576: true; the input reads as it did. -/
def laneDrivesUptoRow : OpenClaim := { program := "ythjmdpekcleihaa", sum := "cf70353dc4ef2e623ecc69f6a5dc471ff5484f8f67635149f34ee8659b6c1ac2", func := "hinterland/hinterlandlaw17.LaneDrives", spec := "laneDrives", unfollowed := true, recurses := true, plainKeys := false, apart := false, narrowed := true }
def LaneDrivesUptoSaid : Prop := laneDrivesUptoRow.holds Try.pinned (OpenSpec.upto laneDrivesSpec)

/-- 'hinterlandlaw17.LaneLaunches', WHERE WHAT IT READS IS OF BULK AT MOST 1048576: true; the input reads as it did. -/
def laneLaunchesUptoRow : OpenClaim := { program := "ythjmdpekcleihaa", sum := "cf70353dc4ef2e623ecc69f6a5dc471ff5484f8f67635149f34ee8659b6c1ac2", func := "hinterland/hinterlandlaw17.LaneLaunches", spec := "laneLaunches", unfollowed := true, recurses := true, plainKeys := false, apart := false, narrowed := true }
def LaneLaunchesUptoSaid : Prop := laneLaunchesUptoRow.holds Try.pinned (OpenSpec.upto laneLaunchesSpec)

/-- 'hinterlandlaw17.LaneSails', WHERE WHAT IT READS IS OF BULK AT MOST 1048576: true; the input reads as it did. -/
def laneSailsUptoRow : OpenClaim := { program := "ythjmdpekcleihaa", sum := "cf70353dc4ef2e623ecc69f6a5dc471ff5484f8f67635149f34ee8659b6c1ac2", func := "hinterland/hinterlandlaw17.LaneSails", spec := "laneSails", unfollowed := true, recurses := true, plainKeys := false, apart := false, narrowed := true }
def LaneSailsUptoSaid : Prop := laneSailsUptoRow.holds Try.pinned (OpenSpec.upto laneSailsSpec)

/-- 'hinterlandlaw17.LaneArrives', WHERE WHAT IT READS IS OF BULK AT MOST 1048576: true; the input reads as it did. -/
def laneArrivesUptoRow : OpenClaim := { program := "ythjmdpekcleihaa", sum := "cf70353dc4ef2e623ecc69f6a5dc471ff5484f8f67635149f34ee8659b6c1ac2", func := "hinterland/hinterlandlaw17.LaneArrives", spec := "laneArrives", unfollowed := true, recurses := true, plainKeys := false, apart := false, narrowed := true }
def LaneArrivesUptoSaid : Prop := laneArrivesUptoRow.holds Try.pinned (OpenSpec.upto laneArrivesSpec)

end Rows
end Go.Proofs.Ythjmdpekcleihaa

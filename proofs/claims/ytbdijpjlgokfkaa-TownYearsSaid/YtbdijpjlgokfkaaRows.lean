/-
  No cell of these rows narrows 'for every input' (looked for: loops, veiled, ifaces, maps, wideKeys, modest, calm, conditions, laid).
  DERIVED. THE GIVEN ROWS OF THIS SEAT. 10 by the template 'for every input the law returns true; each argument reads behind the call as it read before'; 0 by the template 'total and deterministic' (their statements: YtbdijpjlgokfkaaTotals.lean).
  GIVEN WITH THE SEED: the statements are not yours to turn. If you find one false, say at which input.
  Laid BY PROGRAM, IN A SANDBOX (cutbox-rows.mjs): the forced cells as the released guide's own fill.sh prints them over the translation 4a7da8f6896377cd… (all of the seat's roots in one cut). By AI agents, Wed Nov 11 2026. No macro, syntax, notation, axiom, sorry.
-/
import Derived.Test.YtbdijpjlgokfkaaChecked
import GoSem.Claim
import GoSem.ClaimJoined
import GoSem.ClaimMapViews
import Derived.JoinedTies
import Derived.KernelRfl
namespace Go.Proofs.Ytbdijpjlgokfkaa
/- THE CELL 'sum', in the pinned program and in every row, IS THE sha256 OF THE DUMP (.gsa) THAT YtbdijpjlgokfkaaProg.lean LOADS. Nothing in Lean hashes anything: it is a label: what it is worth is what the hold of that sum in a sandbox is worth. -/
noncomputable def Try.pinned : Pinned := { name := "ytbdijpjlgokfkaa", sum := "4a7da8f6896377cdba53dde6b5689513023dd8936663387dc7b9d577f1942227", checked := Try.checked }
namespace Rows
def none {H : Type} : Left H := { results := [], args := [] }

/-- 'hinterlandlaw11.TownMonths': WHATEVER THE INPUT: true; the input reads as it did. -/
def townMonthsSpec : ChangeSpec := { name := "townMonths", fn := fun _ => fun
  | [d] => { results := [.lit (.bool true)], args := [d] }
  | _ => none }
def townMonthsRow : OpenClaim := { program := "ytbdijpjlgokfkaa", sum := "4a7da8f6896377cdba53dde6b5689513023dd8936663387dc7b9d577f1942227", func := "hinterland/hinterlandlaw11.TownMonths", spec := "townMonths", apart := false }
def TownMonthsSaid : Prop := townMonthsRow.holds Try.pinned (OpenSpec.ofChange townMonthsSpec)

/-- ITS FALSE NEIGHBOUR: 'it returns false'. Refute it at one input. -/
def townMonthsWrong : ChangeSpec := { name := "townMonths", fn := fun _ => fun
  | [d] => { results := [.lit (.bool false)], args := [d] }
  | _ => none }
def TownMonthsWrongFalsely : Prop := townMonthsRow.holds Try.pinned (OpenSpec.ofChange townMonthsWrong)

/-- 'hinterlandlaw11.TownDues': WHATEVER THE INPUT: true; the input reads as it did. -/
def townDuesSpec : ChangeSpec := { name := "townDues", fn := fun _ => fun
  | [d1, d2] => { results := [.lit (.bool true)], args := [d1, d2] }
  | _ => none }
def townDuesRow : OpenClaim := { program := "ytbdijpjlgokfkaa", sum := "4a7da8f6896377cdba53dde6b5689513023dd8936663387dc7b9d577f1942227", func := "hinterland/hinterlandlaw11.TownDues", spec := "townDues", apart := false }
def TownDuesSaid : Prop := townDuesRow.holds Try.pinned (OpenSpec.ofChange townDuesSpec)

/-- ITS FALSE NEIGHBOUR: 'it returns false'. Refute it at one input. -/
def townDuesWrong : ChangeSpec := { name := "townDues", fn := fun _ => fun
  | [d1, d2] => { results := [.lit (.bool false)], args := [d1, d2] }
  | _ => none }
def TownDuesWrongFalsely : Prop := townDuesRow.holds Try.pinned (OpenSpec.ofChange townDuesWrong)

/-- 'hinterlandlaw11.TownFeels': WHATEVER THE INPUT: true; the input reads as it did. -/
def townFeelsSpec : ChangeSpec := { name := "townFeels", fn := fun _ => fun
  | [d1, d2, d3] => { results := [.lit (.bool true)], args := [d1, d2, d3] }
  | _ => none }
def townFeelsRow : OpenClaim := { program := "ytbdijpjlgokfkaa", sum := "4a7da8f6896377cdba53dde6b5689513023dd8936663387dc7b9d577f1942227", func := "hinterland/hinterlandlaw11.TownFeels", spec := "townFeels", apart := false }
def TownFeelsSaid : Prop := townFeelsRow.holds Try.pinned (OpenSpec.ofChange townFeelsSpec)

/-- ITS FALSE NEIGHBOUR: 'it returns false'. Refute it at one input. -/
def townFeelsWrong : ChangeSpec := { name := "townFeels", fn := fun _ => fun
  | [d1, d2, d3] => { results := [.lit (.bool false)], args := [d1, d2, d3] }
  | _ => none }
def TownFeelsWrongFalsely : Prop := townFeelsRow.holds Try.pinned (OpenSpec.ofChange townFeelsWrong)

/-- 'hinterlandlaw11.TownApart': WHATEVER THE INPUT: true; the input reads as it did. -/
def townApartSpec : ChangeSpec := { name := "townApart", fn := fun _ => fun
  | [d1, d2, d3, d4, d5] => { results := [.lit (.bool true)], args := [d1, d2, d3, d4, d5] }
  | _ => none }
def townApartRow : OpenClaim := { program := "ytbdijpjlgokfkaa", sum := "4a7da8f6896377cdba53dde6b5689513023dd8936663387dc7b9d577f1942227", func := "hinterland/hinterlandlaw11.TownApart", spec := "townApart", apart := false }
def TownApartSaid : Prop := townApartRow.holds Try.pinned (OpenSpec.ofChange townApartSpec)

/-- ITS FALSE NEIGHBOUR: 'it returns false'. Refute it at one input. -/
def townApartWrong : ChangeSpec := { name := "townApart", fn := fun _ => fun
  | [d1, d2, d3, d4, d5] => { results := [.lit (.bool false)], args := [d1, d2, d3, d4, d5] }
  | _ => none }
def TownApartWrongFalsely : Prop := townApartRow.holds Try.pinned (OpenSpec.ofChange townApartWrong)

/-- 'hinterlandlaw11.TownAllows': WHATEVER THE INPUT: true; the input reads as it did. -/
def townAllowsSpec : ChangeSpec := { name := "townAllows", fn := fun _ => fun
  | [d1, d2, d3] => { results := [.lit (.bool true)], args := [d1, d2, d3] }
  | _ => none }
def townAllowsRow : OpenClaim := { program := "ytbdijpjlgokfkaa", sum := "4a7da8f6896377cdba53dde6b5689513023dd8936663387dc7b9d577f1942227", func := "hinterland/hinterlandlaw11.TownAllows", spec := "townAllows", apart := false }
def TownAllowsSaid : Prop := townAllowsRow.holds Try.pinned (OpenSpec.ofChange townAllowsSpec)

/-- ITS FALSE NEIGHBOUR: 'it returns false'. Refute it at one input. -/
def townAllowsWrong : ChangeSpec := { name := "townAllows", fn := fun _ => fun
  | [d1, d2, d3] => { results := [.lit (.bool false)], args := [d1, d2, d3] }
  | _ => none }
def TownAllowsWrongFalsely : Prop := townAllowsRow.holds Try.pinned (OpenSpec.ofChange townAllowsWrong)

/-- 'hinterlandlaw11.TownValidates': WHATEVER THE INPUT: true; the input reads as it did. -/
def townValidatesSpec : ChangeSpec := { name := "townValidates", fn := fun _ => fun
  | [d1, d2] => { results := [.lit (.bool true)], args := [d1, d2] }
  | _ => none }
def townValidatesRow : OpenClaim := { program := "ytbdijpjlgokfkaa", sum := "4a7da8f6896377cdba53dde6b5689513023dd8936663387dc7b9d577f1942227", func := "hinterland/hinterlandlaw11.TownValidates", spec := "townValidates", apart := false }
def TownValidatesSaid : Prop := townValidatesRow.holds Try.pinned (OpenSpec.ofChange townValidatesSpec)

/-- ITS FALSE NEIGHBOUR: 'it returns false'. Refute it at one input. -/
def townValidatesWrong : ChangeSpec := { name := "townValidates", fn := fun _ => fun
  | [d1, d2] => { results := [.lit (.bool false)], args := [d1, d2] }
  | _ => none }
def TownValidatesWrongFalsely : Prop := townValidatesRow.holds Try.pinned (OpenSpec.ofChange townValidatesWrong)

/-- 'hinterlandlaw11.TownBribes': WHATEVER THE INPUT: true; the input reads as it did. -/
def townBribesSpec : ChangeSpec := { name := "townBribes", fn := fun _ => fun
  | [d1, d2, d3] => { results := [.lit (.bool true)], args := [d1, d2, d3] }
  | _ => none }
def townBribesRow : OpenClaim := { program := "ytbdijpjlgokfkaa", sum := "4a7da8f6896377cdba53dde6b5689513023dd8936663387dc7b9d577f1942227", func := "hinterland/hinterlandlaw11.TownBribes", spec := "townBribes", apart := false }
def TownBribesSaid : Prop := townBribesRow.holds Try.pinned (OpenSpec.ofChange townBribesSpec)

/-- ITS FALSE NEIGHBOUR: 'it returns false'. Refute it at one input. -/
def townBribesWrong : ChangeSpec := { name := "townBribes", fn := fun _ => fun
  | [d1, d2, d3] => { results := [.lit (.bool false)], args := [d1, d2, d3] }
  | _ => none }
def TownBribesWrongFalsely : Prop := townBribesRow.holds Try.pinned (OpenSpec.ofChange townBribesWrong)

/-- 'hinterlandlaw11.TownPeople': WHATEVER THE INPUT: true; the input reads as it did. -/
def townPeopleSpec : ChangeSpec := { name := "townPeople", fn := fun _ => fun
  | [d1, d2] => { results := [.lit (.bool true)], args := [d1, d2] }
  | _ => none }
def townPeopleRow : OpenClaim := { program := "ytbdijpjlgokfkaa", sum := "4a7da8f6896377cdba53dde6b5689513023dd8936663387dc7b9d577f1942227", func := "hinterland/hinterlandlaw11.TownPeople", spec := "townPeople", apart := false }
def TownPeopleSaid : Prop := townPeopleRow.holds Try.pinned (OpenSpec.ofChange townPeopleSpec)

/-- ITS FALSE NEIGHBOUR: 'it returns false'. Refute it at one input. -/
def townPeopleWrong : ChangeSpec := { name := "townPeople", fn := fun _ => fun
  | [d1, d2] => { results := [.lit (.bool false)], args := [d1, d2] }
  | _ => none }
def TownPeopleWrongFalsely : Prop := townPeopleRow.holds Try.pinned (OpenSpec.ofChange townPeopleWrong)

/-- 'hinterlandlaw11.TownOutputs': WHATEVER THE INPUT: true; the input reads as it did. -/
def townOutputsSpec : ChangeSpec := { name := "townOutputs", fn := fun _ => fun
  | [d1, d2] => { results := [.lit (.bool true)], args := [d1, d2] }
  | _ => none }
def townOutputsRow : OpenClaim := { program := "ytbdijpjlgokfkaa", sum := "4a7da8f6896377cdba53dde6b5689513023dd8936663387dc7b9d577f1942227", func := "hinterland/hinterlandlaw11.TownOutputs", spec := "townOutputs", apart := false }
def TownOutputsSaid : Prop := townOutputsRow.holds Try.pinned (OpenSpec.ofChange townOutputsSpec)

/-- ITS FALSE NEIGHBOUR: 'it returns false'. Refute it at one input. -/
def townOutputsWrong : ChangeSpec := { name := "townOutputs", fn := fun _ => fun
  | [d1, d2] => { results := [.lit (.bool false)], args := [d1, d2] }
  | _ => none }
def TownOutputsWrongFalsely : Prop := townOutputsRow.holds Try.pinned (OpenSpec.ofChange townOutputsWrong)

/-- 'hinterlandlaw11.TownYears': WHATEVER THE INPUT: true; the input reads as it did. -/
def townYearsSpec : ChangeSpec := { name := "townYears", fn := fun _ => fun
  | [d1, d2, d3, d4, d5, d6] => { results := [.lit (.bool true)], args := [d1, d2, d3, d4, d5, d6] }
  | _ => none }
def townYearsRow : OpenClaim := { program := "ytbdijpjlgokfkaa", sum := "4a7da8f6896377cdba53dde6b5689513023dd8936663387dc7b9d577f1942227", func := "hinterland/hinterlandlaw11.TownYears", spec := "townYears", inPlace := ["slices.overlaps[hinterland/api.House]"], unfollowed := true, recurses := true, apart := false }
def TownYearsSaid : Prop := townYearsRow.holds Try.pinned (OpenSpec.ofChange townYearsSpec)

/-- ITS FALSE NEIGHBOUR: 'it returns false'. Refute it at one input. -/
def townYearsWrong : ChangeSpec := { name := "townYears", fn := fun _ => fun
  | [d1, d2, d3, d4, d5, d6] => { results := [.lit (.bool false)], args := [d1, d2, d3, d4, d5, d6] }
  | _ => none }
def TownYearsWrongFalsely : Prop := townYearsRow.holds Try.pinned (OpenSpec.ofChange townYearsWrong)

/- THE SECOND FORM. 'bulk': how many values and letters a reading holds, each counted each time it is reached (what is shared counts as often as it is met; a slice's spare places count too). A statement '..UptoSaid' is the law's where the arguments, and the package variables that the reading takes, are together of bulk at most 1048576: NARROWER than '..Said'. Prove '..Said' where nothing that the law and all that it calls make is longer than what came in: it says more and counts as full. Else prove '..UptoSaid'. A law counts once. -/
mutual
def uptoBulk {H : Type} : DataW H → Nat
  | .lit (.string bytes) => bytes.length + 1
  | .lit _ => 1
  | .nil => 1
  | .ptr d => uptoBulk d + 1
  | .slice elems spare => uptoBulkAll elems + uptoBulkAll spare + 1
  | .agg parts => uptoBulkAll parts + 1
  | .iface _ d => uptoBulk d + 1
  | .map entries => uptoBulkEntries entries + 1
  | .held _ => 1
def uptoBulkAll {H : Type} : List (DataW H) → Nat
  | [] => 0
  | d :: r => uptoBulk d + uptoBulkAll r
def uptoBulkEntries {H : Type} : List (Lit × DataW H) → Nat
  | [] => 0
  | x :: r => uptoBulkEntry x + uptoBulkEntries r
def uptoBulkEntry {H : Type} : Lit × DataW H → Nat
  | (.string bytes, d) => bytes.length + uptoBulk d + 1
  | (_, d) => uptoBulk d + 1
 end
def uptoSmall : (H : Type) → List (DataW H) → Bool := fun _ ds => decide (uptoBulkAll ds ≤ 1048576)
def OpenSpec.upto (s : _root_.Go.ChangeSpec) : _root_.Go.OpenSpec := { _root_.Go.OpenSpec.ofChange s with cond := some uptoSmall }

/-- 'hinterlandlaw11.TownMonths', WHERE WHAT IT READS IS OF BULK AT MOST 1048576: true; the input reads as it did. -/
def townMonthsUptoRow : OpenClaim := { program := "ytbdijpjlgokfkaa", sum := "4a7da8f6896377cdba53dde6b5689513023dd8936663387dc7b9d577f1942227", func := "hinterland/hinterlandlaw11.TownMonths", spec := "townMonths", apart := false, narrowed := true }
def TownMonthsUptoSaid : Prop := townMonthsUptoRow.holds Try.pinned (OpenSpec.upto townMonthsSpec)

/-- 'hinterlandlaw11.TownDues', WHERE WHAT IT READS IS OF BULK AT MOST 1048576: true; the input reads as it did. -/
def townDuesUptoRow : OpenClaim := { program := "ytbdijpjlgokfkaa", sum := "4a7da8f6896377cdba53dde6b5689513023dd8936663387dc7b9d577f1942227", func := "hinterland/hinterlandlaw11.TownDues", spec := "townDues", apart := false, narrowed := true }
def TownDuesUptoSaid : Prop := townDuesUptoRow.holds Try.pinned (OpenSpec.upto townDuesSpec)

/-- 'hinterlandlaw11.TownFeels', WHERE WHAT IT READS IS OF BULK AT MOST 1048576: true; the input reads as it did. -/
def townFeelsUptoRow : OpenClaim := { program := "ytbdijpjlgokfkaa", sum := "4a7da8f6896377cdba53dde6b5689513023dd8936663387dc7b9d577f1942227", func := "hinterland/hinterlandlaw11.TownFeels", spec := "townFeels", apart := false, narrowed := true }
def TownFeelsUptoSaid : Prop := townFeelsUptoRow.holds Try.pinned (OpenSpec.upto townFeelsSpec)

/-- 'hinterlandlaw11.TownApart', WHERE WHAT IT READS IS OF BULK AT MOST 1048576: true; the input reads as it did. -/
def townApartUptoRow : OpenClaim := { program := "ytbdijpjlgokfkaa", sum := "4a7da8f6896377cdba53dde6b5689513023dd8936663387dc7b9d577f1942227", func := "hinterland/hinterlandlaw11.TownApart", spec := "townApart", apart := false, narrowed := true }
def TownApartUptoSaid : Prop := townApartUptoRow.holds Try.pinned (OpenSpec.upto townApartSpec)

/-- 'hinterlandlaw11.TownAllows', WHERE WHAT IT READS IS OF BULK AT MOST 1048576: true; the input reads as it did. -/
def townAllowsUptoRow : OpenClaim := { program := "ytbdijpjlgokfkaa", sum := "4a7da8f6896377cdba53dde6b5689513023dd8936663387dc7b9d577f1942227", func := "hinterland/hinterlandlaw11.TownAllows", spec := "townAllows", apart := false, narrowed := true }
def TownAllowsUptoSaid : Prop := townAllowsUptoRow.holds Try.pinned (OpenSpec.upto townAllowsSpec)

/-- 'hinterlandlaw11.TownValidates', WHERE WHAT IT READS IS OF BULK AT MOST 1048576: true; the input reads as it did. -/
def townValidatesUptoRow : OpenClaim := { program := "ytbdijpjlgokfkaa", sum := "4a7da8f6896377cdba53dde6b5689513023dd8936663387dc7b9d577f1942227", func := "hinterland/hinterlandlaw11.TownValidates", spec := "townValidates", apart := false, narrowed := true }
def TownValidatesUptoSaid : Prop := townValidatesUptoRow.holds Try.pinned (OpenSpec.upto townValidatesSpec)

/-- 'hinterlandlaw11.TownBribes', WHERE WHAT IT READS IS OF BULK AT MOST 1048576: true; the input reads as it did. -/
def townBribesUptoRow : OpenClaim := { program := "ytbdijpjlgokfkaa", sum := "4a7da8f6896377cdba53dde6b5689513023dd8936663387dc7b9d577f1942227", func := "hinterland/hinterlandlaw11.TownBribes", spec := "townBribes", apart := false, narrowed := true }
def TownBribesUptoSaid : Prop := townBribesUptoRow.holds Try.pinned (OpenSpec.upto townBribesSpec)

/-- 'hinterlandlaw11.TownPeople', WHERE WHAT IT READS IS OF BULK AT MOST 1048576: true; the input reads as it did. -/
def townPeopleUptoRow : OpenClaim := { program := "ytbdijpjlgokfkaa", sum := "4a7da8f6896377cdba53dde6b5689513023dd8936663387dc7b9d577f1942227", func := "hinterland/hinterlandlaw11.TownPeople", spec := "townPeople", apart := false, narrowed := true }
def TownPeopleUptoSaid : Prop := townPeopleUptoRow.holds Try.pinned (OpenSpec.upto townPeopleSpec)

/-- 'hinterlandlaw11.TownOutputs', WHERE WHAT IT READS IS OF BULK AT MOST 1048576: true; the input reads as it did. -/
def townOutputsUptoRow : OpenClaim := { program := "ytbdijpjlgokfkaa", sum := "4a7da8f6896377cdba53dde6b5689513023dd8936663387dc7b9d577f1942227", func := "hinterland/hinterlandlaw11.TownOutputs", spec := "townOutputs", apart := false, narrowed := true }
def TownOutputsUptoSaid : Prop := townOutputsUptoRow.holds Try.pinned (OpenSpec.upto townOutputsSpec)

/-- 'hinterlandlaw11.TownYears', WHERE WHAT IT READS IS OF BULK AT MOST 1048576: true; the input reads as it did. -/
def townYearsUptoRow : OpenClaim := { program := "ytbdijpjlgokfkaa", sum := "4a7da8f6896377cdba53dde6b5689513023dd8936663387dc7b9d577f1942227", func := "hinterland/hinterlandlaw11.TownYears", spec := "townYears", inPlace := ["slices.overlaps[hinterland/api.House]"], unfollowed := true, recurses := true, apart := false, narrowed := true }
def TownYearsUptoSaid : Prop := townYearsUptoRow.holds Try.pinned (OpenSpec.upto townYearsSpec)

end Rows
end Go.Proofs.Ytbdijpjlgokfkaa

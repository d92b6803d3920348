/-
  No cell of these rows narrows 'for every input' (looked for: loops, veiled, ifaces, maps, wideKeys, modest, calm, conditions, laid).
  DERIVED. THE GIVEN ROWS OF THIS SEAT. 11 by the template 'for every input the law returns true; each argument reads behind the call as it read before'; 0 by the template 'total and deterministic' (their statements: YtiencnnkphipoaaTotals.lean).
  GIVEN WITH THE SEED: the statements are not yours to turn. If you find one false, say at which input.
  Laid BY PROGRAM, IN A SANDBOX (cutbox-rows.mjs): the forced cells as the released guide's own fill.sh prints them over the translation fdca6636e9c606e7… (all of the seat's roots in one cut). By AI agents, Wed Nov 11 2026. No macro, syntax, notation, axiom, sorry.
-/
import Derived.Test.YtiencnnkphipoaaChecked
import GoSem.Claim
import GoSem.ClaimJoined
import GoSem.ClaimMapViews
import Derived.JoinedTies
import Derived.KernelRfl
namespace Go.Proofs.Ytiencnnkphipoaa
/- THE CELL 'sum', in the pinned program and in every row, IS THE sha256 OF THE DUMP (.gsa) THAT YtiencnnkphipoaaProg.lean LOADS. Nothing in Lean hashes anything: it is a label: what it is worth is what the hold of that sum in a sandbox is worth. -/
noncomputable def Try.pinned : Pinned := { name := "ytiencnnkphipoaa", sum := "fdca6636e9c606e79e3438dc92154bb3e273e9b79b6c3790d6e699df223545cd", checked := Try.checked }
namespace Rows
def none {H : Type} : Left H := { results := [], args := [] }

/-- 'hinterlandlaw06.WaterJoins': WHATEVER THE INPUT: true; the input reads as it did. -/
def waterJoinsSpec : ChangeSpec := { name := "waterJoins", fn := fun _ => fun
  | [d1, d2, d3, d4] => { results := [.lit (.bool true)], args := [d1, d2, d3, d4] }
  | _ => none }
def waterJoinsRow : OpenClaim := { program := "ytiencnnkphipoaa", sum := "fdca6636e9c606e79e3438dc92154bb3e273e9b79b6c3790d6e699df223545cd", func := "hinterland/hinterlandlaw06.WaterJoins", spec := "waterJoins", apart := false }
def WaterJoinsSaid : Prop := waterJoinsRow.holds Try.pinned (OpenSpec.ofChange waterJoinsSpec)

/-- ITS FALSE NEIGHBOUR: 'it returns false'. Refute it at one input. -/
def waterJoinsWrong : ChangeSpec := { name := "waterJoins", fn := fun _ => fun
  | [d1, d2, d3, d4] => { results := [.lit (.bool false)], args := [d1, d2, d3, d4] }
  | _ => none }
def WaterJoinsWrongFalsely : Prop := waterJoinsRow.holds Try.pinned (OpenSpec.ofChange waterJoinsWrong)

/-- 'hinterlandlaw06.WaterSails': WHATEVER THE INPUT: true; the input reads as it did. -/
def waterSailsSpec : ChangeSpec := { name := "waterSails", fn := fun _ => fun
  | [d1, d2, d3, d4] => { results := [.lit (.bool true)], args := [d1, d2, d3, d4] }
  | _ => none }
def waterSailsRow : OpenClaim := { program := "ytiencnnkphipoaa", sum := "fdca6636e9c606e79e3438dc92154bb3e273e9b79b6c3790d6e699df223545cd", func := "hinterland/hinterlandlaw06.WaterSails", spec := "waterSails", apart := false }
def WaterSailsSaid : Prop := waterSailsRow.holds Try.pinned (OpenSpec.ofChange waterSailsSpec)

/-- ITS FALSE NEIGHBOUR: 'it returns false'. Refute it at one input. -/
def waterSailsWrong : ChangeSpec := { name := "waterSails", fn := fun _ => fun
  | [d1, d2, d3, d4] => { results := [.lit (.bool false)], args := [d1, d2, d3, d4] }
  | _ => none }
def WaterSailsWrongFalsely : Prop := waterSailsRow.holds Try.pinned (OpenSpec.ofChange waterSailsWrong)

/-- 'hinterlandlaw06.WaterValidates': WHATEVER THE INPUT: true; the input reads as it did. -/
def waterValidatesSpec : ChangeSpec := { name := "waterValidates", fn := fun _ => fun
  | [d1, d2] => { results := [.lit (.bool true)], args := [d1, d2] }
  | _ => none }
def waterValidatesRow : OpenClaim := { program := "ytiencnnkphipoaa", sum := "fdca6636e9c606e79e3438dc92154bb3e273e9b79b6c3790d6e699df223545cd", func := "hinterland/hinterlandlaw06.WaterValidates", spec := "waterValidates", apart := false }
def WaterValidatesSaid : Prop := waterValidatesRow.holds Try.pinned (OpenSpec.ofChange waterValidatesSpec)

/-- ITS FALSE NEIGHBOUR: 'it returns false'. Refute it at one input. -/
def waterValidatesWrong : ChangeSpec := { name := "waterValidates", fn := fun _ => fun
  | [d1, d2] => { results := [.lit (.bool false)], args := [d1, d2] }
  | _ => none }
def WaterValidatesWrongFalsely : Prop := waterValidatesRow.holds Try.pinned (OpenSpec.ofChange waterValidatesWrong)

/-- 'hinterlandlaw06.WaterFloods': WHATEVER THE INPUT: true; the input reads as it did. -/
def waterFloodsSpec : ChangeSpec := { name := "waterFloods", fn := fun _ => fun
  | [d1, d2] => { results := [.lit (.bool true)], args := [d1, d2] }
  | _ => none }
def waterFloodsRow : OpenClaim := { program := "ytiencnnkphipoaa", sum := "fdca6636e9c606e79e3438dc92154bb3e273e9b79b6c3790d6e699df223545cd", func := "hinterland/hinterlandlaw06.WaterFloods", spec := "waterFloods", apart := false }
def WaterFloodsSaid : Prop := waterFloodsRow.holds Try.pinned (OpenSpec.ofChange waterFloodsSpec)

/-- ITS FALSE NEIGHBOUR: 'it returns false'. Refute it at one input. -/
def waterFloodsWrong : ChangeSpec := { name := "waterFloods", fn := fun _ => fun
  | [d1, d2] => { results := [.lit (.bool false)], args := [d1, d2] }
  | _ => none }
def WaterFloodsWrongFalsely : Prop := waterFloodsRow.holds Try.pinned (OpenSpec.ofChange waterFloodsWrong)

/-- 'hinterlandlaw06.WaterNexts': WHATEVER THE INPUT: true; the input reads as it did. -/
def waterNextsSpec : ChangeSpec := { name := "waterNexts", fn := fun _ => fun
  | [d1, d2, d3, d4] => { results := [.lit (.bool true)], args := [d1, d2, d3, d4] }
  | _ => none }
def waterNextsRow : OpenClaim := { program := "ytiencnnkphipoaa", sum := "fdca6636e9c606e79e3438dc92154bb3e273e9b79b6c3790d6e699df223545cd", func := "hinterland/hinterlandlaw06.WaterNexts", spec := "waterNexts", apart := false }
def WaterNextsSaid : Prop := waterNextsRow.holds Try.pinned (OpenSpec.ofChange waterNextsSpec)

/-- ITS FALSE NEIGHBOUR: 'it returns false'. Refute it at one input. -/
def waterNextsWrong : ChangeSpec := { name := "waterNexts", fn := fun _ => fun
  | [d1, d2, d3, d4] => { results := [.lit (.bool false)], args := [d1, d2, d3, d4] }
  | _ => none }
def WaterNextsWrongFalsely : Prop := waterNextsRow.holds Try.pinned (OpenSpec.ofChange waterNextsWrong)

/-- 'hinterlandlaw06.WaterDigs': WHATEVER THE INPUT: true; the input reads as it did. -/
def waterDigsSpec : ChangeSpec := { name := "waterDigs", fn := fun _ => fun
  | [d1, d2, d3, d4] => { results := [.lit (.bool true)], args := [d1, d2, d3, d4] }
  | _ => none }
def waterDigsRow : OpenClaim := { program := "ytiencnnkphipoaa", sum := "fdca6636e9c606e79e3438dc92154bb3e273e9b79b6c3790d6e699df223545cd", func := "hinterland/hinterlandlaw06.WaterDigs", spec := "waterDigs", apart := false }
def WaterDigsSaid : Prop := waterDigsRow.holds Try.pinned (OpenSpec.ofChange waterDigsSpec)

/-- ITS FALSE NEIGHBOUR: 'it returns false'. Refute it at one input. -/
def waterDigsWrong : ChangeSpec := { name := "waterDigs", fn := fun _ => fun
  | [d1, d2, d3, d4] => { results := [.lit (.bool false)], args := [d1, d2, d3, d4] }
  | _ => none }
def WaterDigsWrongFalsely : Prop := waterDigsRow.holds Try.pinned (OpenSpec.ofChange waterDigsWrong)

/-- 'hinterlandlaw06.WaterAreas': WHATEVER THE INPUT: true; the input reads as it did. -/
def waterAreasSpec : ChangeSpec := { name := "waterAreas", fn := fun _ => fun
  | [d1, d2] => { results := [.lit (.bool true)], args := [d1, d2] }
  | _ => none }
def waterAreasRow : OpenClaim := { program := "ytiencnnkphipoaa", sum := "fdca6636e9c606e79e3438dc92154bb3e273e9b79b6c3790d6e699df223545cd", func := "hinterland/hinterlandlaw06.WaterAreas", spec := "waterAreas", apart := false }
def WaterAreasSaid : Prop := waterAreasRow.holds Try.pinned (OpenSpec.ofChange waterAreasSpec)

/-- ITS FALSE NEIGHBOUR: 'it returns false'. Refute it at one input. -/
def waterAreasWrong : ChangeSpec := { name := "waterAreas", fn := fun _ => fun
  | [d1, d2] => { results := [.lit (.bool false)], args := [d1, d2] }
  | _ => none }
def WaterAreasWrongFalsely : Prop := waterAreasRow.holds Try.pinned (OpenSpec.ofChange waterAreasWrong)

/-- 'hinterlandlaw06.WaterSailsLeast': WHATEVER THE INPUT: true; the input reads as it did. -/
def waterSailsLeastSpec : ChangeSpec := { name := "waterSailsLeast", fn := fun _ => fun
  | [d1, d2, d3, d4, d5] => { results := [.lit (.bool true)], args := [d1, d2, d3, d4, d5] }
  | _ => none }
def waterSailsLeastRow : OpenClaim := { program := "ytiencnnkphipoaa", sum := "fdca6636e9c606e79e3438dc92154bb3e273e9b79b6c3790d6e699df223545cd", func := "hinterland/hinterlandlaw06.WaterSailsLeast", spec := "waterSailsLeast", apart := false }
def WaterSailsLeastSaid : Prop := waterSailsLeastRow.holds Try.pinned (OpenSpec.ofChange waterSailsLeastSpec)

/-- ITS FALSE NEIGHBOUR: 'it returns false'. Refute it at one input. -/
def waterSailsLeastWrong : ChangeSpec := { name := "waterSailsLeast", fn := fun _ => fun
  | [d1, d2, d3, d4, d5] => { results := [.lit (.bool false)], args := [d1, d2, d3, d4, d5] }
  | _ => none }
def WaterSailsLeastWrongFalsely : Prop := waterSailsLeastRow.holds Try.pinned (OpenSpec.ofChange waterSailsLeastWrong)

/-- 'hinterlandlaw06.WaterFills': WHATEVER THE INPUT: true; the input reads as it did. -/
def waterFillsSpec : ChangeSpec := { name := "waterFills", fn := fun _ => fun
  | [d1, d2, d3] => { results := [.lit (.bool true)], args := [d1, d2, d3] }
  | _ => none }
def waterFillsRow : OpenClaim := { program := "ytiencnnkphipoaa", sum := "fdca6636e9c606e79e3438dc92154bb3e273e9b79b6c3790d6e699df223545cd", func := "hinterland/hinterlandlaw06.WaterFills", spec := "waterFills", apart := false }
def WaterFillsSaid : Prop := waterFillsRow.holds Try.pinned (OpenSpec.ofChange waterFillsSpec)

/-- ITS FALSE NEIGHBOUR: 'it returns false'. Refute it at one input. -/
def waterFillsWrong : ChangeSpec := { name := "waterFills", fn := fun _ => fun
  | [d1, d2, d3] => { results := [.lit (.bool false)], args := [d1, d2, d3] }
  | _ => none }
def WaterFillsWrongFalsely : Prop := waterFillsRow.holds Try.pinned (OpenSpec.ofChange waterFillsWrong)

/-- 'hinterlandlaw06.WaterDigsBack': WHATEVER THE INPUT: true; the input reads as it did. -/
def waterDigsBackSpec : ChangeSpec := { name := "waterDigsBack", fn := fun _ => fun
  | [d1, d2, d3, d4] => { results := [.lit (.bool true)], args := [d1, d2, d3, d4] }
  | _ => none }
def waterDigsBackRow : OpenClaim := { program := "ytiencnnkphipoaa", sum := "fdca6636e9c606e79e3438dc92154bb3e273e9b79b6c3790d6e699df223545cd", func := "hinterland/hinterlandlaw06.WaterDigsBack", spec := "waterDigsBack", apart := false }
def WaterDigsBackSaid : Prop := waterDigsBackRow.holds Try.pinned (OpenSpec.ofChange waterDigsBackSpec)

/-- ITS FALSE NEIGHBOUR: 'it returns false'. Refute it at one input. -/
def waterDigsBackWrong : ChangeSpec := { name := "waterDigsBack", fn := fun _ => fun
  | [d1, d2, d3, d4] => { results := [.lit (.bool false)], args := [d1, d2, d3, d4] }
  | _ => none }
def WaterDigsBackWrongFalsely : Prop := waterDigsBackRow.holds Try.pinned (OpenSpec.ofChange waterDigsBackWrong)

/-- 'hinterlandlaw06.WaterMarks': WHATEVER THE INPUT: true; the input reads as it did. -/
def waterMarksSpec : ChangeSpec := { name := "waterMarks", fn := fun _ => fun
  | [d1, d2, d3] => { results := [.lit (.bool true)], args := [d1, d2, d3] }
  | _ => none }
def waterMarksRow : OpenClaim := { program := "ytiencnnkphipoaa", sum := "fdca6636e9c606e79e3438dc92154bb3e273e9b79b6c3790d6e699df223545cd", func := "hinterland/hinterlandlaw06.WaterMarks", spec := "waterMarks", inPlace := ["slices.overlaps[int]"], apart := false }
def WaterMarksSaid : Prop := waterMarksRow.holds Try.pinned (OpenSpec.ofChange waterMarksSpec)

/-- ITS FALSE NEIGHBOUR: 'it returns false'. Refute it at one input. -/
def waterMarksWrong : ChangeSpec := { name := "waterMarks", fn := fun _ => fun
  | [d1, d2, d3] => { results := [.lit (.bool false)], args := [d1, d2, d3] }
  | _ => none }
def WaterMarksWrongFalsely : Prop := waterMarksRow.holds Try.pinned (OpenSpec.ofChange waterMarksWrong)

/- THE SECOND FORM. 'bulk': how many values and letters a reading holds, each counted each time it is reached (what is shared counts as often as it is met; a slice's spare places count too). A statement '..UptoSaid' is the law's where the arguments, and the package variables that the reading takes, are together of bulk at most 1048576: NARROWER than '..Said'. Prove '..Said' where nothing that the law and all that it calls make is longer than what came in: it says more and counts as full. Else prove '..UptoSaid'. A law counts once. -/
mutual
def uptoBulk {H : Type} : DataW H → Nat
  | .lit (.string bytes) => bytes.length + 1
  | .lit _ => 1
  | .nil => 1
  | .ptr d => uptoBulk d + 1
  | .slice elems spare => uptoBulkAll elems + uptoBulkAll spare + 1
  | .agg parts => uptoBulkAll parts + 1
  | .iface _ d => uptoBulk d + 1
  | .map entries => uptoBulkEntries entries + 1
  | .held _ => 1
def uptoBulkAll {H : Type} : List (DataW H) → Nat
  | [] => 0
  | d :: r => uptoBulk d + uptoBulkAll r
def uptoBulkEntries {H : Type} : List (Lit × DataW H) → Nat
  | [] => 0
  | x :: r => uptoBulkEntry x + uptoBulkEntries r
def uptoBulkEntry {H : Type} : Lit × DataW H → Nat
  | (.string bytes, d) => bytes.length + uptoBulk d + 1
  | (_, d) => uptoBulk d + 1
 end
def uptoSmall : (H : Type) → List (DataW H) → Bool := fun _ ds => decide (uptoBulkAll ds ≤ 1048576)
def OpenSpec.upto (s : _root_.Go.ChangeSpec) : _root_.Go.OpenSpec := { _root_.Go.OpenSpec.ofChange s with cond := some uptoSmall }

/-- 'hinterlandlaw06.WaterJoins', WHERE WHAT IT READS IS OF BULK AT MOST 1048576: true; the input reads as it did. -/
def waterJoinsUptoRow : OpenClaim := { program := "ytiencnnkphipoaa", sum := "fdca6636e9c606e79e3438dc92154bb3e273e9b79b6c3790d6e699df223545cd", func := "hinterland/hinterlandlaw06.WaterJoins", spec := "waterJoins", apart := false, narrowed := true }
def WaterJoinsUptoSaid : Prop := waterJoinsUptoRow.holds Try.pinned (OpenSpec.upto waterJoinsSpec)

/-- 'hinterlandlaw06.WaterSails', WHERE WHAT IT READS IS OF BULK AT MOST 1048576: true; the input reads as it did. -/
def waterSailsUptoRow : OpenClaim := { program := "ytiencnnkphipoaa", sum := "fdca6636e9c606e79e3438dc92154bb3e273e9b79b6c3790d6e699df223545cd", func := "hinterland/hinterlandlaw06.WaterSails", spec := "waterSails", apart := false, narrowed := true }
def WaterSailsUptoSaid : Prop := waterSailsUptoRow.holds Try.pinned (OpenSpec.upto waterSailsSpec)

/-- 'hinterlandlaw06.WaterValidates', WHERE WHAT IT READS IS OF BULK AT MOST 1048576: true; the input reads as it did. -/
def waterValidatesUptoRow : OpenClaim := { program := "ytiencnnkphipoaa", sum := "fdca6636e9c606e79e3438dc92154bb3e273e9b79b6c3790d6e699df223545cd", func := "hinterland/hinterlandlaw06.WaterValidates", spec := "waterValidates", apart := false, narrowed := true }
def WaterValidatesUptoSaid : Prop := waterValidatesUptoRow.holds Try.pinned (OpenSpec.upto waterValidatesSpec)

/-- 'hinterlandlaw06.WaterFloods', WHERE WHAT IT READS IS OF BULK AT MOST 1048576: true; the input reads as it did. -/
def waterFloodsUptoRow : OpenClaim := { program := "ytiencnnkphipoaa", sum := "fdca6636e9c606e79e3438dc92154bb3e273e9b79b6c3790d6e699df223545cd", func := "hinterland/hinterlandlaw06.WaterFloods", spec := "waterFloods", apart := false, narrowed := true }
def WaterFloodsUptoSaid : Prop := waterFloodsUptoRow.holds Try.pinned (OpenSpec.upto waterFloodsSpec)

/-- 'hinterlandlaw06.WaterNexts', WHERE WHAT IT READS IS OF BULK AT MOST 1048576: true; the input reads as it did. -/
def waterNextsUptoRow : OpenClaim := { program := "ytiencnnkphipoaa", sum := "fdca6636e9c606e79e3438dc92154bb3e273e9b79b6c3790d6e699df223545cd", func := "hinterland/hinterlandlaw06.WaterNexts", spec := "waterNexts", apart := false, narrowed := true }
def WaterNextsUptoSaid : Prop := waterNextsUptoRow.holds Try.pinned (OpenSpec.upto waterNextsSpec)

/-- 'hinterlandlaw06.WaterDigs', WHERE WHAT IT READS IS OF BULK AT MOST 1048576: true; the input reads as it did. -/
def waterDigsUptoRow : OpenClaim := { program := "ytiencnnkphipoaa", sum := "fdca6636e9c606e79e3438dc92154bb3e273e9b79b6c3790d6e699df223545cd", func := "hinterland/hinterlandlaw06.WaterDigs", spec := "waterDigs", apart := false, narrowed := true }
def WaterDigsUptoSaid : Prop := waterDigsUptoRow.holds Try.pinned (OpenSpec.upto waterDigsSpec)

/-- 'hinterlandlaw06.WaterAreas', WHERE WHAT IT READS IS OF BULK AT MOST 1048576: true; the input reads as it did. -/
def waterAreasUptoRow : OpenClaim := { program := "ytiencnnkphipoaa", sum := "fdca6636e9c606e79e3438dc92154bb3e273e9b79b6c3790d6e699df223545cd", func := "hinterland/hinterlandlaw06.WaterAreas", spec := "waterAreas", apart := false, narrowed := true }
def WaterAreasUptoSaid : Prop := waterAreasUptoRow.holds Try.pinned (OpenSpec.upto waterAreasSpec)

/-- 'hinterlandlaw06.WaterSailsLeast', WHERE WHAT IT READS IS OF BULK AT MOST 1048576: true; the input reads as it did. -/
def waterSailsLeastUptoRow : OpenClaim := { program := "ytiencnnkphipoaa", sum := "fdca6636e9c606e79e3438dc92154bb3e273e9b79b6c3790d6e699df223545cd", func := "hinterland/hinterlandlaw06.WaterSailsLeast", spec := "waterSailsLeast", apart := false, narrowed := true }
def WaterSailsLeastUptoSaid : Prop := waterSailsLeastUptoRow.holds Try.pinned (OpenSpec.upto waterSailsLeastSpec)

/-- 'hinterlandlaw06.WaterFills', WHERE WHAT IT READS IS OF BULK AT MOST 1048576: true; the input reads as it did. -/
def waterFillsUptoRow : OpenClaim := { program := "ytiencnnkphipoaa", sum := "fdca6636e9c606e79e3438dc92154bb3e273e9b79b6c3790d6e699df223545cd", func := "hinterland/hinterlandlaw06.WaterFills", spec := "waterFills", apart := false, narrowed := true }
def WaterFillsUptoSaid : Prop := waterFillsUptoRow.holds Try.pinned (OpenSpec.upto waterFillsSpec)

/-- 'hinterlandlaw06.WaterDigsBack', WHERE WHAT IT READS IS OF BULK AT MOST 1048576: true; the input reads as it did. -/
def waterDigsBackUptoRow : OpenClaim := { program := "ytiencnnkphipoaa", sum := "fdca6636e9c606e79e3438dc92154bb3e273e9b79b6c3790d6e699df223545cd", func := "hinterland/hinterlandlaw06.WaterDigsBack", spec := "waterDigsBack", apart := false, narrowed := true }
def WaterDigsBackUptoSaid : Prop := waterDigsBackUptoRow.holds Try.pinned (OpenSpec.upto waterDigsBackSpec)

/-- 'hinterlandlaw06.WaterMarks', WHERE WHAT IT READS IS OF BULK AT MOST 1048576: true; the input reads as it did. -/
def waterMarksUptoRow : OpenClaim := { program := "ytiencnnkphipoaa", sum := "fdca6636e9c606e79e3438dc92154bb3e273e9b79b6c3790d6e699df223545cd", func := "hinterland/hinterlandlaw06.WaterMarks", spec := "waterMarks", inPlace := ["slices.overlaps[int]"], apart := false, narrowed := true }
def WaterMarksUptoSaid : Prop := waterMarksUptoRow.holds Try.pinned (OpenSpec.upto waterMarksSpec)

end Rows
end Go.Proofs.Ytiencnnkphipoaa

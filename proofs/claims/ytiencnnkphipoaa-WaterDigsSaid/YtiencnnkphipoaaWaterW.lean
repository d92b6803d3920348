/- What the functions of layer 6 (waters) come to, in plain words: a tile that is changed, in the document. No conditions. -/
import Derived.Test.YtiencnnkphipoaaPx0
import Derived.Test.YtiencnnkphipoaaPx15
import Derived.Test.YtiencnnkphipoaaWater6
namespace Go.Proofs.Ytiencnnkphipoaa.Pure
set_option linter.unusedVariables false
set_option linter.unusedSimpArgs false
open Go.RowKit Go.Proofs.YtiencnnkphipoaaW.PrintWords Go.Proofs.YtiencnnkphipoaaW.PrintMore Go.Proofs.Ytiencnnkphipoaa.P Go.Proofs.Ytiencnnkphipoaa

theorem with_eq (K B : List Int) (hK : K.length ≤ 8000) (hB : B.length ≤ 8000) (t : Nat) (ht : t < K.length) (v : Int) : hinterlandref06_with.f K B (t : Int) v = some (K.set t v, B) := by
 unfold hinterlandref06_with.f
 rw [if_pos (by simp;omega)]
 simp only [Option.bind_some,List.nil_append]
 rw [if_pos (by simp;omega),if_pos (by omega),if_pos (by omega)]
 rfl
end Go.Proofs.Ytiencnnkphipoaa.Pure

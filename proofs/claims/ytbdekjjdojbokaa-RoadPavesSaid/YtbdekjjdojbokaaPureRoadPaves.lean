/- Layer 4, RoadPaves (P4.2). No conditions. -/
import Derived.Test.YtbdekjjdojbokaaPSRoadPaves
import Derived.Test.YtbdekjjdojbokaaRoad6
namespace Go.Proofs.Ytbdekjjdojbokaa.Pure
set_option linter.unusedVariables false
set_option linter.unusedSimpArgs false
open Go.RowKit Go.Proofs.YtbdekjjdojbokaaW.PrintWords Go.Proofs.Ytbdekjjdojbokaa.P Go.Proofs.Ytbdekjjdojbokaa

theorem RoadPaves : hinterlandlaw04_RoadPaves.Pure := by
  intro W H A Y t x _ _ _ _ _ _
  refine Ev.rounds ?_
  unfold hinterlandlaw04_RoadPaves.f
  refine Ev.bindc (large_eq _ _ _ _) ?_
  by_cases hfar : (A.length : Int) > 4000 ∨ (Y.length : Int) > 4000
  · exact Ev.pos (decide_eq_true hfar) known_then
  refine Ev.neg (fun h => hfar (of_decide_eq_true h)) ?_
  have hl := paved_len (W := W) (H := H) (A := A) (Y := Y) (t := t) (x := x) (by omega) (by omega)
  exact Ev.bind (Pave_ev (by omega) (by omega)) (Ev.bind (ref_Pave_ev (by omega) (by omega)) (Ev.pos (by first | rfl | trivial) (Ev.pos (by first | rfl | trivial) (Ev.bind (same_str_ev _ _ _ _ hl.1 hl.2) (Ev.pos (by first | rfl | trivial) known_then)))))

end Go.Proofs.Ytbdekjjdojbokaa.Pure

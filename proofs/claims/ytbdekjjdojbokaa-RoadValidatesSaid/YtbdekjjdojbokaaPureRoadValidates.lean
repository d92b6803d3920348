/- Layer 4, RoadValidates (P4.1): the first error of streets. No conditions. -/
import Derived.Test.YtbdekjjdojbokaaPSRoadValidates
import Derived.Test.YtbdekjjdojbokaaRoad0
namespace Go.Proofs.Ytbdekjjdojbokaa.Pure
set_option linter.unusedVariables false
set_option linter.unusedSimpArgs false
open Go.RowKit Go.Proofs.YtbdekjjdojbokaaW.PrintWords Go.Proofs.Ytbdekjjdojbokaa.P Go.Proofs.Ytbdekjjdojbokaa

theorem RoadValidates : hinterlandlaw04_RoadValidates.Pure := by
  intro W H A Y _ _ _ _
  refine Ev.rounds ?_
  unfold hinterlandlaw04_RoadValidates.f
  refine Ev.bindc (large_eq _ _ _ _) ?_
  by_cases hfar : (A.length : Int) > 4000 ∨ (Y.length : Int) > 4000
  · exact Ev.pos (decide_eq_true hfar) known_then
  refine Ev.neg (fun h => hfar (of_decide_eq_true h)) ?_
  exact Ev.bind (validate_ev (by omega) (by omega)) (Ev.bind (ref_validate_ev (by omega) (by omega)) (Ev.pos (by first | rfl | trivial) known_then))

end Go.Proofs.Ytbdekjjdojbokaa.Pure

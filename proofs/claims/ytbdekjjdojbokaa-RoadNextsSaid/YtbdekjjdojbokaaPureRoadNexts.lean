/- Layer 4, RoadNexts (P4.3): through which sides a truck may leave. No conditions. -/
import Derived.Test.YtbdekjjdojbokaaPSRoadNexts
import Derived.Test.YtbdekjjdojbokaaRoad1
namespace Go.Proofs.Ytbdekjjdojbokaa.Pure
set_option linter.unusedVariables false
set_option linter.unusedSimpArgs false
open Go.RowKit Go.Proofs.YtbdekjjdojbokaaW.PrintWords Go.Proofs.Ytbdekjjdojbokaa.P Go.Proofs.Ytbdekjjdojbokaa

theorem RoadNexts : hinterlandlaw04_RoadNexts.Pure := by
  intro W H A Y t s _ _ _ _ _ _
  refine Ev.rounds ?_
  unfold hinterlandlaw04_RoadNexts.f
  refine Ev.bindc (large_eq _ _ _ _) ?_
  by_cases hfar : (A.length : Int) > 4000 ∨ (Y.length : Int) > 4000
  · exact Ev.pos (decide_eq_true hfar) known_then
  refine Ev.neg (fun h => hfar (of_decide_eq_true h)) ?_
  refine Ev.bind (Next_ev (by omega) (by omega)) (Ev.bind (ref_Next_ev (by omega) (by omega)) (Ev.pos (by first | rfl | trivial) (Ev.bind (same_ints_ev _ ?_) (Ev.pos (by first | rfl | trivial) known_then))))
  split
  · have := outs_len (W := W) (H := H) (A := A) (Y := Y) (t := t) s
    dsimp only; omega
  · simp

end Go.Proofs.Ytbdekjjdojbokaa.Pure

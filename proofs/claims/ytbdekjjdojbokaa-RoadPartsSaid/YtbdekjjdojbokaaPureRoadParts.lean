/- Layer 4, RoadParts (P4.4): which tiles hang together. No conditions. -/
import Derived.Test.YtbdekjjdojbokaaPSRoadParts
import Derived.Test.YtbdekjjdojbokaaRoad5
namespace Go.Proofs.Ytbdekjjdojbokaa.Pure
set_option linter.unusedVariables false
set_option linter.unusedSimpArgs false
open Go.RowKit Go.Proofs.YtbdekjjdojbokaaW.PrintWords Go.Proofs.Ytbdekjjdojbokaa.P Go.Proofs.Ytbdekjjdojbokaa

theorem RoadParts : hinterlandlaw04_RoadParts.Pure := by
  intro W H A Y _ _ _ _
  refine Ev.rounds ?_
  unfold hinterlandlaw04_RoadParts.f
  refine Ev.bindc (large_eq _ _ _ _) ?_
  by_cases hfar : (A.length : Int) > 4000 ∨ (Y.length : Int) > 4000
  · exact Ev.pos (decide_eq_true hfar) known_then
  refine Ev.neg (fun h => hfar (of_decide_eq_true h)) ?_
  refine Ev.bind (Parts_ev (by omega) (by omega)) (Ev.bind (ref_Parts_ev (by omega) (by omega)) (Ev.pos (by first | rfl | trivial) (Ev.bind (same_ints_ev _ ?_) (Ev.pos (by first | rfl | trivial) known_then))))
  split
  · dsimp only; rw [parts_len]; omega
  · simp

end Go.Proofs.Ytbdekjjdojbokaa.Pure

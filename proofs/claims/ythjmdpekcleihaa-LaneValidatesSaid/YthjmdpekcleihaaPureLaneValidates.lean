/- Layer 17, LaneValidates (P17.1): which lanes are right. No conditions. -/
import Derived.Test.YthjmdpekcleihaaPSLaneValidates
import Derived.Test.YthjmdpekcleihaaLaneV
namespace Go.Proofs.Ythjmdpekcleihaa.Pure
set_option linter.unusedVariables false
set_option linter.unusedSimpArgs false
open Go.RowKit Go.Proofs.YthjmdpekcleihaaW.PrintWords Go.Proofs.Ythjmdpekcleihaa.P Go.Proofs.Ythjmdpekcleihaa

theorem LaneValidates : hinterlandlaw17_LaneValidates.Pure := by
 intro W H A Y C T _ _ _ _ _ _
 refine Ev.rounds ?_
 unfold hinterlandlaw17_LaneValidates.f
 refine Ev.bindc (far_eq W H A Y C T) ?_
 by_cases h : (A.length : Int) > 1100 ∨ (Y.length : Int) > 1100 ∨ (C.length : Int) > 1100 ∨ (T.length : Int) > 100
 ·exact Ev.pos (decide_eq_true h) (Ev.bind known_ev (Ev.pos rfl (Ev.now _)))
 exact Ev.neg (fun k => h (of_decide_eq_true k)) (Ev.bind (ref_lane_validate_ev (by omega) (by omega) (by omega) (by omega)) (Ev.bind (lane_validate_ev (by omega) (by omega) (by omega) (by omega)) (Ev.pos rfl known_then)))

end Go.Proofs.Ythjmdpekcleihaa.Pure

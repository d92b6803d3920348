/- Layer 17, LaneSteps (P17.3): a truck's tick. No conditions. -/
import Derived.Test.YthjmdpekcleihaaPSLaneSteps
import Derived.Test.YthjmdpekcleihaaLaneF
namespace Go.Proofs.Ythjmdpekcleihaa.Pure
set_option linter.unusedVariables false
set_option linter.unusedSimpArgs false
open Go.RowKit Go.Proofs.YthjmdpekcleihaaW.PrintWords Go.Proofs.Ythjmdpekcleihaa.P Go.Proofs.Ythjmdpekcleihaa

theorem LaneSteps : hinterlandlaw17_LaneSteps.Pure := by
 intro W H A Y C T i g _ _ _ _ _ _ _ _
 refine Ev.rounds ?_
 unfold hinterlandlaw17_LaneSteps.f
 refine Ev.bindc (far_eq W H A Y C T) ?_
 by_cases h : (A.length : Int) > 1100 ∨ (Y.length : Int) > 1100 ∨ (C.length : Int) > 1100 ∨ (T.length : Int) > 100
 ·exact Ev.pos (decide_eq_true h) known_then
 have hA : A.length ≤ 4000:=by omega
 have hY : Y.length ≤ 4000:=by omega
 have hC : C.length ≤ 4000:=by omega
 have hT : T.length ≤ 1000:=by omega
 refine Ev.neg (fun k => h (of_decide_eq_true k)) (Ev.bind (ref_Step_ev hA hY hC hT i g) (Ev.bind (Step_ev hA hY hC hT i g) (Ev.pos rfl (Ev.pos rfl ?_))))
 have s1 : Ev (fun k => hinterlandsame_Lane.f k (stAns W H A Y C T i g).1 (stAns W H A Y C T i g).2.1 (stAns W H A Y C T i g).2.2.1 (stAns W H A Y C T i g).2.2.2.1 (stAns W H A Y C T i g).2.2.2.2.1 (stAns W H A Y C T i g).2.2.2.2.2.1 (stAns W H A Y C T i g).1 (stAns W H A Y C T i g).2.1 (stAns W H A Y C T i g).2.2.1 (stAns W H A Y C T i g).2.2.2.1 (stAns W H A Y C T i g).2.2.2.2.1 (stAns W H A Y C T i g).2.2.2.2.2.1) true:=by
  unfold stAns
  repeat' split
  all_goals first | exact noL_same 0 | exact same_lane W H hA hY hC (by rw [stp_len];exact hT)
 exact Ev.bind s1 (Ev.pos rfl (Ev.bind known_ev (Ev.step (fun k => by simp only [hinterlandlaw17_LaneSteps.j0]) (Ev.now _))))

end Go.Proofs.Ythjmdpekcleihaa.Pure

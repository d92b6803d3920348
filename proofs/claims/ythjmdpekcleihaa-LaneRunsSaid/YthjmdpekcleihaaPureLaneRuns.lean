/- Layer 17, LaneRuns (P17.3): a tick of all trucks. No conditions. -/
import Derived.Test.YthjmdpekcleihaaPSLaneRuns
import Derived.Test.YthjmdpekcleihaaLaneH
namespace Go.Proofs.Ythjmdpekcleihaa.Pure
set_option linter.unusedVariables false
set_option linter.unusedSimpArgs false
open Go.RowKit Go.Proofs.YthjmdpekcleihaaW.PrintWords Go.Proofs.Ythjmdpekcleihaa.P Go.Proofs.Ythjmdpekcleihaa

theorem LaneRuns:hinterlandlaw17_LaneRuns.Pure := by
 intro W H A Y C T G _ _ _ _ _ _ _
 refine Ev.rounds ?_
 unfold hinterlandlaw17_LaneRuns.f
 refine Ev.bindc (far_eq W H A Y C T) ?_
 have j0:Ev (fun k=>hinterlandlaw17_LaneRuns.j0 k G true W H A Y C T) true:=by
  refine Ev.step (fun k=>by simp only [hinterlandlaw17_LaneRuns.j0];rfl) ?_
  exact Ev.pos trivial known_then
 by_cases h:(A.length:Int) > 1100 ∨ (Y.length:Int) > 1100 ∨ (C.length:Int) > 1100 ∨ (T.length:Int) > 100
 ·exact Ev.pos (decide_eq_true h) j0
 refine Ev.neg (fun k=>h (of_decide_eq_true k)) ?_
 by_cases hg:(G.length:Int) > 200
 ·rw [decide_eq_true hg];exact j0
 rw [decide_eq_false hg]
 have hA:A.length ≤ 4000:=by omega
 have hY:Y.length ≤ 4000:=by omega
 have hC:C.length ≤ 4000:=by omega
 have hT:T.length ≤ 1000:=by omega
 refine Ev.step (fun k=>by simp only [hinterlandlaw17_LaneRuns.j0];rfl) (Ev.neg (by simp) (Ev.bind (ref_Run_ev hA hY hC hT) (Ev.bind (Run_ev hA hY hC hT) (Ev.pos rfl ?_))))
 have s0:Ev (fun k=>hinterlandsame_List_int.f k (rnAns W H A Y C T G).2.2.2.2.2.2.1 (rnAns W H A Y C T G).2.2.2.2.2.2.1) true:=by
  refine same_ints _ ?_
  unfold rnAns
  repeat' split
  ·have:=(rn_len W H A Y C G G.length 0 T []).2
   show (rn W H A Y C G G.length 0 T []).2.length ≤ 4000
   simp only [List.length_nil] at this
   omega
  ·exact Nat.zero_le _
  ·exact Nat.zero_le _
 have s1:Ev (fun k=>hinterlandsame_Lane.f k (rnAns W H A Y C T G).1 (rnAns W H A Y C T G).2.1 (rnAns W H A Y C T G).2.2.1 (rnAns W H A Y C T G).2.2.2.1 (rnAns W H A Y C T G).2.2.2.2.1 (rnAns W H A Y C T G).2.2.2.2.2.1 (rnAns W H A Y C T G).1 (rnAns W H A Y C T G).2.1 (rnAns W H A Y C T G).2.2.1 (rnAns W H A Y C T G).2.2.2.1 (rnAns W H A Y C T G).2.2.2.2.1 (rnAns W H A Y C T G).2.2.2.2.2.1) true:=by
  unfold rnAns
  repeat' split
  all_goals first | exact noL_same 0 | exact same_lane W H hA hY hC (by rw [(rn_len W H A Y C G G.length 0 T []).1];exact hT)
 exact Ev.bind s0 (Ev.pos rfl (Ev.bind s1 (Ev.pos rfl (Ev.bind known_ev (Ev.step (fun k=>by simp only [hinterlandlaw17_LaneRuns.j1]) (Ev.now _))))))

end Go.Proofs.Ythjmdpekcleihaa.Pure

/- Layer 17, LaneEnters (P17.4): a truck that comes onto a street, and one that leaves it. No conditions. -/
import Derived.Test.YthjmdpekcleihaaPSLaneEnters
import Derived.Test.YthjmdpekcleihaaLaneA
namespace Go.Proofs.Ythjmdpekcleihaa.Pure
set_option linter.unusedVariables false
set_option linter.unusedSimpArgs false
open Go.RowKit Go.Proofs.YthjmdpekcleihaaW.PrintWords Go.Proofs.Ythjmdpekcleihaa.P Go.Proofs.Ythjmdpekcleihaa

theorem LaneEnters : hinterlandlaw17_LaneEnters.Pure := by
 intro W H A Y C T i t g _ _ _ _ _ _ _ _ _
 refine Ev.rounds ?_
 unfold hinterlandlaw17_LaneEnters.f
 refine Ev.bindc (far_eq W H A Y C T) ?_
 by_cases h : (A.length : Int) > 1100 ∨ (Y.length : Int) > 1100 ∨ (C.length : Int) > 1100 ∨ (T.length : Int) > 100
 ·exact Ev.pos (decide_eq_true h) known_then
 have hA : A.length ≤ 4000:=by omega
 have hY : Y.length ≤ 4000:=by omega
 have hC : C.length ≤ 4000:=by omega
 have hT : T.length ≤ 1000:=by omega
 refine Ev.neg (fun k => h (of_decide_eq_true k)) (Ev.bind (ref_enter_ev hA hY hC hT i t g) (Ev.bind (ref_leave_lane_ev hA hY hC hT i) (Ev.bind (enter_ev hA hY hC hT i t g) (Ev.bind (leave_ev hA hY hC hT i) (Ev.pos rfl (Ev.pos rfl ?_))))))
 have s1 : Ev (fun k => hinterlandsame_Lane.f k (enAns W H A Y C T i t g).1 (enAns W H A Y C T i t g).2.1 (enAns W H A Y C T i t g).2.2.1 (enAns W H A Y C T i t g).2.2.2.1 (enAns W H A Y C T i t g).2.2.2.2.1 (enAns W H A Y C T i t g).2.2.2.2.2.1 (enAns W H A Y C T i t g).1 (enAns W H A Y C T i t g).2.1 (enAns W H A Y C T i t g).2.2.1 (enAns W H A Y C T i t g).2.2.2.1 (enAns W H A Y C T i t g).2.2.2.2.1 (enAns W H A Y C T i t g).2.2.2.2.2.1) true:=by
  unfold enAns
  repeat' split
  all_goals first | exact noL_same _ | exact same_lane W H hA hY hC (by rw [List.length_set];exact hT)
 have s2 : Ev (fun k => hinterlandsame_Lane.f k (leAns W H A Y C T i).1 (leAns W H A Y C T i).2.1 (leAns W H A Y C T i).2.2.1 (leAns W H A Y C T i).2.2.2.1 (leAns W H A Y C T i).2.2.2.2.1 (leAns W H A Y C T i).2.2.2.2.2.1 (leAns W H A Y C T i).1 (leAns W H A Y C T i).2.1 (leAns W H A Y C T i).2.2.1 (leAns W H A Y C T i).2.2.2.1 (leAns W H A Y C T i).2.2.2.2.1 (leAns W H A Y C T i).2.2.2.2.2.1) true:=by
  unfold leAns
  repeat' split
  all_goals first | exact noL_same _ | exact same_lane W H hA hY hC (by rw [List.length_set];exact hT)
 exact Ev.bind s1 (Ev.pos rfl (Ev.bind s2 (Ev.pos rfl (Ev.bind known_ev (Ev.step (fun k => by simp only [hinterlandlaw17_LaneEnters.j0]) (Ev.now _))))))

end Go.Proofs.Ythjmdpekcleihaa.Pure

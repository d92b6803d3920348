/- Layer 15, OrderLates (P15.5): the program and the reference say alike how late a vehicle is. No conditions. -/
import Derived.Test.YthbjchicpebglaaPSOrderLates
import Derived.Test.YthbjchicpebglaaOrder2
namespace Go.Proofs.Ythbjchicpebglaa.Pure
set_option linter.unusedVariables false
set_option linter.unusedSimpArgs false
open Go.RowKit Go.Proofs.YthbjchicpebglaaW.PrintWords Go.Proofs.Ythbjchicpebglaa.P Go.Proofs.Ythbjchicpebglaa

theorem OrderLates : hinterlandlaw15_OrderLates.Pure := by
  intro l b a n _ _ _ _
  refine Ev.rounds ?_
  unfold hinterlandlaw15_OrderLates.f
  by_cases h : (l.length : Int) > 300
  · exact Ev.pos h (Ev.bind known_ev (Ev.now _))
  · exact Ev.neg h (Ev.bind (ref_late_ev l b a n) (Ev.bind (order_late_ev l b a n) (Ev.pos rfl (Ev.pos (by simp) (Ev.pos rfl (Ev.bind known_ev (Ev.now _)))))))

end Go.Proofs.Ythbjchicpebglaa.Pure

/- Layer 15, OrderValidates (P15.1): the program and the reference name the same first error of every list of orders, and the program answers the document's example. No conditions. -/
import Derived.Test.YthbjchicpebglaaPSOrderValidates
import Derived.Test.YthbjchicpebglaaOrder0
namespace Go.Proofs.Ythbjchicpebglaa.Pure
open Go.RowKit Go.Proofs.YthbjchicpebglaaW.PrintWords Go.Proofs.Ythbjchicpebglaa.P Go.Proofs.Ythbjchicpebglaa

theorem OrderValidates : hinterlandlaw15_OrderValidates.Pure := by
  intro l _
  refine Ev.rounds ?_
  unfold hinterlandlaw15_OrderValidates.f
  by_cases h : (l.length : Int) > 300
  · exact Ev.pos h (Ev.bind known_ev (Ev.pos rfl (Ev.now _)))
  · exact Ev.neg h (Ev.bind (ref_validate_ev l) (Ev.bind (order_validate_ev l) (Ev.pos rfl (Ev.bind known_ev (Ev.now _)))))

end Go.Proofs.Ythbjchicpebglaa.Pure

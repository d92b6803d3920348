/- Layer 15, OrderNexts (P15.2): the program and the reference name the same next order from every place of every list for every being. No conditions. -/
import Derived.Test.YthbjchicpebglaaPSOrderNexts
import Derived.Test.YthbjchicpebglaaOrder1
namespace Go.Proofs.Ythbjchicpebglaa.Pure
set_option linter.unusedVariables false
set_option linter.unusedSimpArgs false
open Go.RowKit Go.Proofs.YthbjchicpebglaaW.PrintWords Go.Proofs.Ythbjchicpebglaa.P Go.Proofs.Ythbjchicpebglaa

theorem OrderNexts : hinterlandlaw15_OrderNexts.Pure := by
  intro l a b0 b1 b2 b3 _ _ _ _ _ _
  refine Ev.rounds ?_
  unfold hinterlandlaw15_OrderNexts.f
  by_cases h : (l.length : Int) > 300
  · exact Ev.pos h (Ev.bind known_ev (Ev.now _))
  · exact Ev.neg h (Ev.bind (ref_next_ev l a b0 b1 b2 b3) (Ev.bind (order_next_ev l a b0 b1 b2 b3) (Ev.pos rfl (Ev.pos (by simp) (Ev.pos rfl (Ev.bind known_ev (Ev.now _)))))))

end Go.Proofs.Ythbjchicpebglaa.Pure

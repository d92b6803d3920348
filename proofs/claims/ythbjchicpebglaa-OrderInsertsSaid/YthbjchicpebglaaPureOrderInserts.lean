/- Layer 15, OrderInserts (P15.3): a list with an order more. No conditions. -/
import Derived.Test.YthbjchicpebglaaPSOrderInserts
import Derived.Test.YthbjchicpebglaaOrder6
namespace Go.Proofs.Ythbjchicpebglaa.Pure
set_option linter.unusedVariables false
set_option linter.unusedSimpArgs false
open Go.RowKit Go.Proofs.YthbjchicpebglaaW.PrintWords Go.Proofs.Ythbjchicpebglaa.P Go.Proofs.Ythbjchicpebglaa

theorem same_orders_ev (l : List S33) (hl : l.length ≤ 9223372036854775807) : Ev (fun k => api_Order_30.f k l l) true := by
 unfold api_Order_30.f
 refine Ev.pos (by first | rfl | trivial) ?_
 refine Ev.scan_all (g:=fun k i => api_Order_30.l0 k l l i) (n:=l.length) (p:=fun _ => True) ?_ ?_ l.length 0 (by omega) (fun _ _ _ => trivial)
 ·exact Ev.step (fun k => by simp only [api_Order_30.l0];rfl) (Ev.neg (by omega) (Ev.now _))
 ·intro i hi _ r hr
  refine Ev.step (fun k => by simp only [api_Order_30.l0];rfl) ?_
  refine Ev.pos (by omega) (Ev.pos (by omega) (Ev.pos (by omega) (Ev.neg (by simp) ?_)))
  rw [wrap_in (by omega) (by omega)]
  exact hr
theorem known_then : Ev (fun k => (hinterlandlaw15_known.f k).bind fun t => some t) true := Ev.bind known_ev (Ev.now _)

theorem OrderInserts : hinterlandlaw15_OrderInserts.Pure := by
 intro l a o0 o1 o2 o3 o4 o5 o6 o7 o8 _ _ _ _ _ _ _ _ _ _ _
 refine Ev.rounds ?_
 unfold hinterlandlaw15_OrderInserts.f
 by_cases h : (l.length : Int) > 300
 ·exact Ev.pos h known_then
 refine Ev.neg h ?_
 have hl:=insAns_len l a ⟨o0,o1,o2,o3,o4,o5,o6,o7,o8⟩
 exact Ev.bind (ref_insert_ev l a ⟨o0,o1,o2,o3,o4,o5,o6,o7,o8⟩) (Ev.bind (order_insert_ev l a ⟨o0,o1,o2,o3,o4,o5,o6,o7,o8⟩) (Ev.pos (by first | rfl | trivial) (Ev.bind (same_orders_ev _ (by omega)) (Ev.pos (by first | rfl | trivial) known_then))))

end Go.Proofs.Ythbjchicpebglaa.Pure

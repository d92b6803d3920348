/- Layer 15, OrderRemoves (P15.3): a list with an order less. No conditions. -/
import Derived.Test.YthbjchicpebglaaPSOrderRemoves
import Derived.Test.YthbjchicpebglaaOrder3
namespace Go.Proofs.Ythbjchicpebglaa.Pure
set_option linter.unusedVariables false
set_option linter.unusedSimpArgs false
open Go.RowKit Go.Proofs.YthbjchicpebglaaW.PrintWords Go.Proofs.Ythbjchicpebglaa.P Go.Proofs.Ythbjchicpebglaa

theorem same_orders_ev (l : List S33) (hl : l.length ≤ 9223372036854775807) : Ev (fun k => api_Order_30.f k l l) true := by
 unfold api_Order_30.f
 refine Ev.pos (by first | rfl | trivial) ?_
 refine Ev.scan_all (g:=fun k i => api_Order_30.l0 k l l i) (n:=l.length) (p:=fun _ => True) ?_ ?_ l.length 0 (by omega) (fun _ _ _ => trivial)
 ·exact Ev.step (fun k => by simp only [api_Order_30.l0];rfl) (Ev.neg (by omega) (Ev.now _))
 ·intro i hi _ r hr
  refine Ev.step (fun k => by simp only [api_Order_30.l0];rfl) ?_
  refine Ev.pos (by omega) (Ev.pos (by omega) (Ev.pos (by omega) (Ev.neg (by simp) ?_)))
  rw [wrap_in (by omega) (by omega)]
  exact hr
theorem known_then : Ev (fun k => (hinterlandlaw15_known.f k).bind fun t => some t) true := Ev.bind known_ev (Ev.now _)

theorem OrderRemoves : hinterlandlaw15_OrderRemoves.Pure := by
 intro l a _ _
 refine Ev.rounds ?_
 unfold hinterlandlaw15_OrderRemoves.f
 by_cases h : (l.length : Int) > 300
 ·exact Ev.pos h known_then
 refine Ev.neg h ?_
 have fin : ∀ v : List S33 × Int,v.1.length ≤ 1000 → Ev (fun k => hinterlandref15_Remove.f k l a) v → Ev (fun k => order_Remove.f k l a) v → Ev (fun k => (hinterlandref15_Remove.f k l a).bind fun bt191 => ((order_Remove.f k l a).bind fun bt195 => (if bt195.2 = bt191.2 then ((api_Order_30.f k bt195.1 bt191.1).bind fun t199 => (if t199 = true then ((hinterlandlaw15_known.f k).bind fun t200 => (some t200)) else (some false))) else (some false)))) true:=by
  intro v h1 hv hw
  exact Ev.bind hv (Ev.bind hw (Ev.pos (by first | rfl | trivial) (Ev.bind (same_orders_ev _ (by omega)) (Ev.pos (by first | rfl | trivial) known_then))))
 by_cases hv : vcode l = 0
 rotate_left
 ·refine fin ([],vcode l) (by simp) ?_ ?_
  ·unfold hinterlandref15_Remove.f
   exact Ev.bind (ref_validate_ev l) (Ev.neg hv (Ev.now _))
  ·unfold order_Remove.f
   exact Ev.bind (order_validate_ev l) (Ev.neg hv (Ev.now _))
 have hz:=vcode_zero.1 hv
 by_cases ha : 0 ≤ a ∧ a < (l.length : Int)
 ·obtain ⟨b,rfl⟩ : ∃ b : Nat,a = (b : Int):=⟨a.toNat,by omega⟩
  have hr:=ref_without_ev (l:=l) (a:=b) (by omega)
  have hw:=without_ev (l:=l) (a:=b) (by omega) (by omega)
  rw [without_same (by omega) hz.2.1] at hw
  have hb:=built_len l b l.length
  refine fin (built l b l.length,0) (by dsimp only;rw [hb];split <;> omega) ?_ ?_
  ·unfold hinterlandref15_Remove.f
   exact Ev.bind (ref_validate_ev l) (Ev.pos hv (Ev.neg (by omega) (Ev.neg (by omega) (Ev.bind hr (Ev.now _)))))
  ·unfold order_Remove.f
   refine Ev.bind (order_validate_ev l) (Ev.pos hv (Ev.bindc (within_eq _ _) ?_))
   rw [wrap_in (x:=(l.length : Int) - 1) (by omega) (by omega)]
   exact Ev.pos (decide_eq_true (by omega)) (Ev.bind hw (Ev.now _))
 ·refine fin ([],2) (by simp) ?_ ?_
  ·unfold hinterlandref15_Remove.f
   refine Ev.bind (ref_validate_ev l) (Ev.pos hv ?_)
   by_cases h0 : a < 0
   ·exact Ev.pos h0 (Ev.now _)
   ·exact Ev.neg h0 (Ev.pos (by omega) (Ev.now _))
  ·unfold order_Remove.f
   refine Ev.bind (order_validate_ev l) (Ev.pos hv (Ev.bindc (within_eq _ _) ?_))
   rw [wrap_in (x:=(l.length : Int) - 1) (by omega) (by omega)]
   exact Ev.neg (fun h => by have:=of_decide_eq_true h;omega) (Ev.now _)

end Go.Proofs.Ythbjchicpebglaa.Pure

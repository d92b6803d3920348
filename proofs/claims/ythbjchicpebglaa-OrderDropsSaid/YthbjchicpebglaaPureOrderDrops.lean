/- Layer 15, OrderDrops (P15.3): a list without the orders to a station. No conditions. -/
import Derived.Test.YthbjchicpebglaaPSOrderDrops
import Derived.Test.YthbjchicpebglaaOrder3
namespace Go.Proofs.Ythbjchicpebglaa.Pure
set_option linter.unusedVariables false
set_option linter.unusedSimpArgs false
open Go.RowKit Go.Proofs.YthbjchicpebglaaW.PrintWords Go.Proofs.Ythbjchicpebglaa.P Go.Proofs.Ythbjchicpebglaa

theorem same_orders_ev (l : List S33) (hl : l.length ≤ 9223372036854775807) : Ev (fun k => api_Order_30.f k l l) true := by
 unfold api_Order_30.f
 refine Ev.pos (by first | rfl | trivial) ?_
 refine Ev.scan_all (g:=fun k i => api_Order_30.l0 k l l i) (n:=l.length) (p:=fun _ => True) ?_ ?_ l.length 0 (by omega) (fun _ _ _ => trivial)
 ·exact Ev.step (fun k => by simp only [api_Order_30.l0];rfl) (Ev.neg (by omega) (Ev.now _))
 ·intro i hi _ r hr
  refine Ev.step (fun k => by simp only [api_Order_30.l0];rfl) ?_
  refine Ev.pos (by omega) (Ev.pos (by omega) (Ev.pos (by omega) (Ev.neg (by simp) ?_)))
  rw [wrap_in (by omega) (by omega)]
  exact hr
theorem known_then : Ev (fun k => (hinterlandlaw15_known.f k).bind fun t => some t) true := Ev.bind known_ev (Ev.now _)
def Goes (d : Int) (x : S33) : Prop := x.f0 = 0 ∧ x.f1 = d
theorem fx_goes {d : Int} {n a : Nat} {x : S33} : Goes d (fx n a x) ↔ Goes d x := by
 unfold fx
 split
 ·exact Iff.rfl
 ·split <;> exact Iff.rfl
theorem fx_ok {n a : Nat} {x : S33} (h : OkO x) : OkO (fx n a x) := by
 unfold fx
 split
 ·rename_i c
  unfold OkO at h ⊢
  rw [if_pos c.1] at h
  rw [if_pos c.1]
  exact h
 ·split
  ·rename_i c
   unfold OkO at h ⊢
   rw [if_pos c.1] at h
   rw [if_pos c.1]
   exact h
  ·exact h
theorem drops (d : Int) : ∀ (n : Nat) (L : List S33), L.length ≤ 300 → AllOk L → n ≤ L.length → (∀ j, n ≤ j → j < L.length → ¬ Goes d (L.getD j z33)) →
  ∃ R : List S33,R.length ≤ 300 ∧ (∀ j,0 ≤ j → j < R.length → ¬ Goes d (R.getD j z33)) ∧ Ev (fun k => order_Drop.l0 k d L ((n : Int) - 1)) (R,0) ∧ Ev (fun k => hinterlandref15_Drop.l0 k d L ((n : Int) - 1)) (R,0)
 | 0,L,hl,hok,hn,hg => ⟨L,hl,fun j _ hj => hg j (by omega) hj,Ev.step (fun k => by simp only [order_Drop.l0];rfl) (Ev.neg (by omega) (Ev.now _)),Ev.step (fun k => by simp only [hinterlandref15_Drop.l0];rfl) (Ev.neg (by omega) (Ev.now _))⟩
 | n + 1,L,hl,hok,hn,hg => by
  have e : ((n + 1 : Nat) : Int) - 1 = (n : Int):=by omega
  have ew : wrap64 ((n : Int) - 1) = (n : Int) - 1:=wrap_in (by omega) (by omega)
  rw [e]
  by_cases c : Goes d (L.getD n z33)
  ·have hb:=built_len L n L.length
   rw [if_pos (by omega)] at hb
   obtain ⟨R,h1,h2,h3,h4⟩:=drops d n (built L n L.length) (by omega)
    (fun j _ hj => by rw [built_at L n L.length j hj];exact fx_ok (hok _ (by omega) (by split <;> omega)))
    (by omega)
    (fun j h1 hj => by rw [built_at L n L.length j hj,if_neg (by omega),fx_goes];exact hg (j + 1) (by omega) (by omega))
   have hw:=without_ev (l:=L) (a:=n) hl (by omega)
   rw [without_same (by omega) hok] at hw
   refine ⟨R,h1,h2,Ev.step (fun k => by simp only [order_Drop.l0];rfl) ?_,Ev.step (fun k => by simp only [hinterlandref15_Drop.l0];rfl) ?_⟩
   ·rw [rdN,ew]
    exact Ev.pos (by omega) (Ev.pos (by omega) (Ev.pos (by omega) (Ev.pos c.1 (Ev.pos c.2 (Ev.bind hw h3)))))
   ·rw [rdN,ew]
    exact Ev.pos (by omega) (Ev.pos (by omega) (Ev.pos (by omega) (Ev.pos c.1 (Ev.pos c.2 (Ev.bind (ref_without_ev hl) h4)))))
  ·obtain ⟨R,h1,h2,h3,h4⟩:=drops d n L hl hok (by omega) (fun j h1 hj => by
    by_cases e2 : j = n
    ·rw [e2];exact c
    ·exact hg j (by omega) hj)
   refine ⟨R,h1,h2,Ev.step (fun k => by simp only [order_Drop.l0];rfl) ?_,Ev.step (fun k => by simp only [hinterlandref15_Drop.l0];rfl) ?_⟩
   ·rw [rdN,ew]
    refine Ev.pos (by omega) (Ev.pos (by omega) (Ev.pos (by omega) ?_))
    by_cases c0 : (L.getD n z33).f0 = 0
    ·exact Ev.pos c0 (Ev.neg (fun h => c ⟨c0,h⟩) h3)
    ·exact Ev.neg c0 h3
   ·rw [rdN,ew]
    refine Ev.pos (by omega) (Ev.pos (by omega) (Ev.pos (by omega) ?_))
    by_cases c0 : (L.getD n z33).f0 = 0
    ·exact Ev.pos c0 (Ev.neg (fun h => c ⟨c0,h⟩) h4)
    ·exact Ev.neg c0 h4
theorem none_left (d : Int) (R : List S33) (hR : R.length ≤ 300) (h : ∀ j, 0 ≤ j → j < R.length → ¬ Goes d (R.getD j z33)) : Ev (fun k => hinterlandlaw15_OrderDrops.j0 k d R false) true := by
 refine Ev.step (fun k => by simp only [hinterlandlaw15_OrderDrops.j0];rfl) (Ev.neg (by simp) ?_)
 refine Ev.scan_all (g:=fun k i => hinterlandlaw15_OrderDrops.l0 k d R i) (n:=R.length) (p:=fun j => ¬ Goes d (R.getD j z33)) ?_ ?_ R.length 0 (by omega) h
 ·exact Ev.step (fun k => by simp only [hinterlandlaw15_OrderDrops.l0];rfl) (Ev.neg (by omega) known_then)
 ·intro i hi hp r hr
  refine Ev.step (fun k => by simp only [hinterlandlaw15_OrderDrops.l0];rfl) (Ev.pos (by omega) (Ev.pos (by omega) ?_))
  rw [rdN,wrap_in (x:=(i : Int) + 1) (by omega) (by omega)]
  by_cases c0 : (R.getD i z33).f0 = 0
  ·exact Ev.pos c0 (Ev.neg (fun h => hp ⟨c0,h⟩) hr)
  ·exact Ev.neg c0 hr

theorem OrderDrops : hinterlandlaw15_OrderDrops.Pure := by
 intro l d _ _
 refine Ev.rounds ?_
 unfold hinterlandlaw15_OrderDrops.f
 by_cases h : (l.length : Int) > 300
 ·exact Ev.pos h known_then
 refine Ev.neg h ?_
 have fin : ∀ v : List S33 × Int,v.1.length ≤ 300 → (∀ j,0 ≤ j → j < v.1.length → ¬ Goes d (v.1.getD j z33)) → Ev (fun k => hinterlandref15_Drop.f k l d) v → Ev (fun k => order_Drop.f k l d) v → Ev (fun k => (hinterlandref15_Drop.f k l d).bind fun bt223 => ((order_Drop.f k l d).bind fun bt227 => (if bt227.2 = bt223.2 then ((api_Order_30.f k bt227.1 bt223.1).bind fun t231 => (hinterlandlaw15_OrderDrops.j0 k d bt227.1 (!t231))) else (hinterlandlaw15_OrderDrops.j0 k d bt227.1 true)))) true:=by
  intro v h1 h2 hv hw
  exact Ev.bind hv (Ev.bind hw (Ev.pos (by first | rfl | trivial) (Ev.bind (same_orders_ev _ (by omega)) (none_left d v.1 h1 h2))))
 by_cases hv : vcode l = 0
 ·have hz:=vcode_zero.1 hv
  obtain ⟨R,h1,h2,h3,h4⟩:=drops d l.length l (by omega) hz.2.1 (by omega) (fun j h1 hj => by omega)
  refine fin (R,0) h1 h2 ?_ ?_
  ·unfold hinterlandref15_Drop.f
   refine Ev.bind (ref_validate_ev l) (Ev.pos hv (Ev.bindc rfl (Ev.pos (by simp;omega) ?_)))
   rw [wrap_in (x:=(l.length : Int) - 1) (by omega) (by omega),List.nil_append]
   exact h4
  ·unfold order_Drop.f
   refine Ev.bind (order_validate_ev l) (Ev.pos hv (Ev.bindc (show order_copied.f l = some l from by unfold order_copied.f;rw [if_pos (by omega)]) ?_))
   rw [wrap_in (x:=(l.length : Int) - 1) (by omega) (by omega)]
   exact h3
 ·refine fin ([],vcode l) (by simp) (fun j _ hj => by simp at hj) ?_ ?_
  ·unfold hinterlandref15_Drop.f
   exact Ev.bind (ref_validate_ev l) (Ev.neg hv (Ev.now _))
  ·unfold order_Drop.f
   exact Ev.bind (order_validate_ev l) (Ev.neg hv (Ev.now _))

end Go.Proofs.Ythbjchicpebglaa.Pure

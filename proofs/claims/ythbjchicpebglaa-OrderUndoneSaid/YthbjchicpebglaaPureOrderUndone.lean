/- Layer 15, OrderUndone (consequence; P15.3): an order that is put in and taken away again leaves the list as it was. No conditions. -/
import Derived.Test.YthbjchicpebglaaPSOrderUndone
import Derived.Test.YthbjchicpebglaaOrder4
import Derived.Test.YthbjchicpebglaaOrder7
namespace Go.Proofs.Ythbjchicpebglaa.Pure
set_option linter.unusedVariables false
set_option linter.unusedSimpArgs false
open Go.RowKit Go.Proofs.YthbjchicpebglaaW.PrintWords Go.Proofs.Ythbjchicpebglaa.P Go.Proofs.Ythbjchicpebglaa

theorem same_orders_ev (l : List S33) (hl : l.length ≤ 9223372036854775807) : Ev (fun k => api_Order_30.f k l l) true := by
 unfold api_Order_30.f
 refine Ev.pos (by first | rfl | trivial) ?_
 refine Ev.scan_all (g:=fun k i => api_Order_30.l0 k l l i) (n:=l.length) (p:=fun _ => True) ?_ ?_ l.length 0 (by omega) (fun _ _ _ => trivial)
 ·exact Ev.step (fun k => by simp only [api_Order_30.l0];rfl) (Ev.neg (by omega) (Ev.now _))
 ·intro i hi _ r hr
  refine Ev.step (fun k => by simp only [api_Order_30.l0];rfl) ?_
  refine Ev.pos (by omega) (Ev.pos (by omega) (Ev.pos (by omega) (Ev.neg (by simp) ?_)))
  rw [wrap_in (by omega) (by omega)]
  exact hr
theorem known_then : Ev (fun k => (hinterlandlaw15_known.f k).bind fun t => some t) true := Ev.bind known_ev (Ev.now _)
theorem insAns_ok {l : List S33} {a : Int} {o : S33} (h : (insAns l a o).2 = 0) : ∃ n : Nat, a = n ∧ vcode l = 0 ∧ n ≤ l.length ∧ l.length < 40 ∧ vcode (insd l n o) = 0 ∧ insAns l a o = (insd l n o, 0) := by
 unfold insAns at h ⊢
 by_cases hv : vcode l = 0
 rotate_left
 ·rw [if_neg hv] at h;exact absurd h hv
 rw [if_pos hv] at h ⊢
 by_cases ha : 0 ≤ a ∧ a ≤ (l.length : Int)
 rotate_left
 ·rw [if_neg ha] at h;exact absurd h (by simp)
 rw [if_pos ha] at h ⊢
 by_cases h40 : l.length < 40
 rotate_left
 ·rw [if_neg h40] at h;exact absurd h (by simp)
 rw [if_pos h40] at h ⊢
 obtain ⟨n,rfl⟩:=Int.eq_ofNat_of_zero_le ha.1
 rw [Int.toNat_natCast] at h ⊢
 by_cases hw : vcode (insd l n o) = 0
 rotate_left
 ·rw [if_neg hw] at h;exact absurd h hw
 rw [if_pos hw]
 exact ⟨n,rfl,hv,by omega,h40,hw,rfl⟩
theorem fx_ux {x : S33} (n a : Nat) (h0 : 0 ≤ x.f6) (h1 : x.f6 < 40) : fx n a (ux a x) = x := by
 unfold ux
 by_cases c : x.f0 = 2 ∧ x.f6 ≥ (a : Int)
 ·rw [if_pos c]
  unfold fx
  have e : wrap64 (x.f6 + 1) = x.f6 + 1:=wrap_in (by omega) (by omega)
  rw [if_pos ⟨c.1,by dsimp only;omega⟩]
  dsimp only
  rw [e,show x.f6 + 1 - 1 = x.f6 by omega,wrap_in (by omega) (by omega)]
 ·rw [if_neg c]
  unfold fx
  rw [if_neg (fun h => c ⟨h.1,by omega⟩),if_neg (fun h => c ⟨h.1,by omega⟩)]
theorem undone {l : List S33} {a : Nat} (o : S33) (ha : a ≤ l.length) (h40 : l.length ≤ 40) (ht : AllTo l) : built (insd l a o) a (insd l a o).length = l := by
 have hi:=insd_len o ha
 have hb : (built (insd l a o) a (insd l a o).length).length = l.length:=by rw [built_len,hi,if_pos (by omega)];omega
 refine list_ext hb (fun j hj => ?_)
 rw [built_at _ _ _ j hj,insd_at o ha j (by omega)]
 have:=ht j (by omega) (by omega)
 exact fx_ux _ _ this.1 (by omega)

theorem OrderUndone : hinterlandlaw15_OrderUndone.Pure := by
 intro l a o0 o1 o2 o3 o4 o5 o6 o7 o8 _ _ _ _ _ _ _ _ _ _ _
 refine Ev.rounds ?_
 unfold hinterlandlaw15_OrderUndone.f
 by_cases h : (l.length : Int) > 300
 ·exact Ev.pos h known_then
 refine Ev.neg h (Ev.bind (order_insert_ev l a ⟨o0,o1,o2,o3,o4,o5,o6,o7,o8⟩) ?_)
 obtain ⟨o,ho⟩ : ∃ o : S33,o = ⟨o0,o1,o2,o3,o4,o5,o6,o7,o8⟩:=⟨_,rfl⟩
 rw [← ho]
 by_cases he : (insAns l a o).2 = 0
 rotate_left
 ·exact Ev.neg he known_then
 obtain ⟨n,rfl,hv,hn,h40,hw,e⟩:=insAns_ok he
 rw [e]
 refine Ev.pos rfl ?_
 have hi:=insd_len (l:=l) (a:=n) o hn
 have hz:=vcode_zero.1 hw
 have hz0:=vcode_zero.1 hv
 have hwo:=without_ev (l:=insd l n o) (a:=n) (by omega) (by omega)
 rw [without_same (by omega) hz.2.1,undone o hn (by omega) hz0.2.2] at hwo
 have hrem : Ev (fun k => order_Remove.f k (insd l n o) (n : Int)) (l,0):=by
  unfold order_Remove.f
  refine Ev.bind (order_validate_ev _) (Ev.pos hw (Ev.bindc (within_eq _ _) ?_))
  rw [wrap_in (x:=((insd l n o).length : Int) - 1) (by omega) (by omega)]
  exact Ev.pos (decide_eq_true (by omega)) (Ev.bind hwo (Ev.now _))
 refine Ev.bind hrem (Ev.pos rfl (Ev.bind (same_orders_ev l (by omega)) (Ev.pos (by first | rfl | trivial) ?_)))
 refine Ev.pos ?_ known_then
 dsimp only
 rw [hi,wrap_in (by omega) (by omega)]
 omega

end Go.Proofs.Ythbjchicpebglaa.Pure

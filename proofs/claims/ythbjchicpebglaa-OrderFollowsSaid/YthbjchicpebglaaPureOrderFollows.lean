/- Layer 15, OrderFollows (consequence; P15.2 to P15.4): a vehicle goes on to the same order when an order is put in that it does not stand at. No conditions. -/
import Derived.Test.YthbjchicpebglaaPSOrderFollows
import Derived.Test.YthbjchicpebglaaOrder4
import Derived.Test.YthbjchicpebglaaOrder5
namespace Go.Proofs.Ythbjchicpebglaa.Pure
set_option linter.unusedVariables false
set_option linter.unusedSimpArgs false
open Go.RowKit Go.Proofs.YthbjchicpebglaaW.PrintWords Go.Proofs.Ythbjchicpebglaa.P Go.Proofs.Ythbjchicpebglaa

theorem known_then : Ev (fun k => (hinterlandlaw15_known.f k).bind fun t => some t) true := Ev.bind known_ev (Ev.now _)
theorem insAns_ok {l : List S33} {a : Int} {o : S33} (h : (insAns l a o).2 = 0) : ∃ n : Nat, a = n ∧ vcode l = 0 ∧ n ≤ l.length ∧ l.length < 40 ∧ vcode (insd l n o) = 0 ∧ insAns l a o = (insd l n o, 0) := by
 unfold insAns at h ⊢
 by_cases hv : vcode l = 0
 rotate_left
 ·rw [if_neg hv] at h;exact absurd h hv
 rw [if_pos hv] at h ⊢
 by_cases ha : 0 ≤ a ∧ a ≤ (l.length : Int)
 rotate_left
 ·rw [if_neg ha] at h;exact absurd h (by simp)
 rw [if_pos ha] at h ⊢
 by_cases h40 : l.length < 40
 rotate_left
 ·rw [if_neg h40] at h;exact absurd h (by simp)
 rw [if_pos h40] at h ⊢
 obtain ⟨n,rfl⟩:=Int.eq_ofNat_of_zero_le ha.1
 rw [Int.toNat_natCast] at h ⊢
 by_cases hw : vcode (insd l n o) = 0
 rotate_left
 ·rw [if_neg hw] at h;exact absurd h hw
 rw [if_pos hw]
 exact ⟨n,rfl,hv,by omega,h40,hw,rfl⟩
theorem next_self {l : List S33} {m : Nat} (b0 b1 b2 b3 : Int) (hv : vcode l = 0) (hm : m < l.length) (hj : (l.getD m z33).f0 ≠ 2) : nextAns l (m : Int) b0 b1 b2 b3 = ((m : Int), true, 0) := by
 have : nextOf l m b0 b1 b2 b3 = ((m : Int),true):=by unfold nextOf firstIn;rw [if_neg hj]
 rw [nextAns,if_pos hv,if_neg (by omega),if_pos (by omega),Int.toNat_natCast,this]

theorem OrderFollows : hinterlandlaw15_OrderFollows.Pure := by
 intro l a p o0 o1 o2 o3 o4 o5 o6 o7 o8 b0 b1 b2 b3 _ _ _ _ _ _ _ _ _ _ _ _ _ _ _ _
 refine Ev.rounds ?_
 unfold hinterlandlaw15_OrderFollows.f
 by_cases h : (l.length : Int) > 300
 ·exact Ev.pos h known_then
 refine Ev.neg h (Ev.bind (order_insert_ev l p ⟨o0,o1,o2,o3,o4,o5,o6,o7,o8⟩) (Ev.bind (order_next_ev l a b0 b1 b2 b3) ?_))
 obtain ⟨o,ho⟩ : ∃ o : S33,o = ⟨o0,o1,o2,o3,o4,o5,o6,o7,o8⟩:=⟨_,rfl⟩
 rw [← ho]
 have out : Ev (fun k => hinterlandlaw15_OrderFollows.j0 k l a p (insAns l p o).1 true b0 b1 b2 b3) true:=by
  refine Ev.step (fun k => by simp only [hinterlandlaw15_OrderFollows.j0];rfl) ?_
  exact Ev.pos (by trivial) known_then
 by_cases he : (insAns l p o).2 = 0
 rotate_left
 ·exact Ev.neg he out
 refine Ev.pos he ?_
 by_cases hf : (nextAns l a b0 b1 b2 b3).2.2 = 0
 rotate_left
 ·exact Ev.neg hf out
 refine Ev.pos hf ?_
 cases his : (nextAns l a b0 b1 b2 b3).2.1 with
 | false => exact Ev.neg (by simp) out
 | true =>
  refine Ev.pos (by trivial) ?_
  by_cases hka : (nextAns l a b0 b1 b2 b3).1 = a
  rotate_left
  ·rw [show ((nextAns l a b0 b1 b2 b3).1 != a) = true from bne_iff_ne.mpr hka];exact out
  rw [show ((nextAns l a b0 b1 b2 b3).1 != a) = false from bne_eq_false_iff_eq.mpr hka]
  obtain ⟨n,rfl,hv,hn,h40,hw,e⟩:=insAns_ok he
  obtain ⟨_,hk,ht⟩:=vcode_zero.1 hv
  have h0 : l.length ≠ 0:=by
   intro h0
   rw [nextAns,if_pos hv,if_pos h0] at his
   exact absurd his (by simp)
  have ha : 0 ≤ a ∧ a < (l.length : Int):=by
   apply Classical.byContradiction
   intro ha
   rw [nextAns,if_pos hv,if_neg h0,if_neg ha] at his
   exact absurd his (by simp)
  obtain ⟨m,rfl⟩:=Int.eq_ofNat_of_zero_le ha.1
  have hm : m < l.length:=by omega
  have e1 : nextAns l (m : Int) b0 b1 b2 b3 = ((nextOf l m b0 b1 b2 b3).1,(nextOf l m b0 b1 b2 b3).2,0):=by
   rw [nextAns,if_pos hv,if_neg h0,if_pos ha,Int.toNat_natCast]
  rw [e1] at his hka
  obtain ⟨m',hm1,hml,hj⟩:=firstIn_true (b0:=b0) (b1:=b1) (b2:=b2) (b3:=b3) ht (l.length + 1) m (nextOf l m b0 b1 b2 b3).1 hm (Prod.ext rfl his)
  obtain rfl : m' = m:=by
   have : (m' : Int) = (m : Int):=by rw [← hm1];exact hka
   omega
  have hi:=insd_len (l:=l) (a:=n) o hn
  have hat:=insd_at (l:=l) (a:=n) o hn m' hm
  have hux : ux n (l.getD m' z33) = l.getD m' z33:=by unfold ux;rw [if_neg (fun h => hj h.1)]
  rw [hux] at hat
  obtain ⟨t,et⟩ : ∃ t,t = (if m' < n then m' else m' + 1):=⟨_,rfl⟩
  rw [← et] at hat
  have htl : t < (insd l n o).length:=by rw [hi,et];split <;> omega
  have hnext:=next_self b0 b1 b2 b3 hw htl (by rw [hat];exact hj)
  rw [e]
  refine Ev.step (fun k => by simp only [hinterlandlaw15_OrderFollows.j0];rfl) (Ev.neg (by simp) ?_)
  have hmov : Ev (fun k => order_Moved.f k (m' : Int) (n : Int) true ((insd l n o).length : Int)) (t : Int):=by
   unfold order_Moved.f
   refine Ev.bindc (within_eq _ _) (Ev.pos (decide_eq_true (by omega)) (Ev.bindc (within_eq _ _) (Ev.pos (decide_eq_true (by omega)) (Ev.bindc (within_eq _ _) ?_))))
   rw [show (!decide (0 ≤ ((insd l n o).length : Int) ∧ ((insd l n o).length : Int) ≤ 1000000)) = false by rw [decide_eq_true (by omega)];rfl]
   refine Ev.step (fun k => by simp only [order_Moved.j0];rfl) (Ev.neg (by simp) (Ev.pos (by trivial) ?_))
   by_cases c : m' < n
   ·rw [if_pos c] at et;rw [et];exact Ev.neg (by omega) (Ev.now _)
   ·rw [if_neg c] at et
    refine Ev.pos (by omega) (Ev.eq (Ev.now _) ?_)
    rw [wrap_in (by omega) (by omega),et];omega
  refine Ev.bind hmov (Ev.bind (order_next_ev (insd l n o) (t : Int) b0 b1 b2 b3) ?_)
  rw [hnext]
  refine Ev.pos rfl (Ev.pos rfl (Ev.pos rfl (Ev.pos (by omega) (Ev.pos (by first | omega | (dsimp only;omega)) (Ev.pos (by omega) (Ev.pos (by omega) (Ev.pos (by omega) ?_)))))))
  rw [rdN,rdN,hat]
  exact Ev.pos (by simp) known_then

end Go.Proofs.Ythbjchicpebglaa.Pure

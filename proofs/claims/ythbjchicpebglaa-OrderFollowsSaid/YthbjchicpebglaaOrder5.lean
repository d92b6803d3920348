/- What the program's functions of layer 15 (orders) come to, in plain words: which order comes next. No conditions. -/
import Derived.Test.YthbjchicpebglaaPx0
import Derived.Test.YthbjchicpebglaaPx2
import Derived.Test.YthbjchicpebglaaPx3
import Derived.Test.YthbjchicpebglaaPx4
import Derived.Test.YthbjchicpebglaaEvKit
import Derived.Test.YthbjchicpebglaaVOpen
import Derived.Test.YthbjchicpebglaaOrder0
namespace Go.Proofs.Ythbjchicpebglaa.Pure
set_option linter.unusedVariables false
set_option linter.unusedSimpArgs false
open Go.RowKit Go.Proofs.YthbjchicpebglaaW.PrintWords Go.Proofs.Ythbjchicpebglaa.P Go.Proofs.Ythbjchicpebglaa
def holdsB (x : S33) (b0 b1 b2 b3 : Int) : Bool :=
 if x.f4 = 1 then decide (x.f5 ≤ b0) else if x.f4 = 2 then decide (x.f5 ≤ b1) else if x.f4 = 3 then decide (b2 < x.f5) else if x.f4 = 4 then decide (x.f5 ≤ b3) else true
theorem order_holds_eq (x : S33) (b0 b1 b2 b3 : Int) (h : OkO x) : order_holds.f x.f0 x.f1 x.f2 x.f3 x.f4 x.f5 x.f6 x.f7 x.f8 b0 b1 b2 b3 = some (holdsB x b0 b1 b2 b3) := by
 obtain ⟨_,_,_,_,h4,_⟩:=h
 unfold order_holds.f holdsB
 by_cases e0 : x.f4 = 0
 ·simp [e0]
 ·rw [if_neg e0]
  by_cases e1 : x.f4 = 1
  ·simp [e1]
  by_cases e2 : x.f4 = 2
  ·simp [e2]
  by_cases e3 : x.f4 = 3
  ·simp [e3]
  have e4 : x.f4 = 4:=by omega
  simp [e4]
section
variable (l : List S33) (b0 b1 b2 b3 : Int)
def nx (i : Nat) : Nat := if holdsB (l.getD i z33) b0 b1 b2 b3 = true then (l.getD i z33).f6.toNat else if i + 1 < l.length then i + 1 else 0
def firstIn : Nat → Nat → Int × Bool
 | 0,_ => (0,false)
 | d + 1,a => if (l.getD a z33).f0 = 2 then firstIn d (nx l b0 b1 b2 b3 a) else ((a : Int),true)
end
theorem nx_lt {l : List S33} (b0 b1 b2 b3 : Int) (ho : AllTo l) {i : Nat} (hi : i < l.length) : nx l b0 b1 b2 b3 i < l.length := by
 unfold nx
 have:=ho i (by omega) hi
 split
 ·omega
 ·split <;> omega
theorem firstIn_true {l : List S33} {b0 b1 b2 b3 : Int} (ho : AllTo l) : ∀ d a r, a < l.length → firstIn l b0 b1 b2 b3 d a = (r, true) → ∃ m : Nat, r = m ∧ m < l.length ∧ (l.getD m z33).f0 ≠ 2
 | 0,a,r,_,h => by simp [firstIn] at h
 | d + 1,a,r,ha,h => by
  unfold firstIn at h
  by_cases e : (l.getD a z33).f0 = 2
  ·rw [if_pos e] at h
   exact firstIn_true ho d _ r (nx_lt _ _ _ _ ho ha) h
  ·rw [if_neg e] at h
   injection h with h1 h2
   exact ⟨a,h1.symm,ha,e⟩
theorem firstIn_ring {l : List S33} {b0 b1 b2 b3 : Int} {S : Nat → Prop} (hS : ∀ x, S x → (l.getD x z33).f0 = 2 ∧ S (nx l b0 b1 b2 b3 x)) : ∀ d a, S a → firstIn l b0 b1 b2 b3 d a = (0, false)
 | 0,_,_ => rfl
 | d + 1,a,h => by
  unfold firstIn
  rw [if_pos (hS a h).1]
  exact firstIn_ring hS d _ (hS a h).2
theorem tmod_next (l : List S33) (i : Nat) (hi : i < l.length) (h40 : l.length ≤ 40) : Int.tmod (wrap64 ((i : Int) + 1)) (l.length : Int) = ((if i + 1 < l.length then i + 1 else 0 : Nat) : Int) := by
 rw [wrap_in (by omega) (by omega)]
 rw [Int.tmod_eq_emod_of_nonneg (by omega)]
 split
 ·rw [Int.emod_eq_of_lt (by omega) (by omega)];omega
 ·have : (i : Int) + 1 = l.length:=by omega
  rw [this,Int.emod_self];rfl
theorem follow_ev {l : List S33} (h40 : l.length ≤ 40) (hk : AllOk l) (ho : AllTo l) (b0 b1 b2 b3 : Int) : ∀ d t a, t + d = l.length + 1 → a < l.length →
  Ev (fun k => order_follow.l0 k l (a : Int) ((l.length : Int) + 1) (t : Int) b0 b1 b2 b3) (firstIn l b0 b1 b2 b3 d a)
 | 0,t,a,h,ha => by
  refine Ev.step (fun k => by simp only [order_follow.l0];rfl) ?_
  exact Ev.neg (by omega) (Ev.now _)
 | d + 1,t,a,h,ha => by
  refine Ev.step (fun k => by simp only [order_follow.l0];rfl) ?_
  refine Ev.pos (by omega) (Ev.pos (by omega) (Ev.pos (by omega) ?_))
  rw [rdN]
  unfold firstIn
  by_cases e : (l.getD a z33).f0 = 2
  ·refine Ev.pos e ?_
   rw [if_pos e]
   refine Ev.bindc (order_holds_eq _ _ _ _ _ (hk a (by omega) ha)) ?_
   have ih:=follow_ev h40 hk ho b0 b1 b2 b3 d (t + 1) (nx l b0 b1 b2 b3 a) (by omega) (nx_lt _ _ _ _ ho ha)
   have ht:=ho a (by omega) ha
   unfold nx at ih
   rw [wrap_in (x:=(t : Int) + 1) (by omega) (by omega)]
   by_cases hh : holdsB (l.getD a z33) b0 b1 b2 b3 = true
   ·refine Ev.pos hh ?_
    unfold nx
    rw [if_pos hh] at ih ⊢
    rw [Int.toNat_of_nonneg ht.1] at ih
    exact ih
   ·refine Ev.neg hh (Ev.neg (by omega) ?_)
    unfold nx
    rw [if_neg hh] at ih ⊢
    rw [tmod_next l a ha h40]
    exact ih
  ·refine Ev.neg e ?_
   rw [if_neg e]
   exact Ev.now _
def nextOf (l : List S33) (a : Nat) (b0 b1 b2 b3 : Int) : Int × Bool := firstIn l b0 b1 b2 b3 (l.length + 1) a
theorem follow_at {l : List S33} (h40 : l.length ≤ 40) (hk : AllOk l) (ho : AllTo l) (b0 b1 b2 b3 : Int) (a : Nat) (ha : a < l.length) : Ev (fun k => order_follow.f k l (a : Int) b0 b1 b2 b3) (nextOf l a b0 b1 b2 b3) := by
 unfold order_follow.f
 rw [wrap_in (by omega) (by omega)]
 exact follow_ev h40 hk ho b0 b1 b2 b3 (l.length + 1) 0 a (by omega) ha
open Classical in
noncomputable def nextAns (l : List S33) (a b0 b1 b2 b3 : Int) : Int × Bool × Int :=
 if vcode l = 0 then (if l.length = 0 then (0,false,0) else if 0 ≤ a ∧ a < (l.length : Int) then ((nextOf l a.toNat b0 b1 b2 b3).1,(nextOf l a.toNat b0 b1 b2 b3).2,0) else (0,false,2)) else (0,false,vcode l)
theorem order_check_ev (l : List S33) (a : Int) : Ev (fun k => order_check.f k l a) (if vcode l = 0 then (if l.length = 0 then 0 else if 0 ≤ a ∧ a < (l.length : Int) then 0 else 2) else vcode l) := by
 unfold order_check.f
 refine Ev.bind (order_validate_ev l) ?_
 by_cases h : vcode l = 0
 ·obtain ⟨h40,hk,ho⟩:=vcode_zero.1 h
  by_cases h0 : l.length = 0
  ·exact Ev.eq (Ev.pos h (Ev.neg (by omega) (Ev.now _))) (by rw [if_pos h,if_pos h0])
  ·by_cases ha : 0 ≤ a ∧ a < (l.length : Int)
   ·refine Ev.eq (Ev.pos h (Ev.pos (by omega) (Ev.bindc (within_eq _ _) (Ev.pos (decide_eq_true ?_) (Ev.now _))))) (by rw [if_pos h,if_neg h0,if_pos ha])
    rw [wrap_in (by omega) (by omega)]
    omega
   ·refine Ev.eq (Ev.pos h (Ev.pos (by omega) (Ev.bindc (within_eq _ _) (Ev.neg (fun h => ha ?_) (Ev.now _))))) (by rw [if_pos h,if_neg h0,if_neg ha])
    have:=of_decide_eq_true h
    rw [wrap_in (by omega) (by omega)] at this
    omega
 ·exact Ev.eq (Ev.neg h (Ev.now _)) (by rw [if_neg h])
theorem order_next_ev (l : List S33) (a b0 b1 b2 b3 : Int) : Ev (fun k => order_Next.f k l a b0 b1 b2 b3) (nextAns l a b0 b1 b2 b3) := by
 unfold order_Next.f
 refine Ev.bind (order_check_ev l a) ?_
 unfold nextAns
 by_cases h : vcode l = 0
 ·obtain ⟨h40,hk,ho⟩:=vcode_zero.1 h
  by_cases h0 : l.length = 0
  ·simp only [h,h0,if_true]
   exact Ev.now _
  ·by_cases ha : 0 ≤ a ∧ a < (l.length : Int)
   ·simp only [h,h0,ha,and_self,if_true,if_false]
    refine Ev.neg (by omega) ?_
    obtain ⟨n,rfl⟩:=Int.eq_ofNat_of_zero_le ha.1
    exact Ev.bind (follow_at h40 hk ho b0 b1 b2 b3 n (by omega)) (Ev.now _)
   ·simp only [h,h0,ha,if_true,if_false]
    exact Ev.neg (by omega) (Ev.now _)
 ·simp only [h,if_false]
  exact Ev.now _

end Go.Proofs.Ythbjchicpebglaa.Pure

/- Layer 15: a list with an order more: the program goes over the jumps of a copy and puts the order in, the reference builds the list anew. No conditions. -/
import Derived.Test.YthbjchicpebglaaPx0
import Derived.Test.YthbjchicpebglaaPx7
import Derived.Test.YthbjchicpebglaaPx8
import Derived.Test.YthbjchicpebglaaPx9
import Derived.Test.YthbjchicpebglaaOrder0
namespace Go.Proofs.Ythbjchicpebglaa.Pure
set_option linter.unusedVariables false
set_option linter.unusedSimpArgs false
open Go.RowKit Go.Proofs.YthbjchicpebglaaW.PrintWords Go.Proofs.Ythbjchicpebglaa.P Go.Proofs.Ythbjchicpebglaa

def ux (a : Nat) (x : S33) : S33 :=
 if x.f0 = 2 ∧ x.f6 ≥ (a : Int) then ⟨x.f0,x.f1,x.f2,x.f3,x.f4,x.f5,wrap64 (x.f6 + 1),x.f7,x.f8⟩ else x
def insd (l : List S33) (a : Nat) (o : S33) : List S33 := (l.map (ux a)).take a ++ [o] ++ (l.map (ux a)).drop a
theorem insd_len {l : List S33} {a : Nat} (o : S33) (ha : a ≤ l.length) : (insd l a o).length = l.length + 1 := by
 unfold insd
 rw [List.length_append,List.length_append,List.length_take,List.length_drop,List.length_map,List.length_singleton]
 omega
theorem map_at (l : List S33) (a i : Nat) (h : i < l.length) : (l.map (ux a)).getD i z33 = ux a (l.getD i z33) := by
 rw [List.getD_eq_getElem?_getD,List.getD_eq_getElem?_getD,List.getElem?_map,List.getElem?_eq_getElem h];rfl
theorem insd_at {l : List S33} {a : Nat} (o : S33) (ha : a ≤ l.length) (j : Nat) (hj : j < l.length) : (insd l a o).getD (if j < a then j else j + 1) z33 = ux a (l.getD j z33) := by
 have hl : ((l.map (ux a)).take a).length = a:=by rw [List.length_take,List.length_map];omega
 rw [← map_at l a j hj]
 unfold insd
 rw [List.getD_eq_getElem?_getD,List.getD_eq_getElem?_getD,List.append_assoc]
 by_cases c : j < a
 ·rw [if_pos c,List.getElem?_append_left (by omega),List.getElem?_take_of_lt c]
 ·rw [if_neg c,List.getElem?_append_right (by omega),hl,List.getElem?_append_right (by simp;omega),List.length_singleton,List.getElem?_drop]
  congr 2
  omega
def half (l : List S33) (a i : Nat) : List S33 := (l.take i).map (ux a) ++ l.drop i
theorem half_len (l : List S33) (a i : Nat) : (half l a i).length = l.length := by
 unfold half
 rw [List.length_append,List.length_map,List.length_take,List.length_drop]
 omega
theorem half_at (l : List S33) (a i : Nat) (h : i < l.length) : (half l a i).getD i z33 = l.getD i z33 := by
 unfold half
 have hl : ((l.take i).map (ux a)).length = i:=by rw [List.length_map,List.length_take];omega
 rw [List.getD_eq_getElem?_getD,List.getD_eq_getElem?_getD,List.getElem?_append_right (by omega),hl,Nat.sub_self,List.getElem?_drop,Nat.add_zero]
theorem half_set (l : List S33) (a i : Nat) (h : i < l.length) : (half l a i).set i (ux a (l.getD i z33)) = half l a (i + 1) := by
 unfold half
 have hl : ((l.take i).map (ux a)).length = i:=by rw [List.length_map,List.length_take];omega
 rw [List.set_append_right _ _ (by omega),hl,Nat.sub_self,List.take_succ_eq_append_getElem h,List.map_append,List.append_assoc]
 congr 1
 rw [List.drop_eq_getElem_cons h,List.getD_eq_getElem?_getD,List.getElem?_eq_getElem h]
 rfl
theorem set_same {l : List S33} {i : Nat} (h : i < l.length) {x : S33} (hx : x = l.getD i z33) : l.set i x = l := by
 subst hx
 apply List.ext_getElem (by simp)
 intro j h1 h2
 rw [List.getElem_set]
 by_cases e : i = j
 ·subst e;rw [if_pos rfl,List.getD_eq_getElem?_getD,List.getElem?_eq_getElem h];rfl
 ·rw [if_neg e]
open Classical in
noncomputable def insAns (l : List S33) (a : Int) (o : S33) : List S33 × Int :=
 if vcode l = 0 then (if 0 ≤ a ∧ a ≤ (l.length : Int) then (if l.length < 40 then (if vcode (insd l a.toNat o) = 0 then (insd l a.toNat o,0) else ([],vcode (insd l a.toNat o))) else ([],4)) else ([],2)) else ([],vcode l)
theorem insAns_len (l : List S33) (a : Int) (o : S33) : (insAns l a o).1.length ≤ 40 := by
 unfold insAns
 split
 ·split
  ·split
   ·split
    ·rw [insd_len o (by omega)];omega
    ·simp
   ·simp
  ·simp
 ·simp
theorem order_insert_ev (l : List S33) (a : Int) (o : S33) : Ev (fun k => order_Insert.f k l a o.f0 o.f1 o.f2 o.f3 o.f4 o.f5 o.f6 o.f7 o.f8) (insAns l a o) := by
 unfold order_Insert.f insAns
 refine Ev.bind (order_validate_ev l) ?_
 by_cases hv : vcode l = 0
 rotate_left
 ·rw [if_neg hv];exact Ev.neg hv (Ev.now _)
 rw [if_pos hv]
 refine Ev.pos hv (Ev.bindc (within_eq _ _) ?_)
 by_cases ha : 0 ≤ a ∧ a ≤ (l.length : Int)
 rotate_left
 ·rw [if_neg ha];exact Ev.neg (fun h => ha (of_decide_eq_true h)) (Ev.now _)
 rw [if_pos ha]
 refine Ev.pos (decide_eq_true ha) ?_
 by_cases h40 : l.length < 40
 rotate_left
 ·rw [if_neg h40];exact Ev.pos (by omega) (Ev.now _)
 rw [if_pos h40]
 refine Ev.neg (by omega) (Ev.bindc (show order_copied.f l = some l from by unfold order_copied.f;rw [if_pos (by omega)]) ?_)
 obtain ⟨n,rfl⟩:=Int.eq_ofNat_of_zero_le ha.1
 rw [Int.toNat_natCast]
 obtain ⟨R,hR⟩ : ∃ R,R = (if vcode (insd l n o) = 0 then (insd l n o,0) else ([],vcode (insd l n o))):=⟨_,rfl⟩
 rw [← hR]
 have go : ∀ d i : Nat,i + d = l.length → Ev (fun k => order_Insert.l0 k (n : Int) (half l n i) (l.length : Int) (i : Int) o.f0 o.f1 o.f2 o.f3 o.f4 o.f5 o.f6 o.f7 o.f8) R:=by
  intro d
  induction d with
  | zero =>
   intro i h
   obtain rfl : i = l.length:=by omega
   refine Ev.step (fun k => by simp only [order_Insert.l0];rfl) (Ev.neg (by omega) ?_)
   have hh : half l n l.length = l.map (ux n):=by unfold half;simp
   have hi : api_Order_49.f (half l n l.length) (n : Int) [(⟨o.f0,o.f1,o.f2,o.f3,o.f4,o.f5,o.f6,o.f7,o.f8⟩ : S33)] = some (insd l n o):=by
    unfold api_Order_49.f
    rw [hh,if_pos ⟨by omega,by rw [List.length_map];omega,by simp,by rw [List.length_map,List.length_singleton];omega⟩,Int.toNat_natCast]
    rfl
   refine Ev.bindc hi (Ev.bind (order_validate_ev _) ?_)
   rw [hR]
   by_cases hw : vcode (insd l n o) = 0
   ·exact Ev.pos hw (Ev.eq (Ev.now _) (if_pos hw).symm)
   ·exact Ev.neg hw (Ev.eq (Ev.now _) (if_neg hw).symm)
  | succ d ih =>
   intro i h
   have ih:=ih (i + 1) (by omega)
   rw [show ((i + 1 : Nat) : Int) = (i : Int) + 1 from by omega] at ih
   refine Ev.step (fun k => by simp only [order_Insert.l0];rfl) (Ev.pos (by omega) (Ev.pos (by omega) (Ev.pos (by rw [half_len];omega) ?_)))
   rw [rdN,wrap_in (x:=(i : Int) + 1) (by omega) (by omega),Int.toNat_natCast,half_at l n i (by omega)]
   have hs:=half_set l n i (by omega)
   unfold ux at hs
   by_cases c0 : (l.getD i z33).f0 = 2
   ·by_cases c1 : (l.getD i z33).f6 ≥ (n : Int)
    ·rw [if_pos ⟨c0,c1⟩] at hs
     rw [hs]
     exact Ev.pos c0 (Ev.pos c1 ih)
    ·rw [if_neg (fun h => c1 h.2),set_same (by rw [half_len];omega) (half_at l n i (by omega)).symm] at hs
     rw [← hs] at ih
     exact Ev.pos c0 (Ev.neg c1 ih)
   ·rw [if_neg (fun h => c0 h.1),set_same (by rw [half_len];omega) (half_at l n i (by omega)).symm] at hs
    rw [← hs] at ih
    exact Ev.neg c0 ih
 have:=go l.length 0 (by omega)
 simpa [half] using this

end Go.Proofs.Ythbjchicpebglaa.Pure

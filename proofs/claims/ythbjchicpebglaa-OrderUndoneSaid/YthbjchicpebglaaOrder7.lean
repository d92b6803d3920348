/- Layer 15: a list without an order, as the program makes it. No conditions. -/
import Derived.Test.YthbjchicpebglaaPx0
import Derived.Test.YthbjchicpebglaaPx7
import Derived.Test.YthbjchicpebglaaPx13
import Derived.Test.YthbjchicpebglaaPx14
import Derived.Test.YthbjchicpebglaaEvKit
import Derived.Test.YthbjchicpebglaaVOpen
import Derived.Test.YthbjchicpebglaaOrder0
namespace Go.Proofs.Ythbjchicpebglaa.Pure
set_option linter.unusedVariables false
set_option linter.unusedSimpArgs false
open Go.RowKit Go.Proofs.YthbjchicpebglaaW.PrintWords Go.Proofs.Ythbjchicpebglaa.P Go.Proofs.Ythbjchicpebglaa
def fx (n a : Nat) (x : S33) : S33 :=
 if x.f0 = 2 ∧ x.f6 > (a : Int) then ⟨x.f0,x.f1,x.f2,x.f3,x.f4,x.f5,wrap64 (x.f6 - 1),x.f7,x.f8⟩
 else if x.f0 = 2 ∧ x.f6 = (a : Int) ∧ a + 1 = n then ⟨x.f0,x.f1,x.f2,x.f3,x.f4,x.f5,0,x.f7,x.f8⟩ else x
def built (l : List S33) (a : Nat) : Nat → List S33
 | 0 => []
 | i + 1 => if i = a then built l a i else built l a i ++ [fx l.length a (l.getD i z33)]
theorem built_len (l : List S33) (a : Nat) : ∀ i, (built l a i).length = if a < i then i - 1 else i
 | 0 => rfl
 | i + 1 => by
  have ih:=built_len l a i
  unfold built
  by_cases h : i = a
  ·rw [if_pos h,ih,if_neg (by omega),if_pos (by omega)];omega
  ·rw [if_neg h,List.length_append,ih,List.length_singleton]
   by_cases h2 : a < i
   ·rw [if_pos h2,if_pos (by omega)];omega
   ·rw [if_neg h2,if_neg (by omega)]
theorem app_at (o : List S33) (u : S33) (i : Nat) : (o ++ [u]).getD i z33 = if i < o.length then o.getD i z33 else if i = o.length then u else z33 := by
 rw [List.getD_eq_getElem?_getD,List.getElem?_append]
 by_cases h : i < o.length
 ·rw [if_pos h,if_pos h,List.getD_eq_getElem?_getD]
 ·rw [if_neg h,if_neg h]
  by_cases e : i = o.length
  ·rw [if_pos e,e,Nat.sub_self];rfl
  ·rw [if_neg e,List.getElem?_eq_none (by simp;omega)];rfl
theorem built_at (l : List S33) (a : Nat) : ∀ i j, j < (built l a i).length → (built l a i).getD j z33 = fx l.length a (l.getD (if j < a then j else j + 1) z33)
 | 0,j,h => by simp [built] at h
 | i + 1,j,h => by
  have ih:=built_at l a i j
  have hl:=built_len l a i
  have hl1:=built_len l a (i + 1)
  rw [hl1] at h
  unfold built
  by_cases e : i = a
  ·rw [if_pos e]
   exact ih (by rw [hl];split at h <;> split <;> omega)
  ·rw [if_neg e,app_at]
   by_cases c : j < (built l a i).length
   ·rw [if_pos c];exact ih c
   ·rw [if_neg c,if_pos (by rw [hl] at c ⊢;split at h <;> split at c <;> (try split) <;> omega)]
    congr 2
    rw [hl] at c
    split at h <;> split at c <;> split <;> omega
def gx (m a : Nat) (x : S33) : S33 :=
 if x.f6 > (a : Int) then ⟨x.f0,x.f1,x.f2,x.f3,x.f4,x.f5,wrap64 (x.f6 - 1),x.f7,x.f8⟩
 else if x.f6 = (a : Int) ∧ m ≤ a then ⟨x.f0,x.f1,x.f2,x.f3,x.f4,x.f5,0,x.f7,x.f8⟩ else x
def turn (m a : Nat) : List S33 → Nat → Nat → List S33
 | L,_,0 => L
 | L,i,n + 1 => turn m a (L.set i (gx m a (L.getD i z33))) (i + 1) n
theorem turn_len (m a : Nat) : ∀ (n i : Nat) (L : List S33), (turn m a L i n).length = L.length
 | 0,_,_ => rfl
 | n + 1,i,L => by rw [turn,turn_len m a n];simp
theorem sset_at (l : List S33) (i j : Nat) (v : S33) : (l.set i v).getD j z33 = if i = j ∧ j < l.length then v else l.getD j z33 := by
 rw [List.getD_eq_getElem?_getD,List.getElem?_set,List.getD_eq_getElem?_getD]
 by_cases h : i = j
 ·rw [if_pos h]
  by_cases h2 : i < l.length
  ·rw [if_pos h2,if_pos ⟨h,by omega⟩];rfl
  ·rw [if_neg h2,if_neg (by omega),List.getElem?_eq_none (by omega)]
 ·rw [if_neg h,if_neg (fun hh => h hh.1)]
theorem set_self {l : List S33} {i : Nat} (h : i < l.length) : l.set i (l.getD i z33) = l := by
 apply List.ext_getElem (by simp)
 intro j h1 h2
 rw [List.getElem_set]
 by_cases e : i = j
 ·subst e;rw [if_pos rfl,List.getD_eq_getElem?_getD,List.getElem?_eq_getElem h];rfl
 ·rw [if_neg e]
theorem turn_at (m a : Nat) : ∀ (n i : Nat) (L : List S33), i + n = L.length → ∀ j, j < L.length → (turn m a L i n).getD j z33 = if i ≤ j then gx m a (L.getD j z33) else L.getD j z33
 | 0,i,L,h,j,hj => by rw [turn,if_neg (by omega)]
 | n + 1,i,L,h,j,hj => by
  rw [turn,turn_at m a n (i + 1) _ (by simp;omega) j (by simp;omega)]
  by_cases e : i = j
  ·subst e
   rw [if_neg (by omega),sset_at,if_pos ⟨rfl,hj⟩,if_pos (Nat.le_refl _)]
  ·rw [show (L.set i (gx m a (L.getD i z33))).getD j z33 = L.getD j z33 by rw [sset_at,if_neg (fun h => e h.1)]]
   by_cases c : i + 1 ≤ j
   ·rw [if_pos c,if_pos (by omega)]
   ·rw [if_neg c,if_neg (by omega)]
theorem without_ev {l : List S33} {a : Nat} (hl : l.length ≤ 300) (ha : a < l.length) : Ev (fun k => order_without.f k l (a : Int)) (turn (l.length - 1) a (l.take a ++ l.drop (a + 1)) 0 (l.length - 1)) := by
 unfold order_without.f
 have hc : order_copied.f l = some l:=by unfold order_copied.f;rw [if_pos (by omega)]
 have hd : api_Order_52.f l (a : Int) (wrap64 ((a : Int) + 1)) = some (l.take a ++ l.drop (a + 1)):=by
  unfold api_Order_52.f
  rw [wrap_in (by omega) (by omega),if_pos ⟨by omega,by omega,by omega⟩,Int.toNat_natCast,show ((a : Int) + 1).toNat = a + 1 by omega]
 have ho : (l.take a ++ l.drop (a + 1)).length = l.length - 1:=by rw [List.length_append,List.length_take,List.length_drop];omega
 refine Ev.bindc hc (Ev.bindc hd ?_)
 have go : ∀ (n i : Nat) (L : List S33),i + n = L.length → L.length = l.length - 1 → Ev (fun k => order_without.l0 k (a : Int) L ((l.length - 1 : Nat) : Int) (i : Int)) (turn (l.length - 1) a L i n):=by
  intro n
  induction n with
  | zero =>
   intro i L h h1
   exact Ev.step (fun k => by simp only [order_without.l0];rfl) (Ev.neg (by omega) (Ev.now _))
  | succ n ih =>
   intro i L h h1
   have ih:=fun (L' : List S33) (hL' : i + 1 + n = L'.length) (hL : L'.length = l.length - 1) => (show ((i + 1 : Nat) : Int) = (i : Int) + 1 from by omega) ▸ ih (i + 1) L' hL' hL
   refine Ev.step (fun k => by simp only [order_without.l0];rfl) (Ev.pos (by omega) (Ev.pos (by omega) (Ev.pos (by omega) ?_)))
   rw [rdN,wrap_in (x:=(i : Int) + 1) (by omega) (by omega),Int.toNat_natCast,turn]
   unfold gx
   by_cases c : (L.getD i z33).f6 > (a : Int)
   ·rw [if_pos c]
    exact Ev.pos c (ih _ (by simp;omega) (by simp [h1]))
   rw [if_neg c]
   refine Ev.neg c ?_
   by_cases c1 : (L.getD i z33).f6 = (a : Int)
   ·refine Ev.pos c1 ?_
    by_cases c2 : l.length - 1 ≤ a
    ·rw [if_pos ⟨c1,c2⟩]
     exact Ev.pos (by omega) (ih _ (by simp;omega) (by simp [h1]))
    ·rw [if_neg (fun h => c2 h.2),set_self (by omega)]
     exact Ev.neg (by omega) (ih L (by omega) h1)
   ·rw [if_neg (fun h => c1 h.1),set_self (by omega)]
    exact Ev.neg c1 (ih L (by omega) h1)
 rw [ho]
 exact go (l.length - 1) 0 _ (by omega) ho
theorem fx_gx {x : S33} (n a : Nat) (hx : OkO x) (hn : 0 < n) (ha : a ≤ n) : fx (n + 1) a x = gx n a x := by
 have hz : x.f0 ≠ 2 → x.f6 = 0:=by
  intro h
  unfold OkO at hx
  rw [if_neg h] at hx
  split at hx <;> omega
 unfold fx gx
 by_cases h2 : x.f0 = 2
 ·by_cases c : x.f6 > (a : Int)
  ·rw [if_pos ⟨h2,c⟩,if_pos c]
  ·rw [if_neg (fun h => c h.2),if_neg c]
   by_cases c1 : x.f6 = (a : Int) ∧ n ≤ a
   ·rw [if_pos ⟨h2,c1.1,by omega⟩,if_pos c1]
   ·rw [if_neg (fun h => c1 ⟨h.2.1,by omega⟩),if_neg c1]
 ·have:=hz h2
  rw [if_neg (fun h => h2 h.1),if_neg (fun h => h2 h.1),if_neg (by omega),if_neg (by omega)]
theorem cut_at (l : List S33) (a j : Nat) (ha : a < l.length) : (l.take a ++ l.drop (a + 1)).getD j z33 = l.getD (if j < a then j else j + 1) z33 := by
 rw [List.getD_eq_getElem?_getD,List.getD_eq_getElem?_getD,List.getElem?_append]
 have hl : (l.take a).length = a:=by rw [List.length_take];omega
 rw [hl]
 by_cases c : j < a
 ·rw [if_pos c,if_pos c,List.getElem?_take_of_lt c]
 ·rw [if_neg c,if_neg c,List.getElem?_drop]
  congr 2
  omega
theorem list_ext {L R : List S33} (hl : L.length = R.length) (h : ∀ j, j < L.length → L.getD j z33 = R.getD j z33) : L = R := by
 apply List.ext_getElem hl
 intro j h1 h2
 have:=h j h1
 rw [List.getD_eq_getElem?_getD,List.getD_eq_getElem?_getD,List.getElem?_eq_getElem h1,List.getElem?_eq_getElem h2] at this
 exact this
theorem without_same {l : List S33} {a : Nat} (ha : a < l.length) (hok : AllOk l) : turn (l.length - 1) a (l.take a ++ l.drop (a + 1)) 0 (l.length - 1) = built l a l.length := by
 have ho : (l.take a ++ l.drop (a + 1)).length = l.length - 1:=by rw [List.length_append,List.length_take,List.length_drop];omega
 have hb : (built l a l.length).length = l.length - 1:=by rw [built_len,if_pos ha]
 refine list_ext (by rw [turn_len,ho,hb]) (fun j hj => ?_)
 rw [turn_len,ho] at hj
 rw [turn_at _ _ _ _ _ (by omega) j (by omega),if_pos (by omega),cut_at l a j ha,built_at l a l.length j (by omega)]
 have:=fx_gx (x:=l.getD (if j < a then j else j + 1) z33) (l.length - 1) a (hok _ (by omega) (by split <;> omega)) (by omega) (by omega)
 rw [← this,show l.length - 1 + 1 = l.length by omega]

end Go.Proofs.Ythbjchicpebglaa.Pure

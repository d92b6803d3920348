/- What layer 11's growth leans on of picks, in plain words. No conditions. -/
import Derived.Test.YtbdijpjlgokfkaaPx0
import Derived.Test.YtbdijpjlgokfkaaPx7
import Derived.Test.YtbdijpjlgokfkaaPx14
import Derived.Test.YtbdijpjlgokfkaaTyS
namespace Go.Proofs.Ytbdijpjlgokfkaa.Pure
set_option linter.unusedVariables false
set_option linter.unusedSimpArgs false
open Go.RowKit Go.Proofs.YtbdijpjlgokfkaaW.PrintWords Go.Proofs.Ytbdijpjlgokfkaa.P Go.Proofs.Ytbdijpjlgokfkaa

theorem weight_eq (x:Int):h01_weight.f x=some (roll_Pick.wt x):=by
 unfold h01_weight.f roll_Pick.wt mx mn
 congr 1
 split <;> split <;> omega
theorem S_succ (l:List Int) (i:Nat) (h:i<l.length):roll_Pick.S l (i+1)=roll_Pick.S l i+roll_Pick.wt (rd l (i:Int)):=by
 unfold roll_Pick.S rd
 rw [List.take_add_one,List.getElem?_eq_getElem h,List.map_append,List.sum_append]
 simp only [Option.toList,List.map_cons,List.map_nil,List.sum_cons,List.sum_nil,List.getD_eq_getElem?_getD,Int.toNat_natCast,List.getElem?_eq_getElem h,Option.getD_some,Int.add_zero]
theorem S_in (l:List Int) (i:Nat):0≤roll_Pick.S l i∧roll_Pick.S l i≤(min i l.length:Nat) * 1048576:=by
 unfold roll_Pick.S
 rw [← List.length_take]
 induction l.take i with
 | nil=>exact ⟨by decide,by decide⟩
 | cons x xs ih =>
  have:=roll_Pick.wt_le x
  simp only [List.map_cons,List.sum_cons,List.length_cons]
  omega
theorem at_in (l:List Int):∀ (i d:Int),0≤i → -1≤roll_Pick.at_ l i d∧roll_Pick.at_ l i d<i+l.length:=by
 induction l with
 | nil=>intro i d hi;simp only [roll_Pick.at_,List.length_nil];omega
 | cons x xs ih =>
  intro i d hi
  simp only [roll_Pick.at_,List.length_cons]
  split
  ·omega
  ·have:=ih (i+1) (d - roll_Pick.wt x) (by omega);omega
theorem ref_at (l:List Int) (hl:l.length≤1000) (s:Int):∀ (n i:Nat) (d:Int),i+n=l.length→0≤d→d≤4611686018427387904→Ev (fun k=>h01_Pick.l1 k d l (l.length:Int) (i:Int) s) (roll_Pick.at_ (l.drop i) (i:Int) d,s):=by
 intro n
 induction n with
 | zero =>
  intro i d hi h0 h1
  rw [List.drop_of_length_le (by omega)]
  exact Ev.step (fun k=>by simp only [h01_Pick.l1];rfl) (Ev.neg (by omega) (Ev.now _))
 | succ n ih =>
  intro i d hi h0 h1
  have hlt:i<l.length:=by omega
  rw [List.drop_eq_getElem_cons hlt]
  have hr:rd l (i:Int)=l[i]:=by unfold rd;simp [List.getD_eq_getElem?_getD,List.getElem?_eq_getElem hlt]
  have hw:=roll_Pick.wt_le l[i]
  have hs:wrap64 (d - roll_Pick.wt l[i])=d - roll_Pick.wt l[i]:=by unfold wrap64;omega
  refine Ev.step (fun k=>by simp only [h01_Pick.l1];rfl) (Ev.pos (by omega) (Ev.pos (by omega) (Ev.pos (by omega) (Ev.bindc (weight_eq _) ?_))))
  rw [hr,hs]
  simp only [roll_Pick.at_]
  by_cases c:d - roll_Pick.wt l[i]<0
  ·rw [if_pos c];exact Ev.pos c (Ev.now _)
  ·rw [if_neg c]
   refine Ev.neg c ?_
   rw [show wrap64 ((i:Int)+1)=((i+1:Nat):Int) by unfold wrap64;omega]
   rw [show ((i:Int)+1)=((i+1:Nat):Int) by omega]
   exact ih (i+1) _ (by omega) (by omega) (by omega)
theorem ref_sum (l:List Int) (hl:l.length≤1000) (s:Int) {r:Int × Int} (h:Ev (fun k=>h01_Pick.j1 k l (roll_Pick.S l l.length) s) r):∀ (n i:Nat),i+n=l.length→Ev (fun k=>h01_Pick.l0 k l (roll_Pick.S l i) (i:Int) s) r:=by
 intro n
 induction n with
 | zero =>
  intro i hi
  obtain rfl:i=l.length:=by omega
  exact Ev.step (fun k=>by simp only [h01_Pick.l0];rfl) (Ev.neg (by omega) h)
 | succ n ih =>
  intro i hi
  have hlt:i<l.length:=by omega
  refine Ev.step (fun k=>by simp only [h01_Pick.l0];rfl) (Ev.pos (by omega) (Ev.pos (by omega) (Ev.pos (by omega) (Ev.bindc (weight_eq _) ?_))))
  have h1:=S_in l i
  have h2:=roll_Pick.wt_le (rd l (i:Int))
  rw [show wrap64 (roll_Pick.S l i+roll_Pick.wt (rd l (i:Int)))=roll_Pick.S l (i+1) by rw [S_succ l i hlt];unfold wrap64;omega,show wrap64 ((i:Int)+1)=((i+1:Nat):Int) by unfold wrap64;omega]
  exact ih (i+1) (by omega)
theorem pick_ev (l:List Int) (hl:l.length≤300) {s:Int} (h0:0≤s) (h1:s<18446744073709551616):∃ r:Int × Int,(-1≤r.1∧r.1<l.length∧0≤r.2∧r.2<18446744073709551616)∧Ev (fun k=>roll_Pick.f k s l) r∧Ev (fun k=>h01_Pick.f k s l) r:=by
 have hS:(l.map roll_Pick.wt).sum=roll_Pick.S l l.length:=by unfold roll_Pick.S;rw [List.take_length]
 have hb:=S_in l l.length
 by_cases c:roll_Pick.S l l.length=0
 ·refine ⟨(-1,s),⟨by show (-1:Int)≤ -1;omega,by show (-1:Int)<_;omega,h0,h1⟩,?_,?_⟩
  ·unfold roll_Pick.f
   refine Ev.neg (by omega) (Ev.pos (by rw [hS];exact c) (Ev.now _))
  ·unfold h01_Pick.f
   exact ref_sum l (by omega) s (Ev.step (fun k=>by simp only [h01_Pick.j1];rfl) (Ev.pos c (Ev.now _))) l.length 0 (by omega)
 ·obtain ⟨r,hr,e1,e2⟩:=below_ev (m:=roll_Pick.S l l.length) (s:=s) (by omega) h0 h1
  have ha:=at_in l 0 r.1 (by omega)
  refine ⟨(roll_Pick.at_ l 0 r.1,r.2),⟨ha.1,by omega,hr.2.2.1,hr.2.2.2⟩,?_,?_⟩
  ·unfold roll_Pick.f
   refine Ev.neg (by omega) (Ev.neg (by rw [hS];exact c) ?_)
   rw [hS]
   exact Ev.bind e1 (Ev.pos (by omega) (Ev.now _))
  ·unfold h01_Pick.f
   refine ref_sum l (by omega) s (Ev.step (fun k=>by simp only [h01_Pick.j1];rfl) (Ev.neg c (Ev.bind e2 ?_))) l.length 0 (by omega)
   exact ref_at l (by omega) r.2 l.length 0 r.1 (by omega) (by omega) (by omega)
end Go.Proofs.Ytbdijpjlgokfkaa.Pure

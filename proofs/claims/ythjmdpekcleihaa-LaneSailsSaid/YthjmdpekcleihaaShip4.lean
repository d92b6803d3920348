/- Layer 17, ships: the ways that both sides find, and the reference's side of a first step. No conditions. -/
import Derived.Test.YthjmdpekcleihaaPx0
import Derived.Test.YthjmdpekcleihaaPx7
import Derived.Test.YthjmdpekcleihaaPx11
import Derived.Test.YthjmdpekcleihaaShip1
import Derived.Test.YthjmdpekcleihaaShip2
namespace Go.Proofs.Ythjmdpekcleihaa.Pure
set_option linter.unusedVariables false
set_option linter.unusedSimpArgs false
open Go.RowKit Go.Proofs.YthjmdpekcleihaaW.PrintWords Go.Proofs.YthjmdpekcleihaaW.PrintMore Go.Proofs.Ythjmdpekcleihaa.P Go.Proofs.Ythjmdpekcleihaa

section
variable {w h : Nat} {C K B : List Int}
theorem ways (U:Waters w h C K B) (hC:C.length ≤ 4000) (hB:B.length ≤ 4000) (a b:Int):∃ r:List Int × Int,Ev (fun k => water_Sail.f k (w:Int) (h:Int) C K B a b) r ∧ Ev (fun k => hinterlandref06_Sail.f k (w:Int) (h:Int) C K B a b) r ∧ Way w h C K a b r := by
 obtain ⟨r,r1,r2⟩:=sail_prog U hC hB a b
 obtain ⟨r',_,r3,r4⟩:=sail_both (W:=(w:Int)) (H:=(h:Int)) (C:=C) (K:=K) (B:=B) (a:=a) (b:=b) hC hB
 obtain rfl:=Ev.unique r3 r1
 exact ⟨_,r3,r4,r2⟩
theorem course_ev {a b:Int} {r:List Int × Int} (hr:Ev (fun k => hinterlandref06_Sail.f k (w:Int) (h:Int) C K B a b) r) (hwh:w * h ≤ 2000) (hw:Way w h C K a b r):Ev (fun k => hinterlandref17_course.f k (w:Int) (h:Int) C K B a b) (if 2 ≤ r.1.length then (sd w (r.1.getD 1 0 - r.1.getD 0 0),true) else (0,false)) := by
 unfold hinterlandref17_course.f
 refine Ev.bind hr ?_
 by_cases h2:2 ≤ r.1.length
 rotate_left
 ·rw [if_neg h2,decide_eq_true (show (r.1.length:Int) < 2 by omega)]
  have j:Ev (fun k=>hinterlandref17_course.j0 k r.1 true (w:Int) (h:Int) C) (0,false):=Ev.step (fun k=>by simp only [hinterlandref17_course.j0];rfl) (Ev.pos (show true = true from rfl) (Ev.now _))
  by_cases c:r.2 = 0
  ·exact Ev.pos c j
  ·exact Ev.neg c j
 obtain ⟨h0,na,u,nb,q,rfl,rfl,e,st,ch,ql,least,wb⟩:=hw.two h2
 have hna:=st.1
 have hu:=st.2.1
 rw [if_pos h2,decide_eq_false (show ¬ (r.1.length:Int) < 2 by omega)]
 refine Ev.pos h0 (Ev.step (fun k=>by simp only [hinterlandref17_course.j0];rfl) (Ev.neg Bool.false_ne_true (Ev.pos (by omega) (Ev.pos (by omega) ?_))))
 rw [e]
 change Ev (fun k=>if wrap64 ((u:Int) - (na:Int)) = 1 then _ else _) (sd w ((u:Int) - (na:Int)),true)
 change Ev (fun k=>if wrap64 ((u:Int) - (na:Int)) = 1 then some (0,true) else if wrap64 ((u:Int) - (na:Int)) = -1 then some (2,true) else if wrap64 ((u:Int) - (na:Int)) = (w:Int) then some (1,true) else some (3,true)) (sd w ((u:Int) - (na:Int)),true)
 rw [wrap_in (x:=(u:Int) - (na:Int)) (by omega) (by omega)]
 have s:sd w ((u:Int) - (na:Int)) = if (u:Int) - (na:Int) = 1 then 0 else if (u:Int) - (na:Int) = -1 then 2 else if (u:Int) - (na:Int) = (w:Int) then 1 else 3:=rfl
 by_cases c1:(u:Int) - (na:Int) = 1
 ·exact Ev.pos c1 (Ev.const (by rw [s,if_pos c1]))
 refine Ev.neg c1 ?_
 by_cases c2:(u:Int) - (na:Int) = -1
 ·exact Ev.pos c2 (Ev.const (by rw [s,if_neg c1,if_pos c2]))
 refine Ev.neg c2 ?_
 by_cases c3:(u:Int) - (na:Int) = (w:Int)
 ·exact Ev.pos c3 (Ev.const (by rw [s,if_neg c1,if_neg c2,if_pos c3]))
 exact Ev.neg c3 (Ev.const (by rw [s,if_neg c1,if_neg c2,if_neg c3]))
open Classical in
theorem rwet_ev (U:Waters w h C K B) (hC:C.length ≤ 4000) (hB:B.length ≤ 4000) (a:Int):Ev (fun k => hinterlandref17_wet.f k (w:Int) (h:Int) C K B a) (decide (Wets w h C K a)) := by
 unfold hinterlandref17_wet.f
 obtain ⟨r,_,r1,r2⟩:=ways U hC hB a a
 refine Ev.bind r1 ?_
 rcases r2 with ⟨na,nb,⟨e1,e2,h1,h2,w1,w2⟩,l⟩ | ⟨rfl,n⟩
 ·obtain rfl:na = nb:=by omega
  rw [decide_eq_true (show Wets w h C K a from ⟨na,e1,h1,w1⟩)]
  rcases l with ⟨p,rfl,_,_,least⟩ | ⟨_,n⟩
  ·have:=least [] rfl
   have pn:p = []:=List.eq_nil_of_length_eq_zero (by simpa using this)
   subst pn
   exact Ev.pos rfl (Ev.now _)
  ·exact absurd ⟨[],rfl⟩ n
 ·rw [decide_eq_false]
  ·exact Ev.neg (by decide) (Ev.now _)
  ·rintro ⟨na,e1,h1,w1⟩
   exact n ⟨na,na,e1,e1,h1,h1,w1,w1⟩
end
end Go.Proofs.Ythjmdpekcleihaa.Pure

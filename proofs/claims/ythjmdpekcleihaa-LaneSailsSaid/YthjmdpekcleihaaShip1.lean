/- Layer 17, ships: the side towards a tile, a launch and a ship's tick, as the program makes them. No conditions. -/
import Derived.Test.YthjmdpekcleihaaPx0
import Derived.Test.YthjmdpekcleihaaPx2
import Derived.Test.YthjmdpekcleihaaPx4
import Derived.Test.YthjmdpekcleihaaPx8
import Derived.Test.YthjmdpekcleihaaPx11
import Derived.Test.YthjmdpekcleihaaShip0
namespace Go.Proofs.Ythjmdpekcleihaa.Pure
set_option linter.unusedVariables false
set_option linter.unusedSimpArgs false
open Go.RowKit Go.Proofs.YthjmdpekcleihaaW.PrintWords Go.Proofs.YthjmdpekcleihaaW.PrintMore Go.Proofs.Ythjmdpekcleihaa.P Go.Proofs.Ythjmdpekcleihaa

theorem vast_eq (W H:Int) (C K B:List Int):hinterlandlaw17_vast.f W H C K B = some (decide ((C.length:Int) > 1200 ∨ (K.length:Int) > 1200 ∨ (B.length:Int) > 1200)) := by
 unfold hinterlandlaw17_vast.f
 by_cases h1:(C.length:Int) > 1200
 ·rw [if_pos h1,decide_eq_true (.inl h1)]
 rw [if_neg h1]
 by_cases h2:(K.length:Int) > 1200
 ·rw [if_pos h2,decide_eq_true (.inr (.inl h2))]
 rw [if_neg h2]
 congr 1
 apply decide_eq_decide.2
 omega
def bsd (w t : Nat) (s : Int) : Int := if s = 0 then (t : Int) + 1 else if s = 1 then (t : Int) + w else if s = 2 then (t : Int) - 1 else (t : Int) - w
def sd (w d : Int) : Int := if d = 1 then 0 else if d = -1 then 2 else if d = w then 1 else 3
theorem sd_in (w d:Int):0 ≤ sd w d ∧ sd w d ≤ 3 := by unfold sd; (repeat' split) <;> omega
section
variable {w h : Nat} {C K B : List Int}
theorem beside_eq (L:Land w h C) {t:Nat} (ht:t < w * h) {s:Int} (hs:0 ≤ s ∧ s ≤ 3):lane_beside.f (w:Int) (h:Int) (t:Int) s = some (bsd w t s,decide (0 ≤ bey w h t s)) := by
 obtain ⟨h1,h2,h3⟩:=tile ht
 have w0:=L.w0
 have w1:=L.w1
 have hh1:=L.h1
 have q:Int.tdiv (t:Int) (w:Int) = ((t / w:Nat):Int):=rfl
 have m:Int.tmod (t:Int) (w:Int) = ((t % w:Nat):Int):=rfl
 have b1:t / w * w ≤ 32 * 32:=mulle (by omega) (by omega)
 have e:((t / w:Nat):Int) * (w:Int) = ((t / w * w:Nat):Int):=by push_cast;rfl
 have e2:(((t / w:Nat):Int) + 1) * (w:Int) = ((t / w * w:Nat):Int) + w:=by rw [Int.add_mul,e];omega
 have e3:(((t / w:Nat):Int) - 1) * (w:Int) = ((t / w * w:Nat):Int) - w:=by rw [Int.sub_mul,e];omega
 have fin:∀ (x y:Int) (p q:Bool),x = y → p = q → (some (x,p):Option (Int × Bool)) = some (y,q):=fun x y p q h1 h2=>by rw [h1,h2]
 generalize hd:t / w = D at *
 generalize hm:t % w = M at *
 generalize hp:D * w = P at *
 unfold lane_beside.f bsd bey
 rw [hd,hm,q,m,if_neg (by omega),wrap_in (x:=(M:Int) + 1) (by omega) (by omega),wrap_in (x:=(M:Int) - 1) (by omega) (by omega),wrap_in (x:=(D:Int)) (by omega) (by omega),wrap_in (x:=(D:Int) + 1) (by omega) (by omega),wrap_in (x:=(D:Int) - 1) (by omega) (by omega),e,e2,e3,wrap_in (x:=(P:Int)) (by omega) (by omega),wrap_in (x:=(P:Int) + w) (by omega) (by omega),wrap_in (x:=(P:Int) - w) (by omega) (by omega),wrap_in (x:=(P:Int) + ((M:Int) + 1)) (by omega) (by omega),wrap_in (x:=(P:Int) + ((M:Int) - 1)) (by omega) (by omega),wrap_in (x:=(P:Int) + w + (M:Int)) (by omega) (by omega),wrap_in (x:=(P:Int) - w + (M:Int)) (by omega) (by omega)]
 rcases (by omega:s = 0 ∨ s = 1 ∨ s = 2 ∨ s = 3) with c | c | c | c
 all_goals
  subst c
  simp only [show ¬ (1:Int) = 0 by decide,show ¬ (2:Int) = 0 by decide,show ¬ (2:Int) = 1 by decide,show ¬ (3:Int) = 0 by decide,show ¬ (3:Int) = 1 by decide,show ¬ (3:Int) = 2 by decide,if_true,if_false]
  repeat' split
  all_goals first
   | (refine fin _ _ _ _ (by omega) ?_;symm;first | (apply decide_eq_true;omega) | (apply decide_eq_false;omega) | (apply decide_eq_decide.2;omega))
   | omega
theorem bsd_bey {t:Nat} {s:Int} (h0:0 ≤ bey w h t s):bsd w t s = bey w h t s := by
 have m:=Nat.mod_le t w
 have m2:0 < t / w → w ≤ t:=fun q=>Nat.le_trans (Nat.le_mul_of_pos_left w q) (Nat.div_mul_le_self t w)
 unfold bsd
 unfold bey at h0 ⊢
 (repeat' split at h0) <;> simp_all <;> omega
theorem step_sd (L:Land w h C) {t u:Nat} {s:Int} (hs:0 ≤ s ∧ s ≤ 3) (hb:bey w h t s = (u:Int)):sd w ((u:Int) - (t:Int)) = s := by
 have e:=bsd_bey (w:=w) (h:=h) (t:=t) (s:=s) (by omega)
 rw [hb] at e
 have w0:=L.w0
 unfold sd
 unfold bsd at e
 rcases (by omega:s = 0 ∨ s = 1 ∨ s = 2 ∨ s = 3) with c | c | c | c
 all_goals
  subst c
  simp only [show ¬ (1:Int) = 0 by decide,show ¬ (2:Int) = 0 by decide,show ¬ (2:Int) = 1 by decide,show ¬ (3:Int) = 0 by decide,show ¬ (3:Int) = 1 by decide,show ¬ (3:Int) = 2 by decide,if_true,if_false] at e
  (repeat' split) <;> omega
theorem side_ev (L:Land w h C) {t u:Nat} (q:Stp w h C K t u):Ev (fun k => lane_side.f k (w:Int) (h:Int) C (t:Int) (u:Int)) (sd w ((u:Int) - (t:Int))) := by
 obtain ⟨ht,hu,s,hs,_,hb⟩:=q
 unfold lane_side.f
 have hit:Ev (fun k=>lane_side.l0 k (t:Int) (u:Int) s (w:Int) (h:Int) C) s:=by
  refine Ev.step (fun k=>by simp only [lane_side.l0];rfl) (Ev.pos (by omega) (Ev.bindc (beside_eq L ht hs) (Ev.pos (decide_eq_true (show 0 ≤ bey w h t s by omega)) (Ev.pos ?_ (Ev.now _)))))
  exact (bsd_bey (by omega)).trans hb
 have one:∀ s':Int,0 ≤ s' ∧ s' ≤ 3 → Ev (fun k=>lane_side.l0 k (t:Int) (u:Int) (s' + 1) (w:Int) (h:Int) C) s → Ev (fun k=>lane_side.l0 k (t:Int) (u:Int) s' (w:Int) (h:Int) C) s:=by
  intro s' hs' r
  by_cases c:0 ≤ bey w h t s' ∧ bsd w t s' = (u:Int)
  ·have e:s' = s:=by rw [← step_sd L hs hb,← step_sd L hs' ((bsd_bey c.1).symm.trans c.2)]
   rw [e];exact hit
  refine Ev.step (fun k=>by simp only [lane_side.l0];rfl) (Ev.pos (by omega) (Ev.bindc (beside_eq L ht hs') ?_))
  rw [wrap_in (x:=s' + 1) (by omega) (by omega)]
  by_cases c0:0 ≤ bey w h t s'
  ·exact Ev.pos (decide_eq_true c0) (Ev.neg (fun z=>c ⟨c0,z⟩) r)
  ·exact Ev.neg (fun z=>c0 (of_decide_eq_true z)) r
 rw [step_sd L hs hb]
 rcases (by omega:s = 0 ∨ s = 1 ∨ s = 2 ∨ s = 3) with c | c | c | c
 ·rw [c] at hit ⊢;exact hit
 ·rw [c] at hit one ⊢;exact one 0 (by decide) hit
 ·rw [c] at hit one ⊢;exact one 0 (by decide) (one 1 (by decide) hit)
 ·rw [c] at hit one ⊢;exact one 0 (by decide) (one 1 (by decide) (one 2 (by decide) hit))
theorem or_ev (l:List Int) (hl:l.length ≤ 1000):∀ d i:Nat,i + d = l.length → Ev (fun k => api_Errno.l0 k 0 l (l.length:Int) (i:Int)) (((l.drop i).find? (fun x => x != 0)).getD 0)
 | 0,i,e=>by
  refine Ev.step (fun k=>by simp only [api_Errno.l0];rfl) (Ev.neg (by omega) (Ev.const ?_))
  rw [List.drop_eq_nil_of_le (by omega)];rfl
 | d + 1,i,e=>by
  have n:=or_ev l hl d (i + 1) (by omega)
  refine Ev.step (fun k=>by simp only [api_Errno.l0];rfl) (Ev.pos (by omega) (Ev.pos (by omega) (Ev.pos (by omega) ?_)))
  rw [wrap_in (x:=(i:Int) + 1) (by omega) (by omega),rdN,drop_at (B:=l) (i:=i) (by omega),List.find?_cons]
  by_cases c:l.getD i 0 = 0
  ·rw [c];exact Ev.pos rfl n
  ·rw [show (l.getD i 0 != 0) = true by simpa using c]
   exact Ev.neg c (Ev.now _)
theorem or2_ev (a b:Int):Ev (fun k => api_Errno.f k [a,b]) (if a = 0 then b else a) := by
 refine Ev.eq (or_ev [a,b] (by simp) 2 0 rfl) ?_
 simp only [List.drop_zero,List.find?_cons,List.find?_nil]
 by_cases c:a = 0
 ·by_cases d:b = 0
  ·simp [c,d]
  ·have e:(b != 0) = true:=by simpa using d
   simp [c,e]
 ·have e:(a != 0) = true:=by simpa using c
  simp [c,e]
theorem or3_ev (a b c:Int):Ev (fun k => api_Errno.f k [a,b,c]) (if a = 0 then (if b = 0 then c else b) else a) := by
 refine Ev.eq (or_ev [a,b,c] (by simp) 3 0 rfl) ?_
 simp only [List.drop_zero,List.find?_cons,List.find?_nil]
 by_cases p:a = 0
 ·by_cases q:b = 0
  ·by_cases r:c = 0
   ·simp [p,q,r]
   ·have e:(c != 0) = true:=by simpa using r
    simp [p,q,e]
  ·have e:(b != 0) = true:=by simpa using q
   simp [p,q,e]
 ·have e:(a != 0) = true:=by simpa using p
  simp [p,e]
def Way (w h : Nat) (C K : List Int) (a b : Int) (r : List Int × Int) : Prop := (∃ na nb : Nat, Ends w h C K a b na nb ∧ Least w h C K na nb r) ∨ (r = ([], 2) ∧ ¬ ∃ na nb : Nat, Ends w h C K a b na nb)
theorem Way.two {a b:Int} {r:List Int × Int} (hw:Way w h C K a b r) (h2:2 ≤ r.1.length):r.2 = 0 ∧ ∃ (na u nb:Nat) (q:List Int),a = (na:Int) ∧ b = (nb:Int) ∧ r.1 = (na:Int) :: (u:Int) :: q ∧ Stp w h C K na u ∧ Chain w h C K u q nb ∧ q.length + 1 < w * h ∧ (∀ p,Chain w h C K na p nb → q.length + 1 ≤ p.length) ∧ wet w C K nb = true := by
 rcases hw with ⟨na,nb,⟨e1,e2,_,_,_,wb⟩,⟨p,rfl,pl,pc,least⟩ | ⟨rfl,_⟩⟩ | ⟨rfl,_⟩
 ·cases p with
  | nil=>simp at h2
  | cons x q =>
   obtain ⟨u,rfl,hs,hc⟩:=pc
   exact ⟨rfl,na,u,nb,q,e1,e2,rfl,hs,hc,by simpa using pl,fun p hp=>by simpa using least p hp,wb⟩
 ·simp at h2
 ·simp at h2
def Wets (w h : Nat) (C K : List Int) (a : Int) : Prop := ∃ na : Nat, a = (na : Int) ∧ na < w * h ∧ wet w C K na = true
open Classical in
theorem wet_ev (U:Waters w h C K B) (hC:C.length ≤ 4000) (hB:B.length ≤ 4000) (a:Int):Ev (fun k => lane_wet.f k (w:Int) (h:Int) C K B a) (if Wets w h C K a then 0 else 2) := by
 unfold lane_wet.f
 obtain ⟨r,r1,r2⟩:=sail_prog U hC hB a a
 refine Ev.bind r1 (Ev.const ?_)
 congr 1
 rcases r2 with ⟨na,nb,⟨e1,e2,h1,h2,w1,w2⟩,l⟩ | ⟨rfl,n⟩
 ·rw [if_pos ⟨na,e1,h1,w1⟩]
  rcases l with ⟨p,rfl,_⟩ | ⟨_,n⟩
  ·rfl
  ·exact absurd ⟨[],show na = nb by omega⟩ n
 ·rw [if_neg]
  rintro ⟨na,e1,h1,w1⟩
  exact n ⟨na,na,e1,e1,h1,h1,w1,w1⟩
end
section
variable {W H : Int} {C K B : List Int}
theorem sail_bad (hC:C.length ≤ 4000) (hB:B.length ≤ 4000) (hw:¬ wcode W H C K B = 0) (a b:Int):Ev (fun k => water_Sail.f k W H C K B a b) ([],wcode W H C K B) := by
 unfold water_Sail.f
 refine Ev.bind (check_ev hC hB) ?_
 by_cases l:lcode W H C = 0
 ·simp only [if_pos l];exact Ev.neg hw (Ev.now _)
 ·simp only [if_neg l];exact Ev.neg hw (Ev.now _)
theorem code_or:(if lcode W H C = 0 then wcode W H C K B else lcode W H C) = wcode W H C K B := by
 unfold wcode
 by_cases c:lcode W H C = 0
 ·rw [if_pos c]
 ·rw [if_neg c,if_neg c]
end
end Go.Proofs.Ythjmdpekcleihaa.Pure

/- Layer 17, ships: the side towards a tile, a launch and a ship's tick, as the program makes them. No conditions. -/
import Derived.Test.YthjmdpekcleihaaPx0
import Derived.Test.YthjmdpekcleihaaPx2
import Derived.Test.YthjmdpekcleihaaPx4
import Derived.Test.YthjmdpekcleihaaPx7
import Derived.Test.YthjmdpekcleihaaPx8
import Derived.Test.YthjmdpekcleihaaPx9
import Derived.Test.YthjmdpekcleihaaShip0
namespace Go.Proofs.Ythjmdpekcleihaa.Pure
set_option linter.unusedVariables false
set_option linter.unusedSimpArgs false
open Go.RowKit Go.Proofs.YthjmdpekcleihaaW.PrintWords Go.Proofs.YthjmdpekcleihaaW.PrintMore Go.Proofs.Ythjmdpekcleihaa.P Go.Proofs.Ythjmdpekcleihaa

theorem vast_eq (W H:Int) (C K B:List Int):hinterlandlaw17_vast.f W H C K B = some (decide ((C.length:Int) > 1200 ∨ (K.length:Int) > 1200 ∨ (B.length:Int) > 1200)) := by
 unfold hinterlandlaw17_vast.f
 by_cases h1:(C.length:Int) > 1200
 ·rw [if_pos h1,decide_eq_true (.inl h1)]
 rw [if_neg h1]
 by_cases h2:(K.length:Int) > 1200
 ·rw [if_pos h2,decide_eq_true (.inr (.inl h2))]
 rw [if_neg h2]
 congr 1
 apply decide_eq_decide.2
 omega
theorem within_eq (a b:Int):lane_within.f a b = some (decide (0 ≤ a ∧ a ≤ b)) := by
 unfold lane_within.f
 by_cases h:a ≥ 0
 ·rw [if_pos h];congr 1;apply decide_eq_decide.2;omega
 ·rw [if_neg h];congr 1;symm;apply decide_eq_false;omega
def bsd (w t : Nat) (s : Int) : Int := if s = 0 then (t : Int) + 1 else if s = 1 then (t : Int) + w else if s = 2 then (t : Int) - 1 else (t : Int) - w
def sd (w d : Int) : Int := if d = 1 then 0 else if d = -1 then 2 else if d = w then 1 else 3
theorem sd_in (w d:Int):0 ≤ sd w d ∧ sd w d ≤ 3 := by unfold sd; (repeat' split) <;> omega
section
variable {w h : Nat} {C K B : List Int}
theorem beside_eq (L:Land w h C) {t:Nat} (ht:t < w * h) {s:Int} (hs:0 ≤ s ∧ s ≤ 3):lane_beside.f (w:Int) (h:Int) (t:Int) s = some (bsd w t s,decide (0 ≤ bey w h t s)) := by
 obtain ⟨h1,h2,h3⟩:=tile ht
 have w0:=L.w0
 have w1:=L.w1
 have hh1:=L.h1
 have q:Int.tdiv (t:Int) (w:Int) = ((t / w:Nat):Int):=rfl
 have m:Int.tmod (t:Int) (w:Int) = ((t % w:Nat):Int):=rfl
 have b1:t / w * w ≤ 32 * 32:=mulle (by omega) (by omega)
 have e:((t / w:Nat):Int) * (w:Int) = ((t / w * w:Nat):Int):=by push_cast;rfl
 have e2:(((t / w:Nat):Int) + 1) * (w:Int) = ((t / w * w:Nat):Int) + w:=by rw [Int.add_mul,e];omega
 have e3:(((t / w:Nat):Int) - 1) * (w:Int) = ((t / w * w:Nat):Int) - w:=by rw [Int.sub_mul,e];omega
 have fin:∀ (x y:Int) (p q:Bool),x = y → p = q → (some (x,p):Option (Int × Bool)) = some (y,q):=fun x y p q h1 h2=>by rw [h1,h2]
 generalize hd:t / w = D at *
 generalize hm:t % w = M at *
 generalize hp:D * w = P at *
 unfold lane_beside.f bsd bey
 rw [hd,hm,q,m,if_neg (by omega),wrap_in (x:=(M:Int) + 1) (by omega) (by omega),wrap_in (x:=(M:Int) - 1) (by omega) (by omega),wrap_in (x:=(D:Int)) (by omega) (by omega),wrap_in (x:=(D:Int) + 1) (by omega) (by omega),wrap_in (x:=(D:Int) - 1) (by omega) (by omega),e,e2,e3,wrap_in (x:=(P:Int)) (by omega) (by omega),wrap_in (x:=(P:Int) + w) (by omega) (by omega),wrap_in (x:=(P:Int) - w) (by omega) (by omega),wrap_in (x:=(P:Int) + ((M:Int) + 1)) (by omega) (by omega),wrap_in (x:=(P:Int) + ((M:Int) - 1)) (by omega) (by omega),wrap_in (x:=(P:Int) + w + (M:Int)) (by omega) (by omega),wrap_in (x:=(P:Int) - w + (M:Int)) (by omega) (by omega)]
 rcases (by omega:s = 0 ∨ s = 1 ∨ s = 2 ∨ s = 3) with c | c | c | c
 all_goals
  subst c
  simp only [show ¬ (1:Int) = 0 by decide,show ¬ (2:Int) = 0 by decide,show ¬ (2:Int) = 1 by decide,show ¬ (3:Int) = 0 by decide,show ¬ (3:Int) = 1 by decide,show ¬ (3:Int) = 2 by decide,if_true,if_false]
  repeat' split
  all_goals first
   | (refine fin _ _ _ _ (by omega) ?_;symm;first | (apply decide_eq_true;omega) | (apply decide_eq_false;omega) | (apply decide_eq_decide.2;omega))
   | omega
theorem bsd_bey {t:Nat} {s:Int} (h0:0 ≤ bey w h t s):bsd w t s = bey w h t s := by
 have m:=Nat.mod_le t w
 have m2:0 < t / w → w ≤ t:=fun q=>Nat.le_trans (Nat.le_mul_of_pos_left w q) (Nat.div_mul_le_self t w)
 unfold bsd
 unfold bey at h0 ⊢
 (repeat' split at h0) <;> simp_all <;> omega
theorem step_sd (L:Land w h C) {t u:Nat} {s:Int} (hs:0 ≤ s ∧ s ≤ 3) (hb:bey w h t s = (u:Int)):sd w ((u:Int) - (t:Int)) = s := by
 have e:=bsd_bey (w:=w) (h:=h) (t:=t) (s:=s) (by omega)
 rw [hb] at e
 have w0:=L.w0
 unfold sd
 unfold bsd at e
 rcases (by omega:s = 0 ∨ s = 1 ∨ s = 2 ∨ s = 3) with c | c | c | c
 all_goals
  subst c
  simp only [show ¬ (1:Int) = 0 by decide,show ¬ (2:Int) = 0 by decide,show ¬ (2:Int) = 1 by decide,show ¬ (3:Int) = 0 by decide,show ¬ (3:Int) = 1 by decide,show ¬ (3:Int) = 2 by decide,if_true,if_false] at e
  (repeat' split) <;> omega
theorem side_ev (L:Land w h C) {t u:Nat} (q:Stp w h C K t u):Ev (fun k => lane_side.f k (w:Int) (h:Int) C (t:Int) (u:Int)) (sd w ((u:Int) - (t:Int))) := by
 obtain ⟨ht,hu,s,hs,_,hb⟩:=q
 unfold lane_side.f
 have hit:Ev (fun k=>lane_side.l0 k (t:Int) (u:Int) s (w:Int) (h:Int) C) s:=by
  refine Ev.step (fun k=>by simp only [lane_side.l0];rfl) (Ev.pos (by omega) (Ev.bindc (beside_eq L ht hs) (Ev.pos (decide_eq_true (show 0 ≤ bey w h t s by omega)) (Ev.pos ?_ (Ev.now _)))))
  exact (bsd_bey (by omega)).trans hb
 have one:∀ s':Int,0 ≤ s' ∧ s' ≤ 3 → Ev (fun k=>lane_side.l0 k (t:Int) (u:Int) (s' + 1) (w:Int) (h:Int) C) s → Ev (fun k=>lane_side.l0 k (t:Int) (u:Int) s' (w:Int) (h:Int) C) s:=by
  intro s' hs' r
  by_cases c:0 ≤ bey w h t s' ∧ bsd w t s' = (u:Int)
  ·have e:s' = s:=by rw [← step_sd L hs hb,← step_sd L hs' ((bsd_bey c.1).symm.trans c.2)]
   rw [e];exact hit
  refine Ev.step (fun k=>by simp only [lane_side.l0];rfl) (Ev.pos (by omega) (Ev.bindc (beside_eq L ht hs') ?_))
  rw [wrap_in (x:=s' + 1) (by omega) (by omega)]
  by_cases c0:0 ≤ bey w h t s'
  ·exact Ev.pos (decide_eq_true c0) (Ev.neg (fun z=>c ⟨c0,z⟩) r)
  ·exact Ev.neg (fun z=>c0 (of_decide_eq_true z)) r
 rw [step_sd L hs hb]
 rcases (by omega:s = 0 ∨ s = 1 ∨ s = 2 ∨ s = 3) with c | c | c | c
 ·rw [c] at hit ⊢;exact hit
 ·rw [c] at hit one ⊢;exact one 0 (by decide) hit
 ·rw [c] at hit one ⊢;exact one 0 (by decide) (one 1 (by decide) hit)
 ·rw [c] at hit one ⊢;exact one 0 (by decide) (one 1 (by decide) (one 2 (by decide) hit))
theorem or_ev (l:List Int) (hl:l.length ≤ 1000):∀ d i:Nat,i + d = l.length → Ev (fun k => api_Errno.l0 k 0 l (l.length:Int) (i:Int)) (((l.drop i).find? (fun x => x != 0)).getD 0)
 | 0,i,e=>by
  refine Ev.step (fun k=>by simp only [api_Errno.l0];rfl) (Ev.neg (by omega) (Ev.const ?_))
  rw [List.drop_eq_nil_of_le (by omega)];rfl
 | d + 1,i,e=>by
  have n:=or_ev l hl d (i + 1) (by omega)
  refine Ev.step (fun k=>by simp only [api_Errno.l0];rfl) (Ev.pos (by omega) (Ev.pos (by omega) (Ev.pos (by omega) ?_)))
  rw [wrap_in (x:=(i:Int) + 1) (by omega) (by omega),rdN,drop_at (B:=l) (i:=i) (by omega),List.find?_cons]
  by_cases c:l.getD i 0 = 0
  ·rw [c];exact Ev.pos rfl n
  ·rw [show (l.getD i 0 != 0) = true by simpa using c]
   exact Ev.neg c (Ev.now _)
theorem or2_ev (a b:Int):Ev (fun k => api_Errno.f k [a,b]) (if a = 0 then b else a) := by
 refine Ev.eq (or_ev [a,b] (by simp) 2 0 rfl) ?_
 simp only [List.drop_zero,List.find?_cons,List.find?_nil]
 by_cases c:a = 0
 ·by_cases d:b = 0
  ·simp [c,d]
  ·have e:(b != 0) = true:=by simpa using d
   simp [c,e]
 ·have e:(a != 0) = true:=by simpa using c
  simp [c,e]
theorem or3_ev (a b c:Int):Ev (fun k => api_Errno.f k [a,b,c]) (if a = 0 then (if b = 0 then c else b) else a) := by
 refine Ev.eq (or_ev [a,b,c] (by simp) 3 0 rfl) ?_
 simp only [List.drop_zero,List.find?_cons,List.find?_nil]
 by_cases p:a = 0
 ·by_cases q:b = 0
  ·by_cases r:c = 0
   ·simp [p,q,r]
   ·have e:(c != 0) = true:=by simpa using r
    simp [p,q,e]
  ·have e:(b != 0) = true:=by simpa using q
   simp [p,q,e]
 ·have e:(a != 0) = true:=by simpa using p
  simp [p,e]
theorem moves_eq (t f o s d:Int) (ht:t ≠ -1):lane_moves.f t f o s d = some (decide ((-1 ≤ f ∧ f ≤ 3) ∧ (0 ≤ o ∧ o ≤ 3) ∧ (0 ≤ s ∧ s ≤ 192) ∧ (0 ≤ d ∧ d ≤ 191))) := by
 unfold lane_moves.f
 rw [if_neg ht,within_eq,within_eq,within_eq]
 by_cases c1:-1 ≤ f
 rotate_left
 ·rw [if_neg (show ¬ f ≥ -1 from c1),decide_eq_false (fun z=>c1 z.1.1)]
 rw [if_pos (show f ≥ -1 from c1)]
 by_cases c2:f ≤ 3
 rotate_left
 ·rw [if_neg c2,decide_eq_false (fun z=>c2 z.1.2)]
 rw [if_pos c2,Option.bind_some]
 by_cases c3:0 ≤ o ∧ o ≤ 3
 rotate_left
 ·rw [if_neg (by simpa using c3),decide_eq_false (fun z=>c3 z.2.1)]
 rw [if_pos (decide_eq_true c3),Option.bind_some]
 by_cases c4:0 ≤ s ∧ s ≤ 192
 rotate_left
 ·rw [if_neg (by simpa using c4),decide_eq_false (fun z=>c4 z.2.2.1)]
 rw [if_pos (decide_eq_true c4),Option.bind_some]
 congr 1
 apply decide_eq_decide.2
 exact ⟨fun z=>⟨⟨c1,c2⟩,c3,c4,z⟩,fun z=>z.2.2.2⟩
def Way (w h : Nat) (C K : List Int) (a b : Int) (r : List Int × Int) : Prop := (∃ na nb : Nat, Ends w h C K a b na nb ∧ Least w h C K na nb r) ∨ (r = ([], 2) ∧ ¬ ∃ na nb : Nat, Ends w h C K a b na nb)
theorem Way.two {a b:Int} {r:List Int × Int} (hw:Way w h C K a b r) (h2:2 ≤ r.1.length):r.2 = 0 ∧ ∃ (na u nb:Nat) (q:List Int),a = (na:Int) ∧ b = (nb:Int) ∧ r.1 = (na:Int) :: (u:Int) :: q ∧ Stp w h C K na u ∧ Chain w h C K u q nb ∧ q.length + 1 < w * h ∧ (∀ p,Chain w h C K na p nb → q.length + 1 ≤ p.length) ∧ wet w C K nb = true := by
 rcases hw with ⟨na,nb,⟨e1,e2,_,_,_,wb⟩,⟨p,rfl,pl,pc,least⟩ | ⟨rfl,_⟩⟩ | ⟨rfl,_⟩
 ·cases p with
  | nil=>simp at h2
  | cons x q =>
   obtain ⟨u,rfl,hs,hc⟩:=pc
   exact ⟨rfl,na,u,nb,q,e1,e2,rfl,hs,hc,by simpa using pl,fun p hp=>by simpa using least p hp,wb⟩
 ·simp at h2
 ·simp at h2
def shipR (w : Int) (s0 s1 s2 s3 s4 : Int) (r : List Int × Int) : Int × Int × Int × Int × Int × Int × Int :=
 if 2 ≤ r.1.length then (if 2 < r.1.length then (r.1.getD 1 0,Int.tmod (sd w (r.1.getD 1 0 - r.1.getD 0 0) + 2) 4,sd w (r.1.getD 2 0 - r.1.getD 1 0),s3,s4 - 192,0,0) else (r.1.getD 1 0,Int.tmod (sd w (r.1.getD 1 0 - r.1.getD 0 0) + 2) 4,sd w (r.1.getD 1 0 - r.1.getD 0 0),s3,0,3,0)) else (s0,s1,s2,0,191,2,0)
theorem turn_ev (L:Land w h C) {a b:Int} {r:List Int × Int} (hw:Way w h C K a b r) (s0 s1 s2 s3 s4:Int) (h4:0 ≤ s4 ∧ s4 ≤ 1000):Ev (fun k => if r.2 = 0 then lane_Sail.j0 k r.1 (decide ((r.1.length:Int) < 2)) (w:Int) (h:Int) C s0 s1 s2 s3 s4 else lane_Sail.j0 k r.1 true (w:Int) (h:Int) C s0 s1 s2 s3 s4) (shipR w s0 s1 s2 s3 s4 r) := by
 unfold shipR
 by_cases h2:2 ≤ r.1.length
 rotate_left
 ·rw [if_neg h2,decide_eq_true (show (r.1.length:Int) < 2 by omega)]
  have j:Ev (fun k=>lane_Sail.j0 k r.1 true (w:Int) (h:Int) C s0 s1 s2 s3 s4) (s0,s1,s2,0,191,2,0):=Ev.step (fun k=>by simp only [lane_Sail.j0];rfl) (Ev.pos (show true = true from rfl) (Ev.now _))
  by_cases c:r.2 = 0
  ·exact Ev.pos c j
  ·exact Ev.neg c j
 obtain ⟨h0,na,u,nb,q,rfl,rfl,e,st,ch,ql,least,wb⟩:=hw.two h2
 rw [if_pos h2,decide_eq_false (show ¬ (r.1.length:Int) < 2 by omega)]
 refine Ev.pos h0 (Ev.step (fun k=>by simp only [lane_Sail.j0];rfl) (Ev.neg Bool.false_ne_true (Ev.pos (by omega) (Ev.pos (by omega) ?_))))
 rw [e]
 change Ev (fun k=>(lane_side.f k (w:Int) (h:Int) C (na:Int) (u:Int)).bind _) _
 have si:=sd_in w ((u:Int) - (na:Int))
 refine Ev.bind (side_ev L st) ?_
 cases q with
 | nil =>
  rw [if_neg (by simp)]
  refine Ev.neg (by simp) (Ev.const ?_)
  rw [wrap_in (x:=sd w ((u:Int) - (na:Int)) + 2) (by omega) (by omega)]
  rfl
 | cons x q =>
  obtain ⟨v,rfl,st2,ch2⟩:=ch
  rw [if_pos (by simp)]
  refine Ev.pos (by simp only [List.length_cons];omega) (Ev.pos (by simp only [List.length_cons];omega) ?_)
  change Ev (fun k=>(lane_side.f k (w:Int) (h:Int) C (u:Int) (v:Int)).bind _) _
  refine Ev.bind (side_ev L st2) (Ev.const ?_)
  rw [wrap_in (x:=sd w ((u:Int) - (na:Int)) + 2) (by omega) (by omega),wrap_in (x:=s4 - 192) (by omega) (by omega)]
  rfl
def Wets (w h : Nat) (C K : List Int) (a : Int) : Prop := ∃ na : Nat, a = (na : Int) ∧ na < w * h ∧ wet w C K na = true
open Classical in
theorem wet_ev (U:Waters w h C K B) (hC:C.length ≤ 4000) (hB:B.length ≤ 4000) (a:Int):Ev (fun k => lane_wet.f k (w:Int) (h:Int) C K B a) (if Wets w h C K a then 0 else 2) := by
 unfold lane_wet.f
 obtain ⟨r,r1,r2⟩:=sail_prog U hC hB a a
 refine Ev.bind r1 (Ev.const ?_)
 congr 1
 rcases r2 with ⟨na,nb,⟨e1,e2,h1,h2,w1,w2⟩,l⟩ | ⟨rfl,n⟩
 ·rw [if_pos ⟨na,e1,h1,w1⟩]
  rcases l with ⟨p,rfl,_⟩ | ⟨_,n⟩
  ·rfl
  ·exact absurd ⟨[],show na = nb by omega⟩ n
 ·rw [if_neg]
  rintro ⟨na,e1,h1,w1⟩
  exact n ⟨na,na,e1,e1,h1,h1,w1,w1⟩
end
section
variable {W H : Int} {C K B : List Int}
theorem sail_bad (hC:C.length ≤ 4000) (hB:B.length ≤ 4000) (hw:¬ wcode W H C K B = 0) (a b:Int):Ev (fun k => water_Sail.f k W H C K B a b) ([],wcode W H C K B) := by
 unfold water_Sail.f
 refine Ev.bind (check_ev hC hB) ?_
 by_cases l:lcode W H C = 0
 ·simp only [if_pos l];exact Ev.neg hw (Ev.now _)
 ·simp only [if_neg l];exact Ev.neg hw (Ev.now _)
theorem code_or:(if lcode W H C = 0 then wcode W H C K B else lcode W H C) = wcode W H C K B := by
 unfold wcode
 by_cases c:lcode W H C = 0
 ·rw [if_pos c]
 ·rw [if_neg c,if_neg c]
abbrev noSh (c : Int) : Int × Int × Int × Int × Int × Int := (0, 0, 0, 0, 0, c)
theorem launch_bad (hC:C.length ≤ 4000) (hB:B.length ≤ 4000) (hw:¬ wcode W H C K B = 0) (a b:Int):Ev (fun k => lane_Launch.f k W H C K B a b) (noSh (wcode W H C K B)) := by
 unfold lane_Launch.f
 have wb:Ev (fun k=>lane_wet.f k W H C K B a) (wcode W H C K B):=by
  unfold lane_wet.f
  exact Ev.bind (sail_bad hC hB hw a a) (Ev.now _)
 refine Ev.bind (land_ev hC) (Ev.bind (validate_ev hC hB) (Ev.bind wb (Ev.bind (or3_ev _ _ _) ?_)))
 have e:(if lcode W H C = 0 then (if wcode W H C K B = 0 then wcode W H C K B else wcode W H C K B) else lcode W H C) = wcode W H C K B:=by
  rw [ite_self];exact code_or
 rw [e]
 exact Ev.neg hw (Ev.now _)
variable {w h : Nat}
def launchR (w : Int) (a : Int) (r : List Int × Int) : Int × Int × Int × Int × Int × Int :=
 if 2 ≤ r.1.length then (a,-1,sd w (r.1.getD 1 0 - r.1.getD 0 0),0,0,0) else (a,-1,0,0,0,0)
open Classical in
theorem launch_ev (U:Waters w h C K B) (hC:C.length ≤ 4000) (hB:B.length ≤ 4000) {a b:Int} {r:List Int × Int} (hr:Ev (fun k => water_Sail.f k (w:Int) (h:Int) C K B a b) r) (hw:Way w h C K a b r):Ev (fun k => lane_Launch.f k (w:Int) (h:Int) C K B a b) (if Wets w h C K a then launchR w a r else noSh 2) := by
 unfold lane_Launch.f
 refine Ev.bind (land_ev hC) (Ev.bind (validate_ev hC hB) (Ev.bind (wet_ev U hC hB a) (Ev.bind (or3_ev _ _ _) ?_)))
 rw [of_land U.land,of_waters U,if_pos rfl,if_pos rfl]
 by_cases c:Wets w h C K a
 rotate_left
 ·rw [if_neg c,if_neg c];exact Ev.neg (by decide) (Ev.now _)
 rw [if_pos c,if_pos c]
 refine Ev.pos rfl (Ev.bind hr ?_)
 unfold launchR
 by_cases h2:2 ≤ r.1.length
 rotate_left
 ·rw [if_neg h2]
  by_cases c0:r.2 = 0
  ·exact Ev.pos c0 (Ev.neg (by omega) (Ev.now _))
  ·exact Ev.neg c0 (Ev.now _)
 obtain ⟨h0,na,u,nb,q,rfl,rfl,e,st,ch,ql,least,wb⟩:=hw.two h2
 rw [if_pos h2]
 refine Ev.pos h0 (Ev.pos (by omega) (Ev.pos (by omega) (Ev.pos (by omega) ?_)))
 rw [e]
 change Ev (fun k=>(lane_side.f k (w:Int) (h:Int) C (na:Int) (u:Int)).bind _) _
 exact Ev.bind (side_ev U.land st) (Ev.now _)
abbrev noSl (c : Int) : Int × Int × Int × Int × Int × Int × Int := (0, 0, 0, 0, 0, 0, c)
theorem ship_bad (hC:C.length ≤ 4000) (hB:B.length ≤ 4000) (hw:¬ wcode W H C K B = 0) (s0 s1 s2 s3 s4 g:Int):Ev (fun k => lane_Sail.f k W H C K B s0 s1 s2 s3 s4 g) (noSl (wcode W H C K B)) := by
 unfold lane_Sail.f
 refine Ev.bind (land_ev hC) (Ev.bind (validate_ev hC hB) (Ev.bind (or2_ev _ _) ?_))
 rw [code_or]
 exact Ev.neg hw (Ev.now _)
def Fits (s1 s2 s3 s4 : Int) : Prop := (-1 ≤ s1 ∧ s1 ≤ 3) ∧ (0 ≤ s2 ∧ s2 ≤ 3) ∧ (0 ≤ s3 ∧ s3 ≤ 192) ∧ (0 ≤ s4 ∧ s4 ≤ 191)
theorem ship_ev (U:Waters w h C K B) (hC:C.length ≤ 4000) (hB:B.length ≤ 4000) {s0 s1 s2 s3 s4 g:Int} {r:List Int × Int} (hs:Wets w h C K s0) (hf:Fits s1 s2 s3 s4) (h4:192 ≤ s4 + s3) (hr:Ev (fun k => water_Sail.f k (w:Int) (h:Int) C K B s0 g) r) (hw:Way w h C K s0 g r):Ev (fun k => lane_Sail.f k (w:Int) (h:Int) C K B s0 s1 s2 s3 s4 g) (shipR w s0 s1 s2 s3 (s4 + s3) r) := by
 unfold lane_Sail.f
 have h0:s0 ≠ -1:=by obtain ⟨n,e,_⟩:=hs;omega
 have hf':=hf
 unfold Fits at hf'
 refine Ev.bind (land_ev hC) (Ev.bind (validate_ev hC hB) (Ev.bind (or2_ev _ _) ?_))
 rw [of_land U.land,of_waters U,if_pos rfl]
 refine Ev.pos rfl (Ev.bindc (moves_eq s0 s1 s2 s3 s4 h0) (Ev.pos (decide_eq_true hf) (Ev.neg h0 (Ev.bind (wet_ev U hC hB s0) ?_))))
 rw [if_pos hs,wrap_in (x:=s4 + s3) (by omega) (by omega)]
 exact Ev.pos rfl (Ev.neg (by omega) (Ev.bind hr (turn_ev U.land hw s0 s1 s2 s3 (s4 + s3) (by omega))))
end
end Go.Proofs.Ythjmdpekcleihaa.Pure

/- Layer 17, LaneArrives (P17.5): a ship that is launched towards a goal that can be reached comes there, if it keeps the greatest speed, in as many ticks as its way has steps. No conditions. -/
import Derived.Test.YthjmdpekcleihaaPSLaneArrives
import Derived.Test.YthjmdpekcleihaaShip1
import Derived.Test.YthjmdpekcleihaaShipK
namespace Go.Proofs.Ythjmdpekcleihaa.Pure
set_option linter.unusedVariables false
set_option linter.unusedSimpArgs false
open Go.RowKit Go.Proofs.YthjmdpekcleihaaW.PrintWords Go.Proofs.Ythjmdpekcleihaa.P Go.Proofs.Ythjmdpekcleihaa

section
variable {w h : Nat} {C K B : List Int}
theorem fin2:Ev (fun k => (hinterlandlaw17_known.f k).bind fun t => hinterlandlaw17_LaneArrives.j2 k t) true := Ev.bind known_ev (Ev.step (fun k => by simp only [hinterlandlaw17_LaneArrives.j2]) (Ev.now _))
theorem fin3:Ev (fun k => (hinterlandlaw17_known.f k).bind fun t => hinterlandlaw17_LaneArrives.j3 k t) true := Ev.bind known_ev (Ev.step (fun k => by simp only [hinterlandlaw17_LaneArrives.j3]) (Ev.now _))
theorem Stp.wet (U:Waters w h C K B) {t u:Nat} (q:Stp w h C K t u):Wets w h C K (u:Int) := by
 refine ⟨u,rfl,q.2.1,?_⟩
 apply Classical.byContradiction
 intro hn
 obtain ⟨_,_,s,hs,hj,_⟩:=q.back
 rw [join_no2 hn] at hj
 exact absurd hj (by decide)
theorem tick (U:Waters w h C K B) (hC:C.length ≤ 4000) (hB:B.length ≤ 4000) {a g s1 s2:Int} (hs:Wets w h C K a) (h1:-1 ≤ s1 ∧ s1 ≤ 3) (h2:0 ≤ s2 ∧ s2 ≤ 3):∃ r,Way w h C K a g r ∧ Ev (fun k => lane_Sail.f k (w:Int) (h:Int) C K B a s1 s2 192 0 g) (shipR w a s1 s2 192 192 r) := by
 obtain ⟨r,r1,r2⟩:=sail_prog U hC hB a g
 exact ⟨r,r2,ship_ev U hC hB hs ⟨h1,h2,by decide,by decide⟩ (by decide) r1 r2⟩
theorem turned (x y:Int):-1 ≤ Int.tmod (sd x y + 2) 4 ∧ Int.tmod (sd x y + 2) 4 ≤ 3 := by
 have:=sd_in x y
 rcases (by omega:sd x y = 0 ∨ sd x y = 1 ∨ sd x y = 2 ∨ sd x y = 3) with c | c | c | c <;> rw [c] <;> decide
theorem goes (U:Waters w h C K B) (hC:C.length ≤ 4000) (hB:B.length ≤ 4000) {g:Nat}:∀ (m n na:Nat) (p:List Int) (s1 s2:Int),Chain w h C K na p g → p.length ≤ m → na < w * h → wet w C K na = true → wet w C K g = true → g < w * h → na ≠ g → n + m ≤ w * h → (-1 ≤ s1 ∧ s1 ≤ 3) → (0 ≤ s2 ∧ s2 ≤ 3) →
  ∀ s3:Int,Ev (fun k=>hinterlandlaw17_LaneArrives.l0 k (g:Int) (n:Int) (w:Int) (h:Int) C K B (na:Int) s1 s2 s3 0) true
 | 0,n,na,p,s1,s2,hc,hp,_,_,_,_,hne,_,_,_,s3=>by
  have:p = []:=List.eq_nil_of_length_eq_zero (by omega)
  subst this
  exact absurd hc hne
 | m + 1,n,na,p,s1,s2,hc,hp,hna,hwa,hwg,hg,hne,hn,h1,h2,s3=>by
  have hKl:=U.len
  have hwh:w * h ≤ 32 * 32:=mulle U.land.w1 U.land.h1
  obtain ⟨r,r1,r2⟩:=tick U hC hB (a:=(na:Int)) (g:=(g:Int)) ⟨na,rfl,hna,hwa⟩ h1 h2
  have r3:2 ≤ r.1.length:=by
   rcases r1 with ⟨na',nb',⟨e1,e2,_⟩,⟨q,rfl,_,qc,_⟩ | ⟨_,no⟩⟩ | ⟨_,no⟩
   ·cases q with
    | nil =>
     have qc':na' = nb':=qc
     exact absurd (show na = g by omega) hne
    | cons x q=>simp
   ·rw [← show na = na' by omega,← show g = nb' by omega] at no
    exact absurd ⟨p,hc⟩ no
   ·exact absurd ⟨na,g,rfl,rfl,hna,hg,hwa,hwg⟩ no
  obtain ⟨r0,na',u,nb',q,e1,e2,e,st,ch,ql,least,_⟩:=r1.two r3
  obtain rfl:na = na':=by omega
  obtain rfl:g = nb':=by omega
  refine Ev.step (fun k=>by simp only [hinterlandlaw17_LaneArrives.l0];rfl) (Ev.pos (by omega) (Ev.bind r2 ?_))
  unfold shipR
  rw [if_pos r3]
  rw [wrap_in (x:=(n:Int) + 1) (by omega) (by omega)]
  cases q with
  | nil =>
   have eu:u = g:=ch
   subst eu
   rw [if_neg (by rw [e];simp),e]
   exact Ev.pos rfl (Ev.pos rfl (Ev.pos rfl fin2))
  | cons x q =>
   have hug:u ≠ g:=by
    intro z
    have:=least [(u:Int)] ⟨u,rfl,st,z⟩
    simp at this
   have le:=least p hc
   have nx:=goes U hC hB m (n + 1) u (x :: q) (Int.tmod (sd w ((u:Int) - (na:Int)) + 2) 4) (sd w (x - (u:Int))) ch (by simp only [List.length_cons] at le ⊢;omega) st.2.1 (by obtain ⟨z,ze,_,zw⟩:=st.wet U;rw [show u = z by omega];exact zw) hwg hg hug (by omega) (turned _ _) (sd_in _ _) 192
   rw [if_pos (by rw [e];simp),e]
   exact Ev.pos rfl (Ev.neg (show ¬ (0:Int) = 3 by decide) (Ev.neg (show ¬ (0:Int) = 2 by decide) nx))
end
theorem LaneArrives:hinterlandlaw17_LaneArrives.Pure := by
 intro W H C K B a g _ _ _ _ _ _ _
 refine Ev.rounds ?_
 unfold hinterlandlaw17_LaneArrives.f
 refine Ev.bindc (vast_eq _ _ _ _ _) ?_
 by_cases hfar:(C.length:Int) > 1200 ∨ (K.length:Int) > 1200 ∨ (B.length:Int) > 1200
 ·exact Ev.pos (decide_eq_true hfar) known_then
 refine Ev.neg (fun h=>hfar (of_decide_eq_true h)) ?_
 have hC:C.length ≤ 4000:=by omega
 have hB:B.length ≤ 4000:=by omega
 have far:∀ x1 x2 x3 x4 x5,Ev (fun k=>hinterlandlaw17_LaneArrives.j0 k g true W H C K B x1 x2 x3 x4 x5) true:=fun _ _ _ _ _=>Ev.step (fun k=>by simp only [hinterlandlaw17_LaneArrives.j0];rfl) (Ev.pos (show true = true from rfl) known_then)
 by_cases hw:wcode W H C K B = 0
 rotate_left
 ·exact Ev.bind (launch_bad hC hB hw a g) (Ev.neg hw (far _ _ _ _ _))
 have hw':=hw
 obtain ⟨w,h,rfl,rfl,U⟩:=waters_of hw
 have hKl:=U.len
 have hwh:w * h ≤ 32 * 32:=mulle U.land.w1 U.land.h1
 obtain ⟨r,r1,r2⟩:=sail_prog U hC hB a g
 refine Ev.bind (launch_ev U hC hB r1 r2) ?_
 by_cases c:Wets w h C K a
 rotate_left
 ·rw [if_neg c];exact Ev.neg (by decide) (far _ _ _ _ _)
 rw [if_pos c]
 have lr:∃ s2:Int,(0 ≤ s2 ∧ s2 ≤ 3) ∧ launchR w a r = (a,-1,s2,0,0,0):=by
  unfold launchR
  split
  ·exact ⟨_,sd_in _ _,rfl⟩
  ·exact ⟨0,by decide,rfl⟩
 obtain ⟨s2,h2,lr⟩:=lr
 rw [lr]
 refine Ev.pos rfl ?_
 by_cases hag:a = g
 ·rw [show (a == g) = true by simpa using hag]
  exact far _ _ _ _ _
 rw [show (a == g) = false by simpa using hag]
 obtain ⟨na,rfl,hna,hwa⟩:=c
 refine Ev.step (fun k=>by simp only [hinterlandlaw17_LaneArrives.j0];rfl) (Ev.neg Bool.false_ne_true ?_)
 by_cases c2:2 ≤ r.1.length
 ·obtain ⟨r0,na',u,nb,q,e1,rfl,e,st,ch,ql,least,wb⟩:=Way.two r2 c2
  obtain rfl:na = na':=by omega
  have hnb:nb < w * h:=by
   rcases r2 with ⟨x,y,⟨_,e2,_,h2,_⟩,_⟩ | ⟨z,_⟩
   ·omega
   ·rw [z] at c2;simp at c2
  exact goes U hC hB (q.length + 1) 0 na ((u:Int) :: q) (-1) s2 ⟨u,rfl,st,ch⟩ (by simp) hna hwa wb hnb (fun z=>hag (by rw [z])) (by omega) (by decide) h2 0
 ·have t:=ship_ev U hC hB (s1:=-1) (s2:=s2) (s3:=192) (s4:=0) ⟨na,rfl,hna,hwa⟩ ⟨by decide,h2,by decide,by decide⟩ (by decide) r1 r2
  unfold shipR at t
  rw [if_neg c2] at t
  exact Ev.step (fun k=>by simp only [hinterlandlaw17_LaneArrives.l0];rfl) (Ev.pos (by omega) (Ev.bind t (Ev.pos rfl (Ev.neg (show ¬ (2:Int) = 3 by decide) (Ev.pos rfl (Ev.pos trivial fin3))))))

end Go.Proofs.Ythjmdpekcleihaa.Pure

/- Layer 11 (town), P11.2: what Grow answers, on both sides. No conditions. -/
import Derived.Test.YtbdijpjlgokfkaaPx0
import Derived.Test.YtbdijpjlgokfkaaPx3
import Derived.Test.YtbdijpjlgokfkaaPx6
import Derived.Test.YtbdijpjlgokfkaaPx8
import Derived.Test.YtbdijpjlgokfkaaPx9
import Derived.Test.YtbdijpjlgokfkaaPx13
import Derived.Test.YtbdijpjlgokfkaaPx16
import Derived.Test.YtbdijpjlgokfkaaTyK
import Derived.Test.YtbdijpjlgokfkaaTown2
namespace Go.Proofs.Ytbdijpjlgokfkaa.Pure
set_option linter.unusedVariables false
set_option linter.unusedSimpArgs false
open Go.RowKit Go.Proofs.YtbdijpjlgokfkaaW.PrintWords Go.Proofs.Ytbdijpjlgokfkaa.P Go.Proofs.Ytbdijpjlgokfkaa

theorem or3_ev (a b c:Int):Ev (fun k=>api_Errno.f k [a,b,c]) (if a=0 then (if b=0 then c else b) else a):=by
 unfold api_Errno.f
 refine Ev.step (fun k=>by simp only [api_Errno.l0];rfl) (Ev.pos (by simp) (Ev.pos (by simp) (Ev.pos (by simp) ?_)))
 rw [show rd [a,b,c] 0=a from rfl,wrap_in (x:=(0:Int)+1) (by omega) (by omega)]
 by_cases h:a=0
 ·rw [if_pos h]
  refine Ev.pos h (Ev.step (fun k=>by simp only [api_Errno.l0];rfl) (Ev.pos (by simp) (Ev.pos (by simp) (Ev.pos (by simp) ?_))))
  rw [show rd [a,b,c] (0+1)=b from rfl,wrap_in (x:=(0:Int)+1+1) (by omega) (by omega)]
  by_cases g:b=0
  ·rw [if_pos g]
   refine Ev.pos g (Ev.step (fun k=>by simp only [api_Errno.l0];rfl) (Ev.pos (by simp) (Ev.pos (by simp) (Ev.pos (by simp) ?_))))
   rw [show rd [a,b,c] (0+1+1)=c from rfl,wrap_in (x:=(0:Int)+1+1+1) (by omega) (by omega)]
   by_cases d:c=0
   ·refine Ev.pos d (Ev.step (fun k=>by simp only [api_Errno.l0];rfl) (Ev.neg (by simp) ?_))
    rw [d];exact Ev.now _
   ·exact Ev.neg d (Ev.now _)
  ·exact Ev.eq (Ev.neg g (Ev.now _)) (if_neg g).symm
 ·exact Ev.eq (Ev.neg h (Ev.now _)) (if_neg h).symm
theorem clone_eq {l:List Int} (h:l.length≤4000):sClo_int_int.f l=some l:=by unfold sClo_int_int.f;rw [if_pos (by omega)]
theorem streets_eq {W H:Int} {A Y:List Int} (hA:A.length≤4000) (hY:Y.length≤4000):h11_streets.f W H A Y=some (W,H,A,Y):=by
 unfold h11_streets.f
 rw [Option.bind_some,if_pos (by simp;omega),Option.bind_some,if_pos (by simp;omega)]
 rfl
section
variable {K:List S80} {LW LH SW SH:Int} {C A Y D:List Int} {tt:Int} {H:List S68} {M:List Int} {mv du day s:Int}
theorem grow_ev (hz:Sized K) (hk:K.length≤300) (hC:C.length≤1200) (hA:A.length≤1200) (hY:Y.length≤1200) (hD:D.length≤1200) (hH:H.length≤600) (hM:M.length≤300) (hs:0≤s∧s<18446744073709551616) :
  (∃ e:Int,e≠0∧Ev (fun k=>tG.f k K LW LH C SW SH A Y D tt H M mv du day s) (0,[],[],0,0,0,0,[],[],0,0,e)∧Ev (fun k=>h11_Grow.f k K LW LH C SW SH A Y D tt H M mv du day s) (0,[],[],0,0,0,0,[],[],0,0,e)) ∨
  (∃ told A' Y' H' s',Built A Y H told A' Y' H' s'∧H.length≤200∧Ev (fun k=>tG.f k K LW LH C SW SH A Y D tt H M mv du day s) (tt,H',M,mv,du,SW,SH,A',Y',told,s',0)∧Ev (fun k=>h11_Grow.f k K LW LH C SW SH A Y D tt H M mv du day s) (tt,H',M,mv,du,SW,SH,A',Y',told,s',0)):=by
 have v1:=validate_ev (tile:=tt) (mv:=mv) (du:=du) hz hk hM hH
 have v2:=ref_validate_ev (tile:=tt) (M:=M) (mv:=mv) (du:=du) hz hk hH
 have l1:=L.land_ev (W:=LW) (H:=LH) (C:=C) (by omega)
 have l2:=L.ref_land_ev (W:=LW) (H:=LH) (C:=C) (by omega)
 have r1:=R.validate_ev (W:=SW) (H:=SH) (A:=A) (Y:=Y) (by omega) (by omega)
 have r2:=R.ref_validate_ev (W:=SW) (H:=SH) (A:=A) (Y:=Y) (by omega) (by omega)
 have o:=or3_ev (vcode K tt H M mv du) (L.lcode LW LH C) (R.vcode SW SH A Y)
 have bad:∀ e:Int,e≠0→(if vcode K tt H M mv du=0 then (if L.lcode LW LH C=0 then R.vcode SW SH A Y else L.lcode LW LH C) else vcode K tt H M mv du)=e→Ev (fun k=>h11_growError.f k K LW LH C SW SH A Y D tt H M mv du day) e→(∃ e:Int,e≠0∧Ev (fun k=>tG.f k K LW LH C SW SH A Y D tt H M mv du day s) (0,[],[],0,0,0,0,[],[],0,0,e)∧Ev (fun k=>h11_Grow.f k K LW LH C SW SH A Y D tt H M mv du day s) (0,[],[],0,0,0,0,[],[],0,0,e)):=by
  intro e he eq hr
  refine ⟨e,he,?_,?_⟩
  ·unfold tG.f
   exact Ev.bind v1 (Ev.bind l1 (Ev.bind r1 (Ev.bind (Ev.eq o eq) (Ev.pos he (Ev.now _)))))
  ·unfold h11_Grow.f
   exact Ev.bind hr (Ev.pos he (Ev.now _))
 by_cases c1:vcode K tt H M mv du=0
 rotate_left
 ·refine .inl (bad _ c1 (if_neg c1) ?_)
  unfold h11_growError.f
  exact Ev.bind v2 (Ev.neg c1 (Ev.now _))
 by_cases c2:L.lcode LW LH C=0
 rotate_left
 ·refine .inl (bad _ c2 (by rw [if_pos c1,if_neg c2]) ?_)
  unfold h11_growError.f
  exact Ev.bind v2 (Ev.pos c1 (Ev.bind l2 (Ev.neg c2 (Ev.now _))))
 by_cases c3:R.vcode SW SH A Y=0
 rotate_left
 ·refine .inl (bad _ c3 (by rw [if_pos c1,if_pos c2]) ?_)
  unfold h11_growError.f
  exact Ev.bind v2 (Ev.pos c1 (Ev.bind l2 (Ev.pos c2 (Ev.bind r2 (Ev.neg c3 (Ev.now _))))))
 have o0:Ev (fun k=>api_Errno.f k [vcode K tt H M mv du,L.lcode LW LH C,R.vcode SW SH A Y]) 0:=Ev.eq o (by rw [if_pos c1,if_pos c2,c3])
 have gerr:∀ e:Int,(∀ q,q=decide (SW≠LW∨SH≠LH)→Ev (fun k=>h11_growError.j0 k day q LW LH C SW SH A Y D tt H M mv du) e)→Ev (fun k=>h11_growError.f k K LW LH C SW SH A Y D tt H M mv du day) e:=by
  intro e hj
  unfold h11_growError.f
  refine Ev.bind v2 (Ev.pos c1 (Ev.bind l2 (Ev.pos c2 (Ev.bind r2 (Ev.pos c3 ?_)))))
  by_cases q:SW=LW
  ·refine Ev.pos q (hj _ ?_)
   by_cases q2:SH=LH
   ·rw [decide_eq_false (fun x=>x.elim (fun y=>y q) (fun y=>y q2))];simpa using q2
   ·rw [decide_eq_true (.inr q2)];simpa using q2
  ·exact Ev.neg q (hj _ (decide_eq_true (.inl q)).symm)
 by_cases c4:SW≠LW∨SH≠LH
 ·have hr:=gerr 8 (fun q hq=>Ev.step (fun k=>by simp only [h11_growError.j0];rfl) (Ev.pos (by rw [hq,decide_eq_true c4]) (Ev.now _)))
  refine .inl ⟨8,by decide,?_,?_⟩
  ·unfold tG.f
   exact Ev.bind v1 (Ev.bind l1 (Ev.bind r1 (Ev.bind o0 (Ev.neg (by decide) (Ev.pos c4 (Ev.now _))))))
  ·unfold h11_Grow.f
   exact Ev.bind hr (Ev.pos (by decide) (Ev.now _))
 by_cases c5:tt≥wrap64 (LW * LH)
 ·have hr:=gerr 2 (fun q hq=>Ev.step (fun k=>by simp only [h11_growError.j0];rfl) (Ev.neg (by rw [hq,decide_eq_false c4];decide) (Ev.pos c5 (Ev.now _))))
  refine .inl ⟨2,by decide,?_,?_⟩
  ·unfold tG.f
   exact Ev.bind v1 (Ev.bind l1 (Ev.bind r1 (Ev.bind o0 (Ev.neg (by decide) (Ev.neg c4 (Ev.pos c5 (Ev.now _)))))))
  ·unfold h11_Grow.f
   exact Ev.bind hr (Ev.pos (by decide) (Ev.now _))
 by_cases c6:0≤day∧day≤100000
 rotate_left
 ·have hr:=gerr 1 (fun q hq=>Ev.step (fun k=>by simp only [h11_growError.j0];rfl) (Ev.neg (by rw [hq,decide_eq_false c4];decide) (Ev.neg c5 (Ev.bindc (out_eq _ _) (Ev.pos (decide_eq_true c6) (Ev.now _))))))
  refine .inl ⟨1,by decide,?_,?_⟩
  ·unfold tG.f
   exact Ev.bind v1 (Ev.bind l1 (Ev.bind r1 (Ev.bind o0 (Ev.neg (by decide) (Ev.neg c4 (Ev.neg c5 (Ev.bindc (within_eq _ _) (Ev.pos (decide_eq_false c6) (Ev.now _)))))))))
  ·unfold h11_Grow.f
   exact Ev.bind hr (Ev.pos (by decide) (Ev.now _))
 have hr:=gerr 0 (fun q hq=>Ev.step (fun k=>by simp only [h11_growError.j0];rfl) (Ev.neg (by rw [hq,decide_eq_false c4];decide) (Ev.neg c5 (Ev.bindc (out_eq _ _) (Ev.neg (show ¬ decide (¬ (0≤day∧day≤100000))=true by simp [c6]) (Ev.now _))))))
 obtain ⟨w,h,rfl,rfl,Ld⟩:=L.land_of c2
 obtain rfl:SW=(w:Int):=by by_cases q:SW=(w:Int);exact q;exact absurd (.inl q) c4
 obtain rfl:SH=(h:Int):=by by_cases q:SH=(h:Int);exact q;exact absurd (.inr q) c4
 have tz:=(vcode_zero.1 c1).2.1
 obtain ⟨h200,fl,hh⟩:=tcode_zero.1 tz
 have F:Fit K w h C A Y D tt H M:=⟨hk,Ld,by omega,c3,by omega,by omega,by omega,hh,h200,fl.2.1.2⟩
 have hw:=Ld.w1
 have hh1:=Ld.h1
 have hwh:w * h≤32 * 32:=Nat.mul_le_mul hw hh1
 have ha:=F.area
 have ht:0≤tt∧tt<(w:Int) * (h:Int):=by
  rw [wrap_in (x:=(w:Int) * (h:Int)) (by omega) (by omega)] at c5
  exact ⟨fl.1.1,by omega⟩
 have G:=R.good_of c3
 have hAl:=G.hA
 have rng:0≤tt∧tt<(A.length:Int):=⟨ht.1,by omega⟩
 have cp:=copied_eq (a:=tt) (b:=mv) (c:=du) h200 fl.2.1.2
 have Cp:=Copy_eq (a:=tt) (b:=mv) (c:=du) h200 fl.2.1.2
 have town:∀ {res:Int × (List S68) × List Int × Int × Int × Int × Int × List Int × List Int × Int × Int × Int},Ev (fun k=>if rd A tt=0 then (town_first.f k (w:Int) (h:Int) C (w:Int) (h:Int) A Y D tt H M mv du).bind fun p=>some (tt,H,M,mv,du,p.1,p.2.1,p.2.2.1,p.2.2.2.1,p.2.2.2.2,s,0)
   else (tG.wlk k K (w:Int) (h:Int) C (w:Int) (h:Int) A Y D tt H M mv du day 20 tt s).bind fun p=>some (tt,p.2.2.2.2.2.1,M,mv,du,p.2.1,p.2.2.1,p.2.2.2.1,p.2.2.2.2.1,p.1,p.2.2.2.2.2.2,0)) res→Ev (fun k=>tG.f k K (w:Int) (h:Int) C (w:Int) (h:Int) A Y D tt H M mv du day s) res:=by
  intro res hg
  unfold tG.f
  exact Ev.bind v1 (Ev.bind l1 (Ev.bind r1 (Ev.bind o0 (Ev.neg (by decide) (Ev.neg c4 (Ev.neg c5 (Ev.bindc (within_eq _ _) (Ev.neg (by simpa using c6) (Ev.bindc (clone_eq (by omega)) (Ev.bindc (clone_eq (by omega)) (Ev.bindc cp (Ev.pos rng hg))))))))))))
 have ref:∀ {res:Int × (List S68) × List Int × Int × Int × Int × Int × List Int × List Int × Int × Int × Int} {g:Nat→Option (Int × (List S68) × List Int × Int × Int × Int × Int × List Int × List Int × Int × Int × Int)},Ev g res→(∀ k,g k=if rd A tt=0 then
   (h11_wet.f k (w:Int) (h:Int) C tt).bind fun h2=>if h2=true then some (tt,H,M,mv,du,(w:Int),(h:Int),A,Y,0,s,0) else
   (h11_held.f k (w:Int) (h:Int) C (w:Int) (h:Int) A Y D tt).bind fun h3=>if h3=true then some (tt,H,M,mv,du,(w:Int),(h:Int),A,Y,0,s,0) else
   (h11_has.f k tt H M mv du tt).bind fun h1=>if h1=true then some (tt,H,M,mv,du,(w:Int),(h:Int),A,Y,0,s,0) else
   (h11_pave.f (w:Int) (h:Int) A Y tt 15).bind fun p=>some (tt,H,M,mv,du,(w:Int),(h:Int),p.1,p.2,1,s,0)
  else (h11_Grow.wlk k K (w:Int) (h:Int) C (w:Int) (h:Int) A Y A Y D tt H M mv du day 20 tt s).bind fun p=>some (tt,p.2.2.2.1,M,mv,du,(w:Int),(h:Int),p.2.1,p.2.2.1,p.1,p.2.2.2.2,0))→Ev (fun k=>h11_Grow.f k K (w:Int) (h:Int) C (w:Int) (h:Int) A Y D tt H M mv du day s) res:=by
  intro res g hg he
  unfold h11_Grow.f
  refine Ev.bind hr (Ev.neg (by decide) (Ev.bindc (streets_eq (by omega) (by omega)) (Ev.bindc Cp (Ev.pos ⟨rfl,rfl,rng.1,rng.2⟩ ?_))))
  have:g=_:=funext he
  exact this ▸ hg
 by_cases c7:rd A tt=0
 ·obtain ⟨n,rfl⟩:=Int.eq_ofNat_of_zero_le ht.1
  have hn:n<w * h:=by omega
  have dr:=dry_ev (mv:=mv) (du:=du) F hn (w:Int) (h:Int)
  have w1:=wet_ok Ld hn (show C.length≤4000 by omega)
  have w2:=held_ev (w:Int) (h:Int) C (w:Int) (h:Int) A Y D (by omega) (n:Int)
  have w3:=has_ev (n:Int) H M mv du (by omega) (n:Int)
  by_cases f:dryB w C D H n=true
  ·have ff:=f
   unfold dryB at ff
   simp only [Bool.and_eq_true,Bool.not_eq_true',decide_eq_false_iff_not] at ff
   obtain ⟨⟨g1,g2⟩,g3⟩:=ff
   obtain ⟨c,p⟩:=pave_ok (x:=15) c3 ht (by decide) (by omega) (by omega)
   have tf:Ev (fun k=>town_first.f k (w:Int) (h:Int) C (w:Int) (h:Int) A Y D (n:Int) H M mv du) ((w:Int),(h:Int),pa A (n:Int) 15,py A Y (n:Int) 15,1):=by
    unfold town_first.f
    exact Ev.bind dr (Ev.pos f (Ev.bind p (Ev.now _)))
   refine .inr ⟨1,pa A (n:Int) 15,py A Y (n:Int) 15,H,s,⟨.inr (.inl rfl),pa_len _ _ _,py_len _ _ _ _,by rw [show Int.tdiv 1 2=0 by decide];omega,fun x hx=>.inl hx,hs⟩,h200,town (Ev.pos c7 (Ev.bind tf (Ev.now _))),ref (Ev.pos c7 (Ev.bind w1 (Ev.neg (by rw [g1];decide) (Ev.bind w2 (Ev.neg (by rw [decide_eq_false g3];decide) (Ev.bind w3 ?_)))))) (fun _=>rfl)⟩
   exact Ev.neg (by rw [g2];decide) (Ev.bindc (ref_pave_ok (x:=15) c3 ht) (Ev.now _))
  ·have tf:Ev (fun k=>town_first.f k (w:Int) (h:Int) C (w:Int) (h:Int) A Y D (n:Int) H M mv du) ((w:Int),(h:Int),A,Y,0):=by
    unfold town_first.f
    exact Ev.bind dr (Ev.neg f (Ev.now _))
   refine .inr ⟨0,A,Y,H,s,⟨.inl rfl,rfl,rfl,by rw [show Int.tdiv 0 2=0 by decide];omega,fun x hx=>.inl hx,hs⟩,h200,town (Ev.pos c7 (Ev.bind tf (Ev.now _))),ref (Ev.pos c7 (Ev.bind w1 ?_)) (fun _=>rfl)⟩
   ·cases g1:L.sea w C n with
    | true=>exact Ev.pos rfl (Ev.now _)
    | false =>
     refine Ev.neg (by decide) (Ev.bind w2 ?_)
     by_cases g3:(n:Int) ∈ D
     ·exact Ev.pos (decide_eq_true g3) (Ev.now _)
     ·refine Ev.neg (by rw [decide_eq_false g3];decide) (Ev.bind w3 (Ev.pos ?_ (Ev.now _)))
      cases g2:H.any (fun x=>decide (x.f0=(n:Int))) with
      | true=>rfl
      | false=>exact absurd (by unfold dryB;rw [g1,g2,decide_eq_false g3];rfl) f
 ·obtain ⟨told,A',Y',H',s',B,t1,t2⟩:=wlk_ev (mv:=mv) (du:=du) (day:=day) F 20 tt s ht hs
  exact .inr ⟨told,A',Y',H',s',B,h200,town (Ev.neg c7 (Ev.bind t1 (Ev.now _))),ref (Ev.neg c7 (Ev.bind t2 (Ev.now _))) (fun _=>rfl)⟩
end
end Go.Proofs.Ytbdijpjlgokfkaa.Pure

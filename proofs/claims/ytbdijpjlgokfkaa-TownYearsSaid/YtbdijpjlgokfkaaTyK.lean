/- Layer 11 (town), P11.2: a town's walk, on both sides. No conditions. -/
import Derived.Test.YtbdijpjlgokfkaaPx0
import Derived.Test.YtbdijpjlgokfkaaPx8
import Derived.Test.YtbdijpjlgokfkaaPx9
import Derived.Test.YtbdijpjlgokfkaaPx13
import Derived.Test.YtbdijpjlgokfkaaPx16
import Derived.Test.YtbdijpjlgokfkaaTyG
namespace Go.Proofs.Ytbdijpjlgokfkaa.Pure
set_option linter.unusedVariables false
set_option linter.unusedSimpArgs false
open Go.RowKit Go.Proofs.YtbdijpjlgokfkaaW.PrintWords Go.Proofs.Ytbdijpjlgokfkaa.P Go.Proofs.Ytbdijpjlgokfkaa
section
variable {K:List S80} {w h:Nat} {C A Y D:List Int} {tt:Int} {H:List S68} {M:List Int} {mv du day:Int}
theorem wlk_ev (F:Fit K w h C A Y D tt H M):∀ (n:Nat) (t s:Int),(0≤t∧t<(w:Int) * (h:Int))→(0≤s∧s<18446744073709551616) →
  ∃ told A' Y' H' s',Built A Y H told A' Y' H' s'∧Ev (fun k=>tG.wlk k K (w:Int) (h:Int) C (w:Int) (h:Int) A Y D tt H M mv du day n t s) (told,(w:Int),(h:Int),A',Y',H',s')∧Ev (fun k=>h11_Grow.wlk k K (w:Int) (h:Int) C (w:Int) (h:Int) A Y A Y D tt H M mv du day n t s) (told,A',Y',H',s'):=by
 have G:=R.good_of F.st
 have hAl:=G.hA
 have ha:=F.area
 intro n
 induction n with
 | zero =>
  intro t s ht hs
  refine ⟨0,A,Y,H,s,⟨.inl rfl,rfl,rfl,by rw [show Int.tdiv 0 2=0 by decide];omega,fun x hx=>.inl hx,hs⟩,?_,?_⟩
  ·simp only [tG.wlk];exact Ev.now _
  ·simp only [h11_Grow.wlk];exact Ev.now _
 | succ n ih =>
  intro t s ht hs
  simp only [tG.wlk,h11_Grow.wlk]
  obtain ⟨r,hr,e1,e2⟩:=below_ev (m:=4) (s:=s) (by decide) hs.1 hs.2
  have hd:0≤r.1∧r.1≤3:=by omega
  obtain ⟨y,b1,b2⟩:=beside_eq (G.on ht) hd
  have b3:=ref_beside_ev C (G.on ht) hd
  have j1:Ev (fun k=>road_Joined.f k (w:Int) (h:Int) A Y t r.1) (decide (0≤R.meets (w:Int) (h:Int) A t r.1),0) :=
   Ev.eq (R.Joined_ev F.al F.yl) (if_pos (R.tcode_zero.2 ⟨F.st,ht,hd⟩))
  by_cases c:0≤R.bey (w:Int) (h:Int) t r.1
  rotate_left
  ·refine ⟨0,A,Y,H,r.2,⟨.inl rfl,rfl,rfl,by rw [show Int.tdiv 0 2=0 by decide];omega,fun x hx=>.inl hx,hr.2.2⟩,?_,?_⟩
   ·exact Ev.bind e1 (Ev.pos hd (Ev.bindc b1 (Ev.bind j1 (Ev.pos (decide_eq_false c) (Ev.now _)))))
   ·exact Ev.bind e2 (Ev.pos hd (Ev.bind b3 (Ev.pos (by omega) (Ev.now _))))
  obtain rfl:=b2 c
  have hb:0≤R.bey (w:Int) (h:Int) t r.1∧R.bey (w:Int) (h:Int) t r.1<(w:Int) * (h:Int):=by
   rcases R.bey_at (G.on ht) r.1 with e|e
   ·omega
   ·exact e
  have J:0≤R.meets (w:Int) (h:Int) A t r.1↔(Go.bits .and .i64 (shr .i64 (rd A t) r.1) 1=1∧Go.bits .and .i64 (shr .i64 (rd A (R.bey (w:Int) (h:Int) t r.1)) (Int.tmod (wrap64 (r.1+2)) 4)) 1=1):=by
   unfold R.meets R.has R.opp
   simp only [beq_iff_eq]
   constructor
   ·intro x
    by_cases q:0≤R.bey (w:Int) (h:Int) t r.1∧Go.bits .and .i64 (shr .i64 (rd A t) r.1) 1=1∧Go.bits .and .i64 (shr .i64 (rd A (R.bey (w:Int) (h:Int) t r.1)) (Int.tmod (wrap64 (r.1+2)) 4)) 1=1
    ·exact q.2
    ·rw [if_neg q] at x;exact absurd x (by decide)
   ·intro x
    rw [if_pos ⟨c,x⟩];exact c
  generalize R.bey (w:Int) (h:Int) t r.1=b at c hb b1 b3 J
  have town:∀ {res:Int × Int × Int × List Int × List Int × List S68 × Int} {g:Nat→Option (Int × Int × Int × List Int × List Int × List S68 × Int)},Ev g res→(∀ k,g k=(if decide (0≤R.meets (w:Int) (h:Int) A t r.1)=true then tG.wlk k K (w:Int) (h:Int) C (w:Int) (h:Int) A Y D tt H M mv du day n b r.2 else
    if 0≤t∧t<(A.length:Int) then (if rd A t=0 then tG.wlk k K (w:Int) (h:Int) C (w:Int) (h:Int) A Y D tt H M mv du day n t r.2 else
     (town_free.f k (w:Int) (h:Int) C (w:Int) (h:Int) A Y D tt H M mv du b).bind fun fr=>if fr=true then tG.bld k K (w:Int) (h:Int) A Y tt H M mv du day r.2 t b r.1 else tG.wlk k K (w:Int) (h:Int) C (w:Int) (h:Int) A Y D tt H M mv du day n t r.2) else none)) →
    Ev (fun k=>(roll_Below.f k s 4).bind fun b_1=>if 0≤b_1.fst∧b_1.fst≤3 then (town_beside.f (w:Int) (h:Int) t b_1.fst).bind fun y=>(road_Joined.f k (w:Int) (h:Int) A Y t b_1.fst).bind fun j =>
     if y.snd=false then some (0,(w:Int),(h:Int),A,Y,H,b_1.snd) else if j.fst=true then tG.wlk k K (w:Int) (h:Int) C (w:Int) (h:Int) A Y D tt H M mv du day n y.fst b_1.snd else
     if 0≤t∧t<(A.length:Int) then (if rd A t=0 then tG.wlk k K (w:Int) (h:Int) C (w:Int) (h:Int) A Y D tt H M mv du day n t b_1.snd else
      (town_free.f k (w:Int) (h:Int) C (w:Int) (h:Int) A Y D tt H M mv du y.fst).bind fun fr=>if fr=true then tG.bld k K (w:Int) (h:Int) A Y tt H M mv du day b_1.snd t y.fst b_1.fst else tG.wlk k K (w:Int) (h:Int) C (w:Int) (h:Int) A Y D tt H M mv du day n t b_1.snd) else none else none) res:=by
   intro res g hg he
   refine Ev.bind e1 (Ev.pos hd (Ev.bindc b1 (Ev.bind j1 (Ev.neg ?_ ?_))))
   ·rw [decide_eq_true c];exact fun x=>by cases x
   ·have:g=_:=funext he
    exact this ▸ hg
  by_cases q:0≤R.meets (w:Int) (h:Int) A t r.1
  ·obtain ⟨told,A',Y',H',s',B,t1,t2⟩:=ih b r.2 hb hr.2.2
   exact ⟨told,A',Y',H',s',B,town (Ev.pos (decide_eq_true q) t1) (fun _=>rfl),Ev.bind e2 (Ev.pos hd (Ev.bind b3 (Ev.neg (by omega) (Ev.pos ⟨ht.1,by omega,by omega⟩ (Ev.pos (J.1 q) t2)))))⟩
  have q':=fun x=>q (J.2 x)
  obtain ⟨bn,rfl⟩:=Int.eq_ofNat_of_zero_le c
  have hbn:bn<w * h:=by omega
  have sl:=ref_slope_ok F.land hbn F.cl
  have hH:H.length≤4000:=by have:=F.hl;omega
  have rng:0≤t∧t<(A.length:Int):=⟨ht.1,by omega⟩
  by_cases k1:rd A t=0
  ·obtain ⟨told,A',Y',H',s',B,t1,t2⟩:=ih t r.2 ht hr.2.2
   exact ⟨told,A',Y',H',s',B,town (Ev.neg (by simpa using q) (Ev.pos rng (Ev.pos k1 t1))) (fun _=>rfl),Ev.bind e2 (Ev.pos hd (Ev.bind b3 (Ev.neg (by omega) (Ev.pos ⟨ht.1,by omega,by omega⟩ (Ev.neg q' (Ev.bind sl (Ev.pos k1 t2)))))))⟩
  have fr:=free_ev (mv:=mv) (du:=du) F hbn (w:Int) (h:Int)
  have arm:=G.arm hb
  by_cases f:freeB w C A D H bn=true
  ·have ff:=f
   unfold freeB dryB at ff
   simp only [Bool.and_eq_true,Bool.not_eq_true',decide_eq_true_eq,decide_eq_false_iff_not,beq_iff_eq] at ff
   obtain ⟨⟨⟨⟨g1,g2⟩,g3⟩,g4⟩,g5⟩:=ff
   obtain ⟨told,A',Y',H',s',B,t1,t2⟩:=bld_ev (mv:=mv) (du:=du) (day:=day) F ht hb hr.2.2 hd g5 g2
   exact ⟨told,A',Y',H',s',B,town (Ev.neg (by simpa using q) (Ev.pos rng (Ev.neg k1 (Ev.bind fr (Ev.pos f t1))))) (fun _=>rfl),
    Ev.bind e2 (Ev.pos hd (Ev.bind b3 (Ev.neg (by omega) (Ev.pos ⟨ht.1,by omega,by omega⟩ (Ev.neg q' (Ev.bind sl (Ev.neg k1 (Ev.neg (by omega) (Ev.bind (has_ev tt H M mv du hH _) (Ev.neg (by rw [g2];decide) (Ev.bind (wet_ok F.land hbn F.cl) (Ev.neg (by rw [g1];decide) (Ev.bind (held_ev _ _ C _ _ A Y D F.dl _) (Ev.neg (by simp only [decide_eq_true_eq];rintro (x|x);exact g3 x;omega) t2))))))))))))))⟩
  ·obtain ⟨told,A',Y',H',s',B,t1,t2⟩:=ih t r.2 ht hr.2.2
   refine ⟨told,A',Y',H',s',B,town (Ev.neg (by simpa using q) (Ev.pos rng (Ev.neg k1 (Ev.bind fr (Ev.neg f t1))))) (fun _=>rfl),Ev.bind e2 (Ev.pos hd (Ev.bind b3 (Ev.neg (by omega) (Ev.pos ⟨ht.1,by omega,by omega⟩ (Ev.neg q' (Ev.bind sl (Ev.neg k1 ?_)))))))⟩
   by_cases k2:rd A (bn:Int) > 0
   ·exact Ev.pos k2 t2
   refine Ev.neg k2 (Ev.bind (has_ev tt H M mv du hH _) ?_)
   cases g2:H.any (fun x=>decide (x.f0=(bn:Int))) with
   | true=>exact Ev.pos rfl t2
   | false =>
    refine Ev.neg (by decide) (Ev.bind (wet_ok F.land hbn F.cl) ?_)
    cases g1:L.sea w C bn with
    | true=>exact Ev.pos rfl t2
    | false =>
     refine Ev.neg (by decide) (Ev.bind (held_ev _ _ C _ _ A Y D F.dl _) (Ev.pos ?_ t2))
     simp only [decide_eq_true_eq]
     by_cases g3:(bn:Int) ∈ D
     ·exact .inl g3
     ·refine .inr ?_
      apply Classical.byContradiction
      intro g4
      apply f
      unfold freeB dryB
      rw [g1,g2,decide_eq_false g3,decide_eq_true (show L.slope w C bn<16 by omega),show rd A (bn:Int)=0 by omega]
      rfl
end
end Go.Proofs.Ytbdijpjlgokfkaa.Pure

/- Layer 11 (town), P11.2: what a town builds from one tile to the next, on both sides. No conditions. -/
import Derived.Test.YtbdijpjlgokfkaaPx0
import Derived.Test.YtbdijpjlgokfkaaPx4
import Derived.Test.YtbdijpjlgokfkaaPx6
import Derived.Test.YtbdijpjlgokfkaaPx7
import Derived.Test.YtbdijpjlgokfkaaPx8
import Derived.Test.YtbdijpjlgokfkaaPx11
import Derived.Test.YtbdijpjlgokfkaaPx13
import Derived.Test.YtbdijpjlgokfkaaPx16
import Derived.Test.YtbdijpjlgokfkaaTyB
import Derived.Test.YtbdijpjlgokfkaaTyH
import Derived.Test.YtbdijpjlgokfkaaTyP
namespace Go.Proofs.Ytbdijpjlgokfkaa.Pure
set_option linter.unusedVariables false
set_option linter.unusedSimpArgs false
open Go.RowKit Go.Proofs.YtbdijpjlgokfkaaW.PrintWords Go.Proofs.Ytbdijpjlgokfkaa.P Go.Proofs.Ytbdijpjlgokfkaa

def pa (A:List Int) (t x:Int):List Int:=A.set t.toNat (R.orr (rd A t) x)
def py (A Y:List Int) (t x:Int):List Int:=R.waysOf A Y t (R.orr (rd A t) x)
section
variable {W H t x:Int} {A Y:List Int}
theorem pave_ok (g:R.vcode W H A Y=0) (ht:0≤t∧t<W * H) (hx:0≤x∧x≤15) (hA:A.length≤4000) (hY:Y.length≤4000):∃ c:Int,Ev (fun k=>road_Pave.f k W H A Y t x) (W,H,pa A t x,py A Y t x,c,0) :=
 ⟨_,Ev.eq (R.Pave_ev hA hY) (by unfold R.paved;rw [if_pos (R.tcode_zero.2 ⟨g,ht,hx.1,hx.2⟩)];rfl)⟩
theorem ref_pave_ok (g:R.vcode W H A Y=0) (ht:0≤t∧t<W * H):h11_pave.f W H A Y t x=some (pa A t x,py A Y t x):=by
 have G:=R.good_of g
 have hAl:=G.hA
 have hYl:=G.hY
 unfold h11_pave.f pa py R.waysOf R.orr
 rw [if_pos ht.1,if_pos (show t<(A.length:Int) by omega)]
 by_cases c:Go.bits .or .i64 (rd A t) x=rd A t
 ·rw [if_pos c,if_pos c.symm,c,show rd A t=A.getD t.toNat 0 from rfl,R.set_same (by omega)]
 ·rw [if_neg c,if_neg (show ¬ rd A t=Go.bits .or .i64 (rd A t) x from fun e=>c e.symm),if_pos (show t<(Y.length:Int) by omega)]
theorem pave_good (g:R.vcode W H A Y=0) (ht:0≤t∧t<W * H) (hx:0≤x∧x≤15):R.vcode W H (pa A t x) (py A Y t x)=0:=by
 have G:=R.good_of g
 exact R.set_good g ht ((R.fin_of (p:=fun a x=>(0≤R.orr a x∧R.orr a x≤15)∧0≤R.nab a x∧R.nab a x≤15) R.in_all (G.arm ht) hx).1)
theorem pa_len (A:List Int) (t x:Int):(pa A t x).length=A.length:=by unfold pa;rw [List.length_set]
theorem py_len (A Y:List Int) (t x:Int):(py A Y t x).length=Y.length:=R.waysOf_len _
end
theorem shl_side {s:Int} (hs:0≤s∧s≤3):0≤shl .i64 1 s∧shl .i64 1 s≤15:=by
 rcases (show s=0∨s=1∨s=2∨s=3 by omega) with rfl|rfl|rfl|rfl <;> decide +kernel
structure Fit (K:List S80) (w h:Nat) (C A Y D:List Int) (tt:Int) (H:List S68) (M:List Int):Prop where
 kl:K.length≤300
 land:L.Land w h C
 cl:C.length≤4000
 st:R.vcode (w:Int) (h:Int) A Y=0
 al:A.length≤4000
 yl:Y.length≤4000
 dl:D.length≤4000
 hh:Houses H
 hl:H.length≤200
 ml:M.length=12
section
variable {K:List S80} {w h:Nat} {C A Y D:List Int} {tt:Int} {H:List S68} {M:List Int} {mv du day s:Int}
theorem Fit.area (F:Fit K w h C A Y D tt H M):((w * h:Nat):Int)=(w:Int) * (h:Int):=by rw [Int.natCast_mul]
def dryB (w:Nat) (C D:List Int) (H:List S68) (t:Nat):Bool:=!L.sea w C t && !H.any (fun x=>decide (x.f0=(t:Int))) && !decide ((t:Int) ∈ D)
theorem house_eq (F:Fit K w h C A Y D tt H M) (t:Int):town_house.f tt H M mv du t=some ((town_house.cnt H t:Int),H.any (fun x=>decide (x.f0=t))):=by
 unfold town_house.f
 rw [if_pos ⟨inc_of F.hh,by have:=F.hl;omega⟩]
theorem dry_ev (F:Fit K w h C A Y D tt H M) {t:Nat} (ht:t<w * h) (SW SH:Int):Ev (fun k=>town_dry.f k (w:Int) (h:Int) C SW SH A Y D tt H M mv du (t:Int)) (dryB w C D H t):=by
 unfold town_dry.f dryB
 refine Ev.bind (water_ok F.land ht F.cl) (Ev.bindc (house_eq F _) ?_)
 dsimp only
 cases L.sea w C t with
 | true=>exact Ev.pos rfl (Ev.eq (Ev.now _) (by simp))
 | false =>
  refine Ev.neg (by decide) ?_
  cases H.any (fun x=>decide (x.f0=(t:Int))) with
  | true=>exact Ev.pos rfl (Ev.eq (Ev.now _) (by simp))
  | false=>exact Ev.neg (by decide) (Ev.bind (contains_ev D F.dl _) (Ev.eq (Ev.now _) (by simp)))
def freeB (w:Nat) (C A D:List Int) (H:List S68) (t:Nat):Bool:=dryB w C D H t && decide (L.slope w C t<16) && (rd A (t:Int) == 0)
theorem free_ev (F:Fit K w h C A Y D tt H M) {t:Nat} (ht:t<w * h) (SW SH:Int):Ev (fun k=>town_free.f k (w:Int) (h:Int) C SW SH A Y D tt H M mv du (t:Int)) (freeB w C A D H t):=by
 have G:=R.good_of F.st
 have hA:=G.hA
 have ha:=F.area
 unfold town_free.f freeB
 refine Ev.bind (slope_ok F.land ht F.cl) (Ev.bind (dry_ev F ht SW SH) ?_)
 dsimp only
 cases dryB w C D H t with
 | false=>exact Ev.neg (by decide) (Ev.eq (Ev.now _) (by simp))
 | true =>
  refine Ev.pos rfl ?_
  by_cases c:L.slope w C t<16
  ·refine Ev.pos c (Ev.pos (by omega) (Ev.pos (by omega) (Ev.eq (Ev.now _) ?_)))
   rw [decide_eq_true c,Bool.true_and,Bool.true_and]
  ·refine Ev.neg c (Ev.eq (Ev.now _) ?_)
   rw [decide_eq_false c];simp
def Built (A Y:List Int) (H:List S68) (told:Int) (A' Y':List Int) (H':List S68) (s':Int):Prop :=
 (told=0∨told=1∨told=2)∧A'.length=A.length∧Y'.length=Y.length∧(H'.length:Int)=(H.length:Int)+Int.tdiv told 2∧(∀ x ∈ H',x ∈ H∨rd A x.f0=0)∧(0≤s'∧s'<18446744073709551616)
theorem bld_ev (F:Fit K w h C A Y D tt H M) {t b:Int} (ht:0≤t∧t<(w:Int) * (h:Int)) (hb:0≤b∧b<(w:Int) * (h:Int)) (hs:0≤s∧s<18446744073709551616) {side:Int} (hd:0≤side∧side≤3) (h0:rd A b=0) (hn:H.any (fun x=>decide (x.f0=b))=false) :
  ∃ told A' Y' H' s',Built A Y H told A' Y' H' s'∧Ev (fun k=>tG.bld k K (w:Int) (h:Int) A Y tt H M mv du day s t b side) (told,(w:Int),(h:Int),A',Y',H',s')∧Ev (fun k=>h11_Grow.bld k K (w:Int) (h:Int) A Y tt H M mv du day s t b side) (told,A',Y',H',s'):=by
 obtain ⟨r,hr,e1,e2⟩:=below_ev (m:=3) (s:=s) (by decide) hs.1 hs.2
 have e3:Ev (fun k=>h01_Chance.f k s 1 3) (decide (r.1<1),r.2):=by
  unfold h01_Chance.f
  exact Ev.neg (by decide) (Ev.bind e2 (Ev.now _))
 unfold tG.bld h11_Grow.bld
 by_cases c:r.1<1
 ·have hx:=shl_side hd
  have hy:=shl_side (R.opp_at hd).1
  obtain ⟨c1,p1⟩:=pave_ok F.st ht hx F.al F.yl
  have g1:=pave_good F.st ht hx
  obtain ⟨c2,p2⟩:=pave_ok g1 hb hy (by rw [pa_len];exact F.al) (by rw [py_len];exact F.yl)
  refine ⟨1,_,_,H,r.2,⟨.inr (.inl rfl),?_,?_,by rw [show Int.tdiv 1 2=0 by decide];omega,fun x hx=>.inl hx,hr.2.2⟩,Ev.bind e1 (Ev.pos c (Ev.bind p1 (Ev.bind p2 (Ev.now _)))),Ev.bind e3 (Ev.pos (decide_eq_true c) (Ev.bindc (ref_pave_ok F.st ht) (Ev.bindc (ref_pave_ok g1 hb) (Ev.now _))))⟩
  ·rw [pa_len,pa_len]
  ·rw [py_len,py_len]
 ·obtain ⟨q,hq,f1,f2⟩:=pick_ev (K.map (·.f3)) (by rw [List.length_map];exact F.kl) hr.2.2.1 hr.2.2.2
  have hkl:=F.kl
  by_cases d:q.1<0∨200≤H.length
  ·exact ⟨0,A,Y,H,q.2,⟨.inl rfl,rfl,rfl,by rw [show Int.tdiv 0 2=0 by decide];omega,fun x hx=>.inl hx,hq.2.2⟩,Ev.bind e1 (Ev.neg c (Ev.neg (by omega) (Ev.bind f1 (Ev.pos d (Ev.now _))))),Ev.bind e3 (Ev.neg (by simpa using c) (Ev.neg (by omega) (Ev.bind f2 (Ev.pos d (Ev.now _)))))⟩
  ·refine ⟨2,A,Y,ins H ⟨b,q.1,day⟩,q.2,⟨.inr (.inr rfl),rfl,rfl,by rw [ins_len,show Int.tdiv 2 2=1 by decide];omega,fun x hx=>?_,hq.2.2⟩,Ev.bind e1 (Ev.neg c (Ev.neg (by omega) (Ev.bind f1 (Ev.neg d ?_)))),Ev.bind e3 (Ev.neg (by simpa using c) (Ev.neg (by omega) (Ev.bind f2 (Ev.neg d ?_))))⟩
   ·rcases ins_mem hx with rfl|hx
    ·exact .inr h0
    ·exact .inl hx
   ·refine Ev.bindc (house_eq F b) (Ev.bindc (show api_House_77.f H=some H by unfold api_House_77.f;rw [if_pos (by omega)]) (Ev.bindc (insert_eq (H:=H) ⟨b,q.1,day⟩ (by have:=F.hl;omega)) (Ev.now _)))
   ·exact Ev.bind (build_ev F.hl F.ml (inc_of F.hh) ⟨b,q.1,day⟩ hn) (Ev.pos ⟨rfl,rfl,rfl,rfl⟩ (Ev.now _))
end
end Go.Proofs.Ytbdijpjlgokfkaa.Pure

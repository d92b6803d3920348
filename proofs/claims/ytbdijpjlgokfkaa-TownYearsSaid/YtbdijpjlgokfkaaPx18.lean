/- Functions of this seat as plain Lean functions, with proofs that the Go code comes to just their answers, or what stands between them and a law's statement; no conditions. (Laid by a program of this session, out of the kit's print.) -/
import Derived.Test.YtbdijpjlgokfkaaPx0
import Derived.Test.YtbdijpjlgokfkaaPx2
import Derived.Test.YtbdijpjlgokfkaaPx5
import Derived.Test.YtbdijpjlgokfkaaPx8
import Derived.Test.YtbdijpjlgokfkaaPx16
import Derived.Test.YtbdijpjlgokfkaaPx17
namespace Go.Proofs.Ytbdijpjlgokfkaa.P
open Go.RowKit Go.Proofs.YtbdijpjlgokfkaaW.PrintWords Go.Proofs.YtbdijpjlgokfkaaW.PrintLast Go.Proofs.YtbdijpjlgokfkaaW.PrintMore
attribute [local go_sem] max2_int min2_int max_two min_two max_three min_three max_four min_four   -- for this text's walks alone
set_option maxHeartbeats 8000000
set_option maxRecDepth 100000
set_option linter.unusedVariables false
set_option linter.unusedSimpArgs false

-- plug-in
/-! ### w11_TownYears: function 12 -/
-- HAND
instance:DecidableEq (List Int × Int × Int × Int):=inferInstance
instance:DecidableEq (Int × List Int × List Int × Int × Int × Int):=inferInstance
instance:DecidableEq (Int × Int × Int × List Int × List Int × Int × Int × Int):=inferInstance
instance:DecidableEq (List Int × Int × Int × Int × Int × List Int × List Int × Int × Int × Int):=inferInstance
def w11_TownYears.chk (k:Nat) (A:List Int) (tt:Int) (H:List S68) (M:List Int) (mv du:Int) (N:List S68):Nat→Nat→Option Unit
 | 0,_=>some ()
 | n+1,j=>if 0≤(rd_T68 N j).f0 then (if (rd_T68 N j).f0<(A.length:Int) then (if rd A (rd_T68 N j).f0=0 then w11_TownYears.chk k A tt H M mv du N n (j+1) else (w11_built.f k tt H M mv du (rd_T68 N j).f0).bind fun b=>if b=true then w11_TownYears.chk k A tt H M mv du N n (j+1) else none) else w11_TownYears.chk k A tt H M mv du N n (j+1)) else w11_TownYears.chk k A tt H M mv du N n (j+1)
def w11_TownYears.loop (k:Nat) (K:List S80) (LW LH:Int) (C D:List Int) (day:Int) (fst:Nat):Nat→Int→Int→List Int→List Int→Int→List S68→List Int→Int→Int→Int→Option Bool
 | 0,_,_,_,_,_,_,_,_,_,_=>w11_known.f k
 | n+1,SW,SH,A,Y,tt,H,M,mv,du,s=>(tG.f k K LW LH C SW SH A Y D tt H M mv du day s).bind fun a=>(h11_Grow.f k K LW LH C SW SH A Y D tt H M mv du day s).bind fun c =>
   if a=c then (hs_Town.f k a.1 a.2.1 a.2.2.1 a.2.2.2.1 a.2.2.2.2.1 a.1 a.2.1 a.2.2.1 a.2.2.2.1 a.2.2.2.2.1).bind fun t1=>(hs_Streets.f k a.2.2.2.2.2.1 a.2.2.2.2.2.2.1 a.2.2.2.2.2.2.2.1 a.2.2.2.2.2.2.2.2.1 a.2.2.2.2.2.1 a.2.2.2.2.2.2.1 a.2.2.2.2.2.2.2.1 a.2.2.2.2.2.2.2.2.1).bind fun t2 =>
    if t1=true∧t2=true then (if a.2.2.2.2.2.2.2.2.2.2.2≠0 then w11_known.f k else
     if (a.2.1.length:Int)=wrap64 ((H.length:Int)+wrap64 (Int.tdiv a.2.2.2.2.2.2.2.2.2.1 2))∧fst≤a.2.1.length∧H.length≤a.2.1.length∧a.2.1.length<4611686018427387904 then
      (w11_TownYears.chk k A tt H M mv du a.2.1 (a.2.1.length - H.length) H.length).bind fun _=>w11_TownYears.loop k K LW LH C D day fst n a.2.2.2.2.2.1 a.2.2.2.2.2.2.1 a.2.2.2.2.2.2.2.1 a.2.2.2.2.2.2.2.2.1 a.1 a.2.1 a.2.2.1 a.2.2.2.1 a.2.2.2.2.1 a.2.2.2.2.2.2.2.2.2.2.1
     else none) else none
   else none
def w11_TownYears.f (k:Nat) (l0:List S80) (a1_0:Int) (a1_1:Int) (l1_2:List Int) (a1_3:Int) (a1_4:Int) (l1_5:List Int) (l1_6:List Int) (l1_7:List Int) (a2_0:Int) (l2_1:List S68) (l2_2:List Int) (a2_3:Int) (a2_4:Int) (a3:Int) (a4_0:Int) (a5:Int):Option Bool :=
 (w11_far.f l0 a2_0 l2_1 l2_2 a2_3 a2_4).bind fun b1=>if b1=true then w11_known.f k else
 (w11_broad.f a1_0 a1_1 l1_2 a1_3 a1_4 l1_5 l1_6 l1_7).bind fun b2=>if b2=true then w11_known.f k else
 w11_TownYears.loop k l0 a1_0 a1_1 l1_2 l1_7 a3 l2_1.length (Int.tmod (wrap64 a5) 40).toNat a1_3 a1_4 l1_5 l1_6 a2_0 l2_1 l2_2 a2_3 a2_4 a4_0
theorem w11_TownYears.chk_mono (k:Nat) (A:List Int) (tt:Int) (H:List S68) (M:List Int) (mv du:Int) (N:List S68):∀ n j,LeO (w11_TownYears.chk k A tt H M mv du N n j) (w11_TownYears.chk (k+1) A tt H M mv du N n j)
 | 0,_=>LeO.refl _
 | n+1,j=>by
  have ih:=w11_TownYears.chk_mono k A tt H M mv du N n
  simp only [w11_TownYears.chk]
  exact LeO.ite (LeO.ite (LeO.ite (ih _) (LeO.bind (by apply w11_built.mono) (fun _=>LeO.ite (ih _) (LeO.refl _)))) (ih _)) (ih _)
theorem w11_TownYears.loop_mono (k:Nat) (K:List S80) (LW LH:Int) (C D:List Int) (day:Int) (fst:Nat):∀ n SW SH A Y tt H M mv du s,LeO (w11_TownYears.loop k K LW LH C D day fst n SW SH A Y tt H M mv du s) (w11_TownYears.loop (k+1) K LW LH C D day fst n SW SH A Y tt H M mv du s)
 | 0,_,_,_,_,_,_,_,_,_,_=>by simp only [w11_TownYears.loop];apply w11_known.mono
 | n+1,SW,SH,A,Y,tt,H,M,mv,du,s=>by
  have ih:=w11_TownYears.loop_mono k K LW LH C D day fst n
  simp only [w11_TownYears.loop]
  exact LeO.bind (by apply tG.mono) (fun _=>LeO.bind (by apply h11_Grow.mono) (fun _=>LeO.ite (LeO.bind (by apply hs_Town.mono) (fun _=>LeO.bind (by apply hs_Streets.mono) (fun _=>LeO.ite (LeO.ite (by apply w11_known.mono) (LeO.ite (LeO.bind (by apply w11_TownYears.chk_mono) (fun _=>by apply ih)) (LeO.refl _))) (LeO.refl _)))) (LeO.refl _)))
theorem w11_TownYears.mono:∀ a0 a1 a2 a3 a4 a5 a6 a7 a8 a9 a10 a11 a12 a13 a14 a15 a16 k,LeO (w11_TownYears.f k a0 a1 a2 a3 a4 a5 a6 a7 a8 a9 a10 a11 a12 a13 a14 a15 a16) (w11_TownYears.f (k+1) a0 a1 a2 a3 a4 a5 a6 a7 a8 a9 a10 a11 a12 a13 a14 a15 a16):=by
 intro a0 a1 a2 a3 a4 a5 a6 a7 a8 a9 a10 a11 a12 a13 a14 a15 a16 k
 unfold w11_TownYears.f
 exact LeO.bind (LeO.refl _) (fun _=>LeO.ite (by apply w11_known.mono) (LeO.bind (LeO.refl _) (fun _=>LeO.ite (by apply w11_known.mono) (by apply w11_TownYears.loop_mono))))
def ty_Off (W W':World) (g:Nat):Prop:=(∀ k,k≠g→W'.heap[k]?=W.heap[k]?)∧(∀ n w0,n≤g→Below n w0 W→Below n w0 W')
theorem ty_Off.refl (W:World) (g:Nat):ty_Off W W g:=⟨fun _ _=>rfl,fun _ _ _ h=>h⟩
theorem ty_Off.set {W W':World} {g i:Nat} {v:Value} (h:ty_Off W W' g):ty_Off W (W'.setCell ⟨g,i,none⟩ v) g:=⟨fun k hk=>(set_far hk rfl).trans (h.1 k hk),fun n w0 hl hb=>(h.2 n w0 hl hb).setCell hl _⟩
def ty_Rd {α:Type} (d:Kd α) (e:TypeId) (w0 W:World) (v:Value) (xs:List α):Prop:=∃ A c,v=.slice A xs.length c∧xs.length≤c∧(d.C w0 A xs.length xs∨∃ base ok,Kd.R d e W base ok v xs)
section
variable {α:Type} {d:Kd α} {e:TypeId} {w0 W W':World} {v:Value} {xs:List α} {A:Option Addr} {c g:Nat} {cs:Array Value} {t:TypeId}
theorem ty_Rd.came (h:d.C w0 A xs.length xs) (hc:xs.length≤c):ty_Rd d e w0 W (.slice A xs.length c) xs:=⟨A,c,rfl,hc,.inl h⟩
theorem ty_Rd.own {base:Nat} {ok:Nat→Prop} (h:Kd.R d e W base ok (.slice A xs.length c) xs):ty_Rd d e w0 W (.slice A xs.length c) xs:=⟨A,c,rfl,(Kd.R_reads' h).2.1,.inr ⟨_,_,h⟩⟩
theorem ty_Rd.C (h:ty_Rd d e w0 W (.slice A xs.length c) xs) (hB:Below w0.heap.size w0 W):d.C W A xs.length xs:=by
 obtain ⟨A',c',e',hc,h⟩:=h
 injection e' with e1 e2 e3
 subst e1 e3
 rcases h with h|⟨b,ok,h⟩
 ·exact Kd.C_below h hB
 ·exact (Kd.R_reads' h).2.2
theorem ty_Rd.cap (h:ty_Rd d e w0 W (.slice A xs.length c) xs):xs.length≤c:=by
 obtain ⟨A',c',e',hc,h⟩:=h
 injection e' with e1 e2 e3
 subst e3
 exact hc
theorem ty_Rd.step (h:ty_Rd d e w0 W v xs) (hb:Below W.heap.size W W'):ty_Rd d e w0 W' v xs:=by
 obtain ⟨A',c',e',hc,h⟩:=h
 exact ⟨A',c',e',hc,h.imp id (fun ⟨b,ok,h⟩=>⟨b,ok,Kd.R_below h hb⟩)⟩
theorem ty_Rd.off (h:ty_Rd d e w0 W v xs) (hg:W.heap[g]?=some (.cells cs t (0,0))) (o:ty_Off W W' g) (ht:∀ q,q ∈ e :: d.E→q≠t):ty_Rd d e w0 W' v xs:=by
 obtain ⟨A',c',e',hc,h⟩:=h
 exact ⟨A',c',e',hc,h.imp id (fun ⟨b,ok,h⟩=>⟨b,_,Kd.R_fars g (Kd.R_types h hg ht) (fun _ hk=>hk.2) o.1⟩)⟩
end
structure ty_B3 (w0 W:World) (g7 g8 g10:Nat) (c7 c8:Array Value) (s:Int):Prop where
 hB:Below w0.heap.size w0 W
 h7:W.heap[g7]?=some (.cells c7 62 (0,0))
 h8:W.heap[g8]?=some (.cells c8 25 (0,0))
 h10:W.heap[g10]?=some (.cells #[.int .u64 s] 45 (0,0))
section
variable {w0 W W':World} {g7 g8 g10 g:Nat} {c7 c8:Array Value} {s:Int}
theorem ty_B3.step (h:ty_B3 w0 W g7 g8 g10 c7 c8 s) (hb:Below W.heap.size W W'):ty_B3 w0 W' g7 g8 g10 c7 c8 s:=⟨below_then h.hB h.hB.size hb,blk_below h.h7 hb,blk_below h.h8 hb,blk_below h.h10 hb⟩
theorem ty_B3.off (h:ty_B3 w0 W g7 g8 g10 c7 c8 s) (o:ty_Off W W' g) (l:w0.heap.size≤g) (n:g7≠g∧g8≠g∧g10≠g):ty_B3 w0 W' g7 g8 g10 c7 c8 s:=⟨o.2 _ _ l h.hB,(o.1 _ n.1).trans h.h7,(o.1 _ n.2.1).trans h.h8,(o.1 _ n.2.2).trans h.h10⟩
end
structure ty_Lw (w0 W:World) (g7 g8 g10 g14 g15:Nat) (LW LH:Int) (vC vD:Value) (SW SH:Int) (vA vY:Value) (A Y:List Int) (TW TH:Int) (uA uY:Value) (A2 Y2:List Int) (tt:Int) (vH vM:Value) (mv du:Int) (H:List S68) (M:List Int) (s u:Int):Prop where
 hB:Below w0.heap.size w0 W
 h7:W.heap[g7]?=some (.cells #[.int .i64 LW,.int .i64 LH,vC,.int .i64 SW,.int .i64 SH,vA,vY,vD] 62 (0,0))
 h8:W.heap[g8]?=some (.cells #[.int .i64 tt,vH,vM,.int .i64 mv,.int .i64 du] 25 (0,0))
 h10:W.heap[g10]?=some (.cells #[.int .u64 s] 45 (0,0))
 h14:W.heap[g14]?=some (.cells #[.int .i64 LW,.int .i64 LH,vC,.int .i64 TW,.int .i64 TH,uA,uY,vD] 62 (0,0))
 h15:W.heap[g15]?=some (.cells #[.int .u64 u] 45 (0,0))
 l7:w0.heap.size≤g7
 l8:w0.heap.size≤g8
 l10:w0.heap.size≤g10
 l14:w0.heap.size≤g14
 l15:w0.heap.size≤g15
 n1:g7≠g14
 n2:g10≠g15
 rA:ty_Rd (Kd.int .i64) 3 w0 W vA A
 rY:ty_Rd (Kd.int .i64) 3 w0 W vY Y
 sA:ty_Rd (Kd.int .i64) 3 w0 W uA A2
 sY:ty_Rd (Kd.int .i64) 3 w0 W uY Y2
 rH:ty_Rd k68 68 w0 W vH H
 rM:ty_Rd (Kd.int .i64) 3 w0 W vM M
section
variable {w0 W W':World} {g7 g8 g10 g14 g15:Nat} {LW LH:Int} {vC vD:Value} {SW SH:Int} {vA vY:Value} {A Y:List Int} {TW TH:Int} {uA uY:Value} {A2 Y2:List Int} {tt:Int} {vH vM:Value} {mv du:Int} {H:List S68} {M:List Int} {s u:Int}
theorem ty_Lw.step (h:ty_Lw w0 W g7 g8 g10 g14 g15 LW LH vC vD SW SH vA vY A Y TW TH uA uY A2 Y2 tt vH vM mv du H M s u) (hb:Below W.heap.size W W'):ty_Lw w0 W' g7 g8 g10 g14 g15 LW LH vC vD SW SH vA vY A Y TW TH uA uY A2 Y2 tt vH vM mv du H M s u :=
 ⟨below_then h.hB h.hB.size hb,blk_below h.h7 hb,blk_below h.h8 hb,blk_below h.h10 hb,blk_below h.h14 hb,blk_below h.h15 hb,h.l7,h.l8,h.l10,h.l14,h.l15,h.n1,h.n2,h.rA.step hb,h.rY.step hb,h.sA.step hb,h.sY.step hb,h.rH.step hb,h.rM.step hb⟩
theorem ty_Lw.set8 {a0 a3 a4:Int} {v1 v2:Value} {H':List S68} {M':List Int} (h:ty_Lw w0 W g7 g8 g10 g14 g15 LW LH vC vD SW SH vA vY A Y TW TH uA uY A2 Y2 tt vH vM mv du H M s u) (r1:ty_Rd k68 68 w0 W v1 H') (r2:ty_Rd (Kd.int .i64) 3 w0 W v2 M') :
  ty_Lw w0 (((((W.setCell ⟨g8,0,none⟩ (.int .i64 a0)).setCell ⟨g8,1,none⟩ v1).setCell ⟨g8,2,none⟩ v2).setCell ⟨g8,3,none⟩ (.int .i64 a3)).setCell ⟨g8,4,none⟩ (.int .i64 a4)) g7 g8 g10 g14 g15 LW LH vC vD SW SH vA vY A Y TW TH uA uY A2 Y2 a0 v1 v2 a3 a4 H' M' s u :=
 have o:=(ty_Off.refl W g8).set (i:=0) (v:=.int .i64 a0) |>.set (i:=1) (v:=v1) |>.set (i:=2) (v:=v2) |>.set (i:=3) (v:=.int .i64 a3) |>.set (i:=4) (v:=.int .i64 a4)
 ⟨o.2 _ _ h.l8 h.hB,(o.1 _ (blk_ne h.h7 h.h8 (by decide))).trans h.h7,blk_puts5 h.h8,(o.1 _ (blk_ne h.h10 h.h8 (by decide))).trans h.h10,(o.1 _ (blk_ne h.h14 h.h8 (by decide))).trans h.h14,(o.1 _ (blk_ne h.h15 h.h8 (by decide))).trans h.h15,h.l7,h.l8,h.l10,h.l14,h.l15,h.n1,h.n2,
  h.rA.off h.h8 o (by decide),h.rY.off h.h8 o (by decide),h.sA.off h.h8 o (by decide),h.sY.off h.h8 o (by decide),r1.off h.h8 o (by decide),r2.off h.h8 o (by decide)⟩
theorem ty_Lw.set7 {a0 a1:Int} {v1 v2:Value} {A' Y':List Int} (h:ty_Lw w0 W g7 g8 g10 g14 g15 LW LH vC vD SW SH vA vY A Y TW TH uA uY A2 Y2 tt vH vM mv du H M s u) (r1:ty_Rd (Kd.int .i64) 3 w0 W v1 A') (r2:ty_Rd (Kd.int .i64) 3 w0 W v2 Y') :
  ty_Lw w0 ((((W.setCell ⟨g7,3,none⟩ (.int .i64 a0)).setCell ⟨g7,4,none⟩ (.int .i64 a1)).setCell ⟨g7,5,none⟩ v1).setCell ⟨g7,6,none⟩ v2) g7 g8 g10 g14 g15 LW LH vC vD a0 a1 v1 v2 A' Y' TW TH uA uY A2 Y2 tt vH vM mv du H M s u :=
 have o:=(ty_Off.refl W g7).set (i:=3) (v:=.int .i64 a0) |>.set (i:=4) (v:=.int .i64 a1) |>.set (i:=5) (v:=v1) |>.set (i:=6) (v:=v2)
 ⟨o.2 _ _ h.l7 h.hB,blk_set (blk_set (blk_set (blk_set h.h7 3 _) 4 _) 5 _) 6 _,(o.1 _ (blk_ne h.h8 h.h7 (by decide))).trans h.h8,(o.1 _ (blk_ne h.h10 h.h7 (by decide))).trans h.h10,(o.1 _ h.n1.symm).trans h.h14,(o.1 _ (blk_ne h.h15 h.h7 (by decide))).trans h.h15,h.l7,h.l8,h.l10,h.l14,h.l15,h.n1,h.n2,
  r1.off h.h7 o (by decide),r2.off h.h7 o (by decide),h.sA.off h.h7 o (by decide),h.sY.off h.h7 o (by decide),h.rH.off h.h7 o (by decide),h.rM.off h.h7 o (by decide)⟩
theorem ty_Lw.set14 {a0 a1:Int} {v1 v2:Value} {A' Y':List Int} (h:ty_Lw w0 W g7 g8 g10 g14 g15 LW LH vC vD SW SH vA vY A Y TW TH uA uY A2 Y2 tt vH vM mv du H M s u) (r1:ty_Rd (Kd.int .i64) 3 w0 W v1 A') (r2:ty_Rd (Kd.int .i64) 3 w0 W v2 Y') :
  ty_Lw w0 ((((W.setCell ⟨g14,3,none⟩ (.int .i64 a0)).setCell ⟨g14,4,none⟩ (.int .i64 a1)).setCell ⟨g14,5,none⟩ v1).setCell ⟨g14,6,none⟩ v2) g7 g8 g10 g14 g15 LW LH vC vD SW SH vA vY A Y a0 a1 v1 v2 A' Y' tt vH vM mv du H M s u :=
 have o:=(ty_Off.refl W g14).set (i:=3) (v:=.int .i64 a0) |>.set (i:=4) (v:=.int .i64 a1) |>.set (i:=5) (v:=v1) |>.set (i:=6) (v:=v2)
 ⟨o.2 _ _ h.l14 h.hB,(o.1 _ h.n1).trans h.h7,(o.1 _ (blk_ne h.h8 h.h14 (by decide))).trans h.h8,(o.1 _ (blk_ne h.h10 h.h14 (by decide))).trans h.h10,blk_set (blk_set (blk_set (blk_set h.h14 3 _) 4 _) 5 _) 6 _,(o.1 _ (blk_ne h.h15 h.h14 (by decide))).trans h.h15,h.l7,h.l8,h.l10,h.l14,h.l15,h.n1,h.n2,
  h.rA.off h.h14 o (by decide),h.rY.off h.h14 o (by decide),r1.off h.h14 o (by decide),r2.off h.h14 o (by decide),h.rH.off h.h14 o (by decide),h.rM.off h.h14 o (by decide)⟩
theorem ty_Lw.set10 {a0:Int} (h:ty_Lw w0 W g7 g8 g10 g14 g15 LW LH vC vD SW SH vA vY A Y TW TH uA uY A2 Y2 tt vH vM mv du H M s u):ty_Lw w0 (W.setCell ⟨g10,0,none⟩ (.int .u64 a0)) g7 g8 g10 g14 g15 LW LH vC vD SW SH vA vY A Y TW TH uA uY A2 Y2 tt vH vM mv du H M a0 u :=
 have o:=(ty_Off.refl W g10).set (i:=0) (v:=.int .u64 a0)
 ⟨o.2 _ _ h.l10 h.hB,(o.1 _ (blk_ne h.h7 h.h10 (by decide))).trans h.h7,(o.1 _ (blk_ne h.h8 h.h10 (by decide))).trans h.h8,blk_set h.h10 0 _,(o.1 _ (blk_ne h.h14 h.h10 (by decide))).trans h.h14,(o.1 _ h.n2.symm).trans h.h15,h.l7,h.l8,h.l10,h.l14,h.l15,h.n1,h.n2,
  h.rA.off h.h10 o (by decide),h.rY.off h.h10 o (by decide),h.sA.off h.h10 o (by decide),h.sY.off h.h10 o (by decide),h.rH.off h.h10 o (by decide),h.rM.off h.h10 o (by decide)⟩
theorem ty_Lw.set15 {a0:Int} (h:ty_Lw w0 W g7 g8 g10 g14 g15 LW LH vC vD SW SH vA vY A Y TW TH uA uY A2 Y2 tt vH vM mv du H M s u):ty_Lw w0 (W.setCell ⟨g15,0,none⟩ (.int .u64 a0)) g7 g8 g10 g14 g15 LW LH vC vD SW SH vA vY A Y TW TH uA uY A2 Y2 tt vH vM mv du H M s a0 :=
 have o:=(ty_Off.refl W g15).set (i:=0) (v:=.int .u64 a0)
 ⟨o.2 _ _ h.l15 h.hB,(o.1 _ (blk_ne h.h7 h.h15 (by decide))).trans h.h7,(o.1 _ (blk_ne h.h8 h.h15 (by decide))).trans h.h8,(o.1 _ h.n2).trans h.h10,(o.1 _ (blk_ne h.h14 h.h15 (by decide))).trans h.h14,blk_set h.h15 0 _,h.l7,h.l8,h.l10,h.l14,h.l15,h.n1,h.n2,
  h.rA.off h.h15 o (by decide),h.rY.off h.h15 o (by decide),h.sA.off h.h15 o (by decide),h.sY.off h.h15 o (by decide),h.rH.off h.h15 o (by decide),h.rM.off h.h15 o (by decide)⟩
end
theorem w11_TownYears.calls (k:Nat) (A0:Option Addr) (c0:Nat) (l0:List (S80)) (a1_0:Int) (a1_1:Int) (A1_2:Option Addr) (c1_2:Nat) (l1_2:List Int) (a1_3:Int) (a1_4:Int) (A1_5:Option Addr) (c1_5:Nat) (l1_5:List Int) (A1_6:Option Addr) (c1_6:Nat) (l1_6:List Int) (A1_7:Option Addr) (c1_7:Nat) (l1_7:List Int) (a2_0:Int) (A2_1:Option Addr) (c2_1:Nat) (l2_1:List (S68)) (A2_2:Option Addr) (c2_2:Nat) (l2_2:List Int) (a2_3:Int) (a2_4:Int) (a3:Int) (a4_0:Int) (a5:Int) (r:Bool) (w:World) (hr0:Kd.C k80 w A0 l0.length l0) (hc0:l0.length≤c0) (hr1_2:Kd.C (Kd.int .i64) w A1_2 l1_2.length l1_2) (hc1_2:l1_2.length≤c1_2) (hr1_5:Kd.C (Kd.int .i64) w A1_5 l1_5.length l1_5) (hc1_5:l1_5.length≤c1_5) (hr1_6:Kd.C (Kd.int .i64) w A1_6 l1_6.length l1_6) (hc1_6:l1_6.length≤c1_6) (hr1_7:Kd.C (Kd.int .i64) w A1_7 l1_7.length l1_7) (hc1_7:l1_7.length≤c1_7) (hr2_1:Kd.C k68 w A2_1 l2_1.length l2_1) (hc2_1:l2_1.length≤c2_1) (hr2_2:Kd.C (Kd.int .i64) w A2_2 l2_2.length l2_2) (hc2_2:l2_2.length≤c2_2) (h:w11_TownYears.f k l0 a1_0 a1_1 l1_2 a1_3 a1_4 l1_5 l1_6 l1_7 a2_0 l2_1 l2_2 a2_3 a2_4 a3 a4_0 a5=some r) :
  Calls Try.prog 12 #[.slice A0 l0.length c0,.agg #[.int .i64 a1_0,.int .i64 a1_1,.slice A1_2 l1_2.length c1_2,.int .i64 a1_3,.int .i64 a1_4,.slice A1_5 l1_5.length c1_5,.slice A1_6 l1_6.length c1_6,.slice A1_7 l1_7.length c1_7],.agg #[.int .i64 a2_0,.slice A2_1 l2_1.length c2_1,.slice A2_2 l2_2.length c2_2,.int .i64 a2_3,.int .i64 a2_4],.int .i64 a3,.agg #[.int .u64 a4_0],.int .u8 a5] w fun e w'=>e=.returned (.bool r)∧Below w.heap.size w w':=by
 have hu25:=Try.underlying25
 have hu60:=Try.underlying60
 have hu62:=Try.underlying62
 have hu45:=Try.underlying45
 have R0:=am_ hr0
 have R12:=am_ hr1_2
 have R15:=am_ hr1_5
 have R16:=am_ hr1_6
 have R17:=am_ hr1_7
 have R21:=am_ hr2_1
 have R22:=am_ hr2_2
 clear hr0 hr1_2 hr1_5 hr1_6 hr1_7 hr2_1 hr2_2
 have HB:=am_ (Below.refl w.heap.size w)
 unfold w11_TownYears.f at h
 obtain ⟨b1,hb1,h1⟩:=Option.bind_eq_some_iff.1 h
 have A1:=am_ hb1
 clear h hb1
 go_enter Try.func12,Try.ntmps12
 by_cases c1:b1=true
 ·rw [if_pos c1] at h1
  have AK:=am_ h1
  subst c1
  clear h1
  go_wp2_with (first|((with_reducible refine gate_dst (N:=7) rfl ?_);refine box_ev (N:=7) (cs:=#[.int .i64 a1_0,.int .i64 a1_1,.slice A1_2 l1_2.length c1_2,.int .i64 a1_3,.int .i64 a1_4,.slice A1_5 l1_5.length c1_5,.slice A1_6 l1_6.length c1_6,.slice A1_7 l1_7.length c1_7]) (t:=62) ?_;intro g7 hg w1 hbox hb;have B7:=am_ hbox;have G7:=gsz (w:=w) hg;replace HB:=am_ (below_step (hb_) hb);clear hb hbox hg)|((with_reducible refine gate_dst (N:=8) rfl ?_);refine box_ev (N:=8) (cs:=#[.int .i64 a2_0,.slice A2_1 l2_1.length c2_1,.slice A2_2 l2_2.length c2_2,.int .i64 a2_3,.int .i64 a2_4]) (t:=25) ?_;intro g8 hg w2 hbox hb;have B8:=am_ hbox;have G8:=gsz (w:=w) hg;replace B7:=bkb B7 hb;replace HB:=am_ (below_step (hb_) hb);clear hb hbox hg)|((with_reducible refine gate_dst (N:=10) rfl ?_);refine box_ev (N:=10) (cs:=#[.int .u64 a4_0]) (t:=45) ?_;intro g10 hg w3 hbox hb;have G10:=gsz (w:=w) hg;replace B7:=bkb B7 hb;replace B8:=bkb B8 hb;replace HB:=am_ (below_step (hb_) hb);have HI:=am_ (ty_B3.mk (w0:=w) HB.out B7.out B8.out hbox);clear hb hbox hg HB B7 B8;obtain ⟨hx0,hx1,hx2,hx3,hx4,_,_,_,_,_⟩:=cells5 HI.out.h8;obtain ⟨hy0,hy1,hy2,hy3,hy4,hy5,hy6,hy7,_⟩:=cells8 HI.out.h7)|(go_at_call 13;refine (w11_far.calls _ _ _ _ _ _ _ _ _ _ _ _ _ _ (Kd.C_below R0.out HI.out.hB) hc0 (Kd.C_below R21.out HI.out.hB) hc2_1 (Kd.C_below R22.out HI.out.hB) hc2_2 A1.out).mono ?_;rintro e w4 ⟨rfl,hb⟩;replace HI:=am_ (HI.out.step hb);clear hb;obtain ⟨hx0,hx1,hx2,hx3,hx4,_,_,_,_,_⟩:=cells5 HI.out.h8;obtain ⟨hy0,hy1,hy2,hy3,hy4,hy5,hy6,hy7,_⟩:=cells8 HI.out.h7)|(go_at_call 35;refine (w11_broad.calls _ _ _ _ _ _ _ _ _ _ _ _ _ _ _ _ _ _ (Kd.C_below R12.out HI.out.hB) hc1_2 (Kd.C_below R15.out HI.out.hB) hc1_5 (Kd.C_below R16.out HI.out.hB) hc1_6 (Kd.C_below R17.out HI.out.hB) hc1_7 A2.out).mono ?_;rintro e w4 ⟨rfl,hb⟩;replace HI:=am_ (HI.out.step hb);clear hb;obtain ⟨hx0,hx1,hx2,hx3,hx4,_,_,_,_,_⟩:=cells5 HI.out.h8;obtain ⟨hy0,hy1,hy2,hy3,hy4,hy5,hy6,hy7,_⟩:=cells8 HI.out.h7)|(go_at_call 14;refine (w11_known.calls _ _ _ AK.out).mono ?_;rintro e w4 ⟨rfl,hb⟩;replace HI:=am_ (HI.out.step hb);clear hb))
  go_ret
  exact ⟨rfl,HI.out.hB⟩
 obtain rfl:b1=false:=by simpa using c1
 rw [if_neg c1] at h1
 obtain ⟨b2,hb2,h2⟩:=Option.bind_eq_some_iff.1 h1
 have A2:=am_ hb2
 clear h1 hb2 c1
 by_cases c2:b2=true
 ·rw [if_pos c2] at h2
  have AK:=am_ h2
  subst c2
  clear h2
  go_wp2_with (first|((with_reducible refine gate_dst (N:=7) rfl ?_);refine box_ev (N:=7) (cs:=#[.int .i64 a1_0,.int .i64 a1_1,.slice A1_2 l1_2.length c1_2,.int .i64 a1_3,.int .i64 a1_4,.slice A1_5 l1_5.length c1_5,.slice A1_6 l1_6.length c1_6,.slice A1_7 l1_7.length c1_7]) (t:=62) ?_;intro g7 hg w1 hbox hb;have B7:=am_ hbox;have G7:=gsz (w:=w) hg;replace HB:=am_ (below_step (hb_) hb);clear hb hbox hg)|((with_reducible refine gate_dst (N:=8) rfl ?_);refine box_ev (N:=8) (cs:=#[.int .i64 a2_0,.slice A2_1 l2_1.length c2_1,.slice A2_2 l2_2.length c2_2,.int .i64 a2_3,.int .i64 a2_4]) (t:=25) ?_;intro g8 hg w2 hbox hb;have B8:=am_ hbox;have G8:=gsz (w:=w) hg;replace B7:=bkb B7 hb;replace HB:=am_ (below_step (hb_) hb);clear hb hbox hg)|((with_reducible refine gate_dst (N:=10) rfl ?_);refine box_ev (N:=10) (cs:=#[.int .u64 a4_0]) (t:=45) ?_;intro g10 hg w3 hbox hb;have G10:=gsz (w:=w) hg;replace B7:=bkb B7 hb;replace B8:=bkb B8 hb;replace HB:=am_ (below_step (hb_) hb);have HI:=am_ (ty_B3.mk (w0:=w) HB.out B7.out B8.out hbox);clear hb hbox hg HB B7 B8;obtain ⟨hx0,hx1,hx2,hx3,hx4,_,_,_,_,_⟩:=cells5 HI.out.h8;obtain ⟨hy0,hy1,hy2,hy3,hy4,hy5,hy6,hy7,_⟩:=cells8 HI.out.h7)|(go_at_call 13;refine (w11_far.calls _ _ _ _ _ _ _ _ _ _ _ _ _ _ (Kd.C_below R0.out HI.out.hB) hc0 (Kd.C_below R21.out HI.out.hB) hc2_1 (Kd.C_below R22.out HI.out.hB) hc2_2 A1.out).mono ?_;rintro e w4 ⟨rfl,hb⟩;replace HI:=am_ (HI.out.step hb);clear hb;obtain ⟨hx0,hx1,hx2,hx3,hx4,_,_,_,_,_⟩:=cells5 HI.out.h8;obtain ⟨hy0,hy1,hy2,hy3,hy4,hy5,hy6,hy7,_⟩:=cells8 HI.out.h7)|(go_at_call 35;refine (w11_broad.calls _ _ _ _ _ _ _ _ _ _ _ _ _ _ _ _ _ _ (Kd.C_below R12.out HI.out.hB) hc1_2 (Kd.C_below R15.out HI.out.hB) hc1_5 (Kd.C_below R16.out HI.out.hB) hc1_6 (Kd.C_below R17.out HI.out.hB) hc1_7 A2.out).mono ?_;rintro e w4 ⟨rfl,hb⟩;replace HI:=am_ (HI.out.step hb);clear hb;obtain ⟨hx0,hx1,hx2,hx3,hx4,_,_,_,_,_⟩:=cells5 HI.out.h8;obtain ⟨hy0,hy1,hy2,hy3,hy4,hy5,hy6,hy7,_⟩:=cells8 HI.out.h7)|(go_at_call 14;refine (w11_known.calls _ _ _ AK.out).mono ?_;rintro e w4 ⟨rfl,hb⟩;replace HI:=am_ (HI.out.step hb);clear hb))
  go_ret
  exact ⟨rfl,HI.out.hB⟩
 obtain rfl:b2=false:=by simpa using c2
 rw [if_neg c2] at h2
 obtain ⟨m,hm⟩:∃ j_:Int,Int.tmod (wrap64 a5) 40=j_:=⟨_,rfl⟩
 rw [hm] at h2
 have HMm:Aside0 (m<40):=⟨by rw [← hm];exact Int.tmod_lt_of_pos _ (by decide)⟩
 have H:=am_ h2
 clear h2 c2
 go_upto_region 4 with (first|((with_reducible refine gate_dst (N:=7) rfl ?_);refine box_ev (N:=7) (cs:=#[.int .i64 a1_0,.int .i64 a1_1,.slice A1_2 l1_2.length c1_2,.int .i64 a1_3,.int .i64 a1_4,.slice A1_5 l1_5.length c1_5,.slice A1_6 l1_6.length c1_6,.slice A1_7 l1_7.length c1_7]) (t:=62) ?_;intro g7 hg w1 hbox hb;have B7:=am_ hbox;have G7:=gsz (w:=w) hg;replace HB:=am_ (below_step (hb_) hb);clear hb hbox hg)|((with_reducible refine gate_dst (N:=8) rfl ?_);refine box_ev (N:=8) (cs:=#[.int .i64 a2_0,.slice A2_1 l2_1.length c2_1,.slice A2_2 l2_2.length c2_2,.int .i64 a2_3,.int .i64 a2_4]) (t:=25) ?_;intro g8 hg w2 hbox hb;have B8:=am_ hbox;have G8:=gsz (w:=w) hg;replace B7:=bkb B7 hb;replace HB:=am_ (below_step (hb_) hb);clear hb hbox hg)|((with_reducible refine gate_dst (N:=10) rfl ?_);refine box_ev (N:=10) (cs:=#[.int .u64 a4_0]) (t:=45) ?_;intro g10 hg w3 hbox hb;have G10:=gsz (w:=w) hg;replace B7:=bkb B7 hb;replace B8:=bkb B8 hb;replace HB:=am_ (below_step (hb_) hb);have HI:=am_ (ty_B3.mk (w0:=w) HB.out B7.out B8.out hbox);clear hb hbox hg HB B7 B8;obtain ⟨hx0,hx1,hx2,hx3,hx4,_,_,_,_,_⟩:=cells5 HI.out.h8;obtain ⟨hy0,hy1,hy2,hy3,hy4,hy5,hy6,hy7,_⟩:=cells8 HI.out.h7)|(go_at_call 13;refine (w11_far.calls _ _ _ _ _ _ _ _ _ _ _ _ _ _ (Kd.C_below R0.out HI.out.hB) hc0 (Kd.C_below R21.out HI.out.hB) hc2_1 (Kd.C_below R22.out HI.out.hB) hc2_2 A1.out).mono ?_;rintro e w4 ⟨rfl,hb⟩;replace HI:=am_ (HI.out.step hb);clear hb;obtain ⟨hx0,hx1,hx2,hx3,hx4,_,_,_,_,_⟩:=cells5 HI.out.h8;obtain ⟨hy0,hy1,hy2,hy3,hy4,hy5,hy6,hy7,_⟩:=cells8 HI.out.h7)|(go_at_call 35;refine (w11_broad.calls _ _ _ _ _ _ _ _ _ _ _ _ _ _ _ _ _ _ (Kd.C_below R12.out HI.out.hB) hc1_2 (Kd.C_below R15.out HI.out.hB) hc1_5 (Kd.C_below R16.out HI.out.hB) hc1_6 (Kd.C_below R17.out HI.out.hB) hc1_7 A2.out).mono ?_;rintro e w4 ⟨rfl,hb⟩;replace HI:=am_ (HI.out.step hb);clear hb;obtain ⟨hx0,hx1,hx2,hx3,hx4,_,_,_,_,_⟩:=cells5 HI.out.h8;obtain ⟨hy0,hy1,hy2,hy3,hy4,hy5,hy6,hy7,_⟩:=cells8 HI.out.h7))
 clear hx0 hx1 hx2 hx3 hx4 hy0 hy1 hy2 hy3 hy4 hy5 hy6 hy7 A1 A2
 replace HI:=am_ (HI.out.step (below_drew (Below.refl _ _)))
 refine start_ (n:=6) (S:=fun w'=>ty_B3 w w' g7 g8 g10 #[.int .i64 a1_0,.int .i64 a1_1,.slice A1_2 l1_2.length c1_2,.int .i64 a1_3,.int .i64 a1_4,.slice A1_5 l1_5.length c1_5,.slice A1_6 l1_6.length c1_6,.slice A1_7 l1_7.length c1_7] #[.int .i64 a2_0,.slice A2_1 l2_1.length c2_1,.slice A2_2 l2_2.length c2_2,.int .i64 a2_3,.int .i64 a2_4] a4_0) (ds:=[]) #[false,false,false,false,false,false] (by kernel_rfl) rfl rfl HI.out (fun hHeld=>?_)
 generalize hWd:World.drew _=wd at HI hHeld ⊢
 clear hWd
 refine take_ (i:=0) (N:=some 40) (v:=?_) (a':=?_) #[true,false,false,false,false,false] rfl rfl (by kernel_rfl) (fun _ _ _ h=>h) (Or.inl ⟨by rfl,?_⟩) hHeld ?_ ?_;rotate_left
 ·intro w' s0;obtain ⟨hy0,hy1,hy2,hy3,hy4,hy5,hy6,hy7,_⟩:=cells8 s0.h7;go_simp;with_reducible rfl
 rotate_left
 ·simp only [Act.put,sl_,i64_w,i32_w];rfl
 refine take_ (i:=1) (N:=some 41) (v:=?_) (a':=?_) #[true,true,false,false,false,false] rfl rfl (by kernel_rfl) (fun _ _ _ h=>h) (Or.inl ⟨by rfl,?_⟩) hHeld ?_ ?_;rotate_left
 ·intro w' s0;have hz0:=blk_cell s0.h10 0;go_simp;with_reducible rfl
 rotate_left
 ·simp only [Act.put,sl_,i64_w,i32_w];rfl
 refine join_ (σ:=Nat × Nat) 2 #[true,true,true,true,false,false] (fun s_=>[(14,.pointer (some ⟨s_.1,0,none⟩)),(15,.pointer (some ⟨s_.2,0,none⟩))]) (fun s_ w'=>ty_B3 w w' g7 g8 g10 #[.int .i64 a1_0,.int .i64 a1_1,.slice A1_2 l1_2.length c1_2,.int .i64 a1_3,.int .i64 a1_4,.slice A1_5 l1_5.length c1_5,.slice A1_6 l1_6.length c1_6,.slice A1_7 l1_7.length c1_7] #[.int .i64 a2_0,.slice A2_1 l2_1.length c2_1,.slice A2_2 l2_2.length c2_2,.int .i64 a2_3,.int .i64 a2_4] a4_0∧w'.heap[s_.1]?=some (.cells #[.int .i64 0,.int .i64 0,.slice none 0 0,.int .i64 0,.int .i64 0,.slice none 0 0,.slice none 0 0,.slice none 0 0] 62 (0,0))∧w'.heap[s_.2]?=some (.cells #[.int .u64 0] 45 (0,0))∧(g7≠s_.1∧g8≠s_.1∧g10≠s_.1)∧(g7≠s_.2∧g8≠s_.2∧g10≠s_.2)∧w.heap.size≤s_.1∧w.heap.size≤s_.2) ?_ ?_
 rotate_left
 ·intro hCont
  refine two_ (i:=2) (j:=3) (Ni:=some 14) (Nj:=some 15) #[true,true,true,false,false,false] #[true,true,false,true,false,false] rfl rfl rfl rfl (by kernel_rfl) (by decide) (by decide) (fun K hK=>?_) (fun K hK=>?_)
  ·refine box_step (by rfl) (N:=14) rfl (cs:=#[.int .i64 0,.int .i64 0,.slice none 0 0,.int .i64 0,.int .i64 0,.slice none 0 0,.slice none 0 0,.slice none 0 0]) (t:=62) (by first|(go_simp;done)|(go_simp;rfl)) ?_
   intro g14 hg w2 hbox hb
   have B14:=am_ hbox
   have N14:Aside0 (g7≠g14∧g8≠g14∧g10≠g14):=⟨by rw [hg];exact ⟨Nat.ne_of_lt (blk_lt HI.out.h7),Nat.ne_of_lt (blk_lt HI.out.h8),Nat.ne_of_lt (blk_lt HI.out.h10)⟩⟩
   have G14:Aside0 (w.heap.size≤g14):=⟨by rw [hg];exact HI.out.hB.size⟩
   replace HI:=am_ (HI.out.step hb)
   clear hb hbox hg
   refine hK.out _ _ HI.out (fun hHeld=>?_);clear hK K
   refine nrm 14 ?_
   refine oI 3 (some 15) (fun K hK=>?_)
   refine box_step (by rfl) (N:=15) rfl (cs:=#[.int .u64 0]) (t:=45) (by first|(go_simp;done)|(go_simp;rfl)) ?_
   intro g15 hg w2 hbox hb
   have B15:=am_ hbox
   have N15:Aside0 (g7≠g15∧g8≠g15∧g10≠g15):=⟨by rw [hg];exact ⟨Nat.ne_of_lt (blk_lt HI.out.h7),Nat.ne_of_lt (blk_lt HI.out.h8),Nat.ne_of_lt (blk_lt HI.out.h10)⟩⟩
   have G15:Aside0 (w.heap.size≤g15):=⟨by rw [hg];exact HI.out.hB.size⟩
   replace B14:=bkb B14 hb
   replace HI:=am_ (HI.out.step hb)
   clear hb hbox hg
   refine hK.out _ _ HI.out (fun hHeld=>?_);clear hK K
   refine nrm 15 ?_
   exact norm_ (by simp only [putAll,Act.put,sl_]) (hCont (g14,g15) _ ⟨HI.out,B14.out,B15.out,N14.out,N15.out,G14.out,G15.out⟩)
  ·refine box_step (by rfl) (N:=15) rfl (cs:=#[.int .u64 0]) (t:=45) (by first|(go_simp;done)|(go_simp;rfl)) ?_
   intro g15 hg w2 hbox hb
   have B15:=am_ hbox
   have N15:Aside0 (g7≠g15∧g8≠g15∧g10≠g15):=⟨by rw [hg];exact ⟨Nat.ne_of_lt (blk_lt HI.out.h7),Nat.ne_of_lt (blk_lt HI.out.h8),Nat.ne_of_lt (blk_lt HI.out.h10)⟩⟩
   have G15:Aside0 (w.heap.size≤g15):=⟨by rw [hg];exact HI.out.hB.size⟩
   replace HI:=am_ (HI.out.step hb)
   clear hb hbox hg
   refine hK.out _ _ HI.out (fun hHeld=>?_);clear hK K
   refine nrm 15 ?_
   refine oI 2 (some 14) (fun K hK=>?_)
   refine box_step (by rfl) (N:=14) rfl (cs:=#[.int .i64 0,.int .i64 0,.slice none 0 0,.int .i64 0,.int .i64 0,.slice none 0 0,.slice none 0 0,.slice none 0 0]) (t:=62) (by first|(go_simp;done)|(go_simp;rfl)) ?_
   intro g14 hg w2 hbox hb
   have B14:=am_ hbox
   have N14:Aside0 (g7≠g14∧g8≠g14∧g10≠g14):=⟨by rw [hg];exact ⟨Nat.ne_of_lt (blk_lt HI.out.h7),Nat.ne_of_lt (blk_lt HI.out.h8),Nat.ne_of_lt (blk_lt HI.out.h10)⟩⟩
   have G14:Aside0 (w.heap.size≤g14):=⟨by rw [hg];exact HI.out.hB.size⟩
   replace B15:=bkb B15 hb
   replace HI:=am_ (HI.out.step hb)
   clear hb hbox hg
   refine hK.out _ _ HI.out (fun hHeld=>?_);clear hK K
   refine nrm 14 ?_
   exact norm_ (by simp only [putAll,Act.put,sl_]) (hCont (g14,g15) _ ⟨HI.out,B14.out,B15.out,N14.out,N15.out,G14.out,G15.out⟩)
 clear HI hHeld
 rintro ⟨g14,g15⟩ wj ⟨hHeld,hB14,hB15,hN14,hN15,hG14,hG15⟩
 have HI:=am_ hHeld
 have B14:=am_ hB14
 have B15:=am_ hB15
 have N14:=am_ hN14
 have N15:=am_ hN15
 have G14:=am_ hG14
 have G15:=am_ hG15
 clear hB14 hB15 hN14 hN15 hG14 hG15
 dsimp only at B14 B15 N14 N15 G14 G15
 refine norm_ (a':=?_) ?_ ?_
 rotate_left
 ·simp only [putAll,Act.put,sl_];rfl
 have o_:ty_Off wj ((((((((wj.setCell ⟨g14,0,none⟩ (.int .i64 a1_0)).setCell ⟨g14,1,none⟩ (.int .i64 a1_1)).setCell ⟨g14,2,none⟩ (.slice A1_2 l1_2.length c1_2)).setCell ⟨g14,3,none⟩ (.int .i64 a1_3)).setCell ⟨g14,4,none⟩ (.int .i64 a1_4)).setCell ⟨g14,5,none⟩ (.slice A1_5 l1_5.length c1_5)).setCell ⟨g14,6,none⟩ (.slice A1_6 l1_6.length c1_6)).setCell ⟨g14,7,none⟩ (.slice A1_7 l1_7.length c1_7)) g14:=(ty_Off.refl wj g14).set (i:=0) (v:=.int .i64 a1_0).set (i:=1) (v:=.int .i64 a1_1).set (i:=2) (v:=.slice A1_2 l1_2.length c1_2).set (i:=3) (v:=.int .i64 a1_3).set (i:=4) (v:=.int .i64 a1_4).set (i:=5) (v:=.slice A1_5 l1_5.length c1_5).set (i:=6) (v:=.slice A1_6 l1_6.length c1_6).set (i:=7) (v:=.slice A1_7 l1_7.length c1_7)
 have m0_:=am_ (HI.out.off o_ G14.out N14.out)
 have m1_:Aside0 (((((((((wj.setCell ⟨g14,0,none⟩ (.int .i64 a1_0)).setCell ⟨g14,1,none⟩ (.int .i64 a1_1)).setCell ⟨g14,2,none⟩ (.slice A1_2 l1_2.length c1_2)).setCell ⟨g14,3,none⟩ (.int .i64 a1_3)).setCell ⟨g14,4,none⟩ (.int .i64 a1_4)).setCell ⟨g14,5,none⟩ (.slice A1_5 l1_5.length c1_5)).setCell ⟨g14,6,none⟩ (.slice A1_6 l1_6.length c1_6)).setCell ⟨g14,7,none⟩ (.slice A1_7 l1_7.length c1_7)).heap[g14]?=some (.cells #[.int .i64 a1_0,.int .i64 a1_1,.slice A1_2 l1_2.length c1_2,.int .i64 a1_3,.int .i64 a1_4,.slice A1_5 l1_5.length c1_5,.slice A1_6 l1_6.length c1_6,.slice A1_7 l1_7.length c1_7] 62 (0,0))):=⟨(blk_set (blk_set (blk_set (blk_set (blk_set (blk_set (blk_set (blk_set B14.out 0 (.int .i64 a1_0)) 1 (.int .i64 a1_1)) 2 (.slice A1_2 l1_2.length c1_2)) 3 (.int .i64 a1_3)) 4 (.int .i64 a1_4)) 5 (.slice A1_5 l1_5.length c1_5)) 6 (.slice A1_6 l1_6.length c1_6)) 7 (.slice A1_7 l1_7.length c1_7))⟩
 have m2_:=am_ ((o_.1 _ (blk_ne B15.out B14.out (by decide))).trans B15.out)
 obtain ⟨hd0,hd1,hd2,hd3,hd4,hd5,hd6,hd7,he0,he1,he2,he3,he4,he5,he6,he7⟩:=cells8 B14.out
 refine oI 4 none ?_
 intro K hK
 refine skip_ (w1:=?_) (by rfl) rfl ?_ ?_;rotate_left
 ·go_simp;rfl
 refine hK.out _ _ m0_.out (fun hHeld=>?_);clear hK K
 clear o_ HI B14 B15 hd0 hd1 hd2 hd3 hd4 hd5 hd6 hd7 he0 he1 he2 he3 he4 he5 he6 he7
 generalize ((((((((wj.setCell ⟨g14,0,none⟩ (.int .i64 a1_0)).setCell ⟨g14,1,none⟩ (.int .i64 a1_1)).setCell ⟨g14,2,none⟩ (.slice A1_2 l1_2.length c1_2)).setCell ⟨g14,3,none⟩ (.int .i64 a1_3)).setCell ⟨g14,4,none⟩ (.int .i64 a1_4)).setCell ⟨g14,5,none⟩ (.slice A1_5 l1_5.length c1_5)).setCell ⟨g14,6,none⟩ (.slice A1_6 l1_6.length c1_6)).setCell ⟨g14,7,none⟩ (.slice A1_7 l1_7.length c1_7))=w1 at m0_ m1_ m2_ hHeld ⊢
 have HI:=m0_
 have B14:=m1_
 have B15:=m2_
 clear m0_ m1_ m2_
 have o_:ty_Off w1 (w1.setCell ⟨g15,0,none⟩ (.int .u64 a4_0)) g15:=(ty_Off.refl w1 g15).set
 have m0_:=am_ (HI.out.off o_ G15.out N15.out)
 have m1_:=am_ ((o_.1 _ (blk_ne B14.out B15.out (by decide))).trans B14.out)
 have m2_:=am_ (blk_set B15.out 0 (.int .u64 a4_0))
 obtain ⟨hq0,hq1⟩:=cells1 B15.out
 refine oI 5 none ?_
 intro K hK
 refine skip_ (w1:=?_) (by rfl) rfl ?_ ?_;rotate_left
 ·go_simp;rfl
 refine hK.out _ _ m0_.out (fun hHeld=>?_);clear hK K
 refine done_ (by kernel_rfl) ?_
 have HL:Aside0 (ty_Lw w (w1.setCell ⟨g15,0,none⟩ (.int .u64 a4_0)) g7 g8 g10 g14 g15 a1_0 a1_1 (.slice A1_2 l1_2.length c1_2) (.slice A1_7 l1_7.length c1_7) a1_3 a1_4 (.slice A1_5 l1_5.length c1_5) (.slice A1_6 l1_6.length c1_6) l1_5 l1_6 a1_3 a1_4 (.slice A1_5 l1_5.length c1_5) (.slice A1_6 l1_6.length c1_6) l1_5 l1_6 a2_0 (.slice A2_1 l2_1.length c2_1) (.slice A2_2 l2_2.length c2_2) a2_3 a2_4 l2_1 l2_2 a4_0 a4_0):=⟨ty_Lw.mk m0_.out.hB m0_.out.h7 m0_.out.h8 m0_.out.h10 m1_.out m2_.out G7.out G8.out G10.out G14.out G15.out N14.out.1 N15.out.2.2 (ty_Rd.came R15.out hc1_5) (ty_Rd.came R16.out hc1_6) (ty_Rd.came R15.out hc1_5) (ty_Rd.came R16.out hc1_6) (ty_Rd.came R21.out hc2_1) (ty_Rd.came R22.out hc2_2)⟩
 clear o_ m0_ m1_ m2_ hHeld HI B14 B15 N14 N15 G14 G15 G7 G8 G10 hq0 hq1
 generalize w1.setCell ⟨g15,0,none⟩ (.int .u64 a4_0)=w2 at HL ⊢
 have HI:=HL
 clear HL
 go_wp2_with (fail)
 go_loopg [16] m.toNat (fun kq v16 wc=>∃ (i:Int) (n:Nat) (SW SH:Int) (vA vY:Value) (A Y:List Int) (uA uY:Value) (tt:Int) (vH vM:Value) (mv du:Int) (HH:List S68) (M:List Int) (s:Int),v16=.int .i64 i∧Aside0 (0≤i∧n=(m - i).toNat∧kq=n)∧Aside0 (w11_TownYears.loop k l0 a1_0 a1_1 l1_2 l1_7 a3 l2_1.length n SW SH A Y tt HH M mv du s=some r)∧Aside0 (ty_Lw w wc g7 g8 g10 g14 g15 a1_0 a1_1 (.slice A1_2 l1_2.length c1_2) (.slice A1_7 l1_7.length c1_7) SW SH vA vY A Y SW SH uA uY A Y tt vH vM mv du HH M s s))
 case atStart=>exact ⟨0,m.toNat,_,_,_,_,_,_,_,_,_,_,_,_,_,_,_,_,rfl,⟨Int.le_refl _,by rw [Int.sub_zero],rfl⟩,H,HI⟩
 case round =>
  clear HI H
  obtain ⟨i,n,SW,SH,vA,vY,A,Y,uA,uY,tt,vH,vM,mv,du,HH,M,s,rfl,HK,H,HI⟩:=hrel
  obtain ⟨AA,cA,eA,-⟩:=HI.out.rA
  obtain ⟨AY,cY,eY,-⟩:=HI.out.rY
  obtain ⟨UA,dA,fA,-⟩:=HI.out.sA
  obtain ⟨UY,dY,fY,-⟩:=HI.out.sY
  obtain ⟨AH,cH,eH,-⟩:=HI.out.rH
  obtain ⟨AM,cM,eM,-⟩:=HI.out.rM
  subst eA eY fA fY eH eM
  cases n with
  | zero =>
   have h:=H.out
   simp only [w11_TownYears.loop] at h
   have AK:=am_ h
   have d0:decide (i<m)=false:=df_ (by have:=HK.out;omega)
   clear H h
   go_wp2_with (first|(go_at_call 14;refine (w11_known.calls _ _ _ AK.out).mono ?_;rintro e w4 ⟨rfl,hb⟩;replace HI:=am_ (HI.out.step hb);clear hb))
   (try rw [Exit.noGoto_ret]);go_ret
   exact ⟨rfl,HI.out.hB⟩
  | succ n =>
   have h0:=H.out
   clear H
   simp only [w11_TownYears.loop] at h0
   obtain ⟨⟨q1,q2,q3,q4,q5,q6,q7,q8,q9,q10,q11,q12⟩,ha,h1⟩:=Option.bind_eq_some_iff.1 h0
   clear h0
   obtain ⟨c,hc,h2⟩:=Option.bind_eq_some_iff.1 h1
   clear h1
   by_cases ec:(q1,q2,q3,q4,q5,q6,q7,q8,q9,q10,q11,q12)=c
   rotate_left
   ·rw [if_neg ec] at h2;exact absurd h2 (by simp)
   rw [if_pos ec] at h2
   subst ec
   dsimp only at h2
   obtain ⟨t1,ht1,h3⟩:=Option.bind_eq_some_iff.1 h2
   clear h2
   obtain ⟨t2,ht2,h4⟩:=Option.bind_eq_some_iff.1 h3
   clear h3
   by_cases et:t1=true∧t2=true
   rotate_left
   ·rw [if_neg et] at h4;exact absurd h4 (by simp)
   rw [if_pos et] at h4
   obtain ⟨rfl,rfl⟩:=et
   have A1:=am_ ha
   have A2:=am_ hc
   have A3:=am_ ht1
   have A4:=am_ ht2
   have H:=am_ h4
   have d0:decide (i<m)=true:=dt_ (by have:=HK.out;omega)
   clear ha hc ht1 ht2 h4
   obtain ⟨hx0,hx1,hx2,hx3,hx4,_,_,_,_,_⟩:=cells5 HI.out.h8
   obtain ⟨hy0,hy1,hy2,hy3,hy4,hy5,hy6,hy7,_⟩:=cells8 HI.out.h14
   have hz0:=blk_cell HI.out.h15 0
   go_upto_region 9 with (first|(go_at_call 36;refine (h11_Grow.calls k _ _ _ _ _ _ _ _ _ _ _ _ _ _ _ _ _ _ _ _ _ _ _ _ _ _ _ _ _ _ _ _ _ _ _ _ _ _ _ _ _ _ _ (Kd.C_below R0.out HI.out.hB) hc0 (Kd.C_below R12.out HI.out.hB) hc1_2 (HI.out.sA.C HI.out.hB) HI.out.sA.cap (HI.out.sY.C HI.out.hB) HI.out.sY.cap (Kd.C_below R17.out HI.out.hB) hc1_7 (HI.out.rH.C HI.out.hB) HI.out.rH.cap (HI.out.rM.C HI.out.hB) HI.out.rM.cap A2.out).mono ?_;rintro e wxa ⟨v1,v2,v7,v8,rfl,⟨_,_,o1⟩,⟨_,_,o2⟩,⟨_,_,o7⟩,⟨_,_,o8⟩,hb⟩;obtain ⟨c1,cc1,e1⟩:=Kd.R_slice o1;obtain ⟨c2,cc2,e2⟩:=Kd.R_slice o2;obtain ⟨c7,cc7,e7⟩:=Kd.R_slice o7;obtain ⟨c8,cc8,e8⟩:=Kd.R_slice o8;subst e1 e2 e7 e8;have cP1:=am_ (ty_Rd.own (w0:=w) o1);have cP2:=am_ (ty_Rd.own (w0:=w) o2);have cP7:=am_ (ty_Rd.own (w0:=w) o7);have cP8:=am_ (ty_Rd.own (w0:=w) o8);have BR:=am_ hb;have BQ:=am_ (Below.refl wxa.heap.size wxa);clear o1 o2 o7 o8 hb)|((with_reducible refine gate_dst (N:=17) rfl ?_);refine box_ev (N:=17) (cs:=#[.int .i64 0,.slice none 0 0,.slice none 0 0,.int .i64 0,.int .i64 0]) (t:=25) ?_;intro g17 hg wxb hbox hb;have B17:=am_ hbox;have G17:Aside0 (wxa.heap.size≤g17):=⟨by rw [hg];exact BQ.out.size⟩;replace BQ:=am_ (below_then BQ.out BQ.out.size hb);clear hb hbox hg)|((with_reducible refine gate_dst (N:=18) rfl ?_);refine box_ev (N:=18) (cs:=#[.int .i64 0,.int .i64 0,.slice none 0 0,.slice none 0 0]) (t:=60) ?_;intro g18 hg wxc hbox hb;have B18:=am_ hbox;have G18:Aside0 (wxa.heap.size≤g18):=⟨by rw [hg];exact BQ.out.size⟩;replace B17:=bkb B17 hb;replace BQ:=am_ (below_then BQ.out BQ.out.size hb);clear hb hbox hg)|((with_reducible refine gate_dst (N:=20) rfl ?_);refine box_ev (N:=20) (cs:=#[.int .u64 0]) (t:=45) ?_;intro g20 hg wxd hbox hb;have B20:=am_ hbox;have G20:Aside0 (wxa.heap.size≤g20):=⟨by rw [hg];exact BQ.out.size⟩;replace B17:=bkb B17 hb;replace B18:=bkb B18 hb;replace BQ:=am_ (below_then BQ.out BQ.out.size hb);clear hb hbox hg)|((with_reducible refine gate_store (t:=25) (p:=17) rfl ?_);obtain ⟨hd0,hd1,hd2,hd3,hd4,he0,he1,he2,he3,he4⟩:=cells5 B17.out;refine store_event rfl rfl rfl (by first|(go_simp;done)|(go_simp;rfl)) ?_;intro wxe hw;have o_:ty_Off wxd wxe g17:=(by subst hw;exact (ty_Off.refl _ _).set.set.set.set.set);have m0_:Aside0 (wxe.heap[g17]?=some (.cells #[.int .i64 q1,.slice c1 q2.length cc1,.slice c2 q3.length cc2,.int .i64 q4,.int .i64 q5] 25 (0,0))):=⟨by subst hw;exact blk_puts5 B17.out⟩;replace B18:=am_ ((o_.1 _ (blk_ne B18.out B17.out (by decide))).trans B18.out);replace B20:=am_ ((o_.1 _ (blk_ne B20.out B17.out (by decide))).trans B20.out);replace B17:=m0_;replace BQ:=am_ (o_.2 _ _ G17.out BQ.out);clear o_ m0_ hw hd0 hd1 hd2 hd3 hd4 he0 he1 he2 he3 he4)|((with_reducible refine gate_store (t:=60) (p:=18) rfl ?_);obtain ⟨hd0,hd1,hd2,hd3,he0,he1,he2,he3⟩:=cells4 B18.out;refine store_event rfl rfl rfl (by first|(go_simp;done)|(go_simp;rfl)) ?_;intro wxf hw;have o_:ty_Off wxe wxf g18:=(by subst hw;exact (ty_Off.refl _ _).set.set.set.set);have m0_:Aside0 (wxf.heap[g18]?=some (.cells #[.int .i64 q6,.int .i64 q7,.slice c7 q8.length cc7,.slice c8 q9.length cc8] 60 (0,0))):=⟨by subst hw;exact blk_puts4 B18.out⟩;replace B17:=am_ ((o_.1 _ (blk_ne B17.out B18.out (by decide))).trans B17.out);replace B20:=am_ ((o_.1 _ (blk_ne B20.out B18.out (by decide))).trans B20.out);replace B18:=m0_;replace BQ:=am_ (o_.2 _ _ G18.out BQ.out);clear o_ m0_ hw hd0 hd1 hd2 hd3 he0 he1 he2 he3)|((with_reducible refine gate_store (t:=45) (p:=20) rfl ?_);obtain ⟨hd0,he0⟩:=cells1 B20.out;refine store_event rfl rfl rfl (by first|(go_simp;done)|(go_simp;rfl)) ?_;intro wxg hw;have o_:ty_Off wxf wxg g20:=(by subst hw;exact (ty_Off.refl _ _).set);have m0_:Aside0 (wxg.heap[g20]?=some (.cells #[.int .u64 q11] 45 (0,0))):=⟨by subst hw;exact blk_set B20.out 0 _⟩;replace B17:=am_ ((o_.1 _ (blk_ne B17.out B20.out (by decide))).trans B17.out);replace B18:=am_ ((o_.1 _ (blk_ne B18.out B20.out (by decide))).trans B18.out);replace B20:=m0_;replace BQ:=am_ (o_.2 _ _ G20.out BQ.out);clear o_ m0_ hw hd0 he0))
   clear hx0 hx1 hx2 hx3 hx4 hy0 hy1 hy2 hy3 hy4 hy5 hy6 hy7 hz0
   have N20:Aside0 (g10≠g20):=⟨Nat.ne_of_lt (Nat.lt_of_lt_of_le (blk_lt HI.out.h10) (Nat.le_trans BR.out.size G20.out))⟩
   replace HI:=am_ ((HI.out.step BR.out).step BQ.out)
   replace cP1:=am_ (cP1.out.step BQ.out)
   replace cP2:=am_ (cP2.out.step BQ.out)
   replace cP7:=am_ (cP7.out.step BQ.out)
   replace cP8:=am_ (cP8.out.step BQ.out)
   clear BR BQ
   obtain ⟨hx0,hx1,hx2,hx3,hx4,_,_,_,_,_⟩:=cells5 HI.out.h8
   obtain ⟨hy0,hy1,hy2,hy3,hy4,hy5,hy6,hy7,_⟩:=cells8 HI.out.h7
   have hz0:=blk_cell HI.out.h10 0
   go_upto_region 10 with (first|(go_at_call 37;refine (tG.calls k _ _ _ _ _ _ _ _ _ _ _ _ _ _ _ _ _ _ _ _ _ _ _ _ _ _ _ _ _ _ _ _ _ _ _ _ _ _ _ _ _ _ _ (Kd.C_below R0.out HI.out.hB) hc0 (Kd.C_below R12.out HI.out.hB) hc1_2 (HI.out.rA.C HI.out.hB) HI.out.rA.cap (HI.out.rY.C HI.out.hB) HI.out.rY.cap (Kd.C_below R17.out HI.out.hB) hc1_7 (HI.out.rH.C HI.out.hB) HI.out.rH.cap (HI.out.rM.C HI.out.hB) HI.out.rM.cap A1.out).mono ?_;rintro e wya ⟨v1,v2,v7,v8,rfl,⟨_,_,o1⟩,⟨_,_,o2⟩,⟨_,_,o7⟩,⟨_,_,o8⟩,hb⟩;obtain ⟨a1,ac1,e1⟩:=Kd.R_slice o1;obtain ⟨a2,ac2,e2⟩:=Kd.R_slice o2;obtain ⟨a7,ac7,e7⟩:=Kd.R_slice o7;obtain ⟨a8,ac8,e8⟩:=Kd.R_slice o8;subst e1 e2 e7 e8;have aP1:=am_ (ty_Rd.own (w0:=w) o1);have aP2:=am_ (ty_Rd.own (w0:=w) o2);have aP7:=am_ (ty_Rd.own (w0:=w) o7);have aP8:=am_ (ty_Rd.own (w0:=w) o8);have BR:=am_ hb;have BQ:=am_ (Below.refl wya.heap.size wya);clear o1 o2 o7 o8 hb)|((with_reducible refine gate_dst (N:=22) rfl ?_);refine box_ev (N:=22) (cs:=#[.int .i64 0,.slice none 0 0,.slice none 0 0,.int .i64 0,.int .i64 0]) (t:=25) ?_;intro g22 hg wyb hbox hb;have B22:=am_ hbox;have G22:Aside0 (wya.heap.size≤g22):=⟨by rw [hg];exact BQ.out.size⟩;replace BQ:=am_ (below_then BQ.out BQ.out.size hb);clear hb hbox hg)|((with_reducible refine gate_dst (N:=23) rfl ?_);refine box_ev (N:=23) (cs:=#[.int .i64 0,.int .i64 0,.slice none 0 0,.slice none 0 0]) (t:=60) ?_;intro g23 hg wyc hbox hb;have B23:=am_ hbox;have G23:Aside0 (wya.heap.size≤g23):=⟨by rw [hg];exact BQ.out.size⟩;replace B22:=bkb B22 hb;replace BQ:=am_ (below_then BQ.out BQ.out.size hb);clear hb hbox hg)|((with_reducible refine gate_dst (N:=25) rfl ?_);refine box_ev (N:=25) (cs:=#[.int .u64 0]) (t:=45) ?_;intro g25 hg wyd hbox hb;have B25:=am_ hbox;have G25:Aside0 (wya.heap.size≤g25):=⟨by rw [hg];exact BQ.out.size⟩;replace B22:=bkb B22 hb;replace B23:=bkb B23 hb;replace BQ:=am_ (below_then BQ.out BQ.out.size hb);clear hb hbox hg)|((with_reducible refine gate_store (t:=25) (p:=22) rfl ?_);obtain ⟨hd0,hd1,hd2,hd3,hd4,he0,he1,he2,he3,he4⟩:=cells5 B22.out;refine store_event rfl rfl rfl (by first|(go_simp;done)|(go_simp;rfl)) ?_;intro wye hw;have o_:ty_Off wyd wye g22:=(by subst hw;exact (ty_Off.refl _ _).set.set.set.set.set);have m0_:Aside0 (wye.heap[g22]?=some (.cells #[.int .i64 q1,.slice a1 q2.length ac1,.slice a2 q3.length ac2,.int .i64 q4,.int .i64 q5] 25 (0,0))):=⟨by subst hw;exact blk_puts5 B22.out⟩;replace B23:=am_ ((o_.1 _ (blk_ne B23.out B22.out (by decide))).trans B23.out);replace B25:=am_ ((o_.1 _ (blk_ne B25.out B22.out (by decide))).trans B25.out);replace B22:=m0_;replace BQ:=am_ (o_.2 _ _ G22.out BQ.out);clear o_ m0_ hw hd0 hd1 hd2 hd3 hd4 he0 he1 he2 he3 he4)|((with_reducible refine gate_store (t:=60) (p:=23) rfl ?_);obtain ⟨hd0,hd1,hd2,hd3,he0,he1,he2,he3⟩:=cells4 B23.out;refine store_event rfl rfl rfl (by first|(go_simp;done)|(go_simp;rfl)) ?_;intro wyf hw;have o_:ty_Off wye wyf g23:=(by subst hw;exact (ty_Off.refl _ _).set.set.set.set);have m0_:Aside0 (wyf.heap[g23]?=some (.cells #[.int .i64 q6,.int .i64 q7,.slice a7 q8.length ac7,.slice a8 q9.length ac8] 60 (0,0))):=⟨by subst hw;exact blk_puts4 B23.out⟩;replace B22:=am_ ((o_.1 _ (blk_ne B22.out B23.out (by decide))).trans B22.out);replace B25:=am_ ((o_.1 _ (blk_ne B25.out B23.out (by decide))).trans B25.out);replace B23:=m0_;replace BQ:=am_ (o_.2 _ _ G23.out BQ.out);clear o_ m0_ hw hd0 hd1 hd2 hd3 he0 he1 he2 he3)|((with_reducible refine gate_store (t:=45) (p:=25) rfl ?_);obtain ⟨hd0,he0⟩:=cells1 B25.out;refine store_event rfl rfl rfl (by first|(go_simp;done)|(go_simp;rfl)) ?_;intro wyg hw;have o_:ty_Off wyf wyg g25:=(by subst hw;exact (ty_Off.refl _ _).set);have m0_:Aside0 (wyg.heap[g25]?=some (.cells #[.int .u64 q11] 45 (0,0))):=⟨by subst hw;exact blk_set B25.out 0 _⟩;replace B22:=am_ ((o_.1 _ (blk_ne B22.out B25.out (by decide))).trans B22.out);replace B23:=am_ ((o_.1 _ (blk_ne B23.out B25.out (by decide))).trans B23.out);replace B25:=m0_;replace BQ:=am_ (o_.2 _ _ G25.out BQ.out);clear o_ m0_ hw hd0 he0))
   clear hx0 hx1 hx2 hx3 hx4 hy0 hy1 hy2 hy3 hy4 hy5 hy6 hy7 hz0
   replace B17:=am_ (blk_below (blk_below B17.out BR.out) BQ.out)
   replace B18:=am_ (blk_below (blk_below B18.out BR.out) BQ.out)
   replace B20:=am_ (blk_below (blk_below B20.out BR.out) BQ.out)
   replace HI:=am_ ((HI.out.step BR.out).step BQ.out)
   replace cP1:=am_ ((cP1.out.step BR.out).step BQ.out)
   replace cP2:=am_ ((cP2.out.step BR.out).step BQ.out)
   replace cP7:=am_ ((cP7.out.step BR.out).step BQ.out)
   replace cP8:=am_ ((cP8.out.step BR.out).step BQ.out)
   replace aP1:=am_ (aP1.out.step BQ.out)
   replace aP2:=am_ (aP2.out.step BQ.out)
   replace aP7:=am_ (aP7.out.step BQ.out)
   replace aP8:=am_ (aP8.out.step BQ.out)
   clear BR BQ
   have BZ:=am_ (Below.refl wyg.heap.size wyg)
   obtain ⟨av0,av1,av2,av3,av4,_,_,_,_,_⟩:=cells5 (blk_below B22.out BZ.out);obtain ⟨cv0,cv1,cv2,cv3,cv4,_,_,_,_,_⟩:=cells5 (blk_below B17.out BZ.out);obtain ⟨bv0,bv1,bv2,bv3,_,_,_,_⟩:=cells4 (blk_below B23.out BZ.out);obtain ⟨dv0,dv1,dv2,dv3,_,_,_,_⟩:=cells4 (blk_below B18.out BZ.out);have ev0:=blk_cell (blk_below B25.out BZ.out) 0;have fv0:=blk_cell (blk_below B20.out BZ.out) 0;obtain ⟨hx0,hx1,hx2,hx3,hx4,_,_,_,_,_⟩:=cells5 (blk_below HI.out.h8 BZ.out);obtain ⟨hy0,hy1,hy2,hy3,hy4,hy5,hy6,hy7,_⟩:=cells8 (blk_below HI.out.h7 BZ.out)
   go_upto_region 12 with (first|(go_at_call 17;refine (hs_Town.calls _ _ _ _ _ _ _ _ _ _ _ _ _ _ _ _ _ _ _ _ _ (Kd.C_below (aP1.out.C HI.out.hB) BZ.out) aP1.out.cap (Kd.C_below (aP2.out.C HI.out.hB) BZ.out) aP2.out.cap (Kd.C_below (cP1.out.C HI.out.hB) BZ.out) cP1.out.cap (Kd.C_below (cP2.out.C HI.out.hB) BZ.out) cP2.out.cap A3.out).mono ?_;rintro e w5 ⟨rfl,hb⟩;replace BZ:=am_ (below_then BZ.out BZ.out.size hb);clear hb;obtain ⟨av0,av1,av2,av3,av4,_,_,_,_,_⟩:=cells5 (blk_below B22.out BZ.out);obtain ⟨cv0,cv1,cv2,cv3,cv4,_,_,_,_,_⟩:=cells5 (blk_below B17.out BZ.out);obtain ⟨bv0,bv1,bv2,bv3,_,_,_,_⟩:=cells4 (blk_below B23.out BZ.out);obtain ⟨dv0,dv1,dv2,dv3,_,_,_,_⟩:=cells4 (blk_below B18.out BZ.out);have ev0:=blk_cell (blk_below B25.out BZ.out) 0;have fv0:=blk_cell (blk_below B20.out BZ.out) 0;obtain ⟨hx0,hx1,hx2,hx3,hx4,_,_,_,_,_⟩:=cells5 (blk_below HI.out.h8 BZ.out);obtain ⟨hy0,hy1,hy2,hy3,hy4,hy5,hy6,hy7,_⟩:=cells8 (blk_below HI.out.h7 BZ.out))|(go_at_call 38;refine (hs_Streets.calls _ _ _ _ _ _ _ _ _ _ _ _ _ _ _ _ _ _ _ (Kd.C_below (aP7.out.C HI.out.hB) BZ.out) aP7.out.cap (Kd.C_below (aP8.out.C HI.out.hB) BZ.out) aP8.out.cap (Kd.C_below (cP7.out.C HI.out.hB) BZ.out) cP7.out.cap (Kd.C_below (cP8.out.C HI.out.hB) BZ.out) cP8.out.cap A4.out).mono ?_;rintro e w5 ⟨rfl,hb⟩;replace BZ:=am_ (below_then BZ.out BZ.out.size hb);clear hb;obtain ⟨av0,av1,av2,av3,av4,_,_,_,_,_⟩:=cells5 (blk_below B22.out BZ.out);obtain ⟨cv0,cv1,cv2,cv3,cv4,_,_,_,_,_⟩:=cells5 (blk_below B17.out BZ.out);obtain ⟨bv0,bv1,bv2,bv3,_,_,_,_⟩:=cells4 (blk_below B23.out BZ.out);obtain ⟨dv0,dv1,dv2,dv3,_,_,_,_⟩:=cells4 (blk_below B18.out BZ.out);have ev0:=blk_cell (blk_below B25.out BZ.out) 0;have fv0:=blk_cell (blk_below B20.out BZ.out) 0;obtain ⟨hx0,hx1,hx2,hx3,hx4,_,_,_,_,_⟩:=cells5 (blk_below HI.out.h8 BZ.out);obtain ⟨hy0,hy1,hy2,hy3,hy4,hy5,hy6,hy7,_⟩:=cells8 (blk_below HI.out.h7 BZ.out)))
   have h:=H.out
   clear H
   by_cases ce:q12≠0
   ·rw [if_pos ce] at h
    have AK:=am_ h
    have f0:(q12 != 0)=true:=bne_iff_ne.2 ce
    clear h ce
    go_wp2_with (first|(go_at_call 14;refine (w11_known.calls _ _ _ AK.out).mono ?_;rintro e w5 ⟨rfl,hb⟩;replace BZ:=am_ (below_then BZ.out BZ.out.size hb);clear hb))
    (try rw [Exit.noGoto_ret]);go_ret
    exact ⟨rfl,below_then HI.out.hB HI.out.hB.size BZ.out⟩
   rw [if_neg ce] at h
   obtain rfl:q12=0:=by simpa using ce
   by_cases cl:(q2.length:Int)=wrap64 ((HH.length:Int)+wrap64 (Int.tdiv q10 2))∧l2_1.length≤q2.length∧HH.length≤q2.length∧q2.length<4611686018427387904
   rotate_left
   ·rw [if_neg cl] at h;exact absurd h (by simp)
   rw [if_pos cl] at h
   obtain ⟨_,hck,h1⟩:=Option.bind_eq_some_iff.1 h
   clear h ce
   have CK:=am_ hck
   have H:=am_ h1
   have CL:=am_ cl.2
   have f1:=bqt cl.1
   have f2:=bnf cl.1
   have f3:decide ((q2.length:Int)<(l2_1.length:Int))=false:=df_ (by have:=cl.2.1;omega)
   have f4:decide (q2.length<l2_1.length)=false:=df_ (by have:=cl.2.1;omega)
   clear hck h1 cl
   go_upto_region 16 with (fail)
   clear av0 av1 av2 av3 av4 cv0 cv1 cv2 cv3 cv4 bv0 bv1 bv2 bv3 dv0 dv1 dv2 dv3 ev0 fv0 hx0 hx1 hx2 hx3 hx4 hy0 hy1 hy2 hy3 hy4 hy5 hy6 hy7
   obtain ⟨av0,av1,av2,av3,av4,_,_,_,_,_⟩:=cells5 (blk_below B22.out BZ.out);obtain ⟨cv0,cv1,cv2,cv3,cv4,_,_,_,_,_⟩:=cells5 (blk_below B17.out BZ.out);obtain ⟨bv0,bv1,bv2,bv3,_,_,_,_⟩:=cells4 (blk_below B23.out BZ.out);obtain ⟨dv0,dv1,dv2,dv3,_,_,_,_⟩:=cells4 (blk_below B18.out BZ.out);have ev0:=blk_cell (blk_below B25.out BZ.out) 0;have fv0:=blk_cell (blk_below B20.out BZ.out) 0;obtain ⟨hx0,hx1,hx2,hx3,hx4,_,_,_,_,_⟩:=cells5 (blk_below HI.out.h8 BZ.out);obtain ⟨hy0,hy1,hy2,hy3,hy4,hy5,hy6,hy7,_⟩:=cells8 (blk_below HI.out.h7 BZ.out)
   go_wp2_with (fail)
   go_loopg [27] (q2.length - HH.length) (fun kq v27 wc=>∃ (j:Int),v27=.int .i64 j∧Aside0 (w11_TownYears.chk k A tt HH M mv du q2 (q2.length - j.toNat) j.toNat=some ())∧Aside0 (0≤j∧j≤(q2.length:Int)∧kq=q2.length - j.toNat)∧Aside0 (Below wyg.heap.size wyg wc))
   case atStart=>exact ⟨(HH.length:Int),rfl,CK,⟨by omega,by have:=CL.out.2.1;omega,rfl⟩,BZ⟩
   case round =>
    clear BZ CK av0 av1 av2 av3 av4 cv0 cv1 cv2 cv3 cv4 bv0 bv1 bv2 bv3 dv0 dv1 dv2 dv3 ev0 fv0 hx0 hx1 hx2 hx3 hx4 hy0 hy1 hy2 hy3 hy4 hy5 hy6 hy7
    obtain ⟨j,rfl,CK,HJ,BZ⟩:=hrel
    obtain ⟨av0,av1,av2,av3,av4,_,_,_,_,_⟩:=cells5 (blk_below B22.out BZ.out);obtain ⟨cv0,cv1,cv2,cv3,cv4,_,_,_,_,_⟩:=cells5 (blk_below B17.out BZ.out);obtain ⟨bv0,bv1,bv2,bv3,_,_,_,_⟩:=cells4 (blk_below B23.out BZ.out);obtain ⟨dv0,dv1,dv2,dv3,_,_,_,_⟩:=cells4 (blk_below B18.out BZ.out);have ev0:=blk_cell (blk_below B25.out BZ.out) 0;have fv0:=blk_cell (blk_below B20.out BZ.out) 0;obtain ⟨hx0,hx1,hx2,hx3,hx4,_,_,_,_,_⟩:=cells5 (blk_below HI.out.h8 BZ.out);obtain ⟨hy0,hy1,hy2,hy3,hy4,hy5,hy6,hy7,_⟩:=cells8 (blk_below HI.out.h7 BZ.out)
    by_cases cj:j<(q2.length:Int)
    ·have c0_:decide (j<(q2.length:Int))=true:=dt_ cj
     have CJ:=am_ cj
     have hj:=HJ.out
     have h:=CK.out
     rw [show q2.length - j.toNat=(q2.length - (j.toNat+1))+1 by omega] at h
     simp only [w11_TownYears.chk] at h
     rw [show ((j.toNat:Nat):Int)=j by omega] at h
     obtain ⟨ad3,e3,hr0_,hr1_,hr2_⟩:=at_T68 (Kd.C_below (aP1.out.C HI.out.hB) BZ.out) j hj.1 cj
     cases e3
     obtain ⟨hh,ehh⟩:∃ y_,(rd_T68 q2 j).f0=y_:=⟨_,rfl⟩
     rw [ehh] at h hr0_
     have p1:=eq_true hj.1
     have p2:=eq_true cj
     clear CK hj cj
     by_cases k1:0≤hh
     rotate_left
     rw [if_neg k1] at h
     have f5:decide (hh≥0)=false:=df_ k1
     have f6:decide (0≤hh)=false:=df_ k1
     rotate_left
     rw [if_pos k1] at h
     have f5:decide (hh≥0)=true:=dt_ k1
     have f6:decide (0≤hh)=true:=dt_ k1
     by_cases k2:hh<(A.length:Int)
     rotate_left
     rw [if_neg k2] at h
     have f7:decide (hh<(A.length:Int))=false:=df_ k2
     rotate_left
     rotate_left
     rw [if_pos k2] at h
     have f7:decide (hh<(A.length:Int))=true:=dt_ k2
     obtain ⟨_,e4,hxa⟩:=Kd.at_int (Kd.C_below (HI.out.rA.C HI.out.hB) BZ.out) hh k1 k2
     cases e4
     have p3:=eq_true k1
     have p4:=eq_true k2
     by_cases k3:rd A hh=0
     rotate_left
     rw [if_neg k3] at h
     obtain ⟨b5,hb5,h0⟩:=Option.bind_eq_some_iff.1 h
     clear h
     have A5:=am_ hb5
     clear hb5
     by_cases k4:b5=true
     rotate_left
     ·rw [if_neg k4] at h0;exact absurd h0 (by simp)
     rotate_left
     rotate_left
     rotate_left
     rw [if_pos k4] at h0
     subst k4
     have h:=h0
     clear h0
     have f8:=bqf k3
     have f9:=bnt k3
     rotate_left
     rotate_left
     rotate_left
     rw [if_pos k3] at h
     have f8:=bqt k3
     have f9:=bnf k3
     all_goals (have H0:=am_ h;clear h;go_wp2_with (first|(go_at_call 39;refine (w11_built.calls _ _ _ _ _ _ _ _ _ _ _ _ _ (Kd.C_below (HI.out.rH.C HI.out.hB) BZ.out) HI.out.rH.cap (Kd.C_below (HI.out.rM.C HI.out.hB) BZ.out) HI.out.rM.cap A5.out).mono ?_;rintro e w5 ⟨rfl,hb⟩;replace BZ:=am_ (below_then BZ.out BZ.out.size hb);clear hb));go_roundg (q2.length - (j.toNat+1)))
     all_goals first
      | (have:=HJ.out;have:=CJ.out;omega)
      | exact ⟨j+1,by congr 1;have:=HJ.out;have:=CJ.out;have:=CL.out.2.2;unfold wrap64;omega,⟨by rw [show (j+1).toNat=j.toNat+1 by have:=HJ.out;omega];exact H0.out⟩,⟨by have:=HJ.out;omega,by have:=CJ.out;omega,by rw [show (j+1).toNat=j.toNat+1 by have:=HJ.out;omega]⟩,BZ⟩
    have c0_:decide (j<(q2.length:Int))=false:=df_ cj
    go_upto_region 22 with (fail)
    replace HI:=am_ (HI.out.step BZ.out)
    replace aP1:=am_ (aP1.out.step BZ.out)
    replace aP2:=am_ (aP2.out.step BZ.out)
    replace aP7:=am_ (aP7.out.step BZ.out)
    replace aP8:=am_ (aP8.out.step BZ.out)
    replace cP7:=am_ (cP7.out.step BZ.out)
    replace cP8:=am_ (cP8.out.step BZ.out)
    replace B18:=bkb B18 BZ.out
    replace B20:=bkb B20 BZ.out
    replace B22:=bkb B22 BZ.out
    replace B23:=bkb B23 BZ.out
    replace B25:=bkb B25 BZ.out
    clear BZ av0 av1 av2 av3 av4 cv0 cv1 cv2 cv3 cv4 bv0 bv1 bv2 bv3 dv0 dv1 dv2 dv3 ev0 fv0 hx0 hx1 hx2 hx3 hx4 hy0 hy1 hy2 hy3 hy4 hy5 hy6 hy7
    obtain ⟨av0,av1,av2,av3,av4,_,_,_,_,_⟩:=cells5 B22.out
    obtain ⟨hx0,hx1,hx2,hx3,hx4,he0,he1,he2,he3,he4⟩:=cells5 HI.out.h8
    go_upto_region 23 with (fail)
    clear av0 av1 av2 av3 av4 hx0 hx1 hx2 hx3 hx4 he0 he1 he2 he3 he4
    have o_:ty_Off wr (((((wr.setCell ⟨g8,0,none⟩ (.int .i64 q1)).setCell ⟨g8,1,none⟩ (.slice a1 q2.length ac1)).setCell ⟨g8,2,none⟩ (.slice a2 q3.length ac2)).setCell ⟨g8,3,none⟩ (.int .i64 q4)).setCell ⟨g8,4,none⟩ (.int .i64 q5)) g8:=(ty_Off.refl _ _).set.set.set.set.set
    have m0_:Aside0 (ty_Lw w (((((wr.setCell ⟨g8,0,none⟩ (.int .i64 q1)).setCell ⟨g8,1,none⟩ (.slice a1 q2.length ac1)).setCell ⟨g8,2,none⟩ (.slice a2 q3.length ac2)).setCell ⟨g8,3,none⟩ (.int .i64 q4)).setCell ⟨g8,4,none⟩ (.int .i64 q5)) g7 g8 g10 g14 g15 a1_0 a1_1 (.slice A1_2 l1_2.length c1_2) (.slice A1_7 l1_7.length c1_7) SW SH (.slice AA A.length cA) (.slice AY Y.length cY) A Y SW SH (.slice UA A.length dA) (.slice UY Y.length dY) A Y q1 (.slice a1 q2.length ac1) (.slice a2 q3.length ac2) q4 q5 q2 q3 s s):=⟨HI.out.set8 aP1.out aP2.out⟩
    have n18_:=am_ ((o_.1 _ (blk_ne B18.out HI.out.h8 (by decide))).trans B18.out)
    have n20_:=am_ ((o_.1 _ (blk_ne B20.out HI.out.h8 (by decide))).trans B20.out)
    have n23_:=am_ ((o_.1 _ (blk_ne B23.out HI.out.h8 (by decide))).trans B23.out)
    have n25_:=am_ ((o_.1 _ (blk_ne B25.out HI.out.h8 (by decide))).trans B25.out)
    have naP7_:=am_ (aP7.out.off HI.out.h8 o_ (by decide))
    have naP8_:=am_ (aP8.out.off HI.out.h8 o_ (by decide))
    have ncP7_:=am_ (cP7.out.off HI.out.h8 o_ (by decide))
    have ncP8_:=am_ (cP8.out.off HI.out.h8 o_ (by decide))
    clear o_ HI B18 B20 B23 B25 aP7 aP8 cP7 cP8
    generalize (((((wr.setCell ⟨g8,0,none⟩ (.int .i64 q1)).setCell ⟨g8,1,none⟩ (.slice a1 q2.length ac1)).setCell ⟨g8,2,none⟩ (.slice a2 q3.length ac2)).setCell ⟨g8,3,none⟩ (.int .i64 q4)).setCell ⟨g8,4,none⟩ (.int .i64 q5))=wz1 at m0_ n18_ n20_ n23_ n25_ naP7_ naP8_ ncP7_ ncP8_ ⊢
    have HI:=m0_
    have B18:=n18_
    have B20:=n20_
    have B23:=n23_
    have B25:=n25_
    have aP7:=naP7_
    have aP8:=naP8_
    have cP7:=ncP7_
    have cP8:=ncP8_
    clear m0_ n18_ n20_ n23_ n25_ naP7_ naP8_ ncP7_ ncP8_
    obtain ⟨av0,av1,av2,av3,_,_,_,_⟩:=cells4 B23.out
    obtain ⟨hy0,hy1,hy2,hy3,hy4,hy5,hy6,hy7,he0,he1,he2,he3,he4,he5,he6,he7⟩:=cells8 HI.out.h7
    go_upto_region 24 with (fail)
    clear av0 av1 av2 av3 hy0 hy1 hy2 hy3 hy4 hy5 hy6 hy7 he0 he1 he2 he3 he4 he5 he6 he7
    have o_:ty_Off wz1 ((((wz1.setCell ⟨g7,3,none⟩ (.int .i64 q6)).setCell ⟨g7,4,none⟩ (.int .i64 q7)).setCell ⟨g7,5,none⟩ (.slice a7 q8.length ac7)).setCell ⟨g7,6,none⟩ (.slice a8 q9.length ac8)) g7:=(ty_Off.refl _ _).set.set.set.set
    have m0_:Aside0 (ty_Lw w ((((wz1.setCell ⟨g7,3,none⟩ (.int .i64 q6)).setCell ⟨g7,4,none⟩ (.int .i64 q7)).setCell ⟨g7,5,none⟩ (.slice a7 q8.length ac7)).setCell ⟨g7,6,none⟩ (.slice a8 q9.length ac8)) g7 g8 g10 g14 g15 a1_0 a1_1 (.slice A1_2 l1_2.length c1_2) (.slice A1_7 l1_7.length c1_7) q6 q7 (.slice a7 q8.length ac7) (.slice a8 q9.length ac8) q8 q9 SW SH (.slice UA A.length dA) (.slice UY Y.length dY) A Y q1 (.slice a1 q2.length ac1) (.slice a2 q3.length ac2) q4 q5 q2 q3 s s):=⟨HI.out.set7 aP7.out aP8.out⟩
    have n18_:=am_ ((o_.1 _ (blk_ne B18.out HI.out.h7 (by decide))).trans B18.out)
    have n20_:=am_ ((o_.1 _ (blk_ne B20.out HI.out.h7 (by decide))).trans B20.out)
    have n25_:=am_ ((o_.1 _ (blk_ne B25.out HI.out.h7 (by decide))).trans B25.out)
    have naP7_:=am_ (aP7.out.off HI.out.h7 o_ (by decide))
    have naP8_:=am_ (aP8.out.off HI.out.h7 o_ (by decide))
    have ncP7_:=am_ (cP7.out.off HI.out.h7 o_ (by decide))
    have ncP8_:=am_ (cP8.out.off HI.out.h7 o_ (by decide))
    clear o_ HI B18 B20 B25 aP7 aP8 cP7 cP8
    generalize ((((wz1.setCell ⟨g7,3,none⟩ (.int .i64 q6)).setCell ⟨g7,4,none⟩ (.int .i64 q7)).setCell ⟨g7,5,none⟩ (.slice a7 q8.length ac7)).setCell ⟨g7,6,none⟩ (.slice a8 q9.length ac8))=wz2 at m0_ n18_ n20_ n25_ naP7_ naP8_ ncP7_ ncP8_ ⊢
    have HI:=m0_
    have B18:=n18_
    have B20:=n20_
    have B25:=n25_
    have aP7:=naP7_
    have aP8:=naP8_
    have cP7:=ncP7_
    have cP8:=ncP8_
    clear m0_ n18_ n20_ n25_ naP7_ naP8_ ncP7_ ncP8_
    obtain ⟨av0,av1,av2,av3,_,_,_,_⟩:=cells4 B18.out
    obtain ⟨hy0,hy1,hy2,hy3,hy4,hy5,hy6,hy7,he0,he1,he2,he3,he4,he5,he6,he7⟩:=cells8 HI.out.h14
    go_upto_region 25 with (fail)
    clear av0 av1 av2 av3 hy0 hy1 hy2 hy3 hy4 hy5 hy6 hy7 he0 he1 he2 he3 he4 he5 he6 he7
    have o_:ty_Off wz2 ((((wz2.setCell ⟨g14,3,none⟩ (.int .i64 q6)).setCell ⟨g14,4,none⟩ (.int .i64 q7)).setCell ⟨g14,5,none⟩ (.slice c7 q8.length cc7)).setCell ⟨g14,6,none⟩ (.slice c8 q9.length cc8)) g14:=(ty_Off.refl _ _).set.set.set.set
    have m0_:Aside0 (ty_Lw w ((((wz2.setCell ⟨g14,3,none⟩ (.int .i64 q6)).setCell ⟨g14,4,none⟩ (.int .i64 q7)).setCell ⟨g14,5,none⟩ (.slice c7 q8.length cc7)).setCell ⟨g14,6,none⟩ (.slice c8 q9.length cc8)) g7 g8 g10 g14 g15 a1_0 a1_1 (.slice A1_2 l1_2.length c1_2) (.slice A1_7 l1_7.length c1_7) q6 q7 (.slice a7 q8.length ac7) (.slice a8 q9.length ac8) q8 q9 q6 q7 (.slice c7 q8.length cc7) (.slice c8 q9.length cc8) q8 q9 q1 (.slice a1 q2.length ac1) (.slice a2 q3.length ac2) q4 q5 q2 q3 s s):=⟨HI.out.set14 cP7.out cP8.out⟩
    have n20_:=am_ ((o_.1 _ (blk_ne B20.out HI.out.h14 (by decide))).trans B20.out)
    have n25_:=am_ ((o_.1 _ (blk_ne B25.out HI.out.h14 (by decide))).trans B25.out)
    have naP7_:=am_ (aP7.out.off HI.out.h14 o_ (by decide))
    have naP8_:=am_ (aP8.out.off HI.out.h14 o_ (by decide))
    have ncP7_:=am_ (cP7.out.off HI.out.h14 o_ (by decide))
    have ncP8_:=am_ (cP8.out.off HI.out.h14 o_ (by decide))
    clear o_ HI B20 B25 aP7 aP8 cP7 cP8
    generalize ((((wz2.setCell ⟨g14,3,none⟩ (.int .i64 q6)).setCell ⟨g14,4,none⟩ (.int .i64 q7)).setCell ⟨g14,5,none⟩ (.slice c7 q8.length cc7)).setCell ⟨g14,6,none⟩ (.slice c8 q9.length cc8))=wz3 at m0_ n20_ n25_ naP7_ naP8_ ncP7_ ncP8_ ⊢
    have HI:=m0_
    have B20:=n20_
    have B25:=n25_
    have aP7:=naP7_
    have aP8:=naP8_
    have cP7:=ncP7_
    have cP8:=ncP8_
    clear m0_ n20_ n25_ naP7_ naP8_ ncP7_ ncP8_
    obtain ⟨av0,_⟩:=cells1 B25.out
    obtain ⟨hx0,he0⟩:=cells1 HI.out.h10
    go_upto_region 26 with (fail)
    clear av0 hx0 he0
    have o_:ty_Off wz3 (wz3.setCell ⟨g10,0,none⟩ (.int .u64 q11)) g10:=(ty_Off.refl _ _).set
    have m0_:Aside0 (ty_Lw w (wz3.setCell ⟨g10,0,none⟩ (.int .u64 q11)) g7 g8 g10 g14 g15 a1_0 a1_1 (.slice A1_2 l1_2.length c1_2) (.slice A1_7 l1_7.length c1_7) q6 q7 (.slice a7 q8.length ac7) (.slice a8 q9.length ac8) q8 q9 q6 q7 (.slice c7 q8.length cc7) (.slice c8 q9.length cc8) q8 q9 q1 (.slice a1 q2.length ac1) (.slice a2 q3.length ac2) q4 q5 q2 q3 q11 s):=⟨HI.out.set10 ⟩
    have n20_:=am_ ((o_.1 _ N20.out.symm).trans B20.out)
    have naP7_:=am_ (aP7.out.off HI.out.h10 o_ (by decide))
    have naP8_:=am_ (aP8.out.off HI.out.h10 o_ (by decide))
    have ncP7_:=am_ (cP7.out.off HI.out.h10 o_ (by decide))
    have ncP8_:=am_ (cP8.out.off HI.out.h10 o_ (by decide))
    clear o_ HI B20 aP7 aP8 cP7 cP8
    generalize (wz3.setCell ⟨g10,0,none⟩ (.int .u64 q11))=wz4 at m0_ n20_ naP7_ naP8_ ncP7_ ncP8_ ⊢
    have HI:=m0_
    have B20:=n20_
    have aP7:=naP7_
    have aP8:=naP8_
    have cP7:=ncP7_
    have cP8:=ncP8_
    clear m0_ n20_ naP7_ naP8_ ncP7_ ncP8_
    obtain ⟨av0,_⟩:=cells1 B20.out
    obtain ⟨hx0,he0⟩:=cells1 HI.out.h15
    go_wp2_with (fail)
    go_roundg n
    case measure=>have:=HK.out;omega
    case rel=>exact ⟨i+1,n,q6,q7,_,_,q8,q9,_,_,q1,_,_,q4,q5,q2,q3,q11,by congr 1;have:=HK.out;have:=HMm.out;unfold wrap64;omega,⟨by have:=HK.out;omega,by have:=HK.out;omega,rfl⟩,H,⟨HI.out.set15⟩⟩
-- tG h11_Grow hs_Town hs_Streets w11_built w11_known w11_far w11_broad


end Go.Proofs.Ytbdijpjlgokfkaa.P

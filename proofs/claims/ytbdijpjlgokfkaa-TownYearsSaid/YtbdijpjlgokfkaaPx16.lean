/- Functions of this seat as plain Lean functions, with proofs that the Go code comes to just their answers, or what stands between them and a law's statement; no conditions. (Laid by a program of this session, out of the kit's print.) -/
import Derived.Test.YtbdijpjlgokfkaaPx0
import Derived.Test.YtbdijpjlgokfkaaPx2
import Derived.Test.YtbdijpjlgokfkaaPx3
import Derived.Test.YtbdijpjlgokfkaaPx4
import Derived.Test.YtbdijpjlgokfkaaPx5
import Derived.Test.YtbdijpjlgokfkaaPx8
import Derived.Test.YtbdijpjlgokfkaaPx9
import Derived.Test.YtbdijpjlgokfkaaPx11
import Derived.Test.YtbdijpjlgokfkaaPx13
import Derived.Test.YtbdijpjlgokfkaaPx14
import Derived.Test.YtbdijpjlgokfkaaPx15
namespace Go.Proofs.Ytbdijpjlgokfkaa.P
open Go.RowKit Go.Proofs.YtbdijpjlgokfkaaW.PrintWords Go.Proofs.YtbdijpjlgokfkaaW.PrintLast Go.Proofs.YtbdijpjlgokfkaaW.PrintMore
attribute [local go_sem] max2_int min2_int max_two min_two max_three min_three max_four min_four   -- for this text's walks alone
set_option maxHeartbeats 8000000
set_option maxRecDepth 100000
set_option linter.unusedVariables false
set_option linter.unusedSimpArgs false

-- plug-in
/-! ### tG: function 37 -/
-- HAND
def tG.bld (k:Nat) (K:List S80) (SW SH:Int) (A Y:List Int) (tt:Int) (H:List S68) (M:List Int) (mv du day s tile beyond side:Int):Option (Int × Int × Int × List Int × List Int × List S68 × Int) :=
 (roll_Below.f k s 3).bind fun b=>if b.1<1 then
  (road_Pave.f k SW SH A Y tile (shl .i64 1 side)).bind fun p=>(road_Pave.f k p.1 p.2.1 p.2.2.1 p.2.2.2.1 beyond (shl .i64 1 (Int.tmod (wrap64 (side+2)) 4))).bind fun q=>some (1,q.1,q.2.1,q.2.2.1,q.2.2.2.1,H,b.2)
 else if 35184372088832<K.length then none else (roll_Pick.f k b.2 (K.map (·.f3))).bind fun p=>if p.1<0∨200≤H.length then some (0,SW,SH,A,Y,H,p.2) else
  (town_house.f tt H M mv du beyond).bind fun q=>(api_House_77.f H).bind fun H1=>(api_House_109.f H1 q.1 [⟨beyond,p.1,day⟩]).bind fun H2=>some (2,SW,SH,A,Y,H2,p.2)
def tG.wlk (k:Nat) (K:List S80) (LW LH:Int) (C:List Int) (SW SH:Int) (A Y D:List Int) (tt:Int) (H:List S68) (M:List Int) (mv du day:Int):Nat→Int→Int→Option (Int × Int × Int × List Int × List Int × List S68 × Int)
 | 0,_,s=>some (0,SW,SH,A,Y,H,s)
 | n+1,tile,s=>(roll_Below.f k s 4).bind fun b=>if 0≤b.1∧b.1≤3 then
   (town_beside.f SW SH tile b.1).bind fun y=>(road_Joined.f k SW SH A Y tile b.1).bind fun j =>
   if y.2=false then some (0,SW,SH,A,Y,H,b.2) else if j.1=true then tG.wlk k K LW LH C SW SH A Y D tt H M mv du day n y.1 b.2 else
   if 0≤tile∧tile<(A.length:Int) then (if rd A tile=0 then tG.wlk k K LW LH C SW SH A Y D tt H M mv du day n tile b.2 else
    (town_free.f k LW LH C SW SH A Y D tt H M mv du y.1).bind fun fr=>if fr=true then tG.bld k K SW SH A Y tt H M mv du day b.2 tile y.1 b.1 else tG.wlk k K LW LH C SW SH A Y D tt H M mv du day n tile b.2) else none
  else none
def tG.f (k:Nat) (l0:List S80) (a1_0:Int) (a1_1:Int) (l1_2:List Int) (a1_3:Int) (a1_4:Int) (l1_5:List Int) (l1_6:List Int) (l1_7:List Int) (a2_0:Int) (l2_1:List S68) (l2_2:List Int) (a2_3:Int) (a2_4:Int) (a3:Int) (a4_0:Int):Option (Int × (List S68) × List Int × Int × Int × Int × Int × List Int × List Int × Int × Int × Int) :=
 (town_Validate.f k l0 a2_0 l2_1 l2_2 a2_3 a2_4).bind fun e1=>(land_Validate.f k a1_0 a1_1 l1_2).bind fun e2=>(road_Validate.f k a1_3 a1_4 l1_5 l1_6).bind fun e3=>(api_Errno.f k ([e1,e2,e3]:List Int)).bind fun e =>
 if e≠0 then some (0,[],[],0,0,0,0,[],[],0,0,e) else
 if a1_3≠a1_0∨a1_4≠a1_1 then some (0,[],[],0,0,0,0,[],[],0,0,8) else
 if a2_0≥wrap64 (a1_0 * a1_1) then some (0,[],[],0,0,0,0,[],[],0,0,2) else
 (town_within.f a3 100000).bind fun wi=>if wi=false then some (0,[],[],0,0,0,0,[],[],0,0,1) else
 (sClo_int_int.f l1_5).bind fun A=>(sClo_int_int.f l1_6).bind fun Y=>(town_copied.f a2_0 l2_1 l2_2 a2_3 a2_4).bind fun T =>
 if 0≤T.1∧T.1<(A.length:Int) then (if rd A T.1=0 then
  (town_first.f k a1_0 a1_1 l1_2 a1_3 a1_4 A Y l1_7 T.1 T.2.1 T.2.2.1 T.2.2.2.1 T.2.2.2.2).bind fun p=>some (T.1,T.2.1,T.2.2.1,T.2.2.2.1,T.2.2.2.2,p.1,p.2.1,p.2.2.1,p.2.2.2.1,p.2.2.2.2,a4_0,0)
 else (tG.wlk k l0 a1_0 a1_1 l1_2 a1_3 a1_4 A Y l1_7 T.1 T.2.1 T.2.2.1 T.2.2.2.1 T.2.2.2.2 a3 20 T.1 a4_0).bind fun p=>some (T.1,p.2.2.2.2.2.1,T.2.2.1,T.2.2.2.1,T.2.2.2.2,p.2.1,p.2.2.1,p.2.2.2.1,p.2.2.2.2.1,p.1,p.2.2.2.2.2.2,0))
 else none
theorem tG.bld_mono (k:Nat) (K:List S80) (SW SH:Int) (A Y:List Int) (tt:Int) (H:List S68) (M:List Int) (mv du day s tile beyond side:Int):LeO (tG.bld k K SW SH A Y tt H M mv du day s tile beyond side) (tG.bld (k+1) K SW SH A Y tt H M mv du day s tile beyond side):=by
 unfold tG.bld
 exact LeO.bind (roll_Below.mono _ _ _) (fun _=>LeO.ite (LeO.bind (road_Pave.mono _ _ _ _ _ _ _) (fun _=>LeO.bind (road_Pave.mono _ _ _ _ _ _ _) (fun _=>LeO.refl _))) (LeO.ite (LeO.refl _) (LeO.bind (roll_Pick.mono _ _ _) (fun _=>LeO.refl _))))
theorem tG.wlk_mono (k:Nat) (K:List S80) (LW LH:Int) (C:List Int) (SW SH:Int) (A Y D:List Int) (tt:Int) (H:List S68) (M:List Int) (mv du day:Int):∀ n tile s,LeO (tG.wlk k K LW LH C SW SH A Y D tt H M mv du day n tile s) (tG.wlk (k+1) K LW LH C SW SH A Y D tt H M mv du day n tile s)
 | 0,tile,s=>LeO.refl _
 | n+1,tile,s=>by
  have ih:=tG.wlk_mono k K LW LH C SW SH A Y D tt H M mv du day n
  simp only [tG.wlk]
  exact LeO.bind (roll_Below.mono _ _ _) (fun _=>LeO.ite (LeO.bind (LeO.refl _) (fun _=>LeO.bind (road_Joined.mono _ _ _ _ _ _ _) (fun _=>LeO.ite (LeO.refl _) (LeO.ite (ih _ _) (LeO.ite (LeO.ite (ih _ _) (LeO.bind (town_free.mono _ _ _ _ _ _ _ _ _ _ _ _ _ _ _) (fun _=>LeO.ite (tG.bld_mono _ _ _ _ _ _ _ _ _ _ _ _ _ _ _ _) (ih _ _)))) (LeO.refl _)))))) (LeO.refl _))
theorem tG.mono:∀ a0 a1 a2 a3 a4 a5 a6 a7 a8 a9 a10 a11 a12 a13 a14 a15 k,LeO (tG.f k a0 a1 a2 a3 a4 a5 a6 a7 a8 a9 a10 a11 a12 a13 a14 a15) (tG.f (k+1) a0 a1 a2 a3 a4 a5 a6 a7 a8 a9 a10 a11 a12 a13 a14 a15):=by
 intro a0 a1 a2 a3 a4 a5 a6 a7 a8 a9 a10 a11 a12 a13 a14 a15 k
 unfold tG.f
 exact LeO.bind (town_Validate.mono _ _ _ _ _ _ _) (fun _=>LeO.bind (land_Validate.mono _ _ _ _) (fun _=>LeO.bind (road_Validate.mono _ _ _ _ _) (fun _=>LeO.bind (api_Errno.mono _ _) (fun _=>LeO.ite (LeO.refl _) (LeO.ite (LeO.refl _) (LeO.ite (LeO.refl _) (LeO.bind (LeO.refl _) (fun _=>LeO.ite (LeO.refl _) (LeO.bind (LeO.refl _) (fun _=>LeO.bind (LeO.refl _) (fun _=>LeO.bind (LeO.refl _) (fun _=>LeO.ite (LeO.ite (LeO.bind (town_first.mono _ _ _ _ _ _ _ _ _ _ _ _ _ _) (fun _=>LeO.refl _)) (LeO.bind (tG.wlk_mono _ _ _ _ _ _ _ _ _ _ _ _ _ _ _ _ _ _ _) (fun _=>LeO.refl _))) (LeO.refl _)))))))))))))
structure tG.Cx where
 (K:List S80) (AK:Option Addr) (cK:Nat)
 (LW LH:Int) (C:List Int) (AC:Option Addr) (cC:Nat)
 (SW SH:Int) (A:List Int) (AA:Option Addr) (cA:Nat) (Y:List Int) (AY:Option Addr) (cY:Nat)
 (D:List Int) (AD:Option Addr) (cD:Nat)
 (tt:Int) (H:List S68) (AH:Option Addr) (cH:Nat) (M:List Int) (AM:Option Addr) (cM:Nat) (mv du day:Int)
def tG.Cx.cs (x:tG.Cx) (s:Int):Array Value :=
 #[.slice x.AK x.K.length x.cK,.int .i64 x.LW,.int .i64 x.LH,.slice x.AC x.C.length x.cC,.int .i64 x.SW,.int .i64 x.SH,.slice x.AA x.A.length x.cA,.slice x.AY x.Y.length x.cY,.slice x.AD x.D.length x.cD,.int .i64 x.tt,.slice x.AH x.H.length x.cH,.slice x.AM x.M.length x.cM,.int .i64 x.mv,.int .i64 x.du,.int .i64 x.day,.int .u64 s]
structure tG.Cx.ok (x:tG.Cx) (w:World):Prop where
 K:Kd.C k80 w x.AK x.K.length x.K
 cK:x.K.length≤x.cK
 C:Kd.C (Kd.int .i64) w x.AC x.C.length x.C
 cC:x.C.length≤x.cC
 A:Kd.C (Kd.int .i64) w x.AA x.A.length x.A
 cA:x.A.length≤x.cA
 Y:Kd.C (Kd.int .i64) w x.AY x.Y.length x.Y
 cY:x.Y.length≤x.cY
 D:Kd.C (Kd.int .i64) w x.AD x.D.length x.D
 cD:x.D.length≤x.cD
 H:Kd.C k68 w x.AH x.H.length x.H
 cH:x.H.length≤x.cH
 M:Kd.C (Kd.int .i64) w x.AM x.M.length x.M
 cM:x.M.length≤x.cM
structure tG.Wk (w0 W:World) (g:Nat) (x:tG.Cx) (s:Int):Prop where
 hb:W.heap[g]?=some (.cells (x.cs s) 104 (0,0))
 hB:Below w0.heap.size w0 W
 hg:w0.heap.size≤g
section
variable {w0 W W':World} {g:Nat} {x:tG.Cx} {s:Int}
theorem tG.Cx.ok.below (h:x.ok W) (hb:Below W.heap.size W W'):x.ok W' :=
 ⟨Kd.C_below h.K hb,h.cK,Kd.C_below h.C hb,h.cC,Kd.C_below h.A hb,h.cA,Kd.C_below h.Y hb,h.cY,Kd.C_below h.D hb,h.cD,Kd.C_below h.H hb,h.cH,Kd.C_below h.M hb,h.cM⟩
theorem tG.Wk.step (h:tG.Wk w0 W g x s) (hb:Below W.heap.size W W'):tG.Wk w0 W' g x s:=⟨blk_below h.hb hb,below_then h.hB h.hB.size hb,h.hg⟩
theorem tG.Wk.draw (h:tG.Wk w0 W g x s) (n:Nat):tG.Wk w0 (W.drewN n) g x s:=h.step (pw_below_drewN (Below.refl _ _) n)
theorem tG.Wk.drew (h:tG.Wk w0 W g x s):tG.Wk w0 W.drew g x s:=h.step (below_drew (Below.refl _ _))
theorem tG.Wk.put (h:tG.Wk w0 W g x s) (s':Int):tG.Wk w0 (W.setCell ⟨g,15,none⟩ (.int .u64 s')) g x s':=⟨blk_set h.hb 15 _,h.hB.setCell h.hg _,h.hg⟩
theorem tG.Wk.away (h:tG.Wk w0 W g x s) {g' i:Nat} (hn:g≠g') (hg':w0.heap.size≤g') (v:Value):tG.Wk w0 (W.setCell ⟨g',i,none⟩ v) g x s:=⟨blk_far h.hb hn _,h.hB.setCell hg' _,h.hg⟩
theorem tG.Wk.grown (h:tG.Wk w0 W g x s) {row:Option Nat} (hg:W.grownBy W' row) (hn:some g≠row) (hb:Below w0.heap.size w0 W'):tG.Wk w0 W' g x s:=⟨blk_grown h.hb hg hn,hb,h.hg⟩
theorem tG.Wk.cells (h:tG.Wk w0 W g x s):(W.cell? ⟨g,0,none⟩=some (.slice x.AK x.K.length x.cK)∧W.cell? ⟨g,1,none⟩=some (.int .i64 x.LW)∧W.cell? ⟨g,2,none⟩=some (.int .i64 x.LH)∧W.cell? ⟨g,3,none⟩=some (.slice x.AC x.C.length x.cC)∧W.cell? ⟨g,4,none⟩=some (.int .i64 x.SW)∧W.cell? ⟨g,5,none⟩=some (.int .i64 x.SH)∧W.cell? ⟨g,6,none⟩=some (.slice x.AA x.A.length x.cA)∧W.cell? ⟨g,7,none⟩=some (.slice x.AY x.Y.length x.cY)) ∧
  (W.cell? ⟨g,8,none⟩=some (.slice x.AD x.D.length x.cD)∧W.cell? ⟨g,9,none⟩=some (.int .i64 x.tt)∧W.cell? ⟨g,10,none⟩=some (.slice x.AH x.H.length x.cH)∧W.cell? ⟨g,11,none⟩=some (.slice x.AM x.M.length x.cM)∧W.cell? ⟨g,12,none⟩=some (.int .i64 x.mv)∧W.cell? ⟨g,13,none⟩=some (.int .i64 x.du)∧W.cell? ⟨g,14,none⟩=some (.int .i64 x.day)∧W.cell? ⟨g,15,none⟩=some (.int .u64 s))∧W.frozen? ⟨g,15,none⟩=false :=
 ⟨⟨blk_cell h.hb 0,blk_cell h.hb 1,blk_cell h.hb 2,blk_cell h.hb 3,blk_cell h.hb 4,blk_cell h.hb 5,blk_cell h.hb 6,blk_cell h.hb 7⟩,⟨blk_cell h.hb 8,blk_cell h.hb 9,blk_cell h.hb 10,blk_cell h.hb 11,blk_cell h.hb 12,blk_cell h.hb 13,blk_cell h.hb 14,blk_cell h.hb 15⟩,blk_frozen h.hb 15⟩
end
theorem tG.below {k:Nat} {w0 w:World} {g:Nat} {x:tG.Cx} {s n r s':Int} (hW:tG.Wk w0 w g x s) (h:roll_Below.f k s n=some (r,s')) :
  Calls Try.prog 89 #[.pointer (some ⟨g,0,none⟩),.int .i64 n] w fun e w'=>e=.returned (.int .i64 r)∧tG.Wk w0 w' g x s'∧Kept w w' (fun k_=>k_=g):=by
 have hu45:=Try.underlying45
 have HW:=am_ hW
 have H:=am_ h
 have HK:=am_ (Kept.refl w (fun k_=>k_=g))
 obtain ⟨_,⟨_,_,_,_,_,_,_,hc15⟩,hf15⟩:=hW.cells
 clear hW h
 go_enter Try.func89,Try.ntmps89
 go_wp2_with (first
  | (go_at_call 57;refine (roll_Below.calls _ _ _ _ _ _ H.out).mono ?_;rintro e w' ⟨rfl,hb⟩;replace HW:=am_ (HW.out.step hb);replace HK:=am_ (HK.out.below hb);clear hb)
  | ((with_reducible refine gate_dst (N:=6) rfl ?_);refine box_ev (N:=6) (cs:=#[.int .u64 0]) (t:=45) ?_;intro g6 hg w1 hbox hb;have B6:=am_ hbox;have N6:Aside0 (g≠g6):=⟨by rw [hg];exact Nat.ne_of_lt (blk_lt HW.out.hb)⟩;have G6:Aside0 (w0.heap.size≤g6):=⟨by rw [hg];exact HW.out.hB.size⟩;have K6:Aside0 (w.heap.size≤g6):=⟨by rw [hg];exact HK.out.1⟩;replace HW:=am_ (HW.out.step hb);replace HK:=am_ (HK.out.below hb);clear hb hbox hg;obtain ⟨hc6,hf6⟩:=cells1 B6.out;obtain ⟨_,⟨_,_,_,_,_,_,_,hc15⟩,hf15⟩:=HW.out.cells;have n1_:=N6.out;have n2_:=n1_.symm))
 go_ret
 exact ⟨rfl,(HW.out.away N6.out G6.out _).put s',(HK.out.setCell (.inr K6.out) _).setCell (.inl rfl) _⟩
def tG.Ro {α:Type} (d:Kd α) (e:TypeId) (W:World) (v v0:Value) (l l0:List α):Prop:=(v=v0∧l=l0)∨∃ base ok,Kd.R d e W base ok v l
theorem tG.Ro.same {α:Type} {d:Kd α} {e:TypeId} {W:World} {v:Value} {l:List α}:tG.Ro d e W v v l l:=.inl ⟨rfl,rfl⟩
def tG.Out (w0 W:World) (g:Nat) (x:tG.Cx) (SW SH:Int) (A Y:List Int) (H:List S68) (s:Int):Prop :=
 ∃ vA vY vH,W.heap[g]?=some (.cells #[.slice x.AK x.K.length x.cK,.int .i64 x.LW,.int .i64 x.LH,.slice x.AC x.C.length x.cC,.int .i64 SW,.int .i64 SH,vA,vY,.slice x.AD x.D.length x.cD,.int .i64 x.tt,vH,.slice x.AM x.M.length x.cM,.int .i64 x.mv,.int .i64 x.du,.int .i64 x.day,.int .u64 s] 104 (0,0)) ∧
  tG.Ro (Kd.int .i64) 3 W vA (.slice x.AA x.A.length x.cA) A x.A∧tG.Ro (Kd.int .i64) 3 W vY (.slice x.AY x.Y.length x.cY) Y x.Y∧tG.Ro k68 68 W vH (.slice x.AH x.H.length x.cH) H x.H∧Below w0.heap.size w0 W
theorem tG.Wk.out {w0 W:World} {g:Nat} {x:tG.Cx} {s:Int} (h:tG.Wk w0 W g x s):tG.Out w0 W g x x.SW x.SH x.A x.Y x.H s :=
 ⟨_,_,_,h.hb,tG.Ro.same,tG.Ro.same,tG.Ro.same,h.hB⟩
theorem tG.one_rep (W:World) (base:Nat) (ok:Nat→Prop) (q:S68):Reps (k68.M W base ok) 3 [q] [.int .i64 q.f0,.int .i64 q.f1,.int .i64 q.f2] :=
 ⟨rfl,fun j r hr=>by
  cases j with
  | zero=>obtain rfl:=oj_ hr;exact k68_mkM _ _ _ _
  | succ j=>simp at hr⟩
theorem tG.pick {k:Nat} {W:World} {base n c:Nat} {ok:Nat→Prop} {A:Option Addr} {l:List Int} {s p1 p2:Int} (hn:l.length=n) (hR:Kd.R (Kd.int .i64) 3 W base ok (.slice A n c) l) (h:roll_Pick.f k s l=some (p1,p2)) :
  Calls Try.prog 108 #[.agg #[.int .u64 s],.slice A n c] W fun e w'=>e=.returned (.tuple #[.int .i64 p1,.agg #[.int .u64 p2]])∧Below W.heap.size W w':=by
 subst hn
 exact roll_Pick.calls k s A c l p1 p2 W (Kd.R_reads' hR).2.2 (Kd.R_reads' hR).2.1 h
theorem tG.build {k:Nat} {w0 w:World} {g:Nat} {x:tG.Cx} {s tile beyond side:Int} {told SW SH:Int} {A Y:List Int} {H:List S68} {s':Int} (hW:tG.Wk w0 w g x s) (ok:x.ok w0) (hs:0≤side∧side≤3)
  (h:tG.bld k x.K x.SW x.SH x.A x.Y x.tt x.H x.M x.mv x.du x.day s tile beyond side=some (told,SW,SH,A,Y,H,s')) :
  Calls Try.prog 93 #[.pointer (some ⟨g,0,none⟩),.int .i64 tile,.int .i64 beyond,.int .i64 side] w fun e w'=>e=.returned (.int .i64 told)∧tG.Out w0 w' g x SW SH A Y H s':=by
 have hu45:=Try.underlying45
 have hu25:=Try.underlying25
 have hu60:=Try.underlying60
 have hu62:=Try.underlying62
 have hu104:=Try.underlying104
 have HW:=am_ hW
 have OK:=am_ ok
 have HS:=am_ hs
 clear hW ok
 unfold tG.bld at h
 obtain ⟨⟨b1,b2⟩,hb,h⟩:=Option.bind_eq_some_iff.1 h
 dsimp only at h
 have A1:=am_ hb
 clear hb
 have hsn:decide (side<0)=false:=df_ (by omega)
 have hsp:=eq_true hs.1
 by_cases cb:b1<1
 ·rw [if_pos cb] at h
  have cb0:=dt_ cb
  have hm:0≤Int.tmod (wrap64 (side+2)) 4∧Int.tmod (wrap64 (side+2)) 4≤3:=by
   rw [show wrap64 (side+2)=side+2 from by unfold wrap64;omega,Int.tmod_eq_emod_of_nonneg (by omega)];omega
  obtain ⟨jA,hjA⟩:∃ j_:Int,shl .i64 1 side=j_:=⟨_,rfl⟩
  rw [hjA] at h
  have hjA0:IntKind.i64.wrap (1 * 2 ^ min side.toNat 64)=jA:=hjA
  have hjA1:IntKind.i64.wrap (2 ^ min side.toNat 64)=jA:=by rw [← hjA0,Int.one_mul]
  have hjA2:IntKind.i64.wrap (1 * 2 ^ side.toNat)=jA:=shl_small hjA (by have:=hs.2;show side≤64;omega)
  have hjA3:IntKind.i64.wrap (2 ^ side.toNat)=jA:=by rw [← hjA2,Int.one_mul]
  obtain ⟨mB,hmB⟩:∃ j_:Int,Int.tmod (wrap64 (side+2)) 4=j_:=⟨_,rfl⟩
  rw [hmB] at h hm
  have hmn:decide (mB<0)=false:=df_ (by omega)
  have hmp:=eq_true hm.1
  obtain ⟨jB,hjB⟩:∃ j_:Int,shl .i64 1 mB=j_:=⟨_,rfl⟩
  rw [hjB] at h
  have hjB0:IntKind.i64.wrap (1 * 2 ^ min mB.toNat 64)=jB:=hjB
  have hjB1:IntKind.i64.wrap (2 ^ min mB.toNat 64)=jB:=by rw [← hjB0,Int.one_mul]
  have hjB2:IntKind.i64.wrap (1 * 2 ^ mB.toNat)=jB:=shl_small hjB (by have:=hm.2;show mB≤64;omega)
  have hjB3:IntKind.i64.wrap (2 ^ mB.toNat)=jB:=by rw [← hjB2,Int.one_mul]
  obtain ⟨⟨p1,p2,p3,p4,p5,p6⟩,hp,h⟩:=Option.bind_eq_some_iff.1 h
  dsimp only at h
  obtain ⟨⟨q1,q2,q3,q4,q5,q6⟩,hq,h⟩:=Option.bind_eq_some_iff.1 h
  simp only [Option.some.injEq,Prod.mk.injEq] at h
  obtain ⟨rfl,rfl,rfl,rfl,rfl,rfl,rfl⟩:=h
  have A2:=am_ hp
  have A3:=am_ hq
  clear hp hq cb hs hm hjA hjB
  go_enter Try.func93,Try.ntmps93
  go_upto_region 2 with (go_at_call 89;refine (tG.below HW.out A1.out).mono ?_;rintro e w' ⟨rfl,hw,-⟩;replace HW:=am_ hw;clear hw)
  replace HW:=am_ HW.out.drew
  refine start_ (n:=17) (S:=fun w'=>tG.Wk w0 w' g x b2) (ds:=[14]) #[false,false,false,false,false,false,false,false,false,false,false,false,false,false,false,false,false] (by kernel_rfl) rfl rfl HW.out (fun hHeld=>?_)
  generalize hWd:World.drew _=wd at HW hHeld ⊢
  clear hWd
  refine pI 0 (some 23) ?_
  refine pI 1 (some 24) ?_
  refine pI 2 (some 25) ?_
  refine pI 3 (some 26) ?_
  refine pI 5 (some 28) ?_
  refine pI 6 (some 29) ?_
  refine pI 7 (some 30) ?_
  refine take_ (i:=4) (N:=some 27) (v:=?_) (a':=?_) #[true,true,true,true,true,true,true,true,false,false,false,false,false,false,false,false,false] rfl rfl (by kernel_rfl) (fun _ _ _ h=>h) (Or.inl ⟨by rfl,?_⟩) hHeld ?_ ?_;rotate_left
  ·intro w' s0;obtain ⟨⟨_,_,_,_,hc4,hc5,hc6,hc7⟩,_,_⟩:=s0.cells;go_simp;with_reducible rfl
  rotate_left
  ·simp only [Act.put,sl_,i64_w,i32_w];rfl
  refine join_ (σ:=Value × Value × Nat) 3 #[true,true,true,true,true,true,true,true,true,true,true,true,true,true,false,false,false] (fun s_=>[(31,.tuple #[.agg #[.int .i64 p1,.int .i64 p2,s_.1,s_.2.1],.int .i64 p5,.int .i64 p6]),(22,.tuple #[.agg #[.int .i64 p1,.int .i64 p2,s_.1,s_.2.1],.int .i64 p5,.int .i64 p6]),(32,.agg #[.int .i64 p1,.int .i64 p2,s_.1,s_.2.1]),(33,.int .i64 p5),(34,.int .i64 p6),(9,.pointer (some ⟨s_.2.2,0,none⟩))]) (fun s_ w'=>tG.Wk w0 w' g x b2∧(∃ base ok,Kd.R (Kd.int .i64) 3 w' base ok s_.1 p3)∧(∃ base ok,Kd.R (Kd.int .i64) 3 w' base ok s_.2.1 p4)∧w'.heap[s_.2.2]?=some (.cells #[.int .i64 0,.int .i64 0,.slice none 0 0,.slice none 0 0] 60 (0,0))∧w0.heap.size≤s_.2.2) ?_ ?_;rotate_left
  ·intro hCont
   refine two_ (i:=8) (j:=13) (Ni:=some 31) (Nj:=some 9) #[true,true,true,true,true,true,true,true,true,false,false,false,false,false,false,false,false] #[true,true,true,true,true,true,true,true,false,false,false,false,false,true,false,false,false] rfl rfl rfl rfl (by kernel_rfl) (by decide) (by decide) (fun K hK=>?_) (fun K hK=>?_)
   ·refine goes_ Try.func88 (by kernel_rfl) rfl #[.agg #[.int .i64 x.SW,.int .i64 x.SH,.slice x.AA x.A.length x.cA,.slice x.AY x.Y.length x.cY],.int .i64 tile,.int .i64 jA] (by rfl) rfl rfl ga_ ?_
    refine (road_Pave.calls k _ _ _ _ _ _ _ _ _ _ _ _ _ _ _ _ _ (OK.out.below HW.out.hB).A OK.out.cA (OK.out.below HW.out.hB).Y OK.out.cY A2.out).mono ?_
    rintro e w1 ⟨v3,v4,rfl,ho0,ho1,hb⟩
    refine ⟨_,rfl,?_⟩
    replace HW:=am_ (HW.out.step hb)
    clear hb
    refine hK.out _ _ HW.out (fun hHeld=>?_);clear hK K
    refine nrm 31 ?_
    refine pI 9 (some 22) ?_
    refine pI 10 (some 32) ?_
    refine pI 11 (some 33) ?_
    refine pI 12 (some 34) ?_
    refine oI 13 (some 9) (fun K hK=>?_)
    refine box_step ?hg (N:=9) ?hd (cs:=#[.int .i64 0,.int .i64 0,.slice none 0 0,.slice none 0 0]) (t:=60) ?hr ?_
    (case hd=>rfl);(case hg=>rfl);(case hr=>first|(go_simp;done)|(go_simp;rfl))
    intro g9 hg w2 hbox hb
    have G9:w0.heap.size≤g9:=by rw [hg];exact HW.out.hB.size
    replace HW:=am_ (HW.out.step hb)
    replace ho0:=Kd.R_below ho0 hb
    replace ho1:=Kd.R_below ho1 hb
    refine hK.out _ _ HW.out (fun hHeld=>?_);clear hK K
    refine nrm 9 ?_
    exact norm_ (by simp only [putAll,Act.put,sl_]) (hCont (v3,v4,g9) _ ⟨HW.out,⟨_,_,ho0⟩,⟨_,_,ho1⟩,hbox,G9⟩)
   ·refine box_step ?hg (N:=9) ?hd (cs:=#[.int .i64 0,.int .i64 0,.slice none 0 0,.slice none 0 0]) (t:=60) ?hr ?_
    (case hd=>rfl);(case hg=>rfl);(case hr=>first|(go_simp;done)|(go_simp;rfl))
    intro g9 hg w2 hbox hb
    have G9:w0.heap.size≤g9:=by rw [hg];exact HW.out.hB.size
    replace HW:=am_ (HW.out.step hb)
    clear hb
    refine hK.out _ _ HW.out (fun hHeld=>?_);clear hK K
    refine nrm 9 ?_
    refine oI 8 (some 31) (fun K hK=>?_)
    refine goes_ Try.func88 (by kernel_rfl) rfl #[.agg #[.int .i64 x.SW,.int .i64 x.SH,.slice x.AA x.A.length x.cA,.slice x.AY x.Y.length x.cY],.int .i64 tile,.int .i64 jA] (by rfl) rfl rfl ga_ ?_
    refine (road_Pave.calls k _ _ _ _ _ _ _ _ _ _ _ _ _ _ _ _ _ (OK.out.below HW.out.hB).A OK.out.cA (OK.out.below HW.out.hB).Y OK.out.cY A2.out).mono ?_
    rintro e w1 ⟨v3,v4,rfl,ho0,ho1,hb⟩
    refine ⟨_,rfl,?_⟩
    replace HW:=am_ (HW.out.step hb)
    refine hK.out _ _ HW.out (fun hHeld=>?_);clear hK K
    refine nrm 31 ?_
    refine pI 9 (some 22) ?_
    refine pI 10 (some 32) ?_
    refine pI 11 (some 33) ?_
    refine pI 12 (some 34) ?_
    exact norm_ (by simp only [putAll,Act.put,sl_]) (hCont (v3,v4,g9) _ ⟨HW.out,⟨_,_,ho0⟩,⟨_,_,ho1⟩,blk_below hbox hb,G9⟩)
  clear HW hHeld
  rintro ⟨v3,v4,g9⟩ w1 ⟨hw,⟨ba,ka,ho0⟩,⟨bb,kb,ho1⟩,hbox,hg9⟩
  dsimp only at ho0 ho1 hbox hg9
  have HW:=am_ hw
  have hHeld:=hw
  have G9:=am_ hg9
  have B9:=am_ hbox
  have N9:Aside0 (g≠g9):=⟨blk_ne hw.hb hbox (by decide)⟩
  obtain ⟨A3v,c3v,e3v⟩:=Kd.R_slice ho0
  obtain ⟨A4v,c4v,e4v⟩:=Kd.R_slice ho1
  subst e3v e4v
  have R3:=am_ ho0
  have R4:=am_ ho1
  clear hw hbox hg9 ho0 ho1
  refine norm_ (a':=?_) ?_ ?_;rotate_left
  ·simp only [putAll,Act.put,sl_];rfl
  refine last_ (i:=14) (N:=none) #[true,true,true,true,true,true,true,true,true,true,true,true,true,true,true,false,false] rfl rfl (by kernel_rfl) (by decide) (fun K hK=>?_)
  obtain ⟨hc0,hc1,hc2,hc3,hf0,hf1,hf2,hf3⟩:=cells4 B9.out
  refine skip_ (w1:=?_) (by rfl) rfl ?_ ?_;rotate_left
  ·go_simp;rfl
  refine hK.out _ _ ?_
  clear hK K hc0 hc1 hc2 hc3 hf0 hf1 hf2 hf3 hHeld
  refine pI 15 (some 10) ?_
  refine pI 16 (some 11) ?_
  refine done_ (by kernel_rfl) ?_
  have n0_:=(((HW.out.away N9.out G9.out (.int .i64 p1) (i:=0)).away N9.out G9.out (.int .i64 p2) (i:=1)).away N9.out G9.out (.slice A3v p3.length c3v) (i:=2)).away N9.out G9.out (.slice A4v p4.length c4v) (i:=3)
  have n1_:=blk_puts4 (b0:=.int .i64 p1) (b1:=.int .i64 p2) (b2:=.slice A3v p3.length c3v) (b3:=.slice A4v p4.length c4v) B9.out
  have n2_:Kd.R (Kd.int .i64) 3 ((((w1.setCell ⟨g9,0,none⟩ (.int .i64 p1)).setCell ⟨g9,1,none⟩ (.int .i64 p2)).setCell ⟨g9,2,none⟩ (.slice A3v p3.length c3v)).setCell ⟨g9,3,none⟩ (.slice A4v p4.length c4v)) ba _ (.slice A3v p3.length c3v) p3:=Kd.R_mono (Kd.R_fars g9 (Kd.R_types R3.out B9.out (by decide)) (fun _ hk=>hk.2) (fun k_ hk_=>set_far hk_ (set_far hk_ (set_far hk_ (set_far hk_ rfl))))) (fun _ h_=>h_)
  have n3_:Kd.R (Kd.int .i64) 3 ((((w1.setCell ⟨g9,0,none⟩ (.int .i64 p1)).setCell ⟨g9,1,none⟩ (.int .i64 p2)).setCell ⟨g9,2,none⟩ (.slice A3v p3.length c3v)).setCell ⟨g9,3,none⟩ (.slice A4v p4.length c4v)) bb _ (.slice A4v p4.length c4v) p4:=Kd.R_mono (Kd.R_fars g9 (Kd.R_types R4.out B9.out (by decide)) (fun _ hk=>hk.2) (fun k_ hk_=>set_far hk_ (set_far hk_ (set_far hk_ (set_far hk_ rfl))))) (fun _ h_=>h_)
  clear HW B9 R3 R4
  generalize ((((w1.setCell ⟨g9,0,none⟩ (.int .i64 p1)).setCell ⟨g9,1,none⟩ (.int .i64 p2)).setCell ⟨g9,2,none⟩ (.slice A3v p3.length c3v)).setCell ⟨g9,3,none⟩ (.slice A4v p4.length c4v))=w2 at n0_ n1_ n2_ n3_ ⊢
  have HW:=am_ n0_
  have B9:=am_ n1_
  have R3:=am_ n2_
  have R4:=am_ n3_
  clear n0_ n1_ n2_ n3_
  go_upto_region 3 with fail
  replace HW:=am_ HW.out.drew
  replace B9:=am_ (blk_below B9.out (below_drew (Below.refl _ _)))
  replace R3:=am_ (Kd.R_drew R3.out)
  replace R4:=am_ (Kd.R_drew R4.out)
  refine start_ (n:=16) (S:=fun w'=>w'.cell? ⟨g9,0,none⟩=some (.int .i64 p1)∧w'.cell? ⟨g9,1,none⟩=some (.int .i64 p2)∧w'.cell? ⟨g9,2,none⟩=some (.slice A3v p3.length c3v)∧w'.cell? ⟨g9,3,none⟩=some (.slice A4v p4.length c4v)) (ds:=[15]) #[false,false,false,false,false,false,false,false,false,false,false,false,false,false,false,false] (by kernel_rfl) rfl rfl ⟨blk_cell B9.out 0,blk_cell B9.out 1,blk_cell B9.out 2,blk_cell B9.out 3⟩ (fun hHeld=>?_)
  generalize hWd:World.drew _=wd at HW B9 R3 R4 hHeld ⊢
  clear hWd
  refine pI 0 (some 36) ?_
  refine pI 2 (some 38) ?_
  refine pI 3 (some 39) ?_
  refine pI 4 (some 40) ?_
  refine pI 5 (some 41) ?_
  refine pI 6 (some 42) ?_
  refine take_ (i:=1) (N:=some 37) (v:=?_) (a':=?_) #[true,true,true,true,true,true,true,false,false,false,false,false,false,false,false,false] rfl rfl (by kernel_rfl) (fun _ _ _ h=>h) (Or.inl ⟨by rfl,?_⟩) hHeld ?_ ?_;rotate_left
  ·intro w' ⟨s0,s1,s2,s3⟩;go_simp;with_reducible rfl
  rotate_left
  ·simp only [Act.put,sl_,i64_w,i32_w];rfl
  refine oI 7 (some 43) (fun K hK=>?_)
  refine goes_ Try.func88 (by kernel_rfl) rfl #[.agg #[.int .i64 p1,.int .i64 p2,.slice A3v p3.length c3v,.slice A4v p4.length c4v],.int .i64 beyond,.int .i64 jB] (by rfl) rfl rfl ga_ ?_
  refine (road_Pave.calls k _ _ _ _ _ _ _ _ _ _ _ _ _ _ _ _ _ (Kd.R_reads' R3.out).2.2 (Kd.R_reads' R3.out).2.1 (Kd.R_reads' R4.out).2.2 (Kd.R_reads' R4.out).2.1 A3.out).mono ?_
  rintro e w3 ⟨v3,v4,rfl,ho0,ho1,hb⟩
  obtain ⟨A5v,c5v,e5v⟩:=Kd.R_slice ho0
  obtain ⟨A6v,c6v,e6v⟩:=Kd.R_slice ho1
  subst e5v e6v
  refine ⟨_,rfl,?_⟩
  replace HW:=am_ (HW.out.step hb)
  replace B9:=am_ (blk_below B9.out hb)
  clear R3 R4 hb
  refine hK.out _ _ ⟨blk_cell B9.out 0,blk_cell B9.out 1,blk_cell B9.out 2,blk_cell B9.out 3⟩ (fun hHeld=>?_)
  clear hK K
  refine nrm 43 ?_
  refine pI 8 (some 35) ?_
  refine pI 9 (some 44) ?_
  refine pI 10 (some 45) ?_
  refine pI 11 (some 46) ?_
  refine pI 12 (some 47) ?_
  refine pI 13 (some 48) ?_
  refine pI 14 (some 49) ?_
  refine last_ (i:=15) (N:=none) #[true,true,true,true,true,true,true,true,true,true,true,true,true,true,true,true] rfl rfl (by kernel_rfl) (by decide) (fun K hK=>?_)
  obtain ⟨⟨_,_,_,_,hc4,hc5,hc6,hc7⟩,_,_⟩:=HW.out.cells
  have hf4:=blk_frozen HW.out.hb 4
  have hf5:=blk_frozen HW.out.hb 5
  have hf6:=blk_frozen HW.out.hb 6
  have hf7:=blk_frozen HW.out.hb 7
  refine skip_ (w1:=?_) (by rfl) rfl ?_ ?_;rotate_left
  ·go_simp;rfl
  refine hK.out _ _ ?_
  clear hK K
  refine done_ (by kernel_rfl) ?_
  have n0_:tG.Out w0 ((((w3.setCell ⟨g,4,none⟩ (.int .i64 q1)).setCell ⟨g,5,none⟩ (.int .i64 q2)).setCell ⟨g,6,none⟩ (.slice A5v q3.length c5v)).setCell ⟨g,7,none⟩ (.slice A6v q4.length c6v)) g x q1 q2 q3 q4 x.H b2 :=
   ⟨_,_,_,blk_set (blk_set (blk_set (blk_set HW.out.hb 4 _) 5 _) 6 _) 7 _,.inr ⟨_,_,Kd.R_fars g (Kd.R_types ho0 HW.out.hb (by decide)) (fun _ hk=>hk.2) (fun k_ hk_=>set_far hk_ (set_far hk_ (set_far hk_ (set_far hk_ rfl))))⟩,.inr ⟨_,_,Kd.R_fars g (Kd.R_types ho1 HW.out.hb (by decide)) (fun _ hk=>hk.2) (fun k_ hk_=>set_far hk_ (set_far hk_ (set_far hk_ (set_far hk_ rfl))))⟩,tG.Ro.same,(((HW.out.hB.setCell HW.out.hg _).setCell HW.out.hg _).setCell HW.out.hg _).setCell HW.out.hg _⟩
  generalize ((((w3.setCell ⟨g,4,none⟩ (.int .i64 q1)).setCell ⟨g,5,none⟩ (.int .i64 q2)).setCell ⟨g,6,none⟩ (.slice A5v q3.length c5v)).setCell ⟨g,7,none⟩ (.slice A6v q4.length c6v))=w4 at n0_ ⊢
  have HO:=am_ n0_
  clear n0_ hc4 hc5 hc6 hc7 hf4 hf5 hf6 hf7 HW B9 ho0 ho1 hHeld
  go_wp2
  go_ret
  exact ⟨rfl,HO.out⟩
 rw [if_neg cb] at h
 have cb0:=df_ cb
 by_cases ck:35184372088832<x.K.length
 ·rw [if_pos ck] at h;exact absurd h (by simp)
 rw [if_neg ck] at h
 have CK:=am_ ck
 have H:=am_ h
 clear h cb ck hsn hsp
 go_enter Try.func93,Try.ntmps93
 go_wp2_with (first
  | (go_at_call 89;refine (tG.below HW.out A1.out).mono ?_;rintro e w' ⟨rfl,hw,-⟩;replace HW:=am_ hw;clear hw;obtain ⟨⟨hc0,_,_,_,_,_,_,_⟩,_,_⟩:=HW.out.cells)
  | ((with_reducible refine gate_dst (N:=55) rfl ?_);refine Kd.R_make (Kd.int .i64) (w0:=w0) w0.heap.size 3 rfl (N:=55) rfl 23 _ _ rfl (x.K.length:Int) rfl rfl Try.underlying23 (.int .i64 0) 8 info3 rfl (by decide) (by omega) 0 (ok:=fun _=>True) (okp:=fun _=>True) rfl (fun _ hk=>hk) trivial (by omega) (by have:=CK.out;omega) HW.out.hB HW.out.hB.size ?_;intro v12 w1 ho hb hg_ hnew_;replace HW:=am_ (HW.out.grown hg_ (by simp) hb);obtain ⟨Aw,cw,ew⟩:=Kd.R_slice ho;subst ew;simp only [List.length_replicate,Int.toNat_natCast] at ho;have RW:=am_ ho;clear ho hb hg_ hnew_;obtain ⟨⟨hc0,_,_,_,_,_,_,_⟩,_,_⟩:=HW.out.cells))
 go_loopg [61] x.K.length (fun kq v61 w'=>∃ (i:Nat) (l:List Int),v61=.int .i64 (i:Int)∧Aside0 (i≤x.K.length∧kq=x.K.length - i)∧Aside0 (l.length=x.K.length∧∀ q:Nat,q<i→rd l (q:Int)=(rd_T80 x.K (q:Int)).f3)∧Aside0 (Kd.R (Kd.int .i64) 3 w' w0.heap.size (fun _=>True) (.slice Aw x.K.length cw) l)∧Aside0 (tG.Wk w0 w' g x b2))
 case atStart=>exact ⟨0,List.replicate x.K.length 0,rfl,⟨Nat.zero_le _,rfl⟩,⟨by simp,fun q hq=>absurd hq (by omega)⟩,RW,HW⟩
 case round =>
  clear HW RW hc0
  obtain ⟨i,l,rfl,HK,HL,RW,HW⟩:=hrel
  obtain ⟨⟨hc0,_,_,_,_,_,_,_⟩,_,_⟩:=HW.out.cells
  by_cases ci:i<x.K.length
  ·have d0:decide ((i:Int)<(x.K.length:Int))=true:=dt_ (by omega)
   have d1:decide (i<x.K.length)=true:=dt_ ci
   have CI:=am_ ci
   obtain ⟨gw,cw',ew,hgb,hgl,hcl,hcw⟩:=Kd.R_form RW.out (by have:=HL.out.1;omega)
   injection ew with e1 e2 e3
   subst e1 e3
   obtain ⟨ad,eA,hx0,hx1,hx2,hx3⟩:=at_T80 ((OK.out.below HW.out.hB).K) (i:Int) (by omega) (by omega)
   simp only [Int.toNat_natCast] at hx0 hx1 hx2 hx3
   have p1:=eq_true (show (0:Int)≤(i:Int) by omega)
   have p2:=eq_true (show (i:Int)<(x.K.length:Int) by omega)
   have GB:=am_ hgb
   clear ci hgl hgb e2
   go_wp2_with ((with_reducible refine gate_dst (N:=14) rfl ?_);refine box_ev (N:=14) (cs:=#[.string ⟨#[]⟩,.int .i64 0,.int .i64 0,.int .i64 0]) (t:=80) ?_;intro g14 hg w2 hbox hb;have B14:=am_ hbox;have N14:Aside0 (g≠g14):=⟨by rw [hg];exact Nat.ne_of_lt (blk_lt HW.out.hb)⟩;have G14:Aside0 (w0.heap.size≤g14):=⟨by rw [hg];exact HW.out.hB.size⟩;replace HW:=am_ (HW.out.step hb);replace RW:=am_ (Kd.R_below RW.out hb);replace hcw:=blk_below hcw hb;clear hb hbox hg;obtain ⟨hd0,hd1,hd2,hd3,he0,he1,he2,he3⟩:=cells4 B14.out;have m1_:gw≠g14:=blk_ne hcw B14.out (by decide);have m2_:=m1_.symm;obtain ⟨aw,eW,hy0⟩:=Kd.at_int (Kd.R_reads' RW.out).2.2 (i:Int) (by omega) (by have:=HL.out.1;have:=CI.out;omega);obtain rfl:aw=⟨gw,0,none⟩:=(oj_ eW).symm;simp only [add_plain,Int.toNat_natCast] at hy0;have hz0:=blk_frozen hcw i)
   replace HW:=am_ ((((HW.out.away N14.out G14.out (i:=0) (.string (rd_T80 x.K (i:Int)).f0)).away N14.out G14.out (i:=1) (.int .i64 (rd_T80 x.K (i:Int)).f1)).away N14.out G14.out (i:=2) (.int .i64 (rd_T80 x.K (i:Int)).f2)).away N14.out G14.out (i:=3) (.int .i64 (rd_T80 x.K (i:Int)).f3))
   have n1_:Kd.R (Kd.int .i64) 3 ((((w2.setCell ⟨g14,0,none⟩ (.string (rd_T80 x.K (i:Int)).f0)).setCell ⟨g14,1,none⟩ (.int .i64 (rd_T80 x.K (i:Int)).f1)).setCell ⟨g14,2,none⟩ (.int .i64 (rd_T80 x.K (i:Int)).f2)).setCell ⟨g14,3,none⟩ (.int .i64 (rd_T80 x.K (i:Int)).f3)) w0.heap.size _ _ l:=Kd.R_fars g14 (Kd.R_types RW.out B14.out (by decide)) (fun _ hk=>hk.2) (fun k_ hk_=>set_far hk_ (set_far hk_ (set_far hk_ (set_far hk_ rfl))))
   replace RW:=am_ (Kd.R_mono n1_ (ok':=fun _=>True) (fun _ _=>trivial))
   have hp0:=Kd.R_putg RW.out (i:Int) (rd_T80 x.K (i:Int)).f3
   simp only [Int.toNat_natCast] at hp0
   have HP:=am_ hp0
   clear hp0
   have hgw:w0.heap.size≤gw:=GB.out
   have hne:g≠gw:=blk_ne HW.out.hb (show _=some (.cells hcl 3 (0,0)) from (set_far m1_ (set_far m1_ (set_far m1_ (set_far m1_ rfl)))).trans hcw) (by decide)
   simp only [← eA]
   go_roundg (x.K.length - (i+1))
   case measure=>have:=HK.out;have:=CI.out;omega
   case rel =>
    refine ⟨i+1,l.set i (rd_T80 x.K (i:Int)).f3,?_,⟨CI.out,rfl⟩,⟨by rw [List.length_set];exact HL.out.1,fun q hq=>?_⟩,⟨HP.out.1⟩,⟨HW.out.away hne hgw _⟩⟩
    ·congr 1;have:=CK.out;have:=CI.out;unfold wrap64;omega
    ·have hl:=HL.out.1
     have:=CI.out
     by_cases cq:q=i
     ·subst cq;unfold rd;simp [List.getD,show q<l.length by omega]
     ·rw [← HL.out.2 q (by omega)];unfold rd;simp [List.getD,List.getElem?_set_ne (show i≠q from fun e=>cq e.symm)]
  ·have d0:decide ((i:Int)<(x.K.length:Int))=false:=df_ (by omega)
   have d1:decide (i<x.K.length)=false:=df_ ci
   obtain rfl:i=x.K.length:=by have:=HK.out;omega
   have hl:l=x.K.map (·.f3):=by
    apply List.ext_getElem (by simpa using HL.out.1)
    intro q h1 h2
    have h3:=HL.out.2 q (by have:=HL.out.1;omega)
    have h4:q<x.K.length:=by have:=HL.out.1;omega
    unfold rd at h3;unfold rd_T80 at h3
    simp [List.getD,h1,h4] at h3
    simpa using h3
   have h:=H.out
   obtain ⟨⟨p1,p2⟩,hp,h⟩:=Option.bind_eq_some_iff.1 h
   dsimp only at h
   rw [← hl] at hp
   have A2:=am_ hp
   have CC:=am_ HL.out.1
   clear hp ci H HL hl
   have H:=am_ h
   clear h
   have hc15:=HW.out.cells.2.1.2.2.2.2.2.2.2
   have hf15:=HW.out.cells.2.2
   go_upto_region 13 with (first
    | (go_at_call 108;refine (tG.pick CC.out RW.out A2.out).mono ?_;rintro e w' ⟨rfl,hb⟩;replace HW:=am_ (HW.out.step hb);clear hb)
    | ((with_reducible refine gate_dst (N:=16) rfl ?_);refine box_ev (N:=16) (cs:=#[.int .u64 0]) (t:=45) ?_;intro g16 hg w2 hbox hb;have B16:=am_ hbox;have N16:Aside0 (g≠g16):=⟨by rw [hg];exact Nat.ne_of_lt (blk_lt HW.out.hb)⟩;have G16:Aside0 (w0.heap.size≤g16):=⟨by rw [hg];exact HW.out.hB.size⟩;replace HW:=am_ (HW.out.step hb);clear hb hbox hg;obtain ⟨hd0,he0⟩:=cells1 B16.out;obtain ⟨_,⟨_,_,_,_,_,_,_,hc15⟩,hf15⟩:=HW.out.cells;have m1_:=N16.out;have m2_:=m1_.symm))
   replace HW:=am_ ((HW.out.away N16.out G16.out (i:=0) (.int .u64 p2)).put p2)
   generalize ((w2.setCell ⟨g16,0,none⟩ (.int .u64 p2)).setCell ⟨g,15,none⟩ (.int .u64 p2))=w3 at HW ⊢
   clear hd0 he0 hc0 hc15 hf15 B16 N16 G16 m1_ m2_ RW CC A2
   have hc10:=HW.out.cells.2.1.2.2.1
   by_cases c1:p1<0
   ·have h:=H.out
    rw [if_pos (.inl c1)] at h
    simp only [Option.some.injEq,Prod.mk.injEq] at h
    obtain ⟨rfl,rfl,rfl,rfl,rfl,rfl,rfl⟩:=h
    have c1b:=dt_ c1
    clear H c1
    go_wp2
    go_ret
    exact ⟨rfl,HW.out.out⟩
   by_cases c2:200≤x.H.length
   ·have h:=H.out
    rw [if_pos (.inr c2)] at h
    simp only [Option.some.injEq,Prod.mk.injEq] at h
    obtain ⟨rfl,rfl,rfl,rfl,rfl,rfl,rfl⟩:=h
    have c1b:=df_ c1
    have c2b:decide ((200:Int)≤(x.H.length:Int))=true:=dt_ (by omega)
    have c3b:decide (200≤x.H.length)=true:=dt_ c2
    clear H c1 c2
    go_wp2
    go_ret
    exact ⟨rfl,HW.out.out⟩
   have h:=H.out
   rw [if_neg (fun e=>e.elim c1 c2)] at h
   obtain ⟨⟨q1,q2⟩,hq,h⟩:=Option.bind_eq_some_iff.1 h
   obtain ⟨H1,hH1,h⟩:=Option.bind_eq_some_iff.1 h
   obtain ⟨H2,hH2,h⟩:=Option.bind_eq_some_iff.1 h
   simp only [Option.some.injEq,Prod.mk.injEq] at h
   obtain ⟨rfl,rfl,rfl,rfl,rfl,rfl,rfl⟩:=h
   have A3:=am_ hq
   have A4:=am_ hH1
   have A5:=am_ hH2
   have c1b:=df_ c1
   have c2b:decide ((200:Int)≤(x.H.length:Int))=false:=df_ (by omega)
   have c3b:decide (200≤x.H.length)=false:=df_ c2
   clear H c1 c2 hq hH1 hH2
   obtain ⟨⟨hc0,hc1,hc2,hc3,hc4,hc5,hc6,hc7⟩,⟨hc8,hc9,hc10,hc11,hc12,hc13,hc14,hc15⟩,hf15⟩:=HW.out.cells
   go_upto_region 16 with (go_at_call 101;refine (town_house.calls _ _ _ _ _ _ _ _ _ _ _ _ _ (OK.out.below HW.out.hB).H OK.out.cH (OK.out.below HW.out.hB).M OK.out.cM A3.out).mono ?_;rintro e w' ⟨rfl,hb⟩;replace HW:=am_ (HW.out.step hb);clear hb)
   clear hc0 hc1 hc2 hc3 hc4 hc5 hc6 hc7 hc8 hc9 hc10 hc11 hc12 hc13 hc14 hc15 hf15
   replace HW:=am_ HW.out.drew
   refine start_ (n:=21) (S:=fun w'=>tG.Wk w0 w' g x p2) (ds:=[20]) #[false,false,false,false,false,false,false,false,false,false,false,false,false,false,false,false,false,false,false,false,false] (by kernel_rfl) rfl rfl HW.out (fun hHeld=>?_)
   generalize hWd:World.drew _=wd at HW hHeld ⊢
   clear hWd
   refine pI 0 (some 105) ?_
   refine pI 1 (some 106) ?_
   refine pI 2 (some 107) ?_
   refine pI 3 (some 108) ?_
   refine pI 4 (some 109) ?_
   refine take_ (i:=5) (N:=some 110) (v:=?_) (a':=?_) #[true,true,true,true,true,true,false,false,false,false,false,false,false,false,false,false,false,false,false,false,false] rfl rfl (by kernel_rfl) (fun _ _ _ h=>h) (Or.inl ⟨by rfl,?_⟩) hHeld ?_ ?_;rotate_left
   ·intro w' s0;obtain ⟨_,⟨_,_,hc10,_,_,_,_,_⟩,_⟩:=s0.cells;go_simp;with_reducible rfl
   rotate_left
   ·simp only [Act.put,sl_,i64_w,i32_w];rfl
   refine pI 7 (some 112) ?_
   refine pI 8 (some 113) ?_
   refine pI 9 (some 114) ?_
   refine pI 10 (some 115) ?_
   refine pI 11 (some 116) ?_
   refine pI 12 (some 117) ?_
   refine take_ (i:=13) (N:=some 118) (v:=?_) (a':=?_) #[true,true,true,true,true,true,false,true,true,true,true,true,true,true,false,false,false,false,false,false,false] rfl rfl (by kernel_rfl) (fun _ _ _ h=>h) (Or.inl ⟨by rfl,?_⟩) hHeld ?_ ?_;rotate_left
   ·intro w' s0;obtain ⟨_,⟨_,_,_,_,_,_,hc14,_⟩,_⟩:=s0.cells;go_simp;with_reducible rfl
   rotate_left
   ·simp only [Act.put,sl_,i64_w,i32_w];rfl
   refine pI 14 (some 119) ?_
   refine join_ (σ:=Value × Value) 5 #[true,true,true,true,true,true,true,true,true,true,true,true,true,true,true,true,false,false,false,false,false] (fun s_=>[(111,s_.1),(120,s_.2)]) (fun s_ w'=>tG.Wk w0 w' g x p2∧Kd.R k68 68 w' w0.heap.size (fun k=>some k=s_.1.ownBlock) s_.1 H1∧Kd.R k68 68 w' w0.heap.size (fun k=>some k=s_.2.ownBlock) s_.2 [(⟨beyond,p1,x.day⟩:S68)]∧∀ k,some k=s_.2.ownBlock→¬ some k=s_.1.ownBlock) ?_ ?_;rotate_left
   ·intro hCont
    refine two_ (i:=6) (j:=15) (Ni:=some 111) (Nj:=some 120) #[true,true,true,true,true,true,true,true,true,true,true,true,true,true,true,false,false,false,false,false,false] #[true,true,true,true,true,true,false,true,true,true,true,true,true,true,true,true,false,false,false,false,false] rfl rfl rfl rfl (by kernel_rfl) (by decide) (by decide) (fun K hK=>?_) (fun K hK=>?_)
    ·refine goes_ Try.func77 (by kernel_rfl) rfl #[.slice x.AH x.H.length x.cH] (by rfl) rfl rfl ga_ ?_
     refine (api_House_77.calls _ _ _ _ _ (OK.out.below HW.out.hB).H OK.out.cH A4.out).mono ?_
     rintro e w1 ⟨vC,rfl,ho0,hb⟩
     refine ⟨_,rfl,?_⟩
     replace ho0:=Kd.R_tight rfl (Kd.R_lower ho0 HW.out.hB.size)
     replace HW:=am_ (HW.out.step hb)
     clear hb
     refine hK.out _ _ HW.out (fun hHeld=>?_);clear hK K
     refine nrm 111 ?_
     refine oI 15 (some 120) (fun K hK=>?_)
     refine Kd.R_lit_step k68 (w0:=w0) w0.heap.size 68 rfl (N:=120) rfl (xs:=[(⟨beyond,p1,x.day⟩:S68)]) (inner:=[.int .i64 beyond,.int .i64 p1,.int .i64 x.day]) (ok:=fun _=>True) (okp:=fun _=>True) (by go_simp) (tG.one_rep _ _ _ _) (fun _ hk=>hk) trivial HW.out.hB HW.out.hB.size (by simp) ?_
     intro vL w2 ho1 hb hg_ hnew
     replace HW:=am_ (HW.out.grown hg_ (by simp) hb)
     have hlt:=Kd.R_lt ho0
     replace ho0:=Kd.R_step ho0 (fun k _ hk=>hg_.block k hk (by simp))
     refine hK.out _ _ HW.out (fun hHeld=>?_);clear hK K
     refine nrm 120 ?_
     exact norm_ (by simp only [putAll,Act.put,sl_]) (hCont (vC,vL) _ ⟨HW.out,ho0,Kd.R_tight rfl ho1,fun k h1 h2=>by obtain ⟨b,hb1,hb2⟩:=hnew;have:=hlt k h2.symm;rw [hb1] at h1;injection h1 with h1;omega⟩)
    ·refine Kd.R_lit_step k68 (w0:=w0) w0.heap.size 68 rfl (N:=120) rfl (xs:=[(⟨beyond,p1,x.day⟩:S68)]) (inner:=[.int .i64 beyond,.int .i64 p1,.int .i64 x.day]) (ok:=fun _=>True) (okp:=fun _=>True) (by go_simp) (tG.one_rep _ _ _ _) (fun _ hk=>hk) trivial HW.out.hB HW.out.hB.size (by simp) ?_
     intro vL w1 ho1 hb hg_ hnew
     replace HW:=am_ (HW.out.grown hg_ (by simp) hb)
     have hlt:=Kd.R_lt ho1
     clear hb hg_ hnew
     refine hK.out _ _ HW.out (fun hHeld=>?_);clear hK K
     refine nrm 120 ?_
     refine oI 6 (some 111) (fun K hK=>?_)
     refine goes_ Try.func77 (by kernel_rfl) rfl #[.slice x.AH x.H.length x.cH] (by rfl) rfl rfl ga_ ?_
     refine (api_House_77.calls _ _ _ _ _ (OK.out.below HW.out.hB).H OK.out.cH A4.out).mono ?_
     rintro e w2 ⟨vC,rfl,ho0,hb⟩
     refine ⟨_,rfl,?_⟩
     have hge:=Kd.R_base ho0
     replace ho0:=Kd.R_tight rfl (Kd.R_lower ho0 HW.out.hB.size)
     replace HW:=am_ (HW.out.step hb)
     refine hK.out _ _ HW.out (fun hHeld=>?_);clear hK K
     refine nrm 111 ?_
     exact norm_ (by simp only [putAll,Act.put,sl_]) (hCont (vC,vL) _ ⟨HW.out,ho0,Kd.R_tight rfl (Kd.R_below ho1 hb),fun k h1 h2=>by have:=hlt k h1.symm;have:=hge k h2.symm;omega⟩)
   clear HW hHeld
   rintro ⟨vC,vL⟩ w4 ⟨hw,hoC,hoL,hap⟩
   dsimp only at hoC hoL hap
   have HW:=am_ hw
   have hHeld:=hw
   obtain ⟨Ac,cc,ec⟩:=Kd.R_slice hoC
   obtain ⟨Al,cl,el⟩:=Kd.R_slice hoL
   subst ec el
   have RC:=am_ hoC
   have RL:=am_ hoL
   have AP:=am_ hap
   clear hw hoC hoL hap
   refine norm_ (a':=?_) ?_ ?_;rotate_left
   ·simp only [putAll,Act.put,sl_];rfl
   refine oI 16 (some 121) (fun K hK=>?_)
   refine goes_ Try.func109 (by kernel_rfl) rfl #[.slice Ac H1.length cc,.int .i64 q1,.slice Al ([(⟨beyond,p1,x.day⟩:S68)]:List S68).length cl] (by rfl) rfl rfl ga_ ?_
   refine (api_House_109.calls _ _ H1 q1 Al cl [(⟨beyond,p1,x.day⟩:S68)] H2 w0 w4 HW.out.hB RC.out ⟨_,_,AP.out,RL.out⟩ (Kd.R_reads' RL.out).2.1 A5.out).mono ?_
   rintro e w5 ⟨vH,rfl,hoH,hb5,hk5⟩
   obtain ⟨Ah,ch,eh⟩:=Kd.R_slice hoH
   subst eh
   refine ⟨_,rfl,?_⟩
   replace HW:Aside0 (tG.Wk w0 w5 g x p2):=⟨(hk5.2 g (blk_lt HW.out.hb) (fun e=>Kd.R_ne RC.out HW.out.hb (by decide) e)).trans HW.out.hb,hb5,HW.out.hg⟩
   clear RC RL AP hk5 hb5
   refine hK.out _ _ HW.out (fun hHeld=>?_);clear hK K
   refine nrm 121 ?_
   refine pI 17 (some 122) ?_
   refine pI 18 (some 123) ?_
   refine pI 19 (some 124) ?_
   refine last_ (i:=20) (N:=none) #[true,true,true,true,true,true,true,true,true,true,true,true,true,true,true,true,true,true,true,true,true] rfl rfl (by kernel_rfl) (by decide) (fun K hK=>?_)
   have hc10:=HW.out.cells.2.1.2.2.1
   have hf10:=blk_frozen HW.out.hb 10
   refine skip_ (w1:=?_) (by rfl) rfl ?_ ?_;rotate_left
   ·go_simp;rfl
   refine hK.out _ _ ?_
   clear hK K
   refine done_ (by kernel_rfl) ?_
   have n0_:tG.Out w0 (w5.setCell ⟨g,10,none⟩ (.slice Ah H2.length ch)) g x x.SW x.SH x.A x.Y H2 p2 :=
    ⟨_,_,_,blk_set HW.out.hb 10 _,tG.Ro.same,tG.Ro.same,.inr ⟨_,_,Kd.R_far (p:=⟨g,10,none⟩) (Kd.R_types hoH HW.out.hb (by decide)) (fun _ hk=>hk.2) _⟩,HW.out.hB.setCell HW.out.hg _⟩
   generalize w5.setCell ⟨g,10,none⟩ (.slice Ah H2.length ch)=w6 at n0_ ⊢
   have HO:=am_ n0_
   clear n0_ hc10 hf10 HW hoH hHeld
   go_wp2
   go_ret
   exact ⟨rfl,HO.out⟩
theorem tG.walk {k:Nat} {w0 w:World} {g:Nat} {x:tG.Cx} {s:Int} {told SW SH:Int} {A Y:List Int} {H:List S68} {s':Int} (hW:tG.Wk w0 w g x s) (ok:x.ok w0)
  (h:tG.wlk k x.K x.LW x.LH x.C x.SW x.SH x.A x.Y x.D x.tt x.H x.M x.mv x.du x.day 20 x.tt s=some (told,SW,SH,A,Y,H,s')) :
  Calls Try.prog 74 #[.pointer (some ⟨g,0,none⟩)] w fun e w'=>e=.returned (.int .i64 told)∧tG.Out w0 w' g x SW SH A Y H s':=by
 have hu45:=Try.underlying45
 have hu25:=Try.underlying25
 have hu60:=Try.underlying60
 have hu62:=Try.underlying62
 have hu58:=Try.underlying58
 have hu104:=Try.underlying104
 have HW:=am_ hW
 have OK:=am_ ok
 have H0:=am_ h
 obtain ⟨⟨hc0,hc1,hc2,hc3,hc4,hc5,hc6,hc7⟩,⟨hc8,hc9,hc10,hc11,hc12,hc13,hc14,hc15⟩,hf15⟩:=HW.out.cells
 clear hW ok h
 go_enter Try.func74,Try.ntmps74
 go_wp2_with (first|go_step3|((with_reducible refine gate_dst (N:=5) rfl ?_);refine box_ev (N:=5) (cs:=#[.int .i64 0,.int .i64 0,.slice none 0 0,.slice none 0 0]) (t:=60) ?_;intro g5 hg w1 hbox hb;have B5:=am_ hbox;have N5:Aside0 (g≠g5):=⟨by rw [hg];exact Nat.ne_of_lt (blk_lt HW.out.hb)⟩;have G5:Aside0 (w0.heap.size≤g5):=⟨by rw [hg];exact HW.out.hB.size⟩;replace HW:=am_ (HW.out.step hb);clear hb hbox hg;obtain ⟨hd0,hd1,hd2,hd3,he0,he1,he2,he3⟩:=cells4 B5.out))
 replace HW:=am_ ((((HW.out.away N5.out G5.out (i:=0) (.int .i64 x.SW)).away N5.out G5.out (i:=1) (.int .i64 x.SH)).away N5.out G5.out (i:=2) (.slice x.AA x.A.length x.cA)).away N5.out G5.out (i:=3) (.slice x.AY x.Y.length x.cY))
 replace B5:=am_ (blk_puts4 (b0:=.int .i64 x.SW) (b1:=.int .i64 x.SH) (b2:=.slice x.AA x.A.length x.cA) (b3:=.slice x.AY x.Y.length x.cY) B5.out)
 go_loopg [3,4,21] 20 (fun kq v3 v4 v21 w'=>∃ (n:Nat) (tile s:Int),v3=.int .i64 tile∧v4=.int .i64 0∧v21=.int .i64 (20 - (n:Int))∧Aside0 (tG.wlk k x.K x.LW x.LH x.C x.SW x.SH x.A x.Y x.D x.tt x.H x.M x.mv x.du x.day n tile s=some (told,SW,SH,A,Y,H,s'))∧Aside0 (n≤20∧kq=n)∧Aside0 (tG.Wk w0 w' g x s)∧Aside0 (w'.heap[g5]?=some (.cells #[.int .i64 x.SW,.int .i64 x.SH,.slice x.AA x.A.length x.cA,.slice x.AY x.Y.length x.cY] 60 (0,0))))
 case atStart=>exact ⟨20,x.tt,s,rfl,rfl,rfl,H0,⟨by omega,rfl⟩,HW,B5⟩
 case round =>
  clear HW B5 H0 hd0 hd1 hd2 hd3 he0 he1 he2 he3 hc0 hc1 hc2 hc3 hc4 hc5 hc6 hc7 hc8 hc9 hc10 hc11 hc12 hc13 hc14 hc15 hf15
  obtain ⟨n,tile,s,rfl,rfl,rfl,H0,HK,HW,B5⟩:=hrel
  obtain ⟨⟨hc0,hc1,hc2,hc3,hc4,hc5,hc6,hc7⟩,⟨hc8,hc9,hc10,hc11,hc12,hc13,hc14,hc15⟩,hf15⟩:=HW.out.cells
  obtain ⟨hd0,hd1,hd2,hd3,he0,he1,he2,he3⟩:=cells4 B5.out
  cases n with
  | zero =>
   have h:=H0.out
   simp only [tG.wlk,Option.some.injEq,Prod.mk.injEq] at h
   obtain ⟨rfl,rfl,rfl,rfl,rfl,rfl,rfl⟩:=h
   have d0:decide ((20:Int) - ((0:Nat):Int)<20)=false:=rfl
   clear H0
   go_wp2_with (first|go_step3|fail)
   (try rw [Exit.noGoto_ret]);go_ret
   exact ⟨rfl,HW.out.out⟩
  | succ n =>
   have d0:decide ((20:Int) - ((n+1:Nat):Int)<20)=true:=dt_ (by omega)
   have h:=H0.out
   simp only [tG.wlk] at h
   obtain ⟨⟨b1,b2⟩,hb,h⟩:=Option.bind_eq_some_iff.1 h
   dsimp only at h
   by_cases hs:0≤b1∧b1≤3
   rotate_left
   ·rw [if_neg hs] at h;exact absurd h (by simp)
   rw [if_pos hs] at h
   obtain ⟨⟨y1,y2⟩,hy,h⟩:=Option.bind_eq_some_iff.1 h
   obtain ⟨⟨j1,j2⟩,hj,h⟩:=Option.bind_eq_some_iff.1 h
   dsimp only at h
   have A1:=am_ hb
   have A2:=am_ hy
   have A3:=am_ hj
   have HS:=am_ hs
   have H:=am_ h
   by_cases cy:y2=false
   ·have h:=H.out
    rw [if_pos cy] at h
    simp only [Option.some.injEq,Prod.mk.injEq] at h
    obtain ⟨rfl,rfl,rfl,rfl,rfl,rfl,rfl⟩:=h
    subst cy
    clear H
    go_wp2_with (first
    | go_step3
    | (go_at_call 89;refine (tG.below HW.out A1.out).mono ?_;rintro e w' ⟨rfl,hw,hk⟩;replace B5:=am_ ((hk.2 g5 (blk_lt B5.out) (Ne.symm N5.out)).trans B5.out);replace HW:=am_ hw;clear hw hk;obtain ⟨hd0,hd1,hd2,hd3,he0,he1,he2,he3⟩:=cells4 B5.out)
    | (go_at_call 90;refine (town_beside.calls _ _ _ _ _ _ _ A2.out).mono ?_;rintro e w' ⟨rfl,⟨nd,rfl⟩⟩;replace HW:=am_ (HW.out.draw nd);replace B5:=am_ (blk_below B5.out (pw_below_drewN (Below.refl _ _) nd)))
    | (go_at_call 91;refine (road_Joined.calls _ _ _ _ _ _ _ _ _ _ _ _ _ _ (OK.out.below HW.out.hB).A OK.out.cA (OK.out.below HW.out.hB).Y OK.out.cY A3.out).mono ?_;rintro e w' ⟨rfl,hb⟩;replace HW:=am_ (HW.out.step hb);replace B5:=am_ (blk_below B5.out hb);clear hb))
    (try rw [Exit.noGoto_ret]);go_ret
    exact ⟨rfl,HW.out.out⟩
   have h:=H.out
   rw [if_neg cy] at h
   obtain rfl:y2=true:=by simpa using cy
   by_cases cj:j1=true
   ·rw [if_pos cj] at h
    subst cj
    replace H:=am_ h
    clear h cy
    go_wp2_with (first
    | go_step3
    | (go_at_call 89;refine (tG.below HW.out A1.out).mono ?_;rintro e w' ⟨rfl,hw,hk⟩;replace B5:=am_ ((hk.2 g5 (blk_lt B5.out) (Ne.symm N5.out)).trans B5.out);replace HW:=am_ hw;clear hw hk;obtain ⟨hd0,hd1,hd2,hd3,he0,he1,he2,he3⟩:=cells4 B5.out)
    | (go_at_call 90;refine (town_beside.calls _ _ _ _ _ _ _ A2.out).mono ?_;rintro e w' ⟨rfl,⟨nd,rfl⟩⟩;replace HW:=am_ (HW.out.draw nd);replace B5:=am_ (blk_below B5.out (pw_below_drewN (Below.refl _ _) nd)))
    | (go_at_call 91;refine (road_Joined.calls _ _ _ _ _ _ _ _ _ _ _ _ _ _ (OK.out.below HW.out.hB).A OK.out.cA (OK.out.below HW.out.hB).Y OK.out.cY A3.out).mono ?_;rintro e w' ⟨rfl,hb⟩;replace HW:=am_ (HW.out.step hb);replace B5:=am_ (blk_below B5.out hb);clear hb))
    go_roundg n
    case measure=>have:=HK.out;omega
    case rel=>exact ⟨n,y1,b2,rfl,rfl,by congr 1;have:=HK.out;unfold wrap64;omega,H,⟨by have:=HK.out;omega,rfl⟩,HW,B5⟩
   rw [if_neg cj] at h
   obtain rfl:j1=false:=by simpa using cj
   by_cases ct:0≤tile∧tile<(x.A.length:Int)
   rotate_left
   ·rw [if_neg ct] at h;exact absurd h (by simp)
   rw [if_pos ct] at h
   have p1:=eq_true ct.1
   have p2:=eq_true ct.2
   have CT:=am_ ct
   clear cy cj ct H
   replace H:=am_ h
   clear h
   go_upto_region 11 with (first
    | go_step3
    | (go_at_call 89;refine (tG.below HW.out A1.out).mono ?_;rintro e w' ⟨rfl,hw,hk⟩;replace B5:=am_ ((hk.2 g5 (blk_lt B5.out) (Ne.symm N5.out)).trans B5.out);replace HW:=am_ hw;clear hw hk;obtain ⟨hd0,hd1,hd2,hd3,he0,he1,he2,he3⟩:=cells4 B5.out)
    | (go_at_call 90;refine (town_beside.calls _ _ _ _ _ _ _ A2.out).mono ?_;rintro e w' ⟨rfl,⟨nd,rfl⟩⟩;replace HW:=am_ (HW.out.draw nd);replace B5:=am_ (blk_below B5.out (pw_below_drewN (Below.refl _ _) nd)))
    | (go_at_call 91;refine (road_Joined.calls _ _ _ _ _ _ _ _ _ _ _ _ _ _ (OK.out.below HW.out.hB).A OK.out.cA (OK.out.below HW.out.hB).Y OK.out.cY A3.out).mono ?_;rintro e w' ⟨rfl,hb⟩;replace HW:=am_ (HW.out.step hb);replace B5:=am_ (blk_below B5.out hb);clear hb))
   obtain ⟨ad,eA,hx⟩:=Kd.at_int (OK.out.below HW.out.hB.drew).A tile CT.out.1 CT.out.2
   simp only [eA]
   replace HW:=am_ HW.out.drew
   replace B5:=am_ (blk_below B5.out (below_drew (Below.refl _ _)))
   refine start_ (n:=19) (S:=fun w'=>tG.Wk w0 w' g x b2∧w'.heap[g5]?=some (.cells #[.int .i64 x.SW,.int .i64 x.SH,.slice x.AA x.A.length x.cA,.slice x.AY x.Y.length x.cY] 60 (0,0))∧w'.cell? (ad.add tile.toNat)=some (.int .i64 (rd x.A tile))) (ds:=[]) #[false,false,false,false,false,false,false,false,false,false,false,false,false,false,false,false,false,false,false] (by kernel_rfl) rfl rfl ⟨HW.out,B5.out,hx⟩ (fun hHeld=>?_)
   generalize hWd:World.drew _=wd at HW B5 hHeld hx ⊢
   clear hWd
   by_cases ca:rd x.A tile=0
   ·have h:=H.out
    rw [if_pos ca] at h
    replace H:=am_ h
    have ca0:(rd x.A tile != 0)=false:=by simpa using ca
    have ca1:(rd x.A tile == 0)=true:=beq_iff_eq.2 ca
    clear h ca
    refine pI 0 (some 49) ?_
    refine take_ (i:=1) (N:=some 50) (v:=?_) (a':=?_) #[true,true,false,false,false,false,false,false,false,false,false,false,false,false,false,false,false,false,false] rfl rfl (by kernel_rfl) (fun _ _ _ h=>h) (Or.inl ⟨by rfl,?_⟩) hHeld ?_ ?_;rotate_left
    ·rintro w' ⟨s0,s1,s2⟩;obtain ⟨hd0,hd1,hd2,hd3,he0,he1,he2,he3⟩:=cells4 s1;go_simp;with_reducible rfl
    rotate_left
    ·simp only [Act.put,sl_,i64_w,i32_w];rfl
    refine pI 2 (some 51) ?_
    refine pI 3 (some 52) ?_
    refine take_ (i:=4) (N:=some 53) (v:=?_) (a':=?_) #[true,true,true,true,true,false,false,false,false,false,false,false,false,false,false,false,false,false,false] rfl rfl (by kernel_rfl) (fun _ _ _ h=>h) (Or.inl ⟨by rfl,?_⟩) hHeld ?_ ?_;rotate_left
    ·rintro w' ⟨s0,s1,s2⟩;go_simp;with_reducible rfl
    rotate_left
    ·simp only [Act.put,sl_,i64_w,i32_w];rfl
    refine pI 5 (some 54) ?_
    refine pI 6 (some 55) ?_
    refine pU 7 (some 56) ?_
    refine pU 8 (some 57) ?_
    refine pU 9 (some 58) ?_
    refine pU 10 (some 59) ?_
    refine pU 11 (some 60) ?_
    refine pU 12 (some 61) ?_
    refine pU 13 (some 62) ?_
    refine pU 14 (some 63) ?_
    refine pU 15 (some 64) ?_
    refine pU 16 (some 65) ?_
    refine pI 17 (some 66) ?_
    refine pI 18 (some 48) ?_
    refine done_ (by kernel_rfl) ?_
    clear hHeld hx
    go_wp2_with (first
    | go_step3
    | (go_at_call 89;refine (tG.below HW.out A1.out).mono ?_;rintro e w' ⟨rfl,hw,hk⟩;replace B5:=am_ ((hk.2 g5 (blk_lt B5.out) (Ne.symm N5.out)).trans B5.out);replace HW:=am_ hw;clear hw hk;obtain ⟨hd0,hd1,hd2,hd3,he0,he1,he2,he3⟩:=cells4 B5.out)
    | (go_at_call 90;refine (town_beside.calls _ _ _ _ _ _ _ A2.out).mono ?_;rintro e w' ⟨rfl,⟨nd,rfl⟩⟩;replace HW:=am_ (HW.out.draw nd);replace B5:=am_ (blk_below B5.out (pw_below_drewN (Below.refl _ _) nd)))
    | (go_at_call 91;refine (road_Joined.calls _ _ _ _ _ _ _ _ _ _ _ _ _ _ (OK.out.below HW.out.hB).A OK.out.cA (OK.out.below HW.out.hB).Y OK.out.cY A3.out).mono ?_;rintro e w' ⟨rfl,hb⟩;replace HW:=am_ (HW.out.step hb);replace B5:=am_ (blk_below B5.out hb);clear hb))
    (try simp only [← eA])
    go_roundg n
    case measure=>have:=HK.out;omega
    case rel=>exact ⟨n,tile,b2,rfl,rfl,by congr 1;have:=HK.out;unfold wrap64;omega,H,⟨by have:=HK.out;omega,rfl⟩,HW,B5⟩
   ·have h:=H.out
    rw [if_neg ca] at h
    obtain ⟨fr,hfr,h⟩:=Option.bind_eq_some_iff.1 h
    have A4:=am_ hfr
    replace H:=am_ h
    have ca0:(rd x.A tile != 0)=true:=by simpa using ca
    have ca1:(rd x.A tile == 0)=false:=beq_eq_false_iff_ne.2 ca
    clear h ca hfr
    refine pI 0 (some 49) ?_
    refine take_ (i:=1) (N:=some 50) (v:=?_) (a':=?_) #[true,true,false,false,false,false,false,false,false,false,false,false,false,false,false,false,false,false,false] rfl rfl (by kernel_rfl) (fun _ _ _ h=>h) (Or.inl ⟨by rfl,?_⟩) hHeld ?_ ?_;rotate_left
    ·rintro w' ⟨s0,s1,s2⟩;obtain ⟨hd0,hd1,hd2,hd3,he0,he1,he2,he3⟩:=cells4 s1;go_simp;with_reducible rfl
    rotate_left
    ·simp only [Act.put,sl_,i64_w,i32_w];rfl
    refine pI 2 (some 51) ?_
    refine pI 3 (some 52) ?_
    refine take_ (i:=4) (N:=some 53) (v:=?_) (a':=?_) #[true,true,true,true,true,false,false,false,false,false,false,false,false,false,false,false,false,false,false] rfl rfl (by kernel_rfl) (fun _ _ _ h=>h) (Or.inl ⟨by rfl,?_⟩) hHeld ?_ ?_;rotate_left
    ·rintro w' ⟨s0,s1,s2⟩;go_simp;with_reducible rfl
    rotate_left
    ·simp only [Act.put,sl_,i64_w,i32_w];rfl
    refine pI 5 (some 54) ?_
    refine pI 6 (some 55) ?_
    refine pI 7 (some 56) ?_
    refine pI 8 (some 57) ?_
    refine pI 9 (some 58) ?_
    refine take_ (i:=10) (N:=some 59) (v:=?_) (a':=?_) #[true,true,true,true,true,true,true,true,true,true,true,false,false,false,false,false,false,false,false] rfl rfl (by kernel_rfl) (fun _ _ _ h=>h) (Or.inl ⟨by rfl,?_⟩) hHeld ?_ ?_;rotate_left
    ·rintro w' ⟨s0,s1,s2⟩;obtain ⟨⟨hc0,hc1,hc2,hc3,hc4,hc5,hc6,hc7⟩,⟨hc8,hc9,hc10,hc11,hc12,hc13,hc14,hc15⟩,hf15⟩:=s0.cells;go_simp;with_reducible rfl
    rotate_left
    ·simp only [Act.put,sl_,i64_w,i32_w];rfl
    refine pI 11 (some 60) ?_
    refine pI 12 (some 61) ?_
    refine pI 13 (some 62) ?_
    refine take_ (i:=14) (N:=some 63) (v:=?_) (a':=?_) #[true,true,true,true,true,true,true,true,true,true,true,true,true,true,true,false,false,false,false] rfl rfl (by kernel_rfl) (fun _ _ _ h=>h) (Or.inl ⟨by rfl,?_⟩) hHeld ?_ ?_;rotate_left
    ·rintro w' ⟨s0,s1,s2⟩;obtain ⟨⟨hc0,hc1,hc2,hc3,hc4,hc5,hc6,hc7⟩,⟨hc8,hc9,hc10,hc11,hc12,hc13,hc14,hc15⟩,hf15⟩:=s0.cells;go_simp;with_reducible rfl
    rotate_left
    ·simp only [Act.put,sl_,i64_w,i32_w];rfl
    refine pI 15 (some 64) ?_
    refine oI 16 (some 65) (fun K hK=>?_)
    refine goes_ Try.func92 (by kernel_rfl) rfl #[.agg #[.int .i64 x.LW,.int .i64 x.LH,.slice x.AC x.C.length x.cC,.int .i64 x.SW,.int .i64 x.SH,.slice (some ad) x.A.length x.cA,.slice x.AY x.Y.length x.cY,.slice x.AD x.D.length x.cD],.agg #[.int .i64 x.tt,.slice x.AH x.H.length x.cH,.slice x.AM x.M.length x.cM,.int .i64 x.mv,.int .i64 x.du],.int .i64 y1] (by rfl) rfl rfl ga_ ?_
    have OK2:=OK.out.below HW.out.hB
    have hAA:=OK2.A
    rw [eA] at hAA
    refine (town_free.calls k _ _ _ _ _ _ _ _ _ _ _ _ _ _ _ _ _ _ _ _ _ _ _ _ _ _ _ _ OK2.C OK2.cC hAA OK2.cA OK2.Y OK2.cY OK2.D OK2.cD OK2.H OK2.cH OK2.M OK2.cM A4.out).mono ?_
    clear OK2 hAA
    rintro e w2 ⟨rfl,hb⟩
    refine ⟨_,rfl,?_⟩
    replace HW:=am_ (HW.out.step hb)
    replace B5:=am_ (blk_below B5.out hb)
    replace hx:=pw_cell_below hb hx
    clear hb
    refine hK.out _ _ ⟨HW.out,B5.out,hx⟩ (fun hHeld=>?_);clear hK K
    refine nrm 65 ?_
    refine pI 17 (some 66) ?_
    refine pI 18 (some 48) ?_
    refine done_ (by kernel_rfl) ?_
    clear hHeld hx
    by_cases cf:fr=true
    ·have h:=H.out
     rw [if_pos cf] at h
     subst cf
     replace H:=am_ h
     clear h
     go_wp2_with (first
      | go_step3
      | (go_at_call 93;refine (tG.build HW.out OK.out HS.out H.out).mono ?_;rintro e w3 ⟨rfl,hw⟩))
     (try rw [Exit.noGoto_ret]);go_ret
     exact ⟨rfl,hw⟩
    ·have h:=H.out
     rw [if_neg cf] at h
     obtain rfl:fr=false:=by simpa using cf
     replace H:=am_ h
     clear h cf
     go_wp2_with (first|go_step3|fail)
     (try simp only [← eA])
     go_roundg n
     case measure=>have:=HK.out;omega
     case rel=>exact ⟨n,tile,b2,rfl,rfl,by congr 1;have:=HK.out;unfold wrap64;omega,H,⟨by have:=HK.out;omega,rfl⟩,HW,B5⟩
theorem tG.fail (err:Int) (w:World):Calls Try.prog 69 #[.int .i64 err] w fun e w'=>e=.returned (.tuple #[.agg #[.int .i64 0,.slice none 0 0,.slice none 0 0,.int .i64 0,.int .i64 0],.agg #[.int .i64 0,.int .i64 0,.slice none 0 0,.slice none 0 0],.int .i64 0,.agg #[.int .u64 0],.int .i64 err])∧Below w.heap.size w w':=by
 have hu25:=Try.underlying25
 have hu60:=Try.underlying60
 have hu45:=Try.underlying45
 have HB:=am_ (Below.refl w.heap.size w)
 go_enter Try.func69,Try.ntmps69
 go_wp2_with (first
  | ((with_reducible refine gate_dst (N:=2) rfl ?_);refine box_ev (N:=2) (cs:=#[.int .i64 0,.slice none 0 0,.slice none 0 0,.int .i64 0,.int .i64 0]) (t:=25) ?_;intro ga hg w1 hbox hb;have BA:=am_ hbox;have GA:=gsz (w:=w) hg;replace HB:=am_ (below_step (hb_) hb);clear hb hbox hg)
  | ((with_reducible refine gate_dst (N:=3) rfl ?_);refine box_ev (N:=3) (cs:=#[.int .i64 0,.int .i64 0,.slice none 0 0,.slice none 0 0]) (t:=60) ?_;intro gb hg w2 hbox hb;have BB:=am_ hbox;have GB:=gsz (w:=w) hg;replace BA:=bkb BA hb;replace HB:=am_ (below_step (hb_) hb);clear hb hbox hg)
  | ((with_reducible refine gate_dst (N:=5) rfl ?_);refine box_ev (N:=5) (cs:=#[.int .u64 0]) (t:=45) ?_;intro gc hg w3 hbox hb;have BC:=am_ hbox;have GC:=gsz (w:=w) hg;replace BA:=bkb BA hb;replace BB:=bkb BB hb;replace HB:=am_ (below_step (hb_) hb);have HI:=am_ (tG.Rs.mk (w0:=w) BA.out BB.out BC.out HB.out GA.out GB.out GC.out);clear hb hbox hg BA BB BC HB GA GB GC;obtain ⟨⟨ha0,ha1,ha2,ha3,ha4⟩,⟨fa0,fa1,fa2,fa3,fa4⟩,⟨hb0,hb1,hb2,hb3⟩,⟨fb0,fb1,fb2,fb3⟩,hc0,fc0⟩:=HI.out.cells;have n1_:=HI.out.nab;have n2_:=n1_.symm;have n3_:=HI.out.nac;have n4_:=n3_.symm;have n5_:=HI.out.nbc;have n6_:=n5_.symm))
 refine bodyPost_ret (results_list (rs:=[.cell 2 25,.cell 3 60,.tmp 4,.cell 5 45,.tmp 6]) rfl (by simp) (HI.out.vals (ta:=2) (tb:=3) (tn:=4) (tc:=5) (te:=6) rfl rfl rfl)) rfl ?_
 exact ⟨rfl,HI.out.pB⟩
theorem tG.Ro.own {α:Type} {d:Kd α} {e:TypeId} {W W':World} {v v0:Value} {l l0:List α} {base:Nat} {ok:Nat→Prop} (h:tG.Ro d e W' v v0 l l0) (h0:Kd.R d e W base ok v0 l0) (hb:Below W.heap.size W W'):Aside0 (∃ base ok,Kd.R d e W' base ok v l) :=
 ⟨h.elim (fun e=>by obtain ⟨rfl,rfl⟩:=e;exact ⟨_,_,Kd.R_below h0 hb⟩) id⟩
theorem tG.calls (k:Nat) (A0:Option Addr) (c0:Nat) (l0:List (S80)) (a1_0:Int) (a1_1:Int) (A1_2:Option Addr) (c1_2:Nat) (l1_2:List Int) (a1_3:Int) (a1_4:Int) (A1_5:Option Addr) (c1_5:Nat) (l1_5:List Int) (A1_6:Option Addr) (c1_6:Nat) (l1_6:List Int) (A1_7:Option Addr) (c1_7:Nat) (l1_7:List Int) (a2_0:Int) (A2_1:Option Addr) (c2_1:Nat) (l2_1:List (S68)) (A2_2:Option Addr) (c2_2:Nat) (l2_2:List Int) (a2_3:Int) (a2_4:Int) (a3:Int) (a4_0:Int) (r1:Int) (r2:List (S68)) (r3:List Int) (r4:Int) (r5:Int) (r6:Int) (r7:Int) (r8:List Int) (r9:List Int) (r10:Int) (r11:Int) (r12:Int) (w:World) (hr0:Kd.C k80 w A0 l0.length l0) (hc0:l0.length≤c0) (hr1_2:Kd.C (Kd.int .i64) w A1_2 l1_2.length l1_2) (hc1_2:l1_2.length≤c1_2) (hr1_5:Kd.C (Kd.int .i64) w A1_5 l1_5.length l1_5) (hc1_5:l1_5.length≤c1_5) (hr1_6:Kd.C (Kd.int .i64) w A1_6 l1_6.length l1_6) (hc1_6:l1_6.length≤c1_6) (hr1_7:Kd.C (Kd.int .i64) w A1_7 l1_7.length l1_7) (hc1_7:l1_7.length≤c1_7) (hr2_1:Kd.C k68 w A2_1 l2_1.length l2_1) (hc2_1:l2_1.length≤c2_1) (hr2_2:Kd.C (Kd.int .i64) w A2_2 l2_2.length l2_2) (hc2_2:l2_2.length≤c2_2) (h:tG.f k l0 a1_0 a1_1 l1_2 a1_3 a1_4 l1_5 l1_6 l1_7 a2_0 l2_1 l2_2 a2_3 a2_4 a3 a4_0=some (r1,r2,r3,r4,r5,r6,r7,r8,r9,r10,r11,r12)) :
  Calls Try.prog 37 #[.slice A0 l0.length c0,.agg #[.int .i64 a1_0,.int .i64 a1_1,.slice A1_2 l1_2.length c1_2,.int .i64 a1_3,.int .i64 a1_4,.slice A1_5 l1_5.length c1_5,.slice A1_6 l1_6.length c1_6,.slice A1_7 l1_7.length c1_7],.agg #[.int .i64 a2_0,.slice A2_1 l2_1.length c2_1,.slice A2_2 l2_2.length c2_2,.int .i64 a2_3,.int .i64 a2_4],.int .i64 a3,.agg #[.int .u64 a4_0]] w fun e w'=>∃ v1_ v2_ v7_ v8_:Value,e=.returned (.tuple #[.agg #[.int .i64 r1,v1_,v2_,.int .i64 r4,.int .i64 r5],.agg #[.int .i64 r6,.int .i64 r7,v7_,v8_],.int .i64 r10,.agg #[.int .u64 r11],.int .i64 r12])∧(∃ base_ ok_,Kd.R k68 68 w' base_ ok_ v1_ r2)∧(∃ base_ ok_,Kd.R (Kd.int .i64) 3 w' base_ ok_ v2_ r3)∧(∃ base_ ok_,Kd.R (Kd.int .i64) 3 w' base_ ok_ v7_ r8)∧(∃ base_ ok_,Kd.R (Kd.int .i64) 3 w' base_ ok_ v8_ r9)∧Below w.heap.size w w':=by
 have hu25:=Try.underlying25
 have hu60:=Try.underlying60
 have hu62:=Try.underlying62
 have hu58:=Try.underlying58
 have hu45:=Try.underlying45
 have hu104:=Try.underlying104
 have R0:=am_ hr0
 have R12:=am_ hr1_2
 have R15:=am_ hr1_5
 have R16:=am_ hr1_6
 have R17:=am_ hr1_7
 have R21:=am_ hr2_1
 have R22:=am_ hr2_2
 clear hr0 hr1_2 hr1_5 hr1_6 hr1_7 hr2_1 hr2_2
 have HB:=am_ (Below.refl w.heap.size w)
 unfold tG.f at h
 obtain ⟨e1,hE1,h⟩:=Option.bind_eq_some_iff.1 h
 obtain ⟨e2,hE2,h⟩:=Option.bind_eq_some_iff.1 h
 obtain ⟨e3,hE3,h⟩:=Option.bind_eq_some_iff.1 h
 obtain ⟨er,hE4,h⟩:=Option.bind_eq_some_iff.1 h
 have A1:=am_ hE1
 have A2:=am_ hE2
 have A3:=am_ hE3
 have A4:=am_ hE4
 have H:=am_ h
 clear hE1 hE2 hE3 hE4 h
 go_enter Try.func37,Try.ntmps37
 go_upto_region 2 with (first
   | ((with_reducible refine gate_dst (N:=6) rfl ?_);refine box_ev (N:=6) (cs:=#[.int .i64 a1_0,.int .i64 a1_1,.slice A1_2 l1_2.length c1_2,.int .i64 a1_3,.int .i64 a1_4,.slice A1_5 l1_5.length c1_5,.slice A1_6 l1_6.length c1_6,.slice A1_7 l1_7.length c1_7]) (t:=62) ?_;intro g6 hg w1 hbox hb;have B6:=am_ hbox;have G6:=gsz (w:=w) hg;replace HB:=am_ (below_step (hb_) hb);clear hb hbox hg)
   | ((with_reducible refine gate_dst (N:=7) rfl ?_);refine box_ev (N:=7) (cs:=#[.int .i64 a2_0,.slice A2_1 l2_1.length c2_1,.slice A2_2 l2_2.length c2_2,.int .i64 a2_3,.int .i64 a2_4]) (t:=25) ?_;intro g7 hg w2 hbox hb;have B7:=am_ hbox;have G7:=gsz (w:=w) hg;replace B6:=bkb B6 hb;replace HB:=am_ (below_step (hb_) hb);clear hb hbox hg)
   | ((with_reducible refine gate_dst (N:=9) rfl ?_);refine box_ev (N:=9) (cs:=#[.int .u64 a4_0]) (t:=45) ?_;intro g9 hg w3 hbox hb;have B9:=am_ hbox;replace B6:=bkb B6 hb;replace B7:=bkb B7 hb;replace HB:=am_ (below_step (hb_) hb);clear hb hbox hg)
   | ((with_reducible refine gate_dst (N:=10) rfl ?_);refine box_ev (N:=10) (cs:=#[.int .i64 0,.slice none 0 0,.slice none 0 0,.int .i64 0,.int .i64 0]) (t:=25) ?_;intro ga hg w4 hbox hb;have BA:=am_ hbox;have GA:=gsz (w:=w) hg;have N7:=nbl B7 hg;replace B6:=bkb B6 hb;replace B7:=bkb B7 hb;replace B9:=bkb B9 hb;replace HB:=am_ (below_step (hb_) hb);clear hb hbox hg)
   | ((with_reducible refine gate_dst (N:=11) rfl ?_);refine box_ev (N:=11) (cs:=#[.int .i64 0,.int .i64 0,.slice none 0 0,.slice none 0 0]) (t:=60) ?_;intro gb hg w5 hbox hb;have BB:=am_ hbox;have GB:=gsz (w:=w) hg;replace B6:=bkb B6 hb;replace B7:=bkb B7 hb;replace B9:=bkb B9 hb;replace BA:=bkb BA hb;replace HB:=am_ (below_step (hb_) hb);clear hb hbox hg)
   | ((with_reducible refine gate_dst (N:=13) rfl ?_);refine box_ev (N:=13) (cs:=#[.int .u64 0]) (t:=45) ?_;intro gc hg w6 hbox hb;have BC:=am_ hbox;have GC:=gsz (w:=w) hg;have N9:=nbl B9 hg;replace B6:=bkb B6 hb;replace B7:=bkb B7 hb;replace B9:=bkb B9 hb;replace BA:=bkb BA hb;replace BB:=bkb BB hb;replace HB:=am_ (below_step (hb_) hb);have HI:=am_ (tG.Gr.mk (w0:=w) (tG.Rs.mk (w0:=w) BA.out BB.out BC.out HB.out GA.out GB.out GC.out) B6.out B7.out B9.out G6.out G7.out N7.out N9.out);clear hb hbox hg BA BB BC HB GA GB GC B6 B7 B9 G6 G7 N7 N9))
 replace HI:=am_ HI.out.drew
 refine start_ (n:=12) (S:=fun w'=>tG.Gr w w' g6 g7 g9 ga gb gc #[.int .i64 a1_0,.int .i64 a1_1,.slice A1_2 l1_2.length c1_2,.int .i64 a1_3,.int .i64 a1_4,.slice A1_5 l1_5.length c1_5,.slice A1_6 l1_6.length c1_6,.slice A1_7 l1_7.length c1_7] #[.int .i64 a2_0,.slice A2_1 l2_1.length c2_1,.slice A2_2 l2_2.length c2_2,.int .i64 a2_3,.int .i64 a2_4] a4_0) (ds:=[]) #[false,false,false,false,false,false,false,false,false,false,false,false] (by kernel_rfl) rfl rfl HI.out (fun hHeld=>?_)
 generalize hWd:World.drew _=wd at HI hHeld ⊢
 clear hWd
 refine pI 0 (some 21) ?_
 refine take_ (i:=1) (N:=some 22) (v:=?_) (a':=?_) #[true,true,false,false,false,false,false,false,false,false,false,false] rfl rfl (by kernel_rfl) (fun _ _ _ h=>h) (Or.inl ⟨by rfl,?_⟩) hHeld ?_ ?_;rotate_left
 ·intro w' s0;obtain ⟨hx0,hx1,hx2,hx3,hx4,_,_,_,_,_⟩:=cells5 s0.h7;go_simp;with_reducible rfl
 rotate_left
 ·simp only [Act.put,sl_,i64_w,i32_w];rfl
 refine pI 3 (some 24) ?_
 refine take_ (i:=4) (N:=some 25) (v:=?_) (a':=?_) #[true,true,false,true,true,false,false,false,false,false,false,false] rfl rfl (by kernel_rfl) (fun _ _ _ h=>h) (Or.inl ⟨by rfl,?_⟩) hHeld ?_ ?_;rotate_left
 ·intro w' s0;obtain ⟨hy0,hy1,hy2,hy3,hy4,hy5,hy6,hy7,_⟩:=cells8 s0.h6;go_simp;with_reducible rfl
 rotate_left
 ·simp only [Act.put,sl_,i64_w,i32_w];rfl
 refine pI 6 (some 27) ?_
 refine take_ (i:=7) (N:=some 28) (v:=?_) (a':=?_) #[true,true,false,true,true,false,true,true,false,false,false,false] rfl rfl (by kernel_rfl) (fun _ _ _ h=>h) (Or.inl ⟨by rfl,?_⟩) hHeld ?_ ?_;rotate_left
 ·intro w' s0;obtain ⟨hy0,hy1,hy2,hy3,hy4,hy5,hy6,hy7,_⟩:=cells8 s0.h6;go_simp;with_reducible rfl
 rotate_left
 ·simp only [Act.put,sl_,i64_w,i32_w];rfl
 refine oI 2 (some 23) (fun K hK=>?_)
 refine goes_ Try.func27 (by kernel_rfl) rfl #[.slice A0 l0.length c0,.agg #[.int .i64 a2_0,.slice A2_1 l2_1.length c2_1,.slice A2_2 l2_2.length c2_2,.int .i64 a2_3,.int .i64 a2_4]] (by rfl) rfl rfl ga_ ?_
 refine (town_Validate.calls k _ _ _ _ _ _ _ _ _ _ _ _ _ _ (Kd.C_below R0.out HI.out.ok) hc0 (Kd.C_below R21.out HI.out.ok) hc2_1 (Kd.C_below R22.out HI.out.ok) hc2_2 A1.out).mono ?_
 rintro e w1 ⟨rfl,hb⟩
 refine ⟨_,rfl,?_⟩
 replace HI:=am_ (HI.out.step hb)
 clear hb
 refine hK.out _ _ HI.out (fun hHeld=>?_);clear hK K
 refine nrm 23 ?_
 refine oI 5 (some 26) (fun K hK=>?_)
 refine goes_ Try.func70 (by kernel_rfl) rfl #[.agg #[.int .i64 a1_0,.int .i64 a1_1,.slice A1_2 l1_2.length c1_2]] (by rfl) rfl rfl ga_ ?_
 refine (land_Validate.calls k _ _ _ _ _ _ _ (Kd.C_below R12.out HI.out.ok) hc1_2 A2.out).mono ?_
 rintro e w1 ⟨rfl,hb⟩
 refine ⟨_,rfl,?_⟩
 replace HI:=am_ (HI.out.step hb)
 clear hb
 refine hK.out _ _ HI.out (fun hHeld=>?_);clear hK K
 refine nrm 26 ?_
 refine oI 8 (some 29) (fun K hK=>?_)
 refine goes_ Try.func71 (by kernel_rfl) rfl #[.agg #[.int .i64 a1_3,.int .i64 a1_4,.slice A1_5 l1_5.length c1_5,.slice A1_6 l1_6.length c1_6]] (by rfl) rfl rfl ga_ ?_
 refine (road_Validate.calls k _ _ _ _ _ _ _ _ _ _ (Kd.C_below R15.out HI.out.ok) hc1_5 (Kd.C_below R16.out HI.out.ok) hc1_6 A3.out).mono ?_
 rintro e w1 ⟨rfl,hb⟩
 refine ⟨_,rfl,?_⟩
 replace HI:=am_ (HI.out.step hb)
 clear hb
 refine hK.out _ _ HI.out (fun hHeld=>?_);clear hK K
 refine nrm 29 ?_
 refine oI 9 (some 30) (fun K hK=>?_)
 refine Kd.R_lit_step (Kd.int .i64) (w0:=w) w.heap.size 28 rfl (N:=30) rfl (xs:=([e1,e2,e3]:List Int)) (inner:=[.int .i64 e1,.int .i64 e2,.int .i64 e3]) (ok:=fun _=>True) (okp:=fun _=>True) (by go_simp) (tG.three_rep _ _ _ _ _ _) (fun _ hk=>hk) trivial HI.out.ok HI.out.ok.size (by simp) ?_
 intro v30 w1 ho hb hg_ hnew
 replace HI:=am_ (HI.out.step ⟨hg_.os,hg_.tape,hg_.output,hg_.size,fun k_ hk_=>hg_.block k_ hk_ (by simp)⟩)
 clear hb hg_ hnew
 refine hK.out _ _ HI.out (fun hHeld=>?_);clear hK K
 refine nrm 30 ?_
 obtain ⟨A30,c30,e30⟩:=Kd.R_slice ho
 subst e30
 refine oI 10 (some 31) (fun K hK=>?_)
 refine goes_ Try.func55 (by kernel_rfl) rfl #[.slice A30 ([e1,e2,e3]:List Int).length c30] (by rfl) rfl rfl ga_ ?_
 refine (api_Errno.calls k _ _ _ _ _ (Kd.R_reads' ho).2.2 (Kd.R_reads' ho).2.1 A4.out).mono ?_
 rintro e w2 ⟨rfl,⟨nd,rfl⟩⟩
 refine ⟨_,rfl,?_⟩
 replace HI:=am_ (HI.out.draw nd)
 clear ho
 refine hK.out _ _ HI.out (fun hHeld=>?_);clear hK K
 refine nrm 31 ?_
 refine pI 11 (some 16) ?_
 refine done_ (by kernel_rfl) ?_
 generalize hWd:World.drewN w1 nd=wd at HI ⊢
 clear hWd hHeld A1 A2 A3 A4
 by_cases ce:er≠0
 ·have h:=H.out
  rw [if_pos ce] at h
  simp only [Option.some.injEq,Prod.mk.injEq] at h
  obtain ⟨rfl,rfl,rfl,rfl,rfl,rfl,rfl,rfl,rfl,rfl,rfl,rfl⟩:=h
  have q1_:(er != 0)=true:=bne_iff_ne.2 ce
  have q2_:(er == 0)=false:=beq_eq_false_iff_ne.2 ce
  clear ce
  clear H
  obtain ⟨hx0,hx1,hx2,hx3,hx4,_,_,_,_,_⟩:=cells5 HI.out.h7
  obtain ⟨hy0,hy1,hy2,hy3,hy4,hy5,hy6,hy7,_⟩:=cells8 HI.out.h6
  go_wp2_with (first
   | (go_at_call 53;refine (town_within.calls _ _ _ _ AW.out).mono ?_;rintro e w2 ⟨rfl,⟨nd,rfl⟩⟩;replace HI:=am_ (HI.out.draw nd))
   | (go_at_call 69;refine (tG.fail _ _).mono ?_;rintro e w2 ⟨rfl,hb⟩;replace HI:=am_ (HI.out.step hb);clear hb;obtain ⟨⟨ha0,ha1,ha2,ha3,ha4⟩,⟨fa0,fa1,fa2,fa3,fa4⟩,⟨hb0,hb1,hb2,hb3⟩,⟨fb0,fb1,fb2,fb3⟩,hc0_,fc0⟩:=HI.out.rs.cells;have n1_:=HI.out.rs.nab;have n2_:=n1_.symm;have n3_:=HI.out.rs.nac;have n4_:=n3_.symm;have n5_:=HI.out.rs.nbc;have n6_:=n5_.symm))
  refine bodyPost_ret (results_list (rs:=[.cell 10 25,.cell 11 60,.tmp 12,.cell 13 45,.tmp 14]) rfl (by simp) (HI.out.rs.vals (ta:=10) (tb:=11) (tn:=12) (tc:=13) (te:=14) rfl rfl rfl)) rfl ?_
  exact ⟨_,_,_,_,rfl,⟨w.heap.size,fun _=>True,nl_⟩,⟨w.heap.size,fun _=>True,nl_⟩,⟨w.heap.size,fun _=>True,nl_⟩,⟨w.heap.size,fun _=>True,nl_⟩,HI.out.rs.pB⟩
 have h:=H.out
 rw [if_neg ce] at h
 replace H:=am_ h
 obtain rfl:er=0:=by simpa using ce
 clear ce h
 by_cases c1:a1_3≠a1_0
 ·have h:=H.out
  rw [if_pos (.inl c1)] at h
  simp only [Option.some.injEq,Prod.mk.injEq] at h
  obtain ⟨rfl,rfl,rfl,rfl,rfl,rfl,rfl,rfl,rfl,rfl,rfl,rfl⟩:=h
  clear H
  have q1_:(a1_3 != a1_0)=true:=bne_iff_ne.2 c1
  have q2_:(a1_3 == a1_0)=false:=beq_eq_false_iff_ne.2 c1
  clear c1
  obtain ⟨hx0,hx1,hx2,hx3,hx4,_,_,_,_,_⟩:=cells5 HI.out.h7
  obtain ⟨hy0,hy1,hy2,hy3,hy4,hy5,hy6,hy7,_⟩:=cells8 HI.out.h6
  go_wp2_with (first
   | (go_at_call 53;refine (town_within.calls _ _ _ _ AW.out).mono ?_;rintro e w2 ⟨rfl,⟨nd,rfl⟩⟩;replace HI:=am_ (HI.out.draw nd))
   | (go_at_call 69;refine (tG.fail _ _).mono ?_;rintro e w2 ⟨rfl,hb⟩;replace HI:=am_ (HI.out.step hb);clear hb;obtain ⟨⟨ha0,ha1,ha2,ha3,ha4⟩,⟨fa0,fa1,fa2,fa3,fa4⟩,⟨hb0,hb1,hb2,hb3⟩,⟨fb0,fb1,fb2,fb3⟩,hc0_,fc0⟩:=HI.out.rs.cells;have n1_:=HI.out.rs.nab;have n2_:=n1_.symm;have n3_:=HI.out.rs.nac;have n4_:=n3_.symm;have n5_:=HI.out.rs.nbc;have n6_:=n5_.symm))
  refine bodyPost_ret (results_list (rs:=[.cell 10 25,.cell 11 60,.tmp 12,.cell 13 45,.tmp 14]) rfl (by simp) (HI.out.rs.vals (ta:=10) (tb:=11) (tn:=12) (tc:=13) (te:=14) rfl rfl rfl)) rfl ?_
  exact ⟨_,_,_,_,rfl,⟨w.heap.size,fun _=>True,nl_⟩,⟨w.heap.size,fun _=>True,nl_⟩,⟨w.heap.size,fun _=>True,nl_⟩,⟨w.heap.size,fun _=>True,nl_⟩,HI.out.rs.pB⟩
 have q1_:(a1_3 != a1_0)=false:=by simpa using c1
 have q2_:(a1_3 == a1_0)=true:=by simpa using c1
 by_cases c2:a1_4≠a1_1
 ·have h:=H.out
  rw [if_pos (.inr c2)] at h
  simp only [Option.some.injEq,Prod.mk.injEq] at h
  obtain ⟨rfl,rfl,rfl,rfl,rfl,rfl,rfl,rfl,rfl,rfl,rfl,rfl⟩:=h
  clear H
  have q3_:(a1_4 != a1_1)=true:=bne_iff_ne.2 c2
  have q4_:(a1_4 == a1_1)=false:=beq_eq_false_iff_ne.2 c2
  clear c1 c2
  obtain ⟨hx0,hx1,hx2,hx3,hx4,_,_,_,_,_⟩:=cells5 HI.out.h7
  obtain ⟨hy0,hy1,hy2,hy3,hy4,hy5,hy6,hy7,_⟩:=cells8 HI.out.h6
  go_wp2_with (first
   | (go_at_call 53;refine (town_within.calls _ _ _ _ AW.out).mono ?_;rintro e w2 ⟨rfl,⟨nd,rfl⟩⟩;replace HI:=am_ (HI.out.draw nd))
   | (go_at_call 69;refine (tG.fail _ _).mono ?_;rintro e w2 ⟨rfl,hb⟩;replace HI:=am_ (HI.out.step hb);clear hb;obtain ⟨⟨ha0,ha1,ha2,ha3,ha4⟩,⟨fa0,fa1,fa2,fa3,fa4⟩,⟨hb0,hb1,hb2,hb3⟩,⟨fb0,fb1,fb2,fb3⟩,hc0_,fc0⟩:=HI.out.rs.cells;have n1_:=HI.out.rs.nab;have n2_:=n1_.symm;have n3_:=HI.out.rs.nac;have n4_:=n3_.symm;have n5_:=HI.out.rs.nbc;have n6_:=n5_.symm))
  refine bodyPost_ret (results_list (rs:=[.cell 10 25,.cell 11 60,.tmp 12,.cell 13 45,.tmp 14]) rfl (by simp) (HI.out.rs.vals (ta:=10) (tb:=11) (tn:=12) (tc:=13) (te:=14) rfl rfl rfl)) rfl ?_
  exact ⟨_,_,_,_,rfl,⟨w.heap.size,fun _=>True,nl_⟩,⟨w.heap.size,fun _=>True,nl_⟩,⟨w.heap.size,fun _=>True,nl_⟩,⟨w.heap.size,fun _=>True,nl_⟩,HI.out.rs.pB⟩
 have q3_:(a1_4 != a1_1)=false:=by simpa using c2
 have q4_:(a1_4 == a1_1)=true:=by simpa using c2
 have h:=H.out
 rw [if_neg (fun e=>e.elim c1 c2)] at h
 replace H:=am_ h
 clear c1 c2 h
 by_cases c3:a2_0≥wrap64 (a1_0 * a1_1)
 ·have h:=H.out
  rw [if_pos c3] at h
  simp only [Option.some.injEq,Prod.mk.injEq] at h
  obtain ⟨rfl,rfl,rfl,rfl,rfl,rfl,rfl,rfl,rfl,rfl,rfl,rfl⟩:=h
  clear H
  have q5_:decide (wrap64 (a1_0 * a1_1)≤a2_0)=true:=dt_ c3
  have q6_:decide (a2_0≥wrap64 (a1_0 * a1_1))=true:=dt_ c3
  clear c3
  obtain ⟨hx0,hx1,hx2,hx3,hx4,_,_,_,_,_⟩:=cells5 HI.out.h7
  obtain ⟨hy0,hy1,hy2,hy3,hy4,hy5,hy6,hy7,_⟩:=cells8 HI.out.h6
  go_wp2_with (first
   | (go_at_call 53;refine (town_within.calls _ _ _ _ AW.out).mono ?_;rintro e w2 ⟨rfl,⟨nd,rfl⟩⟩;replace HI:=am_ (HI.out.draw nd))
   | (go_at_call 69;refine (tG.fail _ _).mono ?_;rintro e w2 ⟨rfl,hb⟩;replace HI:=am_ (HI.out.step hb);clear hb;obtain ⟨⟨ha0,ha1,ha2,ha3,ha4⟩,⟨fa0,fa1,fa2,fa3,fa4⟩,⟨hb0,hb1,hb2,hb3⟩,⟨fb0,fb1,fb2,fb3⟩,hc0_,fc0⟩:=HI.out.rs.cells;have n1_:=HI.out.rs.nab;have n2_:=n1_.symm;have n3_:=HI.out.rs.nac;have n4_:=n3_.symm;have n5_:=HI.out.rs.nbc;have n6_:=n5_.symm))
  refine bodyPost_ret (results_list (rs:=[.cell 10 25,.cell 11 60,.tmp 12,.cell 13 45,.tmp 14]) rfl (by simp) (HI.out.rs.vals (ta:=10) (tb:=11) (tn:=12) (tc:=13) (te:=14) rfl rfl rfl)) rfl ?_
  exact ⟨_,_,_,_,rfl,⟨w.heap.size,fun _=>True,nl_⟩,⟨w.heap.size,fun _=>True,nl_⟩,⟨w.heap.size,fun _=>True,nl_⟩,⟨w.heap.size,fun _=>True,nl_⟩,HI.out.rs.pB⟩
 have q5_:decide (wrap64 (a1_0 * a1_1)≤a2_0)=false:=df_ c3
 have q6_:decide (a2_0≥wrap64 (a1_0 * a1_1))=false:=df_ c3
 have h:=H.out
 rw [if_neg c3] at h
 obtain ⟨wi,hwi,h⟩:=Option.bind_eq_some_iff.1 h
 have AW:=am_ hwi
 replace H:=am_ h
 clear c3 h hwi
 by_cases c4:wi=false
 ·have h:=H.out
  rw [if_pos c4] at h
  simp only [Option.some.injEq,Prod.mk.injEq] at h
  obtain ⟨rfl,rfl,rfl,rfl,rfl,rfl,rfl,rfl,rfl,rfl,rfl,rfl⟩:=h
  clear H
  subst c4
  obtain ⟨hx0,hx1,hx2,hx3,hx4,_,_,_,_,_⟩:=cells5 HI.out.h7
  obtain ⟨hy0,hy1,hy2,hy3,hy4,hy5,hy6,hy7,_⟩:=cells8 HI.out.h6
  go_wp2_with (first
   | (go_at_call 53;refine (town_within.calls _ _ _ _ AW.out).mono ?_;rintro e w2 ⟨rfl,⟨nd,rfl⟩⟩;replace HI:=am_ (HI.out.draw nd))
   | (go_at_call 69;refine (tG.fail _ _).mono ?_;rintro e w2 ⟨rfl,hb⟩;replace HI:=am_ (HI.out.step hb);clear hb;obtain ⟨⟨ha0,ha1,ha2,ha3,ha4⟩,⟨fa0,fa1,fa2,fa3,fa4⟩,⟨hb0,hb1,hb2,hb3⟩,⟨fb0,fb1,fb2,fb3⟩,hc0_,fc0⟩:=HI.out.rs.cells;have n1_:=HI.out.rs.nab;have n2_:=n1_.symm;have n3_:=HI.out.rs.nac;have n4_:=n3_.symm;have n5_:=HI.out.rs.nbc;have n6_:=n5_.symm))
  refine bodyPost_ret (results_list (rs:=[.cell 10 25,.cell 11 60,.tmp 12,.cell 13 45,.tmp 14]) rfl (by simp) (HI.out.rs.vals (ta:=10) (tb:=11) (tn:=12) (tc:=13) (te:=14) rfl rfl rfl)) rfl ?_
  exact ⟨_,_,_,_,rfl,⟨w.heap.size,fun _=>True,nl_⟩,⟨w.heap.size,fun _=>True,nl_⟩,⟨w.heap.size,fun _=>True,nl_⟩,⟨w.heap.size,fun _=>True,nl_⟩,HI.out.rs.pB⟩
 have h:=H.out
 rw [if_neg c4] at h
 obtain rfl:wi=true:=by simpa using c4
 obtain ⟨LA,hA,h⟩:=Option.bind_eq_some_iff.1 h
 obtain ⟨LY,hY,h⟩:=Option.bind_eq_some_iff.1 h
 obtain ⟨⟨t1,t2,t3,t4,t5⟩,hT,h⟩:=Option.bind_eq_some_iff.1 h
 dsimp only at h
 have A1:=am_ hA
 have A2:=am_ hY
 have A3:=am_ hT
 replace H:=am_ h
 clear c4 h hA hY hT
 obtain ⟨hx0,hx1,hx2,hx3,hx4,_,_,_,_,_⟩:=cells5 HI.out.h7
 obtain ⟨hy0,hy1,hy2,hy3,hy4,hy5,hy6,hy7,_⟩:=cells8 HI.out.h6
 go_upto_region 11 with (go_at_call 53;refine (town_within.calls _ _ _ _ AW.out).mono ?_;rintro e w2 ⟨rfl,⟨nd,rfl⟩⟩;replace HI:=am_ (HI.out.draw nd))
 clear hx0 hx1 hx2 hx3 hx4 hy0 hy1 hy2 hy3 hy4 hy5 hy6 hy7
 replace HI:=am_ HI.out.drew
 refine start_ (n:=14) (S:=fun w'=>tG.Gr w w' g6 g7 g9 ga gb gc #[.int .i64 a1_0,.int .i64 a1_1,.slice A1_2 l1_2.length c1_2,.int .i64 a1_3,.int .i64 a1_4,.slice A1_5 l1_5.length c1_5,.slice A1_6 l1_6.length c1_6,.slice A1_7 l1_7.length c1_7] #[.int .i64 a2_0,.slice A2_1 l2_1.length c2_1,.slice A2_2 l2_2.length c2_2,.int .i64 a2_3,.int .i64 a2_4] a4_0) (ds:=[10,13]) #[false,false,false,false,false,false,false,false,false,false,false,false,false,false] (by kernel_rfl) rfl rfl HI.out (fun hHeld=>?_)
 generalize hWd:World.drew _=wd at HI hHeld ⊢
 clear hWd
 refine pI 0 (some 95) ?_
 refine pI 1 (some 96) ?_
 refine take_ (i:=2) (N:=some 97) (v:=?_) (a':=?_) #[true,true,true,false,false,false,false,false,false,false,false,false,false,false] rfl rfl (by kernel_rfl) (fun _ _ _ h=>h) (Or.inl ⟨by rfl,?_⟩) hHeld ?_ ?_;rotate_left
 ·intro w' s0;obtain ⟨hy0,hy1,hy2,hy3,hy4,hy5,hy6,hy7,_⟩:=cells8 s0.h6;go_simp;with_reducible rfl
 rotate_left
 ·simp only [Act.put,sl_,i64_w,i32_w];rfl
 refine pI 4 (some 99) ?_
 refine pI 5 (some 100) ?_
 refine take_ (i:=6) (N:=some 101) (v:=?_) (a':=?_) #[true,true,true,false,true,true,true,false,false,false,false,false,false,false] rfl rfl (by kernel_rfl) (fun _ _ _ h=>h) (Or.inl ⟨by rfl,?_⟩) hHeld ?_ ?_;rotate_left
 ·intro w' s0;obtain ⟨hy0,hy1,hy2,hy3,hy4,hy5,hy6,hy7,_⟩:=cells8 s0.h6;go_simp;with_reducible rfl
 rotate_left
 ·simp only [Act.put,sl_,i64_w,i32_w];rfl
 refine oI 3 (some 98) (fun K hK=>?_)
 refine goes_ Try.func72 (by kernel_rfl) rfl #[.slice A1_5 l1_5.length c1_5] (by rfl) rfl rfl ga_ ?_
 refine (sClo_int_int.calls _ _ _ _ _ (Kd.C_below R15.out HI.out.ok) hc1_5 A1.out).mono ?_
 rintro e w3 ⟨v3,rfl,ho3,hb⟩
 refine ⟨_,rfl,?_⟩
 have hRA:=Kd.R_tight rfl (Kd.R_lower ho3 HI.out.ok.size)
 replace HI:=am_ (HI.out.step hb)
 clear hb ho3
 refine hK.out _ _ HI.out (fun hHeld=>?_);clear hK K
 refine nrm 98 ?_
 refine pI 8 (some 103) ?_
 refine pI 9 (some 104) ?_
 refine oI 7 (some 102) (fun K hK=>?_)
 refine goes_ Try.func72 (by kernel_rfl) rfl #[.slice A1_6 l1_6.length c1_6] (by rfl) rfl rfl ga_ ?_
 refine (sClo_int_int.calls _ _ _ _ _ (Kd.C_below R16.out HI.out.ok) hc1_6 A2.out).mono ?_
 rintro e w7 ⟨v7,rfl,ho7,hb⟩
 refine ⟨_,rfl,?_⟩
 have hlt:=Kd.R_lt hRA
 have hge:=Kd.R_base ho7
 have hRY:=Kd.R_tight rfl (Kd.R_lower ho7 HI.out.ok.size)
 replace hRA:=Kd.R_below hRA hb
 have hap:∀ k,some k=v3.ownBlock→¬ some k=v7.ownBlock:=fun k h1 h2=>by have:=hlt k h1.symm;have:=hge k h2.symm;omega
 replace HI:=am_ (HI.out.step hb)
 clear hb ho7 hlt hge
 obtain ⟨AA,cA,eA⟩:=Kd.R_slice hRA
 obtain ⟨AY,cY,eY⟩:=Kd.R_slice hRY
 subst eA eY
 have RA:=am_ hRA
 have RY:=am_ hRY
 have AP:=am_ hap
 clear hRA hRY hap
 refine hK.out _ _ HI.out (fun hHeld=>?_);clear hK K
 refine nrm 102 ?_
 refine last_ (i:=10) (N:=none) #[true,true,true,true,true,true,true,true,true,true,true,false,false,false] rfl rfl (by kernel_rfl) (by decide) (fun K hK=>?_)
 have hc5:=blk_cell HI.out.h6 5
 have hf5:=blk_frozen HI.out.h6 5
 refine skip_ (w1:=?_) (by rfl) rfl ?_ ?_;rotate_left
 ·go_simp;rfl
 refine hK.out _ _ ?_
 clear hK K hc5 hf5 hHeld
 replace RA:=am_ (Kd.R_far (p:=⟨g6,5,none⟩) (Kd.R_types RA.out HI.out.h6 (by decide)) (fun _ hk=>hk.2) (.slice AA LA.length cA))
 replace RY:=am_ (Kd.R_far (p:=⟨g6,5,none⟩) (Kd.R_types RY.out HI.out.h6 (by decide)) (fun _ hk=>hk.2) (.slice AA LA.length cA))
 replace HI:=am_ (HI.out.set6 5 (.slice AA LA.length cA))
 refine pI 11 (some 105) ?_
 refine pI 12 (some 106) ?_
 refine last_ (i:=13) (N:=none) #[true,true,true,true,true,true,true,true,true,true,true,true,true,true] rfl rfl (by kernel_rfl) (by decide) (fun K hK=>?_)
 have hc6:=blk_cell HI.out.h6 6
 have hf6:=blk_frozen HI.out.h6 6
 refine skip_ (w1:=?_) (by rfl) rfl ?_ ?_;rotate_left
 ·go_simp;rfl
 refine hK.out _ _ ?_
 clear hK K hc6 hf6
 replace RA:=am_ (Kd.R_far (p:=⟨g6,6,none⟩) (Kd.R_types RA.out HI.out.h6 (by decide)) (fun _ hk=>hk.2) (.slice AY LY.length cY))
 replace RY:=am_ (Kd.R_far (p:=⟨g6,6,none⟩) (Kd.R_types RY.out HI.out.h6 (by decide)) (fun _ hk=>hk.2) (.slice AY LY.length cY))
 replace HI:=am_ (HI.out.set6 6 (.slice AY LY.length cY))
 refine done_ (by kernel_rfl) ?_
 have h:=H.out
 by_cases ct:0≤t1∧t1<(LA.length:Int)
 rotate_left
 ·rw [if_neg ct] at h;exact absurd h (by simp)
 rw [if_pos ct] at h
 replace H:=am_ h
 have CT:=am_ ct
 clear h ct
 have RA0:=am_ (Kd.R_tight rfl RA.out)
 have RY0:=am_ (Kd.R_tight rfl RY.out)
 clear RA RY
 obtain ⟨hx0,hx1,hx2,hx3,hx4,hz0,hz1,hz2,hz3,hz4⟩:=cells5 HI.out.h7
 go_upto_region 13 with (go_at_call 43;refine (town_copied.calls _ _ _ _ _ _ _ _ _ _ _ _ _ _ _ (Kd.C_below R21.out HI.out.ok) hc2_1 (Kd.C_below R22.out HI.out.ok) hc2_2 A3.out).mono ?_;rintro e w3 ⟨vH,vM,rfl,hoH,hoM,hb⟩;have hltA:=Kd.R_lt RA0.out;have hltY:=Kd.R_lt RY0.out;have hgeH:=Kd.R_base hoH;have hgeM:=Kd.R_base hoM;have APH:Aside0 (∀ k,some k=vH.ownBlock→¬ (some k=(Value.slice AA LA.length cA).ownBlock∨some k=(Value.slice AY LY.length cY).ownBlock)):=⟨fun k h1 h2=>by have:=hgeH k h1.symm;rcases h2 with h2|h2;(have:=hltA k h2.symm;omega);(have:=hltY k h2.symm;omega)⟩;have APM:Aside0 (∀ k,some k=vM.ownBlock→¬ (some k=(Value.slice AA LA.length cA).ownBlock∨some k=(Value.slice AY LY.length cY).ownBlock)):=⟨fun k h1 h2=>by have:=hgeM k h1.symm;rcases h2 with h2|h2;(have:=hltA k h2.symm;omega);(have:=hltY k h2.symm;omega)⟩;clear hltA hltY hgeH hgeM;have hH0:=Kd.R_tight rfl (Kd.R_lower hoH HI.out.ok.size);have hM0:=Kd.R_tight rfl (Kd.R_lower hoM HI.out.ok.size);replace RA0:=am_ (Kd.R_below RA0.out hb);replace RY0:=am_ (Kd.R_below RY0.out hb);replace HI:=am_ (HI.out.step hb);clear hb hoH hoM;obtain ⟨AH,cH,eH⟩:=Kd.R_slice hH0;obtain ⟨AM,cM,eM⟩:=Kd.R_slice hM0;subst eH eM;have RH0:=am_ hH0;have RM0:=am_ hM0;clear hH0 hM0;obtain ⟨hx0,hx1,hx2,hx3,hx4,hz0,hz1,hz2,hz3,hz4⟩:=cells5 HI.out.h7)
 have n0_:Aside0 (tG.Gr w (((((w3.setCell ⟨g7,0,none⟩ (.int .i64 t1)).setCell ⟨g7,1,none⟩ (.slice AH t2.length cH)).setCell ⟨g7,2,none⟩ (.slice AM t3.length cM)).setCell ⟨g7,3,none⟩ (.int .i64 t4)).setCell ⟨g7,4,none⟩ (.int .i64 t5)) g6 g7 g9 ga gb gc #[.int .i64 a1_0,.int .i64 a1_1,.slice A1_2 l1_2.length c1_2,.int .i64 a1_3,.int .i64 a1_4,.slice AA LA.length cA,.slice AY LY.length cY,.slice A1_7 l1_7.length c1_7] #[.int .i64 t1,.slice AH t2.length cH,.slice AM t3.length cM,.int .i64 t4,.int .i64 t5] a4_0):=⟨((((HI.out.set7 0 _).set7 1 _).set7 2 _).set7 3 _).set7 4 _⟩
 have n1_:=am_ (Kd.R_tight rfl (tG.R7 RA0.out HI.out.h7 (by decide) (.int .i64 t1) (.slice AH t2.length cH) (.slice AM t3.length cM) (.int .i64 t4) (.int .i64 t5)))
 have n2_:=am_ (Kd.R_tight rfl (tG.R7 RY0.out HI.out.h7 (by decide) (.int .i64 t1) (.slice AH t2.length cH) (.slice AM t3.length cM) (.int .i64 t4) (.int .i64 t5)))
 have n3_:=am_ (Kd.R_tight rfl (tG.R7 RH0.out HI.out.h7 (by decide) (.int .i64 t1) (.slice AH t2.length cH) (.slice AM t3.length cM) (.int .i64 t4) (.int .i64 t5)))
 have n4_:=am_ (Kd.R_tight rfl (tG.R7 RM0.out HI.out.h7 (by decide) (.int .i64 t1) (.slice AH t2.length cH) (.slice AM t3.length cM) (.int .i64 t4) (.int .i64 t5)))
 clear HI RA0 RY0 RH0 RM0 hx0 hx1 hx2 hx3 hx4 hz0 hz1 hz2 hz3 hz4 A1 A2 A3
 generalize (((((w3.setCell ⟨g7,0,none⟩ (.int .i64 t1)).setCell ⟨g7,1,none⟩ (.slice AH t2.length cH)).setCell ⟨g7,2,none⟩ (.slice AM t3.length cM)).setCell ⟨g7,3,none⟩ (.int .i64 t4)).setCell ⟨g7,4,none⟩ (.int .i64 t5))=w4 at n0_ n1_ n2_ n3_ n4_ ⊢
 have HI:=n0_
 have RA:=n1_
 have RY:=n2_
 have RH:=n3_
 have RM:=n4_
 clear n0_ n1_ n2_ n3_ n4_
 obtain ⟨ad,eA,hx⟩:=Kd.at_int (Kd.R_reads' RA.out).2.2 t1 CT.out.1 CT.out.2
 subst eA
 have p1:=eq_true CT.out.1
 have p2:=eq_true CT.out.2
 obtain ⟨hx0,hx1,hx2,hx3,hx4,_,_,_,_,_⟩:=cells5 HI.out.h7
 obtain ⟨hy0,hy1,hy2,hy3,hy4,hy5,hy6,hy7,_⟩:=cells8 HI.out.h6
 by_cases ca:rd LA t1=0
 ·have h:=H.out
  rw [if_pos ca] at h
  have ca0:(rd LA t1 == 0)=true:=beq_iff_eq.2 ca
  obtain ⟨⟨f1,f2,f3,f4,f5⟩,hp,h⟩:=Option.bind_eq_some_iff.1 h
  simp only [Option.some.injEq,Prod.mk.injEq] at h
  obtain ⟨rfl,rfl,rfl,rfl,rfl,rfl,rfl,rfl,rfl,rfl,rfl,rfl⟩:=h
  have A1:=am_ hp
  clear H ca hp
  go_upto_region 15 with (first
   | (go_at_call 73;refine (town_first.calls k a1_0 a1_1 A1_2 c1_2 l1_2 a1_3 a1_4 _ _ LA _ _ LY A1_7 c1_7 l1_7 t1 AH cH t2 AM cM t3 t4 t5 f1 f2 f3 f4 f5 w _ HI.out.ok (Kd.C_kept_came (Kd.heap_int _) R12.out HI.out.ok (fun k hk=>hk.elim (fun h=>Kd.R_base RA.out k h.symm) (fun h=>Kd.R_base RY.out k h.symm))) hc1_2 RA.out (fun k h1 h2=>AP.out k h1 h2) RY.out (fun k h1 h2=>AP.out k h2 h1) (Kd.C_kept_came (Kd.heap_int _) R17.out HI.out.ok (fun k hk=>hk.elim (fun h=>Kd.R_base RA.out k h.symm) (fun h=>Kd.R_base RY.out k h.symm))) hc1_7 (Kd.C_kept_own RH.out (fun k hk=>APH.out k hk)) (Kd.R_reads' RH.out).2.1 (Kd.C_kept_own RM.out (fun k hk=>APM.out k hk)) (Kd.R_reads' RM.out).2.1 A1.out).mono ?_;rintro e w5 ⟨v2,v3,rfl,ho2,ho3,hb,hk⟩;have RH2:=am_ (Kd.R_kept RH.out hk (fun k hk=>APH.out k hk));have RM2:=am_ (Kd.R_kept RM.out hk (fun k hk=>APM.out k hk));replace HI:=am_ (HI.out.kept hk (fun k hk=>hk.elim (fun h=>Kd.R_typed RA.out k h.symm) (fun h=>Kd.R_typed RY.out k h.symm)) hb);clear hk hb RA RY RH RM;obtain ⟨A2v,c2v,e2v⟩:=Kd.R_slice ho2;obtain ⟨A3v,c3v,e3v⟩:=Kd.R_slice ho3;subst e2v e3v;have R2v:=am_ ho2;have R3v:=am_ ho3;clear ho2 ho3)
   | ((with_reducible refine gate_dst (N:=17) rfl ?_);refine box_ev (N:=17) (cs:=#[.int .i64 0,.int .i64 0,.slice none 0 0,.slice none 0 0]) (t:=60) ?_;intro g17 hg w6 hbox hb;have B17:=am_ hbox;have N17:Aside0 (gb≠g17):=⟨by rw [hg];exact Nat.ne_of_lt (blk_lt HI.out.rs.hb)⟩;have G17:Aside0 (w.heap.size≤g17):=⟨by rw [hg];exact HI.out.ok.size⟩;replace HI:=am_ (HI.out.step hb);replace RH2:=am_ (Kd.R_below RH2.out hb);replace RM2:=am_ (Kd.R_below RM2.out hb);replace R2v:=am_ (Kd.R_below R2v.out hb);replace R3v:=am_ (Kd.R_below R3v.out hb);clear hb hbox hg;obtain ⟨hd0,hd1,hd2,hd3,he0,he1,he2,he3⟩:=cells4 B17.out))
  have b0:=blk_set B17.out 0 (.int .i64 f1)
  have b1:=blk_set b0 1 (.int .i64 f2)
  have b2:=blk_set b1 2 (.slice A2v f3.length c2v)
  have m0_:=am_ ((((HI.out.away B17.out G17.out N17.out (.int .i64 f1)).away b0 G17.out N17.out (.int .i64 f2)).away b1 G17.out N17.out (.slice A2v f3.length c2v)).away (i:=3) b2 G17.out N17.out (.slice A3v f4.length c3v))
  have m5_:Aside0 (((((w6.setCell ⟨g17,0,none⟩ (.int .i64 f1)).setCell ⟨g17,1,none⟩ (.int .i64 f2)).setCell ⟨g17,2,none⟩ (.slice A2v f3.length c2v)).setCell ⟨g17,3,none⟩ (.slice A3v f4.length c3v)).heap[g17]?=some (.cells #[.int .i64 f1,.int .i64 f2,.slice A2v f3.length c2v,.slice A3v f4.length c3v] 60 (0,0))):=⟨blk_puts4 B17.out⟩
  have m1_:=am_ (Kd.R_tight rfl (tG.R60 RH2.out B17.out (by decide) (.int .i64 f1) (.int .i64 f2) (.slice A2v f3.length c2v) (.slice A3v f4.length c3v)))
  have m2_:=am_ (Kd.R_tight rfl (tG.R60 RM2.out B17.out (by decide) (.int .i64 f1) (.int .i64 f2) (.slice A2v f3.length c2v) (.slice A3v f4.length c3v)))
  have m3_:=am_ (Kd.R_tight rfl (tG.R60 R2v.out B17.out (by decide) (.int .i64 f1) (.int .i64 f2) (.slice A2v f3.length c2v) (.slice A3v f4.length c3v)))
  have m4_:=am_ (Kd.R_tight rfl (tG.R60 R3v.out B17.out (by decide) (.int .i64 f1) (.int .i64 f2) (.slice A2v f3.length c2v) (.slice A3v f4.length c3v)))
  clear HI RH2 RM2 R2v R3v B17 b0 b1 b2 hd0 hd1 hd2 hd3 he0 he1 he2 he3
  generalize ((((w6.setCell ⟨g17,0,none⟩ (.int .i64 f1)).setCell ⟨g17,1,none⟩ (.int .i64 f2)).setCell ⟨g17,2,none⟩ (.slice A2v f3.length c2v)).setCell ⟨g17,3,none⟩ (.slice A3v f4.length c3v))=w8 at m0_ m1_ m2_ m3_ m4_ m5_ ⊢
  have HI:=m0_
  have RH2:=m1_
  have RM2:=m2_
  have R2v:=m3_
  have R3v:=m4_
  have B17:=m5_
  clear m0_ m1_ m2_ m3_ m4_ m5_ hx0 hx1 hx2 hx3 hx4 hy0 hy1 hy2 hy3 hy4 hy5 hy6 hy7 hx
  replace RH2:=am_ (Kd.R_below RH2.out (below_drew (Below.refl _ _)))
  replace RM2:=am_ (Kd.R_below RM2.out (below_drew (Below.refl _ _)))
  replace R2v:=am_ (Kd.R_below R2v.out (below_drew (Below.refl _ _)))
  replace R3v:=am_ (Kd.R_below R3v.out (below_drew (Below.refl _ _)))
  replace HI:=am_ (HI.out.drew)
  replace B17:=am_ (blk_drew B17.out)
  refine start_ (n:=9) (S:=fun w'=>w'.heap[g7]?=some (.cells #[.int .i64 t1,.slice AH t2.length cH,.slice AM t3.length cM,.int .i64 t4,.int .i64 t5] 25 (0,0))∧w'.heap[g17]?=some (.cells #[.int .i64 f1,.int .i64 f2,.slice A2v f3.length c2v,.slice A3v f4.length c3v] 60 (0,0))∧w'.heap[g9]?=some (.cells #[.int .u64 a4_0] 45 (0,0))) (ds:=[]) #[false,false,false,false,false,false,false,false,false] (by kernel_rfl) rfl rfl ⟨HI.out.h7,B17.out,HI.out.h9⟩ (fun hHeld=>?_)
  generalize hWd:World.drew _=wd at HI B17 RH2 RM2 R2v R3v hHeld ⊢
  clear hWd
  obtain ⟨⟨ha0,ha1,ha2,ha3,ha4⟩,⟨fa0,fa1,fa2,fa3,fa4⟩,⟨hb0,hb1,hb2,hb3⟩,⟨fb0,fb1,fb2,fb3⟩,hc0_,fc0⟩:=HI.out.rs.cells
  have n1_:=HI.out.rs.nab
  have n2_:=n1_.symm
  have n3_:=HI.out.rs.nac
  have n4_:=n3_.symm
  have n5_:=HI.out.rs.nbc
  have n6_:=n5_.symm
  have qa:Aside0 (g7≠ga∧g17≠ga∧g9≠ga):=⟨HI.out.n7,blk_ne B17.out HI.out.rs.ha (by decide),HI.out.m9.1⟩
  have qb:Aside0 (g7≠gb∧g17≠gb∧g9≠gb):=⟨HI.out.m7.1,N17.out.symm,HI.out.m9.2⟩
  have qc:Aside0 (g7≠gc∧g17≠gc∧g9≠gc):=⟨HI.out.m7.2.1,blk_ne B17.out HI.out.rs.hc (by decide),HI.out.n9⟩
  refine take_ (i:=0) (N:=some 123) (v:=?_) (a':=?_) #[true,false,false,false,false,false,false,false,false] rfl rfl (by kernel_rfl) (fun _ _ _ h=>h) (Or.inl ⟨by rfl,?_⟩) hHeld ?_ ?_;rotate_left
  ·rintro w' ⟨s0,s1,s2⟩;obtain ⟨hx0,hx1,hx2,hx3,hx4,_,_,_,_,_⟩:=cells5 s0;go_simp;with_reducible rfl
  rotate_left
  ·simp only [Act.put,sl_,i64_w,i32_w];rfl
  refine take_ (i:=1) (N:=some 124) (v:=?_) (a':=?_) #[true,true,false,false,false,false,false,false,false] rfl rfl (by kernel_rfl) (fun _ _ _ h=>h) (Or.inl ⟨by rfl,?_⟩) hHeld ?_ ?_;rotate_left
  ·rintro w' ⟨s0,s1,s2⟩;obtain ⟨hd0,hd1,hd2,hd3,_,_,_,_⟩:=cells4 s1;go_simp;with_reducible rfl
  rotate_left
  ·simp only [Act.put,sl_,i64_w,i32_w];rfl
  refine pI 2 (some 125) ?_
  refine take_ (i:=3) (N:=some 126) (v:=?_) (a':=?_) #[true,true,true,true,false,false,false,false,false] rfl rfl (by kernel_rfl) (fun _ _ _ h=>h) (Or.inl ⟨by rfl,?_⟩) hHeld ?_ ?_;rotate_left
  ·rintro w' ⟨s0,s1,s2⟩;have he0:=blk_cell s2 0;go_simp;with_reducible rfl
  rotate_left
  ·simp only [Act.put,sl_,i64_w,i32_w];rfl
  refine oI 4 none ?_
  intro K hK
  refine skip_ (w1:=?_) (by rfl) rfl ?_ ?_;rotate_left
  ·go_simp;rfl
  refine hK.out _ _ ⟨tG.far5 hHeld.1 qa.out.1,tG.far5 hHeld.2.1 qa.out.2.1,tG.far5 hHeld.2.2 qa.out.2.2⟩ (fun hHeld=>?_);clear hK K
  refine oI 5 none ?_
  intro K hK
  refine skip_ (w1:=?_) (by rfl) rfl ?_ ?_;rotate_left
  ·go_simp;rfl
  refine hK.out _ _ ⟨tG.far4 hHeld.1 qb.out.1,tG.far4 hHeld.2.1 qb.out.2.1,tG.far4 hHeld.2.2 qb.out.2.2⟩ (fun hHeld=>?_);clear hK K
  refine pI 6 (some 12) ?_
  generalize hwq:World.setCell _ _ _=wq at hHeld ⊢
  have hqc:wq.heap[gc]?=some (.cells #[.int .u64 0] 45 (0,0)):=by rw [← hwq];exact tG.far4 (tG.far5 HI.out.rs.hc n4_) n6_
  have hq0_:=blk_cell hqc 0
  have hq1_:=blk_frozen hqc 0
  refine oI 7 none ?_
  intro K hK
  refine skip_ (w1:=?_) (by rfl) rfl ?_ ?_;rotate_left
  ·go_simp;rfl
  refine hK.out _ _ ⟨tG.far1 hHeld.1 qc.out.1,tG.far1 hHeld.2.1 qc.out.2.1,tG.far1 hHeld.2.2 qc.out.2.2⟩ (fun hHeld=>?_);clear hK K
  refine pI 8 (some 14) ?_
  refine done_ (by kernel_rfl) ?_
  subst hwq
  clear hHeld
  go_wp2_with (fail)
  refine bodyPost_ret (results_list (rs:=[.cell 10 25,.cell 11 60,.tmp 12,.cell 13 45,.tmp 14]) rfl (by simp) (HI.out.rs.vals (ta:=10) (tb:=11) (tn:=12) (tc:=13) (te:=14) rfl rfl rfl)) rfl ?_
  exact ⟨_,_,_,_,rfl,HI.out.rs.pR RH2.out (by decide),HI.out.rs.pR RM2.out (by decide),HI.out.rs.pR R2v.out (by decide),HI.out.rs.pR R3v.out (by decide),HI.out.rs.pB⟩
 ·have h:=H.out
  rw [if_neg ca] at h
  have ca0:(rd LA t1 == 0)=false:=beq_eq_false_iff_ne.2 ca
  obtain ⟨⟨f1,f2,f3,f4,f5,f6,f7⟩,hp,h⟩:=Option.bind_eq_some_iff.1 h
  simp only [Option.some.injEq,Prod.mk.injEq] at h
  obtain ⟨rfl,rfl,rfl,rfl,rfl,rfl,rfl,rfl,rfl,rfl,rfl,rfl⟩:=h
  have A1:=am_ hp
  clear H ca hp
  have hu102:=Try.underlying102
  have hz0:=blk_cell HI.out.h9 0
  go_upto_region 18 with (first
   | ((with_reducible refine gate_dst (N:=133) rfl ?_);refine box_ev (N:=133) (cs:=#[.slice A0 l0.length c0,.int .i64 a1_0,.int .i64 a1_1,.slice A1_2 l1_2.length c1_2,.int .i64 a1_3,.int .i64 a1_4,.slice _ LA.length cA,.slice AY LY.length cY,.slice A1_7 l1_7.length c1_7,.int .i64 t1,.slice AH t2.length cH,.slice AM t3.length cM,.int .i64 t4,.int .i64 t5,.int .i64 a3,.int .u64 a4_0]) (t:=104) ?_;intro g hg w5 hbox hb;have HW:=am_ (tG.Wk.mk (w0:=w4) (x:=(tG.Cx.mk l0 A0 c0 a1_0 a1_1 l1_2 A1_2 c1_2 a1_3 a1_4 LA _ cA LY AY cY l1_7 A1_7 c1_7 t1 t2 AH cH t3 AM cM t4 t5 a3)) (s:=a4_0) hbox hb (by rw [hg];exact Nat.le_refl _));have OK:=am_ (tG.Cx.ok.mk (x:=(tG.Cx.mk l0 A0 c0 a1_0 a1_1 l1_2 A1_2 c1_2 a1_3 a1_4 LA _ cA LY AY cY l1_7 A1_7 c1_7 t1 t2 AH cH t3 AM cM t4 t5 a3)) (w:=w4) (Kd.C_below R0.out HI.out.ok) hc0 (Kd.C_below R12.out HI.out.ok) hc1_2 (Kd.R_reads' RA.out).2.2 (Kd.R_reads' RA.out).2.1 (Kd.R_reads' RY.out).2.2 (Kd.R_reads' RY.out).2.1 (Kd.C_below R17.out HI.out.ok) hc1_7 (Kd.R_reads' RH.out).2.2 (Kd.R_reads' RH.out).2.1 (Kd.R_reads' RM.out).2.2 (Kd.R_reads' RM.out).2.1);clear hb hbox hg)
   | (go_at_call 74;refine (tG.walk HW.out OK.out A1.out).mono ?_;rintro e w6 ⟨rfl,vA,vY,vH,hg,oA,oY,oH,hb⟩;have BW:=am_ hg;replace oA:=tG.Ro.own oA RA.out hb;replace oY:=tG.Ro.own oY RY.out hb;replace oH:=tG.Ro.own oH RH.out hb;have RM2:=am_ (Kd.R_below RM.out hb);replace HI:=am_ (HI.out.step hb);clear hb hg))
  obtain ⟨bA,okA,R2v⟩:=oA.out
  obtain ⟨bY,okY,R3v⟩:=oY.out
  obtain ⟨bH,okH,RH2⟩:=oH.out
  obtain ⟨A2v,c2v,e2v⟩:=Kd.R_slice R2v
  obtain ⟨A3v,c3v,e3v⟩:=Kd.R_slice R3v
  obtain ⟨AHv,cHv,eHv⟩:=Kd.R_slice RH2
  subst e2v e3v eHv
  replace R2v:=am_ R2v
  replace R3v:=am_ R3v
  replace RH2:=am_ RH2
  clear oA oY oH HW OK RA RY RH RM hx0 hx1 hx2 hx3 hx4 hy0 hy1 hy2 hy3 hy4 hy5 hy6 hy7 hx hz0
  replace RH2:=am_ (Kd.R_below RH2.out (below_drew (Below.refl _ _)))
  replace RM2:=am_ (Kd.R_below RM2.out (below_drew (Below.refl _ _)))
  replace R2v:=am_ (Kd.R_below R2v.out (below_drew (Below.refl _ _)))
  replace R3v:=am_ (Kd.R_below R3v.out (below_drew (Below.refl _ _)))
  replace HI:=am_ (HI.out.drew)
  replace BW:=am_ (blk_drew BW.out)
  refine start_ (n:=19) (S:=fun w'=>w'.heap[g]?=some (.cells #[.slice A0 l0.length c0,.int .i64 a1_0,.int .i64 a1_1,.slice A1_2 l1_2.length c1_2,.int .i64 f2,.int .i64 f3,.slice A2v f4.length c2v,.slice A3v f5.length c3v,.slice A1_7 l1_7.length c1_7,.int .i64 t1,.slice AHv f6.length cHv,.slice AM t3.length cM,.int .i64 t4,.int .i64 t5,.int .i64 a3,.int .u64 f7] 104 (0,0))) (ds:=[]) #[false,false,false,false,false,false,false,false,false,false,false,false,false,false,false,false,false,false,false] (by kernel_rfl) rfl rfl BW.out (fun hHeld=>?_)
  generalize hWd:World.drew _=wd at HI BW RH2 RM2 R2v R3v hHeld ⊢
  clear hWd
  obtain ⟨⟨ha0,ha1,ha2,ha3,ha4⟩,⟨fa0,fa1,fa2,fa3,fa4⟩,⟨hb0,hb1,hb2,hb3⟩,⟨fb0,fb1,fb2,fb3⟩,hc0_,fc0⟩:=HI.out.rs.cells
  have n1_:=HI.out.rs.nab
  have n2_:=n1_.symm
  have n3_:=HI.out.rs.nac
  have n4_:=n3_.symm
  have n5_:=HI.out.rs.nbc
  have n6_:=n5_.symm
  have qa:Aside0 (g≠ga):=⟨blk_ne BW.out HI.out.rs.ha (by decide)⟩
  have qb:Aside0 (g≠gb):=⟨blk_ne BW.out HI.out.rs.hb (by decide)⟩
  have qc:Aside0 (g≠gc):=⟨blk_ne BW.out HI.out.rs.hc (by decide)⟩
  refine pI 0 (some 136) ?_
  refine pI 1 (some 137) ?_
  refine pI 2 (some 138) ?_
  refine take_ (i:=3) (N:=some 139) (v:=?_) (a':=?_) #[true,true,true,true,false,false,false,false,false,false,false,false,false,false,false,false,false,false,false] rfl rfl (by kernel_rfl) (fun _ _ _ h=>h) (Or.inl ⟨by rfl,?_⟩) hHeld ?_ ?_;rotate_left
  ·rintro w' s0;have hx0:=blk_cell s0 9;have hx1:=blk_cell s0 10;have hx2:=blk_cell s0 11;have hx3:=blk_cell s0 12;have hx4:=blk_cell s0 13;go_simp;with_reducible rfl
  rotate_left
  ·simp only [Act.put,sl_,i64_w,i32_w];rfl
  refine pI 4 (some 140) ?_
  refine pI 5 (some 141) ?_
  refine pI 6 (some 142) ?_
  refine pI 7 (some 143) ?_
  refine take_ (i:=8) (N:=some 144) (v:=?_) (a':=?_) #[true,true,true,true,true,true,true,true,true,false,false,false,false,false,false,false,false,false,false] rfl rfl (by kernel_rfl) (fun _ _ _ h=>h) (Or.inl ⟨by rfl,?_⟩) hHeld ?_ ?_;rotate_left
  ·rintro w' s0;have hx0:=blk_cell s0 4;have hx1:=blk_cell s0 5;have hx2:=blk_cell s0 6;have hx3:=blk_cell s0 7;go_simp;with_reducible rfl
  rotate_left
  ·simp only [Act.put,sl_,i64_w,i32_w];rfl
  refine pI 9 (some 145) ?_
  refine pI 10 (some 146) ?_
  refine pI 11 (some 147) ?_
  refine pI 12 (some 148) ?_
  refine take_ (i:=13) (N:=some 149) (v:=?_) (a':=?_) #[true,true,true,true,true,true,true,true,true,true,true,true,true,true,false,false,false,false,false] rfl rfl (by kernel_rfl) (fun _ _ _ h=>h) (Or.inl ⟨by rfl,?_⟩) hHeld ?_ ?_;rotate_left
  ·rintro w' s0;have hx0:=blk_cell s0 15;go_simp;with_reducible rfl
  rotate_left
  ·simp only [Act.put,sl_,i64_w,i32_w];rfl
  refine oI 14 none ?_
  intro K hK
  refine skip_ (w1:=?_) (by rfl) rfl ?_ ?_;rotate_left
  ·go_simp;rfl
  refine hK.out _ _ (tG.far5 hHeld qa.out) (fun hHeld=>?_);clear hK K
  refine oI 15 none ?_
  intro K hK
  refine skip_ (w1:=?_) (by rfl) rfl ?_ ?_;rotate_left
  ·go_simp;rfl
  refine hK.out _ _ (tG.far4 hHeld qb.out) (fun hHeld=>?_);clear hK K
  refine pI 16 (some 12) ?_
  generalize hwq:World.setCell _ _ _=wq at hHeld ⊢
  have hqc:wq.heap[gc]?=some (.cells #[.int .u64 0] 45 (0,0)):=by rw [← hwq];exact tG.far4 (tG.far5 HI.out.rs.hc n4_) n6_
  have hq0_:=blk_cell hqc 0
  have hq1_:=blk_frozen hqc 0
  refine oI 17 none ?_
  intro K hK
  refine skip_ (w1:=?_) (by rfl) rfl ?_ ?_;rotate_left
  ·go_simp;rfl
  refine hK.out _ _ (tG.far1 hHeld qc.out) (fun hHeld=>?_);clear hK K
  refine pI 18 (some 14) ?_
  refine done_ (by kernel_rfl) ?_
  subst hwq
  clear hHeld
  go_wp2_with (fail)
  refine bodyPost_ret (results_list (rs:=[.cell 10 25,.cell 11 60,.tmp 12,.cell 13 45,.tmp 14]) rfl (by simp) (HI.out.rs.vals (ta:=10) (tb:=11) (tn:=12) (tc:=13) (te:=14) rfl rfl rfl)) rfl ?_
  exact ⟨_,_,_,_,rfl,HI.out.rs.pR RH2.out (by decide),HI.out.rs.pR RM2.out (by decide),HI.out.rs.pR R2v.out (by decide),HI.out.rs.pR R3v.out (by decide),HI.out.rs.pB⟩
-- h11_Grow roll_Below road_Pave roll_Pick town_house town_beside road_Joined town_free town_Validate land_Validate road_Validate town_within town_copied town_first api_House_77 sClo_int_int api_House_109 api_Errno


end Go.Proofs.Ytbdijpjlgokfkaa.P

/- Functions of this seat as plain Lean functions, with proofs that the Go code comes to just their answers, or what stands between them and a law's statement; no conditions. (Laid by a program of this session, out of the kit's print.) -/
import Derived.Test.YtbdijpjlgokfkaaPx0
import Derived.Test.YtbdijpjlgokfkaaPx5
import Derived.Test.YtbdijpjlgokfkaaPx6
import Derived.Test.YtbdijpjlgokfkaaPx7
namespace Go.Proofs.Ytbdijpjlgokfkaa.P
open Go.RowKit Go.Proofs.YtbdijpjlgokfkaaW.PrintWords Go.Proofs.YtbdijpjlgokfkaaW.PrintLast Go.Proofs.YtbdijpjlgokfkaaW.PrintMore
attribute [local go_sem] max2_int min2_int max_two min_two max_three min_three max_four min_four   -- for this text's walks alone
set_option maxHeartbeats 8000000
set_option maxRecDepth 100000
set_option linter.unusedVariables false
set_option linter.unusedSimpArgs false

-- plug-in
/-! ### h11_Grow: function 36 -/
-- HAND
instance:DecidableEq S68:=fun a b=>decidable_of_iff (a.f0=b.f0∧a.f1=b.f1∧a.f2=b.f2) ⟨fun h=>by cases a;cases b;simp_all,fun h=>by subst h;exact ⟨rfl,rfl,rfl⟩⟩
def h11_Grow.bld (k:Nat) (K:List S80) (SW SH:Int) (A Y:List Int) (tt:Int) (H:List S68) (M:List Int) (mv du day s at_ to_ side:Int):Option (Int × List Int × List Int × List S68 × Int) :=
 (h01_Chance.f k s 1 3).bind fun b=>if b.1=true then
  (h11_pave.f SW SH A Y at_ (shl .i64 1 side)).bind fun p=>(h11_pave.f SW SH p.1 p.2 to_ (shl .i64 1 (Int.tmod (wrap64 (side+2)) 4))).bind fun q=>some (1,q.1,q.2,H,b.2)
 else if 17592186044416≤K.length then none else (h01_Pick.f k b.2 (K.map (·.f3))).bind fun p=>if p.1<0∨200≤H.length then some (0,A,Y,H,p.2) else
  (h11_build.f k tt H M mv du to_ p.1 day).bind fun T=>if T.1=tt∧T.2.2.1=M∧T.2.2.2.1=mv∧T.2.2.2.2=du then some (2,A,Y,T.2.1,p.2) else none
def h11_Grow.wlk (k:Nat) (K:List S80) (LW LH:Int) (C:List Int) (SW SH:Int) (A Y A0 Y0 D:List Int) (tt:Int) (H:List S68) (M:List Int) (mv du day:Int):Nat→Int→Int→Option (Int × List Int × List Int × List S68 × Int)
 | 0,_,s=>some (0,A,Y,H,s)
 | n+1,at_,s=>(h01_Below.f k s 4).bind fun b=>if 0≤b.1∧b.1≤3 then
   (h11_beyond.f k LW LH C at_ b.1).bind fun to_=>if to_<0 then some (0,A,Y,H,b.2) else
   if 0≤at_∧at_<(A.length:Int)∧to_<(A.length:Int) then
   (if Go.bits .and .i64 (shr .i64 (rd A at_) b.1) 1=1∧Go.bits .and .i64 (shr .i64 (rd A to_) (Int.tmod (wrap64 (b.1+2)) 4)) 1=1 then h11_Grow.wlk k K LW LH C SW SH A Y A0 Y0 D tt H M mv du day n to_ b.2 else
    (h02_Slope.f k LW LH C to_).bind fun sl=>if rd A at_=0 then h11_Grow.wlk k K LW LH C SW SH A Y A0 Y0 D tt H M mv du day n at_ b.2 else if rd A to_ > 0 then h11_Grow.wlk k K LW LH C SW SH A Y A0 Y0 D tt H M mv du day n at_ b.2 else
    (h11_has.f k tt H M mv du to_).bind fun h1=>if h1=true then h11_Grow.wlk k K LW LH C SW SH A Y A0 Y0 D tt H M mv du day n at_ b.2 else
    (h11_wet.f k LW LH C to_).bind fun h2=>if h2=true then h11_Grow.wlk k K LW LH C SW SH A Y A0 Y0 D tt H M mv du day n at_ b.2 else
    (h11_held.f k LW LH C SW SH A0 Y0 D to_).bind fun h3=>if h3=true∨sl.1≥16 then h11_Grow.wlk k K LW LH C SW SH A Y A0 Y0 D tt H M mv du day n at_ b.2 else
    h11_Grow.bld k K SW SH A Y tt H M mv du day b.2 at_ to_ b.1) else none
  else none
def h11_Grow.f (k:Nat) (l0:List S80) (a1_0:Int) (a1_1:Int) (l1_2:List Int) (a1_3:Int) (a1_4:Int) (l1_5:List Int) (l1_6:List Int) (l1_7:List Int) (a2_0:Int) (l2_1:List S68) (l2_2:List Int) (a2_3:Int) (a2_4:Int) (a3:Int) (a4_0:Int):Option (Int × (List S68) × List Int × Int × Int × Int × Int × List Int × List Int × Int × Int × Int) :=
 (h11_growError.f k l0 a1_0 a1_1 l1_2 a1_3 a1_4 l1_5 l1_6 l1_7 a2_0 l2_1 l2_2 a2_3 a2_4 a3).bind fun e =>
 if e≠0 then some (0,[],[],0,0,0,0,[],[],0,0,e) else
 (h11_streets.f a1_3 a1_4 l1_5 l1_6).bind fun S=>(h11_Copy.f a2_0 l2_1 l2_2 a2_3 a2_4).bind fun T =>
 if S=(a1_3,a1_4,l1_5,l1_6)∧T=(a2_0,l2_1,l2_2,a2_3,a2_4)∧0≤a2_0∧a2_0<(l1_5.length:Int) then
  (if rd l1_5 a2_0=0 then
   (h11_wet.f k a1_0 a1_1 l1_2 a2_0).bind fun h2=>if h2=true then some (a2_0,l2_1,l2_2,a2_3,a2_4,a1_3,a1_4,l1_5,l1_6,0,a4_0,0) else
   (h11_held.f k a1_0 a1_1 l1_2 a1_3 a1_4 l1_5 l1_6 l1_7 a2_0).bind fun h3=>if h3=true then some (a2_0,l2_1,l2_2,a2_3,a2_4,a1_3,a1_4,l1_5,l1_6,0,a4_0,0) else
   (h11_has.f k a2_0 l2_1 l2_2 a2_3 a2_4 a2_0).bind fun h1=>if h1=true then some (a2_0,l2_1,l2_2,a2_3,a2_4,a1_3,a1_4,l1_5,l1_6,0,a4_0,0) else
   (h11_pave.f a1_3 a1_4 l1_5 l1_6 a2_0 15).bind fun p=>some (a2_0,l2_1,l2_2,a2_3,a2_4,a1_3,a1_4,p.1,p.2,1,a4_0,0)
  else (h11_Grow.wlk k l0 a1_0 a1_1 l1_2 a1_3 a1_4 l1_5 l1_6 l1_5 l1_6 l1_7 a2_0 l2_1 l2_2 a2_3 a2_4 a3 20 a2_0 a4_0).bind fun p=>some (a2_0,p.2.2.2.1,l2_2,a2_3,a2_4,a1_3,a1_4,p.2.1,p.2.2.1,p.1,p.2.2.2.2,0))
 else none
theorem h11_Grow.bld_mono (k:Nat) (K:List S80) (SW SH:Int) (A Y:List Int) (tt:Int) (H:List S68) (M:List Int) (mv du day s at_ to_ side:Int):LeO (h11_Grow.bld k K SW SH A Y tt H M mv du day s at_ to_ side) (h11_Grow.bld (k+1) K SW SH A Y tt H M mv du day s at_ to_ side):=by
 unfold h11_Grow.bld
 exact LeO.bind (by apply h01_Chance.mono) (fun _=>LeO.ite (LeO.refl _) (LeO.ite (LeO.refl _) (LeO.bind (by apply h01_Pick.mono) (fun _=>LeO.ite (LeO.refl _) (LeO.bind (by apply h11_build.mono) (fun _=>LeO.refl _))))))
theorem h11_Grow.wlk_mono (k:Nat) (K:List S80) (LW LH:Int) (C:List Int) (SW SH:Int) (A Y A0 Y0 D:List Int) (tt:Int) (H:List S68) (M:List Int) (mv du day:Int):∀ n at_ s,LeO (h11_Grow.wlk k K LW LH C SW SH A Y A0 Y0 D tt H M mv du day n at_ s) (h11_Grow.wlk (k+1) K LW LH C SW SH A Y A0 Y0 D tt H M mv du day n at_ s)
 | 0,at_,s=>LeO.refl _
 | n+1,at_,s=>by
  have ih:=h11_Grow.wlk_mono k K LW LH C SW SH A Y A0 Y0 D tt H M mv du day n
  simp only [h11_Grow.wlk]
  exact LeO.bind (by apply h01_Below.mono) (fun _=>LeO.ite (LeO.bind (by apply h11_beyond.mono) (fun _=>LeO.ite (LeO.refl _) (LeO.ite (LeO.ite (ih _ _) (LeO.bind (by apply h02_Slope.mono) (fun _=>LeO.ite (ih _ _) (LeO.ite (ih _ _) (LeO.bind (by apply h11_has.mono) (fun _=>LeO.ite (ih _ _) (LeO.bind (by apply h11_wet.mono) (fun _=>LeO.ite (ih _ _) (LeO.bind (by apply h11_held.mono) (fun _=>LeO.ite (ih _ _) (by apply h11_Grow.bld_mono))))))))))) (LeO.refl _)))) (LeO.refl _))
theorem h11_Grow.mono:∀ a0 a1 a2 a3 a4 a5 a6 a7 a8 a9 a10 a11 a12 a13 a14 a15 k,LeO (h11_Grow.f k a0 a1 a2 a3 a4 a5 a6 a7 a8 a9 a10 a11 a12 a13 a14 a15) (h11_Grow.f (k+1) a0 a1 a2 a3 a4 a5 a6 a7 a8 a9 a10 a11 a12 a13 a14 a15):=by
 intro a0 a1 a2 a3 a4 a5 a6 a7 a8 a9 a10 a11 a12 a13 a14 a15 k
 unfold h11_Grow.f
 exact LeO.bind (by apply h11_growError.mono) (fun _=>LeO.ite (LeO.refl _) (LeO.bind (LeO.refl _) (fun _=>LeO.bind (LeO.refl _) (fun _=>LeO.ite (LeO.ite (LeO.bind (by apply h11_wet.mono) (fun _=>LeO.ite (LeO.refl _) (LeO.bind (by apply h11_held.mono) (fun _=>LeO.ite (LeO.refl _) (LeO.bind (by apply h11_has.mono) (fun _=>LeO.ite (LeO.refl _) (LeO.refl _))))))) (LeO.bind (by apply h11_Grow.wlk_mono) (fun _=>LeO.refl _))) (LeO.refl _)))))
structure tG.Rs (w0 W:World) (ga gb gc:Nat):Prop where
 ha:W.heap[ga]?=some (.cells #[.int .i64 0,.slice none 0 0,.slice none 0 0,.int .i64 0,.int .i64 0] 25 (0,0))
 hb:W.heap[gb]?=some (.cells #[.int .i64 0,.int .i64 0,.slice none 0 0,.slice none 0 0] 60 (0,0))
 hc:W.heap[gc]?=some (.cells #[.int .u64 0] 45 (0,0))
 hB:Below w0.heap.size w0 W
 la:w0.heap.size≤ga
 lb:w0.heap.size≤gb
 lc:w0.heap.size≤gc
section
variable {w0 W W':World} {ga gb gc:Nat}
theorem tG.Rs.step (h:tG.Rs w0 W ga gb gc) (hb:Below W.heap.size W W'):tG.Rs w0 W' ga gb gc :=
 ⟨blk_below h.ha hb,blk_below h.hb hb,blk_below h.hc hb,below_then h.hB h.hB.size hb,h.la,h.lb,h.lc⟩
theorem tG.Rs.drew (h:tG.Rs w0 W ga gb gc):tG.Rs w0 W.drew ga gb gc:=h.step (below_drew (Below.refl _ _))
theorem tG.Rs.draw (h:tG.Rs w0 W ga gb gc) (n:Nat):tG.Rs w0 (W.drewN n) ga gb gc:=h.step (pw_below_drewN (Below.refl _ _) n)
theorem tG.Rs.nab (h:tG.Rs w0 W ga gb gc):ga≠gb:=blk_ne h.ha h.hb (by decide)
theorem tG.Rs.nac (h:tG.Rs w0 W ga gb gc):ga≠gc:=blk_ne h.ha h.hc (by decide)
theorem tG.Rs.nbc (h:tG.Rs w0 W ga gb gc):gb≠gc:=blk_ne h.hb h.hc (by decide)
theorem tG.Rs.away (h:tG.Rs w0 W ga gb gc) {g i:Nat} (hg:w0.heap.size≤g) (na:ga≠g) (nb:gb≠g) (nc:gc≠g) (v:Value):tG.Rs w0 (W.setCell ⟨g,i,none⟩ v) ga gb gc :=
 ⟨blk_far h.ha na _,blk_far h.hb nb _,blk_far h.hc nc _,h.hB.setCell hg _,h.la,h.lb,h.lc⟩
theorem tG.Rs.cells (h:tG.Rs w0 W ga gb gc):(W.cell? ⟨ga,0,none⟩=some (.int .i64 0)∧W.cell? ⟨ga,1,none⟩=some (.slice none 0 0)∧W.cell? ⟨ga,2,none⟩=some (.slice none 0 0)∧W.cell? ⟨ga,3,none⟩=some (.int .i64 0)∧W.cell? ⟨ga,4,none⟩=some (.int .i64 0)) ∧
  (W.frozen? ⟨ga,0,none⟩=false∧W.frozen? ⟨ga,1,none⟩=false∧W.frozen? ⟨ga,2,none⟩=false∧W.frozen? ⟨ga,3,none⟩=false∧W.frozen? ⟨ga,4,none⟩=false) ∧
  (W.cell? ⟨gb,0,none⟩=some (.int .i64 0)∧W.cell? ⟨gb,1,none⟩=some (.int .i64 0)∧W.cell? ⟨gb,2,none⟩=some (.slice none 0 0)∧W.cell? ⟨gb,3,none⟩=some (.slice none 0 0)) ∧
  (W.frozen? ⟨gb,0,none⟩=false∧W.frozen? ⟨gb,1,none⟩=false∧W.frozen? ⟨gb,2,none⟩=false∧W.frozen? ⟨gb,3,none⟩=false) ∧
  (W.cell? ⟨gc,0,none⟩=some (.int .u64 0)∧W.frozen? ⟨gc,0,none⟩=false) :=
 ⟨⟨blk_cell h.ha 0,blk_cell h.ha 1,blk_cell h.ha 2,blk_cell h.ha 3,blk_cell h.ha 4⟩,⟨blk_frozen h.ha 0,blk_frozen h.ha 1,blk_frozen h.ha 2,blk_frozen h.ha 3,blk_frozen h.ha 4⟩,
  ⟨blk_cell h.hb 0,blk_cell h.hb 1,blk_cell h.hb 2,blk_cell h.hb 3⟩,⟨blk_frozen h.hb 0,blk_frozen h.hb 1,blk_frozen h.hb 2,blk_frozen h.hb 3⟩,blk_cell h.hc 0,blk_frozen h.hc 0⟩
def tG.put (W:World) (ga gb gc:Nat) (a0 a1 a2 a3 a4 b0 b1 b2 b3 c0:Value):World :=
 ((((((((((W.setCell ⟨ga,0,none⟩ a0).setCell ⟨ga,1,none⟩ a1).setCell ⟨ga,2,none⟩ a2).setCell ⟨ga,3,none⟩ a3).setCell ⟨ga,4,none⟩ a4).setCell ⟨gb,0,none⟩ b0).setCell ⟨gb,1,none⟩ b1).setCell ⟨gb,2,none⟩ b2).setCell ⟨gb,3,none⟩ b3).setCell ⟨gc,0,none⟩ c0)
variable {a0 a1 a2 a3 a4 b0 b1 b2 b3 c0:Value}
theorem tG.Rs.pa (h:tG.Rs w0 W ga gb gc):(tG.put W ga gb gc a0 a1 a2 a3 a4 b0 b1 b2 b3 c0).heap[ga]?=some (.cells #[a0,a1,a2,a3,a4] 25 (0,0)) :=
 blk_far (blk_far (blk_far (blk_far (blk_far (blk_puts5 h.ha) h.nab _) h.nab _) h.nab _) h.nab _) h.nac _
theorem tG.Rs.pb (h:tG.Rs w0 W ga gb gc):(tG.put W ga gb gc a0 a1 a2 a3 a4 b0 b1 b2 b3 c0).heap[gb]?=some (.cells #[b0,b1,b2,b3] 60 (0,0)) :=
 blk_far (blk_puts4 (blk_far (blk_far (blk_far (blk_far (blk_far h.hb h.nab.symm _) h.nab.symm _) h.nab.symm _) h.nab.symm _) h.nab.symm _)) h.nbc _
theorem tG.Rs.pc (h:tG.Rs w0 W ga gb gc):(tG.put W ga gb gc a0 a1 a2 a3 a4 b0 b1 b2 b3 c0).heap[gc]?=some (.cells #[c0] 45 (0,0)) :=
 blk_set (blk_far (blk_far (blk_far (blk_far (blk_far (blk_far (blk_far (blk_far (blk_far h.hc h.nac.symm _) h.nac.symm _) h.nac.symm _) h.nac.symm _) h.nac.symm _) h.nbc.symm _) h.nbc.symm _) h.nbc.symm _) h.nbc.symm _) 0 _
theorem tG.Rs.pB (h:tG.Rs w0 W ga gb gc):Below w0.heap.size w0 (tG.put W ga gb gc a0 a1 a2 a3 a4 b0 b1 b2 b3 c0) :=
 (((((((((h.hB.setCell h.la _).setCell h.la _).setCell h.la _).setCell h.la _).setCell h.la _).setCell h.lb _).setCell h.lb _).setCell h.lb _).setCell h.lb _).setCell h.lc _
theorem tG.Rs.pR (h:tG.Rs w0 W ga gb gc) {α:Type} {d:Kd α} {e base:Nat} {ok:Nat→Prop} {v:Value} {xs:List α} (hR:d.R e W base ok v xs) (ht:∀ q,q ∈ e :: d.E→q≠25∧q≠60∧q≠45) :
  ∃ base ok,d.R e (tG.put W ga gb gc a0 a1 a2 a3 a4 b0 b1 b2 b3 c0) base ok v xs:=by
 refine ⟨_,_,Kd.R_step (Kd.R_types (Kd.R_types (Kd.R_types hR h.ha (fun q hq=>(ht q hq).1)) h.hb (fun q hq=>(ht q hq).2.1)) h.hc (fun q hq=>(ht q hq).2.2)) (fun k hk _=>?_)⟩
 exact set_far hk.2 (set_far hk.1.2 (set_far hk.1.2 (set_far hk.1.2 (set_far hk.1.2 (set_far hk.1.1.2 (set_far hk.1.1.2 (set_far hk.1.1.2 (set_far hk.1.1.2 (set_far hk.1.1.2 rfl)))))))))
theorem tG.Rs.vals (h:tG.Rs w0 W ga gb gc) {tmps:Array Value} {ta tb tn tc te:Tmp} (pa:tmps.getD ta undef=.pointer (some ⟨ga,0,none⟩)) (pb:tmps.getD tb undef=.pointer (some ⟨gb,0,none⟩)) (pc:tmps.getD tc undef=.pointer (some ⟨gc,0,none⟩)) :
  Vals Try.prog tmps (tG.put W ga gb gc a0 a1 a2 a3 a4 b0 b1 b2 b3 c0) [.cell ta 25,.cell tb 60,.tmp tn,.cell tc 45,.tmp te] [.agg #[a0,a1,a2,a3,a4],.agg #[b0,b1,b2,b3],tmps.getD tn undef,.agg #[c0],tmps.getD te undef] :=
 .cell ga 25 _ (0,0) _ pa h.pa Try.underlying25 rfl (by kernel_rfl) (.cell gb 60 _ (0,0) _ pb h.pb Try.underlying60 rfl (by kernel_rfl) (.tmp (.cell gc 45 _ (0,0) _ pc h.pc Try.underlying45 rfl (by kernel_rfl) (.tmp .nil))))
end
structure tG.Gr (w0 W:World) (g6 g7 g9 ga gb gc:Nat) (cs6 cs7:Array Value) (s:Int):Prop where
 rs:tG.Rs w0 W ga gb gc
 h6:W.heap[g6]?=some (.cells cs6 62 (0,0))
 h7:W.heap[g7]?=some (.cells cs7 25 (0,0))
 h9:W.heap[g9]?=some (.cells #[.int .u64 s] 45 (0,0))
 b6:w0.heap.size≤g6
 b7:w0.heap.size≤g7
 n7:g7≠ga
 n9:g9≠gc
section
variable {w0 W W':World} {g6 g7 g9 ga gb gc:Nat} {cs6 cs7:Array Value} {s:Int}
theorem tG.Gr.step (h:tG.Gr w0 W g6 g7 g9 ga gb gc cs6 cs7 s) (hb:Below W.heap.size W W'):tG.Gr w0 W' g6 g7 g9 ga gb gc cs6 cs7 s :=
 ⟨h.rs.step hb,blk_below h.h6 hb,blk_below h.h7 hb,blk_below h.h9 hb,h.b6,h.b7,h.n7,h.n9⟩
theorem tG.Gr.draw (h:tG.Gr w0 W g6 g7 g9 ga gb gc cs6 cs7 s) (n:Nat):tG.Gr w0 (W.drewN n) g6 g7 g9 ga gb gc cs6 cs7 s:=h.step (pw_below_drewN (Below.refl _ _) n)
theorem tG.Gr.drew (h:tG.Gr w0 W g6 g7 g9 ga gb gc cs6 cs7 s):tG.Gr w0 W.drew g6 g7 g9 ga gb gc cs6 cs7 s:=h.step (below_drew (Below.refl _ _))
theorem tG.Gr.ok (h:tG.Gr w0 W g6 g7 g9 ga gb gc cs6 cs7 s):Below w0.heap.size w0 W:=h.rs.hB
theorem tG.Gr.n6 (h:tG.Gr w0 W g6 g7 g9 ga gb gc cs6 cs7 s):g6≠ga∧g6≠gb∧g6≠gc∧g6≠g7∧g6≠g9:=⟨blk_ne h.h6 h.rs.ha (by decide),blk_ne h.h6 h.rs.hb (by decide),blk_ne h.h6 h.rs.hc (by decide),blk_ne h.h6 h.h7 (by decide),blk_ne h.h6 h.h9 (by decide)⟩
theorem tG.Gr.m7 (h:tG.Gr w0 W g6 g7 g9 ga gb gc cs6 cs7 s):g7≠gb∧g7≠gc∧g7≠g9:=⟨blk_ne h.h7 h.rs.hb (by decide),blk_ne h.h7 h.rs.hc (by decide),blk_ne h.h7 h.h9 (by decide)⟩
theorem tG.Gr.m9 (h:tG.Gr w0 W g6 g7 g9 ga gb gc cs6 cs7 s):g9≠ga∧g9≠gb:=⟨blk_ne h.h9 h.rs.ha (by decide),blk_ne h.h9 h.rs.hb (by decide)⟩
theorem tG.Gr.set6 (h:tG.Gr w0 W g6 g7 g9 ga gb gc cs6 cs7 s) (i:Nat) (v:Value):tG.Gr w0 (W.setCell ⟨g6,i,none⟩ v) g6 g7 g9 ga gb gc (cs6.setIfInBounds i v) cs7 s :=
 ⟨h.rs.away h.b6 h.n6.1.symm h.n6.2.1.symm h.n6.2.2.1.symm v,blk_set h.h6 i v,blk_far h.h7 h.n6.2.2.2.1.symm v,blk_far h.h9 h.n6.2.2.2.2.symm v,h.b6,h.b7,h.n7,h.n9⟩
theorem tG.Gr.set7 (h:tG.Gr w0 W g6 g7 g9 ga gb gc cs6 cs7 s) (i:Nat) (v:Value):tG.Gr w0 (W.setCell ⟨g7,i,none⟩ v) g6 g7 g9 ga gb gc cs6 (cs7.setIfInBounds i v) s :=
 ⟨h.rs.away h.b7 h.n7.symm h.m7.1.symm h.m7.2.1.symm v,blk_far h.h6 h.n6.2.2.2.1 v,blk_set h.h7 i v,blk_far h.h9 h.m7.2.2.symm v,h.b6,h.b7,h.n7,h.n9⟩
end
theorem tG.R7 {α:Type} {d:Kd α} {e base:Nat} {ok:Nat→Prop} {v:Value} {xs:List α} {W:World} {g:Nat} {cs:Array Value} (h:d.R e W base ok v xs) (hb:W.heap[g]?=some (.cells cs 25 (0,0))) (ht:∀ q,q ∈ e :: d.E→q≠25) (a0 a1 a2 a3 a4:Value) :
  d.R e (((((W.setCell ⟨g,0,none⟩ a0).setCell ⟨g,1,none⟩ a1).setCell ⟨g,2,none⟩ a2).setCell ⟨g,3,none⟩ a3).setCell ⟨g,4,none⟩ a4) base ok v xs :=
 Kd.R_mono (Kd.R_fars g (Kd.R_types h hb ht) (fun _ hk=>hk.2) (fun k_ hk_=>set_far hk_ (set_far hk_ (set_far hk_ (set_far hk_ (set_far hk_ rfl)))))) (fun _ hk=>hk.1)
section
variable {w0 W W':World} {g6 g7 g9 ga gb gc:Nat} {cs6 cs7:Array Value} {s:Int}
theorem tG.Gr.kept (h:tG.Gr w0 W g6 g7 g9 ga gb gc cs6 cs7 s) {S:Nat→Prop} (hk:Kept W W' S) (hS:∀ k,S k→∃ cells,W.heap[k]?=some (.cells cells 3 (0,0))) (hB:Below w0.heap.size w0 W'):tG.Gr w0 W' g6 g7 g9 ga gb gc cs6 cs7 s:=by
 have key:∀ {g t:Nat} {cs:Array Value},W.heap[g]?=some (.cells cs t (0,0))→t≠3→W'.heap[g]?=some (.cells cs t (0,0)):=fun hg ht =>
  (hk.2 _ (blk_lt hg) (fun e=>by obtain ⟨c,hc⟩:=hS _ e;exact blk_ne hg hc ht rfl)).trans hg
 exact ⟨⟨key h.rs.ha (by decide),key h.rs.hb (by decide),key h.rs.hc (by decide),hB,h.rs.la,h.rs.lb,h.rs.lc⟩,key h.h6 (by decide),key h.h7 (by decide),key h.h9 (by decide),h.b6,h.b7,h.n7,h.n9⟩
theorem tG.Gr.away (h:tG.Gr w0 W g6 g7 g9 ga gb gc cs6 cs7 s) {g i:Nat} {cs:Array Value} (hg:W.heap[g]?=some (.cells cs 60 (0,0))) (hl:w0.heap.size≤g) (hn:gb≠g) (v:Value):tG.Gr w0 (W.setCell ⟨g,i,none⟩ v) g6 g7 g9 ga gb gc cs6 cs7 s :=
 ⟨h.rs.away hl (blk_ne h.rs.ha hg (by decide)) hn (blk_ne h.rs.hc hg (by decide)) v,blk_far h.h6 (blk_ne h.h6 hg (by decide)) v,blk_far h.h7 (blk_ne h.h7 hg (by decide)) v,blk_far h.h9 (blk_ne h.h9 hg (by decide)) v,h.b6,h.b7,h.n7,h.n9⟩
end
theorem tG.far5 {W:World} {g k:Nat} {o:Option Obj} (h:W.heap[k]?=o) (hn:k≠g) {a0 a1 a2 a3 a4:Value}:(((((W.setCell ⟨g,0,none⟩ a0).setCell ⟨g,1,none⟩ a1).setCell ⟨g,2,none⟩ a2).setCell ⟨g,3,none⟩ a3).setCell ⟨g,4,none⟩ a4).heap[k]?=o:=(set_far hn (set_far hn (set_far hn (set_far hn (set_far hn rfl))))).trans h
theorem tG.far4 {W:World} {g k:Nat} {o:Option Obj} (h:W.heap[k]?=o) (hn:k≠g) {a0 a1 a2 a3:Value}:((((W.setCell ⟨g,0,none⟩ a0).setCell ⟨g,1,none⟩ a1).setCell ⟨g,2,none⟩ a2).setCell ⟨g,3,none⟩ a3).heap[k]?=o:=(set_far hn (set_far hn (set_far hn (set_far hn rfl)))).trans h
theorem tG.far1 {W:World} {g i k:Nat} {o:Option Obj} (h:W.heap[k]?=o) (hn:k≠g) {a0:Value}:(W.setCell ⟨g,i,none⟩ a0).heap[k]?=o:=(set_far hn rfl).trans h
theorem tG.R60 {α:Type} {d:Kd α} {e base:Nat} {ok:Nat→Prop} {v:Value} {xs:List α} {W:World} {g:Nat} {cs:Array Value} (h:d.R e W base ok v xs) (hb:W.heap[g]?=some (.cells cs 60 (0,0))) (ht:∀ q,q ∈ e :: d.E→q≠60) (a0 a1 a2 a3:Value) :
  d.R e ((((W.setCell ⟨g,0,none⟩ a0).setCell ⟨g,1,none⟩ a1).setCell ⟨g,2,none⟩ a2).setCell ⟨g,3,none⟩ a3) base ok v xs :=
 Kd.R_mono (Kd.R_fars g (Kd.R_types h hb ht) (fun _ hk=>hk.2) (fun k_ hk_=>set_far hk_ (set_far hk_ (set_far hk_ (set_far hk_ rfl))))) (fun _ hk=>hk.1)
theorem tG.three_rep (W:World) (base:Nat) (ok:Nat→Prop) (a b c:Int):Reps ((Kd.int .i64).M W base ok) 1 [a,b,c] [.int .i64 a,.int .i64 b,.int .i64 c] :=
 ⟨rfl,fun j r hr=>by
  match j,hr with
  | 0,hr=>obtain rfl:=oj_ hr;rfl
  | 1,hr=>obtain rfl:=oj_ hr;rfl
  | 2,hr=>obtain rfl:=oj_ hr;rfl
  | j+3,hr=>simp at hr⟩
structure tG.RG (w0 W:World) (g6 g7 g9 ga gb gc g16:Nat) (cs6 cs7:Array Value) (s SW SH:Int) (vA vY:Value) (A Y:List Int):Prop where
 gr:tG.Gr w0 W g6 g7 g9 ga gb gc cs6 cs7 s
 h16:W.heap[g16]?=some (.cells #[.int .i64 SW,.int .i64 SH,vA,vY] 60 (0,0))
 RA:Kd.R (Kd.int .i64) 3 W w0.heap.size (fun k=>some k=vA.ownBlock) vA A
 RY:Kd.R (Kd.int .i64) 3 W w0.heap.size (fun k=>some k=vY.ownBlock) vY Y
 ap:∀ k,some k=vA.ownBlock→¬ some k=vY.ownBlock
 b16:w0.heap.size≤g16
 n16:gb≠g16
section
variable {w0 W W':World} {g6 g7 g9 ga gb gc g16:Nat} {cs6 cs7:Array Value} {s SW SH:Int} {vA vY:Value} {A Y:List Int}
theorem tG.RG.step (h:tG.RG w0 W g6 g7 g9 ga gb gc g16 cs6 cs7 s SW SH vA vY A Y) (hb:Below W.heap.size W W'):tG.RG w0 W' g6 g7 g9 ga gb gc g16 cs6 cs7 s SW SH vA vY A Y :=
 ⟨h.gr.step hb,blk_below h.h16 hb,Kd.R_below h.RA hb,Kd.R_below h.RY hb,h.ap,h.b16,h.n16⟩
theorem tG.RG.drew (h:tG.RG w0 W g6 g7 g9 ga gb gc g16 cs6 cs7 s SW SH vA vY A Y):tG.RG w0 W.drew g6 g7 g9 ga gb gc g16 cs6 cs7 s SW SH vA vY A Y:=h.step (below_drew (Below.refl _ _))
theorem tG.RG.set9 (h:tG.RG w0 W g6 g7 g9 ga gb gc g16 cs6 cs7 s SW SH vA vY A Y) (l9:w0.heap.size≤g9) (s':Int):tG.RG w0 (W.setCell ⟨g9,0,none⟩ (.int .u64 s')) g6 g7 g9 ga gb gc g16 cs6 cs7 s' SW SH vA vY A Y :=
 ⟨⟨h.gr.rs.away l9 h.gr.m9.1.symm h.gr.m9.2.symm h.gr.n9.symm _,blk_far h.gr.h6 h.gr.n6.2.2.2.2 _,blk_far h.gr.h7 h.gr.m7.2.2 _,blk_set h.gr.h9 0 _,h.gr.b6,h.gr.b7,h.gr.n7,h.gr.n9⟩,
  blk_far h.h16 (blk_ne h.h16 h.gr.h9 (by decide)) _,Kd.R_tight rfl (Kd.R_far (p:=⟨g9,0,none⟩) (Kd.R_types h.RA h.gr.h9 (by decide)) (fun _ hk=>hk.2) _),Kd.R_tight rfl (Kd.R_far (p:=⟨g9,0,none⟩) (Kd.R_types h.RY h.gr.h9 (by decide)) (fun _ hk=>hk.2) _),h.ap,h.b16,h.n16⟩
theorem tG.RG.away (h:tG.RG w0 W g6 g7 g9 ga gb gc g16 cs6 cs7 s SW SH vA vY A Y) {g:Nat} {cs:Array Value} (hg:W.heap[g]?=some (.cells cs 45 (0,0))) (hl:w0.heap.size≤g) (n9:g9≠g) (nc:gc≠g) (v:Value):tG.RG w0 (W.setCell ⟨g,0,none⟩ v) g6 g7 g9 ga gb gc g16 cs6 cs7 s SW SH vA vY A Y :=
 ⟨⟨h.gr.rs.away hl (blk_ne h.gr.rs.ha hg (by decide)) (blk_ne h.gr.rs.hb hg (by decide)) nc v,blk_far h.gr.h6 (blk_ne h.gr.h6 hg (by decide)) v,blk_far h.gr.h7 (blk_ne h.gr.h7 hg (by decide)) v,blk_far h.gr.h9 n9 v,h.gr.b6,h.gr.b7,h.gr.n7,h.gr.n9⟩,
  blk_far h.h16 (blk_ne h.h16 hg (by decide)) _,Kd.R_tight rfl (Kd.R_far (p:=⟨g,0,none⟩) (Kd.R_types h.RA hg (by decide)) (fun _ hk=>hk.2) _),Kd.R_tight rfl (Kd.R_far (p:=⟨g,0,none⟩) (Kd.R_types h.RY hg (by decide)) (fun _ hk=>hk.2) _),h.ap,h.b16,h.n16⟩
theorem tG.RG.kept {A' Y':List Int} {o o':Nat→Prop} (h:tG.RG w0 W g6 g7 g9 ga gb gc g16 cs6 cs7 s SW SH vA vY A Y) (hk:Kept W W' (fun k=>some k=vA.ownBlock∨some k=vY.ownBlock)) (hB:Below w0.heap.size w0 W') (RA:Kd.R (Kd.int .i64) 3 W' w0.heap.size o vA A') (RY:Kd.R (Kd.int .i64) 3 W' w0.heap.size o' vY Y'):tG.RG w0 W' g6 g7 g9 ga gb gc g16 cs6 cs7 s SW SH vA vY A' Y' :=
 have key:∀ k,some k=vA.ownBlock∨some k=vY.ownBlock→∃ cells,W.heap[k]?=some (.cells cells 3 (0,0)):=fun k hk=>hk.elim (fun e=>Kd.R_typed h.RA k e.symm) (fun e=>Kd.R_typed h.RY k e.symm)
 ⟨h.gr.kept hk key hB,(hk.2 _ (blk_lt h.h16) (fun e=>by obtain ⟨c,hc⟩:=key _ e;exact blk_ne h.h16 hc (by decide) rfl)).trans h.h16,Kd.R_tight rfl RA,Kd.R_tight rfl RY,h.ap,h.b16,h.n16⟩
theorem tG.Gr.grown (h:tG.Gr w0 W g6 g7 g9 ga gb gc cs6 cs7 s) {row:Option Nat} (hg:W.grownBy W' row) (ht:∀ k,row=some k→∃ cells,W.heap[k]?=some (.cells cells 3 (0,0))) (hB:Below w0.heap.size w0 W'):tG.Gr w0 W' g6 g7 g9 ga gb gc cs6 cs7 s:=by
 have key:∀ {g t:Nat} {cs:Array Value},W.heap[g]?=some (.cells cs t (0,0))→t≠3→W'.heap[g]?=some (.cells cs t (0,0)):=fun hx hn=>blk_grown hx hg (fun e=>by obtain ⟨c,hc⟩:=ht _ e.symm;exact blk_ne hx hc hn rfl)
 exact ⟨⟨key h.rs.ha (by decide),key h.rs.hb (by decide),key h.rs.hc (by decide),hB,h.rs.la,h.rs.lb,h.rs.lc⟩,key h.h6 (by decide),key h.h7 (by decide),key h.h9 (by decide),h.b6,h.b7,h.n7,h.n9⟩
theorem tG.RG.grown (h:tG.RG w0 W g6 g7 g9 ga gb gc g16 cs6 cs7 s SW SH vA vY A Y) {row:Option Nat} (hg:W.grownBy W' row) (ht:∀ k,row=some k→∃ cells,W.heap[k]?=some (.cells cells 3 (0,0))) (hn:∀ k,row=some k→some k≠vA.ownBlock∧some k≠vY.ownBlock) (hB:Below w0.heap.size w0 W'):tG.RG w0 W' g6 g7 g9 ga gb gc g16 cs6 cs7 s SW SH vA vY A Y :=
 ⟨h.gr.grown hg ht hB,blk_grown h.h16 hg (fun e=>by obtain ⟨c,hc⟩:=ht _ e.symm;exact blk_ne h.h16 hc (by decide) rfl),Kd.R_grown2 h.RA rfl hg (fun k e=>(hn k e).1),Kd.R_grown2 h.RY rfl hg (fun k e=>(hn k e).2),h.ap,h.b16,h.n16⟩
theorem tG.take_succ (l:List S80) (i:Nat) (h:i<l.length):(l.take (i+1)).map (·.f3)=(l.take i).map (·.f3) ++ [(rd_T80 l (i:Int)).f3]:=by
 rw [List.take_add_one,List.map_append]
 simp [rd_T80,List.getElem?_eq_getElem h,List.getD_eq_getElem?_getD]
theorem tG.RG.c {y0 y1 y2 y3 y4 y5 y6 y7 x0 x1 x2 x3 x4:Value} (h:tG.RG w0 W g6 g7 g9 ga gb gc g16 #[y0,y1,y2,y3,y4,y5,y6,y7] #[x0,x1,x2,x3,x4] s SW SH vA vY A Y) :
  W.cell? ⟨g7,0,none⟩=some x0∧W.cell? ⟨g7,1,none⟩=some x1∧W.cell? ⟨g7,2,none⟩=some x2∧W.cell? ⟨g7,3,none⟩=some x3∧W.cell? ⟨g7,4,none⟩=some x4 ∧
  W.cell? ⟨g6,0,none⟩=some y0∧W.cell? ⟨g6,1,none⟩=some y1∧W.cell? ⟨g6,2,none⟩=some y2∧W.cell? ⟨g6,3,none⟩=some y3∧W.cell? ⟨g6,4,none⟩=some y4∧W.cell? ⟨g6,5,none⟩=some y5∧W.cell? ⟨g6,6,none⟩=some y6∧W.cell? ⟨g6,7,none⟩=some y7 ∧
  W.cell? ⟨g16,0,none⟩=some (.int .i64 SW)∧W.cell? ⟨g16,1,none⟩=some (.int .i64 SH)∧W.cell? ⟨g16,2,none⟩=some vA∧W.cell? ⟨g16,3,none⟩=some vY∧W.cell? ⟨g9,0,none⟩=some (.int .u64 s)∧W.frozen? ⟨g9,0,none⟩=false :=
 ⟨blk_cell h.gr.h7 0,blk_cell h.gr.h7 1,blk_cell h.gr.h7 2,blk_cell h.gr.h7 3,blk_cell h.gr.h7 4,blk_cell h.gr.h6 0,blk_cell h.gr.h6 1,blk_cell h.gr.h6 2,blk_cell h.gr.h6 3,blk_cell h.gr.h6 4,blk_cell h.gr.h6 5,blk_cell h.gr.h6 6,blk_cell h.gr.h6 7,blk_cell h.h16 0,blk_cell h.h16 1,blk_cell h.h16 2,blk_cell h.h16 3,blk_cell h.gr.h9 0,blk_frozen h.gr.h9 0⟩
structure tG.X3 (g7 g16 g9:Nat) (x0 x1 x2 x3 x4 d0 d1 d2 d3 z0:Value) (w':World):Prop where
 h7:w'.heap[g7]?=some (.cells #[x0,x1,x2,x3,x4] 25 (0,0))
 h16:w'.heap[g16]?=some (.cells #[d0,d1,d2,d3] 60 (0,0))
 h9:w'.heap[g9]?=some (.cells #[z0] 45 (0,0))
theorem tG.RG.x3 {x0 x1 x2 x3 x4:Value} (h:tG.RG w0 W g6 g7 g9 ga gb gc g16 cs6 #[x0,x1,x2,x3,x4] s SW SH vA vY A Y):tG.X3 g7 g16 g9 x0 x1 x2 x3 x4 (.int .i64 SW) (.int .i64 SH) vA vY (.int .u64 s) W:=⟨h.gr.h7,h.h16,h.gr.h9⟩
theorem tG.RG.q (h:tG.RG w0 W g6 g7 g9 ga gb gc g16 cs6 cs7 s SW SH vA vY A Y):(g7≠ga∧g16≠ga∧g9≠ga)∧(g7≠gb∧g16≠gb∧g9≠gb)∧(g7≠gc∧g16≠gc∧g9≠gc) :=
 ⟨⟨h.gr.n7,blk_ne h.h16 h.gr.rs.ha (by decide),h.gr.m9.1⟩,⟨h.gr.m7.1,h.n16.symm,h.gr.m9.2⟩,h.gr.m7.2.1,blk_ne h.h16 h.gr.rs.hc (by decide),h.gr.n9⟩
variable {x0 x1 x2 x3 x4 d0 d1 d2 d3 z0 a0 a1 a2 a3 a4:Value} {g i:Nat}
theorem tG.X3.a (h:tG.X3 g7 g16 g9 x0 x1 x2 x3 x4 d0 d1 d2 d3 z0 W) (q:g7≠g∧g16≠g∧g9≠g):tG.X3 g7 g16 g9 x0 x1 x2 x3 x4 d0 d1 d2 d3 z0 (((((W.setCell ⟨g,0,none⟩ a0).setCell ⟨g,1,none⟩ a1).setCell ⟨g,2,none⟩ a2).setCell ⟨g,3,none⟩ a3).setCell ⟨g,4,none⟩ a4):=⟨tG.far5 h.h7 q.1,tG.far5 h.h16 q.2.1,tG.far5 h.h9 q.2.2⟩
theorem tG.X3.b (h:tG.X3 g7 g16 g9 x0 x1 x2 x3 x4 d0 d1 d2 d3 z0 W) (q:g7≠g∧g16≠g∧g9≠g):tG.X3 g7 g16 g9 x0 x1 x2 x3 x4 d0 d1 d2 d3 z0 ((((W.setCell ⟨g,0,none⟩ a0).setCell ⟨g,1,none⟩ a1).setCell ⟨g,2,none⟩ a2).setCell ⟨g,3,none⟩ a3):=⟨tG.far4 h.h7 q.1,tG.far4 h.h16 q.2.1,tG.far4 h.h9 q.2.2⟩
theorem tG.X3.c (h:tG.X3 g7 g16 g9 x0 x1 x2 x3 x4 d0 d1 d2 d3 z0 W) (q:g7≠g∧g16≠g∧g9≠g):tG.X3 g7 g16 g9 x0 x1 x2 x3 x4 d0 d1 d2 d3 z0 (W.setCell ⟨g,i,none⟩ a0):=⟨tG.far1 h.h7 q.1,tG.far1 h.h16 q.2.1,tG.far1 h.h9 q.2.2⟩
variable {P:Program} {md:Region.Mode} {ops:Array Oper} {Q:Exit→Act→World→Prop} {ds:List Nat} {oi:Oper} {v:Value} {fuel:Nat} {l l':Array Bool} {a a':Act} {w:World}
theorem tG.tX (i:Nat) (N:Option Tmp) (hS:tG.X3 g7 g16 g9 x0 x1 x2 x3 x4 d0 d1 d2 d3 z0 w) (h:wpAnyLast P md ops Q (tG.X3 g7 g16 g9 x0 x1 x2 x3 x4 d0 d1 d2 d3 z0) ds fuel l' a' w) (hl:l.setIfInBounds i true=l':=by simp only [sl_];rfl) (hi:ops[i]?=some oi:=by rfl) (hN:oi.dst=N:=by rfl) (hc:takeB md ops ds l l' i=true:=by kernel_rfl) (hQ:∀ c a w,Q (.panic c) (a.put oi.dst v) w→Q (.panic c) a w:=by exact fun _ _ _ h=>h) (hy:YieldsIf P ops (tG.X3 g7 g16 g9 x0 x1 x2 x3 x4 d0 d1 d2 d3 z0) oi v a:=by exact Or.inl ⟨by rfl,by rintro w' ⟨s0,s1,s2⟩;obtain ⟨hx0,hx1,hx2,hx3,hx4,_⟩:=cells5 s0;obtain ⟨hd0,hd1,hd2,hd3,_⟩:=cells4 s1;have hz0:=blk_cell s2 0;go_simp;with_reducible rfl⟩) (ha:a.put N v=a':=by simp only [Act.put,sl_,i64_w,i32_w];rfl):wpAnyLast P md ops Q (tG.X3 g7 g16 g9 x0 x1 x2 x3 x4 d0 d1 d2 d3 z0) ds (fuel+1) l a w:=take_ l' hi hN hc hQ hy hS ha h
end
theorem h11_Grow.calls (k:Nat) (A0:Option Addr) (c0:Nat) (l0:List (S80)) (a1_0:Int) (a1_1:Int) (A1_2:Option Addr) (c1_2:Nat) (l1_2:List Int) (a1_3:Int) (a1_4:Int) (A1_5:Option Addr) (c1_5:Nat) (l1_5:List Int) (A1_6:Option Addr) (c1_6:Nat) (l1_6:List Int) (A1_7:Option Addr) (c1_7:Nat) (l1_7:List Int) (a2_0:Int) (A2_1:Option Addr) (c2_1:Nat) (l2_1:List (S68)) (A2_2:Option Addr) (c2_2:Nat) (l2_2:List Int) (a2_3:Int) (a2_4:Int) (a3:Int) (a4_0:Int) (r1:Int) (r2:List (S68)) (r3:List Int) (r4:Int) (r5:Int) (r6:Int) (r7:Int) (r8:List Int) (r9:List Int) (r10:Int) (r11:Int) (r12:Int) (w:World) (hr0:Kd.C k80 w A0 l0.length l0) (hc0:l0.length≤c0) (hr1_2:Kd.C (Kd.int .i64) w A1_2 l1_2.length l1_2) (hc1_2:l1_2.length≤c1_2) (hr1_5:Kd.C (Kd.int .i64) w A1_5 l1_5.length l1_5) (hc1_5:l1_5.length≤c1_5) (hr1_6:Kd.C (Kd.int .i64) w A1_6 l1_6.length l1_6) (hc1_6:l1_6.length≤c1_6) (hr1_7:Kd.C (Kd.int .i64) w A1_7 l1_7.length l1_7) (hc1_7:l1_7.length≤c1_7) (hr2_1:Kd.C k68 w A2_1 l2_1.length l2_1) (hc2_1:l2_1.length≤c2_1) (hr2_2:Kd.C (Kd.int .i64) w A2_2 l2_2.length l2_2) (hc2_2:l2_2.length≤c2_2) (h:h11_Grow.f k l0 a1_0 a1_1 l1_2 a1_3 a1_4 l1_5 l1_6 l1_7 a2_0 l2_1 l2_2 a2_3 a2_4 a3 a4_0=some (r1,r2,r3,r4,r5,r6,r7,r8,r9,r10,r11,r12)) :
  Calls Try.prog 36 #[.slice A0 l0.length c0,.agg #[.int .i64 a1_0,.int .i64 a1_1,.slice A1_2 l1_2.length c1_2,.int .i64 a1_3,.int .i64 a1_4,.slice A1_5 l1_5.length c1_5,.slice A1_6 l1_6.length c1_6,.slice A1_7 l1_7.length c1_7],.agg #[.int .i64 a2_0,.slice A2_1 l2_1.length c2_1,.slice A2_2 l2_2.length c2_2,.int .i64 a2_3,.int .i64 a2_4],.int .i64 a3,.agg #[.int .u64 a4_0]] w fun e w'=>∃ v1_ v2_ v7_ v8_:Value,e=.returned (.tuple #[.agg #[.int .i64 r1,v1_,v2_,.int .i64 r4,.int .i64 r5],.agg #[.int .i64 r6,.int .i64 r7,v7_,v8_],.int .i64 r10,.agg #[.int .u64 r11],.int .i64 r12])∧(∃ base_ ok_,Kd.R k68 68 w' base_ ok_ v1_ r2)∧(∃ base_ ok_,Kd.R (Kd.int .i64) 3 w' base_ ok_ v2_ r3)∧(∃ base_ ok_,Kd.R (Kd.int .i64) 3 w' base_ ok_ v7_ r8)∧(∃ base_ ok_,Kd.R (Kd.int .i64) 3 w' base_ ok_ v8_ r9)∧Below w.heap.size w w':=by
 have hu25:=Try.underlying25
 have hu60:=Try.underlying60
 have hu62:=Try.underlying62
 have hu58:=Try.underlying58
 have hu45:=Try.underlying45
 have R0:=am_ hr0
 have R12:=am_ hr1_2
 have R15:=am_ hr1_5
 have R16:=am_ hr1_6
 have R17:=am_ hr1_7
 have R21:=am_ hr2_1
 have R22:=am_ hr2_2
 clear hr0 hr1_2 hr1_5 hr1_6 hr1_7 hr2_1 hr2_2
 have HB:=am_ (Below.refl w.heap.size w)
 unfold h11_Grow.f at h
 obtain ⟨er,hE1,h1⟩:=Option.bind_eq_some_iff.1 h
 have A1:=am_ hE1
 have H:=am_ h1
 clear hE1 h h1
 go_enter Try.func36,Try.ntmps36
 by_cases ce:er≠0
 ·have h:=H.out
  rw [if_pos ce] at h
  simp only [Option.some.injEq,Prod.mk.injEq] at h
  obtain ⟨rfl,rfl,rfl,rfl,rfl,rfl,rfl,rfl,rfl,rfl,rfl,rfl⟩:=h
  have q1_:(er != 0)=true:=bne_iff_ne.2 ce
  have q2_:(er == 0)=false:=beq_eq_false_iff_ne.2 ce
  clear ce H
  go_wp2_with (first
    | ((with_reducible refine gate_dst (N:=6) rfl ?_);refine box_ev (N:=6) (cs:=#[.int .i64 a1_0,.int .i64 a1_1,.slice A1_2 l1_2.length c1_2,.int .i64 a1_3,.int .i64 a1_4,.slice A1_5 l1_5.length c1_5,.slice A1_6 l1_6.length c1_6,.slice A1_7 l1_7.length c1_7]) (t:=62) ?_;intro g6 hg w1 hbox hb;have B6:=am_ hbox;have G6:=gsz (w:=w) hg;replace HB:=am_ (below_step (hb_) hb);clear hb hbox hg)
    | ((with_reducible refine gate_dst (N:=7) rfl ?_);refine box_ev (N:=7) (cs:=#[.int .i64 a2_0,.slice A2_1 l2_1.length c2_1,.slice A2_2 l2_2.length c2_2,.int .i64 a2_3,.int .i64 a2_4]) (t:=25) ?_;intro g7 hg w2 hbox hb;have B7:=am_ hbox;have G7:=gsz (w:=w) hg;replace B6:=bkb B6 hb;replace HB:=am_ (below_step (hb_) hb);clear hb hbox hg)
    | ((with_reducible refine gate_dst (N:=9) rfl ?_);refine box_ev (N:=9) (cs:=#[.int .u64 a4_0]) (t:=45) ?_;intro g9 hg w3 hbox hb;have B9:=am_ hbox;have G9:=gsz (w:=w) hg;replace B6:=bkb B6 hb;replace B7:=bkb B7 hb;replace HB:=am_ (below_step (hb_) hb);clear hb hbox hg)
    | ((with_reducible refine gate_dst (N:=10) rfl ?_);refine box_ev (N:=10) (cs:=#[.int .i64 0,.slice none 0 0,.slice none 0 0,.int .i64 0,.int .i64 0]) (t:=25) ?_;intro ga hg w4 hbox hb;have BA:=am_ hbox;have GA:=gsz (w:=w) hg;have N7:=nbl B7 hg;replace B6:=bkb B6 hb;replace B7:=bkb B7 hb;replace B9:=bkb B9 hb;replace HB:=am_ (below_step (hb_) hb);clear hb hbox hg)
    | ((with_reducible refine gate_dst (N:=11) rfl ?_);refine box_ev (N:=11) (cs:=#[.int .i64 0,.int .i64 0,.slice none 0 0,.slice none 0 0]) (t:=60) ?_;intro gb hg w5 hbox hb;have BB:=am_ hbox;have GB:=gsz (w:=w) hg;replace B6:=bkb B6 hb;replace B7:=bkb B7 hb;replace B9:=bkb B9 hb;replace BA:=bkb BA hb;replace HB:=am_ (below_step (hb_) hb);clear hb hbox hg)
    | ((with_reducible refine gate_dst (N:=13) rfl ?_);refine box_ev (N:=13) (cs:=#[.int .u64 0]) (t:=45) ?_;intro gc hg w6 hbox hb;have BC:=am_ hbox;have GC:=gsz (w:=w) hg;have N9:=nbl B9 hg;replace B6:=bkb B6 hb;replace B7:=bkb B7 hb;replace B9:=bkb B9 hb;replace BA:=bkb BA hb;replace BB:=bkb BB hb;replace HB:=am_ (below_step (hb_) hb);have HI:=am_ (tG.Gr.mk (w0:=w) (tG.Rs.mk (w0:=w) BA.out BB.out BC.out HB.out GA.out GB.out GC.out) B6.out B7.out B9.out G6.out G7.out N7.out N9.out);clear hb hbox hg BA BB BC HB GA GB GC B6 B7 B9 G6 G7 N7 N9;obtain ⟨hx0,hx1,hx2,hx3,hx4,_,_,_,_,_⟩:=cells5 HI.out.h7;obtain ⟨hy0,hy1,hy2,hy3,hy4,hy5,hy6,hy7,_⟩:=cells8 HI.out.h6)
    | (go_at_call 58;refine (h11_growError.calls k _ _ _ _ _ _ _ _ _ _ _ _ _ _ _ _ _ _ _ _ _ _ _ _ _ _ _ _ _ _ _ (Kd.C_below R0.out HI.out.ok) hc0 (Kd.C_below R12.out HI.out.ok) hc1_2 (Kd.C_below R15.out HI.out.ok) hc1_5 (Kd.C_below R16.out HI.out.ok) hc1_6 (Kd.C_below R17.out HI.out.ok) hc1_7 (Kd.C_below R21.out HI.out.ok) hc2_1 (Kd.C_below R22.out HI.out.ok) hc2_2 A1.out).mono ?_;rintro e w2 ⟨rfl,hb⟩;replace HI:=am_ (HI.out.step hb);clear hb;obtain ⟨⟨ha0,ha1,ha2,ha3,ha4⟩,⟨fa0,fa1,fa2,fa3,fa4⟩,⟨hb0,hb1,hb2,hb3⟩,⟨fb0,fb1,fb2,fb3⟩,hc0_,fc0⟩:=HI.out.rs.cells;have n1_:=HI.out.rs.nab;have n2_:=n1_.symm;have n3_:=HI.out.rs.nac;have n4_:=n3_.symm;have n5_:=HI.out.rs.nbc;have n6_:=n5_.symm))
  refine bodyPost_ret (results_list (rs:=[.cell 10 25,.cell 11 60,.tmp 12,.cell 13 45,.tmp 14]) rfl (by simp) (HI.out.rs.vals (ta:=10) (tb:=11) (tn:=12) (tc:=13) (te:=14) rfl rfl rfl)) rfl ?_
  exact ⟨_,_,_,_,rfl,⟨w.heap.size,fun _=>True,nl_⟩,⟨w.heap.size,fun _=>True,nl_⟩,⟨w.heap.size,fun _=>True,nl_⟩,⟨w.heap.size,fun _=>True,nl_⟩,HI.out.rs.pB⟩
 obtain rfl:er=0:=by simpa using ce
 have h0:=H.out
 rw [if_neg ce] at h0
 clear H
 obtain ⟨S,hS,h1⟩:=Option.bind_eq_some_iff.1 h0
 clear h0
 obtain ⟨T,hT,h⟩:=Option.bind_eq_some_iff.1 h1
 clear h1
 by_cases ct:S=(a1_3,a1_4,l1_5,l1_6)∧T=(a2_0,l2_1,l2_2,a2_3,a2_4)∧0≤a2_0∧a2_0<(l1_5.length:Int)
 rotate_left
 ·rw [if_neg ct] at h;exact absurd h (by simp)
 rw [if_pos ct] at h
 obtain ⟨rfl,rfl,c1,c2⟩:=ct
 have A2:=am_ hS
 have A3:=am_ hT
 have CT:=am_ (And.intro c1 c2)
 have H:=am_ h
 clear h hS hT c1 c2 ce
 go_upto_region 4 with (first
    | ((with_reducible refine gate_dst (N:=6) rfl ?_);refine box_ev (N:=6) (cs:=#[.int .i64 a1_0,.int .i64 a1_1,.slice A1_2 l1_2.length c1_2,.int .i64 a1_3,.int .i64 a1_4,.slice A1_5 l1_5.length c1_5,.slice A1_6 l1_6.length c1_6,.slice A1_7 l1_7.length c1_7]) (t:=62) ?_;intro g6 hg w1 hbox hb;have B6:=am_ hbox;have G6:=gsz (w:=w) hg;replace HB:=am_ (below_step (hb_) hb);clear hb hbox hg)
    | ((with_reducible refine gate_dst (N:=7) rfl ?_);refine box_ev (N:=7) (cs:=#[.int .i64 a2_0,.slice A2_1 l2_1.length c2_1,.slice A2_2 l2_2.length c2_2,.int .i64 a2_3,.int .i64 a2_4]) (t:=25) ?_;intro g7 hg w2 hbox hb;have B7:=am_ hbox;have G7:=gsz (w:=w) hg;replace B6:=bkb B6 hb;replace HB:=am_ (below_step (hb_) hb);clear hb hbox hg)
    | ((with_reducible refine gate_dst (N:=9) rfl ?_);refine box_ev (N:=9) (cs:=#[.int .u64 a4_0]) (t:=45) ?_;intro g9 hg w3 hbox hb;have B9:=am_ hbox;have G9:=gsz (w:=w) hg;replace B6:=bkb B6 hb;replace B7:=bkb B7 hb;replace HB:=am_ (below_step (hb_) hb);clear hb hbox hg)
    | ((with_reducible refine gate_dst (N:=10) rfl ?_);refine box_ev (N:=10) (cs:=#[.int .i64 0,.slice none 0 0,.slice none 0 0,.int .i64 0,.int .i64 0]) (t:=25) ?_;intro ga hg w4 hbox hb;have BA:=am_ hbox;have GA:=gsz (w:=w) hg;have N7:=nbl B7 hg;replace B6:=bkb B6 hb;replace B7:=bkb B7 hb;replace B9:=bkb B9 hb;replace HB:=am_ (below_step (hb_) hb);clear hb hbox hg)
    | ((with_reducible refine gate_dst (N:=11) rfl ?_);refine box_ev (N:=11) (cs:=#[.int .i64 0,.int .i64 0,.slice none 0 0,.slice none 0 0]) (t:=60) ?_;intro gb hg w5 hbox hb;have BB:=am_ hbox;have GB:=gsz (w:=w) hg;replace B6:=bkb B6 hb;replace B7:=bkb B7 hb;replace B9:=bkb B9 hb;replace BA:=bkb BA hb;replace HB:=am_ (below_step (hb_) hb);clear hb hbox hg)
    | ((with_reducible refine gate_dst (N:=13) rfl ?_);refine box_ev (N:=13) (cs:=#[.int .u64 0]) (t:=45) ?_;intro gc hg w6 hbox hb;have BC:=am_ hbox;have GC:=gsz (w:=w) hg;have N9:=nbl B9 hg;replace B6:=bkb B6 hb;replace B7:=bkb B7 hb;replace B9:=bkb B9 hb;replace BA:=bkb BA hb;replace BB:=bkb BB hb;replace HB:=am_ (below_step (hb_) hb);have HI:=am_ (tG.Gr.mk (w0:=w) (tG.Rs.mk (w0:=w) BA.out BB.out BC.out HB.out GA.out GB.out GC.out) B6.out B7.out B9.out G6.out G7.out N7.out N9.out);clear hb hbox hg BA BB BC HB GA GB GC B6 B7 B9 G6 G7 N7 N9;obtain ⟨hx0,hx1,hx2,hx3,hx4,_,_,_,_,_⟩:=cells5 HI.out.h7;obtain ⟨hy0,hy1,hy2,hy3,hy4,hy5,hy6,hy7,_⟩:=cells8 HI.out.h6)
    | (go_at_call 58;refine (h11_growError.calls k _ _ _ _ _ _ _ _ _ _ _ _ _ _ _ _ _ _ _ _ _ _ _ _ _ _ _ _ _ _ _ (Kd.C_below R0.out HI.out.ok) hc0 (Kd.C_below R12.out HI.out.ok) hc1_2 (Kd.C_below R15.out HI.out.ok) hc1_5 (Kd.C_below R16.out HI.out.ok) hc1_6 (Kd.C_below R17.out HI.out.ok) hc1_7 (Kd.C_below R21.out HI.out.ok) hc2_1 (Kd.C_below R22.out HI.out.ok) hc2_2 A1.out).mono ?_;rintro e w2 ⟨rfl,hb⟩;replace HI:=am_ (HI.out.step hb);clear hb;obtain ⟨⟨ha0,ha1,ha2,ha3,ha4⟩,⟨fa0,fa1,fa2,fa3,fa4⟩,⟨hb0,hb1,hb2,hb3⟩,⟨fb0,fb1,fb2,fb3⟩,hc0_,fc0⟩:=HI.out.rs.cells;have n1_:=HI.out.rs.nab;have n2_:=n1_.symm;have n3_:=HI.out.rs.nac;have n4_:=n3_.symm;have n5_:=HI.out.rs.nbc;have n6_:=n5_.symm))
 clear ha0 ha1 ha2 ha3 ha4 fa0 fa1 fa2 fa3 fa4 hb0 hb1 hb2 hb3 fb0 fb1 fb2 fb3 hc0_ fc0 n1_ n2_ n3_ n4_ n5_ n6_ hx0 hx1 hx2 hx3 hx4 hy0 hy1 hy2 hy3 hy4 hy5 hy6 hy7 A1
 replace HI:=am_ HI.out.drew
 refine start_ (n:=8) (S:=fun w'=>tG.Gr w w' g6 g7 g9 ga gb gc #[.int .i64 a1_0,.int .i64 a1_1,.slice A1_2 l1_2.length c1_2,.int .i64 a1_3,.int .i64 a1_4,.slice A1_5 l1_5.length c1_5,.slice A1_6 l1_6.length c1_6,.slice A1_7 l1_7.length c1_7] #[.int .i64 a2_0,.slice A2_1 l2_1.length c2_1,.slice A2_2 l2_2.length c2_2,.int .i64 a2_3,.int .i64 a2_4] a4_0) (ds:=[]) #[false,false,false,false,false,false,false,false] (by kernel_rfl) rfl rfl HI.out (fun hHeld=>?_)
 generalize hWd:World.drew _=wd at HI hHeld ⊢
 clear hWd
 refine pI 0 (some 41) ?_
 refine take_ (i:=1) (N:=some 42) (v:=?_) (a':=?_) #[true,true,false,false,false,false,false,false] rfl rfl (by kernel_rfl) (fun _ _ _ h=>h) (Or.inl ⟨by rfl,?_⟩) hHeld ?_ ?_;rotate_left
 ·intro w' s0;obtain ⟨hy0,hy1,hy2,hy3,hy4,hy5,hy6,hy7,_⟩:=cells8 s0.h6;go_simp;with_reducible rfl
 rotate_left
 ·simp only [Act.put,sl_,i64_w,i32_w];rfl
 refine pI 3 (some 44) ?_
 refine take_ (i:=4) (N:=some 45) (v:=?_) (a':=?_) #[true,true,false,true,true,false,false,false] rfl rfl (by kernel_rfl) (fun _ _ _ h=>h) (Or.inl ⟨by rfl,?_⟩) hHeld ?_ ?_;rotate_left
 ·intro w' s0;obtain ⟨hx0,hx1,hx2,hx3,hx4,_,_,_,_,_⟩:=cells5 s0.h7;go_simp;with_reducible rfl
 rotate_left
 ·simp only [Act.put,sl_,i64_w,i32_w];rfl
 refine join_ (σ:=Value × Value × Nat) 2 #[true,true,true,true,true,true,false,false] (fun s_=>[(43,.agg #[.int .i64 a1_3,.int .i64 a1_4,s_.1,s_.2.1]),(16,.pointer (some ⟨s_.2.2,0,none⟩))]) (fun s_ w'=>(tG.Gr w w' g6 g7 g9 ga gb gc #[.int .i64 a1_0,.int .i64 a1_1,.slice A1_2 l1_2.length c1_2,.int .i64 a1_3,.int .i64 a1_4,.slice A1_5 l1_5.length c1_5,.slice A1_6 l1_6.length c1_6,.slice A1_7 l1_7.length c1_7] #[.int .i64 a2_0,.slice A2_1 l2_1.length c2_1,.slice A2_2 l2_2.length c2_2,.int .i64 a2_3,.int .i64 a2_4] a4_0)∧Kd.R (Kd.int .i64) 3 w' w.heap.size (fun k_=>some k_≠(s_.2.1:Value).ownBlock) s_.1 l1_5∧Kd.R (Kd.int .i64) 3 w' w.heap.size (fun k_=>some k_≠(s_.1:Value).ownBlock) s_.2.1 l1_6∧w'.heap[s_.2.2]?=some (.cells #[.int .i64 0,.int .i64 0,.slice none 0 0,.slice none 0 0] 60 (0,0))∧w.heap.size≤s_.2.2∧gb≠s_.2.2) ?_ ?_
 rotate_left
 ·intro hCont
  refine two_ (i:=2) (j:=5) (Ni:=some 43) (Nj:=some 16) #[true,true,true,true,true,false,false,false] #[true,true,false,true,true,true,false,false] rfl rfl rfl rfl (by kernel_rfl) (by decide) (by decide) (fun K hK=>?_) (fun K hK=>?_)
  ·refine goes_ Try.func59 (by kernel_rfl) rfl #[.agg #[.int .i64 a1_3,.int .i64 a1_4,.slice A1_5 l1_5.length c1_5,.slice A1_6 l1_6.length c1_6]] (by rfl) rfl rfl ga_ ?_
   refine (h11_streets.calls _ _ _ _ _ _ _ _ _ _ _ _ _ (Kd.C_below R15.out HI.out.ok) hc1_5 (Kd.C_below R16.out HI.out.ok) hc1_6 A2.out).mono ?_
   rintro e w1 ⟨v1,v2,rfl,o1,o2,hb⟩
   refine ⟨_,rfl,?_⟩
   have RA:=am_ (Kd.R_lower o1 HI.out.ok.size)
   have RY:=am_ (Kd.R_lower o2 HI.out.ok.size)
   replace HI:=am_ (HI.out.step hb)
   clear hb o1 o2
   refine hK.out _ _ HI.out (fun hHeld=>?_);clear hK K
   refine nrm 43 ?_
   refine oI 5 (some 16) (fun K hK=>?_)
   refine box_step (by rfl) (N:=16) rfl (cs:=#[.int .i64 0,.int .i64 0,.slice none 0 0,.slice none 0 0]) (t:=60) (by first|(go_simp;done)|(go_simp;rfl)) ?_
   intro g16 hg w2 hbox hb
   have B16:=am_ hbox
   have N16:Aside0 (gb≠g16):=⟨by rw [hg];exact Nat.ne_of_lt (blk_lt HI.out.rs.hb)⟩
   have G16:Aside0 (w.heap.size≤g16):=⟨by rw [hg];exact HI.out.ok.size⟩
   replace RA:=rbw RA hb
   replace RY:=rbw RY hb
   replace HI:=am_ (HI.out.step hb)
   clear hb hbox hg
   refine hK.out _ _ HI.out (fun hHeld=>?_);clear hK K
   refine nrm 16 ?_
   exact norm_ (by simp only [putAll,Act.put,sl_]) (hCont (v1,v2,g16) _ ⟨HI.out,RA.out,RY.out,B16.out,G16.out,N16.out⟩)
  ·refine box_step (by rfl) (N:=16) rfl (cs:=#[.int .i64 0,.int .i64 0,.slice none 0 0,.slice none 0 0]) (t:=60) (by first|(go_simp;done)|(go_simp;rfl)) ?_
   intro g16 hg w2 hbox hb
   have B16:=am_ hbox
   have N16:Aside0 (gb≠g16):=⟨by rw [hg];exact Nat.ne_of_lt (blk_lt HI.out.rs.hb)⟩
   have G16:Aside0 (w.heap.size≤g16):=⟨by rw [hg];exact HI.out.ok.size⟩
   replace HI:=am_ (HI.out.step hb)
   clear hb hbox hg
   refine hK.out _ _ HI.out (fun hHeld=>?_);clear hK K
   refine nrm 16 ?_
   refine oI 2 (some 43) (fun K hK=>?_)
   refine goes_ Try.func59 (by kernel_rfl) rfl #[.agg #[.int .i64 a1_3,.int .i64 a1_4,.slice A1_5 l1_5.length c1_5,.slice A1_6 l1_6.length c1_6]] (by rfl) rfl rfl ga_ ?_
   refine (h11_streets.calls _ _ _ _ _ _ _ _ _ _ _ _ _ (Kd.C_below R15.out HI.out.ok) hc1_5 (Kd.C_below R16.out HI.out.ok) hc1_6 A2.out).mono ?_
   rintro e w1 ⟨v1,v2,rfl,o1,o2,hb⟩
   refine ⟨_,rfl,?_⟩
   have RA:=am_ (Kd.R_lower o1 HI.out.ok.size)
   have RY:=am_ (Kd.R_lower o2 HI.out.ok.size)
   replace B16:=am_ (blk_below B16.out hb)
   replace HI:=am_ (HI.out.step hb)
   clear hb o1 o2
   refine hK.out _ _ HI.out (fun hHeld=>?_);clear hK K
   refine nrm 43 ?_
   exact norm_ (by simp only [putAll,Act.put,sl_]) (hCont (v1,v2,g16) _ ⟨HI.out,RA.out,RY.out,B16.out,G16.out,N16.out⟩)
 clear HI hHeld
 rintro ⟨v1,v2,g16⟩ wj ⟨hHeld,hRA,hRY,hB16,hG16,hN16⟩
 obtain ⟨AA,cA,eA⟩:=Kd.R_slice hRA
 obtain ⟨AY,cY,eY⟩:=Kd.R_slice hRY
 dsimp only at eA eY
 subst eA eY
 have HI:=am_ hHeld
 have RA:=am_ hRA
 have RY:=am_ hRY
 have B16:=am_ hB16
 have G16:=am_ hG16
 have N16:=am_ hN16
 clear hRA hRY hB16 hG16 hN16
 refine norm_ (a':=?_) ?_ ?_
 rotate_left
 ·simp only [putAll,Act.put,sl_];rfl
 have b0:=blk_set B16.out 0 (.int .i64 a1_3)
 have b1:=blk_set b0 1 (.int .i64 a1_4)
 have b2:=blk_set b1 2 (.slice AA l1_5.length cA)
 have m0_:=am_ ((((HI.out.away B16.out G16.out N16.out (.int .i64 a1_3)).away b0 G16.out N16.out (.int .i64 a1_4)).away b1 G16.out N16.out (.slice AA l1_5.length cA)).away (i:=3) b2 G16.out N16.out (.slice AY l1_6.length cY))
 have m1_:=am_ (tG.RG.mk m0_.out (blk_puts4 B16.out) (Kd.R_tight rfl (tG.R60 RA.out B16.out (by decide) _ _ _ _)) (Kd.R_tight rfl (tG.R60 RY.out B16.out (by decide) _ _ _ _)) (fun k h1 h2=>RA.out.1 k h1.symm h2) G16.out N16.out)
 obtain ⟨hd0,hd1,hd2,hd3,he0,he1,he2,he3⟩:=cells4 B16.out
 refine oI 6 none ?_
 intro K hK
 refine skip_ (w1:=?_) (by rfl) rfl ?_ ?_;rotate_left
 ·go_simp;rfl
 refine hK.out _ _ m0_.out (fun hHeld=>?_);clear hK K
 refine pI 7 (some 17) ?_
 refine done_ (by kernel_rfl) ?_
 clear hHeld b0 b1 b2 HI RA RY B16 m0_ hd0 hd1 hd2 hd3 he0 he1 he2 he3
 generalize ((((wj.setCell ⟨g16,0,none⟩ (.int .i64 a1_3)).setCell ⟨g16,1,none⟩ (.int .i64 a1_4)).setCell ⟨g16,2,none⟩ (.slice AA l1_5.length cA)).setCell ⟨g16,3,none⟩ (.slice AY l1_6.length cY))=w1 at m1_ ⊢
 have HI:=m1_
 clear m1_
 obtain ⟨ad,eA,hx⟩:=Kd.at_int (Kd.R_reads' HI.out.RA).2.2 a2_0 CT.out.1 CT.out.2
 subst eA
 have p1:=eq_true CT.out.1
 have p2:=eq_true CT.out.2
 by_cases ca:rd l1_5 a2_0=0
 rotate_left
 ·have h:=H.out
  rw [if_neg ca] at h
  have ca0:(rd l1_5 a2_0 == 0)=false:=beq_eq_false_iff_ne.2 ca
  obtain ⟨⟨p1_,p2_,p3_,p4_,p5_⟩,hp,h0⟩:=Option.bind_eq_some_iff.1 h
  simp only [Option.some.injEq,Prod.mk.injEq] at h0
  obtain ⟨rfl,rfl,rfl,rfl,rfl,rfl,rfl,rfl,rfl,rfl,rfl,rfl⟩:=h0
  have H2:=am_ hp
  clear H h hp ca
  obtain ⟨hx0,hx1,hx2,hx3,hx4,hy0,hy1,hy2,hy3,hy4,hy5,hy6,hy7,hd0,hd1,hd2,hd3,hz0,hz1⟩:=HI.out.c
  go_wp2_with (first|go_step3|fail)
  go_loopg [17,18] 20 (fun kq v17 v18 w'=>∃ (n:Nat) (at_ s:Int),v17=.int .i64 at_∧v18=.int .i64 (20 - (n:Int))∧Aside0 (h11_Grow.wlk k l0 a1_0 a1_1 l1_2 a1_3 a1_4 l1_5 l1_6 l1_5 l1_6 l1_7 a2_0 l2_1 l2_2 a2_3 a2_4 a3 n at_ s=some (p1_,p2_,p3_,p4_,p5_))∧Aside0 (n≤20∧kq=n)∧Aside0 (tG.RG w w' g6 g7 g9 ga gb gc g16 #[.int .i64 a1_0,.int .i64 a1_1,.slice A1_2 l1_2.length c1_2,.int .i64 a1_3,.int .i64 a1_4,.slice A1_5 l1_5.length c1_5,.slice A1_6 l1_6.length c1_6,.slice A1_7 l1_7.length c1_7] #[.int .i64 a2_0,.slice A2_1 l2_1.length c2_1,.slice A2_2 l2_2.length c2_2,.int .i64 a2_3,.int .i64 a2_4] s a1_3 a1_4 (.slice (some ad) l1_5.length cA) (.slice AY l1_6.length cY) l1_5 l1_6))
  case atStart=>exact ⟨20,a2_0,a4_0,rfl,rfl,H2,⟨by omega,rfl⟩,HI⟩
  case round =>
   clear HI H2 hx ca0 p1 p2
   clear hx0 hx1 hx2 hx3 hx4 hy0 hy1 hy2 hy3 hy4 hy5 hy6 hy7 hd0 hd1 hd2 hd3 hz0 hz1
   obtain ⟨n,at_,s,rfl,rfl,H2,HK,HI⟩:=hrel
   obtain ⟨hx0,hx1,hx2,hx3,hx4,hy0,hy1,hy2,hy3,hy4,hy5,hy6,hy7,hd0,hd1,hd2,hd3,hz0,hz1⟩:=HI.out.c
   have h:=H2.out
   clear H2
   cases n with
   | zero =>
    simp only [h11_Grow.wlk,Option.some.injEq,Prod.mk.injEq] at h
    obtain ⟨rfl,rfl,rfl,rfl,rfl⟩:=h
    have d0:decide ((20:Int) - ((0:Nat):Int)<20)=false:=rfl
    go_upto_region 39 with (first|go_step3|fail)
    clear hx0 hx1 hx2 hx3 hx4 hy0 hy1 hy2 hy3 hy4 hy5 hy6 hy7 hd0 hd1 hd2 hd3 hz0 hz1
    replace HI:=am_ HI.out.drew
    refine start_ (n:=9) (S:=tG.X3 g7 g16 g9 _ _ _ _ _ _ _ _ _ _) (ds:=[]) #[false,false,false,false,false,false,false,false,false] (by kernel_rfl) rfl rfl HI.out.x3 (fun hHeld=>?_)
    generalize hWd:World.drew _=wd at HI hHeld ⊢
    clear hWd
    refine tG.tX 0 (some 226) hHeld ?_
    refine tG.tX 2 (some 228) hHeld ?_
    refine tG.tX 3 (some 229) hHeld ?_
    refine oI 1 (some 227) ?_
    intro K hK
    refine goes_ Try.func41 (by kernel_rfl) rfl #[.agg #[.int .i64 a2_0,.slice A2_1 l2_1.length c2_1,.slice A2_2 l2_2.length c2_2,.int .i64 a2_3,.int .i64 a2_4]] (by rfl) rfl rfl ga_ ?_
    refine (h11_Copy.calls _ _ _ _ _ _ _ _ _ _ _ _ _ _ _ (Kd.C_below R21.out HI.out.gr.ok) hc2_1 (Kd.C_below R22.out HI.out.gr.ok) hc2_2 A3.out).mono ?_
    rintro e w5 ⟨v1,v2,rfl,o1,o2,hb⟩
    refine ⟨_,rfl,?_⟩
    have RH:=Kd.R_lower o1 HI.out.gr.ok.size
    have RM:=Kd.R_lower o2 HI.out.gr.ok.size
    replace HI:=am_ (HI.out.step hb)
    clear hb o1 o2
    obtain ⟨AH,cH,eH⟩:=Kd.R_slice RH
    obtain ⟨AM,cM,eM⟩:=Kd.R_slice RM
    subst eH eM
    replace RH:=am_ RH
    replace RM:=am_ RM
    refine hK.out _ _ HI.out.x3 (fun hHeld=>?_);clear hK K
    refine nrm 227 ?_
    obtain ⟨⟨ha0,ha1,ha2,ha3,ha4⟩,⟨fa0,fa1,fa2,fa3,fa4⟩,⟨hb0,hb1,hb2,hb3⟩,⟨fb0,fb1,fb2,fb3⟩,hc0_,fc0⟩:=HI.out.gr.rs.cells
    have n1_:=HI.out.gr.rs.nab
    have n2_:=n1_.symm
    have n3_:=HI.out.gr.rs.nac
    have n4_:=n3_.symm
    have n5_:=HI.out.gr.rs.nbc
    have n6_:=n5_.symm
    refine oI 4 none ?_
    intro K hK
    refine skip_ (w1:=?_) (by rfl) rfl ?_ ?_;rotate_left
    ·go_simp;rfl
    refine hK.out _ _ (hHeld.a HI.out.q.1) (fun hHeld=>?_);clear hK K
    clear hb0 hb1 hb2 hb3 fb0 fb1 fb2 fb3
    generalize hwp:World.setCell _ _ _=wp at hHeld ⊢
    have hpb:wp.heap[gb]?=some (.cells #[.int .i64 0,.int .i64 0,.slice none 0 0,.slice none 0 0] 60 (0,0)):=by rw [← hwp];exact tG.far5 HI.out.gr.rs.hb n2_
    have hpc:wp.heap[gc]?=some (.cells #[.int .u64 0] 45 (0,0)):=by rw [← hwp];exact tG.far5 HI.out.gr.rs.hc n4_
    obtain ⟨hb0,hb1,hb2,hb3,fb0,fb1,fb2,fb3⟩:=cells4 hpb
    refine oI 5 none ?_
    intro K hK
    refine skip_ (w1:=?_) (by rfl) rfl ?_ ?_;rotate_left
    ·go_simp;rfl
    refine hK.out _ _ (hHeld.b HI.out.q.2.1) (fun hHeld=>?_);clear hK K
    refine pI 6 (some 12) ?_
    generalize hwq:World.setCell _ _ _=wq at hHeld ⊢
    have hqc:wq.heap[gc]?=some (.cells #[.int .u64 0] 45 (0,0)):=by rw [← hwq];exact tG.far4 hpc n6_
    have hq0_:=blk_cell hqc 0
    have hq1_:=blk_frozen hqc 0
    refine oI 7 none ?_
    intro K hK
    refine skip_ (w1:=?_) (by rfl) rfl ?_ ?_;rotate_left
    ·go_simp;rfl
    refine hK.out _ _ (hHeld.c HI.out.q.2.2) (fun hHeld=>?_);clear hK K
    refine pI 8 (some 14) ?_
    refine done_ (by kernel_rfl) ?_
    subst hwq
    subst hwp
    clear hHeld
    go_wp2_with (fail)
    (try rw [Exit.noGoto_ret])
    refine bodyPost_ret (results_list (rs:=[.cell 10 25,.cell 11 60,.tmp 12,.cell 13 45,.tmp 14]) rfl (by simp) (HI.out.gr.rs.vals (ta:=10) (tb:=11) (tn:=12) (tc:=13) (te:=14) rfl rfl rfl)) rfl ?_
    exact ⟨_,_,_,_,rfl,HI.out.gr.rs.pR RH.out (by decide),HI.out.gr.rs.pR RM.out (by decide),HI.out.gr.rs.pR HI.out.RA (by decide),HI.out.gr.rs.pR HI.out.RY (by decide),HI.out.gr.rs.pB⟩
   | succ n =>
    have d0:decide ((20:Int) - ((n+1:Nat):Int)<20)=true:=dt_ (by omega)
    simp only [h11_Grow.wlk] at h
    obtain ⟨⟨b1,b2⟩,hb,h1⟩:=Option.bind_eq_some_iff.1 h
    dsimp only at h1
    clear h
    by_cases hs:0≤b1∧b1≤3
    rotate_left
    ·rw [if_neg hs] at h1;exact absurd h1 (by simp)
    rw [if_pos hs] at h1
    obtain ⟨to_,hto,h⟩:=Option.bind_eq_some_iff.1 h1
    have A4:=am_ hb
    have A5:=am_ hto
    have HS:=am_ hs
    have H:=am_ h
    clear hb hto hs h h1
    go_upto_region 15 with (first|go_step3|(go_at_call 56;refine (h01_Below.calls _ _ _ _ _ _ A4.out).mono ?_;rintro e w4 ⟨rfl,hb⟩;replace HI:=am_ (HI.out.step hb);clear hb;obtain ⟨hx0,hx1,hx2,hx3,hx4,hy0,hy1,hy2,hy3,hy4,hy5,hy6,hy7,hd0,hd1,hd2,hd3,hz0,hz1⟩:=HI.out.c)|((with_reducible refine gate_dst (N:=20) rfl ?_);refine box_ev (N:=20) (cs:=#[.int .u64 0]) (t:=45) ?_;intro g20 hg w5 hbox hb;have B20:=am_ hbox;have N20:Aside0 (g9≠g20∧gc≠g20):=⟨by rw [hg];exact ⟨Nat.ne_of_lt (blk_lt HI.out.gr.h9),Nat.ne_of_lt (blk_lt HI.out.gr.rs.hc)⟩⟩;have G20:Aside0 (w.heap.size≤g20):=⟨by rw [hg];exact HI.out.gr.ok.size⟩;replace HI:=am_ (HI.out.step hb);clear hb hbox hg;have m1_:=N20.out.1;have m2_:=m1_.symm;obtain ⟨hx0,hx1,hx2,hx3,hx4,hy0,hy1,hy2,hy3,hy4,hy5,hy6,hy7,hd0,hd1,hd2,hd3,hz0,hz1⟩:=HI.out.c;obtain ⟨hq0,hq1⟩:=cells1 B20.out))
    have m0_:=am_ ((HI.out.away B20.out G20.out N20.out.1 N20.out.2 (.int .u64 b2)).set9 G9.out b2)
    have m3_:Aside0 (((w5.setCell ⟨g20,0,none⟩ (.int .u64 b2)).setCell ⟨g9,0,none⟩ (.int .u64 b2)).heap[g20]?=some (.cells #[.int .u64 b2] 45 (0,0))):=⟨blk_far (blk_set B20.out 0 (.int .u64 b2)) N20.out.1.symm (.int .u64 b2)⟩
    clear HI B20 hq0 hq1
    clear hx0 hx1 hx2 hx3 hx4 hy0 hy1 hy2 hy3 hy4 hy5 hy6 hy7 hd0 hd1 hd2 hd3 hz0 hz1
    generalize ((w5.setCell ⟨g20,0,none⟩ (.int .u64 b2)).setCell ⟨g9,0,none⟩ (.int .u64 b2))=wx1 at m0_ m3_ ⊢
    have HI:=m0_
    have B20:=m3_
    clear m0_ m3_
    obtain ⟨hx0,hx1,hx2,hx3,hx4,hy0,hy1,hy2,hy3,hy4,hy5,hy6,hy7,hd0,hd1,hd2,hd3,hz0,hz1⟩:=HI.out.c
    obtain ⟨hq0,hq1⟩:=cells1 B20.out
    go_upto_region 16 with (first|go_step3|(go_at_call 64;refine (h11_beyond.calls _ _ _ _ _ _ _ _ _ _ (Kd.C_below R12.out HI.out.gr.ok) hc1_2 A5.out).mono ?_;rintro e w6 ⟨rfl,hb⟩;replace HI:=am_ (HI.out.step hb);replace B20:=bkb B20 hb;clear hb;obtain ⟨hx0,hx1,hx2,hx3,hx4,hy0,hy1,hy2,hy3,hy4,hy5,hy6,hy7,hd0,hd1,hd2,hd3,hz0,hz1⟩:=HI.out.c;obtain ⟨hq0,hq1⟩:=cells1 B20.out))
    by_cases cy:to_<0
    ·have h:=H.out
     rw [if_pos cy] at h
     simp only [Option.some.injEq,Prod.mk.injEq] at h
     obtain ⟨rfl,rfl,rfl,rfl,rfl⟩:=h
     have d1:decide (to_<0)=true:=dt_ cy
     clear H cy
     go_upto_region 17 with (first|go_step3|fail)
     clear m1_ m2_ hq0 hq1
     clear hx0 hx1 hx2 hx3 hx4 hy0 hy1 hy2 hy3 hy4 hy5 hy6 hy7 hd0 hd1 hd2 hd3 hz0 hz1
     replace HI:=am_ HI.out.drew
     refine start_ (n:=9) (S:=tG.X3 g7 g16 g9 _ _ _ _ _ _ _ _ _ _) (ds:=[]) #[false,false,false,false,false,false,false,false,false] (by kernel_rfl) rfl rfl HI.out.x3 (fun hHeld=>?_)
     generalize hWd:World.drew _=wd at HI hHeld ⊢
     clear hWd
     refine tG.tX 0 (some 94) hHeld ?_
     refine tG.tX 2 (some 96) hHeld ?_
     refine tG.tX 3 (some 97) hHeld ?_
     refine oI 1 (some 95) ?_
     intro K hK
     refine goes_ Try.func41 (by kernel_rfl) rfl #[.agg #[.int .i64 a2_0,.slice A2_1 l2_1.length c2_1,.slice A2_2 l2_2.length c2_2,.int .i64 a2_3,.int .i64 a2_4]] (by rfl) rfl rfl ga_ ?_
     refine (h11_Copy.calls _ _ _ _ _ _ _ _ _ _ _ _ _ _ _ (Kd.C_below R21.out HI.out.gr.ok) hc2_1 (Kd.C_below R22.out HI.out.gr.ok) hc2_2 A3.out).mono ?_
     rintro e w5 ⟨v1,v2,rfl,o1,o2,hb⟩
     refine ⟨_,rfl,?_⟩
     have RH:=Kd.R_lower o1 HI.out.gr.ok.size
     have RM:=Kd.R_lower o2 HI.out.gr.ok.size
     replace HI:=am_ (HI.out.step hb)
     clear hb o1 o2
     obtain ⟨AH,cH,eH⟩:=Kd.R_slice RH
     obtain ⟨AM,cM,eM⟩:=Kd.R_slice RM
     subst eH eM
     replace RH:=am_ RH
     replace RM:=am_ RM
     refine hK.out _ _ HI.out.x3 (fun hHeld=>?_);clear hK K
     refine nrm 95 ?_
     obtain ⟨⟨ha0,ha1,ha2,ha3,ha4⟩,⟨fa0,fa1,fa2,fa3,fa4⟩,⟨hb0,hb1,hb2,hb3⟩,⟨fb0,fb1,fb2,fb3⟩,hc0_,fc0⟩:=HI.out.gr.rs.cells
     have n1_:=HI.out.gr.rs.nab
     have n2_:=n1_.symm
     have n3_:=HI.out.gr.rs.nac
     have n4_:=n3_.symm
     have n5_:=HI.out.gr.rs.nbc
     have n6_:=n5_.symm
     refine oI 4 none ?_
     intro K hK
     refine skip_ (w1:=?_) (by rfl) rfl ?_ ?_;rotate_left
     ·go_simp;rfl
     refine hK.out _ _ (hHeld.a HI.out.q.1) (fun hHeld=>?_);clear hK K
     clear hb0 hb1 hb2 hb3 fb0 fb1 fb2 fb3
     generalize hwp:World.setCell _ _ _=wp at hHeld ⊢
     have hpb:wp.heap[gb]?=some (.cells #[.int .i64 0,.int .i64 0,.slice none 0 0,.slice none 0 0] 60 (0,0)):=by rw [← hwp];exact tG.far5 HI.out.gr.rs.hb n2_
     have hpc:wp.heap[gc]?=some (.cells #[.int .u64 0] 45 (0,0)):=by rw [← hwp];exact tG.far5 HI.out.gr.rs.hc n4_
     obtain ⟨hb0,hb1,hb2,hb3,fb0,fb1,fb2,fb3⟩:=cells4 hpb
     refine oI 5 none ?_
     intro K hK
     refine skip_ (w1:=?_) (by rfl) rfl ?_ ?_;rotate_left
     ·go_simp;rfl
     refine hK.out _ _ (hHeld.b HI.out.q.2.1) (fun hHeld=>?_);clear hK K
     refine pI 6 (some 12) ?_
     generalize hwq:World.setCell _ _ _=wq at hHeld ⊢
     have hqc:wq.heap[gc]?=some (.cells #[.int .u64 0] 45 (0,0)):=by rw [← hwq];exact tG.far4 hpc n6_
     have hq0_:=blk_cell hqc 0
     have hq1_:=blk_frozen hqc 0
     refine oI 7 none ?_
     intro K hK
     refine skip_ (w1:=?_) (by rfl) rfl ?_ ?_;rotate_left
     ·go_simp;rfl
     refine hK.out _ _ (hHeld.c HI.out.q.2.2) (fun hHeld=>?_);clear hK K
     refine pI 8 (some 14) ?_
     refine done_ (by kernel_rfl) ?_
     subst hwq
     subst hwp
     clear hHeld
     go_wp2_with (fail)
     (try rw [Exit.noGoto_ret])
     refine bodyPost_ret (results_list (rs:=[.cell 10 25,.cell 11 60,.tmp 12,.cell 13 45,.tmp 14]) rfl (by simp) (HI.out.gr.rs.vals (ta:=10) (tb:=11) (tn:=12) (tc:=13) (te:=14) rfl rfl rfl)) rfl ?_
     exact ⟨_,_,_,_,rfl,HI.out.gr.rs.pR RH.out (by decide),HI.out.gr.rs.pR RM.out (by decide),HI.out.gr.rs.pR HI.out.RA (by decide),HI.out.gr.rs.pR HI.out.RY (by decide),HI.out.gr.rs.pB⟩
    have h:=H.out
    rw [if_neg cy] at h
    clear H
    by_cases ct:0≤at_∧at_<(l1_5.length:Int)∧to_<(l1_5.length:Int)
    rotate_left
    ·rw [if_neg ct] at h;exact absurd h (by simp)
    rw [if_pos ct] at h
    have CT:=am_ (And.intro ct (Int.not_lt.1 cy))
    have d1:decide (to_<0)=false:=df_ cy
    have hs:=HS.out
    have hm:0≤Int.tmod (wrap64 (b1+2)) 4∧Int.tmod (wrap64 (b1+2)) 4≤3:=by
     rw [show wrap64 (b1+2)=b1+2 from by unfold wrap64;omega,Int.tmod_eq_emod_of_nonneg (by omega)];omega
    obtain ⟨jA,hjA⟩:∃ j_:Int,shr .i64 (rd l1_5 at_) b1=j_:=⟨_,rfl⟩
    rw [hjA] at h
    have hjA0:((rd l1_5 at_) / 2 ^ min b1.toNat 64)=jA:=hjA
    have hjA1:((rd l1_5 at_) / 2 ^ b1.toNat)=jA:=shr_small hjA (by have:=hs.2;show b1≤64;omega)
    obtain ⟨mB,hmB⟩:∃ j_:Int,Int.tmod (wrap64 (b1+2)) 4=j_:=⟨_,rfl⟩
    rw [hmB] at h hm
    obtain ⟨jB,hjB⟩:∃ j_:Int,shr .i64 (rd l1_5 to_) mB=j_:=⟨_,rfl⟩
    rw [hjB] at h
    have hjB0:((rd l1_5 to_) / 2 ^ min mB.toNat 64)=jB:=hjB
    have hjB1:((rd l1_5 to_) / 2 ^ mB.toNat)=jB:=shr_small hjB (by have:=hm.2;show mB≤64;omega)
    have hsn:decide (b1<0)=false:=df_ (by omega)
    have hsp:=eq_true hs.1
    have hmn:decide (mB<0)=false:=df_ (by omega)
    have hmp:=eq_true hm.1
    have HM:=am_ hm
    have H:=am_ h
    clear h cy ct hs hm hjA hjB
    go_upto_region 19 with (first|go_step3|fail)
    obtain ⟨_,e1,hxa⟩:=Kd.at_int (Kd.R_reads' HI.out.RA).2.2 at_ CT.out.1.1 CT.out.1.2.1
    cases e1
    obtain ⟨_,e2,hxb⟩:=Kd.at_int (Kd.R_reads' HI.out.RA).2.2 to_ CT.out.2 CT.out.1.2.2
    cases e2
    have p1:=eq_true CT.out.1.1
    have p2:=eq_true CT.out.1.2.1
    have p3:=eq_true CT.out.2
    have p4:=eq_true CT.out.1.2.2
    go_cut [120] (fun v120 wc=>∃ b:Bool,v120=.bool b∧Aside0 (b=decide (Go.bits .and .i64 jA 1=1∧Go.bits .and .i64 jB 1=1))∧Aside0 (tG.RG w wc g6 g7 g9 ga gb gc g16 #[.int .i64 a1_0,.int .i64 a1_1,.slice A1_2 l1_2.length c1_2,.int .i64 a1_3,.int .i64 a1_4,.slice A1_5 l1_5.length c1_5,.slice A1_6 l1_6.length c1_6,.slice A1_7 l1_7.length c1_7] #[.int .i64 a2_0,.slice A2_1 l2_1.length c2_1,.slice A2_2 l2_2.length c2_2,.int .i64 a2_3,.int .i64 a2_4] b2 a1_3 a1_4 (.slice (some ad) l1_5.length cA) (.slice AY l1_6.length cY) l1_5 l1_6)∧Aside0 (wc.heap[g20]?=some (.cells #[.int .u64 b2] 45 (0,0))))
    case first=>as_aux_lemma =>
     by_cases e1:Go.bits .and .i64 jA 1=1
     ·have f1:=bqt e1
      by_cases e2:Go.bits .and .i64 jB 1=1
      ·have f2:=bqt e2
       go_wp2_with (first|go_step3|fail)
       go_meet
       case rel=>exact ⟨_,rfl,⟨(dt_ (And.intro e1 e2)).symm⟩,HI,B20⟩
      ·have f2:=bqf e2
       go_wp2_with (first|go_step3|fail)
       go_meet
       case rel=>exact ⟨_,rfl,⟨(df_ (fun x=>e2 x.2)).symm⟩,HI,B20⟩
     ·have f1:=bqf e1
      go_wp2_with (first|go_step3|fail)
      go_meet
      case rel=>exact ⟨_,rfl,⟨(df_ (fun x=>e1 x.1)).symm⟩,HI,B20⟩
    case rest =>
     clear HI B20 hxa hxb hq0 hq1 hjA0 hjA1 hjB0 hjB1
     clear hx0 hx1 hx2 hx3 hx4 hy0 hy1 hy2 hy3 hy4 hy5 hy6 hy7 hd0 hd1 hd2 hd3 hz0 hz1
     obtain ⟨b,rfl,EB,HI,B20⟩:=hcut
     obtain ⟨hx0,hx1,hx2,hx3,hx4,hy0,hy1,hy2,hy3,hy4,hy5,hy6,hy7,hd0,hd1,hd2,hd3,hz0,hz1⟩:=HI.out.c
     obtain ⟨hq0,hq1⟩:=cells1 B20.out
     by_cases ej:Go.bits .and .i64 jA 1=1∧Go.bits .and .i64 jB 1=1
     ·obtain rfl:b=true:=EB.out.trans (dt_ ej)
      have h:=H.out
      rw [if_pos ej] at h
      replace H:=am_ h
      clear h ej EB
      go_wp2_with (first|go_step3|fail)
      go_roundg n
      case measure=>have:=HK.out;omega
      case rel=>exact ⟨n,to_,b2,rfl,by congr 1;have:=HK.out;unfold wrap64;omega,H,⟨by have:=HK.out;omega,rfl⟩,HI⟩
     obtain rfl:b=false:=EB.out.trans (df_ ej)
     have h0:=H.out
     rw [if_neg ej] at h0
     clear H ej EB
     obtain ⟨⟨sl1,sl2,sl3⟩,hsl,h⟩:=Option.bind_eq_some_iff.1 h0
     dsimp only at h
     have A6:=am_ hsl
     have H:=am_ h
     clear hsl h h0
     go_upto_region 22 with (first|go_step3|(go_at_call 65;refine (h02_Slope.calls _ _ _ _ _ _ _ _ _ _ _ (Kd.C_below R12.out HI.out.gr.ok) hc1_2 A6.out).mono ?_;rintro e w4 ⟨rfl,hb⟩;replace HI:=am_ (HI.out.step hb);obtain ⟨hx0,hx1,hx2,hx3,hx4,hy0,hy1,hy2,hy3,hy4,hy5,hy6,hy7,hd0,hd1,hd2,hd3,hz0,hz1⟩:=HI.out.c;replace B20:=bkb B20 hb;clear hb;obtain ⟨hq0,hq1⟩:=cells1 B20.out))
     obtain ⟨_,e1,hxa⟩:=Kd.at_int (Kd.R_reads' HI.out.RA).2.2 at_ CT.out.1.1 CT.out.1.2.1
     cases e1
     obtain ⟨_,e2,hxb⟩:=Kd.at_int (Kd.R_reads' HI.out.RA).2.2 to_ CT.out.2 CT.out.1.2.2
     cases e2
     go_cut [163] (fun v163 wc=>∃ b:Bool,v163=.bool b∧Aside0 (cond b (h11_Grow.wlk k l0 a1_0 a1_1 l1_2 a1_3 a1_4 l1_5 l1_6 l1_5 l1_6 l1_7 a2_0 l2_1 l2_2 a2_3 a2_4 a3 n at_ b2) (h11_Grow.bld k l0 a1_3 a1_4 l1_5 l1_6 a2_0 l2_1 l2_2 a2_3 a2_4 a3 b2 at_ to_ b1)=some (p1_,p2_,p3_,p4_,p5_))∧Aside0 (tG.RG w wc g6 g7 g9 ga gb gc g16 #[.int .i64 a1_0,.int .i64 a1_1,.slice A1_2 l1_2.length c1_2,.int .i64 a1_3,.int .i64 a1_4,.slice A1_5 l1_5.length c1_5,.slice A1_6 l1_6.length c1_6,.slice A1_7 l1_7.length c1_7] #[.int .i64 a2_0,.slice A2_1 l2_1.length c2_1,.slice A2_2 l2_2.length c2_2,.int .i64 a2_3,.int .i64 a2_4] b2 a1_3 a1_4 (.slice (some ad) l1_5.length cA) (.slice AY l1_6.length cY) l1_5 l1_6)∧Aside0 (wc.heap[g20]?=some (.cells #[.int .u64 b2] 45 (0,0))))
     case first=>as_aux_lemma =>
      have h:=H.out
      clear H
      by_cases k1:rd l1_5 at_=0
      rotate_left
      rw [if_neg k1] at h
      have f1:=bqf k1
      by_cases k2:rd l1_5 to_ > 0
      rotate_left
      rw [if_neg k2] at h
      have f2:decide (rd l1_5 to_ > 0)=false:=df_ k2
      have f3:decide (0<rd l1_5 to_)=false:=df_ k2
      obtain ⟨b3,hb3,h0⟩:=Option.bind_eq_some_iff.1 h
      clear h
      have h:=h0
      have A7:=am_ hb3
      clear h0 hb3
      by_cases k3:b3=true
      rotate_left
      obtain rfl:b3=false:=by simpa using k3
      rw [if_neg k3] at h
      obtain ⟨b4,hb4,h0⟩:=Option.bind_eq_some_iff.1 h
      clear h
      have h:=h0
      have A8:=am_ hb4
      clear h0 hb4
      by_cases k4:b4=true
      rotate_left
      obtain rfl:b4=false:=by simpa using k4
      rw [if_neg k4] at h
      obtain ⟨b5,hb5,h0⟩:=Option.bind_eq_some_iff.1 h
      clear h
      have h:=h0
      have A9:=am_ hb5
      clear h0 hb5
      by_cases k5:b5=true
      rotate_left
      obtain rfl:b5=false:=by simpa using k5
      by_cases k6:sl1≥16
      rotate_left
      rw [if_neg (fun x=>x.elim k5 k6)] at h
      have f6:decide (sl1≥16)=false:=df_ k6
      have f7:decide (16≤sl1)=false:=df_ k6
      rotate_left
      rw [if_pos k1] at h
      have f1:=bqt k1
      rotate_left
      rw [if_pos k2] at h
      have f2:decide (rd l1_5 to_ > 0)=true:=dt_ k2
      have f3:decide (0<rd l1_5 to_)=true:=dt_ k2
      rotate_left
      subst k3
      rw [if_pos rfl] at h
      rotate_left
      subst k4
      rw [if_pos rfl] at h
      rotate_left
      subst k5
      rw [if_pos (.inl rfl)] at h
      rotate_left
      rw [if_pos (.inr k6)] at h
      have f6:decide (sl1≥16)=true:=dt_ k6
      have f7:decide (16≤sl1)=true:=dt_ k6
      all_goals (have H:=am_ h;clear h;go_wp2_with (first|go_step3|(go_at_call 62;refine (h11_has.calls _ _ _ _ _ _ _ _ _ _ _ _ _ (Kd.C_below R21.out HI.out.gr.ok) hc2_1 (Kd.C_below R22.out HI.out.gr.ok) hc2_2 A7.out).mono ?_;rintro e w4 ⟨rfl,hb⟩;replace HI:=am_ (HI.out.step hb);replace B20:=bkb B20 hb;clear hb;obtain ⟨hx0,hx1,hx2,hx3,hx4,hy0,hy1,hy2,hy3,hy4,hy5,hy6,hy7,hd0,hd1,hd2,hd3,hz0,hz1⟩:=HI.out.c;obtain ⟨hq0,hq1⟩:=cells1 B20.out)|(go_at_call 60;refine (h11_wet.calls _ _ _ _ _ _ _ _ _ (Kd.C_below R12.out HI.out.gr.ok) hc1_2 A8.out).mono ?_;rintro e w4 ⟨rfl,hb⟩;replace HI:=am_ (HI.out.step hb);replace B20:=bkb B20 hb;clear hb;obtain ⟨hx0,hx1,hx2,hx3,hx4,hy0,hy1,hy2,hy3,hy4,hy5,hy6,hy7,hd0,hd1,hd2,hd3,hz0,hz1⟩:=HI.out.c;obtain ⟨hq0,hq1⟩:=cells1 B20.out)|(go_at_call 61;refine (h11_held.calls _ _ _ _ _ _ _ _ _ _ _ _ _ _ _ _ _ _ _ _ (Kd.C_below R12.out HI.out.gr.ok) hc1_2 (Kd.C_below R15.out HI.out.gr.ok) hc1_5 (Kd.C_below R16.out HI.out.gr.ok) hc1_6 (Kd.C_below R17.out HI.out.gr.ok) hc1_7 A9.out).mono ?_;rintro e w4 ⟨rfl,hb⟩;replace HI:=am_ (HI.out.step hb);replace B20:=bkb B20 hb;clear hb;obtain ⟨hx0,hx1,hx2,hx3,hx4,hy0,hy1,hy2,hy3,hy4,hy5,hy6,hy7,hd0,hd1,hd2,hd3,hz0,hz1⟩:=HI.out.c;obtain ⟨hq0,hq1⟩:=cells1 B20.out));go_meet)
      all_goals exact ⟨_,rfl,H,HI,B20⟩
     case rest =>
      clear H HI B20 hxa hxb hq0 hq1 p1 p2 p3 p4
      clear hx0 hx1 hx2 hx3 hx4 hy0 hy1 hy2 hy3 hy4 hy5 hy6 hy7 hd0 hd1 hd2 hd3 hz0 hz1
      obtain ⟨b,rfl,H,HI,B20⟩:=hcut
      obtain ⟨hx0,hx1,hx2,hx3,hx4,hy0,hy1,hy2,hy3,hy4,hy5,hy6,hy7,hd0,hd1,hd2,hd3,hz0,hz1⟩:=HI.out.c
      obtain ⟨hq0,hq1⟩:=cells1 B20.out
      cases b
      rotate_left
      ·have H2:Aside0 (h11_Grow.wlk k l0 a1_0 a1_1 l1_2 a1_3 a1_4 l1_5 l1_6 l1_5 l1_6 l1_7 a2_0 l2_1 l2_2 a2_3 a2_4 a3 n at_ b2=some (p1_,p2_,p3_,p4_,p5_)):=H
       clear H
       go_wp2_with (first|go_step3|fail)
       go_roundg n
       case measure=>have:=HK.out;omega
       case rel=>exact ⟨n,at_,b2,rfl,by congr 1;have:=HK.out;unfold wrap64;omega,H2,⟨by have:=HK.out;omega,rfl⟩,HI⟩
      have h0:h11_Grow.bld k l0 a1_3 a1_4 l1_5 l1_6 a2_0 l2_1 l2_2 a2_3 a2_4 a3 b2 at_ to_ b1=some (p1_,p2_,p3_,p4_,p5_):=H.out
      clear H
      unfold h11_Grow.bld at h0
      obtain ⟨⟨u1,u2⟩,hu,h⟩:=Option.bind_eq_some_iff.1 h0
      dsimp only at h
      have A10:=am_ hu
      clear hu h0
      have H:=am_ h
      clear h
      go_upto_region 25 with (first|go_step3|(go_at_call 66;refine (h01_Chance.calls _ _ _ _ _ _ _ A10.out).mono ?_;rintro e w7 ⟨rfl,hb⟩;replace HI:=am_ (HI.out.step hb);replace B20:=bkb B20 hb;clear hb;obtain ⟨hx0,hx1,hx2,hx3,hx4,hy0,hy1,hy2,hy3,hy4,hy5,hy6,hy7,hd0,hd1,hd2,hd3,hz0,hz1⟩:=HI.out.c;obtain ⟨hq0,hq1⟩:=cells1 B20.out))
      have m0_:=am_ ((HI.out.away B20.out G20.out N20.out.1 N20.out.2 (.int .u64 u2)).set9 G9.out u2)
      have m3_:Aside0 (((w7.setCell ⟨g20,0,none⟩ (.int .u64 u2)).setCell ⟨g9,0,none⟩ (.int .u64 u2)).heap[g20]?=some (.cells #[.int .u64 u2] 45 (0,0))):=⟨blk_far (blk_set B20.out 0 (.int .u64 u2)) N20.out.1.symm (.int .u64 u2)⟩
      clear HI B20 hq0 hq1
      clear hx0 hx1 hx2 hx3 hx4 hy0 hy1 hy2 hy3 hy4 hy5 hy6 hy7 hd0 hd1 hd2 hd3 hz0 hz1
      generalize ((w7.setCell ⟨g20,0,none⟩ (.int .u64 u2)).setCell ⟨g9,0,none⟩ (.int .u64 u2))=wx2 at m0_ m3_ ⊢
      have HI:=m0_
      have B20:=m3_
      clear m0_ m3_
      obtain ⟨hx0,hx1,hx2,hx3,hx4,hy0,hy1,hy2,hy3,hy4,hy5,hy6,hy7,hd0,hd1,hd2,hd3,hz0,hz1⟩:=HI.out.c
      obtain ⟨hq0,hq1⟩:=cells1 B20.out
      by_cases cu:u1=true
      ·subst cu
       have h:=H.out
       rw [if_pos rfl,hmB] at h
       have hs:=HS.out
       have hm:=HM.out
       obtain ⟨sA,hsA⟩:∃ j_:Int,shl .i64 1 b1=j_:=⟨_,rfl⟩
       rw [hsA] at h
       have hsA0:IntKind.i64.wrap (1 * 2 ^ min b1.toNat 64)=sA:=hsA
       have hsA1:IntKind.i64.wrap (2 ^ min b1.toNat 64)=sA:=by rw [← hsA0,Int.one_mul]
       have hsA2:IntKind.i64.wrap (1 * 2 ^ b1.toNat)=sA:=shl_small hsA (by have:=hs.2;show b1≤64;omega)
       have hsA3:IntKind.i64.wrap (2 ^ b1.toNat)=sA:=by rw [← hsA2,Int.one_mul]
       obtain ⟨sB,hsB⟩:∃ j_:Int,shl .i64 1 mB=j_:=⟨_,rfl⟩
       rw [hsB] at h
       have hsB0:IntKind.i64.wrap (1 * 2 ^ min mB.toNat 64)=sB:=hsB
       have hsB1:IntKind.i64.wrap (2 ^ min mB.toNat 64)=sB:=by rw [← hsB0,Int.one_mul]
       have hsB2:IntKind.i64.wrap (1 * 2 ^ mB.toNat)=sB:=shl_small hsB (by have:=hm.2;show mB≤64;omega)
       have hsB3:IntKind.i64.wrap (2 ^ mB.toNat)=sB:=by rw [← hsB2,Int.one_mul]
       obtain ⟨⟨y1,y2⟩,hy,h1⟩:=Option.bind_eq_some_iff.1 h
       dsimp only at h1
       obtain ⟨⟨z1,z2⟩,hz,h2⟩:=Option.bind_eq_some_iff.1 h1
       simp only [Option.some.injEq,Prod.mk.injEq] at h2
       obtain ⟨rfl,rfl,rfl,rfl,rfl⟩:=h2
       have A11:=am_ hy
       have A12:=am_ hz
       clear H h h1 hy hz hs hm hsA hsB
       go_upto_region 26 with (first|go_step3|fail)
       clear hq0 hq1
       clear hx0 hx1 hx2 hx3 hx4 hy0 hy1 hy2 hy3 hy4 hy5 hy6 hy7 hd0 hd1 hd2 hd3 hz0 hz1
       replace HI:=am_ HI.out.drew
       refine start_ (n:=5) (S:=tG.X3 g7 g16 g9 _ _ _ _ _ _ _ _ _ _) (ds:=[]) #[false,false,false,false,false] (by kernel_rfl) rfl rfl HI.out.x3 (fun hHeld=>?_)
       generalize hWd:World.drew _=wd at HI hHeld ⊢
       clear hWd
       refine tG.tX 0 (some 171) hHeld ?_
       refine pI 1 (some 172) ?_
       refine pI 2 (some 173) ?_
       refine pI 3 (some 174) ?_
       refine oI 4 (some 175) ?_
       intro K hK
       refine goes_ Try.func63 (by kernel_rfl) rfl #[.agg #[.int .i64 a1_3,.int .i64 a1_4,.slice (some ad) l1_5.length cA,.slice AY l1_6.length cY],.int .i64 at_,.int .i64 sA] (by rfl) rfl rfl ga_ ?_
       refine (h11_pave.calls _ _ _ _ _ _ _ _ _ _ _ _ w _ HI.out.gr.ok HI.out.RA (fun k h1 h2=>HI.out.ap k h1 h2) HI.out.RY (fun k h1 h2=>HI.out.ap k h2 h1) A11.out).mono ?_
       rintro e w5 ⟨rfl,o1,o2,hb,hk⟩
       refine ⟨_,rfl,?_⟩
       replace HI:=am_ (HI.out.kept hk hb o1 o2)
       clear o1 o2 hb hk
       refine hK.out _ _ HI.out.x3 (fun hHeld=>?_);clear hK K
       refine nrm 175 ?_
       refine done_ (by kernel_rfl) ?_
       clear hHeld
       go_upto_region 27 with (first|go_step3|fail)
       replace HI:=am_ HI.out.drew
       refine start_ (n:=5) (S:=tG.X3 g7 g16 g9 _ _ _ _ _ _ _ _ _ _) (ds:=[]) #[false,false,false,false,false] (by kernel_rfl) rfl rfl HI.out.x3 (fun hHeld=>?_)
       generalize hWd:World.drew _=wd at HI hHeld ⊢
       clear hWd
       refine tG.tX 0 (some 176) hHeld ?_
       refine pI 1 (some 177) ?_
       refine pI 2 (some 178) ?_
       refine pI 3 (some 179) ?_
       refine oI 4 (some 180) ?_
       intro K hK
       refine goes_ Try.func63 (by kernel_rfl) rfl #[.agg #[.int .i64 a1_3,.int .i64 a1_4,.slice (some ad) l1_5.length cA,.slice AY l1_6.length cY],.int .i64 to_,.int .i64 sB] (by rfl) rfl rfl ga_ ?_
       refine (h11_pave.calls _ _ _ _ _ _ _ _ _ _ _ _ w _ HI.out.gr.ok HI.out.RA (fun k h1 h2=>HI.out.ap k h1 h2) HI.out.RY (fun k h1 h2=>HI.out.ap k h2 h1) A12.out).mono ?_
       rintro e w5 ⟨rfl,o1,o2,hb,hk⟩
       refine ⟨_,rfl,?_⟩
       replace HI:=am_ (HI.out.kept hk hb o1 o2)
       clear o1 o2 hb hk
       refine hK.out _ _ HI.out.x3 (fun hHeld=>?_);clear hK K
       refine nrm 180 ?_
       refine done_ (by kernel_rfl) ?_
       clear hHeld
       go_upto_region 28 with (first|go_step3|fail)
       replace HI:=am_ HI.out.drew
       refine start_ (n:=9) (S:=tG.X3 g7 g16 g9 _ _ _ _ _ _ _ _ _ _) (ds:=[]) #[false,false,false,false,false,false,false,false,false] (by kernel_rfl) rfl rfl HI.out.x3 (fun hHeld=>?_)
       generalize hWd:World.drew _=wd at HI hHeld ⊢
       clear hWd
       refine tG.tX 0 (some 181) hHeld ?_
       refine tG.tX 2 (some 183) hHeld ?_
       refine tG.tX 3 (some 184) hHeld ?_
       refine oI 1 (some 182) ?_
       intro K hK
       refine goes_ Try.func41 (by kernel_rfl) rfl #[.agg #[.int .i64 a2_0,.slice A2_1 l2_1.length c2_1,.slice A2_2 l2_2.length c2_2,.int .i64 a2_3,.int .i64 a2_4]] (by rfl) rfl rfl ga_ ?_
       refine (h11_Copy.calls _ _ _ _ _ _ _ _ _ _ _ _ _ _ _ (Kd.C_below R21.out HI.out.gr.ok) hc2_1 (Kd.C_below R22.out HI.out.gr.ok) hc2_2 A3.out).mono ?_
       rintro e w5 ⟨v1,v2,rfl,o1,o2,hb⟩
       refine ⟨_,rfl,?_⟩
       have RH:=Kd.R_lower o1 HI.out.gr.ok.size
       have RM:=Kd.R_lower o2 HI.out.gr.ok.size
       replace HI:=am_ (HI.out.step hb)
       clear hb o1 o2
       obtain ⟨AH,cH,eH⟩:=Kd.R_slice RH
       obtain ⟨AM,cM,eM⟩:=Kd.R_slice RM
       subst eH eM
       replace RH:=am_ RH
       replace RM:=am_ RM
       refine hK.out _ _ HI.out.x3 (fun hHeld=>?_);clear hK K
       refine nrm 182 ?_
       obtain ⟨⟨ha0,ha1,ha2,ha3,ha4⟩,⟨fa0,fa1,fa2,fa3,fa4⟩,⟨hb0,hb1,hb2,hb3⟩,⟨fb0,fb1,fb2,fb3⟩,hc0_,fc0⟩:=HI.out.gr.rs.cells
       have n1_:=HI.out.gr.rs.nab
       have n2_:=n1_.symm
       have n3_:=HI.out.gr.rs.nac
       have n4_:=n3_.symm
       have n5_:=HI.out.gr.rs.nbc
       have n6_:=n5_.symm
       refine oI 4 none ?_
       intro K hK
       refine skip_ (w1:=?_) (by rfl) rfl ?_ ?_;rotate_left
       ·go_simp;rfl
       refine hK.out _ _ (hHeld.a HI.out.q.1) (fun hHeld=>?_);clear hK K
       clear hb0 hb1 hb2 hb3 fb0 fb1 fb2 fb3
       generalize hwp:World.setCell _ _ _=wp at hHeld ⊢
       have hpb:wp.heap[gb]?=some (.cells #[.int .i64 0,.int .i64 0,.slice none 0 0,.slice none 0 0] 60 (0,0)):=by rw [← hwp];exact tG.far5 HI.out.gr.rs.hb n2_
       have hpc:wp.heap[gc]?=some (.cells #[.int .u64 0] 45 (0,0)):=by rw [← hwp];exact tG.far5 HI.out.gr.rs.hc n4_
       obtain ⟨hb0,hb1,hb2,hb3,fb0,fb1,fb2,fb3⟩:=cells4 hpb
       refine oI 5 none ?_
       intro K hK
       refine skip_ (w1:=?_) (by rfl) rfl ?_ ?_;rotate_left
       ·go_simp;rfl
       refine hK.out _ _ (hHeld.b HI.out.q.2.1) (fun hHeld=>?_);clear hK K
       refine pI 6 (some 12) ?_
       generalize hwq:World.setCell _ _ _=wq at hHeld ⊢
       have hqc:wq.heap[gc]?=some (.cells #[.int .u64 0] 45 (0,0)):=by rw [← hwq];exact tG.far4 hpc n6_
       have hq0_:=blk_cell hqc 0
       have hq1_:=blk_frozen hqc 0
       refine oI 7 none ?_
       intro K hK
       refine skip_ (w1:=?_) (by rfl) rfl ?_ ?_;rotate_left
       ·go_simp;rfl
       refine hK.out _ _ (hHeld.c HI.out.q.2.2) (fun hHeld=>?_);clear hK K
       refine pI 8 (some 14) ?_
       refine done_ (by kernel_rfl) ?_
       subst hwq
       subst hwp
       clear hHeld
       go_wp2_with (fail)
       (try rw [Exit.noGoto_ret])
       refine bodyPost_ret (results_list (rs:=[.cell 10 25,.cell 11 60,.tmp 12,.cell 13 45,.tmp 14]) rfl (by simp) (HI.out.gr.rs.vals (ta:=10) (tb:=11) (tn:=12) (tc:=13) (te:=14) rfl rfl rfl)) rfl ?_
       exact ⟨_,_,_,_,rfl,HI.out.gr.rs.pR RH.out (by decide),HI.out.gr.rs.pR RM.out (by decide),HI.out.gr.rs.pR HI.out.RA (by decide),HI.out.gr.rs.pR HI.out.RY (by decide),HI.out.gr.rs.pB⟩
      have h:=H.out
      rw [if_neg cu] at h
      obtain rfl:u1=false:=by simpa using cu
      clear H cu
      by_cases cl:17592186044416≤l0.length
      ·rw [if_pos cl] at h;exact absurd h (by simp)
      rw [if_neg cl] at h
      have CL:=am_ cl
      obtain ⟨Wt,hWt⟩:∃ y_,y_=l0.map (·.f3):=⟨_,rfl⟩
      rw [← hWt] at h
      obtain ⟨⟨k1_,k2_⟩,hk,h1⟩:=Option.bind_eq_some_iff.1 h
      dsimp only at h1
      have A11:=am_ hk
      have HW:=am_ hWt
      have H:=am_ h1
      clear h h1 hk hWt cl
      go_wp2_with (first|go_step3|fail)
      go_loopg [27,28] l0.length (fun kq v27 v28 wc=>∃ (i:Int) (xs:List Int),v28=.int .i64 i∧Aside0 ((0≤i∧i≤(l0.length:Int))∧kq=l0.length - i.toNat)∧Aside0 (xs=(l0.take i.toNat).map (·.f3)∧xs.length=i.toNat)∧Aside0 (Kd.R (Kd.int .i64) 3 wc w.heap.size (fun k_=>some k_≠(.slice (some ad) l1_5.length cA:Value).ownBlock∧some k_≠(.slice AY l1_6.length cY:Value).ownBlock) v27 xs)∧Aside0 (tG.RG w wc g6 g7 g9 ga gb gc g16 #[.int .i64 a1_0,.int .i64 a1_1,.slice A1_2 l1_2.length c1_2,.int .i64 a1_3,.int .i64 a1_4,.slice A1_5 l1_5.length c1_5,.slice A1_6 l1_6.length c1_6,.slice A1_7 l1_7.length c1_7] #[.int .i64 a2_0,.slice A2_1 l2_1.length c2_1,.slice A2_2 l2_2.length c2_2,.int .i64 a2_3,.int .i64 a2_4] u2 a1_3 a1_4 (.slice (some ad) l1_5.length cA) (.slice AY l1_6.length cY) l1_5 l1_6)∧Aside0 (wc.heap[g20]?=some (.cells #[.int .u64 u2] 45 (0,0))))
      case atStart=>exact ⟨0,[],rfl,⟨⟨by omega,by omega⟩,rfl⟩,⟨rfl,rfl⟩,⟨nl_⟩,HI,B20⟩
      case round =>
       clear HI B20 hq0 hq1
       clear hx0 hx1 hx2 hx3 hx4 hy0 hy1 hy2 hy3 hy4 hy5 hy6 hy7 hd0 hd1 hd2 hd3 hz0 hz1
       obtain ⟨i,xs,rfl,CI,HX,R27,HI,B20⟩:=hrel
       obtain ⟨hx0,hx1,hx2,hx3,hx4,hy0,hy1,hy2,hy3,hy4,hy5,hy6,hy7,hd0,hd1,hd2,hd3,hz0,hz1⟩:=HI.out.c
       obtain ⟨hq0,hq1⟩:=cells1 B20.out
       by_cases ci:i<(l0.length:Int)
       ·as_aux_lemma =>
        have c0_:decide (i<(l0.length:Int))=true:=dt_ ci
        have CJ:=am_ ci
        obtain ⟨ad3,e3,hr0_,hr1_,hr2_,hr3_⟩:=at_T80 (Kd.C_below R0.out HI.out.gr.ok) i CI.out.1.1 ci
        cases e3
        have p5:=eq_true CI.out.1.1
        have p6:=eq_true ci
        clear ci
        have HB:=am_ HI.out.gr.ok
        go_wp2_with (first|((with_reducible refine gate_builtin (b:=.append) (xs:=#[.tmp 191,.tmp 197]) rfl ?_);(try (refine gate_guard (by rfl) ?_;dsimp only));at_builtin;refine Kd.R_append (Kd.int .i64) (w0:=w) w.heap.size rfl (.tmp 191) (.tmp 197) 23 3 (.int .i64 0) 8 rfl Try.underlying23 info3 rfl (by decide) (by omega) u27 xs ((rd_T80 l0 i).f3) [.int .i64 ((rd_T80 l0 i).f3)] (fun k_=>some k_≠(.slice (some ad) l1_5.length cA:Value).ownBlock∧some k_≠(.slice AY l1_6.length cY:Value).ownBlock) (fun _=>False) rfl rfl ?aP (fun _ hk=>hk.elim) ?aF ?aO ?aB ?aS ?aL ?_;(case aP=>exact rfl);(case aB=>exact (hb_));(case aF=>exact (fun k_ hk=>⟨Kd.fresh' (Kd.R_lt (Kd.R_up HI.out.RA)) k_ hk,Kd.fresh' (Kd.R_lt (Kd.R_up HI.out.RY)) k_ hk⟩));(case aO=>exact (Kd.R_up R27.out));(case aS=>exact (below_size (hb_)));(case aL=>have:=HX.out.2;have:=CL.out;have:=CI.out;have:=CJ.out;omega);intro v9 w9 ho hb hg hat;replace HI:=am_ (tG.RG.grown HI.out hg (fun k e=>Kd.R_typed (Kd.R_up R27.out) k e) (fun k e=>R27.out.1 k e) hb);replace B20:=am_ (blk_grown (blk_up B20.out) hg (Kd.R_ne R27.out B20.out (by decide)));replace R27:=am_ ho;clear ho hb hg hat HB))
        go_roundg (l0.length - (i+1).toNat)
        case measure=>have:=CI.out;have:=CJ.out;omega
        case rel=>exact ⟨i+1,_,by congr 1;have:=CL.out;have:=CI.out;have:=CJ.out;unfold wrap64;omega,⟨⟨by have:=CI.out;omega,by have:=CJ.out;omega⟩,rfl⟩,⟨by have a1:=CI.out.1.1;have a2:=CJ.out;rw [HX.out.1,show (i+1).toNat=i.toNat+1 by omega,tG.take_succ _ _ (by omega),show ((i.toNat:Nat):Int)=i by omega],by have a1:=CI.out.1.1;rw [List.length_append,HX.out.2,show (i+1).toNat=i.toNat+1 by omega];rfl⟩,R27,HI,B20⟩
       have c0_:decide (i<(l0.length:Int))=false:=df_ ci
       obtain rfl:xs=Wt:=by rw [HW.out,HX.out.1,List.take_of_length_le (by omega)]
       clear ci
       obtain ⟨A27,c27,e27⟩:=Kd.R_slice R27.out
       subst e27
       go_upto_region 36 with (first|go_step3|(go_at_call 67;refine (h01_Pick.calls _ _ _ _ _ _ _ _ (Kd.R_reads' R27.out).2.2 (Kd.R_reads' R27.out).2.1 A11.out).mono ?_;rintro e w8 ⟨rfl,hb⟩;replace HI:=am_ (HI.out.step hb);replace B20:=bkb B20 hb;clear hb;obtain ⟨hx0,hx1,hx2,hx3,hx4,hy0,hy1,hy2,hy3,hy4,hy5,hy6,hy7,hd0,hd1,hd2,hd3,hz0,hz1⟩:=HI.out.c;obtain ⟨hq0,hq1⟩:=cells1 B20.out))
       have m0_:=am_ ((HI.out.away B20.out G20.out N20.out.1 N20.out.2 (.int .u64 k2_)).set9 G9.out k2_)
       have m3_:Aside0 (((w8.setCell ⟨g20,0,none⟩ (.int .u64 k2_)).setCell ⟨g9,0,none⟩ (.int .u64 k2_)).heap[g20]?=some (.cells #[.int .u64 k2_] 45 (0,0))):=⟨blk_far (blk_set B20.out 0 (.int .u64 k2_)) N20.out.1.symm (.int .u64 k2_)⟩
       clear HI B20 hq0 hq1
       clear hx0 hx1 hx2 hx3 hx4 hy0 hy1 hy2 hy3 hy4 hy5 hy6 hy7 hd0 hd1 hd2 hd3 hz0 hz1
       generalize ((w8.setCell ⟨g20,0,none⟩ (.int .u64 k2_)).setCell ⟨g9,0,none⟩ (.int .u64 k2_))=wx3 at m0_ m3_ ⊢
       have HI:=m0_
       have B20:=m3_
       clear m0_ m3_
       obtain ⟨hx0,hx1,hx2,hx3,hx4,hy0,hy1,hy2,hy3,hy4,hy5,hy6,hy7,hd0,hd1,hd2,hd3,hz0,hz1⟩:=HI.out.c
       obtain ⟨hq0,hq1⟩:=cells1 B20.out
       go_cut [213] (fun v213 wc=>∃ b:Bool,v213=.bool b∧Aside0 (b=decide (k1_<0∨200≤l2_1.length))∧Aside0 (tG.RG w wc g6 g7 g9 ga gb gc g16 #[.int .i64 a1_0,.int .i64 a1_1,.slice A1_2 l1_2.length c1_2,.int .i64 a1_3,.int .i64 a1_4,.slice A1_5 l1_5.length c1_5,.slice A1_6 l1_6.length c1_6,.slice A1_7 l1_7.length c1_7] #[.int .i64 a2_0,.slice A2_1 l2_1.length c2_1,.slice A2_2 l2_2.length c2_2,.int .i64 a2_3,.int .i64 a2_4] k2_ a1_3 a1_4 (.slice (some ad) l1_5.length cA) (.slice AY l1_6.length cY) l1_5 l1_6)∧Aside0 (wc.heap[g20]?=some (.cells #[.int .u64 k2_] 45 (0,0))))
       case first=>as_aux_lemma =>
        by_cases e1:k1_<0
        ·have f1:decide (k1_<0)=true:=dt_ e1
         have E1:=am_ e1
         clear e1
         go_wp2_with (first|go_step3|fail)
         go_meet
         case rel=>exact ⟨_,rfl,⟨(dt_ (by have:=E1.out;omega)).symm⟩,HI,B20⟩
        have f1:decide (k1_<0)=false:=df_ e1
        have E1:=am_ e1
        clear e1
        by_cases e2:200≤l2_1.length
        ·have f2:decide ((l2_1.length:Int)≥200)=true:=dt_ (by omega)
         have f3:decide (200≤(l2_1.length:Int))=true:=dt_ (by omega)
         have E2:=am_ e2
         clear e2
         go_wp2_with (first|go_step3|fail)
         go_meet
         case rel=>exact ⟨_,rfl,⟨(dt_ (by have:=E2.out;omega)).symm⟩,HI,B20⟩
        have f2:decide ((l2_1.length:Int)≥200)=false:=df_ (by omega)
        have f3:decide (200≤(l2_1.length:Int))=false:=df_ (by omega)
        have E2:=am_ e2
        clear e2
        go_wp2_with (first|go_step3|fail)
        go_meet
        case rel=>exact ⟨_,rfl,⟨(df_ (by have:=E1.out;have:=E2.out;omega)).symm⟩,HI,B20⟩
       case rest =>
        clear HI B20 hq0 hq1
        clear hx0 hx1 hx2 hx3 hx4 hy0 hy1 hy2 hy3 hy4 hy5 hy6 hy7 hd0 hd1 hd2 hd3 hz0 hz1
        obtain ⟨b,rfl,EB,HI,B20⟩:=hcut
        have h:=H.out
        clear H
        by_cases ek:k1_<0∨200≤l2_1.length
        ·obtain rfl:b=true:=EB.out.trans (dt_ ek)
         rw [if_pos ek] at h
         simp only [Option.some.injEq,Prod.mk.injEq] at h
         obtain ⟨rfl,rfl,rfl,rfl,rfl⟩:=h
         go_upto_region 37 with (first|go_step3|fail)
         replace HI:=am_ HI.out.drew
         refine start_ (n:=9) (S:=tG.X3 g7 g16 g9 _ _ _ _ _ _ _ _ _ _) (ds:=[]) #[false,false,false,false,false,false,false,false,false] (by kernel_rfl) rfl rfl HI.out.x3 (fun hHeld=>?_)
         generalize hWd:World.drew _=wd at HI hHeld ⊢
         clear hWd
         refine tG.tX 0 (some 214) hHeld ?_
         refine tG.tX 2 (some 216) hHeld ?_
         refine tG.tX 3 (some 217) hHeld ?_
         refine oI 1 (some 215) ?_
         intro K hK
         refine goes_ Try.func41 (by kernel_rfl) rfl #[.agg #[.int .i64 a2_0,.slice A2_1 l2_1.length c2_1,.slice A2_2 l2_2.length c2_2,.int .i64 a2_3,.int .i64 a2_4]] (by rfl) rfl rfl ga_ ?_
         refine (h11_Copy.calls _ _ _ _ _ _ _ _ _ _ _ _ _ _ _ (Kd.C_below R21.out HI.out.gr.ok) hc2_1 (Kd.C_below R22.out HI.out.gr.ok) hc2_2 A3.out).mono ?_
         rintro e w5 ⟨v1,v2,rfl,o1,o2,hb⟩
         refine ⟨_,rfl,?_⟩
         have RH:=Kd.R_lower o1 HI.out.gr.ok.size
         have RM:=Kd.R_lower o2 HI.out.gr.ok.size
         replace HI:=am_ (HI.out.step hb)
         clear hb o1 o2
         obtain ⟨AH,cH,eH⟩:=Kd.R_slice RH
         obtain ⟨AM,cM,eM⟩:=Kd.R_slice RM
         subst eH eM
         replace RH:=am_ RH
         replace RM:=am_ RM
         refine hK.out _ _ HI.out.x3 (fun hHeld=>?_);clear hK K
         refine nrm 215 ?_
         obtain ⟨⟨ha0,ha1,ha2,ha3,ha4⟩,⟨fa0,fa1,fa2,fa3,fa4⟩,⟨hb0,hb1,hb2,hb3⟩,⟨fb0,fb1,fb2,fb3⟩,hc0_,fc0⟩:=HI.out.gr.rs.cells
         have n1_:=HI.out.gr.rs.nab
         have n2_:=n1_.symm
         have n3_:=HI.out.gr.rs.nac
         have n4_:=n3_.symm
         have n5_:=HI.out.gr.rs.nbc
         have n6_:=n5_.symm
         refine oI 4 none ?_
         intro K hK
         refine skip_ (w1:=?_) (by rfl) rfl ?_ ?_;rotate_left
         ·go_simp;rfl
         refine hK.out _ _ (hHeld.a HI.out.q.1) (fun hHeld=>?_);clear hK K
         clear hb0 hb1 hb2 hb3 fb0 fb1 fb2 fb3
         generalize hwp:World.setCell _ _ _=wp at hHeld ⊢
         have hpb:wp.heap[gb]?=some (.cells #[.int .i64 0,.int .i64 0,.slice none 0 0,.slice none 0 0] 60 (0,0)):=by rw [← hwp];exact tG.far5 HI.out.gr.rs.hb n2_
         have hpc:wp.heap[gc]?=some (.cells #[.int .u64 0] 45 (0,0)):=by rw [← hwp];exact tG.far5 HI.out.gr.rs.hc n4_
         obtain ⟨hb0,hb1,hb2,hb3,fb0,fb1,fb2,fb3⟩:=cells4 hpb
         refine oI 5 none ?_
         intro K hK
         refine skip_ (w1:=?_) (by rfl) rfl ?_ ?_;rotate_left
         ·go_simp;rfl
         refine hK.out _ _ (hHeld.b HI.out.q.2.1) (fun hHeld=>?_);clear hK K
         refine pI 6 (some 12) ?_
         generalize hwq:World.setCell _ _ _=wq at hHeld ⊢
         have hqc:wq.heap[gc]?=some (.cells #[.int .u64 0] 45 (0,0)):=by rw [← hwq];exact tG.far4 hpc n6_
         have hq0_:=blk_cell hqc 0
         have hq1_:=blk_frozen hqc 0
         refine oI 7 none ?_
         intro K hK
         refine skip_ (w1:=?_) (by rfl) rfl ?_ ?_;rotate_left
         ·go_simp;rfl
         refine hK.out _ _ (hHeld.c HI.out.q.2.2) (fun hHeld=>?_);clear hK K
         refine pI 8 (some 14) ?_
         refine done_ (by kernel_rfl) ?_
         subst hwq
         subst hwp
         clear hHeld
         go_wp2_with (fail)
         (try rw [Exit.noGoto_ret])
         refine bodyPost_ret (results_list (rs:=[.cell 10 25,.cell 11 60,.tmp 12,.cell 13 45,.tmp 14]) rfl (by simp) (HI.out.gr.rs.vals (ta:=10) (tb:=11) (tn:=12) (tc:=13) (te:=14) rfl rfl rfl)) rfl ?_
         exact ⟨_,_,_,_,rfl,HI.out.gr.rs.pR RH.out (by decide),HI.out.gr.rs.pR RM.out (by decide),HI.out.gr.rs.pR HI.out.RA (by decide),HI.out.gr.rs.pR HI.out.RY (by decide),HI.out.gr.rs.pB⟩
        obtain rfl:b=false:=EB.out.trans (df_ ek)
        rw [if_neg ek] at h
        obtain ⟨⟨t1,t2,t3,t4,t5⟩,ht,h1⟩:=Option.bind_eq_some_iff.1 h
        dsimp only at h1
        by_cases cq:t1=a2_0∧t3=l2_2∧t4=a2_3∧t5=a2_4
        rotate_left
        ·rw [if_neg cq] at h1;exact absurd h1 (by simp)
        rw [if_pos cq] at h1
        obtain ⟨d1_,d2_,d3_,d4_⟩:=cq
        rw [d1_,d2_,d3_,d4_] at ht
        simp only [Option.some.injEq,Prod.mk.injEq] at h1
        obtain ⟨rfl,rfl,rfl,rfl,rfl⟩:=h1
        have A12:=am_ ht
        clear h ht d1_ d2_ d3_ d4_ EB ek
        go_upto_region 38 with (first|go_step3|fail)
        replace HI:=am_ HI.out.drew
        refine start_ (n:=13) (S:=tG.X3 g7 g16 g9 _ _ _ _ _ _ _ _ _ _) (ds:=[]) #[false,false,false,false,false,false,false,false,false,false,false,false,false] (by kernel_rfl) rfl rfl HI.out.x3 (fun hHeld=>?_)
        generalize hWd:World.drew _=wd at HI hHeld ⊢
        clear hWd
        refine tG.tX 0 (some 218) hHeld ?_
        refine tG.tX 6 (some 224) hHeld ?_
        refine tG.tX 7 (some 225) hHeld ?_
        refine pI 1 (some 219) ?_
        refine pI 2 (some 220) ?_
        refine pI 3 (some 221) ?_
        refine pI 4 (some 222) ?_
        refine oI 5 (some 223) ?_
        intro K hK
        refine goes_ Try.func68 (by kernel_rfl) rfl #[.agg #[.int .i64 a2_0,.slice A2_1 l2_1.length c2_1,.slice A2_2 l2_2.length c2_2,.int .i64 a2_3,.int .i64 a2_4],.agg #[.int .i64 to_,.int .i64 k1_,.int .i64 a3]] (by rfl) rfl rfl ga_ ?_
        refine (h11_build.calls _ _ _ _ _ _ _ _ _ _ _ _ _ _ _ _ _ _ _ (Kd.C_below R21.out HI.out.gr.ok) hc2_1 (Kd.C_below R22.out HI.out.gr.ok) hc2_2 A12.out).mono ?_
        rintro e w5 ⟨v1,v2,rfl,o1,o2,hb⟩
        refine ⟨_,rfl,?_⟩
        have RH:=Kd.R_lower o1 HI.out.gr.ok.size
        have RM:=Kd.R_lower o2 HI.out.gr.ok.size
        replace HI:=am_ (HI.out.step hb)
        clear hb o1 o2
        obtain ⟨AH,cH,eH⟩:=Kd.R_slice RH
        obtain ⟨AM,cM,eM⟩:=Kd.R_slice RM
        subst eH eM
        replace RH:=am_ RH
        replace RM:=am_ RM
        refine hK.out _ _ HI.out.x3 (fun hHeld=>?_);clear hK K
        refine nrm 223 ?_
        obtain ⟨⟨ha0,ha1,ha2,ha3,ha4⟩,⟨fa0,fa1,fa2,fa3,fa4⟩,⟨hb0,hb1,hb2,hb3⟩,⟨fb0,fb1,fb2,fb3⟩,hc0_,fc0⟩:=HI.out.gr.rs.cells
        have n1_:=HI.out.gr.rs.nab
        have n2_:=n1_.symm
        have n3_:=HI.out.gr.rs.nac
        have n4_:=n3_.symm
        have n5_:=HI.out.gr.rs.nbc
        have n6_:=n5_.symm
        refine oI 8 none ?_
        intro K hK
        refine skip_ (w1:=?_) (by rfl) rfl ?_ ?_;rotate_left
        ·go_simp;rfl
        refine hK.out _ _ (hHeld.a HI.out.q.1) (fun hHeld=>?_);clear hK K
        clear hb0 hb1 hb2 hb3 fb0 fb1 fb2 fb3
        generalize hwp:World.setCell _ _ _=wp at hHeld ⊢
        have hpb:wp.heap[gb]?=some (.cells #[.int .i64 0,.int .i64 0,.slice none 0 0,.slice none 0 0] 60 (0,0)):=by rw [← hwp];exact tG.far5 HI.out.gr.rs.hb n2_
        have hpc:wp.heap[gc]?=some (.cells #[.int .u64 0] 45 (0,0)):=by rw [← hwp];exact tG.far5 HI.out.gr.rs.hc n4_
        obtain ⟨hb0,hb1,hb2,hb3,fb0,fb1,fb2,fb3⟩:=cells4 hpb
        refine oI 9 none ?_
        intro K hK
        refine skip_ (w1:=?_) (by rfl) rfl ?_ ?_;rotate_left
        ·go_simp;rfl
        refine hK.out _ _ (hHeld.b HI.out.q.2.1) (fun hHeld=>?_);clear hK K
        refine pI 10 (some 12) ?_
        generalize hwq:World.setCell _ _ _=wq at hHeld ⊢
        have hqc:wq.heap[gc]?=some (.cells #[.int .u64 0] 45 (0,0)):=by rw [← hwq];exact tG.far4 hpc n6_
        have hq0_:=blk_cell hqc 0
        have hq1_:=blk_frozen hqc 0
        refine oI 11 none ?_
        intro K hK
        refine skip_ (w1:=?_) (by rfl) rfl ?_ ?_;rotate_left
        ·go_simp;rfl
        refine hK.out _ _ (hHeld.c HI.out.q.2.2) (fun hHeld=>?_);clear hK K
        refine pI 12 (some 14) ?_
        refine done_ (by kernel_rfl) ?_
        subst hwq
        subst hwp
        clear hHeld
        go_wp2_with (fail)
        (try rw [Exit.noGoto_ret])
        refine bodyPost_ret (results_list (rs:=[.cell 10 25,.cell 11 60,.tmp 12,.cell 13 45,.tmp 14]) rfl (by simp) (HI.out.gr.rs.vals (ta:=10) (tb:=11) (tn:=12) (tc:=13) (te:=14) rfl rfl rfl)) rfl ?_
        exact ⟨_,_,_,_,rfl,HI.out.gr.rs.pR RH.out (by decide),HI.out.gr.rs.pR RM.out (by decide),HI.out.gr.rs.pR HI.out.RA (by decide),HI.out.gr.rs.pR HI.out.RY (by decide),HI.out.gr.rs.pB⟩
 have h:=H.out
 rw [if_pos ca] at h
 have ca0:(rd l1_5 a2_0 == 0)=true:=beq_iff_eq.2 ca
 replace H:=am_ h
 clear h ca
 obtain ⟨hx0,hx1,hx2,hx3,hx4,hy0,hy1,hy2,hy3,hy4,hy5,hy6,hy7,hd0,hd1,hd2,hd3,hz0,hz1⟩:=HI.out.c
 go_upto_region 6 with (fail)
 go_cut [65] (fun v65 wc=>∃ b:Bool,v65=.bool b∧Aside0 ((cond b (some (a2_0,l2_1,l2_2,a2_3,a2_4,a1_3,a1_4,l1_5,l1_6,0,a4_0,0)) ((h11_pave.f a1_3 a1_4 l1_5 l1_6 a2_0 15).bind fun p=>some (a2_0,l2_1,l2_2,a2_3,a2_4,a1_3,a1_4,p.1,p.2,1,a4_0,0)))=some (r1,r2,r3,r4,r5,r6,r7,r8,r9,r10,r11,r12))∧Aside0 (tG.RG w wc g6 g7 g9 ga gb gc g16 #[.int .i64 a1_0,.int .i64 a1_1,.slice A1_2 l1_2.length c1_2,.int .i64 a1_3,.int .i64 a1_4,.slice A1_5 l1_5.length c1_5,.slice A1_6 l1_6.length c1_6,.slice A1_7 l1_7.length c1_7] #[.int .i64 a2_0,.slice A2_1 l2_1.length c2_1,.slice A2_2 l2_2.length c2_2,.int .i64 a2_3,.int .i64 a2_4] a4_0 a1_3 a1_4 (.slice (some ad) l1_5.length cA) (.slice AY l1_6.length cY) l1_5 l1_6))
 case first=>as_aux_lemma =>
  have h0:=H.out
  clear H
  obtain ⟨b1,hb1,h⟩:=Option.bind_eq_some_iff.1 h0
  clear h0
  have A4:=am_ hb1
  by_cases e1:b1=true
  rotate_left
  obtain rfl:b1=false:=by simpa using e1
  rw [if_neg e1] at h
  obtain ⟨b2,hb2,h0⟩:=Option.bind_eq_some_iff.1 h
  clear h
  have h:=h0
  clear h0
  have A5:=am_ hb2
  by_cases e2:b2=true
  rotate_left
  obtain rfl:b2=false:=by simpa using e2
  rw [if_neg e2] at h
  obtain ⟨b3,hb3,h0⟩:=Option.bind_eq_some_iff.1 h
  clear h
  have h:=h0
  clear h0
  have A6:=am_ hb3
  by_cases e3:b3=true
  subst e3;rw [if_pos rfl] at h
  rotate_left
  obtain rfl:b3=false:=by simpa using e3
  rw [if_neg e3] at h
  rotate_left
  subst e1;rw [if_pos rfl] at h
  rotate_left
  subst e2;rw [if_pos rfl] at h
  all_goals (have H:=am_ h;clear h hx;go_wp2_with (first|(go_at_call 60;refine (h11_wet.calls _ _ _ _ _ _ _ _ _ (Kd.C_below R12.out HI.out.gr.ok) hc1_2 A4.out).mono ?_;rintro e w4 ⟨rfl,hb⟩;replace HI:=am_ (HI.out.step hb);clear hb;obtain ⟨hx0,hx1,hx2,hx3,hx4,hy0,hy1,hy2,hy3,hy4,hy5,hy6,hy7,hd0,hd1,hd2,hd3,hz0,hz1⟩:=HI.out.c)|(go_at_call 61;refine (h11_held.calls _ _ _ _ _ _ _ _ _ _ _ _ _ _ _ _ _ _ _ _ (Kd.C_below R12.out HI.out.gr.ok) hc1_2 (Kd.C_below R15.out HI.out.gr.ok) hc1_5 (Kd.C_below R16.out HI.out.gr.ok) hc1_6 (Kd.C_below R17.out HI.out.gr.ok) hc1_7 A5.out).mono ?_;rintro e w4 ⟨rfl,hb⟩;replace HI:=am_ (HI.out.step hb);clear hb;obtain ⟨hx0,hx1,hx2,hx3,hx4,hy0,hy1,hy2,hy3,hy4,hy5,hy6,hy7,hd0,hd1,hd2,hd3,hz0,hz1⟩:=HI.out.c)|(go_at_call 62;refine (h11_has.calls _ _ _ _ _ _ _ _ _ _ _ _ _ (Kd.C_below R21.out HI.out.gr.ok) hc2_1 (Kd.C_below R22.out HI.out.gr.ok) hc2_2 A6.out).mono ?_;rintro e w4 ⟨rfl,hb⟩;replace HI:=am_ (HI.out.step hb);clear hb;obtain ⟨hx0,hx1,hx2,hx3,hx4,hy0,hy1,hy2,hy3,hy4,hy5,hy6,hy7,hd0,hd1,hd2,hd3,hz0,hz1⟩:=HI.out.c));go_meet)
  all_goals exact ⟨_,rfl,H,HI⟩
 case rest =>
  clear H HI hx hx0 hx1 hx2 hx3 hx4 hy0 hy1 hy2 hy3 hy4 hy5 hy6 hy7 hd0 hd1 hd2 hd3 hz0 hz1
  obtain ⟨b,rfl,H,HI⟩:=hcut
  cases b
  rotate_left
  ·have h:=H.out
   simp only [cond_true,Option.some.injEq,Prod.mk.injEq] at h
   obtain ⟨rfl,rfl,rfl,rfl,rfl,rfl,rfl,rfl,rfl,rfl,rfl,rfl⟩:=h
   clear H
   go_upto_region 7 with (fail)
   replace HI:=am_ HI.out.drew
   refine start_ (n:=9) (S:=tG.X3 g7 g16 g9 _ _ _ _ _ _ _ _ _ _) (ds:=[]) #[false,false,false,false,false,false,false,false,false] (by kernel_rfl) rfl rfl HI.out.x3 (fun hHeld=>?_)
   generalize hWd:World.drew _=wd at HI hHeld ⊢
   clear hWd
   refine tG.tX 0 (some 66) hHeld ?_
   refine tG.tX 2 (some 68) hHeld ?_
   refine tG.tX 3 (some 69) hHeld ?_
   refine oI 1 (some 67) ?_
   intro K hK
   refine goes_ Try.func41 (by kernel_rfl) rfl #[.agg #[.int .i64 a2_0,.slice A2_1 l2_1.length c2_1,.slice A2_2 l2_2.length c2_2,.int .i64 a2_3,.int .i64 a2_4]] (by rfl) rfl rfl ga_ ?_
   refine (h11_Copy.calls _ _ _ _ _ _ _ _ _ _ _ _ _ _ _ (Kd.C_below R21.out HI.out.gr.ok) hc2_1 (Kd.C_below R22.out HI.out.gr.ok) hc2_2 A3.out).mono ?_
   rintro e w5 ⟨v1,v2,rfl,o1,o2,hb⟩
   refine ⟨_,rfl,?_⟩
   have RH:=Kd.R_lower o1 HI.out.gr.ok.size
   have RM:=Kd.R_lower o2 HI.out.gr.ok.size
   replace HI:=am_ (HI.out.step hb)
   clear hb o1 o2
   obtain ⟨AH,cH,eH⟩:=Kd.R_slice RH
   obtain ⟨AM,cM,eM⟩:=Kd.R_slice RM
   subst eH eM
   replace RH:=am_ RH
   replace RM:=am_ RM
   refine hK.out _ _ HI.out.x3 (fun hHeld=>?_);clear hK K
   refine nrm 67 ?_
   obtain ⟨⟨ha0,ha1,ha2,ha3,ha4⟩,⟨fa0,fa1,fa2,fa3,fa4⟩,⟨hb0,hb1,hb2,hb3⟩,⟨fb0,fb1,fb2,fb3⟩,hc0_,fc0⟩:=HI.out.gr.rs.cells
   have n1_:=HI.out.gr.rs.nab
   have n2_:=n1_.symm
   have n3_:=HI.out.gr.rs.nac
   have n4_:=n3_.symm
   have n5_:=HI.out.gr.rs.nbc
   have n6_:=n5_.symm
   refine oI 4 none ?_
   intro K hK
   refine skip_ (w1:=?_) (by rfl) rfl ?_ ?_;rotate_left
   ·go_simp;rfl
   refine hK.out _ _ (hHeld.a HI.out.q.1) (fun hHeld=>?_);clear hK K
   clear hb0 hb1 hb2 hb3 fb0 fb1 fb2 fb3
   generalize hwp:World.setCell _ _ _=wp at hHeld ⊢
   have hpb:wp.heap[gb]?=some (.cells #[.int .i64 0,.int .i64 0,.slice none 0 0,.slice none 0 0] 60 (0,0)):=by rw [← hwp];exact tG.far5 HI.out.gr.rs.hb n2_
   have hpc:wp.heap[gc]?=some (.cells #[.int .u64 0] 45 (0,0)):=by rw [← hwp];exact tG.far5 HI.out.gr.rs.hc n4_
   obtain ⟨hb0,hb1,hb2,hb3,fb0,fb1,fb2,fb3⟩:=cells4 hpb
   refine oI 5 none ?_
   intro K hK
   refine skip_ (w1:=?_) (by rfl) rfl ?_ ?_;rotate_left
   ·go_simp;rfl
   refine hK.out _ _ (hHeld.b HI.out.q.2.1) (fun hHeld=>?_);clear hK K
   refine pI 6 (some 12) ?_
   generalize hwq:World.setCell _ _ _=wq at hHeld ⊢
   have hqc:wq.heap[gc]?=some (.cells #[.int .u64 0] 45 (0,0)):=by rw [← hwq];exact tG.far4 hpc n6_
   have hq0_:=blk_cell hqc 0
   have hq1_:=blk_frozen hqc 0
   refine oI 7 none ?_
   intro K hK
   refine skip_ (w1:=?_) (by rfl) rfl ?_ ?_;rotate_left
   ·go_simp;rfl
   refine hK.out _ _ (hHeld.c HI.out.q.2.2) (fun hHeld=>?_);clear hK K
   refine pI 8 (some 14) ?_
   refine done_ (by kernel_rfl) ?_
   subst hwq
   subst hwp
   clear hHeld
   go_wp2_with (fail)
   (try rw [Exit.noGoto_ret])
   refine bodyPost_ret (results_list (rs:=[.cell 10 25,.cell 11 60,.tmp 12,.cell 13 45,.tmp 14]) rfl (by simp) (HI.out.gr.rs.vals (ta:=10) (tb:=11) (tn:=12) (tc:=13) (te:=14) rfl rfl rfl)) rfl ?_
   exact ⟨_,_,_,_,rfl,HI.out.gr.rs.pR RH.out (by decide),HI.out.gr.rs.pR RM.out (by decide),HI.out.gr.rs.pR HI.out.RA (by decide),HI.out.gr.rs.pR HI.out.RY (by decide),HI.out.gr.rs.pB⟩
  ·have h:=H.out
   simp only [cond_false] at h
   obtain ⟨⟨q1,q2⟩,hp,h0⟩:=Option.bind_eq_some_iff.1 h
   simp only [Option.some.injEq,Prod.mk.injEq] at h0
   obtain ⟨rfl,rfl,rfl,rfl,rfl,rfl,rfl,rfl,rfl,rfl,rfl,rfl⟩:=h0
   have A5:=am_ hp
   clear H h hp
   obtain ⟨hx0,hx1,hx2,hx3,hx4,hy0,hy1,hy2,hy3,hy4,hy5,hy6,hy7,hd0,hd1,hd2,hd3,hz0,hz1⟩:=HI.out.c
   go_upto_region 9 with (go_at_call 63;refine (h11_pave.calls _ _ _ _ _ _ _ _ _ _ _ _ w _ HI.out.gr.ok HI.out.RA (fun k h1 h2=>HI.out.ap k h1 h2) HI.out.RY (fun k h1 h2=>HI.out.ap k h2 h1) A5.out).mono ?_;rintro e w4 ⟨rfl,o1,o2,hb,hk⟩;replace HI:=am_ (HI.out.kept hk hb o1 o2);clear o1 o2 hb hk)
   clear hx0 hx1 hx2 hx3 hx4 hy0 hy1 hy2 hy3 hy4 hy5 hy6 hy7 hd0 hd1 hd2 hd3 hz0 hz1
   replace HI:=am_ HI.out.drew
   refine start_ (n:=9) (S:=tG.X3 g7 g16 g9 _ _ _ _ _ _ _ _ _ _) (ds:=[]) #[false,false,false,false,false,false,false,false,false] (by kernel_rfl) rfl rfl HI.out.x3 (fun hHeld=>?_)
   generalize hWd:World.drew _=wd at HI hHeld ⊢
   clear hWd
   refine tG.tX 0 (some 73) hHeld ?_
   refine tG.tX 2 (some 75) hHeld ?_
   refine tG.tX 3 (some 76) hHeld ?_
   refine oI 1 (some 74) ?_
   intro K hK
   refine goes_ Try.func41 (by kernel_rfl) rfl #[.agg #[.int .i64 a2_0,.slice A2_1 l2_1.length c2_1,.slice A2_2 l2_2.length c2_2,.int .i64 a2_3,.int .i64 a2_4]] (by rfl) rfl rfl ga_ ?_
   refine (h11_Copy.calls _ _ _ _ _ _ _ _ _ _ _ _ _ _ _ (Kd.C_below R21.out HI.out.gr.ok) hc2_1 (Kd.C_below R22.out HI.out.gr.ok) hc2_2 A3.out).mono ?_
   rintro e w5 ⟨v1,v2,rfl,o1,o2,hb⟩
   refine ⟨_,rfl,?_⟩
   have RH:=Kd.R_lower o1 HI.out.gr.ok.size
   have RM:=Kd.R_lower o2 HI.out.gr.ok.size
   replace HI:=am_ (HI.out.step hb)
   clear hb o1 o2
   obtain ⟨AH,cH,eH⟩:=Kd.R_slice RH
   obtain ⟨AM,cM,eM⟩:=Kd.R_slice RM
   subst eH eM
   replace RH:=am_ RH
   replace RM:=am_ RM
   refine hK.out _ _ HI.out.x3 (fun hHeld=>?_);clear hK K
   refine nrm 74 ?_
   obtain ⟨⟨ha0,ha1,ha2,ha3,ha4⟩,⟨fa0,fa1,fa2,fa3,fa4⟩,⟨hb0,hb1,hb2,hb3⟩,⟨fb0,fb1,fb2,fb3⟩,hc0_,fc0⟩:=HI.out.gr.rs.cells
   have n1_:=HI.out.gr.rs.nab
   have n2_:=n1_.symm
   have n3_:=HI.out.gr.rs.nac
   have n4_:=n3_.symm
   have n5_:=HI.out.gr.rs.nbc
   have n6_:=n5_.symm
   refine oI 4 none ?_
   intro K hK
   refine skip_ (w1:=?_) (by rfl) rfl ?_ ?_;rotate_left
   ·go_simp;rfl
   refine hK.out _ _ (hHeld.a HI.out.q.1) (fun hHeld=>?_);clear hK K
   clear hb0 hb1 hb2 hb3 fb0 fb1 fb2 fb3
   generalize hwp:World.setCell _ _ _=wp at hHeld ⊢
   have hpb:wp.heap[gb]?=some (.cells #[.int .i64 0,.int .i64 0,.slice none 0 0,.slice none 0 0] 60 (0,0)):=by rw [← hwp];exact tG.far5 HI.out.gr.rs.hb n2_
   have hpc:wp.heap[gc]?=some (.cells #[.int .u64 0] 45 (0,0)):=by rw [← hwp];exact tG.far5 HI.out.gr.rs.hc n4_
   obtain ⟨hb0,hb1,hb2,hb3,fb0,fb1,fb2,fb3⟩:=cells4 hpb
   refine oI 5 none ?_
   intro K hK
   refine skip_ (w1:=?_) (by rfl) rfl ?_ ?_;rotate_left
   ·go_simp;rfl
   refine hK.out _ _ (hHeld.b HI.out.q.2.1) (fun hHeld=>?_);clear hK K
   refine pI 6 (some 12) ?_
   generalize hwq:World.setCell _ _ _=wq at hHeld ⊢
   have hqc:wq.heap[gc]?=some (.cells #[.int .u64 0] 45 (0,0)):=by rw [← hwq];exact tG.far4 hpc n6_
   have hq0_:=blk_cell hqc 0
   have hq1_:=blk_frozen hqc 0
   refine oI 7 none ?_
   intro K hK
   refine skip_ (w1:=?_) (by rfl) rfl ?_ ?_;rotate_left
   ·go_simp;rfl
   refine hK.out _ _ (hHeld.c HI.out.q.2.2) (fun hHeld=>?_);clear hK K
   refine pI 8 (some 14) ?_
   refine done_ (by kernel_rfl) ?_
   subst hwq
   subst hwp
   clear hHeld
   go_wp2_with (fail)
   (try rw [Exit.noGoto_ret])
   refine bodyPost_ret (results_list (rs:=[.cell 10 25,.cell 11 60,.tmp 12,.cell 13 45,.tmp 14]) rfl (by simp) (HI.out.gr.rs.vals (ta:=10) (tb:=11) (tn:=12) (tc:=13) (te:=14) rfl rfl rfl)) rfl ?_
   exact ⟨_,_,_,_,rfl,HI.out.gr.rs.pR RH.out (by decide),HI.out.gr.rs.pR RM.out (by decide),HI.out.gr.rs.pR HI.out.RA (by decide),HI.out.gr.rs.pR HI.out.RY (by decide),HI.out.gr.rs.pB⟩
-- h11_growError h11_streets h11_Copy h11_wet h11_held h11_has h11_pave h11_beyond h11_build h01_Below h02_Slope h01_Chance h01_Pick


end Go.Proofs.Ytbdijpjlgokfkaa.P

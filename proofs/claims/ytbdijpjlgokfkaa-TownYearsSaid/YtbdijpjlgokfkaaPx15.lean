/- Functions of this seat as plain Lean functions, with proofs that the Go code comes to just their answers, or what stands between them and a law's statement; no conditions. (Laid by a program of this session, out of the kit's print.) -/
import Derived.Test.YtbdijpjlgokfkaaPx0
import Derived.Shelf.Spec.SlicesInsert
import Derived.Shelf.Spec.SlicesInsertGrow
import Derived.ArgAppend
namespace Go.Proofs.Ytbdijpjlgokfkaa.P
open Go.RowKit Go.Proofs.YtbdijpjlgokfkaaW.PrintWords Go.Proofs.YtbdijpjlgokfkaaW.PrintLast Go.Proofs.YtbdijpjlgokfkaaW.PrintMore
attribute [local go_sem] max2_int min2_int max_two min_two max_three min_three max_four min_four   -- for this text's walks alone
set_option maxHeartbeats 8000000
set_option maxRecDepth 100000
set_option linter.unusedVariables false
set_option linter.unusedSimpArgs false

-- plug-in
/-! ### api_House_109: function 109 -/
-- HAND
def api_House_109.f (l0:List S68) (a1:Int) (l2:List S68):Option (List S68):=if 0≤a1∧a1≤(l0.length:Int)∧0<l2.length∧l0.length+l2.length≤17592186 then some (l0.take a1.toNat ++ l2 ++ l0.drop a1.toNat) else none
theorem api_House_109.free {w w':World} {base base':Nat} {ok ok':Nat→Prop} {x:S68} {cs:List Value} (h:k68.M w base ok x cs):k68.M w' base' ok' x cs:=by
 rw [k68_openM h];exact k68_mkM _ _ _ x
theorem api_House_109.one {w:World} {base:Nat} {ok:Nat→Prop} {ps:List S68} {cs:List Value} (h:Reps (k68.M w base ok) 3 ps cs):∀ u ∈ cs,u.oneCell'=true:=by
 intro u hu
 obtain ⟨q,hq,rfl⟩:=List.mem_iff_getElem.1 hu
 have hl:=h.1
 have hql:q / 3<ps.length:=by omega
 have hc:=h.2 (q / 3) _ (List.getElem?_eq_getElem hql)
 refine k68.K_one (k68.K_of_M hc) _ ?_
 rw [List.mem_iff_getElem?]
 refine ⟨q % 3,?_⟩
 rw [List.getElem?_take,if_pos (Nat.mod_lt _ (by decide)),List.getElem?_drop,Nat.mul_comm,Nat.div_add_mod,List.getElem?_eq_getElem hq]
theorem api_House_109.copyN {P:Program} (w:World) (dT sT ty elem:TypeId) (b o dLen dCap:Nat) (a:Addr) (sLen sCap q:Nat) (cs:List Value)
  (hu:P.underlying dT=some (.slice elem)) (hs:(P.info? elem).map (·.size)=some q) (hn:cs.length=Nat.min sLen dLen * q)
  (hsrc:∀ j v,cs[j]?=some v→w.cell? (a.add j)=some v) (hc:∀ j,j<cs.length→(w.cell? ⟨b,o+j,none⟩).isSome=true) (hf:∀ j,j<cs.length→w.frozen? ⟨b,o+j,none⟩=false) (h1:∀ v ∈ cs,v.oneCell'=true) :
  (Builtin.copy_ #[dT,sT] ty #[.slice (some ⟨b,o,none⟩) dLen dCap,.slice (some a) sLen sCap]).run P w=.ok (goInt (Nat.min sLen dLen)) (w.setCells b o cs):=by
 have hl:=run_loadCells_list (P:=P) w a cs hsrc
 have hst:=run_storeCells_cells (P:=P) b o cs 0 w (by simpa using hc) (by simpa using hf) h1
 cases hq:P.info? elem with
 | none=>simp [hq] at hs
 | some i =>
  have hi:i.size=q:=by simpa [hq] using hs
  simp [Builtin.copy_,run_underlying hu,Builtin.lenOf,Builtin.firstCells,sizeOf,typeInfo,hq,hi,← hn,hl,hst]
theorem api_House_109.below {B g o:Nat} {w W:World} (vs:List Value) (h:Below B w W) (hg:B≤g):Below B w (W.setCells g o vs):=by
 obtain ⟨q1,q2,q3,q4⟩:=setCells_same g vs o W
 exact ⟨q1.trans h.os,q2.trans h.tape,q3.trans h.output,by rw [q4];exact h.size,fun k hk=>(setCells_far vs o k (by omega)).trans (h.block k hk)⟩
theorem api_House_109.own {W:World} {base g cap:Nat} {ok:Nat→Prop} {r:List S68} {inner:List Value} {cur:Array Value} (hh:W.heap[g]?=some (.cells cur 68 (0,0))) (hb:base≤g) (hok:ok g) (hn:r.length≤cap) (hm:cap≤maxLen) (hs:cur.size=cap * 3) (ht:cur.toList.take (r.length * 3)=inner)
  (hr:∀ w' base' ok',Reps (k68.M w' base' ok') 3 r inner):Kd.R k68 68 W base ok (.slice (some ⟨g,0,none⟩) r.length cap) r:=by
 refine ⟨fun k hk=>?_,inner,⟨(hr W base ok).1,.inr ⟨g,cap,cur,rfl,hb,hh,hn,hm,hs,ht⟩⟩,hr W base _⟩
 have:g=k:=by injection hk
 rw [← this];exact hok
theorem api_House_109.two1 (L vs ds:List Value) (i m:Nat) (hm:vs.length=m) (hl:i+m+ds.length≤L.length):let A:=L.take i ++ vs ++ L.drop (i+vs.length);(A.take (i+m) ++ ds ++ A.drop (i+m+ds.length)).take (i+m+ds.length)=L.take i ++ vs ++ ds:=by
 intro A
 have h1:(L.take i).length=i:=by rw [List.length_take];omega
 have h2:A.take (i+m)=L.take i ++ vs:=List.take_left' (by rw [List.length_append,h1,hm])
 rw [h2,List.take_left' (by rw [List.length_append,List.length_append,h1,hm])]
theorem api_House_109.two2 (L vs ds:List Value) (i m:Nat) (hm:vs.length=m) (hl:i+m+ds.length≤L.length):let A:=L.take (i+m) ++ ds ++ L.drop (i+m+ds.length);(A.take i ++ vs ++ A.drop (i+vs.length)).take (i+m+ds.length)=L.take i ++ vs ++ ds:=by
 intro A
 have h1:(L.take (i+m)).length=i+m:=by rw [List.length_take];omega
 have h2:A.take i=L.take i:=by
  show (L.take (i+m) ++ ds ++ L.drop (i+m+ds.length)).take i=L.take i
  rw [List.append_assoc,List.take_append_of_le_length (by omega),List.take_take,Nat.min_eq_left (by omega)]
 have h3:A.drop (i+vs.length)=ds ++ L.drop (i+m+ds.length):=by
  show (L.take (i+m) ++ ds ++ L.drop (i+m+ds.length)).drop (i+vs.length)=_
  rw [List.append_assoc,hm];exact List.drop_left' h1
 have h4:(L.take i).length=i:=by rw [List.length_take];omega
 rw [h2,h3,← List.append_assoc,List.take_left' (by rw [List.length_append,List.length_append,h4,hm])]
theorem api_House_109.calls (P0_:Nat→Prop) (u9000_:Value) (l0:List S68) (a1:Int) (A2:Option Addr) (c2:Nat) (l2:List S68) (r:List S68) (w0 w:World) (hB:Below w0.heap.size w0 w) (ho0:Kd.R k68 68 w w0.heap.size P0_ u9000_ l0) (h2:∃ ok2 base2,(∀ k,ok2 k→¬ P0_ k)∧Kd.R k68 68 w base2 ok2 (.slice A2 l2.length c2) l2) (hc2:l2.length≤c2) (h:api_House_109.f l0 a1 l2=some r) :
  Calls Try.prog 109 #[u9000_,.int .i64 a1,.slice A2 l2.length c2] w fun e w'=>∃ v0_:Value,e=.returned (v0_)∧Kd.R k68 68 w' w0.heap.size (fun k_=>(P0_ k_∨w.heap.size≤k_)) v0_ r∧Below w0.heap.size w0 w'∧Kept w w' (fun k_=>P0_ k_):=by
 unfold api_House_109.f at h
 by_cases hc:0≤a1∧a1≤(l0.length:Int)∧0<l2.length∧l0.length+l2.length≤17592186
 rotate_left
 ·rw [if_neg hc] at h;exact absurd h (by simp)
 rw [if_pos hc] at h
 obtain rfl:=oj_ h
 obtain ⟨i,rfl⟩:=Int.eq_ofNat_of_zero_le hc.1
 have hi:i≤l0.length:=by omega
 have hm:0<l2.length:=hc.2.2.1
 have hbig:(l0.length+l2.length) * 24≤140737488355328:=by omega
 simp only [Int.toNat_natCast,Int.ofNat_eq_natCast]
 have mixed:Try.prog.follows Departure.mixedOrders=true:=by kernel_rfl
 obtain ⟨i0,hi0,hzz⟩:=Option.map_eq_some_iff.1 info68
 simp only [Prod.mk.injEq] at hzz
 obtain ⟨hz0,hzs,hzb⟩:=hzz
 have hK:=Try.underlying22
 -- the values
 obtain ⟨ok2,base2,hap,hok2,inner2,⟨hl2,hf2⟩,hr2⟩:=h2
 rcases hf2 with ⟨_,hx⟩|⟨vb,cap2,cur2,hv2,hb2,hh2,hn2,hm2,hs2,ht2⟩
 ·omega
 have hA2:A2=some ⟨vb,0,none⟩:=by injection hv2
 subst hA2
 have hvb0:¬ P0_ vb:=hap vb (hok2 vb rfl)
 have hsz:k68.sz=3:=rfl
 rw [hsz] at hl2 hs2 ht2 hr2
 have h1v:=api_House_109.one hr2
 have hvs:∀ j v,inner2[j]?=some v→w.cell? ⟨vb,0+j,none⟩=some v:=by
  intro j v hj
  rw [Nat.zero_add,blk_cell hh2,← Array.getElem?_toList]
  rw [← ht2,List.getElem?_take] at hj
  split at hj
  ·exact hj
  ·cases hj
 have hrl:(l0.take i ++ l2 ++ l0.drop i).length=l0.length+l2.length:=by simp;omega
 have z1:∀ (z:Value) k,z.cells.size=3→(Builtin.zeroCells z.cells k).size=k * 3:=by intro z k hz;simp [Builtin.zeroCells,hz]
 have hmx:∀ c,grownCap w (l0.length+l2.length) c 68≤maxLen:=fun c=>grownCap_le_maxLen w _ c 68 (by unfold maxLen;omega)
 have hge:∀ c,l0.length+l2.length≤grownCap w (l0.length+l2.length) c 68:=fun c=>grownCap_ge w _ c 68
 have here:∀ (W:World) (o:Obj),(W.alloc o).heap[W.heap.size]?=some o:=by intro W o;show (W.heap.push o)[W.heap.size]?=some o;simp
 obtain ⟨hok,inner,⟨hl,hf⟩,hr⟩:=ho0
 rw [hsz] at hl hr
 have h1c:=api_House_109.one hr
 have hrr:∀ w' base' ok',Reps (k68.M w' base' ok') 3 (l0.take i ++ l2 ++ l0.drop i) (inner.take (i * 3) ++ inner2 ++ inner.drop (i * 3)):=by
  intro w' base' ok'
  exact Kd.reps_append (Kd.reps_append ((Kd.reps_take hr hi).imp_ (fun p c hp=>api_House_109.free hp)) (hr2.imp_ (fun p c hp=>api_House_109.free hp))) ((Kd.reps_drop hr).imp_ (fun p c hp=>api_House_109.free hp))
 -- what stands in a new block
 have fresh:∀ (W':World) (cur':Array Value) (c:Nat),W'.heap[w.heap.size]?=some (.cells cur' 68 (0,0))→cur'.size=grownCap w (l0.length+l2.length) c 68 * 3→cur'.toList.take ((l0.length+l2.length) * 3)=inner.take (i * 3) ++ inner2 ++ inner.drop (i * 3)→Below w.heap.size w W' →
   ∃ v0_:Value,(Ending.returned (.slice (some ⟨w.heap.size,0,none⟩) (l0.length+l2.length) (grownCap w (l0.length+l2.length) c 68)))=.returned v0_∧Kd.R k68 68 W' w0.heap.size (fun k_=>(P0_ k_∨w.heap.size≤k_)) v0_ (l0.take i ++ l2 ++ l0.drop i)∧Below w0.heap.size w0 W'∧Kept w W' (fun k_=>P0_ k_):=by
  intro W' cur' c k1 k2 k3 k4
  refine ⟨_,rfl,?_,below_then hB hB.size k4,Kept.of_below k4 _⟩
  have k5:=api_House_109.own (r:=l0.take i ++ l2 ++ l0.drop i) (base:=w0.heap.size) (ok:=fun k_=>(P0_ k_∨w.heap.size≤k_)) k1 hB.size (.inr (Nat.le_refl _)) (by rw [hrl];exact hge c) (hmx c) k2 (by rw [hrl,k3]) hrr
  rw [hrl] at k5
  exact k5
 have hsrc:Src Try.prog i0.size 22 (.slice (some ⟨vb,0,none⟩) l2.length c2) l2.length inner2 w:=by
  rw [hzs]
  exact Src.ofSlice w hK ⟨vb,0,none⟩ l2.length c2 inner2 hl2 (fun j u hj=>by rw [Addr.add_lit];exact hvs j u hj) h1v
 have hm0:¬ ((l2.length:Int)=0):=by omega
 have endgrow:∀ (base:Option Addr) (cp:Nat),i=l0.length→cp<l0.length+l2.length→l0.length≤cp→(base=none→l0.length=0)→(∀ a,base=some a→a.spot=none∧∀ j v,inner[j]?=some v→w.cell? (a.add j)=some v)→Calls Try.prog 109 #[.slice base l0.length cp,.int .i64 (i:Int),.slice (some ⟨vb,0,none⟩) l2.length c2] w fun e w'=>∃ v0_:Value,e=.returned (v0_)∧Kd.R k68 68 w' w0.heap.size (fun k_=>(P0_ k_∨w.heap.size≤k_)) v0_ (l0.take i ++ l2 ++ l0.drop i)∧Below w0.heap.size w0 w'∧Kept w w' (fun k_=>P0_ k_):=by
  intro base cp e0 q1 q2 q3 q4
  have hold:(Builtin.firstCells i0.size l0.length (.slice base l0.length cp)).run Try.prog w.drew=.ok inner.toArray w.drew:=by
   rw [hzs]
   cases base with
   | none =>
    have h0:=q3 rfl
    have:inner=[]:=List.length_eq_zero_iff.1 (by omega)
    rw [this,h0]
    exact run_firstCells_none w.drew 3 0 0 cp
   | some a=>exact run_firstCells_some w.drew 3 l0.length a l0.length cp inner (by omega) (fun j v hj=>(q4 a rfl).2 j v hj)
  have hrun:∀ ty,(Builtin.append_ #[22,22] ty #[.slice base l0.length cp,.slice (some ⟨vb,0,none⟩) l2.length c2]).run Try.prog w=_:=fun ty =>
   run_append_grow_src w 22 22 ty 68 i0 _ hK hi0 hz0 base l0.length cp inner hold _ l2.length inner2 hsrc (by omega) (by omega) (by rw [hzb];exact growslice_fits (by omega) hbig)
  have fin:∃ v0_:Value,(Ending.returned (.slice (some ⟨w.heap.size,0,none⟩) (l0.length+l2.length) (grownCap w (l0.length+l2.length) cp 68)))=.returned v0_∧Kd.R k68 68 (w.drew.alloc (.cells ((inner ++ inner2).toArray ++ Builtin.zeroCells (.agg #[.int .i64 0,.int .i64 0,.int .i64 0]:Value).cells (grownCap w (l0.length+l2.length) cp 68 - (l0.length+l2.length))) 68)) w0.heap.size (fun k_=>(P0_ k_∨w.heap.size≤k_)) v0_ (l0.take i ++ l2 ++ l0.drop i)∧Below w0.heap.size w0 (w.drew.alloc (.cells ((inner ++ inner2).toArray ++ Builtin.zeroCells (.agg #[.int .i64 0,.int .i64 0,.int .i64 0]:Value).cells (grownCap w (l0.length+l2.length) cp 68 - (l0.length+l2.length))) 68))∧Kept w (w.drew.alloc (.cells ((inner ++ inner2).toArray ++ Builtin.zeroCells (.agg #[.int .i64 0,.int .i64 0,.int .i64 0]:Value).cells (grownCap w (l0.length+l2.length) cp 68 - (l0.length+l2.length))) 68)) (fun k_=>P0_ k_):=by
   refine fresh _ _ cp (here w.drew _) ?_ ?_ (below_alloc (below_drew (Below.refl _ _)) _)
   ·have:=hge cp
    rw [Array.size_append,z1 _ _ rfl];simp [hl,hl2];omega
   ·rw [Array.toList_append,List.take_append_of_le_length (by simp;omega)]
    rw [List.take_of_length_le (by simp;omega),List.take_of_length_le (by omega),List.drop_of_length_le (by omega)]
    simp
  generalize (w.drew.alloc (.cells ((inner ++ inner2).toArray ++ Builtin.zeroCells (.agg #[.int .i64 0,.int .i64 0,.int .i64 0]:Value).cells (grownCap w (l0.length+l2.length) cp 68 - (l0.length+l2.length))) 68))=W2 at fin hrun
  generalize grownCap w (l0.length+l2.length) cp 68=G at fin hrun
  subst e0
  clear hr hr2 hrr h1c h1v hvs fresh hge hmx hold hrl
  obtain ⟨v_,f1,f2⟩:=fin
  injection f1 with f1
  subst f1
  generalize (l0.take l0.length ++ l2 ++ l0.drop l0.length)=RR at f2 ⊢
  go_enter Try.func109,Try.ntmps109
  cases base with
  | none =>
   have h0:=q3 rfl
   simp only [h0,Nat.zero_add] at *
   go_wp2_with (at_builtin;refine Lib.wpList_append_run _ rfl _ _ _ _ rfl _ _ rfl rfl _ _ (hrun _) ?_)
   go_ret
   exact ⟨_,rfl,f2⟩
  | some a =>
   obtain ⟨ab,ao,asp⟩:=a
   go_wp2_with (at_builtin;refine Lib.wpList_append_run _ rfl _ _ _ _ rfl _ _ rfl rfl _ _ (hrun _) ?_)
   all_goals (go_ret;exact ⟨_,rfl,f2⟩)
 rcases hf with ⟨hv,hx⟩|⟨g,cap,cur,hv,hb,hh,hn,hmc,hs,ht⟩
 ·subst hv
  have e0:l0.length=0:=hx
  have:=endgrow none 0 (by omega) (by omega) (by omega) (fun _=>e0) (fun a ha=>by cases ha)
  rw [e0] at this
  exact this
 subst hv
 rw [hsz] at hs ht
 have hcs:∀ j v,inner[j]?=some v→w.cell? ⟨g,j,none⟩=some v:=by
  intro j v hj
  rw [blk_cell hh,← Array.getElem?_toList]
  rw [← ht,List.getElem?_take] at hj
  split at hj
  ·exact hj
  ·cases hj
 have hP:P0_ g:=hok g rfl
 have hfr:∀ j,w.frozen? ⟨g,j,none⟩=false:=fun j=>blk_frozen hh j
 have hso:∀ j,j<cap * 3→(w.cell? ⟨g,j,none⟩).isSome=true:=fun j hj=>by rw [blk_cell hh,Array.getElem?_eq_getElem (by omega)];rfl
 -- what stands in the block's own place
 have inplace:∀ (W':World) (cur':Array Value),W'.heap[g]?=some (.cells cur' 68 (0,0))→cur'.size=cap * 3→cur'.toList.take ((l0.length+l2.length) * 3)=inner.take (i * 3) ++ inner2 ++ inner.drop (i * 3)→l0.length+l2.length≤cap→Below w0.heap.size w0 W'→Kept w W' (fun k_=>P0_ k_) →
   ∃ v0_:Value,(Ending.returned (.slice (some ⟨g,0,none⟩) (l0.length+l2.length) cap))=.returned v0_∧Kd.R k68 68 W' w0.heap.size (fun k_=>(P0_ k_∨w.heap.size≤k_)) v0_ (l0.take i ++ l2 ++ l0.drop i)∧Below w0.heap.size w0 W'∧Kept w W' (fun k_=>P0_ k_):=by
  intro W' cur' k1 k2 k3 k4 k5 k6
  refine ⟨_,rfl,?_,k5,k6⟩
  have k7:=api_House_109.own (r:=l0.take i ++ l2 ++ l0.drop i) (base:=w0.heap.size) (ok:=fun k_=>(P0_ k_∨w.heap.size≤k_)) k1 hb (.inl hP) (by rw [hrl];exact k4) hmc k2 (by rw [hrl,k3]) hrr
  rw [hrl] at k7
  exact k7
 have keepC:∀ (vs:List Value) (o:Nat) (W:World),Kept w W (fun k_=>P0_ k_)→Kept w (W.setCells g o vs) (fun k_=>P0_ k_):=fun vs o W hW =>
  ⟨by obtain ⟨_,_,_,q4⟩:=setCells_same g vs o W;rw [q4];exact hW.1,fun k hk hp=>(setCells_far vs o k (fun e=>hp (by rw [e];exact hP))).trans (hW.2 k hk hp)⟩
 by_cases hroom:l0.length+l2.length≤cap
 ·by_cases e0:i=l0.length
  ·subst e0
   have hrun:∀ ty,(Builtin.append_ #[22,22] ty #[.slice (some ⟨g,0,none⟩) l0.length cap,.slice (some ⟨vb,0,none⟩) l2.length c2]).run Try.prog w=.ok (.slice (some ⟨g,0,none⟩) (l0.length+l2.length) cap) (w.setCells g (l0.length * 3) inner2):=fun ty=>by
    have:=run_append_room_cells (P:=Try.prog) w 22 ty 68 i0 hK hi0 g 0 l0.length cap ⟨vb,0,none⟩ l2.length c2 inner2 (by rw [hzs];exact hl2) (fun j v hj=>by rw [Addr.add_lit];exact hvs j v hj) h1v hroom (fun j hj=>by rw [hzs,Nat.zero_add];exact hso _ (by omega)) (fun j hj=>hfr _)
    rw [hzs,Nat.zero_add] at this
    exact this
   obtain ⟨d1,p1,p2,p3⟩:=setCells_row (g:=g) (e:=68) inner2 (l0.length * 3) w cur hh (by omega)
   have fin:=inplace (w.setCells g (l0.length * 3) inner2) d1 p1 (by rw [p2];exact hs) (by
    rw [p3,show (l0.length+l2.length) * 3=(cur.toList.take (l0.length * 3) ++ inner2).length by rw [List.length_append,List.length_take,hl2];have:cur.toList.length=cur.size:=Array.length_toList;omega,List.take_left' rfl,ht,List.drop_of_length_le (by omega),List.take_of_length_le (by omega)]
    simp) hroom (api_House_109.below _ hB hb) (keepC _ _ _ (Kept.refl w _))
   clear p1 p2 p3
   generalize w.setCells g (l0.length * 3) inner2=W2 at fin hrun
   obtain ⟨v_,f1,f2⟩:=fin
   injection f1 with f1
   subst f1
   generalize (l0.take l0.length ++ l2 ++ l0.drop l0.length)=RR at f2 ⊢
   clear hr hr2 hrr h1c h1v hvs fresh hge hmx hrl inplace keepC endgrow hcs
   go_enter Try.func109,Try.ntmps109
   go_wp2_with (at_builtin;refine Lib.wpList_append_run _ rfl _ _ _ _ rfl _ _ rfl rfl _ _ (hrun _) ?_)
   go_ret
   exact ⟨_,rfl,f2⟩
  ·have hin:i<l0.length:=by omega
   have hne:vb≠g:=fun he=>hvb0 (by rw [he];exact hP)
   have hsz3:(Try.prog.info? 68).map (·.size)=some 3:=by rw [hi0];simp [hzs]
   have z68:∀ w,(Go.sizeOf 68).run Try.prog w=.ok 3 w:=fun w=>by kernel_rfl
   have hov:∀ lb cb,(callFunc 120 #[.slice (some ⟨vb,0,none⟩) l2.length c2,.slice (some ⟨g,(i+l2.length) * 3,none⟩) lb cb]).run Try.prog w=.ok (.value (.bool false)) w:=fun lb cb=>by
    rw [run_callFunc_extern Try.func120 (by kernel_rfl) (by kernel_rfl) (by kernel_rfl) (e:=Extern.SlicesOverlaps.overlaps #[22,22] #[4]) (by kernel_rfl),
     Lib.run_overlaps_apart w 22 4 68 hK 3 z68 ⟨vb,0,none⟩ ⟨g,(i+l2.length) * 3,none⟩ l2.length c2 lb cb hne 68 68 cur2.size cur.size (by simp [World.shape?,hh2]) (by simp [World.shape?,hh]) (by omega) (blk_frozen hh2 _) (blk_frozen hh2 _)]
    rfl
   have hdl:(inner.drop (i * 3)).length=(l0.length - i) * 3:=by rw [List.length_drop];omega
   have mB:Nat.min (l0.length+l2.length - i) (l0.length+l2.length - (i+l2.length))=l0.length - i:=by simp only [Nat.min_def];split <;> omega
   have mA:Nat.min l2.length (l0.length+l2.length - i)=l2.length:=by simp only [Nat.min_def];split <;> omega
   have hcp1:∀ ty dc sc,(Builtin.copy_ #[22,22] ty #[.slice (some ⟨g,(i+l2.length) * 3,none⟩) (l0.length+l2.length - (i+l2.length)) dc,.slice (some ⟨g,i * 3,none⟩) (l0.length+l2.length - i) sc]).run Try.prog w.drew=.ok (goInt ((l0.length - i:Nat):Int)) (w.drew.setCells g ((i+l2.length) * 3) (inner.drop (i * 3))):=fun ty dc sc=>by
    have:=api_House_109.copyN (P:=Try.prog) w.drew 22 22 ty 68 g ((i+l2.length) * 3) (l0.length+l2.length - (i+l2.length)) dc ⟨g,i * 3,none⟩ (l0.length+l2.length - i) sc 3 (inner.drop (i * 3)) hK hsz3 (by rw [mB];exact hdl)
     (fun j v hj=>by rw [Addr.add_lit];exact hcs (i * 3+j) v (by rwa [List.getElem?_drop] at hj))
     (fun j hj=>hso _ (by omega)) (fun j hj=>hfr _) (fun v hv=>h1c v (List.mem_of_mem_drop hv))
    rw [mB] at this
    exact this
   obtain ⟨W1,hW1⟩:∃ W1,W1=w.drew.setCells g ((i+l2.length) * 3) (inner.drop (i * 3)):=⟨_,rfl⟩
   have hsp1:∀ k,k<cap * 3→(W1.cell? ⟨g,k,none⟩).isSome=true:=fun k hk=>by
    rw [hW1]
    exact isSome_setCells g (inner.drop (i * 3)) ((i+l2.length) * 3) w.drew (fun j hj=>hso _ (by rw [hdl] at hj;omega)) k (hso k hk)
   have hcp2:∀ (W:World),(∀ x,W.cell? x=W1.cell? x)→(∀ x,W.frozen? x=W1.frozen? x)→∀ ty dc,(Builtin.copy_ #[22,22] ty #[.slice (some ⟨g,i * 3,none⟩) (l0.length+l2.length - i) dc,.slice (some ⟨vb,0,none⟩) l2.length c2]).run Try.prog W=.ok (goInt (l2.length:Nat)) (W.setCells g (i * 3) inner2):=fun W hWc hWf ty dc=>by
    have:=api_House_109.copyN (P:=Try.prog) W 22 22 ty 68 g (i * 3) (l0.length+l2.length - i) dc ⟨vb,0,none⟩ l2.length c2 3 inner2 hK hsz3 (by rw [mA];exact hl2)
     (fun j v hj=>by
      rw [Addr.add_lit,hWc,hW1,World.cell?_setCells_out g _ _ _ _ (fun h _=>absurd h hne)]
      exact hvs j v hj)
     (fun j hj=>by rw [hWc];exact hsp1 _ (by omega)) (fun j hj=>by rw [hWf,hW1,World.frozen?_setCells];exact hfr _) h1v
    rw [mA] at this
    exact this
   rw [← hW1] at hcp1
   obtain ⟨d1,p1,p2,p3⟩:=setCells_row (g:=g) (e:=68) (inner.drop (i * 3)) ((i+l2.length) * 3) w.drew cur hh (by omega)
   obtain ⟨d2,q1,q2,q3⟩:=setCells_row (g:=g) (e:=68) inner2 (i * 3) (w.drew.setCells g ((i+l2.length) * 3) (inner.drop (i * 3))) d1 p1 (by omega)
   have fin:=inplace ((w.drew.setCells g ((i+l2.length) * 3) (inner.drop (i * 3))).setCells g (i * 3) inner2) d2 q1 (by omega) (by
    have e1:cur.toList.length=cur.size:=Array.length_toList
    have h5:=api_House_109.two2 cur.toList inner2 (inner.drop (i * 3)) (i * 3) (l2.length * 3) hl2 (by omega)
    rw [q3,p3,show (l0.length+l2.length) * 3=i * 3+l2.length * 3+(inner.drop (i * 3)).length by omega,show (i+l2.length) * 3=i * 3+l2.length * 3 by omega]
    have e2:cur.toList.take (i * 3)=inner.take (i * 3):=by rw [← ht,List.take_take,Nat.min_eq_left (by omega)]
    rw [← e2]
    exact h5) hroom (api_House_109.below _ (api_House_109.below _ (below_drew hB) hb) hb) (keepC _ _ _ (keepC _ _ _ (Kept.refl w _).drew))
   rw [← hW1] at fin
   clear p1 p2 p3 q1 q2 q3
   generalize (l0.take i ++ l2 ++ l0.drop i)=RR at fin ⊢
   obtain ⟨v_,f1,f2⟩:=fin
   injection f1 with f1
   subst f1
   have hz2:¬ ((i:Int)=(l0.length:Int)):=by omega
   have hz3:¬ ((cap:Int)<(l0.length:Int)+(l2.length:Int)):=by omega
   have hw1:IntKind.i64.wrap ((i:Int)+(l2.length:Int))=(i:Int)+(l2.length:Int):=by rw [IntKind.wrap_i64];omega
   have hb1:(0:Int)≤(i:Int)+(l2.length:Int):=by omega
   have htn:((i:Int)+(l2.length:Int)).toNat=i+l2.length:=by omega
   have hb2:¬ (cap=i+l2.length):=by omega
   have hb3:(i:Int)≤(l0.length:Int)+(l2.length:Int):=by omega
   have hb4:¬ (cap=i):=by omega
   clear hr hr2 hrr h1c h1v hvs fresh hge hmx hrl inplace keepC endgrow hcs hso hsp1 here z1 hsrc hh hh2 ht ht2
   go_enter Try.func109,Try.ntmps109
   go_wp2_with (simp only [hov])
   go_region_law_o (refine step_copy_runI rfl _ _ 22 22 rfl (.slice (some ⟨g,(i+l2.length) * 3,none⟩) (l0.length+l2.length - (i+l2.length)) (cap - (i+l2.length))) (.slice (some ⟨g,i * 3,none⟩) (l0.length+l2.length - i) (cap - i)) (by simp [Act.eval,Act.put]) (by simp [Act.eval,Act.put]) (hcp1 3 (cap - (i+l2.length)) (cap - i)) ?_)
   go_wp2_with (at_builtin;refine wpList_copy_runI _ rfl _ _ 22 22 rfl _ _ rfl rfl (hcp2 _ (fun _=>rfl) (fun _=>rfl) _ _) ?_)
   go_ret
   exact ⟨_,rfl,by rw [hW1] at f2;exact f2⟩
 by_cases e0:i=l0.length
 ·exact endgrow (some ⟨g,0,none⟩) cap e0 (by omega) hn (fun h=>by cases h) (fun a ha=>by
   have ha':a=⟨g,0,none⟩:=by injection ha with h;exact h.symm
   rw [ha']
   exact ⟨rfl,fun j v hj=>by rw [Addr.add_lit,Nat.zero_add];exact hcs j v hj⟩)
 have hin:i<l0.length:=by omega
 have hbw:g<w.heap.size:=blk_lt hh
 have hvw:vb<w.heap.size:=blk_lt hh2
 have hbN:g≠w.heap.size:=by omega
 have hkk:(l0.length:Int)+(l2.length:Int) - (i:Int)=((l0.length+l2.length - i:Nat):Int):=by omega
 have hik:i+(l0.length+l2.length - i)=l0.length+l2.length:=by omega
 have hold:(Builtin.firstCells i0.size i (.slice (some ⟨g,0,none⟩) i cap)).run Try.prog w.drew=.ok (inner.take (i * 3)).toArray w.drew:=by
  rw [hzs]
  exact run_firstCells_some w.drew 3 i ⟨g,0,none⟩ i cap (inner.take (i * 3)) (by rw [List.length_take];omega) (fun j v hj=>by
   rw [Addr.add_lit,Nat.zero_add]
   rw [List.getElem?_take] at hj
   split at hj
   ·exact hcs j v hj
   ·cases hj)
 have hrz:∀ ty,(Builtin.append_ #[22,3] ty #[.slice (some ⟨g,0,none⟩) i cap,.int .i64 ((l0.length:Int)+(l2.length:Int) - (i:Int))]).run Try.prog w =
   .ok (.slice (some ⟨w.heap.size,0,none⟩) (l0.length+l2.length) (grownCap w (l0.length+l2.length) cap 68)) (w.drew.alloc (.cells ((inner.take (i * 3)).toArray ++ Builtin.zeroCells (.agg #[.int .i64 0,.int .i64 0,.int .i64 0]:Value).cells (l0.length+l2.length - i) ++ Builtin.zeroCells (.agg #[.int .i64 0,.int .i64 0,.int .i64 0]:Value).cells (grownCap w (l0.length+l2.length) cap 68 - (l0.length+l2.length))) 68)):=fun ty=>by
  have h:=Lib.run_append_grow_zeros w 22 3 ty 68 i0 _ .i64 .i64 hK Try.underlying3 hi0 hz0 (some ⟨g,0,none⟩) i cap (inner.take (i * 3)) hold (l0.length+l2.length - i) (by omega) (by omega) (by omega) (by omega) (by rw [hzb];omega) (by rw [hzb,hik];exact growslice_fits (by omega) hbig)
  rw [hik] at h
  rw [hkk]
  exact h
 have hGn:=hge cap
 have hG63:grownCap w (l0.length+l2.length) cap 68≤9223372036854775807:=by
  have:=hmx cap
  unfold maxLen at this
  exact this
 obtain ⟨ROW,hROW⟩:∃ ROW:Array Value,ROW=(inner.take (i * 3)).toArray ++ Builtin.zeroCells (.agg #[.int .i64 0,.int .i64 0,.int .i64 0]:Value).cells (l0.length+l2.length - i) ++ Builtin.zeroCells (.agg #[.int .i64 0,.int .i64 0,.int .i64 0]:Value).cells (grownCap w (l0.length+l2.length) cap 68 - (l0.length+l2.length)):=⟨_,rfl⟩
 rw [← hROW] at hrz
 have hRs:ROW.size=grownCap w (l0.length+l2.length) cap 68 * 3:=by
  rw [hROW,Array.size_append,Array.size_append,z1 _ _ rfl,z1 _ _ rfl];simp [hl];omega
 have hRt:ROW.toList.take (i * 3)=inner.take (i * 3):=by
  rw [hROW,Array.toList_append,Array.toList_append,List.append_assoc,List.take_left' (by simp;omega)]
 obtain ⟨G,hG⟩:∃ G,G=grownCap w (l0.length+l2.length) cap 68:=⟨_,rfl⟩
 rw [← hG] at hrz hGn hG63 hRs
 obtain ⟨W1,hW1⟩:∃ W1,W1=w.drew.alloc (.cells ROW 68):=⟨_,rfl⟩
 rw [← hW1] at hrz
 have hN:∀ j,j<(l0.length+l2.length) * 3→(W1.cell? ⟨w.heap.size,j,none⟩).isSome=true:=fun j hj=>by
  rw [hW1,World.cell?_alloc_at (w:=w.drew) ROW _ w.heap.size j rfl,Array.getElem?_eq_getElem (by omega)];rfl
 have hNf:∀ j,W1.frozen? ⟨w.heap.size,j,none⟩=false:=fun j=>by rw [hW1];exact World.frozen?_alloc_at (w:=w.drew) ROW _ w.heap.size j rfl
 have hOb:∀ j v,w.cell? ⟨g,j,none⟩=some v→W1.cell? ⟨g,j,none⟩=some v:=fun j v h=>by rw [hW1,World.cell?_alloc_past (w:=w.drew) _ g j hbw];exact h
 have hOv:∀ j v,w.cell? ⟨vb,j,none⟩=some v→W1.cell? ⟨vb,j,none⟩=some v:=fun j v h=>by rw [hW1,World.cell?_alloc_past (w:=w.drew) _ vb j hvw];exact h
 have hsz3:(Try.prog.info? 68).map (·.size)=some 3:=by rw [hi0];simp [hzs]
 have mA:Nat.min l2.length (l0.length+l2.length - i)=l2.length:=by simp only [Nat.min_def];split <;> omega
 have mB:Nat.min (l0.length - i) (l0.length+l2.length - (i+l2.length))=l0.length - i:=by simp only [Nat.min_def];split <;> omega
 have hdl:(inner.drop (i * 3)).length=(l0.length - i) * 3:=by rw [List.length_drop];omega
 have hcpA:∀ (W:World),(∀ x,W.cell? x=W1.cell? x)→(∀ x,W.frozen? x=W1.frozen? x)→∀ ty dc,(Builtin.copy_ #[22,22] ty #[.slice (some ⟨w.heap.size,i * 3,none⟩) (l0.length+l2.length - i) dc,.slice (some ⟨vb,0,none⟩) l2.length c2]).run Try.prog W=.ok (goInt (l2.length:Nat)) (W.setCells w.heap.size (i * 3) inner2):=fun W hWc hWf ty dc=>by
  have:=api_House_109.copyN (P:=Try.prog) W 22 22 ty 68 w.heap.size (i * 3) (l0.length+l2.length - i) dc ⟨vb,0,none⟩ l2.length c2 3 inner2 hK hsz3 (by rw [mA];exact hl2)
   (fun j v hj=>by rw [Addr.add_lit,hWc];exact hOv _ v (hvs j v hj))
   (fun j hj=>by rw [hWc];exact hN _ (by omega)) (fun j hj=>by rw [hWf];exact hNf _) h1v
  rw [mA] at this
  exact this
 have hcpB:∀ (W:World),(∀ x,W.cell? x=(W1.setCells w.heap.size (i * 3) inner2).cell? x)→(∀ x,W.frozen? x=(W1.setCells w.heap.size (i * 3) inner2).frozen? x)→∀ ty dc sc,(Builtin.copy_ #[22,22] ty #[.slice (some ⟨w.heap.size,(i+l2.length) * 3,none⟩) (l0.length+l2.length - (i+l2.length)) dc,.slice (some ⟨g,i * 3,none⟩) (l0.length - i) sc]).run Try.prog W=.ok (goInt ((l0.length - i:Nat):Int)) (W.setCells w.heap.size ((i+l2.length) * 3) (inner.drop (i * 3))):=fun W hWc hWf ty dc sc=>by
  have:=api_House_109.copyN (P:=Try.prog) W 22 22 ty 68 w.heap.size ((i+l2.length) * 3) (l0.length+l2.length - (i+l2.length)) dc ⟨g,i * 3,none⟩ (l0.length - i) sc 3 (inner.drop (i * 3)) hK hsz3 (by rw [mB];exact hdl)
   (fun j v hj=>by
    rw [Addr.add_lit,hWc,World.cell?_setCells_out _ _ _ _ _ (fun h _=>absurd h hbN)]
    exact hOb _ v (hcs (i * 3+j) v (by rwa [List.getElem?_drop] at hj)))
   (fun j hj=>by rw [hWc];exact isSome_setCells _ _ _ _ (fun t ht=>hN _ (by omega)) _ (hN _ (by omega)))
   (fun j hj=>by rw [hWf,World.frozen?_setCells];exact hNf _) (fun v hv=>h1c v (List.mem_of_mem_drop hv))
  rw [mB] at this
  exact this
 have fin:∃ v0_:Value,(Ending.returned (.slice (some ⟨w.heap.size,0,none⟩) (l0.length+l2.length) G))=.returned v0_∧Kd.R k68 68 ((((w.alloc (.cells ROW 68)).drew.setCells w.heap.size (i * 3) inner2).drew).setCells w.heap.size ((i+l2.length) * 3) (inner.drop (i * 3))) w0.heap.size (fun k_=>(P0_ k_∨w.heap.size≤k_)) v0_ (l0.take i ++ l2 ++ l0.drop i)∧Below w0.heap.size w0 ((((w.alloc (.cells ROW 68)).drew.setCells w.heap.size (i * 3) inner2).drew).setCells w.heap.size ((i+l2.length) * 3) (inner.drop (i * 3)))∧Kept w ((((w.alloc (.cells ROW 68)).drew.setCells w.heap.size (i * 3) inner2).drew).setCells w.heap.size ((i+l2.length) * 3) (inner.drop (i * 3))) (fun k_=>P0_ k_):=by
  have hA:=here w (.cells ROW 68 (0,0))
  obtain ⟨d1,p1,p2,p3⟩:=setCells_row (g:=w.heap.size) (e:=68) inner2 (i * 3) (w.alloc (.cells ROW 68 (0,0))).drew ROW hA (by omega)
  obtain ⟨d2,q1,q2,q3⟩:=setCells_row (g:=w.heap.size) (e:=68) (inner.drop (i * 3)) ((i+l2.length) * 3) ((w.alloc (.cells ROW 68 (0,0))).drew.setCells w.heap.size (i * 3) inner2).drew d1 p1 (by rw [hdl,p2];omega)
  rw [hG]
  refine fresh _ d2 cap q1 (by rw [q2,p2,hRs,hG]) ?_ (api_House_109.below _ (below_drew (api_House_109.below _ (below_drew (below_alloc (Below.refl _ _) _)) (Nat.le_refl _))) (Nat.le_refl _))
  have e1:ROW.toList.length=ROW.size:=Array.length_toList
  have:=api_House_109.two1 ROW.toList inner2 (inner.drop (i * 3)) (i * 3) (l2.length * 3) hl2 (by rw [hdl,e1];omega)
  rw [q3,p3,show (l0.length+l2.length) * 3=i * 3+l2.length * 3+(inner.drop (i * 3)).length by rw [hdl];omega,show (i+l2.length) * 3=i * 3+l2.length * 3 by omega,← hRt]
  exact this
 generalize (l0.take i ++ l2 ++ l0.drop i)=RR at fin ⊢
 obtain ⟨v_,f1,f2⟩:=fin
 injection f1 with f1
 subst f1
 have hE1:∀ x,((w.alloc (.cells ROW 68)).drew).cell? x=W1.cell? x:=fun x=>by rw [hW1];rfl
 have hE2:∀ x,((w.alloc (.cells ROW 68)).drew).frozen? x=W1.frozen? x:=fun x=>by rw [hW1];rfl
 have hF1:∀ x,(((w.alloc (.cells ROW 68)).drew.setCells w.heap.size (i * 3) inner2).drew).cell? x=(W1.setCells w.heap.size (i * 3) inner2).cell? x:=fun x=>by rw [hW1];rfl
 have hF2:∀ x,(((w.alloc (.cells ROW 68)).drew.setCells w.heap.size (i * 3) inner2).drew).frozen? x=(W1.setCells w.heap.size (i * 3) inner2).frozen? x:=fun x=>by rw [hW1];rfl
 have hz2:¬ ((i:Int)=(l0.length:Int)):=by omega
 have hz3:(cap:Int)<(l0.length:Int)+(l2.length:Int):=by omega
 have hGi:¬ (G=i):=by omega
 have hGim:¬ (G=i+l2.length):=by omega
 have hci:¬ (cap=i):=by omega
 have hw1:IntKind.i64.wrap ((i:Int)+(l2.length:Int))=(i:Int)+(l2.length:Int):=by rw [IntKind.wrap_i64];omega
 have hb1:(0:Int)≤(i:Int)+(l2.length:Int):=by omega
 have htn:((i:Int)+(l2.length:Int)).toNat=i+l2.length:=by omega
 have hb3:(i:Int)≤(l0.length:Int):=by omega
 have hb4:(i:Int)≤(cap:Int):=by omega
 subst hW1
 clear inplace keepC hso hfr hkk hik hold hROW hG hRs hRt endgrow fresh hge hmx hr hr2 hrr h1c h1v hvs hcs hN hNf hOb hOv here z1 hrl hsrc hh hh2 ht ht2 hdl mA mB
 go_enter Try.func109,Try.ntmps109
 go_wp2_with (first
  | (at_builtin;refine Lib.wpList_append_run _ rfl _ _ _ _ rfl _ _ rfl rfl _ _ (hrz _) ?_)
  | (at_builtin;refine wpList_copy_runI _ rfl _ _ 22 22 rfl _ _ rfl rfl (hcpA _ hE1 hE2 _ _) ?_)
  | (at_builtin;refine wpList_copy_runI _ rfl _ _ 22 22 rfl _ _ rfl rfl (hcpB _ (fun _=>rfl) (fun _=>rfl) _ _ _) ?_))
 go_region_law_o (refine step_copy_runI rfl _ _ 22 22 rfl (.slice (some ⟨w.heap.size,(i+l2.length) * 3,none⟩) (l0.length+l2.length - (i+l2.length)) (G - (i+l2.length))) (.slice (some ⟨g,i * 3,none⟩) (l0.length - i) (cap - i)) (by simp [Act.eval,Act.put]) (by simp [Act.eval,Act.put]) (hcpB _ hF1 hF2 3 (G - (i+l2.length)) (cap - i)) ?_)
 go_wp2
 go_ret
 exact ⟨_,rfl,f2⟩


end Go.Proofs.Ytbdijpjlgokfkaa.P

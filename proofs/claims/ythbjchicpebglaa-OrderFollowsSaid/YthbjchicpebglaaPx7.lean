/- Functions of this seat as plain Lean functions, with proofs that the Go code comes to just their answers, or what stands between them and a law's statement; no conditions. (Laid by a program of this session, out of the kit's print.) -/
import Derived.Test.YthbjchicpebglaaPx0
namespace Go.Proofs.Ythbjchicpebglaa.P
open Go.RowKit Go.Proofs.YthbjchicpebglaaW.PrintWords Go.Proofs.YthbjchicpebglaaW.PrintLast Go.Proofs.YthbjchicpebglaaW.PrintMore
attribute [local go_sem] max2_int min2_int max_two min_two max_three min_three max_four min_four   -- for this text's walks alone
set_option linter.unusedVariables false
set_option linter.unusedSimpArgs false

-- plug-in
/-! ### order_copied: function 48 -/
def order_copied.f (l0 : List (S33)) : Option (List (S33)) := if l0.length < 1954687338268 then some l0 else none
/-- copy(v, ys), v a row of one's own that is as long, of elements of any kind: its cells are ys' then. -/
theorem order_copied.copyK {P : Program} {ops : Array Oper} {rest : List Oper} {o : Oper} {a : Act} {Q : Exit → Act → World → Prop} {α : Type} (d : Kd α) {w0 W : World} (base : Nat) (hgd : o.guard = none) (s x : Operand) (t t' e : TypeId)
  (ho : o.op = .call { callee:=.builtin .copy,args:=#[s,x],argTypes:=#[t,t'] }) (ht : P.underlying t = some (.slice e)) (hinfo : (P.info? e).map (·.size) = some d.sz) (hs0 : 0 < d.sz)
  (v : Value) (xs ys : List α) (A : Option Addr) (m c : Nat) (ok okp : Nat → Prop) (hs : a.eval s = v) (hx : a.eval x = .slice A m c)
  (HO : d.R e W base ok v xs) (HR : d.C W A m ys) (hKM : ∀ x cs,d.K W x cs → d.M W base okp x cs) (hokp : ∀ k,okp k → ok k ∧ some k ≠ v.ownBlock) (hm : m = xs.length) (HB : Below base w0 W) (hbase : base ≤ W.heap.size)
  (h : ∀ w1,d.R e w1 base ok v ys → Below base w0 w1 → W.grownBy w1 v.ownBlock → wpList P ops Q rest (a.put o.dst (.int .i64 ((m : Nat) : Int))) w1) :
  wpList P ops Q (o :: rest) a W:=by
 obtain ⟨i0,hi,hz⟩:=Option.map_eq_some_iff.1 hinfo
 have hml : ys.length = m:=HR.1
 obtain ⟨hok,inner,hown,hr⟩:=HO
 have hrun : ∃ w1,(Builtin.copy_ #[t,t'] o.type #[v,.slice A m c]).run P W = .ok (goInt ((m : Nat) : Int)) w1 ∧ d.R e w1 base ok v ys ∧ W.grownBy w1 v.ownBlock:=by
  rcases Nat.eq_zero_or_pos m with h0|hp
  ·obtain ⟨A',c',hv⟩:=own_slice hown
   have hxs : xs = []:=List.eq_nil_of_length_eq_zero (by omega)
   have hys : ys = []:=List.eq_nil_of_length_eq_zero (by omega)
   refine ⟨W,?_,by subst hys;subst hxs;exact ⟨hok,inner,hown,hr⟩,World.grownBy.refl W _⟩
   have hl : ∀ (x : Addr),(loadCells x 0).run P W = .ok #[] W:=fun x => by simpa using run_loadCells_list (P:=P) W x [] (by simp)
   subst h0
   rw [hv]
   cases A' <;> cases A <;> simp [Builtin.copy_,run_underlying ht,Builtin.lenOf,Builtin.firstCells,sizeOf,typeInfo,hi,storeCells,hl]
  ·obtain ⟨ad,hA,_⟩:=HR.2.2 hp
   subst hA
   obtain ⟨news,hnr,hnc⟩:=ReadsRow.inner_ HR
   have hnM : Reps (d.M W base okp) d.sz ys news:=hnr.imp_ (fun p c hp => hKM p c hp)
   have hone : ∀ u ∈ news,u.oneCell' = true:=by
    intro u hu
    obtain ⟨q,hq,rfl⟩:=List.mem_iff_getElem.1 hu
    have hql : q / d.sz < ys.length:=by
     rw [Nat.div_lt_iff_lt_mul hs0]
     rw [← hnM.1]
     exact hq
    have hc:=hnM.2 (q / d.sz) _ (List.getElem?_eq_getElem hql)
    refine d.K_one (d.K_of_M hc) _ ?_
    rw [List.mem_iff_getElem?]
    refine ⟨q % d.sz,?_⟩
    rw [List.getElem?_take,if_pos (Nat.mod_lt _ hs0),List.getElem?_drop,Nat.mul_comm,Nat.div_add_mod,List.getElem?_eq_getElem hq]
   have hnl : news.length = m * d.sz:=by rw [hnM.1,hml]
   rcases hown.2 with ⟨_,hx0⟩|⟨g,cap,cur,hv,hb,hh,hncap,hcm,hcs,htake⟩
   ·omega
   have hfit : news.length ≤ cur.size:=by rw [hnl,hcs];exact Nat.mul_le_mul_right _ (by omega)
   have hl:=run_loadCells_list (P:=P) W ad news hnc
   have hst:=run_storeCells_cells (P:=P) g 0 news 0 W (fun j hj => by rw [cell_of_row W g _ cur e (0,0) hh];simp;omega) (fun j _ => blk_frozen hh _) hone
   rw [hnl] at hl
   obtain ⟨cur',h3,h4,h5⟩:=setCells_row news 0 W cur hh (by omega)
   obtain ⟨s1,s2,s3,s4⟩:=setCells_same g news 0 W
   have hown' : (W.setCells g 0 news).ownsRow base e d.sz v ys.length news:=by
    refine ⟨by rw [hnl,hml],.inr ⟨g,cap,cur',by rw [hml,hm];exact hv,hb,h3,by omega,hcm,by rw [h4,hcs],?_⟩⟩
    rw [h5,List.take_zero,List.nil_append,hml,← hnl,Nat.zero_add]
    exact List.take_left' rfl
   have hne : ∀ k,okp k → k ≠ g:=by
    intro k hk he
    have:=(hokp k hk).2
    rw [hv,he] at this
    exact this rfl
   refine ⟨W.setCells g 0 news,?_,⟨hok,news,hown',hnM.imp_ (fun q c hq => ?_)⟩,⟨s1,s2,s3,by rw [s4];exact Nat.le_refl _,fun k _ hk => setCells_far _ _ k (fun he => hk (by rw [hv,he];simp [Value.ownBlock]))⟩⟩
   ·rw [hv]
    have hmin : Nat.min m xs.length = m:=by rw [← hm];exact Nat.min_self m
    simp only [Nat.add_zero] at hst
    simp [Builtin.copy_,run_underlying ht,Builtin.lenOf,Builtin.firstCells,sizeOf,typeInfo,hi,hz,hmin,hl,hst]
   ·exact d.M_mono (fun k hk => hokp k hk.1) (d.M_move (fun k hk => setCells_far news 0 k (hne k hk.1)) (d.M_bound hq))
 obtain ⟨w1,hr1,h1,hg⟩:=hrun
 refine wpList_plain hgd fun K hK => ?_
 unfold Oper.wp execOp
 simp only [ho,resolve,invoke,builtin,Sem.run_bind,Sem.run_pure,Result.andThen_ok,List.map_toArray,List.map_cons,List.map_nil,hs,hx,hr1]
 exact hK _ _ (h w1 h1 (HB.grown hg hbase (own_base hown)) hg)
set_option maxHeartbeats 8000000 in
set_option maxRecDepth 100000 in
theorem order_copied.calls (A0 : Option Addr) (c0 : Nat) (l0 : List (S33)) (r : List (S33)) (w : World) (hr0 : Kd.C k33 w A0 l0.length l0) (hc0 : l0.length ≤ c0) (h : order_copied.f l0 = some r) :
  Calls Try.prog 48 #[.slice A0 l0.length c0] w fun e w' => ∃ v0_ : Value,e = .returned (v0_) ∧ Kd.R k33 33 w' w.heap.size (fun _ => True) v0_ r ∧ Below w.heap.size w w':=by
 unfold order_copied.f at h
 by_cases hlim : l0.length < 1954687338268
 rotate_left
 ·rw [if_neg hlim] at h
  exact absurd h (by simp)
 rw [if_pos hlim] at h
 obtain rfl:=Option.some.inj h
 have HR0:=Aside0.mk hr0
 have HC0:=Aside0.mk hc0
 have LM:=Aside0.mk hlim
 have HB:=Aside0.mk (Below.refl w.heap.size w)
 clear hr0 hc0 hlim h
 obtain ⟨y1,hy1⟩ : ∃ y_ : List (S33),y_ = List.replicate (l0.length : Int).toNat z33:=⟨_,rfl⟩
 have Ny1:=Aside0.mk hy1
 clear hy1
 go_enter Try.func48,Try.ntmps48
 go_wp2_with (first|((with_reducible refine gate_dst (N:=6) rfl ?_);refine Kd.R_make k33 _ 33 rfl (N:=6) rfl 22 _ _ rfl (l0.length : Int) rfl rfl Try.underlying22 (.agg #[(.int .i64 0),(.int .i64 0),(.int .i64 0),(.int .i64 0),(.int .i64 0),(.int .i64 0),(.int .i64 0),(.int .i64 0),(.int .i64 0)]) 72 info33 rfl (by decide) (by omega) z33 (ok:=fun _ => True) (okp:=fun _ => True) (k33_mkM _ _ _ z33) (fun _ hk => hk) trivial (by omega) (by have:=LM.out;rw [Int.toNat_natCast];omega) (Below.refl _ _) (Nat.le_refl _) ?_;intro v1 w1 ho1 hb hg_ hnew_;clear hg_ hnew_;rw [← Ny1.out] at ho1;have n0_:=Aside0.mk (Kd.R_lower ho1 (below_size (by repeat (first|(with_reducible first|exact HB.out|apply below_alloc|apply pw_below_drewN|apply below_drew1)|exact HB.out))));have n3_:=Aside0.mk (below_step (by repeat (first|(with_reducible first|exact HB.out|apply below_alloc|apply pw_below_drewN|apply below_drew1)|exact HB.out)) hb);clear HB;have HO1:=n0_;have HB:=n3_;clear n0_ n3_;clear hb ho1)|((with_reducible refine gate_builtin (b:=.copy) (xs:=#[.tmp 7,.tmp 8]) rfl ?_);refine order_copied.copyK k33 (w0:=w) w.heap.size rfl (.tmp 7) (.tmp 8) 22 22 33 rfl Try.underlying22 (by kernel_rfl) (by decide) v1 y1 l0 _ _ _ (fun _ => True) (fun _ => False) rfl rfl ?aO ?aR (fun _ _ h => h) (fun _ h => h.elim) ?aM ?aB ?aS ?_;(case aR => exact (Kd.C_below HR0.out HB.out));(case aM => have h2_:=Ny1.out;subst h2_;simp);(case aB => exact (by repeat (first|(with_reducible first|exact HB.out|apply below_alloc|apply pw_below_drewN|apply below_drew1)|exact HB.out)));(case aO => exact (by (with_reducible repeat (first|apply Kd.R_alloc|apply Kd.R_drewN|apply Kd.R_drew));exact HO1.out));(case aS => exact (below_size (by repeat (first|(with_reducible first|exact HB.out|apply below_alloc|apply pw_below_drewN|apply below_drew1)|exact HB.out))));intro w2 ho hb hg;have n1_:=Aside0.mk (hb);have n2_:=Aside0.mk (ho);clear HB;clear HO1;have HB:=n1_;have HO1:=n2_;clear n1_ n2_;clear ho hb hg))
 go_ret
 exact ⟨_,rfl,(by (with_reducible repeat (first|apply Kd.R_alloc|apply Kd.R_drewN|apply Kd.R_drew));exact HO1.out),by repeat (first|(with_reducible first|exact HB.out|apply below_alloc|apply pw_below_drewN|apply below_drew1)|exact HB.out)⟩
theorem order_copied.litK {α : Type} {P : Program} {ops : Array Oper} {rest : List Oper} {o : Oper} {a : Act} {Q : Exit → Act → World → Prop} (d : Kd α) {w0 W : World} (base e : Nat) (hgd : o.guard = none) {xs : List α} {inner : List Value} {ok okp : Nat → Prop}
  (hrun : (execOp a.eval o).run P W = .ok (.value (.slice (some ⟨W.heap.size,0,none⟩) xs.length xs.length)) (W.alloc (.cells inner.toArray e)))
  (hrep : Reps (d.M W base okp) d.sz xs inner) (hok : ∀ k,okp k → ok k) (hfresh : ok W.heap.size) (HB : Below base w0 W) (hbase : base ≤ W.heap.size) (hm : xs.length ≤ 9223372036854775807)
  (h : ∀ v1 w1,v1 = .slice (some ⟨W.heap.size,0,none⟩) xs.length xs.length → d.R e w1 base ok v1 xs → Below base w0 w1 → W.grownBy w1 none → (∃ b,v1.ownBlock = some b ∧ W.heap.size ≤ b) → wpList P ops Q rest (a.put o.dst v1) w1) : wpList P ops Q (o :: rest) a W:=by
 refine Kd.event_run hgd hrun (h _ _ rfl ⟨fun k hk => ?_,inner,?_,?_⟩ (HB.alloc hbase _) (World.grownBy_alloc W _ none) ⟨W.heap.size,by simp [Value.ownBlock],Nat.le_refl _⟩)
 ·have : W.heap.size = k:=by simpa [Value.ownBlock] using hk
  subst this
  exact hfresh
 ·have h2:=World.ownsRow_lit (base:=base) (e:=e) (size:=d.sz) W inner.toArray xs.length hbase (by simpa [maxLen] using hm) (by simpa using hrep.1)
  simpa using h2
 ·refine hrep.imp_ (fun p c hp => d.M_mono (fun k hk => ⟨hok k hk.1,fun he => ?_⟩) (Kd.M_below (d.M_bound hp) (below_alloc (Below.refl _ _) _)))
  have h3 : k = W.heap.size:=by simpa [Value.ownBlock] using he
  have:=hk.2.2.1
  omega
theorem order_copied.makeK {α : Type} {P : Program} {ops : Array Oper} {rest : List Oper} {o : Oper} {a : Act} {Q : Exit → Act → World → Prop} (d : Kd α) {w0 W : World} (base e : Nat) (hgd : o.guard = none) {N : Tmp} (hd : o.dst = some N) (t : TypeId) (x y : Operand) (ho : o.op = .makeSlice t x y) (n : Int) (hx : a.eval x = .int .i64 n) (hy : a.eval y = .int .i64 n)
  (ht : P.underlying t = some (.slice e)) (z : Value) (bytes : Nat) (hinfo : (P.info? e).map (fun i => (i.zero,i.size,i.bytes)) = some (some z,d.sz,bytes)) (hz : z.cells.size = d.sz) (hs0 : 0 < d.sz) (hb0 : 0 < bytes)
  (z0 : α) {ok okp : Nat → Prop} (hzero : d.M W base okp z0 z.cells.toList) (hok : ∀ k,okp k → ok k) (hfresh : ok W.heap.size) (h0 : 0 ≤ n) (hl : n.toNat * bytes ≤ 281474976710656) (HB : Below base w0 W) (hbase : base ≤ W.heap.size)
  (h : ∀ v1 w1,v1 = .slice (some ⟨W.heap.size,0,none⟩) n.toNat n.toNat → d.R e w1 base ok v1 (List.replicate n.toNat z0) → Below base w0 w1 → W.grownBy w1 none → (∃ b,v1.ownBlock = some b ∧ W.heap.size ≤ b) → wpList P ops Q rest (a.put o.dst v1) w1) : wpList P ops Q (o :: rest) a W:=by
 obtain ⟨m,rfl⟩:=Int.eq_ofNat_of_zero_le h0
 simp only [Int.toNat_natCast] at hl h
 obtain ⟨i0,hi,hzz⟩:=Option.map_eq_some_iff.1 hinfo
 simp only [Prod.mk.injEq] at hzz
 obtain ⟨hz0,hz1,hz2⟩:=hzz
 have hm : m ≤ 281474976710656:=Nat.le_trans (Nat.le_mul_of_pos_right _ hb0) hl
 have hr:=run_make (P:=P) W t e i0 z ht hi hz0 .i64 .i64 (m : Int) (m : Int) (by omega) (by omega)
  (by
   have h3 : ((i0.bytes * m : Nat) : Int) ≤ 281474976710656:=by rw [hz2,Nat.mul_comm];omega
   rwa [Int.natCast_mul] at h3) (by omega)
 simp only [Int.toNat_natCast] at hr
 rw [hz1] at hr
 refine order_copied.litK d base e hgd (xs:=List.replicate m z0) (inner:=(madeCells z.cells (m * d.sz)).toList) (okp:=okp) (ok:=ok) ?_ (Kd.reps_made hz hs0 hzero m) hok hfresh HB hbase (by simp;omega) (by simpa using h)
 simp [execOp,ho,hx,hy,hr]
set_option maxHeartbeats 8000000 in
set_option maxRecDepth 100000 in
theorem order_copied.calls2 (A0 : Option Addr) (c0 : Nat) (l0 : List (S33)) (r : List (S33)) (w : World) (hr0 : Kd.C k33 w A0 l0.length l0) (hc0 : l0.length ≤ c0) (h : order_copied.f l0 = some r) :
  Calls Try.prog 48 #[.slice A0 l0.length c0] w fun e w' => ∃ v0_ : Value,e = .returned (v0_) ∧ Kd.R k33 33 w' w.heap.size (fun _ => True) v0_ r ∧ Below w.heap.size w w' ∧ (∀ (A_ : Option Addr) (n_ c_ : Nat),v0_ = .slice A_ n_ c_ → c_ = n_):=by
 unfold order_copied.f at h
 by_cases hlim : l0.length < 1954687338268
 rotate_left
 ·rw [if_neg hlim] at h
  exact absurd h (by simp)
 rw [if_pos hlim] at h
 obtain rfl:=Option.some.inj h
 have HR0:=Aside0.mk hr0
 have HC0:=Aside0.mk hc0
 have LM:=Aside0.mk hlim
 have HB:=Aside0.mk (Below.refl w.heap.size w)
 clear hr0 hc0 hlim h
 obtain ⟨y1,hy1⟩ : ∃ y_ : List (S33),y_ = List.replicate (l0.length : Int).toNat z33:=⟨_,rfl⟩
 have Ny1:=Aside0.mk hy1
 clear hy1
 go_enter Try.func48,Try.ntmps48
 go_wp2_with (first|((with_reducible refine gate_dst (N:=6) rfl ?_);refine order_copied.makeK k33 _ 33 rfl (N:=6) rfl 22 _ _ rfl (l0.length : Int) rfl rfl Try.underlying22 (.agg #[(.int .i64 0),(.int .i64 0),(.int .i64 0),(.int .i64 0),(.int .i64 0),(.int .i64 0),(.int .i64 0),(.int .i64 0),(.int .i64 0)]) 72 info33 rfl (by decide) (by omega) z33 (ok:=fun _ => True) (okp:=fun _ => True) (k33_mkM _ _ _ z33) (fun _ hk => hk) trivial (by omega) (by have:=LM.out;rw [Int.toNat_natCast];omega) (Below.refl _ _) (Nat.le_refl _) ?_;intro v1 w1 hv1 ho1 hb hg_ hnew_;clear hg_ hnew_;have HV1:=Aside0.mk hv1;clear hv1;rw [← Ny1.out] at ho1;have n0_:=Aside0.mk (Kd.R_lower ho1 (below_size (by repeat (first|(with_reducible first|exact HB.out|apply below_alloc|apply pw_below_drewN|apply below_drew1)|exact HB.out))));have n3_:=Aside0.mk (below_step (by repeat (first|(with_reducible first|exact HB.out|apply below_alloc|apply pw_below_drewN|apply below_drew1)|exact HB.out)) hb);clear HB;have HO1:=n0_;have HB:=n3_;clear n0_ n3_;clear hb ho1)|((with_reducible refine gate_builtin (b:=.copy) (xs:=#[.tmp 7,.tmp 8]) rfl ?_);refine order_copied.copyK k33 (w0:=w) w.heap.size rfl (.tmp 7) (.tmp 8) 22 22 33 rfl Try.underlying22 (by kernel_rfl) (by decide) v1 y1 l0 _ _ _ (fun _ => True) (fun _ => False) rfl rfl ?aO ?aR (fun _ _ h => h) (fun _ h => h.elim) ?aM ?aB ?aS ?_;(case aR => exact (Kd.C_below HR0.out HB.out));(case aM => have h2_:=Ny1.out;subst h2_;simp);(case aB => exact (by repeat (first|(with_reducible first|exact HB.out|apply below_alloc|apply pw_below_drewN|apply below_drew1)|exact HB.out)));(case aO => exact (by (with_reducible repeat (first|apply Kd.R_alloc|apply Kd.R_drewN|apply Kd.R_drew));exact HO1.out));(case aS => exact (below_size (by repeat (first|(with_reducible first|exact HB.out|apply below_alloc|apply pw_below_drewN|apply below_drew1)|exact HB.out))));intro w2 ho hb hg;have n1_:=Aside0.mk (hb);have n2_:=Aside0.mk (ho);clear HB;clear HO1;have HB:=n1_;have HO1:=n2_;clear n1_ n2_;clear ho hb hg))
 go_ret
 exact ⟨_,rfl,(by (with_reducible repeat (first|apply Kd.R_alloc|apply Kd.R_drewN|apply Kd.R_drew));exact HO1.out),by repeat (first|(with_reducible first|exact HB.out|apply below_alloc|apply pw_below_drewN|apply below_drew1)|exact HB.out),fun A_ n_ c_ he_ => by have h_:=HV1.out.symm.trans he_;injection h_ with _ h1_ h2_;rw [← h1_,← h2_]⟩


end Go.Proofs.Ythbjchicpebglaa.P

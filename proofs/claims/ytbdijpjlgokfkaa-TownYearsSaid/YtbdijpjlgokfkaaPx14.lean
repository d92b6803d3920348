/- Functions of this seat as plain Lean functions, with proofs that the Go code comes to just their answers, or what stands between them and a law's statement; no conditions. (Laid by a program of this session, out of the kit's print.) -/
import Derived.Test.YtbdijpjlgokfkaaPx0
import Derived.Test.YtbdijpjlgokfkaaPx9
namespace Go.Proofs.Ytbdijpjlgokfkaa.P
open Go.RowKit Go.Proofs.YtbdijpjlgokfkaaW.PrintWords Go.Proofs.YtbdijpjlgokfkaaW.PrintLast Go.Proofs.YtbdijpjlgokfkaaW.PrintMore
attribute [local go_sem] max2_int min2_int max_two min_two max_three min_three max_four min_four   -- for this text's walks alone
set_option maxHeartbeats 8000000
set_option maxRecDepth 100000
set_option linter.unusedVariables false
set_option linter.unusedSimpArgs false

-- plug-in
/-! ### roll_Pick: function 108 -/
-- HAND
def roll_Pick.wt (x:Int):Int:=max 0 (min x 1048576)
def roll_Pick.at_:List Int→Int→Int→Int
 | [],_,_ => -1
 | x :: xs,i,d=>if d - roll_Pick.wt x<0 then i else roll_Pick.at_ xs (i+1) (d - roll_Pick.wt x)
def roll_Pick.f (k:Nat) (a0_0:Int) (l1:List Int):Option (Int × Int) :=
 if 1000<l1.length then some (-1,a0_0) else if (l1.map roll_Pick.wt).sum=0 then some (-1,a0_0) else (roll_Below.f k a0_0 (l1.map roll_Pick.wt).sum).bind fun b=>if 0≤b.1∧b.1≤4611686018427387904 then some (roll_Pick.at_ l1 0 b.1,b.2) else none
theorem roll_Pick.mono:∀ a0 a1 k,LeO (roll_Pick.f k a0 a1) (roll_Pick.f (k+1) a0 a1):=by
 intro a0 a1 k
 unfold roll_Pick.f
 exact LeO.ite (LeO.refl _) (LeO.ite (LeO.refl _) (LeO.bind (roll_Below.mono _ _ _) (fun _=>LeO.refl _)))
theorem roll_Pick.wt_le (x:Int):0≤roll_Pick.wt x∧roll_Pick.wt x≤1048576:=by unfold roll_Pick.wt;omega
def roll_Pick.S (l:List Int) (i:Nat):Int:=((l.take i).map roll_Pick.wt).sum
theorem roll_Pick.S_succ (l:List Int) (i:Nat) (h:i<l.length):roll_Pick.S l (i+1)=roll_Pick.S l i+roll_Pick.wt (rd l (i:Int)):=by
 unfold roll_Pick.S
 rw [List.take_succ_eq_append_getElem h,List.map_append,List.sum_append]
 have:rd l (i:Int)=l[i]:=by unfold rd;simp [List.getD,h]
 rw [this];simp
theorem roll_Pick.S_le (l:List Int):∀ i,i≤l.length→0≤roll_Pick.S l i∧roll_Pick.S l i≤1048576 * i
 | 0,_=>by unfold roll_Pick.S;simp
 | i+1,h=>by
  have h1:=roll_Pick.S_le l i (by omega)
  have h2:=roll_Pick.wt_le (rd l (i:Int))
  rw [roll_Pick.S_succ l i (by omega)]
  omega
theorem roll_Pick.at_drop (l:List Int) (i:Nat) (h:i<l.length) (d:Int):roll_Pick.at_ (l.drop i) i d=if d - roll_Pick.wt (rd l (i:Int))<0 then (i:Int) else roll_Pick.at_ (l.drop (i+1)) ((i+1:Nat):Int) (d - roll_Pick.wt (rd l (i:Int))):=by
 have:rd l (i:Int)=l[i]:=by unfold rd;simp [List.getD,h]
 rw [List.drop_eq_getElem_cons h,this]
 simp only [roll_Pick.at_,Int.natCast_add,Int.cast_ofNat_Int]
set_option maxHeartbeats 4000000 in
theorem roll_Pick.lit (A:Option Addr) (c:Nat) (l:List Int) (g:Nat) (i u:Int) (w:World) (hb:w.heap[g]?=some (.cells #[.slice A l.length c] 23 (0,0))) (hr:Kd.C (Kd.int .i64) w A l.length l) (h0:0≤i) (h1:i<(l.length:Int)) (hu:roll_Pick.wt (rd l i)=u) :
  Calls Try.prog 119 #[.int .i64 i,.pointer (some ⟨g,0,none⟩)] w fun e w'=>e=.returned (.int .i64 u)∧Below w.heap.size w w':=by
 have hu23:=Try.underlying23
 obtain ⟨hc0,hf0⟩:=cells1 hb
 obtain ⟨ad,eA,hx⟩:=Kd.at_int hr i h0 h1
 obtain ⟨j2,hj2⟩:∃ j_:Int,(if 1048576<rd l i then 1048576 else rd l i)=j_:=⟨_,rfl⟩
 have hj3:(if 0<j2 then j2 else 0)=u:=by
  rw [← hu];unfold roll_Pick.wt
  split at hj2 <;> split <;> omega
 have hj4:(if j2<0 then 0 else j2)=u:=by
  rw [← hu];unfold roll_Pick.wt
  split at hj2 <;> split <;> omega
 clear hu
 subst eA
 have p1:=eq_true h0
 have p2:=eq_true h1
 go_enter Try.func119,Try.ntmps119
 go_wp2
 go_ret
 exact ⟨rfl,Below.refl _ _⟩
structure roll_Pick.I (w0 W:World) (s t5:Int) (A:Option Addr) (c:Nat) (l:List Int) (g2 g3 g5:Nat):Prop where
 h2:W.heap[g2]?=some (.cells #[.int .u64 s] 45 (0,0))
 h3:W.heap[g3]?=some (.cells #[.slice A l.length c] 23 (0,0))
 h5:W.heap[g5]?=some (.cells #[.int .u64 t5] 45 (0,0))
 hB:Below w0.heap.size w0 W
 b2:w0.heap.size≤g2
 b3:w0.heap.size≤g3
 b5:w0.heap.size≤g5
 n25:g2≠g5
section
variable {w0 W W':World} {s t5:Int} {A:Option Addr} {c:Nat} {l:List Int} {g2 g3 g5:Nat}
theorem roll_Pick.I.size (h:roll_Pick.I w0 W s t5 A c l g2 g3 g5):w0.heap.size≤W.heap.size:=h.hB.size
theorem roll_Pick.I.step (h:roll_Pick.I w0 W s t5 A c l g2 g3 g5) (hb:Below W.heap.size W W'):roll_Pick.I w0 W' s t5 A c l g2 g3 g5 :=
 ⟨blk_below h.h2 hb,blk_below h.h3 hb,blk_below h.h5 hb,below_then h.hB h.size hb,h.b2,h.b3,h.b5,h.n25⟩
theorem roll_Pick.I.n23 (h:roll_Pick.I w0 W s t5 A c l g2 g3 g5):g2≠g3:=blk_ne h.h2 h.h3 (by decide)
theorem roll_Pick.I.n53 (h:roll_Pick.I w0 W s t5 A c l g2 g3 g5):g5≠g3:=blk_ne h.h5 h.h3 (by decide)
theorem roll_Pick.I.drew (h:roll_Pick.I w0 W s t5 A c l g2 g3 g5):roll_Pick.I w0 W.drew s t5 A c l g2 g3 g5:=h.step (below_drew (Below.refl _ _))
theorem roll_Pick.I.set2 (h:roll_Pick.I w0 W s t5 A c l g2 g3 g5) (s':Int):roll_Pick.I w0 (W.setCell ⟨g2,0,none⟩ (.int .u64 s')) s' t5 A c l g2 g3 g5 :=
 ⟨blk_set h.h2 0 _,blk_far h.h3 (Ne.symm h.n23) _,blk_far h.h5 (Ne.symm h.n25) _,h.hB.setCell h.b2 _,h.b2,h.b3,h.b5,h.n25⟩
theorem roll_Pick.I.set5 (h:roll_Pick.I w0 W s t5 A c l g2 g3 g5) (s':Int):roll_Pick.I w0 (W.setCell ⟨g5,0,none⟩ (.int .u64 s')) s s' A c l g2 g3 g5 :=
 ⟨blk_far h.h2 h.n25 _,blk_far h.h3 (Ne.symm h.n53) _,blk_set h.h5 0 _,h.hB.setCell h.b5 _,h.b2,h.b3,h.b5,h.n25⟩
end
theorem roll_Pick.calls (k:Nat) (a0_0:Int) (A1:Option Addr) (c1:Nat) (l1:List Int) (r1:Int) (r2:Int) (w:World) (hr1:Kd.C (Kd.int .i64) w A1 l1.length l1) (hc1:l1.length≤c1) (h:roll_Pick.f k a0_0 l1=some (r1,r2)) :
  Calls Try.prog 108 #[.agg #[.int .u64 a0_0],.slice A1 l1.length c1] w fun e w'=>e=.returned (.tuple #[.int .i64 r1,.agg #[.int .u64 r2]])∧Below w.heap.size w w':=by
 have hu45:=Try.underlying45
 have hu23:=Try.underlying23
 have hmf:∀ (fn:Fn) (first cap:Array Value) (w:World),(Instr.makeFunc fn first cap).run Try.prog w=.ok (.func fn first cap) w:=fun _ _ _ _=>rfl
 have HR:=am_ hr1
 have HB:=am_ (Below.refl w.heap.size w)
 have H:=am_ h
 clear hr1 h
 by_cases c0:1000<l1.length
 ·have h:=H.out
  unfold roll_Pick.f at h
  rw [if_pos c0] at h
  simp only [Option.some.injEq,Prod.mk.injEq] at h
  obtain ⟨rfl,rfl⟩:=h
  have c1b:decide ((1000:Int)<(l1.length:Int))=true:=dt_ (by omega)
  have c2b:decide (1000<l1.length)=true:=dt_ c0
  clear H
  go_enter Try.func108,Try.ntmps108
  go_wp2_with (first
  | ((with_reducible refine gate_dst (N:=2) rfl ?_);refine box_ev (N:=2) (cs:=#[.int .u64 a0_0]) (t:=45) ?_;intro g2 hg w1 hbox hb;have B2:=am_ hbox;have G2:=gsz (w:=w) hg;replace HB:=am_ (below_step (hb_) hb);clear hb hbox hg)
  | ((with_reducible refine gate_dst (N:=3) rfl ?_);refine box_ev (N:=3) (cs:=#[.slice A1 l1.length c1]) (t:=23) ?_;intro g3 hg w2 hbox hb;have B3:=am_ hbox;have G3:=gsz (w:=w) hg;replace B2:=bkb B2 hb;replace HB:=am_ (below_step (hb_) hb);clear hb hbox hg)
  | ((with_reducible refine gate_dst (N:=5) rfl ?_);refine box_ev (N:=5) (cs:=#[.int .u64 0]) (t:=45) ?_;intro g5 hg w3 hbox hb;have B5:=am_ hbox;have G5:=gsz (w:=w) hg;have N25:=nbl B2 hg;replace B2:=bkb B2 hb;replace B3:=bkb B3 hb;replace HB:=am_ (below_step (hb_) hb);have HI:=am_ (roll_Pick.I.mk (w0:=w) (c:=c1) (l:=l1) B2.out B3.out B5.out HB.out G2.out G3.out G5.out N25.out);clear hb hbox hg B2 B3 B5 HB G2 G3 G5 N25;obtain ⟨hc3,hf3⟩:=cells1 HI.out.h3))
  replace HI:=am_ HI.out.drew
  refine start_ (n:=3) (S:=fun w'=>w'.cell? ⟨g2,0,none⟩=some (.int .u64 a0_0)) (ds:=[]) #[false,false,false] (by kernel_rfl) rfl rfl (blk_cell HI.out.h2 0) (fun hHeld=>?_)
  generalize hWd:World.drew _=wd at HI hHeld ⊢;clear hWd
  refine pI 1 (some 4) ?_
  refine take_ (i:=0) (N:=some 14) (v:=?_) (a':=?_) #[true,true,false] rfl rfl (by kernel_rfl) (fun _ _ _ h=>h) (Or.inl ⟨by rfl,?_⟩) hHeld ?_ ?_;rotate_left
  ·intro w' s0;go_simp;with_reducible rfl
  rotate_left
  ·simp only [Act.put,sl_,i64_w,i32_w];rfl
  refine oI 2 none (fun K hK=>?_)
  obtain ⟨hs5,hf5⟩:=cells1 HI.out.h5
  refine skip_ (w1:=?_) (by rfl) rfl ?_ ?_;rotate_left
  ·go_simp;rfl
  refine hK.out _ _ ((cell_far (p:=⟨g5,_,none⟩) HI.out.n25 _).trans hHeld) (fun hHeld=>?_)
  clear hK K;refine done_ (by kernel_rfl) ?_;(try go_wp2)
  refine bodyPost_ret (results_tc rfl _ _ g5 45 #[.int .u64 a0_0] (0,0) _ rfl (HI.out.set5 _).h5 Try.underlying45 rfl (by kernel_rfl)) rfl ?_
  exact ⟨rfl,(HI.out.set5 _).hB⟩
 have c1b:decide ((1000:Int)<(l1.length:Int))=false:=df_ (by omega)
 have c2b:decide (1000<l1.length)=false:=df_ c0
 have HL:=am_ c0
 clear c0
 go_enter Try.func108,Try.ntmps108
 go_wp2_with (first
  | ((with_reducible refine gate_dst (N:=2) rfl ?_);refine box_ev (N:=2) (cs:=#[.int .u64 a0_0]) (t:=45) ?_;intro g2 hg w1 hbox hb;have B2:=am_ hbox;have G2:=gsz (w:=w) hg;replace HB:=am_ (below_step (hb_) hb);clear hb hbox hg)
  | ((with_reducible refine gate_dst (N:=3) rfl ?_);refine box_ev (N:=3) (cs:=#[.slice A1 l1.length c1]) (t:=23) ?_;intro g3 hg w2 hbox hb;have B3:=am_ hbox;have G3:=gsz (w:=w) hg;replace B2:=bkb B2 hb;replace HB:=am_ (below_step (hb_) hb);clear hb hbox hg)
  | ((with_reducible refine gate_dst (N:=5) rfl ?_);refine box_ev (N:=5) (cs:=#[.int .u64 0]) (t:=45) ?_;intro g5 hg w3 hbox hb;have B5:=am_ hbox;have G5:=gsz (w:=w) hg;have N25:=nbl B2 hg;replace B2:=bkb B2 hb;replace B3:=bkb B3 hb;replace HB:=am_ (below_step (hb_) hb);have HI:=am_ (roll_Pick.I.mk (w0:=w) (c:=c1) (l:=l1) B2.out B3.out B5.out HB.out G2.out G3.out G5.out N25.out);clear hb hbox hg B2 B3 B5 HB G2 G3 G5 N25;obtain ⟨hc3,hf3⟩:=cells1 HI.out.h3))
 have h:=H.out
 unfold roll_Pick.f at h
 rw [if_neg HL.out] at h
 have H1:=am_ h
 clear h H
 go_loopg [7,18] l1.length (fun kq v7 v18 w'=>∃ (i:Nat),v7=.int .i64 (roll_Pick.S l1 i)∧v18=.int .i64 (i:Int)∧Aside0 (i≤l1.length∧kq=l1.length - i)∧Aside0 (roll_Pick.I w w' a0_0 0 A1 c1 l1 g2 g3 g5))
 case atStart=>exact ⟨0,rfl,rfl,⟨Nat.zero_le _,rfl⟩,HI⟩
 case round =>
  clear HI hc3 hf3
  obtain ⟨i,rfl,rfl,HK,HI⟩:=hrel
  obtain ⟨hc3,hf3⟩:=cells1 HI.out.h3
  by_cases ci:i<l1.length
  ·have d0:decide ((i:Int)<(l1.length:Int))=true:=dt_ (by omega)
   have d1:decide (i<l1.length)=true:=dt_ ci
   have CI:=am_ ci
   clear ci
   go_wp2_with (go_at_call 119;refine (roll_Pick.lit A1 c1 l1 g3 (i:Int) _ _ HI.out.h3 (Kd.C_below HR.out HI.out.hB) (by omega) (by have:=CI.out;omega) rfl).mono ?_;rintro e w' ⟨rfl,hb⟩;replace HI:=am_ (HI.out.step hb);clear hb)
   go_roundg (l1.length - (i+1))
   case measure=>have:=HK.out;have:=CI.out;omega
   case rel =>
    refine ⟨i+1,?_,?_,⟨CI.out,rfl⟩,HI⟩
    ·congr 1
     rw [roll_Pick.S_succ l1 i CI.out]
     have h1:=roll_Pick.S_le l1 i (by have:=CI.out;omega)
     have h2:=roll_Pick.wt_le (rd l1 (i:Int))
     have:=HL.out;have:=CI.out
     unfold wrap64;omega
    ·congr 1;have:=HL.out;have:=CI.out;unfold wrap64;omega
  ·have d0:decide ((i:Int)<(l1.length:Int))=false:=df_ (by omega)
   have d1:decide (i<l1.length)=false:=df_ ci
   obtain rfl:i=l1.length:=by have:=HK.out;omega
   clear ci
   have hS:roll_Pick.S l1 l1.length=(l1.map roll_Pick.wt).sum:=by unfold roll_Pick.S;rw [List.take_length]
   have h:=H1.out
   rw [← hS] at h
   have HS:=am_ (roll_Pick.S_le l1 l1.length (Nat.le_refl _))
   generalize roll_Pick.S l1 l1.length=sm at h HS ⊢
   by_cases cs:sm=0
   ·rw [if_pos cs] at h
    simp only [Option.some.injEq,Prod.mk.injEq] at h
    obtain ⟨rfl,rfl⟩:=h
    have d2:(sm == 0)=true:=beq_iff_eq.2 cs
    clear cs H1
    go_wp2
    replace HI:=am_ HI.out.drew
    refine start_ (n:=3) (S:=fun w'=>w'.cell? ⟨g2,0,none⟩=some (.int .u64 a0_0)) (ds:=[]) #[false,false,false] (by kernel_rfl) rfl rfl (blk_cell HI.out.h2 0) (fun hHeld=>?_)
    generalize hWd:World.drew _=wd at HI hHeld ⊢;clear hWd
    refine pI 1 (some 4) ?_
    refine take_ (i:=0) (N:=some 29) (v:=?_) (a':=?_) #[true,true,false] rfl rfl (by kernel_rfl) (fun _ _ _ h=>h) (Or.inl ⟨by rfl,?_⟩) hHeld ?_ ?_;rotate_left
    ·intro w' s0;go_simp;with_reducible rfl
    rotate_left
    ·simp only [Act.put,sl_,i64_w,i32_w];rfl
    refine oI 2 none (fun K hK=>?_)
    obtain ⟨hs5,hf5⟩:=cells1 HI.out.h5
    refine skip_ (w1:=?_) (by rfl) rfl ?_ ?_;rotate_left
    ·go_simp;rfl
    refine hK.out _ _ ((cell_far (p:=⟨g5,_,none⟩) HI.out.n25 _).trans hHeld) (fun hHeld=>?_)
    clear hK K;refine done_ (by kernel_rfl) ?_;(try go_wp2)
    refine bodyPost_ret (results_tc rfl _ _ g5 45 #[.int .u64 a0_0] (0,0) _ rfl (HI.out.set5 _).h5 Try.underlying45 rfl (by kernel_rfl)) rfl ?_
    exact ⟨rfl,(HI.out.set5 _).hB⟩
   rw [if_neg cs] at h
   have d2:(sm == 0)=false:=beq_eq_false_iff_ne.2 cs
   obtain ⟨⟨b1,b2⟩,hb0,h⟩:=Option.bind_eq_some_iff.1 h
   dsimp only at h
   by_cases cb:0≤b1∧b1≤4611686018427387904
   rotate_left
   ·rw [if_neg cb] at h;exact absurd h (by simp)
   rw [if_pos cb] at h
   simp only [Option.some.injEq,Prod.mk.injEq] at h
   obtain ⟨rfl,rfl⟩:=h
   have A0:=am_ hb0
   have CB:=am_ cb
   clear hb0 cb cs H1 hS
   obtain ⟨hc2,hf2⟩:=cells1 HI.out.h2
   go_wp2_with (go_at_call 57;refine (roll_Below.calls _ _ _ _ _ _ A0.out).mono ?_;rintro e w' ⟨rfl,hb⟩;replace HI:=am_ (HI.out.step hb);clear hb;obtain ⟨hc2,hf2⟩:=cells1 HI.out.h2;obtain ⟨hc3,hf3⟩:=cells1 HI.out.h3;have n1_:=HI.out.n23;have n2_:=n1_.symm)
   replace HI:=am_ (HI.out.set2 b2)
   go_loopg [9,38] l1.length (fun kq v9 v38 w'=>∃ (i:Nat) (d:Int),v9=.int .i64 d∧v38=.int .i64 (i:Int)∧Aside0 (0≤d∧d≤4611686018427387904)∧Aside0 (roll_Pick.at_ (l1.drop i) i d=roll_Pick.at_ l1 0 b1)∧Aside0 (i≤l1.length∧kq=l1.length - i)∧Aside0 (roll_Pick.I w w' b2 0 A1 c1 l1 g2 g3 g5))
   case atStart=>exact ⟨0,b1,rfl,rfl,CB,⟨rfl⟩,⟨Nat.zero_le _,rfl⟩,HI⟩
   case round =>
    clear HI hc3 hf3 hc2 hf2 HK CB
    obtain ⟨i,d,rfl,rfl,HD,HT,HK,HI⟩:=hrel
    obtain ⟨hc3,hf3⟩:=cells1 HI.out.h3
    obtain ⟨hc2,hf2⟩:=cells1 HI.out.h2
    by_cases ci:i<l1.length
    ·have d0:decide ((i:Int)<(l1.length:Int))=true:=dt_ (by omega)
     have d1:decide (i<l1.length)=true:=dt_ ci
     have hT:=HT.out
     rw [roll_Pick.at_drop l1 i ci d] at hT
     have hw:=roll_Pick.wt_le (rd l1 (i:Int))
     have hd:wrap64 (d - roll_Pick.wt (rd l1 (i:Int)))=d - roll_Pick.wt (rd l1 (i:Int)):=by have:=HD.out;unfold wrap64;omega
     have CI:=am_ ci
     by_cases cd:d - roll_Pick.wt (rd l1 (i:Int))<0
     ·rw [if_pos cd] at hT
      have d2:decide (wrap64 (d - roll_Pick.wt (rd l1 (i:Int)))<0)=true:=by rw [hd];exact dt_ cd
      replace HT:=am_ hT
      clear ci cd hw hd hT
      go_wp2_with (go_at_call 119;refine (roll_Pick.lit A1 c1 l1 g3 (i:Int) _ _ HI.out.h3 (Kd.C_below HR.out HI.out.hB) (by omega) (by have:=CI.out;omega) rfl).mono ?_;rintro e w' ⟨rfl,hb⟩;replace HI:=am_ (HI.out.step hb);clear hb)
      replace HI:=am_ HI.out.drew
      refine start_ (n:=4) (S:=fun w'=>w'.cell? ⟨g2,0,none⟩=some (.int .u64 b2)) (ds:=[]) #[false,false,false,false] (by kernel_rfl) rfl rfl (blk_cell HI.out.h2 0) (fun hHeld=>?_)
      generalize hWd:World.drew _=wd at HI hHeld ⊢;clear hWd
      refine pI 0 (some 48) ?_
      refine pI 2 (some 4) ?_
      refine take_ (i:=1) (N:=some 49) (v:=?_) (a':=?_) #[true,true,true,false] rfl rfl (by kernel_rfl) (fun _ _ _ h=>h) (Or.inl ⟨by rfl,?_⟩) hHeld ?_ ?_;rotate_left
      ·intro w' s0;go_simp;with_reducible rfl
      rotate_left
      ·simp only [Act.put,sl_,i64_w,i32_w];rfl
      refine oI 3 none (fun K hK=>?_)
      obtain ⟨hs5,hf5⟩:=cells1 HI.out.h5
      refine skip_ (w1:=?_) (by rfl) rfl ?_ ?_;rotate_left
      ·go_simp;rfl
      refine hK.out _ _ ((cell_far (p:=⟨g5,_,none⟩) HI.out.n25 _).trans hHeld) (fun hHeld=>?_)
      clear hK K;refine done_ (by kernel_rfl) ?_;(try go_wp2)
      refine bodyPost_ret (results_tc rfl _ _ g5 45 #[.int .u64 b2] (0,0) _ rfl (HI.out.set5 _).h5 Try.underlying45 rfl (by kernel_rfl)) rfl ?_
      exact ⟨by rw [← HT.out];rfl,(HI.out.set5 _).hB⟩
     ·rw [if_neg cd] at hT
      have d2:decide (wrap64 (d - roll_Pick.wt (rd l1 (i:Int)))<0)=false:=by rw [hd];exact df_ cd
      have HE:=am_ (And.intro hd (And.intro cd hw))
      replace HT:=am_ hT
      clear ci cd hw hd hT
      go_wp2_with (go_at_call 119;refine (roll_Pick.lit A1 c1 l1 g3 (i:Int) _ _ HI.out.h3 (Kd.C_below HR.out HI.out.hB) (by omega) (by have:=CI.out;omega) rfl).mono ?_;rintro e w' ⟨rfl,hb⟩;replace HI:=am_ (HI.out.step hb);clear hb)
      go_roundg (l1.length - (i+1))
      case measure=>have:=HK.out;have:=CI.out;omega
      case rel =>
       refine ⟨i+1,d - roll_Pick.wt (rd l1 (i:Int)),by rw [HE.out.1],?_,⟨by have:=HE.out.2.1;omega,by have:=HD.out;have:=HE.out.2.2;omega⟩,HT,⟨CI.out,rfl⟩,HI⟩
       congr 1;have:=HL.out;have:=CI.out;unfold wrap64;omega
    ·have d0:decide ((i:Int)<(l1.length:Int))=false:=df_ (by omega)
     have d1:decide (i<l1.length)=false:=df_ ci
     obtain rfl:i=l1.length:=by have:=HK.out;omega
     have hT:=HT.out
     rw [List.drop_length] at hT
     have hT:(-1:Int)=roll_Pick.at_ l1 0 b1:=hT
     replace HT:=am_ hT
     clear ci hT
     go_wp2
     replace HI:=am_ HI.out.drew
     refine start_ (n:=3) (S:=fun w'=>w'.cell? ⟨g2,0,none⟩=some (.int .u64 b2)) (ds:=[]) #[false,false,false] (by kernel_rfl) rfl rfl (blk_cell HI.out.h2 0) (fun hHeld=>?_)
     generalize hWd:World.drew _=wd at HI hHeld ⊢;clear hWd
     refine pI 1 (some 4) ?_
     refine take_ (i:=0) (N:=some 51) (v:=?_) (a':=?_) #[true,true,false] rfl rfl (by kernel_rfl) (fun _ _ _ h=>h) (Or.inl ⟨by rfl,?_⟩) hHeld ?_ ?_;rotate_left
     ·intro w' s0;go_simp;with_reducible rfl
     rotate_left
     ·simp only [Act.put,sl_,i64_w,i32_w];rfl
     refine oI 2 none (fun K hK=>?_)
     obtain ⟨hs5,hf5⟩:=cells1 HI.out.h5
     refine skip_ (w1:=?_) (by rfl) rfl ?_ ?_;rotate_left
     ·go_simp;rfl
     refine hK.out _ _ ((cell_far (p:=⟨g5,_,none⟩) HI.out.n25 _).trans hHeld) (fun hHeld=>?_)
     clear hK K;refine done_ (by kernel_rfl) ?_;(try go_wp2)
     refine bodyPost_ret (results_tc rfl _ _ g5 45 #[.int .u64 b2] (0,0) _ rfl (HI.out.set5 _).h5 Try.underlying45 rfl (by kernel_rfl)) rfl ?_
     exact ⟨by rw [← HT.out];rfl,(HI.out.set5 _).hB⟩
-- roll_Below


end Go.Proofs.Ytbdijpjlgokfkaa.P

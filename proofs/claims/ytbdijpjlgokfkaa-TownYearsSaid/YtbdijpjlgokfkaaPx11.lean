/- Functions of this seat as plain Lean functions, with proofs that the Go code comes to just their answers, or what stands between them and a law's statement; no conditions. (Laid by a program of this session, out of the kit's print.) -/
import Derived.Test.YtbdijpjlgokfkaaPx0
import Derived.Test.YtbdijpjlgokfkaaPx9
import Derived.Test.YtbdijpjlgokfkaaPx10
namespace Go.Proofs.Ytbdijpjlgokfkaa.P
open Go.RowKit Go.Proofs.YtbdijpjlgokfkaaW.PrintWords Go.Proofs.YtbdijpjlgokfkaaW.PrintLast Go.Proofs.YtbdijpjlgokfkaaW.PrintMore
attribute [local go_sem] max2_int min2_int max_two min_two max_three min_three max_four min_four   -- for this text's walks alone
set_option maxHeartbeats 8000000
set_option maxRecDepth 100000
set_option linter.unusedVariables false
set_option linter.unusedSimpArgs false

-- plug-in
/-! ### town_house: function 101 -/
-- HAND
def town_house.cnt (H:List S68) (t:Int):Nat:=H.countP (fun h=>decide (h.f0<t))
def town_house.inc (H:List S68):Prop:=H.Pairwise (fun a b=>a.f0<b.f0)
instance town_house.dec (H:List S68):Decidable (town_house.inc H):=inferInstanceAs (Decidable (H.Pairwise (fun a b=>a.f0<b.f0)))
def town_house.f (a0_0:Int) (l0_1:List S68) (l0_2:List Int) (a0_3:Int) (a0_4:Int) (a1:Int):Option (Int × Bool) :=
 if town_house.inc l0_1∧l0_1.length≤35184372088832 then some ((town_house.cnt l0_1 a1:Int),l0_1.any (fun h=>decide (h.f0=a1))) else none
theorem town_house.cmpf (x y:Int):cmp_Compare_int.f x y=some (if x<y then -1 else if x > y then 1 else 0):=by
 unfold cmp_Compare_int.f cmp_isNaN_int.f
 simp
 split
 ·rfl
 ·split <;> rfl
set_option maxHeartbeats 4000000 in
theorem town_house.lit (x:S68) (t u:Int) (w:World) (hu:(if x.f0<t then (-1:Int) else if x.f0 > t then 1 else 0)=u):Calls Try.prog 113 #[.agg #[.int .i64 x.f0,.int .i64 x.f1,.int .i64 x.f2],.int .i64 t] w fun e w'=>e=.returned (.int .i64 u)∧Below w.heap.size w w':=by
 have hu68:=Try.underlying68
 have hc:=town_house.cmpf x.f0 t
 rw [hu] at hc
 have HC:=am_ hc
 have HB:=am_ (Below.refl w.heap.size w)
 clear hc hu
 go_enter Try.func113,Try.ntmps113
 go_wp2_with (first
  | ((with_reducible refine gate_dst (N:=2) rfl ?_);refine box_ev (N:=2) (cs:=#[.int .i64 x.f0,.int .i64 x.f1,.int .i64 x.f2]) (t:=68) ?_;intro g hg w1 hbox hb;have BX:=am_ hbox;replace HB:=am_ (below_step (hb_) hb);clear hb hbox hg;obtain ⟨hc0,hc1,hc2,hf0,hf1,hf2⟩:=cells3 BX.out)
  | (go_at_call 114;refine (cmp_Compare_int.calls _ _ _ _ HC.out).mono ?_;rintro e w' ⟨rfl,⟨nd,rfl⟩⟩;replace HB:=am_ (pw_below_drewN HB.out nd)))
 go_ret
 exact ⟨rfl,HB.out⟩
theorem town_house.rd_eq (H:List S68) (q:Nat) (h:q<H.length):rd_T68 H (q:Int)=H[q]:=by
 unfold rd_T68
 simp [List.getD,h]
theorem town_house.inc_lt {H:List S68} (hi:town_house.inc H) {p q:Nat} (hpq:p<q) (hq:q<H.length):(rd_T68 H p).f0<(rd_T68 H q).f0:=by
 rw [town_house.rd_eq H p (by omega),town_house.rd_eq H q hq]
 exact List.pairwise_iff_getElem.1 hi p q (by omega) hq hpq
theorem town_house.cnt_eq:∀ (H:List S68) (t:Int) (i:Nat),i≤H.length→(∀ q,q<i→(rd_T68 H q).f0<t)→(∀ q,i≤q→q<H.length→t≤(rd_T68 H q).f0)→town_house.cnt H t=i
 | [],t,i,hi,_,_=>by simp at hi;subst hi;rfl
 | x :: H,t,i,hi,h1,h2=>by
  unfold town_house.cnt
  rw [List.countP_cons]
  have hx:rd_T68 (x :: H) ((0:Nat):Int)=x:=rfl
  have hs:∀ q:Nat,rd_T68 (x :: H) ((q+1:Nat):Int)=rd_T68 H (q:Int):=fun q=>by unfold rd_T68;simp [List.getD]
  cases i with
  | zero =>
   have h0:=h2 0 (Nat.le_refl _) (by simp)
   rw [hx] at h0
   have:=town_house.cnt_eq H t 0 (Nat.zero_le _) (fun q h=>absurd h (by omega)) (fun q _ hq=>by have:=h2 (q+1) (by omega) (by simp;omega);rwa [hs] at this)
   unfold town_house.cnt at this
   rw [this];simp;omega
  | succ i =>
   have h0:=h1 0 (by omega)
   rw [hx] at h0
   have:=town_house.cnt_eq H t i (by simp at hi;omega) (fun q h=>by have:=h1 (q+1) (by omega);rwa [hs] at this) (fun q hq hq2=>by have:=h2 (q+1) (by omega) (by simp;omega);rwa [hs] at this)
   unfold town_house.cnt at this
   rw [this];simp [h0]
theorem town_house.any_at {H:List S68} {t:Int} {i:Nat} (hi:town_house.inc H) (h1:∀ q,q<i→(rd_T68 H q).f0<t) (h2:∀ q,i≤q→q<H.length→t≤(rd_T68 H q).f0) :
  H.any (fun h=>decide (h.f0=t))=decide (i<H.length∧(rd_T68 H i).f0=t):=by
 by_cases c:i<H.length∧(rd_T68 H i).f0=t
 ·rw [dt_ c,List.any_eq_true]
  refine ⟨H[i]'c.1,List.getElem_mem _,dt_ ?_⟩
  rw [← town_house.rd_eq H i c.1];exact c.2
 ·rw [df_ c,List.any_eq_false]
  intro x hx
  obtain ⟨q,hq,rfl⟩:=List.mem_iff_getElem.1 hx
  rw [← town_house.rd_eq H q hq]
  simp only [decide_eq_true_eq]
  intro e
  by_cases cq:q<i
  ·have:=h1 q cq;omega
  ·have h3:=h2 q (by omega) hq
   by_cases ci:q=i
   ·subst ci;exact c ⟨hq,e⟩
   ·have h4:=town_house.inc_lt hi (show i<q by omega) hq
    have h5:=h2 i (Nat.le_refl _) (by omega)
    omega
theorem town_house.search (A:Option Addr) (c:Nat) (H:List S68) (t:Int) (w:World) (hr:Kd.C k68 w A H.length H) (hc:H.length≤c) (hi:town_house.inc H) (hn:H.length≤35184372088832) :
  Calls Try.prog 112 #[.slice A H.length c,.int .i64 t,.func (.func 113) #[] #[]] w fun e w'=>e=.returned (.tuple #[.int .i64 (town_house.cnt H t:Int),.bool (H.any (fun h=>decide (h.f0=t)))])∧Below w.heap.size w w':=by
 have hu68:=Try.underlying68
 have HR:=am_ hr
 have HI:=am_ hi
 have HN:=am_ hn
 have HB:=am_ (Below.refl w.heap.size w)
 clear hr hi hn
 go_enter Try.func112,Try.ntmps112
 go_wp2
 go_loopg [9,10] H.length (fun kq v9 v10 w'=>∃ (i j:Nat),v9=.int .i64 i∧v10=.int .i64 j∧Aside0 (i≤j∧j≤H.length∧kq=j - i)∧Aside0 (∀ q,q<i→(rd_T68 H q).f0<t)∧Aside0 (∀ q,j≤q→q<H.length→t≤(rd_T68 H q).f0)∧Aside0 (Below w.heap.size w w'))
 case atStart=>exact ⟨0,H.length,rfl,rfl,⟨Nat.zero_le _,Nat.le_refl _,by omega⟩,⟨fun q h=>absurd h (by omega)⟩,⟨fun q h h2=>absurd h (by omega)⟩,HB⟩
 case round =>
  clear HB
  obtain ⟨i,j,rfl,rfl,HIJ,HL,HG,HB⟩:=hrel
  have hmid:wrap64 (IntKind.u64.wrap (wrap64 ((i:Int)+(j:Int))) / 2)=(((i+j) / 2:Nat):Int):=by
   have h1:=HIJ.out
   have h2:=HN.out
   have e1:wrap64 ((i:Int)+(j:Int))=(i:Int)+(j:Int):=(show wrap64 _=_ from by unfold wrap64;omega)
   rw [e1]
   have e2:IntKind.u64.wrap ((i:Int)+(j:Int))=(i:Int)+(j:Int):=by
    unfold IntKind.wrap
    simp [IntKind.bits,IntKind.signed]
    omega
   rw [e2];unfold wrap64
   omega
  by_cases cij:i<j
  ·have c0:decide ((i:Int)<(j:Int))=true:=dt_ (by omega)
   obtain ⟨m,hm⟩:∃ m:Int,m=(((i+j) / 2:Nat):Int):=⟨_,rfl⟩
   rw [← hm] at hmid
   have c1:(0:Int)≤m:=by omega
   have c2:m<(H.length:Int):=by have:=HIJ.out;omega
   obtain ⟨ad,eA,hx0,hx1,hx2⟩:=at_T68 (Kd.C_below HR.out HB.out) m c1 c2
   subst eA
   have p1:=eq_true c1
   have p2:=eq_true c2
   have HM:=am_ (And.intro hm (And.intro c1 c2))
   clear hm
   by_cases cs:(rd_T68 H m).f0<t
   ·have s1:(if (rd_T68 H m).f0<t then (-1:Int) else if (rd_T68 H m).f0 > t then 1 else 0)= -1:=if_pos cs
    go_wp2_with (go_at_call 113;refine (town_house.lit (rd_T68 H m) t _ _ s1).mono ?_;rintro e w' ⟨rfl,hb⟩;replace HB:=am_ (below_step HB.out hb))
    go_roundg (j - ((i+j) / 2+1))
    case measure=>have:=HIJ.out;have:=HM.out;omega
    case rel =>
     have hij:=HIJ.out
     have hm:=HM.out
     refine ⟨(i+j) / 2+1,j,?_,rfl,⟨by omega,by omega,by omega⟩,⟨fun q hq=>?_⟩,HG,HB⟩
     ·congr 1;rw [hm.1];unfold wrap64;have:=HN.out;omega
     ·by_cases cq:q=(i+j) / 2
      ·subst cq;rw [← hm.1];exact cs
      ·exact Int.lt_trans (by have:=town_house.inc_lt HI.out (show q<(i+j) / 2 by omega) (by omega);exact this) (by rw [← hm.1];exact cs)
   ·have s1:∃ u:Int,(if (rd_T68 H m).f0<t then (-1:Int) else if (rd_T68 H m).f0 > t then 1 else 0)=u∧decide (u<0)=false:=by
     rw [if_neg cs];split <;> exact ⟨_,rfl,rfl⟩
    obtain ⟨u,s1,s2⟩:=s1
    go_wp2_with (go_at_call 113;refine (town_house.lit (rd_T68 H m) t _ _ s1).mono ?_;rintro e w' ⟨rfl,hb⟩;replace HB:=am_ (below_step HB.out hb))
    go_roundg ((i+j) / 2 - i)
    case measure=>have:=HIJ.out;have:=HM.out;omega
    case rel =>
     have hij:=HIJ.out
     have hm:=HM.out
     refine ⟨i,(i+j) / 2,rfl,by rw [hm.1],⟨by omega,by omega,rfl⟩,HL,⟨fun q hq hq2=>?_⟩,HB⟩
     by_cases cq:q=(i+j) / 2
     ·subst cq;rw [← hm.1];omega
     ·have h1:=town_house.inc_lt HI.out (show (i+j) / 2<q by omega) hq2
      rw [← hm.1] at h1
      omega
  ·have c0:decide ((i:Int)<(j:Int))=false:=df_ (by omega)
   obtain rfl:i=j:=by have:=HIJ.out;omega
   have e1:=town_house.cnt_eq H t i HIJ.out.2.1 HL.out HG.out
   have e2:=town_house.any_at HI.out HL.out HG.out
   have E1:=am_ e1
   have E2:=am_ e2
   clear e1 e2
   by_cases ci:i<H.length
   ·have c3:decide ((i:Int)<(H.length:Int))=true:=dt_ (by omega)
    have c4:decide (i<H.length)=true:=dt_ ci
    obtain ⟨ad,eA,hx0,hx1,hx2⟩:=at_T68 (Kd.C_below HR.out HB.out) (i:Int) (by omega) (by omega)
    subst eA
    simp only [Int.toNat_natCast] at hx0 hx1 hx2
    have p1:=eq_true (show (0:Int)≤(i:Int) by omega)
    have p2:=eq_true (show (i:Int)<(H.length:Int) by omega)
    have s1:∃ u:Int,(if (rd_T68 H i).f0<t then (-1:Int) else if (rd_T68 H i).f0 > t then 1 else 0)=u∧(u == 0)=decide (i<H.length∧(rd_T68 H i).f0=t):=by
     refine ⟨_,rfl,?_⟩
     have:=HG.out i (Nat.le_refl _) ci
     rw [if_neg (by omega)]
     by_cases ce:(rd_T68 H i).f0=t
     ·rw [if_neg (by omega),dt_ ⟨ci,ce⟩];rfl
     ·rw [if_pos (by omega),df_ (fun h=>ce h.2)];rfl
    obtain ⟨u,s1,s2⟩:=s1
    have S2:=am_ s2
    clear s2
    go_wp2_with (go_at_call 113;refine (town_house.lit (rd_T68 H i) t _ _ s1).mono ?_;rintro e w' ⟨rfl,hb⟩;replace HB:=am_ (below_step HB.out hb))
    go_ret2
    exact ⟨by rw [E1.out,E2.out,← S2.out];rfl,HB.out⟩
   ·have c3:decide ((i:Int)<(H.length:Int))=false:=df_ (by omega)
    have c4:decide (i<H.length)=false:=df_ ci
    go_wp2
    go_ret2
    exact ⟨by rw [E1.out,E2.out,df_ (fun h=>ci h.1)];rfl,HB.out⟩
theorem town_house.calls (a0_0:Int) (A0_1:Option Addr) (c0_1:Nat) (l0_1:List S68) (A0_2:Option Addr) (c0_2:Nat) (l0_2:List Int) (a0_3:Int) (a0_4:Int) (a1:Int) (r1:Int) (r2:Bool) (w:World) (hr0_1:Kd.C k68 w A0_1 l0_1.length l0_1) (hc0_1:l0_1.length≤c0_1) (hr0_2:Kd.C (Kd.int .i64) w A0_2 l0_2.length l0_2) (hc0_2:l0_2.length≤c0_2) (h:town_house.f a0_0 l0_1 l0_2 a0_3 a0_4 a1=some (r1,r2)) :
  Calls Try.prog 101 #[.agg #[.int .i64 a0_0,.slice A0_1 l0_1.length c0_1,.slice A0_2 l0_2.length c0_2,.int .i64 a0_3,.int .i64 a0_4],.int .i64 a1] w fun e w'=>e=.returned (.tuple #[.int .i64 r1,.bool r2])∧Below w.heap.size w w':=by
 have hu25:=Try.underlying25
 unfold town_house.f at h
 by_cases hc:town_house.inc l0_1∧l0_1.length≤35184372088832
 rotate_left
 ·rw [if_neg hc] at h;exact absurd h (by simp)
 rw [if_pos hc] at h
 simp only [Option.some.injEq,Prod.mk.injEq] at h
 obtain ⟨rfl,rfl⟩:=h
 have HR:=am_ hr0_1
 have HC:=am_ hc
 have HB:=am_ (Below.refl w.heap.size w)
 clear hr0_1 hr0_2 hc
 go_enter Try.func101,Try.ntmps101
 go_wp2_with (first
  | ((with_reducible refine gate_dst (N:=2) rfl ?_);refine box_ev (N:=2) (cs:=#[.int .i64 a0_0,.slice A0_1 l0_1.length c0_1,.slice A0_2 l0_2.length c0_2,.int .i64 a0_3,.int .i64 a0_4]) (t:=25) ?_;intro g hg w1 hbox hb;have BX:=am_ hbox;replace HB:=am_ (below_step (hb_) hb);clear hb hbox hg;obtain ⟨hb0,hb1,hb2,hb3,hb4,hf0,hf1,hf2,hf3,hf4⟩:=cells5 BX.out)
  | (go_at_call 112;refine (town_house.search A0_1 c0_1 l0_1 a1 _ (Kd.C_below HR.out HB.out) hc0_1 HC.out.1 HC.out.2).mono ?_;rintro e w' ⟨rfl,hb⟩;replace HB:=am_ (below_step HB.out hb)))
 go_ret2
 exact ⟨rfl,HB.out⟩
-- 112 113 cmp_Compare_int


end Go.Proofs.Ytbdijpjlgokfkaa.P

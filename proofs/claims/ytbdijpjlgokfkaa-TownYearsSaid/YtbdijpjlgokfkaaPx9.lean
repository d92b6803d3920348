/- Functions of this seat as plain Lean functions, with proofs that the Go code comes to just their answers, or what stands between them and a law's statement; no conditions. (Laid by a program of this session, out of the kit's print.) -/
import Derived.Test.YtbdijpjlgokfkaaPx0
import Derived.Test.YtbdijpjlgokfkaaPx2
namespace Go.Proofs.Ytbdijpjlgokfkaa.P
open Go.RowKit Go.Proofs.YtbdijpjlgokfkaaW.PrintWords Go.Proofs.YtbdijpjlgokfkaaW.PrintLast Go.Proofs.YtbdijpjlgokfkaaW.PrintMore
attribute [local go_sem] max2_int min2_int max_two min_two max_three min_three max_four min_four   -- for this text's walks alone
set_option maxHeartbeats 8000000
set_option maxRecDepth 100000
set_option linter.unusedVariables false
set_option linter.unusedSimpArgs false

/-! ### town_name: function 52 -/
def town_name.l0:Nat→ByteArray→Int→Int→Option (Bool)
 | 0,_,_,_=>none
 | k+1,x0,x5,x6=>if x6<x5 then (if 0≤x6 then (if x6<(x0.size:Int) then (if (bt x0 x6)<97 then (some false) else (if (bt x0 x6) > 122 then (some false) else (town_name.l0 k x0 x5 (wrap64 (x6+1))))) else (none)) else (none)) else (if (x0.size:Int)≥1 then (some (decide ((x0.size:Int)≤12))) else (some false))
def town_name.f (k:Nat) (a0:ByteArray):Option (Bool):=town_name.l0 k a0 (a0.size:Int) 0
theorem town_name.mono_l:∀ k,(∀ y0 y1 y2,LeO (town_name.l0 k y0 y1 y2) (town_name.l0 (k+1) y0 y1 y2))
 | 0=>fun _ _ _ r h=>by simp [town_name.l0] at h
 | k+1=>by
  have ih0:=town_name.mono_l k
  ·intro y0 y1 y2;unfold town_name.l0;repeat' with_reducible first|exact ih0 _ _ _|apply lr_|apply ln_|apply li_|refine lb_ ?_ fun _=>?_
theorem town_name.mono:∀ a0 k,LeO (town_name.f k a0) (town_name.f (k+1) a0):=by
 intro a0 k;have ih0:=town_name.mono_l k;unfold town_name.f;repeat' with_reducible first|exact ih0 _ _ _|apply lr_|apply ln_|apply li_|refine lb_ ?_ fun _=>?_
theorem town_name.calls (k:Nat) (a0:ByteArray) (r:Bool) (w:World) (h:town_name.f k a0=some r) :
  Calls Try.prog 52 #[.string a0] w fun e w'=>e=.returned (.bool r)∧Drawn0 w w':=by
 have H:=h;clear h;unfold town_name.f at H;have H':=am_ H;clear H;go_enter Try.func52,Try.ntmps52;go_wp2
 go_loopg [6] k (fun kq v6 w'=>∃ (x6_1:Int),v6=.int .i64 x6_1∧Aside0 (town_name.l0 kq a0 (a0.size:Int) x6_1=some r)∧Aside0 (kq≤k)∧Drawn0 w w')
 case atStart=>exact ⟨(0),fr_,H',⟨Nat.le_refl _⟩,dr_⟩
 case round =>
  clear H';obtain ⟨x6_1,rfl,HA,HK1,⟨m1,rfl⟩⟩:=hrel;cases gk with
  | zero=>exact absurd HA.out (by simp [town_name.l0])
  | succ k1 =>
   have H:=HA.out;clear HA;simp only [town_name.l0] at H;by_cases c2:x6_1<(a0.size:Int);rotate_left
   ·rw [if_neg c2] at H;have c2b0:=df_ c2;clear c2;by_cases c9:(a0.size:Int)≥1
    ·rw [if_pos c9] at H;have c9b0:=dt_ c9;have c9b1:decide (1≤a0.size)=true:=dt_ (by omega);clear c9;obtain rfl:=oj_ H;go_wp2
     go_ret
     exact ⟨fr_,dr_⟩
    ·rw [if_neg c9] at H;have c9b0:=df_ c9;have c9b1:decide (1≤a0.size)=false:=df_ (by omega);clear c9;obtain rfl:=oj_ H;go_wp2
     go_ret
     exact ⟨fr_,dr_⟩
   rw [if_pos c2] at H;have c2b0:=dt_ c2;clear c2;obtain ⟨c3,H⟩:=ifp_ H;have c3b0:=dt_ c3;clear c3;obtain ⟨c4,H⟩:=ifp_ H;have c4b0:=dt_ c4;clear c4;by_cases c6:(bt a0 x6_1)<97
   ·rw [if_pos c6] at H;have c6b0:=dt_ c6;clear c6;obtain rfl:=oj_ H;have p5:0≤(x6_1:Int):=ofd;have q5:x6_1<(a0.size:Int):=ofd;have hx5:=bt_at a0 x6_1;replace p5:=eq_true p5;replace q5:=eq_true q5;go_wp2
    go_ret
    exact ⟨fr_,dr_⟩
   rw [if_neg c6] at H;have c6b0:=df_ c6;clear c6;by_cases c8:(bt a0 x6_1) > 122
   ·rw [if_pos c8] at H;have c8b0:=dt_ c8;clear c8;obtain rfl:=oj_ H;have p5:0≤(x6_1:Int):=ofd;have q5:x6_1<(a0.size:Int):=ofd;have hx5:=bt_at a0 x6_1;replace p5:=eq_true p5;replace q5:=eq_true q5;have p7:0≤(x6_1:Int):=ofd;have q7:x6_1<(a0.size:Int):=ofd;have hx7:=bt_at a0 x6_1;replace p7:=eq_true p7;replace q7:=eq_true q7;go_wp2
    go_ret
    exact ⟨fr_,dr_⟩
   ·rw [if_neg c8] at H;have c8b0:=df_ c8;clear c8;have H':=am_ H;clear H;have p5:0≤(x6_1:Int):=ofd;have q5:x6_1<(a0.size:Int):=ofd;have hx5:=bt_at a0 x6_1;replace p5:=eq_true p5;replace q5:=eq_true q5;have p7:0≤(x6_1:Int):=ofd;have q7:x6_1<(a0.size:Int):=ofd;have hx7:=bt_at a0 x6_1;replace p7:=eq_true p7;replace q7:=eq_true q7;go_wp2
    go_roundg k1
    case measure=>have:=HK1.out;omega
    case rel=>exact ⟨(wrap64 (x6_1+1)),fr_,H',⟨by have:=HK1.out;omega⟩,dr_⟩

/-! ### town_ValidateKinds: function 25 -/
mutual
def town_ValidateKinds.l0:Nat→List (S80)→List (S80)→Int→Int→Option (Int)
 | 0,_,_,_,_=>none
 | k+1,x0,x12,x13,x14=>if x14<x13 then (if 0≤x14 then (if x14<(x12.length:Int) then ((town_name.f k ((rd_T80 x12 x14).f0)).bind fun t317=>(if t317=true then ((town_within.f ((rd_T80 x12 x14).f1) 1000).bind fun t318=>(if t318=true then ((town_within.f ((rd_T80 x12 x14).f2) 1000).bind fun t319=>(if t319=true then ((town_within.f ((rd_T80 x12 x14).f3) 1048576).bind fun t320=>(if t320=true then (town_ValidateKinds.l0 k x0 x12 x13 (wrap64 (x14+1))) else (some 1))) else (some 1))) else (some 1))) else (some 1))) else (none)) else (none)) else (town_ValidateKinds.l1 k x0 x0 (x0.length:Int) 0)
def town_ValidateKinds.l1:Nat→List (S80)→List (S80)→Int→Int→Option (Int)
 | 0,_,_,_,_=>none
 | k+1,x0,x41,x42,x43=>if x43<x42 then (if 0≤x43 then (if x43<(x41.length:Int) then (if x43≤(x0.length:Int) then ((some (x0.take (x43:Int).toNat:List (S80))).bind fun y323=>(town_ValidateKinds.l2 k x0 x41 x42 x43 y323 (y323.length:Int) 0 ((rd_T80 x41 x43).f0) ((rd_T80 x41 x43).f1) ((rd_T80 x41 x43).f2) ((rd_T80 x41 x43).f3))) else (none)) else (none)) else (none)) else (some 0)
def town_ValidateKinds.l2:Nat→List (S80)→List (S80)→Int→Int→List (S80)→Int→Int→ByteArray→Int→Int→Int→Option (Int)
 | 0,_,_,_,_,_,_,_,_,_,_,_=>none
 | k+1,x0,x41,x42,x43,x50,x51,x52,x323000,x323001,x323002,x323003=>if x52<x51 then (if 0≤x52 then (if x52<(x50.length:Int) then (if x323000.toList=((rd_T80 x50 x52).f0).toList then (some 3) else (town_ValidateKinds.l2 k x0 x41 x42 x43 x50 x51 (wrap64 (x52+1)) x323000 x323001 x323002 x323003)) else (none)) else (none)) else (town_ValidateKinds.l1 k x0 x41 x42 (wrap64 (x43+1)))
end
def town_ValidateKinds.f (k:Nat) (l0:List (S80)):Option (Int):=if (l0.length:Int) > 16 then (some 4) else (town_ValidateKinds.l0 k l0 l0 (l0.length:Int) 0)
theorem town_ValidateKinds.mono_l:∀ k,(∀ y0 y1 y2 y3,LeO (town_ValidateKinds.l0 k y0 y1 y2 y3) (town_ValidateKinds.l0 (k+1) y0 y1 y2 y3))∧(∀ y0 y1 y2 y3,LeO (town_ValidateKinds.l1 k y0 y1 y2 y3) (town_ValidateKinds.l1 (k+1) y0 y1 y2 y3))∧(∀ y0 y1 y2 y3 y4 y5 y6 y7 y8 y9 y10,LeO (town_ValidateKinds.l2 k y0 y1 y2 y3 y4 y5 y6 y7 y8 y9 y10) (town_ValidateKinds.l2 (k+1) y0 y1 y2 y3 y4 y5 y6 y7 y8 y9 y10))
 | 0=>⟨fun _ _ _ _ r h=>by simp [town_ValidateKinds.l0] at h,fun _ _ _ _ r h=>by simp [town_ValidateKinds.l1] at h,fun _ _ _ _ _ _ _ _ _ _ _ r h=>by simp [town_ValidateKinds.l2] at h⟩
 | k+1=>by
  obtain ⟨ih0,ih1,ih2⟩:=town_ValidateKinds.mono_l k;refine ⟨?_,?_,?_⟩
  ·intro y0 y1 y2 y3;unfold town_ValidateKinds.l0;repeat' with_reducible first|exact ih0 _ _ _ _|exact ih1 _ _ _ _|exact ih2 _ _ _ _ _ _ _ _ _ _ _|apply town_name.mono|apply lr_|apply ln_|apply li_|refine lb_ ?_ fun _=>?_
  ·intro y0 y1 y2 y3;unfold town_ValidateKinds.l1;repeat' with_reducible first|exact ih0 _ _ _ _|exact ih1 _ _ _ _|exact ih2 _ _ _ _ _ _ _ _ _ _ _|apply town_name.mono|apply lr_|apply ln_|apply li_|refine lb_ ?_ fun _=>?_
  ·intro y0 y1 y2 y3 y4 y5 y6 y7 y8 y9 y10;unfold town_ValidateKinds.l2;repeat' with_reducible first|exact ih0 _ _ _ _|exact ih1 _ _ _ _|exact ih2 _ _ _ _ _ _ _ _ _ _ _|apply town_name.mono|apply lr_|apply ln_|apply li_|refine lb_ ?_ fun _=>?_
theorem town_ValidateKinds.mono:∀ a0 k,LeO (town_ValidateKinds.f k a0) (town_ValidateKinds.f (k+1) a0):=by
 intro a0 k;obtain ⟨ih0,ih1,ih2⟩:=town_ValidateKinds.mono_l k;unfold town_ValidateKinds.f;repeat' with_reducible first|exact ih0 _ _ _ _|exact ih1 _ _ _ _|exact ih2 _ _ _ _ _ _ _ _ _ _ _|apply town_name.mono|apply lr_|apply ln_|apply li_|refine lb_ ?_ fun _=>?_
theorem town_ValidateKinds.calls (k:Nat) (A0:Option Addr) (c0:Nat) (l0:List (S80)) (r:Int) (w:World) (hr0:Kd.C k80 w A0 l0.length l0) (hc0:l0.length≤c0) (h:town_ValidateKinds.f k l0=some r) :
  Calls Try.prog 25 #[.slice A0 l0.length c0] w fun e w'=>e=.returned (.int .i64 r)∧Below w.heap.size w w':=by
 have hu80:=Try.underlying80;have HR0:=am_ hr0;have HC0:=am_ hc0;clear hr0 hc0;have HB:=am_ (Below.refl w.heap.size w);have H:=h;clear h;unfold town_ValidateKinds.f at H;by_cases c2:(l0.length:Int) > 16
 ·rw [if_pos c2] at H;have c2b0:=dt_ c2;have c2b1:decide (16<l0.length)=true:=dt_ (by omega);clear c2;obtain rfl:=oj_ H;go_enter Try.func25,Try.ntmps25;go_wp2
  go_ret
  exact ⟨er_,hb_⟩
 rw [if_neg c2] at H;have c2b0:=df_ c2;have c2b1:decide (16<l0.length)=false:=df_ (by omega);clear c2;have H':=am_ H;clear H;go_enter Try.func25,Try.ntmps25;go_wp2
 go_loopg [14] k (fun kq v14 w'=>∃ (x14_1:Int),v14=.int .i64 x14_1∧Aside0 (town_ValidateKinds.l0 kq l0 l0 (l0.length:Int) x14_1=some r)∧Aside0 (kq≤k)∧Aside0 (Below w.heap.size w w'))
 case atStart=>exact ⟨(0),fr_,H',⟨Nat.le_refl _⟩,⟨hb_⟩⟩
 case round =>
  clear H';obtain ⟨x14_1,rfl,HA,HK1,HB⟩:=hrel;cases gk with
  | zero=>exact absurd HA.out (by simp [town_ValidateKinds.l0])
  | succ k1 =>
   have H:=HA.out;clear HA;simp only [town_ValidateKinds.l0] at H;by_cases c3:x14_1<(l0.length:Int);rotate_left
   ·rw [if_neg c3] at H;have c3b0:=df_ c3;clear c3;have H':=am_ H;clear H;go_wp2
    go_loopg [43] k1 (fun kq v43 w'=>∃ (x43_2:Int),v43=.int .i64 x43_2∧Aside0 (town_ValidateKinds.l1 kq l0 l0 (l0.length:Int) x43_2=some r)∧Aside0 (kq≤k1)∧Aside0 (Below w.heap.size w w'))
    case atStart=>exact ⟨(0),fr_,H',⟨Nat.le_refl _⟩,⟨hb_⟩⟩
    case round =>
     clear H';obtain ⟨x43_2,rfl,HA,HK2,HB⟩:=hrel;cases gk with
     | zero=>exact absurd HA.out (by simp [town_ValidateKinds.l1])
     | succ k2 =>
      have H:=HA.out;clear HA;simp only [town_ValidateKinds.l1] at H;by_cases c24:x43_2<(l0.length:Int);rotate_left
      ·rw [if_neg c24] at H;have c24b0:=df_ c24;clear c24;obtain rfl:=oj_ H;go_wp2
       go_ret
       exact ⟨er_,hb_⟩
      rw [if_pos c24] at H;have c24b0:=dt_ c24;clear c24;obtain ⟨c25,H⟩:=ifp_ H;have c25b0:=dt_ c25;clear c25;obtain ⟨c26,H⟩:=ifp_ H;have c26b0:=dt_ c26;clear c26;have c27b0:=eq_true (ofd:0≤x43_2);obtain ⟨c28,H⟩:=ifp_ H;have c28b0:=eq_true c28;have c28b1:=dt_ c28;clear c28;obtain ⟨y323,hy323⟩:∃ y_:List (S80),y_=(l0.take (x43_2:Int).toNat):=⟨_,rfl⟩;replace H:(town_ValidateKinds.l2 k2 l0 l0 (l0.length:Int) x43_2 y323 (y323.length:Int) 0 ((rd_T80 l0 x43_2).f0) ((rd_T80 l0 x43_2).f1) ((rd_T80 l0 x43_2).f2) ((rd_T80 l0 x43_2).f3))=some r:=hyx hy323 H;have Ny323:=am_ hy323;clear hy323;have H':=am_ H;clear H;have p321:0≤(x43_2:Int):=ofd;have q321:x43_2<(l0.length:Int):=ofd;obtain ⟨ad321,e321,hx321_0,hx321_1,hx321_2,hx321_3⟩:=at_T80 HR0.out x43_2 p321 q321;cases e321;replace hx321_0:=hbc HB hx321_0;replace hx321_1:=hbc HB hx321_1;replace hx321_2:=hbc HB hx321_2;replace hx321_3:=hbc HB hx321_3;replace p321:=eq_true p321;replace q321:=eq_true q321;go_wp2_with (first|((with_reducible refine gate_dst (N:=6) rfl ?_);refine box_ev (N:=6) (cs:=#[.string (⟨#[]⟩:ByteArray),.int .i64 0,.int .i64 0,.int .i64 0]) (t:=80) ?_;intro gb322 hg w29 hbox hb;have BK322:=am_ hbox;have GW322:=gsz (w:=w) hg;have GE322:=GW322;replace HB:=hbs hb;clear hb hbox hg;obtain ⟨_,_,_,_,_,_,_,_⟩:=cells4 BK322.out)|((with_reducible refine gate_store (t:=80) (p:=6) rfl ?_);refine store_event (t:=80) (p:=6) (v:=?vo_w31) (w1:=((((w29.setCell ⟨gb322,0,none⟩ (.string ((rd_T80 l0 x43_2).f0))).setCell ⟨gb322,1,none⟩ (.int .i64 ((rd_T80 l0 x43_2).f1))).setCell ⟨gb322,2,none⟩ (.int .i64 ((rd_T80 l0 x43_2).f2))).setCell ⟨gb322,3,none⟩ (.int .i64 ((rd_T80 l0 x43_2).f3)))) ?hg ?ho ?hn ?hr ?_;(case ho=>rfl);(case hg=>rfl);(case hn=>rfl);(case hr=>first|(go_simp;done)|(go_simp;rfl));intro w31 hw;have n0_:Aside0 (w31.heap[gb322]?=some (.cells #[.string ((rd_T80 l0 x43_2).f0),.int .i64 ((rd_T80 l0 x43_2).f1),.int .i64 ((rd_T80 l0 x43_2).f2),.int .i64 ((rd_T80 l0 x43_2).f3)] 80 (0,0))):=⟨(by rw [hw];exact (by (with_reducible repeat (first|refine blk_drewN ?_ _|refine blk_drew ?_|refine blk_alloc ?_ _));exact blk_puts4 (blk_up BK322.out)))⟩;have n1_:Aside0 (Below w.heap.size w w31):=⟨(by rw [hw];exact (hb_))⟩;clear hw;clear BK322;clear HB;have BK322:=n0_;have HB:=n1_;clear n0_ n1_;have q32:(x43_2:Int)≤((l0.length:Int):Int):=ofd;obtain ⟨i032,hi032,_,hsz32,_⟩:=info_parts info80;have hroom32:l0.length≤c0:=HC0.out;have hC32:Kd.C k80 _ (some ad321) l0.length l0:=HR0.out;have hcut32:=cut_to (P:=Try.prog) 40 80 .i64 Try.underlying40 hi032 (some ad321) l0.length c0 x43_2 (ofd) q32 hroom32;have hr32:=Kd.C_take (m:=(x43_2:Int).toNat) hC32 (by omega);have hy32:y323.length=(x43_2:Int).toNat:=(by rw [Ny323.out,List.length_take];omega);rw [← Ny323.out] at hr32;rw [← hy32] at hcut32;have HR326:=am_ hr32;have HC326:=am_ (show y323.length≤c0 from by omega);clear hr32 hC32 hroom32 hi032 hsz32;have KY32:=am_ hy32;clear hy32;replace q32:=eq_true q32))
      go_loopg [52] k2 (fun kq v52 w'=>∃ (x52_3:Int),v52=.int .i64 x52_3∧Aside0 (town_ValidateKinds.l2 kq l0 l0 (l0.length:Int) x43_2 y323 (y323.length:Int) x52_3 ((rd_T80 l0 x43_2).f0) ((rd_T80 l0 x43_2).f1) ((rd_T80 l0 x43_2).f2) ((rd_T80 l0 x43_2).f3)=some r)∧Aside0 (kq≤k2)∧Aside0 (w'.heap[gb322]?=some (.cells #[.string ((rd_T80 l0 x43_2).f0),.int .i64 ((rd_T80 l0 x43_2).f1),.int .i64 ((rd_T80 l0 x43_2).f2),.int .i64 ((rd_T80 l0 x43_2).f3)] 80 (0,0)))∧Aside0 (Below w.heap.size w w'))
      case atStart=>exact ⟨(0),fr_,H',⟨Nat.le_refl _⟩,⟨blk_up BK322.out⟩,⟨hb_⟩⟩
      case round =>
       clear H';obtain ⟨x52_3,rfl,HA,HK3,BK322,HB⟩:=hrel;cases gk with
       | zero=>exact absurd HA.out (by simp [town_ValidateKinds.l2])
       | succ k3 =>
        have H:=HA.out;clear HA;simp only [town_ValidateKinds.l2] at H;by_cases c33:x52_3<(y323.length:Int)
        ·rw [if_pos c33] at H;have c33b0:=dt_ c33;clear c33;obtain ⟨c34,H⟩:=ifp_ H;have c34b0:=dt_ c34;clear c34;obtain ⟨c35,H⟩:=ifp_ H;have c35b0:=dt_ c35;clear c35;by_cases c36:((rd_T80 l0 x43_2).f0).toList=((rd_T80 y323 x52_3).f0).toList
         ·rw [if_pos c36] at H;have c36b0:=bqt c36;have c36b1:=bnf c36;clear c36;obtain rfl:=oj_ H;have p327:0≤(x52_3:Int):=ofd;have q327:x52_3<(y323.length:Int):=ofd;obtain ⟨ad327,e327,hx327_0,hx327_1,hx327_2,hx327_3⟩:=at_T80 HR326.out x52_3 p327 q327;obtain rfl:ad321=ad327:=(by injection e327);replace hx327_0:=hbc HB hx327_0;replace hx327_1:=hbc HB hx327_1;replace hx327_2:=hbc HB hx327_2;replace hx327_3:=hbc HB hx327_3;replace p327:=eq_true p327;replace q327:=eq_true q327;go_wp2_with (first|((with_reducible refine gate_dst (N:=8) rfl ?_);refine box_ev (N:=8) (cs:=#[.string (⟨#[]⟩:ByteArray),.int .i64 0,.int .i64 0,.int .i64 0]) (t:=80) ?_;intro gb328 hg w37 hbox hb;have BK328:=am_ hbox;have GW328:=gsz (w:=w) hg;have GE328:=GW328;have NB322_328:=nbl BK322 hg;have NB328_322:=nbr BK322 hg;replace BK322:=bkb BK322 hb;replace HB:=hbs hb;clear hb hbox hg;have hnb38:=NB328_322.out;have hnc38:=NB322_328.out;obtain ⟨_,_,_,_,_,_,_,_⟩:=cells4 BK328.out;obtain ⟨_,_,_,_,_,_,_,_⟩:=cells4 BK322.out))
          go_ret
          exact ⟨er_,hb_⟩
         ·rw [if_neg c36] at H;have c36b0:=bqf c36;have c36b1:=bnt c36;have H':=am_ H;clear H;have p327:0≤(x52_3:Int):=ofd;have q327:x52_3<(y323.length:Int):=ofd;obtain ⟨ad327,e327,hx327_0,hx327_1,hx327_2,hx327_3⟩:=at_T80 HR326.out x52_3 p327 q327;obtain rfl:ad321=ad327:=(by injection e327);replace hx327_0:=hbc HB hx327_0;replace hx327_1:=hbc HB hx327_1;replace hx327_2:=hbc HB hx327_2;replace hx327_3:=hbc HB hx327_3;replace p327:=eq_true p327;replace q327:=eq_true q327;go_wp2_with (first|((with_reducible refine gate_dst (N:=8) rfl ?_);refine box_ev (N:=8) (cs:=#[.string (⟨#[]⟩:ByteArray),.int .i64 0,.int .i64 0,.int .i64 0]) (t:=80) ?_;intro gb328 hg w41 hbox hb;have BK328:=am_ hbox;have GW328:=gsz (w:=w) hg;have GE328:=GW328;have NB322_328:=nbl BK322 hg;have NB328_322:=nbr BK322 hg;replace BK322:=bkb BK322 hb;replace HB:=hbs hb;clear hb hbox hg;have hnb42:=NB328_322.out;have hnc42:=NB322_328.out;obtain ⟨_,_,_,_,_,_,_,_⟩:=cells4 BK328.out;obtain ⟨_,_,_,_,_,_,_,_⟩:=cells4 BK322.out))
          go_roundg k3
          case measure=>have:=HK1.out;have:=HK2.out;have:=HK3.out;omega
          case rel=>exact ⟨(wrap64 (x52_3+1)),fr_,H',⟨by have:=HK1.out;have:=HK2.out;have:=HK3.out;omega⟩,⟨by refine blkW ?_;refine blk_far ?_ NB322_328.out _;refine blkW ?_;refine blk_far ?_ NB322_328.out _;refine blkW ?_;refine blk_far ?_ NB322_328.out _;refine blkW ?_;refine blk_far ?_ NB322_328.out _;refine blkW ?_;exact BK322.out⟩,⟨hb_⟩⟩
        ·rw [if_neg c33] at H;have c33b0:=df_ c33;clear c33;have H':=am_ H;clear H;go_wp2
         go_roundg k3
         case measure=>have:=HK1.out;have:=HK2.out;have:=HK3.out;omega
         case rel=>exact ⟨(wrap64 (x43_2+1)),fr_,H',⟨by have:=HK1.out;have:=HK2.out;have:=HK3.out;omega⟩,⟨hb_⟩⟩
   rw [if_pos c3] at H;have c3b0:=dt_ c3;clear c3;obtain ⟨c4,H⟩:=ifp_ H;have c4b0:=dt_ c4;clear c4;obtain ⟨c5,H⟩:=ifp_ H;have c5b0:=dt_ c5;clear c5;obtain ⟨t317,A6,H⟩:=bnd H;by_cases c7:t317=true
   ·subst c7;rw [if_pos rfl] at H;obtain ⟨t318,A8,H⟩:=bnd H;by_cases c9:t318=true
    ·subst c9;rw [if_pos rfl] at H;obtain ⟨t319,A10,H⟩:=bnd H;by_cases c11:t319=true
     ·subst c11;rw [if_pos rfl] at H;obtain ⟨t320,A12,H⟩:=bnd H;by_cases c13:t320=true
      ·subst c13;rw [if_pos rfl] at H;have H':=am_ H;clear H;have p315:0≤(x14_1:Int):=ofd;have q315:x14_1<(l0.length:Int):=ofd;obtain ⟨ad315,e315,hx315_0,hx315_1,hx315_2,hx315_3⟩:=at_T80 HR0.out x14_1 p315 q315;cases e315;replace hx315_0:=hbc HB hx315_0;replace hx315_1:=hbc HB hx315_1;replace hx315_2:=hbc HB hx315_2;replace hx315_3:=hbc HB hx315_3;replace p315:=eq_true p315;replace q315:=eq_true q315;go_wp2_with (first|((with_reducible refine gate_dst (N:=4) rfl ?_);refine box_ev (N:=4) (cs:=#[.string (⟨#[]⟩:ByteArray),.int .i64 0,.int .i64 0,.int .i64 0]) (t:=80) ?_;intro gb316 hg w14 hbox hb;have BK316:=am_ hbox;have GW316:=gsz (w:=w) hg;have GE316:=GW316;replace HB:=hbs hb;clear hb hbox hg;obtain ⟨_,_,_,_,_,_,_,_⟩:=cells4 BK316.out)|((with_reducible refine gate_callee (f:=52) rfl ?_);refine goesL_ (some 20) rfl rfl Try.func52 (by kernel_rfl) rfl #[.string ((rd_T80 l0 x14_1).f0)] rfl ga_ ?_;(with_reducible refine (town_name.calls k1 ((rd_T80 l0 x14_1).f0) true _ A6.out).mono ?_);rintro e w' ⟨rfl,⟨nd,rfl⟩⟩;refine ⟨_,rfl,?_⟩)|(go_at_call 53;(with_reducible refine (town_within.calls ((rd_T80 l0 x14_1).f1) 1000 true _ A8.out).mono ?_);rintro e w' ⟨rfl,⟨nd,rfl⟩⟩)|(go_at_call 53;(with_reducible refine (town_within.calls ((rd_T80 l0 x14_1).f2) 1000 true _ A10.out).mono ?_);rintro e w' ⟨rfl,⟨nd,rfl⟩⟩)|(go_at_call 53;(with_reducible refine (town_within.calls ((rd_T80 l0 x14_1).f3) 1048576 true _ A12.out).mono ?_);rintro e w' ⟨rfl,⟨nd,rfl⟩⟩))
       go_roundg k1
       case measure=>have:=HK1.out;omega
       case rel=>exact ⟨(wrap64 (x14_1+1)),fr_,H',⟨by have:=HK1.out;omega⟩,⟨hb_⟩⟩
      ·replace c13:=Bool.eq_false_iff.mpr c13;subst c13;rw [if_neg (show ¬ (false=true) by decide)] at H;obtain rfl:=oj_ H;have p315:0≤(x14_1:Int):=ofd;have q315:x14_1<(l0.length:Int):=ofd;obtain ⟨ad315,e315,hx315_0,hx315_1,hx315_2,hx315_3⟩:=at_T80 HR0.out x14_1 p315 q315;cases e315;replace hx315_0:=hbc HB hx315_0;replace hx315_1:=hbc HB hx315_1;replace hx315_2:=hbc HB hx315_2;replace hx315_3:=hbc HB hx315_3;replace p315:=eq_true p315;replace q315:=eq_true q315;go_wp2_with (first|((with_reducible refine gate_dst (N:=4) rfl ?_);refine box_ev (N:=4) (cs:=#[.string (⟨#[]⟩:ByteArray),.int .i64 0,.int .i64 0,.int .i64 0]) (t:=80) ?_;intro gb316 hg w16 hbox hb;have BK316:=am_ hbox;have GW316:=gsz (w:=w) hg;have GE316:=GW316;replace HB:=hbs hb;clear hb hbox hg;obtain ⟨_,_,_,_,_,_,_,_⟩:=cells4 BK316.out)|((with_reducible refine gate_callee (f:=52) rfl ?_);refine goesL_ (some 20) rfl rfl Try.func52 (by kernel_rfl) rfl #[.string ((rd_T80 l0 x14_1).f0)] rfl ga_ ?_;(with_reducible refine (town_name.calls k1 ((rd_T80 l0 x14_1).f0) true _ A6.out).mono ?_);rintro e w' ⟨rfl,⟨nd,rfl⟩⟩;refine ⟨_,rfl,?_⟩)|(go_at_call 53;(with_reducible refine (town_within.calls ((rd_T80 l0 x14_1).f1) 1000 true _ A8.out).mono ?_);rintro e w' ⟨rfl,⟨nd,rfl⟩⟩)|(go_at_call 53;(with_reducible refine (town_within.calls ((rd_T80 l0 x14_1).f2) 1000 true _ A10.out).mono ?_);rintro e w' ⟨rfl,⟨nd,rfl⟩⟩)|(go_at_call 53;(with_reducible refine (town_within.calls ((rd_T80 l0 x14_1).f3) 1048576 false _ A12.out).mono ?_);rintro e w' ⟨rfl,⟨nd,rfl⟩⟩))
       go_ret
       exact ⟨er_,hb_⟩
     ·replace c11:=Bool.eq_false_iff.mpr c11;subst c11;rw [if_neg (show ¬ (false=true) by decide)] at H;obtain rfl:=oj_ H;have p315:0≤(x14_1:Int):=ofd;have q315:x14_1<(l0.length:Int):=ofd;obtain ⟨ad315,e315,hx315_0,hx315_1,hx315_2,hx315_3⟩:=at_T80 HR0.out x14_1 p315 q315;cases e315;replace hx315_0:=hbc HB hx315_0;replace hx315_1:=hbc HB hx315_1;replace hx315_2:=hbc HB hx315_2;replace hx315_3:=hbc HB hx315_3;replace p315:=eq_true p315;replace q315:=eq_true q315;go_wp2_with (first|((with_reducible refine gate_dst (N:=4) rfl ?_);refine box_ev (N:=4) (cs:=#[.string (⟨#[]⟩:ByteArray),.int .i64 0,.int .i64 0,.int .i64 0]) (t:=80) ?_;intro gb316 hg w18 hbox hb;have BK316:=am_ hbox;have GW316:=gsz (w:=w) hg;have GE316:=GW316;replace HB:=hbs hb;clear hb hbox hg;obtain ⟨_,_,_,_,_,_,_,_⟩:=cells4 BK316.out)|((with_reducible refine gate_callee (f:=52) rfl ?_);refine goesL_ (some 20) rfl rfl Try.func52 (by kernel_rfl) rfl #[.string ((rd_T80 l0 x14_1).f0)] rfl ga_ ?_;(with_reducible refine (town_name.calls k1 ((rd_T80 l0 x14_1).f0) true _ A6.out).mono ?_);rintro e w' ⟨rfl,⟨nd,rfl⟩⟩;refine ⟨_,rfl,?_⟩)|(go_at_call 53;(with_reducible refine (town_within.calls ((rd_T80 l0 x14_1).f1) 1000 true _ A8.out).mono ?_);rintro e w' ⟨rfl,⟨nd,rfl⟩⟩)|(go_at_call 53;(with_reducible refine (town_within.calls ((rd_T80 l0 x14_1).f2) 1000 false _ A10.out).mono ?_);rintro e w' ⟨rfl,⟨nd,rfl⟩⟩))
      go_ret
      exact ⟨er_,hb_⟩
    ·replace c9:=Bool.eq_false_iff.mpr c9;subst c9;rw [if_neg (show ¬ (false=true) by decide)] at H;obtain rfl:=oj_ H;have p315:0≤(x14_1:Int):=ofd;have q315:x14_1<(l0.length:Int):=ofd;obtain ⟨ad315,e315,hx315_0,hx315_1,hx315_2,hx315_3⟩:=at_T80 HR0.out x14_1 p315 q315;cases e315;replace hx315_0:=hbc HB hx315_0;replace hx315_1:=hbc HB hx315_1;replace hx315_2:=hbc HB hx315_2;replace hx315_3:=hbc HB hx315_3;replace p315:=eq_true p315;replace q315:=eq_true q315;go_wp2_with (first|((with_reducible refine gate_dst (N:=4) rfl ?_);refine box_ev (N:=4) (cs:=#[.string (⟨#[]⟩:ByteArray),.int .i64 0,.int .i64 0,.int .i64 0]) (t:=80) ?_;intro gb316 hg w20 hbox hb;have BK316:=am_ hbox;have GW316:=gsz (w:=w) hg;have GE316:=GW316;replace HB:=hbs hb;clear hb hbox hg;obtain ⟨_,_,_,_,_,_,_,_⟩:=cells4 BK316.out)|((with_reducible refine gate_callee (f:=52) rfl ?_);refine goesL_ (some 20) rfl rfl Try.func52 (by kernel_rfl) rfl #[.string ((rd_T80 l0 x14_1).f0)] rfl ga_ ?_;(with_reducible refine (town_name.calls k1 ((rd_T80 l0 x14_1).f0) true _ A6.out).mono ?_);rintro e w' ⟨rfl,⟨nd,rfl⟩⟩;refine ⟨_,rfl,?_⟩)|(go_at_call 53;(with_reducible refine (town_within.calls ((rd_T80 l0 x14_1).f1) 1000 false _ A8.out).mono ?_);rintro e w' ⟨rfl,⟨nd,rfl⟩⟩))
     go_ret
     exact ⟨er_,hb_⟩
   ·replace c7:=Bool.eq_false_iff.mpr c7;subst c7;rw [if_neg (show ¬ (false=true) by decide)] at H;obtain rfl:=oj_ H;have p315:0≤(x14_1:Int):=ofd;have q315:x14_1<(l0.length:Int):=ofd;obtain ⟨ad315,e315,hx315_0,hx315_1,hx315_2,hx315_3⟩:=at_T80 HR0.out x14_1 p315 q315;cases e315;replace hx315_0:=hbc HB hx315_0;replace hx315_1:=hbc HB hx315_1;replace hx315_2:=hbc HB hx315_2;replace hx315_3:=hbc HB hx315_3;replace p315:=eq_true p315;replace q315:=eq_true q315;go_wp2_with (first|((with_reducible refine gate_dst (N:=4) rfl ?_);refine box_ev (N:=4) (cs:=#[.string (⟨#[]⟩:ByteArray),.int .i64 0,.int .i64 0,.int .i64 0]) (t:=80) ?_;intro gb316 hg w22 hbox hb;have BK316:=am_ hbox;have GW316:=gsz (w:=w) hg;have GE316:=GW316;replace HB:=hbs hb;clear hb hbox hg;obtain ⟨_,_,_,_,_,_,_,_⟩:=cells4 BK316.out)|((with_reducible refine gate_callee (f:=52) rfl ?_);refine goesL_ (some 20) rfl rfl Try.func52 (by kernel_rfl) rfl #[.string ((rd_T80 l0 x14_1).f0)] rfl ga_ ?_;(with_reducible refine (town_name.calls k1 ((rd_T80 l0 x14_1).f0) false _ A6.out).mono ?_);rintro e w' ⟨rfl,⟨nd,rfl⟩⟩;refine ⟨_,rfl,?_⟩))
    go_ret
    exact ⟨er_,hb_⟩

/-! ### api_Errno: function 55 -/
def api_Errno.l0:Nat→Int→List Int→Int→Int→Option (Int)
 | 0,_,_,_,_=>none
 | k+1,x3,x6,x7,x8=>if x8<x7 then (if 0≤x8 then (if x8<(x6.length:Int) then (if (rd x6 x8)=x3 then (api_Errno.l0 k x3 x6 x7 (wrap64 (x8+1))) else (some (rd x6 x8))) else (none)) else (none)) else (some x3)
def api_Errno.f (k:Nat) (l0:List Int):Option (Int):=api_Errno.l0 k 0 l0 (l0.length:Int) 0
theorem api_Errno.mono_l:∀ k,(∀ y0 y1 y2 y3,LeO (api_Errno.l0 k y0 y1 y2 y3) (api_Errno.l0 (k+1) y0 y1 y2 y3))
 | 0=>fun _ _ _ _ r h=>by simp [api_Errno.l0] at h
 | k+1=>by
  have ih0:=api_Errno.mono_l k
  ·intro y0 y1 y2 y3;unfold api_Errno.l0;repeat' with_reducible first|exact ih0 _ _ _ _|apply lr_|apply ln_|apply li_|refine lb_ ?_ fun _=>?_
theorem api_Errno.mono:∀ a0 k,LeO (api_Errno.f k a0) (api_Errno.f (k+1) a0):=by
 intro a0 k;have ih0:=api_Errno.mono_l k;unfold api_Errno.f;repeat' with_reducible first|exact ih0 _ _ _ _|apply lr_|apply ln_|apply li_|refine lb_ ?_ fun _=>?_
theorem api_Errno.calls (k:Nat) (A0:Option Addr) (c0:Nat) (l0:List Int) (r:Int) (w:World) (hr0:Kd.C (Kd.int .i64) w A0 l0.length l0) (hc0:l0.length≤c0) (h:api_Errno.f k l0=some r) :
  Calls Try.prog 55 #[.slice A0 l0.length c0] w fun e w'=>e=.returned (.int .i64 r)∧Drawn0 w w':=by
 have HR0:=am_ hr0;have HC0:=am_ hc0;clear hr0 hc0;have H:=h;clear h;unfold api_Errno.f at H;have H':=am_ H;clear H;go_enter Try.func55,Try.ntmps55;go_wp2
 go_loopg [8] k (fun kq v8 w'=>∃ (x8_1:Int),v8=.int .i64 x8_1∧Aside0 (api_Errno.l0 kq 0 l0 (l0.length:Int) x8_1=some r)∧Aside0 (kq≤k)∧Drawn0 w w')
 case atStart=>exact ⟨(0),fr_,H',⟨Nat.le_refl _⟩,dr_⟩
 case round =>
  clear H';obtain ⟨x8_1,rfl,HA,HK1,⟨m1,rfl⟩⟩:=hrel;cases gk with
  | zero=>exact absurd HA.out (by simp [api_Errno.l0])
  | succ k1 =>
   have H:=HA.out;clear HA;simp only [api_Errno.l0] at H;by_cases c2:x8_1<(l0.length:Int);rotate_left
   ·rw [if_neg c2] at H;have c2b0:=df_ c2;clear c2;obtain rfl:=oj_ H;go_wp2
    go_ret
    exact ⟨fr_,dr_⟩
   rw [if_pos c2] at H;have c2b0:=dt_ c2;clear c2;obtain ⟨c3,H⟩:=ifp_ H;have c3b0:=dt_ c3;clear c3;obtain ⟨c4,H⟩:=ifp_ H;have c4b0:=dt_ c4;clear c4;by_cases c5:(rd l0 x8_1)=0
   ·rw [if_pos c5] at H;have c5b0:=bqt c5;have c5b1:=bnf c5;clear c5;have H':=am_ H;clear H;have p329:0≤(x8_1:Int):=ofd;have q329:x8_1<(l0.length:Int):=ofd;obtain ⟨ad329,e329,hx329_0⟩:=Kd.at_int HR0.out x8_1 p329 q329;cases e329;replace p329:=eq_true p329;replace q329:=eq_true q329;go_wp2
    go_roundg k1
    case measure=>have:=HK1.out;omega
    case rel=>exact ⟨(wrap64 (x8_1+1)),fr_,H',⟨by have:=HK1.out;omega⟩,dr_⟩
   ·rw [if_neg c5] at H;have c5b0:=bqf c5;have c5b1:=bnt c5;obtain rfl:=oj_ H;have p329:0≤(x8_1:Int):=ofd;have q329:x8_1<(l0.length:Int):=ofd;obtain ⟨ad329,e329,hx329_0⟩:=Kd.at_int HR0.out x8_1 p329 q329;cases e329;replace p329:=eq_true p329;replace q329:=eq_true q329;go_wp2
    go_ret
    exact ⟨fr_,dr_⟩

/-! ### town_Validate: function 27 -/
def town_Validate.l0:Nat→List (S80)→List (S68)→Int→Int→Option (Int)
 | 0,_,_,_,_=>none
 | k+1,x0,x18,x19,x20=>if x20<x19 then (if 0≤x20 then (if x20<(x18.length:Int) then ((town_within.f ((rd_T68 x18 x20).f1) (wrap64 ((x0.length:Int) - 1))).bind fun t339=>(if t339=true then (town_Validate.l0 k x0 x18 x19 (wrap64 (x20+1))) else (some 2))) else (none)) else (none)) else (some 0)
def town_Validate.f (k:Nat) (l0:List (S80)) (a1_0:Int) (l1_1:List (S68)) (l1_2:List Int) (a1_3:Int) (a1_4:Int):Option (Int):=(town_ValidateKinds.f k l0).bind fun t331=>((town_sound.f k a1_0 l1_1 l1_2 a1_3 a1_4).bind fun t332=>((api_Errno.f k (([t331,t332]:List Int))).bind fun t336=>(if t336=0 then (town_Validate.l0 k l0 l1_1 (l1_1.length:Int) 0) else (some t336))))
theorem town_Validate.mono_l:∀ k,(∀ y0 y1 y2 y3,LeO (town_Validate.l0 k y0 y1 y2 y3) (town_Validate.l0 (k+1) y0 y1 y2 y3))
 | 0=>fun _ _ _ _ r h=>by simp [town_Validate.l0] at h
 | k+1=>by
  have ih0:=town_Validate.mono_l k
  ·intro y0 y1 y2 y3;unfold town_Validate.l0;repeat' with_reducible first|exact ih0 _ _ _ _|apply api_Errno.mono|apply town_ValidateKinds.mono|apply town_sound.mono|apply lr_|apply ln_|apply li_|refine lb_ ?_ fun _=>?_
theorem town_Validate.mono:∀ a0 a1 a2 a3 a4 a5 k,LeO (town_Validate.f k a0 a1 a2 a3 a4 a5) (town_Validate.f (k+1) a0 a1 a2 a3 a4 a5):=by
 intro a0 a1 a2 a3 a4 a5 k;have ih0:=town_Validate.mono_l k;unfold town_Validate.f;repeat' with_reducible first|exact ih0 _ _ _ _|apply api_Errno.mono|apply town_ValidateKinds.mono|apply town_sound.mono|apply lr_|apply ln_|apply li_|refine lb_ ?_ fun _=>?_
theorem town_Validate.calls (k:Nat) (A0:Option Addr) (c0:Nat) (l0:List (S80)) (a1_0:Int) (A1_1:Option Addr) (c1_1:Nat) (l1_1:List (S68)) (A1_2:Option Addr) (c1_2:Nat) (l1_2:List Int) (a1_3:Int) (a1_4:Int) (r:Int) (w:World) (hr0:Kd.C k80 w A0 l0.length l0) (hc0:l0.length≤c0) (hr1_1:Kd.C k68 w A1_1 l1_1.length l1_1) (hc1_1:l1_1.length≤c1_1) (hr1_2:Kd.C (Kd.int .i64) w A1_2 l1_2.length l1_2) (hc1_2:l1_2.length≤c1_2) (h:town_Validate.f k l0 a1_0 l1_1 l1_2 a1_3 a1_4=some r) :
  Calls Try.prog 27 #[.slice A0 l0.length c0,.agg #[.int .i64 a1_0,.slice A1_1 l1_1.length c1_1,.slice A1_2 l1_2.length c1_2,.int .i64 a1_3,.int .i64 a1_4]] w fun e w'=>e=.returned (.int .i64 r)∧Below w.heap.size w w':=by
 have hu25:=Try.underlying25;have hu68:=Try.underlying68;have HR0:=am_ hr0;have HC0:=am_ hc0;clear hr0 hc0;have HR1_1:=am_ hr1_1;have HC1_1:=am_ hc1_1;clear hr1_1 hc1_1;have HR1_2:=am_ hr1_2;have HC1_2:=am_ hc1_2;clear hr1_2 hc1_2;have HB:=am_ (Below.refl w.heap.size w);have H:=h;clear h;unfold town_Validate.f at H;obtain ⟨t331,A3,H⟩:=bnd H;obtain ⟨t332,A4,H⟩:=bnd H;obtain ⟨y333,hy333⟩:∃ y_:List Int,y_=(([t331,t332]:List Int)):=⟨_,rfl⟩;replace H:((api_Errno.f k y333).bind fun t336=>(if t336=0 then (town_Validate.l0 k l0 l1_1 (l1_1.length:Int) 0) else (some t336)))=some r:=hyx hy333 H;have Ny333:=am_ hy333;clear hy333;obtain ⟨t336,A5,H⟩:=bnd H;by_cases c6:t336=0;rotate_left
 ·rw [if_neg c6] at H;have c6b0:=bqf c6;have c6b1:=bnt c6;obtain rfl:=oj_ H;go_enter Try.func27,Try.ntmps27;try go_wp2_with (first|((with_reducible refine gate_dst (N:=3) rfl ?_);refine box_ev (N:=3) (cs:=#[.int .i64 a1_0,.slice A1_1 l1_1.length c1_1,.slice A1_2 l1_2.length c1_2,.int .i64 a1_3,.int .i64 a1_4]) (t:=25) ?_;intro gb330 hg w26 hbox hb;have BK330:=am_ hbox;have GW330:=gsz (w:=w) hg;have GE330:=GW330;replace HB:=hbs hb;clear hb hbox hg))
  replace BK330:=bkd BK330;replace HB:=am_ (below_drew1 HB.out);refine start_ (n:=7) (S:=fun w'=>w'.cell? ⟨gb330,0,none⟩=some (.int .i64 a1_0)∧w'.cell? ⟨gb330,1,none⟩=some (.slice A1_1 l1_1.length c1_1)∧w'.cell? ⟨gb330,2,none⟩=some (.slice A1_2 l1_2.length c1_2)∧w'.cell? ⟨gb330,3,none⟩=some (.int .i64 a1_3)∧w'.cell? ⟨gb330,4,none⟩=some (.int .i64 a1_4)) (ds:=[]) #[false,false,false,false,false,false,false] (by kernel_rfl) rfl rfl ⟨bc BK330 0,bc BK330 1,bc BK330 2,bc BK330 3,bc BK330 4⟩ (fun hHeld=>?_);generalize w26.drew=w27 at BK330 HB hHeld ⊢;refine pI 0 (some 8) ?_;refine tI5 2 (some 10) hHeld ?_;refine oI 1 (some 9) (fun K hK=>?_);refine goes_ Try.func25 (by kernel_rfl) rfl #[.slice A0 l0.length c0] (by rfl) rfl rfl ga_ ?_;with_reducible refine (town_ValidateKinds.calls k _ _ l0 t331 _ ?side1 ?side2 A3.out).mono ?_
  (case side1=>exact cq HR0);(case side2=>exact HC0.out);rintro e w28 ⟨rfl,hb⟩;refine ⟨_,rfl,?_⟩;replace BK330:=bkb BK330 hb;replace HB:=am_ (below_step (hb_) hb);(try clear hb);refine hK.out _ _ ⟨bc BK330 0,bc BK330 1,bc BK330 2,bc BK330 3,bc BK330 4⟩ (fun hHeld=>?_);clear hK K;refine nrm 9 ?_;refine oI 3 (some 11) (fun K hK=>?_);refine goes_ Try.func42 (by kernel_rfl) rfl #[.agg #[.int .i64 a1_0,.slice A1_1 l1_1.length c1_1,.slice A1_2 l1_2.length c1_2,.int .i64 a1_3,.int .i64 a1_4]] (by rfl) rfl rfl ga_ ?_;with_reducible refine (town_sound.calls k a1_0 _ _ l1_1 _ _ l1_2 a1_3 a1_4 t332 _ ?side1 ?side2 ?side3 ?side4 A4.out).mono ?_
  (case side1=>exact cq HR1_1);(case side2=>exact HC1_1.out);(case side3=>exact cq HR1_2);(case side4=>exact HC1_2.out);rintro e w29 ⟨rfl,hb⟩;refine ⟨_,rfl,?_⟩;replace BK330:=bkb BK330 hb;replace HB:=am_ (below_step (hb_) hb);(try clear hb);refine hK.out _ _ ⟨bc BK330 0,bc BK330 1,bc BK330 2,bc BK330 3,bc BK330 4⟩ (fun hHeld=>?_);clear hK K;refine nrm 11 ?_;refine oI 4 (some 12) (fun K hK=>?_);refine Kd.R_lit_step (Kd.int .i64) _ 28 ?hg (N:=12) ?hd (xs:=([t331,t332]:List Int)) (inner:=[.int .i64 t331,.int .i64 t332]) (ok:=fun _=>True) (okp:=fun _=>True) ?hr ?hp (fun _ hk=>hk) trivial (Below.refl _ _) (Nat.le_refl _) (by simp) ?_;(case hd=>rfl);(case hg=>rfl);(case hr=>first|(go_simp;done)|(go_simp;rfl));(case hp=>exact (Reps.one (show Kd.M (Kd.int .i64) _ _ _ t331 [.int .i64 t331] from rfl) (Reps.one (show Kd.M (Kd.int .i64) _ _ _ t332 [.int .i64 t332] from rfl) (Reps.none _ _))));intro v334 w30 ho31 hb hg_ hnew_;clear hg_ hnew_;(first|rw [← Ny333.out] at ho31|(simp only [Int.reduceToNat] at ho31;rw [← Ny333.out] at ho31));have HO335:=rlo ho31;replace BK330:=bkb BK330 hb;replace HB:=am_ (below_step (hb_) hb);clear hb ho31;obtain ⟨Ao32,co32,eo32⟩:=Kd.R_slice HO335.out;(first|subst eo32|(injection eo32 with f1_ f2_ f3_;have f4_:=f1_.symm;have f5_:=f3_.symm;clear f1_ f2_ f3_;subst f4_;subst f5_));refine hK.out _ _ ⟨bc BK330 0,bc BK330 1,bc BK330 2,bc BK330 3,bc BK330 4⟩ (fun hHeld=>?_);clear hK K;refine nrm 12 ?_;refine oI 5 (some 13) (fun K hK=>?_);refine goes_ Try.func55 (by kernel_rfl) rfl #[.slice Ao32 y333.length co32] (by rfl) rfl rfl ga_ ?_;with_reducible refine (api_Errno.calls k _ _ y333 t336 _ ?side1 ?side2 A5.out).mono ?_
  (case side1=>exact Kd.C_up (Kd.R_reads' HO335.out).2.2);(case side2=>exact (Kd.R_reads' HO335.out).2.1);rintro e w' ⟨rfl,⟨nd,rfl⟩⟩;refine ⟨_,rfl,?_⟩;refine hK.out _ _ ⟨bc BK330 0,bc BK330 1,bc BK330 2,bc BK330 3,bc BK330 4⟩ (fun hHeld=>?_);clear hK K;refine nrm 13 ?_;refine pI 6 (some 5) ?_;refine done_ (by kernel_rfl) ?_;try go_wp2
  go_ret
  exact ⟨er_,hb_⟩
 rw [if_pos c6] at H;have c6b0:=bqt c6;have c6b1:=bnf c6;clear c6;have H':=am_ H;clear H;go_enter Try.func27,Try.ntmps27;try go_wp2_with (first|((with_reducible refine gate_dst (N:=3) rfl ?_);refine box_ev (N:=3) (cs:=#[.int .i64 a1_0,.slice A1_1 l1_1.length c1_1,.slice A1_2 l1_2.length c1_2,.int .i64 a1_3,.int .i64 a1_4]) (t:=25) ?_;intro gb330 hg w7 hbox hb;have BK330:=am_ hbox;have GW330:=gsz (w:=w) hg;have GE330:=GW330;replace HB:=hbs hb;clear hb hbox hg))
 replace BK330:=bkd BK330;replace HB:=am_ (below_drew1 HB.out);refine start_ (n:=7) (S:=fun w'=>w'.cell? ⟨gb330,0,none⟩=some (.int .i64 a1_0)∧w'.cell? ⟨gb330,1,none⟩=some (.slice A1_1 l1_1.length c1_1)∧w'.cell? ⟨gb330,2,none⟩=some (.slice A1_2 l1_2.length c1_2)∧w'.cell? ⟨gb330,3,none⟩=some (.int .i64 a1_3)∧w'.cell? ⟨gb330,4,none⟩=some (.int .i64 a1_4)) (ds:=[]) #[false,false,false,false,false,false,false] (by kernel_rfl) rfl rfl ⟨bc BK330 0,bc BK330 1,bc BK330 2,bc BK330 3,bc BK330 4⟩ (fun hHeld=>?_);generalize w7.drew=w8 at BK330 HB hHeld ⊢;refine pI 0 (some 8) ?_;refine tI5 2 (some 10) hHeld ?_;refine oI 1 (some 9) (fun K hK=>?_);refine goes_ Try.func25 (by kernel_rfl) rfl #[.slice A0 l0.length c0] (by rfl) rfl rfl ga_ ?_;with_reducible refine (town_ValidateKinds.calls k _ _ l0 t331 _ ?side1 ?side2 A3.out).mono ?_
 (case side1=>exact cq HR0);(case side2=>exact HC0.out);rintro e w9 ⟨rfl,hb⟩;refine ⟨_,rfl,?_⟩;replace BK330:=bkb BK330 hb;replace HB:=am_ (below_step (hb_) hb);(try clear hb);refine hK.out _ _ ⟨bc BK330 0,bc BK330 1,bc BK330 2,bc BK330 3,bc BK330 4⟩ (fun hHeld=>?_);clear hK K;refine nrm 9 ?_;refine oI 3 (some 11) (fun K hK=>?_);refine goes_ Try.func42 (by kernel_rfl) rfl #[.agg #[.int .i64 a1_0,.slice A1_1 l1_1.length c1_1,.slice A1_2 l1_2.length c1_2,.int .i64 a1_3,.int .i64 a1_4]] (by rfl) rfl rfl ga_ ?_;with_reducible refine (town_sound.calls k a1_0 _ _ l1_1 _ _ l1_2 a1_3 a1_4 t332 _ ?side1 ?side2 ?side3 ?side4 A4.out).mono ?_
 (case side1=>exact cq HR1_1);(case side2=>exact HC1_1.out);(case side3=>exact cq HR1_2);(case side4=>exact HC1_2.out);rintro e w10 ⟨rfl,hb⟩;refine ⟨_,rfl,?_⟩;replace BK330:=bkb BK330 hb;replace HB:=am_ (below_step (hb_) hb);(try clear hb);refine hK.out _ _ ⟨bc BK330 0,bc BK330 1,bc BK330 2,bc BK330 3,bc BK330 4⟩ (fun hHeld=>?_);clear hK K;refine nrm 11 ?_;refine oI 4 (some 12) (fun K hK=>?_);refine Kd.R_lit_step (Kd.int .i64) _ 28 ?hg (N:=12) ?hd (xs:=([t331,t332]:List Int)) (inner:=[.int .i64 t331,.int .i64 t332]) (ok:=fun _=>True) (okp:=fun _=>True) ?hr ?hp (fun _ hk=>hk) trivial (Below.refl _ _) (Nat.le_refl _) (by simp) ?_;(case hd=>rfl);(case hg=>rfl);(case hr=>first|(go_simp;done)|(go_simp;rfl));(case hp=>exact (Reps.one (show Kd.M (Kd.int .i64) _ _ _ t331 [.int .i64 t331] from rfl) (Reps.one (show Kd.M (Kd.int .i64) _ _ _ t332 [.int .i64 t332] from rfl) (Reps.none _ _))));intro v334 w11 ho12 hb hg_ hnew_;clear hg_ hnew_;(first|rw [← Ny333.out] at ho12|(simp only [Int.reduceToNat] at ho12;rw [← Ny333.out] at ho12));have HO335:=rlo ho12;replace BK330:=bkb BK330 hb;replace HB:=am_ (below_step (hb_) hb);clear hb ho12;obtain ⟨Ao13,co13,eo13⟩:=Kd.R_slice HO335.out;(first|subst eo13|(injection eo13 with f1_ f2_ f3_;have f4_:=f1_.symm;have f5_:=f3_.symm;clear f1_ f2_ f3_;subst f4_;subst f5_));refine hK.out _ _ ⟨bc BK330 0,bc BK330 1,bc BK330 2,bc BK330 3,bc BK330 4⟩ (fun hHeld=>?_);clear hK K;refine nrm 12 ?_;refine oI 5 (some 13) (fun K hK=>?_);refine goes_ Try.func55 (by kernel_rfl) rfl #[.slice Ao13 y333.length co13] (by rfl) rfl rfl ga_ ?_;with_reducible refine (api_Errno.calls k _ _ y333 t336 _ ?side1 ?side2 A5.out).mono ?_
 (case side1=>exact Kd.C_up (Kd.R_reads' HO335.out).2.2);(case side2=>exact (Kd.R_reads' HO335.out).2.1);rintro e w' ⟨rfl,⟨nd,rfl⟩⟩;refine ⟨_,rfl,?_⟩;refine hK.out _ _ ⟨bc BK330 0,bc BK330 1,bc BK330 2,bc BK330 3,bc BK330 4⟩ (fun hHeld=>?_);clear hK K;refine nrm 13 ?_;refine pI 6 (some 5) ?_;refine done_ (by kernel_rfl) ?_;obtain ⟨_,_,_,_,_,_,_,_,_,_⟩:=cells5 BK330.out;try go_wp2
 go_loopg [20] k (fun kq v20 w'=>∃ (x20_1:Int),v20=.int .i64 x20_1∧Aside0 (town_Validate.l0 kq l0 l1_1 (l1_1.length:Int) x20_1=some r)∧Aside0 (kq≤k)∧Aside0 (w'.heap[gb330]?=some (.cells #[.int .i64 a1_0,(.slice A1_1 l1_1.length c1_1),(.slice A1_2 l1_2.length c1_2),.int .i64 a1_3,.int .i64 a1_4] 25 (0,0)))∧Aside0 (Below w.heap.size w w'))
 case atStart=>exact ⟨(0),fr_,H',⟨Nat.le_refl _⟩,⟨blk_up BK330.out⟩,⟨hb_⟩⟩
 case round =>
  clear H';obtain ⟨x20_1,rfl,HA,HK1,BK330,HB⟩:=hrel;cases gk with
  | zero=>exact absurd HA.out (by simp [town_Validate.l0])
  | succ k1 =>
   have H:=HA.out;clear HA;simp only [town_Validate.l0] at H;by_cases c15:x20_1<(l1_1.length:Int);rotate_left
   ·rw [if_neg c15] at H;have c15b0:=df_ c15;clear c15;obtain rfl:=oj_ H;go_wp2
    go_ret
    exact ⟨er_,hb_⟩
   rw [if_pos c15] at H;have c15b0:=dt_ c15;clear c15;obtain ⟨c16,H⟩:=ifp_ H;have c16b0:=dt_ c16;clear c16;obtain ⟨c17,H⟩:=ifp_ H;have c17b0:=dt_ c17;clear c17;obtain ⟨t339,A18,H⟩:=bnd H;by_cases c19:t339=true
   ·subst c19;rw [if_pos rfl] at H;have H':=am_ H;clear H;have p337:0≤(x20_1:Int):=ofd;have q337:x20_1<(l1_1.length:Int):=ofd;obtain ⟨ad337,e337,hx337_0,hx337_1,hx337_2⟩:=at_T68 HR1_1.out x20_1 p337 q337;cases e337;replace hx337_0:=hbc HB hx337_0;replace hx337_1:=hbc HB hx337_1;replace hx337_2:=hbc HB hx337_2;replace p337:=eq_true p337;replace q337:=eq_true q337;go_wp2_with (first|((with_reducible refine gate_dst (N:=7) rfl ?_);refine box_ev (N:=7) (cs:=#[.int .i64 0,.int .i64 0,.int .i64 0]) (t:=68) ?_;intro gb338 hg w20 hbox hb;have BK338:=am_ hbox;have GW338:=gsz (w:=w) hg;have GE338:=GW338;have NB330_338:=nbl BK330 hg;have NB338_330:=nbr BK330 hg;replace BK330:=bkb BK330 hb;replace HB:=hbs hb;clear hb hbox hg;have hnb21:=NB338_330.out;have hnc21:=NB330_338.out;obtain ⟨_,_,_,_,_,_⟩:=cells3 BK338.out)|((with_reducible refine gate_callee (f:=53) rfl ?_);refine goesL_ (some 29) rfl rfl Try.func53 (by kernel_rfl) rfl #[.int .i64 ((rd_T68 l1_1 x20_1).f1),.int .i64 (wrap64 ((l0.length:Int) - 1))] rfl ga_ ?_;(with_reducible refine (town_within.calls ((rd_T68 l1_1 x20_1).f1) (wrap64 ((l0.length:Int) - 1)) true _ A18.out).mono ?_);rintro e w' ⟨rfl,⟨nd,rfl⟩⟩;refine ⟨_,rfl,?_⟩))
    go_roundg k1
    case measure=>have:=HK1.out;omega
    case rel=>exact ⟨(wrap64 (x20_1+1)),fr_,H',⟨by have:=HK1.out;omega⟩,⟨by refine blkW ?_;refine blk_far ?_ NB330_338.out _;refine blkW ?_;refine blk_far ?_ NB330_338.out _;refine blkW ?_;refine blk_far ?_ NB330_338.out _;refine blkW ?_;exact BK330.out⟩,⟨hb_⟩⟩
   ·replace c19:=Bool.eq_false_iff.mpr c19;subst c19;rw [if_neg (show ¬ (false=true) by decide)] at H;obtain rfl:=oj_ H;have p337:0≤(x20_1:Int):=ofd;have q337:x20_1<(l1_1.length:Int):=ofd;obtain ⟨ad337,e337,hx337_0,hx337_1,hx337_2⟩:=at_T68 HR1_1.out x20_1 p337 q337;cases e337;replace hx337_0:=hbc HB hx337_0;replace hx337_1:=hbc HB hx337_1;replace hx337_2:=hbc HB hx337_2;replace p337:=eq_true p337;replace q337:=eq_true q337;go_wp2_with (first|((with_reducible refine gate_dst (N:=7) rfl ?_);refine box_ev (N:=7) (cs:=#[.int .i64 0,.int .i64 0,.int .i64 0]) (t:=68) ?_;intro gb338 hg w23 hbox hb;have BK338:=am_ hbox;have GW338:=gsz (w:=w) hg;have GE338:=GW338;have NB330_338:=nbl BK330 hg;have NB338_330:=nbr BK330 hg;replace BK330:=bkb BK330 hb;replace HB:=hbs hb;clear hb hbox hg;have hnb24:=NB338_330.out;have hnc24:=NB330_338.out;obtain ⟨_,_,_,_,_,_⟩:=cells3 BK338.out)|((with_reducible refine gate_callee (f:=53) rfl ?_);refine goesL_ (some 29) rfl rfl Try.func53 (by kernel_rfl) rfl #[.int .i64 ((rd_T68 l1_1 x20_1).f1),.int .i64 (wrap64 ((l0.length:Int) - 1))] rfl ga_ ?_;(with_reducible refine (town_within.calls ((rd_T68 l1_1 x20_1).f1) (wrap64 ((l0.length:Int) - 1)) false _ A18.out).mono ?_);rintro e w' ⟨rfl,⟨nd,rfl⟩⟩;refine ⟨_,rfl,?_⟩))
    go_ret
    exact ⟨er_,hb_⟩

/-! ### roll_Next: function 79 -/
def roll_Next.f (a0_0:Int):Option (Int × Int):=some (Go.bits .xor .u64 (IntKind.u64.wrap ((Go.bits .xor .u64 (IntKind.u64.wrap ((Go.bits .xor .u64 (IntKind.u64.wrap (a0_0+11400714819323198485)) ((IntKind.u64.wrap (a0_0+11400714819323198485)) / 1073741824)) * 13787848793156543929)) ((IntKind.u64.wrap ((Go.bits .xor .u64 (IntKind.u64.wrap (a0_0+11400714819323198485)) ((IntKind.u64.wrap (a0_0+11400714819323198485)) / 1073741824)) * 13787848793156543929)) / 134217728)) * 10723151780598845931)) ((IntKind.u64.wrap ((Go.bits .xor .u64 (IntKind.u64.wrap ((Go.bits .xor .u64 (IntKind.u64.wrap (a0_0+11400714819323198485)) ((IntKind.u64.wrap (a0_0+11400714819323198485)) / 1073741824)) * 13787848793156543929)) ((IntKind.u64.wrap ((Go.bits .xor .u64 (IntKind.u64.wrap (a0_0+11400714819323198485)) ((IntKind.u64.wrap (a0_0+11400714819323198485)) / 1073741824)) * 13787848793156543929)) / 134217728)) * 10723151780598845931)) / 2147483648),IntKind.u64.wrap (a0_0+11400714819323198485))
theorem roll_Next.calls (a0_0:Int) (r1:Int) (r2:Int) (w:World) (h:roll_Next.f a0_0=some (r1,r2)) :
  Calls Try.prog 79 #[.agg #[.int .u64 a0_0]] w fun e w'=>e=.returned (.tuple #[.int .u64 r1,.agg #[.int .u64 r2]])∧Below w.heap.size w w':=by
 have hu45:=Try.underlying45;have HB:=am_ (Below.refl w.heap.size w);have H:=h;clear h;unfold roll_Next.f at H;simp only [Option.some.injEq,Prod.mk.injEq] at H;obtain ⟨rfl,rfl⟩:=H;go_enter Try.func79,Try.ntmps79;try go_wp2_with (first|((with_reducible refine gate_dst (N:=1) rfl ?_);refine box_ev (N:=1) (cs:=#[.int .u64 a0_0]) (t:=45) ?_;intro gb340 hg w2 hbox hb;have BK340:=am_ hbox;have GW340:=gsz (w:=w) hg;have GE340:=GW340;replace HB:=hbs hb;clear hb hbox hg)|((with_reducible refine gate_dst (N:=3) rfl ?_);refine box_ev (N:=3) (cs:=#[.int .u64 0]) (t:=45) ?_;intro gb341 hg w3 hbox hb;have BK341:=am_ hbox;have GW341:=gsz (w:=w) hg;have GE341:=GW341;have NB340_341:=nbl BK340 hg;have NB341_340:=nbr BK340 hg;replace BK340:=bkb BK340 hb;replace HB:=hbs hb;clear hb hbox hg;have hnb4:=NB340_341.out;have hnc4:=NB341_340.out;obtain ⟨_,_⟩:=cells1 BK340.out))
 have n0_:Aside0 ((w3.setCell ⟨gb340,0,none⟩ (.int .u64 (IntKind.u64.wrap (a0_0+11400714819323198485)))).heap[gb340]?=some (.cells #[.int .u64 (IntKind.u64.wrap (a0_0+11400714819323198485))] 45 (0,0))):=⟨by refine blkW ?_;refine blk_put (cs:=#[.int .u64 a0_0]) ?_ 0 _ rfl;refine blkW ?_;exact BK340.out⟩;have n1_:Aside0 ((w3.setCell ⟨gb340,0,none⟩ (.int .u64 (IntKind.u64.wrap (a0_0+11400714819323198485)))).heap[gb341]?=some (.cells #[.int .u64 0] 45 (0,0))):=⟨by refine blkW ?_;refine blk_far ?_ NB341_340.out _;refine blkW ?_;exact BK341.out⟩;have n2_:Aside0 (Below w.heap.size w (w3.setCell ⟨gb340,0,none⟩ (.int .u64 (IntKind.u64.wrap (a0_0+11400714819323198485))))):=⟨hb_⟩;(try clear BK340);(try clear BK341);(try clear HB);generalize (w3.setCell ⟨gb340,0,none⟩ (.int .u64 (IntKind.u64.wrap (a0_0+11400714819323198485))))=w6 at n0_ n1_ n2_ ⊢;have BK340:=n0_;have BK341:=n1_;have HB:=n2_;clear n0_ n1_ n2_;replace BK340:=bkd BK340;replace BK341:=bkd BK341;replace HB:=am_ (below_drew1 HB.out);refine start_ (n:=7) (S:=fun w'=>w'.cell? ⟨gb340,0,none⟩=some (.int .u64 (IntKind.u64.wrap (a0_0+11400714819323198485)))) (ds:=[]) #[false,false,false,false,false,false,false] (by kernel_rfl) rfl rfl (bc BK340 0) (fun hHeld=>?_);generalize w6.drew=w7 at BK340 BK341 HB hHeld ⊢;refine pI 0 (some 21) ?_;refine pI 1 (some 22) ?_;refine pI 2 (some 23) ?_;refine pI 3 (some 24) ?_;refine pI 5 (some 2) ?_;refine take_ (i:=4) (N:=some 25) (v:=?_) (a':=?_) #[true,true,true,true,true,true,false] rfl rfl (by kernel_rfl) (fun _ _ _ h=>h) (Or.inl ⟨by rfl,?_⟩) hHeld ?_ ?_;rotate_left
 ·intro w' s0;go_simp
  with_reducible rfl
 rotate_left
 ·simp only [Act.put,sl_,i64_w,i32_w];rfl
 refine oI 6 (none) (fun K hK=>?_);have hs8:w7.cell? ⟨gb341,0,none⟩=some (.int .u64 0):=bc BK341 0;have hfs8:=blk_frozen BK341.out 0;have hns8_0:=NB340_341.out;have hms8_0:=NB341_340.out;refine skip_ (w1:=?_) (by rfl) rfl ?_ ?_;rotate_left
 ·go_simp
  rfl
 refine hK.out _ _ (((cell_far (p:=⟨gb341,_,none⟩) NB340_341.out _).trans (hHeld))) (fun hHeld=>?_);clear hK K;refine done_ (by kernel_rfl) ?_;try go_wp2
 refine bodyPost_ret (results_tc rfl _ _ gb341 45 #[.int .u64 (IntKind.u64.wrap (a0_0+11400714819323198485))] (0,0) _ rfl (by refine blkW ?_;refine blk_put (cs:=#[.int .u64 0]) ?_ 0 _ rfl;refine blkW ?_;exact BK341.out) Try.underlying45 rfl (by kernel_rfl)) rfl ?_;exact ⟨er_,hb_⟩

/-! ### roll_Below: function 57 -/
def roll_Below.l0:Nat→Int→Int→Int→Option (Int × Int)
 | 0,_,_,_=>none
 | k+1,x6,x7,x343000=>(roll_Next.f x343000).bind fun bt344=>(if bt344.1≤(Go.bits .xor .u64 (if IntKind.u64.signed=true then -1 else IntKind.u64.max) x7) then (if x6=0 then (none) else (some (wrap64 (Int.tmod bt344.1 x6),bt344.2))) else (roll_Below.l0 k x6 x7 bt344.2))
def roll_Below.f (k:Nat) (a0_0:Int) (a1:Int):Option (Int × Int):=if a1<1 then (some (0,a0_0)) else (if (IntKind.u64.wrap (a1))=0 then (none) else (roll_Below.l0 k (IntKind.u64.wrap (a1)) (Int.tmod (IntKind.u64.wrap (-(IntKind.u64.wrap (a1)))) (IntKind.u64.wrap (a1))) a0_0))
theorem roll_Below.mono_l:∀ k,(∀ y0 y1 y2,LeO (roll_Below.l0 k y0 y1 y2) (roll_Below.l0 (k+1) y0 y1 y2))
 | 0=>fun _ _ _ r h=>by simp [roll_Below.l0] at h
 | k+1=>by
  have ih0:=roll_Below.mono_l k
  ·intro y0 y1 y2;unfold roll_Below.l0;repeat' with_reducible first|exact ih0 _ _ _|apply lr_|apply ln_|apply li_|refine lb_ ?_ fun _=>?_
theorem roll_Below.mono:∀ a0 a1 k,LeO (roll_Below.f k a0 a1) (roll_Below.f (k+1) a0 a1):=by
 intro a0 a1 k;have ih0:=roll_Below.mono_l k;unfold roll_Below.f;repeat' with_reducible first|exact ih0 _ _ _|apply lr_|apply ln_|apply li_|refine lb_ ?_ fun _=>?_
theorem roll_Below.calls (k:Nat) (a0_0:Int) (a1:Int) (r1:Int) (r2:Int) (w:World) (h:roll_Below.f k a0_0 a1=some (r1,r2)) :
  Calls Try.prog 57 #[.agg #[.int .u64 a0_0],.int .i64 a1] w fun e w'=>e=.returned (.tuple #[.int .i64 r1,.agg #[.int .u64 r2]])∧Below w.heap.size w w':=by
 have hu45:=Try.underlying45;have HB:=am_ (Below.refl w.heap.size w);have H:=h;clear h;unfold roll_Below.f at H;by_cases c3:a1<1
 ·rw [if_pos c3] at H;have c3b0:=dt_ c3;clear c3;simp only [Option.some.injEq,Prod.mk.injEq] at H;obtain ⟨rfl,rfl⟩:=H;go_enter Try.func57,Try.ntmps57;try go_wp2_with (first|((with_reducible refine gate_dst (N:=2) rfl ?_);refine box_ev (N:=2) (cs:=#[.int .u64 a0_0]) (t:=45) ?_;intro gb342 hg w4 hbox hb;have BK342:=am_ hbox;have GW342:=gsz (w:=w) hg;have GE342:=GW342;replace HB:=hbs hb;clear hb hbox hg)|((with_reducible refine gate_dst (N:=5) rfl ?_);refine box_ev (N:=5) (cs:=#[.int .u64 0]) (t:=45) ?_;intro gb343 hg w5 hbox hb;have BK343:=am_ hbox;have GW343:=gsz (w:=w) hg;have GE343:=GW343;have NB342_343:=nbl BK342 hg;have NB343_342:=nbr BK342 hg;replace BK342:=bkb BK342 hb;replace HB:=hbs hb;clear hb hbox hg))
  replace BK342:=bkd BK342;replace BK343:=bkd BK343;replace HB:=am_ (below_drew1 HB.out);refine start_ (n:=3) (S:=fun w'=>w'.cell? ⟨gb342,0,none⟩=some (.int .u64 a0_0)) (ds:=[]) #[false,false,false] (by kernel_rfl) rfl rfl (bc BK342 0) (fun hHeld=>?_);generalize w5.drew=w6 at BK342 BK343 HB hHeld ⊢;refine pI 1 (some 4) ?_;refine take_ (i:=0) (N:=some 12) (v:=?_) (a':=?_) #[true,true,false] rfl rfl (by kernel_rfl) (fun _ _ _ h=>h) (Or.inl ⟨by rfl,?_⟩) hHeld ?_ ?_;rotate_left
  ·intro w' s0;go_simp
   with_reducible rfl
  rotate_left
  ·simp only [Act.put,sl_,i64_w,i32_w];rfl
  refine oI 2 (none) (fun K hK=>?_);have hs7:w6.cell? ⟨gb343,0,none⟩=some (.int .u64 0):=bc BK343 0;have hfs7:=blk_frozen BK343.out 0;have hns7_0:=NB342_343.out;have hms7_0:=NB343_342.out;refine skip_ (w1:=?_) (by rfl) rfl ?_ ?_;rotate_left
  ·go_simp
   rfl
  refine hK.out _ _ (((cell_far (p:=⟨gb343,_,none⟩) NB342_343.out _).trans (hHeld))) (fun hHeld=>?_);clear hK K;refine done_ (by kernel_rfl) ?_;try go_wp2
  refine bodyPost_ret (results_tc rfl _ _ gb343 45 #[.int .u64 a0_0] (0,0) _ rfl (by refine blkW ?_;refine blk_put (cs:=#[.int .u64 0]) ?_ 0 _ rfl;refine blkW ?_;exact BK343.out) Try.underlying45 rfl (by kernel_rfl)) rfl ?_;exact ⟨er_,hb_⟩
 rw [if_neg c3] at H;have c3b0:=df_ c3;clear c3;replace H:=ifn_ H;obtain ⟨c8,H⟩:=H;have c8b0:((IntKind.u64.wrap (a1)) == 0)=false:=beq_eq_false_iff_ne.mpr c8;have c8b1:((IntKind.u64.wrap (a1)) != 0)=true:=bne_iff_ne.mpr c8;have H':=am_ H;clear H;go_enter Try.func57,Try.ntmps57;go_wp2_with (first|((with_reducible refine gate_dst (N:=2) rfl ?_);refine box_ev (N:=2) (cs:=#[.int .u64 a0_0]) (t:=45) ?_;intro gb342 hg w9 hbox hb;have BK342:=am_ hbox;have GW342:=gsz (w:=w) hg;have GE342:=GW342;replace HB:=hbs hb;clear hb hbox hg)|((with_reducible refine gate_dst (N:=5) rfl ?_);refine box_ev (N:=5) (cs:=#[.int .u64 0]) (t:=45) ?_;intro gb343 hg w10 hbox hb;have BK343:=am_ hbox;have GW343:=gsz (w:=w) hg;have GE343:=GW343;have NB342_343:=nbl BK342 hg;have NB343_342:=nbr BK342 hg;replace BK342:=bkb BK342 hb;replace HB:=hbs hb;clear hb hbox hg))
 go_loopg [] k (fun kq w'=>∃ (x343000_1:Int) (x344000_1:Int),Aside0 (roll_Below.l0 kq (IntKind.u64.wrap (a1)) (Int.tmod (IntKind.u64.wrap (-(IntKind.u64.wrap (a1)))) (IntKind.u64.wrap (a1))) x343000_1=some (r1,r2))∧Aside0 (kq≤k)∧Aside0 (w'.heap[gb342]?=some (.cells #[.int .u64 x343000_1] 45 (0,0)))∧Aside0 (w'.heap[gb343]?=some (.cells #[.int .u64 x344000_1] 45 (0,0)))∧Aside0 (Below w.heap.size w w'))
 case atStart=>exact ⟨(a0_0),(0),H',⟨Nat.le_refl _⟩,⟨blk_up BK342.out⟩,⟨blk_up BK343.out⟩,⟨hb_⟩⟩
 case round =>
  clear H';obtain ⟨x343000_1,x344000_1,HA,HK1,BK342,BK343,HB⟩:=hrel;cases gk with
  | zero=>exact absurd HA.out (by simp [roll_Below.l0])
  | succ k1 =>
   have H:=HA.out;clear HA;simp only [roll_Below.l0] at H;obtain ⟨⟨t344,t345⟩,A11,H⟩:=bnd H;(try dsimp only at H);by_cases c12:t344≤(Go.bits .xor .u64 (if IntKind.u64.signed=true then -1 else IntKind.u64.max) (Int.tmod (IntKind.u64.wrap (-(IntKind.u64.wrap (a1)))) (IntKind.u64.wrap (a1))));rotate_left
   ·rw [if_neg c12] at H;have c12b0:=df_ c12;clear c12;have H':=am_ H;clear H;obtain ⟨_,_⟩:=nn NB342_343;obtain ⟨_,_⟩:=cells1 BK342.out;go_wp2_with (first|((with_reducible refine gate_callee (f:=79) rfl ?_);refine goesL_ (some 21) rfl rfl Try.func79 (by kernel_rfl) rfl #[.agg #[.int .u64 x343000_1]] rfl ga_ ?_;(with_reducible refine (roll_Next.calls x343000_1 t344 t345 _ A11.out).mono ?_);rintro e w27 ⟨rfl,hb⟩;refine ⟨_,rfl,?_⟩;replace BK342:=bkb BK342 hb;replace BK343:=bkb BK343 hb;replace HB:=hbs hb)|((with_reducible refine gate_dst (N:=9) rfl ?_);refine box_ev (N:=9) (cs:=#[.int .u64 0]) (t:=45) ?_;intro gb346 hg w28 hbox hb;have BK346:=am_ hbox;have GW346:=gsz (w:=w) hg;have GE346:=GW346;have NB342_346:=nbl BK342 hg;have NB346_342:=nbr BK342 hg;have NB343_346:=nbl BK343 hg;have NB346_343:=nbr BK343 hg;replace BK342:=bkb BK342 hb;replace BK343:=bkb BK343 hb;replace HB:=hbs hb;clear hb hbox hg;have hnb29:=NB346_342.out;have hnc29:=NB342_346.out;have hnb30:=NB346_343.out;have hnc30:=NB343_346.out;obtain ⟨_,_⟩:=cells1 BK346.out;obtain ⟨_,_⟩:=cells1 BK342.out))
    go_roundg k1
    case measure=>have:=HK1.out;omega
    case rel=>exact ⟨(t345),(x344000_1),H',⟨by have:=HK1.out;omega⟩,⟨by refine blkW ?_;refine blk_put (cs:=#[.int .u64 x343000_1]) ?_ 0 _ rfl;refine blkW ?_;refine blk_far ?_ NB342_346.out _;refine blkW ?_;exact BK342.out⟩,⟨by refine blkW ?_;refine blk_far ?_ NB343_342.out _;refine blkW ?_;refine blk_far ?_ NB343_346.out _;refine blkW ?_;exact BK343.out⟩,⟨hb_⟩⟩
   rw [if_pos c12] at H;have c12b0:=dt_ c12;clear c12;replace H:=ifn_ H;obtain ⟨c13,H⟩:=H;have c13b0:((IntKind.u64.wrap (a1)) == 0)=false:=beq_eq_false_iff_ne.mpr c13;have c13b1:((IntKind.u64.wrap (a1)) != 0)=true:=bne_iff_ne.mpr c13;simp only [Option.some.injEq,Prod.mk.injEq] at H;obtain ⟨rfl,rfl⟩:=H;obtain ⟨_,_⟩:=nn NB342_343;obtain ⟨_,_⟩:=cells1 BK342.out;try go_wp2_with (first|((with_reducible refine gate_callee (f:=79) rfl ?_);refine goesL_ (some 21) rfl rfl Try.func79 (by kernel_rfl) rfl #[.agg #[.int .u64 x343000_1]] rfl ga_ ?_;(with_reducible refine (roll_Next.calls x343000_1 t344 t345 _ A11.out).mono ?_);rintro e w16 ⟨rfl,hb⟩;refine ⟨_,rfl,?_⟩;replace BK342:=bkb BK342 hb;replace BK343:=bkb BK343 hb;replace HB:=hbs hb)|((with_reducible refine gate_dst (N:=9) rfl ?_);refine box_ev (N:=9) (cs:=#[.int .u64 0]) (t:=45) ?_;intro gb346 hg w17 hbox hb;have BK346:=am_ hbox;have GW346:=gsz (w:=w) hg;have GE346:=GW346;have NB342_346:=nbl BK342 hg;have NB346_342:=nbr BK342 hg;have NB343_346:=nbl BK343 hg;have NB346_343:=nbr BK343 hg;replace BK342:=bkb BK342 hb;replace BK343:=bkb BK343 hb;replace HB:=hbs hb;clear hb hbox hg;have hnb18:=NB346_342.out;have hnc18:=NB342_346.out;have hnb19:=NB346_343.out;have hnc19:=NB343_346.out;obtain ⟨_,_⟩:=cells1 BK346.out;obtain ⟨_,_⟩:=cells1 BK342.out))
   have n0_:Aside0 (((w17.setCell ⟨gb346,0,none⟩ (.int .u64 t345)).setCell ⟨gb342,0,none⟩ (.int .u64 t345)).heap[gb342]?=some (.cells #[.int .u64 t345] 45 (0,0))):=⟨by refine blkW ?_;refine blk_put (cs:=#[.int .u64 x343000_1]) ?_ 0 _ rfl;refine blkW ?_;refine blk_far ?_ NB342_346.out _;refine blkW ?_;exact BK342.out⟩;have n1_:Aside0 (((w17.setCell ⟨gb346,0,none⟩ (.int .u64 t345)).setCell ⟨gb342,0,none⟩ (.int .u64 t345)).heap[gb343]?=some (.cells #[.int .u64 x344000_1] 45 (0,0))):=⟨by refine blkW ?_;refine blk_far ?_ NB343_342.out _;refine blkW ?_;refine blk_far ?_ NB343_346.out _;refine blkW ?_;exact BK343.out⟩;have n2_:Aside0 (((w17.setCell ⟨gb346,0,none⟩ (.int .u64 t345)).setCell ⟨gb342,0,none⟩ (.int .u64 t345)).heap[gb346]?=some (.cells #[.int .u64 t345] 45 (0,0))):=⟨by refine blkW ?_;refine blk_far ?_ NB346_342.out _;refine blkW ?_;refine blk_put (cs:=#[.int .u64 0]) ?_ 0 _ rfl;refine blkW ?_;exact BK346.out⟩;have n3_:Aside0 (Below w.heap.size w ((w17.setCell ⟨gb346,0,none⟩ (.int .u64 t345)).setCell ⟨gb342,0,none⟩ (.int .u64 t345))):=⟨hb_⟩;(try clear BK342);(try clear BK343);(try clear BK346);(try clear HB);generalize ((w17.setCell ⟨gb346,0,none⟩ (.int .u64 t345)).setCell ⟨gb342,0,none⟩ (.int .u64 t345))=w22 at n0_ n1_ n2_ n3_ ⊢;have BK342:=n0_;have BK343:=n1_;have BK346:=n2_;have HB:=n3_;clear n0_ n1_ n2_ n3_;replace BK342:=bkd BK342;replace BK343:=bkd BK343;replace BK346:=bkd BK346;replace HB:=am_ (below_drew1 HB.out);refine start_ (n:=7) (S:=fun w'=>w'.cell? ⟨gb342,0,none⟩=some (.int .u64 t345)) (ds:=[]) #[false,false,false,false,false,false,false] (by kernel_rfl) rfl rfl (bc BK342 0) (fun hHeld=>?_);generalize w22.drew=w23 at BK342 BK343 BK346 HB hHeld ⊢;refine pI 0 (some 29) ?_;refine pI 1 (some 30) ?_;refine pI 2 (some 31) ?_;refine pI 3 (some 32) ?_;refine pI 5 (some 4) ?_;refine take_ (i:=4) (N:=some 33) (v:=?_) (a':=?_) #[true,true,true,true,true,true,false] rfl rfl (by kernel_rfl) (fun _ _ _ h=>h) (Or.inl ⟨by rfl,?_⟩) hHeld ?_ ?_;rotate_left
   ·intro w' s0;go_simp
    with_reducible rfl
   rotate_left
   ·simp only [Act.put,sl_,i64_w,i32_w];rfl
   refine oI 6 (none) (fun K hK=>?_);have hs24:w23.cell? ⟨gb343,0,none⟩=some (.int .u64 x344000_1):=bc BK343 0;have hfs24:=blk_frozen BK343.out 0;have hns24_0:=NB342_343.out;have hns24_2:=NB346_343.out;have hms24_0:=NB343_342.out;have hms24_2:=NB343_346.out;refine skip_ (w1:=?_) (by rfl) rfl ?_ ?_;rotate_left
   ·go_simp
    rfl
   refine hK.out _ _ (((cell_far (p:=⟨gb343,_,none⟩) NB342_343.out _).trans (hHeld))) (fun hHeld=>?_);clear hK K;refine done_ (by kernel_rfl) ?_;try go_wp2
   refine bodyPost_ret (results_tc rfl _ _ gb343 45 #[.int .u64 t345] (0,0) _ rfl (by refine blkW ?_;refine blk_put (cs:=#[.int .u64 x344000_1]) ?_ 0 _ rfl;refine blkW ?_;exact BK343.out) Try.underlying45 rfl (by kernel_rfl)) rfl ?_;exact ⟨er_,hb_⟩

/-! ### land_apart: function 86 -/
def land_apart.f (a0:Int) (a1:Int):Option (Bool):=if (wrap64 (a0 - a1)) > 1 then (some true) else (some (decide ((wrap64 (a1 - a0)) > 1)))
theorem land_apart.calls (a0:Int) (a1:Int) (r:Bool) (w:World) (h:land_apart.f a0 a1=some r) :
  Calls Try.prog 86 #[.int .i64 a0,.int .i64 a1] w fun e w'=>e=.returned (.bool r)∧Drawn0 w w':=by
 have H:=h;clear h;unfold land_apart.f at H;by_cases c3:(wrap64 (a0 - a1)) > 1
 ·rw [if_pos c3] at H;have c3b0:=dt_ c3;clear c3;obtain rfl:=oj_ H;go_enter Try.func86,Try.ntmps86;go_wp2
  go_ret
  exact ⟨fr_,dr_⟩
 ·rw [if_neg c3] at H;have c3b0:=df_ c3;clear c3;obtain rfl:=oj_ H;go_enter Try.func86,Try.ntmps86;go_wp2
  go_ret
  exact ⟨fr_,dr_⟩

/-! ### land_Validate: function 70 -/
mutual
def land_Validate.j0:Nat→Bool→Int→Int→List Int→Option (Int)
 | 0,_,_,_,_=>none
 | k+1,x38,x348000,x348001,x348002=>if x38=true then (some 1) else (land_Validate.l0 k x348002 (x348002.length:Int) 0 x348000 x348001 x348002)
def land_Validate.l0:Nat→List Int→Int→Int→Int→Int→List Int→Option (Int)
 | 0,_,_,_,_,_,_=>none
 | k+1,x40,x41,x42,x348000,x348001,x348002=>if x42<x41 then (if 0≤x42 then (if x42<(x40.length:Int) then (if (rd x40 x42)<0 then (some 1) else (if (rd x40 x42) > 15 then (some 1) else (land_Validate.l0 k x40 x41 (wrap64 (x42+1)) x348000 x348001 x348002))) else (none)) else (none)) else (land_Validate.l1 k 0 x348000 x348001 x348002)
def land_Validate.l1:Nat→Int→Int→Int→List Int→Option (Int)
 | 0,_,_,_,_=>none
 | k+1,x5,x348000,x348001,x348002=>if x5≤x348001 then (land_Validate.l2 k x5 0 x348000 x348001 x348002) else (some 0)
def land_Validate.l2:Nat→Int→Int→Int→Int→List Int→Option (Int)
 | 0,_,_,_,_,_=>none
 | k+1,x5,x6,x348000,x348001,x348002=>if x6≤x348000 then (if 0≤(wrap64 ((wrap64 (x5 * (wrap64 (x348000+1))))+x6)) then (if (wrap64 ((wrap64 (x5 * (wrap64 (x348000+1))))+x6))<(x348002.length:Int) then (if x6<x348000 then (if 0≤(wrap64 ((wrap64 ((wrap64 (x5 * (wrap64 (x348000+1))))+x6))+1)) then (if (wrap64 ((wrap64 ((wrap64 (x5 * (wrap64 (x348000+1))))+x6))+1))<(x348002.length:Int) then ((land_apart.f (rd x348002 (wrap64 ((wrap64 (x5 * (wrap64 (x348000+1))))+x6))) (rd x348002 (wrap64 ((wrap64 ((wrap64 (x5 * (wrap64 (x348000+1))))+x6))+1)))).bind fun t351=>(if t351=true then (some 5) else (if x5<x348001 then (if 0≤(wrap64 ((wrap64 ((wrap64 (x5+1)) * (wrap64 (x348000+1))))+x6)) then (if (wrap64 ((wrap64 ((wrap64 (x5+1)) * (wrap64 (x348000+1))))+x6))<(x348002.length:Int) then ((land_apart.f (rd x348002 (wrap64 ((wrap64 (x5 * (wrap64 (x348000+1))))+x6))) (rd x348002 (wrap64 ((wrap64 ((wrap64 (x5+1)) * (wrap64 (x348000+1))))+x6)))).bind fun t353=>(if t353=true then (some 5) else (land_Validate.l2 k x5 (wrap64 (x6+1)) x348000 x348001 x348002))) else (none)) else (none)) else (land_Validate.l2 k x5 (wrap64 (x6+1)) x348000 x348001 x348002)))) else (none)) else (none)) else (if x5<x348001 then (if 0≤(wrap64 ((wrap64 ((wrap64 (x5+1)) * (wrap64 (x348000+1))))+x6)) then (if (wrap64 ((wrap64 ((wrap64 (x5+1)) * (wrap64 (x348000+1))))+x6))<(x348002.length:Int) then ((land_apart.f (rd x348002 (wrap64 ((wrap64 (x5 * (wrap64 (x348000+1))))+x6))) (rd x348002 (wrap64 ((wrap64 ((wrap64 (x5+1)) * (wrap64 (x348000+1))))+x6)))).bind fun t355=>(if t355=true then (some 5) else (land_Validate.l2 k x5 (wrap64 (x6+1)) x348000 x348001 x348002))) else (none)) else (none)) else (land_Validate.l2 k x5 (wrap64 (x6+1)) x348000 x348001 x348002))) else (none)) else (none)) else (land_Validate.l1 k (wrap64 (x5+1)) x348000 x348001 x348002)
end
def land_Validate.f (k:Nat) (a0_0:Int) (a0_1:Int) (l0_2:List Int):Option (Int):=if a0_0<4 then (land_Validate.j0 k true a0_0 a0_1 l0_2) else (if a0_0 > 32 then (land_Validate.j0 k true a0_0 a0_1 l0_2) else (if a0_1<4 then (land_Validate.j0 k true a0_0 a0_1 l0_2) else (if a0_1 > 32 then (land_Validate.j0 k true a0_0 a0_1 l0_2) else (land_Validate.j0 k ((l0_2.length:Int) != (wrap64 ((wrap64 (a0_0+1)) * (wrap64 (a0_1+1))))) a0_0 a0_1 l0_2))))
theorem land_Validate.mono_l:∀ k,(∀ y0 y1 y2 y3,LeO (land_Validate.j0 k y0 y1 y2 y3) (land_Validate.j0 (k+1) y0 y1 y2 y3))∧(∀ y0 y1 y2 y3 y4 y5,LeO (land_Validate.l0 k y0 y1 y2 y3 y4 y5) (land_Validate.l0 (k+1) y0 y1 y2 y3 y4 y5))∧(∀ y0 y1 y2 y3,LeO (land_Validate.l1 k y0 y1 y2 y3) (land_Validate.l1 (k+1) y0 y1 y2 y3))∧(∀ y0 y1 y2 y3 y4,LeO (land_Validate.l2 k y0 y1 y2 y3 y4) (land_Validate.l2 (k+1) y0 y1 y2 y3 y4))
 | 0=>⟨fun _ _ _ _ r h=>by simp [land_Validate.j0] at h,fun _ _ _ _ _ _ r h=>by simp [land_Validate.l0] at h,fun _ _ _ _ r h=>by simp [land_Validate.l1] at h,fun _ _ _ _ _ r h=>by simp [land_Validate.l2] at h⟩
 | k+1=>by
  obtain ⟨ih0,ih1,ih2,ih3⟩:=land_Validate.mono_l k;refine ⟨?_,?_,?_,?_⟩
  ·intro y0 y1 y2 y3;unfold land_Validate.j0;repeat' with_reducible first|exact ih0 _ _ _ _|exact ih1 _ _ _ _ _ _|exact ih2 _ _ _ _|exact ih3 _ _ _ _ _|apply lr_|apply ln_|apply li_|refine lb_ ?_ fun _=>?_
  ·intro y0 y1 y2 y3 y4 y5;unfold land_Validate.l0;repeat' with_reducible first|exact ih0 _ _ _ _|exact ih1 _ _ _ _ _ _|exact ih2 _ _ _ _|exact ih3 _ _ _ _ _|apply lr_|apply ln_|apply li_|refine lb_ ?_ fun _=>?_
  ·intro y0 y1 y2 y3;unfold land_Validate.l1;repeat' with_reducible first|exact ih0 _ _ _ _|exact ih1 _ _ _ _ _ _|exact ih2 _ _ _ _|exact ih3 _ _ _ _ _|apply lr_|apply ln_|apply li_|refine lb_ ?_ fun _=>?_
  ·intro y0 y1 y2 y3 y4;unfold land_Validate.l2;repeat' with_reducible first|exact ih0 _ _ _ _|exact ih1 _ _ _ _ _ _|exact ih2 _ _ _ _|exact ih3 _ _ _ _ _|apply lr_|apply ln_|apply li_|refine lb_ ?_ fun _=>?_
theorem land_Validate.mono:∀ a0 a1 a2 k,LeO (land_Validate.f k a0 a1 a2) (land_Validate.f (k+1) a0 a1 a2):=by
 intro a0 a1 a2 k;obtain ⟨ih0,ih1,ih2,ih3⟩:=land_Validate.mono_l k;unfold land_Validate.f;repeat' with_reducible first|exact ih0 _ _ _ _|exact ih1 _ _ _ _ _ _|exact ih2 _ _ _ _|exact ih3 _ _ _ _ _|apply lr_|apply ln_|apply li_|refine lb_ ?_ fun _=>?_
theorem land_Validate.calls (k:Nat) (a0_0:Int) (a0_1:Int) (A0_2:Option Addr) (c0_2:Nat) (l0_2:List Int) (r:Int) (w:World) (hr0_2:Kd.C (Kd.int .i64) w A0_2 l0_2.length l0_2) (hc0_2:l0_2.length≤c0_2) (h:land_Validate.f k a0_0 a0_1 l0_2=some r) :
  Calls Try.prog 70 #[.agg #[.int .i64 a0_0,.int .i64 a0_1,.slice A0_2 l0_2.length c0_2]] w fun e w'=>e=.returned (.int .i64 r)∧Below w.heap.size w w':=by
 have hu58:=Try.underlying58;have HR0_2:=am_ hr0_2;have HC0_2:=am_ hc0_2;clear hr0_2 hc0_2;have HB:=am_ (Below.refl w.heap.size w);have H:=h;clear h;unfold land_Validate.f at H;have HC2:=am_ H;clear H;go_enter Try.func70,Try.ntmps70;go_upto_region 1 with (first|((with_reducible refine gate_dst (N:=1) rfl ?_);(try (refine gate_guard (by rfl) ?_;dsimp only));refine box_ev (N:=1) (cs:=#[.int .i64 a0_0,.int .i64 a0_1,.slice A0_2 l0_2.length c0_2]) (t:=58) ?_;intro gb347 hg w3 hbox hb;have BK347:=am_ hbox;have GW347:=gsz (w:=w) hg;have GE347:=GW347;replace HB:=hbs hb;clear hb hbox hg))
 (try simp only [Act.put,sl_]);go_cut [38] (fun v38 wc=>∃ (kq:Nat) (x38_1:Bool),v38=.bool x38_1∧Aside0 (land_Validate.j0 kq x38_1 a0_0 a0_1 l0_2=some r)∧Aside0 (kq≤k)∧Aside0 (wc.heap[gb347]?=some (.cells #[.int .i64 a0_0,.int .i64 a0_1,(.slice A0_2 l0_2.length c0_2)] 58 (0,0)))∧Aside0 (Below w.heap.size w wc))
 case first =>
  have H:=HC2.out;clear HC2;by_cases c4:a0_0<4
  ·rw [if_pos c4] at H;have c4b0:=dt_ c4;clear c4;(first|rw [c4b0]|(simp only [i64_w,i32_w];rw [c4b0])|skip);have H':=am_ H;clear H;obtain ⟨_,_,_,_,_,_⟩:=cells3 BK347.out;go_wp2
   go_meet
   case rel=>exact ⟨_,(true),fr_,H',⟨by first|omega|exact Nat.le_refl _⟩,⟨blk_up BK347.out⟩,⟨hb_⟩⟩
  rw [if_neg c4] at H;have c4b0:=df_ c4;clear c4;(first|rw [c4b0]|(simp only [i64_w,i32_w];rw [c4b0])|skip);by_cases c6:a0_0 > 32
  ·rw [if_pos c6] at H;have c6b0:=dt_ c6;clear c6;have H':=am_ H;clear H;obtain ⟨_,_,_,_,_,_⟩:=cells3 BK347.out;go_wp2
   go_meet
   case rel=>exact ⟨_,(true),fr_,H',⟨by first|omega|exact Nat.le_refl _⟩,⟨blk_up BK347.out⟩,⟨hb_⟩⟩
  rw [if_neg c6] at H;have c6b0:=df_ c6;clear c6;by_cases c8:a0_1<4
  ·rw [if_pos c8] at H;have c8b0:=dt_ c8;clear c8;have H':=am_ H;clear H;obtain ⟨_,_,_,_,_,_⟩:=cells3 BK347.out;go_wp2
   go_meet
   case rel=>exact ⟨_,(true),fr_,H',⟨by first|omega|exact Nat.le_refl _⟩,⟨blk_up BK347.out⟩,⟨hb_⟩⟩
  ·rw [if_neg c8] at H;have c8b0:=df_ c8;clear c8;by_cases c10:a0_1 > 32
   ·rw [if_pos c10] at H;have c10b0:=dt_ c10;clear c10;have H':=am_ H;clear H;obtain ⟨_,_,_,_,_,_⟩:=cells3 BK347.out;go_wp2
    go_meet
    case rel=>exact ⟨_,(true),fr_,H',⟨by first|omega|exact Nat.le_refl _⟩,⟨blk_up BK347.out⟩,⟨hb_⟩⟩
   ·rw [if_neg c10] at H;have c10b0:=df_ c10;clear c10;have H':=am_ H;clear H;obtain ⟨_,_,_,_,_,_⟩:=cells3 BK347.out;go_wp2
    go_meet
    case rel=>exact ⟨_,(((l0_2.length:Int) != (wrap64 ((wrap64 (a0_0+1)) * (wrap64 (a0_1+1)))))),fr_,H',⟨by first|omega|exact Nat.le_refl _⟩,⟨blk_up BK347.out⟩,⟨hb_⟩⟩
 case rest =>
  clear HC2;obtain ⟨kq,x38_1,rfl,HA,HJ1,BK347,HB⟩:=hcut;cases kq with
  | zero=>exact absurd HA.out (by simp [land_Validate.j0])
  | succ kj1 =>
   have H:=HA.out;clear HA;simp only [land_Validate.j0] at H;by_cases c13:x38_1=true
   ·subst c13;rw [if_pos rfl] at H;obtain rfl:=oj_ H;go_wp2
    go_ret
    exact ⟨er_,hb_⟩
   ·replace c13:=Bool.eq_false_iff.mpr c13;subst c13;rw [if_neg (show ¬ (false=true) by decide)] at H;have H':=am_ H;clear H;obtain ⟨_,_,_,_,_,_⟩:=cells3 BK347.out;go_wp2
    go_loopg [42] kj1 (fun kq v42 w'=>∃ (x42_2:Int),v42=.int .i64 x42_2∧Aside0 (land_Validate.l0 kq l0_2 (l0_2.length:Int) x42_2 a0_0 a0_1 l0_2=some r)∧Aside0 (kq≤kj1)∧Aside0 (w'.heap[gb347]?=some (.cells #[.int .i64 a0_0,.int .i64 a0_1,(.slice A0_2 l0_2.length c0_2)] 58 (0,0)))∧Aside0 (Below w.heap.size w w'))
    case atStart=>exact ⟨(0),fr_,H',⟨Nat.le_refl _⟩,⟨blk_up BK347.out⟩,⟨hb_⟩⟩
    case round =>
     clear H';obtain ⟨x42_2,rfl,HA,HK2,BK347,HB⟩:=hrel;cases gk with
     | zero=>exact absurd HA.out (by simp [land_Validate.l0])
     | succ k2 =>
      have H:=HA.out;clear HA;simp only [land_Validate.l0] at H;by_cases c15:x42_2<(l0_2.length:Int)
      ·rw [if_pos c15] at H;have c15b0:=dt_ c15;clear c15;obtain ⟨c16,H⟩:=ifp_ H;have c16b0:=dt_ c16;clear c16;obtain ⟨c17,H⟩:=ifp_ H;have c17b0:=dt_ c17;clear c17;by_cases c18:(rd l0_2 x42_2)<0
       ·rw [if_pos c18] at H;have c18b0:=dt_ c18;clear c18;obtain rfl:=oj_ H;have p348:0≤(x42_2:Int):=ofd;have q348:x42_2<(l0_2.length:Int):=ofd;obtain ⟨ad348,e348,hx348_0⟩:=Kd.at_int HR0_2.out x42_2 p348 q348;cases e348;replace hx348_0:=hbc HB hx348_0;replace p348:=eq_true p348;replace q348:=eq_true q348;go_wp2
        go_ret
        exact ⟨er_,hb_⟩
       rw [if_neg c18] at H;have c18b0:=df_ c18;clear c18;by_cases c19:(rd l0_2 x42_2) > 15
       ·rw [if_pos c19] at H;have c19b0:=dt_ c19;clear c19;obtain rfl:=oj_ H;have p348:0≤(x42_2:Int):=ofd;have q348:x42_2<(l0_2.length:Int):=ofd;obtain ⟨ad348,e348,hx348_0⟩:=Kd.at_int HR0_2.out x42_2 p348 q348;cases e348;replace hx348_0:=hbc HB hx348_0;replace p348:=eq_true p348;replace q348:=eq_true q348;go_wp2
        go_ret
        exact ⟨er_,hb_⟩
       ·rw [if_neg c19] at H;have c19b0:=df_ c19;clear c19;have H':=am_ H;clear H;have p348:0≤(x42_2:Int):=ofd;have q348:x42_2<(l0_2.length:Int):=ofd;obtain ⟨ad348,e348,hx348_0⟩:=Kd.at_int HR0_2.out x42_2 p348 q348;cases e348;replace hx348_0:=hbc HB hx348_0;replace p348:=eq_true p348;replace q348:=eq_true q348;go_wp2
        go_roundg k2
        case measure=>have:=HJ1.out;have:=HK2.out;omega
        case rel=>exact ⟨(wrap64 (x42_2+1)),fr_,H',⟨by have:=HJ1.out;have:=HK2.out;omega⟩,⟨blk_up BK347.out⟩,⟨hb_⟩⟩
      rw [if_neg c15] at H;have c15b0:=df_ c15;clear c15;have H':=am_ H;clear H;go_wp2
      go_loopg [5] k2 (fun kq v5 w'=>∃ (x5_3:Int),v5=.int .i64 x5_3∧Aside0 (land_Validate.l1 kq x5_3 a0_0 a0_1 l0_2=some r)∧Aside0 (kq≤k2)∧Aside0 (w'.heap[gb347]?=some (.cells #[.int .i64 a0_0,.int .i64 a0_1,(.slice A0_2 l0_2.length c0_2)] 58 (0,0)))∧Aside0 (Below w.heap.size w w'))
      case atStart=>exact ⟨(0),fr_,H',⟨Nat.le_refl _⟩,⟨blk_up BK347.out⟩,⟨hb_⟩⟩
      case round =>
       clear H';obtain ⟨x5_3,rfl,HA,HK3,BK347,HB⟩:=hrel;cases gk with
       | zero=>exact absurd HA.out (by simp [land_Validate.l1])
       | succ k3 =>
        have H:=HA.out;clear HA;simp only [land_Validate.l1] at H;by_cases c20:x5_3≤a0_1;rotate_left
        ·rw [if_neg c20] at H;have c20b0:=df_ c20;clear c20;obtain rfl:=oj_ H;obtain ⟨_,_,_,_,_,_⟩:=cells3 BK347.out;go_wp2
         go_ret
         exact ⟨er_,hb_⟩
        rw [if_pos c20] at H;have c20b0:=dt_ c20;clear c20;have H':=am_ H;clear H;obtain ⟨_,_,_,_,_,_⟩:=cells3 BK347.out;go_wp2
        go_loopg [6] k3 (fun kq v6 w'=>∃ (x6_4:Int),v6=.int .i64 x6_4∧Aside0 (land_Validate.l2 kq x5_3 x6_4 a0_0 a0_1 l0_2=some r)∧Aside0 (kq≤k3)∧Aside0 (w'.heap[gb347]?=some (.cells #[.int .i64 a0_0,.int .i64 a0_1,(.slice A0_2 l0_2.length c0_2)] 58 (0,0)))∧Aside0 (Below w.heap.size w w'))
        case atStart=>exact ⟨(0),fr_,H',⟨Nat.le_refl _⟩,⟨blk_up BK347.out⟩,⟨hb_⟩⟩
        case round =>
         clear H';obtain ⟨x6_4,rfl,HA,HK4,BK347,HB⟩:=hrel;cases gk with
         | zero=>exact absurd HA.out (by simp [land_Validate.l2])
         | succ k4 =>
          have H:=HA.out;clear HA;simp only [land_Validate.l2] at H;by_cases c22:x6_4≤a0_0;rotate_left
          ·rw [if_neg c22] at H;have c22b0:=df_ c22;clear c22;have H':=am_ H;clear H;obtain ⟨_,_,_,_,_,_⟩:=cells3 BK347.out;go_wp2
           go_roundg k4
           case measure=>have:=HJ1.out;have:=HK2.out;have:=HK3.out;have:=HK4.out;omega
           case rel=>exact ⟨(wrap64 (x5_3+1)),fr_,H',⟨by have:=HJ1.out;have:=HK2.out;have:=HK3.out;have:=HK4.out;omega⟩,⟨blk_up BK347.out⟩,⟨hb_⟩⟩
          rw [if_pos c22] at H;have c22b0:=dt_ c22;clear c22;obtain ⟨ji23,hji23⟩:∃ j_:Int,(wrap64 ((wrap64 (x5_3 * (wrap64 (a0_0+1))))+x6_4))=j_:=⟨_,rfl⟩;(first|rw [hji23] at H|simp only [hji23] at H);have hji23w:(IntKind.i64.wrap ((wrap64 (x5_3 * (wrap64 (a0_0+1))))+x6_4))=ji23:=(i64_w _).trans hji23;obtain ⟨c24,H⟩:=ifp_ H;have c24b0:=dt_ c24;clear c24;obtain ⟨c25,H⟩:=ifp_ H;have c25b0:=dt_ c25;clear c25;by_cases c26:x6_4<a0_0;rotate_left
          ·rw [if_neg c26] at H;have c26b0:=df_ c26;clear c26;by_cases c42:x5_3<a0_1;rotate_left
           ·rw [if_neg c42] at H;have c42b0:=df_ c42;clear c42;have H':=am_ H;clear H;obtain ⟨_,_,_,_,_,_⟩:=cells3 BK347.out;have p349:0≤((ji23):Int):=ofd;have q349:(ji23)<(l0_2.length:Int):=ofd;obtain ⟨ad349,e349,hx349_0⟩:=Kd.at_int HR0_2.out (ji23) p349 q349;cases e349;replace hx349_0:=hbc HB hx349_0;replace p349:=eq_true p349;replace q349:=eq_true q349;go_wp2
            go_roundg k4
            case measure=>have:=HJ1.out;have:=HK2.out;have:=HK3.out;have:=HK4.out;omega
            case rel=>exact ⟨(wrap64 (x6_4+1)),fr_,H',⟨by have:=HJ1.out;have:=HK2.out;have:=HK3.out;have:=HK4.out;omega⟩,⟨blk_up BK347.out⟩,⟨hb_⟩⟩
           rw [if_pos c42] at H;have c42b0:=dt_ c42;clear c42;obtain ⟨ji43,hji43⟩:∃ j_:Int,(wrap64 ((wrap64 ((wrap64 (x5_3+1)) * (wrap64 (a0_0+1))))+x6_4))=j_:=⟨_,rfl⟩;(first|rw [hji43] at H|simp only [hji43] at H);have hji43w:(IntKind.i64.wrap ((wrap64 ((wrap64 (x5_3+1)) * (wrap64 (a0_0+1))))+x6_4))=ji43:=(i64_w _).trans hji43;obtain ⟨c44,H⟩:=ifp_ H;have c44b0:=dt_ c44;clear c44;obtain ⟨c45,H⟩:=ifp_ H;have c45b0:=dt_ c45;clear c45;obtain ⟨t355,A46,H⟩:=bnd H;by_cases c47:t355=true
           ·subst c47;rw [if_pos rfl] at H;obtain rfl:=oj_ H;obtain ⟨_,_,_,_,_,_⟩:=cells3 BK347.out;have p349:0≤((ji23):Int):=ofd;have q349:(ji23)<(l0_2.length:Int):=ofd;obtain ⟨ad349,e349,hx349_0⟩:=Kd.at_int HR0_2.out (ji23) p349 q349;cases e349;replace hx349_0:=hbc HB hx349_0;replace p349:=eq_true p349;replace q349:=eq_true q349;have p354:0≤((ji43):Int):=ofd;have q354:(ji43)<(l0_2.length:Int):=ofd;obtain ⟨ad354,e354,hx354_0⟩:=Kd.at_int HR0_2.out (ji43) p354 q354;obtain rfl:ad349=ad354:=(by injection e354);replace hx354_0:=hbc HB hx354_0;replace p354:=eq_true p354;replace q354:=eq_true q354;go_wp2_with (first|(go_at_call 86;(with_reducible refine (land_apart.calls (rd l0_2 (ji23)) (rd l0_2 (ji43)) true _ A46.out).mono ?_);rintro e w' ⟨rfl,⟨nd,rfl⟩⟩))
            go_ret
            exact ⟨by first|rfl|(simp [errW_none,errW_some] <;> rfl)|(simp only [← hji23,← hji43];first|rfl|(simp [errW_none,errW_some] <;> rfl))|(simp [*,errW_none,errW_some] <;> rfl),hb_⟩
           ·replace c47:=Bool.eq_false_iff.mpr c47;subst c47;rw [if_neg (show ¬ (false=true) by decide)] at H;have H':=am_ H;clear H;obtain ⟨_,_,_,_,_,_⟩:=cells3 BK347.out;have p349:0≤((ji23):Int):=ofd;have q349:(ji23)<(l0_2.length:Int):=ofd;obtain ⟨ad349,e349,hx349_0⟩:=Kd.at_int HR0_2.out (ji23) p349 q349;cases e349;replace hx349_0:=hbc HB hx349_0;replace p349:=eq_true p349;replace q349:=eq_true q349;have p354:0≤((ji43):Int):=ofd;have q354:(ji43)<(l0_2.length:Int):=ofd;obtain ⟨ad354,e354,hx354_0⟩:=Kd.at_int HR0_2.out (ji43) p354 q354;obtain rfl:ad349=ad354:=(by injection e354);replace hx354_0:=hbc HB hx354_0;replace p354:=eq_true p354;replace q354:=eq_true q354;go_wp2_with (first|(go_at_call 86;(with_reducible refine (land_apart.calls (rd l0_2 (ji23)) (rd l0_2 (ji43)) false _ A46.out).mono ?_);rintro e w' ⟨rfl,⟨nd,rfl⟩⟩))
            go_roundg k4
            case measure=>have:=HJ1.out;have:=HK2.out;have:=HK3.out;have:=HK4.out;omega
            case rel=>exact ⟨(wrap64 (x6_4+1)),fr_,H',⟨by have:=HJ1.out;have:=HK2.out;have:=HK3.out;have:=HK4.out;omega⟩,⟨blk_up BK347.out⟩,⟨hb_⟩⟩
          rw [if_pos c26] at H;have c26b0:=dt_ c26;clear c26;obtain ⟨ji27,hji27⟩:∃ j_:Int,(wrap64 ((ji23)+1))=j_:=⟨_,rfl⟩;(first|rw [hji27] at H|simp only [hji27] at H);have hji27w:(IntKind.i64.wrap ((ji23)+1))=ji27:=(i64_w _).trans hji27;obtain ⟨c28,H⟩:=ifp_ H;have c28b0:=dt_ c28;clear c28;obtain ⟨c29,H⟩:=ifp_ H;have c29b0:=dt_ c29;clear c29;obtain ⟨t351,A30,H⟩:=bnd H;by_cases c31:t351=true
          ·subst c31;rw [if_pos rfl] at H;obtain rfl:=oj_ H;obtain ⟨_,_,_,_,_,_⟩:=cells3 BK347.out;have p349:0≤((ji23):Int):=ofd;have q349:(ji23)<(l0_2.length:Int):=ofd;obtain ⟨ad349,e349,hx349_0⟩:=Kd.at_int HR0_2.out (ji23) p349 q349;cases e349;replace hx349_0:=hbc HB hx349_0;replace p349:=eq_true p349;replace q349:=eq_true q349;have p350:0≤((ji27):Int):=ofd;have q350:(ji27)<(l0_2.length:Int):=ofd;obtain ⟨ad350,e350,hx350_0⟩:=Kd.at_int HR0_2.out (ji27) p350 q350;obtain rfl:ad349=ad350:=(by injection e350);replace hx350_0:=hbc HB hx350_0;replace p350:=eq_true p350;replace q350:=eq_true q350;go_wp2_with (first|(go_at_call 86;(with_reducible refine (land_apart.calls (rd l0_2 (ji23)) (rd l0_2 (ji27)) true _ A30.out).mono ?_);rintro e w' ⟨rfl,⟨nd,rfl⟩⟩))
           go_ret
           exact ⟨by first|rfl|(simp [errW_none,errW_some] <;> rfl)|(simp only [← hji23,← hji27];first|rfl|(simp [errW_none,errW_some] <;> rfl))|(simp [*,errW_none,errW_some] <;> rfl),hb_⟩
          ·replace c31:=Bool.eq_false_iff.mpr c31;subst c31;rw [if_neg (show ¬ (false=true) by decide)] at H;by_cases c33:x5_3<a0_1;rotate_left
           ·rw [if_neg c33] at H;have c33b0:=df_ c33;clear c33;have H':=am_ H;clear H;obtain ⟨_,_,_,_,_,_⟩:=cells3 BK347.out;have p349:0≤((ji23):Int):=ofd;have q349:(ji23)<(l0_2.length:Int):=ofd;obtain ⟨ad349,e349,hx349_0⟩:=Kd.at_int HR0_2.out (ji23) p349 q349;cases e349;replace hx349_0:=hbc HB hx349_0;replace p349:=eq_true p349;replace q349:=eq_true q349;have p350:0≤((ji27):Int):=ofd;have q350:(ji27)<(l0_2.length:Int):=ofd;obtain ⟨ad350,e350,hx350_0⟩:=Kd.at_int HR0_2.out (ji27) p350 q350;obtain rfl:ad349=ad350:=(by injection e350);replace hx350_0:=hbc HB hx350_0;replace p350:=eq_true p350;replace q350:=eq_true q350;go_wp2_with (first|(go_at_call 86;(with_reducible refine (land_apart.calls (rd l0_2 (ji23)) (rd l0_2 (ji27)) false _ A30.out).mono ?_);rintro e w' ⟨rfl,⟨nd,rfl⟩⟩))
            go_roundg k4
            case measure=>have:=HJ1.out;have:=HK2.out;have:=HK3.out;have:=HK4.out;omega
            case rel=>exact ⟨(wrap64 (x6_4+1)),fr_,H',⟨by have:=HJ1.out;have:=HK2.out;have:=HK3.out;have:=HK4.out;omega⟩,⟨blk_up BK347.out⟩,⟨hb_⟩⟩
           rw [if_pos c33] at H;have c33b0:=dt_ c33;clear c33;obtain ⟨ji34,hji34⟩:∃ j_:Int,(wrap64 ((wrap64 ((wrap64 (x5_3+1)) * (wrap64 (a0_0+1))))+x6_4))=j_:=⟨_,rfl⟩;(first|rw [hji34] at H|simp only [hji34] at H);(try rw [hji34] at A30);have hji34w:(IntKind.i64.wrap ((wrap64 ((wrap64 (x5_3+1)) * (wrap64 (a0_0+1))))+x6_4))=ji34:=(i64_w _).trans hji34;obtain ⟨c35,H⟩:=ifp_ H;have c35b0:=dt_ c35;clear c35;obtain ⟨c36,H⟩:=ifp_ H;have c36b0:=dt_ c36;clear c36;obtain ⟨t353,A37,H⟩:=bnd H;by_cases c38:t353=true
           ·subst c38;rw [if_pos rfl] at H;obtain rfl:=oj_ H;obtain ⟨_,_,_,_,_,_⟩:=cells3 BK347.out;have p349:0≤((ji23):Int):=ofd;have q349:(ji23)<(l0_2.length:Int):=ofd;obtain ⟨ad349,e349,hx349_0⟩:=Kd.at_int HR0_2.out (ji23) p349 q349;cases e349;replace hx349_0:=hbc HB hx349_0;replace p349:=eq_true p349;replace q349:=eq_true q349;have p350:0≤((ji27):Int):=ofd;have q350:(ji27)<(l0_2.length:Int):=ofd;obtain ⟨ad350,e350,hx350_0⟩:=Kd.at_int HR0_2.out (ji27) p350 q350;obtain rfl:ad349=ad350:=(by injection e350);replace hx350_0:=hbc HB hx350_0;replace p350:=eq_true p350;replace q350:=eq_true q350;go_wp2_with (first|(go_at_call 86;(with_reducible refine (land_apart.calls (rd l0_2 (ji23)) (rd l0_2 (ji27)) false _ A30.out).mono ?_);rintro e w' ⟨rfl,⟨nd,rfl⟩⟩;have p352:0≤((ji34):Int):=ofd;have q352:(ji34)<(l0_2.length:Int):=ofd;obtain ⟨ad352,e352,hx352_0⟩:=Kd.at_int HR0_2.out (ji34) p352 q352;obtain rfl:ad349=ad352:=(by injection e352);replace hx352_0:=hbc HB hx352_0;replace p352:=eq_true p352;replace q352:=eq_true q352)|(go_at_call 86;(with_reducible refine (land_apart.calls (rd l0_2 (ji23)) (rd l0_2 (ji34)) true _ A37.out).mono ?_);rintro e w' ⟨rfl,⟨nd,rfl⟩⟩))
            go_ret
            exact ⟨by first|rfl|(simp [errW_none,errW_some] <;> rfl)|(simp only [← hji23,← hji27,← hji34];first|rfl|(simp [errW_none,errW_some] <;> rfl))|(simp [*,errW_none,errW_some] <;> rfl),hb_⟩
           ·replace c38:=Bool.eq_false_iff.mpr c38;subst c38;rw [if_neg (show ¬ (false=true) by decide)] at H;have H':=am_ H;clear H;obtain ⟨_,_,_,_,_,_⟩:=cells3 BK347.out;have p349:0≤((ji23):Int):=ofd;have q349:(ji23)<(l0_2.length:Int):=ofd;obtain ⟨ad349,e349,hx349_0⟩:=Kd.at_int HR0_2.out (ji23) p349 q349;cases e349;replace hx349_0:=hbc HB hx349_0;replace p349:=eq_true p349;replace q349:=eq_true q349;have p350:0≤((ji27):Int):=ofd;have q350:(ji27)<(l0_2.length:Int):=ofd;obtain ⟨ad350,e350,hx350_0⟩:=Kd.at_int HR0_2.out (ji27) p350 q350;obtain rfl:ad349=ad350:=(by injection e350);replace hx350_0:=hbc HB hx350_0;replace p350:=eq_true p350;replace q350:=eq_true q350;go_wp2_with (first|(go_at_call 86;(with_reducible refine (land_apart.calls (rd l0_2 (ji23)) (rd l0_2 (ji27)) false _ A30.out).mono ?_);rintro e w' ⟨rfl,⟨nd,rfl⟩⟩;have p352:0≤((ji34):Int):=ofd;have q352:(ji34)<(l0_2.length:Int):=ofd;obtain ⟨ad352,e352,hx352_0⟩:=Kd.at_int HR0_2.out (ji34) p352 q352;obtain rfl:ad349=ad352:=(by injection e352);replace hx352_0:=hbc HB hx352_0;replace p352:=eq_true p352;replace q352:=eq_true q352)|(go_at_call 86;(with_reducible refine (land_apart.calls (rd l0_2 (ji23)) (rd l0_2 (ji34)) false _ A37.out).mono ?_);rintro e w' ⟨rfl,⟨nd,rfl⟩⟩))
            go_roundg k4
            case measure=>have:=HJ1.out;have:=HK2.out;have:=HK3.out;have:=HK4.out;omega
            case rel=>exact ⟨(wrap64 (x6_4+1)),fr_,H',⟨by have:=HJ1.out;have:=HK2.out;have:=HK3.out;have:=HK4.out;omega⟩,⟨blk_up BK347.out⟩,⟨hb_⟩⟩

/-! ### road_Validate: function 71 -/
mutual
def road_Validate.j0:Nat→Bool→Int→Int→List Int→List Int→Option (Int)
 | 0,_,_,_,_,_=>none
 | k+1,x45,x357000,x357001,x357002,x357003=>if x45=true then (some 1) else (road_Validate.l0 k (x357002.length:Int) 0 x357000 x357001 x357002 x357003)
def road_Validate.l0:Nat→Int→Int→Int→Int→List Int→List Int→Option (Int)
 | 0,_,_,_,_,_,_=>none
 | k+1,x48,x49,x357000,x357001,x357002,x357003=>if x49<x48 then (if 0≤x49 then (if x49<(x357002.length:Int) then (if (rd x357002 x49)<0 then (some 1) else (if (rd x357002 x49) > 15 then (some 1) else (if x49<(x357003.length:Int) then (if (rd x357003 x49)<0 then (some 1) else (if (rd x357003 x49) > 2 then (some 1) else (road_Validate.l0 k x48 (wrap64 (x49+1)) x357000 x357001 x357002 x357003))) else (none)))) else (none)) else (none)) else (road_Validate.l1 k x357003 (x357003.length:Int) 0 x357000 x357001 x357002 x357003)
def road_Validate.l1:Nat→List Int→Int→Int→Int→Int→List Int→List Int→Option (Int)
 | 0,_,_,_,_,_,_,_=>none
 | k+1,x84,x85,x86,x357000,x357001,x357002,x357003=>if x86<x85 then (if 0≤x86 then (if x86<(x84.length:Int) then (if (rd x84 x86)=0 then (road_Validate.l1 k x84 x85 (wrap64 (x86+1)) x357000 x357001 x357002 x357003) else (if x86<(x357002.length:Int) then (if (rd x357002 x86)=5 then (road_Validate.l1 k x84 x85 (wrap64 (x86+1)) x357000 x357001 x357002 x357003) else (if (rd x357002 x86)=10 then (road_Validate.l1 k x84 x85 (wrap64 (x86+1)) x357000 x357001 x357002 x357003) else (some 9))) else (none))) else (none)) else (none)) else (some 0)
end
def road_Validate.f (k:Nat) (a0_0:Int) (a0_1:Int) (l0_2:List Int) (l0_3:List Int):Option (Int):=if a0_0<4 then (road_Validate.j0 k true a0_0 a0_1 l0_2 l0_3) else (if a0_0 > 32 then (road_Validate.j0 k true a0_0 a0_1 l0_2 l0_3) else (if a0_1<4 then (road_Validate.j0 k true a0_0 a0_1 l0_2 l0_3) else (if a0_1 > 32 then (road_Validate.j0 k true a0_0 a0_1 l0_2 l0_3) else (if (l0_2.length:Int)=(wrap64 (a0_0 * a0_1)) then (road_Validate.j0 k ((l0_3.length:Int) != (wrap64 (a0_0 * a0_1))) a0_0 a0_1 l0_2 l0_3) else (road_Validate.j0 k true a0_0 a0_1 l0_2 l0_3)))))
theorem road_Validate.mono_l:∀ k,(∀ y0 y1 y2 y3 y4,LeO (road_Validate.j0 k y0 y1 y2 y3 y4) (road_Validate.j0 (k+1) y0 y1 y2 y3 y4))∧(∀ y0 y1 y2 y3 y4 y5,LeO (road_Validate.l0 k y0 y1 y2 y3 y4 y5) (road_Validate.l0 (k+1) y0 y1 y2 y3 y4 y5))∧(∀ y0 y1 y2 y3 y4 y5 y6,LeO (road_Validate.l1 k y0 y1 y2 y3 y4 y5 y6) (road_Validate.l1 (k+1) y0 y1 y2 y3 y4 y5 y6))
 | 0=>⟨fun _ _ _ _ _ r h=>by simp [road_Validate.j0] at h,fun _ _ _ _ _ _ r h=>by simp [road_Validate.l0] at h,fun _ _ _ _ _ _ _ r h=>by simp [road_Validate.l1] at h⟩
 | k+1=>by
  obtain ⟨ih0,ih1,ih2⟩:=road_Validate.mono_l k;refine ⟨?_,?_,?_⟩
  ·intro y0 y1 y2 y3 y4;unfold road_Validate.j0;repeat' with_reducible first|exact ih0 _ _ _ _ _|exact ih1 _ _ _ _ _ _|exact ih2 _ _ _ _ _ _ _|apply lr_|apply ln_|apply li_|refine lb_ ?_ fun _=>?_
  ·intro y0 y1 y2 y3 y4 y5;unfold road_Validate.l0;repeat' with_reducible first|exact ih0 _ _ _ _ _|exact ih1 _ _ _ _ _ _|exact ih2 _ _ _ _ _ _ _|apply lr_|apply ln_|apply li_|refine lb_ ?_ fun _=>?_
  ·intro y0 y1 y2 y3 y4 y5 y6;unfold road_Validate.l1;repeat' with_reducible first|exact ih0 _ _ _ _ _|exact ih1 _ _ _ _ _ _|exact ih2 _ _ _ _ _ _ _|apply lr_|apply ln_|apply li_|refine lb_ ?_ fun _=>?_
theorem road_Validate.mono:∀ a0 a1 a2 a3 k,LeO (road_Validate.f k a0 a1 a2 a3) (road_Validate.f (k+1) a0 a1 a2 a3):=by
 intro a0 a1 a2 a3 k;obtain ⟨ih0,ih1,ih2⟩:=road_Validate.mono_l k;unfold road_Validate.f;repeat' with_reducible first|exact ih0 _ _ _ _ _|exact ih1 _ _ _ _ _ _|exact ih2 _ _ _ _ _ _ _|apply lr_|apply ln_|apply li_|refine lb_ ?_ fun _=>?_
theorem road_Validate.calls (k:Nat) (a0_0:Int) (a0_1:Int) (A0_2:Option Addr) (c0_2:Nat) (l0_2:List Int) (A0_3:Option Addr) (c0_3:Nat) (l0_3:List Int) (r:Int) (w:World) (hr0_2:Kd.C (Kd.int .i64) w A0_2 l0_2.length l0_2) (hc0_2:l0_2.length≤c0_2) (hr0_3:Kd.C (Kd.int .i64) w A0_3 l0_3.length l0_3) (hc0_3:l0_3.length≤c0_3) (h:road_Validate.f k a0_0 a0_1 l0_2 l0_3=some r) :
  Calls Try.prog 71 #[.agg #[.int .i64 a0_0,.int .i64 a0_1,.slice A0_2 l0_2.length c0_2,.slice A0_3 l0_3.length c0_3]] w fun e w'=>e=.returned (.int .i64 r)∧Below w.heap.size w w':=by
 have hu60:=Try.underlying60;have HR0_2:=am_ hr0_2;have HC0_2:=am_ hc0_2;clear hr0_2 hc0_2;have HR0_3:=am_ hr0_3;have HC0_3:=am_ hc0_3;clear hr0_3 hc0_3;have HB:=am_ (Below.refl w.heap.size w);have H:=h;clear h;unfold road_Validate.f at H;have HC2:=am_ H;clear H;go_enter Try.func71,Try.ntmps71;go_upto_region 1 with (first|((with_reducible refine gate_dst (N:=1) rfl ?_);(try (refine gate_guard (by rfl) ?_;dsimp only));refine box_ev (N:=1) (cs:=#[.int .i64 a0_0,.int .i64 a0_1,.slice A0_2 l0_2.length c0_2,.slice A0_3 l0_3.length c0_3]) (t:=60) ?_;intro gb356 hg w3 hbox hb;have BK356:=am_ hbox;have GW356:=gsz (w:=w) hg;have GE356:=GW356;replace HB:=hbs hb;clear hb hbox hg))
 (try simp only [Act.put,sl_]);go_cut [45] (fun v45 wc=>∃ (kq:Nat) (x45_1:Bool),v45=.bool x45_1∧Aside0 (road_Validate.j0 kq x45_1 a0_0 a0_1 l0_2 l0_3=some r)∧Aside0 (kq≤k)∧Aside0 (wc.heap[gb356]?=some (.cells #[.int .i64 a0_0,.int .i64 a0_1,(.slice A0_2 l0_2.length c0_2),(.slice A0_3 l0_3.length c0_3)] 60 (0,0)))∧Aside0 (Below w.heap.size w wc))
 case first =>
  have H:=HC2.out;clear HC2;by_cases c4:a0_0<4
  ·rw [if_pos c4] at H;have c4b0:=dt_ c4;clear c4;(first|rw [c4b0]|(simp only [i64_w,i32_w];rw [c4b0])|skip);have H':=am_ H;clear H;obtain ⟨_,_,_,_,_,_,_,_⟩:=cells4 BK356.out;go_wp2
   go_meet
   case rel=>exact ⟨_,(true),fr_,H',⟨by first|omega|exact Nat.le_refl _⟩,⟨blk_up BK356.out⟩,⟨hb_⟩⟩
  rw [if_neg c4] at H;have c4b0:=df_ c4;clear c4;(first|rw [c4b0]|(simp only [i64_w,i32_w];rw [c4b0])|skip);by_cases c6:a0_0 > 32
  ·rw [if_pos c6] at H;have c6b0:=dt_ c6;clear c6;have H':=am_ H;clear H;obtain ⟨_,_,_,_,_,_,_,_⟩:=cells4 BK356.out;go_wp2
   go_meet
   case rel=>exact ⟨_,(true),fr_,H',⟨by first|omega|exact Nat.le_refl _⟩,⟨blk_up BK356.out⟩,⟨hb_⟩⟩
  rw [if_neg c6] at H;have c6b0:=df_ c6;clear c6;by_cases c8:a0_1<4
  ·rw [if_pos c8] at H;have c8b0:=dt_ c8;clear c8;have H':=am_ H;clear H;obtain ⟨_,_,_,_,_,_,_,_⟩:=cells4 BK356.out;go_wp2
   go_meet
   case rel=>exact ⟨_,(true),fr_,H',⟨by first|omega|exact Nat.le_refl _⟩,⟨blk_up BK356.out⟩,⟨hb_⟩⟩
  rw [if_neg c8] at H;have c8b0:=df_ c8;clear c8;by_cases c10:a0_1 > 32
  ·rw [if_pos c10] at H;have c10b0:=dt_ c10;clear c10;have H':=am_ H;clear H;obtain ⟨_,_,_,_,_,_,_,_⟩:=cells4 BK356.out;go_wp2
   go_meet
   case rel=>exact ⟨_,(true),fr_,H',⟨by first|omega|exact Nat.le_refl _⟩,⟨blk_up BK356.out⟩,⟨hb_⟩⟩
  ·rw [if_neg c10] at H;have c10b0:=df_ c10;clear c10;by_cases c12:(l0_2.length:Int)=(wrap64 (a0_0 * a0_1))
   ·rw [if_pos c12] at H;have c12b0:=bqt c12;have c12b1:=bnf c12;clear c12;have H':=am_ H;clear H;obtain ⟨_,_,_,_,_,_,_,_⟩:=cells4 BK356.out;go_wp2
    go_meet
    case rel=>exact ⟨_,(((l0_3.length:Int) != (wrap64 (a0_0 * a0_1)))),fr_,H',⟨by first|omega|exact Nat.le_refl _⟩,⟨blk_up BK356.out⟩,⟨hb_⟩⟩
   ·rw [if_neg c12] at H;have c12b0:=bqf c12;have c12b1:=bnt c12;have H':=am_ H;clear H;obtain ⟨_,_,_,_,_,_,_,_⟩:=cells4 BK356.out;go_wp2
    go_meet
    case rel=>exact ⟨_,(true),fr_,H',⟨by first|omega|exact Nat.le_refl _⟩,⟨blk_up BK356.out⟩,⟨hb_⟩⟩
 case rest =>
  clear HC2;obtain ⟨kq,x45_1,rfl,HA,HJ1,BK356,HB⟩:=hcut;cases kq with
  | zero=>exact absurd HA.out (by simp [road_Validate.j0])
  | succ kj1 =>
   have H:=HA.out;clear HA;simp only [road_Validate.j0] at H;by_cases c15:x45_1=true
   ·subst c15;rw [if_pos rfl] at H;obtain rfl:=oj_ H;go_wp2
    go_ret
    exact ⟨er_,hb_⟩
   ·replace c15:=Bool.eq_false_iff.mpr c15;subst c15;rw [if_neg (show ¬ (false=true) by decide)] at H;have H':=am_ H;clear H;obtain ⟨_,_,_,_,_,_,_,_⟩:=cells4 BK356.out;go_wp2
    go_loopg [49] kj1 (fun kq v49 w'=>∃ (x49_2:Int),v49=.int .i64 x49_2∧Aside0 (road_Validate.l0 kq (l0_2.length:Int) x49_2 a0_0 a0_1 l0_2 l0_3=some r)∧Aside0 (kq≤kj1)∧Aside0 (w'.heap[gb356]?=some (.cells #[.int .i64 a0_0,.int .i64 a0_1,(.slice A0_2 l0_2.length c0_2),(.slice A0_3 l0_3.length c0_3)] 60 (0,0)))∧Aside0 (Below w.heap.size w w'))
    case atStart=>exact ⟨(0),fr_,H',⟨Nat.le_refl _⟩,⟨blk_up BK356.out⟩,⟨hb_⟩⟩
    case round =>
     clear H';obtain ⟨x49_2,rfl,HA,HK2,BK356,HB⟩:=hrel;cases gk with
     | zero=>exact absurd HA.out (by simp [road_Validate.l0])
     | succ k2 =>
      have H:=HA.out;clear HA;simp only [road_Validate.l0] at H;by_cases c17:x49_2<(l0_2.length:Int);rotate_left
      ·rw [if_neg c17] at H;have c17b0:=df_ c17;clear c17;have H':=am_ H;clear H;obtain ⟨_,_,_,_,_,_,_,_⟩:=cells4 BK356.out;go_wp2
       go_loopg [86] k2 (fun kq v86 w'=>∃ (x86_3:Int),v86=.int .i64 x86_3∧Aside0 (road_Validate.l1 kq l0_3 (l0_3.length:Int) x86_3 a0_0 a0_1 l0_2 l0_3=some r)∧Aside0 (kq≤k2)∧Aside0 (w'.heap[gb356]?=some (.cells #[.int .i64 a0_0,.int .i64 a0_1,(.slice A0_2 l0_2.length c0_2),(.slice A0_3 l0_3.length c0_3)] 60 (0,0)))∧Aside0 (Below w.heap.size w w'))
       case atStart=>exact ⟨(0),fr_,H',⟨Nat.le_refl _⟩,⟨blk_up BK356.out⟩,⟨hb_⟩⟩
       case round =>
        clear H';obtain ⟨x86_3,rfl,HA,HK3,BK356,HB⟩:=hrel;cases gk with
        | zero=>exact absurd HA.out (by simp [road_Validate.l1])
        | succ k3 =>
         have H:=HA.out;clear HA;simp only [road_Validate.l1] at H;by_cases c31:x86_3<(l0_3.length:Int);rotate_left
         ·rw [if_neg c31] at H;have c31b0:=df_ c31;clear c31;obtain rfl:=oj_ H;go_wp2
          go_ret
          exact ⟨er_,hb_⟩
         rw [if_pos c31] at H;have c31b0:=dt_ c31;clear c31;obtain ⟨c32,H⟩:=ifp_ H;have c32b0:=dt_ c32;clear c32;obtain ⟨c33,H⟩:=ifp_ H;have c33b0:=dt_ c33;clear c33;by_cases c34:(rd l0_3 x86_3)=0
         ·rw [if_pos c34] at H;have c34b0:=bqt c34;have c34b1:=bnf c34;clear c34;have H':=am_ H;clear H;have p361:0≤(x86_3:Int):=ofd;have q361:x86_3<(l0_3.length:Int):=ofd;obtain ⟨ad361,e361,hx361_0⟩:=Kd.at_int HR0_3.out x86_3 p361 q361;cases e361;replace hx361_0:=hbc HB hx361_0;replace p361:=eq_true p361;replace q361:=eq_true q361;go_wp2
          go_roundg k3
          case measure=>have:=HJ1.out;have:=HK2.out;have:=HK3.out;omega
          case rel=>exact ⟨(wrap64 (x86_3+1)),fr_,H',⟨by have:=HJ1.out;have:=HK2.out;have:=HK3.out;omega⟩,⟨blk_up BK356.out⟩,⟨hb_⟩⟩
         rw [if_neg c34] at H;have c34b0:=bqf c34;have c34b1:=bnt c34;obtain ⟨c35,H⟩:=ifp_ H;have c35b0:=dt_ c35;clear c35;by_cases c36:(rd l0_2 x86_3)=5
         ·rw [if_pos c36] at H;have c36b0:=bqt c36;have c36b1:=bnf c36;clear c36;have H':=am_ H;clear H;have p361:0≤(x86_3:Int):=ofd;have q361:x86_3<(l0_3.length:Int):=ofd;obtain ⟨ad361,e361,hx361_0⟩:=Kd.at_int HR0_3.out x86_3 p361 q361;cases e361;replace hx361_0:=hbc HB hx361_0;replace p361:=eq_true p361;replace q361:=eq_true q361;obtain ⟨_,_,_,_,_,_,_,_⟩:=cells4 BK356.out;have p362:0≤(x86_3:Int):=ofd;have q362:x86_3<(l0_2.length:Int):=ofd;obtain ⟨ad362,e362,hx362_0⟩:=Kd.at_int HR0_2.out x86_3 p362 q362;cases e362;replace hx362_0:=hbc HB hx362_0;replace p362:=eq_true p362;replace q362:=eq_true q362;go_wp2
          go_roundg k3
          case measure=>have:=HJ1.out;have:=HK2.out;have:=HK3.out;omega
          case rel=>exact ⟨(wrap64 (x86_3+1)),fr_,H',⟨by have:=HJ1.out;have:=HK2.out;have:=HK3.out;omega⟩,⟨blk_up BK356.out⟩,⟨hb_⟩⟩
         rw [if_neg c36] at H;have c36b0:=bqf c36;have c36b1:=bnt c36;by_cases c38:(rd l0_2 x86_3)=10
         ·rw [if_pos c38] at H;have c38b0:=bqt c38;have c38b1:=bnf c38;clear c38;have H':=am_ H;clear H;have p361:0≤(x86_3:Int):=ofd;have q361:x86_3<(l0_3.length:Int):=ofd;obtain ⟨ad361,e361,hx361_0⟩:=Kd.at_int HR0_3.out x86_3 p361 q361;cases e361;replace hx361_0:=hbc HB hx361_0;replace p361:=eq_true p361;replace q361:=eq_true q361;obtain ⟨_,_,_,_,_,_,_,_⟩:=cells4 BK356.out;have p362:0≤(x86_3:Int):=ofd;have q362:x86_3<(l0_2.length:Int):=ofd;obtain ⟨ad362,e362,hx362_0⟩:=Kd.at_int HR0_2.out x86_3 p362 q362;cases e362;replace hx362_0:=hbc HB hx362_0;replace p362:=eq_true p362;replace q362:=eq_true q362;have p363:0≤(x86_3:Int):=ofd;have q363:x86_3<(l0_2.length:Int):=ofd;obtain ⟨ad363,e363,hx363_0⟩:=Kd.at_int HR0_2.out x86_3 p363 q363;obtain rfl:ad362=ad363:=(by injection e363);replace hx363_0:=hbc HB hx363_0;replace p363:=eq_true p363;replace q363:=eq_true q363;go_wp2
          go_roundg k3
          case measure=>have:=HJ1.out;have:=HK2.out;have:=HK3.out;omega
          case rel=>exact ⟨(wrap64 (x86_3+1)),fr_,H',⟨by have:=HJ1.out;have:=HK2.out;have:=HK3.out;omega⟩,⟨blk_up BK356.out⟩,⟨hb_⟩⟩
         ·rw [if_neg c38] at H;have c38b0:=bqf c38;have c38b1:=bnt c38;obtain rfl:=oj_ H;have p361:0≤(x86_3:Int):=ofd;have q361:x86_3<(l0_3.length:Int):=ofd;obtain ⟨ad361,e361,hx361_0⟩:=Kd.at_int HR0_3.out x86_3 p361 q361;cases e361;replace hx361_0:=hbc HB hx361_0;replace p361:=eq_true p361;replace q361:=eq_true q361;obtain ⟨_,_,_,_,_,_,_,_⟩:=cells4 BK356.out;have p362:0≤(x86_3:Int):=ofd;have q362:x86_3<(l0_2.length:Int):=ofd;obtain ⟨ad362,e362,hx362_0⟩:=Kd.at_int HR0_2.out x86_3 p362 q362;cases e362;replace hx362_0:=hbc HB hx362_0;replace p362:=eq_true p362;replace q362:=eq_true q362;have p363:0≤(x86_3:Int):=ofd;have q363:x86_3<(l0_2.length:Int):=ofd;obtain ⟨ad363,e363,hx363_0⟩:=Kd.at_int HR0_2.out x86_3 p363 q363;obtain rfl:ad362=ad363:=(by injection e363);replace hx363_0:=hbc HB hx363_0;replace p363:=eq_true p363;replace q363:=eq_true q363;go_wp2
          go_ret
          exact ⟨er_,hb_⟩
      rw [if_pos c17] at H;have c17b0:=dt_ c17;clear c17;obtain ⟨c18,H⟩:=ifp_ H;have c18b0:=dt_ c18;clear c18;obtain ⟨c19,H⟩:=ifp_ H;have c19b0:=dt_ c19;clear c19;by_cases c20:(rd l0_2 x49_2)<0
      ·rw [if_pos c20] at H;have c20b0:=dt_ c20;clear c20;obtain rfl:=oj_ H;obtain ⟨_,_,_,_,_,_,_,_⟩:=cells4 BK356.out;have p357:0≤(x49_2:Int):=ofd;have q357:x49_2<(l0_2.length:Int):=ofd;obtain ⟨ad357,e357,hx357_0⟩:=Kd.at_int HR0_2.out x49_2 p357 q357;cases e357;replace hx357_0:=hbc HB hx357_0;replace p357:=eq_true p357;replace q357:=eq_true q357;go_wp2
       go_ret
       exact ⟨er_,hb_⟩
      rw [if_neg c20] at H;have c20b0:=df_ c20;clear c20;by_cases c22:(rd l0_2 x49_2) > 15
      ·rw [if_pos c22] at H;have c22b0:=dt_ c22;clear c22;obtain rfl:=oj_ H;obtain ⟨_,_,_,_,_,_,_,_⟩:=cells4 BK356.out;have p357:0≤(x49_2:Int):=ofd;have q357:x49_2<(l0_2.length:Int):=ofd;obtain ⟨ad357,e357,hx357_0⟩:=Kd.at_int HR0_2.out x49_2 p357 q357;cases e357;replace hx357_0:=hbc HB hx357_0;replace p357:=eq_true p357;replace q357:=eq_true q357;have p358:0≤(x49_2:Int):=ofd;have q358:x49_2<(l0_2.length:Int):=ofd;obtain ⟨ad358,e358,hx358_0⟩:=Kd.at_int HR0_2.out x49_2 p358 q358;obtain rfl:ad357=ad358:=(by injection e358);replace hx358_0:=hbc HB hx358_0;replace p358:=eq_true p358;replace q358:=eq_true q358;go_wp2
       go_ret
       exact ⟨er_,hb_⟩
      rw [if_neg c22] at H;have c22b0:=df_ c22;clear c22;obtain ⟨c24,H⟩:=ifp_ H;have c24b0:=dt_ c24;clear c24;by_cases c25:(rd l0_3 x49_2)<0
      ·rw [if_pos c25] at H;have c25b0:=dt_ c25;clear c25;obtain rfl:=oj_ H;obtain ⟨_,_,_,_,_,_,_,_⟩:=cells4 BK356.out;have p357:0≤(x49_2:Int):=ofd;have q357:x49_2<(l0_2.length:Int):=ofd;obtain ⟨ad357,e357,hx357_0⟩:=Kd.at_int HR0_2.out x49_2 p357 q357;cases e357;replace hx357_0:=hbc HB hx357_0;replace p357:=eq_true p357;replace q357:=eq_true q357;have p358:0≤(x49_2:Int):=ofd;have q358:x49_2<(l0_2.length:Int):=ofd;obtain ⟨ad358,e358,hx358_0⟩:=Kd.at_int HR0_2.out x49_2 p358 q358;obtain rfl:ad357=ad358:=(by injection e358);replace hx358_0:=hbc HB hx358_0;replace p358:=eq_true p358;replace q358:=eq_true q358;have p359:0≤(x49_2:Int):=ofd;have q359:x49_2<(l0_3.length:Int):=ofd;obtain ⟨ad359,e359,hx359_0⟩:=Kd.at_int HR0_3.out x49_2 p359 q359;cases e359;replace hx359_0:=hbc HB hx359_0;replace p359:=eq_true p359;replace q359:=eq_true q359;go_wp2
       go_ret
       exact ⟨er_,hb_⟩
      rw [if_neg c25] at H;have c25b0:=df_ c25;clear c25;by_cases c27:(rd l0_3 x49_2) > 2
      ·rw [if_pos c27] at H;have c27b0:=dt_ c27;clear c27;obtain rfl:=oj_ H;obtain ⟨_,_,_,_,_,_,_,_⟩:=cells4 BK356.out;have p357:0≤(x49_2:Int):=ofd;have q357:x49_2<(l0_2.length:Int):=ofd;obtain ⟨ad357,e357,hx357_0⟩:=Kd.at_int HR0_2.out x49_2 p357 q357;cases e357;replace hx357_0:=hbc HB hx357_0;replace p357:=eq_true p357;replace q357:=eq_true q357;have p358:0≤(x49_2:Int):=ofd;have q358:x49_2<(l0_2.length:Int):=ofd;obtain ⟨ad358,e358,hx358_0⟩:=Kd.at_int HR0_2.out x49_2 p358 q358;obtain rfl:ad357=ad358:=(by injection e358);replace hx358_0:=hbc HB hx358_0;replace p358:=eq_true p358;replace q358:=eq_true q358;have p359:0≤(x49_2:Int):=ofd;have q359:x49_2<(l0_3.length:Int):=ofd;obtain ⟨ad359,e359,hx359_0⟩:=Kd.at_int HR0_3.out x49_2 p359 q359;cases e359;replace hx359_0:=hbc HB hx359_0;replace p359:=eq_true p359;replace q359:=eq_true q359;have p360:0≤(x49_2:Int):=ofd;have q360:x49_2<(l0_3.length:Int):=ofd;obtain ⟨ad360,e360,hx360_0⟩:=Kd.at_int HR0_3.out x49_2 p360 q360;obtain rfl:ad359=ad360:=(by injection e360);replace hx360_0:=hbc HB hx360_0;replace p360:=eq_true p360;replace q360:=eq_true q360;go_wp2
       go_ret
       exact ⟨er_,hb_⟩
      rw [if_neg c27] at H;have c27b0:=df_ c27;clear c27;have H':=am_ H;clear H;obtain ⟨_,_,_,_,_,_,_,_⟩:=cells4 BK356.out;have p357:0≤(x49_2:Int):=ofd;have q357:x49_2<(l0_2.length:Int):=ofd;obtain ⟨ad357,e357,hx357_0⟩:=Kd.at_int HR0_2.out x49_2 p357 q357;cases e357;replace hx357_0:=hbc HB hx357_0;replace p357:=eq_true p357;replace q357:=eq_true q357;have p358:0≤(x49_2:Int):=ofd;have q358:x49_2<(l0_2.length:Int):=ofd;obtain ⟨ad358,e358,hx358_0⟩:=Kd.at_int HR0_2.out x49_2 p358 q358;obtain rfl:ad357=ad358:=(by injection e358);replace hx358_0:=hbc HB hx358_0;replace p358:=eq_true p358;replace q358:=eq_true q358;have p359:0≤(x49_2:Int):=ofd;have q359:x49_2<(l0_3.length:Int):=ofd;obtain ⟨ad359,e359,hx359_0⟩:=Kd.at_int HR0_3.out x49_2 p359 q359;cases e359;replace hx359_0:=hbc HB hx359_0;replace p359:=eq_true p359;replace q359:=eq_true q359;have p360:0≤(x49_2:Int):=ofd;have q360:x49_2<(l0_3.length:Int):=ofd;obtain ⟨ad360,e360,hx360_0⟩:=Kd.at_int HR0_3.out x49_2 p360 q360;obtain rfl:ad359=ad360:=(by injection e360);replace hx360_0:=hbc HB hx360_0;replace p360:=eq_true p360;replace q360:=eq_true q360;go_wp2
      go_roundg k2
      case measure=>have:=HJ1.out;have:=HK2.out;omega
      case rel=>exact ⟨(wrap64 (x49_2+1)),fr_,H',⟨by have:=HJ1.out;have:=HK2.out;omega⟩,⟨blk_up BK356.out⟩,⟨hb_⟩⟩

/-! ### land_isTile: function 122 -/
def land_isTile.f (a0_0:Int) (a0_1:Int) (l0_2:List Int) (a1:Int):Option (Bool):=if a1≥0 then (some (decide (a1<(wrap64 (a0_0 * a0_1))))) else (some false)
theorem land_isTile.calls (a0_0:Int) (a0_1:Int) (A0_2:Option Addr) (c0_2:Nat) (l0_2:List Int) (a1:Int) (r:Bool) (w:World) (hr0_2:Kd.C (Kd.int .i64) w A0_2 l0_2.length l0_2) (hc0_2:l0_2.length≤c0_2) (h:land_isTile.f a0_0 a0_1 l0_2 a1=some r) :
  Calls Try.prog 122 #[.agg #[.int .i64 a0_0,.int .i64 a0_1,.slice A0_2 l0_2.length c0_2],.int .i64 a1] w fun e w'=>e=.returned (.bool r)∧Below w.heap.size w w':=by
 have hu58:=Try.underlying58;have HR0_2:=am_ hr0_2;have HC0_2:=am_ hc0_2;clear hr0_2 hc0_2;have HB:=am_ (Below.refl w.heap.size w);have H:=h;clear h;unfold land_isTile.f at H;by_cases c3:a1≥0
 ·rw [if_pos c3] at H;have c3b0:=dt_ c3;clear c3;obtain rfl:=oj_ H;go_enter Try.func122,Try.ntmps122;go_wp2_with (first|((with_reducible refine gate_dst (N:=2) rfl ?_);refine box_ev (N:=2) (cs:=#[.int .i64 a0_0,.int .i64 a0_1,.slice A0_2 l0_2.length c0_2]) (t:=58) ?_;intro gb364 hg w4 hbox hb;have BK364:=am_ hbox;have GW364:=gsz (w:=w) hg;have GE364:=GW364;replace HB:=hbs hb;clear hb hbox hg;obtain ⟨_,_,_,_,_,_⟩:=cells3 BK364.out))
  go_ret
  exact ⟨er_,hb_⟩
 ·rw [if_neg c3] at H;have c3b0:=df_ c3;clear c3;obtain rfl:=oj_ H;go_enter Try.func122,Try.ntmps122;go_wp2_with (first|((with_reducible refine gate_dst (N:=2) rfl ?_);refine box_ev (N:=2) (cs:=#[.int .i64 a0_0,.int .i64 a0_1,.slice A0_2 l0_2.length c0_2]) (t:=58) ?_;intro gb364 hg w6 hbox hb;have BK364:=am_ hbox;have GW364:=gsz (w:=w) hg;have GE364:=GW364;replace HB:=hbs hb;clear hb hbox hg))
  go_ret
  exact ⟨er_,hb_⟩

/-! ### land_check: function 110 -/
def land_check.f (k:Nat) (a0_0:Int) (a0_1:Int) (l0_2:List Int) (a1:Int):Option (Int):=(land_Validate.f k a0_0 a0_1 l0_2).bind fun t366=>(if t366=0 then ((land_isTile.f a0_0 a0_1 l0_2 a1).bind fun t367=>(if t367=true then (some 0) else (some 2))) else (some t366))
theorem land_check.mono:∀ a0 a1 a2 a3 k,LeO (land_check.f k a0 a1 a2 a3) (land_check.f (k+1) a0 a1 a2 a3):=by
 intro a0 a1 a2 a3 k;unfold land_check.f;repeat' with_reducible first|apply land_Validate.mono|apply lr_|apply ln_|apply li_|refine lb_ ?_ fun _=>?_
theorem land_check.calls (k:Nat) (a0_0:Int) (a0_1:Int) (A0_2:Option Addr) (c0_2:Nat) (l0_2:List Int) (a1:Int) (r:Int) (w:World) (hr0_2:Kd.C (Kd.int .i64) w A0_2 l0_2.length l0_2) (hc0_2:l0_2.length≤c0_2) (h:land_check.f k a0_0 a0_1 l0_2 a1=some r) :
  Calls Try.prog 110 #[.agg #[.int .i64 a0_0,.int .i64 a0_1,.slice A0_2 l0_2.length c0_2],.int .i64 a1] w fun e w'=>e=.returned (.int .i64 r)∧Below w.heap.size w w':=by
 have hu58:=Try.underlying58;have HR0_2:=am_ hr0_2;have HC0_2:=am_ hc0_2;clear hr0_2 hc0_2;have HB:=am_ (Below.refl w.heap.size w);have H:=h;clear h;unfold land_check.f at H;obtain ⟨t366,A3,H⟩:=bnd H;by_cases c4:t366=0
 ·rw [if_pos c4] at H;have c4b0:=bqt c4;have c4b1:=bnf c4;clear c4;obtain ⟨t367,A5,H⟩:=bnd H;by_cases c6:t367=true
  ·subst c6;rw [if_pos rfl] at H;obtain rfl:=oj_ H;go_enter Try.func110,Try.ntmps110;go_wp2_with (first|((with_reducible refine gate_dst (N:=2) rfl ?_);refine box_ev (N:=2) (cs:=#[.int .i64 a0_0,.int .i64 a0_1,.slice A0_2 l0_2.length c0_2]) (t:=58) ?_;intro gb365 hg w7 hbox hb;have BK365:=am_ hbox;have GW365:=gsz (w:=w) hg;have GE365:=GW365;replace HB:=hbs hb;clear hb hbox hg;obtain ⟨_,_,_,_,_,_⟩:=cells3 BK365.out)|((with_reducible refine gate_callee (f:=70) rfl ?_);refine goesL_ (some 7) rfl rfl Try.func70 (by kernel_rfl) rfl #[.agg #[.int .i64 a0_0,.int .i64 a0_1,.slice A0_2 l0_2.length c0_2]] rfl ga_ ?_;(with_reducible refine (land_Validate.calls k a0_0 a0_1 _ _ l0_2 t366 _ ?_ ?_ A3.out).mono ?_);exact cq HR0_2;exact HC0_2.out;rintro e w9 ⟨rfl,hb⟩;refine ⟨_,rfl,?_⟩;replace BK365:=bkb BK365 hb;replace HB:=hbs hb;obtain ⟨_,_,_,_,_,_⟩:=cells3 BK365.out)|((with_reducible refine gate_callee (f:=122) rfl ?_);refine goesL_ (some 13) rfl rfl Try.func122 (by kernel_rfl) rfl #[.agg #[.int .i64 a0_0,.int .i64 a0_1,.slice A0_2 l0_2.length c0_2],.int .i64 a1] rfl ga_ ?_;(with_reducible refine (land_isTile.calls a0_0 a0_1 _ _ l0_2 a1 true _ ?_ ?_ A5.out).mono ?_);exact cq HR0_2;exact HC0_2.out;rintro e w11 ⟨rfl,hb⟩;refine ⟨_,rfl,?_⟩;replace BK365:=bkb BK365 hb;replace HB:=hbs hb))
   go_ret
   exact ⟨er_,hb_⟩
  ·replace c6:=Bool.eq_false_iff.mpr c6;subst c6;rw [if_neg (show ¬ (false=true) by decide)] at H;obtain rfl:=oj_ H;go_enter Try.func110,Try.ntmps110;go_wp2_with (first|((with_reducible refine gate_dst (N:=2) rfl ?_);refine box_ev (N:=2) (cs:=#[.int .i64 a0_0,.int .i64 a0_1,.slice A0_2 l0_2.length c0_2]) (t:=58) ?_;intro gb365 hg w12 hbox hb;have BK365:=am_ hbox;have GW365:=gsz (w:=w) hg;have GE365:=GW365;replace HB:=hbs hb;clear hb hbox hg;obtain ⟨_,_,_,_,_,_⟩:=cells3 BK365.out)|((with_reducible refine gate_callee (f:=70) rfl ?_);refine goesL_ (some 7) rfl rfl Try.func70 (by kernel_rfl) rfl #[.agg #[.int .i64 a0_0,.int .i64 a0_1,.slice A0_2 l0_2.length c0_2]] rfl ga_ ?_;(with_reducible refine (land_Validate.calls k a0_0 a0_1 _ _ l0_2 t366 _ ?_ ?_ A3.out).mono ?_);exact cq HR0_2;exact HC0_2.out;rintro e w14 ⟨rfl,hb⟩;refine ⟨_,rfl,?_⟩;replace BK365:=bkb BK365 hb;replace HB:=hbs hb;obtain ⟨_,_,_,_,_,_⟩:=cells3 BK365.out)|((with_reducible refine gate_callee (f:=122) rfl ?_);refine goesL_ (some 13) rfl rfl Try.func122 (by kernel_rfl) rfl #[.agg #[.int .i64 a0_0,.int .i64 a0_1,.slice A0_2 l0_2.length c0_2],.int .i64 a1] rfl ga_ ?_;(with_reducible refine (land_isTile.calls a0_0 a0_1 _ _ l0_2 a1 false _ ?_ ?_ A5.out).mono ?_);exact cq HR0_2;exact HC0_2.out;rintro e w16 ⟨rfl,hb⟩;refine ⟨_,rfl,?_⟩;replace BK365:=bkb BK365 hb;replace HB:=hbs hb))
   go_ret
   exact ⟨er_,hb_⟩
 ·rw [if_neg c4] at H;have c4b0:=bqf c4;have c4b1:=bnt c4;obtain rfl:=oj_ H;go_enter Try.func110,Try.ntmps110;go_wp2_with (first|((with_reducible refine gate_dst (N:=2) rfl ?_);refine box_ev (N:=2) (cs:=#[.int .i64 a0_0,.int .i64 a0_1,.slice A0_2 l0_2.length c0_2]) (t:=58) ?_;intro gb365 hg w17 hbox hb;have BK365:=am_ hbox;have GW365:=gsz (w:=w) hg;have GE365:=GW365;replace HB:=hbs hb;clear hb hbox hg;obtain ⟨_,_,_,_,_,_⟩:=cells3 BK365.out)|((with_reducible refine gate_callee (f:=70) rfl ?_);refine goesL_ (some 7) rfl rfl Try.func70 (by kernel_rfl) rfl #[.agg #[.int .i64 a0_0,.int .i64 a0_1,.slice A0_2 l0_2.length c0_2]] rfl ga_ ?_;(with_reducible refine (land_Validate.calls k a0_0 a0_1 _ _ l0_2 t366 _ ?_ ?_ A3.out).mono ?_);exact cq HR0_2;exact HC0_2.out;rintro e w19 ⟨rfl,hb⟩;refine ⟨_,rfl,?_⟩;replace BK365:=bkb BK365 hb;replace HB:=hbs hb))
  go_ret
  exact ⟨er_,hb_⟩

/-! ### land_four: function 118 -/
def land_four.f (a0_0:Int) (a0_1:Int) (l0_2:List Int) (a1:Int):Option (S75):=if a0_0=0 then (none) else (if 0≤(wrap64 ((wrap64 ((wrap64 (Int.tdiv a1 a0_0)) * (wrap64 (a0_0+1))))+(Int.tmod a1 a0_0))) then (if (wrap64 ((wrap64 ((wrap64 (Int.tdiv a1 a0_0)) * (wrap64 (a0_0+1))))+(Int.tmod a1 a0_0)))<(l0_2.length:Int) then (if 0≤(wrap64 ((wrap64 ((wrap64 ((wrap64 (Int.tdiv a1 a0_0)) * (wrap64 (a0_0+1))))+(Int.tmod a1 a0_0)))+1)) then (if (wrap64 ((wrap64 ((wrap64 ((wrap64 (Int.tdiv a1 a0_0)) * (wrap64 (a0_0+1))))+(Int.tmod a1 a0_0)))+1))<(l0_2.length:Int) then (if 0≤(wrap64 ((wrap64 ((wrap64 ((wrap64 ((wrap64 (Int.tdiv a1 a0_0)) * (wrap64 (a0_0+1))))+(Int.tmod a1 a0_0)))+a0_0))+2)) then (if (wrap64 ((wrap64 ((wrap64 ((wrap64 ((wrap64 (Int.tdiv a1 a0_0)) * (wrap64 (a0_0+1))))+(Int.tmod a1 a0_0)))+a0_0))+2))<(l0_2.length:Int) then (if 0≤(wrap64 ((wrap64 ((wrap64 ((wrap64 ((wrap64 (Int.tdiv a1 a0_0)) * (wrap64 (a0_0+1))))+(Int.tmod a1 a0_0)))+a0_0))+1)) then (if (wrap64 ((wrap64 ((wrap64 ((wrap64 ((wrap64 (Int.tdiv a1 a0_0)) * (wrap64 (a0_0+1))))+(Int.tmod a1 a0_0)))+a0_0))+1))<(l0_2.length:Int) then (some (⟨rd l0_2 (wrap64 ((wrap64 ((wrap64 (Int.tdiv a1 a0_0)) * (wrap64 (a0_0+1))))+(Int.tmod a1 a0_0))),rd l0_2 (wrap64 ((wrap64 ((wrap64 ((wrap64 (Int.tdiv a1 a0_0)) * (wrap64 (a0_0+1))))+(Int.tmod a1 a0_0)))+1)),rd l0_2 (wrap64 ((wrap64 ((wrap64 ((wrap64 ((wrap64 (Int.tdiv a1 a0_0)) * (wrap64 (a0_0+1))))+(Int.tmod a1 a0_0)))+a0_0))+2)),rd l0_2 (wrap64 ((wrap64 ((wrap64 ((wrap64 ((wrap64 (Int.tdiv a1 a0_0)) * (wrap64 (a0_0+1))))+(Int.tmod a1 a0_0)))+a0_0))+1))⟩:S75)) else (none)) else (none)) else (none)) else (none)) else (none)) else (none)) else (none)) else (none))
def land_four.T1:Bool × List (List Nat × List Nat):=(true,[([],[]),([],[]),([1],[1]),([0,2],[0,2]),([],[]),([4],[4]),([5],[5]),([3,6],[3,6]),([],[]),([],[]),([9],[9]),([8,10],[8,10]),([7,11],[7,11]),([12,0,1,2,3,4,5,6,7,8,9,10,11,12],[12])])
def land_four.B1:List Nat:=[0,0,2,7,0,16,48,127,0,0,512,1792,4095,8191]
theorem land_four.tab1:rtab .any (opsOf Try.f118 1)=land_four.T1:=by kernel_rfl
theorem land_four.bits1:waitsOk land_four.T1.2 land_four.B1=true:=by kernel_rfl
def land_four.T2:Bool × List (List Nat × List Nat):=(true,[([],[]),([0],[0]),([],[]),([1,2],[1,2]),([3],[3]),([],[]),([5],[5]),([],[]),([7],[7]),([6,8],[6,8]),([9],[9]),([],[]),([11],[11]),([],[]),([],[]),([14],[14]),([13,15],[13,15]),([16],[16]),([12,17],[12,17]),([18],[18]),([],[]),([20],[20]),([],[]),([],[]),([23],[23]),([22,24],[22,24]),([25],[25]),([21,26],[21,26]),([27],[27]),([4,10,19,28],[4,10,19,28]),([29,0,1,2,3,4,5,6,7,8,9,10,11,12,13,14,15,16,17,18,19,20,21,22,23,24,25,26,27,28,29],[29])])
def land_four.B2:List Nat:=[0,1,0,7,15,0,32,0,128,480,992,0,2048,0,0,16384,57344,122880,260096,522240,0,1048576,0,0,8388608,29360128,62914560,133169152,267386880,536870911,1073741823]
theorem land_four.tab2:rtab .any (opsOf Try.f118 2)=land_four.T2:=by kernel_rfl
theorem land_four.bits2:waitsOk land_four.T2.2 land_four.B2=true:=by kernel_rfl
theorem land_four.calls (a0_0:Int) (a0_1:Int) (A0_2:Option Addr) (c0_2:Nat) (l0_2:List Int) (a1:Int) (r:S75) (w:World) (hr0_2:Kd.C (Kd.int .i64) w A0_2 l0_2.length l0_2) (hc0_2:l0_2.length≤c0_2) (h:land_four.f a0_0 a0_1 l0_2 a1=some r) :
  Calls Try.prog 118 #[.agg #[.int .i64 a0_0,.int .i64 a0_1,.slice A0_2 l0_2.length c0_2],.int .i64 a1] w fun e w'=>e=.returned (.agg #[.int .i64 r.f0,.int .i64 r.f1,.int .i64 r.f2,.int .i64 r.f3])∧Below w.heap.size w w':=by
 have hu58:=Try.underlying58;have hu75:=Try.underlying75;have HR0_2:=am_ hr0_2;have HC0_2:=am_ hc0_2;clear hr0_2 hc0_2;have HB:=am_ (Below.refl w.heap.size w);have H:=h;clear h;unfold land_four.f at H;replace H:=ifn_ H;obtain ⟨c3,H⟩:=H;have c3b0:(a0_0 == 0)=false:=beq_eq_false_iff_ne.mpr c3;have c3b1:(a0_0 != 0)=true:=bne_iff_ne.mpr c3;obtain ⟨ji4,hji4⟩:∃ j_:Int,(wrap64 ((wrap64 ((wrap64 (Int.tdiv a1 a0_0)) * (wrap64 (a0_0+1))))+(Int.tmod a1 a0_0)))=j_:=⟨_,rfl⟩;(first|rw [hji4] at H|simp only [hji4] at H);have hji4w:(IntKind.i64.wrap ((wrap64 ((wrap64 (Int.tdiv a1 a0_0)) * (wrap64 (a0_0+1))))+(Int.tmod a1 a0_0)))=ji4:=(i64_w _).trans hji4;obtain ⟨c5,H⟩:=ifp_ H;have c5b0:=dt_ c5;clear c5;obtain ⟨c6,H⟩:=ifp_ H;have c6b0:=dt_ c6;clear c6;obtain ⟨ji7,hji7⟩:∃ j_:Int,(wrap64 ((ji4)+1))=j_:=⟨_,rfl⟩;(first|rw [hji7] at H|simp only [hji7] at H);have hji7w:(IntKind.i64.wrap ((ji4)+1))=ji7:=(i64_w _).trans hji7;obtain ⟨c8,H⟩:=ifp_ H;have c8b0:=dt_ c8;clear c8;obtain ⟨c9,H⟩:=ifp_ H;have c9b0:=dt_ c9;clear c9;obtain ⟨ji10,hji10⟩:∃ j_:Int,(wrap64 ((wrap64 ((ji4)+a0_0))+2))=j_:=⟨_,rfl⟩;(first|rw [hji10] at H|simp only [hji10] at H);have hji10w:(IntKind.i64.wrap ((wrap64 ((ji4)+a0_0))+2))=ji10:=(i64_w _).trans hji10;obtain ⟨c11,H⟩:=ifp_ H;have c11b0:=dt_ c11;clear c11;obtain ⟨c12,H⟩:=ifp_ H;have c12b0:=dt_ c12;clear c12;obtain ⟨ji13,hji13⟩:∃ j_:Int,(wrap64 ((wrap64 ((ji4)+a0_0))+1))=j_:=⟨_,rfl⟩;(first|rw [hji13] at H|simp only [hji13] at H);have hji13w:(IntKind.i64.wrap ((wrap64 ((ji4)+a0_0))+1))=ji13:=(i64_w _).trans hji13;obtain ⟨c14,H⟩:=ifp_ H;have c14b0:=dt_ c14;clear c14;obtain ⟨c15,H⟩:=ifp_ H;have c15b0:=dt_ c15;clear c15;obtain rfl:=oj_ H;go_enter Try.func118,Try.ntmps118;try go_wp2_with (first|((with_reducible refine gate_dst (N:=2) rfl ?_);refine box_ev (N:=2) (cs:=#[.int .i64 a0_0,.int .i64 a0_1,.slice A0_2 l0_2.length c0_2]) (t:=58) ?_;intro gb368 hg w16 hbox hb;have BK368:=am_ hbox;have GW368:=gsz (w:=w) hg;have GE368:=GW368;replace HB:=hbs hb;clear hb hbox hg)|((with_reducible refine gate_dst (N:=4) rfl ?_);refine box_ev (N:=4) (cs:=#[.int .i64 0,.int .i64 0,.int .i64 0,.int .i64 0]) (t:=75) ?_;intro gb369 hg w17 hbox hb;have BK369:=am_ hbox;have GW369:=gsz (w:=w) hg;have GE369:=GW369;have NB368_369:=nbl BK368 hg;have NB369_368:=nbr BK368 hg;replace BK368:=bkb BK368 hb;replace HB:=hbs hb;clear hb hbox hg))
 replace BK368:=bkd BK368;replace BK369:=bkd BK369;replace HB:=am_ (below_drew1 HB.out);refine start_ (n:=14) (S:=fun w'=>w'.cell? ⟨gb368,0,none⟩=some (.int .i64 a0_0)∧w'.cell? ⟨gb368,1,none⟩=some (.int .i64 a0_1)∧w'.cell? ⟨gb368,2,none⟩=some (.slice A0_2 l0_2.length c0_2)) (ds:=[]) #[false,false,false,false,false,false,false,false,false,false,false,false,false,false] (by kernel_rfl) rfl rfl ⟨bc BK368 0,bc BK368 1,bc BK368 2⟩ (fun hHeld=>?_);refine with_tabW land_four.tab1 land_four.bits1 (fun HT_ HW_=>?_);generalize w17.drew=w18 at BK368 BK369 HB hHeld ⊢;refine pI 0 (some 6) ?_;refine pI 1 (some 7) ?_;refine pI 4 (some 10) ?_;refine pI 8 (some 14) ?_;refine pI 9 (some 15) ?_;refine tI3 2 (some 8) hHeld ?_;refine pI 3 (some 9) ?_;refine tI3 5 (some 11) hHeld ?_;refine pI 6 (some 12) ?_;refine pI 7 (some 13) ?_;refine tI3 10 (some 16) hHeld ?_;refine pI 11 (some 17) ?_;refine pI 12 (some 18) ?_;refine pI 13 (some 5) ?_;refine done_ (done_of HT_.out (by kernel_rfl)) ?_;try go_wp2
 replace BK368:=bkd BK368;replace BK369:=bkd BK369;replace HB:=am_ (below_drew1 HB.out);have p370:0≤((ji4):Int):=ofd;have q370:(ji4)<(l0_2.length:Int):=ofd;obtain ⟨ad370,e370,hx370_0⟩:=Kd.at_int HR0_2.out (ji4) p370 q370;have hw370_0:=hx370_0;cases e370;replace hx370_0:=hbc HB hx370_0;replace p370:=eq_true p370;replace q370:=eq_true q370;have p371:0≤((ji7):Int):=ofd;have q371:(ji7)<(l0_2.length:Int):=ofd;obtain ⟨ad371,e371,hx371_0⟩:=Kd.at_int HR0_2.out (ji7) p371 q371;have hw371_0:=hx371_0;obtain rfl:ad370=ad371:=(by injection e371);replace hx371_0:=hbc HB hx371_0;replace p371:=eq_true p371;replace q371:=eq_true q371;have p372:0≤((ji10):Int):=ofd;have q372:(ji10)<(l0_2.length:Int):=ofd;obtain ⟨ad372,e372,hx372_0⟩:=Kd.at_int HR0_2.out (ji10) p372 q372;have hw372_0:=hx372_0;obtain rfl:ad370=ad372:=(by injection e372);replace hx372_0:=hbc HB hx372_0;replace p372:=eq_true p372;replace q372:=eq_true q372;have p373:0≤((ji13):Int):=ofd;have q373:(ji13)<(l0_2.length:Int):=ofd;obtain ⟨ad373,e373,hx373_0⟩:=Kd.at_int HR0_2.out (ji13) p373 q373;have hw373_0:=hx373_0;obtain rfl:ad370=ad373:=(by injection e373);replace hx373_0:=hbc HB hx373_0;replace p373:=eq_true p373;replace q373:=eq_true q373;refine start_ (n:=31) (S:=fun w'=>w'.cell? ⟨gb368,0,none⟩=some (.int .i64 a0_0)∧w'.cell? ⟨gb368,1,none⟩=some (.int .i64 a0_1)∧w'.cell? ⟨gb368,2,none⟩=some (.slice (some ad370) l0_2.length c0_2)∧w'.cell? (ad370.add ((ji4)).toNat)=some (.int .i64 (rd l0_2 (ji4)))∧w'.cell? (ad370.add ((ji7)).toNat)=some (.int .i64 (rd l0_2 (ji7)))∧w'.cell? (ad370.add ((ji10)).toNat)=some (.int .i64 (rd l0_2 (ji10)))∧w'.cell? (ad370.add ((ji13)).toNat)=some (.int .i64 (rd l0_2 (ji13)))) (ds:=[]) #[false,false,false,false,false,false,false,false,false,false,false,false,false,false,false,false,false,false,false,false,false,false,false,false,false,false,false,false,false,false,false] (by kernel_rfl) rfl rfl ⟨bc BK368 0,bc BK368 1,bc BK368 2,((HB.out.cell (bl_ w _ hw370_0)).trans hw370_0),((HB.out.cell (bl_ w _ hw371_0)).trans hw371_0),((HB.out.cell (bl_ w _ hw372_0)).trans hw372_0),((HB.out.cell (bl_ w _ hw373_0)).trans hw373_0)⟩ (fun hHeld=>?_);refine with_tabW land_four.tab2 land_four.bits2 (fun HT_ HW_=>?_);generalize w18.drew=w19 at BK368 BK369 HB hx370_0 hx371_0 hx372_0 hx373_0 hHeld ⊢;refine pI 0 (some 19) ?_;refine pI 2 (some 21) ?_;refine pI 5 (some 24) ?_;refine pI 7 (some 26) ?_;refine pI 8 (some 27) ?_;refine pI 11 (some 30) ?_;refine pI 13 (some 32) ?_;refine pI 14 (some 33) ?_;refine pI 20 (some 39) ?_;refine pI 22 (some 41) ?_;refine pI 23 (some 42) ?_;refine tI7 1 (some 20) hHeld ?_;refine pI 3 (some 22) ?_;refine tI7 4 (some 23) hHeld ?_;refine tI7 6 (some 25) hHeld ?_;refine pI 9 (some 28) ?_;refine tI7 10 (some 29) hHeld ?_;refine tI7 12 (some 31) hHeld ?_;refine tI7 15 (some 34) hHeld ?_;refine pI 16 (some 35) ?_;refine pI 17 (some 36) ?_;refine pI 18 (some 37) ?_;refine tI7 19 (some 38) hHeld ?_;refine tI7 21 (some 40) hHeld ?_;refine tI7 24 (some 43) hHeld ?_;refine pI 25 (some 44) ?_;refine pI 26 (some 45) ?_;refine pI 27 (some 46) ?_;refine tI7 28 (some 47) hHeld ?_;refine pI 29 (some 48) ?_;refine oI 30 (none) (fun K hK=>?_);have hs20:w19.cell? ⟨gb369,0,none⟩=some (.int .i64 0):=bc BK369 0;have hfs20:=blk_frozen BK369.out 0;have hns20_0:=NB368_369.out;have hms20_0:=NB369_368.out;have hs21:w19.cell? ⟨gb369,1,none⟩=some (.int .i64 0):=bc BK369 1;have hfs21:=blk_frozen BK369.out 1;have hns21_0:=NB368_369.out;have hms21_0:=NB369_368.out;have hs22:w19.cell? ⟨gb369,2,none⟩=some (.int .i64 0):=bc BK369 2;have hfs22:=blk_frozen BK369.out 2;have hns22_0:=NB368_369.out;have hms22_0:=NB369_368.out;have hs23:w19.cell? ⟨gb369,3,none⟩=some (.int .i64 0):=bc BK369 3;have hfs23:=blk_frozen BK369.out 3;have hns23_0:=NB368_369.out;have hms23_0:=NB369_368.out;refine skip_ (w1:=?_) (by rfl) rfl ?_ ?_;rotate_left
 ·go_simp
  rfl
 refine hK.out _ _ ⟨((cell_far (p:=⟨gb369,_,none⟩) NB368_369.out _).trans (((cell_far (p:=⟨gb369,_,none⟩) NB368_369.out _).trans (((cell_far (p:=⟨gb369,_,none⟩) NB368_369.out _).trans (((cell_far (p:=⟨gb369,_,none⟩) NB368_369.out _).trans (hHeld.1)))))))),((cell_far (p:=⟨gb369,_,none⟩) NB368_369.out _).trans (((cell_far (p:=⟨gb369,_,none⟩) NB368_369.out _).trans (((cell_far (p:=⟨gb369,_,none⟩) NB368_369.out _).trans (((cell_far (p:=⟨gb369,_,none⟩) NB368_369.out _).trans (hHeld.2.1)))))))),((cell_far (p:=⟨gb369,_,none⟩) NB368_369.out _).trans (((cell_far (p:=⟨gb369,_,none⟩) NB368_369.out _).trans (((cell_far (p:=⟨gb369,_,none⟩) NB368_369.out _).trans (((cell_far (p:=⟨gb369,_,none⟩) NB368_369.out _).trans (hHeld.2.2.1)))))))),((cell_far (p:=⟨gb369,_,none⟩) (by exact fa_ hw370_0 GW369) _).trans (((cell_far (p:=⟨gb369,_,none⟩) (by exact fa_ hw370_0 GW369) _).trans (((cell_far (p:=⟨gb369,_,none⟩) (by exact fa_ hw370_0 GW369) _).trans (((cell_far (p:=⟨gb369,_,none⟩) (by exact fa_ hw370_0 GW369) _).trans (hHeld.2.2.2.1)))))))),((cell_far (p:=⟨gb369,_,none⟩) (by exact fa_ hw371_0 GW369) _).trans (((cell_far (p:=⟨gb369,_,none⟩) (by exact fa_ hw371_0 GW369) _).trans (((cell_far (p:=⟨gb369,_,none⟩) (by exact fa_ hw371_0 GW369) _).trans (((cell_far (p:=⟨gb369,_,none⟩) (by exact fa_ hw371_0 GW369) _).trans (hHeld.2.2.2.2.1)))))))),((cell_far (p:=⟨gb369,_,none⟩) (by exact fa_ hw372_0 GW369) _).trans (((cell_far (p:=⟨gb369,_,none⟩) (by exact fa_ hw372_0 GW369) _).trans (((cell_far (p:=⟨gb369,_,none⟩) (by exact fa_ hw372_0 GW369) _).trans (((cell_far (p:=⟨gb369,_,none⟩) (by exact fa_ hw372_0 GW369) _).trans (hHeld.2.2.2.2.2.1)))))))),((cell_far (p:=⟨gb369,_,none⟩) (by exact fa_ hw373_0 GW369) _).trans (((cell_far (p:=⟨gb369,_,none⟩) (by exact fa_ hw373_0 GW369) _).trans (((cell_far (p:=⟨gb369,_,none⟩) (by exact fa_ hw373_0 GW369) _).trans (((cell_far (p:=⟨gb369,_,none⟩) (by exact fa_ hw373_0 GW369) _).trans (hHeld.2.2.2.2.2.2))))))))⟩ (fun hHeld=>?_)
 clear hK K;refine done_ (done_of HT_.out (by kernel_rfl)) ?_;try go_wp2
 refine bodyPost_ret (results_cell_row rfl _ _ gb369 75 #[.int .i64 (rd l0_2 (ji4)),.int .i64 (rd l0_2 (ji7)),.int .i64 (rd l0_2 (ji10)),.int .i64 (rd l0_2 (ji13))] (0,0) _ rfl (by refine blkW ?_;exact blk_puts4 (blk_up BK369.out)) Try.underlying75 rfl (by kernel_rfl)) rfl ?_;exact ⟨by first|rfl|(simp [errW_none,errW_some] <;> rfl)|(simp only [← hji4,← hji7,← hji10,← hji13];first|rfl|(simp [errW_none,errW_some] <;> rfl))|(simp [*,errW_none,errW_some] <;> rfl),hb_⟩

/-! ### land_wet: function 111 -/
def land_wet.f (a0_0:Int) (a0_1:Int) (l0_2:List Int) (a1:Int):Option (Bool):=(land_four.f a0_0 a0_1 l0_2 a1).bind fun t375=>(some (decide ((mx (mx (mx t375.f0 t375.f1) t375.f2) t375.f3)≤2)))
theorem land_wet.calls (a0_0:Int) (a0_1:Int) (A0_2:Option Addr) (c0_2:Nat) (l0_2:List Int) (a1:Int) (r:Bool) (w:World) (hr0_2:Kd.C (Kd.int .i64) w A0_2 l0_2.length l0_2) (hc0_2:l0_2.length≤c0_2) (h:land_wet.f a0_0 a0_1 l0_2 a1=some r) :
  Calls Try.prog 111 #[.agg #[.int .i64 a0_0,.int .i64 a0_1,.slice A0_2 l0_2.length c0_2],.int .i64 a1] w fun e w'=>e=.returned (.bool r)∧Below w.heap.size w w':=by
 have hu58:=Try.underlying58;have hu75:=Try.underlying75;have HR0_2:=am_ hr0_2;have HC0_2:=am_ hc0_2;clear hr0_2 hc0_2;have HB:=am_ (Below.refl w.heap.size w);have H:=h;clear h;unfold land_wet.f at H;obtain ⟨t375,A3,H⟩:=bnd H;obtain ⟨ji4,hji4⟩:∃ j_:Int,(mx t375.f0 t375.f1)=j_:=⟨_,rfl⟩;(first|rw [hji4] at H|simp only [hji4] at H);(try rw [hji4] at A3);have hji4_:(if t375.f0<t375.f1 then t375.f1 else t375.f0)=ji4:=hji4;obtain ⟨ji5,hji5⟩:∃ j_:Int,(mx (ji4) t375.f2)=j_:=⟨_,rfl⟩;(first|rw [hji5] at H|simp only [hji5] at H);(try rw [hji5] at A3);have hji5_:(if (ji4)<t375.f2 then t375.f2 else (ji4))=ji5:=hji5;obtain ⟨ji6,hji6⟩:∃ j_:Int,(mx (ji5) t375.f3)=j_:=⟨_,rfl⟩;(first|rw [hji6] at H|simp only [hji6] at H);(try rw [hji6] at A3);have hji6_:(if (ji5)<t375.f3 then t375.f3 else (ji5))=ji6:=hji6;obtain rfl:=oj_ H;go_enter Try.func111,Try.ntmps111;go_wp2_with (first|((with_reducible refine gate_dst (N:=2) rfl ?_);refine box_ev (N:=2) (cs:=#[.int .i64 a0_0,.int .i64 a0_1,.slice A0_2 l0_2.length c0_2]) (t:=58) ?_;intro gb374 hg w7 hbox hb;have BK374:=am_ hbox;have GW374:=gsz (w:=w) hg;have GE374:=GW374;replace HB:=hbs hb;clear hb hbox hg;obtain ⟨_,_,_,_,_,_⟩:=cells3 BK374.out)|((with_reducible refine gate_callee (f:=118) rfl ?_);refine goesL_ (some 8) rfl rfl Try.func118 (by kernel_rfl) rfl #[.agg #[.int .i64 a0_0,.int .i64 a0_1,.slice A0_2 l0_2.length c0_2],.int .i64 a1] rfl ga_ ?_;(with_reducible refine (land_four.calls a0_0 a0_1 _ _ l0_2 a1 t375 _ ?_ ?_ A3.out).mono ?_);exact cq HR0_2;exact HC0_2.out;rintro e w9 ⟨rfl,hb⟩;refine ⟨_,rfl,?_⟩;replace BK374:=bkb BK374 hb;replace HB:=hbs hb)|((with_reducible refine gate_dst (N:=5) rfl ?_);refine box_ev (N:=5) (cs:=#[.int .i64 0,.int .i64 0,.int .i64 0,.int .i64 0]) (t:=75) ?_;intro gb376 hg w10 hbox hb;have BK376:=am_ hbox;have GW376:=gsz (w:=w) hg;have GE376:=GW376;have NB374_376:=nbl BK374 hg;have NB376_374:=nbr BK374 hg;replace BK374:=bkb BK374 hb;replace HB:=hbs hb;clear hb hbox hg;have hnb11:=NB376_374.out;have hnc11:=NB374_376.out;obtain ⟨_,_,_,_,_,_,_,_⟩:=cells4 BK376.out))
 go_ret
 exact ⟨by first|rfl|(simp [errW_none,errW_some] <;> rfl)|(simp only [← hji4,← hji5,← hji6];first|rfl|(simp [errW_none,errW_some] <;> rfl))|(simp [*,errW_none,errW_some] <;> rfl),hb_⟩

/-! ### land_Water: function 100 -/
def land_Water.f (k:Nat) (a0_0:Int) (a0_1:Int) (l0_2:List Int) (a1:Int):Option (Bool × Int):=(land_check.f k a0_0 a0_1 l0_2 a1).bind fun t378=>(if t378=0 then ((land_wet.f a0_0 a0_1 l0_2 a1).bind fun t379=>(some (t379,0))) else (some (false,t378)))
theorem land_Water.mono:∀ a0 a1 a2 a3 k,LeO (land_Water.f k a0 a1 a2 a3) (land_Water.f (k+1) a0 a1 a2 a3):=by
 intro a0 a1 a2 a3 k;unfold land_Water.f;repeat' with_reducible first|apply land_check.mono|apply lr_|apply ln_|apply li_|refine lb_ ?_ fun _=>?_
theorem land_Water.calls (k:Nat) (a0_0:Int) (a0_1:Int) (A0_2:Option Addr) (c0_2:Nat) (l0_2:List Int) (a1:Int) (r1:Bool) (r2:Int) (w:World) (hr0_2:Kd.C (Kd.int .i64) w A0_2 l0_2.length l0_2) (hc0_2:l0_2.length≤c0_2) (h:land_Water.f k a0_0 a0_1 l0_2 a1=some (r1,r2)) :
  Calls Try.prog 100 #[.agg #[.int .i64 a0_0,.int .i64 a0_1,.slice A0_2 l0_2.length c0_2],.int .i64 a1] w fun e w'=>e=.returned (.tuple #[.bool r1,.int .i64 r2])∧Below w.heap.size w w':=by
 have hu58:=Try.underlying58;have HR0_2:=am_ hr0_2;have HC0_2:=am_ hc0_2;clear hr0_2 hc0_2;have HB:=am_ (Below.refl w.heap.size w);have H:=h;clear h;unfold land_Water.f at H;obtain ⟨t378,A3,H⟩:=bnd H;by_cases c4:t378=0
 ·rw [if_pos c4] at H;have c4b0:=bqt c4;have c4b1:=bnf c4;clear c4;obtain ⟨t379,A5,H⟩:=bnd H;simp only [Option.some.injEq,Prod.mk.injEq] at H;obtain ⟨rfl,rfl⟩:=H;go_enter Try.func100,Try.ntmps100;go_wp2_with (first|((with_reducible refine gate_dst (N:=2) rfl ?_);refine box_ev (N:=2) (cs:=#[.int .i64 a0_0,.int .i64 a0_1,.slice A0_2 l0_2.length c0_2]) (t:=58) ?_;intro gb377 hg w6 hbox hb;have BK377:=am_ hbox;have GW377:=gsz (w:=w) hg;have GE377:=GW377;replace HB:=hbs hb;clear hb hbox hg;obtain ⟨_,_,_,_,_,_⟩:=cells3 BK377.out)|((with_reducible refine gate_callee (f:=110) rfl ?_);refine goesL_ (some 9) rfl rfl Try.func110 (by kernel_rfl) rfl #[.agg #[.int .i64 a0_0,.int .i64 a0_1,.slice A0_2 l0_2.length c0_2],.int .i64 a1] rfl ga_ ?_;(with_reducible refine (land_check.calls k a0_0 a0_1 _ _ l0_2 a1 t378 _ ?_ ?_ A3.out).mono ?_);exact cq HR0_2;exact HC0_2.out;rintro e w8 ⟨rfl,hb⟩;refine ⟨_,rfl,?_⟩;replace BK377:=bkb BK377 hb;replace HB:=hbs hb;obtain ⟨_,_,_,_,_,_⟩:=cells3 BK377.out)|((with_reducible refine gate_callee (f:=111) rfl ?_);refine goesL_ (some 15) rfl rfl Try.func111 (by kernel_rfl) rfl #[.agg #[.int .i64 a0_0,.int .i64 a0_1,.slice A0_2 l0_2.length c0_2],.int .i64 a1] rfl ga_ ?_;(with_reducible refine (land_wet.calls a0_0 a0_1 _ _ l0_2 a1 t379 _ ?_ ?_ A5.out).mono ?_);exact cq HR0_2;exact HC0_2.out;rintro e w10 ⟨rfl,hb⟩;refine ⟨_,rfl,?_⟩;replace BK377:=bkb BK377 hb;replace HB:=hbs hb))
  go_ret2
  exact ⟨er_,hb_⟩
 ·rw [if_neg c4] at H;have c4b0:=bqf c4;have c4b1:=bnt c4;simp only [Option.some.injEq,Prod.mk.injEq] at H;obtain ⟨rfl,rfl⟩:=H;go_enter Try.func100,Try.ntmps100;go_wp2_with (first|((with_reducible refine gate_dst (N:=2) rfl ?_);refine box_ev (N:=2) (cs:=#[.int .i64 a0_0,.int .i64 a0_1,.slice A0_2 l0_2.length c0_2]) (t:=58) ?_;intro gb377 hg w11 hbox hb;have BK377:=am_ hbox;have GW377:=gsz (w:=w) hg;have GE377:=GW377;replace HB:=hbs hb;clear hb hbox hg;obtain ⟨_,_,_,_,_,_⟩:=cells3 BK377.out)|((with_reducible refine gate_callee (f:=110) rfl ?_);refine goesL_ (some 9) rfl rfl Try.func110 (by kernel_rfl) rfl #[.agg #[.int .i64 a0_0,.int .i64 a0_1,.slice A0_2 l0_2.length c0_2],.int .i64 a1] rfl ga_ ?_;(with_reducible refine (land_check.calls k a0_0 a0_1 _ _ l0_2 a1 t378 _ ?_ ?_ A3.out).mono ?_);exact cq HR0_2;exact HC0_2.out;rintro e w13 ⟨rfl,hb⟩;refine ⟨_,rfl,?_⟩;replace BK377:=bkb BK377 hb;replace HB:=hbs hb))
  go_ret2
  exact ⟨er_,hb_⟩

/-! ### cmp_isNaN_int: function 123 -/
def cmp_isNaN_int.f (a0:Int):Option (Bool):=some (a0 != a0)
theorem cmp_isNaN_int.calls (a0:Int) (r:Bool) (w:World) (h:cmp_isNaN_int.f a0=some r) :
  Calls Try.prog 123 #[.int .i64 a0] w fun e w'=>e=.returned (.bool r)∧Drawn0 w w':=by
 have H:=h;clear h;unfold cmp_isNaN_int.f at H;obtain rfl:=oj_ H;go_enter Try.func123,Try.ntmps123;go_wp2
 go_ret
 exact ⟨fr_,dr_⟩

end Go.Proofs.Ytbdijpjlgokfkaa.P

/- Functions of this seat as plain Lean functions, with proofs that the Go code comes to just their answers, or what stands between them and a law's statement; no conditions. (Laid by a program of this session, out of the kit's print.) -/
import Derived.Test.YthjmdpekcleihaaPx0
import Derived.Test.YthjmdpekcleihaaPx1
namespace Go.Proofs.Ythjmdpekcleihaa.P
open Go.RowKit Go.Proofs.YthjmdpekcleihaaW.PrintWords Go.Proofs.YthjmdpekcleihaaW.PrintLast Go.Proofs.YthjmdpekcleihaaW.PrintMore
attribute [local go_sem] max2_int min2_int max_two min_two max_three min_three max_four min_four   -- for this text's walks alone
set_option linter.unusedVariables false
set_option linter.unusedSimpArgs false

attribute [local go_sem high] eqA50
/-! ### hinterlandsame_List_int: function 28 -/
def hinterlandsame_List_int.l0:Nat→List Int→List Int→Int→Option (Bool)
 | 0,_,_,_=>none
 | k+1,x0,x1,x5=>if x5<(x0.length:Int) then (if 0≤x5 then (if x5<(x1.length:Int) then (if (rd x0 x5)=(rd x1 x5) then (hinterlandsame_List_int.l0 k x0 x1 (wrap64 (x5+1))) else (some false)) else (none)) else (none)) else (some true)
def hinterlandsame_List_int.f (k:Nat) (l0:List Int) (l1:List Int):Option (Bool) := if (l0.length:Int)=(l1.length:Int) then (hinterlandsame_List_int.l0 k l0 l1 0) else (some false)
theorem hinterlandsame_List_int.mono_l:∀ k,(∀ y0 y1 y2,LeO (hinterlandsame_List_int.l0 k y0 y1 y2) (hinterlandsame_List_int.l0 (k+1) y0 y1 y2))
 | 0=>fun _ _ _ r h=>by simp [hinterlandsame_List_int.l0] at h
 | k+1=>by
  have ih0:=hinterlandsame_List_int.mono_l k
  ·intro y0 y1 y2;unfold hinterlandsame_List_int.l0;repeat' first
   | (with_reducible exact ih0 _ _ _)
   | (with_reducible exact LeO.refl _)
   | (with_reducible exact LeO.none _)
   | (with_reducible refine LeO.ite ?_ ?_)
   | (with_reducible refine LeO.bind ?_ (fun _=>?_))
theorem hinterlandsame_List_int.mono:∀ a0 a1 k,LeO (hinterlandsame_List_int.f k a0 a1) (hinterlandsame_List_int.f (k+1) a0 a1) := by
 intro a0 a1 k;have ih0:=hinterlandsame_List_int.mono_l k;unfold hinterlandsame_List_int.f;repeat' first
   | (with_reducible exact ih0 _ _ _)
   | (with_reducible exact LeO.refl _)
   | (with_reducible exact LeO.none _)
   | (with_reducible refine LeO.ite ?_ ?_)
   | (with_reducible refine LeO.bind ?_ (fun _=>?_))
set_option maxHeartbeats 8000000 in
set_option maxRecDepth 100000 in
theorem hinterlandsame_List_int.calls (k:Nat) (A0:Option Addr) (c0:Nat) (l0:List Int) (A1:Option Addr) (c1:Nat) (l1:List Int) (r:Bool) (w:World) (hr0:Kd.C (Kd.int .i64) w A0 l0.length l0) (hc0:l0.length≤c0) (hr1:Kd.C (Kd.int .i64) w A1 l1.length l1) (hc1:l1.length≤c1) (h:hinterlandsame_List_int.f k l0 l1=some r) :
  Calls Try.prog 28 #[.slice A0 l0.length c0,.slice A1 l1.length c1] w fun e w'=>e=.returned (.bool r)∧Drawn0 w w':=by
 have HR0:=Aside0.mk hr0;have HC0:=Aside0.mk hc0;clear hr0 hc0;have HR1:=Aside0.mk hr1;have HC1:=Aside0.mk hc1;clear hr1 hc1;have H:=h;clear h;unfold hinterlandsame_List_int.f at H;by_cases c3:(l0.length:Int)=(l1.length:Int);rotate_left
 ·rw [if_neg c3] at H;have c3b0:=bqf c3;have c3b1:=bnt c3;have c3b2:(l0.length == l1.length)=false:=by first|simpa using c3|(simp at c3 ⊢;omega)
  obtain rfl:=Option.some.inj H;go_enter Try.func28,Try.ntmps28;go_wp2
  go_ret
  exact ⟨by first|rfl|(simp;done)|(simp [*];done),by repeat (first|exact Drawn0.refl _|apply Drawn0.step)⟩
 rw [if_pos c3] at H;have c3b0:=bqt c3;have c3b1:=bnf c3;have c3b2:(l0.length == l1.length)=true:=by first|simpa using c3|(simp at c3 ⊢;omega)
 clear c3;have H':=Aside0.mk H;clear H;go_enter Try.func28,Try.ntmps28;go_wp2
 go_loopg [5] k (fun kq v5 w'=>∃ (x5_1:Int),v5=.int .i64 x5_1∧Aside0 (hinterlandsame_List_int.l0 kq l0 l1 x5_1=some r)∧Aside0 (kq≤k)∧Drawn0 w w')
 case atStart=>exact ⟨(0),(by first|rfl|(simp;done)|(simp [*];done)),H',⟨Nat.le_refl _⟩,by repeat (first|exact Drawn0.refl _|apply Drawn0.step)⟩
 case round =>
  clear H';obtain ⟨x5_1,rfl,HA,HK1,⟨m1,rfl⟩⟩:=hrel;cases gk with
  | zero=>exact absurd HA.out (by simp [hinterlandsame_List_int.l0])
  | succ k1 =>
   have H:=HA.out;clear HA;simp only [hinterlandsame_List_int.l0] at H;by_cases c4:x5_1<(l0.length:Int);rotate_left
   ·rw [if_neg c4] at H;have c4b0:=decide_eq_false c4;clear c4;obtain rfl:=Option.some.inj H;go_wp2
    go_ret
    exact ⟨by first|rfl|(simp;done)|(simp [*];done),by repeat (first|exact Drawn0.refl _|apply Drawn0.step)⟩
   rw [if_pos c4] at H;have c4b0:=decide_eq_true c4;clear c4;obtain ⟨c5,H⟩:=ifp_ H;have c5b0:=decide_eq_true c5;clear c5;obtain ⟨c6,H⟩:=ifp_ H;have c6b0:=decide_eq_true c6;clear c6;by_cases c7:(rd l0 x5_1)=(rd l1 x5_1)
   ·rw [if_pos c7] at H;have c7b0:=bqt c7;have c7b1:=bnf c7;clear c7;have H':=Aside0.mk H;clear H;have p157:0≤(x5_1:Int):=ofd;have q157:x5_1<(l0.length:Int):=ofd;obtain ⟨ad157,e157,hx157_0⟩:=Kd.at_int HR0.out x5_1 p157 q157;cases e157;replace p157:=eq_true p157;replace q157:=eq_true q157;have p158:0≤(x5_1:Int):=ofd;have q158:x5_1<(l1.length:Int):=ofd;obtain ⟨ad158,e158,hx158_0⟩:=Kd.at_int HR1.out x5_1 p158 q158;cases e158;replace p158:=eq_true p158;replace q158:=eq_true q158;go_wp2
    go_quiet (fail)
    go_wp2
    go_roundg k1
    case measure=>have:=HK1.out;omega
    case rel=>exact ⟨(wrap64 (x5_1+1)),(by first|rfl|(simp;done)|(simp [*];done)),H',⟨by have:=HK1.out;omega⟩,by repeat (first|exact Drawn0.refl _|apply Drawn0.step)⟩
   ·rw [if_neg c7] at H;have c7b0:=bqf c7;have c7b1:=bnt c7;obtain rfl:=Option.some.inj H;have p157:0≤(x5_1:Int):=ofd;have q157:x5_1<(l0.length:Int):=ofd;obtain ⟨ad157,e157,hx157_0⟩:=Kd.at_int HR0.out x5_1 p157 q157;cases e157;replace p157:=eq_true p157;replace q157:=eq_true q157;have p158:0≤(x5_1:Int):=ofd;have q158:x5_1<(l1.length:Int):=ofd;obtain ⟨ad158,e158,hx158_0⟩:=Kd.at_int HR1.out x5_1 p158 q158;cases e158;replace p158:=eq_true p158;replace q158:=eq_true q158;go_wp2
    go_quiet (fail)
    go_wp2
    go_ret
    exact ⟨by first|rfl|(simp;done)|(simp [*];done),by repeat (first|exact Drawn0.refl _|apply Drawn0.step)⟩

/-! ### hinterlandsame_Streets: function 47 -/
def hinterlandsame_Streets.f (k:Nat) (a0_0:Int) (a0_1:Int) (l0_2:List Int) (l0_3:List Int) (a1_0:Int) (a1_1:Int) (l1_2:List Int) (l1_3:List Int):Option (Bool) := if a0_0=a1_0 then (if a0_1=a1_1 then ((hinterlandsame_List_int.f k l0_2 l1_2).bind fun t161=>(if t161=true then ((hinterlandsame_List_int.f k l0_3 l1_3).bind fun t162=>(some t162)) else (some false))) else (some false)) else (some false)
theorem hinterlandsame_Streets.mono:∀ a0 a1 a2 a3 a4 a5 a6 a7 k,LeO (hinterlandsame_Streets.f k a0 a1 a2 a3 a4 a5 a6 a7) (hinterlandsame_Streets.f (k+1) a0 a1 a2 a3 a4 a5 a6 a7) := by
 intro a0 a1 a2 a3 a4 a5 a6 a7 k;unfold hinterlandsame_Streets.f;repeat' first
   | (with_reducible exact hinterlandsame_List_int.mono _ _ _)
   | (with_reducible exact LeO.refl _)
   | (with_reducible exact LeO.none _)
   | (with_reducible refine LeO.ite ?_ ?_)
   | (with_reducible refine LeO.bind ?_ (fun _=>?_))
set_option maxHeartbeats 8000000 in
set_option maxRecDepth 100000 in
theorem hinterlandsame_Streets.calls (k:Nat) (a0_0:Int) (a0_1:Int) (A0_2:Option Addr) (c0_2:Nat) (l0_2:List Int) (A0_3:Option Addr) (c0_3:Nat) (l0_3:List Int) (a1_0:Int) (a1_1:Int) (A1_2:Option Addr) (c1_2:Nat) (l1_2:List Int) (A1_3:Option Addr) (c1_3:Nat) (l1_3:List Int) (r:Bool) (w:World) (hr0_2:Kd.C (Kd.int .i64) w A0_2 l0_2.length l0_2) (hc0_2:l0_2.length≤c0_2) (hr0_3:Kd.C (Kd.int .i64) w A0_3 l0_3.length l0_3) (hc0_3:l0_3.length≤c0_3) (hr1_2:Kd.C (Kd.int .i64) w A1_2 l1_2.length l1_2) (hc1_2:l1_2.length≤c1_2) (hr1_3:Kd.C (Kd.int .i64) w A1_3 l1_3.length l1_3) (hc1_3:l1_3.length≤c1_3) (h:hinterlandsame_Streets.f k a0_0 a0_1 l0_2 l0_3 a1_0 a1_1 l1_2 l1_3=some r) :
  Calls Try.prog 47 #[.agg #[.int .i64 a0_0,.int .i64 a0_1,.slice A0_2 l0_2.length c0_2,.slice A0_3 l0_3.length c0_3],.agg #[.int .i64 a1_0,.int .i64 a1_1,.slice A1_2 l1_2.length c1_2,.slice A1_3 l1_3.length c1_3]] w fun e w'=>e=.returned (.bool r)∧Below w.heap.size w w':=by
 have hu24:=Try.underlying24;have HR0_2:=Aside0.mk hr0_2;have HC0_2:=Aside0.mk hc0_2;clear hr0_2 hc0_2;have HR0_3:=Aside0.mk hr0_3;have HC0_3:=Aside0.mk hc0_3;clear hr0_3 hc0_3;have HR1_2:=Aside0.mk hr1_2;have HC1_2:=Aside0.mk hc1_2;clear hr1_2 hc1_2;have HR1_3:=Aside0.mk hr1_3;have HC1_3:=Aside0.mk hc1_3;clear hr1_3 hc1_3;have HB:=Aside0.mk (Below.refl w.heap.size w);have H:=h;clear h;unfold hinterlandsame_Streets.f at H;by_cases c3:a0_0=a1_0;rotate_left
 ·rw [if_neg c3] at H;have c3b0:=bqf c3;have c3b1:=bnt c3;obtain rfl:=Option.some.inj H;go_enter Try.func47,Try.ntmps47;go_wp2_with (first|((with_reducible refine gate_dst (N:=2) rfl ?_);refine box_ev (N:=2) (cs:=#[.int .i64 a0_0,.int .i64 a0_1,.slice A0_2 l0_2.length c0_2,.slice A0_3 l0_3.length c0_3]) (t:=24) ?_;intro gb159 hg w23 hbox hb;have BK159:=Aside0.mk hbox;have GW159:=gsz (w:=w) hg;have GE159:=GW159;replace HB:=hbs hb;clear hb hbox hg)|((with_reducible refine gate_dst (N:=3) rfl ?_);refine box_ev (N:=3) (cs:=#[.int .i64 a1_0,.int .i64 a1_1,.slice A1_2 l1_2.length c1_2,.slice A1_3 l1_3.length c1_3]) (t:=24) ?_;intro gb160 hg w24 hbox hb;have BK160:=Aside0.mk hbox;have GW160:=gsz (w:=w) hg;have GE160:=GW160;have NB159_160:=nbl BK159 hg;have NB160_159:=nbr BK159 hg;replace BK159:=bkb BK159 hb;replace HB:=hbs hb;clear hb hbox hg;have hnb25:=NB159_160.out;have hnc25:=NB160_159.out;obtain ⟨_,_,_,_,_,_,_,_⟩:=cells4 BK159.out;obtain ⟨_,_,_,_,_,_,_,_⟩:=cells4 BK160.out))
  go_ret
  exact ⟨er_,hb_⟩
 rw [if_pos c3] at H;have c3b0:=bqt c3;have c3b1:=bnf c3;clear c3;by_cases c4:a0_1=a1_1;rotate_left
 ·rw [if_neg c4] at H;have c4b0:=bqf c4;have c4b1:=bnt c4;obtain rfl:=Option.some.inj H;go_enter Try.func47,Try.ntmps47;go_wp2_with (first|((with_reducible refine gate_dst (N:=2) rfl ?_);refine box_ev (N:=2) (cs:=#[.int .i64 a0_0,.int .i64 a0_1,.slice A0_2 l0_2.length c0_2,.slice A0_3 l0_3.length c0_3]) (t:=24) ?_;intro gb159 hg w18 hbox hb;have BK159:=Aside0.mk hbox;have GW159:=gsz (w:=w) hg;have GE159:=GW159;replace HB:=hbs hb;clear hb hbox hg)|((with_reducible refine gate_dst (N:=3) rfl ?_);refine box_ev (N:=3) (cs:=#[.int .i64 a1_0,.int .i64 a1_1,.slice A1_2 l1_2.length c1_2,.slice A1_3 l1_3.length c1_3]) (t:=24) ?_;intro gb160 hg w19 hbox hb;have BK160:=Aside0.mk hbox;have GW160:=gsz (w:=w) hg;have GE160:=GW160;have NB159_160:=nbl BK159 hg;have NB160_159:=nbr BK159 hg;replace BK159:=bkb BK159 hb;replace HB:=hbs hb;clear hb hbox hg;have hnb20:=NB159_160.out;have hnc20:=NB160_159.out;obtain ⟨_,_,_,_,_,_,_,_⟩:=cells4 BK159.out;obtain ⟨_,_,_,_,_,_,_,_⟩:=cells4 BK160.out))
  go_ret
  exact ⟨er_,hb_⟩
 rw [if_pos c4] at H;have c4b0:=bqt c4;have c4b1:=bnf c4;clear c4;obtain ⟨t161,A5,H⟩:=bnd H;by_cases c6:t161=true
 ·subst c6;rw [if_pos rfl] at H;obtain ⟨t162,A7,H⟩:=bnd H;obtain rfl:=Option.some.inj H;go_enter Try.func47,Try.ntmps47;go_wp2_with (first|((with_reducible refine gate_dst (N:=2) rfl ?_);refine box_ev (N:=2) (cs:=#[.int .i64 a0_0,.int .i64 a0_1,.slice A0_2 l0_2.length c0_2,.slice A0_3 l0_3.length c0_3]) (t:=24) ?_;intro gb159 hg w8 hbox hb;have BK159:=Aside0.mk hbox;have GW159:=gsz (w:=w) hg;have GE159:=GW159;replace HB:=hbs hb;clear hb hbox hg)|((with_reducible refine gate_dst (N:=3) rfl ?_);refine box_ev (N:=3) (cs:=#[.int .i64 a1_0,.int .i64 a1_1,.slice A1_2 l1_2.length c1_2,.slice A1_3 l1_3.length c1_3]) (t:=24) ?_;intro gb160 hg w9 hbox hb;have BK160:=Aside0.mk hbox;have GW160:=gsz (w:=w) hg;have GE160:=GW160;have NB159_160:=nbl BK159 hg;have NB160_159:=nbr BK159 hg;replace BK159:=bkb BK159 hb;replace HB:=hbs hb;clear hb hbox hg;have hnb10:=NB159_160.out;have hnc10:=NB160_159.out;obtain ⟨_,_,_,_,_,_,_,_⟩:=cells4 BK159.out;obtain ⟨_,_,_,_,_,_,_,_⟩:=cells4 BK160.out)|(go_at_call 28;(with_reducible refine (hinterlandsame_List_int.calls k _ _ l0_2 _ _ l1_2 true _ ?_ ?_ ?_ ?_ A5.out).mono ?_);exact cq HR0_2;exact HC0_2.out;exact cq HR1_2;exact HC1_2.out;rintro e w' ⟨rfl,⟨nd,rfl⟩⟩)|(go_at_call 28;(with_reducible refine (hinterlandsame_List_int.calls k _ _ l0_3 _ _ l1_3 t162 _ ?_ ?_ ?_ ?_ A7.out).mono ?_);(focus (repeat (first|exact (Kd.C_below HR0_3.out (hb_))|(with_reducible refine Kd.C_alloc ?_ _)|(with_reducible refine Kd.C_drewN ?_ _)|(with_reducible refine Kd.C_drew ?_))));exact HC0_3.out;(focus (repeat (first|exact (Kd.C_below HR1_3.out (hb_))|(with_reducible refine Kd.C_alloc ?_ _)|(with_reducible refine Kd.C_drewN ?_ _)|(with_reducible refine Kd.C_drew ?_))));exact HC1_3.out;rintro e w' ⟨rfl,⟨nd,rfl⟩⟩))
  go_ret
  exact ⟨er_,hb_⟩
 ·replace c6:=Bool.eq_false_iff.mpr c6;subst c6;rw [if_neg (show ¬ (false=true) by decide)] at H;obtain rfl:=Option.some.inj H;go_enter Try.func47,Try.ntmps47;go_wp2_with (first|((with_reducible refine gate_dst (N:=2) rfl ?_);refine box_ev (N:=2) (cs:=#[.int .i64 a0_0,.int .i64 a0_1,.slice A0_2 l0_2.length c0_2,.slice A0_3 l0_3.length c0_3]) (t:=24) ?_;intro gb159 hg w13 hbox hb;have BK159:=Aside0.mk hbox;have GW159:=gsz (w:=w) hg;have GE159:=GW159;replace HB:=hbs hb;clear hb hbox hg)|((with_reducible refine gate_dst (N:=3) rfl ?_);refine box_ev (N:=3) (cs:=#[.int .i64 a1_0,.int .i64 a1_1,.slice A1_2 l1_2.length c1_2,.slice A1_3 l1_3.length c1_3]) (t:=24) ?_;intro gb160 hg w14 hbox hb;have BK160:=Aside0.mk hbox;have GW160:=gsz (w:=w) hg;have GE160:=GW160;have NB159_160:=nbl BK159 hg;have NB160_159:=nbr BK159 hg;replace BK159:=bkb BK159 hb;replace HB:=hbs hb;clear hb hbox hg;have hnb15:=NB159_160.out;have hnc15:=NB160_159.out;obtain ⟨_,_,_,_,_,_,_,_⟩:=cells4 BK159.out;obtain ⟨_,_,_,_,_,_,_,_⟩:=cells4 BK160.out)|(go_at_call 28;(with_reducible refine (hinterlandsame_List_int.calls k _ _ l0_2 _ _ l1_2 false _ ?_ ?_ ?_ ?_ A5.out).mono ?_);exact cq HR0_2;exact HC0_2.out;exact cq HR1_2;exact HC1_2.out;rintro e w' ⟨rfl,⟨nd,rfl⟩⟩))
  go_ret
  exact ⟨er_,hb_⟩

/-! ### api_Truck_48: function 48 -/
def api_Truck_48.l0:Nat→List (S50)→List (S50)→Int→Option (Bool)
 | 0,_,_,_=>none
 | k+1,x0,x1,x5=>if x5<(x0.length:Int) then (if 0≤x5 then (if x5<(x1.length:Int) then (if (!(((rd_T50 x0 x5).f0) == ((rd_T50 x1 x5).f0)) || (!(((rd_T50 x0 x5).f1) == ((rd_T50 x1 x5).f1)) || (!(((rd_T50 x0 x5).f2) == ((rd_T50 x1 x5).f2)) || (!(((rd_T50 x0 x5).f3) == ((rd_T50 x1 x5).f3)) || (!(((rd_T50 x0 x5).f4) == ((rd_T50 x1 x5).f4)))))))=true then (some false) else (api_Truck_48.l0 k x0 x1 (wrap64 (x5+1)))) else (none)) else (none)) else (some true)
def api_Truck_48.f (k:Nat) (l0:List (S50)) (l1:List (S50)):Option (Bool) := if (l0.length:Int)=(l1.length:Int) then (api_Truck_48.l0 k l0 l1 0) else (some false)
theorem api_Truck_48.mono_l:∀ k,(∀ y0 y1 y2,LeO (api_Truck_48.l0 k y0 y1 y2) (api_Truck_48.l0 (k+1) y0 y1 y2))
 | 0=>fun _ _ _ r h=>by simp [api_Truck_48.l0] at h
 | k+1=>by
  have ih0:=api_Truck_48.mono_l k
  ·intro y0 y1 y2;unfold api_Truck_48.l0;repeat' first
   | (with_reducible exact ih0 _ _ _)
   | (with_reducible exact LeO.refl _)
   | (with_reducible exact LeO.none _)
   | (with_reducible refine LeO.ite ?_ ?_)
   | (with_reducible refine LeO.bind ?_ (fun _=>?_))
theorem api_Truck_48.mono:∀ a0 a1 k,LeO (api_Truck_48.f k a0 a1) (api_Truck_48.f (k+1) a0 a1) := by
 intro a0 a1 k;have ih0:=api_Truck_48.mono_l k;unfold api_Truck_48.f;repeat' first
   | (with_reducible exact ih0 _ _ _)
   | (with_reducible exact LeO.refl _)
   | (with_reducible exact LeO.none _)
   | (with_reducible refine LeO.ite ?_ ?_)
   | (with_reducible refine LeO.bind ?_ (fun _=>?_))
set_option maxHeartbeats 8000000 in
set_option maxRecDepth 100000 in
theorem api_Truck_48.calls (k:Nat) (A0:Option Addr) (c0:Nat) (l0:List (S50)) (A1:Option Addr) (c1:Nat) (l1:List (S50)) (r:Bool) (w:World) (hr0:Kd.C k50 w A0 l0.length l0) (hc0:l0.length≤c0) (hr1:Kd.C k50 w A1 l1.length l1) (hc1:l1.length≤c1) (h:api_Truck_48.f k l0 l1=some r) :
  Calls Try.prog 48 #[.slice A0 l0.length c0,.slice A1 l1.length c1] w fun e w'=>e=.returned (.bool r)∧Drawn0 w w':=by
 have hu50:=Try.underlying50;have HR0:=Aside0.mk hr0;have HC0:=Aside0.mk hc0;clear hr0 hc0;have HR1:=Aside0.mk hr1;have HC1:=Aside0.mk hc1;clear hr1 hc1;have H:=h;clear h;unfold api_Truck_48.f at H;by_cases c3:(l0.length:Int)=(l1.length:Int);rotate_left
 ·rw [if_neg c3] at H;have c3b0:=bqf c3;have c3b1:=bnt c3;have c3b2:(l0.length == l1.length)=false:=by first|simpa using c3|(simp at c3 ⊢;omega)
  obtain rfl:=Option.some.inj H;go_enter Try.func48,Try.ntmps48;go_wp2
  go_ret
  exact ⟨by first|rfl|(simp;done)|(simp [*];done),by repeat (first|exact Drawn0.refl _|apply Drawn0.step)⟩
 rw [if_pos c3] at H;have c3b0:=bqt c3;have c3b1:=bnf c3;have c3b2:(l0.length == l1.length)=true:=by first|simpa using c3|(simp at c3 ⊢;omega)
 clear c3;have H':=Aside0.mk H;clear H;go_enter Try.func48,Try.ntmps48;go_wp2
 go_loopg [5] k (fun kq v5 w'=>∃ (x5_1:Int),v5=.int .i64 x5_1∧Aside0 (api_Truck_48.l0 kq l0 l1 x5_1=some r)∧Aside0 (kq≤k)∧Drawn0 w w')
 case atStart=>exact ⟨(0),(by first|rfl|(simp;done)|(simp [*];done)),H',⟨Nat.le_refl _⟩,by repeat (first|exact Drawn0.refl _|apply Drawn0.step)⟩
 case round =>
  clear H';obtain ⟨x5_1,rfl,HA,HK1,⟨m1,rfl⟩⟩:=hrel;cases gk with
  | zero=>exact absurd HA.out (by simp [api_Truck_48.l0])
  | succ k1 =>
   have H:=HA.out;clear HA;simp only [api_Truck_48.l0] at H;by_cases c4:x5_1<(l0.length:Int);rotate_left
   ·rw [if_neg c4] at H;have c4b0:=decide_eq_false c4;clear c4;obtain rfl:=Option.some.inj H;go_wp2
    go_ret
    exact ⟨by first|rfl|(simp;done)|(simp [*];done),by repeat (first|exact Drawn0.refl _|apply Drawn0.step)⟩
   rw [if_pos c4] at H;have c4b0:=decide_eq_true c4;clear c4;obtain ⟨c5,H⟩:=ifp_ H;have c5b0:=decide_eq_true c5;clear c5;obtain ⟨c6,H⟩:=ifp_ H;have c6b0:=decide_eq_true c6;clear c6;by_cases c7:(!(((rd_T50 l0 x5_1).f0) == ((rd_T50 l1 x5_1).f0)) || (!(((rd_T50 l0 x5_1).f1) == ((rd_T50 l1 x5_1).f1)) || (!(((rd_T50 l0 x5_1).f2) == ((rd_T50 l1 x5_1).f2)) || (!(((rd_T50 l0 x5_1).f3) == ((rd_T50 l1 x5_1).f3)) || (!(((rd_T50 l0 x5_1).f4) == ((rd_T50 l1 x5_1).f4)))))))=true
   ·rw [if_pos c7] at H;have c7b0:(!(((rd_T50 l0 x5_1).f0) == ((rd_T50 l1 x5_1).f0)) || (!(((rd_T50 l0 x5_1).f1) == ((rd_T50 l1 x5_1).f1)) || (!(((rd_T50 l0 x5_1).f2) == ((rd_T50 l1 x5_1).f2)) || (!(((rd_T50 l0 x5_1).f3) == ((rd_T50 l1 x5_1).f3)) || (!(((rd_T50 l0 x5_1).f4) == ((rd_T50 l1 x5_1).f4)))))))=true:=c7;clear c7;obtain rfl:=Option.some.inj H;have p163:0≤(x5_1:Int):=ofd;have q163:x5_1<(l0.length:Int):=ofd;obtain ⟨ad163,e163,hx163_0,hx163_1,hx163_2,hx163_3,hx163_4⟩:=at_T50 HR0.out x5_1 p163 q163;cases e163;replace p163:=eq_true p163;replace q163:=eq_true q163;have p164:0≤(x5_1:Int):=ofd;have q164:x5_1<(l1.length:Int):=ofd;obtain ⟨ad164,e164,hx164_0,hx164_1,hx164_2,hx164_3,hx164_4⟩:=at_T50 HR1.out x5_1 p164 q164;cases e164;replace p164:=eq_true p164;replace q164:=eq_true q164;go_wp2
    go_quiet (fail)
    go_wp2
    go_ret
    exact ⟨by first|rfl|(simp;done)|(simp [*];done),by repeat (first|exact Drawn0.refl _|apply Drawn0.step)⟩
   ·rw [if_neg c7] at H;have c7b0:(!(((rd_T50 l0 x5_1).f0) == ((rd_T50 l1 x5_1).f0)) || (!(((rd_T50 l0 x5_1).f1) == ((rd_T50 l1 x5_1).f1)) || (!(((rd_T50 l0 x5_1).f2) == ((rd_T50 l1 x5_1).f2)) || (!(((rd_T50 l0 x5_1).f3) == ((rd_T50 l1 x5_1).f3)) || (!(((rd_T50 l0 x5_1).f4) == ((rd_T50 l1 x5_1).f4)))))))=false:=by simpa using c7
    clear c7;have H':=Aside0.mk H;clear H;have p163:0≤(x5_1:Int):=ofd;have q163:x5_1<(l0.length:Int):=ofd;obtain ⟨ad163,e163,hx163_0,hx163_1,hx163_2,hx163_3,hx163_4⟩:=at_T50 HR0.out x5_1 p163 q163;cases e163;replace p163:=eq_true p163;replace q163:=eq_true q163;have p164:0≤(x5_1:Int):=ofd;have q164:x5_1<(l1.length:Int):=ofd;obtain ⟨ad164,e164,hx164_0,hx164_1,hx164_2,hx164_3,hx164_4⟩:=at_T50 HR1.out x5_1 p164 q164;cases e164;replace p164:=eq_true p164;replace q164:=eq_true q164;go_wp2
    go_quiet (fail)
    go_wp2
    go_roundg k1
    case measure=>have:=HK1.out;omega
    case rel=>exact ⟨(wrap64 (x5_1+1)),(by first|rfl|(simp;done)|(simp [*];done)),H',⟨by have:=HK1.out;omega⟩,by repeat (first|exact Drawn0.refl _|apply Drawn0.step)⟩

/-! ### hinterlandsame_Lane: function 23 -/
def hinterlandsame_Lane.f (k:Nat) (a0_0:Int) (a0_1:Int) (l0_2:List Int) (l0_3:List Int) (l0_4:List Int) (l0_5:List (S50)) (a1_0:Int) (a1_1:Int) (l1_2:List Int) (l1_3:List Int) (l1_4:List Int) (l1_5:List (S50)):Option (Bool) := (hinterlandsame_Streets.f k a0_0 a0_1 l0_2 l0_3 a1_0 a1_1 l1_2 l1_3).bind fun t167=>(if t167=true then ((hinterlandsame_List_int.f k l0_4 l1_4).bind fun t168=>(if t168=true then ((api_Truck_48.f k l0_5 l1_5).bind fun t169=>(some t169)) else (some false))) else (some false))
theorem hinterlandsame_Lane.mono:∀ a0 a1 a2 a3 a4 a5 a6 a7 a8 a9 a10 a11 k,LeO (hinterlandsame_Lane.f k a0 a1 a2 a3 a4 a5 a6 a7 a8 a9 a10 a11) (hinterlandsame_Lane.f (k+1) a0 a1 a2 a3 a4 a5 a6 a7 a8 a9 a10 a11) := by
 intro a0 a1 a2 a3 a4 a5 a6 a7 a8 a9 a10 a11 k;unfold hinterlandsame_Lane.f;repeat' first
   | (with_reducible exact api_Truck_48.mono _ _ _)
   | (with_reducible exact hinterlandsame_List_int.mono _ _ _)
   | (with_reducible exact hinterlandsame_Streets.mono _ _ _ _ _ _ _ _ _)
   | (with_reducible exact LeO.refl _)
   | (with_reducible exact LeO.none _)
   | (with_reducible refine LeO.ite ?_ ?_)
   | (with_reducible refine LeO.bind ?_ (fun _=>?_))
set_option maxHeartbeats 8000000 in
set_option maxRecDepth 100000 in
theorem hinterlandsame_Lane.calls (k:Nat) (a0_0:Int) (a0_1:Int) (A0_2:Option Addr) (c0_2:Nat) (l0_2:List Int) (A0_3:Option Addr) (c0_3:Nat) (l0_3:List Int) (A0_4:Option Addr) (c0_4:Nat) (l0_4:List Int) (A0_5:Option Addr) (c0_5:Nat) (l0_5:List (S50)) (a1_0:Int) (a1_1:Int) (A1_2:Option Addr) (c1_2:Nat) (l1_2:List Int) (A1_3:Option Addr) (c1_3:Nat) (l1_3:List Int) (A1_4:Option Addr) (c1_4:Nat) (l1_4:List Int) (A1_5:Option Addr) (c1_5:Nat) (l1_5:List (S50)) (r:Bool) (w:World) (hr0_2:Kd.C (Kd.int .i64) w A0_2 l0_2.length l0_2) (hc0_2:l0_2.length≤c0_2) (hr0_3:Kd.C (Kd.int .i64) w A0_3 l0_3.length l0_3) (hc0_3:l0_3.length≤c0_3) (hr0_4:Kd.C (Kd.int .i64) w A0_4 l0_4.length l0_4) (hc0_4:l0_4.length≤c0_4) (hr0_5:Kd.C k50 w A0_5 l0_5.length l0_5) (hc0_5:l0_5.length≤c0_5) (hr1_2:Kd.C (Kd.int .i64) w A1_2 l1_2.length l1_2) (hc1_2:l1_2.length≤c1_2) (hr1_3:Kd.C (Kd.int .i64) w A1_3 l1_3.length l1_3) (hc1_3:l1_3.length≤c1_3) (hr1_4:Kd.C (Kd.int .i64) w A1_4 l1_4.length l1_4) (hc1_4:l1_4.length≤c1_4) (hr1_5:Kd.C k50 w A1_5 l1_5.length l1_5) (hc1_5:l1_5.length≤c1_5) (h:hinterlandsame_Lane.f k a0_0 a0_1 l0_2 l0_3 l0_4 l0_5 a1_0 a1_1 l1_2 l1_3 l1_4 l1_5=some r) :
  Calls Try.prog 23 #[.agg #[.int .i64 a0_0,.int .i64 a0_1,.slice A0_2 l0_2.length c0_2,.slice A0_3 l0_3.length c0_3,.slice A0_4 l0_4.length c0_4,.slice A0_5 l0_5.length c0_5],.agg #[.int .i64 a1_0,.int .i64 a1_1,.slice A1_2 l1_2.length c1_2,.slice A1_3 l1_3.length c1_3,.slice A1_4 l1_4.length c1_4,.slice A1_5 l1_5.length c1_5]] w fun e w'=>e=.returned (.bool r)∧Below w.heap.size w w':=by
 have hu33:=Try.underlying33;have hu24:=Try.underlying24;have HR0_2:=Aside0.mk hr0_2;have HC0_2:=Aside0.mk hc0_2;clear hr0_2 hc0_2;have HR0_3:=Aside0.mk hr0_3;have HC0_3:=Aside0.mk hc0_3;clear hr0_3 hc0_3;have HR0_4:=Aside0.mk hr0_4;have HC0_4:=Aside0.mk hc0_4;clear hr0_4 hc0_4;have HR0_5:=Aside0.mk hr0_5;have HC0_5:=Aside0.mk hc0_5;clear hr0_5 hc0_5;have HR1_2:=Aside0.mk hr1_2;have HC1_2:=Aside0.mk hc1_2;clear hr1_2 hc1_2;have HR1_3:=Aside0.mk hr1_3;have HC1_3:=Aside0.mk hc1_3;clear hr1_3 hc1_3;have HR1_4:=Aside0.mk hr1_4;have HC1_4:=Aside0.mk hc1_4;clear hr1_4 hc1_4;have HR1_5:=Aside0.mk hr1_5;have HC1_5:=Aside0.mk hc1_5;clear hr1_5 hc1_5;have HB:=Aside0.mk (Below.refl w.heap.size w);have H:=h;clear h;unfold hinterlandsame_Lane.f at H;obtain ⟨t167,A3,H⟩:=bnd H;by_cases c4:t167=true
 ·subst c4;rw [if_pos rfl] at H;obtain ⟨t168,A5,H⟩:=bnd H;by_cases c6:t168=true
  ·subst c6;rw [if_pos rfl] at H;obtain ⟨t169,A7,H⟩:=bnd H;obtain rfl:=Option.some.inj H;go_enter Try.func23,Try.ntmps23;go_wp2_with (first|((with_reducible refine gate_dst (N:=2) rfl ?_);refine box_ev (N:=2) (cs:=#[.int .i64 a0_0,.int .i64 a0_1,.slice A0_2 l0_2.length c0_2,.slice A0_3 l0_3.length c0_3,.slice A0_4 l0_4.length c0_4,.slice A0_5 l0_5.length c0_5]) (t:=33) ?_;intro gb165 hg w8 hbox hb;have BK165:=Aside0.mk hbox;have GW165:=gsz (w:=w) hg;have GE165:=GW165;replace HB:=hbs hb;clear hb hbox hg)|((with_reducible refine gate_dst (N:=3) rfl ?_);refine box_ev (N:=3) (cs:=#[.int .i64 a1_0,.int .i64 a1_1,.slice A1_2 l1_2.length c1_2,.slice A1_3 l1_3.length c1_3,.slice A1_4 l1_4.length c1_4,.slice A1_5 l1_5.length c1_5]) (t:=33) ?_;intro gb166 hg w9 hbox hb;have BK166:=Aside0.mk hbox;have GW166:=gsz (w:=w) hg;have GE166:=GW166;have NB165_166:=nbl BK165 hg;have NB166_165:=nbr BK165 hg;replace BK165:=bkb BK165 hb;replace HB:=hbs hb;clear hb hbox hg;have hnb10:=NB165_166.out;have hnc10:=NB166_165.out;obtain ⟨_,_,_,_,_,_,_,_,_,_,_,_⟩:=cells6 BK165.out;obtain ⟨_,_,_,_,_,_,_,_,_,_,_,_⟩:=cells6 BK166.out)|((with_reducible refine gate_callee (f:=47) rfl ?_);refine goesL_ (some 9) rfl rfl Try.func47 (by kernel_rfl) rfl #[.agg #[.int .i64 a0_0,.int .i64 a0_1,.slice A0_2 l0_2.length c0_2,.slice A0_3 l0_3.length c0_3],.agg #[.int .i64 a1_0,.int .i64 a1_1,.slice A1_2 l1_2.length c1_2,.slice A1_3 l1_3.length c1_3]] rfl ga_ ?_;(with_reducible refine (hinterlandsame_Streets.calls k a0_0 a0_1 _ _ l0_2 _ _ l0_3 a1_0 a1_1 _ _ l1_2 _ _ l1_3 true _ ?_ ?_ ?_ ?_ ?_ ?_ ?_ ?_ A3.out).mono ?_);exact cq HR0_2;exact HC0_2.out;exact cq HR0_3;exact HC0_3.out;exact cq HR1_2;exact HC1_2.out;exact cq HR1_3;exact HC1_3.out;rintro e w13 ⟨rfl,hb⟩;refine ⟨_,rfl,?_⟩;replace BK165:=bkb BK165 hb;replace BK166:=bkb BK166 hb;replace HB:=hbs hb;obtain ⟨_,_,_,_,_,_,_,_,_,_,_,_⟩:=cells6 BK165.out;obtain ⟨_,_,_,_,_,_,_,_,_,_,_,_⟩:=cells6 BK166.out)|(go_at_call 28;(with_reducible refine (hinterlandsame_List_int.calls k _ _ l0_4 _ _ l1_4 true _ ?_ ?_ ?_ ?_ A5.out).mono ?_);exact cq HR0_4;exact HC0_4.out;exact cq HR1_4;exact HC1_4.out;rintro e w' ⟨rfl,⟨nd,rfl⟩⟩)|(go_at_call 48;(with_reducible refine (api_Truck_48.calls k _ _ l0_5 _ _ l1_5 t169 _ ?_ ?_ ?_ ?_ A7.out).mono ?_);(focus (repeat (first|exact (Kd.C_below HR0_5.out (hb_))|(with_reducible refine Kd.C_alloc ?_ _)|(with_reducible refine Kd.C_drewN ?_ _)|(with_reducible refine Kd.C_drew ?_))));exact HC0_5.out;(focus (repeat (first|exact (Kd.C_below HR1_5.out (hb_))|(with_reducible refine Kd.C_alloc ?_ _)|(with_reducible refine Kd.C_drewN ?_ _)|(with_reducible refine Kd.C_drew ?_))));exact HC1_5.out;rintro e w' ⟨rfl,⟨nd,rfl⟩⟩))
   go_ret
   exact ⟨er_,hb_⟩
  ·replace c6:=Bool.eq_false_iff.mpr c6;subst c6;rw [if_neg (show ¬ (false=true) by decide)] at H;obtain rfl:=Option.some.inj H;go_enter Try.func23,Try.ntmps23;go_wp2_with (first|((with_reducible refine gate_dst (N:=2) rfl ?_);refine box_ev (N:=2) (cs:=#[.int .i64 a0_0,.int .i64 a0_1,.slice A0_2 l0_2.length c0_2,.slice A0_3 l0_3.length c0_3,.slice A0_4 l0_4.length c0_4,.slice A0_5 l0_5.length c0_5]) (t:=33) ?_;intro gb165 hg w16 hbox hb;have BK165:=Aside0.mk hbox;have GW165:=gsz (w:=w) hg;have GE165:=GW165;replace HB:=hbs hb;clear hb hbox hg)|((with_reducible refine gate_dst (N:=3) rfl ?_);refine box_ev (N:=3) (cs:=#[.int .i64 a1_0,.int .i64 a1_1,.slice A1_2 l1_2.length c1_2,.slice A1_3 l1_3.length c1_3,.slice A1_4 l1_4.length c1_4,.slice A1_5 l1_5.length c1_5]) (t:=33) ?_;intro gb166 hg w17 hbox hb;have BK166:=Aside0.mk hbox;have GW166:=gsz (w:=w) hg;have GE166:=GW166;have NB165_166:=nbl BK165 hg;have NB166_165:=nbr BK165 hg;replace BK165:=bkb BK165 hb;replace HB:=hbs hb;clear hb hbox hg;have hnb18:=NB165_166.out;have hnc18:=NB166_165.out;obtain ⟨_,_,_,_,_,_,_,_,_,_,_,_⟩:=cells6 BK165.out;obtain ⟨_,_,_,_,_,_,_,_,_,_,_,_⟩:=cells6 BK166.out)|((with_reducible refine gate_callee (f:=47) rfl ?_);refine goesL_ (some 9) rfl rfl Try.func47 (by kernel_rfl) rfl #[.agg #[.int .i64 a0_0,.int .i64 a0_1,.slice A0_2 l0_2.length c0_2,.slice A0_3 l0_3.length c0_3],.agg #[.int .i64 a1_0,.int .i64 a1_1,.slice A1_2 l1_2.length c1_2,.slice A1_3 l1_3.length c1_3]] rfl ga_ ?_;(with_reducible refine (hinterlandsame_Streets.calls k a0_0 a0_1 _ _ l0_2 _ _ l0_3 a1_0 a1_1 _ _ l1_2 _ _ l1_3 true _ ?_ ?_ ?_ ?_ ?_ ?_ ?_ ?_ A3.out).mono ?_);exact cq HR0_2;exact HC0_2.out;exact cq HR0_3;exact HC0_3.out;exact cq HR1_2;exact HC1_2.out;exact cq HR1_3;exact HC1_3.out;rintro e w21 ⟨rfl,hb⟩;refine ⟨_,rfl,?_⟩;replace BK165:=bkb BK165 hb;replace BK166:=bkb BK166 hb;replace HB:=hbs hb;obtain ⟨_,_,_,_,_,_,_,_,_,_,_,_⟩:=cells6 BK165.out;obtain ⟨_,_,_,_,_,_,_,_,_,_,_,_⟩:=cells6 BK166.out)|(go_at_call 28;(with_reducible refine (hinterlandsame_List_int.calls k _ _ l0_4 _ _ l1_4 false _ ?_ ?_ ?_ ?_ A5.out).mono ?_);exact cq HR0_4;exact HC0_4.out;exact cq HR1_4;exact HC1_4.out;rintro e w' ⟨rfl,⟨nd,rfl⟩⟩))
   go_ret
   exact ⟨er_,hb_⟩
 ·replace c4:=Bool.eq_false_iff.mpr c4;subst c4;rw [if_neg (show ¬ (false=true) by decide)] at H;obtain rfl:=Option.some.inj H;go_enter Try.func23,Try.ntmps23;go_wp2_with (first|((with_reducible refine gate_dst (N:=2) rfl ?_);refine box_ev (N:=2) (cs:=#[.int .i64 a0_0,.int .i64 a0_1,.slice A0_2 l0_2.length c0_2,.slice A0_3 l0_3.length c0_3,.slice A0_4 l0_4.length c0_4,.slice A0_5 l0_5.length c0_5]) (t:=33) ?_;intro gb165 hg w24 hbox hb;have BK165:=Aside0.mk hbox;have GW165:=gsz (w:=w) hg;have GE165:=GW165;replace HB:=hbs hb;clear hb hbox hg)|((with_reducible refine gate_dst (N:=3) rfl ?_);refine box_ev (N:=3) (cs:=#[.int .i64 a1_0,.int .i64 a1_1,.slice A1_2 l1_2.length c1_2,.slice A1_3 l1_3.length c1_3,.slice A1_4 l1_4.length c1_4,.slice A1_5 l1_5.length c1_5]) (t:=33) ?_;intro gb166 hg w25 hbox hb;have BK166:=Aside0.mk hbox;have GW166:=gsz (w:=w) hg;have GE166:=GW166;have NB165_166:=nbl BK165 hg;have NB166_165:=nbr BK165 hg;replace BK165:=bkb BK165 hb;replace HB:=hbs hb;clear hb hbox hg;have hnb26:=NB165_166.out;have hnc26:=NB166_165.out;obtain ⟨_,_,_,_,_,_,_,_,_,_,_,_⟩:=cells6 BK165.out;obtain ⟨_,_,_,_,_,_,_,_,_,_,_,_⟩:=cells6 BK166.out)|((with_reducible refine gate_callee (f:=47) rfl ?_);refine goesL_ (some 9) rfl rfl Try.func47 (by kernel_rfl) rfl #[.agg #[.int .i64 a0_0,.int .i64 a0_1,.slice A0_2 l0_2.length c0_2,.slice A0_3 l0_3.length c0_3],.agg #[.int .i64 a1_0,.int .i64 a1_1,.slice A1_2 l1_2.length c1_2,.slice A1_3 l1_3.length c1_3]] rfl ga_ ?_;(with_reducible refine (hinterlandsame_Streets.calls k a0_0 a0_1 _ _ l0_2 _ _ l0_3 a1_0 a1_1 _ _ l1_2 _ _ l1_3 false _ ?_ ?_ ?_ ?_ ?_ ?_ ?_ ?_ A3.out).mono ?_);exact cq HR0_2;exact HC0_2.out;exact cq HR0_3;exact HC0_3.out;exact cq HR1_2;exact HC1_2.out;exact cq HR1_3;exact HC1_3.out;rintro e w29 ⟨rfl,hb⟩;refine ⟨_,rfl,?_⟩;replace BK165:=bkb BK165 hb;replace BK166:=bkb BK166 hb;replace HB:=hbs hb))
  go_ret
  exact ⟨er_,hb_⟩

/-! ### hinterlandref04_side: function 61 -/
def hinterlandref04_side.f (a0:Int):Option (Bool) := if a0≥4 then (some (decide (a0≤32))) else (some false)
set_option maxHeartbeats 8000000 in
set_option maxRecDepth 100000 in
theorem hinterlandref04_side.calls (a0:Int) (r:Bool) (w:World) (h:hinterlandref04_side.f a0=some r) :
  Calls Try.prog 61 #[.int .i64 a0] w fun e w'=>e=.returned (.bool r)∧Drawn0 w w':=by
 have H:=h;clear h;unfold hinterlandref04_side.f at H;by_cases c2:a0≥4
 ·rw [if_pos c2] at H;have c2b0:=decide_eq_true c2;clear c2;obtain rfl:=Option.some.inj H;go_enter Try.func61,Try.ntmps61;go_wp2
  go_ret
  exact ⟨by first|rfl|(simp;done)|(simp [*];done),by repeat (first|exact Drawn0.refl _|apply Drawn0.step)⟩
 ·rw [if_neg c2] at H;have c2b0:=decide_eq_false c2;clear c2;obtain rfl:=Option.some.inj H;go_enter Try.func61,Try.ntmps61;go_wp2
  go_ret
  exact ⟨by first|rfl|(simp;done)|(simp [*];done),by repeat (first|exact Drawn0.refl _|apply Drawn0.step)⟩

/-! ### hinterlandref04_straight: function 62 -/
def hinterlandref04_straight.f (a0:Int):Option (Bool) := if a0=5 then (some true) else (some (a0 == 10))
set_option maxHeartbeats 8000000 in
set_option maxRecDepth 100000 in
theorem hinterlandref04_straight.calls (a0:Int) (r:Bool) (w:World) (h:hinterlandref04_straight.f a0=some r) :
  Calls Try.prog 62 #[.int .i64 a0] w fun e w'=>e=.returned (.bool r)∧Drawn0 w w':=by
 have H:=h;clear h;unfold hinterlandref04_straight.f at H;by_cases c2:a0=5
 ·rw [if_pos c2] at H;have c2b0:=bqt c2;have c2b1:=bnf c2;clear c2;obtain rfl:=Option.some.inj H;go_enter Try.func62,Try.ntmps62;go_wp2
  go_ret
  exact ⟨by first|rfl|(simp;done)|(simp [*];done),by repeat (first|exact Drawn0.refl _|apply Drawn0.step)⟩
 ·rw [if_neg c2] at H;have c2b0:=bqf c2;have c2b1:=bnt c2;obtain rfl:=Option.some.inj H;go_enter Try.func62,Try.ntmps62;go_wp2
  go_ret
  exact ⟨by first|rfl|(simp;done)|(simp [*];done),by repeat (first|exact Drawn0.refl _|apply Drawn0.step)⟩

/-! ### hinterlandref04_Validate: function 34 -/
mutual
def hinterlandref04_Validate.j0:Nat→Bool→Int→Int→List Int→List Int→Option (Int)
 | 0,_,_,_,_,_=>none
 | k+1,x40,x171000,x171001,x171002,x171003=>if x40=true then (some 1) else (hinterlandref04_Validate.l0 k x171002 (x171002.length:Int) 0 x171000 x171001 x171002 x171003)
def hinterlandref04_Validate.l0:Nat→List Int→Int→Int→Int→Int→List Int→List Int→Option (Int)
 | 0,_,_,_,_,_,_,_=>none
 | k+1,x42,x43,x44,x171000,x171001,x171002,x171003=>if x44<x43 then (if 0≤x44 then (if x44<(x42.length:Int) then (if (rd x42 x44)<0 then (some 1) else (if (rd x42 x44) > 15 then (some 1) else (hinterlandref04_Validate.l0 k x42 x43 (wrap64 (x44+1)) x171000 x171001 x171002 x171003))) else (none)) else (none)) else (hinterlandref04_Validate.l1 k x171003 (x171003.length:Int) 0 x171000 x171001 x171002 x171003)
def hinterlandref04_Validate.l1:Nat→List Int→Int→Int→Int→Int→List Int→List Int→Option (Int)
 | 0,_,_,_,_,_,_,_=>none
 | k+1,x56,x57,x58,x171000,x171001,x171002,x171003=>if x58<x57 then (if 0≤x58 then (if x58<(x56.length:Int) then (if (rd x56 x58)<0 then (some 1) else (if (rd x56 x58) > 2 then (some 1) else (hinterlandref04_Validate.l1 k x56 x57 (wrap64 (x58+1)) x171000 x171001 x171002 x171003))) else (none)) else (none)) else (hinterlandref04_Validate.l2 k x171003 (x171003.length:Int) 0 x171000 x171001 x171002 x171003)
def hinterlandref04_Validate.l2:Nat→List Int→Int→Int→Int→Int→List Int→List Int→Option (Int)
 | 0,_,_,_,_,_,_,_=>none
 | k+1,x70,x71,x72,x171000,x171001,x171002,x171003=>if x72<x71 then (if 0≤x72 then (if x72<(x70.length:Int) then (if (rd x70 x72)=0 then (hinterlandref04_Validate.l2 k x70 x71 (wrap64 (x72+1)) x171000 x171001 x171002 x171003) else (if x72<(x171002.length:Int) then ((hinterlandref04_straight.f (rd x171002 x72)).bind fun t177=>(if t177=true then (hinterlandref04_Validate.l2 k x70 x71 (wrap64 (x72+1)) x171000 x171001 x171002 x171003) else (some 9))) else (none))) else (none)) else (none)) else (some 0)
end
def hinterlandref04_Validate.f (k:Nat) (a0_0:Int) (a0_1:Int) (l0_2:List Int) (l0_3:List Int):Option (Int) := (hinterlandref04_side.f a0_0).bind fun t171=>(if t171=true then ((hinterlandref04_side.f a0_1).bind fun t172=>(if t172=true then (if (l0_2.length:Int)=(wrap64 (a0_0 * a0_1)) then (hinterlandref04_Validate.j0 k ((l0_3.length:Int) != (wrap64 (a0_0 * a0_1))) a0_0 a0_1 l0_2 l0_3) else (hinterlandref04_Validate.j0 k true a0_0 a0_1 l0_2 l0_3)) else (hinterlandref04_Validate.j0 k true a0_0 a0_1 l0_2 l0_3))) else (hinterlandref04_Validate.j0 k true a0_0 a0_1 l0_2 l0_3))
theorem hinterlandref04_Validate.mono_l:∀ k,(∀ y0 y1 y2 y3 y4,LeO (hinterlandref04_Validate.j0 k y0 y1 y2 y3 y4) (hinterlandref04_Validate.j0 (k+1) y0 y1 y2 y3 y4))∧(∀ y0 y1 y2 y3 y4 y5 y6,LeO (hinterlandref04_Validate.l0 k y0 y1 y2 y3 y4 y5 y6) (hinterlandref04_Validate.l0 (k+1) y0 y1 y2 y3 y4 y5 y6))∧(∀ y0 y1 y2 y3 y4 y5 y6,LeO (hinterlandref04_Validate.l1 k y0 y1 y2 y3 y4 y5 y6) (hinterlandref04_Validate.l1 (k+1) y0 y1 y2 y3 y4 y5 y6))∧(∀ y0 y1 y2 y3 y4 y5 y6,LeO (hinterlandref04_Validate.l2 k y0 y1 y2 y3 y4 y5 y6) (hinterlandref04_Validate.l2 (k+1) y0 y1 y2 y3 y4 y5 y6))
 | 0=>⟨fun _ _ _ _ _ r h=>by simp [hinterlandref04_Validate.j0] at h,fun _ _ _ _ _ _ _ r h=>by simp [hinterlandref04_Validate.l0] at h,fun _ _ _ _ _ _ _ r h=>by simp [hinterlandref04_Validate.l1] at h,fun _ _ _ _ _ _ _ r h=>by simp [hinterlandref04_Validate.l2] at h⟩
 | k+1=>by
  obtain ⟨ih0,ih1,ih2,ih3⟩:=hinterlandref04_Validate.mono_l k;refine ⟨?_,?_,?_,?_⟩
  ·intro y0 y1 y2 y3 y4;unfold hinterlandref04_Validate.j0;repeat' first
   | (with_reducible exact ih0 _ _ _ _ _)
   | (with_reducible exact ih1 _ _ _ _ _ _ _)
   | (with_reducible exact ih2 _ _ _ _ _ _ _)
   | (with_reducible exact ih3 _ _ _ _ _ _ _)
   | (with_reducible exact LeO.refl _)
   | (with_reducible exact LeO.none _)
   | (with_reducible refine LeO.ite ?_ ?_)
   | (with_reducible refine LeO.bind ?_ (fun _=>?_))
  ·intro y0 y1 y2 y3 y4 y5 y6;unfold hinterlandref04_Validate.l0;repeat' first
   | (with_reducible exact ih0 _ _ _ _ _)
   | (with_reducible exact ih1 _ _ _ _ _ _ _)
   | (with_reducible exact ih2 _ _ _ _ _ _ _)
   | (with_reducible exact ih3 _ _ _ _ _ _ _)
   | (with_reducible exact LeO.refl _)
   | (with_reducible exact LeO.none _)
   | (with_reducible refine LeO.ite ?_ ?_)
   | (with_reducible refine LeO.bind ?_ (fun _=>?_))
  ·intro y0 y1 y2 y3 y4 y5 y6;unfold hinterlandref04_Validate.l1;repeat' first
   | (with_reducible exact ih0 _ _ _ _ _)
   | (with_reducible exact ih1 _ _ _ _ _ _ _)
   | (with_reducible exact ih2 _ _ _ _ _ _ _)
   | (with_reducible exact ih3 _ _ _ _ _ _ _)
   | (with_reducible exact LeO.refl _)
   | (with_reducible exact LeO.none _)
   | (with_reducible refine LeO.ite ?_ ?_)
   | (with_reducible refine LeO.bind ?_ (fun _=>?_))
  ·intro y0 y1 y2 y3 y4 y5 y6;unfold hinterlandref04_Validate.l2;repeat' first
   | (with_reducible exact ih0 _ _ _ _ _)
   | (with_reducible exact ih1 _ _ _ _ _ _ _)
   | (with_reducible exact ih2 _ _ _ _ _ _ _)
   | (with_reducible exact ih3 _ _ _ _ _ _ _)
   | (with_reducible exact LeO.refl _)
   | (with_reducible exact LeO.none _)
   | (with_reducible refine LeO.ite ?_ ?_)
   | (with_reducible refine LeO.bind ?_ (fun _=>?_))
theorem hinterlandref04_Validate.mono:∀ a0 a1 a2 a3 k,LeO (hinterlandref04_Validate.f k a0 a1 a2 a3) (hinterlandref04_Validate.f (k+1) a0 a1 a2 a3) := by
 intro a0 a1 a2 a3 k;obtain ⟨ih0,ih1,ih2,ih3⟩:=hinterlandref04_Validate.mono_l k;unfold hinterlandref04_Validate.f;repeat' first
   | (with_reducible exact ih0 _ _ _ _ _)
   | (with_reducible exact ih1 _ _ _ _ _ _ _)
   | (with_reducible exact ih2 _ _ _ _ _ _ _)
   | (with_reducible exact ih3 _ _ _ _ _ _ _)
   | (with_reducible exact LeO.refl _)
   | (with_reducible exact LeO.none _)
   | (with_reducible refine LeO.ite ?_ ?_)
   | (with_reducible refine LeO.bind ?_ (fun _=>?_))
set_option maxHeartbeats 8000000 in
set_option maxRecDepth 100000 in
theorem hinterlandref04_Validate.calls (k:Nat) (a0_0:Int) (a0_1:Int) (A0_2:Option Addr) (c0_2:Nat) (l0_2:List Int) (A0_3:Option Addr) (c0_3:Nat) (l0_3:List Int) (r:Int) (w:World) (hr0_2:Kd.C (Kd.int .i64) w A0_2 l0_2.length l0_2) (hc0_2:l0_2.length≤c0_2) (hr0_3:Kd.C (Kd.int .i64) w A0_3 l0_3.length l0_3) (hc0_3:l0_3.length≤c0_3) (h:hinterlandref04_Validate.f k a0_0 a0_1 l0_2 l0_3=some r) :
  Calls Try.prog 34 #[.agg #[.int .i64 a0_0,.int .i64 a0_1,.slice A0_2 l0_2.length c0_2,.slice A0_3 l0_3.length c0_3]] w fun e w'=>e=.returned (.int .i64 r)∧Below w.heap.size w w':=by
 have hu24:=Try.underlying24;have HR0_2:=Aside0.mk hr0_2;have HC0_2:=Aside0.mk hc0_2;clear hr0_2 hc0_2;have HR0_3:=Aside0.mk hr0_3;have HC0_3:=Aside0.mk hc0_3;clear hr0_3 hc0_3;have HB:=Aside0.mk (Below.refl w.heap.size w);have H:=h;clear h;unfold hinterlandref04_Validate.f at H;have HC2:=Aside0.mk H;clear H;go_enter Try.func34,Try.ntmps34;go_upto_region 1 with (first|((with_reducible refine gate_dst (N:=1) rfl ?_);(try (refine gate_guard (by rfl) ?_;dsimp only));refine box_ev (N:=1) (cs:=#[.int .i64 a0_0,.int .i64 a0_1,.slice A0_2 l0_2.length c0_2,.slice A0_3 l0_3.length c0_3]) (t:=24) ?_;intro gb170 hg w3 hbox hb;have BK170:=Aside0.mk hbox;have GW170:=gsz (w:=w) hg;have GE170:=GW170;replace HB:=hbs hb;clear hb hbox hg))
 (try simp only [Act.put,List.setIfInBounds_toArray,List.set_cons_zero,List.set_cons_succ]);go_cut [40] (fun v40 wc=>∃ (kq:Nat) (x40_1:Bool),v40=.bool x40_1∧Aside0 (hinterlandref04_Validate.j0 kq x40_1 a0_0 a0_1 l0_2 l0_3=some r)∧Aside0 (kq≤k)∧Aside0 (wc.heap[gb170]?=some (.cells #[.int .i64 a0_0,.int .i64 a0_1,(.slice A0_2 l0_2.length c0_2),(.slice A0_3 l0_3.length c0_3)] 24 (0,0)))∧Aside0 (Below w.heap.size w wc))
 case first =>
  have H:=HC2.out;clear HC2;obtain ⟨t171,A4,H⟩:=bnd H;by_cases c5:t171=true
  ·subst c5;rw [if_pos rfl] at H;obtain ⟨t172,A6,H⟩:=bnd H;by_cases c7:t172=true
   ·subst c7;rw [if_pos rfl] at H;by_cases c8:(l0_2.length:Int)=(wrap64 (a0_0 * a0_1))
    ·rw [if_pos c8] at H;have c8b0:=bqt c8;have c8b1:=bnf c8;clear c8;(first|rw [c8b0]|(simp only [i64_w,i32_w];rw [c8b0])|skip);have H':=Aside0.mk H;clear H;obtain ⟨_,_,_,_,_,_,_,_⟩:=cells4 BK170.out;go_wp2_with (first|((with_reducible refine gate_callee (f:=61) rfl ?_);refine goesL_ (some 11) rfl rfl Try.func61 (by kernel_rfl) rfl #[.int .i64 a0_0] rfl ga_ ?_;(with_reducible refine (hinterlandref04_side.calls a0_0 true _ A4.out).mono ?_);rintro e w' ⟨rfl,⟨nd,rfl⟩⟩;refine ⟨_,rfl,?_⟩)|(go_at_call 61;(with_reducible refine (hinterlandref04_side.calls a0_1 true _ A6.out).mono ?_);rintro e w' ⟨rfl,⟨nd,rfl⟩⟩))
     go_meet
     case rel=>exact ⟨_,(((l0_3.length:Int) != (wrap64 (a0_0 * a0_1)))),(by first|rfl|(simp;done)|(simp [*];done)),H',⟨by first|omega|exact Nat.le_refl _⟩,⟨blk_up BK170.out⟩,⟨hb_⟩⟩
    ·rw [if_neg c8] at H;have c8b0:=bqf c8;have c8b1:=bnt c8;(first|rw [c8b0]|(simp only [i64_w,i32_w];rw [c8b0])|skip);have H':=Aside0.mk H;clear H;obtain ⟨_,_,_,_,_,_,_,_⟩:=cells4 BK170.out;go_wp2_with (first|((with_reducible refine gate_callee (f:=61) rfl ?_);refine goesL_ (some 11) rfl rfl Try.func61 (by kernel_rfl) rfl #[.int .i64 a0_0] rfl ga_ ?_;(with_reducible refine (hinterlandref04_side.calls a0_0 true _ A4.out).mono ?_);rintro e w' ⟨rfl,⟨nd,rfl⟩⟩;refine ⟨_,rfl,?_⟩)|(go_at_call 61;(with_reducible refine (hinterlandref04_side.calls a0_1 true _ A6.out).mono ?_);rintro e w' ⟨rfl,⟨nd,rfl⟩⟩))
     go_meet
     case rel=>exact ⟨_,(true),(by first|rfl|(simp;done)|(simp [*];done)),H',⟨by first|omega|exact Nat.le_refl _⟩,⟨blk_up BK170.out⟩,⟨hb_⟩⟩
   ·replace c7:=Bool.eq_false_iff.mpr c7;subst c7;rw [if_neg (show ¬ (false=true) by decide)] at H;have H':=Aside0.mk H;clear H;obtain ⟨_,_,_,_,_,_,_,_⟩:=cells4 BK170.out;go_wp2_with (first|((with_reducible refine gate_callee (f:=61) rfl ?_);refine goesL_ (some 11) rfl rfl Try.func61 (by kernel_rfl) rfl #[.int .i64 a0_0] rfl ga_ ?_;(with_reducible refine (hinterlandref04_side.calls a0_0 true _ A4.out).mono ?_);rintro e w' ⟨rfl,⟨nd,rfl⟩⟩;refine ⟨_,rfl,?_⟩)|(go_at_call 61;(with_reducible refine (hinterlandref04_side.calls a0_1 false _ A6.out).mono ?_);rintro e w' ⟨rfl,⟨nd,rfl⟩⟩))
    go_meet
    case rel=>exact ⟨_,(true),(by first|rfl|(simp;done)|(simp [*];done)),H',⟨by first|omega|exact Nat.le_refl _⟩,⟨blk_up BK170.out⟩,⟨hb_⟩⟩
  ·replace c5:=Bool.eq_false_iff.mpr c5;subst c5;rw [if_neg (show ¬ (false=true) by decide)] at H;have H':=Aside0.mk H;clear H;obtain ⟨_,_,_,_,_,_,_,_⟩:=cells4 BK170.out;go_wp2_with (first|((with_reducible refine gate_callee (f:=61) rfl ?_);refine goesL_ (some 11) rfl rfl Try.func61 (by kernel_rfl) rfl #[.int .i64 a0_0] rfl ga_ ?_;(with_reducible refine (hinterlandref04_side.calls a0_0 false _ A4.out).mono ?_);rintro e w' ⟨rfl,⟨nd,rfl⟩⟩;refine ⟨_,rfl,?_⟩))
   go_meet
   case rel=>exact ⟨_,(true),(by first|rfl|(simp;done)|(simp [*];done)),H',⟨by first|omega|exact Nat.le_refl _⟩,⟨blk_up BK170.out⟩,⟨hb_⟩⟩
 case rest =>
  clear HC2;obtain ⟨kq,x40_1,rfl,HA,HJ1,BK170,HB⟩:=hcut;cases kq with
  | zero=>exact absurd HA.out (by simp [hinterlandref04_Validate.j0])
  | succ kj1 =>
   have H:=HA.out;clear HA;simp only [hinterlandref04_Validate.j0] at H;by_cases c13:x40_1=true
   ·subst c13;rw [if_pos rfl] at H;obtain rfl:=Option.some.inj H;go_wp2
    go_ret
    exact ⟨er_,hb_⟩
   ·replace c13:=Bool.eq_false_iff.mpr c13;subst c13;rw [if_neg (show ¬ (false=true) by decide)] at H;have H':=Aside0.mk H;clear H;obtain ⟨_,_,_,_,_,_,_,_⟩:=cells4 BK170.out;go_wp2
    go_loopg [44] kj1 (fun kq v44 w'=>∃ (x44_2:Int),v44=.int .i64 x44_2∧Aside0 (hinterlandref04_Validate.l0 kq l0_2 (l0_2.length:Int) x44_2 a0_0 a0_1 l0_2 l0_3=some r)∧Aside0 (kq≤kj1)∧Aside0 (w'.heap[gb170]?=some (.cells #[.int .i64 a0_0,.int .i64 a0_1,(.slice A0_2 l0_2.length c0_2),(.slice A0_3 l0_3.length c0_3)] 24 (0,0)))∧Aside0 (Below w.heap.size w w'))
    case atStart=>exact ⟨(0),(by first|rfl|(simp;done)|(simp [*];done)),H',⟨Nat.le_refl _⟩,⟨blk_up BK170.out⟩,⟨hb_⟩⟩
    case round =>
     clear H';obtain ⟨x44_2,rfl,HA,HK2,BK170,HB⟩:=hrel;cases gk with
     | zero=>exact absurd HA.out (by simp [hinterlandref04_Validate.l0])
     | succ k2 =>
      have H:=HA.out;clear HA;simp only [hinterlandref04_Validate.l0] at H;by_cases c15:x44_2<(l0_2.length:Int)
      ·rw [if_pos c15] at H;have c15b0:=decide_eq_true c15;clear c15;obtain ⟨c16,H⟩:=ifp_ H;have c16b0:=decide_eq_true c16;clear c16;obtain ⟨c17,H⟩:=ifp_ H;have c17b0:=decide_eq_true c17;clear c17;by_cases c18:(rd l0_2 x44_2)<0
       ·rw [if_pos c18] at H;have c18b0:=decide_eq_true c18;clear c18;obtain rfl:=Option.some.inj H;have p173:0≤(x44_2:Int):=ofd;have q173:x44_2<(l0_2.length:Int):=ofd;obtain ⟨ad173,e173,hx173_0⟩:=Kd.at_int HR0_2.out x44_2 p173 q173;cases e173;replace hx173_0:=hbc HB hx173_0;replace p173:=eq_true p173;replace q173:=eq_true q173;go_wp2
        go_ret
        exact ⟨er_,hb_⟩
       rw [if_neg c18] at H;have c18b0:=decide_eq_false c18;clear c18;by_cases c19:(rd l0_2 x44_2) > 15
       ·rw [if_pos c19] at H;have c19b0:=decide_eq_true c19;clear c19;obtain rfl:=Option.some.inj H;have p173:0≤(x44_2:Int):=ofd;have q173:x44_2<(l0_2.length:Int):=ofd;obtain ⟨ad173,e173,hx173_0⟩:=Kd.at_int HR0_2.out x44_2 p173 q173;cases e173;replace hx173_0:=hbc HB hx173_0;replace p173:=eq_true p173;replace q173:=eq_true q173;go_wp2
        go_ret
        exact ⟨er_,hb_⟩
       ·rw [if_neg c19] at H;have c19b0:=decide_eq_false c19;clear c19;have H':=Aside0.mk H;clear H;have p173:0≤(x44_2:Int):=ofd;have q173:x44_2<(l0_2.length:Int):=ofd;obtain ⟨ad173,e173,hx173_0⟩:=Kd.at_int HR0_2.out x44_2 p173 q173;cases e173;replace hx173_0:=hbc HB hx173_0;replace p173:=eq_true p173;replace q173:=eq_true q173;go_wp2
        go_roundg k2
        case measure=>have:=HJ1.out;have:=HK2.out;omega
        case rel=>exact ⟨(wrap64 (x44_2+1)),(by first|rfl|(simp;done)|(simp [*];done)),H',⟨by have:=HJ1.out;have:=HK2.out;omega⟩,⟨blk_up BK170.out⟩,⟨hb_⟩⟩
      rw [if_neg c15] at H;have c15b0:=decide_eq_false c15;clear c15;have H':=Aside0.mk H;clear H;obtain ⟨_,_,_,_,_,_,_,_⟩:=cells4 BK170.out;go_wp2
      go_loopg [58] k2 (fun kq v58 w'=>∃ (x58_3:Int),v58=.int .i64 x58_3∧Aside0 (hinterlandref04_Validate.l1 kq l0_3 (l0_3.length:Int) x58_3 a0_0 a0_1 l0_2 l0_3=some r)∧Aside0 (kq≤k2)∧Aside0 (w'.heap[gb170]?=some (.cells #[.int .i64 a0_0,.int .i64 a0_1,(.slice A0_2 l0_2.length c0_2),(.slice A0_3 l0_3.length c0_3)] 24 (0,0)))∧Aside0 (Below w.heap.size w w'))
      case atStart=>exact ⟨(0),(by first|rfl|(simp;done)|(simp [*];done)),H',⟨Nat.le_refl _⟩,⟨blk_up BK170.out⟩,⟨hb_⟩⟩
      case round =>
       clear H';obtain ⟨x58_3,rfl,HA,HK3,BK170,HB⟩:=hrel;cases gk with
       | zero=>exact absurd HA.out (by simp [hinterlandref04_Validate.l1])
       | succ k3 =>
        have H:=HA.out;clear HA;simp only [hinterlandref04_Validate.l1] at H;by_cases c21:x58_3<(l0_3.length:Int)
        ·rw [if_pos c21] at H;have c21b0:=decide_eq_true c21;clear c21;obtain ⟨c22,H⟩:=ifp_ H;have c22b0:=decide_eq_true c22;clear c22;obtain ⟨c23,H⟩:=ifp_ H;have c23b0:=decide_eq_true c23;clear c23;by_cases c24:(rd l0_3 x58_3)<0
         ·rw [if_pos c24] at H;have c24b0:=decide_eq_true c24;clear c24;obtain rfl:=Option.some.inj H;have p174:0≤(x58_3:Int):=ofd;have q174:x58_3<(l0_3.length:Int):=ofd;obtain ⟨ad174,e174,hx174_0⟩:=Kd.at_int HR0_3.out x58_3 p174 q174;cases e174;replace hx174_0:=hbc HB hx174_0;replace p174:=eq_true p174;replace q174:=eq_true q174;go_wp2
          go_ret
          exact ⟨er_,hb_⟩
         rw [if_neg c24] at H;have c24b0:=decide_eq_false c24;clear c24;by_cases c25:(rd l0_3 x58_3) > 2
         ·rw [if_pos c25] at H;have c25b0:=decide_eq_true c25;clear c25;obtain rfl:=Option.some.inj H;have p174:0≤(x58_3:Int):=ofd;have q174:x58_3<(l0_3.length:Int):=ofd;obtain ⟨ad174,e174,hx174_0⟩:=Kd.at_int HR0_3.out x58_3 p174 q174;cases e174;replace hx174_0:=hbc HB hx174_0;replace p174:=eq_true p174;replace q174:=eq_true q174;go_wp2
          go_ret
          exact ⟨er_,hb_⟩
         ·rw [if_neg c25] at H;have c25b0:=decide_eq_false c25;clear c25;have H':=Aside0.mk H;clear H;have p174:0≤(x58_3:Int):=ofd;have q174:x58_3<(l0_3.length:Int):=ofd;obtain ⟨ad174,e174,hx174_0⟩:=Kd.at_int HR0_3.out x58_3 p174 q174;cases e174;replace hx174_0:=hbc HB hx174_0;replace p174:=eq_true p174;replace q174:=eq_true q174;go_wp2
          go_roundg k3
          case measure=>have:=HJ1.out;have:=HK2.out;have:=HK3.out;omega
          case rel=>exact ⟨(wrap64 (x58_3+1)),(by first|rfl|(simp;done)|(simp [*];done)),H',⟨by have:=HJ1.out;have:=HK2.out;have:=HK3.out;omega⟩,⟨blk_up BK170.out⟩,⟨hb_⟩⟩
        rw [if_neg c21] at H;have c21b0:=decide_eq_false c21;clear c21;have H':=Aside0.mk H;clear H;obtain ⟨_,_,_,_,_,_,_,_⟩:=cells4 BK170.out;go_wp2
        go_loopg [72] k3 (fun kq v72 w'=>∃ (x72_4:Int),v72=.int .i64 x72_4∧Aside0 (hinterlandref04_Validate.l2 kq l0_3 (l0_3.length:Int) x72_4 a0_0 a0_1 l0_2 l0_3=some r)∧Aside0 (kq≤k3)∧Aside0 (w'.heap[gb170]?=some (.cells #[.int .i64 a0_0,.int .i64 a0_1,(.slice A0_2 l0_2.length c0_2),(.slice A0_3 l0_3.length c0_3)] 24 (0,0)))∧Aside0 (Below w.heap.size w w'))
        case atStart=>exact ⟨(0),(by first|rfl|(simp;done)|(simp [*];done)),H',⟨Nat.le_refl _⟩,⟨blk_up BK170.out⟩,⟨hb_⟩⟩
        case round =>
         clear H';obtain ⟨x72_4,rfl,HA,HK4,BK170,HB⟩:=hrel;cases gk with
         | zero=>exact absurd HA.out (by simp [hinterlandref04_Validate.l2])
         | succ k4 =>
          have H:=HA.out;clear HA;simp only [hinterlandref04_Validate.l2] at H;by_cases c27:x72_4<(l0_3.length:Int);rotate_left
          ·rw [if_neg c27] at H;have c27b0:=decide_eq_false c27;clear c27;obtain rfl:=Option.some.inj H;go_wp2
           go_ret
           exact ⟨er_,hb_⟩
          rw [if_pos c27] at H;have c27b0:=decide_eq_true c27;clear c27;obtain ⟨c28,H⟩:=ifp_ H;have c28b0:=decide_eq_true c28;clear c28;obtain ⟨c29,H⟩:=ifp_ H;have c29b0:=decide_eq_true c29;clear c29;by_cases c30:(rd l0_3 x72_4)=0
          ·rw [if_pos c30] at H;have c30b0:=bqt c30;have c30b1:=bnf c30;clear c30;have H':=Aside0.mk H;clear H;have p175:0≤(x72_4:Int):=ofd;have q175:x72_4<(l0_3.length:Int):=ofd;obtain ⟨ad175,e175,hx175_0⟩:=Kd.at_int HR0_3.out x72_4 p175 q175;cases e175;replace hx175_0:=hbc HB hx175_0;replace p175:=eq_true p175;replace q175:=eq_true q175;go_wp2
           go_roundg k4
           case measure=>have:=HJ1.out;have:=HK2.out;have:=HK3.out;have:=HK4.out;omega
           case rel=>exact ⟨(wrap64 (x72_4+1)),(by first|rfl|(simp;done)|(simp [*];done)),H',⟨by have:=HJ1.out;have:=HK2.out;have:=HK3.out;have:=HK4.out;omega⟩,⟨blk_up BK170.out⟩,⟨hb_⟩⟩
          rw [if_neg c30] at H;have c30b0:=bqf c30;have c30b1:=bnt c30;obtain ⟨c31,H⟩:=ifp_ H;have c31b0:=decide_eq_true c31;clear c31;obtain ⟨t177,A32,H⟩:=bnd H;by_cases c33:t177=true
          ·subst c33;rw [if_pos rfl] at H;have H':=Aside0.mk H;clear H;have p175:0≤(x72_4:Int):=ofd;have q175:x72_4<(l0_3.length:Int):=ofd;obtain ⟨ad175,e175,hx175_0⟩:=Kd.at_int HR0_3.out x72_4 p175 q175;cases e175;replace hx175_0:=hbc HB hx175_0;replace p175:=eq_true p175;replace q175:=eq_true q175;obtain ⟨_,_,_,_,_,_,_,_⟩:=cells4 BK170.out;have p176:0≤(x72_4:Int):=ofd;have q176:x72_4<(l0_2.length:Int):=ofd;obtain ⟨ad176,e176,hx176_0⟩:=Kd.at_int HR0_2.out x72_4 p176 q176;cases e176;replace hx176_0:=hbc HB hx176_0;replace p176:=eq_true p176;replace q176:=eq_true q176;go_wp2_with (first|(go_at_call 62;(with_reducible refine (hinterlandref04_straight.calls (rd l0_2 x72_4) true _ A32.out).mono ?_);rintro e w' ⟨rfl,⟨nd,rfl⟩⟩))
           go_roundg k4
           case measure=>have:=HJ1.out;have:=HK2.out;have:=HK3.out;have:=HK4.out;omega
           case rel=>exact ⟨(wrap64 (x72_4+1)),(by first|rfl|(simp;done)|(simp [*];done)),H',⟨by have:=HJ1.out;have:=HK2.out;have:=HK3.out;have:=HK4.out;omega⟩,⟨blk_up BK170.out⟩,⟨hb_⟩⟩
          ·replace c33:=Bool.eq_false_iff.mpr c33;subst c33;rw [if_neg (show ¬ (false=true) by decide)] at H;obtain rfl:=Option.some.inj H;have p175:0≤(x72_4:Int):=ofd;have q175:x72_4<(l0_3.length:Int):=ofd;obtain ⟨ad175,e175,hx175_0⟩:=Kd.at_int HR0_3.out x72_4 p175 q175;cases e175;replace hx175_0:=hbc HB hx175_0;replace p175:=eq_true p175;replace q175:=eq_true q175;obtain ⟨_,_,_,_,_,_,_,_⟩:=cells4 BK170.out;have p176:0≤(x72_4:Int):=ofd;have q176:x72_4<(l0_2.length:Int):=ofd;obtain ⟨ad176,e176,hx176_0⟩:=Kd.at_int HR0_2.out x72_4 p176 q176;cases e176;replace hx176_0:=hbc HB hx176_0;replace p176:=eq_true p176;replace q176:=eq_true q176;go_wp2_with (first|(go_at_call 62;(with_reducible refine (hinterlandref04_straight.calls (rd l0_2 x72_4) false _ A32.out).mono ?_);rintro e w' ⟨rfl,⟨nd,rfl⟩⟩))
           go_ret
           exact ⟨er_,hb_⟩

/-! ### hinterlandref17_piece: function 39 -/
def hinterlandref17_piece.f (a0:Int) (a1:Int) (a2:Int) (a3:Int) (a4:Int):Option (Bool) := if a1<(-1) then (some true) else (if a1 > 3 then (some true) else (if a2<0 then (some true) else (if a2 > 3 then (some true) else (if a3<0 then (some true) else (if a3 > 192 then (some true) else (if a4<0 then (some true) else (if a4≥192 then (some true) else (if a0=(-1) then (if a1=(-1) then (if a2=0 then (if a3=0 then (some (a4 != 0)) else (some true)) else (some true)) else (some true)) else (some false)))))))))
set_option maxHeartbeats 8000000 in
set_option maxRecDepth 100000 in
theorem hinterlandref17_piece.calls (a0:Int) (a1:Int) (a2:Int) (a3:Int) (a4:Int) (r:Bool) (w:World) (h:hinterlandref17_piece.f a0 a1 a2 a3 a4=some r) :
  Calls Try.prog 39 #[.int .i64 a0,.int .i64 a1,.int .i64 a2,.int .i64 a3,.int .i64 a4] w fun e w'=>e=.returned (.bool r)∧Drawn0 w w':=by
 have H:=h;clear h;unfold hinterlandref17_piece.f at H;by_cases c6:a1<(-1)
 ·rw [if_pos c6] at H;have c6b0:=decide_eq_true c6;clear c6;obtain rfl:=Option.some.inj H;go_enter Try.func39,Try.ntmps39;go_wp2
  go_ret
  exact ⟨by first|rfl|(simp;done)|(simp [*];done),by repeat (first|exact Drawn0.refl _|apply Drawn0.step)⟩
 rw [if_neg c6] at H;have c6b0:=decide_eq_false c6;clear c6;by_cases c7:a1 > 3
 ·rw [if_pos c7] at H;have c7b0:=decide_eq_true c7;clear c7;obtain rfl:=Option.some.inj H;go_enter Try.func39,Try.ntmps39;go_wp2
  go_ret
  exact ⟨by first|rfl|(simp;done)|(simp [*];done),by repeat (first|exact Drawn0.refl _|apply Drawn0.step)⟩
 rw [if_neg c7] at H;have c7b0:=decide_eq_false c7;clear c7;by_cases c8:a2<0
 ·rw [if_pos c8] at H;have c8b0:=decide_eq_true c8;clear c8;obtain rfl:=Option.some.inj H;go_enter Try.func39,Try.ntmps39;go_wp2
  go_ret
  exact ⟨by first|rfl|(simp;done)|(simp [*];done),by repeat (first|exact Drawn0.refl _|apply Drawn0.step)⟩
 rw [if_neg c8] at H;have c8b0:=decide_eq_false c8;clear c8;by_cases c9:a2 > 3
 ·rw [if_pos c9] at H;have c9b0:=decide_eq_true c9;clear c9;obtain rfl:=Option.some.inj H;go_enter Try.func39,Try.ntmps39;go_wp2
  go_ret
  exact ⟨by first|rfl|(simp;done)|(simp [*];done),by repeat (first|exact Drawn0.refl _|apply Drawn0.step)⟩
 rw [if_neg c9] at H;have c9b0:=decide_eq_false c9;clear c9;by_cases c10:a3<0
 ·rw [if_pos c10] at H;have c10b0:=decide_eq_true c10;clear c10;obtain rfl:=Option.some.inj H;go_enter Try.func39,Try.ntmps39;go_wp2
  go_ret
  exact ⟨by first|rfl|(simp;done)|(simp [*];done),by repeat (first|exact Drawn0.refl _|apply Drawn0.step)⟩
 rw [if_neg c10] at H;have c10b0:=decide_eq_false c10;clear c10;by_cases c11:a3 > 192
 ·rw [if_pos c11] at H;have c11b0:=decide_eq_true c11;clear c11;obtain rfl:=Option.some.inj H;go_enter Try.func39,Try.ntmps39;go_wp2
  go_ret
  exact ⟨by first|rfl|(simp;done)|(simp [*];done),by repeat (first|exact Drawn0.refl _|apply Drawn0.step)⟩
 rw [if_neg c11] at H;have c11b0:=decide_eq_false c11;clear c11;by_cases c12:a4<0
 ·rw [if_pos c12] at H;have c12b0:=decide_eq_true c12;clear c12;obtain rfl:=Option.some.inj H;go_enter Try.func39,Try.ntmps39;go_wp2
  go_ret
  exact ⟨by first|rfl|(simp;done)|(simp [*];done),by repeat (first|exact Drawn0.refl _|apply Drawn0.step)⟩
 rw [if_neg c12] at H;have c12b0:=decide_eq_false c12;clear c12;by_cases c13:a4≥192
 ·rw [if_pos c13] at H;have c13b0:=decide_eq_true c13;clear c13;obtain rfl:=Option.some.inj H;go_enter Try.func39,Try.ntmps39;go_wp2
  go_ret
  exact ⟨by first|rfl|(simp;done)|(simp [*];done),by repeat (first|exact Drawn0.refl _|apply Drawn0.step)⟩
 rw [if_neg c13] at H;have c13b0:=decide_eq_false c13;clear c13;by_cases c14:a0=(-1);rotate_left
 ·rw [if_neg c14] at H;have c14b0:=bqf c14;have c14b1:=bnt c14;obtain rfl:=Option.some.inj H;go_enter Try.func39,Try.ntmps39;go_wp2
  go_ret
  exact ⟨by first|rfl|(simp;done)|(simp [*];done),by repeat (first|exact Drawn0.refl _|apply Drawn0.step)⟩
 rw [if_pos c14] at H;have c14b0:=bqt c14;have c14b1:=bnf c14;clear c14;by_cases c15:a1=(-1)
 ·rw [if_pos c15] at H;have c15b0:=bqt c15;have c15b1:=bnf c15;clear c15;by_cases c16:a2=0
  ·rw [if_pos c16] at H;have c16b0:=bqt c16;have c16b1:=bnf c16;clear c16;by_cases c17:a3=0
   ·rw [if_pos c17] at H;have c17b0:=bqt c17;have c17b1:=bnf c17;clear c17;obtain rfl:=Option.some.inj H;go_enter Try.func39,Try.ntmps39;go_wp2
    go_ret
    exact ⟨by first|rfl|(simp;done)|(simp [*];done),by repeat (first|exact Drawn0.refl _|apply Drawn0.step)⟩
   ·rw [if_neg c17] at H;have c17b0:=bqf c17;have c17b1:=bnt c17;obtain rfl:=Option.some.inj H;go_enter Try.func39,Try.ntmps39;go_wp2
    go_ret
    exact ⟨by first|rfl|(simp;done)|(simp [*];done),by repeat (first|exact Drawn0.refl _|apply Drawn0.step)⟩
  ·rw [if_neg c16] at H;have c16b0:=bqf c16;have c16b1:=bnt c16;obtain rfl:=Option.some.inj H;go_enter Try.func39,Try.ntmps39;go_wp2
   go_ret
   exact ⟨by first|rfl|(simp;done)|(simp [*];done),by repeat (first|exact Drawn0.refl _|apply Drawn0.step)⟩
 ·rw [if_neg c15] at H;have c15b0:=bqf c15;have c15b1:=bnt c15;obtain rfl:=Option.some.inj H;go_enter Try.func39,Try.ntmps39;go_wp2
  go_ret
  exact ⟨by first|rfl|(simp;done)|(simp [*];done),by repeat (first|exact Drawn0.refl _|apply Drawn0.step)⟩

/-! ### hinterlandref17_beyond: function 67 -/
def hinterlandref17_beyond.f (a0_0:Int) (a0_1:Int) (l0_2:List Int) (l0_3:List Int) (a1:Int) (a2:Int):Option (Int) := if a2=0 then (some (wrap64 (a1+1))) else (if a2=1 then (some (wrap64 (a1+a0_0))) else (if a2=2 then (some (wrap64 (a1 - 1))) else (some (wrap64 (a1 - a0_0)))))
set_option maxHeartbeats 8000000 in
set_option maxRecDepth 100000 in
theorem hinterlandref17_beyond.calls (a0_0:Int) (a0_1:Int) (A0_2:Option Addr) (c0_2:Nat) (l0_2:List Int) (A0_3:Option Addr) (c0_3:Nat) (l0_3:List Int) (a1:Int) (a2:Int) (r:Int) (w:World) (hr0_2:Kd.C (Kd.int .i64) w A0_2 l0_2.length l0_2) (hc0_2:l0_2.length≤c0_2) (hr0_3:Kd.C (Kd.int .i64) w A0_3 l0_3.length l0_3) (hc0_3:l0_3.length≤c0_3) (h:hinterlandref17_beyond.f a0_0 a0_1 l0_2 l0_3 a1 a2=some r) :
  Calls Try.prog 67 #[.agg #[.int .i64 a0_0,.int .i64 a0_1,.slice A0_2 l0_2.length c0_2,.slice A0_3 l0_3.length c0_3],.int .i64 a1,.int .i64 a2] w fun e w'=>e=.returned (.int .i64 r)∧Below w.heap.size w w':=by
 have hu24:=Try.underlying24;have HR0_2:=Aside0.mk hr0_2;have HC0_2:=Aside0.mk hc0_2;clear hr0_2 hc0_2;have HR0_3:=Aside0.mk hr0_3;have HC0_3:=Aside0.mk hc0_3;clear hr0_3 hc0_3;have HB:=Aside0.mk (Below.refl w.heap.size w);have H:=h;clear h;unfold hinterlandref17_beyond.f at H;by_cases c4:a2=0
 ·rw [if_pos c4] at H;have c4b0:=bqt c4;have c4b1:=bnf c4;clear c4;obtain rfl:=Option.some.inj H;go_enter Try.func67,Try.ntmps67;go_wp2_with (first|((with_reducible refine gate_dst (N:=3) rfl ?_);refine box_ev (N:=3) (cs:=#[.int .i64 a0_0,.int .i64 a0_1,.slice A0_2 l0_2.length c0_2,.slice A0_3 l0_3.length c0_3]) (t:=24) ?_;intro gb178 hg w5 hbox hb;have BK178:=Aside0.mk hbox;have GW178:=gsz (w:=w) hg;have GE178:=GW178;replace HB:=hbs hb;clear hb hbox hg))
  go_ret
  exact ⟨er_,hb_⟩
 rw [if_neg c4] at H;have c4b0:=bqf c4;have c4b1:=bnt c4;by_cases c6:a2=1
 ·rw [if_pos c6] at H;have c6b0:=bqt c6;have c6b1:=bnf c6;clear c6;obtain rfl:=Option.some.inj H;go_enter Try.func67,Try.ntmps67;go_wp2_with (first|((with_reducible refine gate_dst (N:=3) rfl ?_);refine box_ev (N:=3) (cs:=#[.int .i64 a0_0,.int .i64 a0_1,.slice A0_2 l0_2.length c0_2,.slice A0_3 l0_3.length c0_3]) (t:=24) ?_;intro gb178 hg w7 hbox hb;have BK178:=Aside0.mk hbox;have GW178:=gsz (w:=w) hg;have GE178:=GW178;replace HB:=hbs hb;clear hb hbox hg;obtain ⟨_,_,_,_,_,_,_,_⟩:=cells4 BK178.out))
  go_ret
  exact ⟨er_,hb_⟩
 ·rw [if_neg c6] at H;have c6b0:=bqf c6;have c6b1:=bnt c6;by_cases c9:a2=2
  ·rw [if_pos c9] at H;have c9b0:=bqt c9;have c9b1:=bnf c9;clear c9;obtain rfl:=Option.some.inj H;go_enter Try.func67,Try.ntmps67;go_wp2_with (first|((with_reducible refine gate_dst (N:=3) rfl ?_);refine box_ev (N:=3) (cs:=#[.int .i64 a0_0,.int .i64 a0_1,.slice A0_2 l0_2.length c0_2,.slice A0_3 l0_3.length c0_3]) (t:=24) ?_;intro gb178 hg w10 hbox hb;have BK178:=Aside0.mk hbox;have GW178:=gsz (w:=w) hg;have GE178:=GW178;replace HB:=hbs hb;clear hb hbox hg))
   go_ret
   exact ⟨er_,hb_⟩
  ·rw [if_neg c9] at H;have c9b0:=bqf c9;have c9b1:=bnt c9;obtain rfl:=Option.some.inj H;go_enter Try.func67,Try.ntmps67;go_wp2_with (first|((with_reducible refine gate_dst (N:=3) rfl ?_);refine box_ev (N:=3) (cs:=#[.int .i64 a0_0,.int .i64 a0_1,.slice A0_2 l0_2.length c0_2,.slice A0_3 l0_3.length c0_3]) (t:=24) ?_;intro gb178 hg w11 hbox hb;have BK178:=Aside0.mk hbox;have GW178:=gsz (w:=w) hg;have GE178:=GW178;replace HB:=hbs hb;clear hb hbox hg;obtain ⟨_,_,_,_,_,_,_,_⟩:=cells4 BK178.out))
   go_ret
   exact ⟨er_,hb_⟩

/-! ### hinterlandref17_linked: function 40 -/
def hinterlandref17_linked.j0:Nat→Int→Int→Bool→Int→Int→List Int→List Int→Option (Bool)
 | 0,_,_,_,_,_,_,_=>none
 | k+1,x1,x2,x63,x180000,x180001,x180002,x180003=>if x63=true then (some false) else ((hinterlandref17_beyond.f x180000 x180001 x180002 x180003 x1 x2).bind fun t181=>(if 0≤t181 then (if t181<(x180002.length:Int) then (if 0≤(Int.tmod (wrap64 (x2+2)) 4) then (some ((Go.bits .and .i64 (shr .i64 (rd x180002 t181) (Int.tmod (wrap64 (x2+2)) 4)) 1) == 1)) else (none)) else (none)) else (none)))
def hinterlandref17_linked.f (k:Nat) (a0_0:Int) (a0_1:Int) (l0_2:List Int) (l0_3:List Int) (a1:Int) (a2:Int):Option (Bool) := if a0_0=0 then (none) else (if 0≤a1 then (if a1<(l0_2.length:Int) then (if 0≤a2 then (if (Go.bits .and .i64 (shr .i64 (rd l0_2 a1) a2) 1)=0 then (hinterlandref17_linked.j0 k a1 a2 true a0_0 a0_1 l0_2 l0_3) else (if a2=0 then (if (wrap64 ((Int.tmod a1 a0_0)+1))=a0_0 then (hinterlandref17_linked.j0 k a1 a2 true a0_0 a0_1 l0_2 l0_3) else (if a2=1 then (if (wrap64 ((wrap64 (Int.tdiv a1 a0_0))+1))=a0_1 then (hinterlandref17_linked.j0 k a1 a2 true a0_0 a0_1 l0_2 l0_3) else (if a2=2 then (if (Int.tmod a1 a0_0)=0 then (hinterlandref17_linked.j0 k a1 a2 true a0_0 a0_1 l0_2 l0_3) else (if a2=3 then (hinterlandref17_linked.j0 k a1 a2 ((wrap64 (Int.tdiv a1 a0_0)) == 0) a0_0 a0_1 l0_2 l0_3) else (hinterlandref17_linked.j0 k a1 a2 false a0_0 a0_1 l0_2 l0_3))) else (if a2=3 then (hinterlandref17_linked.j0 k a1 a2 ((wrap64 (Int.tdiv a1 a0_0)) == 0) a0_0 a0_1 l0_2 l0_3) else (hinterlandref17_linked.j0 k a1 a2 false a0_0 a0_1 l0_2 l0_3)))) else (if a2=2 then (if (Int.tmod a1 a0_0)=0 then (hinterlandref17_linked.j0 k a1 a2 true a0_0 a0_1 l0_2 l0_3) else (if a2=3 then (hinterlandref17_linked.j0 k a1 a2 ((wrap64 (Int.tdiv a1 a0_0)) == 0) a0_0 a0_1 l0_2 l0_3) else (hinterlandref17_linked.j0 k a1 a2 false a0_0 a0_1 l0_2 l0_3))) else (if a2=3 then (hinterlandref17_linked.j0 k a1 a2 ((wrap64 (Int.tdiv a1 a0_0)) == 0) a0_0 a0_1 l0_2 l0_3) else (hinterlandref17_linked.j0 k a1 a2 false a0_0 a0_1 l0_2 l0_3))))) else (if a2=1 then (if (wrap64 ((wrap64 (Int.tdiv a1 a0_0))+1))=a0_1 then (hinterlandref17_linked.j0 k a1 a2 true a0_0 a0_1 l0_2 l0_3) else (if a2=2 then (if (Int.tmod a1 a0_0)=0 then (hinterlandref17_linked.j0 k a1 a2 true a0_0 a0_1 l0_2 l0_3) else (if a2=3 then (hinterlandref17_linked.j0 k a1 a2 ((wrap64 (Int.tdiv a1 a0_0)) == 0) a0_0 a0_1 l0_2 l0_3) else (hinterlandref17_linked.j0 k a1 a2 false a0_0 a0_1 l0_2 l0_3))) else (if a2=3 then (hinterlandref17_linked.j0 k a1 a2 ((wrap64 (Int.tdiv a1 a0_0)) == 0) a0_0 a0_1 l0_2 l0_3) else (hinterlandref17_linked.j0 k a1 a2 false a0_0 a0_1 l0_2 l0_3)))) else (if a2=2 then (if (Int.tmod a1 a0_0)=0 then (hinterlandref17_linked.j0 k a1 a2 true a0_0 a0_1 l0_2 l0_3) else (if a2=3 then (hinterlandref17_linked.j0 k a1 a2 ((wrap64 (Int.tdiv a1 a0_0)) == 0) a0_0 a0_1 l0_2 l0_3) else (hinterlandref17_linked.j0 k a1 a2 false a0_0 a0_1 l0_2 l0_3))) else (if a2=3 then (hinterlandref17_linked.j0 k a1 a2 ((wrap64 (Int.tdiv a1 a0_0)) == 0) a0_0 a0_1 l0_2 l0_3) else (hinterlandref17_linked.j0 k a1 a2 false a0_0 a0_1 l0_2 l0_3)))))) else (none)) else (none)) else (none))
theorem hinterlandref17_linked.mono_l:∀ k,(∀ y0 y1 y2 y3 y4 y5 y6,LeO (hinterlandref17_linked.j0 k y0 y1 y2 y3 y4 y5 y6) (hinterlandref17_linked.j0 (k+1) y0 y1 y2 y3 y4 y5 y6))
 | 0=>fun _ _ _ _ _ _ _ r h=>by simp [hinterlandref17_linked.j0] at h
 | k+1=>by
  have ih0:=hinterlandref17_linked.mono_l k
  ·intro y0 y1 y2 y3 y4 y5 y6;unfold hinterlandref17_linked.j0;repeat' first
   | (with_reducible exact ih0 _ _ _ _ _ _ _)
   | (with_reducible exact LeO.refl _)
   | (with_reducible exact LeO.none _)
   | (with_reducible refine LeO.ite ?_ ?_)
   | (with_reducible refine LeO.bind ?_ (fun _=>?_))
theorem hinterlandref17_linked.mono:∀ a0 a1 a2 a3 a4 a5 k,LeO (hinterlandref17_linked.f k a0 a1 a2 a3 a4 a5) (hinterlandref17_linked.f (k+1) a0 a1 a2 a3 a4 a5) := by
 intro a0 a1 a2 a3 a4 a5 k;have ih0:=hinterlandref17_linked.mono_l k;unfold hinterlandref17_linked.f;repeat' first
   | (with_reducible exact ih0 _ _ _ _ _ _ _)
   | (with_reducible exact LeO.refl _)
   | (with_reducible exact LeO.none _)
   | (with_reducible refine LeO.ite ?_ ?_)
   | (with_reducible refine LeO.bind ?_ (fun _=>?_))
def hinterlandref17_linked.T1:Bool × List (List Nat × List Nat) := (true,[([],[]),([],[]),([1],[1]),([0,2],[0,2]),([],[]),([],[]),([5],[5]),([4,6],[4,6]),([3,0,1,2,3],[3]),([7,8,0,1,2,3,4,5,6,7,8],[7])])
def hinterlandref17_linked.B1:List Nat := [0,0,2,7,0,0,32,112,15,511]
theorem hinterlandref17_linked.tab1:rtab .any (opsOf Try.f40 1)=hinterlandref17_linked.T1 := by kernel_rfl
theorem hinterlandref17_linked.bits1:waitsOk hinterlandref17_linked.T1.2 hinterlandref17_linked.B1=true := by kernel_rfl
def hinterlandref17_linked.T4:Bool × List (List Nat × List Nat) := (true,[([],[]),([0],[0]),([],[]),([],[]),([],[]),([2,3,4],[2,3,4]),([1,5],[1,5]),([6],[6]),([],[]),([8],[8]),([9],[9]),([7,10],[7,10]),([11],[11]),([12],[12]),([13,5,0,1,2,3,4,5,6,7,8,9,10,11,12,13],[13])])
def hinterlandref17_linked.B4:List Nat := [0,1,0,0,0,28,63,127,0,256,768,2047,4095,8191,16383]
theorem hinterlandref17_linked.tab4:rtab .any (opsOf Try.f40 4)=hinterlandref17_linked.T4 := by kernel_rfl
theorem hinterlandref17_linked.bits4:waitsOk hinterlandref17_linked.T4.2 hinterlandref17_linked.B4=true := by kernel_rfl
set_option maxHeartbeats 8000000 in
set_option maxRecDepth 100000 in
theorem hinterlandref17_linked.calls (k:Nat) (a0_0:Int) (a0_1:Int) (A0_2:Option Addr) (c0_2:Nat) (l0_2:List Int) (A0_3:Option Addr) (c0_3:Nat) (l0_3:List Int) (a1:Int) (a2:Int) (r:Bool) (w:World) (hr0_2:Kd.C (Kd.int .i64) w A0_2 l0_2.length l0_2) (hc0_2:l0_2.length≤c0_2) (hr0_3:Kd.C (Kd.int .i64) w A0_3 l0_3.length l0_3) (hc0_3:l0_3.length≤c0_3) (h:hinterlandref17_linked.f k a0_0 a0_1 l0_2 l0_3 a1 a2=some r) :
  Calls Try.prog 40 #[.agg #[.int .i64 a0_0,.int .i64 a0_1,.slice A0_2 l0_2.length c0_2,.slice A0_3 l0_3.length c0_3],.int .i64 a1,.int .i64 a2] w fun e w'=>e=.returned (.bool r)∧Below w.heap.size w w':=by
 have hu24:=Try.underlying24;have HR0_2:=Aside0.mk hr0_2;have HC0_2:=Aside0.mk hc0_2;clear hr0_2 hc0_2;have HR0_3:=Aside0.mk hr0_3;have HC0_3:=Aside0.mk hc0_3;clear hr0_3 hc0_3;have HB:=Aside0.mk (Below.refl w.heap.size w);have H:=h;clear h;unfold hinterlandref17_linked.f at H;replace H:=ifn_ H;obtain ⟨c4,H⟩:=H;have c4b0:(a0_0 == 0)=false:=beq_eq_false_iff_ne.mpr c4;have c4b1:(a0_0 != 0)=true:=bne_iff_ne.mpr c4;have HC5:=Aside0.mk H;clear H;go_enter Try.func40,Try.ntmps40;try go_wp2_with (first|((with_reducible refine gate_dst (N:=3) rfl ?_);refine box_ev (N:=3) (cs:=#[.int .i64 a0_0,.int .i64 a0_1,.slice A0_2 l0_2.length c0_2,.slice A0_3 l0_3.length c0_3]) (t:=24) ?_;intro gb179 hg w6 hbox hb;have BK179:=Aside0.mk hbox;have GW179:=gsz (w:=w) hg;have GE179:=GW179;replace HB:=hbs hb;clear hb hbox hg))
 replace BK179:=bkd BK179;replace HB:=Aside0.mk (below_drew1 HB.out);refine start_ (n:=10) (S:=fun w'=>w'.cell? ⟨gb179,0,none⟩=some (.int .i64 a0_0)∧w'.cell? ⟨gb179,1,none⟩=some (.int .i64 a0_1)∧w'.cell? ⟨gb179,2,none⟩=some (.slice A0_2 l0_2.length c0_2)∧w'.cell? ⟨gb179,3,none⟩=some (.slice A0_3 l0_3.length c0_3)) (ds:=[]) #[false,false,false,false,false,false,false,false,false,false] (by kernel_rfl) rfl rfl ⟨bc BK179 0,bc BK179 1,bc BK179 2,bc BK179 3⟩ (fun hHeld=>?_);refine with_tabW hinterlandref17_linked.tab1 hinterlandref17_linked.bits1 (fun HT_ HW_=>?_);generalize w6.drew=w7 at BK179 HB hHeld ⊢;refine pI 0 (some 9) ?_;refine pI 1 (some 10) ?_;refine pI 4 (some 13) ?_;refine pI 5 (some 14) ?_;refine tI4 2 (some 11) hHeld ?_;refine pI 3 (some 12) ?_;refine pI 8 (some 7) ?_;refine tI4 6 (some 15) hHeld ?_;refine pI 7 (some 16) ?_;refine pI 9 (some 8) ?_;refine done_ (done_of HT_.out (by kernel_rfl)) ?_;go_upto_region 2 with (fail)
 go_cut [63] (fun v63 wc=>∃ (kq:Nat) (x63_4:Bool),v63=.bool x63_4∧Aside0 (hinterlandref17_linked.j0 kq a1 a2 x63_4 a0_0 a0_1 l0_2 l0_3=some r)∧Aside0 (kq≤k)∧Aside0 (wc.heap[gb179]?=some (.cells #[.int .i64 a0_0,.int .i64 a0_1,(.slice A0_2 l0_2.length c0_2),(.slice A0_3 l0_3.length c0_3)] 24 (0,0)))∧Aside0 (Below w.heap.size w wc))
 case first =>
  have H:=HC5.out;clear HC5;obtain ⟨c8,H⟩:=ifp_ H;have c8b0:=decide_eq_true c8;clear c8;(first|rw [c8b0]|(simp only [i64_w,i32_w];rw [c8b0])|skip);obtain ⟨c9,H⟩:=ifp_ H;have c9b0:=decide_eq_true c9;clear c9;obtain ⟨c10,H⟩:=ifp_ H;have c10b0:=eq_true c10;have c10b1:=decide_eq_true c10;clear c10;obtain ⟨ji11,hji11⟩:∃ j_:Int,(shr .i64 (rd l0_2 a1) a2)=j_:=⟨_,rfl⟩;(first|rw [hji11] at H|simp only [hji11] at H);have hji11_:((rd l0_2 a1) / 2 ^ min a2.toNat 64)=ji11:=hji11;have hji11z:a2≤64→((rd l0_2 a1) / 2 ^ a2.toNat)=ji11:=shr_small hji11;by_cases c12:(Go.bits .and .i64 (ji11) 1)=0
  ·rw [if_pos c12] at H;have c12b0:=bqt c12;have c12b1:=bnf c12;clear c12;have H':=Aside0.mk H;clear H;obtain ⟨_,_,_,_,_,_,_,_⟩:=cells4 BK179.out;have p180:0≤(a1:Int):=ofd;have q180:a1<(l0_2.length:Int):=ofd;obtain ⟨ad180,e180,hx180_0⟩:=Kd.at_int HR0_2.out a1 p180 q180;cases e180;replace hx180_0:=hbc HB hx180_0;replace p180:=eq_true p180;replace q180:=eq_true q180;(try have hju_:=hji11z (by simp only [beq_iff_eq] at *;omega));go_wp2
   go_meet
   case rel=>exact ⟨_,(true),(by first|rfl|(simp;done)|(simp [*];done)),H',⟨by first|omega|exact Nat.le_refl _⟩,⟨blk_up BK179.out⟩,⟨hb_⟩⟩
  rw [if_neg c12] at H;have c12b0:=bqf c12;have c12b1:=bnt c12;by_cases c14:a2=0;rotate_left
  ·rw [if_neg c14] at H;have c14b0:=bqf c14;have c14b1:=bnt c14;by_cases c38:a2=1;rotate_left
   ·rw [if_neg c38] at H;have c38b0:=bqf c38;have c38b1:=bnt c38;by_cases c50:a2=2;rotate_left
    ·rw [if_neg c50] at H;have c50b0:=bqf c50;have c50b1:=bnt c50;by_cases c56:a2=3
     ·rw [if_pos c56] at H;have c56b0:=bqt c56;have c56b1:=bnf c56;clear c56;have H':=Aside0.mk H;clear H;obtain ⟨_,_,_,_,_,_,_,_⟩:=cells4 BK179.out;have p180:0≤(a1:Int):=ofd;have q180:a1<(l0_2.length:Int):=ofd;obtain ⟨ad180,e180,hx180_0⟩:=Kd.at_int HR0_2.out a1 p180 q180;cases e180;replace hx180_0:=hbc HB hx180_0;replace p180:=eq_true p180;replace q180:=eq_true q180;(try have hju_:=hji11z (by simp only [beq_iff_eq] at *;omega));go_wp2
      go_meet
      case rel=>exact ⟨_,(((wrap64 (Int.tdiv a1 a0_0)) == 0)),(by first|rfl|(simp;done)|(simp [*];done)),H',⟨by first|omega|exact Nat.le_refl _⟩,⟨blk_up BK179.out⟩,⟨hb_⟩⟩
     ·rw [if_neg c56] at H;have c56b0:=bqf c56;have c56b1:=bnt c56;have H':=Aside0.mk H;clear H;obtain ⟨_,_,_,_,_,_,_,_⟩:=cells4 BK179.out;have p180:0≤(a1:Int):=ofd;have q180:a1<(l0_2.length:Int):=ofd;obtain ⟨ad180,e180,hx180_0⟩:=Kd.at_int HR0_2.out a1 p180 q180;cases e180;replace hx180_0:=hbc HB hx180_0;replace p180:=eq_true p180;replace q180:=eq_true q180;(try have hju_:=hji11z (by simp only [beq_iff_eq] at *;omega));go_wp2
      go_meet
      case rel=>exact ⟨_,(false),(by first|rfl|(simp;done)|(simp [*];done)),H',⟨by first|omega|exact Nat.le_refl _⟩,⟨blk_up BK179.out⟩,⟨hb_⟩⟩
    rw [if_pos c50] at H;have c50b0:=bqt c50;have c50b1:=bnf c50;clear c50;by_cases c51:(Int.tmod a1 a0_0)=0
    ·rw [if_pos c51] at H;have c51b0:=bqt c51;have c51b1:=bnf c51;clear c51;have H':=Aside0.mk H;clear H;obtain ⟨_,_,_,_,_,_,_,_⟩:=cells4 BK179.out;have p180:0≤(a1:Int):=ofd;have q180:a1<(l0_2.length:Int):=ofd;obtain ⟨ad180,e180,hx180_0⟩:=Kd.at_int HR0_2.out a1 p180 q180;cases e180;replace hx180_0:=hbc HB hx180_0;replace p180:=eq_true p180;replace q180:=eq_true q180;(try have hju_:=hji11z (by simp only [beq_iff_eq] at *;omega));go_wp2
     go_meet
     case rel=>exact ⟨_,(true),(by first|rfl|(simp;done)|(simp [*];done)),H',⟨by first|omega|exact Nat.le_refl _⟩,⟨blk_up BK179.out⟩,⟨hb_⟩⟩
    rw [if_neg c51] at H;have c51b0:=bqf c51;have c51b1:=bnt c51;by_cases c53:a2=3
    ·rw [if_pos c53] at H;have c53b0:=bqt c53;have c53b1:=bnf c53;clear c53;have H':=Aside0.mk H;clear H;obtain ⟨_,_,_,_,_,_,_,_⟩:=cells4 BK179.out;have p180:0≤(a1:Int):=ofd;have q180:a1<(l0_2.length:Int):=ofd;obtain ⟨ad180,e180,hx180_0⟩:=Kd.at_int HR0_2.out a1 p180 q180;cases e180;replace hx180_0:=hbc HB hx180_0;replace p180:=eq_true p180;replace q180:=eq_true q180;(try have hju_:=hji11z (by simp only [beq_iff_eq] at *;omega));go_wp2
     go_meet
     case rel=>exact ⟨_,(((wrap64 (Int.tdiv a1 a0_0)) == 0)),(by first|rfl|(simp;done)|(simp [*];done)),H',⟨by first|omega|exact Nat.le_refl _⟩,⟨blk_up BK179.out⟩,⟨hb_⟩⟩
    ·rw [if_neg c53] at H;have c53b0:=bqf c53;have c53b1:=bnt c53;have H':=Aside0.mk H;clear H;obtain ⟨_,_,_,_,_,_,_,_⟩:=cells4 BK179.out;have p180:0≤(a1:Int):=ofd;have q180:a1<(l0_2.length:Int):=ofd;obtain ⟨ad180,e180,hx180_0⟩:=Kd.at_int HR0_2.out a1 p180 q180;cases e180;replace hx180_0:=hbc HB hx180_0;replace p180:=eq_true p180;replace q180:=eq_true q180;(try have hju_:=hji11z (by simp only [beq_iff_eq] at *;omega));go_wp2
     go_meet
     case rel=>exact ⟨_,(false),(by first|rfl|(simp;done)|(simp [*];done)),H',⟨by first|omega|exact Nat.le_refl _⟩,⟨blk_up BK179.out⟩,⟨hb_⟩⟩
   rw [if_pos c38] at H;have c38b0:=bqt c38;have c38b1:=bnf c38;clear c38;by_cases c39:(wrap64 ((wrap64 (Int.tdiv a1 a0_0))+1))=a0_1
   ·rw [if_pos c39] at H;have c39b0:=bqt c39;have c39b1:=bnf c39;clear c39;have H':=Aside0.mk H;clear H;obtain ⟨_,_,_,_,_,_,_,_⟩:=cells4 BK179.out;have p180:0≤(a1:Int):=ofd;have q180:a1<(l0_2.length:Int):=ofd;obtain ⟨ad180,e180,hx180_0⟩:=Kd.at_int HR0_2.out a1 p180 q180;cases e180;replace hx180_0:=hbc HB hx180_0;replace p180:=eq_true p180;replace q180:=eq_true q180;(try have hju_:=hji11z (by simp only [beq_iff_eq] at *;omega));go_wp2
    go_meet
    case rel=>exact ⟨_,(true),(by first|rfl|(simp;done)|(simp [*];done)),H',⟨by first|omega|exact Nat.le_refl _⟩,⟨blk_up BK179.out⟩,⟨hb_⟩⟩
   rw [if_neg c39] at H;have c39b0:=bqf c39;have c39b1:=bnt c39;by_cases c41:a2=2;rotate_left
   ·rw [if_neg c41] at H;have c41b0:=bqf c41;have c41b1:=bnt c41;by_cases c47:a2=3
    ·rw [if_pos c47] at H;have c47b0:=bqt c47;have c47b1:=bnf c47;clear c47;have H':=Aside0.mk H;clear H;obtain ⟨_,_,_,_,_,_,_,_⟩:=cells4 BK179.out;have p180:0≤(a1:Int):=ofd;have q180:a1<(l0_2.length:Int):=ofd;obtain ⟨ad180,e180,hx180_0⟩:=Kd.at_int HR0_2.out a1 p180 q180;cases e180;replace hx180_0:=hbc HB hx180_0;replace p180:=eq_true p180;replace q180:=eq_true q180;(try have hju_:=hji11z (by simp only [beq_iff_eq] at *;omega));go_wp2
     go_meet
     case rel=>exact ⟨_,(((wrap64 (Int.tdiv a1 a0_0)) == 0)),(by first|rfl|(simp;done)|(simp [*];done)),H',⟨by first|omega|exact Nat.le_refl _⟩,⟨blk_up BK179.out⟩,⟨hb_⟩⟩
    ·rw [if_neg c47] at H;have c47b0:=bqf c47;have c47b1:=bnt c47;have H':=Aside0.mk H;clear H;obtain ⟨_,_,_,_,_,_,_,_⟩:=cells4 BK179.out;have p180:0≤(a1:Int):=ofd;have q180:a1<(l0_2.length:Int):=ofd;obtain ⟨ad180,e180,hx180_0⟩:=Kd.at_int HR0_2.out a1 p180 q180;cases e180;replace hx180_0:=hbc HB hx180_0;replace p180:=eq_true p180;replace q180:=eq_true q180;(try have hju_:=hji11z (by simp only [beq_iff_eq] at *;omega));go_wp2
     go_meet
     case rel=>exact ⟨_,(false),(by first|rfl|(simp;done)|(simp [*];done)),H',⟨by first|omega|exact Nat.le_refl _⟩,⟨blk_up BK179.out⟩,⟨hb_⟩⟩
   rw [if_pos c41] at H;have c41b0:=bqt c41;have c41b1:=bnf c41;clear c41;by_cases c42:(Int.tmod a1 a0_0)=0
   ·rw [if_pos c42] at H;have c42b0:=bqt c42;have c42b1:=bnf c42;clear c42;have H':=Aside0.mk H;clear H;obtain ⟨_,_,_,_,_,_,_,_⟩:=cells4 BK179.out;have p180:0≤(a1:Int):=ofd;have q180:a1<(l0_2.length:Int):=ofd;obtain ⟨ad180,e180,hx180_0⟩:=Kd.at_int HR0_2.out a1 p180 q180;cases e180;replace hx180_0:=hbc HB hx180_0;replace p180:=eq_true p180;replace q180:=eq_true q180;(try have hju_:=hji11z (by simp only [beq_iff_eq] at *;omega));go_wp2
    go_meet
    case rel=>exact ⟨_,(true),(by first|rfl|(simp;done)|(simp [*];done)),H',⟨by first|omega|exact Nat.le_refl _⟩,⟨blk_up BK179.out⟩,⟨hb_⟩⟩
   rw [if_neg c42] at H;have c42b0:=bqf c42;have c42b1:=bnt c42;by_cases c44:a2=3
   ·rw [if_pos c44] at H;have c44b0:=bqt c44;have c44b1:=bnf c44;clear c44;have H':=Aside0.mk H;clear H;obtain ⟨_,_,_,_,_,_,_,_⟩:=cells4 BK179.out;have p180:0≤(a1:Int):=ofd;have q180:a1<(l0_2.length:Int):=ofd;obtain ⟨ad180,e180,hx180_0⟩:=Kd.at_int HR0_2.out a1 p180 q180;cases e180;replace hx180_0:=hbc HB hx180_0;replace p180:=eq_true p180;replace q180:=eq_true q180;(try have hju_:=hji11z (by simp only [beq_iff_eq] at *;omega));go_wp2
    go_meet
    case rel=>exact ⟨_,(((wrap64 (Int.tdiv a1 a0_0)) == 0)),(by first|rfl|(simp;done)|(simp [*];done)),H',⟨by first|omega|exact Nat.le_refl _⟩,⟨blk_up BK179.out⟩,⟨hb_⟩⟩
   ·rw [if_neg c44] at H;have c44b0:=bqf c44;have c44b1:=bnt c44;have H':=Aside0.mk H;clear H;obtain ⟨_,_,_,_,_,_,_,_⟩:=cells4 BK179.out;have p180:0≤(a1:Int):=ofd;have q180:a1<(l0_2.length:Int):=ofd;obtain ⟨ad180,e180,hx180_0⟩:=Kd.at_int HR0_2.out a1 p180 q180;cases e180;replace hx180_0:=hbc HB hx180_0;replace p180:=eq_true p180;replace q180:=eq_true q180;(try have hju_:=hji11z (by simp only [beq_iff_eq] at *;omega));go_wp2
    go_meet
    case rel=>exact ⟨_,(false),(by first|rfl|(simp;done)|(simp [*];done)),H',⟨by first|omega|exact Nat.le_refl _⟩,⟨blk_up BK179.out⟩,⟨hb_⟩⟩
  rw [if_pos c14] at H;have c14b0:=bqt c14;have c14b1:=bnf c14;clear c14;by_cases c15:(wrap64 ((Int.tmod a1 a0_0)+1))=a0_0
  ·rw [if_pos c15] at H;have c15b0:=bqt c15;have c15b1:=bnf c15;clear c15;have H':=Aside0.mk H;clear H;obtain ⟨_,_,_,_,_,_,_,_⟩:=cells4 BK179.out;have p180:0≤(a1:Int):=ofd;have q180:a1<(l0_2.length:Int):=ofd;obtain ⟨ad180,e180,hx180_0⟩:=Kd.at_int HR0_2.out a1 p180 q180;cases e180;replace hx180_0:=hbc HB hx180_0;replace p180:=eq_true p180;replace q180:=eq_true q180;(try have hju_:=hji11z (by simp only [beq_iff_eq] at *;omega));go_wp2
   go_meet
   case rel=>exact ⟨_,(true),(by first|rfl|(simp;done)|(simp [*];done)),H',⟨by first|omega|exact Nat.le_refl _⟩,⟨blk_up BK179.out⟩,⟨hb_⟩⟩
  rw [if_neg c15] at H;have c15b0:=bqf c15;have c15b1:=bnt c15;by_cases c17:a2=1;rotate_left
  ·rw [if_neg c17] at H;have c17b0:=bqf c17;have c17b1:=bnt c17;by_cases c29:a2=2;rotate_left
   ·rw [if_neg c29] at H;have c29b0:=bqf c29;have c29b1:=bnt c29;by_cases c35:a2=3
    ·rw [if_pos c35] at H;have c35b0:=bqt c35;have c35b1:=bnf c35;clear c35;have H':=Aside0.mk H;clear H;obtain ⟨_,_,_,_,_,_,_,_⟩:=cells4 BK179.out;have p180:0≤(a1:Int):=ofd;have q180:a1<(l0_2.length:Int):=ofd;obtain ⟨ad180,e180,hx180_0⟩:=Kd.at_int HR0_2.out a1 p180 q180;cases e180;replace hx180_0:=hbc HB hx180_0;replace p180:=eq_true p180;replace q180:=eq_true q180;(try have hju_:=hji11z (by simp only [beq_iff_eq] at *;omega));go_wp2
     go_meet
     case rel=>exact ⟨_,(((wrap64 (Int.tdiv a1 a0_0)) == 0)),(by first|rfl|(simp;done)|(simp [*];done)),H',⟨by first|omega|exact Nat.le_refl _⟩,⟨blk_up BK179.out⟩,⟨hb_⟩⟩
    ·rw [if_neg c35] at H;have c35b0:=bqf c35;have c35b1:=bnt c35;have H':=Aside0.mk H;clear H;obtain ⟨_,_,_,_,_,_,_,_⟩:=cells4 BK179.out;have p180:0≤(a1:Int):=ofd;have q180:a1<(l0_2.length:Int):=ofd;obtain ⟨ad180,e180,hx180_0⟩:=Kd.at_int HR0_2.out a1 p180 q180;cases e180;replace hx180_0:=hbc HB hx180_0;replace p180:=eq_true p180;replace q180:=eq_true q180;(try have hju_:=hji11z (by simp only [beq_iff_eq] at *;omega));go_wp2
     go_meet
     case rel=>exact ⟨_,(false),(by first|rfl|(simp;done)|(simp [*];done)),H',⟨by first|omega|exact Nat.le_refl _⟩,⟨blk_up BK179.out⟩,⟨hb_⟩⟩
   rw [if_pos c29] at H;have c29b0:=bqt c29;have c29b1:=bnf c29;clear c29;by_cases c30:(Int.tmod a1 a0_0)=0
   ·rw [if_pos c30] at H;have c30b0:=bqt c30;have c30b1:=bnf c30;clear c30;have H':=Aside0.mk H;clear H;obtain ⟨_,_,_,_,_,_,_,_⟩:=cells4 BK179.out;have p180:0≤(a1:Int):=ofd;have q180:a1<(l0_2.length:Int):=ofd;obtain ⟨ad180,e180,hx180_0⟩:=Kd.at_int HR0_2.out a1 p180 q180;cases e180;replace hx180_0:=hbc HB hx180_0;replace p180:=eq_true p180;replace q180:=eq_true q180;(try have hju_:=hji11z (by simp only [beq_iff_eq] at *;omega));go_wp2
    go_meet
    case rel=>exact ⟨_,(true),(by first|rfl|(simp;done)|(simp [*];done)),H',⟨by first|omega|exact Nat.le_refl _⟩,⟨blk_up BK179.out⟩,⟨hb_⟩⟩
   rw [if_neg c30] at H;have c30b0:=bqf c30;have c30b1:=bnt c30;by_cases c32:a2=3
   ·rw [if_pos c32] at H;have c32b0:=bqt c32;have c32b1:=bnf c32;clear c32;have H':=Aside0.mk H;clear H;obtain ⟨_,_,_,_,_,_,_,_⟩:=cells4 BK179.out;have p180:0≤(a1:Int):=ofd;have q180:a1<(l0_2.length:Int):=ofd;obtain ⟨ad180,e180,hx180_0⟩:=Kd.at_int HR0_2.out a1 p180 q180;cases e180;replace hx180_0:=hbc HB hx180_0;replace p180:=eq_true p180;replace q180:=eq_true q180;(try have hju_:=hji11z (by simp only [beq_iff_eq] at *;omega));go_wp2
    go_meet
    case rel=>exact ⟨_,(((wrap64 (Int.tdiv a1 a0_0)) == 0)),(by first|rfl|(simp;done)|(simp [*];done)),H',⟨by first|omega|exact Nat.le_refl _⟩,⟨blk_up BK179.out⟩,⟨hb_⟩⟩
   ·rw [if_neg c32] at H;have c32b0:=bqf c32;have c32b1:=bnt c32;have H':=Aside0.mk H;clear H;obtain ⟨_,_,_,_,_,_,_,_⟩:=cells4 BK179.out;have p180:0≤(a1:Int):=ofd;have q180:a1<(l0_2.length:Int):=ofd;obtain ⟨ad180,e180,hx180_0⟩:=Kd.at_int HR0_2.out a1 p180 q180;cases e180;replace hx180_0:=hbc HB hx180_0;replace p180:=eq_true p180;replace q180:=eq_true q180;(try have hju_:=hji11z (by simp only [beq_iff_eq] at *;omega));go_wp2
    go_meet
    case rel=>exact ⟨_,(false),(by first|rfl|(simp;done)|(simp [*];done)),H',⟨by first|omega|exact Nat.le_refl _⟩,⟨blk_up BK179.out⟩,⟨hb_⟩⟩
  rw [if_pos c17] at H;have c17b0:=bqt c17;have c17b1:=bnf c17;clear c17;by_cases c18:(wrap64 ((wrap64 (Int.tdiv a1 a0_0))+1))=a0_1
  ·rw [if_pos c18] at H;have c18b0:=bqt c18;have c18b1:=bnf c18;clear c18;have H':=Aside0.mk H;clear H;obtain ⟨_,_,_,_,_,_,_,_⟩:=cells4 BK179.out;have p180:0≤(a1:Int):=ofd;have q180:a1<(l0_2.length:Int):=ofd;obtain ⟨ad180,e180,hx180_0⟩:=Kd.at_int HR0_2.out a1 p180 q180;cases e180;replace hx180_0:=hbc HB hx180_0;replace p180:=eq_true p180;replace q180:=eq_true q180;(try have hju_:=hji11z (by simp only [beq_iff_eq] at *;omega));go_wp2
   go_meet
   case rel=>exact ⟨_,(true),(by first|rfl|(simp;done)|(simp [*];done)),H',⟨by first|omega|exact Nat.le_refl _⟩,⟨blk_up BK179.out⟩,⟨hb_⟩⟩
  rw [if_neg c18] at H;have c18b0:=bqf c18;have c18b1:=bnt c18;by_cases c20:a2=2;rotate_left
  ·rw [if_neg c20] at H;have c20b0:=bqf c20;have c20b1:=bnt c20;by_cases c26:a2=3
   ·rw [if_pos c26] at H;have c26b0:=bqt c26;have c26b1:=bnf c26;clear c26;have H':=Aside0.mk H;clear H;obtain ⟨_,_,_,_,_,_,_,_⟩:=cells4 BK179.out;have p180:0≤(a1:Int):=ofd;have q180:a1<(l0_2.length:Int):=ofd;obtain ⟨ad180,e180,hx180_0⟩:=Kd.at_int HR0_2.out a1 p180 q180;cases e180;replace hx180_0:=hbc HB hx180_0;replace p180:=eq_true p180;replace q180:=eq_true q180;(try have hju_:=hji11z (by simp only [beq_iff_eq] at *;omega));go_wp2
    go_meet
    case rel=>exact ⟨_,(((wrap64 (Int.tdiv a1 a0_0)) == 0)),(by first|rfl|(simp;done)|(simp [*];done)),H',⟨by first|omega|exact Nat.le_refl _⟩,⟨blk_up BK179.out⟩,⟨hb_⟩⟩
   ·rw [if_neg c26] at H;have c26b0:=bqf c26;have c26b1:=bnt c26;have H':=Aside0.mk H;clear H;obtain ⟨_,_,_,_,_,_,_,_⟩:=cells4 BK179.out;have p180:0≤(a1:Int):=ofd;have q180:a1<(l0_2.length:Int):=ofd;obtain ⟨ad180,e180,hx180_0⟩:=Kd.at_int HR0_2.out a1 p180 q180;cases e180;replace hx180_0:=hbc HB hx180_0;replace p180:=eq_true p180;replace q180:=eq_true q180;(try have hju_:=hji11z (by simp only [beq_iff_eq] at *;omega));go_wp2
    go_meet
    case rel=>exact ⟨_,(false),(by first|rfl|(simp;done)|(simp [*];done)),H',⟨by first|omega|exact Nat.le_refl _⟩,⟨blk_up BK179.out⟩,⟨hb_⟩⟩
  rw [if_pos c20] at H;have c20b0:=bqt c20;have c20b1:=bnf c20;clear c20;by_cases c21:(Int.tmod a1 a0_0)=0
  ·rw [if_pos c21] at H;have c21b0:=bqt c21;have c21b1:=bnf c21;clear c21;have H':=Aside0.mk H;clear H;obtain ⟨_,_,_,_,_,_,_,_⟩:=cells4 BK179.out;have p180:0≤(a1:Int):=ofd;have q180:a1<(l0_2.length:Int):=ofd;obtain ⟨ad180,e180,hx180_0⟩:=Kd.at_int HR0_2.out a1 p180 q180;cases e180;replace hx180_0:=hbc HB hx180_0;replace p180:=eq_true p180;replace q180:=eq_true q180;(try have hju_:=hji11z (by simp only [beq_iff_eq] at *;omega));go_wp2
   go_meet
   case rel=>exact ⟨_,(true),(by first|rfl|(simp;done)|(simp [*];done)),H',⟨by first|omega|exact Nat.le_refl _⟩,⟨blk_up BK179.out⟩,⟨hb_⟩⟩
  rw [if_neg c21] at H;have c21b0:=bqf c21;have c21b1:=bnt c21;by_cases c23:a2=3
  ·rw [if_pos c23] at H;have c23b0:=bqt c23;have c23b1:=bnf c23;clear c23;have H':=Aside0.mk H;clear H;obtain ⟨_,_,_,_,_,_,_,_⟩:=cells4 BK179.out;have p180:0≤(a1:Int):=ofd;have q180:a1<(l0_2.length:Int):=ofd;obtain ⟨ad180,e180,hx180_0⟩:=Kd.at_int HR0_2.out a1 p180 q180;cases e180;replace hx180_0:=hbc HB hx180_0;replace p180:=eq_true p180;replace q180:=eq_true q180;(try have hju_:=hji11z (by simp only [beq_iff_eq] at *;omega));go_wp2
   go_meet
   case rel=>exact ⟨_,(((wrap64 (Int.tdiv a1 a0_0)) == 0)),(by first|rfl|(simp;done)|(simp [*];done)),H',⟨by first|omega|exact Nat.le_refl _⟩,⟨blk_up BK179.out⟩,⟨hb_⟩⟩
  ·rw [if_neg c23] at H;have c23b0:=bqf c23;have c23b1:=bnt c23;have H':=Aside0.mk H;clear H;obtain ⟨_,_,_,_,_,_,_,_⟩:=cells4 BK179.out;have p180:0≤(a1:Int):=ofd;have q180:a1<(l0_2.length:Int):=ofd;obtain ⟨ad180,e180,hx180_0⟩:=Kd.at_int HR0_2.out a1 p180 q180;cases e180;replace hx180_0:=hbc HB hx180_0;replace p180:=eq_true p180;replace q180:=eq_true q180;(try have hju_:=hji11z (by simp only [beq_iff_eq] at *;omega));go_wp2
   go_meet
   case rel=>exact ⟨_,(false),(by first|rfl|(simp;done)|(simp [*];done)),H',⟨by first|omega|exact Nat.le_refl _⟩,⟨blk_up BK179.out⟩,⟨hb_⟩⟩
 case rest =>
  clear HC5;obtain ⟨kq,x63_4,rfl,HA,HJ4,BK179,HB⟩:=hcut;cases kq with
  | zero=>exact absurd HA.out (by simp [hinterlandref17_linked.j0])
  | succ kj4 =>
   have H:=HA.out;clear HA;simp only [hinterlandref17_linked.j0] at H;by_cases c59:x63_4=true
   ·subst c59;rw [if_pos rfl] at H;obtain rfl:=Option.some.inj H;go_wp2
    go_ret
    exact ⟨er_,hb_⟩
   ·replace c59:=Bool.eq_false_iff.mpr c59;subst c59;rw [if_neg (show ¬ (false=true) by decide)] at H;obtain ⟨t181,A60,H⟩:=bnd H;obtain ⟨c61,H⟩:=ifp_ H;have c61b0:=decide_eq_true c61;clear c61;obtain ⟨c62,H⟩:=ifp_ H;have c62b0:=decide_eq_true c62;clear c62;obtain ⟨ji63,hji63⟩:∃ j_:Int,(Int.tmod (wrap64 (a2+2)) 4)=j_:=⟨_,rfl⟩;(first|rw [hji63] at H|simp only [hji63] at H);(try rw [hji63] at A60);obtain ⟨c64,H⟩:=ifp_ H;have c64b0:=eq_true c64;have c64b1:=decide_eq_true c64;clear c64;obtain ⟨ji65,hji65⟩:∃ j_:Int,(shr .i64 (rd l0_2 t181) (ji63))=j_:=⟨_,rfl⟩;(first|rw [hji65] at H|simp only [hji65] at H);(try rw [hji65] at A60);have hji65_:((rd l0_2 t181) / 2 ^ min (ji63).toNat 64)=ji65:=hji65;have hji65z:(ji63)≤64→((rd l0_2 t181) / 2 ^ (ji63).toNat)=ji65:=shr_small hji65;obtain rfl:=Option.some.inj H;try go_wp2
    replace BK179:=bkd BK179;replace HB:=Aside0.mk (below_drew1 HB.out);have p182:0≤(t181:Int):=ofd;have q182:t181<(l0_2.length:Int):=ofd;obtain ⟨ad182,e182,hx182_0⟩:=Kd.at_int HR0_2.out t181 p182 q182;have hw182_0:=hx182_0;cases e182;replace hx182_0:=hbc HB hx182_0;replace p182:=eq_true p182;replace q182:=eq_true q182;refine start_ (n:=15) (S:=fun w'=>w'.cell? ⟨gb179,0,none⟩=some (.int .i64 a0_0)∧w'.cell? ⟨gb179,1,none⟩=some (.int .i64 a0_1)∧w'.cell? ⟨gb179,2,none⟩=some (.slice (some ad182) l0_2.length c0_2)∧w'.cell? ⟨gb179,3,none⟩=some (.slice A0_3 l0_3.length c0_3)∧w'.cell? (ad182.add (t181).toNat)=some (.int .i64 (rd l0_2 t181))) (ds:=[]) #[false,false,false,false,false,false,false,false,false,false,false,false,false,false,false] (by kernel_rfl) rfl rfl ⟨bc BK179 0,bc BK179 1,bc BK179 2,bc BK179 3,((HB.out.cell (World.block_lt_of_cell? w _ hw182_0)).trans hw182_0)⟩ (fun hHeld=>?_);refine with_tabW hinterlandref17_linked.tab4 hinterlandref17_linked.bits4 (fun HT_ HW_=>?_);generalize wc.drew=w66 at BK179 HB hx182_0 hHeld ⊢;refine pI 0 (some 64) ?_;refine pI 3 (some 67) ?_;refine pI 4 (some 68) ?_;refine pI 8 (some 72) ?_;refine pI 9 (some 73) ?_;refine pI 10 (some 74) ?_;refine tI5 1 (some 65) hHeld ?_;refine tI5 2 (some 66) hHeld ?_;refine oI 5 (some 69) (fun K hK=>?_);refine goes_ Try.func67 (by kernel_rfl) rfl #[.agg #[.int .i64 a0_0,.int .i64 a0_1,.slice (some ad182) l0_2.length c0_2,.slice A0_3 l0_3.length c0_3],.int .i64 a1,.int .i64 a2] (by rfl) rfl rfl ga_ ?_;with_reducible refine (hinterlandref17_beyond.calls a0_0 a0_1 _ _ l0_2 _ _ l0_3 a1 a2 t181 _ ?side1 ?side2 ?side3 ?side4 A60.out).mono ?_
    (case side1=>exact cq HR0_2);(case side2=>exact HC0_2.out);(case side3=>exact cq HR0_3);(case side4=>exact HC0_3.out);rintro e w67 ⟨rfl,hb⟩;refine ⟨_,rfl,?_⟩;replace BK179:=bkb BK179 hb;replace HB:=Aside0.mk (below_step (hb_) hb);(try clear hb);refine hK.out _ _ ⟨bc BK179 0,bc BK179 1,bc BK179 2,bc BK179 3,((HB.out.cell (World.block_lt_of_cell? w _ hw182_0)).trans hw182_0)⟩ (fun hHeld=>?_);clear hK K;refine nrm 69 ?_;refine pI 6 (some 70) ?_;refine tI5 7 (some 71) hHeld ?_;refine pI 11 (some 75) ?_;refine pI 12 (some 76) ?_;refine pI 13 (some 77) ?_;refine pI 14 (some 6) ?_;refine done_ (done_of HT_.out (by kernel_rfl)) ?_;try go_wp2
    go_ret
    exact ⟨by first|rfl|(simp [errW_none,errW_some] <;> rfl)|(simp only [← hji63,← hji65];first|rfl|(simp [errW_none,errW_some] <;> rfl))|(simp [*,errW_none,errW_some] <;> rfl),hb_⟩

/-! ### hinterlandref17_taken: function 41 -/
def hinterlandref17_taken.l0:Nat→Int→Int→Int→Int→Int→Int→List Int→List Int→List Int→List (S50)→Option (Bool)
 | 0,_,_,_,_,_,_,_,_,_,_=>none
 | k+1,x1,x2,x3,x9,x184000,x184001,x184002,x184003,x184004,x184005=>if x9<(x184005.length:Int) then (if x9=x1 then (hinterlandref17_taken.l0 k x1 x2 x3 (wrap64 (x9+1)) x184000 x184001 x184002 x184003 x184004 x184005) else (if x2≥0 then (if 0≤x9 then (if ((rd_T50 x184005 x9).f0)=x2 then (if ((rd_T50 x184005 x9).f2)=x3 then (some true) else (hinterlandref17_taken.l0 k x1 x2 x3 (wrap64 (x9+1)) x184000 x184001 x184002 x184003 x184004 x184005)) else (hinterlandref17_taken.l0 k x1 x2 x3 (wrap64 (x9+1)) x184000 x184001 x184002 x184003 x184004 x184005)) else (none)) else (hinterlandref17_taken.l0 k x1 x2 x3 (wrap64 (x9+1)) x184000 x184001 x184002 x184003 x184004 x184005))) else (some false)
def hinterlandref17_taken.f (k:Nat) (a0_0:Int) (a0_1:Int) (l0_2:List Int) (l0_3:List Int) (l0_4:List Int) (l0_5:List (S50)) (a1:Int) (a2:Int) (a3:Int):Option (Bool) := hinterlandref17_taken.l0 k a1 a2 a3 0 a0_0 a0_1 l0_2 l0_3 l0_4 l0_5
theorem hinterlandref17_taken.mono_l:∀ k,(∀ y0 y1 y2 y3 y4 y5 y6 y7 y8 y9,LeO (hinterlandref17_taken.l0 k y0 y1 y2 y3 y4 y5 y6 y7 y8 y9) (hinterlandref17_taken.l0 (k+1) y0 y1 y2 y3 y4 y5 y6 y7 y8 y9))
 | 0=>fun _ _ _ _ _ _ _ _ _ _ r h=>by simp [hinterlandref17_taken.l0] at h
 | k+1=>by
  have ih0:=hinterlandref17_taken.mono_l k
  ·intro y0 y1 y2 y3 y4 y5 y6 y7 y8 y9;unfold hinterlandref17_taken.l0;repeat' first
   | (with_reducible exact ih0 _ _ _ _ _ _ _ _ _ _)
   | (with_reducible exact LeO.refl _)
   | (with_reducible exact LeO.none _)
   | (with_reducible refine LeO.ite ?_ ?_)
   | (with_reducible refine LeO.bind ?_ (fun _=>?_))
theorem hinterlandref17_taken.mono:∀ a0 a1 a2 a3 a4 a5 a6 a7 a8 k,LeO (hinterlandref17_taken.f k a0 a1 a2 a3 a4 a5 a6 a7 a8) (hinterlandref17_taken.f (k+1) a0 a1 a2 a3 a4 a5 a6 a7 a8) := by
 intro a0 a1 a2 a3 a4 a5 a6 a7 a8 k;have ih0:=hinterlandref17_taken.mono_l k;unfold hinterlandref17_taken.f;repeat' first
   | (with_reducible exact ih0 _ _ _ _ _ _ _ _ _ _)
   | (with_reducible exact LeO.refl _)
   | (with_reducible exact LeO.none _)
   | (with_reducible refine LeO.ite ?_ ?_)
   | (with_reducible refine LeO.bind ?_ (fun _=>?_))
set_option maxHeartbeats 8000000 in
set_option maxRecDepth 100000 in
theorem hinterlandref17_taken.calls (k:Nat) (a0_0:Int) (a0_1:Int) (A0_2:Option Addr) (c0_2:Nat) (l0_2:List Int) (A0_3:Option Addr) (c0_3:Nat) (l0_3:List Int) (A0_4:Option Addr) (c0_4:Nat) (l0_4:List Int) (A0_5:Option Addr) (c0_5:Nat) (l0_5:List (S50)) (a1:Int) (a2:Int) (a3:Int) (r:Bool) (w:World) (hr0_2:Kd.C (Kd.int .i64) w A0_2 l0_2.length l0_2) (hc0_2:l0_2.length≤c0_2) (hr0_3:Kd.C (Kd.int .i64) w A0_3 l0_3.length l0_3) (hc0_3:l0_3.length≤c0_3) (hr0_4:Kd.C (Kd.int .i64) w A0_4 l0_4.length l0_4) (hc0_4:l0_4.length≤c0_4) (hr0_5:Kd.C k50 w A0_5 l0_5.length l0_5) (hc0_5:l0_5.length≤c0_5) (h:hinterlandref17_taken.f k a0_0 a0_1 l0_2 l0_3 l0_4 l0_5 a1 a2 a3=some r) :
  Calls Try.prog 41 #[.agg #[.int .i64 a0_0,.int .i64 a0_1,.slice A0_2 l0_2.length c0_2,.slice A0_3 l0_3.length c0_3,.slice A0_4 l0_4.length c0_4,.slice A0_5 l0_5.length c0_5],.int .i64 a1,.int .i64 a2,.int .i64 a3] w fun e w'=>e=.returned (.bool r)∧Below w.heap.size w w':=by
 have hu33:=Try.underlying33;have HR0_2:=Aside0.mk hr0_2;have HC0_2:=Aside0.mk hc0_2;clear hr0_2 hc0_2;have HR0_3:=Aside0.mk hr0_3;have HC0_3:=Aside0.mk hc0_3;clear hr0_3 hc0_3;have HR0_4:=Aside0.mk hr0_4;have HC0_4:=Aside0.mk hc0_4;clear hr0_4 hc0_4;have HR0_5:=Aside0.mk hr0_5;have HC0_5:=Aside0.mk hc0_5;clear hr0_5 hc0_5;have HB:=Aside0.mk (Below.refl w.heap.size w);have H:=h;clear h;unfold hinterlandref17_taken.f at H;have H':=Aside0.mk H;clear H;go_enter Try.func41,Try.ntmps41;go_wp2_with (first|((with_reducible refine gate_dst (N:=4) rfl ?_);refine box_ev (N:=4) (cs:=#[.int .i64 a0_0,.int .i64 a0_1,.slice A0_2 l0_2.length c0_2,.slice A0_3 l0_3.length c0_3,.slice A0_4 l0_4.length c0_4,.slice A0_5 l0_5.length c0_5]) (t:=33) ?_;intro gb183 hg w5 hbox hb;have BK183:=Aside0.mk hbox;have GW183:=gsz (w:=w) hg;have GE183:=GW183;replace HB:=hbs hb;clear hb hbox hg))
 go_loopg [9] k (fun kq v9 w'=>∃ (x9_1:Int),v9=.int .i64 x9_1∧Aside0 (hinterlandref17_taken.l0 kq a1 a2 a3 x9_1 a0_0 a0_1 l0_2 l0_3 l0_4 l0_5=some r)∧Aside0 (kq≤k)∧Aside0 (w'.heap[gb183]?=some (.cells #[.int .i64 a0_0,.int .i64 a0_1,(.slice A0_2 l0_2.length c0_2),(.slice A0_3 l0_3.length c0_3),(.slice A0_4 l0_4.length c0_4),(.slice A0_5 l0_5.length c0_5)] 33 (0,0)))∧Aside0 (Below w.heap.size w w'))
 case atStart=>exact ⟨(0),(by first|rfl|(simp;done)|(simp [*];done)),H',⟨Nat.le_refl _⟩,⟨blk_up BK183.out⟩,⟨hb_⟩⟩
 case round =>
  clear H';obtain ⟨x9_1,rfl,HA,HK1,BK183,HB⟩:=hrel;cases gk with
  | zero=>exact absurd HA.out (by simp [hinterlandref17_taken.l0])
  | succ k1 =>
   have H:=HA.out;clear HA;simp only [hinterlandref17_taken.l0] at H;by_cases c6:x9_1<(l0_5.length:Int);rotate_left
   ·rw [if_neg c6] at H;have c6b0:=decide_eq_false c6;clear c6;obtain rfl:=Option.some.inj H;obtain ⟨_,_,_,_,_,_,_,_,_,_,_,_⟩:=cells6 BK183.out;go_wp2
    go_ret
    exact ⟨er_,hb_⟩
   rw [if_pos c6] at H;have c6b0:=decide_eq_true c6;clear c6;by_cases c7:x9_1=a1
   ·rw [if_pos c7] at H;have c7b0:=bqt c7;have c7b1:=bnf c7;clear c7;have H':=Aside0.mk H;clear H;obtain ⟨_,_,_,_,_,_,_,_,_,_,_,_⟩:=cells6 BK183.out;go_wp2
    go_roundg k1
    case measure=>have:=HK1.out;omega
    case rel=>exact ⟨(wrap64 (x9_1+1)),(by first|rfl|(simp;done)|(simp [*];done)),H',⟨by have:=HK1.out;omega⟩,⟨blk_up BK183.out⟩,⟨hb_⟩⟩
   rw [if_neg c7] at H;have c7b0:=bqf c7;have c7b1:=bnt c7;by_cases c9:a2≥0;rotate_left
   ·rw [if_neg c9] at H;have c9b0:=decide_eq_false c9;clear c9;have H':=Aside0.mk H;clear H;obtain ⟨_,_,_,_,_,_,_,_,_,_,_,_⟩:=cells6 BK183.out;go_wp2
    go_roundg k1
    case measure=>have:=HK1.out;omega
    case rel=>exact ⟨(wrap64 (x9_1+1)),(by first|rfl|(simp;done)|(simp [*];done)),H',⟨by have:=HK1.out;omega⟩,⟨blk_up BK183.out⟩,⟨hb_⟩⟩
   rw [if_pos c9] at H;have c9b0:=decide_eq_true c9;clear c9;obtain ⟨c10,H⟩:=ifp_ H;have c10b0:=decide_eq_true c10;clear c10;by_cases c11:((rd_T50 l0_5 x9_1).f0)=a2;rotate_left
   ·rw [if_neg c11] at H;have c11b0:=bqf c11;have c11b1:=bnt c11;have H':=Aside0.mk H;clear H;obtain ⟨_,_,_,_,_,_,_,_,_,_,_,_⟩:=cells6 BK183.out;have p184:0≤(x9_1:Int):=ofd;have q184:x9_1<(l0_5.length:Int):=ofd;obtain ⟨ad184,e184,hx184_0,hx184_1,hx184_2,hx184_3,hx184_4⟩:=at_T50 HR0_5.out x9_1 p184 q184;cases e184;replace hx184_0:=hbc HB hx184_0;replace hx184_1:=hbc HB hx184_1;replace hx184_2:=hbc HB hx184_2;replace hx184_3:=hbc HB hx184_3;replace hx184_4:=hbc HB hx184_4;replace p184:=eq_true p184;replace q184:=eq_true q184;go_wp2
    go_roundg k1
    case measure=>have:=HK1.out;omega
    case rel=>exact ⟨(wrap64 (x9_1+1)),(by first|rfl|(simp;done)|(simp [*];done)),H',⟨by have:=HK1.out;omega⟩,⟨blk_up BK183.out⟩,⟨hb_⟩⟩
   rw [if_pos c11] at H;have c11b0:=bqt c11;have c11b1:=bnf c11;clear c11;by_cases c12:((rd_T50 l0_5 x9_1).f2)=a3
   ·rw [if_pos c12] at H;have c12b0:=bqt c12;have c12b1:=bnf c12;clear c12;obtain rfl:=Option.some.inj H;obtain ⟨_,_,_,_,_,_,_,_,_,_,_,_⟩:=cells6 BK183.out;have p184:0≤(x9_1:Int):=ofd;have q184:x9_1<(l0_5.length:Int):=ofd;obtain ⟨ad184,e184,hx184_0,hx184_1,hx184_2,hx184_3,hx184_4⟩:=at_T50 HR0_5.out x9_1 p184 q184;cases e184;replace hx184_0:=hbc HB hx184_0;replace hx184_1:=hbc HB hx184_1;replace hx184_2:=hbc HB hx184_2;replace hx184_3:=hbc HB hx184_3;replace hx184_4:=hbc HB hx184_4;replace p184:=eq_true p184;replace q184:=eq_true q184;have p185:0≤(x9_1:Int):=ofd;have q185:x9_1<(l0_5.length:Int):=ofd;obtain ⟨ad185,e185,hx185_0,hx185_1,hx185_2,hx185_3,hx185_4⟩:=at_T50 HR0_5.out x9_1 p185 q185;obtain rfl:ad184=ad185:=(by injection e185);replace hx185_0:=hbc HB hx185_0;replace hx185_1:=hbc HB hx185_1;replace hx185_2:=hbc HB hx185_2;replace hx185_3:=hbc HB hx185_3;replace hx185_4:=hbc HB hx185_4;replace p185:=eq_true p185;replace q185:=eq_true q185;go_wp2
    go_ret
    exact ⟨er_,hb_⟩
   rw [if_neg c12] at H;have c12b0:=bqf c12;have c12b1:=bnt c12;have H':=Aside0.mk H;clear H;obtain ⟨_,_,_,_,_,_,_,_,_,_,_,_⟩:=cells6 BK183.out;have p184:0≤(x9_1:Int):=ofd;have q184:x9_1<(l0_5.length:Int):=ofd;obtain ⟨ad184,e184,hx184_0,hx184_1,hx184_2,hx184_3,hx184_4⟩:=at_T50 HR0_5.out x9_1 p184 q184;cases e184;replace hx184_0:=hbc HB hx184_0;replace hx184_1:=hbc HB hx184_1;replace hx184_2:=hbc HB hx184_2;replace hx184_3:=hbc HB hx184_3;replace hx184_4:=hbc HB hx184_4;replace p184:=eq_true p184;replace q184:=eq_true q184;have p185:0≤(x9_1:Int):=ofd;have q185:x9_1<(l0_5.length:Int):=ofd;obtain ⟨ad185,e185,hx185_0,hx185_1,hx185_2,hx185_3,hx185_4⟩:=at_T50 HR0_5.out x9_1 p185 q185;obtain rfl:ad184=ad185:=(by injection e185);replace hx185_0:=hbc HB hx185_0;replace hx185_1:=hbc HB hx185_1;replace hx185_2:=hbc HB hx185_2;replace hx185_3:=hbc HB hx185_3;replace hx185_4:=hbc HB hx185_4;replace p185:=eq_true p185;replace q185:=eq_true q185;go_wp2
   go_roundg k1
   case measure=>have:=HK1.out;omega
   case rel=>exact ⟨(wrap64 (x9_1+1)),(by first|rfl|(simp;done)|(simp [*];done)),H',⟨by have:=HK1.out;omega⟩,⟨blk_up BK183.out⟩,⟨hb_⟩⟩

end Go.Proofs.Ythjmdpekcleihaa.P

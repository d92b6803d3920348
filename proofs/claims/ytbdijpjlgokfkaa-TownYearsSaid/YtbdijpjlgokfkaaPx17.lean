/- Functions of this seat as plain Lean functions, with proofs that the Go code comes to just their answers, or what stands between them and a law's statement; no conditions. (Laid by a program of this session, out of the kit's print.) -/
import Derived.Test.YtbdijpjlgokfkaaPx0
import Derived.Test.YtbdijpjlgokfkaaPx5
namespace Go.Proofs.Ytbdijpjlgokfkaa.P
open Go.RowKit Go.Proofs.YtbdijpjlgokfkaaW.PrintWords Go.Proofs.YtbdijpjlgokfkaaW.PrintLast Go.Proofs.YtbdijpjlgokfkaaW.PrintMore
attribute [local go_sem] max2_int min2_int max_two min_two max_three min_three max_four min_four   -- for this text's walks alone
set_option maxHeartbeats 8000000
set_option maxRecDepth 100000
set_option linter.unusedVariables false
set_option linter.unusedSimpArgs false

/-! ### hs_Streets: function 38 -/
def hs_Streets.f (k:Nat) (a0_0:Int) (a0_1:Int) (l0_2:List Int) (l0_3:List Int) (a1_0:Int) (a1_1:Int) (l1_2:List Int) (l1_3:List Int):Option (Bool):=if a0_0=a1_0 then (if a0_1=a1_1 then ((hs_List_int.f k l0_2 l1_2).bind fun t465=>(if t465=true then ((hs_List_int.f k l0_3 l1_3).bind fun t466=>(some t466)) else (some false))) else (some false)) else (some false)
theorem hs_Streets.mono:∀ a0 a1 a2 a3 a4 a5 a6 a7 k,LeO (hs_Streets.f k a0 a1 a2 a3 a4 a5 a6 a7) (hs_Streets.f (k+1) a0 a1 a2 a3 a4 a5 a6 a7):=by
 intro a0 a1 a2 a3 a4 a5 a6 a7 k;unfold hs_Streets.f;repeat' with_reducible first|apply hs_List_int.mono|apply lr_|apply ln_|apply li_|refine lb_ ?_ fun _=>?_
theorem hs_Streets.calls (k:Nat) (a0_0:Int) (a0_1:Int) (A0_2:Option Addr) (c0_2:Nat) (l0_2:List Int) (A0_3:Option Addr) (c0_3:Nat) (l0_3:List Int) (a1_0:Int) (a1_1:Int) (A1_2:Option Addr) (c1_2:Nat) (l1_2:List Int) (A1_3:Option Addr) (c1_3:Nat) (l1_3:List Int) (r:Bool) (w:World) (hr0_2:Kd.C (Kd.int .i64) w A0_2 l0_2.length l0_2) (hc0_2:l0_2.length≤c0_2) (hr0_3:Kd.C (Kd.int .i64) w A0_3 l0_3.length l0_3) (hc0_3:l0_3.length≤c0_3) (hr1_2:Kd.C (Kd.int .i64) w A1_2 l1_2.length l1_2) (hc1_2:l1_2.length≤c1_2) (hr1_3:Kd.C (Kd.int .i64) w A1_3 l1_3.length l1_3) (hc1_3:l1_3.length≤c1_3) (h:hs_Streets.f k a0_0 a0_1 l0_2 l0_3 a1_0 a1_1 l1_2 l1_3=some r) :
  Calls Try.prog 38 #[.agg #[.int .i64 a0_0,.int .i64 a0_1,.slice A0_2 l0_2.length c0_2,.slice A0_3 l0_3.length c0_3],.agg #[.int .i64 a1_0,.int .i64 a1_1,.slice A1_2 l1_2.length c1_2,.slice A1_3 l1_3.length c1_3]] w fun e w'=>e=.returned (.bool r)∧Below w.heap.size w w':=by
 have hu60:=Try.underlying60;have HR0_2:=am_ hr0_2;have HC0_2:=am_ hc0_2;clear hr0_2 hc0_2;have HR0_3:=am_ hr0_3;have HC0_3:=am_ hc0_3;clear hr0_3 hc0_3;have HR1_2:=am_ hr1_2;have HC1_2:=am_ hc1_2;clear hr1_2 hc1_2;have HR1_3:=am_ hr1_3;have HC1_3:=am_ hc1_3;clear hr1_3 hc1_3;have HB:=am_ (Below.refl w.heap.size w);have H:=h;clear h;unfold hs_Streets.f at H;by_cases c3:a0_0=a1_0;rotate_left
 ·rw [if_neg c3] at H;have c3b0:=bqf c3;have c3b1:=bnt c3;obtain rfl:=oj_ H;go_enter Try.func38,Try.ntmps38;go_wp2_with (first|((with_reducible refine gate_dst (N:=2) rfl ?_);refine box_ev (N:=2) (cs:=#[.int .i64 a0_0,.int .i64 a0_1,.slice A0_2 l0_2.length c0_2,.slice A0_3 l0_3.length c0_3]) (t:=60) ?_;intro gb463 hg w23 hbox hb;have BK463:=am_ hbox;have GW463:=gsz (w:=w) hg;have GE463:=GW463;replace HB:=hbs hb;clear hb hbox hg)|((with_reducible refine gate_dst (N:=3) rfl ?_);refine box_ev (N:=3) (cs:=#[.int .i64 a1_0,.int .i64 a1_1,.slice A1_2 l1_2.length c1_2,.slice A1_3 l1_3.length c1_3]) (t:=60) ?_;intro gb464 hg w24 hbox hb;have BK464:=am_ hbox;have GW464:=gsz (w:=w) hg;have GE464:=GW464;have NB463_464:=nbl BK463 hg;have NB464_463:=nbr BK463 hg;replace BK463:=bkb BK463 hb;replace HB:=hbs hb;clear hb hbox hg;have hnb25:=NB463_464.out;have hnc25:=NB464_463.out;obtain ⟨_,_,_,_,_,_,_,_⟩:=cells4 BK463.out;obtain ⟨_,_,_,_,_,_,_,_⟩:=cells4 BK464.out))
  go_ret
  exact ⟨er_,hb_⟩
 rw [if_pos c3] at H;have c3b0:=bqt c3;have c3b1:=bnf c3;clear c3;by_cases c4:a0_1=a1_1;rotate_left
 ·rw [if_neg c4] at H;have c4b0:=bqf c4;have c4b1:=bnt c4;obtain rfl:=oj_ H;go_enter Try.func38,Try.ntmps38;go_wp2_with (first|((with_reducible refine gate_dst (N:=2) rfl ?_);refine box_ev (N:=2) (cs:=#[.int .i64 a0_0,.int .i64 a0_1,.slice A0_2 l0_2.length c0_2,.slice A0_3 l0_3.length c0_3]) (t:=60) ?_;intro gb463 hg w18 hbox hb;have BK463:=am_ hbox;have GW463:=gsz (w:=w) hg;have GE463:=GW463;replace HB:=hbs hb;clear hb hbox hg)|((with_reducible refine gate_dst (N:=3) rfl ?_);refine box_ev (N:=3) (cs:=#[.int .i64 a1_0,.int .i64 a1_1,.slice A1_2 l1_2.length c1_2,.slice A1_3 l1_3.length c1_3]) (t:=60) ?_;intro gb464 hg w19 hbox hb;have BK464:=am_ hbox;have GW464:=gsz (w:=w) hg;have GE464:=GW464;have NB463_464:=nbl BK463 hg;have NB464_463:=nbr BK463 hg;replace BK463:=bkb BK463 hb;replace HB:=hbs hb;clear hb hbox hg;have hnb20:=NB463_464.out;have hnc20:=NB464_463.out;obtain ⟨_,_,_,_,_,_,_,_⟩:=cells4 BK463.out;obtain ⟨_,_,_,_,_,_,_,_⟩:=cells4 BK464.out))
  go_ret
  exact ⟨er_,hb_⟩
 rw [if_pos c4] at H;have c4b0:=bqt c4;have c4b1:=bnf c4;clear c4;obtain ⟨t465,A5,H⟩:=bnd H;by_cases c6:t465=true
 ·subst c6;rw [if_pos rfl] at H;obtain ⟨t466,A7,H⟩:=bnd H;obtain rfl:=oj_ H;go_enter Try.func38,Try.ntmps38;go_wp2_with (first|((with_reducible refine gate_dst (N:=2) rfl ?_);refine box_ev (N:=2) (cs:=#[.int .i64 a0_0,.int .i64 a0_1,.slice A0_2 l0_2.length c0_2,.slice A0_3 l0_3.length c0_3]) (t:=60) ?_;intro gb463 hg w8 hbox hb;have BK463:=am_ hbox;have GW463:=gsz (w:=w) hg;have GE463:=GW463;replace HB:=hbs hb;clear hb hbox hg)|((with_reducible refine gate_dst (N:=3) rfl ?_);refine box_ev (N:=3) (cs:=#[.int .i64 a1_0,.int .i64 a1_1,.slice A1_2 l1_2.length c1_2,.slice A1_3 l1_3.length c1_3]) (t:=60) ?_;intro gb464 hg w9 hbox hb;have BK464:=am_ hbox;have GW464:=gsz (w:=w) hg;have GE464:=GW464;have NB463_464:=nbl BK463 hg;have NB464_463:=nbr BK463 hg;replace BK463:=bkb BK463 hb;replace HB:=hbs hb;clear hb hbox hg;have hnb10:=NB463_464.out;have hnc10:=NB464_463.out;obtain ⟨_,_,_,_,_,_,_,_⟩:=cells4 BK463.out;obtain ⟨_,_,_,_,_,_,_,_⟩:=cells4 BK464.out)|(go_at_call 45;(with_reducible refine (hs_List_int.calls k _ _ l0_2 _ _ l1_2 true _ ?_ ?_ ?_ ?_ A5.out).mono ?_);exact cq HR0_2;exact HC0_2.out;exact cq HR1_2;exact HC1_2.out;rintro e w' ⟨rfl,⟨nd,rfl⟩⟩)|(go_at_call 45;(with_reducible refine (hs_List_int.calls k _ _ l0_3 _ _ l1_3 t466 _ ?_ ?_ ?_ ?_ A7.out).mono ?_);(focus (repeat (first|exact (Kd.C_below HR0_3.out (hb_))|(with_reducible refine Kd.C_alloc ?_ _)|(with_reducible refine Kd.C_drewN ?_ _)|(with_reducible refine Kd.C_drew ?_))));exact HC0_3.out;(focus (repeat (first|exact (Kd.C_below HR1_3.out (hb_))|(with_reducible refine Kd.C_alloc ?_ _)|(with_reducible refine Kd.C_drewN ?_ _)|(with_reducible refine Kd.C_drew ?_))));exact HC1_3.out;rintro e w' ⟨rfl,⟨nd,rfl⟩⟩))
  go_ret
  exact ⟨er_,hb_⟩
 ·replace c6:=Bool.eq_false_iff.mpr c6;subst c6;rw [if_neg (show ¬ (false=true) by decide)] at H;obtain rfl:=oj_ H;go_enter Try.func38,Try.ntmps38;go_wp2_with (first|((with_reducible refine gate_dst (N:=2) rfl ?_);refine box_ev (N:=2) (cs:=#[.int .i64 a0_0,.int .i64 a0_1,.slice A0_2 l0_2.length c0_2,.slice A0_3 l0_3.length c0_3]) (t:=60) ?_;intro gb463 hg w13 hbox hb;have BK463:=am_ hbox;have GW463:=gsz (w:=w) hg;have GE463:=GW463;replace HB:=hbs hb;clear hb hbox hg)|((with_reducible refine gate_dst (N:=3) rfl ?_);refine box_ev (N:=3) (cs:=#[.int .i64 a1_0,.int .i64 a1_1,.slice A1_2 l1_2.length c1_2,.slice A1_3 l1_3.length c1_3]) (t:=60) ?_;intro gb464 hg w14 hbox hb;have BK464:=am_ hbox;have GW464:=gsz (w:=w) hg;have GE464:=GW464;have NB463_464:=nbl BK463 hg;have NB464_463:=nbr BK463 hg;replace BK463:=bkb BK463 hb;replace HB:=hbs hb;clear hb hbox hg;have hnb15:=NB463_464.out;have hnc15:=NB464_463.out;obtain ⟨_,_,_,_,_,_,_,_⟩:=cells4 BK463.out;obtain ⟨_,_,_,_,_,_,_,_⟩:=cells4 BK464.out)|(go_at_call 45;(with_reducible refine (hs_List_int.calls k _ _ l0_2 _ _ l1_2 false _ ?_ ?_ ?_ ?_ A5.out).mono ?_);exact cq HR0_2;exact HC0_2.out;exact cq HR1_2;exact HC1_2.out;rintro e w' ⟨rfl,⟨nd,rfl⟩⟩))
  go_ret
  exact ⟨er_,hb_⟩

/-! ### w11_built: function 39 -/
def w11_built.l0:Nat→Int→Int→Int→List (S68)→List Int→Int→Int→Option (Bool)
 | 0,_,_,_,_,_,_,_=>none
 | k+1,x1,x5,x468000,x468001,x468002,x468003,x468004=>if x5<(x468001.length:Int) then (if 0≤x5 then (if ((rd_T68 x468001 x5).f0)=x1 then (some true) else (w11_built.l0 k x1 (wrap64 (x5+1)) x468000 x468001 x468002 x468003 x468004)) else (none)) else (some false)
def w11_built.f (k:Nat) (a0_0:Int) (l0_1:List (S68)) (l0_2:List Int) (a0_3:Int) (a0_4:Int) (a1:Int):Option (Bool):=w11_built.l0 k a1 0 a0_0 l0_1 l0_2 a0_3 a0_4
theorem w11_built.mono_l:∀ k,(∀ y0 y1 y2 y3 y4 y5 y6,LeO (w11_built.l0 k y0 y1 y2 y3 y4 y5 y6) (w11_built.l0 (k+1) y0 y1 y2 y3 y4 y5 y6))
 | 0=>fun _ _ _ _ _ _ _ r h=>by simp [w11_built.l0] at h
 | k+1=>by
  have ih0:=w11_built.mono_l k
  ·intro y0 y1 y2 y3 y4 y5 y6;unfold w11_built.l0;repeat' with_reducible first|exact ih0 _ _ _ _ _ _ _|apply lr_|apply ln_|apply li_|refine lb_ ?_ fun _=>?_
theorem w11_built.mono:∀ a0 a1 a2 a3 a4 a5 k,LeO (w11_built.f k a0 a1 a2 a3 a4 a5) (w11_built.f (k+1) a0 a1 a2 a3 a4 a5):=by
 intro a0 a1 a2 a3 a4 a5 k;have ih0:=w11_built.mono_l k;unfold w11_built.f;repeat' with_reducible first|exact ih0 _ _ _ _ _ _ _|apply lr_|apply ln_|apply li_|refine lb_ ?_ fun _=>?_
theorem w11_built.calls (k:Nat) (a0_0:Int) (A0_1:Option Addr) (c0_1:Nat) (l0_1:List (S68)) (A0_2:Option Addr) (c0_2:Nat) (l0_2:List Int) (a0_3:Int) (a0_4:Int) (a1:Int) (r:Bool) (w:World) (hr0_1:Kd.C k68 w A0_1 l0_1.length l0_1) (hc0_1:l0_1.length≤c0_1) (hr0_2:Kd.C (Kd.int .i64) w A0_2 l0_2.length l0_2) (hc0_2:l0_2.length≤c0_2) (h:w11_built.f k a0_0 l0_1 l0_2 a0_3 a0_4 a1=some r) :
  Calls Try.prog 39 #[.agg #[.int .i64 a0_0,.slice A0_1 l0_1.length c0_1,.slice A0_2 l0_2.length c0_2,.int .i64 a0_3,.int .i64 a0_4],.int .i64 a1] w fun e w'=>e=.returned (.bool r)∧Below w.heap.size w w':=by
 have hu25:=Try.underlying25;have HR0_1:=am_ hr0_1;have HC0_1:=am_ hc0_1;clear hr0_1 hc0_1;have HR0_2:=am_ hr0_2;have HC0_2:=am_ hc0_2;clear hr0_2 hc0_2;have HB:=am_ (Below.refl w.heap.size w);have H:=h;clear h;unfold w11_built.f at H;have H':=am_ H;clear H;go_enter Try.func39,Try.ntmps39;go_wp2_with (first|((with_reducible refine gate_dst (N:=2) rfl ?_);refine box_ev (N:=2) (cs:=#[.int .i64 a0_0,.slice A0_1 l0_1.length c0_1,.slice A0_2 l0_2.length c0_2,.int .i64 a0_3,.int .i64 a0_4]) (t:=25) ?_;intro gb467 hg w3 hbox hb;have BK467:=am_ hbox;have GW467:=gsz (w:=w) hg;have GE467:=GW467;replace HB:=hbs hb;clear hb hbox hg))
 go_loopg [5] k (fun kq v5 w'=>∃ (x5_1:Int),v5=.int .i64 x5_1∧Aside0 (w11_built.l0 kq a1 x5_1 a0_0 l0_1 l0_2 a0_3 a0_4=some r)∧Aside0 (kq≤k)∧Aside0 (w'.heap[gb467]?=some (.cells #[.int .i64 a0_0,(.slice A0_1 l0_1.length c0_1),(.slice A0_2 l0_2.length c0_2),.int .i64 a0_3,.int .i64 a0_4] 25 (0,0)))∧Aside0 (Below w.heap.size w w'))
 case atStart=>exact ⟨(0),fr_,H',⟨Nat.le_refl _⟩,⟨blk_up BK467.out⟩,⟨hb_⟩⟩
 case round =>
  clear H';obtain ⟨x5_1,rfl,HA,HK1,BK467,HB⟩:=hrel;cases gk with
  | zero=>exact absurd HA.out (by simp [w11_built.l0])
  | succ k1 =>
   have H:=HA.out;clear HA;simp only [w11_built.l0] at H;by_cases c4:x5_1<(l0_1.length:Int);rotate_left
   ·rw [if_neg c4] at H;have c4b0:=df_ c4;clear c4;obtain rfl:=oj_ H;obtain ⟨_,_,_,_,_,_,_,_,_,_⟩:=cells5 BK467.out;go_wp2
    go_ret
    exact ⟨er_,hb_⟩
   rw [if_pos c4] at H;have c4b0:=dt_ c4;clear c4;obtain ⟨c5,H⟩:=ifp_ H;have c5b0:=dt_ c5;clear c5;by_cases c6:((rd_T68 l0_1 x5_1).f0)=a1
   ·rw [if_pos c6] at H;have c6b0:=bqt c6;have c6b1:=bnf c6;clear c6;obtain rfl:=oj_ H;obtain ⟨_,_,_,_,_,_,_,_,_,_⟩:=cells5 BK467.out;have p468:0≤(x5_1:Int):=ofd;have q468:x5_1<(l0_1.length:Int):=ofd;obtain ⟨ad468,e468,hx468_0,hx468_1,hx468_2⟩:=at_T68 HR0_1.out x5_1 p468 q468;cases e468;replace hx468_0:=hbc HB hx468_0;replace hx468_1:=hbc HB hx468_1;replace hx468_2:=hbc HB hx468_2;replace p468:=eq_true p468;replace q468:=eq_true q468;go_wp2
    go_ret
    exact ⟨er_,hb_⟩
   ·rw [if_neg c6] at H;have c6b0:=bqf c6;have c6b1:=bnt c6;have H':=am_ H;clear H;obtain ⟨_,_,_,_,_,_,_,_,_,_⟩:=cells5 BK467.out;have p468:0≤(x5_1:Int):=ofd;have q468:x5_1<(l0_1.length:Int):=ofd;obtain ⟨ad468,e468,hx468_0,hx468_1,hx468_2⟩:=at_T68 HR0_1.out x5_1 p468 q468;cases e468;replace hx468_0:=hbc HB hx468_0;replace hx468_1:=hbc HB hx468_1;replace hx468_2:=hbc HB hx468_2;replace p468:=eq_true p468;replace q468:=eq_true q468;go_wp2
    go_roundg k1
    case measure=>have:=HK1.out;omega
    case rel=>exact ⟨(wrap64 (x5_1+1)),fr_,H',⟨by have:=HK1.out;omega⟩,⟨blk_up BK467.out⟩,⟨hb_⟩⟩

end Go.Proofs.Ytbdijpjlgokfkaa.P

/- Functions of this seat as plain Lean functions, with proofs that the Go code comes to just their answers, or what stands between them and a law's statement; no conditions. (Laid by a program of this session, out of the kit's print.) -/
import Derived.Test.YthjmdpekcleihaaPx0
import Derived.Test.YthjmdpekcleihaaPx4
namespace Go.Proofs.Ythjmdpekcleihaa.P
open Go.RowKit Go.Proofs.YthjmdpekcleihaaW.PrintWords Go.Proofs.YthjmdpekcleihaaW.PrintLast Go.Proofs.YthjmdpekcleihaaW.PrintMore
attribute [local go_sem] max2_int min2_int max_two min_two max_three min_three max_four min_four   -- for this text's walks alone
set_option linter.unusedVariables false
set_option linter.unusedSimpArgs false

/-! ### hinterlandref06_Validate: function 51 -/
mutual
def hinterlandref06_Validate.l0:Nat→List Int→Int→Int→Int→Int→List Int→List Int→List Int→Option (Int)
 | 0,_,_,_,_,_,_,_,_=>none
 | k+1,x30,x31,x32,x193000,x193001,x193002,x194000,x194001=>if x32<x31 then (if 0≤x32 then (if x32<(x30.length:Int) then (if (rd x30 x32)<0 then (some 1) else (if (rd x30 x32) > 3 then (some 1) else (hinterlandref06_Validate.l0 k x30 x31 (wrap64 (x32+1)) x193000 x193001 x193002 x194000 x194001))) else (none)) else (none)) else (hinterlandref06_Validate.l1 k 1 x193000 x193001 x193002 x194000 x194001)
def hinterlandref06_Validate.l1:Nat→Int→Int→Int→List Int→List Int→List Int→Option (Int)
 | 0,_,_,_,_,_,_=>none
 | k+1,x8,x193000,x193001,x193002,x194000,x194001=>if x8<(x194001.length:Int) then (if 0≤(wrap64 (x8 - 1)) then (if (wrap64 (x8 - 1))<(x194001.length:Int) then (if 0≤x8 then (if (rd x194001 (wrap64 (x8 - 1)))≥(rd x194001 x8) then (some 1) else (hinterlandref06_Validate.l1 k (wrap64 (x8+1)) x193000 x193001 x193002 x194000 x194001)) else (none)) else (none)) else (none)) else (hinterlandref06_Validate.l2 k x194001 (x194001.length:Int) 0 x193000 x193001 x193002 x194000 x194001)
def hinterlandref06_Validate.l2:Nat→List Int→Int→Int→Int→Int→List Int→List Int→List Int→Option (Int)
 | 0,_,_,_,_,_,_,_,_=>none
 | k+1,x63,x64,x65,x193000,x193001,x193002,x194000,x194001=>if x65<x64 then (if 0≤x65 then (if x65<(x63.length:Int) then ((hinterlandref02_Is.f x193000 x193001 x193002 (rd x63 x65)).bind fun t199=>(if t199=true then (hinterlandref06_Validate.l2 k x63 x64 (wrap64 (x65+1)) x193000 x193001 x193002 x194000 x194001) else (some 2))) else (none)) else (none)) else (hinterlandref06_Validate.l3 k x194000 (x194000.length:Int) 0 x193000 x193001 x193002 x194000 x194001)
def hinterlandref06_Validate.l3:Nat→List Int→Int→Int→Int→Int→List Int→List Int→List Int→Option (Int)
 | 0,_,_,_,_,_,_,_,_=>none
 | k+1,x75,x76,x77,x193000,x193001,x193002,x194000,x194001=>if x77<x76 then (if 0≤x77 then (if x77<(x75.length:Int) then ((hinterlandref06_lies.f k x193000 x193001 x193002 x77 (rd x75 x77)).bind fun t201=>(if t201=0 then (hinterlandref06_Validate.l3 k x75 x76 (wrap64 (x77+1)) x193000 x193001 x193002 x194000 x194001) else (some 9))) else (none)) else (none)) else (hinterlandref06_Validate.l4 k x194001 (x194001.length:Int) 0 x193000 x193001 x193002 x194000 x194001)
def hinterlandref06_Validate.l4:Nat→List Int→Int→Int→Int→Int→List Int→List Int→List Int→Option (Int)
 | 0,_,_,_,_,_,_,_,_=>none
 | k+1,x89,x90,x91,x193000,x193001,x193002,x194000,x194001=>if x91<x90 then (if 0≤x91 then (if x91<(x89.length:Int) then ((hinterlandref06_Wet.f k x193000 x193001 x193002 x194000 (rd x89 x91)).bind fun t203=>(if t203=true then (hinterlandref06_Validate.l4 k x89 x90 (wrap64 (x91+1)) x193000 x193001 x193002 x194000 x194001) else (some 9))) else (none)) else (none)) else (some 0)
end
def hinterlandref06_Validate.f (k:Nat) (a0_0:Int) (a0_1:Int) (l0_2:List Int) (l1_0:List Int) (l1_1:List Int):Option (Int) := (hinterlandref02_Validate.f k a0_0 a0_1 l0_2).bind fun t194=>(if t194=0 then (if (l1_0.length:Int)=(wrap64 (a0_0 * a0_1)) then (hinterlandref06_Validate.l0 k l1_0 (l1_0.length:Int) 0 a0_0 a0_1 l0_2 l1_0 l1_1) else (some 1)) else (some t194))
theorem hinterlandref06_Validate.mono_l:∀ k,(∀ y0 y1 y2 y3 y4 y5 y6 y7,LeO (hinterlandref06_Validate.l0 k y0 y1 y2 y3 y4 y5 y6 y7) (hinterlandref06_Validate.l0 (k+1) y0 y1 y2 y3 y4 y5 y6 y7))∧(∀ y0 y1 y2 y3 y4 y5,LeO (hinterlandref06_Validate.l1 k y0 y1 y2 y3 y4 y5) (hinterlandref06_Validate.l1 (k+1) y0 y1 y2 y3 y4 y5))∧(∀ y0 y1 y2 y3 y4 y5 y6 y7,LeO (hinterlandref06_Validate.l2 k y0 y1 y2 y3 y4 y5 y6 y7) (hinterlandref06_Validate.l2 (k+1) y0 y1 y2 y3 y4 y5 y6 y7))∧(∀ y0 y1 y2 y3 y4 y5 y6 y7,LeO (hinterlandref06_Validate.l3 k y0 y1 y2 y3 y4 y5 y6 y7) (hinterlandref06_Validate.l3 (k+1) y0 y1 y2 y3 y4 y5 y6 y7))∧(∀ y0 y1 y2 y3 y4 y5 y6 y7,LeO (hinterlandref06_Validate.l4 k y0 y1 y2 y3 y4 y5 y6 y7) (hinterlandref06_Validate.l4 (k+1) y0 y1 y2 y3 y4 y5 y6 y7))
 | 0=>⟨fun _ _ _ _ _ _ _ _ r h=>by simp [hinterlandref06_Validate.l0] at h,fun _ _ _ _ _ _ r h=>by simp [hinterlandref06_Validate.l1] at h,fun _ _ _ _ _ _ _ _ r h=>by simp [hinterlandref06_Validate.l2] at h,fun _ _ _ _ _ _ _ _ r h=>by simp [hinterlandref06_Validate.l3] at h,fun _ _ _ _ _ _ _ _ r h=>by simp [hinterlandref06_Validate.l4] at h⟩
 | k+1=>by
  obtain ⟨ih0,ih1,ih2,ih3,ih4⟩:=hinterlandref06_Validate.mono_l k;refine ⟨?_,?_,?_,?_,?_⟩
  ·intro y0 y1 y2 y3 y4 y5 y6 y7;unfold hinterlandref06_Validate.l0;repeat' first
   | (with_reducible exact ih0 _ _ _ _ _ _ _ _)
   | (with_reducible exact ih1 _ _ _ _ _ _)
   | (with_reducible exact ih2 _ _ _ _ _ _ _ _)
   | (with_reducible exact ih3 _ _ _ _ _ _ _ _)
   | (with_reducible exact ih4 _ _ _ _ _ _ _ _)
   | (with_reducible exact hinterlandref02_Validate.mono _ _ _ _)
   | (with_reducible exact hinterlandref06_Wet.mono _ _ _ _ _ _)
   | (with_reducible exact hinterlandref06_lies.mono _ _ _ _ _ _)
   | (with_reducible exact LeO.refl _)
   | (with_reducible exact LeO.none _)
   | (with_reducible refine LeO.ite ?_ ?_)
   | (with_reducible refine LeO.bind ?_ (fun _=>?_))
  ·intro y0 y1 y2 y3 y4 y5;unfold hinterlandref06_Validate.l1;repeat' first
   | (with_reducible exact ih0 _ _ _ _ _ _ _ _)
   | (with_reducible exact ih1 _ _ _ _ _ _)
   | (with_reducible exact ih2 _ _ _ _ _ _ _ _)
   | (with_reducible exact ih3 _ _ _ _ _ _ _ _)
   | (with_reducible exact ih4 _ _ _ _ _ _ _ _)
   | (with_reducible exact hinterlandref02_Validate.mono _ _ _ _)
   | (with_reducible exact hinterlandref06_Wet.mono _ _ _ _ _ _)
   | (with_reducible exact hinterlandref06_lies.mono _ _ _ _ _ _)
   | (with_reducible exact LeO.refl _)
   | (with_reducible exact LeO.none _)
   | (with_reducible refine LeO.ite ?_ ?_)
   | (with_reducible refine LeO.bind ?_ (fun _=>?_))
  ·intro y0 y1 y2 y3 y4 y5 y6 y7;unfold hinterlandref06_Validate.l2;repeat' first
   | (with_reducible exact ih0 _ _ _ _ _ _ _ _)
   | (with_reducible exact ih1 _ _ _ _ _ _)
   | (with_reducible exact ih2 _ _ _ _ _ _ _ _)
   | (with_reducible exact ih3 _ _ _ _ _ _ _ _)
   | (with_reducible exact ih4 _ _ _ _ _ _ _ _)
   | (with_reducible exact hinterlandref02_Validate.mono _ _ _ _)
   | (with_reducible exact hinterlandref06_Wet.mono _ _ _ _ _ _)
   | (with_reducible exact hinterlandref06_lies.mono _ _ _ _ _ _)
   | (with_reducible exact LeO.refl _)
   | (with_reducible exact LeO.none _)
   | (with_reducible refine LeO.ite ?_ ?_)
   | (with_reducible refine LeO.bind ?_ (fun _=>?_))
  ·intro y0 y1 y2 y3 y4 y5 y6 y7;unfold hinterlandref06_Validate.l3;repeat' first
   | (with_reducible exact ih0 _ _ _ _ _ _ _ _)
   | (with_reducible exact ih1 _ _ _ _ _ _)
   | (with_reducible exact ih2 _ _ _ _ _ _ _ _)
   | (with_reducible exact ih3 _ _ _ _ _ _ _ _)
   | (with_reducible exact ih4 _ _ _ _ _ _ _ _)
   | (with_reducible exact hinterlandref02_Validate.mono _ _ _ _)
   | (with_reducible exact hinterlandref06_Wet.mono _ _ _ _ _ _)
   | (with_reducible exact hinterlandref06_lies.mono _ _ _ _ _ _)
   | (with_reducible exact LeO.refl _)
   | (with_reducible exact LeO.none _)
   | (with_reducible refine LeO.ite ?_ ?_)
   | (with_reducible refine LeO.bind ?_ (fun _=>?_))
  ·intro y0 y1 y2 y3 y4 y5 y6 y7;unfold hinterlandref06_Validate.l4;repeat' first
   | (with_reducible exact ih0 _ _ _ _ _ _ _ _)
   | (with_reducible exact ih1 _ _ _ _ _ _)
   | (with_reducible exact ih2 _ _ _ _ _ _ _ _)
   | (with_reducible exact ih3 _ _ _ _ _ _ _ _)
   | (with_reducible exact ih4 _ _ _ _ _ _ _ _)
   | (with_reducible exact hinterlandref02_Validate.mono _ _ _ _)
   | (with_reducible exact hinterlandref06_Wet.mono _ _ _ _ _ _)
   | (with_reducible exact hinterlandref06_lies.mono _ _ _ _ _ _)
   | (with_reducible exact LeO.refl _)
   | (with_reducible exact LeO.none _)
   | (with_reducible refine LeO.ite ?_ ?_)
   | (with_reducible refine LeO.bind ?_ (fun _=>?_))
theorem hinterlandref06_Validate.mono:∀ a0 a1 a2 a3 a4 k,LeO (hinterlandref06_Validate.f k a0 a1 a2 a3 a4) (hinterlandref06_Validate.f (k+1) a0 a1 a2 a3 a4) := by
 intro a0 a1 a2 a3 a4 k;obtain ⟨ih0,ih1,ih2,ih3,ih4⟩:=hinterlandref06_Validate.mono_l k;unfold hinterlandref06_Validate.f;repeat' first
   | (with_reducible exact ih0 _ _ _ _ _ _ _ _)
   | (with_reducible exact ih1 _ _ _ _ _ _)
   | (with_reducible exact ih2 _ _ _ _ _ _ _ _)
   | (with_reducible exact ih3 _ _ _ _ _ _ _ _)
   | (with_reducible exact ih4 _ _ _ _ _ _ _ _)
   | (with_reducible exact hinterlandref02_Validate.mono _ _ _ _)
   | (with_reducible exact hinterlandref06_Wet.mono _ _ _ _ _ _)
   | (with_reducible exact hinterlandref06_lies.mono _ _ _ _ _ _)
   | (with_reducible exact LeO.refl _)
   | (with_reducible exact LeO.none _)
   | (with_reducible refine LeO.ite ?_ ?_)
   | (with_reducible refine LeO.bind ?_ (fun _=>?_))
set_option maxHeartbeats 8000000 in
set_option maxRecDepth 100000 in
theorem hinterlandref06_Validate.calls (k:Nat) (a0_0:Int) (a0_1:Int) (A0_2:Option Addr) (c0_2:Nat) (l0_2:List Int) (A1_0:Option Addr) (c1_0:Nat) (l1_0:List Int) (A1_1:Option Addr) (c1_1:Nat) (l1_1:List Int) (r:Int) (w:World) (hr0_2:Kd.C (Kd.int .i64) w A0_2 l0_2.length l0_2) (hc0_2:l0_2.length≤c0_2) (hr1_0:Kd.C (Kd.int .i64) w A1_0 l1_0.length l1_0) (hc1_0:l1_0.length≤c1_0) (hr1_1:Kd.C (Kd.int .i64) w A1_1 l1_1.length l1_1) (hc1_1:l1_1.length≤c1_1) (h:hinterlandref06_Validate.f k a0_0 a0_1 l0_2 l1_0 l1_1=some r) :
  Calls Try.prog 51 #[.agg #[.int .i64 a0_0,.int .i64 a0_1,.slice A0_2 l0_2.length c0_2],.agg #[.slice A1_0 l1_0.length c1_0,.slice A1_1 l1_1.length c1_1]] w fun e w'=>e=.returned (.int .i64 r)∧Below w.heap.size w w':=by
 have hu53:=Try.underlying53;have hu55:=Try.underlying55;have HR0_2:=Aside0.mk hr0_2;have HC0_2:=Aside0.mk hc0_2;clear hr0_2 hc0_2;have HR1_0:=Aside0.mk hr1_0;have HC1_0:=Aside0.mk hc1_0;clear hr1_0 hc1_0;have HR1_1:=Aside0.mk hr1_1;have HC1_1:=Aside0.mk hc1_1;clear hr1_1 hc1_1;have HB:=Aside0.mk (Below.refl w.heap.size w);have H:=h;clear h;unfold hinterlandref06_Validate.f at H;obtain ⟨t194,A3,H⟩:=bnd H;by_cases c4:t194=0;rotate_left
 ·rw [if_neg c4] at H;have c4b0:=bqf c4;have c4b1:=bnt c4;obtain rfl:=Option.some.inj H;go_enter Try.func51,Try.ntmps51;go_wp2_with (first|((with_reducible refine gate_dst (N:=2) rfl ?_);refine box_ev (N:=2) (cs:=#[.int .i64 a0_0,.int .i64 a0_1,.slice A0_2 l0_2.length c0_2]) (t:=53) ?_;intro gb192 hg w76 hbox hb;have BK192:=Aside0.mk hbox;have GW192:=gsz (w:=w) hg;have GE192:=GW192;replace HB:=hbs hb;clear hb hbox hg)|((with_reducible refine gate_dst (N:=3) rfl ?_);refine box_ev (N:=3) (cs:=#[.slice A1_0 l1_0.length c1_0,.slice A1_1 l1_1.length c1_1]) (t:=55) ?_;intro gb193 hg w77 hbox hb;have BK193:=Aside0.mk hbox;have GW193:=gsz (w:=w) hg;have GE193:=GW193;have NB192_193:=nbl BK192 hg;have NB193_192:=nbr BK192 hg;replace BK192:=bkb BK192 hb;replace HB:=hbs hb;clear hb hbox hg;have hnb78:=NB192_193.out;have hnc78:=NB193_192.out;obtain ⟨_,_,_,_,_,_⟩:=cells3 BK192.out)|(go_at_call 74;(with_reducible refine (hinterlandref02_Validate.calls k a0_0 a0_1 _ _ l0_2 t194 _ ?_ ?_ A3.out).mono ?_);exact cq HR0_2;exact HC0_2.out;rintro e w80 ⟨rfl,hb⟩;replace BK192:=bkb BK192 hb;replace BK193:=bkb BK193 hb;replace HB:=hbs hb))
  go_ret
  exact ⟨er_,hb_⟩
 rw [if_pos c4] at H;have c4b0:=bqt c4;have c4b1:=bnf c4;clear c4;by_cases c5:(l1_0.length:Int)=(wrap64 (a0_0 * a0_1));rotate_left
 ·rw [if_neg c5] at H;have c5b0:=bqf c5;have c5b1:=bnt c5;obtain rfl:=Option.some.inj H;go_enter Try.func51,Try.ntmps51;go_wp2_with (first|((with_reducible refine gate_dst (N:=2) rfl ?_);refine box_ev (N:=2) (cs:=#[.int .i64 a0_0,.int .i64 a0_1,.slice A0_2 l0_2.length c0_2]) (t:=53) ?_;intro gb192 hg w69 hbox hb;have BK192:=Aside0.mk hbox;have GW192:=gsz (w:=w) hg;have GE192:=GW192;replace HB:=hbs hb;clear hb hbox hg)|((with_reducible refine gate_dst (N:=3) rfl ?_);refine box_ev (N:=3) (cs:=#[.slice A1_0 l1_0.length c1_0,.slice A1_1 l1_1.length c1_1]) (t:=55) ?_;intro gb193 hg w70 hbox hb;have BK193:=Aside0.mk hbox;have GW193:=gsz (w:=w) hg;have GE193:=GW193;have NB192_193:=nbl BK192 hg;have NB193_192:=nbr BK192 hg;replace BK192:=bkb BK192 hb;replace HB:=hbs hb;clear hb hbox hg;have hnb71:=NB192_193.out;have hnc71:=NB193_192.out;obtain ⟨_,_,_,_,_,_⟩:=cells3 BK192.out)|(go_at_call 74;(with_reducible refine (hinterlandref02_Validate.calls k a0_0 a0_1 _ _ l0_2 t194 _ ?_ ?_ A3.out).mono ?_);exact cq HR0_2;exact HC0_2.out;rintro e w73 ⟨rfl,hb⟩;replace BK192:=bkb BK192 hb;replace BK193:=bkb BK193 hb;replace HB:=hbs hb;obtain ⟨_,_,_,_⟩:=cells2 BK193.out;obtain ⟨_,_,_,_,_,_⟩:=cells3 BK192.out))
  go_ret
  exact ⟨er_,hb_⟩
 rw [if_pos c5] at H;have c5b0:=bqt c5;have c5b1:=bnf c5;clear c5;have H':=Aside0.mk H;clear H;go_enter Try.func51,Try.ntmps51;go_wp2_with (first|((with_reducible refine gate_dst (N:=2) rfl ?_);refine box_ev (N:=2) (cs:=#[.int .i64 a0_0,.int .i64 a0_1,.slice A0_2 l0_2.length c0_2]) (t:=53) ?_;intro gb192 hg w6 hbox hb;have BK192:=Aside0.mk hbox;have GW192:=gsz (w:=w) hg;have GE192:=GW192;replace HB:=hbs hb;clear hb hbox hg)|((with_reducible refine gate_dst (N:=3) rfl ?_);refine box_ev (N:=3) (cs:=#[.slice A1_0 l1_0.length c1_0,.slice A1_1 l1_1.length c1_1]) (t:=55) ?_;intro gb193 hg w7 hbox hb;have BK193:=Aside0.mk hbox;have GW193:=gsz (w:=w) hg;have GE193:=GW193;have NB192_193:=nbl BK192 hg;have NB193_192:=nbr BK192 hg;replace BK192:=bkb BK192 hb;replace HB:=hbs hb;clear hb hbox hg;have hnb8:=NB192_193.out;have hnc8:=NB193_192.out;obtain ⟨_,_,_,_,_,_⟩:=cells3 BK192.out)|(go_at_call 74;(with_reducible refine (hinterlandref02_Validate.calls k a0_0 a0_1 _ _ l0_2 t194 _ ?_ ?_ A3.out).mono ?_);exact cq HR0_2;exact HC0_2.out;rintro e w10 ⟨rfl,hb⟩;replace BK192:=bkb BK192 hb;replace BK193:=bkb BK193 hb;replace HB:=hbs hb;obtain ⟨_,_,_,_⟩:=cells2 BK193.out;obtain ⟨_,_,_,_,_,_⟩:=cells3 BK192.out))
 go_loopg [32] k (fun kq v32 w'=>∃ (x32_1:Int),v32=.int .i64 x32_1∧Aside0 (hinterlandref06_Validate.l0 kq l1_0 (l1_0.length:Int) x32_1 a0_0 a0_1 l0_2 l1_0 l1_1=some r)∧Aside0 (kq≤k)∧Aside0 (w'.heap[gb192]?=some (.cells #[.int .i64 a0_0,.int .i64 a0_1,(.slice A0_2 l0_2.length c0_2)] 53 (0,0)))∧Aside0 (w'.heap[gb193]?=some (.cells #[(.slice A1_0 l1_0.length c1_0),(.slice A1_1 l1_1.length c1_1)] 55 (0,0)))∧Aside0 (Below w.heap.size w w'))
 case atStart=>exact ⟨(0),(by first|rfl|(simp;done)|(simp [*];done)),H',⟨Nat.le_refl _⟩,⟨blk_up BK192.out⟩,⟨blk_up BK193.out⟩,⟨hb_⟩⟩
 case round =>
  clear H';obtain ⟨x32_1,rfl,HA,HK1,BK192,BK193,HB⟩:=hrel;cases gk with
  | zero=>exact absurd HA.out (by simp [hinterlandref06_Validate.l0])
  | succ k1 =>
   have H:=HA.out;clear HA;simp only [hinterlandref06_Validate.l0] at H;by_cases c13:x32_1<(l1_0.length:Int)
   ·rw [if_pos c13] at H;have c13b0:=decide_eq_true c13;clear c13;obtain ⟨c14,H⟩:=ifp_ H;have c14b0:=decide_eq_true c14;clear c14;obtain ⟨c15,H⟩:=ifp_ H;have c15b0:=decide_eq_true c15;clear c15;by_cases c16:(rd l1_0 x32_1)<0
    ·rw [if_pos c16] at H;have c16b0:=decide_eq_true c16;clear c16;obtain rfl:=Option.some.inj H;have p195:0≤(x32_1:Int):=ofd;have q195:x32_1<(l1_0.length:Int):=ofd;obtain ⟨ad195,e195,hx195_0⟩:=Kd.at_int HR1_0.out x32_1 p195 q195;cases e195;replace hx195_0:=hbc HB hx195_0;replace p195:=eq_true p195;replace q195:=eq_true q195;go_wp2
     go_ret
     exact ⟨er_,hb_⟩
    rw [if_neg c16] at H;have c16b0:=decide_eq_false c16;clear c16;by_cases c17:(rd l1_0 x32_1) > 3
    ·rw [if_pos c17] at H;have c17b0:=decide_eq_true c17;clear c17;obtain rfl:=Option.some.inj H;have p195:0≤(x32_1:Int):=ofd;have q195:x32_1<(l1_0.length:Int):=ofd;obtain ⟨ad195,e195,hx195_0⟩:=Kd.at_int HR1_0.out x32_1 p195 q195;cases e195;replace hx195_0:=hbc HB hx195_0;replace p195:=eq_true p195;replace q195:=eq_true q195;go_wp2
     go_ret
     exact ⟨er_,hb_⟩
    ·rw [if_neg c17] at H;have c17b0:=decide_eq_false c17;clear c17;have H':=Aside0.mk H;clear H;have p195:0≤(x32_1:Int):=ofd;have q195:x32_1<(l1_0.length:Int):=ofd;obtain ⟨ad195,e195,hx195_0⟩:=Kd.at_int HR1_0.out x32_1 p195 q195;cases e195;replace hx195_0:=hbc HB hx195_0;replace p195:=eq_true p195;replace q195:=eq_true q195;go_wp2
     go_roundg k1
     case measure=>have:=HK1.out;omega
     case rel=>exact ⟨(wrap64 (x32_1+1)),(by first|rfl|(simp;done)|(simp [*];done)),H',⟨by have:=HK1.out;omega⟩,⟨blk_up BK192.out⟩,⟨blk_up BK193.out⟩,⟨hb_⟩⟩
   rw [if_neg c13] at H;have c13b0:=decide_eq_false c13;clear c13;have H':=Aside0.mk H;clear H;go_wp2
   go_loopg [8] k1 (fun kq v8 w'=>∃ (x8_2:Int),v8=.int .i64 x8_2∧Aside0 (hinterlandref06_Validate.l1 kq x8_2 a0_0 a0_1 l0_2 l1_0 l1_1=some r)∧Aside0 (kq≤k1)∧Aside0 (w'.heap[gb192]?=some (.cells #[.int .i64 a0_0,.int .i64 a0_1,(.slice A0_2 l0_2.length c0_2)] 53 (0,0)))∧Aside0 (w'.heap[gb193]?=some (.cells #[(.slice A1_0 l1_0.length c1_0),(.slice A1_1 l1_1.length c1_1)] 55 (0,0)))∧Aside0 (Below w.heap.size w w'))
   case atStart=>exact ⟨(1),(by first|rfl|(simp;done)|(simp [*];done)),H',⟨Nat.le_refl _⟩,⟨blk_up BK192.out⟩,⟨blk_up BK193.out⟩,⟨hb_⟩⟩
   case round =>
    clear H';obtain ⟨x8_2,rfl,HA,HK2,BK192,BK193,HB⟩:=hrel;cases gk with
    | zero=>exact absurd HA.out (by simp [hinterlandref06_Validate.l1])
    | succ k2 =>
     have H:=HA.out;clear HA;simp only [hinterlandref06_Validate.l1] at H;by_cases c18:x8_2<(l1_1.length:Int)
     ·rw [if_pos c18] at H;have c18b0:=decide_eq_true c18;clear c18;obtain ⟨ji19,hji19⟩:∃ j_:Int,(wrap64 (x8_2 - 1))=j_:=⟨_,rfl⟩;(first|rw [hji19] at H|simp only [hji19] at H);have hji19w:(IntKind.i64.wrap (x8_2 - 1))=ji19:=(i64_w _).trans hji19;obtain ⟨c20,H⟩:=ifp_ H;have c20b0:=decide_eq_true c20;clear c20;obtain ⟨c21,H⟩:=ifp_ H;have c21b0:=decide_eq_true c21;clear c21;obtain ⟨c22,H⟩:=ifp_ H;have c22b0:=decide_eq_true c22;clear c22;by_cases c23:(rd l1_1 (ji19))≥(rd l1_1 x8_2)
      ·rw [if_pos c23] at H;have c23b0:=decide_eq_true c23;clear c23;obtain rfl:=Option.some.inj H;obtain ⟨_,_⟩:=nn NB193_192;obtain ⟨_,_,_,_⟩:=cells2 BK193.out;have p196:0≤((ji19):Int):=ofd;have q196:(ji19)<(l1_1.length:Int):=ofd;obtain ⟨ad196,e196,hx196_0⟩:=Kd.at_int HR1_1.out (ji19) p196 q196;cases e196;replace hx196_0:=hbc HB hx196_0;replace p196:=eq_true p196;replace q196:=eq_true q196;have p197:0≤(x8_2:Int):=ofd;have q197:x8_2<(l1_1.length:Int):=ofd;obtain ⟨ad197,e197,hx197_0⟩:=Kd.at_int HR1_1.out x8_2 p197 q197;obtain rfl:ad196=ad197:=(by injection e197);replace hx197_0:=hbc HB hx197_0;replace p197:=eq_true p197;replace q197:=eq_true q197;go_wp2
       go_quiet (fail)
       go_wp2
       go_ret
       exact ⟨by first|rfl|(simp [errW_none,errW_some] <;> rfl)|(simp only [← hji19];first|rfl|(simp [errW_none,errW_some] <;> rfl))|(simp [*,errW_none,errW_some] <;> rfl),hb_⟩
      ·rw [if_neg c23] at H;have c23b0:=decide_eq_false c23;clear c23;have H':=Aside0.mk H;clear H;obtain ⟨_,_⟩:=nn NB193_192;obtain ⟨_,_,_,_⟩:=cells2 BK193.out;have p196:0≤((ji19):Int):=ofd;have q196:(ji19)<(l1_1.length:Int):=ofd;obtain ⟨ad196,e196,hx196_0⟩:=Kd.at_int HR1_1.out (ji19) p196 q196;cases e196;replace hx196_0:=hbc HB hx196_0;replace p196:=eq_true p196;replace q196:=eq_true q196;have p197:0≤(x8_2:Int):=ofd;have q197:x8_2<(l1_1.length:Int):=ofd;obtain ⟨ad197,e197,hx197_0⟩:=Kd.at_int HR1_1.out x8_2 p197 q197;obtain rfl:ad196=ad197:=(by injection e197);replace hx197_0:=hbc HB hx197_0;replace p197:=eq_true p197;replace q197:=eq_true q197;go_wp2
       go_quiet (fail)
       go_wp2
       go_roundg k2
       case measure=>have:=HK1.out;have:=HK2.out;omega
       case rel=>exact ⟨(wrap64 (x8_2+1)),(by first|rfl|(simp;done)|(simp [*];done)),H',⟨by have:=HK1.out;have:=HK2.out;omega⟩,⟨blk_up BK192.out⟩,⟨blk_up BK193.out⟩,⟨hb_⟩⟩
     rw [if_neg c18] at H;have c18b0:=decide_eq_false c18;clear c18;have H':=Aside0.mk H;clear H;obtain ⟨_,_⟩:=nn NB193_192;obtain ⟨_,_,_,_⟩:=cells2 BK193.out;go_wp2
     go_loopg [65] k2 (fun kq v65 w'=>∃ (x65_3:Int),v65=.int .i64 x65_3∧Aside0 (hinterlandref06_Validate.l2 kq l1_1 (l1_1.length:Int) x65_3 a0_0 a0_1 l0_2 l1_0 l1_1=some r)∧Aside0 (kq≤k2)∧Aside0 (w'.heap[gb192]?=some (.cells #[.int .i64 a0_0,.int .i64 a0_1,(.slice A0_2 l0_2.length c0_2)] 53 (0,0)))∧Aside0 (w'.heap[gb193]?=some (.cells #[(.slice A1_0 l1_0.length c1_0),(.slice A1_1 l1_1.length c1_1)] 55 (0,0)))∧Aside0 (Below w.heap.size w w'))
     case atStart=>exact ⟨(0),(by first|rfl|(simp;done)|(simp [*];done)),H',⟨Nat.le_refl _⟩,⟨blk_up BK192.out⟩,⟨blk_up BK193.out⟩,⟨hb_⟩⟩
     case round =>
      clear H';obtain ⟨x65_3,rfl,HA,HK3,BK192,BK193,HB⟩:=hrel;cases gk with
      | zero=>exact absurd HA.out (by simp [hinterlandref06_Validate.l2])
      | succ k3 =>
       have H:=HA.out;clear HA;simp only [hinterlandref06_Validate.l2] at H;by_cases c30:x65_3<(l1_1.length:Int)
       ·rw [if_pos c30] at H;have c30b0:=decide_eq_true c30;clear c30;obtain ⟨c31,H⟩:=ifp_ H;have c31b0:=decide_eq_true c31;clear c31;obtain ⟨c32,H⟩:=ifp_ H;have c32b0:=decide_eq_true c32;clear c32;obtain ⟨t199,A33,H⟩:=bnd H;by_cases c34:t199=true
        ·subst c34;rw [if_pos rfl] at H;have H':=Aside0.mk H;clear H;have p198:0≤(x65_3:Int):=ofd;have q198:x65_3<(l1_1.length:Int):=ofd;obtain ⟨ad198,e198,hx198_0⟩:=Kd.at_int HR1_1.out x65_3 p198 q198;cases e198;replace hx198_0:=hbc HB hx198_0;replace p198:=eq_true p198;replace q198:=eq_true q198;obtain ⟨_,_⟩:=nn NB192_193;obtain ⟨_,_,_,_,_,_⟩:=cells3 BK192.out;go_wp2_with (first|(go_at_call 75;(with_reducible refine (hinterlandref02_Is.calls a0_0 a0_1 _ _ l0_2 (rd l1_1 x65_3) true _ ?_ ?_ A33.out).mono ?_);exact cq HR0_2;exact HC0_2.out;rintro e w37 ⟨rfl,hb⟩;replace BK192:=bkb BK192 hb;replace BK193:=bkb BK193 hb;replace HB:=hbs hb))
         go_roundg k3
         case measure=>have:=HK1.out;have:=HK2.out;have:=HK3.out;omega
         case rel=>exact ⟨(wrap64 (x65_3+1)),(by first|rfl|(simp;done)|(simp [*];done)),H',⟨by have:=HK1.out;have:=HK2.out;have:=HK3.out;omega⟩,⟨blk_up BK192.out⟩,⟨blk_up BK193.out⟩,⟨hb_⟩⟩
        ·replace c34:=Bool.eq_false_iff.mpr c34;subst c34;rw [if_neg (show ¬ (false=true) by decide)] at H;obtain rfl:=Option.some.inj H;have p198:0≤(x65_3:Int):=ofd;have q198:x65_3<(l1_1.length:Int):=ofd;obtain ⟨ad198,e198,hx198_0⟩:=Kd.at_int HR1_1.out x65_3 p198 q198;cases e198;replace hx198_0:=hbc HB hx198_0;replace p198:=eq_true p198;replace q198:=eq_true q198;obtain ⟨_,_⟩:=nn NB192_193;obtain ⟨_,_,_,_,_,_⟩:=cells3 BK192.out;go_wp2_with (first|(go_at_call 75;(with_reducible refine (hinterlandref02_Is.calls a0_0 a0_1 _ _ l0_2 (rd l1_1 x65_3) false _ ?_ ?_ A33.out).mono ?_);exact cq HR0_2;exact HC0_2.out;rintro e w40 ⟨rfl,hb⟩;replace BK192:=bkb BK192 hb;replace BK193:=bkb BK193 hb;replace HB:=hbs hb))
         go_ret
         exact ⟨er_,hb_⟩
       rw [if_neg c30] at H;have c30b0:=decide_eq_false c30;clear c30;have H':=Aside0.mk H;clear H;obtain ⟨_,_⟩:=nn NB193_192;obtain ⟨_,_,_,_⟩:=cells2 BK193.out;go_wp2
       go_loopg [77] k3 (fun kq v77 w'=>∃ (x77_4:Int),v77=.int .i64 x77_4∧Aside0 (hinterlandref06_Validate.l3 kq l1_0 (l1_0.length:Int) x77_4 a0_0 a0_1 l0_2 l1_0 l1_1=some r)∧Aside0 (kq≤k3)∧Aside0 (w'.heap[gb192]?=some (.cells #[.int .i64 a0_0,.int .i64 a0_1,(.slice A0_2 l0_2.length c0_2)] 53 (0,0)))∧Aside0 (w'.heap[gb193]?=some (.cells #[(.slice A1_0 l1_0.length c1_0),(.slice A1_1 l1_1.length c1_1)] 55 (0,0)))∧Aside0 (Below w.heap.size w w'))
       case atStart=>exact ⟨(0),(by first|rfl|(simp;done)|(simp [*];done)),H',⟨Nat.le_refl _⟩,⟨blk_up BK192.out⟩,⟨blk_up BK193.out⟩,⟨hb_⟩⟩
       case round =>
        clear H';obtain ⟨x77_4,rfl,HA,HK4,BK192,BK193,HB⟩:=hrel;cases gk with
        | zero=>exact absurd HA.out (by simp [hinterlandref06_Validate.l3])
        | succ k4 =>
         have H:=HA.out;clear HA;simp only [hinterlandref06_Validate.l3] at H;by_cases c43:x77_4<(l1_0.length:Int)
         ·rw [if_pos c43] at H;have c43b0:=decide_eq_true c43;clear c43;obtain ⟨c44,H⟩:=ifp_ H;have c44b0:=decide_eq_true c44;clear c44;obtain ⟨c45,H⟩:=ifp_ H;have c45b0:=decide_eq_true c45;clear c45;obtain ⟨t201,A46,H⟩:=bnd H;by_cases c47:t201=0
          ·rw [if_pos c47] at H;have c47b0:=bqt c47;have c47b1:=bnf c47;clear c47;have H':=Aside0.mk H;clear H;have p200:0≤(x77_4:Int):=ofd;have q200:x77_4<(l1_0.length:Int):=ofd;obtain ⟨ad200,e200,hx200_0⟩:=Kd.at_int HR1_0.out x77_4 p200 q200;cases e200;replace hx200_0:=hbc HB hx200_0;replace p200:=eq_true p200;replace q200:=eq_true q200;obtain ⟨_,_⟩:=nn NB192_193;obtain ⟨_,_,_,_,_,_⟩:=cells3 BK192.out;go_wp2_with (first|(go_at_call 76;(with_reducible refine (hinterlandref06_lies.calls k4 a0_0 a0_1 _ _ l0_2 x77_4 (rd l1_0 x77_4) t201 _ ?_ ?_ A46.out).mono ?_);exact cq HR0_2;exact HC0_2.out;rintro e w50 ⟨rfl,hb⟩;replace BK192:=bkb BK192 hb;replace BK193:=bkb BK193 hb;replace HB:=hbs hb))
           go_roundg k4
           case measure=>have:=HK1.out;have:=HK2.out;have:=HK3.out;have:=HK4.out;omega
           case rel=>exact ⟨(wrap64 (x77_4+1)),(by first|rfl|(simp;done)|(simp [*];done)),H',⟨by have:=HK1.out;have:=HK2.out;have:=HK3.out;have:=HK4.out;omega⟩,⟨blk_up BK192.out⟩,⟨blk_up BK193.out⟩,⟨hb_⟩⟩
          ·rw [if_neg c47] at H;have c47b0:=bqf c47;have c47b1:=bnt c47;obtain rfl:=Option.some.inj H;have p200:0≤(x77_4:Int):=ofd;have q200:x77_4<(l1_0.length:Int):=ofd;obtain ⟨ad200,e200,hx200_0⟩:=Kd.at_int HR1_0.out x77_4 p200 q200;cases e200;replace hx200_0:=hbc HB hx200_0;replace p200:=eq_true p200;replace q200:=eq_true q200;obtain ⟨_,_⟩:=nn NB192_193;obtain ⟨_,_,_,_,_,_⟩:=cells3 BK192.out;go_wp2_with (first|(go_at_call 76;(with_reducible refine (hinterlandref06_lies.calls k4 a0_0 a0_1 _ _ l0_2 x77_4 (rd l1_0 x77_4) t201 _ ?_ ?_ A46.out).mono ?_);exact cq HR0_2;exact HC0_2.out;rintro e w53 ⟨rfl,hb⟩;replace BK192:=bkb BK192 hb;replace BK193:=bkb BK193 hb;replace HB:=hbs hb))
           go_ret
           exact ⟨er_,hb_⟩
         rw [if_neg c43] at H;have c43b0:=decide_eq_false c43;clear c43;have H':=Aside0.mk H;clear H;obtain ⟨_,_⟩:=nn NB193_192;obtain ⟨_,_,_,_⟩:=cells2 BK193.out;go_wp2
         go_loopg [91] k4 (fun kq v91 w'=>∃ (x91_5:Int),v91=.int .i64 x91_5∧Aside0 (hinterlandref06_Validate.l4 kq l1_1 (l1_1.length:Int) x91_5 a0_0 a0_1 l0_2 l1_0 l1_1=some r)∧Aside0 (kq≤k4)∧Aside0 (w'.heap[gb192]?=some (.cells #[.int .i64 a0_0,.int .i64 a0_1,(.slice A0_2 l0_2.length c0_2)] 53 (0,0)))∧Aside0 (w'.heap[gb193]?=some (.cells #[(.slice A1_0 l1_0.length c1_0),(.slice A1_1 l1_1.length c1_1)] 55 (0,0)))∧Aside0 (Below w.heap.size w w'))
         case atStart=>exact ⟨(0),(by first|rfl|(simp;done)|(simp [*];done)),H',⟨Nat.le_refl _⟩,⟨blk_up BK192.out⟩,⟨blk_up BK193.out⟩,⟨hb_⟩⟩
         case round =>
          clear H';obtain ⟨x91_5,rfl,HA,HK5,BK192,BK193,HB⟩:=hrel;cases gk with
          | zero=>exact absurd HA.out (by simp [hinterlandref06_Validate.l4])
          | succ k5 =>
           have H:=HA.out;clear HA;simp only [hinterlandref06_Validate.l4] at H;by_cases c56:x91_5<(l1_1.length:Int)
           ·rw [if_pos c56] at H;have c56b0:=decide_eq_true c56;clear c56;obtain ⟨c57,H⟩:=ifp_ H;have c57b0:=decide_eq_true c57;clear c57;obtain ⟨c58,H⟩:=ifp_ H;have c58b0:=decide_eq_true c58;clear c58;obtain ⟨t203,A59,H⟩:=bnd H;by_cases c60:t203=true
            ·subst c60;rw [if_pos rfl] at H;have H':=Aside0.mk H;clear H;have p202:0≤(x91_5:Int):=ofd;have q202:x91_5<(l1_1.length:Int):=ofd;obtain ⟨ad202,e202,hx202_0⟩:=Kd.at_int HR1_1.out x91_5 p202 q202;cases e202;replace hx202_0:=hbc HB hx202_0;replace p202:=eq_true p202;replace q202:=eq_true q202;obtain ⟨_,_⟩:=nn NB192_193;obtain ⟨_,_,_,_,_,_⟩:=cells3 BK192.out;obtain ⟨_,_,_,_⟩:=cells2 BK193.out;go_wp2_with (first|(go_at_call 77;(with_reducible refine (hinterlandref06_Wet.calls k5 a0_0 a0_1 _ _ l0_2 _ _ l1_0 (rd l1_1 x91_5) true _ ?_ ?_ ?_ ?_ A59.out).mono ?_);exact cq HR0_2;exact HC0_2.out;exact cq HR1_0;exact HC1_0.out;rintro e w64 ⟨rfl,hb⟩;replace BK192:=bkb BK192 hb;replace BK193:=bkb BK193 hb;replace HB:=hbs hb))
             go_roundg k5
             case measure=>have:=HK1.out;have:=HK2.out;have:=HK3.out;have:=HK4.out;have:=HK5.out;omega
             case rel=>exact ⟨(wrap64 (x91_5+1)),(by first|rfl|(simp;done)|(simp [*];done)),H',⟨by have:=HK1.out;have:=HK2.out;have:=HK3.out;have:=HK4.out;have:=HK5.out;omega⟩,⟨blk_up BK192.out⟩,⟨blk_up BK193.out⟩,⟨hb_⟩⟩
            ·replace c60:=Bool.eq_false_iff.mpr c60;subst c60;rw [if_neg (show ¬ (false=true) by decide)] at H;obtain rfl:=Option.some.inj H;have p202:0≤(x91_5:Int):=ofd;have q202:x91_5<(l1_1.length:Int):=ofd;obtain ⟨ad202,e202,hx202_0⟩:=Kd.at_int HR1_1.out x91_5 p202 q202;cases e202;replace hx202_0:=hbc HB hx202_0;replace p202:=eq_true p202;replace q202:=eq_true q202;obtain ⟨_,_⟩:=nn NB192_193;obtain ⟨_,_,_,_,_,_⟩:=cells3 BK192.out;obtain ⟨_,_,_,_⟩:=cells2 BK193.out;go_wp2_with (first|(go_at_call 77;(with_reducible refine (hinterlandref06_Wet.calls k5 a0_0 a0_1 _ _ l0_2 _ _ l1_0 (rd l1_1 x91_5) false _ ?_ ?_ ?_ ?_ A59.out).mono ?_);exact cq HR0_2;exact HC0_2.out;exact cq HR1_0;exact HC1_0.out;rintro e w68 ⟨rfl,hb⟩;replace BK192:=bkb BK192 hb;replace BK193:=bkb BK193 hb;replace HB:=hbs hb))
             go_ret
             exact ⟨er_,hb_⟩
           ·rw [if_neg c56] at H;have c56b0:=decide_eq_false c56;clear c56;obtain rfl:=Option.some.inj H;go_wp2
            go_ret
            exact ⟨er_,hb_⟩

/-! ### hinterlandref02_Beyond: function 98 -/
def hinterlandref02_Beyond.f (a0:Int) (a1:Int) (a2:Int) (a3:Int):Option (Int) := if a0=0 then (none) else (if a3=0 then (if (wrap64 ((Int.tmod a2 a0)+1))<0 then (some (-1)) else (if (wrap64 (Int.tdiv a2 a0))<0 then (some (-1)) else (if (wrap64 ((Int.tmod a2 a0)+1))≥a0 then (some (-1)) else (if (wrap64 (Int.tdiv a2 a0))≥a1 then (some (-1)) else (some (wrap64 ((wrap64 ((wrap64 (Int.tdiv a2 a0)) * a0))+(wrap64 ((Int.tmod a2 a0)+1))))))))) else (if a3=1 then (if (Int.tmod a2 a0)<0 then (some (-1)) else (if (wrap64 ((wrap64 (Int.tdiv a2 a0))+1))<0 then (some (-1)) else (if (Int.tmod a2 a0)≥a0 then (some (-1)) else (if (wrap64 ((wrap64 (Int.tdiv a2 a0))+1))≥a1 then (some (-1)) else (some (wrap64 ((wrap64 ((wrap64 ((wrap64 (Int.tdiv a2 a0))+1)) * a0))+(Int.tmod a2 a0)))))))) else (if a3=2 then (if (wrap64 ((Int.tmod a2 a0) - 1))<0 then (some (-1)) else (if (wrap64 (Int.tdiv a2 a0))<0 then (some (-1)) else (if (wrap64 ((Int.tmod a2 a0) - 1))≥a0 then (some (-1)) else (if (wrap64 (Int.tdiv a2 a0))≥a1 then (some (-1)) else (some (wrap64 ((wrap64 ((wrap64 (Int.tdiv a2 a0)) * a0))+(wrap64 ((Int.tmod a2 a0) - 1))))))))) else (if a3=3 then (if (Int.tmod a2 a0)<0 then (some (-1)) else (if (wrap64 ((wrap64 (Int.tdiv a2 a0)) - 1))<0 then (some (-1)) else (if (Int.tmod a2 a0)≥a0 then (some (-1)) else (if (wrap64 ((wrap64 (Int.tdiv a2 a0)) - 1))≥a1 then (some (-1)) else (some (wrap64 ((wrap64 ((wrap64 ((wrap64 (Int.tdiv a2 a0)) - 1)) * a0))+(Int.tmod a2 a0)))))))) else (if (Int.tmod a2 a0)<0 then (some (-1)) else (if (wrap64 (Int.tdiv a2 a0))<0 then (some (-1)) else (if (Int.tmod a2 a0)≥a0 then (some (-1)) else (if (wrap64 (Int.tdiv a2 a0))≥a1 then (some (-1)) else (some (wrap64 ((wrap64 ((wrap64 (Int.tdiv a2 a0)) * a0))+(Int.tmod a2 a0))))))))))))
set_option maxHeartbeats 8000000 in
set_option maxRecDepth 100000 in
theorem hinterlandref02_Beyond.calls (a0:Int) (a1:Int) (a2:Int) (a3:Int) (r:Int) (w:World) (h:hinterlandref02_Beyond.f a0 a1 a2 a3=some r) :
  Calls Try.prog 98 #[.int .i64 a0,.int .i64 a1,.int .i64 a2,.int .i64 a3] w fun e w'=>e=.returned (.int .i64 r)∧Drawn0 w w':=by
 have H:=h;clear h;unfold hinterlandref02_Beyond.f at H;replace H:=ifn_ H;obtain ⟨c5,H⟩:=H;have c5b0:(a0 == 0)=false:=beq_eq_false_iff_ne.mpr c5;have c5b1:(a0 != 0)=true:=bne_iff_ne.mpr c5;by_cases c6:a3=0
 ·rw [if_pos c6] at H;have c6b0:=bqt c6;have c6b1:=bnf c6;clear c6;by_cases c7:(wrap64 ((Int.tmod a2 a0)+1))<0
  ·rw [if_pos c7] at H;have c7b0:=decide_eq_true c7;clear c7;obtain rfl:=Option.some.inj H;go_enter Try.func98,Try.ntmps98;go_wp2
   go_quiet (fail)
   go_wp2
   go_ret
   exact ⟨by first|rfl|(simp;done)|(simp [*];done),by repeat (first|exact Drawn0.refl _|apply Drawn0.step)⟩
  rw [if_neg c7] at H;have c7b0:=decide_eq_false c7;clear c7;by_cases c8:(wrap64 (Int.tdiv a2 a0))<0
  ·rw [if_pos c8] at H;have c8b0:=decide_eq_true c8;clear c8;obtain rfl:=Option.some.inj H;go_enter Try.func98,Try.ntmps98;go_wp2
   go_quiet (fail)
   go_wp2
   go_ret
   exact ⟨by first|rfl|(simp;done)|(simp [*];done),by repeat (first|exact Drawn0.refl _|apply Drawn0.step)⟩
  rw [if_neg c8] at H;have c8b0:=decide_eq_false c8;clear c8;by_cases c9:(wrap64 ((Int.tmod a2 a0)+1))≥a0
  ·rw [if_pos c9] at H;have c9b0:=decide_eq_true c9;clear c9;obtain rfl:=Option.some.inj H;go_enter Try.func98,Try.ntmps98;go_wp2
   go_quiet (fail)
   go_wp2
   go_ret
   exact ⟨by first|rfl|(simp;done)|(simp [*];done),by repeat (first|exact Drawn0.refl _|apply Drawn0.step)⟩
  ·rw [if_neg c9] at H;have c9b0:=decide_eq_false c9;clear c9;by_cases c10:(wrap64 (Int.tdiv a2 a0))≥a1
   ·rw [if_pos c10] at H;have c10b0:=decide_eq_true c10;clear c10;obtain rfl:=Option.some.inj H;go_enter Try.func98,Try.ntmps98;go_wp2
    go_quiet (fail)
    go_wp2
    go_ret
    exact ⟨by first|rfl|(simp;done)|(simp [*];done),by repeat (first|exact Drawn0.refl _|apply Drawn0.step)⟩
   ·rw [if_neg c10] at H;have c10b0:=decide_eq_false c10;clear c10;obtain rfl:=Option.some.inj H;go_enter Try.func98,Try.ntmps98;go_wp2
    go_quiet (fail)
    go_wp2
    go_ret
    exact ⟨by first|rfl|(simp;done)|(simp [*];done),by repeat (first|exact Drawn0.refl _|apply Drawn0.step)⟩
 rw [if_neg c6] at H;have c6b0:=bqf c6;have c6b1:=bnt c6;by_cases c11:a3=1
 ·rw [if_pos c11] at H;have c11b0:=bqt c11;have c11b1:=bnf c11;clear c11;by_cases c12:(Int.tmod a2 a0)<0
  ·rw [if_pos c12] at H;have c12b0:=decide_eq_true c12;clear c12;obtain rfl:=Option.some.inj H;go_enter Try.func98,Try.ntmps98;go_wp2
   go_quiet (fail)
   go_wp2
   go_ret
   exact ⟨by first|rfl|(simp;done)|(simp [*];done),by repeat (first|exact Drawn0.refl _|apply Drawn0.step)⟩
  rw [if_neg c12] at H;have c12b0:=decide_eq_false c12;clear c12;by_cases c13:(wrap64 ((wrap64 (Int.tdiv a2 a0))+1))<0
  ·rw [if_pos c13] at H;have c13b0:=decide_eq_true c13;clear c13;obtain rfl:=Option.some.inj H;go_enter Try.func98,Try.ntmps98;go_wp2
   go_quiet (fail)
   go_wp2
   go_ret
   exact ⟨by first|rfl|(simp;done)|(simp [*];done),by repeat (first|exact Drawn0.refl _|apply Drawn0.step)⟩
  rw [if_neg c13] at H;have c13b0:=decide_eq_false c13;clear c13;by_cases c14:(Int.tmod a2 a0)≥a0
  ·rw [if_pos c14] at H;have c14b0:=decide_eq_true c14;clear c14;obtain rfl:=Option.some.inj H;go_enter Try.func98,Try.ntmps98;go_wp2
   go_quiet (fail)
   go_wp2
   go_ret
   exact ⟨by first|rfl|(simp;done)|(simp [*];done),by repeat (first|exact Drawn0.refl _|apply Drawn0.step)⟩
  ·rw [if_neg c14] at H;have c14b0:=decide_eq_false c14;clear c14;by_cases c15:(wrap64 ((wrap64 (Int.tdiv a2 a0))+1))≥a1
   ·rw [if_pos c15] at H;have c15b0:=decide_eq_true c15;clear c15;obtain rfl:=Option.some.inj H;go_enter Try.func98,Try.ntmps98;go_wp2
    go_quiet (fail)
    go_wp2
    go_ret
    exact ⟨by first|rfl|(simp;done)|(simp [*];done),by repeat (first|exact Drawn0.refl _|apply Drawn0.step)⟩
   ·rw [if_neg c15] at H;have c15b0:=decide_eq_false c15;clear c15;obtain rfl:=Option.some.inj H;go_enter Try.func98,Try.ntmps98;go_wp2
    go_quiet (fail)
    go_wp2
    go_ret
    exact ⟨by first|rfl|(simp;done)|(simp [*];done),by repeat (first|exact Drawn0.refl _|apply Drawn0.step)⟩
 rw [if_neg c11] at H;have c11b0:=bqf c11;have c11b1:=bnt c11;by_cases c16:a3=2
 ·rw [if_pos c16] at H;have c16b0:=bqt c16;have c16b1:=bnf c16;clear c16;by_cases c17:(wrap64 ((Int.tmod a2 a0) - 1))<0
  ·rw [if_pos c17] at H;have c17b0:=decide_eq_true c17;clear c17;obtain rfl:=Option.some.inj H;go_enter Try.func98,Try.ntmps98;go_wp2
   go_quiet (fail)
   go_wp2
   go_ret
   exact ⟨by first|rfl|(simp;done)|(simp [*];done),by repeat (first|exact Drawn0.refl _|apply Drawn0.step)⟩
  rw [if_neg c17] at H;have c17b0:=decide_eq_false c17;clear c17;by_cases c18:(wrap64 (Int.tdiv a2 a0))<0
  ·rw [if_pos c18] at H;have c18b0:=decide_eq_true c18;clear c18;obtain rfl:=Option.some.inj H;go_enter Try.func98,Try.ntmps98;go_wp2
   go_quiet (fail)
   go_wp2
   go_ret
   exact ⟨by first|rfl|(simp;done)|(simp [*];done),by repeat (first|exact Drawn0.refl _|apply Drawn0.step)⟩
  rw [if_neg c18] at H;have c18b0:=decide_eq_false c18;clear c18;by_cases c19:(wrap64 ((Int.tmod a2 a0) - 1))≥a0
  ·rw [if_pos c19] at H;have c19b0:=decide_eq_true c19;clear c19;obtain rfl:=Option.some.inj H;go_enter Try.func98,Try.ntmps98;go_wp2
   go_quiet (fail)
   go_wp2
   go_ret
   exact ⟨by first|rfl|(simp;done)|(simp [*];done),by repeat (first|exact Drawn0.refl _|apply Drawn0.step)⟩
  ·rw [if_neg c19] at H;have c19b0:=decide_eq_false c19;clear c19;by_cases c20:(wrap64 (Int.tdiv a2 a0))≥a1
   ·rw [if_pos c20] at H;have c20b0:=decide_eq_true c20;clear c20;obtain rfl:=Option.some.inj H;go_enter Try.func98,Try.ntmps98;go_wp2
    go_quiet (fail)
    go_wp2
    go_ret
    exact ⟨by first|rfl|(simp;done)|(simp [*];done),by repeat (first|exact Drawn0.refl _|apply Drawn0.step)⟩
   ·rw [if_neg c20] at H;have c20b0:=decide_eq_false c20;clear c20;obtain rfl:=Option.some.inj H;go_enter Try.func98,Try.ntmps98;go_wp2
    go_quiet (fail)
    go_wp2
    go_ret
    exact ⟨by first|rfl|(simp;done)|(simp [*];done),by repeat (first|exact Drawn0.refl _|apply Drawn0.step)⟩
 rw [if_neg c16] at H;have c16b0:=bqf c16;have c16b1:=bnt c16;by_cases c21:a3=3;rotate_left
 ·rw [if_neg c21] at H;have c21b0:=bqf c21;have c21b1:=bnt c21;by_cases c26:(Int.tmod a2 a0)<0
  ·rw [if_pos c26] at H;have c26b0:=decide_eq_true c26;clear c26;obtain rfl:=Option.some.inj H;go_enter Try.func98,Try.ntmps98;go_wp2
   go_quiet (fail)
   go_wp2
   go_ret
   exact ⟨by first|rfl|(simp;done)|(simp [*];done),by repeat (first|exact Drawn0.refl _|apply Drawn0.step)⟩
  rw [if_neg c26] at H;have c26b0:=decide_eq_false c26;clear c26;by_cases c27:(wrap64 (Int.tdiv a2 a0))<0
  ·rw [if_pos c27] at H;have c27b0:=decide_eq_true c27;clear c27;obtain rfl:=Option.some.inj H;go_enter Try.func98,Try.ntmps98;go_wp2
   go_quiet (fail)
   go_wp2
   go_ret
   exact ⟨by first|rfl|(simp;done)|(simp [*];done),by repeat (first|exact Drawn0.refl _|apply Drawn0.step)⟩
  rw [if_neg c27] at H;have c27b0:=decide_eq_false c27;clear c27;by_cases c28:(Int.tmod a2 a0)≥a0
  ·rw [if_pos c28] at H;have c28b0:=decide_eq_true c28;clear c28;obtain rfl:=Option.some.inj H;go_enter Try.func98,Try.ntmps98;go_wp2
   go_quiet (fail)
   go_wp2
   go_ret
   exact ⟨by first|rfl|(simp;done)|(simp [*];done),by repeat (first|exact Drawn0.refl _|apply Drawn0.step)⟩
  ·rw [if_neg c28] at H;have c28b0:=decide_eq_false c28;clear c28;by_cases c29:(wrap64 (Int.tdiv a2 a0))≥a1
   ·rw [if_pos c29] at H;have c29b0:=decide_eq_true c29;clear c29;obtain rfl:=Option.some.inj H;go_enter Try.func98,Try.ntmps98;go_wp2
    go_quiet (fail)
    go_wp2
    go_ret
    exact ⟨by first|rfl|(simp;done)|(simp [*];done),by repeat (first|exact Drawn0.refl _|apply Drawn0.step)⟩
   ·rw [if_neg c29] at H;have c29b0:=decide_eq_false c29;clear c29;obtain rfl:=Option.some.inj H;go_enter Try.func98,Try.ntmps98;go_wp2
    go_quiet (fail)
    go_wp2
    go_ret
    exact ⟨by first|rfl|(simp;done)|(simp [*];done),by repeat (first|exact Drawn0.refl _|apply Drawn0.step)⟩
 rw [if_pos c21] at H;have c21b0:=bqt c21;have c21b1:=bnf c21;clear c21;by_cases c22:(Int.tmod a2 a0)<0
 ·rw [if_pos c22] at H;have c22b0:=decide_eq_true c22;clear c22;obtain rfl:=Option.some.inj H;go_enter Try.func98,Try.ntmps98;go_wp2
  go_quiet (fail)
  go_wp2
  go_ret
  exact ⟨by first|rfl|(simp;done)|(simp [*];done),by repeat (first|exact Drawn0.refl _|apply Drawn0.step)⟩
 rw [if_neg c22] at H;have c22b0:=decide_eq_false c22;clear c22;by_cases c23:(wrap64 ((wrap64 (Int.tdiv a2 a0)) - 1))<0
 ·rw [if_pos c23] at H;have c23b0:=decide_eq_true c23;clear c23;obtain rfl:=Option.some.inj H;go_enter Try.func98,Try.ntmps98;go_wp2
  go_quiet (fail)
  go_wp2
  go_ret
  exact ⟨by first|rfl|(simp;done)|(simp [*];done),by repeat (first|exact Drawn0.refl _|apply Drawn0.step)⟩
 rw [if_neg c23] at H;have c23b0:=decide_eq_false c23;clear c23;by_cases c24:(Int.tmod a2 a0)≥a0
 ·rw [if_pos c24] at H;have c24b0:=decide_eq_true c24;clear c24;obtain rfl:=Option.some.inj H;go_enter Try.func98,Try.ntmps98;go_wp2
  go_quiet (fail)
  go_wp2
  go_ret
  exact ⟨by first|rfl|(simp;done)|(simp [*];done),by repeat (first|exact Drawn0.refl _|apply Drawn0.step)⟩
 ·rw [if_neg c24] at H;have c24b0:=decide_eq_false c24;clear c24;by_cases c25:(wrap64 ((wrap64 (Int.tdiv a2 a0)) - 1))≥a1
  ·rw [if_pos c25] at H;have c25b0:=decide_eq_true c25;clear c25;obtain rfl:=Option.some.inj H;go_enter Try.func98,Try.ntmps98;go_wp2
   go_quiet (fail)
   go_wp2
   go_ret
   exact ⟨by first|rfl|(simp;done)|(simp [*];done),by repeat (first|exact Drawn0.refl _|apply Drawn0.step)⟩
  ·rw [if_neg c25] at H;have c25b0:=decide_eq_false c25;clear c25;obtain rfl:=Option.some.inj H;go_enter Try.func98,Try.ntmps98;go_wp2
   go_quiet (fail)
   go_wp2
   go_ret
   exact ⟨by first|rfl|(simp;done)|(simp [*];done),by repeat (first|exact Drawn0.refl _|apply Drawn0.step)⟩

/-! ### hinterlandref06_Depth: function 99 -/
def hinterlandref06_Depth.f (k:Nat) (a0_0:Int) (a0_1:Int) (l0_2:List Int) (a1:Int):Option (Int) := (hinterlandref02_Sea.f k a0_0 a0_1 l0_2 a1).bind fun t205=>(if t205=true then (some 2) else ((hinterlandref02_Face.f k a0_0 a0_1 l0_2 a1).bind fun bt206=>(some bt206.2)))
theorem hinterlandref06_Depth.mono:∀ a0 a1 a2 a3 k,LeO (hinterlandref06_Depth.f k a0 a1 a2 a3) (hinterlandref06_Depth.f (k+1) a0 a1 a2 a3) := by
 intro a0 a1 a2 a3 k;unfold hinterlandref06_Depth.f;repeat' first
   | (with_reducible exact hinterlandref02_Face.mono _ _ _ _ _)
   | (with_reducible exact hinterlandref02_Sea.mono _ _ _ _ _)
   | (with_reducible exact LeO.refl _)
   | (with_reducible exact LeO.none _)
   | (with_reducible refine LeO.ite ?_ ?_)
   | (with_reducible refine LeO.bind ?_ (fun _=>?_))
set_option maxHeartbeats 8000000 in
set_option maxRecDepth 100000 in
theorem hinterlandref06_Depth.calls (k:Nat) (a0_0:Int) (a0_1:Int) (A0_2:Option Addr) (c0_2:Nat) (l0_2:List Int) (a1:Int) (r:Int) (w:World) (hr0_2:Kd.C (Kd.int .i64) w A0_2 l0_2.length l0_2) (hc0_2:l0_2.length≤c0_2) (h:hinterlandref06_Depth.f k a0_0 a0_1 l0_2 a1=some r) :
  Calls Try.prog 99 #[.agg #[.int .i64 a0_0,.int .i64 a0_1,.slice A0_2 l0_2.length c0_2],.int .i64 a1] w fun e w'=>e=.returned (.int .i64 r)∧Below w.heap.size w w':=by
 have hu53:=Try.underlying53;have HR0_2:=Aside0.mk hr0_2;have HC0_2:=Aside0.mk hc0_2;clear hr0_2 hc0_2;have HB:=Aside0.mk (Below.refl w.heap.size w);have H:=h;clear h;unfold hinterlandref06_Depth.f at H;obtain ⟨t205,A3,H⟩:=bnd H;by_cases c4:t205=true
 ·subst c4;rw [if_pos rfl] at H;obtain rfl:=Option.some.inj H;go_enter Try.func99,Try.ntmps99;go_wp2_with (first|((with_reducible refine gate_dst (N:=2) rfl ?_);refine box_ev (N:=2) (cs:=#[.int .i64 a0_0,.int .i64 a0_1,.slice A0_2 l0_2.length c0_2]) (t:=53) ?_;intro gb204 hg w5 hbox hb;have BK204:=Aside0.mk hbox;have GW204:=gsz (w:=w) hg;have GE204:=GW204;replace HB:=hbs hb;clear hb hbox hg;obtain ⟨_,_,_,_,_,_⟩:=cells3 BK204.out)|((with_reducible refine gate_callee (f:=92) rfl ?_);refine goesL_ (some 9) rfl rfl Try.func92 (by kernel_rfl) rfl #[.agg #[.int .i64 a0_0,.int .i64 a0_1,.slice A0_2 l0_2.length c0_2],.int .i64 a1] rfl ga_ ?_;(with_reducible refine (hinterlandref02_Sea.calls k a0_0 a0_1 _ _ l0_2 a1 true _ ?_ ?_ A3.out).mono ?_);exact cq HR0_2;exact HC0_2.out;rintro e w7 ⟨rfl,hb⟩;refine ⟨_,rfl,?_⟩;replace BK204:=bkb BK204 hb;replace HB:=hbs hb))
  go_ret
  exact ⟨er_,hb_⟩
 ·replace c4:=Bool.eq_false_iff.mpr c4;subst c4;rw [if_neg (show ¬ (false=true) by decide)] at H;obtain ⟨⟨t206,t207⟩,A8,H⟩:=bnd H;(try dsimp only at H);obtain rfl:=Option.some.inj H;go_enter Try.func99,Try.ntmps99;go_wp2_with (first|((with_reducible refine gate_dst (N:=2) rfl ?_);refine box_ev (N:=2) (cs:=#[.int .i64 a0_0,.int .i64 a0_1,.slice A0_2 l0_2.length c0_2]) (t:=53) ?_;intro gb204 hg w9 hbox hb;have BK204:=Aside0.mk hbox;have GW204:=gsz (w:=w) hg;have GE204:=GW204;replace HB:=hbs hb;clear hb hbox hg;obtain ⟨_,_,_,_,_,_⟩:=cells3 BK204.out)|((with_reducible refine gate_callee (f:=92) rfl ?_);refine goesL_ (some 9) rfl rfl Try.func92 (by kernel_rfl) rfl #[.agg #[.int .i64 a0_0,.int .i64 a0_1,.slice A0_2 l0_2.length c0_2],.int .i64 a1] rfl ga_ ?_;(with_reducible refine (hinterlandref02_Sea.calls k a0_0 a0_1 _ _ l0_2 a1 false _ ?_ ?_ A3.out).mono ?_);exact cq HR0_2;exact HC0_2.out;rintro e w11 ⟨rfl,hb⟩;refine ⟨_,rfl,?_⟩;replace BK204:=bkb BK204 hb;replace HB:=hbs hb;obtain ⟨_,_,_,_,_,_⟩:=cells3 BK204.out)|((with_reducible refine gate_callee (f:=91) rfl ?_);refine goesL_ (some 13) rfl rfl Try.func91 (by kernel_rfl) rfl #[.agg #[.int .i64 a0_0,.int .i64 a0_1,.slice A0_2 l0_2.length c0_2],.int .i64 a1] rfl ga_ ?_;(with_reducible refine (hinterlandref02_Face.calls k a0_0 a0_1 _ _ l0_2 a1 t206 t207 _ ?_ ?_ A8.out).mono ?_);exact cq HR0_2;exact HC0_2.out;rintro e w13 ⟨rfl,hb⟩;refine ⟨_,rfl,?_⟩;replace BK204:=bkb BK204 hb;replace HB:=hbs hb))
  go_ret
  exact ⟨er_,hb_⟩

end Go.Proofs.Ythjmdpekcleihaa.P

/- Functions of this seat as plain Lean functions, with proofs that the Go code comes to just their answers, or what stands between them and a law's statement; no conditions. (Laid by a program of this session, out of the kit's print.) -/
import Derived.Test.YthjmdpekcleihaaPx0
import Derived.Test.YthjmdpekcleihaaPx4
import Derived.Test.YthjmdpekcleihaaPx5
namespace Go.Proofs.Ythjmdpekcleihaa.P
open Go.RowKit Go.Proofs.YthjmdpekcleihaaW.PrintWords Go.Proofs.YthjmdpekcleihaaW.PrintLast Go.Proofs.YthjmdpekcleihaaW.PrintMore
attribute [local go_sem] max2_int min2_int max_two min_two max_three min_three max_four min_four   -- for this text's walks alone
set_option linter.unusedVariables false
set_option linter.unusedSimpArgs false

/-! ### hinterlandref06_Meets: function 83 -/
mutual
def hinterlandref06_Meets.j0:Nat→Int→Int→Int→Bool→Int→Int→List Int→List Int→List Int→Option (Int)
 | 0,_,_,_,_,_,_,_,_,_=>none
 | k+1,x2,x3,x9,x41,x209000,x209001,x209002,x210000,x210001=>if x41=true then (some (-1)) else (if 0≤x9 then (if x9<(x210000.length:Int) then (if (rd x210000 x9)=2 then (if 0≤x2 then (if x2<(x210000.length:Int) then (if (rd x210000 x2)=2 then (some (-1)) else (hinterlandref06_Meets.j1 k x9 x9 x2 (Int.tmod (wrap64 (x3+2)) 4) x209000 x209001 x209002 x210000 x210001)) else (none)) else (none)) else (hinterlandref06_Meets.j1 k x9 x2 x9 x3 x209000 x209001 x209002 x210000 x210001)) else (none)) else (none))
def hinterlandref06_Meets.j1:Nat→Int→Int→Int→Int→Int→Int→List Int→List Int→List Int→Option (Int)
 | 0,_,_,_,_,_,_,_,_,_=>none
 | k+1,x9,x10,x11,x12,x209000,x209001,x209002,x210000,x210001=>if 0≤x10 then (if x10<(x210000.length:Int) then (if (rd x210000 x10)=2 then ((hinterlandref02_Face.f k x209000 x209001 x209002 x10).bind fun bt216=>((hinterlandref06_upper.f bt216.1).bind fun t218=>(if (Int.tmod x12 2)=(Int.tmod t218 2) then (if x12=t218 then (hinterlandref06_Meets.j2 k x9 x10 x11 1 x209000 x209001 x209002) else (hinterlandref06_Meets.j2 k x9 x10 x11 0 x209000 x209001 x209002)) else (some (-1))))) else (hinterlandref06_Meets.j2 k x9 x10 x11 0 x209000 x209001 x209002)) else (none)) else (none)
def hinterlandref06_Meets.j2:Nat→Int→Int→Int→Int→Int→Int→List Int→Option (Int)
 | 0,_,_,_,_,_,_,_=>none
 | k+1,x9,x10,x11,x13,x209000,x209001,x209002=>(hinterlandref06_Depth.f k x209000 x209001 x209002 x11).bind fun t219=>((hinterlandref06_Depth.f k x209000 x209001 x209002 x10).bind fun t220=>(if t219=(wrap64 (t220+x13)) then (some x9) else (some (-1))))
end
def hinterlandref06_Meets.f (k:Nat) (a0_0:Int) (a0_1:Int) (l0_2:List Int) (l1_0:List Int) (l1_1:List Int) (a2:Int) (a3:Int):Option (Int) := (hinterlandref02_Beyond.f a0_0 a0_1 a2 a3).bind fun t210=>(if t210<0 then (hinterlandref06_Meets.j0 k a2 a3 t210 true a0_0 a0_1 l0_2 l1_0 l1_1) else ((hinterlandref06_Wet.f k a0_0 a0_1 l0_2 l1_0 a2).bind fun t211=>(if t211=true then ((hinterlandref06_Wet.f k a0_0 a0_1 l0_2 l1_0 t210).bind fun t212=>(hinterlandref06_Meets.j0 k a2 a3 t210 (!t212) a0_0 a0_1 l0_2 l1_0 l1_1)) else (hinterlandref06_Meets.j0 k a2 a3 t210 true a0_0 a0_1 l0_2 l1_0 l1_1))))
theorem hinterlandref06_Meets.mono_l:∀ k,(∀ y0 y1 y2 y3 y4 y5 y6 y7 y8,LeO (hinterlandref06_Meets.j0 k y0 y1 y2 y3 y4 y5 y6 y7 y8) (hinterlandref06_Meets.j0 (k+1) y0 y1 y2 y3 y4 y5 y6 y7 y8))∧(∀ y0 y1 y2 y3 y4 y5 y6 y7 y8,LeO (hinterlandref06_Meets.j1 k y0 y1 y2 y3 y4 y5 y6 y7 y8) (hinterlandref06_Meets.j1 (k+1) y0 y1 y2 y3 y4 y5 y6 y7 y8))∧(∀ y0 y1 y2 y3 y4 y5 y6,LeO (hinterlandref06_Meets.j2 k y0 y1 y2 y3 y4 y5 y6) (hinterlandref06_Meets.j2 (k+1) y0 y1 y2 y3 y4 y5 y6))
 | 0=>⟨fun _ _ _ _ _ _ _ _ _ r h=>by simp [hinterlandref06_Meets.j0] at h,fun _ _ _ _ _ _ _ _ _ r h=>by simp [hinterlandref06_Meets.j1] at h,fun _ _ _ _ _ _ _ r h=>by simp [hinterlandref06_Meets.j2] at h⟩
 | k+1=>by
  obtain ⟨ih0,ih1,ih2⟩:=hinterlandref06_Meets.mono_l k;refine ⟨?_,?_,?_⟩
  ·intro y0 y1 y2 y3 y4 y5 y6 y7 y8;unfold hinterlandref06_Meets.j0;repeat' first
   | (with_reducible exact ih0 _ _ _ _ _ _ _ _ _)
   | (with_reducible exact ih1 _ _ _ _ _ _ _ _ _)
   | (with_reducible exact ih2 _ _ _ _ _ _ _)
   | (with_reducible exact hinterlandref02_Face.mono _ _ _ _ _)
   | (with_reducible exact hinterlandref06_Depth.mono _ _ _ _ _)
   | (with_reducible exact hinterlandref06_Wet.mono _ _ _ _ _ _)
   | (with_reducible exact LeO.refl _)
   | (with_reducible exact LeO.none _)
   | (with_reducible refine LeO.ite ?_ ?_)
   | (with_reducible refine LeO.bind ?_ (fun _=>?_))
  ·intro y0 y1 y2 y3 y4 y5 y6 y7 y8;unfold hinterlandref06_Meets.j1;repeat' first
   | (with_reducible exact ih0 _ _ _ _ _ _ _ _ _)
   | (with_reducible exact ih1 _ _ _ _ _ _ _ _ _)
   | (with_reducible exact ih2 _ _ _ _ _ _ _)
   | (with_reducible exact hinterlandref02_Face.mono _ _ _ _ _)
   | (with_reducible exact hinterlandref06_Depth.mono _ _ _ _ _)
   | (with_reducible exact hinterlandref06_Wet.mono _ _ _ _ _ _)
   | (with_reducible exact LeO.refl _)
   | (with_reducible exact LeO.none _)
   | (with_reducible refine LeO.ite ?_ ?_)
   | (with_reducible refine LeO.bind ?_ (fun _=>?_))
  ·intro y0 y1 y2 y3 y4 y5 y6;unfold hinterlandref06_Meets.j2;repeat' first
   | (with_reducible exact ih0 _ _ _ _ _ _ _ _ _)
   | (with_reducible exact ih1 _ _ _ _ _ _ _ _ _)
   | (with_reducible exact ih2 _ _ _ _ _ _ _)
   | (with_reducible exact hinterlandref02_Face.mono _ _ _ _ _)
   | (with_reducible exact hinterlandref06_Depth.mono _ _ _ _ _)
   | (with_reducible exact hinterlandref06_Wet.mono _ _ _ _ _ _)
   | (with_reducible exact LeO.refl _)
   | (with_reducible exact LeO.none _)
   | (with_reducible refine LeO.ite ?_ ?_)
   | (with_reducible refine LeO.bind ?_ (fun _=>?_))
theorem hinterlandref06_Meets.mono:∀ a0 a1 a2 a3 a4 a5 a6 k,LeO (hinterlandref06_Meets.f k a0 a1 a2 a3 a4 a5 a6) (hinterlandref06_Meets.f (k+1) a0 a1 a2 a3 a4 a5 a6) := by
 intro a0 a1 a2 a3 a4 a5 a6 k;obtain ⟨ih0,ih1,ih2⟩:=hinterlandref06_Meets.mono_l k;unfold hinterlandref06_Meets.f;repeat' first
   | (with_reducible exact ih0 _ _ _ _ _ _ _ _ _)
   | (with_reducible exact ih1 _ _ _ _ _ _ _ _ _)
   | (with_reducible exact ih2 _ _ _ _ _ _ _)
   | (with_reducible exact hinterlandref02_Face.mono _ _ _ _ _)
   | (with_reducible exact hinterlandref06_Depth.mono _ _ _ _ _)
   | (with_reducible exact hinterlandref06_Wet.mono _ _ _ _ _ _)
   | (with_reducible exact LeO.refl _)
   | (with_reducible exact LeO.none _)
   | (with_reducible refine LeO.ite ?_ ?_)
   | (with_reducible refine LeO.bind ?_ (fun _=>?_))
def hinterlandref06_Meets.T17:Bool × List (List Nat × List Nat) := (true,[([],[]),([],[]),([0,1],[0,1]),([],[]),([],[]),([3,4,2],[3,4]),([],[]),([5,6],[5,6]),([2,7],[2,7])])
def hinterlandref06_Meets.B17:List Nat := [0,0,3,0,0,31,0,127,255]
theorem hinterlandref06_Meets.tab17:rtab .any (opsOf Try.f83 17)=hinterlandref06_Meets.T17 := by kernel_rfl
theorem hinterlandref06_Meets.bits17:waitsOk hinterlandref06_Meets.T17.2 hinterlandref06_Meets.B17=true := by kernel_rfl
set_option maxHeartbeats 8000000 in
set_option maxRecDepth 100000 in
theorem hinterlandref06_Meets.calls (k:Nat) (a0_0:Int) (a0_1:Int) (A0_2:Option Addr) (c0_2:Nat) (l0_2:List Int) (A1_0:Option Addr) (c1_0:Nat) (l1_0:List Int) (A1_1:Option Addr) (c1_1:Nat) (l1_1:List Int) (a2:Int) (a3:Int) (r:Int) (w:World) (hr0_2:Kd.C (Kd.int .i64) w A0_2 l0_2.length l0_2) (hc0_2:l0_2.length≤c0_2) (hr1_0:Kd.C (Kd.int .i64) w A1_0 l1_0.length l1_0) (hc1_0:l1_0.length≤c1_0) (hr1_1:Kd.C (Kd.int .i64) w A1_1 l1_1.length l1_1) (hc1_1:l1_1.length≤c1_1) (h:hinterlandref06_Meets.f k a0_0 a0_1 l0_2 l1_0 l1_1 a2 a3=some r) :
  Calls Try.prog 83 #[.agg #[.int .i64 a0_0,.int .i64 a0_1,.slice A0_2 l0_2.length c0_2],.agg #[.slice A1_0 l1_0.length c1_0,.slice A1_1 l1_1.length c1_1],.int .i64 a2,.int .i64 a3] w fun e w'=>e=.returned (.int .i64 r)∧Below w.heap.size w w':=by
 have hu53:=Try.underlying53;have hu55:=Try.underlying55;have HR0_2:=Aside0.mk hr0_2;have HC0_2:=Aside0.mk hc0_2;clear hr0_2 hc0_2;have HR1_0:=Aside0.mk hr1_0;have HC1_0:=Aside0.mk hc1_0;clear hr1_0 hc1_0;have HR1_1:=Aside0.mk hr1_1;have HC1_1:=Aside0.mk hc1_1;clear hr1_1 hc1_1;have HB:=Aside0.mk (Below.refl w.heap.size w);have H:=h;clear h;unfold hinterlandref06_Meets.f at H;obtain ⟨t210,A5,H⟩:=bnd H;have HC6:=Aside0.mk H;clear H;go_enter Try.func83,Try.ntmps83;go_upto_region 2 with (first|((with_reducible refine gate_dst (N:=4) rfl ?_);refine box_ev (N:=4) (cs:=#[.int .i64 a0_0,.int .i64 a0_1,.slice A0_2 l0_2.length c0_2]) (t:=53) ?_;intro gb208 hg w7 hbox hb;have BK208:=Aside0.mk hbox;have GW208:=gsz (w:=w) hg;have GE208:=GW208;replace HB:=hbs hb;clear hb hbox hg)|((with_reducible refine gate_dst (N:=5) rfl ?_);refine box_ev (N:=5) (cs:=#[.slice A1_0 l1_0.length c1_0,.slice A1_1 l1_1.length c1_1]) (t:=55) ?_;intro gb209 hg w8 hbox hb;have BK209:=Aside0.mk hbox;have GW209:=gsz (w:=w) hg;have GE209:=GW209;have NB208_209:=nbl BK208 hg;have NB209_208:=nbr BK208 hg;replace BK208:=bkb BK208 hb;replace HB:=hbs hb;clear hb hbox hg;have hnb9:=NB208_209.out;have hnc9:=NB209_208.out;obtain ⟨_,_,_,_,_,_⟩:=cells3 BK208.out)|((with_reducible refine gate_callee (f:=98) rfl ?_);refine goesL_ (some 23) rfl rfl Try.func98 (by kernel_rfl) rfl #[.int .i64 a0_0,.int .i64 a0_1,.int .i64 a2,.int .i64 a3] rfl ga_ ?_;(with_reducible refine (hinterlandref02_Beyond.calls a0_0 a0_1 a2 a3 t210 _ A5.out).mono ?_);rintro e w' ⟨rfl,⟨nd,rfl⟩⟩;refine ⟨_,rfl,?_⟩))
 (try simp only [Act.put,List.setIfInBounds_toArray,List.set_cons_zero,List.set_cons_succ]);go_cut [41] (fun v41 wc=>∃ (kq:Nat) (x41_5:Bool),v41=.bool x41_5∧Aside0 (hinterlandref06_Meets.j0 kq a2 a3 t210 x41_5 a0_0 a0_1 l0_2 l1_0 l1_1=some r)∧Aside0 (kq≤k)∧Aside0 (wc.heap[gb208]?=some (.cells #[.int .i64 a0_0,.int .i64 a0_1,(.slice A0_2 l0_2.length c0_2)] 53 (0,0)))∧Aside0 (wc.heap[gb209]?=some (.cells #[(.slice A1_0 l1_0.length c1_0),(.slice A1_1 l1_1.length c1_1)] 55 (0,0)))∧Aside0 (Below w.heap.size w wc))
 case first =>
  have H:=HC6.out;clear HC6;by_cases c11:t210<0
  ·rw [if_pos c11] at H;have c11b0:=decide_eq_true c11;clear c11;(first|rw [c11b0]|(simp only [i64_w,i32_w];rw [c11b0])|skip);have H':=Aside0.mk H;clear H;go_wp2
   go_meet
   case rel=>exact ⟨_,(true),(by first|rfl|(simp;done)|(simp [*];done)),H',⟨by first|omega|exact Nat.le_refl _⟩,⟨blk_up BK208.out⟩,⟨blk_up BK209.out⟩,⟨hb_⟩⟩
  rw [if_neg c11] at H;have c11b0:=decide_eq_false c11;clear c11;(first|rw [c11b0]|(simp only [i64_w,i32_w];rw [c11b0])|skip);obtain ⟨t211,A12,H⟩:=bnd H;by_cases c13:t211=true
  ·subst c13;rw [if_pos rfl] at H;obtain ⟨t212,A14,H⟩:=bnd H;have H':=Aside0.mk H;clear H;obtain ⟨_,_⟩:=nn NB208_209;obtain ⟨_,_,_,_,_,_⟩:=cells3 BK208.out;obtain ⟨_,_,_,_⟩:=cells2 BK209.out;go_wp2_with (first|(go_at_call 77;(with_reducible refine (hinterlandref06_Wet.calls k a0_0 a0_1 _ _ l0_2 _ _ l1_0 a2 true _ ?_ ?_ ?_ ?_ A12.out).mono ?_);exact cq HR0_2;exact HC0_2.out;exact cq HR1_0;exact HC1_0.out;rintro e w18 ⟨rfl,hb⟩;replace BK208:=bkb BK208 hb;replace BK209:=bkb BK209 hb;replace HB:=hbs hb;obtain ⟨_,_,_,_,_,_⟩:=cells3 BK208.out;obtain ⟨_,_,_,_⟩:=cells2 BK209.out)|(go_at_call 77;(with_reducible refine (hinterlandref06_Wet.calls k a0_0 a0_1 _ _ l0_2 _ _ l1_0 t210 t212 _ ?_ ?_ ?_ ?_ A14.out).mono ?_);exact cq HR0_2;exact HC0_2.out;exact cq HR1_0;exact HC1_0.out;rintro e w21 ⟨rfl,hb⟩;replace BK208:=bkb BK208 hb;replace BK209:=bkb BK209 hb;replace HB:=hbs hb))
   go_meet
   case rel=>exact ⟨_,(!t212),(by first|rfl|(simp;done)|(simp [*];done)),H',⟨by first|omega|exact Nat.le_refl _⟩,⟨blk_up BK208.out⟩,⟨blk_up BK209.out⟩,⟨hb_⟩⟩
  ·replace c13:=Bool.eq_false_iff.mpr c13;subst c13;rw [if_neg (show ¬ (false=true) by decide)] at H;have H':=Aside0.mk H;clear H;obtain ⟨_,_⟩:=nn NB208_209;obtain ⟨_,_,_,_,_,_⟩:=cells3 BK208.out;obtain ⟨_,_,_,_⟩:=cells2 BK209.out;go_wp2_with (first|(go_at_call 77;(with_reducible refine (hinterlandref06_Wet.calls k a0_0 a0_1 _ _ l0_2 _ _ l1_0 a2 false _ ?_ ?_ ?_ ?_ A12.out).mono ?_);exact cq HR0_2;exact HC0_2.out;exact cq HR1_0;exact HC1_0.out;rintro e w25 ⟨rfl,hb⟩;replace BK208:=bkb BK208 hb;replace BK209:=bkb BK209 hb;replace HB:=hbs hb))
   go_meet
   case rel=>exact ⟨_,(true),(by first|rfl|(simp;done)|(simp [*];done)),H',⟨by first|omega|exact Nat.le_refl _⟩,⟨blk_up BK208.out⟩,⟨blk_up BK209.out⟩,⟨hb_⟩⟩
 case rest =>
  clear HC6;obtain ⟨kq,x41_5,rfl,HA,HJ5,BK208,BK209,HB⟩:=hcut;cases kq with
  | zero=>exact absurd HA.out (by simp [hinterlandref06_Meets.j0])
  | succ kj5 =>
   have H:=HA.out;clear HA;simp only [hinterlandref06_Meets.j0] at H;by_cases c26:x41_5=true
   ·subst c26;rw [if_pos rfl] at H;obtain rfl:=Option.some.inj H;go_wp2
    go_ret
    exact ⟨er_,hb_⟩
   ·replace c26:=Bool.eq_false_iff.mpr c26;subst c26;rw [if_neg (show ¬ (false=true) by decide)] at H;obtain ⟨c27,H⟩:=ifp_ H;have c27b0:=decide_eq_true c27;clear c27;obtain ⟨c28,H⟩:=ifp_ H;have c28b0:=decide_eq_true c28;clear c28;have HC29:=Aside0.mk H;clear H;obtain ⟨_,_⟩:=nn NB209_208;obtain ⟨_,_,_,_⟩:=cells2 BK209.out;have p213:0≤(t210:Int):=ofd;have q213:t210<(l1_0.length:Int):=ofd;obtain ⟨ad213,e213,hx213_0⟩:=Kd.at_int HR1_0.out t210 p213 q213;cases e213;replace hx213_0:=hbc HB hx213_0;replace p213:=eq_true p213;replace q213:=eq_true q213;go_upto_if 50 with (fail)
    go_cut [10,11,12] (fun v10 v11 v12 wc=>∃ (kq:Nat) (x10_28:Int) (x11_28:Int) (x12_28:Int),v10=.int .i64 x10_28∧v11=.int .i64 x11_28∧v12=.int .i64 x12_28∧Aside0 (hinterlandref06_Meets.j1 kq t210 x10_28 x11_28 x12_28 a0_0 a0_1 l0_2 l1_0 l1_1=some r)∧Aside0 (kq≤kj5)∧Aside0 (wc.heap[gb208]?=some (.cells #[.int .i64 a0_0,.int .i64 a0_1,(.slice A0_2 l0_2.length c0_2)] 53 (0,0)))∧Aside0 (wc.heap[gb209]?=some (.cells #[(.slice (some ad213) l1_0.length c1_0),(.slice A1_1 l1_1.length c1_1)] 55 (0,0)))∧Aside0 (Below w.heap.size w wc))
    case first =>
     have H:=HC29.out;clear HC29;by_cases c32:(rd l1_0 t210)=2;rotate_left
     ·rw [if_neg c32] at H;have c32b0:=bqf c32;have c32b1:=bnt c32;(first|rw [c32b0]|(simp only [i64_w,i32_w];rw [c32b0])|skip);have H':=Aside0.mk H;clear H;go_wp2
      go_meet
      case rel=>exact ⟨_,(a2),(t210),(a3),(by first|rfl|(simp;done)|(simp [*];done)),(by first|rfl|(simp;done)|(simp [*];done)),(by first|rfl|(simp;done)|(simp [*];done)),H',⟨by have:=HJ5.out;first|omega|exact Nat.le_refl _⟩,⟨blk_up BK208.out⟩,⟨blk_up BK209.out⟩,⟨hb_⟩⟩
     rw [if_pos c32] at H;have c32b0:=bqt c32;have c32b1:=bnf c32;clear c32;(first|rw [c32b0]|(simp only [i64_w,i32_w];rw [c32b0])|skip);obtain ⟨c33,H⟩:=ifp_ H;have c33b0:=decide_eq_true c33;clear c33;obtain ⟨c34,H⟩:=ifp_ H;have c34b0:=decide_eq_true c34;clear c34;by_cases c35:(rd l1_0 a2)=2
     ·rw [if_pos c35] at H;have c35b0:=bqt c35;have c35b1:=bnf c35;clear c35;obtain rfl:=Option.some.inj H;obtain ⟨_,_⟩:=nn NB209_208;obtain ⟨_,_,_,_⟩:=cells2 BK209.out;have p214:0≤(a2:Int):=ofd;have q214:a2<(l1_0.length:Int):=ofd;obtain ⟨ad214,e214,hx214_0⟩:=Kd.at_int HR1_0.out a2 p214 q214;obtain rfl:ad213=ad214:=(by injection e214);replace hx214_0:=hbc HB hx214_0;replace p214:=eq_true p214;replace q214:=eq_true q214;go_wp2
      go_ret
      exact ⟨er_,hb_⟩
     ·rw [if_neg c35] at H;have c35b0:=bqf c35;have c35b1:=bnt c35;have H':=Aside0.mk H;clear H;obtain ⟨_,_⟩:=nn NB209_208;obtain ⟨_,_,_,_⟩:=cells2 BK209.out;have p214:0≤(a2:Int):=ofd;have q214:a2<(l1_0.length:Int):=ofd;obtain ⟨ad214,e214,hx214_0⟩:=Kd.at_int HR1_0.out a2 p214 q214;obtain rfl:ad213=ad214:=(by injection e214);replace hx214_0:=hbc HB hx214_0;replace p214:=eq_true p214;replace q214:=eq_true q214;go_wp2
      go_meet
      case rel=>exact ⟨_,(t210),(a2),(Int.tmod (wrap64 (a3+2)) 4),(by first|rfl|(simp;done)|(simp [*];done)),(by first|rfl|(simp;done)|(simp [*];done)),(by first|rfl|(simp;done)|(simp [*];done)),H',⟨by have:=HJ5.out;first|omega|exact Nat.le_refl _⟩,⟨blk_up BK208.out⟩,⟨blk_up BK209.out⟩,⟨hb_⟩⟩
    case rest =>
     clear HC29;obtain ⟨kq,x10_28,x11_28,x12_28,rfl,rfl,rfl,HA,HJ28,BK208,BK209,HB⟩:=hcut;cases kq with
     | zero=>exact absurd HA.out (by simp [hinterlandref06_Meets.j1])
     | succ kj28 =>
      have H:=HA.out;clear HA;simp only [hinterlandref06_Meets.j1] at H;obtain ⟨c40,H⟩:=ifp_ H;have c40b0:=decide_eq_true c40;clear c40;obtain ⟨c41,H⟩:=ifp_ H;have c41b0:=decide_eq_true c41;clear c41;have HC42:=Aside0.mk H;clear H;obtain ⟨_,_⟩:=nn NB209_208;obtain ⟨_,_,_,_⟩:=cells2 BK209.out;have p215:0≤(x10_28:Int):=ofd;have q215:x10_28<(l1_0.length:Int):=ofd;obtain ⟨ad215,e215,hx215_0⟩:=Kd.at_int HR1_0.out x10_28 p215 q215;obtain rfl:ad213=ad215:=(by injection e215);replace hx215_0:=hbc HB hx215_0;replace p215:=eq_true p215;replace q215:=eq_true q215;go_upto_if 67 with (fail)
      go_cut [13] (fun v13 wc=>∃ (kq:Nat) (x13_41:Int),v13=.int .i64 x13_41∧Aside0 (hinterlandref06_Meets.j2 kq t210 x10_28 x11_28 x13_41 a0_0 a0_1 l0_2=some r)∧Aside0 (kq≤kj28)∧Aside0 (wc.heap[gb208]?=some (.cells #[.int .i64 a0_0,.int .i64 a0_1,(.slice A0_2 l0_2.length c0_2)] 53 (0,0)))∧Aside0 (wc.heap[gb209]?=some (.cells #[(.slice (some ad213) l1_0.length c1_0),(.slice A1_1 l1_1.length c1_1)] 55 (0,0)))∧Aside0 (Below w.heap.size w wc))
      case first =>
       have H:=HC42.out;clear HC42;by_cases c45:(rd l1_0 x10_28)=2;rotate_left
       ·rw [if_neg c45] at H;have c45b0:=bqf c45;have c45b1:=bnt c45;(first|rw [c45b0]|(simp only [i64_w,i32_w];rw [c45b0])|skip);have H':=Aside0.mk H;clear H;go_wp2
        go_meet
        case rel=>exact ⟨_,(0),(by first|rfl|(simp;done)|(simp [*];done)),H',⟨by have:=HJ5.out;have:=HJ28.out;first|omega|exact Nat.le_refl _⟩,⟨blk_up BK208.out⟩,⟨blk_up BK209.out⟩,⟨hb_⟩⟩
       rw [if_pos c45] at H;have c45b0:=bqt c45;have c45b1:=bnf c45;clear c45;(first|rw [c45b0]|(simp only [i64_w,i32_w];rw [c45b0])|skip);obtain ⟨⟨t216,t217⟩,A46,H⟩:=bnd H;(try dsimp only at H);obtain ⟨t218,A47,H⟩:=bnd H;by_cases c48:(Int.tmod x12_28 2)=(Int.tmod t218 2)
       ·rw [if_pos c48] at H;have c48b0:=bqt c48;have c48b1:=bnf c48;clear c48;by_cases c49:x12_28=t218
        ·rw [if_pos c49] at H;have c49b0:=bqt c49;have c49b1:=bnf c49;clear c49;have H':=Aside0.mk H;clear H;obtain ⟨_,_⟩:=nn NB208_209;obtain ⟨_,_,_,_,_,_⟩:=cells3 BK208.out;go_wp2_with (first|((with_reducible refine gate_callee (f:=91) rfl ?_);refine goesL_ (some 71) rfl rfl Try.func91 (by kernel_rfl) rfl #[.agg #[.int .i64 a0_0,.int .i64 a0_1,.slice A0_2 l0_2.length c0_2],.int .i64 x10_28] rfl ga_ ?_;(with_reducible refine (hinterlandref02_Face.calls kj28 a0_0 a0_1 _ _ l0_2 x10_28 t216 t217 _ ?_ ?_ A46.out).mono ?_);exact cq HR0_2;exact HC0_2.out;rintro e w52 ⟨rfl,hb⟩;refine ⟨_,rfl,?_⟩;replace BK208:=bkb BK208 hb;replace BK209:=bkb BK209 hb;replace HB:=hbs hb)|((with_reducible refine gate_callee (f:=93) rfl ?_);refine goesL_ (some 75) rfl rfl Try.func93 (by kernel_rfl) rfl #[.int .i64 t216] rfl ga_ ?_;(with_reducible refine (hinterlandref06_upper.calls t216 t218 _ A47.out).mono ?_);rintro e w' ⟨rfl,⟨nd,rfl⟩⟩;refine ⟨_,rfl,?_⟩))
         go_meet
         case rel=>exact ⟨_,(1),(by first|rfl|(simp;done)|(simp [*];done)),H',⟨by have:=HJ5.out;have:=HJ28.out;first|omega|exact Nat.le_refl _⟩,⟨blk_up BK208.out⟩,⟨blk_up BK209.out⟩,⟨hb_⟩⟩
        ·rw [if_neg c49] at H;have c49b0:=bqf c49;have c49b1:=bnt c49;have H':=Aside0.mk H;clear H;obtain ⟨_,_⟩:=nn NB208_209;obtain ⟨_,_,_,_,_,_⟩:=cells3 BK208.out;go_wp2_with (first|((with_reducible refine gate_callee (f:=91) rfl ?_);refine goesL_ (some 71) rfl rfl Try.func91 (by kernel_rfl) rfl #[.agg #[.int .i64 a0_0,.int .i64 a0_1,.slice A0_2 l0_2.length c0_2],.int .i64 x10_28] rfl ga_ ?_;(with_reducible refine (hinterlandref02_Face.calls kj28 a0_0 a0_1 _ _ l0_2 x10_28 t216 t217 _ ?_ ?_ A46.out).mono ?_);exact cq HR0_2;exact HC0_2.out;rintro e w55 ⟨rfl,hb⟩;refine ⟨_,rfl,?_⟩;replace BK208:=bkb BK208 hb;replace BK209:=bkb BK209 hb;replace HB:=hbs hb)|((with_reducible refine gate_callee (f:=93) rfl ?_);refine goesL_ (some 75) rfl rfl Try.func93 (by kernel_rfl) rfl #[.int .i64 t216] rfl ga_ ?_;(with_reducible refine (hinterlandref06_upper.calls t216 t218 _ A47.out).mono ?_);rintro e w' ⟨rfl,⟨nd,rfl⟩⟩;refine ⟨_,rfl,?_⟩))
         go_meet
         case rel=>exact ⟨_,(0),(by first|rfl|(simp;done)|(simp [*];done)),H',⟨by have:=HJ5.out;have:=HJ28.out;first|omega|exact Nat.le_refl _⟩,⟨blk_up BK208.out⟩,⟨blk_up BK209.out⟩,⟨hb_⟩⟩
       ·rw [if_neg c48] at H;have c48b0:=bqf c48;have c48b1:=bnt c48;obtain rfl:=Option.some.inj H;obtain ⟨_,_⟩:=nn NB208_209;obtain ⟨_,_,_,_,_,_⟩:=cells3 BK208.out;go_wp2_with (first|((with_reducible refine gate_callee (f:=91) rfl ?_);refine goesL_ (some 71) rfl rfl Try.func91 (by kernel_rfl) rfl #[.agg #[.int .i64 a0_0,.int .i64 a0_1,.slice A0_2 l0_2.length c0_2],.int .i64 x10_28] rfl ga_ ?_;(with_reducible refine (hinterlandref02_Face.calls kj28 a0_0 a0_1 _ _ l0_2 x10_28 t216 t217 _ ?_ ?_ A46.out).mono ?_);exact cq HR0_2;exact HC0_2.out;rintro e w58 ⟨rfl,hb⟩;refine ⟨_,rfl,?_⟩;replace BK208:=bkb BK208 hb;replace BK209:=bkb BK209 hb;replace HB:=hbs hb)|((with_reducible refine gate_callee (f:=93) rfl ?_);refine goesL_ (some 75) rfl rfl Try.func93 (by kernel_rfl) rfl #[.int .i64 t216] rfl ga_ ?_;(with_reducible refine (hinterlandref06_upper.calls t216 t218 _ A47.out).mono ?_);rintro e w' ⟨rfl,⟨nd,rfl⟩⟩;refine ⟨_,rfl,?_⟩))
        go_ret
        exact ⟨er_,hb_⟩
      case rest =>
       clear HC42;obtain ⟨kq,x13_41,rfl,HA,HJ41,BK208,BK209,HB⟩:=hcut;cases kq with
       | zero=>exact absurd HA.out (by simp [hinterlandref06_Meets.j2])
       | succ kj41 =>
        have H:=HA.out;clear HA;simp only [hinterlandref06_Meets.j2] at H;obtain ⟨t219,A59,H⟩:=bnd H;obtain ⟨t220,A60,H⟩:=bnd H;by_cases c61:t219=(wrap64 (t220+x13_41));rotate_left
        ·rw [if_neg c61] at H;have c61b0:=bqf c61;have c61b1:=bnt c61;obtain rfl:=Option.some.inj H;try go_wp2
         replace BK208:=bkd BK208;replace BK209:=bkd BK209;replace HB:=Aside0.mk (below_drew1 HB.out);refine start_ (n:=9) (S:=fun w'=>w'.cell? ⟨gb208,0,none⟩=some (.int .i64 a0_0)∧w'.cell? ⟨gb208,1,none⟩=some (.int .i64 a0_1)∧w'.cell? ⟨gb208,2,none⟩=some (.slice A0_2 l0_2.length c0_2)) (ds:=[]) #[false,false,false,false,false,false,false,false,false] (by kernel_rfl) rfl rfl ⟨bc BK208 0,bc BK208 1,bc BK208 2⟩ (fun hHeld=>?_);refine with_tabW hinterlandref06_Meets.tab17 hinterlandref06_Meets.bits17 (fun HT_ HW_=>?_);generalize wc.drew=w65 at BK208 BK209 HB hHeld ⊢;refine pI 1 (some 85) ?_;refine pI 4 (some 88) ?_;refine pI 6 (some 90) ?_;refine tI3 0 (some 84) hHeld ?_;refine tI3 3 (some 87) hHeld ?_;refine oI 2 (some 86) (fun K hK=>?_);refine goes_ Try.func99 (by kernel_rfl) rfl #[.agg #[.int .i64 a0_0,.int .i64 a0_1,.slice A0_2 l0_2.length c0_2],.int .i64 x11_28] (by rfl) rfl rfl ga_ ?_;with_reducible refine (hinterlandref06_Depth.calls kj41 a0_0 a0_1 _ _ l0_2 x11_28 t219 _ ?side1 ?side2 A59.out).mono ?_
         (case side1=>exact cq HR0_2);(case side2=>exact HC0_2.out);rintro e w66 ⟨rfl,hb⟩;refine ⟨_,rfl,?_⟩;replace BK208:=bkb BK208 hb;replace BK209:=bkb BK209 hb;replace HB:=Aside0.mk (below_step (hb_) hb);(try clear hb);refine hK.out _ _ ⟨bc BK208 0,bc BK208 1,bc BK208 2⟩ (fun hHeld=>?_);clear hK K;refine nrm 86 ?_;refine oI 5 (some 89) (fun K hK=>?_);refine goes_ Try.func99 (by kernel_rfl) rfl #[.agg #[.int .i64 a0_0,.int .i64 a0_1,.slice A0_2 l0_2.length c0_2],.int .i64 x10_28] (by rfl) rfl rfl ga_ ?_;with_reducible refine (hinterlandref06_Depth.calls kj41 a0_0 a0_1 _ _ l0_2 x10_28 t220 _ ?side1 ?side2 A60.out).mono ?_
         (case side1=>exact cq HR0_2);(case side2=>exact HC0_2.out);rintro e w67 ⟨rfl,hb⟩;refine ⟨_,rfl,?_⟩;replace BK208:=bkb BK208 hb;replace BK209:=bkb BK209 hb;replace HB:=Aside0.mk (below_step (hb_) hb);(try clear hb);refine hK.out _ _ ⟨bc BK208 0,bc BK208 1,bc BK208 2⟩ (fun hHeld=>?_);clear hK K;refine nrm 89 ?_;refine pI 7 (some 91) ?_;refine pI 8 (some 92) ?_;refine done_ (done_of HT_.out (by kernel_rfl)) ?_;try go_wp2
         go_ret
         exact ⟨er_,hb_⟩
        rw [if_pos c61] at H;have c61b0:=bqt c61;have c61b1:=bnf c61;clear c61;obtain rfl:=Option.some.inj H;try go_wp2
        replace BK208:=bkd BK208;replace BK209:=bkd BK209;replace HB:=Aside0.mk (below_drew1 HB.out);refine start_ (n:=9) (S:=fun w'=>w'.cell? ⟨gb208,0,none⟩=some (.int .i64 a0_0)∧w'.cell? ⟨gb208,1,none⟩=some (.int .i64 a0_1)∧w'.cell? ⟨gb208,2,none⟩=some (.slice A0_2 l0_2.length c0_2)) (ds:=[]) #[false,false,false,false,false,false,false,false,false] (by kernel_rfl) rfl rfl ⟨bc BK208 0,bc BK208 1,bc BK208 2⟩ (fun hHeld=>?_);refine with_tabW hinterlandref06_Meets.tab17 hinterlandref06_Meets.bits17 (fun HT_ HW_=>?_);generalize wc.drew=w62 at BK208 BK209 HB hHeld ⊢;refine pI 1 (some 85) ?_;refine pI 4 (some 88) ?_;refine pI 6 (some 90) ?_;refine tI3 0 (some 84) hHeld ?_;refine tI3 3 (some 87) hHeld ?_;refine oI 2 (some 86) (fun K hK=>?_);refine goes_ Try.func99 (by kernel_rfl) rfl #[.agg #[.int .i64 a0_0,.int .i64 a0_1,.slice A0_2 l0_2.length c0_2],.int .i64 x11_28] (by rfl) rfl rfl ga_ ?_;with_reducible refine (hinterlandref06_Depth.calls kj41 a0_0 a0_1 _ _ l0_2 x11_28 t219 _ ?side1 ?side2 A59.out).mono ?_
        (case side1=>exact cq HR0_2);(case side2=>exact HC0_2.out);rintro e w63 ⟨rfl,hb⟩;refine ⟨_,rfl,?_⟩;replace BK208:=bkb BK208 hb;replace BK209:=bkb BK209 hb;replace HB:=Aside0.mk (below_step (hb_) hb);(try clear hb);refine hK.out _ _ ⟨bc BK208 0,bc BK208 1,bc BK208 2⟩ (fun hHeld=>?_);clear hK K;refine nrm 86 ?_;refine oI 5 (some 89) (fun K hK=>?_);refine goes_ Try.func99 (by kernel_rfl) rfl #[.agg #[.int .i64 a0_0,.int .i64 a0_1,.slice A0_2 l0_2.length c0_2],.int .i64 x10_28] (by rfl) rfl rfl ga_ ?_;with_reducible refine (hinterlandref06_Depth.calls kj41 a0_0 a0_1 _ _ l0_2 x10_28 t220 _ ?side1 ?side2 A60.out).mono ?_
        (case side1=>exact cq HR0_2);(case side2=>exact HC0_2.out);rintro e w64 ⟨rfl,hb⟩;refine ⟨_,rfl,?_⟩;replace BK208:=bkb BK208 hb;replace BK209:=bkb BK209 hb;replace HB:=Aside0.mk (below_step (hb_) hb);(try clear hb);refine hK.out _ _ ⟨bc BK208 0,bc BK208 1,bc BK208 2⟩ (fun hHeld=>?_);clear hK K;refine nrm 89 ?_;refine pI 7 (some 91) ?_;refine pI 8 (some 92) ?_;refine done_ (done_of HT_.out (by kernel_rfl)) ?_;try go_wp2
        go_ret
        exact ⟨er_,hb_⟩

end Go.Proofs.Ythjmdpekcleihaa.P

/- Functions of this seat as plain Lean functions, with proofs that the Go code comes to just their answers, or what stands between them and a law's statement; no conditions. (Laid by a program of this session, out of the kit's print.) -/
import Derived.Test.YthjmdpekcleihaaPx0
import Derived.Test.YthjmdpekcleihaaPx2
import Derived.Test.YthjmdpekcleihaaPx3
namespace Go.Proofs.Ythjmdpekcleihaa.P
open Go.RowKit Go.Proofs.YthjmdpekcleihaaW.PrintWords Go.Proofs.YthjmdpekcleihaaW.PrintLast Go.Proofs.YthjmdpekcleihaaW.PrintMore
attribute [local go_sem] max2_int min2_int max_two min_two max_three min_three max_four min_four   -- for this text's walks alone
set_option linter.unusedVariables false
set_option linter.unusedSimpArgs false

/-! ### lane_choose: function 38 -/
def lane_choose.l0:Nat→Int→Int→Int→Int→List Int→Int→Int→Int→Int→List Int→List Int→Option (Int × Bool)
 | 0,_,_,_,_,_,_,_,_,_,_,_=>none
 | k+1,x1,x3,x11,x12,x26,x27,x28,x131000,x131001,x131002,x131003=>if x28<x27 then (if 0≤x28 then (if x28<(x26.length:Int) then ((lane_far.f k x131000 x131001 x131002 x131003 x1 (rd x26 x28) x3).bind fun t136=>(if t136≥0 then (if x12<0 then (lane_choose.l0 k x1 x3 (rd x26 x28) t136 x26 x27 (wrap64 (x28+1)) x131000 x131001 x131002 x131003) else (if t136<x12 then (lane_choose.l0 k x1 x3 (rd x26 x28) t136 x26 x27 (wrap64 (x28+1)) x131000 x131001 x131002 x131003) else (lane_choose.l0 k x1 x3 x11 x12 x26 x27 (wrap64 (x28+1)) x131000 x131001 x131002 x131003))) else (lane_choose.l0 k x1 x3 x11 x12 x26 x27 (wrap64 (x28+1)) x131000 x131001 x131002 x131003))) else (none)) else (none)) else (some (x11,true))
def lane_choose.f (k:Nat) (a0_0:Int) (a0_1:Int) (l0_2:List Int) (l0_3:List Int) (a1:Int) (a2:Int) (a3:Int):Option (Int × Bool) := (lane_leaves.f k a0_0 a0_1 l0_2 l0_3 a1 a2).bind fun t131=>(if (t131.length:Int)=0 then (some (0,false)) else (if 0<(t131.length:Int) then (lane_choose.l0 k a1 a3 (rd t131 0) (-1) t131 (t131.length:Int) 0 a0_0 a0_1 l0_2 l0_3) else (none)))
theorem lane_choose.mono_l:∀ k,(∀ y0 y1 y2 y3 y4 y5 y6 y7 y8 y9 y10,LeO (lane_choose.l0 k y0 y1 y2 y3 y4 y5 y6 y7 y8 y9 y10) (lane_choose.l0 (k+1) y0 y1 y2 y3 y4 y5 y6 y7 y8 y9 y10))
 | 0=>fun _ _ _ _ _ _ _ _ _ _ _ r h=>by simp [lane_choose.l0] at h
 | k+1=>by
  have ih0:=lane_choose.mono_l k
  ·intro y0 y1 y2 y3 y4 y5 y6 y7 y8 y9 y10;unfold lane_choose.l0;repeat' first
   | (with_reducible exact ih0 _ _ _ _ _ _ _ _ _ _ _)
   | (with_reducible exact lane_far.mono _ _ _ _ _ _ _ _)
   | (with_reducible exact lane_leaves.mono _ _ _ _ _ _ _)
   | (with_reducible exact LeO.refl _)
   | (with_reducible exact LeO.none _)
   | (with_reducible refine LeO.ite ?_ ?_)
   | (with_reducible refine LeO.bind ?_ (fun _=>?_))
theorem lane_choose.mono:∀ a0 a1 a2 a3 a4 a5 a6 k,LeO (lane_choose.f k a0 a1 a2 a3 a4 a5 a6) (lane_choose.f (k+1) a0 a1 a2 a3 a4 a5 a6) := by
 intro a0 a1 a2 a3 a4 a5 a6 k;have ih0:=lane_choose.mono_l k;unfold lane_choose.f;repeat' first
   | (with_reducible exact ih0 _ _ _ _ _ _ _ _ _ _ _)
   | (with_reducible exact lane_far.mono _ _ _ _ _ _ _ _)
   | (with_reducible exact lane_leaves.mono _ _ _ _ _ _ _)
   | (with_reducible exact LeO.refl _)
   | (with_reducible exact LeO.none _)
   | (with_reducible refine LeO.ite ?_ ?_)
   | (with_reducible refine LeO.bind ?_ (fun _=>?_))
set_option maxHeartbeats 8000000 in
set_option maxRecDepth 100000 in
theorem lane_choose.calls (k:Nat) (a0_0:Int) (a0_1:Int) (A0_2:Option Addr) (c0_2:Nat) (l0_2:List Int) (A0_3:Option Addr) (c0_3:Nat) (l0_3:List Int) (a1:Int) (a2:Int) (a3:Int) (r1:Int) (r2:Bool) (w:World) (hr0_2:Kd.C (Kd.int .i64) w A0_2 l0_2.length l0_2) (hc0_2:l0_2.length≤c0_2) (hr0_3:Kd.C (Kd.int .i64) w A0_3 l0_3.length l0_3) (hc0_3:l0_3.length≤c0_3) (h:lane_choose.f k a0_0 a0_1 l0_2 l0_3 a1 a2 a3=some (r1,r2)) :
  Calls Try.prog 38 #[.agg #[.int .i64 a0_0,.int .i64 a0_1,.slice A0_2 l0_2.length c0_2,.slice A0_3 l0_3.length c0_3],.int .i64 a1,.int .i64 a2,.int .i64 a3] w fun e w'=>e=.returned (.tuple #[.int .i64 r1,.bool r2])∧Below w.heap.size w w':=by
 have hu24:=Try.underlying24;have HR0_2:=Aside0.mk hr0_2;have HC0_2:=Aside0.mk hc0_2;clear hr0_2 hc0_2;have HR0_3:=Aside0.mk hr0_3;have HC0_3:=Aside0.mk hc0_3;clear hr0_3 hc0_3;have HB:=Aside0.mk (Below.refl w.heap.size w);have H:=h;clear h;unfold lane_choose.f at H;obtain ⟨t131,A5,H⟩:=bnd H;by_cases c6:(t131.length:Int)=0
 ·rw [if_pos c6] at H;have c6b0:=bqt c6;have c6b1:=bnf c6;clear c6;simp only [Option.some.injEq,Prod.mk.injEq] at H;obtain ⟨rfl,rfl⟩:=H;go_enter Try.func38,Try.ntmps38;go_wp2_with (first|((with_reducible refine gate_dst (N:=4) rfl ?_);refine box_ev (N:=4) (cs:=#[.int .i64 a0_0,.int .i64 a0_1,.slice A0_2 l0_2.length c0_2,.slice A0_3 l0_3.length c0_3]) (t:=24) ?_;intro gb130 hg w7 hbox hb;have BK130:=Aside0.mk hbox;have GW130:=gsz (w:=w) hg;have GE130:=GW130;replace HB:=hbs hb;clear hb hbox hg;obtain ⟨_,_,_,_,_,_,_,_⟩:=cells4 BK130.out)|((with_reducible refine gate_callee (f:=65) rfl ?_);refine goesL_ (some 19) rfl rfl Try.func65 (by kernel_rfl) rfl #[.agg #[.int .i64 a0_0,.int .i64 a0_1,.slice A0_2 l0_2.length c0_2,.slice A0_3 l0_3.length c0_3],.int .i64 a1,.int .i64 a2] rfl ga_ ?_;(with_reducible refine (lane_leaves.calls k a0_0 a0_1 _ _ l0_2 _ _ l0_3 a1 a2 t131 _ ?_ ?_ ?_ ?_ A5.out).mono ?_);exact cq HR0_2;exact HC0_2.out;exact cq HR0_3;exact HC0_3.out;rintro e w9 ⟨v132,rfl,ho0,hb⟩;refine ⟨_,rfl,?_⟩;have HO133:=rlo ho0;replace BK130:=bkb BK130 hb;replace HB:=hbs hb;obtain ⟨Ao10,co10,eo10⟩:=Kd.R_slice HO133.out;subst eo10))
  go_ret2
  exact ⟨er_,hb_⟩
 rw [if_neg c6] at H;have c6b0:=bqf c6;have c6b1:=bnt c6;have c6b2:¬ (t131=[]):=fun h_=>c6 (by rw [h_];rfl)
 obtain ⟨c11,H⟩:=ifp_ H;have c11b0:=decide_eq_true c11;have c11b1:decide (0<t131.length)=true:=decide_eq_true (by omega);clear c11;have H':=Aside0.mk H;clear H;go_enter Try.func38,Try.ntmps38;go_wp2_with (first|((with_reducible refine gate_dst (N:=4) rfl ?_);refine box_ev (N:=4) (cs:=#[.int .i64 a0_0,.int .i64 a0_1,.slice A0_2 l0_2.length c0_2,.slice A0_3 l0_3.length c0_3]) (t:=24) ?_;intro gb130 hg w12 hbox hb;have BK130:=Aside0.mk hbox;have GW130:=gsz (w:=w) hg;have GE130:=GW130;replace HB:=hbs hb;clear hb hbox hg;obtain ⟨_,_,_,_,_,_,_,_⟩:=cells4 BK130.out)|((with_reducible refine gate_callee (f:=65) rfl ?_);refine goesL_ (some 19) rfl rfl Try.func65 (by kernel_rfl) rfl #[.agg #[.int .i64 a0_0,.int .i64 a0_1,.slice A0_2 l0_2.length c0_2,.slice A0_3 l0_3.length c0_3],.int .i64 a1,.int .i64 a2] rfl ga_ ?_;(with_reducible refine (lane_leaves.calls k a0_0 a0_1 _ _ l0_2 _ _ l0_3 a1 a2 t131 _ ?_ ?_ ?_ ?_ A5.out).mono ?_);exact cq HR0_2;exact HC0_2.out;exact cq HR0_3;exact HC0_3.out;rintro e w14 ⟨v132,rfl,ho0,hb⟩;refine ⟨_,rfl,?_⟩;have HO133:=rlo ho0;replace BK130:=bkb BK130 hb;replace HB:=hbs hb;obtain ⟨Ao15,co15,eo15⟩:=Kd.R_slice HO133.out;subst eo15;have p134:0≤(0:Int):=(by omega);have q134:0<(t131.length:Int):=ofd;obtain ⟨ad134,e134,hx134_0⟩:=Kd.at_int (Kd.R_reads' HO133.out).2.2 0 p134 q134;cases e134;have qi134:(0<t131.length)=True:=eq_true (by omega);(try rw [show ((0:Int)).toNat=0 from rfl] at hx134_0);(try rw [Addr.add_zero'] at hx134_0);replace p134:=eq_true p134;replace q134:=eq_true q134))
 go_loopg [11,12,28] k (fun kq v11 v12 v28 w'=>∃ (x11_1:Int) (x12_1:Int) (x28_1:Int),v11=.int .i64 x11_1∧v12=.int .i64 x12_1∧v28=.int .i64 x28_1∧Aside0 (lane_choose.l0 kq a1 a3 x11_1 x12_1 t131 (t131.length:Int) x28_1 a0_0 a0_1 l0_2 l0_3=some (r1,r2))∧Aside0 (kq≤k)∧Aside0 (Kd.R (Kd.int .i64) 3 w' w.heap.size (fun _=>True) (.slice (some ad134) t131.length co15) t131)∧Aside0 (w'.heap[gb130]?=some (.cells #[.int .i64 a0_0,.int .i64 a0_1,(.slice A0_2 l0_2.length c0_2),(.slice A0_3 l0_3.length c0_3)] 24 (0,0)))∧Aside0 (Below w.heap.size w w'))
 case atStart=>exact ⟨(rd t131 0),((-1)),(0),(by first|rfl|(simp;done)|(simp [*];done)),(by first|rfl|(simp;done)|(simp [*];done)),(by first|rfl|(simp;done)|(simp [*];done)),H',⟨Nat.le_refl _⟩,⟨Kd.R_up HO133.out⟩,⟨blk_up BK130.out⟩,⟨hb_⟩⟩
 case round =>
  clear H';obtain ⟨x11_1,x12_1,x28_1,rfl,rfl,rfl,HA,HK1,HO_26,BK130,HB⟩:=hrel;cases gk with
  | zero=>exact absurd HA.out (by simp [lane_choose.l0])
  | succ k1 =>
   have H:=HA.out;clear HA;simp only [lane_choose.l0] at H;by_cases c16:x28_1<(t131.length:Int);rotate_left
   ·rw [if_neg c16] at H;have c16b0:=decide_eq_false c16;clear c16;simp only [Option.some.injEq,Prod.mk.injEq] at H;obtain ⟨rfl,rfl⟩:=H;go_wp2
    go_ret2
    exact ⟨er_,hb_⟩
   rw [if_pos c16] at H;have c16b0:=decide_eq_true c16;clear c16;obtain ⟨c17,H⟩:=ifp_ H;have c17b0:=decide_eq_true c17;clear c17;obtain ⟨c18,H⟩:=ifp_ H;have c18b0:=decide_eq_true c18;clear c18;obtain ⟨t136,A19,H⟩:=bnd H;by_cases c20:t136≥0;rotate_left
   ·rw [if_neg c20] at H;have c20b0:=decide_eq_false c20;clear c20;have H':=Aside0.mk H;clear H;have p135:0≤(x28_1:Int):=ofd;have q135:x28_1<(t131.length:Int):=ofd;obtain ⟨ad135,e135,hx135_0⟩:=Kd.at_int (Kd.R_reads' HO_26.out).2.2 x28_1 p135 q135;obtain rfl:ad134=ad135:=(by injection e135);replace p135:=eq_true p135;replace q135:=eq_true q135;obtain ⟨_,_,_,_,_,_,_,_⟩:=cells4 BK130.out;go_wp2_with (first|((with_reducible refine gate_callee (f:=66) rfl ?_);refine goesL_ (some 36) rfl rfl Try.func66 (by kernel_rfl) rfl #[.agg #[.int .i64 a0_0,.int .i64 a0_1,.slice A0_2 l0_2.length c0_2,.slice A0_3 l0_3.length c0_3],.int .i64 a1,.int .i64 (rd t131 x28_1),.int .i64 a3] rfl ga_ ?_;(with_reducible refine (lane_far.calls k1 a0_0 a0_1 _ _ l0_2 _ _ l0_3 a1 (rd t131 x28_1) a3 t136 _ ?_ ?_ ?_ ?_ A19.out).mono ?_);exact cq HR0_2;exact HC0_2.out;exact cq HR0_3;exact HC0_3.out;rintro e w30 ⟨rfl,hb⟩;refine ⟨_,rfl,?_⟩;replace HO_26:=rbw HO_26 hb;replace BK130:=bkb BK130 hb;replace HB:=hbs hb))
    go_roundg k1
    case measure=>have:=HK1.out;omega
    case rel=>exact ⟨(x11_1),(x12_1),(wrap64 (x28_1+1)),(by first|rfl|(simp;done)|(simp [*];done)),(by first|rfl|(simp;done)|(simp [*];done)),(by first|rfl|(simp;done)|(simp [*];done)),H',⟨by have:=HK1.out;omega⟩,⟨Kd.R_up HO_26.out⟩,⟨blk_up BK130.out⟩,⟨hb_⟩⟩
   rw [if_pos c20] at H;have c20b0:=decide_eq_true c20;clear c20;by_cases c21:x12_1<0
   ·rw [if_pos c21] at H;have c21b0:=decide_eq_true c21;clear c21;have H':=Aside0.mk H;clear H;have p135:0≤(x28_1:Int):=ofd;have q135:x28_1<(t131.length:Int):=ofd;obtain ⟨ad135,e135,hx135_0⟩:=Kd.at_int (Kd.R_reads' HO_26.out).2.2 x28_1 p135 q135;obtain rfl:ad134=ad135:=(by injection e135);replace p135:=eq_true p135;replace q135:=eq_true q135;obtain ⟨_,_,_,_,_,_,_,_⟩:=cells4 BK130.out;go_wp2_with (first|((with_reducible refine gate_callee (f:=66) rfl ?_);refine goesL_ (some 36) rfl rfl Try.func66 (by kernel_rfl) rfl #[.agg #[.int .i64 a0_0,.int .i64 a0_1,.slice A0_2 l0_2.length c0_2,.slice A0_3 l0_3.length c0_3],.int .i64 a1,.int .i64 (rd t131 x28_1),.int .i64 a3] rfl ga_ ?_;(with_reducible refine (lane_far.calls k1 a0_0 a0_1 _ _ l0_2 _ _ l0_3 a1 (rd t131 x28_1) a3 t136 _ ?_ ?_ ?_ ?_ A19.out).mono ?_);exact cq HR0_2;exact HC0_2.out;exact cq HR0_3;exact HC0_3.out;rintro e w23 ⟨rfl,hb⟩;refine ⟨_,rfl,?_⟩;replace HO_26:=rbw HO_26 hb;replace BK130:=bkb BK130 hb;replace HB:=hbs hb))
    go_roundg k1
    case measure=>have:=HK1.out;omega
    case rel=>exact ⟨(rd t131 x28_1),(t136),(wrap64 (x28_1+1)),(by first|rfl|(simp;done)|(simp [*];done)),(by first|rfl|(simp;done)|(simp [*];done)),(by first|rfl|(simp;done)|(simp [*];done)),H',⟨by have:=HK1.out;omega⟩,⟨Kd.R_up HO_26.out⟩,⟨blk_up BK130.out⟩,⟨hb_⟩⟩
   rw [if_neg c21] at H;have c21b0:=decide_eq_false c21;clear c21;by_cases c24:t136<x12_1
   ·rw [if_pos c24] at H;have c24b0:=decide_eq_true c24;clear c24;have H':=Aside0.mk H;clear H;have p135:0≤(x28_1:Int):=ofd;have q135:x28_1<(t131.length:Int):=ofd;obtain ⟨ad135,e135,hx135_0⟩:=Kd.at_int (Kd.R_reads' HO_26.out).2.2 x28_1 p135 q135;obtain rfl:ad134=ad135:=(by injection e135);replace p135:=eq_true p135;replace q135:=eq_true q135;obtain ⟨_,_,_,_,_,_,_,_⟩:=cells4 BK130.out;go_wp2_with (first|((with_reducible refine gate_callee (f:=66) rfl ?_);refine goesL_ (some 36) rfl rfl Try.func66 (by kernel_rfl) rfl #[.agg #[.int .i64 a0_0,.int .i64 a0_1,.slice A0_2 l0_2.length c0_2,.slice A0_3 l0_3.length c0_3],.int .i64 a1,.int .i64 (rd t131 x28_1),.int .i64 a3] rfl ga_ ?_;(with_reducible refine (lane_far.calls k1 a0_0 a0_1 _ _ l0_2 _ _ l0_3 a1 (rd t131 x28_1) a3 t136 _ ?_ ?_ ?_ ?_ A19.out).mono ?_);exact cq HR0_2;exact HC0_2.out;exact cq HR0_3;exact HC0_3.out;rintro e w26 ⟨rfl,hb⟩;refine ⟨_,rfl,?_⟩;replace HO_26:=rbw HO_26 hb;replace BK130:=bkb BK130 hb;replace HB:=hbs hb))
    go_roundg k1
    case measure=>have:=HK1.out;omega
    case rel=>exact ⟨(rd t131 x28_1),(t136),(wrap64 (x28_1+1)),(by first|rfl|(simp;done)|(simp [*];done)),(by first|rfl|(simp;done)|(simp [*];done)),(by first|rfl|(simp;done)|(simp [*];done)),H',⟨by have:=HK1.out;omega⟩,⟨Kd.R_up HO_26.out⟩,⟨blk_up BK130.out⟩,⟨hb_⟩⟩
   ·rw [if_neg c24] at H;have c24b0:=decide_eq_false c24;clear c24;have H':=Aside0.mk H;clear H;have p135:0≤(x28_1:Int):=ofd;have q135:x28_1<(t131.length:Int):=ofd;obtain ⟨ad135,e135,hx135_0⟩:=Kd.at_int (Kd.R_reads' HO_26.out).2.2 x28_1 p135 q135;obtain rfl:ad134=ad135:=(by injection e135);replace p135:=eq_true p135;replace q135:=eq_true q135;obtain ⟨_,_,_,_,_,_,_,_⟩:=cells4 BK130.out;go_wp2_with (first|((with_reducible refine gate_callee (f:=66) rfl ?_);refine goesL_ (some 36) rfl rfl Try.func66 (by kernel_rfl) rfl #[.agg #[.int .i64 a0_0,.int .i64 a0_1,.slice A0_2 l0_2.length c0_2,.slice A0_3 l0_3.length c0_3],.int .i64 a1,.int .i64 (rd t131 x28_1),.int .i64 a3] rfl ga_ ?_;(with_reducible refine (lane_far.calls k1 a0_0 a0_1 _ _ l0_2 _ _ l0_3 a1 (rd t131 x28_1) a3 t136 _ ?_ ?_ ?_ ?_ A19.out).mono ?_);exact cq HR0_2;exact HC0_2.out;exact cq HR0_3;exact HC0_3.out;rintro e w28 ⟨rfl,hb⟩;refine ⟨_,rfl,?_⟩;replace HO_26:=rbw HO_26 hb;replace BK130:=bkb BK130 hb;replace HB:=hbs hb))
    go_roundg k1
    case measure=>have:=HK1.out;omega
    case rel=>exact ⟨(x11_1),(x12_1),(wrap64 (x28_1+1)),(by first|rfl|(simp;done)|(simp [*];done)),(by first|rfl|(simp;done)|(simp [*];done)),(by first|rfl|(simp;done)|(simp [*];done)),H',⟨by have:=HK1.out;omega⟩,⟨Kd.R_up HO_26.out⟩,⟨blk_up BK130.out⟩,⟨hb_⟩⟩

/-! ### lane_Choose: function 15 -/
def lane_Choose.f (k:Nat) (a0_0:Int) (a0_1:Int) (l0_2:List Int) (l0_3:List Int) (a1:Int) (a2:Int) (a3:Int):Option (Int × Bool × Int) := (road_Validate.f k a0_0 a0_1 l0_2 l0_3).bind fun t138=>(if t138=0 then ((lane_within.f a1 (wrap64 ((wrap64 (a0_0 * a0_1)) - 1))).bind fun t139=>(if t139=true then (if a2<(-1) then (some (0,false,1)) else (if a2 > 3 then (some (0,false,1)) else ((lane_choose.f k a0_0 a0_1 l0_2 l0_3 a1 a2 a3).bind fun bt140=>(some (bt140.1,bt140.2,0))))) else (some (0,false,2)))) else (some (0,false,t138)))
theorem lane_Choose.mono:∀ a0 a1 a2 a3 a4 a5 a6 k,LeO (lane_Choose.f k a0 a1 a2 a3 a4 a5 a6) (lane_Choose.f (k+1) a0 a1 a2 a3 a4 a5 a6) := by
 intro a0 a1 a2 a3 a4 a5 a6 k;unfold lane_Choose.f;repeat' first
   | (with_reducible exact lane_choose.mono _ _ _ _ _ _ _ _)
   | (with_reducible exact road_Validate.mono _ _ _ _ _)
   | (with_reducible exact LeO.refl _)
   | (with_reducible exact LeO.none _)
   | (with_reducible refine LeO.ite ?_ ?_)
   | (with_reducible refine LeO.bind ?_ (fun _=>?_))
set_option maxHeartbeats 8000000 in
set_option maxRecDepth 100000 in
theorem lane_Choose.calls (k:Nat) (a0_0:Int) (a0_1:Int) (A0_2:Option Addr) (c0_2:Nat) (l0_2:List Int) (A0_3:Option Addr) (c0_3:Nat) (l0_3:List Int) (a1:Int) (a2:Int) (a3:Int) (r1:Int) (r2:Bool) (r3:Int) (w:World) (hr0_2:Kd.C (Kd.int .i64) w A0_2 l0_2.length l0_2) (hc0_2:l0_2.length≤c0_2) (hr0_3:Kd.C (Kd.int .i64) w A0_3 l0_3.length l0_3) (hc0_3:l0_3.length≤c0_3) (h:lane_Choose.f k a0_0 a0_1 l0_2 l0_3 a1 a2 a3=some (r1,r2,r3)) :
  Calls Try.prog 15 #[.agg #[.int .i64 a0_0,.int .i64 a0_1,.slice A0_2 l0_2.length c0_2,.slice A0_3 l0_3.length c0_3],.int .i64 a1,.int .i64 a2,.int .i64 a3] w fun e w'=>e=.returned (.tuple #[.int .i64 r1,.bool r2,.int .i64 r3])∧Below w.heap.size w w':=by
 have hu24:=Try.underlying24;have HR0_2:=Aside0.mk hr0_2;have HC0_2:=Aside0.mk hc0_2;clear hr0_2 hc0_2;have HR0_3:=Aside0.mk hr0_3;have HC0_3:=Aside0.mk hc0_3;clear hr0_3 hc0_3;have HB:=Aside0.mk (Below.refl w.heap.size w);have H:=h;clear h;unfold lane_Choose.f at H;obtain ⟨t138,A5,H⟩:=bnd H;by_cases c6:t138=0;rotate_left
 ·rw [if_neg c6] at H;have c6b0:=bqf c6;have c6b1:=bnt c6;simp only [Option.some.injEq,Prod.mk.injEq] at H;obtain ⟨rfl,rfl,rfl⟩:=H;go_enter Try.func15,Try.ntmps15;go_wp2_with (first|((with_reducible refine gate_dst (N:=4) rfl ?_);refine box_ev (N:=4) (cs:=#[.int .i64 a0_0,.int .i64 a0_1,.slice A0_2 l0_2.length c0_2,.slice A0_3 l0_3.length c0_3]) (t:=24) ?_;intro gb137 hg w29 hbox hb;have BK137:=Aside0.mk hbox;have GW137:=gsz (w:=w) hg;have GE137:=GW137;replace HB:=hbs hb;clear hb hbox hg;obtain ⟨_,_,_,_,_,_,_,_⟩:=cells4 BK137.out)|((with_reducible refine gate_callee (f:=36) rfl ?_);refine goesL_ (some 15) rfl rfl Try.func36 (by kernel_rfl) rfl #[.agg #[.int .i64 a0_0,.int .i64 a0_1,.slice A0_2 l0_2.length c0_2,.slice A0_3 l0_3.length c0_3]] rfl ga_ ?_;(with_reducible refine (road_Validate.calls k a0_0 a0_1 _ _ l0_2 _ _ l0_3 t138 _ ?_ ?_ ?_ ?_ A5.out).mono ?_);exact cq HR0_2;exact HC0_2.out;exact cq HR0_3;exact HC0_3.out;rintro e w31 ⟨rfl,hb⟩;refine ⟨_,rfl,?_⟩;replace BK137:=bkb BK137 hb;replace HB:=hbs hb))
  go_ret3
  exact ⟨er_,hb_⟩
 rw [if_pos c6] at H;have c6b0:=bqt c6;have c6b1:=bnf c6;clear c6;obtain ⟨t139,A7,H⟩:=bnd H;by_cases c8:t139=true
 ·subst c8;rw [if_pos rfl] at H;by_cases c9:a2<(-1)
  ·rw [if_pos c9] at H;have c9b0:=decide_eq_true c9;clear c9;simp only [Option.some.injEq,Prod.mk.injEq] at H;obtain ⟨rfl,rfl,rfl⟩:=H;go_enter Try.func15,Try.ntmps15;go_wp2_with (first|((with_reducible refine gate_dst (N:=4) rfl ?_);refine box_ev (N:=4) (cs:=#[.int .i64 a0_0,.int .i64 a0_1,.slice A0_2 l0_2.length c0_2,.slice A0_3 l0_3.length c0_3]) (t:=24) ?_;intro gb137 hg w10 hbox hb;have BK137:=Aside0.mk hbox;have GW137:=gsz (w:=w) hg;have GE137:=GW137;replace HB:=hbs hb;clear hb hbox hg;obtain ⟨_,_,_,_,_,_,_,_⟩:=cells4 BK137.out)|((with_reducible refine gate_callee (f:=36) rfl ?_);refine goesL_ (some 15) rfl rfl Try.func36 (by kernel_rfl) rfl #[.agg #[.int .i64 a0_0,.int .i64 a0_1,.slice A0_2 l0_2.length c0_2,.slice A0_3 l0_3.length c0_3]] rfl ga_ ?_;(with_reducible refine (road_Validate.calls k a0_0 a0_1 _ _ l0_2 _ _ l0_3 t138 _ ?_ ?_ ?_ ?_ A5.out).mono ?_);exact cq HR0_2;exact HC0_2.out;exact cq HR0_3;exact HC0_3.out;rintro e w12 ⟨rfl,hb⟩;refine ⟨_,rfl,?_⟩;replace BK137:=bkb BK137 hb;replace HB:=hbs hb;obtain ⟨_,_,_,_,_,_,_,_⟩:=cells4 BK137.out)|((with_reducible refine gate_callee (f:=37) rfl ?_);refine goesL_ (some 27) rfl rfl Try.func37 (by kernel_rfl) rfl #[.int .i64 a1,.int .i64 (wrap64 ((wrap64 (a0_0 * a0_1)) - 1))] rfl ga_ ?_;(with_reducible refine (lane_within.calls a1 (wrap64 ((wrap64 (a0_0 * a0_1)) - 1)) true _ A7.out).mono ?_);rintro e w' ⟨rfl,⟨nd,rfl⟩⟩;refine ⟨_,rfl,?_⟩))
   go_ret3
   exact ⟨er_,hb_⟩
  ·rw [if_neg c9] at H;have c9b0:=decide_eq_false c9;clear c9;by_cases c14:a2 > 3
   ·rw [if_pos c14] at H;have c14b0:=decide_eq_true c14;clear c14;simp only [Option.some.injEq,Prod.mk.injEq] at H;obtain ⟨rfl,rfl,rfl⟩:=H;go_enter Try.func15,Try.ntmps15;go_wp2_with (first|((with_reducible refine gate_dst (N:=4) rfl ?_);refine box_ev (N:=4) (cs:=#[.int .i64 a0_0,.int .i64 a0_1,.slice A0_2 l0_2.length c0_2,.slice A0_3 l0_3.length c0_3]) (t:=24) ?_;intro gb137 hg w15 hbox hb;have BK137:=Aside0.mk hbox;have GW137:=gsz (w:=w) hg;have GE137:=GW137;replace HB:=hbs hb;clear hb hbox hg;obtain ⟨_,_,_,_,_,_,_,_⟩:=cells4 BK137.out)|((with_reducible refine gate_callee (f:=36) rfl ?_);refine goesL_ (some 15) rfl rfl Try.func36 (by kernel_rfl) rfl #[.agg #[.int .i64 a0_0,.int .i64 a0_1,.slice A0_2 l0_2.length c0_2,.slice A0_3 l0_3.length c0_3]] rfl ga_ ?_;(with_reducible refine (road_Validate.calls k a0_0 a0_1 _ _ l0_2 _ _ l0_3 t138 _ ?_ ?_ ?_ ?_ A5.out).mono ?_);exact cq HR0_2;exact HC0_2.out;exact cq HR0_3;exact HC0_3.out;rintro e w17 ⟨rfl,hb⟩;refine ⟨_,rfl,?_⟩;replace BK137:=bkb BK137 hb;replace HB:=hbs hb;obtain ⟨_,_,_,_,_,_,_,_⟩:=cells4 BK137.out)|((with_reducible refine gate_callee (f:=37) rfl ?_);refine goesL_ (some 27) rfl rfl Try.func37 (by kernel_rfl) rfl #[.int .i64 a1,.int .i64 (wrap64 ((wrap64 (a0_0 * a0_1)) - 1))] rfl ga_ ?_;(with_reducible refine (lane_within.calls a1 (wrap64 ((wrap64 (a0_0 * a0_1)) - 1)) true _ A7.out).mono ?_);rintro e w' ⟨rfl,⟨nd,rfl⟩⟩;refine ⟨_,rfl,?_⟩))
    go_ret3
    exact ⟨er_,hb_⟩
   ·rw [if_neg c14] at H;have c14b0:=decide_eq_false c14;clear c14;obtain ⟨⟨t140,t141⟩,A19,H⟩:=bnd H;(try dsimp only at H);simp only [Option.some.injEq,Prod.mk.injEq] at H;obtain ⟨rfl,rfl,rfl⟩:=H;go_enter Try.func15,Try.ntmps15;go_wp2_with (first|((with_reducible refine gate_dst (N:=4) rfl ?_);refine box_ev (N:=4) (cs:=#[.int .i64 a0_0,.int .i64 a0_1,.slice A0_2 l0_2.length c0_2,.slice A0_3 l0_3.length c0_3]) (t:=24) ?_;intro gb137 hg w20 hbox hb;have BK137:=Aside0.mk hbox;have GW137:=gsz (w:=w) hg;have GE137:=GW137;replace HB:=hbs hb;clear hb hbox hg;obtain ⟨_,_,_,_,_,_,_,_⟩:=cells4 BK137.out)|((with_reducible refine gate_callee (f:=36) rfl ?_);refine goesL_ (some 15) rfl rfl Try.func36 (by kernel_rfl) rfl #[.agg #[.int .i64 a0_0,.int .i64 a0_1,.slice A0_2 l0_2.length c0_2,.slice A0_3 l0_3.length c0_3]] rfl ga_ ?_;(with_reducible refine (road_Validate.calls k a0_0 a0_1 _ _ l0_2 _ _ l0_3 t138 _ ?_ ?_ ?_ ?_ A5.out).mono ?_);exact cq HR0_2;exact HC0_2.out;exact cq HR0_3;exact HC0_3.out;rintro e w22 ⟨rfl,hb⟩;refine ⟨_,rfl,?_⟩;replace BK137:=bkb BK137 hb;replace HB:=hbs hb;obtain ⟨_,_,_,_,_,_,_,_⟩:=cells4 BK137.out)|((with_reducible refine gate_callee (f:=37) rfl ?_);refine goesL_ (some 27) rfl rfl Try.func37 (by kernel_rfl) rfl #[.int .i64 a1,.int .i64 (wrap64 ((wrap64 (a0_0 * a0_1)) - 1))] rfl ga_ ?_;(with_reducible refine (lane_within.calls a1 (wrap64 ((wrap64 (a0_0 * a0_1)) - 1)) true _ A7.out).mono ?_);rintro e w' ⟨rfl,⟨nd,rfl⟩⟩;refine ⟨_,rfl,?_⟩)|((with_reducible refine gate_callee (f:=38) rfl ?_);refine goesL_ (some 41) rfl rfl Try.func38 (by kernel_rfl) rfl #[.agg #[.int .i64 a0_0,.int .i64 a0_1,.slice A0_2 l0_2.length c0_2,.slice A0_3 l0_3.length c0_3],.int .i64 a1,.int .i64 a2,.int .i64 a3] rfl ga_ ?_;(with_reducible refine (lane_choose.calls k a0_0 a0_1 _ _ l0_2 _ _ l0_3 a1 a2 a3 t140 t141 _ ?_ ?_ ?_ ?_ A19.out).mono ?_);(focus (repeat (first|exact (Kd.C_below HR0_2.out (hb_))|(with_reducible refine Kd.C_alloc ?_ _)|(with_reducible refine Kd.C_drewN ?_ _)|(with_reducible refine Kd.C_drew ?_))));exact HC0_2.out;(focus (repeat (first|exact (Kd.C_below HR0_3.out (hb_))|(with_reducible refine Kd.C_alloc ?_ _)|(with_reducible refine Kd.C_drewN ?_ _)|(with_reducible refine Kd.C_drew ?_))));exact HC0_3.out;rintro e w24 ⟨rfl,hb⟩;refine ⟨_,rfl,?_⟩;replace BK137:=bkb BK137 hb;replace HB:=hbs hb))
    go_ret3
    exact ⟨er_,hb_⟩
 ·replace c8:=Bool.eq_false_iff.mpr c8;subst c8;rw [if_neg (show ¬ (false=true) by decide)] at H;simp only [Option.some.injEq,Prod.mk.injEq] at H;obtain ⟨rfl,rfl,rfl⟩:=H;go_enter Try.func15,Try.ntmps15;go_wp2_with (first|((with_reducible refine gate_dst (N:=4) rfl ?_);refine box_ev (N:=4) (cs:=#[.int .i64 a0_0,.int .i64 a0_1,.slice A0_2 l0_2.length c0_2,.slice A0_3 l0_3.length c0_3]) (t:=24) ?_;intro gb137 hg w25 hbox hb;have BK137:=Aside0.mk hbox;have GW137:=gsz (w:=w) hg;have GE137:=GW137;replace HB:=hbs hb;clear hb hbox hg;obtain ⟨_,_,_,_,_,_,_,_⟩:=cells4 BK137.out)|((with_reducible refine gate_callee (f:=36) rfl ?_);refine goesL_ (some 15) rfl rfl Try.func36 (by kernel_rfl) rfl #[.agg #[.int .i64 a0_0,.int .i64 a0_1,.slice A0_2 l0_2.length c0_2,.slice A0_3 l0_3.length c0_3]] rfl ga_ ?_;(with_reducible refine (road_Validate.calls k a0_0 a0_1 _ _ l0_2 _ _ l0_3 t138 _ ?_ ?_ ?_ ?_ A5.out).mono ?_);exact cq HR0_2;exact HC0_2.out;exact cq HR0_3;exact HC0_3.out;rintro e w27 ⟨rfl,hb⟩;refine ⟨_,rfl,?_⟩;replace BK137:=bkb BK137 hb;replace HB:=hbs hb;obtain ⟨_,_,_,_,_,_,_,_⟩:=cells4 BK137.out)|((with_reducible refine gate_callee (f:=37) rfl ?_);refine goesL_ (some 27) rfl rfl Try.func37 (by kernel_rfl) rfl #[.int .i64 a1,.int .i64 (wrap64 ((wrap64 (a0_0 * a0_1)) - 1))] rfl ga_ ?_;(with_reducible refine (lane_within.calls a1 (wrap64 ((wrap64 (a0_0 * a0_1)) - 1)) false _ A7.out).mono ?_);rintro e w' ⟨rfl,⟨nd,rfl⟩⟩;refine ⟨_,rfl,?_⟩))
  go_ret3
  exact ⟨er_,hb_⟩

/-! ### hinterlandlaw17_known: function 13 -/
def hinterlandlaw17_known.j0:Nat→Bool→Option (Bool)
 | 0,_=>none
 | k+1,x0=>some x0
def hinterlandlaw17_known.f (k:Nat) :Option (Bool) := if 16≤35184372088832 then ((some (List.replicate 16 0:List Int)).bind fun y142=>(if 0<(y142.length:Int) then (if 1<(y142.length:Int) then ((lane_Choose.f k 4 4 ((y142.set (0:Int).toNat 1).set (1:Int).toNat 4) (List.replicate 16 0) 1 (-1) 0).bind fun bt151=>(if bt151.1=2 then (if bt151.2.1=true then (hinterlandlaw17_known.j0 k (bt151.2.2 == 0)) else (hinterlandlaw17_known.j0 k false)) else (hinterlandlaw17_known.j0 k false))) else (none)) else (none))) else (none)
theorem hinterlandlaw17_known.mono_l:∀ k,(∀ y0,LeO (hinterlandlaw17_known.j0 k y0) (hinterlandlaw17_known.j0 (k+1) y0))
 | 0=>fun _ r h=>by simp [hinterlandlaw17_known.j0] at h
 | k+1=>by
  have ih0:=hinterlandlaw17_known.mono_l k
  ·intro y0;unfold hinterlandlaw17_known.j0;repeat' first
   | (with_reducible exact ih0 _)
   | (with_reducible exact lane_Choose.mono _ _ _ _ _ _ _ _)
   | (with_reducible exact LeO.refl _)
   | (with_reducible exact LeO.none _)
   | (with_reducible refine LeO.ite ?_ ?_)
   | (with_reducible refine LeO.bind ?_ (fun _=>?_))
theorem hinterlandlaw17_known.mono:∀ k,LeO (hinterlandlaw17_known.f k ) (hinterlandlaw17_known.f (k+1) ) := by
 intro  k;have ih0:=hinterlandlaw17_known.mono_l k;unfold hinterlandlaw17_known.f;repeat' first
   | (with_reducible exact ih0 _)
   | (with_reducible exact lane_Choose.mono _ _ _ _ _ _ _ _)
   | (with_reducible exact LeO.refl _)
   | (with_reducible exact LeO.none _)
   | (with_reducible refine LeO.ite ?_ ?_)
   | (with_reducible refine LeO.bind ?_ (fun _=>?_))
set_option maxHeartbeats 8000000 in
set_option maxRecDepth 100000 in
theorem hinterlandlaw17_known.calls (k:Nat)  (r:Bool) (w:World) (h:hinterlandlaw17_known.f k =some r) :
  Calls Try.prog 13 #[] w fun e w'=>e=.returned (.bool r)∧Below w.heap.size w w':=by
 have hu24:=Try.underlying24;have HB:=Aside0.mk (Below.refl w.heap.size w);have H:=h;clear h;unfold hinterlandlaw17_known.f at H;obtain ⟨c1,H⟩:=ifp_ H;have c1b0:=eq_true c1;have c1b1:=decide_eq_true c1;clear c1;obtain ⟨y142,hy142⟩:∃ y_:List Int,y_=(List.replicate 16 0):=⟨_,rfl⟩;replace H:(if 0<(y142.length:Int) then (if 1<(y142.length:Int) then ((lane_Choose.f k 4 4 ((y142.set (0:Int).toNat 1).set (1:Int).toNat 4) (List.replicate 16 0) 1 (-1) 0).bind fun bt151=>(if bt151.1=2 then (if bt151.2.1=true then (hinterlandlaw17_known.j0 k (bt151.2.2 == 0)) else (hinterlandlaw17_known.j0 k false)) else (hinterlandlaw17_known.j0 k false))) else (none)) else (none))=some r:=hyx hy142 H;have Ny142:=Aside0.mk hy142;clear hy142;obtain ⟨y145,hy145⟩:∃ y_:List Int,y_=(List.replicate 16 0):=⟨_,rfl⟩;replace H:(if 0<(y142.length:Int) then (if 1<(y142.length:Int) then ((lane_Choose.f k 4 4 ((y142.set (0:Int).toNat 1).set (1:Int).toNat 4) y145 1 (-1) 0).bind fun bt151=>(if bt151.1=2 then (if bt151.2.1=true then (hinterlandlaw17_known.j0 k (bt151.2.2 == 0)) else (hinterlandlaw17_known.j0 k false)) else (hinterlandlaw17_known.j0 k false))) else (none)) else (none))=some r:=hyx hy145 H;have Ny145:=Aside0.mk hy145;clear hy145;obtain ⟨c2,H⟩:=ifp_ H;have c2b0:=decide_eq_true c2;have c2b1:decide (0<y142.length)=true:=decide_eq_true (by omega);clear c2;obtain ⟨y149,hy149⟩:∃ y_:List Int,y_=(y142.set (0:Int).toNat 1):=⟨_,rfl⟩;replace H:(if 1<(y142.length:Int) then ((lane_Choose.f k 4 4 (y149.set (1:Int).toNat 4) y145 1 (-1) 0).bind fun bt151=>(if bt151.1=2 then (if bt151.2.1=true then (hinterlandlaw17_known.j0 k (bt151.2.2 == 0)) else (hinterlandlaw17_known.j0 k false)) else (hinterlandlaw17_known.j0 k false))) else (none))=some r:=hyx hy149 H;have Ny149:=Aside0.mk hy149;clear hy149;obtain ⟨c4,H⟩:=ifp_ H;have c4b0:=decide_eq_true c4;have c4b1:decide (1<y142.length)=true:=decide_eq_true (by omega);clear c4;obtain ⟨y150,hy150⟩:∃ y_:List Int,y_=(y149.set (1:Int).toNat 4):=⟨_,rfl⟩;replace H:((lane_Choose.f k 4 4 y150 y145 1 (-1) 0).bind fun bt151=>(if bt151.1=2 then (if bt151.2.1=true then (hinterlandlaw17_known.j0 k (bt151.2.2 == 0)) else (hinterlandlaw17_known.j0 k false)) else (hinterlandlaw17_known.j0 k false)))=some r:=hyx hy150 H;have Ny150:=Aside0.mk hy150;clear hy150;obtain ⟨⟨t151,t152,t153⟩,A6,H⟩:=bnd H;(try dsimp only at H);have HC7:=Aside0.mk H;clear H;go_enter Try.func13,Try.ntmps13;try go_wp2
 replace HB:=Aside0.mk (below_drew1 HB.out);refine start_ (n:=5) (S:=fun w'=>True) (ds:=[]) #[false,false,false,false,false] (by kernel_rfl) rfl rfl trivial (fun hHeld=>?_);generalize w.drew=w8 at HB hHeld ⊢;refine join_ (σ:=Value × Value × Nat) 1 #[true,true,true,true,false] (fun s_=>[(5,s_.1),(6,s_.2.1),(1,.pointer (some ⟨s_.2.2,0,none⟩)),(7,.agg #[.int .i64 4,.int .i64 4,s_.1,s_.2.1])]) (fun s_ w'=>(Kd.R (Kd.int .i64) 3 w' w.heap.size (fun k_=>some k_ ≠ (s_.2.1:Value).ownBlock) s_.1 y142)∧(Kd.R (Kd.int .i64) 3 w' w.heap.size (fun k_=>some k_ ≠ (s_.1:Value).ownBlock) s_.2.1 y145)∧(w'.heap[s_.2.2]?=some (.cells #[.int .i64 0,.int .i64 0,.slice none 0 0,.slice none 0 0] 24 (0,0)))∧(w.heap.size≤s_.2.2)∧(w.heap.size≤s_.2.2)∧(Below w.heap.size w w')) ?_ ?_;rotate_left
 ·intro hJ0_1_3;refine join_ (σ:=Value × Value) 2 #[true,true,true,false,false] (fun s_=>[(5,s_.1),(6,s_.2),(7,.agg #[.int .i64 4,.int .i64 4,s_.1,s_.2])]) (fun s_ w'=>(Kd.R (Kd.int .i64) 3 w' w.heap.size (fun k_=>some k_ ≠ (s_.2:Value).ownBlock) s_.1 y142)∧(Kd.R (Kd.int .i64) 3 w' w.heap.size (fun k_=>some k_ ≠ (s_.1:Value).ownBlock) s_.2 y145)∧(Below w.heap.size w w')) ?_ ?_;rotate_left
  ·intro hJ0_1;refine join_ (σ:=Value × Nat) 3 #[true,false,false,true,false] (fun s_=>[(5,s_.1),(1,.pointer (some ⟨s_.2,0,none⟩))]) (fun s_ w'=>(Kd.R (Kd.int .i64) 3 w' w.heap.size (fun _=>True) s_.1 y142)∧(w'.heap[s_.2]?=some (.cells #[.int .i64 0,.int .i64 0,.slice none 0 0,.slice none 0 0] 24 (0,0)))∧(w.heap.size≤s_.2)∧(w.heap.size≤s_.2)∧(Below w.heap.size w w')) ?_ ?_;rotate_left
   ·intro hJ0_3;refine join_ (σ:=Value × Nat) 3 #[false,true,false,true,false] (fun s_=>[(6,s_.1),(1,.pointer (some ⟨s_.2,0,none⟩))]) (fun s_ w'=>(Kd.R (Kd.int .i64) 3 w' w.heap.size (fun _=>True) s_.1 y145)∧(w'.heap[s_.2]?=some (.cells #[.int .i64 0,.int .i64 0,.slice none 0 0,.slice none 0 0] 24 (0,0)))∧(w.heap.size≤s_.2)∧(w.heap.size≤s_.2)∧(Below w.heap.size w w')) ?_ ?_;rotate_left
    ·intro hJ1_3;refine join_ (σ:=Value) 4 #[true,false,false,false,false] (fun s_=>[(5,s_)]) (fun s_ w'=>(Kd.R (Kd.int .i64) 3 w' w.heap.size (fun _=>True) s_ y142)∧(Below w.heap.size w w')) ?_ ?_;rotate_left
     ·intro hJ0;refine join_ (σ:=Value) 4 #[false,true,false,false,false] (fun s_=>[(6,s_)]) (fun s_ w'=>(Kd.R (Kd.int .i64) 3 w' w.heap.size (fun _=>True) s_ y145)∧(Below w.heap.size w w')) ?_ ?_;rotate_left
      ·intro hJ1;refine join_ (σ:=Nat) 4 #[false,false,false,true,false] (fun s_=>[(1,.pointer (some ⟨s_,0,none⟩))]) (fun s_ w'=>(w'.heap[s_]?=some (.cells #[.int .i64 0,.int .i64 0,.slice none 0 0,.slice none 0 0] 24 (0,0)))∧(w.heap.size≤s_)∧(w.heap.size≤s_)∧(Below w.heap.size w w')) ?_ ?_;rotate_left
       ·intro hJ3;refine three_ (i:=0) (j:=1) (k:=3) (Ni:=some 5) (Nj:=some 6) (Nk:=some 1) #[true,false,false,false,false] #[false,true,false,false,false] #[false,false,false,true,false] rfl rfl rfl rfl rfl rfl (by kernel_rfl) (by decide) (by decide) (by decide) (fun K hK=>?_) (fun K hK=>?_) (fun K hK=>?_)
        ·skip
         refine Kd.R_make_step (Kd.int .i64) _ 3 (by rfl) (N:=5) rfl 22 _ _ rfl 16 rfl rfl Try.underlying22 (.int .i64 0) 8 info3 rfl (by decide) (by omega) 0 (ok:=fun _=>True) (okp:=fun _=>True) rfl (fun _ hk=>hk) trivial (by omega) (by omega) (Below.refl _ _) (Nat.le_refl _) ?_;intro v143 w9 ho10 hb hg_ hnew_;clear hg_ hnew_;(first|rw [← Ny142.out] at ho10|(simp only [Int.reduceToNat] at ho10;rw [← Ny142.out] at ho10));have HO144:=rlo ho10;replace HB:=Aside0.mk (below_step (hb_) hb);clear hb ho10;refine hK.out _ _ trivial (fun hHeld=>?_);clear hK K;refine nrm 5 ?_;exact norm_ (by first|(simp only [putAll,Act.put,List.setIfInBounds_toArray,List.set_cons_zero,List.set_cons_succ];done)|(simp only [putAll,Act.put,List.setIfInBounds_toArray,List.set_cons_zero,List.set_cons_succ];rfl)) (hJ0 (v143) _ ⟨(Kd.R_up HO144.out),(hb_)⟩)
        ·skip
         refine Kd.R_make_step (Kd.int .i64) _ 3 (by rfl) (N:=6) rfl 22 _ _ rfl 16 rfl rfl Try.underlying22 (.int .i64 0) 8 info3 rfl (by decide) (by omega) 0 (ok:=fun _=>True) (okp:=fun _=>True) rfl (fun _ hk=>hk) trivial (by omega) (by omega) (Below.refl _ _) (Nat.le_refl _) ?_;intro v146 w9 ho10 hb hg_ hnew_;clear hg_ hnew_;(first|rw [← Ny145.out] at ho10|(simp only [Int.reduceToNat] at ho10;rw [← Ny145.out] at ho10));have HO147:=rlo ho10;replace HB:=Aside0.mk (below_step (hb_) hb);clear hb ho10;refine hK.out _ _ trivial (fun hHeld=>?_);clear hK K;refine nrm 6 ?_;exact norm_ (by first|(simp only [putAll,Act.put,List.setIfInBounds_toArray,List.set_cons_zero,List.set_cons_succ];done)|(simp only [putAll,Act.put,List.setIfInBounds_toArray,List.set_cons_zero,List.set_cons_succ];rfl)) (hJ1 (v146) _ ⟨(Kd.R_up HO147.out),(hb_)⟩)
        ·skip
         refine box_step ?hg (N:=1) ?hd (cs:=#[.int .i64 0,.int .i64 0,.slice none 0 0,.slice none 0 0]) (t:=24) ?hr ?_;(case hd=>rfl);(case hg=>rfl);(case hr=>first|(go_simp;done)|(go_simp;rfl));intro gb148 hg w9 hbox hb;have BK148:=Aside0.mk hbox;have GW148:=Aside0.mk ((by rw [hg];exact (below_size (hb_)):w.heap.size≤gb148));have GE148:=Aside0.mk ((by rw [hg];exact (below_size (hb_)):w.heap.size≤gb148));replace HB:=Aside0.mk (below_step (hb_) hb);clear hb hbox hg;refine hK.out _ _ trivial (fun hHeld=>?_);clear hK K;refine nrm 1 ?_;exact norm_ (by first|(simp only [putAll,Act.put,List.setIfInBounds_toArray,List.set_cons_zero,List.set_cons_succ];done)|(simp only [putAll,Act.put,List.setIfInBounds_toArray,List.set_cons_zero,List.set_cons_succ];rfl)) (hJ3 (gb148) _ ⟨(blk_up BK148.out),GW148.out,GE148.out,(hb_)⟩)
       ·skip
        rintro gb148 w10 ⟨h0_,h1_,h2_,h3_⟩;have n0_:Aside0 (w10.heap[gb148]?=some (.cells #[.int .i64 0,.int .i64 0,.slice none 0 0,.slice none 0 0] 24 (0,0))):=⟨h0_⟩;have n1_:Aside0 (w.heap.size≤gb148):=⟨h1_⟩;have n2_:Aside0 (w.heap.size≤gb148):=⟨h2_⟩;have n3_:Aside0 (Below w.heap.size w w10):=⟨h3_⟩;clear HB h0_ h1_ h2_ h3_;have BK148:=n0_;have GW148:=n1_;have GE148:=n2_;have HB:=n3_;clear n0_ n1_ n2_ n3_;have hHeld:=trivial;refine norm_ (a':=?_) ?_ ?_;rotate_left
        ·simp only [putAll,Act.put,List.setIfInBounds_toArray,List.set_cons_zero,List.set_cons_succ];rfl
        refine two_ (i:=0) (j:=1) (Ni:=some 5) (Nj:=some 6) #[true,false,false,true,false] #[false,true,false,true,false] rfl rfl rfl rfl (by kernel_rfl) (by decide) (by decide) (fun K hK=>?_) (fun K hK=>?_)
        ·skip
         refine Kd.R_make_step (Kd.int .i64) _ 3 (by rfl) (N:=5) rfl 22 _ _ rfl 16 rfl rfl Try.underlying22 (.int .i64 0) 8 info3 rfl (by decide) (by omega) 0 (ok:=fun _=>True) (okp:=fun _=>True) rfl (fun _ hk=>hk) trivial (by omega) (by omega) (Below.refl _ _) (Nat.le_refl _) ?_;intro v143 w11 ho12 hb hg_ hnew_;clear hg_ hnew_;(first|rw [← Ny142.out] at ho12|(simp only [Int.reduceToNat] at ho12;rw [← Ny142.out] at ho12));have HO144:=rlo ho12;replace BK148:=bkb BK148 hb;replace HB:=Aside0.mk (below_step (hb_) hb);clear hb ho12;refine hK.out _ _ trivial (fun hHeld=>?_);clear hK K;refine nrm 5 ?_;exact norm_ (by first|(simp only [putAll,Act.put,List.setIfInBounds_toArray,List.set_cons_zero,List.set_cons_succ];done)|(simp only [putAll,Act.put,List.setIfInBounds_toArray,List.set_cons_zero,List.set_cons_succ];rfl)) (hJ0_3 (v143,gb148) _ ⟨(Kd.R_up HO144.out),(blk_up BK148.out),GW148.out,GE148.out,(hb_)⟩)
        ·skip
         refine Kd.R_make_step (Kd.int .i64) _ 3 (by rfl) (N:=6) rfl 22 _ _ rfl 16 rfl rfl Try.underlying22 (.int .i64 0) 8 info3 rfl (by decide) (by omega) 0 (ok:=fun _=>True) (okp:=fun _=>True) rfl (fun _ hk=>hk) trivial (by omega) (by omega) (Below.refl _ _) (Nat.le_refl _) ?_;intro v146 w11 ho12 hb hg_ hnew_;clear hg_ hnew_;(first|rw [← Ny145.out] at ho12|(simp only [Int.reduceToNat] at ho12;rw [← Ny145.out] at ho12));have HO147:=rlo ho12;replace BK148:=bkb BK148 hb;replace HB:=Aside0.mk (below_step (hb_) hb);clear hb ho12;refine hK.out _ _ trivial (fun hHeld=>?_);clear hK K;refine nrm 6 ?_;exact norm_ (by first|(simp only [putAll,Act.put,List.setIfInBounds_toArray,List.set_cons_zero,List.set_cons_succ];done)|(simp only [putAll,Act.put,List.setIfInBounds_toArray,List.set_cons_zero,List.set_cons_succ];rfl)) (hJ1_3 (v146,gb148) _ ⟨(Kd.R_up HO147.out),(blk_up BK148.out),GW148.out,GE148.out,(hb_)⟩)
      ·skip
       rintro v146 w11 ⟨h0_,h1_⟩;have n0_:Aside0 (Kd.R (Kd.int .i64) 3 w11 w.heap.size (fun _=>True) v146 y145):=⟨h0_⟩;have n1_:Aside0 (Below w.heap.size w w11):=⟨h1_⟩;clear HB h0_ h1_;have HO147:=n0_;have HB:=n1_;clear n0_ n1_;have hHeld:=trivial;refine norm_ (a':=?_) ?_ ?_;rotate_left
       ·simp only [putAll,Act.put,List.setIfInBounds_toArray,List.set_cons_zero,List.set_cons_succ];rfl
       refine two_ (i:=0) (j:=3) (Ni:=some 5) (Nj:=some 1) #[true,true,false,false,false] #[false,true,false,true,false] rfl rfl rfl rfl (by kernel_rfl) (by decide) (by decide) (fun K hK=>?_) (fun K hK=>?_)
       ·skip
        refine Kd.R_make_step (Kd.int .i64) _ 3 (by rfl) (N:=5) rfl 22 _ _ rfl 16 rfl rfl Try.underlying22 (.int .i64 0) 8 info3 rfl (by decide) (by omega) 0 (ok:=fun _=>True) (okp:=fun _=>True) rfl (fun _ hk=>hk) trivial (by omega) (by omega) (Below.refl _ _) (Nat.le_refl _) ?_;intro v143 w12 ho13 hb hg_ hnew_;clear hg_ hnew_;(first|rw [← Ny142.out] at ho13|(simp only [Int.reduceToNat] at ho13;rw [← Ny142.out] at ho13));have HO144:=Aside0.mk (Kd.R_lower (Kd.R_new' ho13 (Kd.R_lt (Kd.R_up HO147.out))) (below_size (hb_)));replace HO147:=Aside0.mk (Kd.R_elder' (Kd.R_up HO147.out) (Kd.R_base ho13) hb);replace HB:=Aside0.mk (below_step (hb_) hb);clear hb ho13;obtain ⟨Ao14,co14,eo14⟩:=Kd.R_slice HO147.out;(first|subst eo14|(injection eo14 with f1_ f2_ f3_;have f4_:=f1_.symm;have f5_:=f3_.symm;clear f1_ f2_ f3_;subst f4_;subst f5_));obtain ⟨Ao15,co15,eo15⟩:=Kd.R_slice HO144.out;(first|subst eo15|(injection eo15 with f1_ f2_ f3_;have f4_:=f1_.symm;have f5_:=f3_.symm;clear f1_ f2_ f3_;subst f4_;subst f5_));refine hK.out _ _ trivial (fun hHeld=>?_);clear hK K;refine nrm 5 ?_;refine pI 2 (some 7) ?_;exact norm_ (by first|(simp only [putAll,Act.put,List.setIfInBounds_toArray,List.set_cons_zero,List.set_cons_succ];done)|(simp only [putAll,Act.put,List.setIfInBounds_toArray,List.set_cons_zero,List.set_cons_succ];rfl)) (hJ0_1 (.slice Ao15 y142.length co15,.slice Ao14 y145.length co14) _ ⟨(by (with_reducible repeat (first|apply Kd.R_alloc|apply Kd.R_drewN|apply Kd.R_drew));exact Kd.R_mono HO144.out (fun _ hk=>hk.2)),(by (with_reducible repeat (first|apply Kd.R_alloc|apply Kd.R_drewN|apply Kd.R_drew));exact Kd.R_mono HO147.out (fun _ hk=>hk.2)),(hb_)⟩)
       ·skip
        refine box_step ?hg (N:=1) ?hd (cs:=#[.int .i64 0,.int .i64 0,.slice none 0 0,.slice none 0 0]) (t:=24) ?hr ?_;(case hd=>rfl);(case hg=>rfl);(case hr=>first|(go_simp;done)|(go_simp;rfl));intro gb148 hg w12 hbox hb;replace HO147:=rbw HO147 hb;have BK148:=Aside0.mk hbox;have GW148:=Aside0.mk ((by rw [hg];exact (below_size (hb_)):w.heap.size≤gb148));have GE148:=Aside0.mk ((by rw [hg];exact (below_size (hb_)):w.heap.size≤gb148));replace HB:=Aside0.mk (below_step (hb_) hb);clear hb hbox hg;refine hK.out _ _ trivial (fun hHeld=>?_);clear hK K;refine nrm 1 ?_;exact norm_ (by first|(simp only [putAll,Act.put,List.setIfInBounds_toArray,List.set_cons_zero,List.set_cons_succ];done)|(simp only [putAll,Act.put,List.setIfInBounds_toArray,List.set_cons_zero,List.set_cons_succ];rfl)) (hJ1_3 (v146,gb148) _ ⟨(Kd.R_up HO147.out),(blk_up BK148.out),GW148.out,GE148.out,(hb_)⟩)
     ·skip
      rintro v143 w11 ⟨h0_,h1_⟩;have n0_:Aside0 (Kd.R (Kd.int .i64) 3 w11 w.heap.size (fun _=>True) v143 y142):=⟨h0_⟩;have n1_:Aside0 (Below w.heap.size w w11):=⟨h1_⟩;clear HB h0_ h1_;have HO144:=n0_;have HB:=n1_;clear n0_ n1_;have hHeld:=trivial;refine norm_ (a':=?_) ?_ ?_;rotate_left
      ·simp only [putAll,Act.put,List.setIfInBounds_toArray,List.set_cons_zero,List.set_cons_succ];rfl
      refine two_ (i:=1) (j:=3) (Ni:=some 6) (Nj:=some 1) #[true,true,false,false,false] #[true,false,false,true,false] rfl rfl rfl rfl (by kernel_rfl) (by decide) (by decide) (fun K hK=>?_) (fun K hK=>?_)
      ·skip
       refine Kd.R_make_step (Kd.int .i64) _ 3 (by rfl) (N:=6) rfl 22 _ _ rfl 16 rfl rfl Try.underlying22 (.int .i64 0) 8 info3 rfl (by decide) (by omega) 0 (ok:=fun _=>True) (okp:=fun _=>True) rfl (fun _ hk=>hk) trivial (by omega) (by omega) (Below.refl _ _) (Nat.le_refl _) ?_;intro v146 w12 ho13 hb hg_ hnew_;clear hg_ hnew_;(first|rw [← Ny145.out] at ho13|(simp only [Int.reduceToNat] at ho13;rw [← Ny145.out] at ho13));have HO147:=Aside0.mk (Kd.R_lower (Kd.R_new' ho13 (Kd.R_lt (Kd.R_up HO144.out))) (below_size (hb_)));replace HO144:=Aside0.mk (Kd.R_elder' (Kd.R_up HO144.out) (Kd.R_base ho13) hb);replace HB:=Aside0.mk (below_step (hb_) hb);clear hb ho13;obtain ⟨Ao14,co14,eo14⟩:=Kd.R_slice HO147.out;(first|subst eo14|(injection eo14 with f1_ f2_ f3_;have f4_:=f1_.symm;have f5_:=f3_.symm;clear f1_ f2_ f3_;subst f4_;subst f5_));obtain ⟨Ao15,co15,eo15⟩:=Kd.R_slice HO144.out;(first|subst eo15|(injection eo15 with f1_ f2_ f3_;have f4_:=f1_.symm;have f5_:=f3_.symm;clear f1_ f2_ f3_;subst f4_;subst f5_));refine hK.out _ _ trivial (fun hHeld=>?_);clear hK K;refine nrm 6 ?_;refine pI 2 (some 7) ?_;exact norm_ (by first|(simp only [putAll,Act.put,List.setIfInBounds_toArray,List.set_cons_zero,List.set_cons_succ];done)|(simp only [putAll,Act.put,List.setIfInBounds_toArray,List.set_cons_zero,List.set_cons_succ];rfl)) (hJ0_1 (.slice Ao15 y142.length co15,.slice Ao14 y145.length co14) _ ⟨(by (with_reducible repeat (first|apply Kd.R_alloc|apply Kd.R_drewN|apply Kd.R_drew));exact Kd.R_mono HO144.out (fun _ hk=>hk.2)),(by (with_reducible repeat (first|apply Kd.R_alloc|apply Kd.R_drewN|apply Kd.R_drew));exact Kd.R_mono HO147.out (fun _ hk=>hk.2)),(hb_)⟩)
      ·skip
       refine box_step ?hg (N:=1) ?hd (cs:=#[.int .i64 0,.int .i64 0,.slice none 0 0,.slice none 0 0]) (t:=24) ?hr ?_;(case hd=>rfl);(case hg=>rfl);(case hr=>first|(go_simp;done)|(go_simp;rfl));intro gb148 hg w12 hbox hb;replace HO144:=rbw HO144 hb;have BK148:=Aside0.mk hbox;have GW148:=Aside0.mk ((by rw [hg];exact (below_size (hb_)):w.heap.size≤gb148));have GE148:=Aside0.mk ((by rw [hg];exact (below_size (hb_)):w.heap.size≤gb148));replace HB:=Aside0.mk (below_step (hb_) hb);clear hb hbox hg;refine hK.out _ _ trivial (fun hHeld=>?_);clear hK K;refine nrm 1 ?_;exact norm_ (by first|(simp only [putAll,Act.put,List.setIfInBounds_toArray,List.set_cons_zero,List.set_cons_succ];done)|(simp only [putAll,Act.put,List.setIfInBounds_toArray,List.set_cons_zero,List.set_cons_succ];rfl)) (hJ0_3 (v143,gb148) _ ⟨(Kd.R_up HO144.out),(blk_up BK148.out),GW148.out,GE148.out,(hb_)⟩)
    ·skip
     rintro ⟨v146,gb148⟩ w12 ⟨h0_,h1_,h2_,h3_,h4_⟩;have n0_:Aside0 (Kd.R (Kd.int .i64) 3 w12 w.heap.size (fun _=>True) v146 y145):=⟨h0_⟩;have n1_:Aside0 (w12.heap[gb148]?=some (.cells #[.int .i64 0,.int .i64 0,.slice none 0 0,.slice none 0 0] 24 (0,0))):=⟨h1_⟩;have n2_:Aside0 (w.heap.size≤gb148):=⟨h2_⟩;have n3_:Aside0 (w.heap.size≤gb148):=⟨h3_⟩;have n4_:Aside0 (Below w.heap.size w w12):=⟨h4_⟩;clear HB h0_ h1_ h2_ h3_ h4_;have HO147:=n0_;have BK148:=n1_;have GW148:=n2_;have GE148:=n3_;have HB:=n4_;clear n0_ n1_ n2_ n3_ n4_;have hHeld:=trivial;refine norm_ (a':=?_) ?_ ?_;rotate_left
     ·simp only [putAll,Act.put,List.setIfInBounds_toArray,List.set_cons_zero,List.set_cons_succ];rfl
     refine oI 0 (some 5) (fun K hK=>?_);refine Kd.R_make_step (Kd.int .i64) _ 3 (by rfl) (N:=5) rfl 22 _ _ rfl 16 rfl rfl Try.underlying22 (.int .i64 0) 8 info3 rfl (by decide) (by omega) 0 (ok:=fun _=>True) (okp:=fun _=>True) rfl (fun _ hk=>hk) trivial (by omega) (by omega) (Below.refl _ _) (Nat.le_refl _) ?_;intro v143 w13 ho14 hb hg_ hnew_;clear hg_ hnew_;(first|rw [← Ny142.out] at ho14|(simp only [Int.reduceToNat] at ho14;rw [← Ny142.out] at ho14));have HO144:=Aside0.mk (Kd.R_lower (Kd.R_new' ho14 (Kd.R_lt (Kd.R_up HO147.out))) (below_size (hb_)));replace HO147:=Aside0.mk (Kd.R_elder' (Kd.R_up HO147.out) (Kd.R_base ho14) hb);replace BK148:=bkb BK148 hb;replace HB:=Aside0.mk (below_step (hb_) hb);clear hb ho14;obtain ⟨Ao15,co15,eo15⟩:=Kd.R_slice HO147.out;(first|subst eo15|(injection eo15 with f1_ f2_ f3_;have f4_:=f1_.symm;have f5_:=f3_.symm;clear f1_ f2_ f3_;subst f4_;subst f5_));obtain ⟨Ao16,co16,eo16⟩:=Kd.R_slice HO144.out;(first|subst eo16|(injection eo16 with f1_ f2_ f3_;have f4_:=f1_.symm;have f5_:=f3_.symm;clear f1_ f2_ f3_;subst f4_;subst f5_));refine hK.out _ _ trivial (fun hHeld=>?_);clear hK K;refine nrm 5 ?_;refine pI 2 (some 7) ?_;exact norm_ (by first|(simp only [putAll,Act.put,List.setIfInBounds_toArray,List.set_cons_zero,List.set_cons_succ];done)|(simp only [putAll,Act.put,List.setIfInBounds_toArray,List.set_cons_zero,List.set_cons_succ];rfl)) (hJ0_1_3 (.slice Ao16 y142.length co16,.slice Ao15 y145.length co15,gb148) _ ⟨(by (with_reducible repeat (first|apply Kd.R_alloc|apply Kd.R_drewN|apply Kd.R_drew));exact Kd.R_mono HO144.out (fun _ hk=>hk.2)),(by (with_reducible repeat (first|apply Kd.R_alloc|apply Kd.R_drewN|apply Kd.R_drew));exact Kd.R_mono HO147.out (fun _ hk=>hk.2)),(blk_up BK148.out),GW148.out,GE148.out,(hb_)⟩)
   ·skip
    rintro ⟨v143,gb148⟩ w12 ⟨h0_,h1_,h2_,h3_,h4_⟩;have n0_:Aside0 (Kd.R (Kd.int .i64) 3 w12 w.heap.size (fun _=>True) v143 y142):=⟨h0_⟩;have n1_:Aside0 (w12.heap[gb148]?=some (.cells #[.int .i64 0,.int .i64 0,.slice none 0 0,.slice none 0 0] 24 (0,0))):=⟨h1_⟩;have n2_:Aside0 (w.heap.size≤gb148):=⟨h2_⟩;have n3_:Aside0 (w.heap.size≤gb148):=⟨h3_⟩;have n4_:Aside0 (Below w.heap.size w w12):=⟨h4_⟩;clear HB h0_ h1_ h2_ h3_ h4_;have HO144:=n0_;have BK148:=n1_;have GW148:=n2_;have GE148:=n3_;have HB:=n4_;clear n0_ n1_ n2_ n3_ n4_;have hHeld:=trivial;refine norm_ (a':=?_) ?_ ?_;rotate_left
    ·simp only [putAll,Act.put,List.setIfInBounds_toArray,List.set_cons_zero,List.set_cons_succ];rfl
    refine oI 1 (some 6) (fun K hK=>?_);refine Kd.R_make_step (Kd.int .i64) _ 3 (by rfl) (N:=6) rfl 22 _ _ rfl 16 rfl rfl Try.underlying22 (.int .i64 0) 8 info3 rfl (by decide) (by omega) 0 (ok:=fun _=>True) (okp:=fun _=>True) rfl (fun _ hk=>hk) trivial (by omega) (by omega) (Below.refl _ _) (Nat.le_refl _) ?_;intro v146 w13 ho14 hb hg_ hnew_;clear hg_ hnew_;(first|rw [← Ny145.out] at ho14|(simp only [Int.reduceToNat] at ho14;rw [← Ny145.out] at ho14));have HO147:=Aside0.mk (Kd.R_lower (Kd.R_new' ho14 (Kd.R_lt (Kd.R_up HO144.out))) (below_size (hb_)));replace HO144:=Aside0.mk (Kd.R_elder' (Kd.R_up HO144.out) (Kd.R_base ho14) hb);replace BK148:=bkb BK148 hb;replace HB:=Aside0.mk (below_step (hb_) hb);clear hb ho14;obtain ⟨Ao15,co15,eo15⟩:=Kd.R_slice HO147.out;(first|subst eo15|(injection eo15 with f1_ f2_ f3_;have f4_:=f1_.symm;have f5_:=f3_.symm;clear f1_ f2_ f3_;subst f4_;subst f5_));obtain ⟨Ao16,co16,eo16⟩:=Kd.R_slice HO144.out;(first|subst eo16|(injection eo16 with f1_ f2_ f3_;have f4_:=f1_.symm;have f5_:=f3_.symm;clear f1_ f2_ f3_;subst f4_;subst f5_));refine hK.out _ _ trivial (fun hHeld=>?_);clear hK K;refine nrm 6 ?_;refine pI 2 (some 7) ?_;exact norm_ (by first|(simp only [putAll,Act.put,List.setIfInBounds_toArray,List.set_cons_zero,List.set_cons_succ];done)|(simp only [putAll,Act.put,List.setIfInBounds_toArray,List.set_cons_zero,List.set_cons_succ];rfl)) (hJ0_1_3 (.slice Ao16 y142.length co16,.slice Ao15 y145.length co15,gb148) _ ⟨(by (with_reducible repeat (first|apply Kd.R_alloc|apply Kd.R_drewN|apply Kd.R_drew));exact Kd.R_mono HO144.out (fun _ hk=>hk.2)),(by (with_reducible repeat (first|apply Kd.R_alloc|apply Kd.R_drewN|apply Kd.R_drew));exact Kd.R_mono HO147.out (fun _ hk=>hk.2)),(blk_up BK148.out),GW148.out,GE148.out,(hb_)⟩)
  ·skip
   rintro ⟨v143,v146⟩ w15 ⟨h0_,h1_,h2_⟩;have n0_:Aside0 (Kd.R (Kd.int .i64) 3 w15 w.heap.size (fun k_=>some k_ ≠ (v146:Value).ownBlock) v143 y142):=⟨h0_⟩;have n1_:Aside0 (Kd.R (Kd.int .i64) 3 w15 w.heap.size (fun k_=>some k_ ≠ (v143:Value).ownBlock) v146 y145):=⟨h1_⟩;have n2_:Aside0 (Below w.heap.size w w15):=⟨h2_⟩;clear HB h0_ h1_ h2_;have HO144:=n0_;have HO147:=n1_;have HB:=n2_;clear n0_ n1_ n2_;have hHeld:=trivial;obtain ⟨Ao16,co16,eo16⟩:=Kd.R_slice HO147.out;(first|subst eo16|(injection eo16 with f1_ f2_ f3_;have f4_:=f1_.symm;have f5_:=f3_.symm;clear f1_ f2_ f3_;subst f4_;subst f5_));obtain ⟨Ao17,co17,eo17⟩:=Kd.R_slice HO144.out;(first|subst eo17|(injection eo17 with f1_ f2_ f3_;have f4_:=f1_.symm;have f5_:=f3_.symm;clear f1_ f2_ f3_;subst f4_;subst f5_));refine norm_ (a':=?_) ?_ ?_;rotate_left
   ·simp only [putAll,Act.put,List.setIfInBounds_toArray,List.set_cons_zero,List.set_cons_succ];rfl
   refine oI 3 (some 1) (fun K hK=>?_);refine box_step ?hg (N:=1) ?hd (cs:=#[.int .i64 0,.int .i64 0,.slice none 0 0,.slice none 0 0]) (t:=24) ?hr ?_;(case hd=>rfl);(case hg=>rfl);(case hr=>first|(go_simp;done)|(go_simp;rfl));intro gb148 hg w18 hbox hb;replace HO144:=rbw HO144 hb;replace HO147:=rbw HO147 hb;have BK148:=Aside0.mk hbox;have GW148:=Aside0.mk ((by rw [hg];exact (below_size (hb_)):w.heap.size≤gb148));have GE148:=Aside0.mk ((by rw [hg];exact (below_size (hb_)):w.heap.size≤gb148));replace HB:=Aside0.mk (below_step (hb_) hb);clear hb hbox hg;refine hK.out _ _ trivial (fun hHeld=>?_);clear hK K;refine nrm 1 ?_;exact norm_ (by first|(simp only [putAll,Act.put,List.setIfInBounds_toArray,List.set_cons_zero,List.set_cons_succ];done)|(simp only [putAll,Act.put,List.setIfInBounds_toArray,List.set_cons_zero,List.set_cons_succ];rfl)) (hJ0_1_3 (.slice Ao17 y142.length co17,.slice Ao16 y145.length co16,gb148) _ ⟨(Kd.R_up HO144.out),(Kd.R_up HO147.out),(blk_up BK148.out),GW148.out,GE148.out,(hb_)⟩)
 rintro ⟨v143,v146,gb148⟩ w16 ⟨h0_,h1_,h2_,h3_,h4_,h5_⟩;have n0_:Aside0 (Kd.R (Kd.int .i64) 3 w16 w.heap.size (fun k_=>some k_ ≠ (v146:Value).ownBlock) v143 y142):=⟨h0_⟩;have n1_:Aside0 (Kd.R (Kd.int .i64) 3 w16 w.heap.size (fun k_=>some k_ ≠ (v143:Value).ownBlock) v146 y145):=⟨h1_⟩;have n2_:Aside0 (w16.heap[gb148]?=some (.cells #[.int .i64 0,.int .i64 0,.slice none 0 0,.slice none 0 0] 24 (0,0))):=⟨h2_⟩;have n3_:Aside0 (w.heap.size≤gb148):=⟨h3_⟩;have n4_:Aside0 (w.heap.size≤gb148):=⟨h4_⟩;have n5_:Aside0 (Below w.heap.size w w16):=⟨h5_⟩;clear HB h0_ h1_ h2_ h3_ h4_ h5_;have HO144:=n0_;have HO147:=n1_;have BK148:=n2_;have GW148:=n3_;have GE148:=n4_;have HB:=n5_;clear n0_ n1_ n2_ n3_ n4_ n5_;have hHeld:=trivial;obtain ⟨Ao17,co17,eo17⟩:=Kd.R_slice HO147.out;(first|subst eo17|(injection eo17 with f1_ f2_ f3_;have f4_:=f1_.symm;have f5_:=f3_.symm;clear f1_ f2_ f3_;subst f4_;subst f5_));obtain ⟨Ao18,co18,eo18⟩:=Kd.R_slice HO144.out;(first|subst eo18|(injection eo18 with f1_ f2_ f3_;have f4_:=f1_.symm;have f5_:=f3_.symm;clear f1_ f2_ f3_;subst f4_;subst f5_));refine norm_ (a':=?_) ?_ ?_;rotate_left
 ·simp only [putAll,Act.put,List.setIfInBounds_toArray,List.set_cons_zero,List.set_cons_succ];rfl
 refine oI 4 (none) (fun K hK=>?_);have hs19:w16.cell? ⟨gb148,0,none⟩=some (.int .i64 0):=bc BK148 0;have hfs19:=blk_frozen BK148.out 0;have hs20:w16.cell? ⟨gb148,1,none⟩=some (.int .i64 0):=bc BK148 1;have hfs20:=blk_frozen BK148.out 1;have hs21:w16.cell? ⟨gb148,2,none⟩=some (.slice none 0 0):=bc BK148 2;have hfs21:=blk_frozen BK148.out 2;have hs22:w16.cell? ⟨gb148,3,none⟩=some (.slice none 0 0):=bc BK148 3;have hfs22:=blk_frozen BK148.out 3;refine skip_ (w1:=?_) (by rfl) rfl ?_ ?_;rotate_left
 ·go_simp
  rfl
 refine hK.out _ _ trivial (fun hHeld=>?_);clear hK K;refine done_ (by kernel_rfl) ?_;have n0_:Aside0 (Kd.R (Kd.int .i64) 3 ((((w16.setCell ⟨gb148,0,none⟩ (.int .i64 4)).setCell ⟨gb148,1,none⟩ (.int .i64 4)).setCell ⟨gb148,2,none⟩ (.slice Ao18 y142.length co18)).setCell ⟨gb148,3,none⟩ (.slice Ao17 y145.length co17)) w.heap.size (fun k_=>some k_ ≠ (.slice Ao17 y145.length co17:Value).ownBlock) (.slice Ao18 y142.length co18) y142):=⟨by (with_reducible repeat (first|apply Kd.R_alloc|apply Kd.R_drewN|apply Kd.R_drew));exact Kd.R_mono (Kd.R_fars gb148 (Kd.R_types HO144.out BK148.out (by decide)) (fun _ hk=>hk.2)) (fun _ hk=>hk.1)⟩;have n1_:Aside0 (Kd.R (Kd.int .i64) 3 ((((w16.setCell ⟨gb148,0,none⟩ (.int .i64 4)).setCell ⟨gb148,1,none⟩ (.int .i64 4)).setCell ⟨gb148,2,none⟩ (.slice Ao18 y142.length co18)).setCell ⟨gb148,3,none⟩ (.slice Ao17 y145.length co17)) w.heap.size (fun k_=>some k_ ≠ (.slice Ao18 y142.length co18:Value).ownBlock) (.slice Ao17 y145.length co17) y145):=⟨by (with_reducible repeat (first|apply Kd.R_alloc|apply Kd.R_drewN|apply Kd.R_drew));exact Kd.R_mono (Kd.R_fars gb148 (Kd.R_types HO147.out BK148.out (by decide)) (fun _ hk=>hk.2)) (fun _ hk=>hk.1)⟩;have n2_:Aside0 (((((w16.setCell ⟨gb148,0,none⟩ (.int .i64 4)).setCell ⟨gb148,1,none⟩ (.int .i64 4)).setCell ⟨gb148,2,none⟩ (.slice Ao18 y142.length co18)).setCell ⟨gb148,3,none⟩ (.slice Ao17 y145.length co17)).heap[gb148]?=some (.cells #[.int .i64 4,.int .i64 4,.slice Ao18 y142.length co18,.slice Ao17 y145.length co17] 24 (0,0))):=⟨by refine blkW ?_;exact blk_puts4 (blk_up BK148.out)⟩;have n3_:Aside0 (Below w.heap.size w ((((w16.setCell ⟨gb148,0,none⟩ (.int .i64 4)).setCell ⟨gb148,1,none⟩ (.int .i64 4)).setCell ⟨gb148,2,none⟩ (.slice Ao18 y142.length co18)).setCell ⟨gb148,3,none⟩ (.slice Ao17 y145.length co17))):=⟨hb_⟩;(try clear HO144);(try clear HO147);(try clear BK148);(try clear HB);generalize ((((w16.setCell ⟨gb148,0,none⟩ (.int .i64 4)).setCell ⟨gb148,1,none⟩ (.int .i64 4)).setCell ⟨gb148,2,none⟩ (.slice Ao18 y142.length co18)).setCell ⟨gb148,3,none⟩ (.slice Ao17 y145.length co17))=w23 at n0_ n1_ n2_ n3_ ⊢;have HO144:=n0_;have HO147:=n1_;have BK148:=n2_;have HB:=n3_;clear n0_ n1_ n2_ n3_;obtain ⟨_,_,_,_,_,_,_,_⟩:=cells4 BK148.out;have p3:0≤(0:Int):=(by omega);have q3:(0:Int)<((y142.length:Int):Int):=ofd;have qi3:(0<y142.length)=True:=eq_true (by omega);obtain ⟨go3,co3,eo3,gb3,gl3,cl3,HG3⟩:=Kd.R_form HO144.out (by omega);(first|cases eo3|(injection eo3 with ea_ en_ ec_;(first|subst ea_|(injection ea_ with ea_;subst ea_));subst ec_;clear en_));have GB3:=Aside0.mk gb3;have GG3:=Aside0.mk HG3;clear gb3 gl3 HG3;obtain ⟨hx3_0,hf3_0⟩:=Kd.R_celln 0 HO144.out (0:Int) p3 q3;(try rw [show ((0:Int)).toNat=0 from rfl] at hx3_0);(try simp only [Nat.reduceMul,Nat.zero_mul,Nat.zero_add,Nat.reduceAdd] at hx3_0);(try rw [show ((0:Int)).toNat=0 from rfl] at hf3_0);(try simp only [Nat.reduceMul,Nat.zero_mul,Nat.zero_add,Nat.reduceAdd] at hf3_0);replace p3:=eq_true p3;replace q3:=eq_true q3;obtain ⟨hy25_,hz25_⟩:=Kd.R_celln 0 HO144.out (0:Int) (by omega) (ofd);(try simp only [Int.reduceToNat,Int.toNat_zero,Int.toNat_ofNat,Nat.reduceMul,Nat.zero_mul,Nat.zero_add] at hy25_ hz25_);(try rw [show ((0:Int)).toNat=0 from rfl] at hy25_);(try rw [show ((0:Int)).toNat=0 from rfl] at hz25_);have HP25:=Kd.R_putg HO144.out (0:Int) 1
 go_upto_region 5 with (first|((with_reducible refine gate_store (t:=3) (p:=10) rfl ?_);refine store_event (t:=3) (p:=10) (v:=?vo_w26) (w1:=(w23.setCell ⟨go3,(0:Int).toNat,none⟩ (.int .i64 1))) ?hg ?ho ?hn ?hr ?_;(case ho=>rfl);(case hg=>rfl);(case hn=>rfl);(case hr=>first|(go_simp;done)|(go_simp;rfl));intro w26 hw;have hg:w23.grownBy w26 (some go3):=(by rw [hw];exact HP25.2);have hp_:Kd.R (Kd.int .i64) 3 w26 w.heap.size (fun k_=>some k_ ≠ (.slice Ao17 y145.length co17:Value).ownBlock) (.slice (some ⟨go3,0,none⟩) y142.length co18) y149:=(by rw [hw,Ny149.out];exact HP25.1);clear HP25;replace HO147:=Aside0.mk (Kd.R_after (v:=(.slice (some ⟨go3,0,none⟩) y142.length co18)) (v1:=(.slice (some ⟨go3,0,none⟩) y142.length co18)) (ok:=(fun _=>True)) (by (with_reducible repeat (first|apply Kd.R_alloc|apply Kd.R_drewN|apply Kd.R_drew));exact Kd.R_mono HO147.out (fun _ hk=>⟨trivial,hk⟩)) hg (.inl rfl));replace BK148:=Aside0.mk (blk_grown (blk_up BK148.out) hg (Kd.R_ne HO144.out BK148.out (by decide)));replace HO144:=Aside0.mk (hp_);replace HB:=Aside0.mk ((by rw [hw];exact below_set (HB.out) GB3.out:Below w.heap.size w w26));clear hg hw hp_;obtain ⟨_,_,_,_,_,_,_,_⟩:=cells4 BK148.out;have p5:0≤(1:Int):=(by omega);have q5:(1:Int)<((y142.length:Int):Int):=ofd;have qi5:(1<y142.length)=True:=eq_true (by omega);obtain ⟨hx5_0,hf5_0⟩:=Kd.R_celln 0 HO144.out (1:Int) p5 q5;(try rw [show ((1:Int)).toNat=1 from rfl] at hx5_0);(try simp only [Nat.reduceMul,Nat.zero_mul,Nat.zero_add,Nat.reduceAdd] at hx5_0);(try rw [show ((1:Int)).toNat=1 from rfl] at hf5_0);(try simp only [Nat.reduceMul,Nat.zero_mul,Nat.zero_add,Nat.reduceAdd] at hf5_0);replace p5:=eq_true p5;replace q5:=eq_true q5;obtain ⟨hy28_,hz28_⟩:=Kd.R_celln 0 HO144.out (1:Int) (by omega) (ofd);(try simp only [Int.reduceToNat,Int.toNat_zero,Int.toNat_ofNat,Nat.reduceMul,Nat.zero_mul,Nat.zero_add] at hy28_ hz28_);(try rw [show ((1:Int)).toNat=1 from rfl] at hy28_);(try rw [show ((1:Int)).toNat=1 from rfl] at hz28_);have HP28:=Kd.R_putg HO144.out (1:Int) 4)|((with_reducible refine gate_store (t:=3) (p:=13) rfl ?_);refine store_event (t:=3) (p:=13) (v:=?vo_w29) (w1:=(w26.setCell ⟨go3,(1:Int).toNat,none⟩ (.int .i64 4))) ?hg ?ho ?hn ?hr ?_;(case ho=>rfl);(case hg=>rfl);(case hn=>rfl);(case hr=>first|(go_simp;done)|(go_simp;rfl));intro w29 hw;have hg:w26.grownBy w29 (some go3):=(by rw [hw];exact HP28.2);have hp_:Kd.R (Kd.int .i64) 3 w29 w.heap.size (fun k_=>some k_ ≠ (.slice Ao17 y145.length co17:Value).ownBlock) (.slice (some ⟨go3,0,none⟩) y142.length co18) y150:=(by rw [hw,Ny150.out];exact HP28.1);clear HP28;replace HO147:=Aside0.mk (Kd.R_after (v:=(.slice (some ⟨go3,0,none⟩) y142.length co18)) (v1:=(.slice (some ⟨go3,0,none⟩) y142.length co18)) (ok:=(fun _=>True)) (Kd.R_up HO147.out) hg (.inl rfl));replace BK148:=Aside0.mk (blk_grown (blk_up BK148.out) hg (Kd.R_ne HO144.out BK148.out (by decide)));replace HO144:=Aside0.mk (hp_);replace HB:=Aside0.mk ((by rw [hw];exact below_set (HB.out) GB3.out:Below w.heap.size w w29));clear hg hw hp_;obtain ⟨_,_,_,_,_,_,_,_⟩:=cells4 BK148.out)|((with_reducible refine gate_callee (f:=15) rfl ?_);refine goesL_ (some 16) rfl rfl Try.func15 (by kernel_rfl) rfl #[.agg #[.int .i64 4,.int .i64 4,.slice (some ⟨go3,0,none⟩) y150.length co18,.slice Ao17 y145.length co17],.int .i64 1,.int .i64 (-1),.int .i64 0] rfl (by (try simp only [List.map_toArray,List.map_cons,List.map_nil]);first|done|(rw [show y150.length=y142.length from (Kd.R_reads' HO144.out).1.symm] <;> rfl)|rfl|(simp only [List.length_drop,List.length_take];rfl)) ?_;(with_reducible refine (lane_Choose.calls k 4 4 _ _ y150 _ _ y145 1 (-1) 0 t151 t152 t153 _ ?_ ?_ ?_ ?_ A6.out).mono ?_);exact Kd.C_up (Kd.R_reads' HO144.out).2.2;(focus (rw [show y150.length=y142.length from (Kd.R_reads' HO144.out).1.symm];exact (Kd.R_reads' HO144.out).2.1));exact Kd.C_up (Kd.R_reads' HO147.out).2.2;exact (Kd.R_reads' HO147.out).2.1;rintro e w31 ⟨rfl,hb⟩;refine ⟨_,rfl,?_⟩;replace HO144:=rbw HO144 hb;replace HO147:=rbw HO147 hb;replace BK148:=bkb BK148 hb;replace HB:=hbs hb))
 (try simp only [Act.put,List.setIfInBounds_toArray,List.set_cons_zero,List.set_cons_succ]);go_cut [0] (fun v0 wc=>∃ (kq:Nat) (x0_6:Bool),v0=.bool x0_6∧Aside0 (hinterlandlaw17_known.j0 kq x0_6=some r)∧Aside0 (kq≤k)∧Aside0 (Kd.R (Kd.int .i64) 3 wc w.heap.size (fun k_=>some k_ ≠ ((.slice Ao17 y145.length co17):Value).ownBlock) (.slice (some ⟨go3,0,none⟩) y142.length co18) y150)∧Aside0 (Kd.R (Kd.int .i64) 3 wc w.heap.size (fun k_=>some k_ ≠ ((.slice (some ⟨go3,0,none⟩) y142.length co18):Value).ownBlock) (.slice Ao17 y145.length co17) y145)∧Aside0 (wc.heap[gb148]?=some (.cells #[.int .i64 4,.int .i64 4,(.slice (some ⟨go3,0,none⟩) y142.length co18),(.slice Ao17 y145.length co17)] 24 (0,0)))∧Aside0 (Below w.heap.size w wc))
 case first =>
  have H:=HC7.out;clear HC7;by_cases c32:t151=2
  ·rw [if_pos c32] at H;have c32b0:=bqt c32;have c32b1:=bnf c32;clear c32;(first|rw [c32b0]|(simp only [i64_w,i32_w];rw [c32b0])|skip);by_cases c33:t152=true
   ·subst c33;rw [if_pos rfl] at H;have H':=Aside0.mk H;clear H;go_wp2
    go_meet
    case rel=>exact ⟨_,((t153 == 0)),(by first|rfl|(simp;done)|(simp [*];done)),H',⟨by first|omega|exact Nat.le_refl _⟩,⟨Kd.R_up HO144.out⟩,⟨by (with_reducible repeat (first|apply Kd.R_alloc|apply Kd.R_drewN|apply Kd.R_drew));exact Kd.R_mono HO147.out (fun _ hk=>hk.2)⟩,⟨blk_up BK148.out⟩,⟨hb_⟩⟩
   ·replace c33:=Bool.eq_false_iff.mpr c33;subst c33;rw [if_neg (show ¬ (false=true) by decide)] at H;have H':=Aside0.mk H;clear H;go_wp2
    go_meet
    case rel=>exact ⟨_,(false),(by first|rfl|(simp;done)|(simp [*];done)),H',⟨by first|omega|exact Nat.le_refl _⟩,⟨Kd.R_up HO144.out⟩,⟨by (with_reducible repeat (first|apply Kd.R_alloc|apply Kd.R_drewN|apply Kd.R_drew));exact Kd.R_mono HO147.out (fun _ hk=>hk.2)⟩,⟨blk_up BK148.out⟩,⟨hb_⟩⟩
  ·rw [if_neg c32] at H;have c32b0:=bqf c32;have c32b1:=bnt c32;(first|rw [c32b0]|(simp only [i64_w,i32_w];rw [c32b0])|skip);have H':=Aside0.mk H;clear H;go_wp2
   go_meet
   case rel=>exact ⟨_,(false),(by first|rfl|(simp;done)|(simp [*];done)),H',⟨by first|omega|exact Nat.le_refl _⟩,⟨Kd.R_up HO144.out⟩,⟨by (with_reducible repeat (first|apply Kd.R_alloc|apply Kd.R_drewN|apply Kd.R_drew));exact Kd.R_mono HO147.out (fun _ hk=>hk.2)⟩,⟨blk_up BK148.out⟩,⟨hb_⟩⟩
 case rest =>
  clear HC7;obtain ⟨kq,x0_6,rfl,HA,HJ6,HO_149002,HO_149003,BK148,HB⟩:=hcut;have hl149002_6:=(Kd.R_reads' HO_149002.out).1;rw [hl149002_6] at HO_149002;(try simp only [hl149002_6]);(try simp only [hl149002_6] at BK148);(try simp only [hl149002_6] at HO_149003);cases kq with
  | zero=>exact absurd HA.out (by simp [hinterlandlaw17_known.j0])
  | succ kj6 =>
   have H:=HA.out;clear HA;simp only [hinterlandlaw17_known.j0] at H;obtain rfl:=Option.some.inj H;go_wp2
   go_ret
   exact ⟨er_,hb_⟩

/-! ### hinterlandlaw17_vast: function 29 -/
def hinterlandlaw17_vast.f (a0_0:Int) (a0_1:Int) (l0_2:List Int) (l1_0:List Int) (l1_1:List Int):Option (Bool) := if (l0_2.length:Int) > 1200 then (some true) else (if (l1_0.length:Int) > 1200 then (some true) else (some (decide ((l1_1.length:Int) > 1200))))
set_option maxHeartbeats 8000000 in
set_option maxRecDepth 100000 in
theorem hinterlandlaw17_vast.calls (a0_0:Int) (a0_1:Int) (A0_2:Option Addr) (c0_2:Nat) (l0_2:List Int) (A1_0:Option Addr) (c1_0:Nat) (l1_0:List Int) (A1_1:Option Addr) (c1_1:Nat) (l1_1:List Int) (r:Bool) (w:World) (hr0_2:Kd.C (Kd.int .i64) w A0_2 l0_2.length l0_2) (hc0_2:l0_2.length≤c0_2) (hr1_0:Kd.C (Kd.int .i64) w A1_0 l1_0.length l1_0) (hc1_0:l1_0.length≤c1_0) (hr1_1:Kd.C (Kd.int .i64) w A1_1 l1_1.length l1_1) (hc1_1:l1_1.length≤c1_1) (h:hinterlandlaw17_vast.f a0_0 a0_1 l0_2 l1_0 l1_1=some r) :
  Calls Try.prog 29 #[.agg #[.int .i64 a0_0,.int .i64 a0_1,.slice A0_2 l0_2.length c0_2],.agg #[.slice A1_0 l1_0.length c1_0,.slice A1_1 l1_1.length c1_1]] w fun e w'=>e=.returned (.bool r)∧Below w.heap.size w w':=by
 have hu53:=Try.underlying53;have hu55:=Try.underlying55;have HR0_2:=Aside0.mk hr0_2;have HC0_2:=Aside0.mk hc0_2;clear hr0_2 hc0_2;have HR1_0:=Aside0.mk hr1_0;have HC1_0:=Aside0.mk hc1_0;clear hr1_0 hc1_0;have HR1_1:=Aside0.mk hr1_1;have HC1_1:=Aside0.mk hc1_1;clear hr1_1 hc1_1;have HB:=Aside0.mk (Below.refl w.heap.size w);have H:=h;clear h;unfold hinterlandlaw17_vast.f at H;by_cases c3:(l0_2.length:Int) > 1200
 ·rw [if_pos c3] at H;have c3b0:=decide_eq_true c3;have c3b1:decide (1200<l0_2.length)=true:=decide_eq_true (by omega);clear c3;obtain rfl:=Option.some.inj H;go_enter Try.func29,Try.ntmps29;go_wp2_with (first|((with_reducible refine gate_dst (N:=2) rfl ?_);(try (refine gate_guard (by rfl) ?_;dsimp only));refine box_ev (N:=2) (cs:=#[.int .i64 a0_0,.int .i64 a0_1,.slice A0_2 l0_2.length c0_2]) (t:=53) ?_;intro gb154 hg w4 hbox hb;have BK154:=Aside0.mk hbox;have GW154:=gsz (w:=w) hg;have GE154:=GW154;replace HB:=hbs hb;clear hb hbox hg)|((with_reducible refine gate_dst (N:=3) rfl ?_);(try (refine gate_guard (by rfl) ?_;dsimp only));refine box_ev (N:=3) (cs:=#[.slice A1_0 l1_0.length c1_0,.slice A1_1 l1_1.length c1_1]) (t:=55) ?_;intro gb155 hg w5 hbox hb;have BK155:=Aside0.mk hbox;have GW155:=gsz (w:=w) hg;have GE155:=GW155;have NB154_155:=nbl BK154 hg;have NB155_154:=nbr BK154 hg;replace BK154:=bkb BK154 hb;replace HB:=hbs hb;clear hb hbox hg;have hnb6:=NB154_155.out;have hnc6:=NB155_154.out;obtain ⟨_,_,_,_,_,_⟩:=cells3 BK154.out))
  go_ret
  exact ⟨er_,hb_⟩
 ·rw [if_neg c3] at H;have c3b0:=decide_eq_false c3;have c3b1:decide (1200<l0_2.length)=false:=decide_eq_false (by omega);clear c3;by_cases c8:(l1_0.length:Int) > 1200
  ·rw [if_pos c8] at H;have c8b0:=decide_eq_true c8;have c8b1:decide (1200<l1_0.length)=true:=decide_eq_true (by omega);clear c8;obtain rfl:=Option.some.inj H;go_enter Try.func29,Try.ntmps29;go_wp2_with (first|((with_reducible refine gate_dst (N:=2) rfl ?_);(try (refine gate_guard (by rfl) ?_;dsimp only));refine box_ev (N:=2) (cs:=#[.int .i64 a0_0,.int .i64 a0_1,.slice A0_2 l0_2.length c0_2]) (t:=53) ?_;intro gb154 hg w9 hbox hb;have BK154:=Aside0.mk hbox;have GW154:=gsz (w:=w) hg;have GE154:=GW154;replace HB:=hbs hb;clear hb hbox hg)|((with_reducible refine gate_dst (N:=3) rfl ?_);(try (refine gate_guard (by rfl) ?_;dsimp only));refine box_ev (N:=3) (cs:=#[.slice A1_0 l1_0.length c1_0,.slice A1_1 l1_1.length c1_1]) (t:=55) ?_;intro gb155 hg w10 hbox hb;have BK155:=Aside0.mk hbox;have GW155:=gsz (w:=w) hg;have GE155:=GW155;have NB154_155:=nbl BK154 hg;have NB155_154:=nbr BK154 hg;replace BK154:=bkb BK154 hb;replace HB:=hbs hb;clear hb hbox hg;have hnb11:=NB154_155.out;have hnc11:=NB155_154.out;obtain ⟨_,_,_,_,_,_⟩:=cells3 BK154.out;obtain ⟨_,_,_,_⟩:=cells2 BK155.out))
   go_ret
   exact ⟨er_,hb_⟩
  ·rw [if_neg c8] at H;have c8b0:=decide_eq_false c8;have c8b1:decide (1200<l1_0.length)=false:=decide_eq_false (by omega);clear c8;obtain rfl:=Option.some.inj H;go_enter Try.func29,Try.ntmps29;go_wp2_with (first|((with_reducible refine gate_dst (N:=2) rfl ?_);(try (refine gate_guard (by rfl) ?_;dsimp only));refine box_ev (N:=2) (cs:=#[.int .i64 a0_0,.int .i64 a0_1,.slice A0_2 l0_2.length c0_2]) (t:=53) ?_;intro gb154 hg w14 hbox hb;have BK154:=Aside0.mk hbox;have GW154:=gsz (w:=w) hg;have GE154:=GW154;replace HB:=hbs hb;clear hb hbox hg)|((with_reducible refine gate_dst (N:=3) rfl ?_);(try (refine gate_guard (by rfl) ?_;dsimp only));refine box_ev (N:=3) (cs:=#[.slice A1_0 l1_0.length c1_0,.slice A1_1 l1_1.length c1_1]) (t:=55) ?_;intro gb155 hg w15 hbox hb;have BK155:=Aside0.mk hbox;have GW155:=gsz (w:=w) hg;have GE155:=GW155;have NB154_155:=nbl BK154 hg;have NB155_154:=nbr BK154 hg;replace BK154:=bkb BK154 hb;replace HB:=hbs hb;clear hb hbox hg;have hnb16:=NB154_155.out;have hnc16:=NB155_154.out;obtain ⟨_,_,_,_,_,_⟩:=cells3 BK154.out;obtain ⟨_,_,_,_⟩:=cells2 BK155.out))
   go_ret
   exact ⟨er_,hb_⟩

/-! ### hinterlandref17_piece: function 39 -/
def hinterlandref17_piece.f (a0:Int) (a1:Int) (a2:Int) (a3:Int) (a4:Int):Option (Bool) := if a1<(-1) then (some true) else (if a1 > 3 then (some true) else (if a2<0 then (some true) else (if a2 > 3 then (some true) else (if a3<0 then (some true) else (if a3 > 192 then (some true) else (if a4<0 then (some true) else (if a4≥192 then (some true) else (if a0=(-1) then (if a1=(-1) then (if a2=0 then (if a3=0 then (some (a4 != 0)) else (some true)) else (some true)) else (some true)) else (some false)))))))))
set_option maxHeartbeats 8000000 in
set_option maxRecDepth 100000 in
theorem hinterlandref17_piece.calls (a0:Int) (a1:Int) (a2:Int) (a3:Int) (a4:Int) (r:Bool) (w:World) (h:hinterlandref17_piece.f a0 a1 a2 a3 a4=some r) :
  Calls Try.prog 39 #[.int .i64 a0,.int .i64 a1,.int .i64 a2,.int .i64 a3,.int .i64 a4] w fun e w'=>e=.returned (.bool r)∧Drawn0 w w':=by
 have H:=h;clear h;unfold hinterlandref17_piece.f at H;by_cases c6:a1<(-1)
 ·rw [if_pos c6] at H;have c6b0:=decide_eq_true c6;clear c6;obtain rfl:=Option.some.inj H;go_enter Try.func39,Try.ntmps39;go_wp2
  go_ret
  exact ⟨by first|rfl|(simp;done)|(simp [*];done),by repeat (first|exact Drawn0.refl _|apply Drawn0.step)⟩
 rw [if_neg c6] at H;have c6b0:=decide_eq_false c6;clear c6;by_cases c7:a1 > 3
 ·rw [if_pos c7] at H;have c7b0:=decide_eq_true c7;clear c7;obtain rfl:=Option.some.inj H;go_enter Try.func39,Try.ntmps39;go_wp2
  go_ret
  exact ⟨by first|rfl|(simp;done)|(simp [*];done),by repeat (first|exact Drawn0.refl _|apply Drawn0.step)⟩
 rw [if_neg c7] at H;have c7b0:=decide_eq_false c7;clear c7;by_cases c8:a2<0
 ·rw [if_pos c8] at H;have c8b0:=decide_eq_true c8;clear c8;obtain rfl:=Option.some.inj H;go_enter Try.func39,Try.ntmps39;go_wp2
  go_ret
  exact ⟨by first|rfl|(simp;done)|(simp [*];done),by repeat (first|exact Drawn0.refl _|apply Drawn0.step)⟩
 rw [if_neg c8] at H;have c8b0:=decide_eq_false c8;clear c8;by_cases c9:a2 > 3
 ·rw [if_pos c9] at H;have c9b0:=decide_eq_true c9;clear c9;obtain rfl:=Option.some.inj H;go_enter Try.func39,Try.ntmps39;go_wp2
  go_ret
  exact ⟨by first|rfl|(simp;done)|(simp [*];done),by repeat (first|exact Drawn0.refl _|apply Drawn0.step)⟩
 rw [if_neg c9] at H;have c9b0:=decide_eq_false c9;clear c9;by_cases c10:a3<0
 ·rw [if_pos c10] at H;have c10b0:=decide_eq_true c10;clear c10;obtain rfl:=Option.some.inj H;go_enter Try.func39,Try.ntmps39;go_wp2
  go_ret
  exact ⟨by first|rfl|(simp;done)|(simp [*];done),by repeat (first|exact Drawn0.refl _|apply Drawn0.step)⟩
 rw [if_neg c10] at H;have c10b0:=decide_eq_false c10;clear c10;by_cases c11:a3 > 192
 ·rw [if_pos c11] at H;have c11b0:=decide_eq_true c11;clear c11;obtain rfl:=Option.some.inj H;go_enter Try.func39,Try.ntmps39;go_wp2
  go_ret
  exact ⟨by first|rfl|(simp;done)|(simp [*];done),by repeat (first|exact Drawn0.refl _|apply Drawn0.step)⟩
 rw [if_neg c11] at H;have c11b0:=decide_eq_false c11;clear c11;by_cases c12:a4<0
 ·rw [if_pos c12] at H;have c12b0:=decide_eq_true c12;clear c12;obtain rfl:=Option.some.inj H;go_enter Try.func39,Try.ntmps39;go_wp2
  go_ret
  exact ⟨by first|rfl|(simp;done)|(simp [*];done),by repeat (first|exact Drawn0.refl _|apply Drawn0.step)⟩
 rw [if_neg c12] at H;have c12b0:=decide_eq_false c12;clear c12;by_cases c13:a4≥192
 ·rw [if_pos c13] at H;have c13b0:=decide_eq_true c13;clear c13;obtain rfl:=Option.some.inj H;go_enter Try.func39,Try.ntmps39;go_wp2
  go_ret
  exact ⟨by first|rfl|(simp;done)|(simp [*];done),by repeat (first|exact Drawn0.refl _|apply Drawn0.step)⟩
 rw [if_neg c13] at H;have c13b0:=decide_eq_false c13;clear c13;by_cases c14:a0=(-1);rotate_left
 ·rw [if_neg c14] at H;have c14b0:=bqf c14;have c14b1:=bnt c14;obtain rfl:=Option.some.inj H;go_enter Try.func39,Try.ntmps39;go_wp2
  go_ret
  exact ⟨by first|rfl|(simp;done)|(simp [*];done),by repeat (first|exact Drawn0.refl _|apply Drawn0.step)⟩
 rw [if_pos c14] at H;have c14b0:=bqt c14;have c14b1:=bnf c14;clear c14;by_cases c15:a1=(-1)
 ·rw [if_pos c15] at H;have c15b0:=bqt c15;have c15b1:=bnf c15;clear c15;by_cases c16:a2=0
  ·rw [if_pos c16] at H;have c16b0:=bqt c16;have c16b1:=bnf c16;clear c16;by_cases c17:a3=0
   ·rw [if_pos c17] at H;have c17b0:=bqt c17;have c17b1:=bnf c17;clear c17;obtain rfl:=Option.some.inj H;go_enter Try.func39,Try.ntmps39;go_wp2
    go_ret
    exact ⟨by first|rfl|(simp;done)|(simp [*];done),by repeat (first|exact Drawn0.refl _|apply Drawn0.step)⟩
   ·rw [if_neg c17] at H;have c17b0:=bqf c17;have c17b1:=bnt c17;obtain rfl:=Option.some.inj H;go_enter Try.func39,Try.ntmps39;go_wp2
    go_ret
    exact ⟨by first|rfl|(simp;done)|(simp [*];done),by repeat (first|exact Drawn0.refl _|apply Drawn0.step)⟩
  ·rw [if_neg c16] at H;have c16b0:=bqf c16;have c16b1:=bnt c16;obtain rfl:=Option.some.inj H;go_enter Try.func39,Try.ntmps39;go_wp2
   go_ret
   exact ⟨by first|rfl|(simp;done)|(simp [*];done),by repeat (first|exact Drawn0.refl _|apply Drawn0.step)⟩
 ·rw [if_neg c15] at H;have c15b0:=bqf c15;have c15b1:=bnt c15;obtain rfl:=Option.some.inj H;go_enter Try.func39,Try.ntmps39;go_wp2
  go_ret
  exact ⟨by first|rfl|(simp;done)|(simp [*];done),by repeat (first|exact Drawn0.refl _|apply Drawn0.step)⟩

/-! ### hinterlandref02_side: function 89 -/
def hinterlandref02_side.f (a0:Int):Option (Bool) := if a0≥4 then (some (decide (a0≤32))) else (some false)
set_option maxHeartbeats 8000000 in
set_option maxRecDepth 100000 in
theorem hinterlandref02_side.calls (a0:Int) (r:Bool) (w:World) (h:hinterlandref02_side.f a0=some r) :
  Calls Try.prog 89 #[.int .i64 a0] w fun e w'=>e=.returned (.bool r)∧Drawn0 w w':=by
 have H:=h;clear h;unfold hinterlandref02_side.f at H;by_cases c2:a0≥4
 ·rw [if_pos c2] at H;have c2b0:=decide_eq_true c2;clear c2;obtain rfl:=Option.some.inj H;go_enter Try.func89,Try.ntmps89;go_wp2
  go_ret
  exact ⟨by first|rfl|(simp;done)|(simp [*];done),by repeat (first|exact Drawn0.refl _|apply Drawn0.step)⟩
 ·rw [if_neg c2] at H;have c2b0:=decide_eq_false c2;clear c2;obtain rfl:=Option.some.inj H;go_enter Try.func89,Try.ntmps89;go_wp2
  go_ret
  exact ⟨by first|rfl|(simp;done)|(simp [*];done),by repeat (first|exact Drawn0.refl _|apply Drawn0.step)⟩

/-! ### hinterlandref02_Apart: function 90 -/
def hinterlandref02_Apart.f (a0:Int) (a1:Int):Option (Int) := if a0<a1 then (some (wrap64 (a1 - a0))) else (some (wrap64 (a0 - a1)))
set_option maxHeartbeats 8000000 in
set_option maxRecDepth 100000 in
theorem hinterlandref02_Apart.calls (a0:Int) (a1:Int) (r:Int) (w:World) (h:hinterlandref02_Apart.f a0 a1=some r) :
  Calls Try.prog 90 #[.int .i64 a0,.int .i64 a1] w fun e w'=>e=.returned (.int .i64 r)∧Drawn0 w w':=by
 have H:=h;clear h;unfold hinterlandref02_Apart.f at H;by_cases c3:a0<a1
 ·rw [if_pos c3] at H;have c3b0:=decide_eq_true c3;clear c3;obtain rfl:=Option.some.inj H;go_enter Try.func90,Try.ntmps90;go_wp2
  go_ret
  exact ⟨by first|rfl|(simp;done)|(simp [*];done),by repeat (first|exact Drawn0.refl _|apply Drawn0.step)⟩
 ·rw [if_neg c3] at H;have c3b0:=decide_eq_false c3;clear c3;obtain rfl:=Option.some.inj H;go_enter Try.func90,Try.ntmps90;go_wp2
  go_ret
  exact ⟨by first|rfl|(simp;done)|(simp [*];done),by repeat (first|exact Drawn0.refl _|apply Drawn0.step)⟩

/-! ### hinterlandref02_Validate: function 74 -/
mutual
def hinterlandref02_Validate.j0:Nat→Bool→Int→Int→List Int→Option (Int)
 | 0,_,_,_,_=>none
 | k+1,x29,x157000,x157001,x157002=>if x29=true then (some 1) else (hinterlandref02_Validate.l0 k x157002 (x157002.length:Int) 0 x157000 x157001 x157002)
def hinterlandref02_Validate.l0:Nat→List Int→Int→Int→Int→Int→List Int→Option (Int)
 | 0,_,_,_,_,_,_=>none
 | k+1,x31,x32,x33,x157000,x157001,x157002=>if x33<x32 then (if 0≤x33 then (if x33<(x31.length:Int) then (if (rd x31 x33)<0 then (some 1) else (if (rd x31 x33) > 15 then (some 1) else (hinterlandref02_Validate.l0 k x31 x32 (wrap64 (x33+1)) x157000 x157001 x157002))) else (none)) else (none)) else (hinterlandref02_Validate.l1 k x157002 (x157002.length:Int) 0 x157000 x157001 x157002)
def hinterlandref02_Validate.l1:Nat→List Int→Int→Int→Int→Int→List Int→Option (Int)
 | 0,_,_,_,_,_,_=>none
 | k+1,x45,x46,x47,x157000,x157001,x157002=>if x47<x46 then (if 0≤x47 then (if x47<(x45.length:Int) then (if (wrap64 (x157000+1))=0 then (none) else (if (Int.tmod x47 (wrap64 (x157000+1))) > 0 then (if 0≤(wrap64 (x47 - 1)) then (if (wrap64 (x47 - 1))<(x157002.length:Int) then ((hinterlandref02_Apart.f (rd x45 x47) (rd x157002 (wrap64 (x47 - 1)))).bind fun t162=>(if t162 > 1 then (some 5) else (if x47 > x157000 then (if 0≤(wrap64 ((wrap64 (x47 - x157000)) - 1)) then (if (wrap64 ((wrap64 (x47 - x157000)) - 1))<(x157002.length:Int) then ((hinterlandref02_Apart.f (rd x45 x47) (rd x157002 (wrap64 ((wrap64 (x47 - x157000)) - 1)))).bind fun t164=>(if t164 > 1 then (some 5) else (hinterlandref02_Validate.l1 k x45 x46 (wrap64 (x47+1)) x157000 x157001 x157002))) else (none)) else (none)) else (hinterlandref02_Validate.l1 k x45 x46 (wrap64 (x47+1)) x157000 x157001 x157002)))) else (none)) else (none)) else (if x47 > x157000 then (if 0≤(wrap64 ((wrap64 (x47 - x157000)) - 1)) then (if (wrap64 ((wrap64 (x47 - x157000)) - 1))<(x157002.length:Int) then ((hinterlandref02_Apart.f (rd x45 x47) (rd x157002 (wrap64 ((wrap64 (x47 - x157000)) - 1)))).bind fun t166=>(if t166 > 1 then (some 5) else (hinterlandref02_Validate.l1 k x45 x46 (wrap64 (x47+1)) x157000 x157001 x157002))) else (none)) else (none)) else (hinterlandref02_Validate.l1 k x45 x46 (wrap64 (x47+1)) x157000 x157001 x157002)))) else (none)) else (none)) else (some 0)
end
def hinterlandref02_Validate.f (k:Nat) (a0_0:Int) (a0_1:Int) (l0_2:List Int):Option (Int) := (hinterlandref02_side.f a0_0).bind fun t157=>(if t157=true then ((hinterlandref02_side.f a0_1).bind fun t158=>(if t158=true then (hinterlandref02_Validate.j0 k ((l0_2.length:Int) != (wrap64 ((wrap64 (a0_0+1)) * (wrap64 (a0_1+1))))) a0_0 a0_1 l0_2) else (hinterlandref02_Validate.j0 k true a0_0 a0_1 l0_2))) else (hinterlandref02_Validate.j0 k true a0_0 a0_1 l0_2))
theorem hinterlandref02_Validate.mono_l:∀ k,(∀ y0 y1 y2 y3,LeO (hinterlandref02_Validate.j0 k y0 y1 y2 y3) (hinterlandref02_Validate.j0 (k+1) y0 y1 y2 y3))∧(∀ y0 y1 y2 y3 y4 y5,LeO (hinterlandref02_Validate.l0 k y0 y1 y2 y3 y4 y5) (hinterlandref02_Validate.l0 (k+1) y0 y1 y2 y3 y4 y5))∧(∀ y0 y1 y2 y3 y4 y5,LeO (hinterlandref02_Validate.l1 k y0 y1 y2 y3 y4 y5) (hinterlandref02_Validate.l1 (k+1) y0 y1 y2 y3 y4 y5))
 | 0=>⟨fun _ _ _ _ r h=>by simp [hinterlandref02_Validate.j0] at h,fun _ _ _ _ _ _ r h=>by simp [hinterlandref02_Validate.l0] at h,fun _ _ _ _ _ _ r h=>by simp [hinterlandref02_Validate.l1] at h⟩
 | k+1=>by
  obtain ⟨ih0,ih1,ih2⟩:=hinterlandref02_Validate.mono_l k;refine ⟨?_,?_,?_⟩
  ·intro y0 y1 y2 y3;unfold hinterlandref02_Validate.j0;repeat' first
   | (with_reducible exact ih0 _ _ _ _)
   | (with_reducible exact ih1 _ _ _ _ _ _)
   | (with_reducible exact ih2 _ _ _ _ _ _)
   | (with_reducible exact LeO.refl _)
   | (with_reducible exact LeO.none _)
   | (with_reducible refine LeO.ite ?_ ?_)
   | (with_reducible refine LeO.bind ?_ (fun _=>?_))
  ·intro y0 y1 y2 y3 y4 y5;unfold hinterlandref02_Validate.l0;repeat' first
   | (with_reducible exact ih0 _ _ _ _)
   | (with_reducible exact ih1 _ _ _ _ _ _)
   | (with_reducible exact ih2 _ _ _ _ _ _)
   | (with_reducible exact LeO.refl _)
   | (with_reducible exact LeO.none _)
   | (with_reducible refine LeO.ite ?_ ?_)
   | (with_reducible refine LeO.bind ?_ (fun _=>?_))
  ·intro y0 y1 y2 y3 y4 y5;unfold hinterlandref02_Validate.l1;repeat' first
   | (with_reducible exact ih0 _ _ _ _)
   | (with_reducible exact ih1 _ _ _ _ _ _)
   | (with_reducible exact ih2 _ _ _ _ _ _)
   | (with_reducible exact LeO.refl _)
   | (with_reducible exact LeO.none _)
   | (with_reducible refine LeO.ite ?_ ?_)
   | (with_reducible refine LeO.bind ?_ (fun _=>?_))
theorem hinterlandref02_Validate.mono:∀ a0 a1 a2 k,LeO (hinterlandref02_Validate.f k a0 a1 a2) (hinterlandref02_Validate.f (k+1) a0 a1 a2) := by
 intro a0 a1 a2 k;obtain ⟨ih0,ih1,ih2⟩:=hinterlandref02_Validate.mono_l k;unfold hinterlandref02_Validate.f;repeat' first
   | (with_reducible exact ih0 _ _ _ _)
   | (with_reducible exact ih1 _ _ _ _ _ _)
   | (with_reducible exact ih2 _ _ _ _ _ _)
   | (with_reducible exact LeO.refl _)
   | (with_reducible exact LeO.none _)
   | (with_reducible refine LeO.ite ?_ ?_)
   | (with_reducible refine LeO.bind ?_ (fun _=>?_))
set_option maxHeartbeats 8000000 in
set_option maxRecDepth 100000 in
theorem hinterlandref02_Validate.calls (k:Nat) (a0_0:Int) (a0_1:Int) (A0_2:Option Addr) (c0_2:Nat) (l0_2:List Int) (r:Int) (w:World) (hr0_2:Kd.C (Kd.int .i64) w A0_2 l0_2.length l0_2) (hc0_2:l0_2.length≤c0_2) (h:hinterlandref02_Validate.f k a0_0 a0_1 l0_2=some r) :
  Calls Try.prog 74 #[.agg #[.int .i64 a0_0,.int .i64 a0_1,.slice A0_2 l0_2.length c0_2]] w fun e w'=>e=.returned (.int .i64 r)∧Below w.heap.size w w':=by
 have hu53:=Try.underlying53;have HR0_2:=Aside0.mk hr0_2;have HC0_2:=Aside0.mk hc0_2;clear hr0_2 hc0_2;have HB:=Aside0.mk (Below.refl w.heap.size w);have H:=h;clear h;unfold hinterlandref02_Validate.f at H;have HC2:=Aside0.mk H;clear H;go_enter Try.func74,Try.ntmps74;go_upto_region 1 with (first|((with_reducible refine gate_dst (N:=1) rfl ?_);(try (refine gate_guard (by rfl) ?_;dsimp only));refine box_ev (N:=1) (cs:=#[.int .i64 a0_0,.int .i64 a0_1,.slice A0_2 l0_2.length c0_2]) (t:=53) ?_;intro gb156 hg w3 hbox hb;have BK156:=Aside0.mk hbox;have GW156:=gsz (w:=w) hg;have GE156:=GW156;replace HB:=hbs hb;clear hb hbox hg))
 (try simp only [Act.put,List.setIfInBounds_toArray,List.set_cons_zero,List.set_cons_succ]);go_cut [29] (fun v29 wc=>∃ (kq:Nat) (x29_1:Bool),v29=.bool x29_1∧Aside0 (hinterlandref02_Validate.j0 kq x29_1 a0_0 a0_1 l0_2=some r)∧Aside0 (kq≤k)∧Aside0 (wc.heap[gb156]?=some (.cells #[.int .i64 a0_0,.int .i64 a0_1,(.slice A0_2 l0_2.length c0_2)] 53 (0,0)))∧Aside0 (Below w.heap.size w wc))
 case first =>
  have H:=HC2.out;clear HC2;obtain ⟨t157,A4,H⟩:=bnd H;by_cases c5:t157=true
  ·subst c5;rw [if_pos rfl] at H;obtain ⟨t158,A6,H⟩:=bnd H;by_cases c7:t158=true
   ·subst c7;rw [if_pos rfl] at H;have H':=Aside0.mk H;clear H;obtain ⟨_,_,_,_,_,_⟩:=cells3 BK156.out;go_wp2_with (first|((with_reducible refine gate_callee (f:=89) rfl ?_);refine goesL_ (some 9) rfl rfl Try.func89 (by kernel_rfl) rfl #[.int .i64 a0_0] rfl ga_ ?_;(with_reducible refine (hinterlandref02_side.calls a0_0 true _ A4.out).mono ?_);rintro e w' ⟨rfl,⟨nd,rfl⟩⟩;refine ⟨_,rfl,?_⟩)|(go_at_call 89;(with_reducible refine (hinterlandref02_side.calls a0_1 true _ A6.out).mono ?_);rintro e w' ⟨rfl,⟨nd,rfl⟩⟩))
    go_meet
    case rel=>exact ⟨_,(((l0_2.length:Int) != (wrap64 ((wrap64 (a0_0+1)) * (wrap64 (a0_1+1)))))),(by first|rfl|(simp;done)|(simp [*];done)),H',⟨by first|omega|exact Nat.le_refl _⟩,⟨blk_up BK156.out⟩,⟨hb_⟩⟩
   ·replace c7:=Bool.eq_false_iff.mpr c7;subst c7;rw [if_neg (show ¬ (false=true) by decide)] at H;have H':=Aside0.mk H;clear H;obtain ⟨_,_,_,_,_,_⟩:=cells3 BK156.out;go_wp2_with (first|((with_reducible refine gate_callee (f:=89) rfl ?_);refine goesL_ (some 9) rfl rfl Try.func89 (by kernel_rfl) rfl #[.int .i64 a0_0] rfl ga_ ?_;(with_reducible refine (hinterlandref02_side.calls a0_0 true _ A4.out).mono ?_);rintro e w' ⟨rfl,⟨nd,rfl⟩⟩;refine ⟨_,rfl,?_⟩)|(go_at_call 89;(with_reducible refine (hinterlandref02_side.calls a0_1 false _ A6.out).mono ?_);rintro e w' ⟨rfl,⟨nd,rfl⟩⟩))
    go_meet
    case rel=>exact ⟨_,(true),(by first|rfl|(simp;done)|(simp [*];done)),H',⟨by first|omega|exact Nat.le_refl _⟩,⟨blk_up BK156.out⟩,⟨hb_⟩⟩
  ·replace c5:=Bool.eq_false_iff.mpr c5;subst c5;rw [if_neg (show ¬ (false=true) by decide)] at H;have H':=Aside0.mk H;clear H;obtain ⟨_,_,_,_,_,_⟩:=cells3 BK156.out;go_wp2_with (first|((with_reducible refine gate_callee (f:=89) rfl ?_);refine goesL_ (some 9) rfl rfl Try.func89 (by kernel_rfl) rfl #[.int .i64 a0_0] rfl ga_ ?_;(with_reducible refine (hinterlandref02_side.calls a0_0 false _ A4.out).mono ?_);rintro e w' ⟨rfl,⟨nd,rfl⟩⟩;refine ⟨_,rfl,?_⟩))
   go_meet
   case rel=>exact ⟨_,(true),(by first|rfl|(simp;done)|(simp [*];done)),H',⟨by first|omega|exact Nat.le_refl _⟩,⟨blk_up BK156.out⟩,⟨hb_⟩⟩
 case rest =>
  clear HC2;obtain ⟨kq,x29_1,rfl,HA,HJ1,BK156,HB⟩:=hcut;cases kq with
  | zero=>exact absurd HA.out (by simp [hinterlandref02_Validate.j0])
  | succ kj1 =>
   have H:=HA.out;clear HA;simp only [hinterlandref02_Validate.j0] at H;by_cases c11:x29_1=true
   ·subst c11;rw [if_pos rfl] at H;obtain rfl:=Option.some.inj H;go_wp2
    go_ret
    exact ⟨er_,hb_⟩
   ·replace c11:=Bool.eq_false_iff.mpr c11;subst c11;rw [if_neg (show ¬ (false=true) by decide)] at H;have H':=Aside0.mk H;clear H;obtain ⟨_,_,_,_,_,_⟩:=cells3 BK156.out;go_wp2
    go_loopg [33] kj1 (fun kq v33 w'=>∃ (x33_2:Int),v33=.int .i64 x33_2∧Aside0 (hinterlandref02_Validate.l0 kq l0_2 (l0_2.length:Int) x33_2 a0_0 a0_1 l0_2=some r)∧Aside0 (kq≤kj1)∧Aside0 (w'.heap[gb156]?=some (.cells #[.int .i64 a0_0,.int .i64 a0_1,(.slice A0_2 l0_2.length c0_2)] 53 (0,0)))∧Aside0 (Below w.heap.size w w'))
    case atStart=>exact ⟨(0),(by first|rfl|(simp;done)|(simp [*];done)),H',⟨Nat.le_refl _⟩,⟨blk_up BK156.out⟩,⟨hb_⟩⟩
    case round =>
     clear H';obtain ⟨x33_2,rfl,HA,HK2,BK156,HB⟩:=hrel;cases gk with
     | zero=>exact absurd HA.out (by simp [hinterlandref02_Validate.l0])
     | succ k2 =>
      have H:=HA.out;clear HA;simp only [hinterlandref02_Validate.l0] at H;by_cases c13:x33_2<(l0_2.length:Int)
      ·rw [if_pos c13] at H;have c13b0:=decide_eq_true c13;clear c13;obtain ⟨c14,H⟩:=ifp_ H;have c14b0:=decide_eq_true c14;clear c14;obtain ⟨c15,H⟩:=ifp_ H;have c15b0:=decide_eq_true c15;clear c15;by_cases c16:(rd l0_2 x33_2)<0
       ·rw [if_pos c16] at H;have c16b0:=decide_eq_true c16;clear c16;obtain rfl:=Option.some.inj H;have p159:0≤(x33_2:Int):=ofd;have q159:x33_2<(l0_2.length:Int):=ofd;obtain ⟨ad159,e159,hx159_0⟩:=Kd.at_int HR0_2.out x33_2 p159 q159;cases e159;replace hx159_0:=hbc HB hx159_0;replace p159:=eq_true p159;replace q159:=eq_true q159;go_wp2
        go_ret
        exact ⟨er_,hb_⟩
       rw [if_neg c16] at H;have c16b0:=decide_eq_false c16;clear c16;by_cases c17:(rd l0_2 x33_2) > 15
       ·rw [if_pos c17] at H;have c17b0:=decide_eq_true c17;clear c17;obtain rfl:=Option.some.inj H;have p159:0≤(x33_2:Int):=ofd;have q159:x33_2<(l0_2.length:Int):=ofd;obtain ⟨ad159,e159,hx159_0⟩:=Kd.at_int HR0_2.out x33_2 p159 q159;cases e159;replace hx159_0:=hbc HB hx159_0;replace p159:=eq_true p159;replace q159:=eq_true q159;go_wp2
        go_ret
        exact ⟨er_,hb_⟩
       ·rw [if_neg c17] at H;have c17b0:=decide_eq_false c17;clear c17;have H':=Aside0.mk H;clear H;have p159:0≤(x33_2:Int):=ofd;have q159:x33_2<(l0_2.length:Int):=ofd;obtain ⟨ad159,e159,hx159_0⟩:=Kd.at_int HR0_2.out x33_2 p159 q159;cases e159;replace hx159_0:=hbc HB hx159_0;replace p159:=eq_true p159;replace q159:=eq_true q159;go_wp2
        go_roundg k2
        case measure=>have:=HJ1.out;have:=HK2.out;omega
        case rel=>exact ⟨(wrap64 (x33_2+1)),(by first|rfl|(simp;done)|(simp [*];done)),H',⟨by have:=HJ1.out;have:=HK2.out;omega⟩,⟨blk_up BK156.out⟩,⟨hb_⟩⟩
      rw [if_neg c13] at H;have c13b0:=decide_eq_false c13;clear c13;have H':=Aside0.mk H;clear H;obtain ⟨_,_,_,_,_,_⟩:=cells3 BK156.out;go_wp2
      go_loopg [47] k2 (fun kq v47 w'=>∃ (x47_3:Int),v47=.int .i64 x47_3∧Aside0 (hinterlandref02_Validate.l1 kq l0_2 (l0_2.length:Int) x47_3 a0_0 a0_1 l0_2=some r)∧Aside0 (kq≤k2)∧Aside0 (w'.heap[gb156]?=some (.cells #[.int .i64 a0_0,.int .i64 a0_1,(.slice A0_2 l0_2.length c0_2)] 53 (0,0)))∧Aside0 (Below w.heap.size w w'))
      case atStart=>exact ⟨(0),(by first|rfl|(simp;done)|(simp [*];done)),H',⟨Nat.le_refl _⟩,⟨blk_up BK156.out⟩,⟨hb_⟩⟩
      case round =>
       clear H';obtain ⟨x47_3,rfl,HA,HK3,BK156,HB⟩:=hrel;cases gk with
       | zero=>exact absurd HA.out (by simp [hinterlandref02_Validate.l1])
       | succ k3 =>
        have H:=HA.out;clear HA;simp only [hinterlandref02_Validate.l1] at H;by_cases c19:x47_3<(l0_2.length:Int);rotate_left
        ·rw [if_neg c19] at H;have c19b0:=decide_eq_false c19;clear c19;obtain rfl:=Option.some.inj H;go_wp2
         go_ret
         exact ⟨er_,hb_⟩
        rw [if_pos c19] at H;have c19b0:=decide_eq_true c19;clear c19;obtain ⟨c20,H⟩:=ifp_ H;have c20b0:=decide_eq_true c20;clear c20;obtain ⟨c21,H⟩:=ifp_ H;have c21b0:=decide_eq_true c21;clear c21;replace H:=ifn_ H;obtain ⟨c22,H⟩:=H;have c22b0:((wrap64 (a0_0+1)) == 0)=false:=beq_eq_false_iff_ne.mpr c22;have c22b1:((wrap64 (a0_0+1)) != 0)=true:=bne_iff_ne.mpr c22;by_cases c23:(Int.tmod x47_3 (wrap64 (a0_0+1))) > 0;rotate_left
        ·rw [if_neg c23] at H;have c23b0:=decide_eq_false c23;clear c23;by_cases c39:x47_3 > a0_0;rotate_left
         ·rw [if_neg c39] at H;have c39b0:=decide_eq_false c39;clear c39;have H':=Aside0.mk H;clear H;have p160:0≤(x47_3:Int):=ofd;have q160:x47_3<(l0_2.length:Int):=ofd;obtain ⟨ad160,e160,hx160_0⟩:=Kd.at_int HR0_2.out x47_3 p160 q160;cases e160;replace hx160_0:=hbc HB hx160_0;replace p160:=eq_true p160;replace q160:=eq_true q160;obtain ⟨_,_,_,_,_,_⟩:=cells3 BK156.out;go_wp2
          go_roundg k3
          case measure=>have:=HJ1.out;have:=HK2.out;have:=HK3.out;omega
          case rel=>exact ⟨(wrap64 (x47_3+1)),(by first|rfl|(simp;done)|(simp [*];done)),H',⟨by have:=HJ1.out;have:=HK2.out;have:=HK3.out;omega⟩,⟨blk_up BK156.out⟩,⟨hb_⟩⟩
         rw [if_pos c39] at H;have c39b0:=decide_eq_true c39;clear c39;obtain ⟨ji40,hji40⟩:∃ j_:Int,(wrap64 ((wrap64 (x47_3 - a0_0)) - 1))=j_:=⟨_,rfl⟩;(first|rw [hji40] at H|simp only [hji40] at H);have hji40w:(IntKind.i64.wrap ((wrap64 (x47_3 - a0_0)) - 1))=ji40:=(i64_w _).trans hji40;obtain ⟨c41,H⟩:=ifp_ H;have c41b0:=decide_eq_true c41;clear c41;obtain ⟨c42,H⟩:=ifp_ H;have c42b0:=decide_eq_true c42;clear c42;obtain ⟨t166,A43,H⟩:=bnd H;by_cases c44:t166 > 1
         ·rw [if_pos c44] at H;have c44b0:=decide_eq_true c44;clear c44;obtain rfl:=Option.some.inj H;have p160:0≤(x47_3:Int):=ofd;have q160:x47_3<(l0_2.length:Int):=ofd;obtain ⟨ad160,e160,hx160_0⟩:=Kd.at_int HR0_2.out x47_3 p160 q160;cases e160;replace hx160_0:=hbc HB hx160_0;replace p160:=eq_true p160;replace q160:=eq_true q160;obtain ⟨_,_,_,_,_,_⟩:=cells3 BK156.out;have p165:0≤((ji40):Int):=ofd;have q165:(ji40)<(l0_2.length:Int):=ofd;obtain ⟨ad165,e165,hx165_0⟩:=Kd.at_int HR0_2.out (ji40) p165 q165;obtain rfl:ad160=ad165:=(by injection e165);replace hx165_0:=hbc HB hx165_0;replace p165:=eq_true p165;replace q165:=eq_true q165;go_wp2_with (first|(go_at_call 90;(with_reducible refine (hinterlandref02_Apart.calls (rd l0_2 x47_3) (rd l0_2 (ji40)) t166 _ A43.out).mono ?_);rintro e w' ⟨rfl,⟨nd,rfl⟩⟩))
          go_ret
          exact ⟨by first|rfl|(simp [errW_none,errW_some] <;> rfl)|(simp only [← hji40];first|rfl|(simp [errW_none,errW_some] <;> rfl))|(simp [*,errW_none,errW_some] <;> rfl),hb_⟩
         ·rw [if_neg c44] at H;have c44b0:=decide_eq_false c44;clear c44;have H':=Aside0.mk H;clear H;have p160:0≤(x47_3:Int):=ofd;have q160:x47_3<(l0_2.length:Int):=ofd;obtain ⟨ad160,e160,hx160_0⟩:=Kd.at_int HR0_2.out x47_3 p160 q160;cases e160;replace hx160_0:=hbc HB hx160_0;replace p160:=eq_true p160;replace q160:=eq_true q160;obtain ⟨_,_,_,_,_,_⟩:=cells3 BK156.out;have p165:0≤((ji40):Int):=ofd;have q165:(ji40)<(l0_2.length:Int):=ofd;obtain ⟨ad165,e165,hx165_0⟩:=Kd.at_int HR0_2.out (ji40) p165 q165;obtain rfl:ad160=ad165:=(by injection e165);replace hx165_0:=hbc HB hx165_0;replace p165:=eq_true p165;replace q165:=eq_true q165;go_wp2_with (first|(go_at_call 90;(with_reducible refine (hinterlandref02_Apart.calls (rd l0_2 x47_3) (rd l0_2 (ji40)) t166 _ A43.out).mono ?_);rintro e w' ⟨rfl,⟨nd,rfl⟩⟩))
          go_roundg k3
          case measure=>have:=HJ1.out;have:=HK2.out;have:=HK3.out;omega
          case rel=>exact ⟨(wrap64 (x47_3+1)),(by first|rfl|(simp;done)|(simp [*];done)),H',⟨by have:=HJ1.out;have:=HK2.out;have:=HK3.out;omega⟩,⟨blk_up BK156.out⟩,⟨hb_⟩⟩
        rw [if_pos c23] at H;have c23b0:=decide_eq_true c23;clear c23;obtain ⟨ji24,hji24⟩:∃ j_:Int,(wrap64 (x47_3 - 1))=j_:=⟨_,rfl⟩;(first|rw [hji24] at H|simp only [hji24] at H);have hji24w:(IntKind.i64.wrap (x47_3 - 1))=ji24:=(i64_w _).trans hji24;obtain ⟨c25,H⟩:=ifp_ H;have c25b0:=decide_eq_true c25;clear c25;obtain ⟨c26,H⟩:=ifp_ H;have c26b0:=decide_eq_true c26;clear c26;obtain ⟨t162,A27,H⟩:=bnd H;by_cases c28:t162 > 1
        ·rw [if_pos c28] at H;have c28b0:=decide_eq_true c28;clear c28;obtain rfl:=Option.some.inj H;have p160:0≤(x47_3:Int):=ofd;have q160:x47_3<(l0_2.length:Int):=ofd;obtain ⟨ad160,e160,hx160_0⟩:=Kd.at_int HR0_2.out x47_3 p160 q160;cases e160;replace hx160_0:=hbc HB hx160_0;replace p160:=eq_true p160;replace q160:=eq_true q160;obtain ⟨_,_,_,_,_,_⟩:=cells3 BK156.out;have p161:0≤((ji24):Int):=ofd;have q161:(ji24)<(l0_2.length:Int):=ofd;obtain ⟨ad161,e161,hx161_0⟩:=Kd.at_int HR0_2.out (ji24) p161 q161;obtain rfl:ad160=ad161:=(by injection e161);replace hx161_0:=hbc HB hx161_0;replace p161:=eq_true p161;replace q161:=eq_true q161;go_wp2_with (first|(go_at_call 90;(with_reducible refine (hinterlandref02_Apart.calls (rd l0_2 x47_3) (rd l0_2 (ji24)) t162 _ A27.out).mono ?_);rintro e w' ⟨rfl,⟨nd,rfl⟩⟩))
         go_ret
         exact ⟨by first|rfl|(simp [errW_none,errW_some] <;> rfl)|(simp only [← hji24];first|rfl|(simp [errW_none,errW_some] <;> rfl))|(simp [*,errW_none,errW_some] <;> rfl),hb_⟩
        rw [if_neg c28] at H;have c28b0:=decide_eq_false c28;clear c28;by_cases c30:x47_3 > a0_0;rotate_left
        ·rw [if_neg c30] at H;have c30b0:=decide_eq_false c30;clear c30;have H':=Aside0.mk H;clear H;have p160:0≤(x47_3:Int):=ofd;have q160:x47_3<(l0_2.length:Int):=ofd;obtain ⟨ad160,e160,hx160_0⟩:=Kd.at_int HR0_2.out x47_3 p160 q160;cases e160;replace hx160_0:=hbc HB hx160_0;replace p160:=eq_true p160;replace q160:=eq_true q160;obtain ⟨_,_,_,_,_,_⟩:=cells3 BK156.out;have p161:0≤((ji24):Int):=ofd;have q161:(ji24)<(l0_2.length:Int):=ofd;obtain ⟨ad161,e161,hx161_0⟩:=Kd.at_int HR0_2.out (ji24) p161 q161;obtain rfl:ad160=ad161:=(by injection e161);replace hx161_0:=hbc HB hx161_0;replace p161:=eq_true p161;replace q161:=eq_true q161;go_wp2_with (first|(go_at_call 90;(with_reducible refine (hinterlandref02_Apart.calls (rd l0_2 x47_3) (rd l0_2 (ji24)) t162 _ A27.out).mono ?_);rintro e w' ⟨rfl,⟨nd,rfl⟩⟩))
         go_roundg k3
         case measure=>have:=HJ1.out;have:=HK2.out;have:=HK3.out;omega
         case rel=>exact ⟨(wrap64 (x47_3+1)),(by first|rfl|(simp;done)|(simp [*];done)),H',⟨by have:=HJ1.out;have:=HK2.out;have:=HK3.out;omega⟩,⟨blk_up BK156.out⟩,⟨hb_⟩⟩
        rw [if_pos c30] at H;have c30b0:=decide_eq_true c30;clear c30;obtain ⟨ji31,hji31⟩:∃ j_:Int,(wrap64 ((wrap64 (x47_3 - a0_0)) - 1))=j_:=⟨_,rfl⟩;(first|rw [hji31] at H|simp only [hji31] at H);(try rw [hji31] at A27);have hji31w:(IntKind.i64.wrap ((wrap64 (x47_3 - a0_0)) - 1))=ji31:=(i64_w _).trans hji31;obtain ⟨c32,H⟩:=ifp_ H;have c32b0:=decide_eq_true c32;clear c32;obtain ⟨c33,H⟩:=ifp_ H;have c33b0:=decide_eq_true c33;clear c33;obtain ⟨t164,A34,H⟩:=bnd H;by_cases c35:t164 > 1
        ·rw [if_pos c35] at H;have c35b0:=decide_eq_true c35;clear c35;obtain rfl:=Option.some.inj H;have p160:0≤(x47_3:Int):=ofd;have q160:x47_3<(l0_2.length:Int):=ofd;obtain ⟨ad160,e160,hx160_0⟩:=Kd.at_int HR0_2.out x47_3 p160 q160;cases e160;replace hx160_0:=hbc HB hx160_0;replace p160:=eq_true p160;replace q160:=eq_true q160;obtain ⟨_,_,_,_,_,_⟩:=cells3 BK156.out;have p161:0≤((ji24):Int):=ofd;have q161:(ji24)<(l0_2.length:Int):=ofd;obtain ⟨ad161,e161,hx161_0⟩:=Kd.at_int HR0_2.out (ji24) p161 q161;obtain rfl:ad160=ad161:=(by injection e161);replace hx161_0:=hbc HB hx161_0;replace p161:=eq_true p161;replace q161:=eq_true q161;go_wp2_with (first|(go_at_call 90;(with_reducible refine (hinterlandref02_Apart.calls (rd l0_2 x47_3) (rd l0_2 (ji24)) t162 _ A27.out).mono ?_);rintro e w' ⟨rfl,⟨nd,rfl⟩⟩;have p163:0≤((ji31):Int):=ofd;have q163:(ji31)<(l0_2.length:Int):=ofd;obtain ⟨ad163,e163,hx163_0⟩:=Kd.at_int HR0_2.out (ji31) p163 q163;obtain rfl:ad160=ad163:=(by injection e163);replace hx163_0:=hbc HB hx163_0;replace p163:=eq_true p163;replace q163:=eq_true q163)|(go_at_call 90;(with_reducible refine (hinterlandref02_Apart.calls (rd l0_2 x47_3) (rd l0_2 (ji31)) t164 _ A34.out).mono ?_);rintro e w' ⟨rfl,⟨nd,rfl⟩⟩))
         go_ret
         exact ⟨by first|rfl|(simp [errW_none,errW_some] <;> rfl)|(simp only [← hji24,← hji31];first|rfl|(simp [errW_none,errW_some] <;> rfl))|(simp [*,errW_none,errW_some] <;> rfl),hb_⟩
        ·rw [if_neg c35] at H;have c35b0:=decide_eq_false c35;clear c35;have H':=Aside0.mk H;clear H;have p160:0≤(x47_3:Int):=ofd;have q160:x47_3<(l0_2.length:Int):=ofd;obtain ⟨ad160,e160,hx160_0⟩:=Kd.at_int HR0_2.out x47_3 p160 q160;cases e160;replace hx160_0:=hbc HB hx160_0;replace p160:=eq_true p160;replace q160:=eq_true q160;obtain ⟨_,_,_,_,_,_⟩:=cells3 BK156.out;have p161:0≤((ji24):Int):=ofd;have q161:(ji24)<(l0_2.length:Int):=ofd;obtain ⟨ad161,e161,hx161_0⟩:=Kd.at_int HR0_2.out (ji24) p161 q161;obtain rfl:ad160=ad161:=(by injection e161);replace hx161_0:=hbc HB hx161_0;replace p161:=eq_true p161;replace q161:=eq_true q161;go_wp2_with (first|(go_at_call 90;(with_reducible refine (hinterlandref02_Apart.calls (rd l0_2 x47_3) (rd l0_2 (ji24)) t162 _ A27.out).mono ?_);rintro e w' ⟨rfl,⟨nd,rfl⟩⟩;have p163:0≤((ji31):Int):=ofd;have q163:(ji31)<(l0_2.length:Int):=ofd;obtain ⟨ad163,e163,hx163_0⟩:=Kd.at_int HR0_2.out (ji31) p163 q163;obtain rfl:ad160=ad163:=(by injection e163);replace hx163_0:=hbc HB hx163_0;replace p163:=eq_true p163;replace q163:=eq_true q163)|(go_at_call 90;(with_reducible refine (hinterlandref02_Apart.calls (rd l0_2 x47_3) (rd l0_2 (ji31)) t164 _ A34.out).mono ?_);rintro e w' ⟨rfl,⟨nd,rfl⟩⟩))
         go_roundg k3
         case measure=>have:=HJ1.out;have:=HK2.out;have:=HK3.out;omega
         case rel=>exact ⟨(wrap64 (x47_3+1)),(by first|rfl|(simp;done)|(simp [*];done)),H',⟨by have:=HJ1.out;have:=HK2.out;have:=HK3.out;omega⟩,⟨blk_up BK156.out⟩,⟨hb_⟩⟩

/-! ### hinterlandref02_Is: function 75 -/
def hinterlandref02_Is.f (a0_0:Int) (a0_1:Int) (l0_2:List Int) (a1:Int):Option (Bool) := if a1≥0 then (some (decide (a1<(wrap64 (a0_0 * a0_1))))) else (some false)
set_option maxHeartbeats 8000000 in
set_option maxRecDepth 100000 in
theorem hinterlandref02_Is.calls (a0_0:Int) (a0_1:Int) (A0_2:Option Addr) (c0_2:Nat) (l0_2:List Int) (a1:Int) (r:Bool) (w:World) (hr0_2:Kd.C (Kd.int .i64) w A0_2 l0_2.length l0_2) (hc0_2:l0_2.length≤c0_2) (h:hinterlandref02_Is.f a0_0 a0_1 l0_2 a1=some r) :
  Calls Try.prog 75 #[.agg #[.int .i64 a0_0,.int .i64 a0_1,.slice A0_2 l0_2.length c0_2],.int .i64 a1] w fun e w'=>e=.returned (.bool r)∧Below w.heap.size w w':=by
 have hu53:=Try.underlying53;have HR0_2:=Aside0.mk hr0_2;have HC0_2:=Aside0.mk hc0_2;clear hr0_2 hc0_2;have HB:=Aside0.mk (Below.refl w.heap.size w);have H:=h;clear h;unfold hinterlandref02_Is.f at H;by_cases c3:a1≥0
 ·rw [if_pos c3] at H;have c3b0:=decide_eq_true c3;clear c3;obtain rfl:=Option.some.inj H;go_enter Try.func75,Try.ntmps75;go_wp2_with (first|((with_reducible refine gate_dst (N:=2) rfl ?_);refine box_ev (N:=2) (cs:=#[.int .i64 a0_0,.int .i64 a0_1,.slice A0_2 l0_2.length c0_2]) (t:=53) ?_;intro gb167 hg w4 hbox hb;have BK167:=Aside0.mk hbox;have GW167:=gsz (w:=w) hg;have GE167:=GW167;replace HB:=hbs hb;clear hb hbox hg;obtain ⟨_,_,_,_,_,_⟩:=cells3 BK167.out))
  go_ret
  exact ⟨er_,hb_⟩
 ·rw [if_neg c3] at H;have c3b0:=decide_eq_false c3;clear c3;obtain rfl:=Option.some.inj H;go_enter Try.func75,Try.ntmps75;go_wp2_with (first|((with_reducible refine gate_dst (N:=2) rfl ?_);refine box_ev (N:=2) (cs:=#[.int .i64 a0_0,.int .i64 a0_1,.slice A0_2 l0_2.length c0_2]) (t:=53) ?_;intro gb167 hg w6 hbox hb;have BK167:=Aside0.mk hbox;have GW167:=gsz (w:=w) hg;have GE167:=GW167;replace HB:=hbs hb;clear hb hbox hg))
  go_ret
  exact ⟨er_,hb_⟩

/-! ### hinterlandref02_Places: function 103 -/
def hinterlandref02_Places.f (a0_0:Int) (a0_1:Int) (l0_2:List Int) (a1:Int):Option (S126) := if a0_0=0 then (none) else (some (⟨wrap64 ((wrap64 ((wrap64 (Int.tdiv a1 a0_0)) * (wrap64 (a0_0+1))))+(Int.tmod a1 a0_0)),wrap64 ((wrap64 ((wrap64 ((wrap64 (Int.tdiv a1 a0_0)) * (wrap64 (a0_0+1))))+(Int.tmod a1 a0_0)))+1),wrap64 ((wrap64 ((wrap64 ((wrap64 ((wrap64 (Int.tdiv a1 a0_0)) * (wrap64 (a0_0+1))))+(Int.tmod a1 a0_0)))+a0_0))+2),wrap64 ((wrap64 ((wrap64 ((wrap64 ((wrap64 (Int.tdiv a1 a0_0)) * (wrap64 (a0_0+1))))+(Int.tmod a1 a0_0)))+a0_0))+1)⟩:S126))
set_option maxHeartbeats 8000000 in
set_option maxRecDepth 100000 in
theorem hinterlandref02_Places.calls (a0_0:Int) (a0_1:Int) (A0_2:Option Addr) (c0_2:Nat) (l0_2:List Int) (a1:Int) (r:S126) (w:World) (hr0_2:Kd.C (Kd.int .i64) w A0_2 l0_2.length l0_2) (hc0_2:l0_2.length≤c0_2) (h:hinterlandref02_Places.f a0_0 a0_1 l0_2 a1=some r) :
  Calls Try.prog 103 #[.agg #[.int .i64 a0_0,.int .i64 a0_1,.slice A0_2 l0_2.length c0_2],.int .i64 a1] w fun e w'=>e=.returned (.agg #[.int .i64 r.f0,.int .i64 r.f1,.int .i64 r.f2,.int .i64 r.f3])∧Below w.heap.size w w':=by
 have hu53:=Try.underlying53;have hu126:=Try.underlying126;have HR0_2:=Aside0.mk hr0_2;have HC0_2:=Aside0.mk hc0_2;clear hr0_2 hc0_2;have HB:=Aside0.mk (Below.refl w.heap.size w);have H:=h;clear h;unfold hinterlandref02_Places.f at H;replace H:=ifn_ H;obtain ⟨c3,H⟩:=H;have c3b0:(a0_0 == 0)=false:=beq_eq_false_iff_ne.mpr c3;have c3b1:(a0_0 != 0)=true:=bne_iff_ne.mpr c3;obtain rfl:=Option.some.inj H;go_enter Try.func103,Try.ntmps103;go_wp2_with (first|((with_reducible refine gate_dst (N:=2) rfl ?_);refine box_ev (N:=2) (cs:=#[.int .i64 a0_0,.int .i64 a0_1,.slice A0_2 l0_2.length c0_2]) (t:=53) ?_;intro gb168 hg w4 hbox hb;have BK168:=Aside0.mk hbox;have GW168:=gsz (w:=w) hg;have GE168:=GW168;replace HB:=hbs hb;clear hb hbox hg)|((with_reducible refine gate_dst (N:=4) rfl ?_);refine box_ev (N:=4) (cs:=#[.int .i64 0,.int .i64 0,.int .i64 0,.int .i64 0]) (t:=126) ?_;intro gb169 hg w5 hbox hb;have BK169:=Aside0.mk hbox;have GW169:=gsz (w:=w) hg;have GE169:=GW169;have NB168_169:=nbl BK168 hg;have NB169_168:=nbr BK168 hg;replace BK168:=bkb BK168 hb;replace HB:=hbs hb;clear hb hbox hg;have hnb6:=NB168_169.out;have hnc6:=NB169_168.out;obtain ⟨_,_,_,_,_,_⟩:=cells3 BK168.out;obtain ⟨_,_,_,_,_,_,_,_⟩:=cells4 BK169.out))
 go_quiet (fail)
 go_wp2
 refine bodyPost_ret (results_cell_row rfl _ _ gb169 126 #[.int .i64 (wrap64 ((wrap64 ((wrap64 (Int.tdiv a1 a0_0)) * (wrap64 (a0_0+1))))+(Int.tmod a1 a0_0))),.int .i64 (wrap64 ((wrap64 ((wrap64 ((wrap64 (Int.tdiv a1 a0_0)) * (wrap64 (a0_0+1))))+(Int.tmod a1 a0_0)))+1)),.int .i64 (wrap64 ((wrap64 ((wrap64 ((wrap64 ((wrap64 (Int.tdiv a1 a0_0)) * (wrap64 (a0_0+1))))+(Int.tmod a1 a0_0)))+a0_0))+2)),.int .i64 (wrap64 ((wrap64 ((wrap64 ((wrap64 ((wrap64 (Int.tdiv a1 a0_0)) * (wrap64 (a0_0+1))))+(Int.tmod a1 a0_0)))+a0_0))+1))] (0,0) _ rfl (by refine blkW ?_;exact blk_puts4 (blk_up BK169.out)) Try.underlying126 rfl (by kernel_rfl)) rfl ?_;exact ⟨er_,hb_⟩

/-! ### hinterlandref02_Face: function 91 -/
mutual
def hinterlandref02_Face.l0:Nat→Int→Int→S126→Int→Int→Int→List Int→Int→Int→Int→Int→Option (Int × Int)
 | 0,_,_,_,_,_,_,_,_,_,_,_=>none
 | k+1,x7,x8,x30,x31,x171000,x171001,x171002,x173000,x173001,x173002,x173003=>if x31<4 then (if 0≤x31 then (if 0≤(ix126 x30 x31) then (if (ix126 x30 x31)<(x171002.length:Int) then (hinterlandref02_Face.l0 k (mn x7 (rd x171002 (ix126 x30 x31))) (mx x8 (rd x171002 (ix126 x30 x31))) x30 (wrap64 (x31+1)) x171000 x171001 x171002 x173000 x173001 x173002 x173003) else (none)) else (none)) else (none)) else (hinterlandref02_Face.l1 k x7 x8 0 1 (⟨x173000,x173001,x173002,x173003⟩:S126) 0 x171000 x171001 x171002)
def hinterlandref02_Face.l1:Nat→Int→Int→Int→Int→S126→Int→Int→Int→List Int→Option (Int × Int)
 | 0,_,_,_,_,_,_,_,_,_=>none
 | k+1,x7,x8,x11,x12,x49,x50,x171000,x171001,x171002=>if x50<4 then (if 0≤x50 then (if 0≤(ix126 x49 x50) then (if (ix126 x49 x50)<(x171002.length:Int) then (if (rd x171002 (ix126 x49 x50)) > x7 then (hinterlandref02_Face.l1 k x7 x8 (wrap64 (x11+x12)) (wrap64 (x12 * 2)) x49 (wrap64 (x50+1)) x171000 x171001 x171002) else (hinterlandref02_Face.l1 k x7 x8 x11 (wrap64 (x12 * 2)) x49 (wrap64 (x50+1)) x171000 x171001 x171002)) else (none)) else (none)) else (none)) else (if (wrap64 (x8 - x7))=2 then (some (wrap64 (x11+16),x7)) else (some (x11,x7)))
end
def hinterlandref02_Face.f (k:Nat) (a0_0:Int) (a0_1:Int) (l0_2:List Int) (a1:Int):Option (Int × Int) := (hinterlandref02_Places.f a0_0 a0_1 l0_2 a1).bind fun t171=>(if 0≤t171.f0 then (if t171.f0<(l0_2.length:Int) then (hinterlandref02_Face.l0 k (rd l0_2 t171.f0) (rd l0_2 t171.f0) (⟨t171.f0,t171.f1,t171.f2,t171.f3⟩:S126) 0 a0_0 a0_1 l0_2 t171.f0 t171.f1 t171.f2 t171.f3) else (none)) else (none))
theorem hinterlandref02_Face.mono_l:∀ k,(∀ y0 y1 y2 y3 y4 y5 y6 y7 y8 y9 y10,LeO (hinterlandref02_Face.l0 k y0 y1 y2 y3 y4 y5 y6 y7 y8 y9 y10) (hinterlandref02_Face.l0 (k+1) y0 y1 y2 y3 y4 y5 y6 y7 y8 y9 y10))∧(∀ y0 y1 y2 y3 y4 y5 y6 y7 y8,LeO (hinterlandref02_Face.l1 k y0 y1 y2 y3 y4 y5 y6 y7 y8) (hinterlandref02_Face.l1 (k+1) y0 y1 y2 y3 y4 y5 y6 y7 y8))
 | 0=>⟨fun _ _ _ _ _ _ _ _ _ _ _ r h=>by simp [hinterlandref02_Face.l0] at h,fun _ _ _ _ _ _ _ _ _ r h=>by simp [hinterlandref02_Face.l1] at h⟩
 | k+1=>by
  obtain ⟨ih0,ih1⟩:=hinterlandref02_Face.mono_l k;refine ⟨?_,?_⟩
  ·intro y0 y1 y2 y3 y4 y5 y6 y7 y8 y9 y10;unfold hinterlandref02_Face.l0;repeat' first
   | (with_reducible exact ih0 _ _ _ _ _ _ _ _ _ _ _)
   | (with_reducible exact ih1 _ _ _ _ _ _ _ _ _)
   | (with_reducible exact LeO.refl _)
   | (with_reducible exact LeO.none _)
   | (with_reducible refine LeO.ite ?_ ?_)
   | (with_reducible refine LeO.bind ?_ (fun _=>?_))
  ·intro y0 y1 y2 y3 y4 y5 y6 y7 y8;unfold hinterlandref02_Face.l1;repeat' first
   | (with_reducible exact ih0 _ _ _ _ _ _ _ _ _ _ _)
   | (with_reducible exact ih1 _ _ _ _ _ _ _ _ _)
   | (with_reducible exact LeO.refl _)
   | (with_reducible exact LeO.none _)
   | (with_reducible refine LeO.ite ?_ ?_)
   | (with_reducible refine LeO.bind ?_ (fun _=>?_))
theorem hinterlandref02_Face.mono:∀ a0 a1 a2 a3 k,LeO (hinterlandref02_Face.f k a0 a1 a2 a3) (hinterlandref02_Face.f (k+1) a0 a1 a2 a3) := by
 intro a0 a1 a2 a3 k;obtain ⟨ih0,ih1⟩:=hinterlandref02_Face.mono_l k;unfold hinterlandref02_Face.f;repeat' first
   | (with_reducible exact ih0 _ _ _ _ _ _ _ _ _ _ _)
   | (with_reducible exact ih1 _ _ _ _ _ _ _ _ _)
   | (with_reducible exact LeO.refl _)
   | (with_reducible exact LeO.none _)
   | (with_reducible refine LeO.ite ?_ ?_)
   | (with_reducible refine LeO.bind ?_ (fun _=>?_))
set_option maxHeartbeats 8000000 in
set_option maxRecDepth 100000 in
theorem hinterlandref02_Face.calls (k:Nat) (a0_0:Int) (a0_1:Int) (A0_2:Option Addr) (c0_2:Nat) (l0_2:List Int) (a1:Int) (r1:Int) (r2:Int) (w:World) (hr0_2:Kd.C (Kd.int .i64) w A0_2 l0_2.length l0_2) (hc0_2:l0_2.length≤c0_2) (h:hinterlandref02_Face.f k a0_0 a0_1 l0_2 a1=some (r1,r2)) :
  Calls Try.prog 91 #[.agg #[.int .i64 a0_0,.int .i64 a0_1,.slice A0_2 l0_2.length c0_2],.int .i64 a1] w fun e w'=>e=.returned (.tuple #[.int .i64 r1,.int .i64 r2])∧Below w.heap.size w w':=by
 have hu53:=Try.underlying53;have hu126:=Try.underlying126;have HR0_2:=Aside0.mk hr0_2;have HC0_2:=Aside0.mk hc0_2;clear hr0_2 hc0_2;have HB:=Aside0.mk (Below.refl w.heap.size w);have H:=h;clear h;unfold hinterlandref02_Face.f at H;obtain ⟨t171,A3,H⟩:=bnd H;obtain ⟨c4,H⟩:=ifp_ H;have c4b0:=decide_eq_true c4;clear c4;obtain ⟨c5,H⟩:=ifp_ H;have c5b0:=decide_eq_true c5;clear c5;have H':=Aside0.mk H;clear H;go_enter Try.func91,Try.ntmps91;go_wp2_with (first|((with_reducible refine gate_dst (N:=2) rfl ?_);refine box_ev (N:=2) (cs:=#[.int .i64 a0_0,.int .i64 a0_1,.slice A0_2 l0_2.length c0_2]) (t:=53) ?_;intro gb170 hg w6 hbox hb;have BK170:=Aside0.mk hbox;have GW170:=gsz (w:=w) hg;have GE170:=GW170;replace HB:=hbs hb;clear hb hbox hg;obtain ⟨_,_,_,_,_,_⟩:=cells3 BK170.out)|(go_at_call 103;(with_reducible refine (hinterlandref02_Places.calls a0_0 a0_1 _ _ l0_2 a1 t171 _ ?_ ?_ A3.out).mono ?_);exact cq HR0_2;exact HC0_2.out;rintro e w8 ⟨rfl,hb⟩;replace BK170:=bkb BK170 hb;replace HB:=hbs hb)|((with_reducible refine gate_dst (N:=6) rfl ?_);refine box_ev (N:=6) (cs:=#[.int .i64 0,.int .i64 0,.int .i64 0,.int .i64 0]) (t:=126) ?_;intro gb172 hg w9 hbox hb;have BK172:=Aside0.mk hbox;have GW172:=gsz (w:=w) hg;have GE172:=GW172;have NB170_172:=nbl BK170 hg;have NB172_170:=nbr BK170 hg;replace BK170:=bkb BK170 hb;replace HB:=hbs hb;clear hb hbox hg;have hnb10:=NB172_170.out;have hnc10:=NB170_172.out;obtain ⟨_,_,_,_,_,_,_,_⟩:=cells4 BK172.out;obtain ⟨_,_,_,_,_,_⟩:=cells3 BK170.out;have p173:0≤(t171.f0:Int):=ofd;have q173:t171.f0<(l0_2.length:Int):=ofd;obtain ⟨ad173,e173,hx173_0⟩:=Kd.at_int HR0_2.out t171.f0 p173 q173;cases e173;have hn173_0:ad173.block ≠ gb172:=Nat.ne_of_lt (Nat.lt_of_lt_of_le (by have:=World.block_lt_of_cell? _ _ hx173_0;first|rwa [add_block] at this|exact this) GW172.out);have hn173_1:ad173.block ≠ gb172:=Nat.ne_of_lt (Nat.lt_of_lt_of_le (by have:=World.block_lt_of_cell? _ _ hx173_0;first|rwa [add_block] at this|exact this) GW172.out);have hn173_2:ad173.block ≠ gb172:=Nat.ne_of_lt (Nat.lt_of_lt_of_le (by have:=World.block_lt_of_cell? _ _ hx173_0;first|rwa [add_block] at this|exact this) GW172.out);have hn173_3:ad173.block ≠ gb172:=Nat.ne_of_lt (Nat.lt_of_lt_of_le (by have:=World.block_lt_of_cell? _ _ hx173_0;first|rwa [add_block] at this|exact this) GW172.out);replace hx173_0:=hbc HB hx173_0;replace hx173_0:=(cell_far (p:=⟨gb172,0,none⟩) (by first|(rw [add_block];exact hn173_0)|(show (Addr.add _ _).block ≠ _;rw [add_block];exact hn173_0)|exact hn173_0) (.int .i64 t171.f0)).trans hx173_0;replace hx173_0:=(cell_far (p:=⟨gb172,1,none⟩) (by first|(rw [add_block];exact hn173_1)|(show (Addr.add _ _).block ≠ _;rw [add_block];exact hn173_1)|exact hn173_1) (.int .i64 t171.f1)).trans hx173_0;replace hx173_0:=(cell_far (p:=⟨gb172,2,none⟩) (by first|(rw [add_block];exact hn173_2)|(show (Addr.add _ _).block ≠ _;rw [add_block];exact hn173_2)|exact hn173_2) (.int .i64 t171.f2)).trans hx173_0;replace hx173_0:=(cell_far (p:=⟨gb172,3,none⟩) (by first|(rw [add_block];exact hn173_3)|(show (Addr.add _ _).block ≠ _;rw [add_block];exact hn173_3)|exact hn173_3) (.int .i64 t171.f3)).trans hx173_0;(try have hy173_0:=fun (n_:Nat)=>(show ((((((w9.drewN n_).setCell ⟨gb172,0,none⟩ (.int .i64 t171.f0)).setCell ⟨gb172,1,none⟩ (.int .i64 t171.f1)).setCell ⟨gb172,2,none⟩ (.int .i64 t171.f2)).setCell ⟨gb172,3,none⟩ (.int .i64 t171.f3))).cell? _=some _ from hx173_0));clear hn173_0;clear hn173_1;clear hn173_2;clear hn173_3;replace p173:=eq_true p173;replace q173:=eq_true q173;have p174:0≤(t171.f0:Int):=ofd;have q174:t171.f0<(l0_2.length:Int):=ofd;obtain ⟨ad174,e174,hx174_0⟩:=Kd.at_int HR0_2.out t171.f0 p174 q174;obtain rfl:ad173=ad174:=(by injection e174);have hn174_0:ad173.block ≠ gb172:=Nat.ne_of_lt (Nat.lt_of_lt_of_le (by have:=World.block_lt_of_cell? _ _ hx174_0;first|rwa [add_block] at this|exact this) GW172.out);have hn174_1:ad173.block ≠ gb172:=Nat.ne_of_lt (Nat.lt_of_lt_of_le (by have:=World.block_lt_of_cell? _ _ hx174_0;first|rwa [add_block] at this|exact this) GW172.out);have hn174_2:ad173.block ≠ gb172:=Nat.ne_of_lt (Nat.lt_of_lt_of_le (by have:=World.block_lt_of_cell? _ _ hx174_0;first|rwa [add_block] at this|exact this) GW172.out);have hn174_3:ad173.block ≠ gb172:=Nat.ne_of_lt (Nat.lt_of_lt_of_le (by have:=World.block_lt_of_cell? _ _ hx174_0;first|rwa [add_block] at this|exact this) GW172.out);replace hx174_0:=hbc HB hx174_0;replace hx174_0:=(cell_far (p:=⟨gb172,0,none⟩) (by first|(rw [add_block];exact hn174_0)|(show (Addr.add _ _).block ≠ _;rw [add_block];exact hn174_0)|exact hn174_0) (.int .i64 t171.f0)).trans hx174_0;replace hx174_0:=(cell_far (p:=⟨gb172,1,none⟩) (by first|(rw [add_block];exact hn174_1)|(show (Addr.add _ _).block ≠ _;rw [add_block];exact hn174_1)|exact hn174_1) (.int .i64 t171.f1)).trans hx174_0;replace hx174_0:=(cell_far (p:=⟨gb172,2,none⟩) (by first|(rw [add_block];exact hn174_2)|(show (Addr.add _ _).block ≠ _;rw [add_block];exact hn174_2)|exact hn174_2) (.int .i64 t171.f2)).trans hx174_0;replace hx174_0:=(cell_far (p:=⟨gb172,3,none⟩) (by first|(rw [add_block];exact hn174_3)|(show (Addr.add _ _).block ≠ _;rw [add_block];exact hn174_3)|exact hn174_3) (.int .i64 t171.f3)).trans hx174_0;(try have hy174_0:=fun (n_:Nat)=>(show ((((((w9.drewN n_).setCell ⟨gb172,0,none⟩ (.int .i64 t171.f0)).setCell ⟨gb172,1,none⟩ (.int .i64 t171.f1)).setCell ⟨gb172,2,none⟩ (.int .i64 t171.f2)).setCell ⟨gb172,3,none⟩ (.int .i64 t171.f3))).cell? _=some _ from hx174_0));clear hn174_0;clear hn174_1;clear hn174_2;clear hn174_3;replace p174:=eq_true p174;replace q174:=eq_true q174))
 go_quiet (fail)
 go_wp2
 go_loopg [7,8,31] k (fun kq v7 v8 v31 w'=>∃ (x7_1:Int) (x8_1:Int) (x31_1:Int),v7=.int .i64 x7_1∧v8=.int .i64 x8_1∧v31=.int .i64 x31_1∧Aside0 (hinterlandref02_Face.l0 kq x7_1 x8_1 (⟨t171.f0,t171.f1,t171.f2,t171.f3⟩:S126) x31_1 a0_0 a0_1 l0_2 t171.f0 t171.f1 t171.f2 t171.f3=some (r1,r2))∧Aside0 (kq≤k)∧Aside0 (w'.heap[gb170]?=some (.cells #[.int .i64 a0_0,.int .i64 a0_1,(.slice (some ad173) l0_2.length c0_2)] 53 (0,0)))∧Aside0 (w'.heap[gb172]?=some (.cells #[.int .i64 t171.f0,.int .i64 t171.f1,.int .i64 t171.f2,.int .i64 t171.f3] 126 (0,0)))∧Aside0 (Below w.heap.size w w'))
 case atStart=>exact ⟨(rd l0_2 t171.f0),(rd l0_2 t171.f0),(0),(by first|rfl|(simp;done)|(simp [*];done)),(by first|rfl|(simp;done)|(simp [*];done)),(by first|rfl|(simp;done)|(simp [*];done)),H',⟨Nat.le_refl _⟩,⟨by refine blkW ?_;refine blk_far ?_ NB170_172.out _;refine blkW ?_;refine blk_far ?_ NB170_172.out _;refine blkW ?_;refine blk_far ?_ NB170_172.out _;refine blkW ?_;refine blk_far ?_ NB170_172.out _;refine blkW ?_;exact BK170.out⟩,⟨by refine blkW ?_;exact blk_puts4 (blk_up BK172.out)⟩,⟨hb_⟩⟩
 case round =>
  clear H';obtain ⟨x7_1,x8_1,x31_1,rfl,rfl,rfl,HA,HK1,BK170,BK172,HB⟩:=hrel;cases gk with
  | zero=>exact absurd HA.out (by simp [hinterlandref02_Face.l0])
  | succ k1 =>
   have H:=HA.out;clear HA;simp only [hinterlandref02_Face.l0] at H;by_cases c13:x31_1<4
   ·rw [if_pos c13] at H;have c13b0:=decide_eq_true c13;clear c13;obtain ⟨c14,H⟩:=ifp_ H;have c14b0:=decide_eq_true c14;clear c14;have hix15:=fun (W_:World)=>(ix126_run t171.f0 t171.f1 t171.f2 t171.f3 x31_1 (ofd) (ofd) W_:(Instr.index 126 (.agg #[.int .i64 t171.f0,.int .i64 t171.f1,.int .i64 t171.f2,.int .i64 t171.f3]) (.int .i64 x31_1)).run Try.prog W_=.ok (.int .i64 (ix126 (⟨t171.f0,t171.f1,t171.f2,t171.f3⟩:S126) x31_1)) W_)
    obtain ⟨c16,H⟩:=ifp_ H;have c16b0:=decide_eq_true c16;clear c16;obtain ⟨c17,H⟩:=ifp_ H;have c17b0:=decide_eq_true c17;clear c17;obtain ⟨ji18,hji18⟩:∃ j_:Int,(mn x7_1 (rd l0_2 (ix126 (⟨t171.f0,t171.f1,t171.f2,t171.f3⟩:S126) x31_1)))=j_:=⟨_,rfl⟩;(first|rw [hji18] at H|simp only [hji18] at H);have hji18_:(if (rd l0_2 (ix126 (⟨t171.f0,t171.f1,t171.f2,t171.f3⟩:S126) x31_1))<x7_1 then (rd l0_2 (ix126 (⟨t171.f0,t171.f1,t171.f2,t171.f3⟩:S126) x31_1)) else x7_1)=ji18:=hji18;obtain ⟨ji19,hji19⟩:∃ j_:Int,(mx x8_1 (rd l0_2 (ix126 (⟨t171.f0,t171.f1,t171.f2,t171.f3⟩:S126) x31_1)))=j_:=⟨_,rfl⟩;(first|rw [hji19] at H|simp only [hji19] at H);have hji19_:(if x8_1<(rd l0_2 (ix126 (⟨t171.f0,t171.f1,t171.f2,t171.f3⟩:S126) x31_1)) then (rd l0_2 (ix126 (⟨t171.f0,t171.f1,t171.f2,t171.f3⟩:S126) x31_1)) else x8_1)=ji19:=hji19;have H':=Aside0.mk H;clear H;obtain ⟨_,_⟩:=nn NB170_172;obtain ⟨_,_,_,_,_,_⟩:=cells3 BK170.out;have p175:0≤((ix126 (⟨t171.f0,t171.f1,t171.f2,t171.f3⟩:S126) x31_1):Int):=ofd;have q175:(ix126 (⟨t171.f0,t171.f1,t171.f2,t171.f3⟩:S126) x31_1)<(l0_2.length:Int):=ofd;obtain ⟨ad175,e175,hx175_0⟩:=Kd.at_int HR0_2.out (ix126 (⟨t171.f0,t171.f1,t171.f2,t171.f3⟩:S126) x31_1) p175 q175;obtain rfl:ad173=ad175:=(by injection e175);replace hx175_0:=hbc HB hx175_0;replace p175:=eq_true p175;replace q175:=eq_true q175;have p176:0≤((ix126 (⟨t171.f0,t171.f1,t171.f2,t171.f3⟩:S126) x31_1):Int):=ofd;have q176:(ix126 (⟨t171.f0,t171.f1,t171.f2,t171.f3⟩:S126) x31_1)<(l0_2.length:Int):=ofd;obtain ⟨ad176,e176,hx176_0⟩:=Kd.at_int HR0_2.out (ix126 (⟨t171.f0,t171.f1,t171.f2,t171.f3⟩:S126) x31_1) p176 q176;obtain rfl:ad173=ad176:=(by injection e176);replace hx176_0:=hbc HB hx176_0;replace p176:=eq_true p176;replace q176:=eq_true q176;go_wp2
    go_quiet (fail)
    go_wp2
    go_roundg k1
    case measure=>have:=HK1.out;omega
    case rel=>exact ⟨(ji18),(ji19),(wrap64 (x31_1+1)),(by first|rfl|(simp;done)|(simp only [← hji18] <;> (first|rfl|simp))|(simp [*];done)),(by first|rfl|(simp;done)|(simp only [← hji19] <;> (first|rfl|simp))|(simp [*];done)),(by first|rfl|(simp;done)|(simp [*];done)),H',⟨by have:=HK1.out;omega⟩,⟨blk_up BK170.out⟩,⟨blk_up BK172.out⟩,⟨hb_⟩⟩
   rw [if_neg c13] at H;have c13b0:=decide_eq_false c13;clear c13;have H':=Aside0.mk H;clear H;obtain ⟨_,_⟩:=nn NB172_170;obtain ⟨_,_,_,_,_,_,_,_⟩:=cells4 BK172.out;go_wp2
   go_loopg [11,12,50] k1 (fun kq v11 v12 v50 w'=>∃ (x11_2:Int) (x12_2:Int) (x50_2:Int),v11=.int .i64 x11_2∧v12=.int .i64 x12_2∧v50=.int .i64 x50_2∧Aside0 (hinterlandref02_Face.l1 kq x7_1 x8_1 x11_2 x12_2 (⟨t171.f0,t171.f1,t171.f2,t171.f3⟩:S126) x50_2 a0_0 a0_1 l0_2=some (r1,r2))∧Aside0 (kq≤k1)∧Aside0 (w'.heap[gb170]?=some (.cells #[.int .i64 a0_0,.int .i64 a0_1,(.slice (some ad173) l0_2.length c0_2)] 53 (0,0)))∧Aside0 (w'.heap[gb172]?=some (.cells #[.int .i64 t171.f0,.int .i64 t171.f1,.int .i64 t171.f2,.int .i64 t171.f3] 126 (0,0)))∧Aside0 (Below w.heap.size w w'))
   case atStart=>exact ⟨(0),(1),(0),(by first|rfl|(simp;done)|(simp [*];done)),(by first|rfl|(simp;done)|(simp [*];done)),(by first|rfl|(simp;done)|(simp [*];done)),H',⟨Nat.le_refl _⟩,⟨blk_up BK170.out⟩,⟨blk_up BK172.out⟩,⟨hb_⟩⟩
   case round =>
    clear H';obtain ⟨x11_2,x12_2,x50_2,rfl,rfl,rfl,HA,HK2,BK170,BK172,HB⟩:=hrel;cases gk with
    | zero=>exact absurd HA.out (by simp [hinterlandref02_Face.l1])
    | succ k2 =>
     have H:=HA.out;clear HA;simp only [hinterlandref02_Face.l1] at H;by_cases c24:x50_2<4;rotate_left
     ·rw [if_neg c24] at H;have c24b0:=decide_eq_false c24;clear c24;by_cases c34:(wrap64 (x8_1 - x7_1))=2
      ·rw [if_pos c34] at H;have c34b0:=bqt c34;have c34b1:=bnf c34;clear c34;simp only [Option.some.injEq,Prod.mk.injEq] at H;obtain ⟨rfl,rfl⟩:=H;go_wp2
       go_ret2
       exact ⟨er_,hb_⟩
      ·rw [if_neg c34] at H;have c34b0:=bqf c34;have c34b1:=bnt c34;simp only [Option.some.injEq,Prod.mk.injEq] at H;obtain ⟨rfl,rfl⟩:=H;go_wp2
       go_ret2
       exact ⟨er_,hb_⟩
     rw [if_pos c24] at H;have c24b0:=decide_eq_true c24;clear c24;obtain ⟨c25,H⟩:=ifp_ H;have c25b0:=decide_eq_true c25;clear c25;have hix26:=fun (W_:World)=>(ix126_run t171.f0 t171.f1 t171.f2 t171.f3 x50_2 (ofd) (ofd) W_:(Instr.index 126 (.agg #[.int .i64 t171.f0,.int .i64 t171.f1,.int .i64 t171.f2,.int .i64 t171.f3]) (.int .i64 x50_2)).run Try.prog W_=.ok (.int .i64 (ix126 (⟨t171.f0,t171.f1,t171.f2,t171.f3⟩:S126) x50_2)) W_)
     obtain ⟨c27,H⟩:=ifp_ H;have c27b0:=decide_eq_true c27;clear c27;obtain ⟨c28,H⟩:=ifp_ H;have c28b0:=decide_eq_true c28;clear c28;by_cases c29:(rd l0_2 (ix126 (⟨t171.f0,t171.f1,t171.f2,t171.f3⟩:S126) x50_2)) > x7_1
     ·rw [if_pos c29] at H;have c29b0:=decide_eq_true c29;clear c29;have H':=Aside0.mk H;clear H;obtain ⟨_,_⟩:=nn NB170_172;obtain ⟨_,_,_,_,_,_⟩:=cells3 BK170.out;have p177:0≤((ix126 (⟨t171.f0,t171.f1,t171.f2,t171.f3⟩:S126) x50_2):Int):=ofd;have q177:(ix126 (⟨t171.f0,t171.f1,t171.f2,t171.f3⟩:S126) x50_2)<(l0_2.length:Int):=ofd;obtain ⟨ad177,e177,hx177_0⟩:=Kd.at_int HR0_2.out (ix126 (⟨t171.f0,t171.f1,t171.f2,t171.f3⟩:S126) x50_2) p177 q177;obtain rfl:ad173=ad177:=(by injection e177);replace hx177_0:=hbc HB hx177_0;replace p177:=eq_true p177;replace q177:=eq_true q177;go_wp2
      go_roundg k2
      case measure=>have:=HK1.out;have:=HK2.out;omega
      case rel=>exact ⟨(wrap64 (x11_2+x12_2)),(wrap64 (x12_2 * 2)),(wrap64 (x50_2+1)),(by first|rfl|(simp;done)|(simp [*];done)),(by first|rfl|(simp;done)|(simp [*];done)),(by first|rfl|(simp;done)|(simp [*];done)),H',⟨by have:=HK1.out;have:=HK2.out;omega⟩,⟨blk_up BK170.out⟩,⟨blk_up BK172.out⟩,⟨hb_⟩⟩
     ·rw [if_neg c29] at H;have c29b0:=decide_eq_false c29;clear c29;have H':=Aside0.mk H;clear H;obtain ⟨_,_⟩:=nn NB170_172;obtain ⟨_,_,_,_,_,_⟩:=cells3 BK170.out;have p177:0≤((ix126 (⟨t171.f0,t171.f1,t171.f2,t171.f3⟩:S126) x50_2):Int):=ofd;have q177:(ix126 (⟨t171.f0,t171.f1,t171.f2,t171.f3⟩:S126) x50_2)<(l0_2.length:Int):=ofd;obtain ⟨ad177,e177,hx177_0⟩:=Kd.at_int HR0_2.out (ix126 (⟨t171.f0,t171.f1,t171.f2,t171.f3⟩:S126) x50_2) p177 q177;obtain rfl:ad173=ad177:=(by injection e177);replace hx177_0:=hbc HB hx177_0;replace p177:=eq_true p177;replace q177:=eq_true q177;go_wp2
      go_roundg k2
      case measure=>have:=HK1.out;have:=HK2.out;omega
      case rel=>exact ⟨(x11_2),(wrap64 (x12_2 * 2)),(wrap64 (x50_2+1)),(by first|rfl|(simp;done)|(simp [*];done)),(by first|rfl|(simp;done)|(simp [*];done)),(by first|rfl|(simp;done)|(simp [*];done)),H',⟨by have:=HK1.out;have:=HK2.out;omega⟩,⟨blk_up BK170.out⟩,⟨blk_up BK172.out⟩,⟨hb_⟩⟩

/-! ### hinterlandref02_Sea: function 92 -/
def hinterlandref02_Sea.l0:Nat→S126→Int→Int→Int→List Int→Option (Bool)
 | 0,_,_,_,_,_=>none
 | k+1,x9,x10,x179000,x179001,x179002=>if x10<4 then (if 0≤x10 then (if 0≤(ix126 x9 x10) then (if (ix126 x9 x10)<(x179002.length:Int) then (if (rd x179002 (ix126 x9 x10)) > 2 then (some false) else (hinterlandref02_Sea.l0 k x9 (wrap64 (x10+1)) x179000 x179001 x179002)) else (none)) else (none)) else (none)) else (some true)
def hinterlandref02_Sea.f (k:Nat) (a0_0:Int) (a0_1:Int) (l0_2:List Int) (a1:Int):Option (Bool) := (hinterlandref02_Places.f a0_0 a0_1 l0_2 a1).bind fun t179=>(hinterlandref02_Sea.l0 k t179 0 a0_0 a0_1 l0_2)
theorem hinterlandref02_Sea.mono_l:∀ k,(∀ y0 y1 y2 y3 y4,LeO (hinterlandref02_Sea.l0 k y0 y1 y2 y3 y4) (hinterlandref02_Sea.l0 (k+1) y0 y1 y2 y3 y4))
 | 0=>fun _ _ _ _ _ r h=>by simp [hinterlandref02_Sea.l0] at h
 | k+1=>by
  have ih0:=hinterlandref02_Sea.mono_l k
  ·intro y0 y1 y2 y3 y4;unfold hinterlandref02_Sea.l0;repeat' first
   | (with_reducible exact ih0 _ _ _ _ _)
   | (with_reducible exact LeO.refl _)
   | (with_reducible exact LeO.none _)
   | (with_reducible refine LeO.ite ?_ ?_)
   | (with_reducible refine LeO.bind ?_ (fun _=>?_))
theorem hinterlandref02_Sea.mono:∀ a0 a1 a2 a3 k,LeO (hinterlandref02_Sea.f k a0 a1 a2 a3) (hinterlandref02_Sea.f (k+1) a0 a1 a2 a3) := by
 intro a0 a1 a2 a3 k;have ih0:=hinterlandref02_Sea.mono_l k;unfold hinterlandref02_Sea.f;repeat' first
   | (with_reducible exact ih0 _ _ _ _ _)
   | (with_reducible exact LeO.refl _)
   | (with_reducible exact LeO.none _)
   | (with_reducible refine LeO.ite ?_ ?_)
   | (with_reducible refine LeO.bind ?_ (fun _=>?_))
set_option maxHeartbeats 8000000 in
set_option maxRecDepth 100000 in
theorem hinterlandref02_Sea.calls (k:Nat) (a0_0:Int) (a0_1:Int) (A0_2:Option Addr) (c0_2:Nat) (l0_2:List Int) (a1:Int) (r:Bool) (w:World) (hr0_2:Kd.C (Kd.int .i64) w A0_2 l0_2.length l0_2) (hc0_2:l0_2.length≤c0_2) (h:hinterlandref02_Sea.f k a0_0 a0_1 l0_2 a1=some r) :
  Calls Try.prog 92 #[.agg #[.int .i64 a0_0,.int .i64 a0_1,.slice A0_2 l0_2.length c0_2],.int .i64 a1] w fun e w'=>e=.returned (.bool r)∧Below w.heap.size w w':=by
 have hu53:=Try.underlying53;have hu126:=Try.underlying126;have HR0_2:=Aside0.mk hr0_2;have HC0_2:=Aside0.mk hc0_2;clear hr0_2 hc0_2;have HB:=Aside0.mk (Below.refl w.heap.size w);have H:=h;clear h;unfold hinterlandref02_Sea.f at H;obtain ⟨t179,A3,H⟩:=bnd H;have H':=Aside0.mk H;clear H;go_enter Try.func92,Try.ntmps92;go_wp2_with (first|((with_reducible refine gate_dst (N:=2) rfl ?_);refine box_ev (N:=2) (cs:=#[.int .i64 a0_0,.int .i64 a0_1,.slice A0_2 l0_2.length c0_2]) (t:=53) ?_;intro gb178 hg w4 hbox hb;have BK178:=Aside0.mk hbox;have GW178:=gsz (w:=w) hg;have GE178:=GW178;replace HB:=hbs hb;clear hb hbox hg;obtain ⟨_,_,_,_,_,_⟩:=cells3 BK178.out)|((with_reducible refine gate_callee (f:=103) rfl ?_);refine goesL_ (some 9) rfl rfl Try.func103 (by kernel_rfl) rfl #[.agg #[.int .i64 a0_0,.int .i64 a0_1,.slice A0_2 l0_2.length c0_2],.int .i64 a1] rfl ga_ ?_;(with_reducible refine (hinterlandref02_Places.calls a0_0 a0_1 _ _ l0_2 a1 t179 _ ?_ ?_ A3.out).mono ?_);exact cq HR0_2;exact HC0_2.out;rintro e w6 ⟨rfl,hb⟩;refine ⟨_,rfl,?_⟩;replace BK178:=bkb BK178 hb;replace HB:=hbs hb))
 go_loopg [10] k (fun kq v10 w'=>∃ (x10_1:Int),v10=.int .i64 x10_1∧Aside0 (hinterlandref02_Sea.l0 kq t179 x10_1 a0_0 a0_1 l0_2=some r)∧Aside0 (kq≤k)∧Aside0 (w'.heap[gb178]?=some (.cells #[.int .i64 a0_0,.int .i64 a0_1,(.slice A0_2 l0_2.length c0_2)] 53 (0,0)))∧Aside0 (Below w.heap.size w w'))
 case atStart=>exact ⟨(0),(by first|rfl|(simp;done)|(simp [*];done)),H',⟨Nat.le_refl _⟩,⟨blk_up BK178.out⟩,⟨hb_⟩⟩
 case round =>
  clear H';obtain ⟨x10_1,rfl,HA,HK1,BK178,HB⟩:=hrel;cases gk with
  | zero=>exact absurd HA.out (by simp [hinterlandref02_Sea.l0])
  | succ k1 =>
   have H:=HA.out;clear HA;simp only [hinterlandref02_Sea.l0] at H;by_cases c7:x10_1<4;rotate_left
   ·rw [if_neg c7] at H;have c7b0:=decide_eq_false c7;clear c7;obtain rfl:=Option.some.inj H;go_wp2
    go_ret
    exact ⟨er_,hb_⟩
   rw [if_pos c7] at H;have c7b0:=decide_eq_true c7;clear c7;obtain ⟨c8,H⟩:=ifp_ H;have c8b0:=decide_eq_true c8;clear c8;have hix9:=fun (W_:World)=>(ix126_run t179.f0 t179.f1 t179.f2 t179.f3 x10_1 (ofd) (ofd) W_:(Instr.index 126 (.agg #[.int .i64 t179.f0,.int .i64 t179.f1,.int .i64 t179.f2,.int .i64 t179.f3]) (.int .i64 x10_1)).run Try.prog W_=.ok (.int .i64 (ix126 t179 x10_1)) W_)
   obtain ⟨c10,H⟩:=ifp_ H;have c10b0:=decide_eq_true c10;clear c10;obtain ⟨c11,H⟩:=ifp_ H;have c11b0:=decide_eq_true c11;clear c11;by_cases c12:(rd l0_2 (ix126 t179 x10_1)) > 2
   ·rw [if_pos c12] at H;have c12b0:=decide_eq_true c12;clear c12;obtain rfl:=Option.some.inj H;obtain ⟨_,_,_,_,_,_⟩:=cells3 BK178.out;have p180:0≤((ix126 t179 x10_1):Int):=ofd;have q180:(ix126 t179 x10_1)<(l0_2.length:Int):=ofd;obtain ⟨ad180,e180,hx180_0⟩:=Kd.at_int HR0_2.out (ix126 t179 x10_1) p180 q180;cases e180;replace hx180_0:=hbc HB hx180_0;replace p180:=eq_true p180;replace q180:=eq_true q180;go_wp2
    go_ret
    exact ⟨er_,hb_⟩
   ·rw [if_neg c12] at H;have c12b0:=decide_eq_false c12;clear c12;have H':=Aside0.mk H;clear H;obtain ⟨_,_,_,_,_,_⟩:=cells3 BK178.out;have p180:0≤((ix126 t179 x10_1):Int):=ofd;have q180:(ix126 t179 x10_1)<(l0_2.length:Int):=ofd;obtain ⟨ad180,e180,hx180_0⟩:=Kd.at_int HR0_2.out (ix126 t179 x10_1) p180 q180;cases e180;replace hx180_0:=hbc HB hx180_0;replace p180:=eq_true p180;replace q180:=eq_true q180;go_wp2
    go_roundg k1
    case measure=>have:=HK1.out;omega
    case rel=>exact ⟨(wrap64 (x10_1+1)),(by first|rfl|(simp;done)|(simp [*];done)),H',⟨by have:=HK1.out;omega⟩,⟨blk_up BK178.out⟩,⟨hb_⟩⟩

/-! ### hinterlandref06_upper: function 93 -/
def hinterlandref06_upper.f (a0:Int):Option (Int) := if a0=6 then (some 0) else (if a0=12 then (some 1) else (if a0=9 then (some 2) else (if a0=3 then (some 3) else (some (-1)))))
set_option maxHeartbeats 8000000 in
set_option maxRecDepth 100000 in
theorem hinterlandref06_upper.calls (a0:Int) (r:Int) (w:World) (h:hinterlandref06_upper.f a0=some r) :
  Calls Try.prog 93 #[.int .i64 a0] w fun e w'=>e=.returned (.int .i64 r)∧Drawn0 w w':=by
 have H:=h;clear h;unfold hinterlandref06_upper.f at H;by_cases c2:a0=6
 ·rw [if_pos c2] at H;have c2b0:=bqt c2;have c2b1:=bnf c2;clear c2;obtain rfl:=Option.some.inj H;go_enter Try.func93,Try.ntmps93;go_wp2
  go_ret
  exact ⟨by first|rfl|(simp;done)|(simp [*];done),by repeat (first|exact Drawn0.refl _|apply Drawn0.step)⟩
 rw [if_neg c2] at H;have c2b0:=bqf c2;have c2b1:=bnt c2;by_cases c3:a0=12
 ·rw [if_pos c3] at H;have c3b0:=bqt c3;have c3b1:=bnf c3;clear c3;obtain rfl:=Option.some.inj H;go_enter Try.func93,Try.ntmps93;go_wp2
  go_ret
  exact ⟨by first|rfl|(simp;done)|(simp [*];done),by repeat (first|exact Drawn0.refl _|apply Drawn0.step)⟩
 rw [if_neg c3] at H;have c3b0:=bqf c3;have c3b1:=bnt c3;by_cases c4:a0=9
 ·rw [if_pos c4] at H;have c4b0:=bqt c4;have c4b1:=bnf c4;clear c4;obtain rfl:=Option.some.inj H;go_enter Try.func93,Try.ntmps93;go_wp2
  go_ret
  exact ⟨by first|rfl|(simp;done)|(simp [*];done),by repeat (first|exact Drawn0.refl _|apply Drawn0.step)⟩
 ·rw [if_neg c4] at H;have c4b0:=bqf c4;have c4b1:=bnt c4;by_cases c5:a0=3
  ·rw [if_pos c5] at H;have c5b0:=bqt c5;have c5b1:=bnf c5;clear c5;obtain rfl:=Option.some.inj H;go_enter Try.func93,Try.ntmps93;go_wp2
   go_ret
   exact ⟨by first|rfl|(simp;done)|(simp [*];done),by repeat (first|exact Drawn0.refl _|apply Drawn0.step)⟩
  ·rw [if_neg c5] at H;have c5b0:=bqf c5;have c5b1:=bnt c5;obtain rfl:=Option.some.inj H;go_enter Try.func93,Try.ntmps93;go_wp2
   go_ret
   exact ⟨by first|rfl|(simp;done)|(simp [*];done),by repeat (first|exact Drawn0.refl _|apply Drawn0.step)⟩

/-! ### hinterlandref06_lies: function 76 -/
def hinterlandref06_lies.j0:Nat→Int→Int→Bool→Int→Bool→Option (Int)
 | 0,_,_,_,_,_=>none
 | k+1,x2,x7,x9,x19,x20=>if x20=true then (if x9=true then (some 9) else (if x2=1 then (if x7=0 then (if x2=2 then ((hinterlandref06_upper.f x7).bind fun t185=>(if t185<0 then (some 5) else (some 0))) else (some 0)) else (some 5)) else (if x2=2 then ((hinterlandref06_upper.f x7).bind fun t186=>(if t186<0 then (some 5) else (some 0))) else (some 0)))) else (if x19=3 then (if x9=true then (some 0) else (if x7=0 then (some 0) else (some 9))) else (some 0))
def hinterlandref06_lies.f (k:Nat) (a0_0:Int) (a0_1:Int) (l0_2:List Int) (a1:Int) (a2:Int):Option (Int) := (hinterlandref02_Face.f k a0_0 a0_1 l0_2 a1).bind fun bt182=>((hinterlandref02_Sea.f k a0_0 a0_1 l0_2 a1).bind fun t184=>(if a2=1 then (hinterlandref06_lies.j0 k a2 bt182.1 t184 a2 (a2 == 1)) else (hinterlandref06_lies.j0 k a2 bt182.1 t184 a2 (a2 == 2))))
theorem hinterlandref06_lies.mono_l:∀ k,(∀ y0 y1 y2 y3 y4,LeO (hinterlandref06_lies.j0 k y0 y1 y2 y3 y4) (hinterlandref06_lies.j0 (k+1) y0 y1 y2 y3 y4))
 | 0=>fun _ _ _ _ _ r h=>by simp [hinterlandref06_lies.j0] at h
 | k+1=>by
  have ih0:=hinterlandref06_lies.mono_l k
  ·intro y0 y1 y2 y3 y4;unfold hinterlandref06_lies.j0;repeat' first
   | (with_reducible exact ih0 _ _ _ _ _)
   | (with_reducible exact hinterlandref02_Face.mono _ _ _ _ _)
   | (with_reducible exact hinterlandref02_Sea.mono _ _ _ _ _)
   | (with_reducible exact LeO.refl _)
   | (with_reducible exact LeO.none _)
   | (with_reducible refine LeO.ite ?_ ?_)
   | (with_reducible refine LeO.bind ?_ (fun _=>?_))
theorem hinterlandref06_lies.mono:∀ a0 a1 a2 a3 a4 k,LeO (hinterlandref06_lies.f k a0 a1 a2 a3 a4) (hinterlandref06_lies.f (k+1) a0 a1 a2 a3 a4) := by
 intro a0 a1 a2 a3 a4 k;have ih0:=hinterlandref06_lies.mono_l k;unfold hinterlandref06_lies.f;repeat' first
   | (with_reducible exact ih0 _ _ _ _ _)
   | (with_reducible exact hinterlandref02_Face.mono _ _ _ _ _)
   | (with_reducible exact hinterlandref02_Sea.mono _ _ _ _ _)
   | (with_reducible exact LeO.refl _)
   | (with_reducible exact LeO.none _)
   | (with_reducible refine LeO.ite ?_ ?_)
   | (with_reducible refine LeO.bind ?_ (fun _=>?_))
set_option maxHeartbeats 8000000 in
set_option maxRecDepth 100000 in
theorem hinterlandref06_lies.calls (k:Nat) (a0_0:Int) (a0_1:Int) (A0_2:Option Addr) (c0_2:Nat) (l0_2:List Int) (a1:Int) (a2:Int) (r:Int) (w:World) (hr0_2:Kd.C (Kd.int .i64) w A0_2 l0_2.length l0_2) (hc0_2:l0_2.length≤c0_2) (h:hinterlandref06_lies.f k a0_0 a0_1 l0_2 a1 a2=some r) :
  Calls Try.prog 76 #[.agg #[.int .i64 a0_0,.int .i64 a0_1,.slice A0_2 l0_2.length c0_2],.int .i64 a1,.int .i64 a2] w fun e w'=>e=.returned (.int .i64 r)∧Below w.heap.size w w':=by
 have hu53:=Try.underlying53;have HR0_2:=Aside0.mk hr0_2;have HC0_2:=Aside0.mk hc0_2;clear hr0_2 hc0_2;have HB:=Aside0.mk (Below.refl w.heap.size w);have H:=h;clear h;unfold hinterlandref06_lies.f at H;obtain ⟨⟨t182,t183⟩,A4,H⟩:=bnd H;(try dsimp only at H);obtain ⟨t184,A5,H⟩:=bnd H;have HC6:=Aside0.mk H;clear H;go_enter Try.func76,Try.ntmps76;go_upto_if 20 with (first|((with_reducible refine gate_dst (N:=3) rfl ?_);refine box_ev (N:=3) (cs:=#[.int .i64 a0_0,.int .i64 a0_1,.slice A0_2 l0_2.length c0_2]) (t:=53) ?_;intro gb181 hg w7 hbox hb;have BK181:=Aside0.mk hbox;have GW181:=gsz (w:=w) hg;have GE181:=GW181;replace HB:=hbs hb;clear hb hbox hg;obtain ⟨_,_,_,_,_,_⟩:=cells3 BK181.out)|((with_reducible refine gate_callee (f:=91) rfl ?_);refine goesL_ (some 13) rfl rfl Try.func91 (by kernel_rfl) rfl #[.agg #[.int .i64 a0_0,.int .i64 a0_1,.slice A0_2 l0_2.length c0_2],.int .i64 a1] rfl ga_ ?_;(with_reducible refine (hinterlandref02_Face.calls k a0_0 a0_1 _ _ l0_2 a1 t182 t183 _ ?_ ?_ A4.out).mono ?_);exact cq HR0_2;exact HC0_2.out;rintro e w9 ⟨rfl,hb⟩;refine ⟨_,rfl,?_⟩;replace BK181:=bkb BK181 hb;replace HB:=hbs hb;obtain ⟨_,_,_,_,_,_⟩:=cells3 BK181.out)|((with_reducible refine gate_callee (f:=92) rfl ?_);refine goesL_ (some 18) rfl rfl Try.func92 (by kernel_rfl) rfl #[.agg #[.int .i64 a0_0,.int .i64 a0_1,.slice A0_2 l0_2.length c0_2],.int .i64 a1] rfl ga_ ?_;(with_reducible refine (hinterlandref02_Sea.calls k a0_0 a0_1 _ _ l0_2 a1 t184 _ ?_ ?_ A5.out).mono ?_);exact cq HR0_2;exact HC0_2.out;rintro e w11 ⟨rfl,hb⟩;refine ⟨_,rfl,?_⟩;replace BK181:=bkb BK181 hb;replace HB:=hbs hb))
 (try simp only [Act.put,List.setIfInBounds_toArray,List.set_cons_zero,List.set_cons_succ]);go_cut [20] (fun v20 wc=>∃ (kq:Nat) (x20_5:Bool),v20=.bool x20_5∧Aside0 (hinterlandref06_lies.j0 kq a2 t182 t184 a2 x20_5=some r)∧Aside0 (kq≤k)∧Aside0 (wc.heap[gb181]?=some (.cells #[.int .i64 a0_0,.int .i64 a0_1,(.slice A0_2 l0_2.length c0_2)] 53 (0,0)))∧Aside0 (Below w.heap.size w wc))
 case first =>
  have H:=HC6.out;clear HC6;by_cases c12:a2=1
  ·rw [if_pos c12] at H;have c12b0:=bqt c12;have c12b1:=bnf c12;clear c12;(first|rw [c12b0]|(simp only [i64_w,i32_w];rw [c12b0])|skip);have H':=Aside0.mk H;clear H;go_wp2
   go_meet
   case rel=>exact ⟨_,((a2 == 1)),(by first|rfl|(simp;done)|(simp [*];done)),H',⟨by first|omega|exact Nat.le_refl _⟩,⟨blk_up BK181.out⟩,⟨hb_⟩⟩
  ·rw [if_neg c12] at H;have c12b0:=bqf c12;have c12b1:=bnt c12;(first|rw [c12b0]|(simp only [i64_w,i32_w];rw [c12b0])|skip);have H':=Aside0.mk H;clear H;go_wp2
   go_meet
   case rel=>exact ⟨_,((a2 == 2)),(by first|rfl|(simp;done)|(simp [*];done)),H',⟨by first|omega|exact Nat.le_refl _⟩,⟨blk_up BK181.out⟩,⟨hb_⟩⟩
 case rest =>
  clear HC6;obtain ⟨kq,x20_5,rfl,HA,HJ5,BK181,HB⟩:=hcut;cases kq with
  | zero=>exact absurd HA.out (by simp [hinterlandref06_lies.j0])
  | succ kj5 =>
   have H:=HA.out;clear HA;simp only [hinterlandref06_lies.j0] at H;by_cases c13:x20_5=true
   ·subst c13;rw [if_pos rfl] at H;by_cases c14:t184=true
    ·subst c14;rw [if_pos rfl] at H;obtain rfl:=Option.some.inj H;go_wp2
     go_ret
     exact ⟨er_,hb_⟩
    ·replace c14:=Bool.eq_false_iff.mpr c14;subst c14;rw [if_neg (show ¬ (false=true) by decide)] at H;by_cases c15:a2=1;rotate_left
     ·rw [if_neg c15] at H;have c15b0:=bqf c15;have c15b1:=bnt c15;by_cases c20:a2=2
      ·rw [if_pos c20] at H;have c20b0:=bqt c20;have c20b1:=bnf c20;clear c20;obtain ⟨t186,A21,H⟩:=bnd H;by_cases c22:t186<0
       ·rw [if_pos c22] at H;have c22b0:=decide_eq_true c22;clear c22;obtain rfl:=Option.some.inj H;go_wp2_with (first|(go_at_call 93;(with_reducible refine (hinterlandref06_upper.calls t182 t186 _ A21.out).mono ?_);rintro e w' ⟨rfl,⟨nd,rfl⟩⟩))
        go_ret
        exact ⟨er_,hb_⟩
       ·rw [if_neg c22] at H;have c22b0:=decide_eq_false c22;clear c22;obtain rfl:=Option.some.inj H;go_wp2_with (first|(go_at_call 93;(with_reducible refine (hinterlandref06_upper.calls t182 t186 _ A21.out).mono ?_);rintro e w' ⟨rfl,⟨nd,rfl⟩⟩))
        go_ret
        exact ⟨er_,hb_⟩
      ·rw [if_neg c20] at H;have c20b0:=bqf c20;have c20b1:=bnt c20;obtain rfl:=Option.some.inj H;go_wp2
       go_ret
       exact ⟨er_,hb_⟩
     rw [if_pos c15] at H;have c15b0:=bqt c15;have c15b1:=bnf c15;clear c15;by_cases c16:t182=0
     ·rw [if_pos c16] at H;have c16b0:=bqt c16;have c16b1:=bnf c16;clear c16;by_cases c17:a2=2
      ·rw [if_pos c17] at H;have c17b0:=bqt c17;have c17b1:=bnf c17;clear c17;obtain ⟨t185,A18,H⟩:=bnd H;by_cases c19:t185<0
       ·rw [if_pos c19] at H;have c19b0:=decide_eq_true c19;clear c19;obtain rfl:=Option.some.inj H;go_wp2_with (first|(go_at_call 93;(with_reducible refine (hinterlandref06_upper.calls t182 t185 _ A18.out).mono ?_);rintro e w' ⟨rfl,⟨nd,rfl⟩⟩))
        go_ret
        exact ⟨er_,hb_⟩
       ·rw [if_neg c19] at H;have c19b0:=decide_eq_false c19;clear c19;obtain rfl:=Option.some.inj H;go_wp2_with (first|(go_at_call 93;(with_reducible refine (hinterlandref06_upper.calls t182 t185 _ A18.out).mono ?_);rintro e w' ⟨rfl,⟨nd,rfl⟩⟩))
        go_ret
        exact ⟨er_,hb_⟩
      ·rw [if_neg c17] at H;have c17b0:=bqf c17;have c17b1:=bnt c17;obtain rfl:=Option.some.inj H;go_wp2
       go_ret
       exact ⟨er_,hb_⟩
     ·rw [if_neg c16] at H;have c16b0:=bqf c16;have c16b1:=bnt c16;obtain rfl:=Option.some.inj H;go_wp2
      go_ret
      exact ⟨er_,hb_⟩
   ·replace c13:=Bool.eq_false_iff.mpr c13;subst c13;rw [if_neg (show ¬ (false=true) by decide)] at H;by_cases c23:a2=3
    ·rw [if_pos c23] at H;have c23b0:=bqt c23;have c23b1:=bnf c23;clear c23;by_cases c24:t184=true
     ·subst c24;rw [if_pos rfl] at H;obtain rfl:=Option.some.inj H;go_wp2
      go_ret
      exact ⟨er_,hb_⟩
     ·replace c24:=Bool.eq_false_iff.mpr c24;subst c24;rw [if_neg (show ¬ (false=true) by decide)] at H;by_cases c25:t182=0
      ·rw [if_pos c25] at H;have c25b0:=bqt c25;have c25b1:=bnf c25;clear c25;obtain rfl:=Option.some.inj H;go_wp2
       go_ret
       exact ⟨er_,hb_⟩
      ·rw [if_neg c25] at H;have c25b0:=bqf c25;have c25b1:=bnt c25;obtain rfl:=Option.some.inj H;go_wp2
       go_ret
       exact ⟨er_,hb_⟩
    ·rw [if_neg c23] at H;have c23b0:=bqf c23;have c23b1:=bnt c23;obtain rfl:=Option.some.inj H;go_wp2
     go_ret
     exact ⟨er_,hb_⟩

/-! ### hinterlandref06_Wet: function 77 -/
def hinterlandref06_Wet.f (k:Nat) (a0_0:Int) (a0_1:Int) (l0_2:List Int) (l1:List Int) (a2:Int):Option (Bool) := if 0≤a2 then (if a2<(l1.length:Int) then (if (rd l1 a2)=0 then ((hinterlandref02_Sea.f k a0_0 a0_1 l0_2 a2).bind fun t189=>(some t189)) else (if (rd l1 a2)=1 then ((hinterlandref02_Sea.f k a0_0 a0_1 l0_2 a2).bind fun t190=>(if t190=true then (some false) else (some true))) else (if (rd l1 a2)=2 then ((hinterlandref02_Sea.f k a0_0 a0_1 l0_2 a2).bind fun t191=>(if t191=true then (some false) else (some true))) else (some true)))) else (none)) else (none)
theorem hinterlandref06_Wet.mono:∀ a0 a1 a2 a3 a4 k,LeO (hinterlandref06_Wet.f k a0 a1 a2 a3 a4) (hinterlandref06_Wet.f (k+1) a0 a1 a2 a3 a4) := by
 intro a0 a1 a2 a3 a4 k;unfold hinterlandref06_Wet.f;repeat' first
   | (with_reducible exact hinterlandref02_Sea.mono _ _ _ _ _)
   | (with_reducible exact LeO.refl _)
   | (with_reducible exact LeO.none _)
   | (with_reducible refine LeO.ite ?_ ?_)
   | (with_reducible refine LeO.bind ?_ (fun _=>?_))
set_option maxHeartbeats 8000000 in
set_option maxRecDepth 100000 in
theorem hinterlandref06_Wet.calls (k:Nat) (a0_0:Int) (a0_1:Int) (A0_2:Option Addr) (c0_2:Nat) (l0_2:List Int) (A1:Option Addr) (c1:Nat) (l1:List Int) (a2:Int) (r:Bool) (w:World) (hr0_2:Kd.C (Kd.int .i64) w A0_2 l0_2.length l0_2) (hc0_2:l0_2.length≤c0_2) (hr1:Kd.C (Kd.int .i64) w A1 l1.length l1) (hc1:l1.length≤c1) (h:hinterlandref06_Wet.f k a0_0 a0_1 l0_2 l1 a2=some r) :
  Calls Try.prog 77 #[.agg #[.int .i64 a0_0,.int .i64 a0_1,.slice A0_2 l0_2.length c0_2],.slice A1 l1.length c1,.int .i64 a2] w fun e w'=>e=.returned (.bool r)∧Below w.heap.size w w':=by
 have hu53:=Try.underlying53;have HR0_2:=Aside0.mk hr0_2;have HC0_2:=Aside0.mk hc0_2;clear hr0_2 hc0_2;have HR1:=Aside0.mk hr1;have HC1:=Aside0.mk hc1;clear hr1 hc1;have HB:=Aside0.mk (Below.refl w.heap.size w);have H:=h;clear h;unfold hinterlandref06_Wet.f at H;obtain ⟨c4,H⟩:=ifp_ H;have c4b0:=decide_eq_true c4;clear c4;obtain ⟨c5,H⟩:=ifp_ H;have c5b0:=decide_eq_true c5;clear c5;by_cases c6:(rd l1 a2)=0
 ·rw [if_pos c6] at H;have c6b0:=bqt c6;have c6b1:=bnf c6;clear c6;obtain ⟨t189,A7,H⟩:=bnd H;obtain rfl:=Option.some.inj H;go_enter Try.func77,Try.ntmps77;go_wp2_with (first|((with_reducible refine gate_dst (N:=3) rfl ?_);refine box_ev (N:=3) (cs:=#[.int .i64 a0_0,.int .i64 a0_1,.slice A0_2 l0_2.length c0_2]) (t:=53) ?_;intro gb187 hg w8 hbox hb;have BK187:=Aside0.mk hbox;have GW187:=gsz (w:=w) hg;have GE187:=GW187;replace HB:=hbs hb;clear hb hbox hg;have p188:0≤(a2:Int):=ofd;have q188:a2<(l1.length:Int):=ofd;obtain ⟨ad188,e188,hx188_0⟩:=Kd.at_int HR1.out a2 p188 q188;cases e188;replace hx188_0:=hbc HB hx188_0;replace p188:=eq_true p188;replace q188:=eq_true q188;obtain ⟨_,_,_,_,_,_⟩:=cells3 BK187.out)|(go_at_call 92;(with_reducible refine (hinterlandref02_Sea.calls k a0_0 a0_1 _ _ l0_2 a2 t189 _ ?_ ?_ A7.out).mono ?_);exact cq HR0_2;exact HC0_2.out;rintro e w10 ⟨rfl,hb⟩;replace BK187:=bkb BK187 hb;replace HB:=hbs hb))
  go_ret
  exact ⟨er_,hb_⟩
 rw [if_neg c6] at H;have c6b0:=bqf c6;have c6b1:=bnt c6;by_cases c11:(rd l1 a2)=1
 ·rw [if_pos c11] at H;have c11b0:=bqt c11;have c11b1:=bnf c11;clear c11;obtain ⟨t190,A12,H⟩:=bnd H;by_cases c13:t190=true
  ·subst c13;rw [if_pos rfl] at H;obtain rfl:=Option.some.inj H;go_enter Try.func77,Try.ntmps77;go_wp2_with (first|((with_reducible refine gate_dst (N:=3) rfl ?_);refine box_ev (N:=3) (cs:=#[.int .i64 a0_0,.int .i64 a0_1,.slice A0_2 l0_2.length c0_2]) (t:=53) ?_;intro gb187 hg w14 hbox hb;have BK187:=Aside0.mk hbox;have GW187:=gsz (w:=w) hg;have GE187:=GW187;replace HB:=hbs hb;clear hb hbox hg;have p188:0≤(a2:Int):=ofd;have q188:a2<(l1.length:Int):=ofd;obtain ⟨ad188,e188,hx188_0⟩:=Kd.at_int HR1.out a2 p188 q188;cases e188;replace hx188_0:=hbc HB hx188_0;replace p188:=eq_true p188;replace q188:=eq_true q188;obtain ⟨_,_,_,_,_,_⟩:=cells3 BK187.out)|(go_at_call 92;(with_reducible refine (hinterlandref02_Sea.calls k a0_0 a0_1 _ _ l0_2 a2 true _ ?_ ?_ A12.out).mono ?_);exact cq HR0_2;exact HC0_2.out;rintro e w16 ⟨rfl,hb⟩;replace BK187:=bkb BK187 hb;replace HB:=hbs hb))
   go_ret
   exact ⟨er_,hb_⟩
  ·replace c13:=Bool.eq_false_iff.mpr c13;subst c13;rw [if_neg (show ¬ (false=true) by decide)] at H;obtain rfl:=Option.some.inj H;go_enter Try.func77,Try.ntmps77;go_wp2_with (first|((with_reducible refine gate_dst (N:=3) rfl ?_);refine box_ev (N:=3) (cs:=#[.int .i64 a0_0,.int .i64 a0_1,.slice A0_2 l0_2.length c0_2]) (t:=53) ?_;intro gb187 hg w17 hbox hb;have BK187:=Aside0.mk hbox;have GW187:=gsz (w:=w) hg;have GE187:=GW187;replace HB:=hbs hb;clear hb hbox hg;have p188:0≤(a2:Int):=ofd;have q188:a2<(l1.length:Int):=ofd;obtain ⟨ad188,e188,hx188_0⟩:=Kd.at_int HR1.out a2 p188 q188;cases e188;replace hx188_0:=hbc HB hx188_0;replace p188:=eq_true p188;replace q188:=eq_true q188;obtain ⟨_,_,_,_,_,_⟩:=cells3 BK187.out)|(go_at_call 92;(with_reducible refine (hinterlandref02_Sea.calls k a0_0 a0_1 _ _ l0_2 a2 false _ ?_ ?_ A12.out).mono ?_);exact cq HR0_2;exact HC0_2.out;rintro e w19 ⟨rfl,hb⟩;replace BK187:=bkb BK187 hb;replace HB:=hbs hb))
   go_ret
   exact ⟨er_,hb_⟩
 rw [if_neg c11] at H;have c11b0:=bqf c11;have c11b1:=bnt c11;by_cases c20:(rd l1 a2)=2
 ·rw [if_pos c20] at H;have c20b0:=bqt c20;have c20b1:=bnf c20;clear c20;obtain ⟨t191,A21,H⟩:=bnd H;by_cases c22:t191=true
  ·subst c22;rw [if_pos rfl] at H;obtain rfl:=Option.some.inj H;go_enter Try.func77,Try.ntmps77;go_wp2_with (first|((with_reducible refine gate_dst (N:=3) rfl ?_);refine box_ev (N:=3) (cs:=#[.int .i64 a0_0,.int .i64 a0_1,.slice A0_2 l0_2.length c0_2]) (t:=53) ?_;intro gb187 hg w23 hbox hb;have BK187:=Aside0.mk hbox;have GW187:=gsz (w:=w) hg;have GE187:=GW187;replace HB:=hbs hb;clear hb hbox hg;have p188:0≤(a2:Int):=ofd;have q188:a2<(l1.length:Int):=ofd;obtain ⟨ad188,e188,hx188_0⟩:=Kd.at_int HR1.out a2 p188 q188;cases e188;replace hx188_0:=hbc HB hx188_0;replace p188:=eq_true p188;replace q188:=eq_true q188;obtain ⟨_,_,_,_,_,_⟩:=cells3 BK187.out)|(go_at_call 92;(with_reducible refine (hinterlandref02_Sea.calls k a0_0 a0_1 _ _ l0_2 a2 true _ ?_ ?_ A21.out).mono ?_);exact cq HR0_2;exact HC0_2.out;rintro e w25 ⟨rfl,hb⟩;replace BK187:=bkb BK187 hb;replace HB:=hbs hb))
   go_ret
   exact ⟨er_,hb_⟩
  ·replace c22:=Bool.eq_false_iff.mpr c22;subst c22;rw [if_neg (show ¬ (false=true) by decide)] at H;obtain rfl:=Option.some.inj H;go_enter Try.func77,Try.ntmps77;go_wp2_with (first|((with_reducible refine gate_dst (N:=3) rfl ?_);refine box_ev (N:=3) (cs:=#[.int .i64 a0_0,.int .i64 a0_1,.slice A0_2 l0_2.length c0_2]) (t:=53) ?_;intro gb187 hg w26 hbox hb;have BK187:=Aside0.mk hbox;have GW187:=gsz (w:=w) hg;have GE187:=GW187;replace HB:=hbs hb;clear hb hbox hg;have p188:0≤(a2:Int):=ofd;have q188:a2<(l1.length:Int):=ofd;obtain ⟨ad188,e188,hx188_0⟩:=Kd.at_int HR1.out a2 p188 q188;cases e188;replace hx188_0:=hbc HB hx188_0;replace p188:=eq_true p188;replace q188:=eq_true q188;obtain ⟨_,_,_,_,_,_⟩:=cells3 BK187.out)|(go_at_call 92;(with_reducible refine (hinterlandref02_Sea.calls k a0_0 a0_1 _ _ l0_2 a2 false _ ?_ ?_ A21.out).mono ?_);exact cq HR0_2;exact HC0_2.out;rintro e w28 ⟨rfl,hb⟩;replace BK187:=bkb BK187 hb;replace HB:=hbs hb))
   go_ret
   exact ⟨er_,hb_⟩
 ·rw [if_neg c20] at H;have c20b0:=bqf c20;have c20b1:=bnt c20;obtain rfl:=Option.some.inj H;go_enter Try.func77,Try.ntmps77;go_wp2_with (first|((with_reducible refine gate_dst (N:=3) rfl ?_);refine box_ev (N:=3) (cs:=#[.int .i64 a0_0,.int .i64 a0_1,.slice A0_2 l0_2.length c0_2]) (t:=53) ?_;intro gb187 hg w29 hbox hb;have BK187:=Aside0.mk hbox;have GW187:=gsz (w:=w) hg;have GE187:=GW187;replace HB:=hbs hb;clear hb hbox hg;have p188:0≤(a2:Int):=ofd;have q188:a2<(l1.length:Int):=ofd;obtain ⟨ad188,e188,hx188_0⟩:=Kd.at_int HR1.out a2 p188 q188;cases e188;replace hx188_0:=hbc HB hx188_0;replace p188:=eq_true p188;replace q188:=eq_true q188))
  go_ret
  exact ⟨er_,hb_⟩

end Go.Proofs.Ythjmdpekcleihaa.P

/- Functions of this seat as plain Lean functions, with proofs that the Go code comes to just their answers, or what stands between them and a law's statement; no conditions. (Laid by a program of this session, out of the kit's print.) -/
import Derived.Test.YthjmdpekcleihaaPx0
namespace Go.Proofs.Ythjmdpekcleihaa.P
open Go.RowKit Go.Proofs.YthjmdpekcleihaaW.PrintWords Go.Proofs.YthjmdpekcleihaaW.PrintLast Go.Proofs.YthjmdpekcleihaaW.PrintMore
attribute [local go_sem] max2_int min2_int max_two min_two max_three min_three max_four min_four   -- for this text's walks alone
set_option linter.unusedVariables false
set_option linter.unusedSimpArgs false

/-! ### road_Validate: function 36 -/
mutual
def road_Validate.j0:Nat→Bool→Int→Int→List Int→List Int→Option (Int)
 | 0,_,_,_,_,_=>none
 | k+1,x45,x102000,x102001,x102002,x102003=>if x45=true then (some 1) else (road_Validate.l0 k (x102002.length:Int) 0 x102000 x102001 x102002 x102003)
def road_Validate.l0:Nat→Int→Int→Int→Int→List Int→List Int→Option (Int)
 | 0,_,_,_,_,_,_=>none
 | k+1,x48,x49,x102000,x102001,x102002,x102003=>if x49<x48 then (if 0≤x49 then (if x49<(x102002.length:Int) then (if (rd x102002 x49)<0 then (some 1) else (if (rd x102002 x49) > 15 then (some 1) else (if x49<(x102003.length:Int) then (if (rd x102003 x49)<0 then (some 1) else (if (rd x102003 x49) > 2 then (some 1) else (road_Validate.l0 k x48 (wrap64 (x49+1)) x102000 x102001 x102002 x102003))) else (none)))) else (none)) else (none)) else (road_Validate.l1 k x102003 (x102003.length:Int) 0 x102000 x102001 x102002 x102003)
def road_Validate.l1:Nat→List Int→Int→Int→Int→Int→List Int→List Int→Option (Int)
 | 0,_,_,_,_,_,_,_=>none
 | k+1,x84,x85,x86,x102000,x102001,x102002,x102003=>if x86<x85 then (if 0≤x86 then (if x86<(x84.length:Int) then (if (rd x84 x86)=0 then (road_Validate.l1 k x84 x85 (wrap64 (x86+1)) x102000 x102001 x102002 x102003) else (if x86<(x102002.length:Int) then (if (rd x102002 x86)=5 then (road_Validate.l1 k x84 x85 (wrap64 (x86+1)) x102000 x102001 x102002 x102003) else (if (rd x102002 x86)=10 then (road_Validate.l1 k x84 x85 (wrap64 (x86+1)) x102000 x102001 x102002 x102003) else (some 9))) else (none))) else (none)) else (none)) else (some 0)
end
def road_Validate.f (k:Nat) (a0_0:Int) (a0_1:Int) (l0_2:List Int) (l0_3:List Int):Option (Int) := if a0_0<4 then (road_Validate.j0 k true a0_0 a0_1 l0_2 l0_3) else (if a0_0 > 32 then (road_Validate.j0 k true a0_0 a0_1 l0_2 l0_3) else (if a0_1<4 then (road_Validate.j0 k true a0_0 a0_1 l0_2 l0_3) else (if a0_1 > 32 then (road_Validate.j0 k true a0_0 a0_1 l0_2 l0_3) else (if (l0_2.length:Int)=(wrap64 (a0_0 * a0_1)) then (road_Validate.j0 k ((l0_3.length:Int) != (wrap64 (a0_0 * a0_1))) a0_0 a0_1 l0_2 l0_3) else (road_Validate.j0 k true a0_0 a0_1 l0_2 l0_3)))))
theorem road_Validate.mono_l:∀ k,(∀ y0 y1 y2 y3 y4,LeO (road_Validate.j0 k y0 y1 y2 y3 y4) (road_Validate.j0 (k+1) y0 y1 y2 y3 y4))∧(∀ y0 y1 y2 y3 y4 y5,LeO (road_Validate.l0 k y0 y1 y2 y3 y4 y5) (road_Validate.l0 (k+1) y0 y1 y2 y3 y4 y5))∧(∀ y0 y1 y2 y3 y4 y5 y6,LeO (road_Validate.l1 k y0 y1 y2 y3 y4 y5 y6) (road_Validate.l1 (k+1) y0 y1 y2 y3 y4 y5 y6))
 | 0=>⟨fun _ _ _ _ _ r h=>by simp [road_Validate.j0] at h,fun _ _ _ _ _ _ r h=>by simp [road_Validate.l0] at h,fun _ _ _ _ _ _ _ r h=>by simp [road_Validate.l1] at h⟩
 | k+1=>by
  obtain ⟨ih0,ih1,ih2⟩:=road_Validate.mono_l k;refine ⟨?_,?_,?_⟩
  ·intro y0 y1 y2 y3 y4;unfold road_Validate.j0;repeat' first
   | (with_reducible exact ih0 _ _ _ _ _)
   | (with_reducible exact ih1 _ _ _ _ _ _)
   | (with_reducible exact ih2 _ _ _ _ _ _ _)
   | (with_reducible exact LeO.refl _)
   | (with_reducible exact LeO.none _)
   | (with_reducible refine LeO.ite ?_ ?_)
   | (with_reducible refine LeO.bind ?_ (fun _=>?_))
  ·intro y0 y1 y2 y3 y4 y5;unfold road_Validate.l0;repeat' first
   | (with_reducible exact ih0 _ _ _ _ _)
   | (with_reducible exact ih1 _ _ _ _ _ _)
   | (with_reducible exact ih2 _ _ _ _ _ _ _)
   | (with_reducible exact LeO.refl _)
   | (with_reducible exact LeO.none _)
   | (with_reducible refine LeO.ite ?_ ?_)
   | (with_reducible refine LeO.bind ?_ (fun _=>?_))
  ·intro y0 y1 y2 y3 y4 y5 y6;unfold road_Validate.l1;repeat' first
   | (with_reducible exact ih0 _ _ _ _ _)
   | (with_reducible exact ih1 _ _ _ _ _ _)
   | (with_reducible exact ih2 _ _ _ _ _ _ _)
   | (with_reducible exact LeO.refl _)
   | (with_reducible exact LeO.none _)
   | (with_reducible refine LeO.ite ?_ ?_)
   | (with_reducible refine LeO.bind ?_ (fun _=>?_))
theorem road_Validate.mono:∀ a0 a1 a2 a3 k,LeO (road_Validate.f k a0 a1 a2 a3) (road_Validate.f (k+1) a0 a1 a2 a3) := by
 intro a0 a1 a2 a3 k;obtain ⟨ih0,ih1,ih2⟩:=road_Validate.mono_l k;unfold road_Validate.f;repeat' first
   | (with_reducible exact ih0 _ _ _ _ _)
   | (with_reducible exact ih1 _ _ _ _ _ _)
   | (with_reducible exact ih2 _ _ _ _ _ _ _)
   | (with_reducible exact LeO.refl _)
   | (with_reducible exact LeO.none _)
   | (with_reducible refine LeO.ite ?_ ?_)
   | (with_reducible refine LeO.bind ?_ (fun _=>?_))
set_option maxHeartbeats 8000000 in
set_option maxRecDepth 100000 in
theorem road_Validate.calls (k:Nat) (a0_0:Int) (a0_1:Int) (A0_2:Option Addr) (c0_2:Nat) (l0_2:List Int) (A0_3:Option Addr) (c0_3:Nat) (l0_3:List Int) (r:Int) (w:World) (hr0_2:Kd.C (Kd.int .i64) w A0_2 l0_2.length l0_2) (hc0_2:l0_2.length≤c0_2) (hr0_3:Kd.C (Kd.int .i64) w A0_3 l0_3.length l0_3) (hc0_3:l0_3.length≤c0_3) (h:road_Validate.f k a0_0 a0_1 l0_2 l0_3=some r) :
  Calls Try.prog 36 #[.agg #[.int .i64 a0_0,.int .i64 a0_1,.slice A0_2 l0_2.length c0_2,.slice A0_3 l0_3.length c0_3]] w fun e w'=>e=.returned (.int .i64 r)∧Below w.heap.size w w':=by
 have hu24:=Try.underlying24;have HR0_2:=Aside0.mk hr0_2;have HC0_2:=Aside0.mk hc0_2;clear hr0_2 hc0_2;have HR0_3:=Aside0.mk hr0_3;have HC0_3:=Aside0.mk hc0_3;clear hr0_3 hc0_3;have HB:=Aside0.mk (Below.refl w.heap.size w);have H:=h;clear h;unfold road_Validate.f at H;have HC2:=Aside0.mk H;clear H;go_enter Try.func36,Try.ntmps36;go_upto_region 1 with (first|((with_reducible refine gate_dst (N:=1) rfl ?_);(try (refine gate_guard (by rfl) ?_;dsimp only));refine box_ev (N:=1) (cs:=#[.int .i64 a0_0,.int .i64 a0_1,.slice A0_2 l0_2.length c0_2,.slice A0_3 l0_3.length c0_3]) (t:=24) ?_;intro gb101 hg w3 hbox hb;have BK101:=Aside0.mk hbox;have GW101:=gsz (w:=w) hg;have GE101:=GW101;replace HB:=hbs hb;clear hb hbox hg))
 (try simp only [Act.put,List.setIfInBounds_toArray,List.set_cons_zero,List.set_cons_succ]);go_cut [45] (fun v45 wc=>∃ (kq:Nat) (x45_1:Bool),v45=.bool x45_1∧Aside0 (road_Validate.j0 kq x45_1 a0_0 a0_1 l0_2 l0_3=some r)∧Aside0 (kq≤k)∧Aside0 (wc.heap[gb101]?=some (.cells #[.int .i64 a0_0,.int .i64 a0_1,(.slice A0_2 l0_2.length c0_2),(.slice A0_3 l0_3.length c0_3)] 24 (0,0)))∧Aside0 (Below w.heap.size w wc))
 case first =>
  have H:=HC2.out;clear HC2;by_cases c4:a0_0<4
  ·rw [if_pos c4] at H;have c4b0:=decide_eq_true c4;clear c4;(first|rw [c4b0]|(simp only [i64_w,i32_w];rw [c4b0])|skip);have H':=Aside0.mk H;clear H;obtain ⟨_,_,_,_,_,_,_,_⟩:=cells4 BK101.out;go_wp2
   go_meet
   case rel=>exact ⟨_,(true),(by first|rfl|(simp;done)|(simp [*];done)),H',⟨by first|omega|exact Nat.le_refl _⟩,⟨blk_up BK101.out⟩,⟨hb_⟩⟩
  rw [if_neg c4] at H;have c4b0:=decide_eq_false c4;clear c4;(first|rw [c4b0]|(simp only [i64_w,i32_w];rw [c4b0])|skip);by_cases c6:a0_0 > 32
  ·rw [if_pos c6] at H;have c6b0:=decide_eq_true c6;clear c6;have H':=Aside0.mk H;clear H;obtain ⟨_,_,_,_,_,_,_,_⟩:=cells4 BK101.out;go_wp2
   go_meet
   case rel=>exact ⟨_,(true),(by first|rfl|(simp;done)|(simp [*];done)),H',⟨by first|omega|exact Nat.le_refl _⟩,⟨blk_up BK101.out⟩,⟨hb_⟩⟩
  rw [if_neg c6] at H;have c6b0:=decide_eq_false c6;clear c6;by_cases c8:a0_1<4
  ·rw [if_pos c8] at H;have c8b0:=decide_eq_true c8;clear c8;have H':=Aside0.mk H;clear H;obtain ⟨_,_,_,_,_,_,_,_⟩:=cells4 BK101.out;go_wp2
   go_meet
   case rel=>exact ⟨_,(true),(by first|rfl|(simp;done)|(simp [*];done)),H',⟨by first|omega|exact Nat.le_refl _⟩,⟨blk_up BK101.out⟩,⟨hb_⟩⟩
  rw [if_neg c8] at H;have c8b0:=decide_eq_false c8;clear c8;by_cases c10:a0_1 > 32
  ·rw [if_pos c10] at H;have c10b0:=decide_eq_true c10;clear c10;have H':=Aside0.mk H;clear H;obtain ⟨_,_,_,_,_,_,_,_⟩:=cells4 BK101.out;go_wp2
   go_meet
   case rel=>exact ⟨_,(true),(by first|rfl|(simp;done)|(simp [*];done)),H',⟨by first|omega|exact Nat.le_refl _⟩,⟨blk_up BK101.out⟩,⟨hb_⟩⟩
  ·rw [if_neg c10] at H;have c10b0:=decide_eq_false c10;clear c10;by_cases c12:(l0_2.length:Int)=(wrap64 (a0_0 * a0_1))
   ·rw [if_pos c12] at H;have c12b0:=bqt c12;have c12b1:=bnf c12;clear c12;have H':=Aside0.mk H;clear H;obtain ⟨_,_,_,_,_,_,_,_⟩:=cells4 BK101.out;go_wp2
    go_meet
    case rel=>exact ⟨_,(((l0_3.length:Int) != (wrap64 (a0_0 * a0_1)))),(by first|rfl|(simp;done)|(simp [*];done)),H',⟨by first|omega|exact Nat.le_refl _⟩,⟨blk_up BK101.out⟩,⟨hb_⟩⟩
   ·rw [if_neg c12] at H;have c12b0:=bqf c12;have c12b1:=bnt c12;have H':=Aside0.mk H;clear H;obtain ⟨_,_,_,_,_,_,_,_⟩:=cells4 BK101.out;go_wp2
    go_meet
    case rel=>exact ⟨_,(true),(by first|rfl|(simp;done)|(simp [*];done)),H',⟨by first|omega|exact Nat.le_refl _⟩,⟨blk_up BK101.out⟩,⟨hb_⟩⟩
 case rest =>
  clear HC2;obtain ⟨kq,x45_1,rfl,HA,HJ1,BK101,HB⟩:=hcut;cases kq with
  | zero=>exact absurd HA.out (by simp [road_Validate.j0])
  | succ kj1 =>
   have H:=HA.out;clear HA;simp only [road_Validate.j0] at H;by_cases c15:x45_1=true
   ·subst c15;rw [if_pos rfl] at H;obtain rfl:=Option.some.inj H;go_wp2
    go_ret
    exact ⟨er_,hb_⟩
   ·replace c15:=Bool.eq_false_iff.mpr c15;subst c15;rw [if_neg (show ¬ (false=true) by decide)] at H;have H':=Aside0.mk H;clear H;obtain ⟨_,_,_,_,_,_,_,_⟩:=cells4 BK101.out;go_wp2
    go_loopg [49] kj1 (fun kq v49 w'=>∃ (x49_2:Int),v49=.int .i64 x49_2∧Aside0 (road_Validate.l0 kq (l0_2.length:Int) x49_2 a0_0 a0_1 l0_2 l0_3=some r)∧Aside0 (kq≤kj1)∧Aside0 (w'.heap[gb101]?=some (.cells #[.int .i64 a0_0,.int .i64 a0_1,(.slice A0_2 l0_2.length c0_2),(.slice A0_3 l0_3.length c0_3)] 24 (0,0)))∧Aside0 (Below w.heap.size w w'))
    case atStart=>exact ⟨(0),(by first|rfl|(simp;done)|(simp [*];done)),H',⟨Nat.le_refl _⟩,⟨blk_up BK101.out⟩,⟨hb_⟩⟩
    case round =>
     clear H';obtain ⟨x49_2,rfl,HA,HK2,BK101,HB⟩:=hrel;cases gk with
     | zero=>exact absurd HA.out (by simp [road_Validate.l0])
     | succ k2 =>
      have H:=HA.out;clear HA;simp only [road_Validate.l0] at H;by_cases c17:x49_2<(l0_2.length:Int);rotate_left
      ·rw [if_neg c17] at H;have c17b0:=decide_eq_false c17;clear c17;have H':=Aside0.mk H;clear H;obtain ⟨_,_,_,_,_,_,_,_⟩:=cells4 BK101.out;go_wp2
       go_loopg [86] k2 (fun kq v86 w'=>∃ (x86_3:Int),v86=.int .i64 x86_3∧Aside0 (road_Validate.l1 kq l0_3 (l0_3.length:Int) x86_3 a0_0 a0_1 l0_2 l0_3=some r)∧Aside0 (kq≤k2)∧Aside0 (w'.heap[gb101]?=some (.cells #[.int .i64 a0_0,.int .i64 a0_1,(.slice A0_2 l0_2.length c0_2),(.slice A0_3 l0_3.length c0_3)] 24 (0,0)))∧Aside0 (Below w.heap.size w w'))
       case atStart=>exact ⟨(0),(by first|rfl|(simp;done)|(simp [*];done)),H',⟨Nat.le_refl _⟩,⟨blk_up BK101.out⟩,⟨hb_⟩⟩
       case round =>
        clear H';obtain ⟨x86_3,rfl,HA,HK3,BK101,HB⟩:=hrel;cases gk with
        | zero=>exact absurd HA.out (by simp [road_Validate.l1])
        | succ k3 =>
         have H:=HA.out;clear HA;simp only [road_Validate.l1] at H;by_cases c31:x86_3<(l0_3.length:Int);rotate_left
         ·rw [if_neg c31] at H;have c31b0:=decide_eq_false c31;clear c31;obtain rfl:=Option.some.inj H;go_wp2
          go_ret
          exact ⟨er_,hb_⟩
         rw [if_pos c31] at H;have c31b0:=decide_eq_true c31;clear c31;obtain ⟨c32,H⟩:=ifp_ H;have c32b0:=decide_eq_true c32;clear c32;obtain ⟨c33,H⟩:=ifp_ H;have c33b0:=decide_eq_true c33;clear c33;by_cases c34:(rd l0_3 x86_3)=0
         ·rw [if_pos c34] at H;have c34b0:=bqt c34;have c34b1:=bnf c34;clear c34;have H':=Aside0.mk H;clear H;have p106:0≤(x86_3:Int):=ofd;have q106:x86_3<(l0_3.length:Int):=ofd;obtain ⟨ad106,e106,hx106_0⟩:=Kd.at_int HR0_3.out x86_3 p106 q106;cases e106;replace hx106_0:=hbc HB hx106_0;replace p106:=eq_true p106;replace q106:=eq_true q106;go_wp2
          go_roundg k3
          case measure=>have:=HJ1.out;have:=HK2.out;have:=HK3.out;omega
          case rel=>exact ⟨(wrap64 (x86_3+1)),(by first|rfl|(simp;done)|(simp [*];done)),H',⟨by have:=HJ1.out;have:=HK2.out;have:=HK3.out;omega⟩,⟨blk_up BK101.out⟩,⟨hb_⟩⟩
         rw [if_neg c34] at H;have c34b0:=bqf c34;have c34b1:=bnt c34;obtain ⟨c35,H⟩:=ifp_ H;have c35b0:=decide_eq_true c35;clear c35;by_cases c36:(rd l0_2 x86_3)=5
         ·rw [if_pos c36] at H;have c36b0:=bqt c36;have c36b1:=bnf c36;clear c36;have H':=Aside0.mk H;clear H;have p106:0≤(x86_3:Int):=ofd;have q106:x86_3<(l0_3.length:Int):=ofd;obtain ⟨ad106,e106,hx106_0⟩:=Kd.at_int HR0_3.out x86_3 p106 q106;cases e106;replace hx106_0:=hbc HB hx106_0;replace p106:=eq_true p106;replace q106:=eq_true q106;obtain ⟨_,_,_,_,_,_,_,_⟩:=cells4 BK101.out;have p107:0≤(x86_3:Int):=ofd;have q107:x86_3<(l0_2.length:Int):=ofd;obtain ⟨ad107,e107,hx107_0⟩:=Kd.at_int HR0_2.out x86_3 p107 q107;cases e107;replace hx107_0:=hbc HB hx107_0;replace p107:=eq_true p107;replace q107:=eq_true q107;go_wp2
          go_roundg k3
          case measure=>have:=HJ1.out;have:=HK2.out;have:=HK3.out;omega
          case rel=>exact ⟨(wrap64 (x86_3+1)),(by first|rfl|(simp;done)|(simp [*];done)),H',⟨by have:=HJ1.out;have:=HK2.out;have:=HK3.out;omega⟩,⟨blk_up BK101.out⟩,⟨hb_⟩⟩
         rw [if_neg c36] at H;have c36b0:=bqf c36;have c36b1:=bnt c36;by_cases c38:(rd l0_2 x86_3)=10
         ·rw [if_pos c38] at H;have c38b0:=bqt c38;have c38b1:=bnf c38;clear c38;have H':=Aside0.mk H;clear H;have p106:0≤(x86_3:Int):=ofd;have q106:x86_3<(l0_3.length:Int):=ofd;obtain ⟨ad106,e106,hx106_0⟩:=Kd.at_int HR0_3.out x86_3 p106 q106;cases e106;replace hx106_0:=hbc HB hx106_0;replace p106:=eq_true p106;replace q106:=eq_true q106;obtain ⟨_,_,_,_,_,_,_,_⟩:=cells4 BK101.out;have p107:0≤(x86_3:Int):=ofd;have q107:x86_3<(l0_2.length:Int):=ofd;obtain ⟨ad107,e107,hx107_0⟩:=Kd.at_int HR0_2.out x86_3 p107 q107;cases e107;replace hx107_0:=hbc HB hx107_0;replace p107:=eq_true p107;replace q107:=eq_true q107;have p108:0≤(x86_3:Int):=ofd;have q108:x86_3<(l0_2.length:Int):=ofd;obtain ⟨ad108,e108,hx108_0⟩:=Kd.at_int HR0_2.out x86_3 p108 q108;obtain rfl:ad107=ad108:=(by injection e108);replace hx108_0:=hbc HB hx108_0;replace p108:=eq_true p108;replace q108:=eq_true q108;go_wp2
          go_roundg k3
          case measure=>have:=HJ1.out;have:=HK2.out;have:=HK3.out;omega
          case rel=>exact ⟨(wrap64 (x86_3+1)),(by first|rfl|(simp;done)|(simp [*];done)),H',⟨by have:=HJ1.out;have:=HK2.out;have:=HK3.out;omega⟩,⟨blk_up BK101.out⟩,⟨hb_⟩⟩
         ·rw [if_neg c38] at H;have c38b0:=bqf c38;have c38b1:=bnt c38;obtain rfl:=Option.some.inj H;have p106:0≤(x86_3:Int):=ofd;have q106:x86_3<(l0_3.length:Int):=ofd;obtain ⟨ad106,e106,hx106_0⟩:=Kd.at_int HR0_3.out x86_3 p106 q106;cases e106;replace hx106_0:=hbc HB hx106_0;replace p106:=eq_true p106;replace q106:=eq_true q106;obtain ⟨_,_,_,_,_,_,_,_⟩:=cells4 BK101.out;have p107:0≤(x86_3:Int):=ofd;have q107:x86_3<(l0_2.length:Int):=ofd;obtain ⟨ad107,e107,hx107_0⟩:=Kd.at_int HR0_2.out x86_3 p107 q107;cases e107;replace hx107_0:=hbc HB hx107_0;replace p107:=eq_true p107;replace q107:=eq_true q107;have p108:0≤(x86_3:Int):=ofd;have q108:x86_3<(l0_2.length:Int):=ofd;obtain ⟨ad108,e108,hx108_0⟩:=Kd.at_int HR0_2.out x86_3 p108 q108;obtain rfl:ad107=ad108:=(by injection e108);replace hx108_0:=hbc HB hx108_0;replace p108:=eq_true p108;replace q108:=eq_true q108;go_wp2
          go_ret
          exact ⟨er_,hb_⟩
      rw [if_pos c17] at H;have c17b0:=decide_eq_true c17;clear c17;obtain ⟨c18,H⟩:=ifp_ H;have c18b0:=decide_eq_true c18;clear c18;obtain ⟨c19,H⟩:=ifp_ H;have c19b0:=decide_eq_true c19;clear c19;by_cases c20:(rd l0_2 x49_2)<0
      ·rw [if_pos c20] at H;have c20b0:=decide_eq_true c20;clear c20;obtain rfl:=Option.some.inj H;obtain ⟨_,_,_,_,_,_,_,_⟩:=cells4 BK101.out;have p102:0≤(x49_2:Int):=ofd;have q102:x49_2<(l0_2.length:Int):=ofd;obtain ⟨ad102,e102,hx102_0⟩:=Kd.at_int HR0_2.out x49_2 p102 q102;cases e102;replace hx102_0:=hbc HB hx102_0;replace p102:=eq_true p102;replace q102:=eq_true q102;go_wp2
       go_ret
       exact ⟨er_,hb_⟩
      rw [if_neg c20] at H;have c20b0:=decide_eq_false c20;clear c20;by_cases c22:(rd l0_2 x49_2) > 15
      ·rw [if_pos c22] at H;have c22b0:=decide_eq_true c22;clear c22;obtain rfl:=Option.some.inj H;obtain ⟨_,_,_,_,_,_,_,_⟩:=cells4 BK101.out;have p102:0≤(x49_2:Int):=ofd;have q102:x49_2<(l0_2.length:Int):=ofd;obtain ⟨ad102,e102,hx102_0⟩:=Kd.at_int HR0_2.out x49_2 p102 q102;cases e102;replace hx102_0:=hbc HB hx102_0;replace p102:=eq_true p102;replace q102:=eq_true q102;have p103:0≤(x49_2:Int):=ofd;have q103:x49_2<(l0_2.length:Int):=ofd;obtain ⟨ad103,e103,hx103_0⟩:=Kd.at_int HR0_2.out x49_2 p103 q103;obtain rfl:ad102=ad103:=(by injection e103);replace hx103_0:=hbc HB hx103_0;replace p103:=eq_true p103;replace q103:=eq_true q103;go_wp2
       go_ret
       exact ⟨er_,hb_⟩
      rw [if_neg c22] at H;have c22b0:=decide_eq_false c22;clear c22;obtain ⟨c24,H⟩:=ifp_ H;have c24b0:=decide_eq_true c24;clear c24;by_cases c25:(rd l0_3 x49_2)<0
      ·rw [if_pos c25] at H;have c25b0:=decide_eq_true c25;clear c25;obtain rfl:=Option.some.inj H;obtain ⟨_,_,_,_,_,_,_,_⟩:=cells4 BK101.out;have p102:0≤(x49_2:Int):=ofd;have q102:x49_2<(l0_2.length:Int):=ofd;obtain ⟨ad102,e102,hx102_0⟩:=Kd.at_int HR0_2.out x49_2 p102 q102;cases e102;replace hx102_0:=hbc HB hx102_0;replace p102:=eq_true p102;replace q102:=eq_true q102;have p103:0≤(x49_2:Int):=ofd;have q103:x49_2<(l0_2.length:Int):=ofd;obtain ⟨ad103,e103,hx103_0⟩:=Kd.at_int HR0_2.out x49_2 p103 q103;obtain rfl:ad102=ad103:=(by injection e103);replace hx103_0:=hbc HB hx103_0;replace p103:=eq_true p103;replace q103:=eq_true q103;have p104:0≤(x49_2:Int):=ofd;have q104:x49_2<(l0_3.length:Int):=ofd;obtain ⟨ad104,e104,hx104_0⟩:=Kd.at_int HR0_3.out x49_2 p104 q104;cases e104;replace hx104_0:=hbc HB hx104_0;replace p104:=eq_true p104;replace q104:=eq_true q104;go_wp2
       go_ret
       exact ⟨er_,hb_⟩
      rw [if_neg c25] at H;have c25b0:=decide_eq_false c25;clear c25;by_cases c27:(rd l0_3 x49_2) > 2
      ·rw [if_pos c27] at H;have c27b0:=decide_eq_true c27;clear c27;obtain rfl:=Option.some.inj H;obtain ⟨_,_,_,_,_,_,_,_⟩:=cells4 BK101.out;have p102:0≤(x49_2:Int):=ofd;have q102:x49_2<(l0_2.length:Int):=ofd;obtain ⟨ad102,e102,hx102_0⟩:=Kd.at_int HR0_2.out x49_2 p102 q102;cases e102;replace hx102_0:=hbc HB hx102_0;replace p102:=eq_true p102;replace q102:=eq_true q102;have p103:0≤(x49_2:Int):=ofd;have q103:x49_2<(l0_2.length:Int):=ofd;obtain ⟨ad103,e103,hx103_0⟩:=Kd.at_int HR0_2.out x49_2 p103 q103;obtain rfl:ad102=ad103:=(by injection e103);replace hx103_0:=hbc HB hx103_0;replace p103:=eq_true p103;replace q103:=eq_true q103;have p104:0≤(x49_2:Int):=ofd;have q104:x49_2<(l0_3.length:Int):=ofd;obtain ⟨ad104,e104,hx104_0⟩:=Kd.at_int HR0_3.out x49_2 p104 q104;cases e104;replace hx104_0:=hbc HB hx104_0;replace p104:=eq_true p104;replace q104:=eq_true q104;have p105:0≤(x49_2:Int):=ofd;have q105:x49_2<(l0_3.length:Int):=ofd;obtain ⟨ad105,e105,hx105_0⟩:=Kd.at_int HR0_3.out x49_2 p105 q105;obtain rfl:ad104=ad105:=(by injection e105);replace hx105_0:=hbc HB hx105_0;replace p105:=eq_true p105;replace q105:=eq_true q105;go_wp2
       go_ret
       exact ⟨er_,hb_⟩
      rw [if_neg c27] at H;have c27b0:=decide_eq_false c27;clear c27;have H':=Aside0.mk H;clear H;obtain ⟨_,_,_,_,_,_,_,_⟩:=cells4 BK101.out;have p102:0≤(x49_2:Int):=ofd;have q102:x49_2<(l0_2.length:Int):=ofd;obtain ⟨ad102,e102,hx102_0⟩:=Kd.at_int HR0_2.out x49_2 p102 q102;cases e102;replace hx102_0:=hbc HB hx102_0;replace p102:=eq_true p102;replace q102:=eq_true q102;have p103:0≤(x49_2:Int):=ofd;have q103:x49_2<(l0_2.length:Int):=ofd;obtain ⟨ad103,e103,hx103_0⟩:=Kd.at_int HR0_2.out x49_2 p103 q103;obtain rfl:ad102=ad103:=(by injection e103);replace hx103_0:=hbc HB hx103_0;replace p103:=eq_true p103;replace q103:=eq_true q103;have p104:0≤(x49_2:Int):=ofd;have q104:x49_2<(l0_3.length:Int):=ofd;obtain ⟨ad104,e104,hx104_0⟩:=Kd.at_int HR0_3.out x49_2 p104 q104;cases e104;replace hx104_0:=hbc HB hx104_0;replace p104:=eq_true p104;replace q104:=eq_true q104;have p105:0≤(x49_2:Int):=ofd;have q105:x49_2<(l0_3.length:Int):=ofd;obtain ⟨ad105,e105,hx105_0⟩:=Kd.at_int HR0_3.out x49_2 p105 q105;obtain rfl:ad104=ad105:=(by injection e105);replace hx105_0:=hbc HB hx105_0;replace p105:=eq_true p105;replace q105:=eq_true q105;go_wp2
      go_roundg k2
      case measure=>have:=HJ1.out;have:=HK2.out;omega
      case rel=>exact ⟨(wrap64 (x49_2+1)),(by first|rfl|(simp;done)|(simp [*];done)),H',⟨by have:=HJ1.out;have:=HK2.out;omega⟩,⟨blk_up BK101.out⟩,⟨hb_⟩⟩

/-! ### lane_within: function 37 -/
def lane_within.f (a0:Int) (a1:Int):Option (Bool) := if a0≥0 then (some (decide (a0≤a1))) else (some false)
set_option maxHeartbeats 8000000 in
set_option maxRecDepth 100000 in
theorem lane_within.calls (a0:Int) (a1:Int) (r:Bool) (w:World) (h:lane_within.f a0 a1=some r) :
  Calls Try.prog 37 #[.int .i64 a0,.int .i64 a1] w fun e w'=>e=.returned (.bool r)∧Drawn0 w w':=by
 have H:=h;clear h;unfold lane_within.f at H;by_cases c3:a0≥0
 ·rw [if_pos c3] at H;have c3b0:=decide_eq_true c3;clear c3;obtain rfl:=Option.some.inj H;go_enter Try.func37,Try.ntmps37;go_wp2
  go_ret
  exact ⟨by first|rfl|(simp;done)|(simp [*];done),by repeat (first|exact Drawn0.refl _|apply Drawn0.step)⟩
 ·rw [if_neg c3] at H;have c3b0:=decide_eq_false c3;clear c3;obtain rfl:=Option.some.inj H;go_enter Try.func37,Try.ntmps37;go_wp2
  go_ret
  exact ⟨by first|rfl|(simp;done)|(simp [*];done),by repeat (first|exact Drawn0.refl _|apply Drawn0.step)⟩

/-! ### lane_beside: function 72 -/
def lane_beside.f (a0:Int) (a1:Int) (a2:Int) (a3:Int):Option (Int × Bool) := if a0=0 then (none) else (if a3=0 then (if (wrap64 ((Int.tmod a2 a0)+1))≥0 then (if (wrap64 ((Int.tmod a2 a0)+1))<a0 then (if (wrap64 (Int.tdiv a2 a0))≥0 then (some (wrap64 ((wrap64 ((wrap64 (Int.tdiv a2 a0)) * a0))+(wrap64 ((Int.tmod a2 a0)+1))),decide ((wrap64 (Int.tdiv a2 a0))<a1))) else (some (wrap64 ((wrap64 ((wrap64 (Int.tdiv a2 a0)) * a0))+(wrap64 ((Int.tmod a2 a0)+1))),false))) else (some (wrap64 ((wrap64 ((wrap64 (Int.tdiv a2 a0)) * a0))+(wrap64 ((Int.tmod a2 a0)+1))),false))) else (some (wrap64 ((wrap64 ((wrap64 (Int.tdiv a2 a0)) * a0))+(wrap64 ((Int.tmod a2 a0)+1))),false))) else (if a3=1 then (if (Int.tmod a2 a0)≥0 then (if (Int.tmod a2 a0)<a0 then (if (wrap64 ((wrap64 (Int.tdiv a2 a0))+1))≥0 then (some (wrap64 ((wrap64 ((wrap64 ((wrap64 (Int.tdiv a2 a0))+1)) * a0))+(Int.tmod a2 a0)),decide ((wrap64 ((wrap64 (Int.tdiv a2 a0))+1))<a1))) else (some (wrap64 ((wrap64 ((wrap64 ((wrap64 (Int.tdiv a2 a0))+1)) * a0))+(Int.tmod a2 a0)),false))) else (some (wrap64 ((wrap64 ((wrap64 ((wrap64 (Int.tdiv a2 a0))+1)) * a0))+(Int.tmod a2 a0)),false))) else (some (wrap64 ((wrap64 ((wrap64 ((wrap64 (Int.tdiv a2 a0))+1)) * a0))+(Int.tmod a2 a0)),false))) else (if a3=2 then (if (wrap64 ((Int.tmod a2 a0) - 1))≥0 then (if (wrap64 ((Int.tmod a2 a0) - 1))<a0 then (if (wrap64 (Int.tdiv a2 a0))≥0 then (some (wrap64 ((wrap64 ((wrap64 (Int.tdiv a2 a0)) * a0))+(wrap64 ((Int.tmod a2 a0) - 1))),decide ((wrap64 (Int.tdiv a2 a0))<a1))) else (some (wrap64 ((wrap64 ((wrap64 (Int.tdiv a2 a0)) * a0))+(wrap64 ((Int.tmod a2 a0) - 1))),false))) else (some (wrap64 ((wrap64 ((wrap64 (Int.tdiv a2 a0)) * a0))+(wrap64 ((Int.tmod a2 a0) - 1))),false))) else (some (wrap64 ((wrap64 ((wrap64 (Int.tdiv a2 a0)) * a0))+(wrap64 ((Int.tmod a2 a0) - 1))),false))) else (if (Int.tmod a2 a0)≥0 then (if (Int.tmod a2 a0)<a0 then (if (wrap64 ((wrap64 (Int.tdiv a2 a0)) - 1))≥0 then (some (wrap64 ((wrap64 ((wrap64 ((wrap64 (Int.tdiv a2 a0)) - 1)) * a0))+(Int.tmod a2 a0)),decide ((wrap64 ((wrap64 (Int.tdiv a2 a0)) - 1))<a1))) else (some (wrap64 ((wrap64 ((wrap64 ((wrap64 (Int.tdiv a2 a0)) - 1)) * a0))+(Int.tmod a2 a0)),false))) else (some (wrap64 ((wrap64 ((wrap64 ((wrap64 (Int.tdiv a2 a0)) - 1)) * a0))+(Int.tmod a2 a0)),false))) else (some (wrap64 ((wrap64 ((wrap64 ((wrap64 (Int.tdiv a2 a0)) - 1)) * a0))+(Int.tmod a2 a0)),false))))))
set_option maxHeartbeats 8000000 in
set_option maxRecDepth 100000 in
theorem lane_beside.calls (a0:Int) (a1:Int) (a2:Int) (a3:Int) (r1:Int) (r2:Bool) (w:World) (h:lane_beside.f a0 a1 a2 a3=some (r1,r2)) :
  Calls Try.prog 72 #[.int .i64 a0,.int .i64 a1,.int .i64 a2,.int .i64 a3] w fun e w'=>e=.returned (.tuple #[.int .i64 r1,.bool r2])∧Drawn0 w w':=by
 have H:=h;clear h;unfold lane_beside.f at H;replace H:=ifn_ H;obtain ⟨c5,H⟩:=H;have c5b0:(a0 == 0)=false:=beq_eq_false_iff_ne.mpr c5;have c5b1:(a0 != 0)=true:=bne_iff_ne.mpr c5;by_cases c6:a3=0
 ·rw [if_pos c6] at H;have c6b0:=bqt c6;have c6b1:=bnf c6;clear c6;by_cases c7:(wrap64 ((Int.tmod a2 a0)+1))≥0;rotate_left
  ·rw [if_neg c7] at H;have c7b0:=decide_eq_false c7;clear c7;simp only [Option.some.injEq,Prod.mk.injEq] at H;obtain ⟨rfl,rfl⟩:=H;go_enter Try.func72,Try.ntmps72;go_wp2
   go_quiet (fail)
   go_wp2
   go_ret2
   exact ⟨by first|rfl|(simp;done)|(simp [*];done),by repeat (first|exact Drawn0.refl _|apply Drawn0.step)⟩
  rw [if_pos c7] at H;have c7b0:=decide_eq_true c7;clear c7;by_cases c8:(wrap64 ((Int.tmod a2 a0)+1))<a0
  ·rw [if_pos c8] at H;have c8b0:=decide_eq_true c8;clear c8;by_cases c9:(wrap64 (Int.tdiv a2 a0))≥0
   ·rw [if_pos c9] at H;have c9b0:=decide_eq_true c9;clear c9;simp only [Option.some.injEq,Prod.mk.injEq] at H;obtain ⟨rfl,rfl⟩:=H;go_enter Try.func72,Try.ntmps72;go_wp2
    go_quiet (fail)
    go_wp2
    go_ret2
    exact ⟨by first|rfl|(simp;done)|(simp [*];done),by repeat (first|exact Drawn0.refl _|apply Drawn0.step)⟩
   ·rw [if_neg c9] at H;have c9b0:=decide_eq_false c9;clear c9;simp only [Option.some.injEq,Prod.mk.injEq] at H;obtain ⟨rfl,rfl⟩:=H;go_enter Try.func72,Try.ntmps72;go_wp2
    go_quiet (fail)
    go_wp2
    go_ret2
    exact ⟨by first|rfl|(simp;done)|(simp [*];done),by repeat (first|exact Drawn0.refl _|apply Drawn0.step)⟩
  ·rw [if_neg c8] at H;have c8b0:=decide_eq_false c8;clear c8;simp only [Option.some.injEq,Prod.mk.injEq] at H;obtain ⟨rfl,rfl⟩:=H;go_enter Try.func72,Try.ntmps72;go_wp2
   go_quiet (fail)
   go_wp2
   go_ret2
   exact ⟨by first|rfl|(simp;done)|(simp [*];done),by repeat (first|exact Drawn0.refl _|apply Drawn0.step)⟩
 rw [if_neg c6] at H;have c6b0:=bqf c6;have c6b1:=bnt c6;by_cases c10:a3=1
 ·rw [if_pos c10] at H;have c10b0:=bqt c10;have c10b1:=bnf c10;clear c10;by_cases c11:(Int.tmod a2 a0)≥0;rotate_left
  ·rw [if_neg c11] at H;have c11b0:=decide_eq_false c11;clear c11;simp only [Option.some.injEq,Prod.mk.injEq] at H;obtain ⟨rfl,rfl⟩:=H;go_enter Try.func72,Try.ntmps72;go_wp2
   go_quiet (fail)
   go_wp2
   go_ret2
   exact ⟨by first|rfl|(simp;done)|(simp [*];done),by repeat (first|exact Drawn0.refl _|apply Drawn0.step)⟩
  rw [if_pos c11] at H;have c11b0:=decide_eq_true c11;clear c11;by_cases c12:(Int.tmod a2 a0)<a0
  ·rw [if_pos c12] at H;have c12b0:=decide_eq_true c12;clear c12;by_cases c13:(wrap64 ((wrap64 (Int.tdiv a2 a0))+1))≥0
   ·rw [if_pos c13] at H;have c13b0:=decide_eq_true c13;clear c13;simp only [Option.some.injEq,Prod.mk.injEq] at H;obtain ⟨rfl,rfl⟩:=H;go_enter Try.func72,Try.ntmps72;go_wp2
    go_quiet (fail)
    go_wp2
    go_ret2
    exact ⟨by first|rfl|(simp;done)|(simp [*];done),by repeat (first|exact Drawn0.refl _|apply Drawn0.step)⟩
   ·rw [if_neg c13] at H;have c13b0:=decide_eq_false c13;clear c13;simp only [Option.some.injEq,Prod.mk.injEq] at H;obtain ⟨rfl,rfl⟩:=H;go_enter Try.func72,Try.ntmps72;go_wp2
    go_quiet (fail)
    go_wp2
    go_ret2
    exact ⟨by first|rfl|(simp;done)|(simp [*];done),by repeat (first|exact Drawn0.refl _|apply Drawn0.step)⟩
  ·rw [if_neg c12] at H;have c12b0:=decide_eq_false c12;clear c12;simp only [Option.some.injEq,Prod.mk.injEq] at H;obtain ⟨rfl,rfl⟩:=H;go_enter Try.func72,Try.ntmps72;go_wp2
   go_quiet (fail)
   go_wp2
   go_ret2
   exact ⟨by first|rfl|(simp;done)|(simp [*];done),by repeat (first|exact Drawn0.refl _|apply Drawn0.step)⟩
 rw [if_neg c10] at H;have c10b0:=bqf c10;have c10b1:=bnt c10;by_cases c14:a3=2;rotate_left
 ·rw [if_neg c14] at H;have c14b0:=bqf c14;have c14b1:=bnt c14;by_cases c18:(Int.tmod a2 a0)≥0;rotate_left
  ·rw [if_neg c18] at H;have c18b0:=decide_eq_false c18;clear c18;simp only [Option.some.injEq,Prod.mk.injEq] at H;obtain ⟨rfl,rfl⟩:=H;go_enter Try.func72,Try.ntmps72;go_wp2
   go_quiet (fail)
   go_wp2
   go_ret2
   exact ⟨by first|rfl|(simp;done)|(simp [*];done),by repeat (first|exact Drawn0.refl _|apply Drawn0.step)⟩
  rw [if_pos c18] at H;have c18b0:=decide_eq_true c18;clear c18;by_cases c19:(Int.tmod a2 a0)<a0
  ·rw [if_pos c19] at H;have c19b0:=decide_eq_true c19;clear c19;by_cases c20:(wrap64 ((wrap64 (Int.tdiv a2 a0)) - 1))≥0
   ·rw [if_pos c20] at H;have c20b0:=decide_eq_true c20;clear c20;simp only [Option.some.injEq,Prod.mk.injEq] at H;obtain ⟨rfl,rfl⟩:=H;go_enter Try.func72,Try.ntmps72;go_wp2
    go_quiet (fail)
    go_wp2
    go_ret2
    exact ⟨by first|rfl|(simp;done)|(simp [*];done),by repeat (first|exact Drawn0.refl _|apply Drawn0.step)⟩
   ·rw [if_neg c20] at H;have c20b0:=decide_eq_false c20;clear c20;simp only [Option.some.injEq,Prod.mk.injEq] at H;obtain ⟨rfl,rfl⟩:=H;go_enter Try.func72,Try.ntmps72;go_wp2
    go_quiet (fail)
    go_wp2
    go_ret2
    exact ⟨by first|rfl|(simp;done)|(simp [*];done),by repeat (first|exact Drawn0.refl _|apply Drawn0.step)⟩
  ·rw [if_neg c19] at H;have c19b0:=decide_eq_false c19;clear c19;simp only [Option.some.injEq,Prod.mk.injEq] at H;obtain ⟨rfl,rfl⟩:=H;go_enter Try.func72,Try.ntmps72;go_wp2
   go_quiet (fail)
   go_wp2
   go_ret2
   exact ⟨by first|rfl|(simp;done)|(simp [*];done),by repeat (first|exact Drawn0.refl _|apply Drawn0.step)⟩
 rw [if_pos c14] at H;have c14b0:=bqt c14;have c14b1:=bnf c14;clear c14;by_cases c15:(wrap64 ((Int.tmod a2 a0) - 1))≥0;rotate_left
 ·rw [if_neg c15] at H;have c15b0:=decide_eq_false c15;clear c15;simp only [Option.some.injEq,Prod.mk.injEq] at H;obtain ⟨rfl,rfl⟩:=H;go_enter Try.func72,Try.ntmps72;go_wp2
  go_quiet (fail)
  go_wp2
  go_ret2
  exact ⟨by first|rfl|(simp;done)|(simp [*];done),by repeat (first|exact Drawn0.refl _|apply Drawn0.step)⟩
 rw [if_pos c15] at H;have c15b0:=decide_eq_true c15;clear c15;by_cases c16:(wrap64 ((Int.tmod a2 a0) - 1))<a0
 ·rw [if_pos c16] at H;have c16b0:=decide_eq_true c16;clear c16;by_cases c17:(wrap64 (Int.tdiv a2 a0))≥0
  ·rw [if_pos c17] at H;have c17b0:=decide_eq_true c17;clear c17;simp only [Option.some.injEq,Prod.mk.injEq] at H;obtain ⟨rfl,rfl⟩:=H;go_enter Try.func72,Try.ntmps72;go_wp2
   go_quiet (fail)
   go_wp2
   go_ret2
   exact ⟨by first|rfl|(simp;done)|(simp [*];done),by repeat (first|exact Drawn0.refl _|apply Drawn0.step)⟩
  ·rw [if_neg c17] at H;have c17b0:=decide_eq_false c17;clear c17;simp only [Option.some.injEq,Prod.mk.injEq] at H;obtain ⟨rfl,rfl⟩:=H;go_enter Try.func72,Try.ntmps72;go_wp2
   go_quiet (fail)
   go_wp2
   go_ret2
   exact ⟨by first|rfl|(simp;done)|(simp [*];done),by repeat (first|exact Drawn0.refl _|apply Drawn0.step)⟩
 ·rw [if_neg c16] at H;have c16b0:=decide_eq_false c16;clear c16;simp only [Option.some.injEq,Prod.mk.injEq] at H;obtain ⟨rfl,rfl⟩:=H;go_enter Try.func72,Try.ntmps72;go_wp2
  go_quiet (fail)
  go_wp2
  go_ret2
  exact ⟨by first|rfl|(simp;done)|(simp [*];done),by repeat (first|exact Drawn0.refl _|apply Drawn0.step)⟩

/-! ### lane_joined: function 68 -/
def lane_joined.f (a0_0:Int) (a0_1:Int) (l0_2:List Int) (l0_3:List Int) (a1:Int) (a2:Int):Option (Int × Bool) := (lane_beside.f a0_0 a0_1 a1 a2).bind fun bt110=>(if bt110.2=true then (if 0≤a1 then (if a1<(l0_2.length:Int) then (if 0≤a2 then (if (Go.bits .and .i64 (shr .i64 (rd l0_2 a1) a2) 1)=1 then (if 0≤bt110.1 then (if bt110.1<(l0_2.length:Int) then (if 0≤(Int.tmod (wrap64 (a2+2)) 4) then (some (bt110.1,((Go.bits .and .i64 (shr .i64 (rd l0_2 bt110.1) (Int.tmod (wrap64 (a2+2)) 4)) 1) == 1))) else (none)) else (none)) else (none)) else (some (bt110.1,false))) else (none)) else (none)) else (none)) else (some (bt110.1,false)))
set_option maxHeartbeats 8000000 in
set_option maxRecDepth 100000 in
theorem lane_joined.calls (a0_0:Int) (a0_1:Int) (A0_2:Option Addr) (c0_2:Nat) (l0_2:List Int) (A0_3:Option Addr) (c0_3:Nat) (l0_3:List Int) (a1:Int) (a2:Int) (r1:Int) (r2:Bool) (w:World) (hr0_2:Kd.C (Kd.int .i64) w A0_2 l0_2.length l0_2) (hc0_2:l0_2.length≤c0_2) (hr0_3:Kd.C (Kd.int .i64) w A0_3 l0_3.length l0_3) (hc0_3:l0_3.length≤c0_3) (h:lane_joined.f a0_0 a0_1 l0_2 l0_3 a1 a2=some (r1,r2)) :
  Calls Try.prog 68 #[.agg #[.int .i64 a0_0,.int .i64 a0_1,.slice A0_2 l0_2.length c0_2,.slice A0_3 l0_3.length c0_3],.int .i64 a1,.int .i64 a2] w fun e w'=>e=.returned (.tuple #[.int .i64 r1,.bool r2])∧Below w.heap.size w w':=by
 have hu24:=Try.underlying24;have HR0_2:=Aside0.mk hr0_2;have HC0_2:=Aside0.mk hc0_2;clear hr0_2 hc0_2;have HR0_3:=Aside0.mk hr0_3;have HC0_3:=Aside0.mk hc0_3;clear hr0_3 hc0_3;have HB:=Aside0.mk (Below.refl w.heap.size w);have H:=h;clear h;unfold lane_joined.f at H;obtain ⟨⟨t110,t111⟩,A4,H⟩:=bnd H;(try dsimp only at H);by_cases c5:t111=true
 ·subst c5;rw [if_pos rfl] at H;obtain ⟨c6,H⟩:=ifp_ H;have c6b0:=decide_eq_true c6;clear c6;obtain ⟨c7,H⟩:=ifp_ H;have c7b0:=decide_eq_true c7;clear c7;obtain ⟨c8,H⟩:=ifp_ H;have c8b0:=eq_true c8;have c8b1:=decide_eq_true c8;clear c8;obtain ⟨ji9,hji9⟩:∃ j_:Int,(shr .i64 (rd l0_2 a1) a2)=j_:=⟨_,rfl⟩;(first|rw [hji9] at H|simp only [hji9] at H);(try rw [hji9] at A4);have hji9_:((rd l0_2 a1) / 2 ^ min a2.toNat 64)=ji9:=hji9;have hji9z:a2≤64→((rd l0_2 a1) / 2 ^ a2.toNat)=ji9:=shr_small hji9;by_cases c10:(Go.bits .and .i64 (ji9) 1)=1
  ·rw [if_pos c10] at H;have c10b0:=bqt c10;have c10b1:=bnf c10;clear c10;obtain ⟨c11,H⟩:=ifp_ H;have c11b0:=decide_eq_true c11;clear c11;obtain ⟨c12,H⟩:=ifp_ H;have c12b0:=decide_eq_true c12;clear c12;obtain ⟨ji13,hji13⟩:∃ j_:Int,(Int.tmod (wrap64 (a2+2)) 4)=j_:=⟨_,rfl⟩;(first|rw [hji13] at H|simp only [hji13] at H);(try rw [hji13] at A4);obtain ⟨c14,H⟩:=ifp_ H;have c14b0:=eq_true c14;have c14b1:=decide_eq_true c14;clear c14;obtain ⟨ji15,hji15⟩:∃ j_:Int,(shr .i64 (rd l0_2 t110) (ji13))=j_:=⟨_,rfl⟩;(first|rw [hji15] at H|simp only [hji15] at H);(try rw [hji15] at A4);have hji15_:((rd l0_2 t110) / 2 ^ min (ji13).toNat 64)=ji15:=hji15;have hji15z:(ji13)≤64→((rd l0_2 t110) / 2 ^ (ji13).toNat)=ji15:=shr_small hji15;simp only [Option.some.injEq,Prod.mk.injEq] at H;obtain ⟨rfl,rfl⟩:=H;go_enter Try.func68,Try.ntmps68;go_wp2_with (first|((with_reducible refine gate_dst (N:=3) rfl ?_);refine box_ev (N:=3) (cs:=#[.int .i64 a0_0,.int .i64 a0_1,.slice A0_2 l0_2.length c0_2,.slice A0_3 l0_3.length c0_3]) (t:=24) ?_;intro gb109 hg w16 hbox hb;have BK109:=Aside0.mk hbox;have GW109:=gsz (w:=w) hg;have GE109:=GW109;replace HB:=hbs hb;clear hb hbox hg;obtain ⟨_,_,_,_,_,_,_,_⟩:=cells4 BK109.out)|(go_at_call 72;(with_reducible refine (lane_beside.calls a0_0 a0_1 a1 a2 t110 true _ A4.out).mono ?_);rintro e w' ⟨rfl,⟨nd,rfl⟩⟩;(try first|exact ⟨rfl,_,World.drewN_drewN _ _ _⟩|exact ⟨rfl,_,Eq.trans (World.drewN_drewN _ _ _) (congrArg (World.drewN _) (Nat.add_assoc _ _ _))⟩);have p112:0≤(a1:Int):=ofd;have q112:a1<(l0_2.length:Int):=ofd;obtain ⟨ad112,e112,hx112_0⟩:=Kd.at_int HR0_2.out a1 p112 q112;cases e112;replace hx112_0:=hbc HB hx112_0;replace p112:=eq_true p112;replace q112:=eq_true q112;have p113:0≤(t110:Int):=ofd;have q113:t110<(l0_2.length:Int):=ofd;obtain ⟨ad113,e113,hx113_0⟩:=Kd.at_int HR0_2.out t110 p113 q113;obtain rfl:ad112=ad113:=(by injection e113);replace hx113_0:=hbc HB hx113_0;replace p113:=eq_true p113;replace q113:=eq_true q113))
   go_quiet (fail)
   go_wp2
   go_ret2
   exact ⟨by first|rfl|(simp [errW_none,errW_some] <;> rfl)|(simp only [← hji9,← hji13,← hji15];first|rfl|(simp [errW_none,errW_some] <;> rfl))|(simp [*,errW_none,errW_some] <;> rfl),hb_⟩
  ·rw [if_neg c10] at H;have c10b0:=bqf c10;have c10b1:=bnt c10;simp only [Option.some.injEq,Prod.mk.injEq] at H;obtain ⟨rfl,rfl⟩:=H;go_enter Try.func68,Try.ntmps68;go_wp2_with (first|((with_reducible refine gate_dst (N:=3) rfl ?_);refine box_ev (N:=3) (cs:=#[.int .i64 a0_0,.int .i64 a0_1,.slice A0_2 l0_2.length c0_2,.slice A0_3 l0_3.length c0_3]) (t:=24) ?_;intro gb109 hg w18 hbox hb;have BK109:=Aside0.mk hbox;have GW109:=gsz (w:=w) hg;have GE109:=GW109;replace HB:=hbs hb;clear hb hbox hg;obtain ⟨_,_,_,_,_,_,_,_⟩:=cells4 BK109.out)|(go_at_call 72;(with_reducible refine (lane_beside.calls a0_0 a0_1 a1 a2 t110 true _ A4.out).mono ?_);rintro e w' ⟨rfl,⟨nd,rfl⟩⟩;(try first|exact ⟨rfl,_,World.drewN_drewN _ _ _⟩|exact ⟨rfl,_,Eq.trans (World.drewN_drewN _ _ _) (congrArg (World.drewN _) (Nat.add_assoc _ _ _))⟩);have p112:0≤(a1:Int):=ofd;have q112:a1<(l0_2.length:Int):=ofd;obtain ⟨ad112,e112,hx112_0⟩:=Kd.at_int HR0_2.out a1 p112 q112;cases e112;replace hx112_0:=hbc HB hx112_0;replace p112:=eq_true p112;replace q112:=eq_true q112))
   go_quiet (fail)
   go_wp2
   go_ret2
   exact ⟨by first|rfl|(simp [errW_none,errW_some] <;> rfl)|(simp only [← hji9];first|rfl|(simp [errW_none,errW_some] <;> rfl))|(simp [*,errW_none,errW_some] <;> rfl),hb_⟩
 ·replace c5:=Bool.eq_false_iff.mpr c5;subst c5;rw [if_neg (show ¬ (false=true) by decide)] at H;simp only [Option.some.injEq,Prod.mk.injEq] at H;obtain ⟨rfl,rfl⟩:=H;go_enter Try.func68,Try.ntmps68;go_wp2_with (first|((with_reducible refine gate_dst (N:=3) rfl ?_);refine box_ev (N:=3) (cs:=#[.int .i64 a0_0,.int .i64 a0_1,.slice A0_2 l0_2.length c0_2,.slice A0_3 l0_3.length c0_3]) (t:=24) ?_;intro gb109 hg w20 hbox hb;have BK109:=Aside0.mk hbox;have GW109:=gsz (w:=w) hg;have GE109:=GW109;replace HB:=hbs hb;clear hb hbox hg;obtain ⟨_,_,_,_,_,_,_,_⟩:=cells4 BK109.out)|(go_at_call 72;(with_reducible refine (lane_beside.calls a0_0 a0_1 a1 a2 t110 false _ A4.out).mono ?_);rintro e w' ⟨rfl,⟨nd,rfl⟩⟩;(try first|exact ⟨rfl,_,World.drewN_drewN _ _ _⟩|exact ⟨rfl,_,Eq.trans (World.drewN_drewN _ _ _) (congrArg (World.drewN _) (Nat.add_assoc _ _ _))⟩)))
  go_quiet (fail)
  go_wp2
  go_ret2
  exact ⟨er_,hb_⟩

/-! ### lane_lets: function 101 -/
def lane_lets.f (a0:Int) (a1:Int):Option (Bool) := if a0=0 then (some true) else (some ((a0 == 1) == (decide (a1<2))))
set_option maxHeartbeats 8000000 in
set_option maxRecDepth 100000 in
theorem lane_lets.calls (a0:Int) (a1:Int) (r:Bool) (w:World) (h:lane_lets.f a0 a1=some r) :
  Calls Try.prog 101 #[.int .i64 a0,.int .i64 a1] w fun e w'=>e=.returned (.bool r)∧Drawn0 w w':=by
 have H:=h;clear h;unfold lane_lets.f at H;by_cases c3:a0=0
 ·rw [if_pos c3] at H;have c3b0:=bqt c3;have c3b1:=bnf c3;clear c3;obtain rfl:=Option.some.inj H;go_enter Try.func101,Try.ntmps101;go_wp2
  go_ret
  exact ⟨by first|rfl|(simp;done)|(simp [*];done),by repeat (first|exact Drawn0.refl _|apply Drawn0.step)⟩
 ·rw [if_neg c3] at H;have c3b0:=bqf c3;have c3b1:=bnt c3;obtain rfl:=Option.some.inj H;go_enter Try.func101,Try.ntmps101;go_wp2
  go_ret
  exact ⟨by first|rfl|(simp;done)|(simp [*];done),by repeat (first|exact Drawn0.refl _|apply Drawn0.step)⟩

/-! ### lane_may: function 85 -/
def lane_may.f (a0_0:Int) (a0_1:Int) (l0_2:List Int) (l0_3:List Int) (a1:Int) (a2:Int):Option (Bool) := (lane_joined.f a0_0 a0_1 l0_2 l0_3 a1 a2).bind fun bt115=>(if bt115.2=true then (if 0≤a1 then (if a1<(l0_3.length:Int) then ((lane_lets.f (rd l0_3 a1) a2).bind fun t118=>(if t118=true then (if 0≤bt115.1 then (if bt115.1<(l0_3.length:Int) then ((lane_lets.f (rd l0_3 bt115.1) a2).bind fun t120=>(some t120)) else (none)) else (none)) else (some false))) else (none)) else (none)) else (some false))
set_option maxHeartbeats 8000000 in
set_option maxRecDepth 100000 in
theorem lane_may.calls (a0_0:Int) (a0_1:Int) (A0_2:Option Addr) (c0_2:Nat) (l0_2:List Int) (A0_3:Option Addr) (c0_3:Nat) (l0_3:List Int) (a1:Int) (a2:Int) (r:Bool) (w:World) (hr0_2:Kd.C (Kd.int .i64) w A0_2 l0_2.length l0_2) (hc0_2:l0_2.length≤c0_2) (hr0_3:Kd.C (Kd.int .i64) w A0_3 l0_3.length l0_3) (hc0_3:l0_3.length≤c0_3) (h:lane_may.f a0_0 a0_1 l0_2 l0_3 a1 a2=some r) :
  Calls Try.prog 85 #[.agg #[.int .i64 a0_0,.int .i64 a0_1,.slice A0_2 l0_2.length c0_2,.slice A0_3 l0_3.length c0_3],.int .i64 a1,.int .i64 a2] w fun e w'=>e=.returned (.bool r)∧Below w.heap.size w w':=by
 have hu24:=Try.underlying24;have HR0_2:=Aside0.mk hr0_2;have HC0_2:=Aside0.mk hc0_2;clear hr0_2 hc0_2;have HR0_3:=Aside0.mk hr0_3;have HC0_3:=Aside0.mk hc0_3;clear hr0_3 hc0_3;have HB:=Aside0.mk (Below.refl w.heap.size w);have H:=h;clear h;unfold lane_may.f at H;obtain ⟨⟨t115,t116⟩,A4,H⟩:=bnd H;(try dsimp only at H);by_cases c5:t116=true
 ·subst c5;rw [if_pos rfl] at H;obtain ⟨c6,H⟩:=ifp_ H;have c6b0:=decide_eq_true c6;clear c6;obtain ⟨c7,H⟩:=ifp_ H;have c7b0:=decide_eq_true c7;clear c7;obtain ⟨t118,A8,H⟩:=bnd H;by_cases c9:t118=true
  ·subst c9;rw [if_pos rfl] at H;obtain ⟨c10,H⟩:=ifp_ H;have c10b0:=decide_eq_true c10;clear c10;obtain ⟨c11,H⟩:=ifp_ H;have c11b0:=decide_eq_true c11;clear c11;obtain ⟨t120,A12,H⟩:=bnd H;obtain rfl:=Option.some.inj H;go_enter Try.func85,Try.ntmps85;go_wp2_with (first|((with_reducible refine gate_dst (N:=3) rfl ?_);refine box_ev (N:=3) (cs:=#[.int .i64 a0_0,.int .i64 a0_1,.slice A0_2 l0_2.length c0_2,.slice A0_3 l0_3.length c0_3]) (t:=24) ?_;intro gb114 hg w13 hbox hb;have BK114:=Aside0.mk hbox;have GW114:=gsz (w:=w) hg;have GE114:=GW114;replace HB:=hbs hb;clear hb hbox hg;obtain ⟨_,_,_,_,_,_,_,_⟩:=cells4 BK114.out)|((with_reducible refine gate_callee (f:=68) rfl ?_);refine goesL_ (some 13) rfl rfl Try.func68 (by kernel_rfl) rfl #[.agg #[.int .i64 a0_0,.int .i64 a0_1,.slice A0_2 l0_2.length c0_2,.slice A0_3 l0_3.length c0_3],.int .i64 a1,.int .i64 a2] rfl ga_ ?_;(with_reducible refine (lane_joined.calls a0_0 a0_1 _ _ l0_2 _ _ l0_3 a1 a2 t115 true _ ?_ ?_ ?_ ?_ A4.out).mono ?_);exact cq HR0_2;exact HC0_2.out;exact cq HR0_3;exact HC0_3.out;rintro e w15 ⟨rfl,hb⟩;refine ⟨_,rfl,?_⟩;replace BK114:=bkb BK114 hb;replace HB:=hbs hb;obtain ⟨_,_,_,_,_,_,_,_⟩:=cells4 BK114.out;have p117:0≤(a1:Int):=ofd;have q117:a1<(l0_3.length:Int):=ofd;obtain ⟨ad117,e117,hx117_0⟩:=Kd.at_int HR0_3.out a1 p117 q117;cases e117;replace hx117_0:=hbc HB hx117_0;replace p117:=eq_true p117;replace q117:=eq_true q117)|(go_at_call 101;(with_reducible refine (lane_lets.calls (rd l0_3 a1) a2 true _ A8.out).mono ?_);rintro e w' ⟨rfl,⟨nd,rfl⟩⟩;have p119:0≤(t115:Int):=ofd;have q119:t115<(l0_3.length:Int):=ofd;obtain ⟨ad119,e119,hx119_0⟩:=Kd.at_int HR0_3.out t115 p119 q119;obtain rfl:ad117=ad119:=(by injection e119);replace hx119_0:=hbc HB hx119_0;replace p119:=eq_true p119;replace q119:=eq_true q119)|(go_at_call 101;(with_reducible refine (lane_lets.calls (rd l0_3 t115) a2 t120 _ A12.out).mono ?_);rintro e w' ⟨rfl,⟨nd,rfl⟩⟩))
   go_ret
   exact ⟨er_,hb_⟩
  ·replace c9:=Bool.eq_false_iff.mpr c9;subst c9;rw [if_neg (show ¬ (false=true) by decide)] at H;obtain rfl:=Option.some.inj H;go_enter Try.func85,Try.ntmps85;go_wp2_with (first|((with_reducible refine gate_dst (N:=3) rfl ?_);refine box_ev (N:=3) (cs:=#[.int .i64 a0_0,.int .i64 a0_1,.slice A0_2 l0_2.length c0_2,.slice A0_3 l0_3.length c0_3]) (t:=24) ?_;intro gb114 hg w17 hbox hb;have BK114:=Aside0.mk hbox;have GW114:=gsz (w:=w) hg;have GE114:=GW114;replace HB:=hbs hb;clear hb hbox hg;obtain ⟨_,_,_,_,_,_,_,_⟩:=cells4 BK114.out)|((with_reducible refine gate_callee (f:=68) rfl ?_);refine goesL_ (some 13) rfl rfl Try.func68 (by kernel_rfl) rfl #[.agg #[.int .i64 a0_0,.int .i64 a0_1,.slice A0_2 l0_2.length c0_2,.slice A0_3 l0_3.length c0_3],.int .i64 a1,.int .i64 a2] rfl ga_ ?_;(with_reducible refine (lane_joined.calls a0_0 a0_1 _ _ l0_2 _ _ l0_3 a1 a2 t115 true _ ?_ ?_ ?_ ?_ A4.out).mono ?_);exact cq HR0_2;exact HC0_2.out;exact cq HR0_3;exact HC0_3.out;rintro e w19 ⟨rfl,hb⟩;refine ⟨_,rfl,?_⟩;replace BK114:=bkb BK114 hb;replace HB:=hbs hb;obtain ⟨_,_,_,_,_,_,_,_⟩:=cells4 BK114.out;have p117:0≤(a1:Int):=ofd;have q117:a1<(l0_3.length:Int):=ofd;obtain ⟨ad117,e117,hx117_0⟩:=Kd.at_int HR0_3.out a1 p117 q117;cases e117;replace hx117_0:=hbc HB hx117_0;replace p117:=eq_true p117;replace q117:=eq_true q117)|(go_at_call 101;(with_reducible refine (lane_lets.calls (rd l0_3 a1) a2 false _ A8.out).mono ?_);rintro e w' ⟨rfl,⟨nd,rfl⟩⟩))
   go_ret
   exact ⟨er_,hb_⟩
 ·replace c5:=Bool.eq_false_iff.mpr c5;subst c5;rw [if_neg (show ¬ (false=true) by decide)] at H;obtain rfl:=Option.some.inj H;go_enter Try.func85,Try.ntmps85;go_wp2_with (first|((with_reducible refine gate_dst (N:=3) rfl ?_);refine box_ev (N:=3) (cs:=#[.int .i64 a0_0,.int .i64 a0_1,.slice A0_2 l0_2.length c0_2,.slice A0_3 l0_3.length c0_3]) (t:=24) ?_;intro gb114 hg w21 hbox hb;have BK114:=Aside0.mk hbox;have GW114:=gsz (w:=w) hg;have GE114:=GW114;replace HB:=hbs hb;clear hb hbox hg;obtain ⟨_,_,_,_,_,_,_,_⟩:=cells4 BK114.out)|((with_reducible refine gate_callee (f:=68) rfl ?_);refine goesL_ (some 13) rfl rfl Try.func68 (by kernel_rfl) rfl #[.agg #[.int .i64 a0_0,.int .i64 a0_1,.slice A0_2 l0_2.length c0_2,.slice A0_3 l0_3.length c0_3],.int .i64 a1,.int .i64 a2] rfl ga_ ?_;(with_reducible refine (lane_joined.calls a0_0 a0_1 _ _ l0_2 _ _ l0_3 a1 a2 t115 false _ ?_ ?_ ?_ ?_ A4.out).mono ?_);exact cq HR0_2;exact HC0_2.out;exact cq HR0_3;exact HC0_3.out;rintro e w23 ⟨rfl,hb⟩;refine ⟨_,rfl,?_⟩;replace BK114:=bkb BK114 hb;replace HB:=hbs hb))
  go_ret
  exact ⟨er_,hb_⟩

/-! ### lane_leaves: function 65 -/
def lane_leaves.l0:Nat→Int→Int→List Int→Int→Int→Int→List Int→List Int→Option (List Int)
 | 0,_,_,_,_,_,_,_,_=>none
 | k+1,x1,x2,x7,x9,x122000,x122001,x122002,x122003=>if x9<4 then (if x9=x2 then (lane_leaves.l0 k x1 x2 x7 (wrap64 (x9+1)) x122000 x122001 x122002 x122003) else ((lane_may.f x122000 x122001 x122002 x122003 x1 x9).bind fun t122=>(if t122=true then (if x7.length<17592186044416 then (lane_leaves.l0 k x1 x2 (x7 ++ [x9]) (wrap64 (x9+1)) x122000 x122001 x122002 x122003) else (none)) else (lane_leaves.l0 k x1 x2 x7 (wrap64 (x9+1)) x122000 x122001 x122002 x122003)))) else (if (x7.length:Int)=0 then (if x2≥0 then ((lane_may.f x122000 x122001 x122002 x122003 x1 x2).bind fun t126=>(if t126=true then (if x7.length<17592186044416 then (some (x7 ++ [x2])) else (none)) else (some x7))) else (some x7)) else (some x7))
def lane_leaves.f (k:Nat) (a0_0:Int) (a0_1:Int) (l0_2:List Int) (l0_3:List Int) (a1:Int) (a2:Int):Option (List Int) := lane_leaves.l0 k a1 a2 ([]:List Int) 0 a0_0 a0_1 l0_2 l0_3
theorem lane_leaves.mono_l:∀ k,(∀ y0 y1 y2 y3 y4 y5 y6 y7,LeO (lane_leaves.l0 k y0 y1 y2 y3 y4 y5 y6 y7) (lane_leaves.l0 (k+1) y0 y1 y2 y3 y4 y5 y6 y7))
 | 0=>fun _ _ _ _ _ _ _ _ r h=>by simp [lane_leaves.l0] at h
 | k+1=>by
  have ih0:=lane_leaves.mono_l k
  ·intro y0 y1 y2 y3 y4 y5 y6 y7;unfold lane_leaves.l0;repeat' first
   | (with_reducible exact ih0 _ _ _ _ _ _ _ _)
   | (with_reducible exact LeO.refl _)
   | (with_reducible exact LeO.none _)
   | (with_reducible refine LeO.ite ?_ ?_)
   | (with_reducible refine LeO.bind ?_ (fun _=>?_))
theorem lane_leaves.mono:∀ a0 a1 a2 a3 a4 a5 k,LeO (lane_leaves.f k a0 a1 a2 a3 a4 a5) (lane_leaves.f (k+1) a0 a1 a2 a3 a4 a5) := by
 intro a0 a1 a2 a3 a4 a5 k;have ih0:=lane_leaves.mono_l k;unfold lane_leaves.f;repeat' first
   | (with_reducible exact ih0 _ _ _ _ _ _ _ _)
   | (with_reducible exact LeO.refl _)
   | (with_reducible exact LeO.none _)
   | (with_reducible refine LeO.ite ?_ ?_)
   | (with_reducible refine LeO.bind ?_ (fun _=>?_))
set_option maxHeartbeats 8000000 in
set_option maxRecDepth 100000 in
theorem lane_leaves.calls (k:Nat) (a0_0:Int) (a0_1:Int) (A0_2:Option Addr) (c0_2:Nat) (l0_2:List Int) (A0_3:Option Addr) (c0_3:Nat) (l0_3:List Int) (a1:Int) (a2:Int) (r:List Int) (w:World) (hr0_2:Kd.C (Kd.int .i64) w A0_2 l0_2.length l0_2) (hc0_2:l0_2.length≤c0_2) (hr0_3:Kd.C (Kd.int .i64) w A0_3 l0_3.length l0_3) (hc0_3:l0_3.length≤c0_3) (h:lane_leaves.f k a0_0 a0_1 l0_2 l0_3 a1 a2=some r) :
  Calls Try.prog 65 #[.agg #[.int .i64 a0_0,.int .i64 a0_1,.slice A0_2 l0_2.length c0_2,.slice A0_3 l0_3.length c0_3],.int .i64 a1,.int .i64 a2] w fun e w'=>∃ v0_:Value,e=.returned (v0_)∧Kd.R (Kd.int .i64) 3 w' w.heap.size (fun _=>True) v0_ r∧Below w.heap.size w w':=by
 have hu24:=Try.underlying24;have HR0_2:=Aside0.mk hr0_2;have HC0_2:=Aside0.mk hc0_2;clear hr0_2 hc0_2;have HR0_3:=Aside0.mk hr0_3;have HC0_3:=Aside0.mk hc0_3;clear hr0_3 hc0_3;have HB:=Aside0.mk (Below.refl w.heap.size w);have H:=h;clear h;unfold lane_leaves.f at H;have H':=Aside0.mk H;clear H;go_enter Try.func65,Try.ntmps65;go_wp2_with (first|((with_reducible refine gate_dst (N:=3) rfl ?_);refine box_ev (N:=3) (cs:=#[.int .i64 a0_0,.int .i64 a0_1,.slice A0_2 l0_2.length c0_2,.slice A0_3 l0_3.length c0_3]) (t:=24) ?_;intro gb121 hg w4 hbox hb;have BK121:=Aside0.mk hbox;have GW121:=gsz (w:=w) hg;have GE121:=GW121;replace HB:=hbs hb;clear hb hbox hg))
 go_loopg [7,9] k (fun kq v7 v9 w'=>∃ (x7_1:List Int) (x9_1:Int),v9=.int .i64 x9_1∧Aside0 (lane_leaves.l0 kq a1 a2 x7_1 x9_1 a0_0 a0_1 l0_2 l0_3=some r)∧Aside0 (kq≤k)∧Aside0 (Kd.R (Kd.int .i64) 3 w' w.heap.size (fun _=>True) v7 x7_1)∧Aside0 (w'.heap[gb121]?=some (.cells #[.int .i64 a0_0,.int .i64 a0_1,(.slice A0_2 l0_2.length c0_2),(.slice A0_3 l0_3.length c0_3)] 24 (0,0)))∧Aside0 (Below w.heap.size w w'))
 case atStart=>exact ⟨(([]:List Int)),(0),(by first|rfl|(simp;done)|(simp [*];done)),H',⟨Nat.le_refl _⟩,⟨nl_⟩,⟨blk_up BK121.out⟩,⟨hb_⟩⟩
 case round =>
  clear H';obtain ⟨x7_1,x9_1,rfl,HA,HK1,HO_7,BK121,HB⟩:=hrel;cases gk with
  | zero=>exact absurd HA.out (by simp [lane_leaves.l0])
  | succ k1 =>
   have H:=HA.out;clear HA;simp only [lane_leaves.l0] at H;by_cases c5:x9_1<4
   ·rw [if_pos c5] at H;have c5b0:=decide_eq_true c5;clear c5;by_cases c6:x9_1=a2
    ·rw [if_pos c6] at H;have c6b0:=bqt c6;have c6b1:=bnf c6;clear c6;have H':=Aside0.mk H;clear H;go_wp2
     go_roundg k1
     case measure=>have:=HK1.out;omega
     case rel=>exact ⟨(x7_1),(wrap64 (x9_1+1)),(by first|rfl|(simp;done)|(simp [*];done)),H',⟨by have:=HK1.out;omega⟩,⟨Kd.R_up HO_7.out⟩,⟨blk_up BK121.out⟩,⟨hb_⟩⟩
    rw [if_neg c6] at H;have c6b0:=bqf c6;have c6b1:=bnt c6;obtain ⟨t122,A7,H⟩:=bnd H;by_cases c8:t122=true
    ·subst c8;rw [if_pos rfl] at H;obtain ⟨c9,H⟩:=ifp_ H;have LMc9:=Aside0.mk c9;clear c9;obtain ⟨y123,hy123⟩:∃ y_:List Int,y_=(x7_1 ++ [x9_1]):=⟨_,rfl⟩;replace H:(lane_leaves.l0 k1 a1 a2 y123 (wrap64 (x9_1+1)) a0_0 a0_1 l0_2 l0_3)=some r:=hyx hy123 H;have Ny123:=Aside0.mk hy123;clear hy123;have H':=Aside0.mk H;clear H;obtain ⟨_,_,_,_,_,_,_,_⟩:=cells4 BK121.out;go_wp2_with (first|(go_at_call 85;(with_reducible refine (lane_may.calls a0_0 a0_1 _ _ l0_2 _ _ l0_3 a1 x9_1 true _ ?_ ?_ ?_ ?_ A7.out).mono ?_);exact cq HR0_2;exact HC0_2.out;exact cq HR0_3;exact HC0_3.out;rintro e w11 ⟨rfl,hb⟩;replace HO_7:=rbw HO_7 hb;replace BK121:=bkb BK121 hb;replace HB:=hbs hb)|((with_reducible refine gate_builtin (b:=.append) (xs:=#[.tmp 21,.tmp 23]) rfl ?_);at_builtin;refine Kd.R_append (Kd.int .i64) (w0:=w) w.heap.size rfl (.tmp 21) (.tmp 23) 22 3 (.int .i64 0) 8 rfl Try.underlying22 info3 rfl (by decide) (by omega) u7 x7_1 x9_1 [.int .i64 x9_1] (fun _=>True) (fun _=>False) rfl rfl ?aP (fun _ hk=>hk.elim) ?aF ?aO ?aB ?aS ?aL ?_;(case aP=>exact rfl);(case aB=>exact (hb_));(case aF=>exact (fun _ _=>trivial));(case aO=>exact (Kd.R_up HO_7.out));(case aS=>exact (below_size (hb_)));(case aL=>have:=LMc9.out;omega);intro v124 w12 ho hb hg hat;rw [← Ny123.out] at ho;have HO125:=Aside0.mk (ho);replace BK121:=Aside0.mk (blk_grown (blk_up BK121.out) hg (Kd.R_ne HO_7.out BK121.out (by decide)));replace HB:=Aside0.mk (hb);clear HO_7;clear ho hb hg hat))
     go_roundg k1
     case measure=>have:=HK1.out;omega
     case rel=>exact ⟨(y123),(wrap64 (x9_1+1)),(by first|rfl|(simp;done)|(simp [*];done)),H',⟨by have:=HK1.out;omega⟩,⟨Kd.R_up HO125.out⟩,⟨blk_up BK121.out⟩,⟨hb_⟩⟩
    ·replace c8:=Bool.eq_false_iff.mpr c8;subst c8;rw [if_neg (show ¬ (false=true) by decide)] at H;have H':=Aside0.mk H;clear H;obtain ⟨_,_,_,_,_,_,_,_⟩:=cells4 BK121.out;go_wp2_with (first|(go_at_call 85;(with_reducible refine (lane_may.calls a0_0 a0_1 _ _ l0_2 _ _ l0_3 a1 x9_1 false _ ?_ ?_ ?_ ?_ A7.out).mono ?_);exact cq HR0_2;exact HC0_2.out;exact cq HR0_3;exact HC0_3.out;rintro e w14 ⟨rfl,hb⟩;replace HO_7:=rbw HO_7 hb;replace BK121:=bkb BK121 hb;replace HB:=hbs hb))
     go_roundg k1
     case measure=>have:=HK1.out;omega
     case rel=>exact ⟨(x7_1),(wrap64 (x9_1+1)),(by first|rfl|(simp;done)|(simp [*];done)),H',⟨by have:=HK1.out;omega⟩,⟨Kd.R_up HO_7.out⟩,⟨blk_up BK121.out⟩,⟨hb_⟩⟩
   rw [if_neg c5] at H;have c5b0:=decide_eq_false c5;clear c5;by_cases c15:(x7_1.length:Int)=0;rotate_left
   ·rw [if_neg c15] at H;have c15b0:=bqf c15;have c15b1:=bnt c15;have c15b2:¬ (x7_1=[]):=fun h_=>c15 (by rw [h_];rfl)
    obtain rfl:=Option.some.inj H;obtain ⟨Ao28,co28,eo28⟩:=Kd.R_slice HO_7.out;subst eo28;go_wp2
    go_ret
    exact ⟨_,er_,Kd.R_up HO_7.out,hb_⟩
   rw [if_pos c15] at H;have c15b0:=bqt c15;have c15b1:=bnf c15;clear c15;by_cases c16:a2≥0;rotate_left
   ·rw [if_neg c16] at H;have c16b0:=decide_eq_false c16;clear c16;obtain rfl:=Option.some.inj H;obtain ⟨Ao27,co27,eo27⟩:=Kd.R_slice HO_7.out;subst eo27;go_wp2
    go_ret
    exact ⟨_,er_,Kd.R_up HO_7.out,hb_⟩
   rw [if_pos c16] at H;have c16b0:=decide_eq_true c16;clear c16;obtain ⟨t126,A17,H⟩:=bnd H;by_cases c18:t126=true
   ·subst c18;rw [if_pos rfl] at H;obtain ⟨c19,H⟩:=ifp_ H;have LMc19:=Aside0.mk c19;clear c19;obtain ⟨y127,hy127⟩:∃ y_:List Int,y_=(x7_1 ++ [a2]):=⟨_,rfl⟩;replace H:(some y127)=some r:=hyx hy127 H;have Ny127:=Aside0.mk hy127;clear hy127;obtain rfl:=Option.some.inj H;obtain ⟨Ao20,co20,eo20⟩:=Kd.R_slice HO_7.out;subst eo20;obtain ⟨_,_,_,_,_,_,_,_⟩:=cells4 BK121.out;go_wp2_with (first|(go_at_call 85;(with_reducible refine (lane_may.calls a0_0 a0_1 _ _ l0_2 _ _ l0_3 a1 a2 true _ ?_ ?_ ?_ ?_ A17.out).mono ?_);exact cq HR0_2;exact HC0_2.out;exact cq HR0_3;exact HC0_3.out;rintro e w22 ⟨rfl,hb⟩;replace HO_7:=rbw HO_7 hb;replace BK121:=bkb BK121 hb;replace HB:=hbs hb)|((with_reducible refine gate_builtin (b:=.append) (xs:=#[.tmp 39,.tmp 41]) rfl ?_);at_builtin;refine Kd.R_append (Kd.int .i64) (w0:=w) w.heap.size rfl (.tmp 39) (.tmp 41) 22 3 (.int .i64 0) 8 rfl Try.underlying22 info3 rfl (by decide) (by omega) (.slice Ao20 x7_1.length co20) x7_1 a2 [.int .i64 a2] (fun _=>True) (fun _=>False) rfl rfl ?aP (fun _ hk=>hk.elim) ?aF ?aO ?aB ?aS ?aL ?_;(case aP=>exact rfl);(case aB=>exact (hb_));(case aF=>exact (fun _ _=>trivial));(case aO=>exact (Kd.R_up HO_7.out));(case aS=>exact (below_size (hb_)));(case aL=>have:=LMc19.out;omega);intro v128 w23 ho hb hg hat;rw [← Ny127.out] at ho;have HO129:=Aside0.mk (ho);replace BK121:=Aside0.mk (blk_grown (blk_up BK121.out) hg (Kd.R_ne HO_7.out BK121.out (by decide)));replace HB:=Aside0.mk (hb);clear HO_7;clear ho hb hg hat))
    go_ret
    exact ⟨_,er_,Kd.R_up HO129.out,hb_⟩
   ·replace c18:=Bool.eq_false_iff.mpr c18;subst c18;rw [if_neg (show ¬ (false=true) by decide)] at H;obtain rfl:=Option.some.inj H;obtain ⟨Ao24,co24,eo24⟩:=Kd.R_slice HO_7.out;subst eo24;obtain ⟨_,_,_,_,_,_,_,_⟩:=cells4 BK121.out;go_wp2_with (first|(go_at_call 85;(with_reducible refine (lane_may.calls a0_0 a0_1 _ _ l0_2 _ _ l0_3 a1 a2 false _ ?_ ?_ ?_ ?_ A17.out).mono ?_);exact cq HR0_2;exact HC0_2.out;exact cq HR0_3;exact HC0_3.out;rintro e w26 ⟨rfl,hb⟩;replace HO_7:=rbw HO_7 hb;replace BK121:=bkb BK121 hb;replace HB:=hbs hb))
    go_ret
    exact ⟨_,er_,Kd.R_up HO_7.out,hb_⟩

end Go.Proofs.Ythjmdpekcleihaa.P

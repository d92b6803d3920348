/- Functions of this seat as plain Lean functions, with proofs that the Go code comes to just their answers, or what stands between them and a law's statement; no conditions. (Laid by a program of this session, out of the kit's print.) -/
import Derived.Test.YtbdijpjlgokfkaaPx0
import Derived.Test.YtbdijpjlgokfkaaPx5
namespace Go.Proofs.Ytbdijpjlgokfkaa.P
open Go.RowKit Go.Proofs.YtbdijpjlgokfkaaW.PrintWords Go.Proofs.YtbdijpjlgokfkaaW.PrintLast Go.Proofs.YtbdijpjlgokfkaaW.PrintMore
attribute [local go_sem] max2_int min2_int max_two min_two max_three min_three max_four min_four   -- for this text's walks alone
set_option maxHeartbeats 8000000
set_option maxRecDepth 100000
set_option linter.unusedVariables false
set_option linter.unusedSimpArgs false

/-! ### h11_townError: function 54 -/
def h11_townError.l0:Nat→List (S80)→Int→Int→List (S68)→List Int→Int→Int→Option (Int)
 | 0,_,_,_,_,_,_,_=>none
 | k+1,x0,x6,x200000,x200001,x200002,x200003,x200004=>if x6<(x200001.length:Int) then (if 0≤x6 then (if ((rd_T68 x200001 x6).f1)<0 then (some 2) else (if ((rd_T68 x200001 x6).f1)≥(x0.length:Int) then (some 2) else (h11_townError.l0 k x0 (wrap64 (x6+1)) x200000 x200001 x200002 x200003 x200004))) else (none)) else (some 0)
def h11_townError.f (k:Nat) (l0:List (S80)) (a1_0:Int) (l1_1:List (S68)) (l1_2:List Int) (a1_3:Int) (a1_4:Int):Option (Int):=(h11_fields.f k a1_0 l1_1 l1_2 a1_3 a1_4).bind fun t200=>(if t200=0 then (h11_townError.l0 k l0 0 a1_0 l1_1 l1_2 a1_3 a1_4) else (some t200))
theorem h11_townError.mono_l:∀ k,(∀ y0 y1 y2 y3 y4 y5 y6,LeO (h11_townError.l0 k y0 y1 y2 y3 y4 y5 y6) (h11_townError.l0 (k+1) y0 y1 y2 y3 y4 y5 y6))
 | 0=>fun _ _ _ _ _ _ _ r h=>by simp [h11_townError.l0] at h
 | k+1=>by
  have ih0:=h11_townError.mono_l k
  ·intro y0 y1 y2 y3 y4 y5 y6;unfold h11_townError.l0;repeat' with_reducible first|exact ih0 _ _ _ _ _ _ _|apply h11_fields.mono|apply lr_|apply ln_|apply li_|refine lb_ ?_ fun _=>?_
theorem h11_townError.mono:∀ a0 a1 a2 a3 a4 a5 k,LeO (h11_townError.f k a0 a1 a2 a3 a4 a5) (h11_townError.f (k+1) a0 a1 a2 a3 a4 a5):=by
 intro a0 a1 a2 a3 a4 a5 k;have ih0:=h11_townError.mono_l k;unfold h11_townError.f;repeat' with_reducible first|exact ih0 _ _ _ _ _ _ _|apply h11_fields.mono|apply lr_|apply ln_|apply li_|refine lb_ ?_ fun _=>?_
theorem h11_townError.calls (k:Nat) (A0:Option Addr) (c0:Nat) (l0:List (S80)) (a1_0:Int) (A1_1:Option Addr) (c1_1:Nat) (l1_1:List (S68)) (A1_2:Option Addr) (c1_2:Nat) (l1_2:List Int) (a1_3:Int) (a1_4:Int) (r:Int) (w:World) (hr0:Kd.C k80 w A0 l0.length l0) (hc0:l0.length≤c0) (hr1_1:Kd.C k68 w A1_1 l1_1.length l1_1) (hc1_1:l1_1.length≤c1_1) (hr1_2:Kd.C (Kd.int .i64) w A1_2 l1_2.length l1_2) (hc1_2:l1_2.length≤c1_2) (h:h11_townError.f k l0 a1_0 l1_1 l1_2 a1_3 a1_4=some r) :
  Calls Try.prog 54 #[.slice A0 l0.length c0,.agg #[.int .i64 a1_0,.slice A1_1 l1_1.length c1_1,.slice A1_2 l1_2.length c1_2,.int .i64 a1_3,.int .i64 a1_4]] w fun e w'=>e=.returned (.int .i64 r)∧Below w.heap.size w w':=by
 have hu25:=Try.underlying25;have HR0:=am_ hr0;have HC0:=am_ hc0;clear hr0 hc0;have HR1_1:=am_ hr1_1;have HC1_1:=am_ hc1_1;clear hr1_1 hc1_1;have HR1_2:=am_ hr1_2;have HC1_2:=am_ hc1_2;clear hr1_2 hc1_2;have HB:=am_ (Below.refl w.heap.size w);have H:=h;clear h;unfold h11_townError.f at H;obtain ⟨t200,A3,H⟩:=bnd H;by_cases c4:t200=0;rotate_left
 ·rw [if_neg c4] at H;have c4b0:=bqf c4;have c4b1:=bnt c4;obtain rfl:=oj_ H;go_enter Try.func54,Try.ntmps54;go_wp2_with (first|((with_reducible refine gate_dst (N:=3) rfl ?_);(try (refine gate_guard (by rfl) ?_;dsimp only));refine box_ev (N:=3) (cs:=#[.int .i64 a1_0,.slice A1_1 l1_1.length c1_1,.slice A1_2 l1_2.length c1_2,.int .i64 a1_3,.int .i64 a1_4]) (t:=25) ?_;intro gb199 hg w16 hbox hb;have BK199:=am_ hbox;have GW199:=gsz (w:=w) hg;have GE199:=GW199;replace HB:=hbs hb;clear hb hbox hg;obtain ⟨_,_,_,_,_,_,_,_,_,_⟩:=cells5 BK199.out)|((with_reducible refine gate_callee (f:=40) rfl ?_);refine goesL_ (some 8) rfl rfl Try.func40 (by kernel_rfl) rfl #[.agg #[.int .i64 a1_0,.slice A1_1 l1_1.length c1_1,.slice A1_2 l1_2.length c1_2,.int .i64 a1_3,.int .i64 a1_4]] rfl ga_ ?_;(with_reducible refine (h11_fields.calls k a1_0 _ _ l1_1 _ _ l1_2 a1_3 a1_4 t200 _ ?_ ?_ ?_ ?_ A3.out).mono ?_);exact cq HR1_1;exact HC1_1.out;exact cq HR1_2;exact HC1_2.out;rintro e w18 ⟨rfl,hb⟩;refine ⟨_,rfl,?_⟩;replace BK199:=bkb BK199 hb;replace HB:=hbs hb))
  go_ret
  exact ⟨er_,hb_⟩
 rw [if_pos c4] at H;have c4b0:=bqt c4;have c4b1:=bnf c4;clear c4;have H':=am_ H;clear H;go_enter Try.func54,Try.ntmps54;go_wp2_with (first|((with_reducible refine gate_dst (N:=3) rfl ?_);(try (refine gate_guard (by rfl) ?_;dsimp only));refine box_ev (N:=3) (cs:=#[.int .i64 a1_0,.slice A1_1 l1_1.length c1_1,.slice A1_2 l1_2.length c1_2,.int .i64 a1_3,.int .i64 a1_4]) (t:=25) ?_;intro gb199 hg w5 hbox hb;have BK199:=am_ hbox;have GW199:=gsz (w:=w) hg;have GE199:=GW199;replace HB:=hbs hb;clear hb hbox hg;obtain ⟨_,_,_,_,_,_,_,_,_,_⟩:=cells5 BK199.out)|((with_reducible refine gate_callee (f:=40) rfl ?_);refine goesL_ (some 8) rfl rfl Try.func40 (by kernel_rfl) rfl #[.agg #[.int .i64 a1_0,.slice A1_1 l1_1.length c1_1,.slice A1_2 l1_2.length c1_2,.int .i64 a1_3,.int .i64 a1_4]] rfl ga_ ?_;(with_reducible refine (h11_fields.calls k a1_0 _ _ l1_1 _ _ l1_2 a1_3 a1_4 t200 _ ?_ ?_ ?_ ?_ A3.out).mono ?_);exact cq HR1_1;exact HC1_1.out;exact cq HR1_2;exact HC1_2.out;rintro e w7 ⟨rfl,hb⟩;refine ⟨_,rfl,?_⟩;replace BK199:=bkb BK199 hb;replace HB:=hbs hb))
 go_loopg [6] k (fun kq v6 w'=>∃ (x6_1:Int),v6=.int .i64 x6_1∧Aside0 (h11_townError.l0 kq l0 x6_1 a1_0 l1_1 l1_2 a1_3 a1_4=some r)∧Aside0 (kq≤k)∧Aside0 (w'.heap[gb199]?=some (.cells #[.int .i64 a1_0,(.slice A1_1 l1_1.length c1_1),(.slice A1_2 l1_2.length c1_2),.int .i64 a1_3,.int .i64 a1_4] 25 (0,0)))∧Aside0 (Below w.heap.size w w'))
 case atStart=>exact ⟨(0),fr_,H',⟨Nat.le_refl _⟩,⟨blk_up BK199.out⟩,⟨hb_⟩⟩
 case round =>
  clear H';obtain ⟨x6_1,rfl,HA,HK1,BK199,HB⟩:=hrel;cases gk with
  | zero=>exact absurd HA.out (by simp [h11_townError.l0])
  | succ k1 =>
   have H:=HA.out;clear HA;simp only [h11_townError.l0] at H;by_cases c8:x6_1<(l1_1.length:Int);rotate_left
   ·rw [if_neg c8] at H;have c8b0:=df_ c8;clear c8;obtain rfl:=oj_ H;obtain ⟨_,_,_,_,_,_,_,_,_,_⟩:=cells5 BK199.out;go_wp2
    go_ret
    exact ⟨er_,hb_⟩
   rw [if_pos c8] at H;have c8b0:=dt_ c8;clear c8;obtain ⟨c9,H⟩:=ifp_ H;have c9b0:=dt_ c9;clear c9;by_cases c10:((rd_T68 l1_1 x6_1).f1)<0
   ·rw [if_pos c10] at H;have c10b0:=dt_ c10;clear c10;obtain rfl:=oj_ H;obtain ⟨_,_,_,_,_,_,_,_,_,_⟩:=cells5 BK199.out;have p201:0≤(x6_1:Int):=ofd;have q201:x6_1<(l1_1.length:Int):=ofd;obtain ⟨ad201,e201,hx201_0,hx201_1,hx201_2⟩:=at_T68 HR1_1.out x6_1 p201 q201;cases e201;replace hx201_0:=hbc HB hx201_0;replace hx201_1:=hbc HB hx201_1;replace hx201_2:=hbc HB hx201_2;replace p201:=eq_true p201;replace q201:=eq_true q201;go_wp2
    go_ret
    exact ⟨er_,hb_⟩
   rw [if_neg c10] at H;have c10b0:=df_ c10;clear c10;by_cases c12:((rd_T68 l1_1 x6_1).f1)≥(l0.length:Int)
   ·rw [if_pos c12] at H;have c12b0:=dt_ c12;clear c12;obtain rfl:=oj_ H;obtain ⟨_,_,_,_,_,_,_,_,_,_⟩:=cells5 BK199.out;have p201:0≤(x6_1:Int):=ofd;have q201:x6_1<(l1_1.length:Int):=ofd;obtain ⟨ad201,e201,hx201_0,hx201_1,hx201_2⟩:=at_T68 HR1_1.out x6_1 p201 q201;cases e201;replace hx201_0:=hbc HB hx201_0;replace hx201_1:=hbc HB hx201_1;replace hx201_2:=hbc HB hx201_2;replace p201:=eq_true p201;replace q201:=eq_true q201;have p202:0≤(x6_1:Int):=ofd;have q202:x6_1<(l1_1.length:Int):=ofd;obtain ⟨ad202,e202,hx202_0,hx202_1,hx202_2⟩:=at_T68 HR1_1.out x6_1 p202 q202;obtain rfl:ad201=ad202:=(by injection e202);replace hx202_0:=hbc HB hx202_0;replace hx202_1:=hbc HB hx202_1;replace hx202_2:=hbc HB hx202_2;replace p202:=eq_true p202;replace q202:=eq_true q202;go_wp2
    go_ret
    exact ⟨er_,hb_⟩
   ·rw [if_neg c12] at H;have c12b0:=df_ c12;clear c12;have H':=am_ H;clear H;obtain ⟨_,_,_,_,_,_,_,_,_,_⟩:=cells5 BK199.out;have p201:0≤(x6_1:Int):=ofd;have q201:x6_1<(l1_1.length:Int):=ofd;obtain ⟨ad201,e201,hx201_0,hx201_1,hx201_2⟩:=at_T68 HR1_1.out x6_1 p201 q201;cases e201;replace hx201_0:=hbc HB hx201_0;replace hx201_1:=hbc HB hx201_1;replace hx201_2:=hbc HB hx201_2;replace p201:=eq_true p201;replace q201:=eq_true q201;have p202:0≤(x6_1:Int):=ofd;have q202:x6_1<(l1_1.length:Int):=ofd;obtain ⟨ad202,e202,hx202_0,hx202_1,hx202_2⟩:=at_T68 HR1_1.out x6_1 p202 q202;obtain rfl:ad201=ad202:=(by injection e202);replace hx202_0:=hbc HB hx202_0;replace hx202_1:=hbc HB hx202_1;replace hx202_2:=hbc HB hx202_2;replace p202:=eq_true p202;replace q202:=eq_true q202;go_wp2
    go_roundg k1
    case measure=>have:=HK1.out;omega
    case rel=>exact ⟨(wrap64 (x6_1+1)),fr_,H',⟨by have:=HK1.out;omega⟩,⟨blk_up BK199.out⟩,⟨hb_⟩⟩

/-! ### h11_Validate: function 26 -/
def h11_Validate.f (k:Nat) (l0:List (S80)) (a1_0:Int) (l1_1:List (S68)) (l1_2:List Int) (a1_3:Int) (a1_4:Int):Option (Int):=(h11_ValidateKinds.f k l0).bind fun t204=>(if t204=0 then ((h11_townError.f k l0 a1_0 l1_1 l1_2 a1_3 a1_4).bind fun t205=>(some t205)) else (some t204))
theorem h11_Validate.mono:∀ a0 a1 a2 a3 a4 a5 k,LeO (h11_Validate.f k a0 a1 a2 a3 a4 a5) (h11_Validate.f (k+1) a0 a1 a2 a3 a4 a5):=by
 intro a0 a1 a2 a3 a4 a5 k;unfold h11_Validate.f;repeat' with_reducible first|apply h11_ValidateKinds.mono|apply h11_townError.mono|apply lr_|apply ln_|apply li_|refine lb_ ?_ fun _=>?_
theorem h11_Validate.calls (k:Nat) (A0:Option Addr) (c0:Nat) (l0:List (S80)) (a1_0:Int) (A1_1:Option Addr) (c1_1:Nat) (l1_1:List (S68)) (A1_2:Option Addr) (c1_2:Nat) (l1_2:List Int) (a1_3:Int) (a1_4:Int) (r:Int) (w:World) (hr0:Kd.C k80 w A0 l0.length l0) (hc0:l0.length≤c0) (hr1_1:Kd.C k68 w A1_1 l1_1.length l1_1) (hc1_1:l1_1.length≤c1_1) (hr1_2:Kd.C (Kd.int .i64) w A1_2 l1_2.length l1_2) (hc1_2:l1_2.length≤c1_2) (h:h11_Validate.f k l0 a1_0 l1_1 l1_2 a1_3 a1_4=some r) :
  Calls Try.prog 26 #[.slice A0 l0.length c0,.agg #[.int .i64 a1_0,.slice A1_1 l1_1.length c1_1,.slice A1_2 l1_2.length c1_2,.int .i64 a1_3,.int .i64 a1_4]] w fun e w'=>e=.returned (.int .i64 r)∧Below w.heap.size w w':=by
 have hu25:=Try.underlying25;have HR0:=am_ hr0;have HC0:=am_ hc0;clear hr0 hc0;have HR1_1:=am_ hr1_1;have HC1_1:=am_ hc1_1;clear hr1_1 hc1_1;have HR1_2:=am_ hr1_2;have HC1_2:=am_ hc1_2;clear hr1_2 hc1_2;have HB:=am_ (Below.refl w.heap.size w);have H:=h;clear h;unfold h11_Validate.f at H;obtain ⟨t204,A3,H⟩:=bnd H;by_cases c4:t204=0
 ·rw [if_pos c4] at H;have c4b0:=bqt c4;have c4b1:=bnf c4;clear c4;obtain ⟨t205,A5,H⟩:=bnd H;obtain rfl:=oj_ H;go_enter Try.func26,Try.ntmps26;go_wp2_with (first|((with_reducible refine gate_dst (N:=3) rfl ?_);refine box_ev (N:=3) (cs:=#[.int .i64 a1_0,.slice A1_1 l1_1.length c1_1,.slice A1_2 l1_2.length c1_2,.int .i64 a1_3,.int .i64 a1_4]) (t:=25) ?_;intro gb203 hg w6 hbox hb;have BK203:=am_ hbox;have GW203:=gsz (w:=w) hg;have GE203:=GW203;replace HB:=hbs hb;clear hb hbox hg)|((with_reducible refine gate_callee (f:=24) rfl ?_);refine goesL_ (some 7) rfl rfl Try.func24 (by kernel_rfl) rfl #[.slice A0 l0.length c0] rfl ga_ ?_;(with_reducible refine (h11_ValidateKinds.calls k _ _ l0 t204 _ ?_ ?_ A3.out).mono ?_);exact cq HR0;exact HC0.out;rintro e w7 ⟨rfl,hb⟩;refine ⟨_,rfl,?_⟩;replace BK203:=bkb BK203 hb;replace HB:=hbs hb;obtain ⟨_,_,_,_,_,_,_,_,_,_⟩:=cells5 BK203.out)|((with_reducible refine gate_callee (f:=54) rfl ?_);refine goesL_ (some 13) rfl rfl Try.func54 (by kernel_rfl) rfl #[.slice A0 l0.length c0,.agg #[.int .i64 a1_0,.slice A1_1 l1_1.length c1_1,.slice A1_2 l1_2.length c1_2,.int .i64 a1_3,.int .i64 a1_4]] rfl ga_ ?_;(with_reducible refine (h11_townError.calls k _ _ l0 a1_0 _ _ l1_1 _ _ l1_2 a1_3 a1_4 t205 _ ?_ ?_ ?_ ?_ ?_ ?_ A5.out).mono ?_);exact cq HR0;exact HC0.out;exact cq HR1_1;exact HC1_1.out;exact cq HR1_2;exact HC1_2.out;rintro e w9 ⟨rfl,hb⟩;refine ⟨_,rfl,?_⟩;replace BK203:=bkb BK203 hb;replace HB:=hbs hb))
  go_ret
  exact ⟨er_,hb_⟩
 ·rw [if_neg c4] at H;have c4b0:=bqf c4;have c4b1:=bnt c4;obtain rfl:=oj_ H;go_enter Try.func26,Try.ntmps26;go_wp2_with (first|((with_reducible refine gate_dst (N:=3) rfl ?_);refine box_ev (N:=3) (cs:=#[.int .i64 a1_0,.slice A1_1 l1_1.length c1_1,.slice A1_2 l1_2.length c1_2,.int .i64 a1_3,.int .i64 a1_4]) (t:=25) ?_;intro gb203 hg w10 hbox hb;have BK203:=am_ hbox;have GW203:=gsz (w:=w) hg;have GE203:=GW203;replace HB:=hbs hb;clear hb hbox hg)|((with_reducible refine gate_callee (f:=24) rfl ?_);refine goesL_ (some 7) rfl rfl Try.func24 (by kernel_rfl) rfl #[.slice A0 l0.length c0] rfl ga_ ?_;(with_reducible refine (h11_ValidateKinds.calls k _ _ l0 t204 _ ?_ ?_ A3.out).mono ?_);exact cq HR0;exact HC0.out;rintro e w11 ⟨rfl,hb⟩;refine ⟨_,rfl,?_⟩;replace BK203:=bkb BK203 hb;replace HB:=hbs hb))
  go_ret
  exact ⟨er_,hb_⟩

/-! ### h02_side: function 94 -/
def h02_side.f (a0:Int):Option (Bool):=if a0≥4 then (some (decide (a0≤32))) else (some false)
theorem h02_side.calls (a0:Int) (r:Bool) (w:World) (h:h02_side.f a0=some r) :
  Calls Try.prog 94 #[.int .i64 a0] w fun e w'=>e=.returned (.bool r)∧Drawn0 w w':=by
 have H:=h;clear h;unfold h02_side.f at H;by_cases c2:a0≥4
 ·rw [if_pos c2] at H;have c2b0:=dt_ c2;clear c2;obtain rfl:=oj_ H;go_enter Try.func94,Try.ntmps94;go_wp2
  go_ret
  exact ⟨fr_,dr_⟩
 ·rw [if_neg c2] at H;have c2b0:=df_ c2;clear c2;obtain rfl:=oj_ H;go_enter Try.func94,Try.ntmps94;go_wp2
  go_ret
  exact ⟨fr_,dr_⟩

/-! ### h02_Apart: function 95 -/
def h02_Apart.f (a0:Int) (a1:Int):Option (Int):=if a0<a1 then (some (wrap64 (a1 - a0))) else (some (wrap64 (a0 - a1)))
theorem h02_Apart.calls (a0:Int) (a1:Int) (r:Int) (w:World) (h:h02_Apart.f a0 a1=some r) :
  Calls Try.prog 95 #[.int .i64 a0,.int .i64 a1] w fun e w'=>e=.returned (.int .i64 r)∧Drawn0 w w':=by
 have H:=h;clear h;unfold h02_Apart.f at H;by_cases c3:a0<a1
 ·rw [if_pos c3] at H;have c3b0:=dt_ c3;clear c3;obtain rfl:=oj_ H;go_enter Try.func95,Try.ntmps95;go_wp2
  go_ret
  exact ⟨fr_,dr_⟩
 ·rw [if_neg c3] at H;have c3b0:=df_ c3;clear c3;obtain rfl:=oj_ H;go_enter Try.func95,Try.ntmps95;go_wp2
  go_ret
  exact ⟨fr_,dr_⟩

/-! ### h02_Validate: function 80 -/
mutual
def h02_Validate.j0:Nat→Bool→Int→Int→List Int→Option (Int)
 | 0,_,_,_,_=>none
 | k+1,x29,x207000,x207001,x207002=>if x29=true then (some 1) else (h02_Validate.l0 k x207002 (x207002.length:Int) 0 x207000 x207001 x207002)
def h02_Validate.l0:Nat→List Int→Int→Int→Int→Int→List Int→Option (Int)
 | 0,_,_,_,_,_,_=>none
 | k+1,x31,x32,x33,x207000,x207001,x207002=>if x33<x32 then (if 0≤x33 then (if x33<(x31.length:Int) then (if (rd x31 x33)<0 then (some 1) else (if (rd x31 x33) > 15 then (some 1) else (h02_Validate.l0 k x31 x32 (wrap64 (x33+1)) x207000 x207001 x207002))) else (none)) else (none)) else (h02_Validate.l1 k x207002 (x207002.length:Int) 0 x207000 x207001 x207002)
def h02_Validate.l1:Nat→List Int→Int→Int→Int→Int→List Int→Option (Int)
 | 0,_,_,_,_,_,_=>none
 | k+1,x45,x46,x47,x207000,x207001,x207002=>if x47<x46 then (if 0≤x47 then (if x47<(x45.length:Int) then (if (wrap64 (x207000+1))=0 then (none) else (if (Int.tmod x47 (wrap64 (x207000+1))) > 0 then (if 0≤(wrap64 (x47 - 1)) then (if (wrap64 (x47 - 1))<(x207002.length:Int) then ((h02_Apart.f (rd x45 x47) (rd x207002 (wrap64 (x47 - 1)))).bind fun t212=>(if t212 > 1 then (some 5) else (if x47 > x207000 then (if 0≤(wrap64 ((wrap64 (x47 - x207000)) - 1)) then (if (wrap64 ((wrap64 (x47 - x207000)) - 1))<(x207002.length:Int) then ((h02_Apart.f (rd x45 x47) (rd x207002 (wrap64 ((wrap64 (x47 - x207000)) - 1)))).bind fun t214=>(if t214 > 1 then (some 5) else (h02_Validate.l1 k x45 x46 (wrap64 (x47+1)) x207000 x207001 x207002))) else (none)) else (none)) else (h02_Validate.l1 k x45 x46 (wrap64 (x47+1)) x207000 x207001 x207002)))) else (none)) else (none)) else (if x47 > x207000 then (if 0≤(wrap64 ((wrap64 (x47 - x207000)) - 1)) then (if (wrap64 ((wrap64 (x47 - x207000)) - 1))<(x207002.length:Int) then ((h02_Apart.f (rd x45 x47) (rd x207002 (wrap64 ((wrap64 (x47 - x207000)) - 1)))).bind fun t216=>(if t216 > 1 then (some 5) else (h02_Validate.l1 k x45 x46 (wrap64 (x47+1)) x207000 x207001 x207002))) else (none)) else (none)) else (h02_Validate.l1 k x45 x46 (wrap64 (x47+1)) x207000 x207001 x207002)))) else (none)) else (none)) else (some 0)
end
def h02_Validate.f (k:Nat) (a0_0:Int) (a0_1:Int) (l0_2:List Int):Option (Int):=(h02_side.f a0_0).bind fun t207=>(if t207=true then ((h02_side.f a0_1).bind fun t208=>(if t208=true then (h02_Validate.j0 k ((l0_2.length:Int) != (wrap64 ((wrap64 (a0_0+1)) * (wrap64 (a0_1+1))))) a0_0 a0_1 l0_2) else (h02_Validate.j0 k true a0_0 a0_1 l0_2))) else (h02_Validate.j0 k true a0_0 a0_1 l0_2))
theorem h02_Validate.mono_l:∀ k,(∀ y0 y1 y2 y3,LeO (h02_Validate.j0 k y0 y1 y2 y3) (h02_Validate.j0 (k+1) y0 y1 y2 y3))∧(∀ y0 y1 y2 y3 y4 y5,LeO (h02_Validate.l0 k y0 y1 y2 y3 y4 y5) (h02_Validate.l0 (k+1) y0 y1 y2 y3 y4 y5))∧(∀ y0 y1 y2 y3 y4 y5,LeO (h02_Validate.l1 k y0 y1 y2 y3 y4 y5) (h02_Validate.l1 (k+1) y0 y1 y2 y3 y4 y5))
 | 0=>⟨fun _ _ _ _ r h=>by simp [h02_Validate.j0] at h,fun _ _ _ _ _ _ r h=>by simp [h02_Validate.l0] at h,fun _ _ _ _ _ _ r h=>by simp [h02_Validate.l1] at h⟩
 | k+1=>by
  obtain ⟨ih0,ih1,ih2⟩:=h02_Validate.mono_l k;refine ⟨?_,?_,?_⟩
  ·intro y0 y1 y2 y3;unfold h02_Validate.j0;repeat' with_reducible first|exact ih0 _ _ _ _|exact ih1 _ _ _ _ _ _|exact ih2 _ _ _ _ _ _|apply lr_|apply ln_|apply li_|refine lb_ ?_ fun _=>?_
  ·intro y0 y1 y2 y3 y4 y5;unfold h02_Validate.l0;repeat' with_reducible first|exact ih0 _ _ _ _|exact ih1 _ _ _ _ _ _|exact ih2 _ _ _ _ _ _|apply lr_|apply ln_|apply li_|refine lb_ ?_ fun _=>?_
  ·intro y0 y1 y2 y3 y4 y5;unfold h02_Validate.l1;repeat' with_reducible first|exact ih0 _ _ _ _|exact ih1 _ _ _ _ _ _|exact ih2 _ _ _ _ _ _|apply lr_|apply ln_|apply li_|refine lb_ ?_ fun _=>?_
theorem h02_Validate.mono:∀ a0 a1 a2 k,LeO (h02_Validate.f k a0 a1 a2) (h02_Validate.f (k+1) a0 a1 a2):=by
 intro a0 a1 a2 k;obtain ⟨ih0,ih1,ih2⟩:=h02_Validate.mono_l k;unfold h02_Validate.f;repeat' with_reducible first|exact ih0 _ _ _ _|exact ih1 _ _ _ _ _ _|exact ih2 _ _ _ _ _ _|apply lr_|apply ln_|apply li_|refine lb_ ?_ fun _=>?_
theorem h02_Validate.calls (k:Nat) (a0_0:Int) (a0_1:Int) (A0_2:Option Addr) (c0_2:Nat) (l0_2:List Int) (r:Int) (w:World) (hr0_2:Kd.C (Kd.int .i64) w A0_2 l0_2.length l0_2) (hc0_2:l0_2.length≤c0_2) (h:h02_Validate.f k a0_0 a0_1 l0_2=some r) :
  Calls Try.prog 80 #[.agg #[.int .i64 a0_0,.int .i64 a0_1,.slice A0_2 l0_2.length c0_2]] w fun e w'=>e=.returned (.int .i64 r)∧Below w.heap.size w w':=by
 have hu58:=Try.underlying58;have HR0_2:=am_ hr0_2;have HC0_2:=am_ hc0_2;clear hr0_2 hc0_2;have HB:=am_ (Below.refl w.heap.size w);have H:=h;clear h;unfold h02_Validate.f at H;have HC2:=am_ H;clear H;go_enter Try.func80,Try.ntmps80;go_upto_region 1 with (first|((with_reducible refine gate_dst (N:=1) rfl ?_);(try (refine gate_guard (by rfl) ?_;dsimp only));refine box_ev (N:=1) (cs:=#[.int .i64 a0_0,.int .i64 a0_1,.slice A0_2 l0_2.length c0_2]) (t:=58) ?_;intro gb206 hg w3 hbox hb;have BK206:=am_ hbox;have GW206:=gsz (w:=w) hg;have GE206:=GW206;replace HB:=hbs hb;clear hb hbox hg))
 (try simp only [Act.put,sl_]);go_cut [29] (fun v29 wc=>∃ (kq:Nat) (x29_1:Bool),v29=.bool x29_1∧Aside0 (h02_Validate.j0 kq x29_1 a0_0 a0_1 l0_2=some r)∧Aside0 (kq≤k)∧Aside0 (wc.heap[gb206]?=some (.cells #[.int .i64 a0_0,.int .i64 a0_1,(.slice A0_2 l0_2.length c0_2)] 58 (0,0)))∧Aside0 (Below w.heap.size w wc))
 case first =>
  have H:=HC2.out;clear HC2;obtain ⟨t207,A4,H⟩:=bnd H;by_cases c5:t207=true
  ·subst c5;rw [if_pos rfl] at H;obtain ⟨t208,A6,H⟩:=bnd H;by_cases c7:t208=true
   ·subst c7;rw [if_pos rfl] at H;have H':=am_ H;clear H;obtain ⟨_,_,_,_,_,_⟩:=cells3 BK206.out;go_wp2_with (first|((with_reducible refine gate_callee (f:=94) rfl ?_);refine goesL_ (some 9) rfl rfl Try.func94 (by kernel_rfl) rfl #[.int .i64 a0_0] rfl ga_ ?_;(with_reducible refine (h02_side.calls a0_0 true _ A4.out).mono ?_);rintro e w' ⟨rfl,⟨nd,rfl⟩⟩;refine ⟨_,rfl,?_⟩)|(go_at_call 94;(with_reducible refine (h02_side.calls a0_1 true _ A6.out).mono ?_);rintro e w' ⟨rfl,⟨nd,rfl⟩⟩))
    go_meet
    case rel=>exact ⟨_,(((l0_2.length:Int) != (wrap64 ((wrap64 (a0_0+1)) * (wrap64 (a0_1+1)))))),fr_,H',⟨by first|omega|exact Nat.le_refl _⟩,⟨blk_up BK206.out⟩,⟨hb_⟩⟩
   ·replace c7:=Bool.eq_false_iff.mpr c7;subst c7;rw [if_neg (show ¬ (false=true) by decide)] at H;have H':=am_ H;clear H;obtain ⟨_,_,_,_,_,_⟩:=cells3 BK206.out;go_wp2_with (first|((with_reducible refine gate_callee (f:=94) rfl ?_);refine goesL_ (some 9) rfl rfl Try.func94 (by kernel_rfl) rfl #[.int .i64 a0_0] rfl ga_ ?_;(with_reducible refine (h02_side.calls a0_0 true _ A4.out).mono ?_);rintro e w' ⟨rfl,⟨nd,rfl⟩⟩;refine ⟨_,rfl,?_⟩)|(go_at_call 94;(with_reducible refine (h02_side.calls a0_1 false _ A6.out).mono ?_);rintro e w' ⟨rfl,⟨nd,rfl⟩⟩))
    go_meet
    case rel=>exact ⟨_,(true),fr_,H',⟨by first|omega|exact Nat.le_refl _⟩,⟨blk_up BK206.out⟩,⟨hb_⟩⟩
  ·replace c5:=Bool.eq_false_iff.mpr c5;subst c5;rw [if_neg (show ¬ (false=true) by decide)] at H;have H':=am_ H;clear H;obtain ⟨_,_,_,_,_,_⟩:=cells3 BK206.out;go_wp2_with (first|((with_reducible refine gate_callee (f:=94) rfl ?_);refine goesL_ (some 9) rfl rfl Try.func94 (by kernel_rfl) rfl #[.int .i64 a0_0] rfl ga_ ?_;(with_reducible refine (h02_side.calls a0_0 false _ A4.out).mono ?_);rintro e w' ⟨rfl,⟨nd,rfl⟩⟩;refine ⟨_,rfl,?_⟩))
   go_meet
   case rel=>exact ⟨_,(true),fr_,H',⟨by first|omega|exact Nat.le_refl _⟩,⟨blk_up BK206.out⟩,⟨hb_⟩⟩
 case rest =>
  clear HC2;obtain ⟨kq,x29_1,rfl,HA,HJ1,BK206,HB⟩:=hcut;cases kq with
  | zero=>exact absurd HA.out (by simp [h02_Validate.j0])
  | succ kj1 =>
   have H:=HA.out;clear HA;simp only [h02_Validate.j0] at H;by_cases c11:x29_1=true
   ·subst c11;rw [if_pos rfl] at H;obtain rfl:=oj_ H;go_wp2
    go_ret
    exact ⟨er_,hb_⟩
   ·replace c11:=Bool.eq_false_iff.mpr c11;subst c11;rw [if_neg (show ¬ (false=true) by decide)] at H;have H':=am_ H;clear H;obtain ⟨_,_,_,_,_,_⟩:=cells3 BK206.out;go_wp2
    go_loopg [33] kj1 (fun kq v33 w'=>∃ (x33_2:Int),v33=.int .i64 x33_2∧Aside0 (h02_Validate.l0 kq l0_2 (l0_2.length:Int) x33_2 a0_0 a0_1 l0_2=some r)∧Aside0 (kq≤kj1)∧Aside0 (w'.heap[gb206]?=some (.cells #[.int .i64 a0_0,.int .i64 a0_1,(.slice A0_2 l0_2.length c0_2)] 58 (0,0)))∧Aside0 (Below w.heap.size w w'))
    case atStart=>exact ⟨(0),fr_,H',⟨Nat.le_refl _⟩,⟨blk_up BK206.out⟩,⟨hb_⟩⟩
    case round =>
     clear H';obtain ⟨x33_2,rfl,HA,HK2,BK206,HB⟩:=hrel;cases gk with
     | zero=>exact absurd HA.out (by simp [h02_Validate.l0])
     | succ k2 =>
      have H:=HA.out;clear HA;simp only [h02_Validate.l0] at H;by_cases c13:x33_2<(l0_2.length:Int)
      ·rw [if_pos c13] at H;have c13b0:=dt_ c13;clear c13;obtain ⟨c14,H⟩:=ifp_ H;have c14b0:=dt_ c14;clear c14;obtain ⟨c15,H⟩:=ifp_ H;have c15b0:=dt_ c15;clear c15;by_cases c16:(rd l0_2 x33_2)<0
       ·rw [if_pos c16] at H;have c16b0:=dt_ c16;clear c16;obtain rfl:=oj_ H;have p209:0≤(x33_2:Int):=ofd;have q209:x33_2<(l0_2.length:Int):=ofd;obtain ⟨ad209,e209,hx209_0⟩:=Kd.at_int HR0_2.out x33_2 p209 q209;cases e209;replace hx209_0:=hbc HB hx209_0;replace p209:=eq_true p209;replace q209:=eq_true q209;go_wp2
        go_ret
        exact ⟨er_,hb_⟩
       rw [if_neg c16] at H;have c16b0:=df_ c16;clear c16;by_cases c17:(rd l0_2 x33_2) > 15
       ·rw [if_pos c17] at H;have c17b0:=dt_ c17;clear c17;obtain rfl:=oj_ H;have p209:0≤(x33_2:Int):=ofd;have q209:x33_2<(l0_2.length:Int):=ofd;obtain ⟨ad209,e209,hx209_0⟩:=Kd.at_int HR0_2.out x33_2 p209 q209;cases e209;replace hx209_0:=hbc HB hx209_0;replace p209:=eq_true p209;replace q209:=eq_true q209;go_wp2
        go_ret
        exact ⟨er_,hb_⟩
       ·rw [if_neg c17] at H;have c17b0:=df_ c17;clear c17;have H':=am_ H;clear H;have p209:0≤(x33_2:Int):=ofd;have q209:x33_2<(l0_2.length:Int):=ofd;obtain ⟨ad209,e209,hx209_0⟩:=Kd.at_int HR0_2.out x33_2 p209 q209;cases e209;replace hx209_0:=hbc HB hx209_0;replace p209:=eq_true p209;replace q209:=eq_true q209;go_wp2
        go_roundg k2
        case measure=>have:=HJ1.out;have:=HK2.out;omega
        case rel=>exact ⟨(wrap64 (x33_2+1)),fr_,H',⟨by have:=HJ1.out;have:=HK2.out;omega⟩,⟨blk_up BK206.out⟩,⟨hb_⟩⟩
      rw [if_neg c13] at H;have c13b0:=df_ c13;clear c13;have H':=am_ H;clear H;obtain ⟨_,_,_,_,_,_⟩:=cells3 BK206.out;go_wp2
      go_loopg [47] k2 (fun kq v47 w'=>∃ (x47_3:Int),v47=.int .i64 x47_3∧Aside0 (h02_Validate.l1 kq l0_2 (l0_2.length:Int) x47_3 a0_0 a0_1 l0_2=some r)∧Aside0 (kq≤k2)∧Aside0 (w'.heap[gb206]?=some (.cells #[.int .i64 a0_0,.int .i64 a0_1,(.slice A0_2 l0_2.length c0_2)] 58 (0,0)))∧Aside0 (Below w.heap.size w w'))
      case atStart=>exact ⟨(0),fr_,H',⟨Nat.le_refl _⟩,⟨blk_up BK206.out⟩,⟨hb_⟩⟩
      case round =>
       clear H';obtain ⟨x47_3,rfl,HA,HK3,BK206,HB⟩:=hrel;cases gk with
       | zero=>exact absurd HA.out (by simp [h02_Validate.l1])
       | succ k3 =>
        have H:=HA.out;clear HA;simp only [h02_Validate.l1] at H;by_cases c19:x47_3<(l0_2.length:Int);rotate_left
        ·rw [if_neg c19] at H;have c19b0:=df_ c19;clear c19;obtain rfl:=oj_ H;go_wp2
         go_ret
         exact ⟨er_,hb_⟩
        rw [if_pos c19] at H;have c19b0:=dt_ c19;clear c19;obtain ⟨c20,H⟩:=ifp_ H;have c20b0:=dt_ c20;clear c20;obtain ⟨c21,H⟩:=ifp_ H;have c21b0:=dt_ c21;clear c21;replace H:=ifn_ H;obtain ⟨c22,H⟩:=H;have c22b0:((wrap64 (a0_0+1)) == 0)=false:=beq_eq_false_iff_ne.mpr c22;have c22b1:((wrap64 (a0_0+1)) != 0)=true:=bne_iff_ne.mpr c22;by_cases c23:(Int.tmod x47_3 (wrap64 (a0_0+1))) > 0;rotate_left
        ·rw [if_neg c23] at H;have c23b0:=df_ c23;clear c23;by_cases c39:x47_3 > a0_0;rotate_left
         ·rw [if_neg c39] at H;have c39b0:=df_ c39;clear c39;have H':=am_ H;clear H;have p210:0≤(x47_3:Int):=ofd;have q210:x47_3<(l0_2.length:Int):=ofd;obtain ⟨ad210,e210,hx210_0⟩:=Kd.at_int HR0_2.out x47_3 p210 q210;cases e210;replace hx210_0:=hbc HB hx210_0;replace p210:=eq_true p210;replace q210:=eq_true q210;obtain ⟨_,_,_,_,_,_⟩:=cells3 BK206.out;go_wp2
          go_roundg k3
          case measure=>have:=HJ1.out;have:=HK2.out;have:=HK3.out;omega
          case rel=>exact ⟨(wrap64 (x47_3+1)),fr_,H',⟨by have:=HJ1.out;have:=HK2.out;have:=HK3.out;omega⟩,⟨blk_up BK206.out⟩,⟨hb_⟩⟩
         rw [if_pos c39] at H;have c39b0:=dt_ c39;clear c39;obtain ⟨ji40,hji40⟩:∃ j_:Int,(wrap64 ((wrap64 (x47_3 - a0_0)) - 1))=j_:=⟨_,rfl⟩;(first|rw [hji40] at H|simp only [hji40] at H);have hji40w:(IntKind.i64.wrap ((wrap64 (x47_3 - a0_0)) - 1))=ji40:=(i64_w _).trans hji40;obtain ⟨c41,H⟩:=ifp_ H;have c41b0:=dt_ c41;clear c41;obtain ⟨c42,H⟩:=ifp_ H;have c42b0:=dt_ c42;clear c42;obtain ⟨t216,A43,H⟩:=bnd H;by_cases c44:t216 > 1
         ·rw [if_pos c44] at H;have c44b0:=dt_ c44;clear c44;obtain rfl:=oj_ H;have p210:0≤(x47_3:Int):=ofd;have q210:x47_3<(l0_2.length:Int):=ofd;obtain ⟨ad210,e210,hx210_0⟩:=Kd.at_int HR0_2.out x47_3 p210 q210;cases e210;replace hx210_0:=hbc HB hx210_0;replace p210:=eq_true p210;replace q210:=eq_true q210;obtain ⟨_,_,_,_,_,_⟩:=cells3 BK206.out;have p215:0≤((ji40):Int):=ofd;have q215:(ji40)<(l0_2.length:Int):=ofd;obtain ⟨ad215,e215,hx215_0⟩:=Kd.at_int HR0_2.out (ji40) p215 q215;obtain rfl:ad210=ad215:=(by injection e215);replace hx215_0:=hbc HB hx215_0;replace p215:=eq_true p215;replace q215:=eq_true q215;go_wp2_with (first|(go_at_call 95;(with_reducible refine (h02_Apart.calls (rd l0_2 x47_3) (rd l0_2 (ji40)) t216 _ A43.out).mono ?_);rintro e w' ⟨rfl,⟨nd,rfl⟩⟩))
          go_ret
          exact ⟨by first|rfl|(simp [errW_none,errW_some] <;> rfl)|(simp only [← hji40];first|rfl|(simp [errW_none,errW_some] <;> rfl))|(simp [*,errW_none,errW_some] <;> rfl),hb_⟩
         ·rw [if_neg c44] at H;have c44b0:=df_ c44;clear c44;have H':=am_ H;clear H;have p210:0≤(x47_3:Int):=ofd;have q210:x47_3<(l0_2.length:Int):=ofd;obtain ⟨ad210,e210,hx210_0⟩:=Kd.at_int HR0_2.out x47_3 p210 q210;cases e210;replace hx210_0:=hbc HB hx210_0;replace p210:=eq_true p210;replace q210:=eq_true q210;obtain ⟨_,_,_,_,_,_⟩:=cells3 BK206.out;have p215:0≤((ji40):Int):=ofd;have q215:(ji40)<(l0_2.length:Int):=ofd;obtain ⟨ad215,e215,hx215_0⟩:=Kd.at_int HR0_2.out (ji40) p215 q215;obtain rfl:ad210=ad215:=(by injection e215);replace hx215_0:=hbc HB hx215_0;replace p215:=eq_true p215;replace q215:=eq_true q215;go_wp2_with (first|(go_at_call 95;(with_reducible refine (h02_Apart.calls (rd l0_2 x47_3) (rd l0_2 (ji40)) t216 _ A43.out).mono ?_);rintro e w' ⟨rfl,⟨nd,rfl⟩⟩))
          go_roundg k3
          case measure=>have:=HJ1.out;have:=HK2.out;have:=HK3.out;omega
          case rel=>exact ⟨(wrap64 (x47_3+1)),fr_,H',⟨by have:=HJ1.out;have:=HK2.out;have:=HK3.out;omega⟩,⟨blk_up BK206.out⟩,⟨hb_⟩⟩
        rw [if_pos c23] at H;have c23b0:=dt_ c23;clear c23;obtain ⟨ji24,hji24⟩:∃ j_:Int,(wrap64 (x47_3 - 1))=j_:=⟨_,rfl⟩;(first|rw [hji24] at H|simp only [hji24] at H);have hji24w:(IntKind.i64.wrap (x47_3 - 1))=ji24:=(i64_w _).trans hji24;obtain ⟨c25,H⟩:=ifp_ H;have c25b0:=dt_ c25;clear c25;obtain ⟨c26,H⟩:=ifp_ H;have c26b0:=dt_ c26;clear c26;obtain ⟨t212,A27,H⟩:=bnd H;by_cases c28:t212 > 1
        ·rw [if_pos c28] at H;have c28b0:=dt_ c28;clear c28;obtain rfl:=oj_ H;have p210:0≤(x47_3:Int):=ofd;have q210:x47_3<(l0_2.length:Int):=ofd;obtain ⟨ad210,e210,hx210_0⟩:=Kd.at_int HR0_2.out x47_3 p210 q210;cases e210;replace hx210_0:=hbc HB hx210_0;replace p210:=eq_true p210;replace q210:=eq_true q210;obtain ⟨_,_,_,_,_,_⟩:=cells3 BK206.out;have p211:0≤((ji24):Int):=ofd;have q211:(ji24)<(l0_2.length:Int):=ofd;obtain ⟨ad211,e211,hx211_0⟩:=Kd.at_int HR0_2.out (ji24) p211 q211;obtain rfl:ad210=ad211:=(by injection e211);replace hx211_0:=hbc HB hx211_0;replace p211:=eq_true p211;replace q211:=eq_true q211;go_wp2_with (first|(go_at_call 95;(with_reducible refine (h02_Apart.calls (rd l0_2 x47_3) (rd l0_2 (ji24)) t212 _ A27.out).mono ?_);rintro e w' ⟨rfl,⟨nd,rfl⟩⟩))
         go_ret
         exact ⟨by first|rfl|(simp [errW_none,errW_some] <;> rfl)|(simp only [← hji24];first|rfl|(simp [errW_none,errW_some] <;> rfl))|(simp [*,errW_none,errW_some] <;> rfl),hb_⟩
        rw [if_neg c28] at H;have c28b0:=df_ c28;clear c28;by_cases c30:x47_3 > a0_0;rotate_left
        ·rw [if_neg c30] at H;have c30b0:=df_ c30;clear c30;have H':=am_ H;clear H;have p210:0≤(x47_3:Int):=ofd;have q210:x47_3<(l0_2.length:Int):=ofd;obtain ⟨ad210,e210,hx210_0⟩:=Kd.at_int HR0_2.out x47_3 p210 q210;cases e210;replace hx210_0:=hbc HB hx210_0;replace p210:=eq_true p210;replace q210:=eq_true q210;obtain ⟨_,_,_,_,_,_⟩:=cells3 BK206.out;have p211:0≤((ji24):Int):=ofd;have q211:(ji24)<(l0_2.length:Int):=ofd;obtain ⟨ad211,e211,hx211_0⟩:=Kd.at_int HR0_2.out (ji24) p211 q211;obtain rfl:ad210=ad211:=(by injection e211);replace hx211_0:=hbc HB hx211_0;replace p211:=eq_true p211;replace q211:=eq_true q211;go_wp2_with (first|(go_at_call 95;(with_reducible refine (h02_Apart.calls (rd l0_2 x47_3) (rd l0_2 (ji24)) t212 _ A27.out).mono ?_);rintro e w' ⟨rfl,⟨nd,rfl⟩⟩))
         go_roundg k3
         case measure=>have:=HJ1.out;have:=HK2.out;have:=HK3.out;omega
         case rel=>exact ⟨(wrap64 (x47_3+1)),fr_,H',⟨by have:=HJ1.out;have:=HK2.out;have:=HK3.out;omega⟩,⟨blk_up BK206.out⟩,⟨hb_⟩⟩
        rw [if_pos c30] at H;have c30b0:=dt_ c30;clear c30;obtain ⟨ji31,hji31⟩:∃ j_:Int,(wrap64 ((wrap64 (x47_3 - a0_0)) - 1))=j_:=⟨_,rfl⟩;(first|rw [hji31] at H|simp only [hji31] at H);(try rw [hji31] at A27);have hji31w:(IntKind.i64.wrap ((wrap64 (x47_3 - a0_0)) - 1))=ji31:=(i64_w _).trans hji31;obtain ⟨c32,H⟩:=ifp_ H;have c32b0:=dt_ c32;clear c32;obtain ⟨c33,H⟩:=ifp_ H;have c33b0:=dt_ c33;clear c33;obtain ⟨t214,A34,H⟩:=bnd H;by_cases c35:t214 > 1
        ·rw [if_pos c35] at H;have c35b0:=dt_ c35;clear c35;obtain rfl:=oj_ H;have p210:0≤(x47_3:Int):=ofd;have q210:x47_3<(l0_2.length:Int):=ofd;obtain ⟨ad210,e210,hx210_0⟩:=Kd.at_int HR0_2.out x47_3 p210 q210;cases e210;replace hx210_0:=hbc HB hx210_0;replace p210:=eq_true p210;replace q210:=eq_true q210;obtain ⟨_,_,_,_,_,_⟩:=cells3 BK206.out;have p211:0≤((ji24):Int):=ofd;have q211:(ji24)<(l0_2.length:Int):=ofd;obtain ⟨ad211,e211,hx211_0⟩:=Kd.at_int HR0_2.out (ji24) p211 q211;obtain rfl:ad210=ad211:=(by injection e211);replace hx211_0:=hbc HB hx211_0;replace p211:=eq_true p211;replace q211:=eq_true q211;go_wp2_with (first|(go_at_call 95;(with_reducible refine (h02_Apart.calls (rd l0_2 x47_3) (rd l0_2 (ji24)) t212 _ A27.out).mono ?_);rintro e w' ⟨rfl,⟨nd,rfl⟩⟩;have p213:0≤((ji31):Int):=ofd;have q213:(ji31)<(l0_2.length:Int):=ofd;obtain ⟨ad213,e213,hx213_0⟩:=Kd.at_int HR0_2.out (ji31) p213 q213;obtain rfl:ad210=ad213:=(by injection e213);replace hx213_0:=hbc HB hx213_0;replace p213:=eq_true p213;replace q213:=eq_true q213)|(go_at_call 95;(with_reducible refine (h02_Apart.calls (rd l0_2 x47_3) (rd l0_2 (ji31)) t214 _ A34.out).mono ?_);rintro e w' ⟨rfl,⟨nd,rfl⟩⟩))
         go_ret
         exact ⟨by first|rfl|(simp [errW_none,errW_some] <;> rfl)|(simp only [← hji24,← hji31];first|rfl|(simp [errW_none,errW_some] <;> rfl))|(simp [*,errW_none,errW_some] <;> rfl),hb_⟩
        ·rw [if_neg c35] at H;have c35b0:=df_ c35;clear c35;have H':=am_ H;clear H;have p210:0≤(x47_3:Int):=ofd;have q210:x47_3<(l0_2.length:Int):=ofd;obtain ⟨ad210,e210,hx210_0⟩:=Kd.at_int HR0_2.out x47_3 p210 q210;cases e210;replace hx210_0:=hbc HB hx210_0;replace p210:=eq_true p210;replace q210:=eq_true q210;obtain ⟨_,_,_,_,_,_⟩:=cells3 BK206.out;have p211:0≤((ji24):Int):=ofd;have q211:(ji24)<(l0_2.length:Int):=ofd;obtain ⟨ad211,e211,hx211_0⟩:=Kd.at_int HR0_2.out (ji24) p211 q211;obtain rfl:ad210=ad211:=(by injection e211);replace hx211_0:=hbc HB hx211_0;replace p211:=eq_true p211;replace q211:=eq_true q211;go_wp2_with (first|(go_at_call 95;(with_reducible refine (h02_Apart.calls (rd l0_2 x47_3) (rd l0_2 (ji24)) t212 _ A27.out).mono ?_);rintro e w' ⟨rfl,⟨nd,rfl⟩⟩;have p213:0≤((ji31):Int):=ofd;have q213:(ji31)<(l0_2.length:Int):=ofd;obtain ⟨ad213,e213,hx213_0⟩:=Kd.at_int HR0_2.out (ji31) p213 q213;obtain rfl:ad210=ad213:=(by injection e213);replace hx213_0:=hbc HB hx213_0;replace p213:=eq_true p213;replace q213:=eq_true q213)|(go_at_call 95;(with_reducible refine (h02_Apart.calls (rd l0_2 x47_3) (rd l0_2 (ji31)) t214 _ A34.out).mono ?_);rintro e w' ⟨rfl,⟨nd,rfl⟩⟩))
         go_roundg k3
         case measure=>have:=HJ1.out;have:=HK2.out;have:=HK3.out;omega
         case rel=>exact ⟨(wrap64 (x47_3+1)),fr_,H',⟨by have:=HJ1.out;have:=HK2.out;have:=HK3.out;omega⟩,⟨blk_up BK206.out⟩,⟨hb_⟩⟩

/-! ### h04_side: function 96 -/
def h04_side.f (a0:Int):Option (Bool):=if a0≥4 then (some (decide (a0≤32))) else (some false)
theorem h04_side.calls (a0:Int) (r:Bool) (w:World) (h:h04_side.f a0=some r) :
  Calls Try.prog 96 #[.int .i64 a0] w fun e w'=>e=.returned (.bool r)∧Drawn0 w w':=by
 have H:=h;clear h;unfold h04_side.f at H;by_cases c2:a0≥4
 ·rw [if_pos c2] at H;have c2b0:=dt_ c2;clear c2;obtain rfl:=oj_ H;go_enter Try.func96,Try.ntmps96;go_wp2
  go_ret
  exact ⟨fr_,dr_⟩
 ·rw [if_neg c2] at H;have c2b0:=df_ c2;clear c2;obtain rfl:=oj_ H;go_enter Try.func96,Try.ntmps96;go_wp2
  go_ret
  exact ⟨fr_,dr_⟩

/-! ### h04_straight: function 97 -/
def h04_straight.f (a0:Int):Option (Bool):=if a0=5 then (some true) else (some (a0 == 10))
theorem h04_straight.calls (a0:Int) (r:Bool) (w:World) (h:h04_straight.f a0=some r) :
  Calls Try.prog 97 #[.int .i64 a0] w fun e w'=>e=.returned (.bool r)∧Drawn0 w w':=by
 have H:=h;clear h;unfold h04_straight.f at H;by_cases c2:a0=5
 ·rw [if_pos c2] at H;have c2b0:=bqt c2;have c2b1:=bnf c2;clear c2;obtain rfl:=oj_ H;go_enter Try.func97,Try.ntmps97;go_wp2
  go_ret
  exact ⟨fr_,dr_⟩
 ·rw [if_neg c2] at H;have c2b0:=bqf c2;have c2b1:=bnt c2;obtain rfl:=oj_ H;go_enter Try.func97,Try.ntmps97;go_wp2
  go_ret
  exact ⟨fr_,dr_⟩

/-! ### h04_Validate: function 81 -/
mutual
def h04_Validate.j0:Nat→Bool→Int→Int→List Int→List Int→Option (Int)
 | 0,_,_,_,_,_=>none
 | k+1,x40,x218000,x218001,x218002,x218003=>if x40=true then (some 1) else (h04_Validate.l0 k x218002 (x218002.length:Int) 0 x218000 x218001 x218002 x218003)
def h04_Validate.l0:Nat→List Int→Int→Int→Int→Int→List Int→List Int→Option (Int)
 | 0,_,_,_,_,_,_,_=>none
 | k+1,x42,x43,x44,x218000,x218001,x218002,x218003=>if x44<x43 then (if 0≤x44 then (if x44<(x42.length:Int) then (if (rd x42 x44)<0 then (some 1) else (if (rd x42 x44) > 15 then (some 1) else (h04_Validate.l0 k x42 x43 (wrap64 (x44+1)) x218000 x218001 x218002 x218003))) else (none)) else (none)) else (h04_Validate.l1 k x218003 (x218003.length:Int) 0 x218000 x218001 x218002 x218003)
def h04_Validate.l1:Nat→List Int→Int→Int→Int→Int→List Int→List Int→Option (Int)
 | 0,_,_,_,_,_,_,_=>none
 | k+1,x56,x57,x58,x218000,x218001,x218002,x218003=>if x58<x57 then (if 0≤x58 then (if x58<(x56.length:Int) then (if (rd x56 x58)<0 then (some 1) else (if (rd x56 x58) > 2 then (some 1) else (h04_Validate.l1 k x56 x57 (wrap64 (x58+1)) x218000 x218001 x218002 x218003))) else (none)) else (none)) else (h04_Validate.l2 k x218003 (x218003.length:Int) 0 x218000 x218001 x218002 x218003)
def h04_Validate.l2:Nat→List Int→Int→Int→Int→Int→List Int→List Int→Option (Int)
 | 0,_,_,_,_,_,_,_=>none
 | k+1,x70,x71,x72,x218000,x218001,x218002,x218003=>if x72<x71 then (if 0≤x72 then (if x72<(x70.length:Int) then (if (rd x70 x72)=0 then (h04_Validate.l2 k x70 x71 (wrap64 (x72+1)) x218000 x218001 x218002 x218003) else (if x72<(x218002.length:Int) then ((h04_straight.f (rd x218002 x72)).bind fun t224=>(if t224=true then (h04_Validate.l2 k x70 x71 (wrap64 (x72+1)) x218000 x218001 x218002 x218003) else (some 9))) else (none))) else (none)) else (none)) else (some 0)
end
def h04_Validate.f (k:Nat) (a0_0:Int) (a0_1:Int) (l0_2:List Int) (l0_3:List Int):Option (Int):=(h04_side.f a0_0).bind fun t218=>(if t218=true then ((h04_side.f a0_1).bind fun t219=>(if t219=true then (if (l0_2.length:Int)=(wrap64 (a0_0 * a0_1)) then (h04_Validate.j0 k ((l0_3.length:Int) != (wrap64 (a0_0 * a0_1))) a0_0 a0_1 l0_2 l0_3) else (h04_Validate.j0 k true a0_0 a0_1 l0_2 l0_3)) else (h04_Validate.j0 k true a0_0 a0_1 l0_2 l0_3))) else (h04_Validate.j0 k true a0_0 a0_1 l0_2 l0_3))
theorem h04_Validate.mono_l:∀ k,(∀ y0 y1 y2 y3 y4,LeO (h04_Validate.j0 k y0 y1 y2 y3 y4) (h04_Validate.j0 (k+1) y0 y1 y2 y3 y4))∧(∀ y0 y1 y2 y3 y4 y5 y6,LeO (h04_Validate.l0 k y0 y1 y2 y3 y4 y5 y6) (h04_Validate.l0 (k+1) y0 y1 y2 y3 y4 y5 y6))∧(∀ y0 y1 y2 y3 y4 y5 y6,LeO (h04_Validate.l1 k y0 y1 y2 y3 y4 y5 y6) (h04_Validate.l1 (k+1) y0 y1 y2 y3 y4 y5 y6))∧(∀ y0 y1 y2 y3 y4 y5 y6,LeO (h04_Validate.l2 k y0 y1 y2 y3 y4 y5 y6) (h04_Validate.l2 (k+1) y0 y1 y2 y3 y4 y5 y6))
 | 0=>⟨fun _ _ _ _ _ r h=>by simp [h04_Validate.j0] at h,fun _ _ _ _ _ _ _ r h=>by simp [h04_Validate.l0] at h,fun _ _ _ _ _ _ _ r h=>by simp [h04_Validate.l1] at h,fun _ _ _ _ _ _ _ r h=>by simp [h04_Validate.l2] at h⟩
 | k+1=>by
  obtain ⟨ih0,ih1,ih2,ih3⟩:=h04_Validate.mono_l k;refine ⟨?_,?_,?_,?_⟩
  ·intro y0 y1 y2 y3 y4;unfold h04_Validate.j0;repeat' with_reducible first|exact ih0 _ _ _ _ _|exact ih1 _ _ _ _ _ _ _|exact ih2 _ _ _ _ _ _ _|exact ih3 _ _ _ _ _ _ _|apply lr_|apply ln_|apply li_|refine lb_ ?_ fun _=>?_
  ·intro y0 y1 y2 y3 y4 y5 y6;unfold h04_Validate.l0;repeat' with_reducible first|exact ih0 _ _ _ _ _|exact ih1 _ _ _ _ _ _ _|exact ih2 _ _ _ _ _ _ _|exact ih3 _ _ _ _ _ _ _|apply lr_|apply ln_|apply li_|refine lb_ ?_ fun _=>?_
  ·intro y0 y1 y2 y3 y4 y5 y6;unfold h04_Validate.l1;repeat' with_reducible first|exact ih0 _ _ _ _ _|exact ih1 _ _ _ _ _ _ _|exact ih2 _ _ _ _ _ _ _|exact ih3 _ _ _ _ _ _ _|apply lr_|apply ln_|apply li_|refine lb_ ?_ fun _=>?_
  ·intro y0 y1 y2 y3 y4 y5 y6;unfold h04_Validate.l2;repeat' with_reducible first|exact ih0 _ _ _ _ _|exact ih1 _ _ _ _ _ _ _|exact ih2 _ _ _ _ _ _ _|exact ih3 _ _ _ _ _ _ _|apply lr_|apply ln_|apply li_|refine lb_ ?_ fun _=>?_
theorem h04_Validate.mono:∀ a0 a1 a2 a3 k,LeO (h04_Validate.f k a0 a1 a2 a3) (h04_Validate.f (k+1) a0 a1 a2 a3):=by
 intro a0 a1 a2 a3 k;obtain ⟨ih0,ih1,ih2,ih3⟩:=h04_Validate.mono_l k;unfold h04_Validate.f;repeat' with_reducible first|exact ih0 _ _ _ _ _|exact ih1 _ _ _ _ _ _ _|exact ih2 _ _ _ _ _ _ _|exact ih3 _ _ _ _ _ _ _|apply lr_|apply ln_|apply li_|refine lb_ ?_ fun _=>?_
theorem h04_Validate.calls (k:Nat) (a0_0:Int) (a0_1:Int) (A0_2:Option Addr) (c0_2:Nat) (l0_2:List Int) (A0_3:Option Addr) (c0_3:Nat) (l0_3:List Int) (r:Int) (w:World) (hr0_2:Kd.C (Kd.int .i64) w A0_2 l0_2.length l0_2) (hc0_2:l0_2.length≤c0_2) (hr0_3:Kd.C (Kd.int .i64) w A0_3 l0_3.length l0_3) (hc0_3:l0_3.length≤c0_3) (h:h04_Validate.f k a0_0 a0_1 l0_2 l0_3=some r) :
  Calls Try.prog 81 #[.agg #[.int .i64 a0_0,.int .i64 a0_1,.slice A0_2 l0_2.length c0_2,.slice A0_3 l0_3.length c0_3]] w fun e w'=>e=.returned (.int .i64 r)∧Below w.heap.size w w':=by
 have hu60:=Try.underlying60;have HR0_2:=am_ hr0_2;have HC0_2:=am_ hc0_2;clear hr0_2 hc0_2;have HR0_3:=am_ hr0_3;have HC0_3:=am_ hc0_3;clear hr0_3 hc0_3;have HB:=am_ (Below.refl w.heap.size w);have H:=h;clear h;unfold h04_Validate.f at H;have HC2:=am_ H;clear H;go_enter Try.func81,Try.ntmps81;go_upto_region 1 with (first|((with_reducible refine gate_dst (N:=1) rfl ?_);(try (refine gate_guard (by rfl) ?_;dsimp only));refine box_ev (N:=1) (cs:=#[.int .i64 a0_0,.int .i64 a0_1,.slice A0_2 l0_2.length c0_2,.slice A0_3 l0_3.length c0_3]) (t:=60) ?_;intro gb217 hg w3 hbox hb;have BK217:=am_ hbox;have GW217:=gsz (w:=w) hg;have GE217:=GW217;replace HB:=hbs hb;clear hb hbox hg))
 (try simp only [Act.put,sl_]);go_cut [40] (fun v40 wc=>∃ (kq:Nat) (x40_1:Bool),v40=.bool x40_1∧Aside0 (h04_Validate.j0 kq x40_1 a0_0 a0_1 l0_2 l0_3=some r)∧Aside0 (kq≤k)∧Aside0 (wc.heap[gb217]?=some (.cells #[.int .i64 a0_0,.int .i64 a0_1,(.slice A0_2 l0_2.length c0_2),(.slice A0_3 l0_3.length c0_3)] 60 (0,0)))∧Aside0 (Below w.heap.size w wc))
 case first =>
  have H:=HC2.out;clear HC2;obtain ⟨t218,A4,H⟩:=bnd H;by_cases c5:t218=true
  ·subst c5;rw [if_pos rfl] at H;obtain ⟨t219,A6,H⟩:=bnd H;by_cases c7:t219=true
   ·subst c7;rw [if_pos rfl] at H;by_cases c8:(l0_2.length:Int)=(wrap64 (a0_0 * a0_1))
    ·rw [if_pos c8] at H;have c8b0:=bqt c8;have c8b1:=bnf c8;clear c8;(first|rw [c8b0]|(simp only [i64_w,i32_w];rw [c8b0])|skip);have H':=am_ H;clear H;obtain ⟨_,_,_,_,_,_,_,_⟩:=cells4 BK217.out;go_wp2_with (first|((with_reducible refine gate_callee (f:=96) rfl ?_);refine goesL_ (some 11) rfl rfl Try.func96 (by kernel_rfl) rfl #[.int .i64 a0_0] rfl ga_ ?_;(with_reducible refine (h04_side.calls a0_0 true _ A4.out).mono ?_);rintro e w' ⟨rfl,⟨nd,rfl⟩⟩;refine ⟨_,rfl,?_⟩)|(go_at_call 96;(with_reducible refine (h04_side.calls a0_1 true _ A6.out).mono ?_);rintro e w' ⟨rfl,⟨nd,rfl⟩⟩))
     go_meet
     case rel=>exact ⟨_,(((l0_3.length:Int) != (wrap64 (a0_0 * a0_1)))),fr_,H',⟨by first|omega|exact Nat.le_refl _⟩,⟨blk_up BK217.out⟩,⟨hb_⟩⟩
    ·rw [if_neg c8] at H;have c8b0:=bqf c8;have c8b1:=bnt c8;(first|rw [c8b0]|(simp only [i64_w,i32_w];rw [c8b0])|skip);have H':=am_ H;clear H;obtain ⟨_,_,_,_,_,_,_,_⟩:=cells4 BK217.out;go_wp2_with (first|((with_reducible refine gate_callee (f:=96) rfl ?_);refine goesL_ (some 11) rfl rfl Try.func96 (by kernel_rfl) rfl #[.int .i64 a0_0] rfl ga_ ?_;(with_reducible refine (h04_side.calls a0_0 true _ A4.out).mono ?_);rintro e w' ⟨rfl,⟨nd,rfl⟩⟩;refine ⟨_,rfl,?_⟩)|(go_at_call 96;(with_reducible refine (h04_side.calls a0_1 true _ A6.out).mono ?_);rintro e w' ⟨rfl,⟨nd,rfl⟩⟩))
     go_meet
     case rel=>exact ⟨_,(true),fr_,H',⟨by first|omega|exact Nat.le_refl _⟩,⟨blk_up BK217.out⟩,⟨hb_⟩⟩
   ·replace c7:=Bool.eq_false_iff.mpr c7;subst c7;rw [if_neg (show ¬ (false=true) by decide)] at H;have H':=am_ H;clear H;obtain ⟨_,_,_,_,_,_,_,_⟩:=cells4 BK217.out;go_wp2_with (first|((with_reducible refine gate_callee (f:=96) rfl ?_);refine goesL_ (some 11) rfl rfl Try.func96 (by kernel_rfl) rfl #[.int .i64 a0_0] rfl ga_ ?_;(with_reducible refine (h04_side.calls a0_0 true _ A4.out).mono ?_);rintro e w' ⟨rfl,⟨nd,rfl⟩⟩;refine ⟨_,rfl,?_⟩)|(go_at_call 96;(with_reducible refine (h04_side.calls a0_1 false _ A6.out).mono ?_);rintro e w' ⟨rfl,⟨nd,rfl⟩⟩))
    go_meet
    case rel=>exact ⟨_,(true),fr_,H',⟨by first|omega|exact Nat.le_refl _⟩,⟨blk_up BK217.out⟩,⟨hb_⟩⟩
  ·replace c5:=Bool.eq_false_iff.mpr c5;subst c5;rw [if_neg (show ¬ (false=true) by decide)] at H;have H':=am_ H;clear H;obtain ⟨_,_,_,_,_,_,_,_⟩:=cells4 BK217.out;go_wp2_with (first|((with_reducible refine gate_callee (f:=96) rfl ?_);refine goesL_ (some 11) rfl rfl Try.func96 (by kernel_rfl) rfl #[.int .i64 a0_0] rfl ga_ ?_;(with_reducible refine (h04_side.calls a0_0 false _ A4.out).mono ?_);rintro e w' ⟨rfl,⟨nd,rfl⟩⟩;refine ⟨_,rfl,?_⟩))
   go_meet
   case rel=>exact ⟨_,(true),fr_,H',⟨by first|omega|exact Nat.le_refl _⟩,⟨blk_up BK217.out⟩,⟨hb_⟩⟩
 case rest =>
  clear HC2;obtain ⟨kq,x40_1,rfl,HA,HJ1,BK217,HB⟩:=hcut;cases kq with
  | zero=>exact absurd HA.out (by simp [h04_Validate.j0])
  | succ kj1 =>
   have H:=HA.out;clear HA;simp only [h04_Validate.j0] at H;by_cases c13:x40_1=true
   ·subst c13;rw [if_pos rfl] at H;obtain rfl:=oj_ H;go_wp2
    go_ret
    exact ⟨er_,hb_⟩
   ·replace c13:=Bool.eq_false_iff.mpr c13;subst c13;rw [if_neg (show ¬ (false=true) by decide)] at H;have H':=am_ H;clear H;obtain ⟨_,_,_,_,_,_,_,_⟩:=cells4 BK217.out;go_wp2
    go_loopg [44] kj1 (fun kq v44 w'=>∃ (x44_2:Int),v44=.int .i64 x44_2∧Aside0 (h04_Validate.l0 kq l0_2 (l0_2.length:Int) x44_2 a0_0 a0_1 l0_2 l0_3=some r)∧Aside0 (kq≤kj1)∧Aside0 (w'.heap[gb217]?=some (.cells #[.int .i64 a0_0,.int .i64 a0_1,(.slice A0_2 l0_2.length c0_2),(.slice A0_3 l0_3.length c0_3)] 60 (0,0)))∧Aside0 (Below w.heap.size w w'))
    case atStart=>exact ⟨(0),fr_,H',⟨Nat.le_refl _⟩,⟨blk_up BK217.out⟩,⟨hb_⟩⟩
    case round =>
     clear H';obtain ⟨x44_2,rfl,HA,HK2,BK217,HB⟩:=hrel;cases gk with
     | zero=>exact absurd HA.out (by simp [h04_Validate.l0])
     | succ k2 =>
      have H:=HA.out;clear HA;simp only [h04_Validate.l0] at H;by_cases c15:x44_2<(l0_2.length:Int)
      ·rw [if_pos c15] at H;have c15b0:=dt_ c15;clear c15;obtain ⟨c16,H⟩:=ifp_ H;have c16b0:=dt_ c16;clear c16;obtain ⟨c17,H⟩:=ifp_ H;have c17b0:=dt_ c17;clear c17;by_cases c18:(rd l0_2 x44_2)<0
       ·rw [if_pos c18] at H;have c18b0:=dt_ c18;clear c18;obtain rfl:=oj_ H;have p220:0≤(x44_2:Int):=ofd;have q220:x44_2<(l0_2.length:Int):=ofd;obtain ⟨ad220,e220,hx220_0⟩:=Kd.at_int HR0_2.out x44_2 p220 q220;cases e220;replace hx220_0:=hbc HB hx220_0;replace p220:=eq_true p220;replace q220:=eq_true q220;go_wp2
        go_ret
        exact ⟨er_,hb_⟩
       rw [if_neg c18] at H;have c18b0:=df_ c18;clear c18;by_cases c19:(rd l0_2 x44_2) > 15
       ·rw [if_pos c19] at H;have c19b0:=dt_ c19;clear c19;obtain rfl:=oj_ H;have p220:0≤(x44_2:Int):=ofd;have q220:x44_2<(l0_2.length:Int):=ofd;obtain ⟨ad220,e220,hx220_0⟩:=Kd.at_int HR0_2.out x44_2 p220 q220;cases e220;replace hx220_0:=hbc HB hx220_0;replace p220:=eq_true p220;replace q220:=eq_true q220;go_wp2
        go_ret
        exact ⟨er_,hb_⟩
       ·rw [if_neg c19] at H;have c19b0:=df_ c19;clear c19;have H':=am_ H;clear H;have p220:0≤(x44_2:Int):=ofd;have q220:x44_2<(l0_2.length:Int):=ofd;obtain ⟨ad220,e220,hx220_0⟩:=Kd.at_int HR0_2.out x44_2 p220 q220;cases e220;replace hx220_0:=hbc HB hx220_0;replace p220:=eq_true p220;replace q220:=eq_true q220;go_wp2
        go_roundg k2
        case measure=>have:=HJ1.out;have:=HK2.out;omega
        case rel=>exact ⟨(wrap64 (x44_2+1)),fr_,H',⟨by have:=HJ1.out;have:=HK2.out;omega⟩,⟨blk_up BK217.out⟩,⟨hb_⟩⟩
      rw [if_neg c15] at H;have c15b0:=df_ c15;clear c15;have H':=am_ H;clear H;obtain ⟨_,_,_,_,_,_,_,_⟩:=cells4 BK217.out;go_wp2
      go_loopg [58] k2 (fun kq v58 w'=>∃ (x58_3:Int),v58=.int .i64 x58_3∧Aside0 (h04_Validate.l1 kq l0_3 (l0_3.length:Int) x58_3 a0_0 a0_1 l0_2 l0_3=some r)∧Aside0 (kq≤k2)∧Aside0 (w'.heap[gb217]?=some (.cells #[.int .i64 a0_0,.int .i64 a0_1,(.slice A0_2 l0_2.length c0_2),(.slice A0_3 l0_3.length c0_3)] 60 (0,0)))∧Aside0 (Below w.heap.size w w'))
      case atStart=>exact ⟨(0),fr_,H',⟨Nat.le_refl _⟩,⟨blk_up BK217.out⟩,⟨hb_⟩⟩
      case round =>
       clear H';obtain ⟨x58_3,rfl,HA,HK3,BK217,HB⟩:=hrel;cases gk with
       | zero=>exact absurd HA.out (by simp [h04_Validate.l1])
       | succ k3 =>
        have H:=HA.out;clear HA;simp only [h04_Validate.l1] at H;by_cases c21:x58_3<(l0_3.length:Int)
        ·rw [if_pos c21] at H;have c21b0:=dt_ c21;clear c21;obtain ⟨c22,H⟩:=ifp_ H;have c22b0:=dt_ c22;clear c22;obtain ⟨c23,H⟩:=ifp_ H;have c23b0:=dt_ c23;clear c23;by_cases c24:(rd l0_3 x58_3)<0
         ·rw [if_pos c24] at H;have c24b0:=dt_ c24;clear c24;obtain rfl:=oj_ H;have p221:0≤(x58_3:Int):=ofd;have q221:x58_3<(l0_3.length:Int):=ofd;obtain ⟨ad221,e221,hx221_0⟩:=Kd.at_int HR0_3.out x58_3 p221 q221;cases e221;replace hx221_0:=hbc HB hx221_0;replace p221:=eq_true p221;replace q221:=eq_true q221;go_wp2
          go_ret
          exact ⟨er_,hb_⟩
         rw [if_neg c24] at H;have c24b0:=df_ c24;clear c24;by_cases c25:(rd l0_3 x58_3) > 2
         ·rw [if_pos c25] at H;have c25b0:=dt_ c25;clear c25;obtain rfl:=oj_ H;have p221:0≤(x58_3:Int):=ofd;have q221:x58_3<(l0_3.length:Int):=ofd;obtain ⟨ad221,e221,hx221_0⟩:=Kd.at_int HR0_3.out x58_3 p221 q221;cases e221;replace hx221_0:=hbc HB hx221_0;replace p221:=eq_true p221;replace q221:=eq_true q221;go_wp2
          go_ret
          exact ⟨er_,hb_⟩
         ·rw [if_neg c25] at H;have c25b0:=df_ c25;clear c25;have H':=am_ H;clear H;have p221:0≤(x58_3:Int):=ofd;have q221:x58_3<(l0_3.length:Int):=ofd;obtain ⟨ad221,e221,hx221_0⟩:=Kd.at_int HR0_3.out x58_3 p221 q221;cases e221;replace hx221_0:=hbc HB hx221_0;replace p221:=eq_true p221;replace q221:=eq_true q221;go_wp2
          go_roundg k3
          case measure=>have:=HJ1.out;have:=HK2.out;have:=HK3.out;omega
          case rel=>exact ⟨(wrap64 (x58_3+1)),fr_,H',⟨by have:=HJ1.out;have:=HK2.out;have:=HK3.out;omega⟩,⟨blk_up BK217.out⟩,⟨hb_⟩⟩
        rw [if_neg c21] at H;have c21b0:=df_ c21;clear c21;have H':=am_ H;clear H;obtain ⟨_,_,_,_,_,_,_,_⟩:=cells4 BK217.out;go_wp2
        go_loopg [72] k3 (fun kq v72 w'=>∃ (x72_4:Int),v72=.int .i64 x72_4∧Aside0 (h04_Validate.l2 kq l0_3 (l0_3.length:Int) x72_4 a0_0 a0_1 l0_2 l0_3=some r)∧Aside0 (kq≤k3)∧Aside0 (w'.heap[gb217]?=some (.cells #[.int .i64 a0_0,.int .i64 a0_1,(.slice A0_2 l0_2.length c0_2),(.slice A0_3 l0_3.length c0_3)] 60 (0,0)))∧Aside0 (Below w.heap.size w w'))
        case atStart=>exact ⟨(0),fr_,H',⟨Nat.le_refl _⟩,⟨blk_up BK217.out⟩,⟨hb_⟩⟩
        case round =>
         clear H';obtain ⟨x72_4,rfl,HA,HK4,BK217,HB⟩:=hrel;cases gk with
         | zero=>exact absurd HA.out (by simp [h04_Validate.l2])
         | succ k4 =>
          have H:=HA.out;clear HA;simp only [h04_Validate.l2] at H;by_cases c27:x72_4<(l0_3.length:Int);rotate_left
          ·rw [if_neg c27] at H;have c27b0:=df_ c27;clear c27;obtain rfl:=oj_ H;go_wp2
           go_ret
           exact ⟨er_,hb_⟩
          rw [if_pos c27] at H;have c27b0:=dt_ c27;clear c27;obtain ⟨c28,H⟩:=ifp_ H;have c28b0:=dt_ c28;clear c28;obtain ⟨c29,H⟩:=ifp_ H;have c29b0:=dt_ c29;clear c29;by_cases c30:(rd l0_3 x72_4)=0
          ·rw [if_pos c30] at H;have c30b0:=bqt c30;have c30b1:=bnf c30;clear c30;have H':=am_ H;clear H;have p222:0≤(x72_4:Int):=ofd;have q222:x72_4<(l0_3.length:Int):=ofd;obtain ⟨ad222,e222,hx222_0⟩:=Kd.at_int HR0_3.out x72_4 p222 q222;cases e222;replace hx222_0:=hbc HB hx222_0;replace p222:=eq_true p222;replace q222:=eq_true q222;go_wp2
           go_roundg k4
           case measure=>have:=HJ1.out;have:=HK2.out;have:=HK3.out;have:=HK4.out;omega
           case rel=>exact ⟨(wrap64 (x72_4+1)),fr_,H',⟨by have:=HJ1.out;have:=HK2.out;have:=HK3.out;have:=HK4.out;omega⟩,⟨blk_up BK217.out⟩,⟨hb_⟩⟩
          rw [if_neg c30] at H;have c30b0:=bqf c30;have c30b1:=bnt c30;obtain ⟨c31,H⟩:=ifp_ H;have c31b0:=dt_ c31;clear c31;obtain ⟨t224,A32,H⟩:=bnd H;by_cases c33:t224=true
          ·subst c33;rw [if_pos rfl] at H;have H':=am_ H;clear H;have p222:0≤(x72_4:Int):=ofd;have q222:x72_4<(l0_3.length:Int):=ofd;obtain ⟨ad222,e222,hx222_0⟩:=Kd.at_int HR0_3.out x72_4 p222 q222;cases e222;replace hx222_0:=hbc HB hx222_0;replace p222:=eq_true p222;replace q222:=eq_true q222;obtain ⟨_,_,_,_,_,_,_,_⟩:=cells4 BK217.out;have p223:0≤(x72_4:Int):=ofd;have q223:x72_4<(l0_2.length:Int):=ofd;obtain ⟨ad223,e223,hx223_0⟩:=Kd.at_int HR0_2.out x72_4 p223 q223;cases e223;replace hx223_0:=hbc HB hx223_0;replace p223:=eq_true p223;replace q223:=eq_true q223;go_wp2_with (first|(go_at_call 97;(with_reducible refine (h04_straight.calls (rd l0_2 x72_4) true _ A32.out).mono ?_);rintro e w' ⟨rfl,⟨nd,rfl⟩⟩))
           go_roundg k4
           case measure=>have:=HJ1.out;have:=HK2.out;have:=HK3.out;have:=HK4.out;omega
           case rel=>exact ⟨(wrap64 (x72_4+1)),fr_,H',⟨by have:=HJ1.out;have:=HK2.out;have:=HK3.out;have:=HK4.out;omega⟩,⟨blk_up BK217.out⟩,⟨hb_⟩⟩
          ·replace c33:=Bool.eq_false_iff.mpr c33;subst c33;rw [if_neg (show ¬ (false=true) by decide)] at H;obtain rfl:=oj_ H;have p222:0≤(x72_4:Int):=ofd;have q222:x72_4<(l0_3.length:Int):=ofd;obtain ⟨ad222,e222,hx222_0⟩:=Kd.at_int HR0_3.out x72_4 p222 q222;cases e222;replace hx222_0:=hbc HB hx222_0;replace p222:=eq_true p222;replace q222:=eq_true q222;obtain ⟨_,_,_,_,_,_,_,_⟩:=cells4 BK217.out;have p223:0≤(x72_4:Int):=ofd;have q223:x72_4<(l0_2.length:Int):=ofd;obtain ⟨ad223,e223,hx223_0⟩:=Kd.at_int HR0_2.out x72_4 p223 q223;cases e223;replace hx223_0:=hbc HB hx223_0;replace p223:=eq_true p223;replace q223:=eq_true q223;go_wp2_with (first|(go_at_call 97;(with_reducible refine (h04_straight.calls (rd l0_2 x72_4) false _ A32.out).mono ?_);rintro e w' ⟨rfl,⟨nd,rfl⟩⟩))
           go_ret
           exact ⟨er_,hb_⟩

/-! ### h11_growError: function 58 -/
def h11_growError.j0:Nat→Int→Bool→Int→Int→List Int→Int→Int→List Int→List Int→List Int→Int→List (S68)→List Int→Int→Int→Option (Int)
 | 0,_,_,_,_,_,_,_,_,_,_,_,_,_,_,_=>none
 | k+1,x3,x45,x226000,x226001,x226002,x226003,x226004,x226005,x226006,x226007,x227000,x227001,x227002,x227003,x227004=>if x45=true then (some 8) else (if x227000≥(wrap64 (x226000 * x226001)) then (some 2) else ((h09_Out.f x3 100000).bind fun t230=>(if t230=true then (some 1) else (some 0))))
def h11_growError.f (k:Nat) (l0:List (S80)) (a1_0:Int) (a1_1:Int) (l1_2:List Int) (a1_3:Int) (a1_4:Int) (l1_5:List Int) (l1_6:List Int) (l1_7:List Int) (a2_0:Int) (l2_1:List (S68)) (l2_2:List Int) (a2_3:Int) (a2_4:Int) (a3:Int):Option (Int):=(h11_Validate.f k l0 a2_0 l2_1 l2_2 a2_3 a2_4).bind fun t227=>(if t227=0 then ((h02_Validate.f k a1_0 a1_1 l1_2).bind fun t228=>(if t228=0 then ((h04_Validate.f k a1_3 a1_4 l1_5 l1_6).bind fun t229=>(if t229=0 then (if a1_3=a1_0 then (h11_growError.j0 k a3 (a1_4 != a1_1) a1_0 a1_1 l1_2 a1_3 a1_4 l1_5 l1_6 l1_7 a2_0 l2_1 l2_2 a2_3 a2_4) else (h11_growError.j0 k a3 true a1_0 a1_1 l1_2 a1_3 a1_4 l1_5 l1_6 l1_7 a2_0 l2_1 l2_2 a2_3 a2_4)) else (some t229))) else (some t228))) else (some t227))
theorem h11_growError.mono_l:∀ k,(∀ y0 y1 y2 y3 y4 y5 y6 y7 y8 y9 y10 y11 y12 y13 y14,LeO (h11_growError.j0 k y0 y1 y2 y3 y4 y5 y6 y7 y8 y9 y10 y11 y12 y13 y14) (h11_growError.j0 (k+1) y0 y1 y2 y3 y4 y5 y6 y7 y8 y9 y10 y11 y12 y13 y14))
 | 0=>fun _ _ _ _ _ _ _ _ _ _ _ _ _ _ _ r h=>by simp [h11_growError.j0] at h
 | k+1=>by
  have ih0:=h11_growError.mono_l k
  ·intro y0 y1 y2 y3 y4 y5 y6 y7 y8 y9 y10 y11 y12 y13 y14;unfold h11_growError.j0;repeat' with_reducible first|exact ih0 _ _ _ _ _ _ _ _ _ _ _ _ _ _ _|apply h02_Validate.mono|apply h04_Validate.mono|apply h11_Validate.mono|apply lr_|apply ln_|apply li_|refine lb_ ?_ fun _=>?_
theorem h11_growError.mono:∀ a0 a1 a2 a3 a4 a5 a6 a7 a8 a9 a10 a11 a12 a13 a14 k,LeO (h11_growError.f k a0 a1 a2 a3 a4 a5 a6 a7 a8 a9 a10 a11 a12 a13 a14) (h11_growError.f (k+1) a0 a1 a2 a3 a4 a5 a6 a7 a8 a9 a10 a11 a12 a13 a14):=by
 intro a0 a1 a2 a3 a4 a5 a6 a7 a8 a9 a10 a11 a12 a13 a14 k;have ih0:=h11_growError.mono_l k;unfold h11_growError.f;repeat' with_reducible first|exact ih0 _ _ _ _ _ _ _ _ _ _ _ _ _ _ _|apply h02_Validate.mono|apply h04_Validate.mono|apply h11_Validate.mono|apply lr_|apply ln_|apply li_|refine lb_ ?_ fun _=>?_
theorem h11_growError.calls (k:Nat) (A0:Option Addr) (c0:Nat) (l0:List (S80)) (a1_0:Int) (a1_1:Int) (A1_2:Option Addr) (c1_2:Nat) (l1_2:List Int) (a1_3:Int) (a1_4:Int) (A1_5:Option Addr) (c1_5:Nat) (l1_5:List Int) (A1_6:Option Addr) (c1_6:Nat) (l1_6:List Int) (A1_7:Option Addr) (c1_7:Nat) (l1_7:List Int) (a2_0:Int) (A2_1:Option Addr) (c2_1:Nat) (l2_1:List (S68)) (A2_2:Option Addr) (c2_2:Nat) (l2_2:List Int) (a2_3:Int) (a2_4:Int) (a3:Int) (r:Int) (w:World) (hr0:Kd.C k80 w A0 l0.length l0) (hc0:l0.length≤c0) (hr1_2:Kd.C (Kd.int .i64) w A1_2 l1_2.length l1_2) (hc1_2:l1_2.length≤c1_2) (hr1_5:Kd.C (Kd.int .i64) w A1_5 l1_5.length l1_5) (hc1_5:l1_5.length≤c1_5) (hr1_6:Kd.C (Kd.int .i64) w A1_6 l1_6.length l1_6) (hc1_6:l1_6.length≤c1_6) (hr1_7:Kd.C (Kd.int .i64) w A1_7 l1_7.length l1_7) (hc1_7:l1_7.length≤c1_7) (hr2_1:Kd.C k68 w A2_1 l2_1.length l2_1) (hc2_1:l2_1.length≤c2_1) (hr2_2:Kd.C (Kd.int .i64) w A2_2 l2_2.length l2_2) (hc2_2:l2_2.length≤c2_2) (h:h11_growError.f k l0 a1_0 a1_1 l1_2 a1_3 a1_4 l1_5 l1_6 l1_7 a2_0 l2_1 l2_2 a2_3 a2_4 a3=some r) :
  Calls Try.prog 58 #[.slice A0 l0.length c0,.agg #[.int .i64 a1_0,.int .i64 a1_1,.slice A1_2 l1_2.length c1_2,.int .i64 a1_3,.int .i64 a1_4,.slice A1_5 l1_5.length c1_5,.slice A1_6 l1_6.length c1_6,.slice A1_7 l1_7.length c1_7],.agg #[.int .i64 a2_0,.slice A2_1 l2_1.length c2_1,.slice A2_2 l2_2.length c2_2,.int .i64 a2_3,.int .i64 a2_4],.int .i64 a3] w fun e w'=>e=.returned (.int .i64 r)∧Below w.heap.size w w':=by
 have hu62:=Try.underlying62;have hu25:=Try.underlying25;have hu58:=Try.underlying58;have hu60:=Try.underlying60;have HR0:=am_ hr0;have HC0:=am_ hc0;clear hr0 hc0;have HR1_2:=am_ hr1_2;have HC1_2:=am_ hc1_2;clear hr1_2 hc1_2;have HR1_5:=am_ hr1_5;have HC1_5:=am_ hc1_5;clear hr1_5 hc1_5;have HR1_6:=am_ hr1_6;have HC1_6:=am_ hc1_6;clear hr1_6 hc1_6;have HR1_7:=am_ hr1_7;have HC1_7:=am_ hc1_7;clear hr1_7 hc1_7;have HR2_1:=am_ hr2_1;have HC2_1:=am_ hc2_1;clear hr2_1 hc2_1;have HR2_2:=am_ hr2_2;have HC2_2:=am_ hc2_2;clear hr2_2 hc2_2;have HB:=am_ (Below.refl w.heap.size w);have H:=h;clear h;unfold h11_growError.f at H;obtain ⟨t227,A5,H⟩:=bnd H;by_cases c6:t227=0;rotate_left
 ·rw [if_neg c6] at H;have c6b0:=bqf c6;have c6b1:=bnt c6;obtain rfl:=oj_ H;go_enter Try.func58,Try.ntmps58;go_wp2_with (first|((with_reducible refine gate_dst (N:=5) rfl ?_);refine box_ev (N:=5) (cs:=#[.int .i64 a1_0,.int .i64 a1_1,.slice A1_2 l1_2.length c1_2,.int .i64 a1_3,.int .i64 a1_4,.slice A1_5 l1_5.length c1_5,.slice A1_6 l1_6.length c1_6,.slice A1_7 l1_7.length c1_7]) (t:=62) ?_;intro gb225 hg w55 hbox hb;have BK225:=am_ hbox;have GW225:=gsz (w:=w) hg;have GE225:=GW225;replace HB:=hbs hb;clear hb hbox hg)|((with_reducible refine gate_dst (N:=6) rfl ?_);refine box_ev (N:=6) (cs:=#[.int .i64 a2_0,.slice A2_1 l2_1.length c2_1,.slice A2_2 l2_2.length c2_2,.int .i64 a2_3,.int .i64 a2_4]) (t:=25) ?_;intro gb226 hg w56 hbox hb;have BK226:=am_ hbox;have GW226:=gsz (w:=w) hg;have GE226:=GW226;have NB225_226:=nbl BK225 hg;have NB226_225:=nbr BK225 hg;replace BK225:=bkb BK225 hb;replace HB:=hbs hb;clear hb hbox hg;have hnb57:=NB226_225.out;have hnc57:=NB225_226.out;obtain ⟨_,_,_,_,_,_,_,_,_,_⟩:=cells5 BK226.out)|((with_reducible refine gate_callee (f:=26) rfl ?_);refine goesL_ (some 14) rfl rfl Try.func26 (by kernel_rfl) rfl #[.slice A0 l0.length c0,.agg #[.int .i64 a2_0,.slice A2_1 l2_1.length c2_1,.slice A2_2 l2_2.length c2_2,.int .i64 a2_3,.int .i64 a2_4]] rfl ga_ ?_;(with_reducible refine (h11_Validate.calls k _ _ l0 a2_0 _ _ l2_1 _ _ l2_2 a2_3 a2_4 t227 _ ?_ ?_ ?_ ?_ ?_ ?_ A5.out).mono ?_);exact cq HR0;exact HC0.out;exact cq HR2_1;exact HC2_1.out;exact cq HR2_2;exact HC2_2.out;rintro e w59 ⟨rfl,hb⟩;refine ⟨_,rfl,?_⟩;replace BK225:=bkb BK225 hb;replace BK226:=bkb BK226 hb;replace HB:=hbs hb))
  go_ret
  exact ⟨er_,hb_⟩
 rw [if_pos c6] at H;have c6b0:=bqt c6;have c6b1:=bnf c6;clear c6;obtain ⟨t228,A7,H⟩:=bnd H;by_cases c8:t228=0;rotate_left
 ·rw [if_neg c8] at H;have c8b0:=bqf c8;have c8b1:=bnt c8;obtain rfl:=oj_ H;go_enter Try.func58,Try.ntmps58;go_wp2_with (first|((with_reducible refine gate_dst (N:=5) rfl ?_);refine box_ev (N:=5) (cs:=#[.int .i64 a1_0,.int .i64 a1_1,.slice A1_2 l1_2.length c1_2,.int .i64 a1_3,.int .i64 a1_4,.slice A1_5 l1_5.length c1_5,.slice A1_6 l1_6.length c1_6,.slice A1_7 l1_7.length c1_7]) (t:=62) ?_;intro gb225 hg w48 hbox hb;have BK225:=am_ hbox;have GW225:=gsz (w:=w) hg;have GE225:=GW225;replace HB:=hbs hb;clear hb hbox hg)|((with_reducible refine gate_dst (N:=6) rfl ?_);refine box_ev (N:=6) (cs:=#[.int .i64 a2_0,.slice A2_1 l2_1.length c2_1,.slice A2_2 l2_2.length c2_2,.int .i64 a2_3,.int .i64 a2_4]) (t:=25) ?_;intro gb226 hg w49 hbox hb;have BK226:=am_ hbox;have GW226:=gsz (w:=w) hg;have GE226:=GW226;have NB225_226:=nbl BK225 hg;have NB226_225:=nbr BK225 hg;replace BK225:=bkb BK225 hb;replace HB:=hbs hb;clear hb hbox hg;have hnb50:=NB226_225.out;have hnc50:=NB225_226.out;obtain ⟨_,_,_,_,_,_,_,_,_,_⟩:=cells5 BK226.out)|((with_reducible refine gate_callee (f:=26) rfl ?_);refine goesL_ (some 14) rfl rfl Try.func26 (by kernel_rfl) rfl #[.slice A0 l0.length c0,.agg #[.int .i64 a2_0,.slice A2_1 l2_1.length c2_1,.slice A2_2 l2_2.length c2_2,.int .i64 a2_3,.int .i64 a2_4]] rfl ga_ ?_;(with_reducible refine (h11_Validate.calls k _ _ l0 a2_0 _ _ l2_1 _ _ l2_2 a2_3 a2_4 t227 _ ?_ ?_ ?_ ?_ ?_ ?_ A5.out).mono ?_);exact cq HR0;exact HC0.out;exact cq HR2_1;exact HC2_1.out;exact cq HR2_2;exact HC2_2.out;rintro e w52 ⟨rfl,hb⟩;refine ⟨_,rfl,?_⟩;replace BK225:=bkb BK225 hb;replace BK226:=bkb BK226 hb;replace HB:=hbs hb;obtain ⟨_,_,_,_,_,_,_,_,_,_,_,_,_,_,_,_⟩:=cells8 BK225.out)|((with_reducible refine gate_callee (f:=80) rfl ?_);refine goesL_ (some 20) rfl rfl Try.func80 (by kernel_rfl) rfl #[.agg #[.int .i64 a1_0,.int .i64 a1_1,.slice A1_2 l1_2.length c1_2]] rfl ga_ ?_;(with_reducible refine (h02_Validate.calls k a1_0 a1_1 _ _ l1_2 t228 _ ?_ ?_ A7.out).mono ?_);exact cq HR1_2;exact HC1_2.out;rintro e w54 ⟨rfl,hb⟩;refine ⟨_,rfl,?_⟩;replace BK225:=bkb BK225 hb;replace BK226:=bkb BK226 hb;replace HB:=hbs hb))
  go_ret
  exact ⟨er_,hb_⟩
 rw [if_pos c8] at H;have c8b0:=bqt c8;have c8b1:=bnf c8;clear c8;obtain ⟨t229,A9,H⟩:=bnd H;by_cases c10:t229=0;rotate_left
 ·rw [if_neg c10] at H;have c10b0:=bqf c10;have c10b1:=bnt c10;obtain rfl:=oj_ H;go_enter Try.func58,Try.ntmps58;go_wp2_with (first|((with_reducible refine gate_dst (N:=5) rfl ?_);refine box_ev (N:=5) (cs:=#[.int .i64 a1_0,.int .i64 a1_1,.slice A1_2 l1_2.length c1_2,.int .i64 a1_3,.int .i64 a1_4,.slice A1_5 l1_5.length c1_5,.slice A1_6 l1_6.length c1_6,.slice A1_7 l1_7.length c1_7]) (t:=62) ?_;intro gb225 hg w39 hbox hb;have BK225:=am_ hbox;have GW225:=gsz (w:=w) hg;have GE225:=GW225;replace HB:=hbs hb;clear hb hbox hg)|((with_reducible refine gate_dst (N:=6) rfl ?_);refine box_ev (N:=6) (cs:=#[.int .i64 a2_0,.slice A2_1 l2_1.length c2_1,.slice A2_2 l2_2.length c2_2,.int .i64 a2_3,.int .i64 a2_4]) (t:=25) ?_;intro gb226 hg w40 hbox hb;have BK226:=am_ hbox;have GW226:=gsz (w:=w) hg;have GE226:=GW226;have NB225_226:=nbl BK225 hg;have NB226_225:=nbr BK225 hg;replace BK225:=bkb BK225 hb;replace HB:=hbs hb;clear hb hbox hg;have hnb41:=NB226_225.out;have hnc41:=NB225_226.out;obtain ⟨_,_,_,_,_,_,_,_,_,_⟩:=cells5 BK226.out)|((with_reducible refine gate_callee (f:=26) rfl ?_);refine goesL_ (some 14) rfl rfl Try.func26 (by kernel_rfl) rfl #[.slice A0 l0.length c0,.agg #[.int .i64 a2_0,.slice A2_1 l2_1.length c2_1,.slice A2_2 l2_2.length c2_2,.int .i64 a2_3,.int .i64 a2_4]] rfl ga_ ?_;(with_reducible refine (h11_Validate.calls k _ _ l0 a2_0 _ _ l2_1 _ _ l2_2 a2_3 a2_4 t227 _ ?_ ?_ ?_ ?_ ?_ ?_ A5.out).mono ?_);exact cq HR0;exact HC0.out;exact cq HR2_1;exact HC2_1.out;exact cq HR2_2;exact HC2_2.out;rintro e w43 ⟨rfl,hb⟩;refine ⟨_,rfl,?_⟩;replace BK225:=bkb BK225 hb;replace BK226:=bkb BK226 hb;replace HB:=hbs hb;obtain ⟨_,_,_,_,_,_,_,_,_,_,_,_,_,_,_,_⟩:=cells8 BK225.out)|((with_reducible refine gate_callee (f:=80) rfl ?_);refine goesL_ (some 20) rfl rfl Try.func80 (by kernel_rfl) rfl #[.agg #[.int .i64 a1_0,.int .i64 a1_1,.slice A1_2 l1_2.length c1_2]] rfl ga_ ?_;(with_reducible refine (h02_Validate.calls k a1_0 a1_1 _ _ l1_2 t228 _ ?_ ?_ A7.out).mono ?_);exact cq HR1_2;exact HC1_2.out;rintro e w45 ⟨rfl,hb⟩;refine ⟨_,rfl,?_⟩;replace BK225:=bkb BK225 hb;replace BK226:=bkb BK226 hb;replace HB:=hbs hb;obtain ⟨_,_,_,_,_,_,_,_,_,_,_,_,_,_,_,_⟩:=cells8 BK225.out)|((with_reducible refine gate_callee (f:=81) rfl ?_);refine goesL_ (some 26) rfl rfl Try.func81 (by kernel_rfl) rfl #[.agg #[.int .i64 a1_3,.int .i64 a1_4,.slice A1_5 l1_5.length c1_5,.slice A1_6 l1_6.length c1_6]] rfl ga_ ?_;(with_reducible refine (h04_Validate.calls k a1_3 a1_4 _ _ l1_5 _ _ l1_6 t229 _ ?_ ?_ ?_ ?_ A9.out).mono ?_);exact cq HR1_5;exact HC1_5.out;exact cq HR1_6;exact HC1_6.out;rintro e w47 ⟨rfl,hb⟩;refine ⟨_,rfl,?_⟩;replace BK225:=bkb BK225 hb;replace BK226:=bkb BK226 hb;replace HB:=hbs hb))
  go_ret
  exact ⟨er_,hb_⟩
 rw [if_pos c10] at H;have c10b0:=bqt c10;have c10b1:=bnf c10;clear c10;have HC11:=am_ H;clear H;go_enter Try.func58,Try.ntmps58;go_upto_region 10 with (first|((with_reducible refine gate_dst (N:=5) rfl ?_);refine box_ev (N:=5) (cs:=#[.int .i64 a1_0,.int .i64 a1_1,.slice A1_2 l1_2.length c1_2,.int .i64 a1_3,.int .i64 a1_4,.slice A1_5 l1_5.length c1_5,.slice A1_6 l1_6.length c1_6,.slice A1_7 l1_7.length c1_7]) (t:=62) ?_;intro gb225 hg w12 hbox hb;have BK225:=am_ hbox;have GW225:=gsz (w:=w) hg;have GE225:=GW225;replace HB:=hbs hb;clear hb hbox hg)|((with_reducible refine gate_dst (N:=6) rfl ?_);refine box_ev (N:=6) (cs:=#[.int .i64 a2_0,.slice A2_1 l2_1.length c2_1,.slice A2_2 l2_2.length c2_2,.int .i64 a2_3,.int .i64 a2_4]) (t:=25) ?_;intro gb226 hg w13 hbox hb;have BK226:=am_ hbox;have GW226:=gsz (w:=w) hg;have GE226:=GW226;have NB225_226:=nbl BK225 hg;have NB226_225:=nbr BK225 hg;replace BK225:=bkb BK225 hb;replace HB:=hbs hb;clear hb hbox hg;have hnb14:=NB226_225.out;have hnc14:=NB225_226.out;obtain ⟨_,_,_,_,_,_,_,_,_,_⟩:=cells5 BK226.out)|((with_reducible refine gate_callee (f:=26) rfl ?_);refine goesL_ (some 14) rfl rfl Try.func26 (by kernel_rfl) rfl #[.slice A0 l0.length c0,.agg #[.int .i64 a2_0,.slice A2_1 l2_1.length c2_1,.slice A2_2 l2_2.length c2_2,.int .i64 a2_3,.int .i64 a2_4]] rfl ga_ ?_;(with_reducible refine (h11_Validate.calls k _ _ l0 a2_0 _ _ l2_1 _ _ l2_2 a2_3 a2_4 t227 _ ?_ ?_ ?_ ?_ ?_ ?_ A5.out).mono ?_);exact cq HR0;exact HC0.out;exact cq HR2_1;exact HC2_1.out;exact cq HR2_2;exact HC2_2.out;rintro e w16 ⟨rfl,hb⟩;refine ⟨_,rfl,?_⟩;replace BK225:=bkb BK225 hb;replace BK226:=bkb BK226 hb;replace HB:=hbs hb;obtain ⟨_,_,_,_,_,_,_,_,_,_,_,_,_,_,_,_⟩:=cells8 BK225.out)|((with_reducible refine gate_callee (f:=80) rfl ?_);refine goesL_ (some 20) rfl rfl Try.func80 (by kernel_rfl) rfl #[.agg #[.int .i64 a1_0,.int .i64 a1_1,.slice A1_2 l1_2.length c1_2]] rfl ga_ ?_;(with_reducible refine (h02_Validate.calls k a1_0 a1_1 _ _ l1_2 t228 _ ?_ ?_ A7.out).mono ?_);exact cq HR1_2;exact HC1_2.out;rintro e w18 ⟨rfl,hb⟩;refine ⟨_,rfl,?_⟩;replace BK225:=bkb BK225 hb;replace BK226:=bkb BK226 hb;replace HB:=hbs hb;obtain ⟨_,_,_,_,_,_,_,_,_,_,_,_,_,_,_,_⟩:=cells8 BK225.out)|((with_reducible refine gate_callee (f:=81) rfl ?_);refine goesL_ (some 26) rfl rfl Try.func81 (by kernel_rfl) rfl #[.agg #[.int .i64 a1_3,.int .i64 a1_4,.slice A1_5 l1_5.length c1_5,.slice A1_6 l1_6.length c1_6]] rfl ga_ ?_;(with_reducible refine (h04_Validate.calls k a1_3 a1_4 _ _ l1_5 _ _ l1_6 t229 _ ?_ ?_ ?_ ?_ A9.out).mono ?_);exact cq HR1_5;exact HC1_5.out;exact cq HR1_6;exact HC1_6.out;rintro e w20 ⟨rfl,hb⟩;refine ⟨_,rfl,?_⟩;replace BK225:=bkb BK225 hb;replace BK226:=bkb BK226 hb;replace HB:=hbs hb))
 (try simp only [Act.put,sl_]);go_cut [45] (fun v45 wc=>∃ (kq:Nat) (x45_10:Bool),v45=.bool x45_10∧Aside0 (h11_growError.j0 kq a3 x45_10 a1_0 a1_1 l1_2 a1_3 a1_4 l1_5 l1_6 l1_7 a2_0 l2_1 l2_2 a2_3 a2_4=some r)∧Aside0 (kq≤k)∧Aside0 (wc.heap[gb225]?=some (.cells #[.int .i64 a1_0,.int .i64 a1_1,(.slice A1_2 l1_2.length c1_2),.int .i64 a1_3,.int .i64 a1_4,(.slice A1_5 l1_5.length c1_5),(.slice A1_6 l1_6.length c1_6),(.slice A1_7 l1_7.length c1_7)] 62 (0,0)))∧Aside0 (wc.heap[gb226]?=some (.cells #[.int .i64 a2_0,(.slice A2_1 l2_1.length c2_1),(.slice A2_2 l2_2.length c2_2),.int .i64 a2_3,.int .i64 a2_4] 25 (0,0)))∧Aside0 (Below w.heap.size w wc))
 case first =>
  have H:=HC11.out;clear HC11;by_cases c21:a1_3=a1_0
  ·rw [if_pos c21] at H;have c21b0:=bqt c21;have c21b1:=bnf c21;clear c21;(first|rw [c21b0]|(simp only [i64_w,i32_w];rw [c21b0])|skip);have H':=am_ H;clear H;obtain ⟨_,_⟩:=nn NB225_226;obtain ⟨_,_,_,_,_,_,_,_,_,_,_,_,_,_,_,_⟩:=cells8 BK225.out;go_wp2
   go_meet
   case rel=>exact ⟨_,((a1_4 != a1_1)),fr_,H',⟨by first|omega|exact Nat.le_refl _⟩,⟨blk_up BK225.out⟩,⟨blk_up BK226.out⟩,⟨hb_⟩⟩
  ·rw [if_neg c21] at H;have c21b0:=bqf c21;have c21b1:=bnt c21;(first|rw [c21b0]|(simp only [i64_w,i32_w];rw [c21b0])|skip);have H':=am_ H;clear H;obtain ⟨_,_⟩:=nn NB225_226;obtain ⟨_,_,_,_,_,_,_,_,_,_,_,_,_,_,_,_⟩:=cells8 BK225.out;go_wp2
   go_meet
   case rel=>exact ⟨_,(true),fr_,H',⟨by first|omega|exact Nat.le_refl _⟩,⟨blk_up BK225.out⟩,⟨blk_up BK226.out⟩,⟨hb_⟩⟩
 case rest =>
  clear HC11;obtain ⟨kq,x45_10,rfl,HA,HJ10,BK225,BK226,HB⟩:=hcut;cases kq with
  | zero=>exact absurd HA.out (by simp [h11_growError.j0])
  | succ kj10 =>
   have H:=HA.out;clear HA;simp only [h11_growError.j0] at H;by_cases c26:x45_10=true
   ·subst c26;rw [if_pos rfl] at H;obtain rfl:=oj_ H;go_wp2
    go_ret
    exact ⟨er_,hb_⟩
   ·replace c26:=Bool.eq_false_iff.mpr c26;subst c26;rw [if_neg (show ¬ (false=true) by decide)] at H;by_cases c27:a2_0≥(wrap64 (a1_0 * a1_1))
    ·rw [if_pos c27] at H;have c27b0:=dt_ c27;clear c27;obtain rfl:=oj_ H;obtain ⟨_,_⟩:=nn NB226_225;obtain ⟨_,_,_,_,_,_,_,_,_,_⟩:=cells5 BK226.out;obtain ⟨_,_,_,_,_,_,_,_,_,_,_,_,_,_,_,_⟩:=cells8 BK225.out;go_wp2
     go_ret
     exact ⟨er_,hb_⟩
    rw [if_neg c27] at H;have c27b0:=df_ c27;clear c27;obtain ⟨t230,A31,H⟩:=bnd H;by_cases c32:t230=true
    ·subst c32;rw [if_pos rfl] at H;obtain rfl:=oj_ H;obtain ⟨_,_⟩:=nn NB226_225;obtain ⟨_,_,_,_,_,_,_,_,_,_⟩:=cells5 BK226.out;obtain ⟨_,_,_,_,_,_,_,_,_,_,_,_,_,_,_,_⟩:=cells8 BK225.out;go_wp2_with (first|((with_reducible refine gate_callee (f:=51) rfl ?_);refine goesL_ (some 57) rfl rfl Try.func51 (by kernel_rfl) rfl #[.int .i64 a3,.int .i64 100000] rfl ga_ ?_;(with_reducible refine (h09_Out.calls a3 100000 true _ A31.out).mono ?_);rintro e w' ⟨rfl,⟨nd,rfl⟩⟩;refine ⟨_,rfl,?_⟩))
     go_ret
     exact ⟨er_,hb_⟩
    ·replace c32:=Bool.eq_false_iff.mpr c32;subst c32;rw [if_neg (show ¬ (false=true) by decide)] at H;obtain rfl:=oj_ H;obtain ⟨_,_⟩:=nn NB226_225;obtain ⟨_,_,_,_,_,_,_,_,_,_⟩:=cells5 BK226.out;obtain ⟨_,_,_,_,_,_,_,_,_,_,_,_,_,_,_,_⟩:=cells8 BK225.out;go_wp2_with (first|((with_reducible refine gate_callee (f:=51) rfl ?_);refine goesL_ (some 57) rfl rfl Try.func51 (by kernel_rfl) rfl #[.int .i64 a3,.int .i64 100000] rfl ga_ ?_;(with_reducible refine (h09_Out.calls a3 100000 false _ A31.out).mono ?_);rintro e w' ⟨rfl,⟨nd,rfl⟩⟩;refine ⟨_,rfl,?_⟩))
     go_ret
     exact ⟨er_,hb_⟩

/-! ### h11_streets: function 59 -/
def h11_streets.f (a0_0:Int) (a0_1:Int) (l0_2:List Int) (l0_3:List Int):Option (Int × Int × List Int × List Int):=(some (([]:List Int):List Int)).bind fun y233=>(if y233.length+l0_2.length<17592186044416 then ((some (([]:List Int):List Int)).bind fun y239=>(if y239.length+l0_3.length<17592186044416 then (some (a0_0,a0_1,(y233 ++ l0_2),(y239 ++ l0_3))) else (none))) else (none))
theorem h11_streets.calls (a0_0:Int) (a0_1:Int) (A0_2:Option Addr) (c0_2:Nat) (l0_2:List Int) (A0_3:Option Addr) (c0_3:Nat) (l0_3:List Int) (r1:Int) (r2:Int) (r3:List Int) (r4:List Int) (w:World) (hr0_2:Kd.C (Kd.int .i64) w A0_2 l0_2.length l0_2) (hc0_2:l0_2.length≤c0_2) (hr0_3:Kd.C (Kd.int .i64) w A0_3 l0_3.length l0_3) (hc0_3:l0_3.length≤c0_3) (h:h11_streets.f a0_0 a0_1 l0_2 l0_3=some (r1,r2,r3,r4)) :
  Calls Try.prog 59 #[.agg #[.int .i64 a0_0,.int .i64 a0_1,.slice A0_2 l0_2.length c0_2,.slice A0_3 l0_3.length c0_3]] w fun e w'=>∃ v2_ v3_:Value,e=.returned (.agg #[.int .i64 r1,.int .i64 r2,v2_,v3_])∧Kd.R (Kd.int .i64) 3 w' w.heap.size (fun k_=>some k_≠(v3_:Value).ownBlock) v2_ r3∧Kd.R (Kd.int .i64) 3 w' w.heap.size (fun k_=>some k_≠(v2_:Value).ownBlock) v3_ r4∧Below w.heap.size w w':=by
 have hu60:=Try.underlying60;have HR0_2:=am_ hr0_2;have HC0_2:=am_ hc0_2;clear hr0_2 hc0_2;have HR0_3:=am_ hr0_3;have HC0_3:=am_ hc0_3;clear hr0_3 hc0_3;have HB:=am_ (Below.refl w.heap.size w);have H:=h;clear h;unfold h11_streets.f at H;obtain ⟨y233,hy233⟩:∃ y_:List Int,y_=(([]:List Int)):=⟨_,rfl⟩;replace H:(if y233.length+l0_2.length<17592186044416 then ((some (([]:List Int):List Int)).bind fun y239=>(if y239.length+l0_3.length<17592186044416 then (some (a0_0,a0_1,(y233 ++ l0_2),(y239 ++ l0_3))) else (none))) else (none))=some (r1,r2,r3,r4):=hyx hy233 H;have Ny233:=am_ hy233;clear hy233;obtain ⟨c2,H⟩:=ifp_ H;have LMc2:=am_ c2;clear c2;obtain ⟨y236,hy236⟩:∃ y_:List Int,y_=(y233 ++ l0_2):=⟨_,rfl⟩;replace H:((some (([]:List Int):List Int)).bind fun y239=>(if y239.length+l0_3.length<17592186044416 then (some (a0_0,a0_1,y236,(y239 ++ l0_3))) else (none)))=some (r1,r2,r3,r4):=hyx hy236 H;have Ny236:=am_ hy236;clear hy236;obtain ⟨y239,hy239⟩:∃ y_:List Int,y_=(([]:List Int)):=⟨_,rfl⟩;replace H:(if y239.length+l0_3.length<17592186044416 then (some (a0_0,a0_1,y236,(y239 ++ l0_3))) else (none))=some (r1,r2,r3,r4):=hyx hy239 H;have Ny239:=am_ hy239;clear hy239;obtain ⟨c3,H⟩:=ifp_ H;have LMc3:=am_ c3;clear c3;obtain ⟨y242,hy242⟩:∃ y_:List Int,y_=(y239 ++ l0_3):=⟨_,rfl⟩;replace H:(some (a0_0,a0_1,y236,y242))=some (r1,r2,r3,r4):=hyx hy242 H;have Ny242:=am_ hy242;clear hy242;simp only [Option.some.injEq,Prod.mk.injEq] at H;obtain ⟨rfl,rfl,rfl,rfl⟩:=H;go_enter Try.func59,Try.ntmps59
 go_wp2_with (first|((with_reducible refine gate_dst (N:=1) rfl ?_);refine box_ev (N:=1) (cs:=#[.int .i64 a0_0,.int .i64 a0_1,.slice A0_2 l0_2.length c0_2,.slice A0_3 l0_3.length c0_3]) (t:=60) ?_;intro gb231 hg w4 hbox hb;have BK231:=am_ hbox;have GW231:=gsz (w:=w) hg;have GE231:=GW231;replace HB:=hbs hb;clear hb hbox hg)|((with_reducible refine gate_dst (N:=2) rfl ?_);refine box_ev (N:=2) (cs:=#[.int .i64 0,.int .i64 0,.slice none 0 0,.slice none 0 0]) (t:=60) ?_;intro gb232 hg w5 hbox hb;have BK232:=am_ hbox;have GW232:=gsz (w:=w) hg;have GE232:=GW232;have NB231_232:=nbl BK231 hg;have NB232_231:=nbr BK231 hg;replace BK231:=bkb BK231 hb;replace HB:=hbs hb;clear hb hbox hg)|((with_reducible refine gate_dst (N:=3) rfl ?_);refine Kd.R_lit (Kd.int .i64) _ 3 ?hg (N:=3) ?hd (xs:=([]:List Int)) (inner:=[]) (ok:=fun _=>True) (okp:=fun _=>True) ?hr ?hp (fun _ hk=>hk) trivial (Below.refl _ _) (Nat.le_refl _) (by simp) ?_;(case hd=>rfl);(case hg=>rfl);(case hr=>first|(go_simp;done)|(go_simp;rfl));(case hp=>exact (Reps.none _ _));intro v234 w6 ho7 hb hg_ hnew_;clear hg_ hnew_;(first|rw [← Ny233.out] at ho7|(simp only [Int.reduceToNat] at ho7;rw [← Ny233.out] at ho7));have HO235:=rlo ho7;replace BK231:=bkb BK231 hb;replace BK232:=bkb BK232 hb;replace HB:=hbs hb;clear hb ho7;have hnb8:=NB231_232.out;have hnc8:=NB232_231.out;obtain ⟨_,_,_,_,_,_,_,_⟩:=cells4 BK231.out)|((with_reducible refine gate_builtin (b:=.append) (xs:=#[.tmp 3,.tmp 5]) rfl ?_);at_builtin;refine Kd.R_append_rows (Kd.int .i64) (w0:=w) w.heap.size rfl (.tmp 3) (.tmp 5) 23 3 (.int .i64 0) 8 rfl Try.underlying23 info3 rfl (by decide) (by omega) v234 y233 l0_2 _ _ _ (fun _=>True) (fun _=>False) rfl rfl ?aO ?aR (fun _ _ h=>h) (fun _ h=>h.elim) ?aF ?aB ?aS ?aL ?_;(case aR=>exact Kd.C_up (Kd.C_below HR0_2.out HB.out));(case aB=>exact (hb_));(case aF=>exact (fun _ _=>trivial));(case aO=>exact (Kd.R_up HO235.out));(case aS=>exact (below_size (hb_)));(case aL=>have:=LMc2.out;omega);intro v237 w10 ho hb hg hat;rw [← Ny236.out] at ho;have HO238:=am_ (ho);replace BK231:=am_ (blk_grown (blk_up BK231.out) hg (Kd.R_ne HO235.out BK231.out (by decide)));replace BK232:=am_ (blk_grown (blk_up BK232.out) hg (Kd.R_ne HO235.out BK232.out (by decide)));replace HB:=am_ (hb);clear HO235;clear ho hb hg hat;obtain ⟨Ao11,co11,eo11⟩:=Kd.R_slice HO238.out;subst eo11;obtain ⟨_,_,_,_,_,_,_,_⟩:=cells4 BK231.out)|((with_reducible refine gate_dst (N:=8) rfl ?_);refine Kd.R_lit (Kd.int .i64) _ 3 ?hg (N:=8) ?hd (xs:=([]:List Int)) (inner:=[]) (ok:=fun _=>True) (okp:=fun _=>True) ?hr ?hp (fun _ hk=>hk) trivial (Below.refl _ _) (Nat.le_refl _) (by simp) ?_;(case hd=>rfl);(case hg=>rfl);(case hr=>first|(go_simp;done)|(go_simp;rfl));(case hp=>exact (Reps.none _ _));intro v240 w13 ho14 hb hg_ hnew_;clear hg_ hnew_;(first|rw [← Ny239.out] at ho14|(simp only [Int.reduceToNat] at ho14;rw [← Ny239.out] at ho14));have HO241:=am_ (Kd.R_lower (Kd.R_new' ho14 (Kd.R_lt (by (with_reducible repeat (first|apply Kd.R_alloc|apply Kd.R_drewN|apply Kd.R_drew));exact (Kd.R_mono (Kd.R_far (p:=⟨gb231,2,none⟩) (Kd.R_types HO238.out BK231.out (by decide)) (fun _ hk=>hk.2) (.slice Ao11 y236.length co11)) (fun _ h_=>h_.1))))) (below_size (hb_)));replace HO238:=am_ (Kd.R_elder' (by (with_reducible repeat (first|apply Kd.R_alloc|apply Kd.R_drewN|apply Kd.R_drew));exact (Kd.R_mono (Kd.R_far (p:=⟨gb231,2,none⟩) (Kd.R_types HO238.out BK231.out (by decide)) (fun _ hk=>hk.2) (.slice Ao11 y236.length co11)) (fun _ h_=>h_.1))) (Kd.R_base ho14) hb);replace BK231:=am_ (blk_below (g:=gb231) (o:=.cells #[.int .i64 a0_0,.int .i64 a0_1,.slice Ao11 y236.length co11,.slice A0_3 l0_3.length c0_3] 60 (0,0)) (by (with_reducible repeat (first|refine blk_drewN ?_ _|refine blk_drew ?_|refine blk_alloc ?_ _));refine blk_put (cs:=#[.int .i64 a0_0,.int .i64 a0_1,.slice A0_2 l0_2.length c0_2,.slice A0_3 l0_3.length c0_3]) ?_ 2 _ rfl;(with_reducible repeat (first|refine blk_drewN ?_ _|refine blk_drew ?_|refine blk_alloc ?_ _));exact BK231.out) hb);replace BK232:=am_ (blk_below (g:=gb232) (o:=.cells #[.int .i64 0,.int .i64 0,.slice none 0 0,.slice none 0 0] 60 (0,0)) (by (with_reducible repeat (first|refine blk_drewN ?_ _|refine blk_drew ?_|refine blk_alloc ?_ _));refine blk_far ?_ NB232_231.out _;(with_reducible repeat (first|refine blk_drewN ?_ _|refine blk_drew ?_|refine blk_alloc ?_ _));exact BK232.out) hb);replace HB:=hbs hb;clear hb ho14;obtain ⟨_,_,_,_,_,_,_,_⟩:=cells4 BK231.out)|((with_reducible refine gate_builtin (b:=.append) (xs:=#[.tmp 8,.tmp 10]) rfl ?_);at_builtin;refine Kd.R_append_rows (Kd.int .i64) (w0:=w) w.heap.size rfl (.tmp 8) (.tmp 10) 23 3 (.int .i64 0) 8 rfl Try.underlying23 info3 rfl (by decide) (by omega) v240 y239 l0_3 _ _ _ (fun k_=>some k_≠(.slice Ao11 y236.length co11:Value).ownBlock) (fun _=>False) rfl rfl ?aO ?aR (fun _ _ h=>h) (fun _ h=>h.elim) ?aF ?aB ?aS ?aL ?_;(case aR=>exact Kd.C_up (Kd.C_below HR0_3.out HB.out));(case aB=>exact (hb_));(case aF=>exact (fun k_ hk=>Kd.fresh' (Kd.R_lt (Kd.R_up HO238.out)) k_ hk));(case aO=>exact (by (with_reducible repeat (first|apply Kd.R_alloc|apply Kd.R_drewN|apply Kd.R_drew));exact Kd.R_mono HO241.out (fun _ hk=>hk.2)));(case aS=>exact (below_size (hb_)));(case aL=>have:=LMc3.out;omega);intro v243 w16 ho hb hg hat;rw [← Ny242.out] at ho;have HO244:=am_ (ho);replace BK231:=am_ (blk_grown (blk_up BK231.out) hg (Kd.R_ne HO241.out BK231.out (by decide)));replace BK232:=am_ (blk_grown (blk_up BK232.out) hg (Kd.R_ne HO241.out BK232.out (by decide)));replace HO238:=am_ (Kd.R_after (ok:=(fun _=>True)) (Kd.R_up HO238.out) hg hat);replace HB:=am_ (hb);clear HO241;clear ho hb hg hat;obtain ⟨Ao17,co17,eo17⟩:=Kd.R_slice HO244.out;subst eo17;obtain ⟨_,_,_,_,_,_,_,_⟩:=cells4 BK231.out;obtain ⟨_,_,_,_,_,_,_,_⟩:=cells4 BK232.out))
 refine bodyPost_ret (results_cell_row rfl _ _ gb232 60 #[.int .i64 a0_0,.int .i64 a0_1,.slice Ao11 y236.length co11,.slice Ao17 y242.length co17] (0,0) _ rfl (by refine blkW ?_;refine blk_put (cs:=#[.int .i64 a0_0,.int .i64 a0_1,.slice Ao11 y236.length co11,.slice none 0 0]) ?_ 3 _ rfl;refine blkW ?_;refine blk_put (cs:=#[.int .i64 a0_0,.int .i64 a0_1,.slice none 0 0,.slice none 0 0]) ?_ 2 _ rfl;refine blkW ?_;refine blk_put (cs:=#[.int .i64 a0_0,.int .i64 0,.slice none 0 0,.slice none 0 0]) ?_ 1 _ rfl;refine blkW ?_;refine blk_put (cs:=#[.int .i64 0,.int .i64 0,.slice none 0 0,.slice none 0 0]) ?_ 0 _ rfl;refine blkW ?_;refine blk_far ?_ NB232_231.out _;refine blkW ?_;exact BK232.out) Try.underlying60 rfl (by kernel_rfl)) rfl ?_;exact ⟨_,_,er_,by (with_reducible repeat (first|apply Kd.R_alloc|apply Kd.R_drewN|apply Kd.R_drew));exact Kd.R_mono (Kd.R_fars gb232 (Kd.R_far (p:=⟨gb231,3,none⟩) (Kd.R_types (Kd.R_types HO238.out BK231.out (by decide)) BK232.out (by decide)) (fun _ hk=>hk.1.2) (.slice Ao17 y242.length co17)) (fun _ hk=>hk.2)) (fun _ hk=>hk.1.1.2),by (with_reducible repeat (first|apply Kd.R_alloc|apply Kd.R_drewN|apply Kd.R_drew));exact Kd.R_mono (Kd.R_fars gb232 (Kd.R_far (p:=⟨gb231,3,none⟩) (Kd.R_types (Kd.R_types HO244.out BK231.out (by decide)) BK232.out (by decide)) (fun _ hk=>hk.1.2) (.slice Ao17 y242.length co17)) (fun _ hk=>hk.2)) (fun _ hk=>hk.1.1),hb_⟩

/-! ### h02_Is: function 83 -/
def h02_Is.f (a0_0:Int) (a0_1:Int) (l0_2:List Int) (a1:Int):Option (Bool):=if a1≥0 then (some (decide (a1<(wrap64 (a0_0 * a0_1))))) else (some false)
theorem h02_Is.calls (a0_0:Int) (a0_1:Int) (A0_2:Option Addr) (c0_2:Nat) (l0_2:List Int) (a1:Int) (r:Bool) (w:World) (hr0_2:Kd.C (Kd.int .i64) w A0_2 l0_2.length l0_2) (hc0_2:l0_2.length≤c0_2) (h:h02_Is.f a0_0 a0_1 l0_2 a1=some r) :
  Calls Try.prog 83 #[.agg #[.int .i64 a0_0,.int .i64 a0_1,.slice A0_2 l0_2.length c0_2],.int .i64 a1] w fun e w'=>e=.returned (.bool r)∧Below w.heap.size w w':=by
 have hu58:=Try.underlying58;have HR0_2:=am_ hr0_2;have HC0_2:=am_ hc0_2;clear hr0_2 hc0_2;have HB:=am_ (Below.refl w.heap.size w);have H:=h;clear h;unfold h02_Is.f at H;by_cases c3:a1≥0
 ·rw [if_pos c3] at H;have c3b0:=dt_ c3;clear c3;obtain rfl:=oj_ H;go_enter Try.func83,Try.ntmps83;go_wp2_with (first|((with_reducible refine gate_dst (N:=2) rfl ?_);refine box_ev (N:=2) (cs:=#[.int .i64 a0_0,.int .i64 a0_1,.slice A0_2 l0_2.length c0_2]) (t:=58) ?_;intro gb245 hg w4 hbox hb;have BK245:=am_ hbox;have GW245:=gsz (w:=w) hg;have GE245:=GW245;replace HB:=hbs hb;clear hb hbox hg;obtain ⟨_,_,_,_,_,_⟩:=cells3 BK245.out))
  go_ret
  exact ⟨er_,hb_⟩
 ·rw [if_neg c3] at H;have c3b0:=df_ c3;clear c3;obtain rfl:=oj_ H;go_enter Try.func83,Try.ntmps83;go_wp2_with (first|((with_reducible refine gate_dst (N:=2) rfl ?_);refine box_ev (N:=2) (cs:=#[.int .i64 a0_0,.int .i64 a0_1,.slice A0_2 l0_2.length c0_2]) (t:=58) ?_;intro gb245 hg w6 hbox hb;have BK245:=am_ hbox;have GW245:=gsz (w:=w) hg;have GE245:=GW245;replace HB:=hbs hb;clear hb hbox hg))
  go_ret
  exact ⟨er_,hb_⟩

/-! ### h02_Places: function 99 -/
def h02_Places.f (a0_0:Int) (a0_1:Int) (l0_2:List Int) (a1:Int):Option (S75):=if a0_0=0 then (none) else (some (⟨wrap64 ((wrap64 ((wrap64 (Int.tdiv a1 a0_0)) * (wrap64 (a0_0+1))))+(Int.tmod a1 a0_0)),wrap64 ((wrap64 ((wrap64 ((wrap64 (Int.tdiv a1 a0_0)) * (wrap64 (a0_0+1))))+(Int.tmod a1 a0_0)))+1),wrap64 ((wrap64 ((wrap64 ((wrap64 ((wrap64 (Int.tdiv a1 a0_0)) * (wrap64 (a0_0+1))))+(Int.tmod a1 a0_0)))+a0_0))+2),wrap64 ((wrap64 ((wrap64 ((wrap64 ((wrap64 (Int.tdiv a1 a0_0)) * (wrap64 (a0_0+1))))+(Int.tmod a1 a0_0)))+a0_0))+1)⟩:S75))
theorem h02_Places.calls (a0_0:Int) (a0_1:Int) (A0_2:Option Addr) (c0_2:Nat) (l0_2:List Int) (a1:Int) (r:S75) (w:World) (hr0_2:Kd.C (Kd.int .i64) w A0_2 l0_2.length l0_2) (hc0_2:l0_2.length≤c0_2) (h:h02_Places.f a0_0 a0_1 l0_2 a1=some r) :
  Calls Try.prog 99 #[.agg #[.int .i64 a0_0,.int .i64 a0_1,.slice A0_2 l0_2.length c0_2],.int .i64 a1] w fun e w'=>e=.returned (.agg #[.int .i64 r.f0,.int .i64 r.f1,.int .i64 r.f2,.int .i64 r.f3])∧Below w.heap.size w w':=by
 have hu58:=Try.underlying58;have hu75:=Try.underlying75;have HR0_2:=am_ hr0_2;have HC0_2:=am_ hc0_2;clear hr0_2 hc0_2;have HB:=am_ (Below.refl w.heap.size w);have H:=h;clear h;unfold h02_Places.f at H;replace H:=ifn_ H;obtain ⟨c3,H⟩:=H;have c3b0:(a0_0 == 0)=false:=beq_eq_false_iff_ne.mpr c3;have c3b1:(a0_0 != 0)=true:=bne_iff_ne.mpr c3;obtain rfl:=oj_ H;go_enter Try.func99,Try.ntmps99;go_wp2_with (first|((with_reducible refine gate_dst (N:=2) rfl ?_);refine box_ev (N:=2) (cs:=#[.int .i64 a0_0,.int .i64 a0_1,.slice A0_2 l0_2.length c0_2]) (t:=58) ?_;intro gb246 hg w4 hbox hb;have BK246:=am_ hbox;have GW246:=gsz (w:=w) hg;have GE246:=GW246;replace HB:=hbs hb;clear hb hbox hg)|((with_reducible refine gate_dst (N:=4) rfl ?_);refine box_ev (N:=4) (cs:=#[.int .i64 0,.int .i64 0,.int .i64 0,.int .i64 0]) (t:=75) ?_;intro gb247 hg w5 hbox hb;have BK247:=am_ hbox;have GW247:=gsz (w:=w) hg;have GE247:=GW247;have NB246_247:=nbl BK246 hg;have NB247_246:=nbr BK246 hg;replace BK246:=bkb BK246 hb;replace HB:=hbs hb;clear hb hbox hg;have hnb6:=NB246_247.out;have hnc6:=NB247_246.out;obtain ⟨_,_,_,_,_,_⟩:=cells3 BK246.out;obtain ⟨_,_,_,_,_,_,_,_⟩:=cells4 BK247.out))
 go_quiet (fail)
 go_wp2
 refine bodyPost_ret (results_cell_row rfl _ _ gb247 75 #[.int .i64 (wrap64 ((wrap64 ((wrap64 (Int.tdiv a1 a0_0)) * (wrap64 (a0_0+1))))+(Int.tmod a1 a0_0))),.int .i64 (wrap64 ((wrap64 ((wrap64 ((wrap64 (Int.tdiv a1 a0_0)) * (wrap64 (a0_0+1))))+(Int.tmod a1 a0_0)))+1)),.int .i64 (wrap64 ((wrap64 ((wrap64 ((wrap64 ((wrap64 (Int.tdiv a1 a0_0)) * (wrap64 (a0_0+1))))+(Int.tmod a1 a0_0)))+a0_0))+2)),.int .i64 (wrap64 ((wrap64 ((wrap64 ((wrap64 ((wrap64 (Int.tdiv a1 a0_0)) * (wrap64 (a0_0+1))))+(Int.tmod a1 a0_0)))+a0_0))+1))] (0,0) _ rfl (by refine blkW ?_;exact blk_puts4 (blk_up BK247.out)) Try.underlying75 rfl (by kernel_rfl)) rfl ?_;exact ⟨er_,hb_⟩

/-! ### h02_Sea: function 98 -/
def h02_Sea.l0:Nat→S75→Int→Int→Int→List Int→Option (Bool)
 | 0,_,_,_,_,_=>none
 | k+1,x9,x10,x249000,x249001,x249002=>if x10<4 then (if 0≤x10 then (if 0≤(ix75 x9 x10) then (if (ix75 x9 x10)<(x249002.length:Int) then (if (rd x249002 (ix75 x9 x10)) > 2 then (some false) else (h02_Sea.l0 k x9 (wrap64 (x10+1)) x249000 x249001 x249002)) else (none)) else (none)) else (none)) else (some true)
def h02_Sea.f (k:Nat) (a0_0:Int) (a0_1:Int) (l0_2:List Int) (a1:Int):Option (Bool):=(h02_Places.f a0_0 a0_1 l0_2 a1).bind fun t249=>(h02_Sea.l0 k t249 0 a0_0 a0_1 l0_2)
theorem h02_Sea.mono_l:∀ k,(∀ y0 y1 y2 y3 y4,LeO (h02_Sea.l0 k y0 y1 y2 y3 y4) (h02_Sea.l0 (k+1) y0 y1 y2 y3 y4))
 | 0=>fun _ _ _ _ _ r h=>by simp [h02_Sea.l0] at h
 | k+1=>by
  have ih0:=h02_Sea.mono_l k
  ·intro y0 y1 y2 y3 y4;unfold h02_Sea.l0;repeat' with_reducible first|exact ih0 _ _ _ _ _|apply lr_|apply ln_|apply li_|refine lb_ ?_ fun _=>?_
theorem h02_Sea.mono:∀ a0 a1 a2 a3 k,LeO (h02_Sea.f k a0 a1 a2 a3) (h02_Sea.f (k+1) a0 a1 a2 a3):=by
 intro a0 a1 a2 a3 k;have ih0:=h02_Sea.mono_l k;unfold h02_Sea.f;repeat' with_reducible first|exact ih0 _ _ _ _ _|apply lr_|apply ln_|apply li_|refine lb_ ?_ fun _=>?_
theorem h02_Sea.calls (k:Nat) (a0_0:Int) (a0_1:Int) (A0_2:Option Addr) (c0_2:Nat) (l0_2:List Int) (a1:Int) (r:Bool) (w:World) (hr0_2:Kd.C (Kd.int .i64) w A0_2 l0_2.length l0_2) (hc0_2:l0_2.length≤c0_2) (h:h02_Sea.f k a0_0 a0_1 l0_2 a1=some r) :
  Calls Try.prog 98 #[.agg #[.int .i64 a0_0,.int .i64 a0_1,.slice A0_2 l0_2.length c0_2],.int .i64 a1] w fun e w'=>e=.returned (.bool r)∧Below w.heap.size w w':=by
 have hu58:=Try.underlying58;have hu75:=Try.underlying75;have HR0_2:=am_ hr0_2;have HC0_2:=am_ hc0_2;clear hr0_2 hc0_2;have HB:=am_ (Below.refl w.heap.size w);have H:=h;clear h;unfold h02_Sea.f at H;obtain ⟨t249,A3,H⟩:=bnd H;have H':=am_ H;clear H;go_enter Try.func98,Try.ntmps98;go_wp2_with (first|((with_reducible refine gate_dst (N:=2) rfl ?_);refine box_ev (N:=2) (cs:=#[.int .i64 a0_0,.int .i64 a0_1,.slice A0_2 l0_2.length c0_2]) (t:=58) ?_;intro gb248 hg w4 hbox hb;have BK248:=am_ hbox;have GW248:=gsz (w:=w) hg;have GE248:=GW248;replace HB:=hbs hb;clear hb hbox hg;obtain ⟨_,_,_,_,_,_⟩:=cells3 BK248.out)|((with_reducible refine gate_callee (f:=99) rfl ?_);refine goesL_ (some 9) rfl rfl Try.func99 (by kernel_rfl) rfl #[.agg #[.int .i64 a0_0,.int .i64 a0_1,.slice A0_2 l0_2.length c0_2],.int .i64 a1] rfl ga_ ?_;(with_reducible refine (h02_Places.calls a0_0 a0_1 _ _ l0_2 a1 t249 _ ?_ ?_ A3.out).mono ?_);exact cq HR0_2;exact HC0_2.out;rintro e w6 ⟨rfl,hb⟩;refine ⟨_,rfl,?_⟩;replace BK248:=bkb BK248 hb;replace HB:=hbs hb))
 go_loopg [10] k (fun kq v10 w'=>∃ (x10_1:Int),v10=.int .i64 x10_1∧Aside0 (h02_Sea.l0 kq t249 x10_1 a0_0 a0_1 l0_2=some r)∧Aside0 (kq≤k)∧Aside0 (w'.heap[gb248]?=some (.cells #[.int .i64 a0_0,.int .i64 a0_1,(.slice A0_2 l0_2.length c0_2)] 58 (0,0)))∧Aside0 (Below w.heap.size w w'))
 case atStart=>exact ⟨(0),fr_,H',⟨Nat.le_refl _⟩,⟨blk_up BK248.out⟩,⟨hb_⟩⟩
 case round =>
  clear H';obtain ⟨x10_1,rfl,HA,HK1,BK248,HB⟩:=hrel;cases gk with
  | zero=>exact absurd HA.out (by simp [h02_Sea.l0])
  | succ k1 =>
   have H:=HA.out;clear HA;simp only [h02_Sea.l0] at H;by_cases c7:x10_1<4;rotate_left
   ·rw [if_neg c7] at H;have c7b0:=df_ c7;clear c7;obtain rfl:=oj_ H;go_wp2
    go_ret
    exact ⟨er_,hb_⟩
   rw [if_pos c7] at H;have c7b0:=dt_ c7;clear c7;obtain ⟨c8,H⟩:=ifp_ H;have c8b0:=dt_ c8;clear c8;have hix9:=fun (W_:World)=>(ix75_run t249.f0 t249.f1 t249.f2 t249.f3 x10_1 (ofd) (ofd) W_:(Instr.index 75 (.agg #[.int .i64 t249.f0,.int .i64 t249.f1,.int .i64 t249.f2,.int .i64 t249.f3]) (.int .i64 x10_1)).run Try.prog W_=.ok (.int .i64 (ix75 t249 x10_1)) W_)
   obtain ⟨c10,H⟩:=ifp_ H;have c10b0:=dt_ c10;clear c10;obtain ⟨c11,H⟩:=ifp_ H;have c11b0:=dt_ c11;clear c11;by_cases c12:(rd l0_2 (ix75 t249 x10_1)) > 2
   ·rw [if_pos c12] at H;have c12b0:=dt_ c12;clear c12;obtain rfl:=oj_ H;obtain ⟨_,_,_,_,_,_⟩:=cells3 BK248.out;have p250:0≤((ix75 t249 x10_1):Int):=ofd;have q250:(ix75 t249 x10_1)<(l0_2.length:Int):=ofd;obtain ⟨ad250,e250,hx250_0⟩:=Kd.at_int HR0_2.out (ix75 t249 x10_1) p250 q250;cases e250;replace hx250_0:=hbc HB hx250_0;replace p250:=eq_true p250;replace q250:=eq_true q250;go_wp2
    go_ret
    exact ⟨er_,hb_⟩
   ·rw [if_neg c12] at H;have c12b0:=df_ c12;clear c12;have H':=am_ H;clear H;obtain ⟨_,_,_,_,_,_⟩:=cells3 BK248.out;have p250:0≤((ix75 t249 x10_1):Int):=ofd;have q250:(ix75 t249 x10_1)<(l0_2.length:Int):=ofd;obtain ⟨ad250,e250,hx250_0⟩:=Kd.at_int HR0_2.out (ix75 t249 x10_1) p250 q250;cases e250;replace hx250_0:=hbc HB hx250_0;replace p250:=eq_true p250;replace q250:=eq_true q250;go_wp2
    go_roundg k1
    case measure=>have:=HK1.out;omega
    case rel=>exact ⟨(wrap64 (x10_1+1)),fr_,H',⟨by have:=HK1.out;omega⟩,⟨blk_up BK248.out⟩,⟨hb_⟩⟩

/-! ### h02_Water: function 82 -/
def h02_Water.f (k:Nat) (a0_0:Int) (a0_1:Int) (l0_2:List Int) (a1:Int):Option (Bool × Int):=(h02_Validate.f k a0_0 a0_1 l0_2).bind fun t252=>(if t252=0 then ((h02_Is.f a0_0 a0_1 l0_2 a1).bind fun t253=>(if t253=true then ((h02_Sea.f k a0_0 a0_1 l0_2 a1).bind fun t254=>(some (t254,0))) else (some (false,2)))) else (some (false,t252)))
theorem h02_Water.mono:∀ a0 a1 a2 a3 k,LeO (h02_Water.f k a0 a1 a2 a3) (h02_Water.f (k+1) a0 a1 a2 a3):=by
 intro a0 a1 a2 a3 k;unfold h02_Water.f;repeat' with_reducible first|apply h02_Sea.mono|apply h02_Validate.mono|apply lr_|apply ln_|apply li_|refine lb_ ?_ fun _=>?_
theorem h02_Water.calls (k:Nat) (a0_0:Int) (a0_1:Int) (A0_2:Option Addr) (c0_2:Nat) (l0_2:List Int) (a1:Int) (r1:Bool) (r2:Int) (w:World) (hr0_2:Kd.C (Kd.int .i64) w A0_2 l0_2.length l0_2) (hc0_2:l0_2.length≤c0_2) (h:h02_Water.f k a0_0 a0_1 l0_2 a1=some (r1,r2)) :
  Calls Try.prog 82 #[.agg #[.int .i64 a0_0,.int .i64 a0_1,.slice A0_2 l0_2.length c0_2],.int .i64 a1] w fun e w'=>e=.returned (.tuple #[.bool r1,.int .i64 r2])∧Below w.heap.size w w':=by
 have hu58:=Try.underlying58;have HR0_2:=am_ hr0_2;have HC0_2:=am_ hc0_2;clear hr0_2 hc0_2;have HB:=am_ (Below.refl w.heap.size w);have H:=h;clear h;unfold h02_Water.f at H;obtain ⟨t252,A3,H⟩:=bnd H;by_cases c4:t252=0;rotate_left
 ·rw [if_neg c4] at H;have c4b0:=bqf c4;have c4b1:=bnt c4;simp only [Option.some.injEq,Prod.mk.injEq] at H;obtain ⟨rfl,rfl⟩:=H;go_enter Try.func82,Try.ntmps82;go_wp2_with (first|((with_reducible refine gate_dst (N:=2) rfl ?_);refine box_ev (N:=2) (cs:=#[.int .i64 a0_0,.int .i64 a0_1,.slice A0_2 l0_2.length c0_2]) (t:=58) ?_;intro gb251 hg w20 hbox hb;have BK251:=am_ hbox;have GW251:=gsz (w:=w) hg;have GE251:=GW251;replace HB:=hbs hb;clear hb hbox hg;obtain ⟨_,_,_,_,_,_⟩:=cells3 BK251.out)|((with_reducible refine gate_callee (f:=80) rfl ?_);refine goesL_ (some 8) rfl rfl Try.func80 (by kernel_rfl) rfl #[.agg #[.int .i64 a0_0,.int .i64 a0_1,.slice A0_2 l0_2.length c0_2]] rfl ga_ ?_;(with_reducible refine (h02_Validate.calls k a0_0 a0_1 _ _ l0_2 t252 _ ?_ ?_ A3.out).mono ?_);exact cq HR0_2;exact HC0_2.out;rintro e w22 ⟨rfl,hb⟩;refine ⟨_,rfl,?_⟩;replace BK251:=bkb BK251 hb;replace HB:=hbs hb))
  go_ret2
  exact ⟨er_,hb_⟩
 rw [if_pos c4] at H;have c4b0:=bqt c4;have c4b1:=bnf c4;clear c4;obtain ⟨t253,A5,H⟩:=bnd H;by_cases c6:t253=true
 ·subst c6;rw [if_pos rfl] at H;obtain ⟨t254,A7,H⟩:=bnd H;simp only [Option.some.injEq,Prod.mk.injEq] at H;obtain ⟨rfl,rfl⟩:=H;go_enter Try.func82,Try.ntmps82;go_wp2_with (first|((with_reducible refine gate_dst (N:=2) rfl ?_);refine box_ev (N:=2) (cs:=#[.int .i64 a0_0,.int .i64 a0_1,.slice A0_2 l0_2.length c0_2]) (t:=58) ?_;intro gb251 hg w8 hbox hb;have BK251:=am_ hbox;have GW251:=gsz (w:=w) hg;have GE251:=GW251;replace HB:=hbs hb;clear hb hbox hg;obtain ⟨_,_,_,_,_,_⟩:=cells3 BK251.out)|((with_reducible refine gate_callee (f:=80) rfl ?_);refine goesL_ (some 8) rfl rfl Try.func80 (by kernel_rfl) rfl #[.agg #[.int .i64 a0_0,.int .i64 a0_1,.slice A0_2 l0_2.length c0_2]] rfl ga_ ?_;(with_reducible refine (h02_Validate.calls k a0_0 a0_1 _ _ l0_2 t252 _ ?_ ?_ A3.out).mono ?_);exact cq HR0_2;exact HC0_2.out;rintro e w10 ⟨rfl,hb⟩;refine ⟨_,rfl,?_⟩;replace BK251:=bkb BK251 hb;replace HB:=hbs hb;obtain ⟨_,_,_,_,_,_⟩:=cells3 BK251.out)|((with_reducible refine gate_callee (f:=83) rfl ?_);refine goesL_ (some 14) rfl rfl Try.func83 (by kernel_rfl) rfl #[.agg #[.int .i64 a0_0,.int .i64 a0_1,.slice A0_2 l0_2.length c0_2],.int .i64 a1] rfl ga_ ?_;(with_reducible refine (h02_Is.calls a0_0 a0_1 _ _ l0_2 a1 true _ ?_ ?_ A5.out).mono ?_);exact cq HR0_2;exact HC0_2.out;rintro e w12 ⟨rfl,hb⟩;refine ⟨_,rfl,?_⟩;replace BK251:=bkb BK251 hb;replace HB:=hbs hb;obtain ⟨_,_,_,_,_,_⟩:=cells3 BK251.out)|((with_reducible refine gate_callee (f:=98) rfl ?_);refine goesL_ (some 18) rfl rfl Try.func98 (by kernel_rfl) rfl #[.agg #[.int .i64 a0_0,.int .i64 a0_1,.slice A0_2 l0_2.length c0_2],.int .i64 a1] rfl ga_ ?_;(with_reducible refine (h02_Sea.calls k a0_0 a0_1 _ _ l0_2 a1 t254 _ ?_ ?_ A7.out).mono ?_);exact cq HR0_2;exact HC0_2.out;rintro e w14 ⟨rfl,hb⟩;refine ⟨_,rfl,?_⟩;replace BK251:=bkb BK251 hb;replace HB:=hbs hb))
  go_ret2
  exact ⟨er_,hb_⟩
 ·replace c6:=Bool.eq_false_iff.mpr c6;subst c6;rw [if_neg (show ¬ (false=true) by decide)] at H;simp only [Option.some.injEq,Prod.mk.injEq] at H;obtain ⟨rfl,rfl⟩:=H;go_enter Try.func82,Try.ntmps82;go_wp2_with (first|((with_reducible refine gate_dst (N:=2) rfl ?_);refine box_ev (N:=2) (cs:=#[.int .i64 a0_0,.int .i64 a0_1,.slice A0_2 l0_2.length c0_2]) (t:=58) ?_;intro gb251 hg w15 hbox hb;have BK251:=am_ hbox;have GW251:=gsz (w:=w) hg;have GE251:=GW251;replace HB:=hbs hb;clear hb hbox hg;obtain ⟨_,_,_,_,_,_⟩:=cells3 BK251.out)|((with_reducible refine gate_callee (f:=80) rfl ?_);refine goesL_ (some 8) rfl rfl Try.func80 (by kernel_rfl) rfl #[.agg #[.int .i64 a0_0,.int .i64 a0_1,.slice A0_2 l0_2.length c0_2]] rfl ga_ ?_;(with_reducible refine (h02_Validate.calls k a0_0 a0_1 _ _ l0_2 t252 _ ?_ ?_ A3.out).mono ?_);exact cq HR0_2;exact HC0_2.out;rintro e w17 ⟨rfl,hb⟩;refine ⟨_,rfl,?_⟩;replace BK251:=bkb BK251 hb;replace HB:=hbs hb;obtain ⟨_,_,_,_,_,_⟩:=cells3 BK251.out)|((with_reducible refine gate_callee (f:=83) rfl ?_);refine goesL_ (some 14) rfl rfl Try.func83 (by kernel_rfl) rfl #[.agg #[.int .i64 a0_0,.int .i64 a0_1,.slice A0_2 l0_2.length c0_2],.int .i64 a1] rfl ga_ ?_;(with_reducible refine (h02_Is.calls a0_0 a0_1 _ _ l0_2 a1 false _ ?_ ?_ A5.out).mono ?_);exact cq HR0_2;exact HC0_2.out;rintro e w19 ⟨rfl,hb⟩;refine ⟨_,rfl,?_⟩;replace BK251:=bkb BK251 hb;replace HB:=hbs hb))
  go_ret2
  exact ⟨er_,hb_⟩

/-! ### h11_wet: function 60 -/
def h11_wet.f (k:Nat) (a0_0:Int) (a0_1:Int) (l0_2:List Int) (a1:Int):Option (Bool):=(h02_Water.f k a0_0 a0_1 l0_2 a1).bind fun bt256=>(some bt256.1)
theorem h11_wet.mono:∀ a0 a1 a2 a3 k,LeO (h11_wet.f k a0 a1 a2 a3) (h11_wet.f (k+1) a0 a1 a2 a3):=by
 intro a0 a1 a2 a3 k;unfold h11_wet.f;repeat' with_reducible first|apply h02_Water.mono|apply lr_|apply ln_|apply li_|refine lb_ ?_ fun _=>?_
theorem h11_wet.calls (k:Nat) (a0_0:Int) (a0_1:Int) (A0_2:Option Addr) (c0_2:Nat) (l0_2:List Int) (a1:Int) (r:Bool) (w:World) (hr0_2:Kd.C (Kd.int .i64) w A0_2 l0_2.length l0_2) (hc0_2:l0_2.length≤c0_2) (h:h11_wet.f k a0_0 a0_1 l0_2 a1=some r) :
  Calls Try.prog 60 #[.agg #[.int .i64 a0_0,.int .i64 a0_1,.slice A0_2 l0_2.length c0_2],.int .i64 a1] w fun e w'=>e=.returned (.bool r)∧Below w.heap.size w w':=by
 have hu58:=Try.underlying58;have HR0_2:=am_ hr0_2;have HC0_2:=am_ hc0_2;clear hr0_2 hc0_2;have HB:=am_ (Below.refl w.heap.size w);have H:=h;clear h;unfold h11_wet.f at H;obtain ⟨⟨t256,t257⟩,A3,H⟩:=bnd H;(try dsimp only at H);obtain rfl:=oj_ H;go_enter Try.func60,Try.ntmps60;go_wp2_with (first|((with_reducible refine gate_dst (N:=2) rfl ?_);refine box_ev (N:=2) (cs:=#[.int .i64 a0_0,.int .i64 a0_1,.slice A0_2 l0_2.length c0_2]) (t:=58) ?_;intro gb255 hg w4 hbox hb;have BK255:=am_ hbox;have GW255:=gsz (w:=w) hg;have GE255:=GW255;replace HB:=hbs hb;clear hb hbox hg;obtain ⟨_,_,_,_,_,_⟩:=cells3 BK255.out)|((with_reducible refine gate_callee (f:=82) rfl ?_);refine goesL_ (some 10) rfl rfl Try.func82 (by kernel_rfl) rfl #[.agg #[.int .i64 a0_0,.int .i64 a0_1,.slice A0_2 l0_2.length c0_2],.int .i64 a1] rfl ga_ ?_;(with_reducible refine (h02_Water.calls k a0_0 a0_1 _ _ l0_2 a1 t256 t257 _ ?_ ?_ A3.out).mono ?_);exact cq HR0_2;exact HC0_2.out;rintro e w6 ⟨rfl,hb⟩;refine ⟨_,rfl,?_⟩;replace BK255:=bkb BK255 hb;replace HB:=hbs hb))
 go_ret
 exact ⟨er_,hb_⟩

/-! ### h11_held: function 61 -/
def h11_held.l0:Nat→Int→Int→Int→Int→List Int→Int→Int→List Int→List Int→List Int→Option (Bool)
 | 0,_,_,_,_,_,_,_,_,_,_=>none
 | k+1,x1,x5,x259000,x259001,x259002,x259003,x259004,x259005,x259006,x259007=>if x5<(x259007.length:Int) then (if 0≤x5 then (if (rd x259007 x5)=x1 then (some true) else (h11_held.l0 k x1 (wrap64 (x5+1)) x259000 x259001 x259002 x259003 x259004 x259005 x259006 x259007)) else (none)) else (some false)
def h11_held.f (k:Nat) (a0_0:Int) (a0_1:Int) (l0_2:List Int) (a0_3:Int) (a0_4:Int) (l0_5:List Int) (l0_6:List Int) (l0_7:List Int) (a1:Int):Option (Bool):=h11_held.l0 k a1 0 a0_0 a0_1 l0_2 a0_3 a0_4 l0_5 l0_6 l0_7
theorem h11_held.mono_l:∀ k,(∀ y0 y1 y2 y3 y4 y5 y6 y7 y8 y9,LeO (h11_held.l0 k y0 y1 y2 y3 y4 y5 y6 y7 y8 y9) (h11_held.l0 (k+1) y0 y1 y2 y3 y4 y5 y6 y7 y8 y9))
 | 0=>fun _ _ _ _ _ _ _ _ _ _ r h=>by simp [h11_held.l0] at h
 | k+1=>by
  have ih0:=h11_held.mono_l k
  ·intro y0 y1 y2 y3 y4 y5 y6 y7 y8 y9;unfold h11_held.l0;repeat' with_reducible first|exact ih0 _ _ _ _ _ _ _ _ _ _|apply lr_|apply ln_|apply li_|refine lb_ ?_ fun _=>?_
theorem h11_held.mono:∀ a0 a1 a2 a3 a4 a5 a6 a7 a8 k,LeO (h11_held.f k a0 a1 a2 a3 a4 a5 a6 a7 a8) (h11_held.f (k+1) a0 a1 a2 a3 a4 a5 a6 a7 a8):=by
 intro a0 a1 a2 a3 a4 a5 a6 a7 a8 k;have ih0:=h11_held.mono_l k;unfold h11_held.f;repeat' with_reducible first|exact ih0 _ _ _ _ _ _ _ _ _ _|apply lr_|apply ln_|apply li_|refine lb_ ?_ fun _=>?_
theorem h11_held.calls (k:Nat) (a0_0:Int) (a0_1:Int) (A0_2:Option Addr) (c0_2:Nat) (l0_2:List Int) (a0_3:Int) (a0_4:Int) (A0_5:Option Addr) (c0_5:Nat) (l0_5:List Int) (A0_6:Option Addr) (c0_6:Nat) (l0_6:List Int) (A0_7:Option Addr) (c0_7:Nat) (l0_7:List Int) (a1:Int) (r:Bool) (w:World) (hr0_2:Kd.C (Kd.int .i64) w A0_2 l0_2.length l0_2) (hc0_2:l0_2.length≤c0_2) (hr0_5:Kd.C (Kd.int .i64) w A0_5 l0_5.length l0_5) (hc0_5:l0_5.length≤c0_5) (hr0_6:Kd.C (Kd.int .i64) w A0_6 l0_6.length l0_6) (hc0_6:l0_6.length≤c0_6) (hr0_7:Kd.C (Kd.int .i64) w A0_7 l0_7.length l0_7) (hc0_7:l0_7.length≤c0_7) (h:h11_held.f k a0_0 a0_1 l0_2 a0_3 a0_4 l0_5 l0_6 l0_7 a1=some r) :
  Calls Try.prog 61 #[.agg #[.int .i64 a0_0,.int .i64 a0_1,.slice A0_2 l0_2.length c0_2,.int .i64 a0_3,.int .i64 a0_4,.slice A0_5 l0_5.length c0_5,.slice A0_6 l0_6.length c0_6,.slice A0_7 l0_7.length c0_7],.int .i64 a1] w fun e w'=>e=.returned (.bool r)∧Below w.heap.size w w':=by
 have hu62:=Try.underlying62;have HR0_2:=am_ hr0_2;have HC0_2:=am_ hc0_2;clear hr0_2 hc0_2;have HR0_5:=am_ hr0_5;have HC0_5:=am_ hc0_5;clear hr0_5 hc0_5;have HR0_6:=am_ hr0_6;have HC0_6:=am_ hc0_6;clear hr0_6 hc0_6;have HR0_7:=am_ hr0_7;have HC0_7:=am_ hc0_7;clear hr0_7 hc0_7;have HB:=am_ (Below.refl w.heap.size w);have H:=h;clear h;unfold h11_held.f at H;have H':=am_ H;clear H;go_enter Try.func61,Try.ntmps61;go_wp2_with (first|((with_reducible refine gate_dst (N:=2) rfl ?_);refine box_ev (N:=2) (cs:=#[.int .i64 a0_0,.int .i64 a0_1,.slice A0_2 l0_2.length c0_2,.int .i64 a0_3,.int .i64 a0_4,.slice A0_5 l0_5.length c0_5,.slice A0_6 l0_6.length c0_6,.slice A0_7 l0_7.length c0_7]) (t:=62) ?_;intro gb258 hg w3 hbox hb;have BK258:=am_ hbox;have GW258:=gsz (w:=w) hg;have GE258:=GW258;replace HB:=hbs hb;clear hb hbox hg))
 go_loopg [5] k (fun kq v5 w'=>∃ (x5_1:Int),v5=.int .i64 x5_1∧Aside0 (h11_held.l0 kq a1 x5_1 a0_0 a0_1 l0_2 a0_3 a0_4 l0_5 l0_6 l0_7=some r)∧Aside0 (kq≤k)∧Aside0 (w'.heap[gb258]?=some (.cells #[.int .i64 a0_0,.int .i64 a0_1,(.slice A0_2 l0_2.length c0_2),.int .i64 a0_3,.int .i64 a0_4,(.slice A0_5 l0_5.length c0_5),(.slice A0_6 l0_6.length c0_6),(.slice A0_7 l0_7.length c0_7)] 62 (0,0)))∧Aside0 (Below w.heap.size w w'))
 case atStart=>exact ⟨(0),fr_,H',⟨Nat.le_refl _⟩,⟨blk_up BK258.out⟩,⟨hb_⟩⟩
 case round =>
  clear H';obtain ⟨x5_1,rfl,HA,HK1,BK258,HB⟩:=hrel;cases gk with
  | zero=>exact absurd HA.out (by simp [h11_held.l0])
  | succ k1 =>
   have H:=HA.out;clear HA;simp only [h11_held.l0] at H;by_cases c4:x5_1<(l0_7.length:Int);rotate_left
   ·rw [if_neg c4] at H;have c4b0:=df_ c4;clear c4;obtain rfl:=oj_ H;obtain ⟨_,_,_,_,_,_,_,_,_,_,_,_,_,_,_,_⟩:=cells8 BK258.out;go_wp2
    go_ret
    exact ⟨er_,hb_⟩
   rw [if_pos c4] at H;have c4b0:=dt_ c4;clear c4;obtain ⟨c5,H⟩:=ifp_ H;have c5b0:=dt_ c5;clear c5;by_cases c6:(rd l0_7 x5_1)=a1
   ·rw [if_pos c6] at H;have c6b0:=bqt c6;have c6b1:=bnf c6;clear c6;obtain rfl:=oj_ H;obtain ⟨_,_,_,_,_,_,_,_,_,_,_,_,_,_,_,_⟩:=cells8 BK258.out;have p259:0≤(x5_1:Int):=ofd;have q259:x5_1<(l0_7.length:Int):=ofd;obtain ⟨ad259,e259,hx259_0⟩:=Kd.at_int HR0_7.out x5_1 p259 q259;cases e259;replace hx259_0:=hbc HB hx259_0;replace p259:=eq_true p259;replace q259:=eq_true q259;go_wp2
    go_ret
    exact ⟨er_,hb_⟩
   ·rw [if_neg c6] at H;have c6b0:=bqf c6;have c6b1:=bnt c6;have H':=am_ H;clear H;obtain ⟨_,_,_,_,_,_,_,_,_,_,_,_,_,_,_,_⟩:=cells8 BK258.out;have p259:0≤(x5_1:Int):=ofd;have q259:x5_1<(l0_7.length:Int):=ofd;obtain ⟨ad259,e259,hx259_0⟩:=Kd.at_int HR0_7.out x5_1 p259 q259;cases e259;replace hx259_0:=hbc HB hx259_0;replace p259:=eq_true p259;replace q259:=eq_true q259;go_wp2
    go_roundg k1
    case measure=>have:=HK1.out;omega
    case rel=>exact ⟨(wrap64 (x5_1+1)),fr_,H',⟨by have:=HK1.out;omega⟩,⟨blk_up BK258.out⟩,⟨hb_⟩⟩

/-! ### h11_has: function 62 -/
def h11_has.l0:Nat→Int→Int→Int→List (S68)→List Int→Int→Int→Option (Bool)
 | 0,_,_,_,_,_,_,_=>none
 | k+1,x1,x5,x261000,x261001,x261002,x261003,x261004=>if x5<(x261001.length:Int) then (if 0≤x5 then (if ((rd_T68 x261001 x5).f0)=x1 then (some true) else (h11_has.l0 k x1 (wrap64 (x5+1)) x261000 x261001 x261002 x261003 x261004)) else (none)) else (some false)
def h11_has.f (k:Nat) (a0_0:Int) (l0_1:List (S68)) (l0_2:List Int) (a0_3:Int) (a0_4:Int) (a1:Int):Option (Bool):=h11_has.l0 k a1 0 a0_0 l0_1 l0_2 a0_3 a0_4
theorem h11_has.mono_l:∀ k,(∀ y0 y1 y2 y3 y4 y5 y6,LeO (h11_has.l0 k y0 y1 y2 y3 y4 y5 y6) (h11_has.l0 (k+1) y0 y1 y2 y3 y4 y5 y6))
 | 0=>fun _ _ _ _ _ _ _ r h=>by simp [h11_has.l0] at h
 | k+1=>by
  have ih0:=h11_has.mono_l k
  ·intro y0 y1 y2 y3 y4 y5 y6;unfold h11_has.l0;repeat' with_reducible first|exact ih0 _ _ _ _ _ _ _|apply lr_|apply ln_|apply li_|refine lb_ ?_ fun _=>?_
theorem h11_has.mono:∀ a0 a1 a2 a3 a4 a5 k,LeO (h11_has.f k a0 a1 a2 a3 a4 a5) (h11_has.f (k+1) a0 a1 a2 a3 a4 a5):=by
 intro a0 a1 a2 a3 a4 a5 k;have ih0:=h11_has.mono_l k;unfold h11_has.f;repeat' with_reducible first|exact ih0 _ _ _ _ _ _ _|apply lr_|apply ln_|apply li_|refine lb_ ?_ fun _=>?_
theorem h11_has.calls (k:Nat) (a0_0:Int) (A0_1:Option Addr) (c0_1:Nat) (l0_1:List (S68)) (A0_2:Option Addr) (c0_2:Nat) (l0_2:List Int) (a0_3:Int) (a0_4:Int) (a1:Int) (r:Bool) (w:World) (hr0_1:Kd.C k68 w A0_1 l0_1.length l0_1) (hc0_1:l0_1.length≤c0_1) (hr0_2:Kd.C (Kd.int .i64) w A0_2 l0_2.length l0_2) (hc0_2:l0_2.length≤c0_2) (h:h11_has.f k a0_0 l0_1 l0_2 a0_3 a0_4 a1=some r) :
  Calls Try.prog 62 #[.agg #[.int .i64 a0_0,.slice A0_1 l0_1.length c0_1,.slice A0_2 l0_2.length c0_2,.int .i64 a0_3,.int .i64 a0_4],.int .i64 a1] w fun e w'=>e=.returned (.bool r)∧Below w.heap.size w w':=by
 have hu25:=Try.underlying25;have HR0_1:=am_ hr0_1;have HC0_1:=am_ hc0_1;clear hr0_1 hc0_1;have HR0_2:=am_ hr0_2;have HC0_2:=am_ hc0_2;clear hr0_2 hc0_2;have HB:=am_ (Below.refl w.heap.size w);have H:=h;clear h;unfold h11_has.f at H;have H':=am_ H;clear H;go_enter Try.func62,Try.ntmps62;go_wp2_with (first|((with_reducible refine gate_dst (N:=2) rfl ?_);refine box_ev (N:=2) (cs:=#[.int .i64 a0_0,.slice A0_1 l0_1.length c0_1,.slice A0_2 l0_2.length c0_2,.int .i64 a0_3,.int .i64 a0_4]) (t:=25) ?_;intro gb260 hg w3 hbox hb;have BK260:=am_ hbox;have GW260:=gsz (w:=w) hg;have GE260:=GW260;replace HB:=hbs hb;clear hb hbox hg))
 go_loopg [5] k (fun kq v5 w'=>∃ (x5_1:Int),v5=.int .i64 x5_1∧Aside0 (h11_has.l0 kq a1 x5_1 a0_0 l0_1 l0_2 a0_3 a0_4=some r)∧Aside0 (kq≤k)∧Aside0 (w'.heap[gb260]?=some (.cells #[.int .i64 a0_0,(.slice A0_1 l0_1.length c0_1),(.slice A0_2 l0_2.length c0_2),.int .i64 a0_3,.int .i64 a0_4] 25 (0,0)))∧Aside0 (Below w.heap.size w w'))
 case atStart=>exact ⟨(0),fr_,H',⟨Nat.le_refl _⟩,⟨blk_up BK260.out⟩,⟨hb_⟩⟩
 case round =>
  clear H';obtain ⟨x5_1,rfl,HA,HK1,BK260,HB⟩:=hrel;cases gk with
  | zero=>exact absurd HA.out (by simp [h11_has.l0])
  | succ k1 =>
   have H:=HA.out;clear HA;simp only [h11_has.l0] at H;by_cases c4:x5_1<(l0_1.length:Int);rotate_left
   ·rw [if_neg c4] at H;have c4b0:=df_ c4;clear c4;obtain rfl:=oj_ H;obtain ⟨_,_,_,_,_,_,_,_,_,_⟩:=cells5 BK260.out;go_wp2
    go_ret
    exact ⟨er_,hb_⟩
   rw [if_pos c4] at H;have c4b0:=dt_ c4;clear c4;obtain ⟨c5,H⟩:=ifp_ H;have c5b0:=dt_ c5;clear c5;by_cases c6:((rd_T68 l0_1 x5_1).f0)=a1
   ·rw [if_pos c6] at H;have c6b0:=bqt c6;have c6b1:=bnf c6;clear c6;obtain rfl:=oj_ H;obtain ⟨_,_,_,_,_,_,_,_,_,_⟩:=cells5 BK260.out;have p261:0≤(x5_1:Int):=ofd;have q261:x5_1<(l0_1.length:Int):=ofd;obtain ⟨ad261,e261,hx261_0,hx261_1,hx261_2⟩:=at_T68 HR0_1.out x5_1 p261 q261;cases e261;replace hx261_0:=hbc HB hx261_0;replace hx261_1:=hbc HB hx261_1;replace hx261_2:=hbc HB hx261_2;replace p261:=eq_true p261;replace q261:=eq_true q261;go_wp2
    go_ret
    exact ⟨er_,hb_⟩
   ·rw [if_neg c6] at H;have c6b0:=bqf c6;have c6b1:=bnt c6;have H':=am_ H;clear H;obtain ⟨_,_,_,_,_,_,_,_,_,_⟩:=cells5 BK260.out;have p261:0≤(x5_1:Int):=ofd;have q261:x5_1<(l0_1.length:Int):=ofd;obtain ⟨ad261,e261,hx261_0,hx261_1,hx261_2⟩:=at_T68 HR0_1.out x5_1 p261 q261;cases e261;replace hx261_0:=hbc HB hx261_0;replace hx261_1:=hbc HB hx261_1;replace hx261_2:=hbc HB hx261_2;replace p261:=eq_true p261;replace q261:=eq_true q261;go_wp2
    go_roundg k1
    case measure=>have:=HK1.out;omega
    case rel=>exact ⟨(wrap64 (x5_1+1)),fr_,H',⟨by have:=HK1.out;omega⟩,⟨blk_up BK260.out⟩,⟨hb_⟩⟩

/-! ### h11_pave: function 63 -/
def h11_pave.f (a0_0:Int) (a0_1:Int) (l0_2:List Int) (l0_3:List Int) (a1:Int) (a2:Int):Option (List Int × List Int):=if 0≤a1 then (if a1<(l0_2.length:Int) then (if (Go.bits .or .i64 (rd l0_2 a1) a2)=(rd l0_2 a1) then (some (l0_2,l0_3)) else (if a1<(l0_3.length:Int) then (some ((l0_2.set (a1:Int).toNat (Go.bits .or .i64 (rd l0_2 a1) a2)),(l0_3.set (a1:Int).toNat 0))) else (none))) else (none)) else (none)
theorem h11_pave.calls (a0_0:Int) (a0_1:Int) (P0_2_:Nat→Prop) (u9000_:Value) (l0_2:List Int) (P0_3_:Nat→Prop) (u9001_:Value) (l0_3:List Int) (a1:Int) (a2:Int) (r1:List Int) (r2:List Int) (w0 w:World) (hB:Below w0.heap.size w0 w) (ho0_2:Kd.R (Kd.int .i64) 3 w w0.heap.size P0_2_ u9000_ l0_2) (hp0_2_0_3:∀ k_,P0_2_ k_→¬ P0_3_ k_) (ho0_3:Kd.R (Kd.int .i64) 3 w w0.heap.size P0_3_ u9001_ l0_3) (hp0_3_0_2:∀ k_,P0_3_ k_→¬ P0_2_ k_) (h:h11_pave.f a0_0 a0_1 l0_2 l0_3 a1 a2=some (r1,r2)) :
  Calls Try.prog 63 #[.agg #[.int .i64 a0_0,.int .i64 a0_1,u9000_,u9001_],.int .i64 a1,.int .i64 a2] w fun e w'=>e=.returned (.tuple #[])∧Kd.R (Kd.int .i64) 3 w' w0.heap.size (fun k_=>((P0_2_ k_∨P0_3_ k_)∨w.heap.size≤k_)) u9000_ r1∧Kd.R (Kd.int .i64) 3 w' w0.heap.size (fun k_=>((P0_2_ k_∨P0_3_ k_)∨w.heap.size≤k_)) u9001_ r2∧Below w0.heap.size w0 w'∧Kept w w' (fun k_=>P0_2_ k_∨P0_3_ k_):=by
 have hu60:=Try.underlying60;have HO0_2:=am_ (show Kd.R (Kd.int .i64) 3 w w0.heap.size (fun k_=>((P0_2_ k_∨P0_3_ k_)∨w.heap.size≤k_)∧some k_≠(u9001_:Value).ownBlock) u9000_ l0_2 from Kd.R_mono ho0_2 (fun k_ hk=>⟨(.inl (.inl hk)),fun e_=>hp0_2_0_3 k_ hk (ho0_3.1 k_ e_.symm)⟩));have HO0_3:=am_ (show Kd.R (Kd.int .i64) 3 w w0.heap.size (fun k_=>((P0_2_ k_∨P0_3_ k_)∨w.heap.size≤k_)∧some k_≠(u9000_:Value).ownBlock) u9001_ l0_3 from Kd.R_mono ho0_3 (fun k_ hk=>⟨(.inl (.inr hk)),fun e_=>hp0_3_0_2 k_ hk (ho0_2.1 k_ e_.symm)⟩));have HK:=am_ (Kept.refl w (fun k_=>P0_2_ k_∨P0_3_ k_));have HW0:=am_ hB.size;have HB:=am_ hB;clear hB;have H:=h;clear h;unfold h11_pave.f at H;obtain ⟨c4,H⟩:=ifp_ H;have c4b0:=dt_ c4;clear c4;obtain ⟨c5,H⟩:=ifp_ H;have c5b0:=dt_ c5;clear c5;by_cases c6:(Go.bits .or .i64 (rd l0_2 a1) a2)=(rd l0_2 a1)
 ·rw [if_pos c6] at H;have c6b0:=bqt c6;have c6b1:=bnf c6;clear c6;simp only [Option.some.injEq,Prod.mk.injEq] at H;obtain ⟨rfl,rfl⟩:=H;obtain ⟨Ao7,co7,eo7⟩:=Kd.R_slice HO0_2.out;subst eo7;obtain ⟨Ao8,co8,eo8⟩:=Kd.R_slice HO0_3.out;subst eo8;go_enter Try.func63,Try.ntmps63;go_wp2_with (first|((with_reducible refine gate_dst (N:=3) rfl ?_);refine box_ev (N:=3) (cs:=#[.int .i64 a0_0,.int .i64 a0_1,.slice Ao7 l0_2.length co7,.slice Ao8 l0_3.length co8]) (t:=60) ?_;intro gb262 hg w9 hbox hb;have BK262:=am_ hbox;have GW262:=am_ ((by rw [hg];exact (by first|exact HK.out.1|exact (show Kept w _ (fun k_=>P0_2_ k_∨P0_3_ k_) from by repeat (first|(with_reducible first|exact HK.out|apply Kept.alloc|apply Kept.drewN|apply Kept.drew)|exact HK.out)).1):w.heap.size≤gb262));have GE262:Aside0 (w0.heap.size≤gb262):=gsz hg;replace HO0_2:=rbw HO0_2 hb;replace HO0_3:=rbw HO0_3 hb;replace HK:=am_ (Kept.below (S:=(fun k_=>P0_2_ k_∨P0_3_ k_)) (by repeat (first|(with_reducible first|exact HK.out|apply Kept.alloc|apply Kept.drewN|apply Kept.drew)|exact HK.out)) hb);replace HB:=hbs hb;clear hb hbox hg;obtain ⟨_,_,_,_,_,_,_,_⟩:=cells4 BK262.out;have p263:0≤(a1:Int):=ofd;have q263:a1<(l0_2.length:Int):=ofd;obtain ⟨ad263,e263,hx263_0⟩:=Kd.at_int (Kd.R_reads' HO0_2.out).2.2 a1 p263 q263;cases e263;replace p263:=eq_true p263;replace q263:=eq_true q263;have p264:0≤(a1:Int):=ofd;have q264:a1<(l0_2.length:Int):=ofd;obtain ⟨ad264,e264,hx264_0⟩:=Kd.at_int (Kd.R_reads' HO0_2.out).2.2 a1 p264 q264;obtain rfl:ad263=ad264:=(by injection e264);replace p264:=eq_true p264;replace q264:=eq_true q264))
  first|go_end0|((try simp only [Exit.inBlock,Exit.then]);refine bodyPost_ret (results_none rfl _ _ _) rfl ?_)
  exact ⟨er_,by (with_reducible repeat (first|apply Kd.R_alloc|apply Kd.R_drewN|apply Kd.R_drew));exact Kd.R_mono HO0_2.out (fun _ hk=>hk.1),by (with_reducible repeat (first|apply Kd.R_alloc|apply Kd.R_drewN|apply Kd.R_drew));exact Kd.R_mono HO0_3.out (fun _ hk=>hk.1),hb_,by repeat (first|(with_reducible first|exact HK.out|apply Kept.alloc|apply Kept.drewN|apply Kept.drew|refine Kept.setCell ?_ (.inr GW262.out) _)|exact HK.out)⟩
 ·rw [if_neg c6] at H;have c6b0:=bqf c6;have c6b1:=bnt c6;obtain ⟨y265,hy265⟩:∃ y_:List Int,y_=(l0_2.set (a1:Int).toNat (Go.bits .or .i64 (rd l0_2 a1) a2)):=⟨_,rfl⟩;replace H:(if a1<(l0_3.length:Int) then (some (y265,(l0_3.set (a1:Int).toNat 0))) else (none))=some (r1,r2):=hyx hy265 H;have Ny265:=am_ hy265;clear hy265;obtain ⟨c12,H⟩:=ifp_ H;have c12b0:=dt_ c12;clear c12;obtain ⟨y266,hy266⟩:∃ y_:List Int,y_=(l0_3.set (a1:Int).toNat 0):=⟨_,rfl⟩;replace H:(some (y265,y266))=some (r1,r2):=hyx hy266 H;have Ny266:=am_ hy266;clear hy266;simp only [Option.some.injEq,Prod.mk.injEq] at H;obtain ⟨rfl,rfl⟩:=H;obtain ⟨Ao14,co14,eo14⟩:=Kd.R_slice HO0_2.out;subst eo14;obtain ⟨Ao15,co15,eo15⟩:=Kd.R_slice HO0_3.out;subst eo15;go_enter Try.func63,Try.ntmps63
  go_wp2_with (first|((with_reducible refine gate_dst (N:=3) rfl ?_);refine box_ev (N:=3) (cs:=#[.int .i64 a0_0,.int .i64 a0_1,.slice Ao14 l0_2.length co14,.slice Ao15 l0_3.length co15]) (t:=60) ?_;intro gb262 hg w16 hbox hb;have BK262:=am_ hbox;have GW262:=am_ ((by rw [hg];exact (by first|exact HK.out.1|exact (show Kept w _ (fun k_=>P0_2_ k_∨P0_3_ k_) from by repeat (first|(with_reducible first|exact HK.out|apply Kept.alloc|apply Kept.drewN|apply Kept.drew)|exact HK.out)).1):w.heap.size≤gb262));have GE262:Aside0 (w0.heap.size≤gb262):=gsz hg;replace HO0_2:=rbw HO0_2 hb;replace HO0_3:=rbw HO0_3 hb;replace HK:=am_ (Kept.below (S:=(fun k_=>P0_2_ k_∨P0_3_ k_)) (by repeat (first|(with_reducible first|exact HK.out|apply Kept.alloc|apply Kept.drewN|apply Kept.drew)|exact HK.out)) hb);replace HB:=hbs hb;clear hb hbox hg;obtain ⟨_,_,_,_,_,_,_,_⟩:=cells4 BK262.out;have p263:0≤(a1:Int):=ofd;have q263:a1<(l0_2.length:Int):=ofd;obtain ⟨ad263,e263,hx263_0⟩:=Kd.at_int (Kd.R_reads' HO0_2.out).2.2 a1 p263 q263;cases e263;replace p263:=eq_true p263;replace q263:=eq_true q263;have p264:0≤(a1:Int):=ofd;have q264:a1<(l0_2.length:Int):=ofd;obtain ⟨ad264,e264,hx264_0⟩:=Kd.at_int (Kd.R_reads' HO0_2.out).2.2 a1 p264 q264;obtain rfl:ad263=ad264:=(by injection e264);replace p264:=eq_true p264;replace q264:=eq_true q264;have p11:0≤(a1:Int):=ofd;have q11:(a1:Int)<((l0_2.length:Int):Int):=ofd;obtain ⟨go11,co11,eo11,gb11,gl11,cl11,HG11⟩:=Kd.R_form HO0_2.out (by omega);(first|cases eo11|(injection eo11 with ea_ en_ ec_;(first|subst ea_|(injection ea_ with ea_;subst ea_));subst ec_;clear en_));have GB11:=am_ gb11;have GG11:=am_ HG11;clear gb11 gl11 HG11;have HMgo11:=am_ (show ((P0_2_ go11∨P0_3_ go11)∨w.heap.size≤go11) from (HO0_2.out.1 _ rfl).1);(first|simp only [add_plain] at hx263_0|skip);(first|simp only [add_plain] at hx264_0|skip);obtain ⟨hx11_0,hf11_0⟩:=Kd.R_celln 0 HO0_2.out (a1:Int) p11 q11;replace p11:=eq_true p11;replace q11:=eq_true q11;obtain ⟨hy18_,hz18_⟩:=Kd.R_celln 0 HO0_2.out (a1:Int) (ofd) (ofd);have HP18:=Kd.R_putg HO0_2.out (a1:Int) (Go.bits .or .i64 (rd l0_2 a1) a2))|((with_reducible refine gate_store (t:=3) (p:=25) rfl ?_);refine store_event (t:=3) (p:=25) (v:=?vo_w19) (w1:=(w16.setCell ⟨go11,(a1:Int).toNat,none⟩ (.int .i64 (Go.bits .or .i64 (rd l0_2 a1) a2)))) ?hg ?ho ?hn ?hr ?_;(case ho=>rfl);(case hg=>rfl);(case hn=>rfl);(case hr=>first|(go_simp;done)|(go_simp;rfl));intro w19 hw;have hg:w16.grownBy w19 (some go11):=(by rw [hw];exact HP18.2);have hp_:Kd.R (Kd.int .i64) 3 w19 w0.heap.size (fun k_=>((P0_2_ k_∨P0_3_ k_)∨w.heap.size≤k_)∧some k_≠(.slice Ao15 l0_3.length co15:Value).ownBlock) (.slice (some ⟨go11,0,none⟩) l0_2.length co14) y265:=(by rw [hw,Ny265.out];exact HP18.1);clear HP18;replace HO0_3:=am_ (Kd.R_after (v:=(.slice (some ⟨go11,0,none⟩) l0_2.length co14)) (v1:=(.slice (some ⟨go11,0,none⟩) l0_2.length co14)) (ok:=(fun k_=>((P0_2_ k_∨P0_3_ k_)∨w.heap.size≤k_))) (Kd.R_up HO0_3.out) hg (.inl rfl));replace BK262:=am_ (blk_grown (blk_up BK262.out) hg (Kd.R_ne HO0_2.out BK262.out (by decide)));replace HB:=am_ ((by rw [hw];exact below_set (HB.out) GB11.out:Below w0.heap.size w0 w19));replace HK:=am_ (Kept.of_grown (S:=(fun k_=>P0_2_ k_∨P0_3_ k_)) hg (by repeat (first|(with_reducible first|exact HK.out|apply Kept.alloc|apply Kept.drewN|apply Kept.drew|refine Kept.setCell ?_ (.inr GW262.out) _)|exact HK.out)) (fun k_ e_=>(HO0_2.out.1 k_ e_).1));replace HO0_2:=am_ (hp_);clear hg hw hp_;obtain ⟨_,_,_,_,_,_,_,_⟩:=cells4 BK262.out;have p13:0≤(a1:Int):=ofd;have q13:(a1:Int)<((l0_3.length:Int):Int):=ofd;obtain ⟨go13,co13,eo13,gb13,gl13,cl13,HG13⟩:=Kd.R_form HO0_3.out (by omega);(first|cases eo13|(injection eo13 with ea_ en_ ec_;(first|subst ea_|(injection ea_ with ea_;subst ea_));subst ec_;clear en_));have GB13:=am_ gb13;have GG13:=am_ HG13;clear gb13 gl13 HG13;have HMgo13:=am_ (show ((P0_2_ go13∨P0_3_ go13)∨w.heap.size≤go13) from (HO0_3.out.1 _ rfl).1);obtain ⟨hx13_0,hf13_0⟩:=Kd.R_celln 0 HO0_3.out (a1:Int) p13 q13;replace p13:=eq_true p13;replace q13:=eq_true q13;obtain ⟨hy21_,hz21_⟩:=Kd.R_celln 0 HO0_3.out (a1:Int) (ofd) (ofd);have HP21:=Kd.R_putg HO0_3.out (a1:Int) 0)|((with_reducible refine gate_store (t:=3) (p:=29) rfl ?_);refine store_event (t:=3) (p:=29) (v:=?vo_w22) (w1:=(w19.setCell ⟨go13,(a1:Int).toNat,none⟩ (.int .i64 0))) ?hg ?ho ?hn ?hr ?_;(case ho=>rfl);(case hg=>rfl);(case hn=>rfl);(case hr=>first|(go_simp;done)|(go_simp;rfl));intro w22 hw;have hg:w19.grownBy w22 (some go13):=(by rw [hw];exact HP21.2);have hp_:Kd.R (Kd.int .i64) 3 w22 w0.heap.size (fun k_=>((P0_2_ k_∨P0_3_ k_)∨w.heap.size≤k_)∧some k_≠(.slice (some ⟨go11,0,none⟩) l0_2.length co14:Value).ownBlock) (.slice (some ⟨go13,0,none⟩) l0_3.length co15) y266:=(by rw [hw,Ny266.out];exact HP21.1);clear HP21;replace HO0_2:=am_ (Kd.R_after (v:=(.slice (some ⟨go13,0,none⟩) l0_3.length co15)) (v1:=(.slice (some ⟨go13,0,none⟩) l0_3.length co15)) (ok:=(fun k_=>((P0_2_ k_∨P0_3_ k_)∨w.heap.size≤k_))) (Kd.R_up HO0_2.out) hg (.inl rfl));replace BK262:=am_ (blk_grown (blk_up BK262.out) hg (Kd.R_ne HO0_3.out BK262.out (by decide)));replace HB:=am_ ((by rw [hw];exact below_set (HB.out) GB13.out:Below w0.heap.size w0 w22));replace HK:=am_ (Kept.of_grown (S:=(fun k_=>P0_2_ k_∨P0_3_ k_)) hg (by repeat (first|(with_reducible first|exact HK.out|apply Kept.alloc|apply Kept.drewN|apply Kept.drew|refine Kept.setCell ?_ (.inr GW262.out) _)|exact HK.out)) (fun k_ e_=>(HO0_3.out.1 k_ e_).1));replace HO0_3:=am_ (hp_);clear hg hw hp_))
  first|go_end0|((try simp only [Exit.inBlock,Exit.then]);refine bodyPost_ret (results_none rfl _ _ _) rfl ?_)
  exact ⟨er_,by (with_reducible repeat (first|apply Kd.R_alloc|apply Kd.R_drewN|apply Kd.R_drew));exact Kd.R_mono HO0_2.out (fun _ hk=>hk.1),by (with_reducible repeat (first|apply Kd.R_alloc|apply Kd.R_drewN|apply Kd.R_drew));exact Kd.R_mono HO0_3.out (fun _ hk=>hk.1),hb_,by repeat (first|(with_reducible first|exact HK.out|apply Kept.alloc|apply Kept.drewN|apply Kept.drew|refine Kept.setCell ?_ (.inr GW262.out) _)|exact HK.out)⟩

/-! ### h11_beyond: function 64 -/
mutual
def h11_beyond.j0:Nat→Int→Int→Int→Int→Bool→Int→Int→List Int→Option (Int)
 | 0,_,_,_,_,_,_,_,_=>none
 | k+1,x1,x2,x7,x8,x17,x268000,x268001,x268002=>if x17=true then (some (wrap64 (x1+1))) else (if x2=1 then (h11_beyond.j1 k x1 x2 x7 x8 (decide ((wrap64 (x8+1))<x268001)) x268000 x268001 x268002) else (h11_beyond.j1 k x1 x2 x7 x8 false x268000 x268001 x268002))
def h11_beyond.j1:Nat→Int→Int→Int→Int→Bool→Int→Int→List Int→Option (Int)
 | 0,_,_,_,_,_,_,_,_=>none
 | k+1,x1,x2,x7,x8,x29,x268000,x268001,x268002=>if x29=true then (some (wrap64 (x1+x268000))) else (if x2=2 then (h11_beyond.j2 k x1 x2 x8 (decide (x7 > 0)) x268000 x268001 x268002) else (h11_beyond.j2 k x1 x2 x8 false x268000 x268001 x268002))
def h11_beyond.j2:Nat→Int→Int→Int→Bool→Int→Int→List Int→Option (Int)
 | 0,_,_,_,_,_,_,_=>none
 | k+1,x1,x2,x8,x43,x268000,x268001,x268002=>if x43=true then (some (wrap64 (x1 - 1))) else (if x2=3 then (if x8 > 0 then (some (wrap64 (x1 - x268000))) else (some (-1))) else (some (-1)))
end
def h11_beyond.f (k:Nat) (a0_0:Int) (a0_1:Int) (l0_2:List Int) (a1:Int) (a2:Int):Option (Int):=if a0_0=0 then (none) else (if a2=0 then (h11_beyond.j0 k a1 a2 (Int.tmod a1 a0_0) (wrap64 (Int.tdiv a1 a0_0)) (decide ((wrap64 ((Int.tmod a1 a0_0)+1))<a0_0)) a0_0 a0_1 l0_2) else (h11_beyond.j0 k a1 a2 (Int.tmod a1 a0_0) (wrap64 (Int.tdiv a1 a0_0)) false a0_0 a0_1 l0_2))
theorem h11_beyond.mono_l:∀ k,(∀ y0 y1 y2 y3 y4 y5 y6 y7,LeO (h11_beyond.j0 k y0 y1 y2 y3 y4 y5 y6 y7) (h11_beyond.j0 (k+1) y0 y1 y2 y3 y4 y5 y6 y7))∧(∀ y0 y1 y2 y3 y4 y5 y6 y7,LeO (h11_beyond.j1 k y0 y1 y2 y3 y4 y5 y6 y7) (h11_beyond.j1 (k+1) y0 y1 y2 y3 y4 y5 y6 y7))∧(∀ y0 y1 y2 y3 y4 y5 y6,LeO (h11_beyond.j2 k y0 y1 y2 y3 y4 y5 y6) (h11_beyond.j2 (k+1) y0 y1 y2 y3 y4 y5 y6))
 | 0=>⟨fun _ _ _ _ _ _ _ _ r h=>by simp [h11_beyond.j0] at h,fun _ _ _ _ _ _ _ _ r h=>by simp [h11_beyond.j1] at h,fun _ _ _ _ _ _ _ r h=>by simp [h11_beyond.j2] at h⟩
 | k+1=>by
  obtain ⟨ih0,ih1,ih2⟩:=h11_beyond.mono_l k;refine ⟨?_,?_,?_⟩
  ·intro y0 y1 y2 y3 y4 y5 y6 y7;unfold h11_beyond.j0;repeat' with_reducible first|exact ih0 _ _ _ _ _ _ _ _|exact ih1 _ _ _ _ _ _ _ _|exact ih2 _ _ _ _ _ _ _|apply lr_|apply ln_|apply li_|refine lb_ ?_ fun _=>?_
  ·intro y0 y1 y2 y3 y4 y5 y6 y7;unfold h11_beyond.j1;repeat' with_reducible first|exact ih0 _ _ _ _ _ _ _ _|exact ih1 _ _ _ _ _ _ _ _|exact ih2 _ _ _ _ _ _ _|apply lr_|apply ln_|apply li_|refine lb_ ?_ fun _=>?_
  ·intro y0 y1 y2 y3 y4 y5 y6;unfold h11_beyond.j2;repeat' with_reducible first|exact ih0 _ _ _ _ _ _ _ _|exact ih1 _ _ _ _ _ _ _ _|exact ih2 _ _ _ _ _ _ _|apply lr_|apply ln_|apply li_|refine lb_ ?_ fun _=>?_
theorem h11_beyond.mono:∀ a0 a1 a2 a3 a4 k,LeO (h11_beyond.f k a0 a1 a2 a3 a4) (h11_beyond.f (k+1) a0 a1 a2 a3 a4):=by
 intro a0 a1 a2 a3 a4 k;obtain ⟨ih0,ih1,ih2⟩:=h11_beyond.mono_l k;unfold h11_beyond.f;repeat' with_reducible first|exact ih0 _ _ _ _ _ _ _ _|exact ih1 _ _ _ _ _ _ _ _|exact ih2 _ _ _ _ _ _ _|apply lr_|apply ln_|apply li_|refine lb_ ?_ fun _=>?_
theorem h11_beyond.calls (k:Nat) (a0_0:Int) (a0_1:Int) (A0_2:Option Addr) (c0_2:Nat) (l0_2:List Int) (a1:Int) (a2:Int) (r:Int) (w:World) (hr0_2:Kd.C (Kd.int .i64) w A0_2 l0_2.length l0_2) (hc0_2:l0_2.length≤c0_2) (h:h11_beyond.f k a0_0 a0_1 l0_2 a1 a2=some r) :
  Calls Try.prog 64 #[.agg #[.int .i64 a0_0,.int .i64 a0_1,.slice A0_2 l0_2.length c0_2],.int .i64 a1,.int .i64 a2] w fun e w'=>e=.returned (.int .i64 r)∧Below w.heap.size w w':=by
 have hu58:=Try.underlying58;have HR0_2:=am_ hr0_2;have HC0_2:=am_ hc0_2;clear hr0_2 hc0_2;have HB:=am_ (Below.refl w.heap.size w);have H:=h;clear h;unfold h11_beyond.f at H;replace H:=ifn_ H;obtain ⟨c4,H⟩:=H;have c4b0:(a0_0 == 0)=false:=beq_eq_false_iff_ne.mpr c4;have c4b1:(a0_0 != 0)=true:=bne_iff_ne.mpr c4;have HC5:=am_ H;clear H;go_enter Try.func64,Try.ntmps64;go_wp2_with (first|((with_reducible refine gate_dst (N:=3) rfl ?_);refine box_ev (N:=3) (cs:=#[.int .i64 a0_0,.int .i64 a0_1,.slice A0_2 l0_2.length c0_2]) (t:=58) ?_;intro gb267 hg w6 hbox hb;have BK267:=am_ hbox;have GW267:=gsz (w:=w) hg;have GE267:=GW267;replace HB:=hbs hb;clear hb hbox hg;obtain ⟨_,_,_,_,_,_⟩:=cells3 BK267.out))
 go_quiet (fail)
 go_upto_region 2 with (fail)
 (try simp only [Act.put,sl_]);go_cut [17] (fun v17 wc=>∃ (kq:Nat) (x17_4:Bool),v17=.bool x17_4∧Aside0 (h11_beyond.j0 kq a1 a2 (Int.tmod a1 a0_0) (wrap64 (Int.tdiv a1 a0_0)) x17_4 a0_0 a0_1 l0_2=some r)∧Aside0 (kq≤k)∧Aside0 (wc.heap[gb267]?=some (.cells #[.int .i64 a0_0,.int .i64 a0_1,(.slice A0_2 l0_2.length c0_2)] 58 (0,0)))∧Aside0 (Below w.heap.size w wc))
 case first =>
  have H:=HC5.out;clear HC5;by_cases c8:a2=0
  ·rw [if_pos c8] at H;have c8b0:=bqt c8;have c8b1:=bnf c8;clear c8;(first|rw [c8b0]|(simp only [i64_w,i32_w];rw [c8b0])|skip);have H':=am_ H;clear H;obtain ⟨_,_,_,_,_,_⟩:=cells3 BK267.out;go_wp2
   go_meet
   case rel=>exact ⟨_,(decide ((wrap64 ((Int.tmod a1 a0_0)+1))<a0_0)),fr_,H',⟨by first|omega|exact Nat.le_refl _⟩,⟨blk_up BK267.out⟩,⟨hb_⟩⟩
  ·rw [if_neg c8] at H;have c8b0:=bqf c8;have c8b1:=bnt c8;(first|rw [c8b0]|(simp only [i64_w,i32_w];rw [c8b0])|skip);have H':=am_ H;clear H;go_wp2
   go_meet
   case rel=>exact ⟨_,(false),fr_,H',⟨by first|omega|exact Nat.le_refl _⟩,⟨blk_up BK267.out⟩,⟨hb_⟩⟩
 case rest =>
  clear HC5;obtain ⟨kq,x17_4,rfl,HA,HJ4,BK267,HB⟩:=hcut;cases kq with
  | zero=>exact absurd HA.out (by simp [h11_beyond.j0])
  | succ kj4 =>
   have H:=HA.out;clear HA;simp only [h11_beyond.j0] at H;by_cases c10:x17_4=true
   ·subst c10;rw [if_pos rfl] at H;obtain rfl:=oj_ H;go_wp2
    go_ret
    exact ⟨er_,hb_⟩
   ·replace c10:=Bool.eq_false_iff.mpr c10;subst c10;rw [if_neg (show ¬ (false=true) by decide)] at H;have HC11:=am_ H;clear H;go_upto_region 4 with (fail)
    go_cut [29] (fun v29 wc=>∃ (kq:Nat) (x29_10:Bool),v29=.bool x29_10∧Aside0 (h11_beyond.j1 kq a1 a2 (Int.tmod a1 a0_0) (wrap64 (Int.tdiv a1 a0_0)) x29_10 a0_0 a0_1 l0_2=some r)∧Aside0 (kq≤kj4)∧Aside0 (wc.heap[gb267]?=some (.cells #[.int .i64 a0_0,.int .i64 a0_1,(.slice A0_2 l0_2.length c0_2)] 58 (0,0)))∧Aside0 (Below w.heap.size w wc))
    case first =>
     have H:=HC11.out;clear HC11;by_cases c12:a2=1
     ·rw [if_pos c12] at H;have c12b0:=bqt c12;have c12b1:=bnf c12;clear c12;(first|rw [c12b0]|(simp only [i64_w,i32_w];rw [c12b0])|skip);have H':=am_ H;clear H;obtain ⟨_,_,_,_,_,_⟩:=cells3 BK267.out;go_wp2
      go_meet
      case rel=>exact ⟨_,(decide ((wrap64 ((wrap64 (Int.tdiv a1 a0_0))+1))<a0_1)),fr_,H',⟨by have:=HJ4.out;first|omega|exact Nat.le_refl _⟩,⟨blk_up BK267.out⟩,⟨hb_⟩⟩
     ·rw [if_neg c12] at H;have c12b0:=bqf c12;have c12b1:=bnt c12;(first|rw [c12b0]|(simp only [i64_w,i32_w];rw [c12b0])|skip);have H':=am_ H;clear H;go_wp2
      go_meet
      case rel=>exact ⟨_,(false),fr_,H',⟨by have:=HJ4.out;first|omega|exact Nat.le_refl _⟩,⟨blk_up BK267.out⟩,⟨hb_⟩⟩
    case rest =>
     clear HC11;obtain ⟨kq,x29_10,rfl,HA,HJ10,BK267,HB⟩:=hcut;cases kq with
     | zero=>exact absurd HA.out (by simp [h11_beyond.j1])
     | succ kj10 =>
      have H:=HA.out;clear HA;simp only [h11_beyond.j1] at H;by_cases c14:x29_10=true
      ·subst c14;rw [if_pos rfl] at H;obtain rfl:=oj_ H;obtain ⟨_,_,_,_,_,_⟩:=cells3 BK267.out;go_wp2
       go_ret
       exact ⟨er_,hb_⟩
      ·replace c14:=Bool.eq_false_iff.mpr c14;subst c14;rw [if_neg (show ¬ (false=true) by decide)] at H;have HC16:=am_ H;clear H;go_upto_region 6 with (fail)
       go_cut [43] (fun v43 wc=>∃ (kq:Nat) (x43_15:Bool),v43=.bool x43_15∧Aside0 (h11_beyond.j2 kq a1 a2 (wrap64 (Int.tdiv a1 a0_0)) x43_15 a0_0 a0_1 l0_2=some r)∧Aside0 (kq≤kj10)∧Aside0 (wc.heap[gb267]?=some (.cells #[.int .i64 a0_0,.int .i64 a0_1,(.slice A0_2 l0_2.length c0_2)] 58 (0,0)))∧Aside0 (Below w.heap.size w wc))
       case first =>
        have H:=HC16.out;clear HC16;by_cases c17:a2=2
        ·rw [if_pos c17] at H;have c17b0:=bqt c17;have c17b1:=bnf c17;clear c17;(first|rw [c17b0]|(simp only [i64_w,i32_w];rw [c17b0])|skip);have H':=am_ H;clear H;go_wp2
         go_meet
         case rel=>exact ⟨_,(decide ((Int.tmod a1 a0_0) > 0)),fr_,H',⟨by have:=HJ4.out;have:=HJ10.out;first|omega|exact Nat.le_refl _⟩,⟨blk_up BK267.out⟩,⟨hb_⟩⟩
        ·rw [if_neg c17] at H;have c17b0:=bqf c17;have c17b1:=bnt c17;(first|rw [c17b0]|(simp only [i64_w,i32_w];rw [c17b0])|skip);have H':=am_ H;clear H;go_wp2
         go_meet
         case rel=>exact ⟨_,(false),fr_,H',⟨by have:=HJ4.out;have:=HJ10.out;first|omega|exact Nat.le_refl _⟩,⟨blk_up BK267.out⟩,⟨hb_⟩⟩
       case rest =>
        clear HC16;obtain ⟨kq,x43_15,rfl,HA,HJ15,BK267,HB⟩:=hcut;cases kq with
        | zero=>exact absurd HA.out (by simp [h11_beyond.j2])
        | succ kj15 =>
         have H:=HA.out;clear HA;simp only [h11_beyond.j2] at H;by_cases c18:x43_15=true
         ·subst c18;rw [if_pos rfl] at H;obtain rfl:=oj_ H;go_wp2
          go_ret
          exact ⟨er_,hb_⟩
         ·replace c18:=Bool.eq_false_iff.mpr c18;subst c18;rw [if_neg (show ¬ (false=true) by decide)] at H;by_cases c19:a2=3
          ·rw [if_pos c19] at H;have c19b0:=bqt c19;have c19b1:=bnf c19;clear c19;by_cases c20:(wrap64 (Int.tdiv a1 a0_0)) > 0
           ·rw [if_pos c20] at H;have c20b0:=dt_ c20;clear c20;obtain rfl:=oj_ H;obtain ⟨_,_,_,_,_,_⟩:=cells3 BK267.out;go_wp2
            go_ret
            exact ⟨er_,hb_⟩
           ·rw [if_neg c20] at H;have c20b0:=df_ c20;clear c20;obtain rfl:=oj_ H;go_wp2
            go_ret
            exact ⟨er_,hb_⟩
          ·rw [if_neg c19] at H;have c19b0:=bqf c19;have c19b1:=bnt c19;obtain rfl:=oj_ H;go_wp2
           go_ret
           exact ⟨er_,hb_⟩

end Go.Proofs.Ytbdijpjlgokfkaa.P

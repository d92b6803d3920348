/- Functions of this seat as plain Lean functions, with proofs that the Go code comes to just their answers, or what stands between them and a law's statement; no conditions. (Laid by a program of this session, out of the kit's print.) -/
import Derived.Test.YthjmdpekcleihaaPx0
namespace Go.Proofs.Ythjmdpekcleihaa.P
open Go.RowKit Go.Proofs.YthjmdpekcleihaaW.PrintWords Go.Proofs.YthjmdpekcleihaaW.PrintLast Go.Proofs.YthjmdpekcleihaaW.PrintMore
attribute [local go_sem] max2_int min2_int max_two min_two max_three min_three max_four min_four   -- for this text's walks alone
set_option linter.unusedVariables false
set_option linter.unusedSimpArgs false

/-! ### lane_held: function 45 -/
def lane_held.l0 : Nat → Int → List (S50) → Int → Int → Int → Int → Option (Bool)
 | 0,_,_,_,_,_,_ => none
 | k + 1,x1,x10,x11,x12,x351000,x351001 => if x12 < x11 then (if 0 ≤ x12 then (if x12 < (x10.length : Int) then (if x12 = x1 then (lane_held.l0 k x1 x10 x11 (wrap64 (x12 + 1)) x351000 x351001) else (if ((rd_T50 x10 x12).f0) = x351000 then (if ((rd_T50 x10 x12).f2) = x351001 then (some true) else (lane_held.l0 k x1 x10 x11 (wrap64 (x12 + 1)) x351000 x351001)) else (lane_held.l0 k x1 x10 x11 (wrap64 (x12 + 1)) x351000 x351001))) else (none)) else (none)) else (some false)
def lane_held.f (k : Nat) (a0_0 : Int) (a0_1 : Int) (l0_2 : List Int) (l0_3 : List Int) (l0_4 : List Int) (l0_5 : List (S50)) (a1 : Int) (a2_0 : Int) (a2_1 : Int) : Option (Bool) := lane_held.l0 k a1 l0_5 (l0_5.length : Int) 0 a2_0 a2_1
theorem lane_held.mono_l : ∀ k, (∀ y0 y1 y2 y3 y4 y5, LeO (lane_held.l0 k y0 y1 y2 y3 y4 y5) (lane_held.l0 (k + 1) y0 y1 y2 y3 y4 y5))
 | 0 => fun _ _ _ _ _ _ r h => by simp [lane_held.l0] at h
 | k + 1 => by
  have ih0:=lane_held.mono_l k
  ·intro y0 y1 y2 y3 y4 y5
   unfold lane_held.l0
   repeat' first
   | (with_reducible exact ih0 _ _ _ _ _ _)
   | (with_reducible exact LeO.refl _)
   | (with_reducible exact LeO.none _)
   | (with_reducible refine LeO.ite ?_ ?_)
   | (with_reducible refine LeO.bind ?_ (fun _ => ?_))
   | exact ih0 _ _ _ _ _ _
   | exact LeO.none _
   | refine LeO.ite ?_ ?_
   | refine LeO.bind ?_ (fun _ => ?_)
theorem lane_held.mono : ∀ a0 a1 a2 a3 a4 a5 a6 a7 a8 k, LeO (lane_held.f k a0 a1 a2 a3 a4 a5 a6 a7 a8) (lane_held.f (k + 1) a0 a1 a2 a3 a4 a5 a6 a7 a8) := by
 intro a0 a1 a2 a3 a4 a5 a6 a7 a8 k
 have ih0:=lane_held.mono_l k
 unfold lane_held.f
 repeat' first
   | (with_reducible exact ih0 _ _ _ _ _ _)
   | (with_reducible exact LeO.refl _)
   | (with_reducible exact LeO.none _)
   | (with_reducible refine LeO.ite ?_ ?_)
   | (with_reducible refine LeO.bind ?_ (fun _ => ?_))
   | exact ih0 _ _ _ _ _ _
   | exact LeO.none _
   | refine LeO.ite ?_ ?_
   | refine LeO.bind ?_ (fun _ => ?_)
set_option maxHeartbeats 8000000 in
set_option maxRecDepth 100000 in
theorem lane_held.calls (k : Nat) (a0_0 : Int) (a0_1 : Int) (A0_2 : Option Addr) (c0_2 : Nat) (l0_2 : List Int) (A0_3 : Option Addr) (c0_3 : Nat) (l0_3 : List Int) (A0_4 : Option Addr) (c0_4 : Nat) (l0_4 : List Int) (A0_5 : Option Addr) (c0_5 : Nat) (l0_5 : List (S50)) (a1 : Int) (a2_0 : Int) (a2_1 : Int) (r : Bool) (w : World) (hr0_2 : Kd.C (Kd.int .i64) w A0_2 l0_2.length l0_2) (hc0_2 : l0_2.length ≤ c0_2) (hr0_3 : Kd.C (Kd.int .i64) w A0_3 l0_3.length l0_3) (hc0_3 : l0_3.length ≤ c0_3) (hr0_4 : Kd.C (Kd.int .i64) w A0_4 l0_4.length l0_4) (hc0_4 : l0_4.length ≤ c0_4) (hr0_5 : Kd.C k50 w A0_5 l0_5.length l0_5) (hc0_5 : l0_5.length ≤ c0_5) (h : lane_held.f k a0_0 a0_1 l0_2 l0_3 l0_4 l0_5 a1 a2_0 a2_1 = some r) :
  Calls Try.prog 45 #[.agg #[.int .i64 a0_0,.int .i64 a0_1,.slice A0_2 l0_2.length c0_2,.slice A0_3 l0_3.length c0_3,.slice A0_4 l0_4.length c0_4,.slice A0_5 l0_5.length c0_5],.int .i64 a1,.agg #[.int .i64 a2_0,.int .i64 a2_1]] w fun e w' => e = .returned (.bool r) ∧ Below w.heap.size w w':=by
 have hu33:=Try.underlying33
 have hu73:=Try.underlying73
 have hu50:=Try.underlying50
 have HR0_2:=Aside0.mk hr0_2
 have HC0_2:=Aside0.mk hc0_2
 clear hr0_2 hc0_2
 have HR0_3:=Aside0.mk hr0_3
 have HC0_3:=Aside0.mk hc0_3
 clear hr0_3 hc0_3
 have HR0_4:=Aside0.mk hr0_4
 have HC0_4:=Aside0.mk hc0_4
 clear hr0_4 hc0_4
 have HR0_5:=Aside0.mk hr0_5
 have HC0_5:=Aside0.mk hc0_5
 clear hr0_5 hc0_5
 have HB:=Aside0.mk (Below.refl w.heap.size w)
 have H : (lane_held.l0 k a1 l0_5 (l0_5.length : Int) 0 a2_0 a2_1) = some r:=h
 clear h
 have H':=Aside0.mk H
 clear H
 go_enter Try.func45,Try.ntmps45
 go_wp2_with (first|((with_reducible refine gate_dst (N:=3) rfl ?_);refine box_ev (N:=3) (cs:=#[.int .i64 a0_0,.int .i64 a0_1,.slice A0_2 l0_2.length c0_2,.slice A0_3 l0_3.length c0_3,.slice A0_4 l0_4.length c0_4,.slice A0_5 l0_5.length c0_5]) (t:=33) ?_;intro gb349 hg w4 hbox hb;have BK349:=Aside0.mk (hbox);have GW349 : Aside0 (w.heap.size ≤ gb349):=gsz hg;have GE349:=GW349;replace HB:=hbs hb;clear hb hbox hg)|((with_reducible refine gate_dst (N:=5) rfl ?_);refine box_ev (N:=5) (cs:=#[.int .i64 a2_0,.int .i64 a2_1]) (t:=73) ?_;intro gb350 hg w5 hbox hb;have BK350:=Aside0.mk (hbox);have GW350 : Aside0 (w.heap.size ≤ gb350):=gsz hg;have GE350:=GW350;have NB349_350:=nbl BK349 hg;have NB350_349:=nbr BK349 hg;replace BK349:=bkb BK349 hb;replace HB:=hbs hb;clear hb hbox hg;have hnb6:=NB349_350.out;have hnc6:=NB350_349.out;obtain ⟨_,_,_,_,_,_,_,_,_,_,_,_⟩:=cells6 BK349.out))
 go_loopg [12] k (fun kq v12 w' => ∃ (x12_1 : Int),v12 = .int .i64 x12_1 ∧ Aside0 (lane_held.l0 kq a1 l0_5 (l0_5.length : Int) x12_1 a2_0 a2_1 = some r) ∧ Aside0 (kq ≤ k) ∧ Aside0 (w'.heap[gb349]? = some (.cells #[.int .i64 a0_0,.int .i64 a0_1,(.slice A0_2 l0_2.length c0_2),(.slice A0_3 l0_3.length c0_3),(.slice A0_4 l0_4.length c0_4),(.slice A0_5 l0_5.length c0_5)] 33 (0,0))) ∧ Aside0 (w'.heap[gb350]? = some (.cells #[.int .i64 a2_0,.int .i64 a2_1] 73 (0,0))) ∧ Aside0 (Below w.heap.size w w'))
 case atStart => exact ⟨(0),(by first|rfl|(simp;done)|(simp [*];done)),H',⟨Nat.le_refl _⟩,⟨blk_up BK349.out⟩,⟨blk_up BK350.out⟩,⟨hb_⟩⟩
 case round =>
  clear H'
  obtain ⟨x12_1,rfl,HA,HK1,BK349,BK350,HB⟩:=hrel
  cases gk with
  | zero => exact absurd HA.out (by simp [lane_held.l0])
  | succ k1 =>
   have H:=HA.out
   clear HA
   simp only [lane_held.l0] at H
   by_cases c8 : x12_1 < (l0_5.length : Int)
   rotate_left
   ·rw [if_neg c8] at H
    have c8b0 : decide (x12_1 < (l0_5.length : Int)) = false:=decide_eq_false c8
    clear c8
    obtain rfl:=Option.some.inj H
    go_wp2
    go_ret
    exact ⟨er_,hb_⟩
   rw [if_pos c8] at H
   have c8b0 : decide (x12_1 < (l0_5.length : Int)) = true:=decide_eq_true c8
   clear c8
   replace H:=ifp_ H;obtain ⟨c9,H⟩:=H
   have c9b0 : decide (0 ≤ x12_1) = true:=decide_eq_true c9
   clear c9
   replace H:=ifp_ H;obtain ⟨c10,H⟩:=H
   have c10b0 : decide (x12_1 < (l0_5.length : Int)) = true:=decide_eq_true c10
   clear c10
   by_cases c11 : x12_1 = a1
   ·rw [if_pos c11] at H
    have c11b0:=bqt c11
    have c11b1:=bnf c11
    clear c11
    have H':=Aside0.mk H
    clear H
    have p351 : 0 ≤ (x12_1 : Int):=of_decide_eq_true (by first|(with_reducible assumption)|assumption)
    have q351 : x12_1 < (l0_5.length : Int):=of_decide_eq_true (by first|(with_reducible assumption)|assumption)
    obtain ⟨ad351,e351,hx351_0,hx351_1,hx351_2,hx351_3,hx351_4⟩:=at_T50 HR0_5.out x12_1 p351 q351
    cases e351
    replace hx351_0:=(HB.out.cell (World.block_lt_of_cell? w _ hx351_0)).trans hx351_0
    replace hx351_1:=(HB.out.cell (World.block_lt_of_cell? w _ hx351_1)).trans hx351_1
    replace hx351_2:=(HB.out.cell (World.block_lt_of_cell? w _ hx351_2)).trans hx351_2
    replace hx351_3:=(HB.out.cell (World.block_lt_of_cell? w _ hx351_3)).trans hx351_3
    replace hx351_4:=(HB.out.cell (World.block_lt_of_cell? w _ hx351_4)).trans hx351_4
    replace p351:=eq_true p351
    replace q351:=eq_true q351
    go_wp2_with (first|((with_reducible refine gate_dst (N:=8) rfl ?_);refine box_ev (N:=8) (cs:=#[.int .i64 0,.int .i64 0,.int .i64 0,.int .i64 0,.int .i64 0]) (t:=50) ?_;intro gb352 hg w12 hbox hb;have BK352:=Aside0.mk (hbox);have GW352 : Aside0 (w.heap.size ≤ gb352):=gsz hg;have GE352:=GW352;have NB349_352:=nbl BK349 hg;have NB352_349:=nbr BK349 hg;have NB350_352:=nbl BK350 hg;have NB352_350:=nbr BK350 hg;replace BK349:=bkb BK349 hb;replace BK350:=bkb BK350 hb;replace HB:=hbs hb;clear hb hbox hg;have hnb13:=NB352_349.out;have hnc13:=NB349_352.out;have hnb14:=NB352_350.out;have hnc14:=NB350_352.out;obtain ⟨_,_,_,_,_,_,_,_,_,_⟩:=cells5 BK352.out))
    go_roundg k1
    case measure => have:=HK1.out;omega
    case rel => exact ⟨(wrap64 (x12_1 + 1)),(by first|rfl|(simp;done)|(simp [*];done)),H',⟨by have:=HK1.out;omega⟩,⟨by (with_reducible repeat (first|refine blk_drewN ?_ _|refine blk_drew ?_|refine blk_alloc ?_ _));refine blk_far ?_ NB349_352.out _;(with_reducible repeat (first|refine blk_drewN ?_ _|refine blk_drew ?_|refine blk_alloc ?_ _));refine blk_far ?_ NB349_352.out _;(with_reducible repeat (first|refine blk_drewN ?_ _|refine blk_drew ?_|refine blk_alloc ?_ _));refine blk_far ?_ NB349_352.out _;(with_reducible repeat (first|refine blk_drewN ?_ _|refine blk_drew ?_|refine blk_alloc ?_ _));refine blk_far ?_ NB349_352.out _;(with_reducible repeat (first|refine blk_drewN ?_ _|refine blk_drew ?_|refine blk_alloc ?_ _));refine blk_far ?_ NB349_352.out _;(with_reducible repeat (first|refine blk_drewN ?_ _|refine blk_drew ?_|refine blk_alloc ?_ _));exact BK349.out⟩,⟨by (with_reducible repeat (first|refine blk_drewN ?_ _|refine blk_drew ?_|refine blk_alloc ?_ _));refine blk_far ?_ NB350_352.out _;(with_reducible repeat (first|refine blk_drewN ?_ _|refine blk_drew ?_|refine blk_alloc ?_ _));refine blk_far ?_ NB350_352.out _;(with_reducible repeat (first|refine blk_drewN ?_ _|refine blk_drew ?_|refine blk_alloc ?_ _));refine blk_far ?_ NB350_352.out _;(with_reducible repeat (first|refine blk_drewN ?_ _|refine blk_drew ?_|refine blk_alloc ?_ _));refine blk_far ?_ NB350_352.out _;(with_reducible repeat (first|refine blk_drewN ?_ _|refine blk_drew ?_|refine blk_alloc ?_ _));refine blk_far ?_ NB350_352.out _;(with_reducible repeat (first|refine blk_drewN ?_ _|refine blk_drew ?_|refine blk_alloc ?_ _));exact BK350.out⟩,⟨hb_⟩⟩
   rw [if_neg c11] at H
   have c11b0:=bqf c11
   have c11b1:=bnt c11
   by_cases c16 : ((rd_T50 l0_5 x12_1).f0) = a2_0
   rotate_left
   ·rw [if_neg c16] at H
    have c16b0:=bqf c16
    have c16b1:=bnt c16
    have H':=Aside0.mk H
    clear H
    have p351 : 0 ≤ (x12_1 : Int):=of_decide_eq_true (by first|(with_reducible assumption)|assumption)
    have q351 : x12_1 < (l0_5.length : Int):=of_decide_eq_true (by first|(with_reducible assumption)|assumption)
    obtain ⟨ad351,e351,hx351_0,hx351_1,hx351_2,hx351_3,hx351_4⟩:=at_T50 HR0_5.out x12_1 p351 q351
    cases e351
    replace hx351_0:=(HB.out.cell (World.block_lt_of_cell? w _ hx351_0)).trans hx351_0
    replace hx351_1:=(HB.out.cell (World.block_lt_of_cell? w _ hx351_1)).trans hx351_1
    replace hx351_2:=(HB.out.cell (World.block_lt_of_cell? w _ hx351_2)).trans hx351_2
    replace hx351_3:=(HB.out.cell (World.block_lt_of_cell? w _ hx351_3)).trans hx351_3
    replace hx351_4:=(HB.out.cell (World.block_lt_of_cell? w _ hx351_4)).trans hx351_4
    replace p351:=eq_true p351
    replace q351:=eq_true q351
    go_wp2_with (first|((with_reducible refine gate_dst (N:=8) rfl ?_);refine box_ev (N:=8) (cs:=#[.int .i64 0,.int .i64 0,.int .i64 0,.int .i64 0,.int .i64 0]) (t:=50) ?_;intro gb352 hg w30 hbox hb;have BK352:=Aside0.mk (hbox);have GW352 : Aside0 (w.heap.size ≤ gb352):=gsz hg;have GE352:=GW352;have NB349_352:=nbl BK349 hg;have NB352_349:=nbr BK349 hg;have NB350_352:=nbl BK350 hg;have NB352_350:=nbr BK350 hg;replace BK349:=bkb BK349 hb;replace BK350:=bkb BK350 hb;replace HB:=hbs hb;clear hb hbox hg;have hnb31:=NB352_349.out;have hnc31:=NB349_352.out;have hnb32:=NB352_350.out;have hnc32:=NB350_352.out;obtain ⟨_,_,_,_,_,_,_,_,_,_⟩:=cells5 BK352.out;have hnb34:=NB350_349.out;have hnc34:=NB349_350.out;obtain ⟨_,_,_,_⟩:=cells2 BK350.out))
    go_roundg k1
    case measure => have:=HK1.out;omega
    case rel => exact ⟨(wrap64 (x12_1 + 1)),(by first|rfl|(simp;done)|(simp [*];done)),H',⟨by have:=HK1.out;omega⟩,⟨by (with_reducible repeat (first|refine blk_drewN ?_ _|refine blk_drew ?_|refine blk_alloc ?_ _));refine blk_far ?_ NB349_352.out _;(with_reducible repeat (first|refine blk_drewN ?_ _|refine blk_drew ?_|refine blk_alloc ?_ _));refine blk_far ?_ NB349_352.out _;(with_reducible repeat (first|refine blk_drewN ?_ _|refine blk_drew ?_|refine blk_alloc ?_ _));refine blk_far ?_ NB349_352.out _;(with_reducible repeat (first|refine blk_drewN ?_ _|refine blk_drew ?_|refine blk_alloc ?_ _));refine blk_far ?_ NB349_352.out _;(with_reducible repeat (first|refine blk_drewN ?_ _|refine blk_drew ?_|refine blk_alloc ?_ _));refine blk_far ?_ NB349_352.out _;(with_reducible repeat (first|refine blk_drewN ?_ _|refine blk_drew ?_|refine blk_alloc ?_ _));exact BK349.out⟩,⟨by (with_reducible repeat (first|refine blk_drewN ?_ _|refine blk_drew ?_|refine blk_alloc ?_ _));refine blk_far ?_ NB350_352.out _;(with_reducible repeat (first|refine blk_drewN ?_ _|refine blk_drew ?_|refine blk_alloc ?_ _));refine blk_far ?_ NB350_352.out _;(with_reducible repeat (first|refine blk_drewN ?_ _|refine blk_drew ?_|refine blk_alloc ?_ _));refine blk_far ?_ NB350_352.out _;(with_reducible repeat (first|refine blk_drewN ?_ _|refine blk_drew ?_|refine blk_alloc ?_ _));refine blk_far ?_ NB350_352.out _;(with_reducible repeat (first|refine blk_drewN ?_ _|refine blk_drew ?_|refine blk_alloc ?_ _));refine blk_far ?_ NB350_352.out _;(with_reducible repeat (first|refine blk_drewN ?_ _|refine blk_drew ?_|refine blk_alloc ?_ _));exact BK350.out⟩,⟨hb_⟩⟩
   rw [if_pos c16] at H
   have c16b0:=bqt c16
   have c16b1:=bnf c16
   clear c16
   by_cases c17 : ((rd_T50 l0_5 x12_1).f2) = a2_1
   ·rw [if_pos c17] at H
    have c17b0:=bqt c17
    have c17b1:=bnf c17
    clear c17
    obtain rfl:=Option.some.inj H
    have p351 : 0 ≤ (x12_1 : Int):=of_decide_eq_true (by first|(with_reducible assumption)|assumption)
    have q351 : x12_1 < (l0_5.length : Int):=of_decide_eq_true (by first|(with_reducible assumption)|assumption)
    obtain ⟨ad351,e351,hx351_0,hx351_1,hx351_2,hx351_3,hx351_4⟩:=at_T50 HR0_5.out x12_1 p351 q351
    cases e351
    replace hx351_0:=(HB.out.cell (World.block_lt_of_cell? w _ hx351_0)).trans hx351_0
    replace hx351_1:=(HB.out.cell (World.block_lt_of_cell? w _ hx351_1)).trans hx351_1
    replace hx351_2:=(HB.out.cell (World.block_lt_of_cell? w _ hx351_2)).trans hx351_2
    replace hx351_3:=(HB.out.cell (World.block_lt_of_cell? w _ hx351_3)).trans hx351_3
    replace hx351_4:=(HB.out.cell (World.block_lt_of_cell? w _ hx351_4)).trans hx351_4
    replace p351:=eq_true p351
    replace q351:=eq_true q351
    go_wp2_with (first|((with_reducible refine gate_dst (N:=8) rfl ?_);refine box_ev (N:=8) (cs:=#[.int .i64 0,.int .i64 0,.int .i64 0,.int .i64 0,.int .i64 0]) (t:=50) ?_;intro gb352 hg w18 hbox hb;have BK352:=Aside0.mk (hbox);have GW352 : Aside0 (w.heap.size ≤ gb352):=gsz hg;have GE352:=GW352;have NB349_352:=nbl BK349 hg;have NB352_349:=nbr BK349 hg;have NB350_352:=nbl BK350 hg;have NB352_350:=nbr BK350 hg;replace BK349:=bkb BK349 hb;replace BK350:=bkb BK350 hb;replace HB:=hbs hb;clear hb hbox hg;have hnb19:=NB352_349.out;have hnc19:=NB349_352.out;have hnb20:=NB352_350.out;have hnc20:=NB350_352.out;obtain ⟨_,_,_,_,_,_,_,_,_,_⟩:=cells5 BK352.out;have hnb22:=NB350_349.out;have hnc22:=NB349_350.out;obtain ⟨_,_,_,_⟩:=cells2 BK350.out))
    go_ret
    exact ⟨er_,hb_⟩
   ·rw [if_neg c17] at H
    have c17b0:=bqf c17
    have c17b1:=bnt c17
    have H':=Aside0.mk H
    clear H
    have p351 : 0 ≤ (x12_1 : Int):=of_decide_eq_true (by first|(with_reducible assumption)|assumption)
    have q351 : x12_1 < (l0_5.length : Int):=of_decide_eq_true (by first|(with_reducible assumption)|assumption)
    obtain ⟨ad351,e351,hx351_0,hx351_1,hx351_2,hx351_3,hx351_4⟩:=at_T50 HR0_5.out x12_1 p351 q351
    cases e351
    replace hx351_0:=(HB.out.cell (World.block_lt_of_cell? w _ hx351_0)).trans hx351_0
    replace hx351_1:=(HB.out.cell (World.block_lt_of_cell? w _ hx351_1)).trans hx351_1
    replace hx351_2:=(HB.out.cell (World.block_lt_of_cell? w _ hx351_2)).trans hx351_2
    replace hx351_3:=(HB.out.cell (World.block_lt_of_cell? w _ hx351_3)).trans hx351_3
    replace hx351_4:=(HB.out.cell (World.block_lt_of_cell? w _ hx351_4)).trans hx351_4
    replace p351:=eq_true p351
    replace q351:=eq_true q351
    go_wp2_with (first|((with_reducible refine gate_dst (N:=8) rfl ?_);refine box_ev (N:=8) (cs:=#[.int .i64 0,.int .i64 0,.int .i64 0,.int .i64 0,.int .i64 0]) (t:=50) ?_;intro gb352 hg w24 hbox hb;have BK352:=Aside0.mk (hbox);have GW352 : Aside0 (w.heap.size ≤ gb352):=gsz hg;have GE352:=GW352;have NB349_352:=nbl BK349 hg;have NB352_349:=nbr BK349 hg;have NB350_352:=nbl BK350 hg;have NB352_350:=nbr BK350 hg;replace BK349:=bkb BK349 hb;replace BK350:=bkb BK350 hb;replace HB:=hbs hb;clear hb hbox hg;have hnb25:=NB352_349.out;have hnc25:=NB349_352.out;have hnb26:=NB352_350.out;have hnc26:=NB350_352.out;obtain ⟨_,_,_,_,_,_,_,_,_,_⟩:=cells5 BK352.out;have hnb28:=NB350_349.out;have hnc28:=NB349_350.out;obtain ⟨_,_,_,_⟩:=cells2 BK350.out))
    go_roundg k1
    case measure => have:=HK1.out;omega
    case rel => exact ⟨(wrap64 (x12_1 + 1)),(by first|rfl|(simp;done)|(simp [*];done)),H',⟨by have:=HK1.out;omega⟩,⟨by (with_reducible repeat (first|refine blk_drewN ?_ _|refine blk_drew ?_|refine blk_alloc ?_ _));refine blk_far ?_ NB349_352.out _;(with_reducible repeat (first|refine blk_drewN ?_ _|refine blk_drew ?_|refine blk_alloc ?_ _));refine blk_far ?_ NB349_352.out _;(with_reducible repeat (first|refine blk_drewN ?_ _|refine blk_drew ?_|refine blk_alloc ?_ _));refine blk_far ?_ NB349_352.out _;(with_reducible repeat (first|refine blk_drewN ?_ _|refine blk_drew ?_|refine blk_alloc ?_ _));refine blk_far ?_ NB349_352.out _;(with_reducible repeat (first|refine blk_drewN ?_ _|refine blk_drew ?_|refine blk_alloc ?_ _));refine blk_far ?_ NB349_352.out _;(with_reducible repeat (first|refine blk_drewN ?_ _|refine blk_drew ?_|refine blk_alloc ?_ _));exact BK349.out⟩,⟨by (with_reducible repeat (first|refine blk_drewN ?_ _|refine blk_drew ?_|refine blk_alloc ?_ _));refine blk_far ?_ NB350_352.out _;(with_reducible repeat (first|refine blk_drewN ?_ _|refine blk_drew ?_|refine blk_alloc ?_ _));refine blk_far ?_ NB350_352.out _;(with_reducible repeat (first|refine blk_drewN ?_ _|refine blk_drew ?_|refine blk_alloc ?_ _));refine blk_far ?_ NB350_352.out _;(with_reducible repeat (first|refine blk_drewN ?_ _|refine blk_drew ?_|refine blk_alloc ?_ _));refine blk_far ?_ NB350_352.out _;(with_reducible repeat (first|refine blk_drewN ?_ _|refine blk_drew ?_|refine blk_alloc ?_ _));refine blk_far ?_ NB350_352.out _;(with_reducible repeat (first|refine blk_drewN ?_ _|refine blk_drew ?_|refine blk_alloc ?_ _));exact BK350.out⟩,⟨hb_⟩⟩

end Go.Proofs.Ythjmdpekcleihaa.P

/- Functions of this seat as plain Lean functions, with proofs that the Go code comes to just their answers, or what stands between them and a law's statement; no conditions. (Laid by a program of this session, out of the kit's print.) -/
import Derived.Test.YthbjchicpebglaaPx0
import Derived.Test.YthbjchicpebglaaPx1
import Derived.Test.YthbjchicpebglaaPx2
import Derived.Test.YthbjchicpebglaaPx3
namespace Go.Proofs.Ythbjchicpebglaa.P
open Go.RowKit Go.Proofs.YthbjchicpebglaaW.PrintWords Go.Proofs.YthbjchicpebglaaW.PrintLast Go.Proofs.YthbjchicpebglaaW.PrintMore
attribute [local go_sem] max2_int min2_int max_two min_two max_three min_three max_four min_four   -- for this text's walks alone
set_option linter.unusedVariables false
set_option linter.unusedSimpArgs false

attribute [local go_sem high] eqA33
/-! ### order_follow: function 42 -/
def order_follow.l0 : Nat → List (S33) → Int → Int → Int → Int → Int → Int → Int → Option (Int × Bool)
 | 0,_,_,_,_,_,_,_,_ => none
 | k + 1,x0,x1,x11,x12,x119000,x119001,x119002,x119003 => if x12 < x11 then (if 0 ≤ x1 then (if x1 < (x0.length : Int) then (if ((rd_T33 x0 x1).f0) = 2 then ((order_holds.f ((rd_T33 x0 x1).f0) ((rd_T33 x0 x1).f1) ((rd_T33 x0 x1).f2) ((rd_T33 x0 x1).f3) ((rd_T33 x0 x1).f4) ((rd_T33 x0 x1).f5) ((rd_T33 x0 x1).f6) ((rd_T33 x0 x1).f7) ((rd_T33 x0 x1).f8) x119000 x119001 x119002 x119003).bind fun t121 => (if t121 = true then (order_follow.l0 k x0 ((rd_T33 x0 x1).f6) x11 (wrap64 (x12 + 1)) x119000 x119001 x119002 x119003) else (if (x0.length : Int) = 0 then (none) else (order_follow.l0 k x0 (Int.tmod (wrap64 (x1 + 1)) (x0.length : Int)) x11 (wrap64 (x12 + 1)) x119000 x119001 x119002 x119003)))) else (some (x1,true))) else (none)) else (none)) else (some (0,false))
def order_follow.f (k : Nat) (l0 : List (S33)) (a1 : Int) (a2_0 : Int) (a2_1 : Int) (a2_2 : Int) (a2_3 : Int) : Option (Int × Bool) := order_follow.l0 k l0 a1 (wrap64 ((l0.length : Int) + 1)) 0 a2_0 a2_1 a2_2 a2_3
theorem order_follow.mono_l : ∀ k, (∀ y0 y1 y2 y3 y4 y5 y6 y7, LeO (order_follow.l0 k y0 y1 y2 y3 y4 y5 y6 y7) (order_follow.l0 (k + 1) y0 y1 y2 y3 y4 y5 y6 y7))
 | 0 => fun _ _ _ _ _ _ _ _ r h => by simp [order_follow.l0] at h
 | k + 1 => by
  have ih0:=order_follow.mono_l k
  ·intro y0 y1 y2 y3 y4 y5 y6 y7
   unfold order_follow.l0
   repeat' first
   | (with_reducible exact ih0 _ _ _ _ _ _ _ _)
   | (with_reducible exact LeO.refl _)
   | (with_reducible exact LeO.none _)
   | (with_reducible refine LeO.ite ?_ ?_)
   | (with_reducible refine LeO.bind ?_ (fun _ => ?_))
   | exact ih0 _ _ _ _ _ _ _ _
   | exact LeO.none _
   | refine LeO.ite ?_ ?_
   | refine LeO.bind ?_ (fun _ => ?_)
theorem order_follow.mono : ∀ a0 a1 a2 a3 a4 a5 k, LeO (order_follow.f k a0 a1 a2 a3 a4 a5) (order_follow.f (k + 1) a0 a1 a2 a3 a4 a5) := by
 intro a0 a1 a2 a3 a4 a5 k
 have ih0:=order_follow.mono_l k
 unfold order_follow.f
 repeat' first
   | (with_reducible exact ih0 _ _ _ _ _ _ _ _)
   | (with_reducible exact LeO.refl _)
   | (with_reducible exact LeO.none _)
   | (with_reducible refine LeO.ite ?_ ?_)
   | (with_reducible refine LeO.bind ?_ (fun _ => ?_))
   | exact ih0 _ _ _ _ _ _ _ _
   | exact LeO.none _
   | refine LeO.ite ?_ ?_
   | refine LeO.bind ?_ (fun _ => ?_)
set_option maxHeartbeats 8000000 in
set_option maxRecDepth 100000 in
theorem order_follow.calls (k : Nat) (A0 : Option Addr) (c0 : Nat) (l0 : List (S33)) (a1 : Int) (a2_0 : Int) (a2_1 : Int) (a2_2 : Int) (a2_3 : Int) (r1 : Int) (r2 : Bool) (w : World) (hr0 : Kd.C k33 w A0 l0.length l0) (hc0 : l0.length ≤ c0) (h : order_follow.f k l0 a1 a2_0 a2_1 a2_2 a2_3 = some (r1, r2)) :
  Calls Try.prog 42 #[.slice A0 l0.length c0,.int .i64 a1,.agg #[.int .i64 a2_0,.int .i64 a2_1,.int .i64 a2_2,.int .i64 a2_3]] w fun e w' => e = .returned (.tuple #[.int .i64 r1,.bool r2]) ∧ Below w.heap.size w w':=by
 have hu28:=Try.underlying28
 have hu33:=Try.underlying33
 have HR0:=Aside0.mk hr0
 have HC0:=Aside0.mk hc0
 clear hr0 hc0
 have HB:=Aside0.mk (Below.refl w.heap.size w)
 have H : (order_follow.l0 k l0 a1 (wrap64 ((l0.length : Int) + 1)) 0 a2_0 a2_1 a2_2 a2_3) = some (r1,r2):=h
 clear h
 have H':=Aside0.mk H
 clear H
 go_enter Try.func42,Try.ntmps42
 go_wp2_with (first|((with_reducible refine gate_dst (N:=5) rfl ?_);refine box_ev (N:=5) (cs:=#[.int .i64 a2_0,.int .i64 a2_1,.int .i64 a2_2,.int .i64 a2_3]) (t:=28) ?_;intro gb118 hg w4 hbox hb;have BK118:=Aside0.mk (hbox);have GW118 : Aside0 (w.heap.size ≤ gb118):=gsz hg;have GE118:=GW118;replace HB:=Aside0.mk (below_step (hb_) hb);clear hb hbox hg))
 go_loopg [1,12] k (fun kq v1 v12 w' => ∃ (x1_1 : Int) (x12_1 : Int),v1 = .int .i64 x1_1 ∧ v12 = .int .i64 x12_1 ∧ Aside0 (order_follow.l0 kq l0 x1_1 (wrap64 ((l0.length : Int) + 1)) x12_1 a2_0 a2_1 a2_2 a2_3 = some (r1,r2)) ∧ Aside0 (kq ≤ k) ∧ Aside0 (w'.heap[gb118]? = some (.cells #[.int .i64 a2_0,.int .i64 a2_1,.int .i64 a2_2,.int .i64 a2_3] 28 (0,0))) ∧ Aside0 (Below w.heap.size w w'))
 case atStart => exact ⟨(a1),(0),(by first|rfl|(simp;done)|(simp [*];done)),(by first|rfl|(simp;done)|(simp [*];done)),H',⟨Nat.le_refl _⟩,⟨blk_up BK118.out⟩,⟨hb_⟩⟩
 case round =>
  clear H'
  obtain ⟨x1_1,x12_1,rfl,rfl,HA,HK1,BK118,HB⟩:=hrel
  cases gk with
  | zero => exact absurd HA.out (by simp [order_follow.l0])
  | succ k1 =>
   have H:=HA.out
   clear HA
   simp only [order_follow.l0] at H
   by_cases c5 : x12_1 < (wrap64 ((l0.length : Int) + 1))
   rotate_left
   ·rw [if_neg c5] at H
    have c5b0 : decide (x12_1 < (wrap64 ((l0.length : Int) + 1))) = false:=decide_eq_false c5
    clear c5
    simp only [Option.some.injEq,Prod.mk.injEq] at H
    obtain ⟨rfl,rfl⟩:=H
    go_wp2
    go_ret2
    exact ⟨by first|rfl|(simp [errW_none,errW_some] <;> rfl)|(simp [*,errW_none,errW_some] <;> rfl),hb_⟩
   rw [if_pos c5] at H
   have c5b0 : decide (x12_1 < (wrap64 ((l0.length : Int) + 1))) = true:=decide_eq_true c5
   clear c5
   replace H:=ifp_ H;obtain ⟨c6,H⟩:=H
   have c6b0 : decide (0 ≤ x1_1) = true:=decide_eq_true c6
   clear c6
   replace H:=ifp_ H;obtain ⟨c7,H⟩:=H
   have c7b0 : decide (x1_1 < (l0.length : Int)) = true:=decide_eq_true c7
   clear c7
   by_cases c8 : ((rd_T33 l0 x1_1).f0) = 2
   rotate_left
   ·rw [if_neg c8] at H
    have c8b0 : (((rd_T33 l0 x1_1).f0) == 2) = false:=beq_eq_false_iff_ne.mpr c8
    have c8b1 : (((rd_T33 l0 x1_1).f0) != 2) = true:=bne_iff_ne.mpr c8
    simp only [Option.some.injEq,Prod.mk.injEq] at H
    obtain ⟨rfl,rfl⟩:=H
    have p119 : 0 ≤ (x1_1 : Int):=of_decide_eq_true (by first|(with_reducible assumption)|assumption)
    have q119 : x1_1 < (l0.length : Int):=of_decide_eq_true (by first|(with_reducible assumption)|assumption)
    obtain ⟨ad119,e119,hx119_0,hx119_1,hx119_2,hx119_3,hx119_4,hx119_5,hx119_6,hx119_7,hx119_8⟩:=at_T33 HR0.out x1_1 p119 q119
    cases e119
    replace hx119_0:=(HB.out.cell (World.block_lt_of_cell? w _ hx119_0)).trans hx119_0
    replace hx119_1:=(HB.out.cell (World.block_lt_of_cell? w _ hx119_1)).trans hx119_1
    replace hx119_2:=(HB.out.cell (World.block_lt_of_cell? w _ hx119_2)).trans hx119_2
    replace hx119_3:=(HB.out.cell (World.block_lt_of_cell? w _ hx119_3)).trans hx119_3
    replace hx119_4:=(HB.out.cell (World.block_lt_of_cell? w _ hx119_4)).trans hx119_4
    replace hx119_5:=(HB.out.cell (World.block_lt_of_cell? w _ hx119_5)).trans hx119_5
    replace hx119_6:=(HB.out.cell (World.block_lt_of_cell? w _ hx119_6)).trans hx119_6
    replace hx119_7:=(HB.out.cell (World.block_lt_of_cell? w _ hx119_7)).trans hx119_7
    replace hx119_8:=(HB.out.cell (World.block_lt_of_cell? w _ hx119_8)).trans hx119_8
    replace p119:=eq_true p119
    replace q119:=eq_true q119
    go_wp2_with (first|((with_reducible refine gate_dst (N:=8) rfl ?_);refine box_ev (N:=8) (cs:=#[.int .i64 0,.int .i64 0,.int .i64 0,.int .i64 0,.int .i64 0,.int .i64 0,.int .i64 0,.int .i64 0,.int .i64 0]) (t:=33) ?_;intro gb120 hg w23 hbox hb;have BK120:=Aside0.mk (hbox);have GW120 : Aside0 (w.heap.size ≤ gb120):=gsz hg;have GE120:=GW120;have NB118_120:=nbl BK118 hg;have NB120_118:=nbr BK118 hg;replace BK118:=bkb BK118 hb;replace HB:=Aside0.mk (below_step (hb_) hb);clear hb hbox hg;have hnb24:=NB120_118.out;have hnc24:=NB118_120.out;obtain ⟨hcz25_0,hcz25_1,hcz25_2,hcz25_3,hcz25_4,hcz25_5,hcz25_6,hcz25_7,hcz25_8,hfz25_0,hfz25_1,hfz25_2,hfz25_3,hfz25_4,hfz25_5,hfz25_6,hfz25_7,hfz25_8⟩:=cells9 BK120.out))
    go_ret2
    exact ⟨by first|rfl|(simp [errW_none,errW_some] <;> rfl)|(simp [*,errW_none,errW_some] <;> rfl),hb_⟩
   rw [if_pos c8] at H
   have c8b0 : (((rd_T33 l0 x1_1).f0) == 2) = true:=beq_iff_eq.mpr c8
   have c8b1 : (((rd_T33 l0 x1_1).f0) != 2) = false:=bne_eq_false_iff_eq.mpr c8
   clear c8
   replace H:=Option.bind_eq_some_iff.mp H
   obtain ⟨t121,A90,H⟩:=H
   replace H : (if t121 = true then (order_follow.l0 k1 l0 ((rd_T33 l0 x1_1).f6) (wrap64 ((l0.length : Int) + 1)) (wrap64 (x12_1 + 1)) a2_0 a2_1 a2_2 a2_3) else (if (l0.length : Int) = 0 then (none) else (order_follow.l0 k1 l0 (Int.tmod (wrap64 (x1_1 + 1)) (l0.length : Int)) (wrap64 ((l0.length : Int) + 1)) (wrap64 (x12_1 + 1)) a2_0 a2_1 a2_2 a2_3))) = some (r1,r2):=H
   have A9:=Aside0.mk A90
   clear A90
   by_cases c10 : t121 = true
   ·subst c10
    have H1 : (order_follow.l0 k1 l0 ((rd_T33 l0 x1_1).f6) (wrap64 ((l0.length : Int) + 1)) (wrap64 (x12_1 + 1)) a2_0 a2_1 a2_2 a2_3) = some (r1,r2):=by rw [if_pos rfl] at H;exact H
    clear H
    have H:=H1
    clear H1
    have H':=Aside0.mk H
    clear H
    have p119 : 0 ≤ (x1_1 : Int):=of_decide_eq_true (by first|(with_reducible assumption)|assumption)
    have q119 : x1_1 < (l0.length : Int):=of_decide_eq_true (by first|(with_reducible assumption)|assumption)
    obtain ⟨ad119,e119,hx119_0,hx119_1,hx119_2,hx119_3,hx119_4,hx119_5,hx119_6,hx119_7,hx119_8⟩:=at_T33 HR0.out x1_1 p119 q119
    cases e119
    replace hx119_0:=(HB.out.cell (World.block_lt_of_cell? w _ hx119_0)).trans hx119_0
    replace hx119_1:=(HB.out.cell (World.block_lt_of_cell? w _ hx119_1)).trans hx119_1
    replace hx119_2:=(HB.out.cell (World.block_lt_of_cell? w _ hx119_2)).trans hx119_2
    replace hx119_3:=(HB.out.cell (World.block_lt_of_cell? w _ hx119_3)).trans hx119_3
    replace hx119_4:=(HB.out.cell (World.block_lt_of_cell? w _ hx119_4)).trans hx119_4
    replace hx119_5:=(HB.out.cell (World.block_lt_of_cell? w _ hx119_5)).trans hx119_5
    replace hx119_6:=(HB.out.cell (World.block_lt_of_cell? w _ hx119_6)).trans hx119_6
    replace hx119_7:=(HB.out.cell (World.block_lt_of_cell? w _ hx119_7)).trans hx119_7
    replace hx119_8:=(HB.out.cell (World.block_lt_of_cell? w _ hx119_8)).trans hx119_8
    replace p119:=eq_true p119
    replace q119:=eq_true q119
    go_wp2_with (first|((with_reducible refine gate_dst (N:=8) rfl ?_);refine box_ev (N:=8) (cs:=#[.int .i64 0,.int .i64 0,.int .i64 0,.int .i64 0,.int .i64 0,.int .i64 0,.int .i64 0,.int .i64 0,.int .i64 0]) (t:=33) ?_;intro gb120 hg w11 hbox hb;have BK120:=Aside0.mk (hbox);have GW120 : Aside0 (w.heap.size ≤ gb120):=gsz hg;have GE120:=GW120;have NB118_120:=nbl BK118 hg;have NB120_118:=nbr BK118 hg;replace BK118:=bkb BK118 hb;replace HB:=Aside0.mk (below_step (hb_) hb);clear hb hbox hg;have hnb12:=NB120_118.out;have hnc12:=NB118_120.out;obtain ⟨hcz13_0,hcz13_1,hcz13_2,hcz13_3,hcz13_4,hcz13_5,hcz13_6,hcz13_7,hcz13_8,hfz13_0,hfz13_1,hfz13_2,hfz13_3,hfz13_4,hfz13_5,hfz13_6,hfz13_7,hfz13_8⟩:=cells9 BK120.out;obtain ⟨hcz14_0,hcz14_1,hcz14_2,hcz14_3,hfz14_0,hfz14_1,hfz14_2,hfz14_3⟩:=cells4 BK118.out)|((with_reducible refine gate_callee (f:=51) rfl ?_);refine goesL_ (some 24) rfl rfl Try.func51 (by kernel_rfl) rfl #[.agg #[.int .i64 ((rd_T33 l0 x1_1).f0),.int .i64 ((rd_T33 l0 x1_1).f1),.int .i64 ((rd_T33 l0 x1_1).f2),.int .i64 ((rd_T33 l0 x1_1).f3),.int .i64 ((rd_T33 l0 x1_1).f4),.int .i64 ((rd_T33 l0 x1_1).f5),.int .i64 ((rd_T33 l0 x1_1).f6),.int .i64 ((rd_T33 l0 x1_1).f7),.int .i64 ((rd_T33 l0 x1_1).f8)],.agg #[.int .i64 a2_0,.int .i64 a2_1,.int .i64 a2_2,.int .i64 a2_3]] rfl (by (try simp only [List.map_toArray,List.map_cons,List.map_nil]);first|done|rfl|(simp only [List.length_drop,List.length_take];rfl)) ?_;(with_reducible refine (order_holds.calls ((rd_T33 l0 x1_1).f0) ((rd_T33 l0 x1_1).f1) ((rd_T33 l0 x1_1).f2) ((rd_T33 l0 x1_1).f3) ((rd_T33 l0 x1_1).f4) ((rd_T33 l0 x1_1).f5) ((rd_T33 l0 x1_1).f6) ((rd_T33 l0 x1_1).f7) ((rd_T33 l0 x1_1).f8) a2_0 a2_1 a2_2 a2_3 true _ A9.out).mono ?_);rintro e w15 ⟨rfl,hb⟩;refine ⟨_,rfl,?_⟩;replace BK118:=Aside0.mk (blk_below (g:=gb118) (o:=.cells #[.int .i64 a2_0,.int .i64 a2_1,.int .i64 a2_2,.int .i64 a2_3] 28 (0,0)) (by (with_reducible repeat (first|refine blk_drewN ?_ _|refine blk_drew ?_|refine blk_alloc ?_ _));refine blk_far ?_ NB118_120.out _;(with_reducible repeat (first|refine blk_drewN ?_ _|refine blk_drew ?_|refine blk_alloc ?_ _));refine blk_far ?_ NB118_120.out _;(with_reducible repeat (first|refine blk_drewN ?_ _|refine blk_drew ?_|refine blk_alloc ?_ _));refine blk_far ?_ NB118_120.out _;(with_reducible repeat (first|refine blk_drewN ?_ _|refine blk_drew ?_|refine blk_alloc ?_ _));refine blk_far ?_ NB118_120.out _;(with_reducible repeat (first|refine blk_drewN ?_ _|refine blk_drew ?_|refine blk_alloc ?_ _));refine blk_far ?_ NB118_120.out _;(with_reducible repeat (first|refine blk_drewN ?_ _|refine blk_drew ?_|refine blk_alloc ?_ _));refine blk_far ?_ NB118_120.out _;(with_reducible repeat (first|refine blk_drewN ?_ _|refine blk_drew ?_|refine blk_alloc ?_ _));refine blk_far ?_ NB118_120.out _;(with_reducible repeat (first|refine blk_drewN ?_ _|refine blk_drew ?_|refine blk_alloc ?_ _));refine blk_far ?_ NB118_120.out _;(with_reducible repeat (first|refine blk_drewN ?_ _|refine blk_drew ?_|refine blk_alloc ?_ _));refine blk_far ?_ NB118_120.out _;(with_reducible repeat (first|refine blk_drewN ?_ _|refine blk_drew ?_|refine blk_alloc ?_ _));exact BK118.out) hb);replace BK120:=Aside0.mk (blk_below (g:=gb120) (o:=.cells #[.int .i64 ((rd_T33 l0 x1_1).f0),.int .i64 ((rd_T33 l0 x1_1).f1),.int .i64 ((rd_T33 l0 x1_1).f2),.int .i64 ((rd_T33 l0 x1_1).f3),.int .i64 ((rd_T33 l0 x1_1).f4),.int .i64 ((rd_T33 l0 x1_1).f5),.int .i64 ((rd_T33 l0 x1_1).f6),.int .i64 ((rd_T33 l0 x1_1).f7),.int .i64 ((rd_T33 l0 x1_1).f8)] 33 (0,0)) (by (with_reducible repeat (first|refine blk_drewN ?_ _|refine blk_drew ?_|refine blk_alloc ?_ _));refine blk_put (cs:=#[.int .i64 ((rd_T33 l0 x1_1).f0),.int .i64 ((rd_T33 l0 x1_1).f1),.int .i64 ((rd_T33 l0 x1_1).f2),.int .i64 ((rd_T33 l0 x1_1).f3),.int .i64 ((rd_T33 l0 x1_1).f4),.int .i64 ((rd_T33 l0 x1_1).f5),.int .i64 ((rd_T33 l0 x1_1).f6),.int .i64 ((rd_T33 l0 x1_1).f7),.int .i64 0]) ?_ 8 _ rfl;(with_reducible repeat (first|refine blk_drewN ?_ _|refine blk_drew ?_|refine blk_alloc ?_ _));refine blk_put (cs:=#[.int .i64 ((rd_T33 l0 x1_1).f0),.int .i64 ((rd_T33 l0 x1_1).f1),.int .i64 ((rd_T33 l0 x1_1).f2),.int .i64 ((rd_T33 l0 x1_1).f3),.int .i64 ((rd_T33 l0 x1_1).f4),.int .i64 ((rd_T33 l0 x1_1).f5),.int .i64 ((rd_T33 l0 x1_1).f6),.int .i64 0,.int .i64 0]) ?_ 7 _ rfl;(with_reducible repeat (first|refine blk_drewN ?_ _|refine blk_drew ?_|refine blk_alloc ?_ _));refine blk_put (cs:=#[.int .i64 ((rd_T33 l0 x1_1).f0),.int .i64 ((rd_T33 l0 x1_1).f1),.int .i64 ((rd_T33 l0 x1_1).f2),.int .i64 ((rd_T33 l0 x1_1).f3),.int .i64 ((rd_T33 l0 x1_1).f4),.int .i64 ((rd_T33 l0 x1_1).f5),.int .i64 0,.int .i64 0,.int .i64 0]) ?_ 6 _ rfl;(with_reducible repeat (first|refine blk_drewN ?_ _|refine blk_drew ?_|refine blk_alloc ?_ _));refine blk_put (cs:=#[.int .i64 ((rd_T33 l0 x1_1).f0),.int .i64 ((rd_T33 l0 x1_1).f1),.int .i64 ((rd_T33 l0 x1_1).f2),.int .i64 ((rd_T33 l0 x1_1).f3),.int .i64 ((rd_T33 l0 x1_1).f4),.int .i64 0,.int .i64 0,.int .i64 0,.int .i64 0]) ?_ 5 _ rfl;(with_reducible repeat (first|refine blk_drewN ?_ _|refine blk_drew ?_|refine blk_alloc ?_ _));refine blk_put (cs:=#[.int .i64 ((rd_T33 l0 x1_1).f0),.int .i64 ((rd_T33 l0 x1_1).f1),.int .i64 ((rd_T33 l0 x1_1).f2),.int .i64 ((rd_T33 l0 x1_1).f3),.int .i64 0,.int .i64 0,.int .i64 0,.int .i64 0,.int .i64 0]) ?_ 4 _ rfl;(with_reducible repeat (first|refine blk_drewN ?_ _|refine blk_drew ?_|refine blk_alloc ?_ _));refine blk_put (cs:=#[.int .i64 ((rd_T33 l0 x1_1).f0),.int .i64 ((rd_T33 l0 x1_1).f1),.int .i64 ((rd_T33 l0 x1_1).f2),.int .i64 0,.int .i64 0,.int .i64 0,.int .i64 0,.int .i64 0,.int .i64 0]) ?_ 3 _ rfl;(with_reducible repeat (first|refine blk_drewN ?_ _|refine blk_drew ?_|refine blk_alloc ?_ _));refine blk_put (cs:=#[.int .i64 ((rd_T33 l0 x1_1).f0),.int .i64 ((rd_T33 l0 x1_1).f1),.int .i64 0,.int .i64 0,.int .i64 0,.int .i64 0,.int .i64 0,.int .i64 0,.int .i64 0]) ?_ 2 _ rfl;(with_reducible repeat (first|refine blk_drewN ?_ _|refine blk_drew ?_|refine blk_alloc ?_ _));refine blk_put (cs:=#[.int .i64 ((rd_T33 l0 x1_1).f0),.int .i64 0,.int .i64 0,.int .i64 0,.int .i64 0,.int .i64 0,.int .i64 0,.int .i64 0,.int .i64 0]) ?_ 1 _ rfl;(with_reducible repeat (first|refine blk_drewN ?_ _|refine blk_drew ?_|refine blk_alloc ?_ _));refine blk_put (cs:=#[.int .i64 0,.int .i64 0,.int .i64 0,.int .i64 0,.int .i64 0,.int .i64 0,.int .i64 0,.int .i64 0,.int .i64 0]) ?_ 0 _ rfl;(with_reducible repeat (first|refine blk_drewN ?_ _|refine blk_drew ?_|refine blk_alloc ?_ _));exact BK120.out) hb);replace HB:=Aside0.mk (below_step (hb_) hb);obtain ⟨hcz16_0,hcz16_1,hcz16_2,hcz16_3,hcz16_4,hcz16_5,hcz16_6,hcz16_7,hcz16_8,hfz16_0,hfz16_1,hfz16_2,hfz16_3,hfz16_4,hfz16_5,hfz16_6,hfz16_7,hfz16_8⟩:=cells9 BK120.out))
    go_roundg k1
    case measure => have:=HK1.out;omega
    case rel => exact ⟨((rd_T33 l0 x1_1).f6),(wrap64 (x12_1 + 1)),(by first|rfl|(simp;done)|(simp [*];done)),(by first|rfl|(simp;done)|(simp [*];done)),H',⟨by have:=HK1.out;omega⟩,⟨blk_up BK118.out⟩,⟨hb_⟩⟩
   ·replace c10:=Bool.eq_false_iff.mpr c10
    subst c10
    have H1 : (if (l0.length : Int) = 0 then (none) else (order_follow.l0 k1 l0 (Int.tmod (wrap64 (x1_1 + 1)) (l0.length : Int)) (wrap64 ((l0.length : Int) + 1)) (wrap64 (x12_1 + 1)) a2_0 a2_1 a2_2 a2_3)) = some (r1,r2):=by rw [if_neg (show ¬ (false = true) by decide)] at H;exact H
    clear H
    have H:=H1
    clear H1
    replace H:=ifn_ H;obtain ⟨c17,H⟩:=H
    have c17b0 : ((l0.length : Int) == 0) = false:=beq_eq_false_iff_ne.mpr c17
    have c17b1 : ((l0.length : Int) != 0) = true:=bne_iff_ne.mpr c17
    have c17b2 : ¬ (l0 = []):=fun h_ => c17 (by rw [h_];rfl)
    have H':=Aside0.mk H
    clear H
    have p119 : 0 ≤ (x1_1 : Int):=of_decide_eq_true (by first|(with_reducible assumption)|assumption)
    have q119 : x1_1 < (l0.length : Int):=of_decide_eq_true (by first|(with_reducible assumption)|assumption)
    obtain ⟨ad119,e119,hx119_0,hx119_1,hx119_2,hx119_3,hx119_4,hx119_5,hx119_6,hx119_7,hx119_8⟩:=at_T33 HR0.out x1_1 p119 q119
    cases e119
    replace hx119_0:=(HB.out.cell (World.block_lt_of_cell? w _ hx119_0)).trans hx119_0
    replace hx119_1:=(HB.out.cell (World.block_lt_of_cell? w _ hx119_1)).trans hx119_1
    replace hx119_2:=(HB.out.cell (World.block_lt_of_cell? w _ hx119_2)).trans hx119_2
    replace hx119_3:=(HB.out.cell (World.block_lt_of_cell? w _ hx119_3)).trans hx119_3
    replace hx119_4:=(HB.out.cell (World.block_lt_of_cell? w _ hx119_4)).trans hx119_4
    replace hx119_5:=(HB.out.cell (World.block_lt_of_cell? w _ hx119_5)).trans hx119_5
    replace hx119_6:=(HB.out.cell (World.block_lt_of_cell? w _ hx119_6)).trans hx119_6
    replace hx119_7:=(HB.out.cell (World.block_lt_of_cell? w _ hx119_7)).trans hx119_7
    replace hx119_8:=(HB.out.cell (World.block_lt_of_cell? w _ hx119_8)).trans hx119_8
    replace p119:=eq_true p119
    replace q119:=eq_true q119
    go_wp2_with (first|((with_reducible refine gate_dst (N:=8) rfl ?_);refine box_ev (N:=8) (cs:=#[.int .i64 0,.int .i64 0,.int .i64 0,.int .i64 0,.int .i64 0,.int .i64 0,.int .i64 0,.int .i64 0,.int .i64 0]) (t:=33) ?_;intro gb120 hg w18 hbox hb;have BK120:=Aside0.mk (hbox);have GW120 : Aside0 (w.heap.size ≤ gb120):=gsz hg;have GE120:=GW120;have NB118_120:=nbl BK118 hg;have NB120_118:=nbr BK118 hg;replace BK118:=bkb BK118 hb;replace HB:=Aside0.mk (below_step (hb_) hb);clear hb hbox hg;have hnb19:=NB120_118.out;have hnc19:=NB118_120.out;obtain ⟨hcz20_0,hcz20_1,hcz20_2,hcz20_3,hcz20_4,hcz20_5,hcz20_6,hcz20_7,hcz20_8,hfz20_0,hfz20_1,hfz20_2,hfz20_3,hfz20_4,hfz20_5,hfz20_6,hfz20_7,hfz20_8⟩:=cells9 BK120.out;obtain ⟨hcz21_0,hcz21_1,hcz21_2,hcz21_3,hfz21_0,hfz21_1,hfz21_2,hfz21_3⟩:=cells4 BK118.out)|((with_reducible refine gate_callee (f:=51) rfl ?_);refine goesL_ (some 24) rfl rfl Try.func51 (by kernel_rfl) rfl #[.agg #[.int .i64 ((rd_T33 l0 x1_1).f0),.int .i64 ((rd_T33 l0 x1_1).f1),.int .i64 ((rd_T33 l0 x1_1).f2),.int .i64 ((rd_T33 l0 x1_1).f3),.int .i64 ((rd_T33 l0 x1_1).f4),.int .i64 ((rd_T33 l0 x1_1).f5),.int .i64 ((rd_T33 l0 x1_1).f6),.int .i64 ((rd_T33 l0 x1_1).f7),.int .i64 ((rd_T33 l0 x1_1).f8)],.agg #[.int .i64 a2_0,.int .i64 a2_1,.int .i64 a2_2,.int .i64 a2_3]] rfl (by (try simp only [List.map_toArray,List.map_cons,List.map_nil]);first|done|rfl|(simp only [List.length_drop,List.length_take];rfl)) ?_;(with_reducible refine (order_holds.calls ((rd_T33 l0 x1_1).f0) ((rd_T33 l0 x1_1).f1) ((rd_T33 l0 x1_1).f2) ((rd_T33 l0 x1_1).f3) ((rd_T33 l0 x1_1).f4) ((rd_T33 l0 x1_1).f5) ((rd_T33 l0 x1_1).f6) ((rd_T33 l0 x1_1).f7) ((rd_T33 l0 x1_1).f8) a2_0 a2_1 a2_2 a2_3 false _ A9.out).mono ?_);rintro e w22 ⟨rfl,hb⟩;refine ⟨_,rfl,?_⟩;replace BK118:=Aside0.mk (blk_below (g:=gb118) (o:=.cells #[.int .i64 a2_0,.int .i64 a2_1,.int .i64 a2_2,.int .i64 a2_3] 28 (0,0)) (by (with_reducible repeat (first|refine blk_drewN ?_ _|refine blk_drew ?_|refine blk_alloc ?_ _));refine blk_far ?_ NB118_120.out _;(with_reducible repeat (first|refine blk_drewN ?_ _|refine blk_drew ?_|refine blk_alloc ?_ _));refine blk_far ?_ NB118_120.out _;(with_reducible repeat (first|refine blk_drewN ?_ _|refine blk_drew ?_|refine blk_alloc ?_ _));refine blk_far ?_ NB118_120.out _;(with_reducible repeat (first|refine blk_drewN ?_ _|refine blk_drew ?_|refine blk_alloc ?_ _));refine blk_far ?_ NB118_120.out _;(with_reducible repeat (first|refine blk_drewN ?_ _|refine blk_drew ?_|refine blk_alloc ?_ _));refine blk_far ?_ NB118_120.out _;(with_reducible repeat (first|refine blk_drewN ?_ _|refine blk_drew ?_|refine blk_alloc ?_ _));refine blk_far ?_ NB118_120.out _;(with_reducible repeat (first|refine blk_drewN ?_ _|refine blk_drew ?_|refine blk_alloc ?_ _));refine blk_far ?_ NB118_120.out _;(with_reducible repeat (first|refine blk_drewN ?_ _|refine blk_drew ?_|refine blk_alloc ?_ _));refine blk_far ?_ NB118_120.out _;(with_reducible repeat (first|refine blk_drewN ?_ _|refine blk_drew ?_|refine blk_alloc ?_ _));refine blk_far ?_ NB118_120.out _;(with_reducible repeat (first|refine blk_drewN ?_ _|refine blk_drew ?_|refine blk_alloc ?_ _));exact BK118.out) hb);replace BK120:=Aside0.mk (blk_below (g:=gb120) (o:=.cells #[.int .i64 ((rd_T33 l0 x1_1).f0),.int .i64 ((rd_T33 l0 x1_1).f1),.int .i64 ((rd_T33 l0 x1_1).f2),.int .i64 ((rd_T33 l0 x1_1).f3),.int .i64 ((rd_T33 l0 x1_1).f4),.int .i64 ((rd_T33 l0 x1_1).f5),.int .i64 ((rd_T33 l0 x1_1).f6),.int .i64 ((rd_T33 l0 x1_1).f7),.int .i64 ((rd_T33 l0 x1_1).f8)] 33 (0,0)) (by (with_reducible repeat (first|refine blk_drewN ?_ _|refine blk_drew ?_|refine blk_alloc ?_ _));refine blk_put (cs:=#[.int .i64 ((rd_T33 l0 x1_1).f0),.int .i64 ((rd_T33 l0 x1_1).f1),.int .i64 ((rd_T33 l0 x1_1).f2),.int .i64 ((rd_T33 l0 x1_1).f3),.int .i64 ((rd_T33 l0 x1_1).f4),.int .i64 ((rd_T33 l0 x1_1).f5),.int .i64 ((rd_T33 l0 x1_1).f6),.int .i64 ((rd_T33 l0 x1_1).f7),.int .i64 0]) ?_ 8 _ rfl;(with_reducible repeat (first|refine blk_drewN ?_ _|refine blk_drew ?_|refine blk_alloc ?_ _));refine blk_put (cs:=#[.int .i64 ((rd_T33 l0 x1_1).f0),.int .i64 ((rd_T33 l0 x1_1).f1),.int .i64 ((rd_T33 l0 x1_1).f2),.int .i64 ((rd_T33 l0 x1_1).f3),.int .i64 ((rd_T33 l0 x1_1).f4),.int .i64 ((rd_T33 l0 x1_1).f5),.int .i64 ((rd_T33 l0 x1_1).f6),.int .i64 0,.int .i64 0]) ?_ 7 _ rfl;(with_reducible repeat (first|refine blk_drewN ?_ _|refine blk_drew ?_|refine blk_alloc ?_ _));refine blk_put (cs:=#[.int .i64 ((rd_T33 l0 x1_1).f0),.int .i64 ((rd_T33 l0 x1_1).f1),.int .i64 ((rd_T33 l0 x1_1).f2),.int .i64 ((rd_T33 l0 x1_1).f3),.int .i64 ((rd_T33 l0 x1_1).f4),.int .i64 ((rd_T33 l0 x1_1).f5),.int .i64 0,.int .i64 0,.int .i64 0]) ?_ 6 _ rfl;(with_reducible repeat (first|refine blk_drewN ?_ _|refine blk_drew ?_|refine blk_alloc ?_ _));refine blk_put (cs:=#[.int .i64 ((rd_T33 l0 x1_1).f0),.int .i64 ((rd_T33 l0 x1_1).f1),.int .i64 ((rd_T33 l0 x1_1).f2),.int .i64 ((rd_T33 l0 x1_1).f3),.int .i64 ((rd_T33 l0 x1_1).f4),.int .i64 0,.int .i64 0,.int .i64 0,.int .i64 0]) ?_ 5 _ rfl;(with_reducible repeat (first|refine blk_drewN ?_ _|refine blk_drew ?_|refine blk_alloc ?_ _));refine blk_put (cs:=#[.int .i64 ((rd_T33 l0 x1_1).f0),.int .i64 ((rd_T33 l0 x1_1).f1),.int .i64 ((rd_T33 l0 x1_1).f2),.int .i64 ((rd_T33 l0 x1_1).f3),.int .i64 0,.int .i64 0,.int .i64 0,.int .i64 0,.int .i64 0]) ?_ 4 _ rfl;(with_reducible repeat (first|refine blk_drewN ?_ _|refine blk_drew ?_|refine blk_alloc ?_ _));refine blk_put (cs:=#[.int .i64 ((rd_T33 l0 x1_1).f0),.int .i64 ((rd_T33 l0 x1_1).f1),.int .i64 ((rd_T33 l0 x1_1).f2),.int .i64 0,.int .i64 0,.int .i64 0,.int .i64 0,.int .i64 0,.int .i64 0]) ?_ 3 _ rfl;(with_reducible repeat (first|refine blk_drewN ?_ _|refine blk_drew ?_|refine blk_alloc ?_ _));refine blk_put (cs:=#[.int .i64 ((rd_T33 l0 x1_1).f0),.int .i64 ((rd_T33 l0 x1_1).f1),.int .i64 0,.int .i64 0,.int .i64 0,.int .i64 0,.int .i64 0,.int .i64 0,.int .i64 0]) ?_ 2 _ rfl;(with_reducible repeat (first|refine blk_drewN ?_ _|refine blk_drew ?_|refine blk_alloc ?_ _));refine blk_put (cs:=#[.int .i64 ((rd_T33 l0 x1_1).f0),.int .i64 0,.int .i64 0,.int .i64 0,.int .i64 0,.int .i64 0,.int .i64 0,.int .i64 0,.int .i64 0]) ?_ 1 _ rfl;(with_reducible repeat (first|refine blk_drewN ?_ _|refine blk_drew ?_|refine blk_alloc ?_ _));refine blk_put (cs:=#[.int .i64 0,.int .i64 0,.int .i64 0,.int .i64 0,.int .i64 0,.int .i64 0,.int .i64 0,.int .i64 0,.int .i64 0]) ?_ 0 _ rfl;(with_reducible repeat (first|refine blk_drewN ?_ _|refine blk_drew ?_|refine blk_alloc ?_ _));exact BK120.out) hb);replace HB:=Aside0.mk (below_step (hb_) hb)))
    go_roundg k1
    case measure => have:=HK1.out;omega
    case rel => exact ⟨(Int.tmod (wrap64 (x1_1 + 1)) (l0.length : Int)),(wrap64 (x12_1 + 1)),(by first|rfl|(simp;done)|(simp [*];done)),(by first|rfl|(simp;done)|(simp [*];done)),H',⟨by have:=HK1.out;omega⟩,⟨blk_up BK118.out⟩,⟨hb_⟩⟩

/-! ### order_Next: function 20 -/
def order_Next.f (k : Nat) (l0 : List (S33)) (a1 : Int) (a2_0 : Int) (a2_1 : Int) (a2_2 : Int) (a2_3 : Int) : Option (Int × Bool × Int) := (order_check.f k l0 a1).bind fun t123 => (if t123 = 0 then (if (l0.length : Int) = 0 then (some (0, false, t123)) else ((order_follow.f k l0 a1 a2_0 a2_1 a2_2 a2_3).bind fun bt124 => (some (bt124.1, bt124.2, 0)))) else (some (0, false, t123)))
theorem order_Next.mono : ∀ a0 a1 a2 a3 a4 a5 k, LeO (order_Next.f k a0 a1 a2 a3 a4 a5) (order_Next.f (k + 1) a0 a1 a2 a3 a4 a5) := by
 intro a0 a1 a2 a3 a4 a5 k
 unfold order_Next.f
 repeat' first
   | (with_reducible exact order_check.mono _ _ _)
   | (with_reducible exact order_follow.mono _ _ _ _ _ _ _)
   | (with_reducible exact LeO.refl _)
   | (with_reducible exact LeO.none _)
   | (with_reducible refine LeO.ite ?_ ?_)
   | (with_reducible refine LeO.bind ?_ (fun _ => ?_))
   | exact order_check.mono _ _ _
   | exact order_follow.mono _ _ _ _ _ _ _
   | exact LeO.none _
   | refine LeO.ite ?_ ?_
   | refine LeO.bind ?_ (fun _ => ?_)
set_option maxHeartbeats 8000000 in
set_option maxRecDepth 100000 in
theorem order_Next.calls (k : Nat) (A0 : Option Addr) (c0 : Nat) (l0 : List (S33)) (a1 : Int) (a2_0 : Int) (a2_1 : Int) (a2_2 : Int) (a2_3 : Int) (r1 : Int) (r2 : Bool) (r3 : Int) (w : World) (hr0 : Kd.C k33 w A0 l0.length l0) (hc0 : l0.length ≤ c0) (h : order_Next.f k l0 a1 a2_0 a2_1 a2_2 a2_3 = some (r1, r2, r3)) :
  Calls Try.prog 20 #[.slice A0 l0.length c0,.int .i64 a1,.agg #[.int .i64 a2_0,.int .i64 a2_1,.int .i64 a2_2,.int .i64 a2_3]] w fun e w' => e = .returned (.tuple #[.int .i64 r1,.bool r2,.int .i64 r3]) ∧ Below w.heap.size w w':=by
 have hu28:=Try.underlying28
 have HR0:=Aside0.mk hr0
 have HC0:=Aside0.mk hc0
 clear hr0 hc0
 have HB:=Aside0.mk (Below.refl w.heap.size w)
 have H : ((order_check.f k l0 a1).bind fun t123 => (if t123 = 0 then (if (l0.length : Int) = 0 then (some (0,false,t123)) else ((order_follow.f k l0 a1 a2_0 a2_1 a2_2 a2_3).bind fun bt124 => (some (bt124.1,bt124.2,0)))) else (some (0,false,t123)))) = some (r1,r2,r3):=h
 clear h
 replace H:=Option.bind_eq_some_iff.mp H
 obtain ⟨t123,A40,H⟩:=H
 replace H : (if t123 = 0 then (if (l0.length : Int) = 0 then (some (0,false,t123)) else ((order_follow.f k l0 a1 a2_0 a2_1 a2_2 a2_3).bind fun bt124 => (some (bt124.1,bt124.2,0)))) else (some (0,false,t123))) = some (r1,r2,r3):=H
 have A4:=Aside0.mk A40
 clear A40
 by_cases c5 : t123 = 0
 ·rw [if_pos c5] at H
  have c5b0 : (t123 == 0) = true:=beq_iff_eq.mpr c5
  have c5b1 : (t123 != 0) = false:=bne_eq_false_iff_eq.mpr c5
  clear c5
  by_cases c6 : (l0.length : Int) = 0
  ·rw [if_pos c6] at H
   have c6b0 : ((l0.length : Int) == 0) = true:=beq_iff_eq.mpr c6
   have c6b1 : ((l0.length : Int) != 0) = false:=bne_eq_false_iff_eq.mpr c6
   clear c6
   simp only [Option.some.injEq,Prod.mk.injEq] at H
   obtain ⟨rfl,rfl,rfl⟩:=H
   go_enter Try.func20,Try.ntmps20
   go_wp2_with (first|((with_reducible refine gate_dst (N:=5) rfl ?_);(try (refine gate_guard (by rfl) ?_;dsimp only));refine box_ev (N:=5) (cs:=#[.int .i64 a2_0,.int .i64 a2_1,.int .i64 a2_2,.int .i64 a2_3]) (t:=28) ?_;intro gb122 hg w7 hbox hb;have BK122:=Aside0.mk (hbox);have GW122 : Aside0 (w.heap.size ≤ gb122):=gsz hg;have GE122:=GW122;replace HB:=Aside0.mk (below_step (hb_) hb);clear hb hbox hg)|((with_reducible refine gate_callee (f:=41) rfl ?_);refine goesL_ (some 14) rfl rfl Try.func41 (by kernel_rfl) rfl #[.slice A0 l0.length c0,.int .i64 a1] rfl (by (try simp only [List.map_toArray,List.map_cons,List.map_nil]);first|done|rfl|(simp only [List.length_drop,List.length_take];rfl)) ?_;(with_reducible refine (order_check.calls k _ _ l0 a1 t123 _ ?side1 ?side2 A4.out).mono ?_);(case side1 => exact Kd.C_up (Kd.C_below HR0.out HB.out));(case side2 => exact HC0.out);rintro e w8 ⟨rfl,hb⟩;refine ⟨_,rfl,?_⟩;replace BK122:=bkb BK122 hb;replace HB:=Aside0.mk (below_step (hb_) hb)))
   go_ret3
   exact ⟨by first|rfl|(simp [errW_none,errW_some] <;> rfl)|(simp [*,errW_none,errW_some] <;> rfl),hb_⟩
  ·rw [if_neg c6] at H
   have c6b0 : ((l0.length : Int) == 0) = false:=beq_eq_false_iff_ne.mpr c6
   have c6b1 : ((l0.length : Int) != 0) = true:=bne_iff_ne.mpr c6
   have c6b2 : ¬ (l0 = []):=fun h_ => c6 (by rw [h_];rfl)
   replace H:=Option.bind_eq_some_iff.mp H
   obtain ⟨⟨t124,t125⟩,A90,H⟩:=H
   replace H : (some (t124,t125,0)) = some (r1,r2,r3):=H
   have A9:=Aside0.mk A90
   clear A90
   simp only [Option.some.injEq,Prod.mk.injEq] at H
   obtain ⟨rfl,rfl,rfl⟩:=H
   go_enter Try.func20,Try.ntmps20
   go_wp2_with (first|((with_reducible refine gate_dst (N:=5) rfl ?_);(try (refine gate_guard (by rfl) ?_;dsimp only));refine box_ev (N:=5) (cs:=#[.int .i64 a2_0,.int .i64 a2_1,.int .i64 a2_2,.int .i64 a2_3]) (t:=28) ?_;intro gb122 hg w10 hbox hb;have BK122:=Aside0.mk (hbox);have GW122 : Aside0 (w.heap.size ≤ gb122):=gsz hg;have GE122:=GW122;replace HB:=Aside0.mk (below_step (hb_) hb);clear hb hbox hg)|((with_reducible refine gate_callee (f:=41) rfl ?_);refine goesL_ (some 14) rfl rfl Try.func41 (by kernel_rfl) rfl #[.slice A0 l0.length c0,.int .i64 a1] rfl (by (try simp only [List.map_toArray,List.map_cons,List.map_nil]);first|done|rfl|(simp only [List.length_drop,List.length_take];rfl)) ?_;(with_reducible refine (order_check.calls k _ _ l0 a1 t123 _ ?side1 ?side2 A4.out).mono ?_);(case side1 => exact Kd.C_up (Kd.C_below HR0.out HB.out));(case side2 => exact HC0.out);rintro e w11 ⟨rfl,hb⟩;refine ⟨_,rfl,?_⟩;replace BK122:=bkb BK122 hb;replace HB:=Aside0.mk (below_step (hb_) hb);obtain ⟨hcz12_0,hcz12_1,hcz12_2,hcz12_3,hfz12_0,hfz12_1,hfz12_2,hfz12_3⟩:=cells4 BK122.out)|((with_reducible refine gate_callee (f:=42) rfl ?_);refine goesL_ (some 27) rfl rfl Try.func42 (by kernel_rfl) rfl #[.slice A0 l0.length c0,.int .i64 a1,.agg #[.int .i64 a2_0,.int .i64 a2_1,.int .i64 a2_2,.int .i64 a2_3]] rfl (by (try simp only [List.map_toArray,List.map_cons,List.map_nil]);first|done|rfl|(simp only [List.length_drop,List.length_take];rfl)) ?_;(with_reducible refine (order_follow.calls k _ _ l0 a1 a2_0 a2_1 a2_2 a2_3 t124 t125 _ ?side1 ?side2 A9.out).mono ?_);(case side1 => exact Kd.C_up (Kd.C_below HR0.out HB.out));(case side2 => exact HC0.out);rintro e w13 ⟨rfl,hb⟩;refine ⟨_,rfl,?_⟩;replace BK122:=bkb BK122 hb;replace HB:=Aside0.mk (below_step (hb_) hb)))
   go_ret3
   exact ⟨by first|rfl|(simp [errW_none,errW_some] <;> rfl)|(simp [*,errW_none,errW_some] <;> rfl),hb_⟩
 ·rw [if_neg c5] at H
  have c5b0 : (t123 == 0) = false:=beq_eq_false_iff_ne.mpr c5
  have c5b1 : (t123 != 0) = true:=bne_iff_ne.mpr c5
  simp only [Option.some.injEq,Prod.mk.injEq] at H
  obtain ⟨rfl,rfl,rfl⟩:=H
  go_enter Try.func20,Try.ntmps20
  go_wp2_with (first|((with_reducible refine gate_dst (N:=5) rfl ?_);(try (refine gate_guard (by rfl) ?_;dsimp only));refine box_ev (N:=5) (cs:=#[.int .i64 a2_0,.int .i64 a2_1,.int .i64 a2_2,.int .i64 a2_3]) (t:=28) ?_;intro gb122 hg w14 hbox hb;have BK122:=Aside0.mk (hbox);have GW122 : Aside0 (w.heap.size ≤ gb122):=gsz hg;have GE122:=GW122;replace HB:=Aside0.mk (below_step (hb_) hb);clear hb hbox hg)|((with_reducible refine gate_callee (f:=41) rfl ?_);refine goesL_ (some 14) rfl rfl Try.func41 (by kernel_rfl) rfl #[.slice A0 l0.length c0,.int .i64 a1] rfl (by (try simp only [List.map_toArray,List.map_cons,List.map_nil]);first|done|rfl|(simp only [List.length_drop,List.length_take];rfl)) ?_;(with_reducible refine (order_check.calls k _ _ l0 a1 t123 _ ?side1 ?side2 A4.out).mono ?_);(case side1 => exact Kd.C_up (Kd.C_below HR0.out HB.out));(case side2 => exact HC0.out);rintro e w15 ⟨rfl,hb⟩;refine ⟨_,rfl,?_⟩;replace BK122:=bkb BK122 hb;replace HB:=Aside0.mk (below_step (hb_) hb)))
  go_ret3
  exact ⟨by first|rfl|(simp [errW_none,errW_some] <;> rfl)|(simp [*,errW_none,errW_some] <;> rfl),hb_⟩

/-! ### hinterlandlaw15_known: function 16 -/
def hinterlandlaw15_known.f (k : Nat)  : Option (Bool) := (order_Next.f k (([(⟨2, 0, 0, 0, 0, 0, 1, 0, 0⟩ : S33), (⟨0, 3, 0, 0, 0, 0, 0, 0, 0⟩ : S33)] : List (S33))) 0 0 0 0 0).bind fun bt129 => ((order_Next.f k (([(⟨2, 0, 0, 0, 0, 0, 0, 0, 0⟩ : S33)] : List (S33))) 0 0 0 0 0).bind fun bt135 => (if bt129.1 = 1 then (if bt129.2.1 = true then (if bt129.2.2 = 0 then (if bt135.2.1 = true then (some false) else (some (bt135.2.2 == 0))) else (some false)) else (some false)) else (some false)))
theorem hinterlandlaw15_known.mono : ∀ k, LeO (hinterlandlaw15_known.f k ) (hinterlandlaw15_known.f (k + 1) ) := by
 intro  k
 unfold hinterlandlaw15_known.f
 repeat' first
   | (with_reducible exact order_Next.mono _ _ _ _ _ _ _)
   | (with_reducible exact LeO.refl _)
   | (with_reducible exact LeO.none _)
   | (with_reducible refine LeO.ite ?_ ?_)
   | (with_reducible refine LeO.bind ?_ (fun _ => ?_))
   | exact order_Next.mono _ _ _ _ _ _ _
   | exact LeO.none _
   | refine LeO.ite ?_ ?_
   | refine LeO.bind ?_ (fun _ => ?_)
set_option maxHeartbeats 8000000 in
set_option maxRecDepth 100000 in
theorem hinterlandlaw15_known.calls (k : Nat)  (r : Bool) (w : World) (h : hinterlandlaw15_known.f k  = some r) :
  Calls Try.prog 16 #[] w fun e w' => e = .returned (.bool r) ∧ Below w.heap.size w w':=by
 have hu33:=Try.underlying33
 have hu28:=Try.underlying28
 have HB:=Aside0.mk (Below.refl w.heap.size w)
 have H : ((order_Next.f k (([(⟨2,0,0,0,0,0,1,0,0⟩ : S33),(⟨0,3,0,0,0,0,0,0,0⟩ : S33)] : List (S33))) 0 0 0 0 0).bind fun bt129 => ((order_Next.f k (([(⟨2,0,0,0,0,0,0,0,0⟩ : S33)] : List (S33))) 0 0 0 0 0).bind fun bt135 => (if bt129.1 = 1 then (if bt129.2.1 = true then (if bt129.2.2 = 0 then (if bt135.2.1 = true then (some false) else (some (bt135.2.2 == 0))) else (some false)) else (some false)) else (some false)))) = some r:=h
 clear h
 obtain ⟨y126,hy126⟩ : ∃ y_ : List (S33),y_ = (([(⟨2,0,0,0,0,0,1,0,0⟩ : S33),(⟨0,3,0,0,0,0,0,0,0⟩ : S33)] : List (S33))):=⟨_,rfl⟩
 replace H : ((order_Next.f k y126 0 0 0 0 0).bind fun bt129 => ((order_Next.f k (([(⟨2,0,0,0,0,0,0,0,0⟩ : S33)] : List (S33))) 0 0 0 0 0).bind fun bt135 => (if bt129.1 = 1 then (if bt129.2.1 = true then (if bt129.2.2 = 0 then (if bt135.2.1 = true then (some false) else (some (bt135.2.2 == 0))) else (some false)) else (some false)) else (some false)))) = some r:=by first|(rw [hy126];with_reducible exact H)|(have H2_:=(Option.bind_some _ _).symm.trans H;rw [hy126];with_reducible exact H2_)|(have H2_:=(Option.bind_some _ _).symm.trans H;with_reducible exact H2_)|with_reducible exact H|(rw [hy126];exact H)|exact H
 have Ny126:=Aside0.mk hy126
 clear hy126
 replace H:=Option.bind_eq_some_iff.mp H
 obtain ⟨⟨t129,t130,t131⟩,A10,H⟩:=H
 replace H : ((order_Next.f k (([(⟨2,0,0,0,0,0,0,0,0⟩ : S33)] : List (S33))) 0 0 0 0 0).bind fun bt135 => (if t129 = 1 then (if t130 = true then (if t131 = 0 then (if bt135.2.1 = true then (some false) else (some (bt135.2.2 == 0))) else (some false)) else (some false)) else (some false))) = some r:=H
 have A1:=Aside0.mk A10
 clear A10
 obtain ⟨y132,hy132⟩ : ∃ y_ : List (S33),y_ = (([(⟨2,0,0,0,0,0,0,0,0⟩ : S33)] : List (S33))):=⟨_,rfl⟩
 replace H : ((order_Next.f k y132 0 0 0 0 0).bind fun bt135 => (if t129 = 1 then (if t130 = true then (if t131 = 0 then (if bt135.2.1 = true then (some false) else (some (bt135.2.2 == 0))) else (some false)) else (some false)) else (some false))) = some r:=by first|(rw [hy132];with_reducible exact H)|(have H2_:=(Option.bind_some _ _).symm.trans H;rw [hy132];with_reducible exact H2_)|(have H2_:=(Option.bind_some _ _).symm.trans H;with_reducible exact H2_)|with_reducible exact H|(rw [hy132];exact H)|exact H
 have Ny132:=Aside0.mk hy132
 clear hy132
 replace H:=Option.bind_eq_some_iff.mp H
 obtain ⟨⟨t135,t136,t137⟩,A20,H⟩:=H
 replace H : (if t129 = 1 then (if t130 = true then (if t131 = 0 then (if t136 = true then (some false) else (some (t137 == 0))) else (some false)) else (some false)) else (some false)) = some r:=H
 have A2:=Aside0.mk A20
 clear A20
 by_cases c3 : t129 = 1
 rotate_left
 ·rw [if_neg c3] at H
  have c3b0 : (t129 == 1) = false:=beq_eq_false_iff_ne.mpr c3
  have c3b1 : (t129 != 1) = true:=bne_iff_ne.mpr c3
  obtain rfl:=Option.some.inj H
  go_enter Try.func16,Try.ntmps16
  go_wp2_with (first|((with_reducible refine gate_dst (N:=10) rfl ?_);refine Kd.R_lit k33 _ 33 ?hg (N:=10) ?hd (xs:=([(⟨2,0,0,0,0,0,1,0,0⟩ : S33),(⟨0,3,0,0,0,0,0,0,0⟩ : S33)] : List (S33))) (inner:=[.int .i64 2,.int .i64 0,.int .i64 0,.int .i64 0,.int .i64 0,.int .i64 0,.int .i64 1,.int .i64 0,.int .i64 0,.int .i64 0,.int .i64 3,.int .i64 0,.int .i64 0,.int .i64 0,.int .i64 0,.int .i64 0,.int .i64 0,.int .i64 0]) (ok:=fun _ => True) (okp:=fun _ => True) ?hr ?hp (fun _ hk => hk) trivial (Below.refl _ _) (Nat.le_refl _) (by simp) ?_;(case hd => rfl);(case hg => rfl);(case hr => first|(go_simp;done)|(go_simp;rfl));(case hp => exact (Reps.c9 (show Kd.M k33 _ _ _ (⟨2,0,0,0,0,0,1,0,0⟩ : S33) [.int .i64 2,.int .i64 0,.int .i64 0,.int .i64 0,.int .i64 0,.int .i64 0,.int .i64 1,.int .i64 0,.int .i64 0] from (k33_mkM _ _ _ (⟨2,0,0,0,0,0,1,0,0⟩ : S33) )) (Reps.c9 (show Kd.M k33 _ _ _ (⟨0,3,0,0,0,0,0,0,0⟩ : S33) [.int .i64 0,.int .i64 3,.int .i64 0,.int .i64 0,.int .i64 0,.int .i64 0,.int .i64 0,.int .i64 0,.int .i64 0] from (k33_mkM _ _ _ (⟨0,3,0,0,0,0,0,0,0⟩ : S33) )) (Reps.none _ _))));intro v127 w39 ho40 hb hg_ hnew_;clear hg_ hnew_;(first|rw [← Ny126.out] at ho40|(simp only [Int.reduceToNat] at ho40;rw [← Ny126.out] at ho40));have HO128:=rlo ho40;replace HB:=Aside0.mk (below_step (hb_) hb);clear hb ho40;obtain ⟨Ao41,co41,eo41⟩:=Kd.R_slice HO128.out;subst eo41)|((with_reducible refine gate_callee (f:=20) rfl ?_);refine goesL_ (some 12) rfl rfl Try.func20 (by kernel_rfl) rfl #[.slice Ao41 y126.length co41,.int .i64 0,.agg #[.int .i64 0,.int .i64 0,.int .i64 0,.int .i64 0]] rfl (by (try simp only [List.map_toArray,List.map_cons,List.map_nil]);first|done|rfl|(simp only [List.length_drop,List.length_take];rfl)) ?_;(with_reducible refine (order_Next.calls k _ _ y126 0 0 0 0 0 t129 t130 t131 _ ?side1 ?side2 A1.out).mono ?_);(case side1 => exact Kd.C_up (Kd.R_reads' HO128.out).2.2);(case side2 => exact (Kd.R_reads' HO128.out).2.1);rintro e w42 ⟨rfl,hb⟩;refine ⟨_,rfl,?_⟩;replace HO128:=rbw HO128 hb;replace HB:=Aside0.mk (below_step (hb_) hb))|((with_reducible refine gate_dst (N:=18) rfl ?_);refine Kd.R_lit k33 _ 33 ?hg (N:=18) ?hd (xs:=([(⟨2,0,0,0,0,0,0,0,0⟩ : S33)] : List (S33))) (inner:=[.int .i64 2,.int .i64 0,.int .i64 0,.int .i64 0,.int .i64 0,.int .i64 0,.int .i64 0,.int .i64 0,.int .i64 0]) (ok:=fun _ => True) (okp:=fun _ => True) ?hr ?hp (fun _ hk => hk) trivial (Below.refl _ _) (Nat.le_refl _) (by simp) ?_;(case hd => rfl);(case hg => rfl);(case hr => first|(go_simp;done)|(go_simp;rfl));(case hp => exact (Reps.c9 (show Kd.M k33 _ _ _ (⟨2,0,0,0,0,0,0,0,0⟩ : S33) [.int .i64 2,.int .i64 0,.int .i64 0,.int .i64 0,.int .i64 0,.int .i64 0,.int .i64 0,.int .i64 0,.int .i64 0] from (k33_mkM _ _ _ (⟨2,0,0,0,0,0,0,0,0⟩ : S33) )) (Reps.none _ _)));intro v133 w43 ho44 hb hg_ hnew_;clear hg_ hnew_;(first|rw [← Ny132.out] at ho44|(simp only [Int.reduceToNat] at ho44;rw [← Ny132.out] at ho44));have HO134:=Aside0.mk (Kd.R_lower (Kd.R_new' ho44 (Kd.R_lt (Kd.R_up HO128.out))) (below_size (hb_)));replace HO128:=Aside0.mk (Kd.R_elder' (Kd.R_up HO128.out) (Kd.R_base ho44) hb);replace HB:=Aside0.mk (below_step (hb_) hb);clear hb ho44;obtain ⟨Ao45,co45,eo45⟩:=Kd.R_slice HO134.out;subst eo45)|((with_reducible refine gate_callee (f:=20) rfl ?_);refine goesL_ (some 20) rfl rfl Try.func20 (by kernel_rfl) rfl #[.slice Ao45 y132.length co45,.int .i64 0,.agg #[.int .i64 0,.int .i64 0,.int .i64 0,.int .i64 0]] rfl (by (try simp only [List.map_toArray,List.map_cons,List.map_nil]);first|done|rfl|(simp only [List.length_drop,List.length_take];rfl)) ?_;(with_reducible refine (order_Next.calls k _ _ y132 0 0 0 0 0 t135 t136 t137 _ ?side1 ?side2 A2.out).mono ?_);(case side1 => exact Kd.C_up (Kd.R_reads' HO134.out).2.2);(case side2 => exact (Kd.R_reads' HO134.out).2.1);rintro e w46 ⟨rfl,hb⟩;refine ⟨_,rfl,?_⟩;replace HO128:=rbw HO128 hb;replace HO134:=rbw HO134 hb;replace HB:=Aside0.mk (below_step (hb_) hb)))
  go_ret
  exact ⟨by first|rfl|(simp [errW_none,errW_some] <;> rfl)|(simp [*,errW_none,errW_some] <;> rfl),hb_⟩
 rw [if_pos c3] at H
 have c3b0 : (t129 == 1) = true:=beq_iff_eq.mpr c3
 have c3b1 : (t129 != 1) = false:=bne_eq_false_iff_eq.mpr c3
 clear c3
 by_cases c4 : t130 = true
 ·subst c4
  have H1 : (if t131 = 0 then (if t136 = true then (some false) else (some (t137 == 0))) else (some false)) = some r:=by rw [if_pos rfl] at H;exact H
  clear H
  have H:=H1
  clear H1
  by_cases c5 : t131 = 0
  ·rw [if_pos c5] at H
   have c5b0 : (t131 == 0) = true:=beq_iff_eq.mpr c5
   have c5b1 : (t131 != 0) = false:=bne_eq_false_iff_eq.mpr c5
   clear c5
   by_cases c6 : t136 = true
   ·subst c6
    have H1 : (some false) = some r:=by rw [if_pos rfl] at H;exact H
    clear H
    have H:=H1
    clear H1
    obtain rfl:=Option.some.inj H
    go_enter Try.func16,Try.ntmps16
    go_wp2_with (first|((with_reducible refine gate_dst (N:=10) rfl ?_);refine Kd.R_lit k33 _ 33 ?hg (N:=10) ?hd (xs:=([(⟨2,0,0,0,0,0,1,0,0⟩ : S33),(⟨0,3,0,0,0,0,0,0,0⟩ : S33)] : List (S33))) (inner:=[.int .i64 2,.int .i64 0,.int .i64 0,.int .i64 0,.int .i64 0,.int .i64 0,.int .i64 1,.int .i64 0,.int .i64 0,.int .i64 0,.int .i64 3,.int .i64 0,.int .i64 0,.int .i64 0,.int .i64 0,.int .i64 0,.int .i64 0,.int .i64 0]) (ok:=fun _ => True) (okp:=fun _ => True) ?hr ?hp (fun _ hk => hk) trivial (Below.refl _ _) (Nat.le_refl _) (by simp) ?_;(case hd => rfl);(case hg => rfl);(case hr => first|(go_simp;done)|(go_simp;rfl));(case hp => exact (Reps.c9 (show Kd.M k33 _ _ _ (⟨2,0,0,0,0,0,1,0,0⟩ : S33) [.int .i64 2,.int .i64 0,.int .i64 0,.int .i64 0,.int .i64 0,.int .i64 0,.int .i64 1,.int .i64 0,.int .i64 0] from (k33_mkM _ _ _ (⟨2,0,0,0,0,0,1,0,0⟩ : S33) )) (Reps.c9 (show Kd.M k33 _ _ _ (⟨0,3,0,0,0,0,0,0,0⟩ : S33) [.int .i64 0,.int .i64 3,.int .i64 0,.int .i64 0,.int .i64 0,.int .i64 0,.int .i64 0,.int .i64 0,.int .i64 0] from (k33_mkM _ _ _ (⟨0,3,0,0,0,0,0,0,0⟩ : S33) )) (Reps.none _ _))));intro v127 w7 ho8 hb hg_ hnew_;clear hg_ hnew_;(first|rw [← Ny126.out] at ho8|(simp only [Int.reduceToNat] at ho8;rw [← Ny126.out] at ho8));have HO128:=rlo ho8;replace HB:=Aside0.mk (below_step (hb_) hb);clear hb ho8;obtain ⟨Ao9,co9,eo9⟩:=Kd.R_slice HO128.out;subst eo9)|((with_reducible refine gate_callee (f:=20) rfl ?_);refine goesL_ (some 12) rfl rfl Try.func20 (by kernel_rfl) rfl #[.slice Ao9 y126.length co9,.int .i64 0,.agg #[.int .i64 0,.int .i64 0,.int .i64 0,.int .i64 0]] rfl (by (try simp only [List.map_toArray,List.map_cons,List.map_nil]);first|done|rfl|(simp only [List.length_drop,List.length_take];rfl)) ?_;(with_reducible refine (order_Next.calls k _ _ y126 0 0 0 0 0 t129 true t131 _ ?side1 ?side2 A1.out).mono ?_);(case side1 => exact Kd.C_up (Kd.R_reads' HO128.out).2.2);(case side2 => exact (Kd.R_reads' HO128.out).2.1);rintro e w10 ⟨rfl,hb⟩;refine ⟨_,rfl,?_⟩;replace HO128:=rbw HO128 hb;replace HB:=Aside0.mk (below_step (hb_) hb))|((with_reducible refine gate_dst (N:=18) rfl ?_);refine Kd.R_lit k33 _ 33 ?hg (N:=18) ?hd (xs:=([(⟨2,0,0,0,0,0,0,0,0⟩ : S33)] : List (S33))) (inner:=[.int .i64 2,.int .i64 0,.int .i64 0,.int .i64 0,.int .i64 0,.int .i64 0,.int .i64 0,.int .i64 0,.int .i64 0]) (ok:=fun _ => True) (okp:=fun _ => True) ?hr ?hp (fun _ hk => hk) trivial (Below.refl _ _) (Nat.le_refl _) (by simp) ?_;(case hd => rfl);(case hg => rfl);(case hr => first|(go_simp;done)|(go_simp;rfl));(case hp => exact (Reps.c9 (show Kd.M k33 _ _ _ (⟨2,0,0,0,0,0,0,0,0⟩ : S33) [.int .i64 2,.int .i64 0,.int .i64 0,.int .i64 0,.int .i64 0,.int .i64 0,.int .i64 0,.int .i64 0,.int .i64 0] from (k33_mkM _ _ _ (⟨2,0,0,0,0,0,0,0,0⟩ : S33) )) (Reps.none _ _)));intro v133 w11 ho12 hb hg_ hnew_;clear hg_ hnew_;(first|rw [← Ny132.out] at ho12|(simp only [Int.reduceToNat] at ho12;rw [← Ny132.out] at ho12));have HO134:=Aside0.mk (Kd.R_lower (Kd.R_new' ho12 (Kd.R_lt (Kd.R_up HO128.out))) (below_size (hb_)));replace HO128:=Aside0.mk (Kd.R_elder' (Kd.R_up HO128.out) (Kd.R_base ho12) hb);replace HB:=Aside0.mk (below_step (hb_) hb);clear hb ho12;obtain ⟨Ao13,co13,eo13⟩:=Kd.R_slice HO134.out;subst eo13)|((with_reducible refine gate_callee (f:=20) rfl ?_);refine goesL_ (some 20) rfl rfl Try.func20 (by kernel_rfl) rfl #[.slice Ao13 y132.length co13,.int .i64 0,.agg #[.int .i64 0,.int .i64 0,.int .i64 0,.int .i64 0]] rfl (by (try simp only [List.map_toArray,List.map_cons,List.map_nil]);first|done|rfl|(simp only [List.length_drop,List.length_take];rfl)) ?_;(with_reducible refine (order_Next.calls k _ _ y132 0 0 0 0 0 t135 true t137 _ ?side1 ?side2 A2.out).mono ?_);(case side1 => exact Kd.C_up (Kd.R_reads' HO134.out).2.2);(case side2 => exact (Kd.R_reads' HO134.out).2.1);rintro e w14 ⟨rfl,hb⟩;refine ⟨_,rfl,?_⟩;replace HO128:=rbw HO128 hb;replace HO134:=rbw HO134 hb;replace HB:=Aside0.mk (below_step (hb_) hb)))
    go_ret
    exact ⟨by first|rfl|(simp [errW_none,errW_some] <;> rfl)|(simp [*,errW_none,errW_some] <;> rfl),hb_⟩
   ·replace c6:=Bool.eq_false_iff.mpr c6
    subst c6
    have H1 : (some (t137 == 0)) = some r:=by rw [if_neg (show ¬ (false = true) by decide)] at H;exact H
    clear H
    have H:=H1
    clear H1
    obtain rfl:=Option.some.inj H
    go_enter Try.func16,Try.ntmps16
    go_wp2_with (first|((with_reducible refine gate_dst (N:=10) rfl ?_);refine Kd.R_lit k33 _ 33 ?hg (N:=10) ?hd (xs:=([(⟨2,0,0,0,0,0,1,0,0⟩ : S33),(⟨0,3,0,0,0,0,0,0,0⟩ : S33)] : List (S33))) (inner:=[.int .i64 2,.int .i64 0,.int .i64 0,.int .i64 0,.int .i64 0,.int .i64 0,.int .i64 1,.int .i64 0,.int .i64 0,.int .i64 0,.int .i64 3,.int .i64 0,.int .i64 0,.int .i64 0,.int .i64 0,.int .i64 0,.int .i64 0,.int .i64 0]) (ok:=fun _ => True) (okp:=fun _ => True) ?hr ?hp (fun _ hk => hk) trivial (Below.refl _ _) (Nat.le_refl _) (by simp) ?_;(case hd => rfl);(case hg => rfl);(case hr => first|(go_simp;done)|(go_simp;rfl));(case hp => exact (Reps.c9 (show Kd.M k33 _ _ _ (⟨2,0,0,0,0,0,1,0,0⟩ : S33) [.int .i64 2,.int .i64 0,.int .i64 0,.int .i64 0,.int .i64 0,.int .i64 0,.int .i64 1,.int .i64 0,.int .i64 0] from (k33_mkM _ _ _ (⟨2,0,0,0,0,0,1,0,0⟩ : S33) )) (Reps.c9 (show Kd.M k33 _ _ _ (⟨0,3,0,0,0,0,0,0,0⟩ : S33) [.int .i64 0,.int .i64 3,.int .i64 0,.int .i64 0,.int .i64 0,.int .i64 0,.int .i64 0,.int .i64 0,.int .i64 0] from (k33_mkM _ _ _ (⟨0,3,0,0,0,0,0,0,0⟩ : S33) )) (Reps.none _ _))));intro v127 w15 ho16 hb hg_ hnew_;clear hg_ hnew_;(first|rw [← Ny126.out] at ho16|(simp only [Int.reduceToNat] at ho16;rw [← Ny126.out] at ho16));have HO128:=rlo ho16;replace HB:=Aside0.mk (below_step (hb_) hb);clear hb ho16;obtain ⟨Ao17,co17,eo17⟩:=Kd.R_slice HO128.out;subst eo17)|((with_reducible refine gate_callee (f:=20) rfl ?_);refine goesL_ (some 12) rfl rfl Try.func20 (by kernel_rfl) rfl #[.slice Ao17 y126.length co17,.int .i64 0,.agg #[.int .i64 0,.int .i64 0,.int .i64 0,.int .i64 0]] rfl (by (try simp only [List.map_toArray,List.map_cons,List.map_nil]);first|done|rfl|(simp only [List.length_drop,List.length_take];rfl)) ?_;(with_reducible refine (order_Next.calls k _ _ y126 0 0 0 0 0 t129 true t131 _ ?side1 ?side2 A1.out).mono ?_);(case side1 => exact Kd.C_up (Kd.R_reads' HO128.out).2.2);(case side2 => exact (Kd.R_reads' HO128.out).2.1);rintro e w18 ⟨rfl,hb⟩;refine ⟨_,rfl,?_⟩;replace HO128:=rbw HO128 hb;replace HB:=Aside0.mk (below_step (hb_) hb))|((with_reducible refine gate_dst (N:=18) rfl ?_);refine Kd.R_lit k33 _ 33 ?hg (N:=18) ?hd (xs:=([(⟨2,0,0,0,0,0,0,0,0⟩ : S33)] : List (S33))) (inner:=[.int .i64 2,.int .i64 0,.int .i64 0,.int .i64 0,.int .i64 0,.int .i64 0,.int .i64 0,.int .i64 0,.int .i64 0]) (ok:=fun _ => True) (okp:=fun _ => True) ?hr ?hp (fun _ hk => hk) trivial (Below.refl _ _) (Nat.le_refl _) (by simp) ?_;(case hd => rfl);(case hg => rfl);(case hr => first|(go_simp;done)|(go_simp;rfl));(case hp => exact (Reps.c9 (show Kd.M k33 _ _ _ (⟨2,0,0,0,0,0,0,0,0⟩ : S33) [.int .i64 2,.int .i64 0,.int .i64 0,.int .i64 0,.int .i64 0,.int .i64 0,.int .i64 0,.int .i64 0,.int .i64 0] from (k33_mkM _ _ _ (⟨2,0,0,0,0,0,0,0,0⟩ : S33) )) (Reps.none _ _)));intro v133 w19 ho20 hb hg_ hnew_;clear hg_ hnew_;(first|rw [← Ny132.out] at ho20|(simp only [Int.reduceToNat] at ho20;rw [← Ny132.out] at ho20));have HO134:=Aside0.mk (Kd.R_lower (Kd.R_new' ho20 (Kd.R_lt (Kd.R_up HO128.out))) (below_size (hb_)));replace HO128:=Aside0.mk (Kd.R_elder' (Kd.R_up HO128.out) (Kd.R_base ho20) hb);replace HB:=Aside0.mk (below_step (hb_) hb);clear hb ho20;obtain ⟨Ao21,co21,eo21⟩:=Kd.R_slice HO134.out;subst eo21)|((with_reducible refine gate_callee (f:=20) rfl ?_);refine goesL_ (some 20) rfl rfl Try.func20 (by kernel_rfl) rfl #[.slice Ao21 y132.length co21,.int .i64 0,.agg #[.int .i64 0,.int .i64 0,.int .i64 0,.int .i64 0]] rfl (by (try simp only [List.map_toArray,List.map_cons,List.map_nil]);first|done|rfl|(simp only [List.length_drop,List.length_take];rfl)) ?_;(with_reducible refine (order_Next.calls k _ _ y132 0 0 0 0 0 t135 false t137 _ ?side1 ?side2 A2.out).mono ?_);(case side1 => exact Kd.C_up (Kd.R_reads' HO134.out).2.2);(case side2 => exact (Kd.R_reads' HO134.out).2.1);rintro e w22 ⟨rfl,hb⟩;refine ⟨_,rfl,?_⟩;replace HO128:=rbw HO128 hb;replace HO134:=rbw HO134 hb;replace HB:=Aside0.mk (below_step (hb_) hb)))
    go_ret
    exact ⟨by first|rfl|(simp [errW_none,errW_some] <;> rfl)|(simp [*,errW_none,errW_some] <;> rfl),hb_⟩
  ·rw [if_neg c5] at H
   have c5b0 : (t131 == 0) = false:=beq_eq_false_iff_ne.mpr c5
   have c5b1 : (t131 != 0) = true:=bne_iff_ne.mpr c5
   obtain rfl:=Option.some.inj H
   go_enter Try.func16,Try.ntmps16
   go_wp2_with (first|((with_reducible refine gate_dst (N:=10) rfl ?_);refine Kd.R_lit k33 _ 33 ?hg (N:=10) ?hd (xs:=([(⟨2,0,0,0,0,0,1,0,0⟩ : S33),(⟨0,3,0,0,0,0,0,0,0⟩ : S33)] : List (S33))) (inner:=[.int .i64 2,.int .i64 0,.int .i64 0,.int .i64 0,.int .i64 0,.int .i64 0,.int .i64 1,.int .i64 0,.int .i64 0,.int .i64 0,.int .i64 3,.int .i64 0,.int .i64 0,.int .i64 0,.int .i64 0,.int .i64 0,.int .i64 0,.int .i64 0]) (ok:=fun _ => True) (okp:=fun _ => True) ?hr ?hp (fun _ hk => hk) trivial (Below.refl _ _) (Nat.le_refl _) (by simp) ?_;(case hd => rfl);(case hg => rfl);(case hr => first|(go_simp;done)|(go_simp;rfl));(case hp => exact (Reps.c9 (show Kd.M k33 _ _ _ (⟨2,0,0,0,0,0,1,0,0⟩ : S33) [.int .i64 2,.int .i64 0,.int .i64 0,.int .i64 0,.int .i64 0,.int .i64 0,.int .i64 1,.int .i64 0,.int .i64 0] from (k33_mkM _ _ _ (⟨2,0,0,0,0,0,1,0,0⟩ : S33) )) (Reps.c9 (show Kd.M k33 _ _ _ (⟨0,3,0,0,0,0,0,0,0⟩ : S33) [.int .i64 0,.int .i64 3,.int .i64 0,.int .i64 0,.int .i64 0,.int .i64 0,.int .i64 0,.int .i64 0,.int .i64 0] from (k33_mkM _ _ _ (⟨0,3,0,0,0,0,0,0,0⟩ : S33) )) (Reps.none _ _))));intro v127 w23 ho24 hb hg_ hnew_;clear hg_ hnew_;(first|rw [← Ny126.out] at ho24|(simp only [Int.reduceToNat] at ho24;rw [← Ny126.out] at ho24));have HO128:=rlo ho24;replace HB:=Aside0.mk (below_step (hb_) hb);clear hb ho24;obtain ⟨Ao25,co25,eo25⟩:=Kd.R_slice HO128.out;subst eo25)|((with_reducible refine gate_callee (f:=20) rfl ?_);refine goesL_ (some 12) rfl rfl Try.func20 (by kernel_rfl) rfl #[.slice Ao25 y126.length co25,.int .i64 0,.agg #[.int .i64 0,.int .i64 0,.int .i64 0,.int .i64 0]] rfl (by (try simp only [List.map_toArray,List.map_cons,List.map_nil]);first|done|rfl|(simp only [List.length_drop,List.length_take];rfl)) ?_;(with_reducible refine (order_Next.calls k _ _ y126 0 0 0 0 0 t129 true t131 _ ?side1 ?side2 A1.out).mono ?_);(case side1 => exact Kd.C_up (Kd.R_reads' HO128.out).2.2);(case side2 => exact (Kd.R_reads' HO128.out).2.1);rintro e w26 ⟨rfl,hb⟩;refine ⟨_,rfl,?_⟩;replace HO128:=rbw HO128 hb;replace HB:=Aside0.mk (below_step (hb_) hb))|((with_reducible refine gate_dst (N:=18) rfl ?_);refine Kd.R_lit k33 _ 33 ?hg (N:=18) ?hd (xs:=([(⟨2,0,0,0,0,0,0,0,0⟩ : S33)] : List (S33))) (inner:=[.int .i64 2,.int .i64 0,.int .i64 0,.int .i64 0,.int .i64 0,.int .i64 0,.int .i64 0,.int .i64 0,.int .i64 0]) (ok:=fun _ => True) (okp:=fun _ => True) ?hr ?hp (fun _ hk => hk) trivial (Below.refl _ _) (Nat.le_refl _) (by simp) ?_;(case hd => rfl);(case hg => rfl);(case hr => first|(go_simp;done)|(go_simp;rfl));(case hp => exact (Reps.c9 (show Kd.M k33 _ _ _ (⟨2,0,0,0,0,0,0,0,0⟩ : S33) [.int .i64 2,.int .i64 0,.int .i64 0,.int .i64 0,.int .i64 0,.int .i64 0,.int .i64 0,.int .i64 0,.int .i64 0] from (k33_mkM _ _ _ (⟨2,0,0,0,0,0,0,0,0⟩ : S33) )) (Reps.none _ _)));intro v133 w27 ho28 hb hg_ hnew_;clear hg_ hnew_;(first|rw [← Ny132.out] at ho28|(simp only [Int.reduceToNat] at ho28;rw [← Ny132.out] at ho28));have HO134:=Aside0.mk (Kd.R_lower (Kd.R_new' ho28 (Kd.R_lt (Kd.R_up HO128.out))) (below_size (hb_)));replace HO128:=Aside0.mk (Kd.R_elder' (Kd.R_up HO128.out) (Kd.R_base ho28) hb);replace HB:=Aside0.mk (below_step (hb_) hb);clear hb ho28;obtain ⟨Ao29,co29,eo29⟩:=Kd.R_slice HO134.out;subst eo29)|((with_reducible refine gate_callee (f:=20) rfl ?_);refine goesL_ (some 20) rfl rfl Try.func20 (by kernel_rfl) rfl #[.slice Ao29 y132.length co29,.int .i64 0,.agg #[.int .i64 0,.int .i64 0,.int .i64 0,.int .i64 0]] rfl (by (try simp only [List.map_toArray,List.map_cons,List.map_nil]);first|done|rfl|(simp only [List.length_drop,List.length_take];rfl)) ?_;(with_reducible refine (order_Next.calls k _ _ y132 0 0 0 0 0 t135 t136 t137 _ ?side1 ?side2 A2.out).mono ?_);(case side1 => exact Kd.C_up (Kd.R_reads' HO134.out).2.2);(case side2 => exact (Kd.R_reads' HO134.out).2.1);rintro e w30 ⟨rfl,hb⟩;refine ⟨_,rfl,?_⟩;replace HO128:=rbw HO128 hb;replace HO134:=rbw HO134 hb;replace HB:=Aside0.mk (below_step (hb_) hb)))
   go_ret
   exact ⟨by first|rfl|(simp [errW_none,errW_some] <;> rfl)|(simp [*,errW_none,errW_some] <;> rfl),hb_⟩
 ·replace c4:=Bool.eq_false_iff.mpr c4
  subst c4
  have H1 : (some false) = some r:=by rw [if_neg (show ¬ (false = true) by decide)] at H;exact H
  clear H
  have H:=H1
  clear H1
  obtain rfl:=Option.some.inj H
  go_enter Try.func16,Try.ntmps16
  go_wp2_with (first|((with_reducible refine gate_dst (N:=10) rfl ?_);refine Kd.R_lit k33 _ 33 ?hg (N:=10) ?hd (xs:=([(⟨2,0,0,0,0,0,1,0,0⟩ : S33),(⟨0,3,0,0,0,0,0,0,0⟩ : S33)] : List (S33))) (inner:=[.int .i64 2,.int .i64 0,.int .i64 0,.int .i64 0,.int .i64 0,.int .i64 0,.int .i64 1,.int .i64 0,.int .i64 0,.int .i64 0,.int .i64 3,.int .i64 0,.int .i64 0,.int .i64 0,.int .i64 0,.int .i64 0,.int .i64 0,.int .i64 0]) (ok:=fun _ => True) (okp:=fun _ => True) ?hr ?hp (fun _ hk => hk) trivial (Below.refl _ _) (Nat.le_refl _) (by simp) ?_;(case hd => rfl);(case hg => rfl);(case hr => first|(go_simp;done)|(go_simp;rfl));(case hp => exact (Reps.c9 (show Kd.M k33 _ _ _ (⟨2,0,0,0,0,0,1,0,0⟩ : S33) [.int .i64 2,.int .i64 0,.int .i64 0,.int .i64 0,.int .i64 0,.int .i64 0,.int .i64 1,.int .i64 0,.int .i64 0] from (k33_mkM _ _ _ (⟨2,0,0,0,0,0,1,0,0⟩ : S33) )) (Reps.c9 (show Kd.M k33 _ _ _ (⟨0,3,0,0,0,0,0,0,0⟩ : S33) [.int .i64 0,.int .i64 3,.int .i64 0,.int .i64 0,.int .i64 0,.int .i64 0,.int .i64 0,.int .i64 0,.int .i64 0] from (k33_mkM _ _ _ (⟨0,3,0,0,0,0,0,0,0⟩ : S33) )) (Reps.none _ _))));intro v127 w31 ho32 hb hg_ hnew_;clear hg_ hnew_;(first|rw [← Ny126.out] at ho32|(simp only [Int.reduceToNat] at ho32;rw [← Ny126.out] at ho32));have HO128:=rlo ho32;replace HB:=Aside0.mk (below_step (hb_) hb);clear hb ho32;obtain ⟨Ao33,co33,eo33⟩:=Kd.R_slice HO128.out;subst eo33)|((with_reducible refine gate_callee (f:=20) rfl ?_);refine goesL_ (some 12) rfl rfl Try.func20 (by kernel_rfl) rfl #[.slice Ao33 y126.length co33,.int .i64 0,.agg #[.int .i64 0,.int .i64 0,.int .i64 0,.int .i64 0]] rfl (by (try simp only [List.map_toArray,List.map_cons,List.map_nil]);first|done|rfl|(simp only [List.length_drop,List.length_take];rfl)) ?_;(with_reducible refine (order_Next.calls k _ _ y126 0 0 0 0 0 t129 false t131 _ ?side1 ?side2 A1.out).mono ?_);(case side1 => exact Kd.C_up (Kd.R_reads' HO128.out).2.2);(case side2 => exact (Kd.R_reads' HO128.out).2.1);rintro e w34 ⟨rfl,hb⟩;refine ⟨_,rfl,?_⟩;replace HO128:=rbw HO128 hb;replace HB:=Aside0.mk (below_step (hb_) hb))|((with_reducible refine gate_dst (N:=18) rfl ?_);refine Kd.R_lit k33 _ 33 ?hg (N:=18) ?hd (xs:=([(⟨2,0,0,0,0,0,0,0,0⟩ : S33)] : List (S33))) (inner:=[.int .i64 2,.int .i64 0,.int .i64 0,.int .i64 0,.int .i64 0,.int .i64 0,.int .i64 0,.int .i64 0,.int .i64 0]) (ok:=fun _ => True) (okp:=fun _ => True) ?hr ?hp (fun _ hk => hk) trivial (Below.refl _ _) (Nat.le_refl _) (by simp) ?_;(case hd => rfl);(case hg => rfl);(case hr => first|(go_simp;done)|(go_simp;rfl));(case hp => exact (Reps.c9 (show Kd.M k33 _ _ _ (⟨2,0,0,0,0,0,0,0,0⟩ : S33) [.int .i64 2,.int .i64 0,.int .i64 0,.int .i64 0,.int .i64 0,.int .i64 0,.int .i64 0,.int .i64 0,.int .i64 0] from (k33_mkM _ _ _ (⟨2,0,0,0,0,0,0,0,0⟩ : S33) )) (Reps.none _ _)));intro v133 w35 ho36 hb hg_ hnew_;clear hg_ hnew_;(first|rw [← Ny132.out] at ho36|(simp only [Int.reduceToNat] at ho36;rw [← Ny132.out] at ho36));have HO134:=Aside0.mk (Kd.R_lower (Kd.R_new' ho36 (Kd.R_lt (Kd.R_up HO128.out))) (below_size (hb_)));replace HO128:=Aside0.mk (Kd.R_elder' (Kd.R_up HO128.out) (Kd.R_base ho36) hb);replace HB:=Aside0.mk (below_step (hb_) hb);clear hb ho36;obtain ⟨Ao37,co37,eo37⟩:=Kd.R_slice HO134.out;subst eo37)|((with_reducible refine gate_callee (f:=20) rfl ?_);refine goesL_ (some 20) rfl rfl Try.func20 (by kernel_rfl) rfl #[.slice Ao37 y132.length co37,.int .i64 0,.agg #[.int .i64 0,.int .i64 0,.int .i64 0,.int .i64 0]] rfl (by (try simp only [List.map_toArray,List.map_cons,List.map_nil]);first|done|rfl|(simp only [List.length_drop,List.length_take];rfl)) ?_;(with_reducible refine (order_Next.calls k _ _ y132 0 0 0 0 0 t135 t136 t137 _ ?side1 ?side2 A2.out).mono ?_);(case side1 => exact Kd.C_up (Kd.R_reads' HO134.out).2.2);(case side2 => exact (Kd.R_reads' HO134.out).2.1);rintro e w38 ⟨rfl,hb⟩;refine ⟨_,rfl,?_⟩;replace HO128:=rbw HO128 hb;replace HO134:=rbw HO134 hb;replace HB:=Aside0.mk (below_step (hb_) hb)))
  go_ret
  exact ⟨by first|rfl|(simp [errW_none,errW_some] <;> rfl)|(simp [*,errW_none,errW_some] <;> rfl),hb_⟩

/-! ### api_Order_30: function 30 -/
def api_Order_30.l0 : Nat → List (S33) → List (S33) → Int → Option (Bool)
 | 0,_,_,_ => none
 | k + 1,x0,x1,x5 => if x5 < (x0.length : Int) then (if 0 ≤ x5 then (if x5 < (x1.length : Int) then (if (!(((rd_T33 x0 x5).f0) == ((rd_T33 x1 x5).f0)) || (!(((rd_T33 x0 x5).f1) == ((rd_T33 x1 x5).f1)) || (!(((rd_T33 x0 x5).f2) == ((rd_T33 x1 x5).f2)) || (!(((rd_T33 x0 x5).f3) == ((rd_T33 x1 x5).f3)) || (!(((rd_T33 x0 x5).f4) == ((rd_T33 x1 x5).f4)) || (!(((rd_T33 x0 x5).f5) == ((rd_T33 x1 x5).f5)) || (!(((rd_T33 x0 x5).f6) == ((rd_T33 x1 x5).f6)) || (!(((rd_T33 x0 x5).f7) == ((rd_T33 x1 x5).f7)) || (!(((rd_T33 x0 x5).f8) == ((rd_T33 x1 x5).f8))))))))))) = true then (some false) else (api_Order_30.l0 k x0 x1 (wrap64 (x5 + 1)))) else (none)) else (none)) else (some true)
def api_Order_30.f (k : Nat) (l0 : List (S33)) (l1 : List (S33)) : Option (Bool) := if (l0.length : Int) = (l1.length : Int) then (api_Order_30.l0 k l0 l1 0) else (some false)
theorem api_Order_30.mono_l : ∀ k, (∀ y0 y1 y2, LeO (api_Order_30.l0 k y0 y1 y2) (api_Order_30.l0 (k + 1) y0 y1 y2))
 | 0 => fun _ _ _ r h => by simp [api_Order_30.l0] at h
 | k + 1 => by
  have ih0:=api_Order_30.mono_l k
  ·intro y0 y1 y2
   unfold api_Order_30.l0
   repeat' first
   | (with_reducible exact ih0 _ _ _)
   | (with_reducible exact LeO.refl _)
   | (with_reducible exact LeO.none _)
   | (with_reducible refine LeO.ite ?_ ?_)
   | (with_reducible refine LeO.bind ?_ (fun _ => ?_))
   | exact ih0 _ _ _
   | exact LeO.none _
   | refine LeO.ite ?_ ?_
   | refine LeO.bind ?_ (fun _ => ?_)
theorem api_Order_30.mono : ∀ a0 a1 k, LeO (api_Order_30.f k a0 a1) (api_Order_30.f (k + 1) a0 a1) := by
 intro a0 a1 k
 have ih0:=api_Order_30.mono_l k
 unfold api_Order_30.f
 repeat' first
   | (with_reducible exact ih0 _ _ _)
   | (with_reducible exact LeO.refl _)
   | (with_reducible exact LeO.none _)
   | (with_reducible refine LeO.ite ?_ ?_)
   | (with_reducible refine LeO.bind ?_ (fun _ => ?_))
   | exact ih0 _ _ _
   | exact LeO.none _
   | refine LeO.ite ?_ ?_
   | refine LeO.bind ?_ (fun _ => ?_)
set_option maxHeartbeats 8000000 in
set_option maxRecDepth 100000 in
theorem api_Order_30.calls (k : Nat) (A0 : Option Addr) (c0 : Nat) (l0 : List (S33)) (A1 : Option Addr) (c1 : Nat) (l1 : List (S33)) (r : Bool) (w : World) (hr0 : Kd.C k33 w A0 l0.length l0) (hc0 : l0.length ≤ c0) (hr1 : Kd.C k33 w A1 l1.length l1) (hc1 : l1.length ≤ c1) (h : api_Order_30.f k l0 l1 = some r) :
  Calls Try.prog 30 #[.slice A0 l0.length c0,.slice A1 l1.length c1] w fun e w' => e = .returned (.bool r) ∧ Drawn0 w w':=by
 have hu33:=Try.underlying33
 have HR0:=Aside0.mk hr0
 have HC0:=Aside0.mk hc0
 clear hr0 hc0
 have HR1:=Aside0.mk hr1
 have HC1:=Aside0.mk hc1
 clear hr1 hc1
 have H : (if (l0.length : Int) = (l1.length : Int) then (api_Order_30.l0 k l0 l1 0) else (some false)) = some r:=h
 clear h
 by_cases c3 : (l0.length : Int) = (l1.length : Int)
 rotate_left
 ·rw [if_neg c3] at H
  have c3b0 : ((l0.length : Int) == (l1.length : Int)) = false:=beq_eq_false_iff_ne.mpr c3
  have c3b1 : ((l0.length : Int) != (l1.length : Int)) = true:=bne_iff_ne.mpr c3
  have c3b2 : (l0.length == l1.length) = false:=by first|simpa using c3|(simp at c3 ⊢;omega)
  obtain rfl:=Option.some.inj H
  go_enter Try.func30,Try.ntmps30
  go_wp2
  go_ret
  exact ⟨by first|rfl|(simp;done)|(simp [*];done),by repeat (first|exact Drawn0.refl _|apply Drawn0.step)⟩
 rw [if_pos c3] at H
 have c3b0 : ((l0.length : Int) == (l1.length : Int)) = true:=beq_iff_eq.mpr c3
 have c3b1 : ((l0.length : Int) != (l1.length : Int)) = false:=bne_eq_false_iff_eq.mpr c3
 have c3b2 : (l0.length == l1.length) = true:=by first|simpa using c3|(simp at c3 ⊢;omega)
 clear c3
 have H':=Aside0.mk H
 clear H
 go_enter Try.func30,Try.ntmps30
 go_wp2
 go_loopg [5] k (fun kq v5 w' => ∃ (x5_1 : Int),v5 = .int .i64 x5_1 ∧ Aside0 (api_Order_30.l0 kq l0 l1 x5_1 = some r) ∧ Aside0 (kq ≤ k) ∧ Drawn0 w w')
 case atStart => exact ⟨(0),(by first|rfl|(simp;done)|(simp [*];done)),H',⟨Nat.le_refl _⟩,by repeat (first|exact Drawn0.refl _|apply Drawn0.step)⟩
 case round =>
  clear H'
  obtain ⟨x5_1,rfl,HA,HK1,⟨m1,rfl⟩⟩:=hrel
  cases gk with
  | zero => exact absurd HA.out (by simp [api_Order_30.l0])
  | succ k1 =>
   have H:=HA.out
   clear HA
   simp only [api_Order_30.l0] at H
   by_cases c4 : x5_1 < (l0.length : Int)
   rotate_left
   ·rw [if_neg c4] at H
    have c4b0 : decide (x5_1 < (l0.length : Int)) = false:=decide_eq_false c4
    clear c4
    obtain rfl:=Option.some.inj H
    go_wp2
    go_ret
    exact ⟨by first|rfl|(simp;done)|(simp [*];done),by repeat (first|exact Drawn0.refl _|apply Drawn0.step)⟩
   rw [if_pos c4] at H
   have c4b0 : decide (x5_1 < (l0.length : Int)) = true:=decide_eq_true c4
   clear c4
   replace H:=ifp_ H;obtain ⟨c5,H⟩:=H
   have c5b0 : decide (0 ≤ x5_1) = true:=decide_eq_true c5
   clear c5
   replace H:=ifp_ H;obtain ⟨c6,H⟩:=H
   have c6b0 : decide (x5_1 < (l1.length : Int)) = true:=decide_eq_true c6
   clear c6
   by_cases c7 : (!(((rd_T33 l0 x5_1).f0) == ((rd_T33 l1 x5_1).f0)) || (!(((rd_T33 l0 x5_1).f1) == ((rd_T33 l1 x5_1).f1)) || (!(((rd_T33 l0 x5_1).f2) == ((rd_T33 l1 x5_1).f2)) || (!(((rd_T33 l0 x5_1).f3) == ((rd_T33 l1 x5_1).f3)) || (!(((rd_T33 l0 x5_1).f4) == ((rd_T33 l1 x5_1).f4)) || (!(((rd_T33 l0 x5_1).f5) == ((rd_T33 l1 x5_1).f5)) || (!(((rd_T33 l0 x5_1).f6) == ((rd_T33 l1 x5_1).f6)) || (!(((rd_T33 l0 x5_1).f7) == ((rd_T33 l1 x5_1).f7)) || (!(((rd_T33 l0 x5_1).f8) == ((rd_T33 l1 x5_1).f8))))))))))) = true
   ·rw [if_pos c7] at H
    have c7b0 : (!(((rd_T33 l0 x5_1).f0) == ((rd_T33 l1 x5_1).f0)) || (!(((rd_T33 l0 x5_1).f1) == ((rd_T33 l1 x5_1).f1)) || (!(((rd_T33 l0 x5_1).f2) == ((rd_T33 l1 x5_1).f2)) || (!(((rd_T33 l0 x5_1).f3) == ((rd_T33 l1 x5_1).f3)) || (!(((rd_T33 l0 x5_1).f4) == ((rd_T33 l1 x5_1).f4)) || (!(((rd_T33 l0 x5_1).f5) == ((rd_T33 l1 x5_1).f5)) || (!(((rd_T33 l0 x5_1).f6) == ((rd_T33 l1 x5_1).f6)) || (!(((rd_T33 l0 x5_1).f7) == ((rd_T33 l1 x5_1).f7)) || (!(((rd_T33 l0 x5_1).f8) == ((rd_T33 l1 x5_1).f8))))))))))) = true:=c7
    clear c7
    obtain rfl:=Option.some.inj H
    have p138 : 0 ≤ (x5_1 : Int):=of_decide_eq_true (by first|(with_reducible assumption)|assumption)
    have q138 : x5_1 < (l0.length : Int):=of_decide_eq_true (by first|(with_reducible assumption)|assumption)
    obtain ⟨ad138,e138,hx138_0,hx138_1,hx138_2,hx138_3,hx138_4,hx138_5,hx138_6,hx138_7,hx138_8⟩:=at_T33 HR0.out x5_1 p138 q138
    cases e138
    replace p138:=eq_true p138
    replace q138:=eq_true q138
    have p139 : 0 ≤ (x5_1 : Int):=of_decide_eq_true (by first|(with_reducible assumption)|assumption)
    have q139 : x5_1 < (l1.length : Int):=of_decide_eq_true (by first|(with_reducible assumption)|assumption)
    obtain ⟨ad139,e139,hx139_0,hx139_1,hx139_2,hx139_3,hx139_4,hx139_5,hx139_6,hx139_7,hx139_8⟩:=at_T33 HR1.out x5_1 p139 q139
    cases e139
    replace p139:=eq_true p139
    replace q139:=eq_true q139
    go_wp2
    go_quiet (fail)
    go_wp2
    go_ret
    exact ⟨by first|rfl|(simp;done)|(simp [*];done),by repeat (first|exact Drawn0.refl _|apply Drawn0.step)⟩
   ·rw [if_neg c7] at H
    have c7b0 : (!(((rd_T33 l0 x5_1).f0) == ((rd_T33 l1 x5_1).f0)) || (!(((rd_T33 l0 x5_1).f1) == ((rd_T33 l1 x5_1).f1)) || (!(((rd_T33 l0 x5_1).f2) == ((rd_T33 l1 x5_1).f2)) || (!(((rd_T33 l0 x5_1).f3) == ((rd_T33 l1 x5_1).f3)) || (!(((rd_T33 l0 x5_1).f4) == ((rd_T33 l1 x5_1).f4)) || (!(((rd_T33 l0 x5_1).f5) == ((rd_T33 l1 x5_1).f5)) || (!(((rd_T33 l0 x5_1).f6) == ((rd_T33 l1 x5_1).f6)) || (!(((rd_T33 l0 x5_1).f7) == ((rd_T33 l1 x5_1).f7)) || (!(((rd_T33 l0 x5_1).f8) == ((rd_T33 l1 x5_1).f8))))))))))) = false:=by simpa using c7
    clear c7
    have H':=Aside0.mk H
    clear H
    have p138 : 0 ≤ (x5_1 : Int):=of_decide_eq_true (by first|(with_reducible assumption)|assumption)
    have q138 : x5_1 < (l0.length : Int):=of_decide_eq_true (by first|(with_reducible assumption)|assumption)
    obtain ⟨ad138,e138,hx138_0,hx138_1,hx138_2,hx138_3,hx138_4,hx138_5,hx138_6,hx138_7,hx138_8⟩:=at_T33 HR0.out x5_1 p138 q138
    cases e138
    replace p138:=eq_true p138
    replace q138:=eq_true q138
    have p139 : 0 ≤ (x5_1 : Int):=of_decide_eq_true (by first|(with_reducible assumption)|assumption)
    have q139 : x5_1 < (l1.length : Int):=of_decide_eq_true (by first|(with_reducible assumption)|assumption)
    obtain ⟨ad139,e139,hx139_0,hx139_1,hx139_2,hx139_3,hx139_4,hx139_5,hx139_6,hx139_7,hx139_8⟩:=at_T33 HR1.out x5_1 p139 q139
    cases e139
    replace p139:=eq_true p139
    replace q139:=eq_true q139
    go_wp2
    go_quiet (fail)
    go_wp2
    go_roundg k1
    case measure => have:=HK1.out;omega
    case rel => exact ⟨(wrap64 (x5_1 + 1)),(by first|rfl|(simp;done)|(simp [*];done)),H',⟨by have:=HK1.out;omega⟩,by repeat (first|exact Drawn0.refl _|apply Drawn0.step)⟩

/-! ### hinterlandref15_out: function 43 -/
def hinterlandref15_out.f (a0 : Int) (a1 : Int) : Option (Bool) := if a0 < 0 then (some true) else (some (decide (a0 > a1)))
set_option maxHeartbeats 8000000 in
set_option maxRecDepth 100000 in
theorem hinterlandref15_out.calls (a0 : Int) (a1 : Int) (r : Bool) (w : World) (h : hinterlandref15_out.f a0 a1 = some r) :
  Calls Try.prog 43 #[.int .i64 a0,.int .i64 a1] w fun e w' => e = .returned (.bool r) ∧ Drawn0 w w':=by
 have H : (if a0 < 0 then (some true) else (some (decide (a0 > a1)))) = some r:=h
 clear h
 by_cases c3 : a0 < 0
 ·rw [if_pos c3] at H
  have c3b0 : decide (a0 < 0) = true:=decide_eq_true c3
  clear c3
  obtain rfl:=Option.some.inj H
  go_enter Try.func43,Try.ntmps43
  go_wp2
  go_ret
  exact ⟨by first|rfl|(simp;done)|(simp [*];done),by repeat (first|exact Drawn0.refl _|apply Drawn0.step)⟩
 ·rw [if_neg c3] at H
  have c3b0 : decide (a0 < 0) = false:=decide_eq_false c3
  clear c3
  obtain rfl:=Option.some.inj H
  go_enter Try.func43,Try.ntmps43
  go_wp2
  go_ret
  exact ⟨by first|rfl|(simp;done)|(simp [*];done),by repeat (first|exact Drawn0.refl _|apply Drawn0.step)⟩

end Go.Proofs.Ythbjchicpebglaa.P

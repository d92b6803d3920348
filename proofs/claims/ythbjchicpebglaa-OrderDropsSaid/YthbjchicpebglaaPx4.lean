/- Functions of this seat as plain Lean functions, with proofs that the Go code comes to just their answers, or what stands between them and a law's statement; no conditions. (Laid by a program of this session, out of the kit's print.) -/
import Derived.Test.YthbjchicpebglaaPx0
import Derived.Test.YthbjchicpebglaaPx2
import Derived.Test.YthbjchicpebglaaPx3
namespace Go.Proofs.Ythbjchicpebglaa.P
open Go.RowKit Go.Proofs.YthbjchicpebglaaW.PrintWords Go.Proofs.YthbjchicpebglaaW.PrintLast Go.Proofs.YthbjchicpebglaaW.PrintMore
attribute [local go_sem] max2_int min2_int max_two min_two max_three min_three max_four min_four   -- for this text's walks alone
set_option linter.unusedVariables false
set_option linter.unusedSimpArgs false

/-! ### order_Validate: function 18 -/
mutual
def order_Validate.l0 : Nat → List (S33) → List (S33) → Int → Int → Option (Int)
 | 0,_,_,_,_ => none
 | k + 1,x0,x10,x11,x12 => if x12 < x11 then (if 0 ≤ x12 then (if x12 < (x10.length : Int) then ((order_bounded.f k ((rd_T33 x10 x12).f0) ((rd_T33 x10 x12).f1) ((rd_T33 x10 x12).f2) ((rd_T33 x10 x12).f3) ((rd_T33 x10 x12).f4) ((rd_T33 x10 x12).f5) ((rd_T33 x10 x12).f6) ((rd_T33 x10 x12).f7) ((rd_T33 x10 x12).f8)).bind fun t112 => (if t112 = true then (order_Validate.l0 k x0 x10 x11 (wrap64 (x12 + 1))) else (some 1))) else (none)) else (none)) else (order_Validate.l1 k x0 x0 (x0.length : Int) 0)
def order_Validate.l1 : Nat → List (S33) → List (S33) → Int → Int → Option (Int)
 | 0,_,_,_,_ => none
 | k + 1,x0,x20,x21,x22 => if x22 < x21 then (if 0 ≤ x22 then (if x22 < (x20.length : Int) then ((order_within.f ((rd_T33 x20 x22).f6) (wrap64 ((x0.length : Int) - 1))).bind fun t115 => (if t115 = true then (order_Validate.l1 k x0 x20 x21 (wrap64 (x22 + 1))) else (some 2))) else (none)) else (none)) else (some 0)
end
def order_Validate.f (k : Nat) (l0 : List (S33)) : Option (Int) := if (l0.length : Int) > 40 then (some 4) else (order_Validate.l0 k l0 l0 (l0.length : Int) 0)
theorem order_Validate.mono_l : ∀ k, (∀ y0 y1 y2 y3, LeO (order_Validate.l0 k y0 y1 y2 y3) (order_Validate.l0 (k + 1) y0 y1 y2 y3)) ∧ (∀ y0 y1 y2 y3, LeO (order_Validate.l1 k y0 y1 y2 y3) (order_Validate.l1 (k + 1) y0 y1 y2 y3))
 | 0 => ⟨fun _ _ _ _ r h => by simp [order_Validate.l0] at h,fun _ _ _ _ r h => by simp [order_Validate.l1] at h⟩
 | k + 1 => by
  obtain ⟨ih0,ih1⟩:=order_Validate.mono_l k
  refine ⟨?_,?_⟩
  ·intro y0 y1 y2 y3
   unfold order_Validate.l0
   repeat' first
   | (with_reducible exact ih0 _ _ _ _)
   | (with_reducible exact ih1 _ _ _ _)
   | (with_reducible exact order_bounded.mono _ _ _ _ _ _ _ _ _ _)
   | (with_reducible exact LeO.refl _)
   | (with_reducible exact LeO.none _)
   | (with_reducible refine LeO.ite ?_ ?_)
   | (with_reducible refine LeO.bind ?_ (fun _ => ?_))
   | exact ih0 _ _ _ _
   | exact ih1 _ _ _ _
   | exact order_bounded.mono _ _ _ _ _ _ _ _ _ _
   | exact LeO.none _
   | refine LeO.ite ?_ ?_
   | refine LeO.bind ?_ (fun _ => ?_)
  ·intro y0 y1 y2 y3
   unfold order_Validate.l1
   repeat' first
   | (with_reducible exact ih0 _ _ _ _)
   | (with_reducible exact ih1 _ _ _ _)
   | (with_reducible exact order_bounded.mono _ _ _ _ _ _ _ _ _ _)
   | (with_reducible exact LeO.refl _)
   | (with_reducible exact LeO.none _)
   | (with_reducible refine LeO.ite ?_ ?_)
   | (with_reducible refine LeO.bind ?_ (fun _ => ?_))
   | exact ih0 _ _ _ _
   | exact ih1 _ _ _ _
   | exact order_bounded.mono _ _ _ _ _ _ _ _ _ _
   | exact LeO.none _
   | refine LeO.ite ?_ ?_
   | refine LeO.bind ?_ (fun _ => ?_)
theorem order_Validate.mono : ∀ a0 k, LeO (order_Validate.f k a0) (order_Validate.f (k + 1) a0) := by
 intro a0 k
 obtain ⟨ih0,ih1⟩:=order_Validate.mono_l k
 unfold order_Validate.f
 repeat' first
   | (with_reducible exact ih0 _ _ _ _)
   | (with_reducible exact ih1 _ _ _ _)
   | (with_reducible exact order_bounded.mono _ _ _ _ _ _ _ _ _ _)
   | (with_reducible exact LeO.refl _)
   | (with_reducible exact LeO.none _)
   | (with_reducible refine LeO.ite ?_ ?_)
   | (with_reducible refine LeO.bind ?_ (fun _ => ?_))
   | exact ih0 _ _ _ _
   | exact ih1 _ _ _ _
   | exact order_bounded.mono _ _ _ _ _ _ _ _ _ _
   | exact LeO.none _
   | refine LeO.ite ?_ ?_
   | refine LeO.bind ?_ (fun _ => ?_)
set_option maxHeartbeats 8000000 in
set_option maxRecDepth 100000 in
theorem order_Validate.calls (k : Nat) (A0 : Option Addr) (c0 : Nat) (l0 : List (S33)) (r : Int) (w : World) (hr0 : Kd.C k33 w A0 l0.length l0) (hc0 : l0.length ≤ c0) (h : order_Validate.f k l0 = some r) :
  Calls Try.prog 18 #[.slice A0 l0.length c0] w fun e w' => e = .returned (.int .i64 r) ∧ Below w.heap.size w w':=by
 have hu33:=Try.underlying33
 have HR0:=Aside0.mk hr0
 have HC0:=Aside0.mk hc0
 clear hr0 hc0
 have HB:=Aside0.mk (Below.refl w.heap.size w)
 have H : (if (l0.length : Int) > 40 then (some 4) else (order_Validate.l0 k l0 l0 (l0.length : Int) 0)) = some r:=h
 clear h
 by_cases c2 : (l0.length : Int) > 40
 ·rw [if_pos c2] at H
  have c2b0 : decide (40 < (l0.length : Int)) = true:=decide_eq_true c2
  have c2b1 : decide (40 < l0.length) = true:=decide_eq_true (by omega)
  clear c2
  obtain rfl:=Option.some.inj H
  go_enter Try.func18,Try.ntmps18
  go_wp2
  go_ret
  exact ⟨by first|rfl|(simp [errW_none,errW_some] <;> rfl)|(simp [*,errW_none,errW_some] <;> rfl),by repeat (first|(with_reducible first|exact HB.out|apply below_alloc|apply pw_below_drewN|apply below_drew1)|exact HB.out)⟩
 ·rw [if_neg c2] at H
  have c2b0 : decide (40 < (l0.length : Int)) = false:=decide_eq_false c2
  have c2b1 : decide (40 < l0.length) = false:=decide_eq_false (by omega)
  clear c2
  have H':=Aside0.mk H
  clear H
  go_enter Try.func18,Try.ntmps18
  go_wp2
  go_loopg [12] k (fun kq v12 w' => ∃ (x12_1 : Int),v12 = .int .i64 x12_1 ∧ Aside0 (order_Validate.l0 kq l0 l0 (l0.length : Int) x12_1 = some r) ∧ Aside0 (kq ≤ k) ∧ Aside0 (Below w.heap.size w w'))
  case atStart => exact ⟨(0),(by first|rfl|(simp;done)|(simp [*];done)),H',⟨Nat.le_refl _⟩,⟨by repeat (first|(with_reducible first|exact HB.out|apply below_alloc|apply pw_below_drewN|apply below_drew1)|exact HB.out)⟩⟩
  case round =>
   clear H'
   try clear c1
   try clear c2
   try clear c2b0
   try clear c2b1
   try clear p2
   obtain ⟨x12_1,rfl,HA,HK1,HB⟩:=hrel
   cases gk with
   | zero => exact absurd HA.out (by simp [order_Validate.l0])
   | succ k1 =>
    have H:=HA.out
    clear HA
    simp only [order_Validate.l0] at H
    by_cases c3 : x12_1 < (l0.length : Int)
    ·rw [if_pos c3] at H
     have c3b0 : decide (x12_1 < (l0.length : Int)) = true:=decide_eq_true c3
     clear c3
     by_cases c4 : 0 ≤ x12_1
     ·rw [if_pos c4] at H
      have c4b0 : decide (0 ≤ x12_1) = true:=decide_eq_true c4
      clear c4
      by_cases c5 : x12_1 < (l0.length : Int)
      ·rw [if_pos c5] at H
       have c5b0 : decide (x12_1 < (l0.length : Int)) = true:=decide_eq_true c5
       clear c5
       replace H:=Option.bind_eq_some_iff.mp H
       obtain ⟨t112,A60,H⟩:=H
       replace H : (if t112 = true then (order_Validate.l0 k1 l0 l0 (l0.length : Int) (wrap64 (x12_1 + 1))) else (some 1)) = some r:=H
       have A6:=Aside0.mk A60
       clear A60
       by_cases c7 : t112 = true
       ·subst c7
        have H1 : (order_Validate.l0 k1 l0 l0 (l0.length : Int) (wrap64 (x12_1 + 1))) = some r:=by rw [if_pos rfl] at H;exact H
        clear H
        have H:=H1
        clear H1
        have H':=Aside0.mk H
        clear H
        have p110 : 0 ≤ (x12_1 : Int):=of_decide_eq_true (by first|(with_reducible assumption)|assumption)
        have q110 : x12_1 < (l0.length : Int):=of_decide_eq_true (by first|(with_reducible assumption)|assumption)
        obtain ⟨ad110,e110,hx110_0,hx110_1,hx110_2,hx110_3,hx110_4,hx110_5,hx110_6,hx110_7,hx110_8⟩:=at_T33 HR0.out x12_1 p110 q110
        cases e110
        replace hx110_0:=(HB.out.cell (World.block_lt_of_cell? w _ hx110_0)).trans hx110_0
        replace hx110_1:=(HB.out.cell (World.block_lt_of_cell? w _ hx110_1)).trans hx110_1
        replace hx110_2:=(HB.out.cell (World.block_lt_of_cell? w _ hx110_2)).trans hx110_2
        replace hx110_3:=(HB.out.cell (World.block_lt_of_cell? w _ hx110_3)).trans hx110_3
        replace hx110_4:=(HB.out.cell (World.block_lt_of_cell? w _ hx110_4)).trans hx110_4
        replace hx110_5:=(HB.out.cell (World.block_lt_of_cell? w _ hx110_5)).trans hx110_5
        replace hx110_6:=(HB.out.cell (World.block_lt_of_cell? w _ hx110_6)).trans hx110_6
        replace hx110_7:=(HB.out.cell (World.block_lt_of_cell? w _ hx110_7)).trans hx110_7
        replace hx110_8:=(HB.out.cell (World.block_lt_of_cell? w _ hx110_8)).trans hx110_8
        replace p110:=eq_true p110
        replace q110:=eq_true q110
        go_wp2_with (first|((with_reducible refine gate_dst (N:=4) rfl ?_);refine box_event ?hg (N:=4) ?hd (cs:=#[.int .i64 0,.int .i64 0,.int .i64 0,.int .i64 0,.int .i64 0,.int .i64 0,.int .i64 0,.int .i64 0,.int .i64 0]) (t:=33) ?hr ?_;(case hd => rfl);(case hg => rfl);(case hr => first|(go_simp;done)|(go_simp;rfl));intro gb111 hg w8 hbox hb;have n0_:=Aside0.mk (below_step (by repeat (first|(with_reducible first|exact HB.out|apply below_alloc|apply pw_below_drewN|apply below_drew1)|exact HB.out)) hb);have n1_:=Aside0.mk (hbox);have n2_:=Aside0.mk ((by rw [hg];exact (below_size (by repeat (first|(with_reducible first|exact HB.out|apply below_alloc|apply pw_below_drewN|apply below_drew1)|exact HB.out))) : w.heap.size ≤ gb111));have n3_:=Aside0.mk ((by rw [hg];exact (below_size (by repeat (first|(with_reducible first|exact HB.out|apply below_alloc|apply pw_below_drewN|apply below_drew1)|exact HB.out))) : w.heap.size ≤ gb111));clear HB;have HB:=n0_;have BK111:=n1_;have GW111:=n2_;have GE111:=n3_;clear n0_ n1_ n2_ n3_;clear hb hbox hg;have hcz9_0 : w8.cell? ⟨gb111,0,none⟩ = some (.int .i64 0):=(blk_cell BK111.out 0).trans rfl;have hcz9_1 : w8.cell? ⟨gb111,1,none⟩ = some (.int .i64 0):=(blk_cell BK111.out 1).trans rfl;have hcz9_2 : w8.cell? ⟨gb111,2,none⟩ = some (.int .i64 0):=(blk_cell BK111.out 2).trans rfl;have hcz9_3 : w8.cell? ⟨gb111,3,none⟩ = some (.int .i64 0):=(blk_cell BK111.out 3).trans rfl;have hcz9_4 : w8.cell? ⟨gb111,4,none⟩ = some (.int .i64 0):=(blk_cell BK111.out 4).trans rfl;have hcz9_5 : w8.cell? ⟨gb111,5,none⟩ = some (.int .i64 0):=(blk_cell BK111.out 5).trans rfl;have hcz9_6 : w8.cell? ⟨gb111,6,none⟩ = some (.int .i64 0):=(blk_cell BK111.out 6).trans rfl;have hcz9_7 : w8.cell? ⟨gb111,7,none⟩ = some (.int .i64 0):=(blk_cell BK111.out 7).trans rfl;have hcz9_8 : w8.cell? ⟨gb111,8,none⟩ = some (.int .i64 0):=(blk_cell BK111.out 8).trans rfl;have hfz9_0:=blk_frozen BK111.out 0;have hfz9_1:=blk_frozen BK111.out 1;have hfz9_2:=blk_frozen BK111.out 2;have hfz9_3:=blk_frozen BK111.out 3;have hfz9_4:=blk_frozen BK111.out 4;have hfz9_5:=blk_frozen BK111.out 5;have hfz9_6:=blk_frozen BK111.out 6;have hfz9_7:=blk_frozen BK111.out 7;have hfz9_8:=blk_frozen BK111.out 8)|((with_reducible refine gate_callee (f:=38) rfl ?_);refine goesL_ (some 17) rfl rfl Try.func38 (by kernel_rfl) rfl #[.agg #[.int .i64 ((rd_T33 l0 x12_1).f0),.int .i64 ((rd_T33 l0 x12_1).f1),.int .i64 ((rd_T33 l0 x12_1).f2),.int .i64 ((rd_T33 l0 x12_1).f3),.int .i64 ((rd_T33 l0 x12_1).f4),.int .i64 ((rd_T33 l0 x12_1).f5),.int .i64 ((rd_T33 l0 x12_1).f6),.int .i64 ((rd_T33 l0 x12_1).f7),.int .i64 ((rd_T33 l0 x12_1).f8)]] rfl (by (try simp only [List.map_toArray,List.map_cons,List.map_nil]);first|done|rfl|(simp only [List.length_drop,List.length_take];rfl)) ?_;(with_reducible refine (order_bounded.calls k1 ((rd_T33 l0 x12_1).f0) ((rd_T33 l0 x12_1).f1) ((rd_T33 l0 x12_1).f2) ((rd_T33 l0 x12_1).f3) ((rd_T33 l0 x12_1).f4) ((rd_T33 l0 x12_1).f5) ((rd_T33 l0 x12_1).f6) ((rd_T33 l0 x12_1).f7) ((rd_T33 l0 x12_1).f8) true _ A6.out).mono ?_);rintro e w10 ⟨rfl,hb⟩;refine ⟨_,rfl,?_⟩;have n0_:=Aside0.mk (blk_below (g:=gb111) (o:=.cells #[.int .i64 ((rd_T33 l0 x12_1).f0),.int .i64 ((rd_T33 l0 x12_1).f1),.int .i64 ((rd_T33 l0 x12_1).f2),.int .i64 ((rd_T33 l0 x12_1).f3),.int .i64 ((rd_T33 l0 x12_1).f4),.int .i64 ((rd_T33 l0 x12_1).f5),.int .i64 ((rd_T33 l0 x12_1).f6),.int .i64 ((rd_T33 l0 x12_1).f7),.int .i64 ((rd_T33 l0 x12_1).f8)] 33 (0,0)) (by (with_reducible repeat (first|refine blk_drewN ?_ _|refine blk_drew ?_|refine blk_alloc ?_ _));refine blk_put (cs:=#[.int .i64 ((rd_T33 l0 x12_1).f0),.int .i64 ((rd_T33 l0 x12_1).f1),.int .i64 ((rd_T33 l0 x12_1).f2),.int .i64 ((rd_T33 l0 x12_1).f3),.int .i64 ((rd_T33 l0 x12_1).f4),.int .i64 ((rd_T33 l0 x12_1).f5),.int .i64 ((rd_T33 l0 x12_1).f6),.int .i64 ((rd_T33 l0 x12_1).f7),.int .i64 0]) ?_ 8 _ rfl;(with_reducible repeat (first|refine blk_drewN ?_ _|refine blk_drew ?_|refine blk_alloc ?_ _));refine blk_put (cs:=#[.int .i64 ((rd_T33 l0 x12_1).f0),.int .i64 ((rd_T33 l0 x12_1).f1),.int .i64 ((rd_T33 l0 x12_1).f2),.int .i64 ((rd_T33 l0 x12_1).f3),.int .i64 ((rd_T33 l0 x12_1).f4),.int .i64 ((rd_T33 l0 x12_1).f5),.int .i64 ((rd_T33 l0 x12_1).f6),.int .i64 0,.int .i64 0]) ?_ 7 _ rfl;(with_reducible repeat (first|refine blk_drewN ?_ _|refine blk_drew ?_|refine blk_alloc ?_ _));refine blk_put (cs:=#[.int .i64 ((rd_T33 l0 x12_1).f0),.int .i64 ((rd_T33 l0 x12_1).f1),.int .i64 ((rd_T33 l0 x12_1).f2),.int .i64 ((rd_T33 l0 x12_1).f3),.int .i64 ((rd_T33 l0 x12_1).f4),.int .i64 ((rd_T33 l0 x12_1).f5),.int .i64 0,.int .i64 0,.int .i64 0]) ?_ 6 _ rfl;(with_reducible repeat (first|refine blk_drewN ?_ _|refine blk_drew ?_|refine blk_alloc ?_ _));refine blk_put (cs:=#[.int .i64 ((rd_T33 l0 x12_1).f0),.int .i64 ((rd_T33 l0 x12_1).f1),.int .i64 ((rd_T33 l0 x12_1).f2),.int .i64 ((rd_T33 l0 x12_1).f3),.int .i64 ((rd_T33 l0 x12_1).f4),.int .i64 0,.int .i64 0,.int .i64 0,.int .i64 0]) ?_ 5 _ rfl;(with_reducible repeat (first|refine blk_drewN ?_ _|refine blk_drew ?_|refine blk_alloc ?_ _));refine blk_put (cs:=#[.int .i64 ((rd_T33 l0 x12_1).f0),.int .i64 ((rd_T33 l0 x12_1).f1),.int .i64 ((rd_T33 l0 x12_1).f2),.int .i64 ((rd_T33 l0 x12_1).f3),.int .i64 0,.int .i64 0,.int .i64 0,.int .i64 0,.int .i64 0]) ?_ 4 _ rfl;(with_reducible repeat (first|refine blk_drewN ?_ _|refine blk_drew ?_|refine blk_alloc ?_ _));refine blk_put (cs:=#[.int .i64 ((rd_T33 l0 x12_1).f0),.int .i64 ((rd_T33 l0 x12_1).f1),.int .i64 ((rd_T33 l0 x12_1).f2),.int .i64 0,.int .i64 0,.int .i64 0,.int .i64 0,.int .i64 0,.int .i64 0]) ?_ 3 _ rfl;(with_reducible repeat (first|refine blk_drewN ?_ _|refine blk_drew ?_|refine blk_alloc ?_ _));refine blk_put (cs:=#[.int .i64 ((rd_T33 l0 x12_1).f0),.int .i64 ((rd_T33 l0 x12_1).f1),.int .i64 0,.int .i64 0,.int .i64 0,.int .i64 0,.int .i64 0,.int .i64 0,.int .i64 0]) ?_ 2 _ rfl;(with_reducible repeat (first|refine blk_drewN ?_ _|refine blk_drew ?_|refine blk_alloc ?_ _));refine blk_put (cs:=#[.int .i64 ((rd_T33 l0 x12_1).f0),.int .i64 0,.int .i64 0,.int .i64 0,.int .i64 0,.int .i64 0,.int .i64 0,.int .i64 0,.int .i64 0]) ?_ 1 _ rfl;(with_reducible repeat (first|refine blk_drewN ?_ _|refine blk_drew ?_|refine blk_alloc ?_ _));refine blk_put (cs:=#[.int .i64 0,.int .i64 0,.int .i64 0,.int .i64 0,.int .i64 0,.int .i64 0,.int .i64 0,.int .i64 0,.int .i64 0]) ?_ 0 _ rfl;(with_reducible repeat (first|refine blk_drewN ?_ _|refine blk_drew ?_|refine blk_alloc ?_ _));exact BK111.out) hb);have n1_:=Aside0.mk (below_step (by repeat (first|(with_reducible first|exact HB.out|apply below_alloc|apply pw_below_drewN|apply below_drew1|refine below_set ?_ GE111.out)|exact HB.out)) hb);clear BK111;clear HB;have BK111:=n0_;have HB:=n1_;clear n0_ n1_;(try clear hb);(try clear hb2);(try clear hk);(try clear hi)))
        go_roundg k1
        case measure => have:=HK1.out;omega
        case rel => exact ⟨(wrap64 (x12_1 + 1)),(by first|rfl|(simp;done)|(simp [*];done)),H',⟨by have:=HK1.out;omega⟩,⟨by repeat (first|(with_reducible first|exact HB.out|apply below_alloc|apply pw_below_drewN|apply below_drew1|refine below_set ?_ GE111.out)|exact HB.out)⟩⟩
       ·replace c7:=Bool.eq_false_iff.mpr c7
        subst c7
        have H1 : (some 1) = some r:=by rw [if_neg (show ¬ (false = true) by decide)] at H;exact H
        clear H
        have H:=H1
        clear H1
        obtain rfl:=Option.some.inj H
        have p110 : 0 ≤ (x12_1 : Int):=of_decide_eq_true (by first|(with_reducible assumption)|assumption)
        have q110 : x12_1 < (l0.length : Int):=of_decide_eq_true (by first|(with_reducible assumption)|assumption)
        obtain ⟨ad110,e110,hx110_0,hx110_1,hx110_2,hx110_3,hx110_4,hx110_5,hx110_6,hx110_7,hx110_8⟩:=at_T33 HR0.out x12_1 p110 q110
        cases e110
        replace hx110_0:=(HB.out.cell (World.block_lt_of_cell? w _ hx110_0)).trans hx110_0
        replace hx110_1:=(HB.out.cell (World.block_lt_of_cell? w _ hx110_1)).trans hx110_1
        replace hx110_2:=(HB.out.cell (World.block_lt_of_cell? w _ hx110_2)).trans hx110_2
        replace hx110_3:=(HB.out.cell (World.block_lt_of_cell? w _ hx110_3)).trans hx110_3
        replace hx110_4:=(HB.out.cell (World.block_lt_of_cell? w _ hx110_4)).trans hx110_4
        replace hx110_5:=(HB.out.cell (World.block_lt_of_cell? w _ hx110_5)).trans hx110_5
        replace hx110_6:=(HB.out.cell (World.block_lt_of_cell? w _ hx110_6)).trans hx110_6
        replace hx110_7:=(HB.out.cell (World.block_lt_of_cell? w _ hx110_7)).trans hx110_7
        replace hx110_8:=(HB.out.cell (World.block_lt_of_cell? w _ hx110_8)).trans hx110_8
        replace p110:=eq_true p110
        replace q110:=eq_true q110
        go_wp2_with (first|((with_reducible refine gate_dst (N:=4) rfl ?_);refine box_event ?hg (N:=4) ?hd (cs:=#[.int .i64 0,.int .i64 0,.int .i64 0,.int .i64 0,.int .i64 0,.int .i64 0,.int .i64 0,.int .i64 0,.int .i64 0]) (t:=33) ?hr ?_;(case hd => rfl);(case hg => rfl);(case hr => first|(go_simp;done)|(go_simp;rfl));intro gb111 hg w11 hbox hb;have n0_:=Aside0.mk (below_step (by repeat (first|(with_reducible first|exact HB.out|apply below_alloc|apply pw_below_drewN|apply below_drew1)|exact HB.out)) hb);have n1_:=Aside0.mk (hbox);have n2_:=Aside0.mk ((by rw [hg];exact (below_size (by repeat (first|(with_reducible first|exact HB.out|apply below_alloc|apply pw_below_drewN|apply below_drew1)|exact HB.out))) : w.heap.size ≤ gb111));have n3_:=Aside0.mk ((by rw [hg];exact (below_size (by repeat (first|(with_reducible first|exact HB.out|apply below_alloc|apply pw_below_drewN|apply below_drew1)|exact HB.out))) : w.heap.size ≤ gb111));clear HB;have HB:=n0_;have BK111:=n1_;have GW111:=n2_;have GE111:=n3_;clear n0_ n1_ n2_ n3_;clear hb hbox hg;have hcz12_0 : w11.cell? ⟨gb111,0,none⟩ = some (.int .i64 0):=(blk_cell BK111.out 0).trans rfl;have hcz12_1 : w11.cell? ⟨gb111,1,none⟩ = some (.int .i64 0):=(blk_cell BK111.out 1).trans rfl;have hcz12_2 : w11.cell? ⟨gb111,2,none⟩ = some (.int .i64 0):=(blk_cell BK111.out 2).trans rfl;have hcz12_3 : w11.cell? ⟨gb111,3,none⟩ = some (.int .i64 0):=(blk_cell BK111.out 3).trans rfl;have hcz12_4 : w11.cell? ⟨gb111,4,none⟩ = some (.int .i64 0):=(blk_cell BK111.out 4).trans rfl;have hcz12_5 : w11.cell? ⟨gb111,5,none⟩ = some (.int .i64 0):=(blk_cell BK111.out 5).trans rfl;have hcz12_6 : w11.cell? ⟨gb111,6,none⟩ = some (.int .i64 0):=(blk_cell BK111.out 6).trans rfl;have hcz12_7 : w11.cell? ⟨gb111,7,none⟩ = some (.int .i64 0):=(blk_cell BK111.out 7).trans rfl;have hcz12_8 : w11.cell? ⟨gb111,8,none⟩ = some (.int .i64 0):=(blk_cell BK111.out 8).trans rfl;have hfz12_0:=blk_frozen BK111.out 0;have hfz12_1:=blk_frozen BK111.out 1;have hfz12_2:=blk_frozen BK111.out 2;have hfz12_3:=blk_frozen BK111.out 3;have hfz12_4:=blk_frozen BK111.out 4;have hfz12_5:=blk_frozen BK111.out 5;have hfz12_6:=blk_frozen BK111.out 6;have hfz12_7:=blk_frozen BK111.out 7;have hfz12_8:=blk_frozen BK111.out 8)|((with_reducible refine gate_callee (f:=38) rfl ?_);refine goesL_ (some 17) rfl rfl Try.func38 (by kernel_rfl) rfl #[.agg #[.int .i64 ((rd_T33 l0 x12_1).f0),.int .i64 ((rd_T33 l0 x12_1).f1),.int .i64 ((rd_T33 l0 x12_1).f2),.int .i64 ((rd_T33 l0 x12_1).f3),.int .i64 ((rd_T33 l0 x12_1).f4),.int .i64 ((rd_T33 l0 x12_1).f5),.int .i64 ((rd_T33 l0 x12_1).f6),.int .i64 ((rd_T33 l0 x12_1).f7),.int .i64 ((rd_T33 l0 x12_1).f8)]] rfl (by (try simp only [List.map_toArray,List.map_cons,List.map_nil]);first|done|rfl|(simp only [List.length_drop,List.length_take];rfl)) ?_;(with_reducible refine (order_bounded.calls k1 ((rd_T33 l0 x12_1).f0) ((rd_T33 l0 x12_1).f1) ((rd_T33 l0 x12_1).f2) ((rd_T33 l0 x12_1).f3) ((rd_T33 l0 x12_1).f4) ((rd_T33 l0 x12_1).f5) ((rd_T33 l0 x12_1).f6) ((rd_T33 l0 x12_1).f7) ((rd_T33 l0 x12_1).f8) false _ A6.out).mono ?_);rintro e w13 ⟨rfl,hb⟩;refine ⟨_,rfl,?_⟩;have n0_:=Aside0.mk (blk_below (g:=gb111) (o:=.cells #[.int .i64 ((rd_T33 l0 x12_1).f0),.int .i64 ((rd_T33 l0 x12_1).f1),.int .i64 ((rd_T33 l0 x12_1).f2),.int .i64 ((rd_T33 l0 x12_1).f3),.int .i64 ((rd_T33 l0 x12_1).f4),.int .i64 ((rd_T33 l0 x12_1).f5),.int .i64 ((rd_T33 l0 x12_1).f6),.int .i64 ((rd_T33 l0 x12_1).f7),.int .i64 ((rd_T33 l0 x12_1).f8)] 33 (0,0)) (by (with_reducible repeat (first|refine blk_drewN ?_ _|refine blk_drew ?_|refine blk_alloc ?_ _));refine blk_put (cs:=#[.int .i64 ((rd_T33 l0 x12_1).f0),.int .i64 ((rd_T33 l0 x12_1).f1),.int .i64 ((rd_T33 l0 x12_1).f2),.int .i64 ((rd_T33 l0 x12_1).f3),.int .i64 ((rd_T33 l0 x12_1).f4),.int .i64 ((rd_T33 l0 x12_1).f5),.int .i64 ((rd_T33 l0 x12_1).f6),.int .i64 ((rd_T33 l0 x12_1).f7),.int .i64 0]) ?_ 8 _ rfl;(with_reducible repeat (first|refine blk_drewN ?_ _|refine blk_drew ?_|refine blk_alloc ?_ _));refine blk_put (cs:=#[.int .i64 ((rd_T33 l0 x12_1).f0),.int .i64 ((rd_T33 l0 x12_1).f1),.int .i64 ((rd_T33 l0 x12_1).f2),.int .i64 ((rd_T33 l0 x12_1).f3),.int .i64 ((rd_T33 l0 x12_1).f4),.int .i64 ((rd_T33 l0 x12_1).f5),.int .i64 ((rd_T33 l0 x12_1).f6),.int .i64 0,.int .i64 0]) ?_ 7 _ rfl;(with_reducible repeat (first|refine blk_drewN ?_ _|refine blk_drew ?_|refine blk_alloc ?_ _));refine blk_put (cs:=#[.int .i64 ((rd_T33 l0 x12_1).f0),.int .i64 ((rd_T33 l0 x12_1).f1),.int .i64 ((rd_T33 l0 x12_1).f2),.int .i64 ((rd_T33 l0 x12_1).f3),.int .i64 ((rd_T33 l0 x12_1).f4),.int .i64 ((rd_T33 l0 x12_1).f5),.int .i64 0,.int .i64 0,.int .i64 0]) ?_ 6 _ rfl;(with_reducible repeat (first|refine blk_drewN ?_ _|refine blk_drew ?_|refine blk_alloc ?_ _));refine blk_put (cs:=#[.int .i64 ((rd_T33 l0 x12_1).f0),.int .i64 ((rd_T33 l0 x12_1).f1),.int .i64 ((rd_T33 l0 x12_1).f2),.int .i64 ((rd_T33 l0 x12_1).f3),.int .i64 ((rd_T33 l0 x12_1).f4),.int .i64 0,.int .i64 0,.int .i64 0,.int .i64 0]) ?_ 5 _ rfl;(with_reducible repeat (first|refine blk_drewN ?_ _|refine blk_drew ?_|refine blk_alloc ?_ _));refine blk_put (cs:=#[.int .i64 ((rd_T33 l0 x12_1).f0),.int .i64 ((rd_T33 l0 x12_1).f1),.int .i64 ((rd_T33 l0 x12_1).f2),.int .i64 ((rd_T33 l0 x12_1).f3),.int .i64 0,.int .i64 0,.int .i64 0,.int .i64 0,.int .i64 0]) ?_ 4 _ rfl;(with_reducible repeat (first|refine blk_drewN ?_ _|refine blk_drew ?_|refine blk_alloc ?_ _));refine blk_put (cs:=#[.int .i64 ((rd_T33 l0 x12_1).f0),.int .i64 ((rd_T33 l0 x12_1).f1),.int .i64 ((rd_T33 l0 x12_1).f2),.int .i64 0,.int .i64 0,.int .i64 0,.int .i64 0,.int .i64 0,.int .i64 0]) ?_ 3 _ rfl;(with_reducible repeat (first|refine blk_drewN ?_ _|refine blk_drew ?_|refine blk_alloc ?_ _));refine blk_put (cs:=#[.int .i64 ((rd_T33 l0 x12_1).f0),.int .i64 ((rd_T33 l0 x12_1).f1),.int .i64 0,.int .i64 0,.int .i64 0,.int .i64 0,.int .i64 0,.int .i64 0,.int .i64 0]) ?_ 2 _ rfl;(with_reducible repeat (first|refine blk_drewN ?_ _|refine blk_drew ?_|refine blk_alloc ?_ _));refine blk_put (cs:=#[.int .i64 ((rd_T33 l0 x12_1).f0),.int .i64 0,.int .i64 0,.int .i64 0,.int .i64 0,.int .i64 0,.int .i64 0,.int .i64 0,.int .i64 0]) ?_ 1 _ rfl;(with_reducible repeat (first|refine blk_drewN ?_ _|refine blk_drew ?_|refine blk_alloc ?_ _));refine blk_put (cs:=#[.int .i64 0,.int .i64 0,.int .i64 0,.int .i64 0,.int .i64 0,.int .i64 0,.int .i64 0,.int .i64 0,.int .i64 0]) ?_ 0 _ rfl;(with_reducible repeat (first|refine blk_drewN ?_ _|refine blk_drew ?_|refine blk_alloc ?_ _));exact BK111.out) hb);have n1_:=Aside0.mk (below_step (by repeat (first|(with_reducible first|exact HB.out|apply below_alloc|apply pw_below_drewN|apply below_drew1|refine below_set ?_ GE111.out)|exact HB.out)) hb);clear BK111;clear HB;have BK111:=n0_;have HB:=n1_;clear n0_ n1_;(try clear hb);(try clear hb2);(try clear hk);(try clear hi)))
        go_ret
        exact ⟨by first|rfl|(simp [errW_none,errW_some] <;> rfl)|(simp [*,errW_none,errW_some] <;> rfl),by repeat (first|(with_reducible first|exact HB.out|apply below_alloc|apply pw_below_drewN|apply below_drew1|refine below_set ?_ GE111.out)|exact HB.out)⟩
      ·rw [if_neg c5] at H
       exact absurd H (by simp)
     ·rw [if_neg c4] at H
      exact absurd H (by simp)
    ·rw [if_neg c3] at H
     have c3b0 : decide (x12_1 < (l0.length : Int)) = false:=decide_eq_false c3
     clear c3
     have H':=Aside0.mk H
     clear H
     go_wp2
     go_loopg [22] k1 (fun kq v22 w' => ∃ (x22_2 : Int),v22 = .int .i64 x22_2 ∧ Aside0 (order_Validate.l1 kq l0 l0 (l0.length : Int) x22_2 = some r) ∧ Aside0 (kq ≤ k1) ∧ Aside0 (Below w.heap.size w w'))
     case atStart => exact ⟨(0),(by first|rfl|(simp;done)|(simp [*];done)),H',⟨Nat.le_refl _⟩,⟨by repeat (first|(with_reducible first|exact HB.out|apply below_alloc|apply pw_below_drewN|apply below_drew1)|exact HB.out)⟩⟩
     case round =>
      clear H'
      try clear c1
      try clear p1
      try clear q1
      try clear hx1
      try clear c2
      try clear c2b0
      try clear c2b1
      try clear p2
      try clear c3
      try clear c3b0
      try clear c4
      try clear c4b0
      try clear c5
      try clear c5b0
      try clear p6
      try clear c7
      try clear p11
      try clear q11
      try clear hx11
      try clear hcz12_0
      try clear hcz12_1
      try clear hcz12_2
      try clear hcz12_3
      try clear hcz12_4
      try clear hcz12_5
      try clear hcz12_6
      try clear hcz12_7
      try clear hcz12_8
      try clear hcz9_0
      try clear hcz9_1
      try clear hcz9_2
      try clear hcz9_3
      try clear hcz9_4
      try clear hcz9_5
      try clear hcz9_6
      try clear hcz9_7
      try clear hcz9_8
      try clear hfz12_0
      try clear hfz12_1
      try clear hfz12_2
      try clear hfz12_3
      try clear hfz12_4
      try clear hfz12_5
      try clear hfz12_6
      try clear hfz12_7
      try clear hfz12_8
      try clear hfz9_0
      try clear hfz9_1
      try clear hfz9_2
      try clear hfz9_3
      try clear hfz9_4
      try clear hfz9_5
      try clear hfz9_6
      try clear hfz9_7
      try clear hfz9_8
      try clear hx110_0
      try clear hx110_1
      try clear hx110_2
      try clear hx110_3
      try clear hx110_4
      try clear hx110_5
      try clear hx110_6
      try clear hx110_7
      try clear hx110_8
      try clear p110
      try clear p2
      try clear q110
      obtain ⟨x22_2,rfl,HA,HK2,HB⟩:=hrel
      cases gk with
      | zero => exact absurd HA.out (by simp [order_Validate.l1])
      | succ k2 =>
       have H:=HA.out
       clear HA
       simp only [order_Validate.l1] at H
       by_cases c14 : x22_2 < (l0.length : Int)
       ·rw [if_pos c14] at H
        have c14b0 : decide (x22_2 < (l0.length : Int)) = true:=decide_eq_true c14
        clear c14
        by_cases c15 : 0 ≤ x22_2
        ·rw [if_pos c15] at H
         have c15b0 : decide (0 ≤ x22_2) = true:=decide_eq_true c15
         clear c15
         by_cases c16 : x22_2 < (l0.length : Int)
         ·rw [if_pos c16] at H
          have c16b0 : decide (x22_2 < (l0.length : Int)) = true:=decide_eq_true c16
          clear c16
          replace H:=Option.bind_eq_some_iff.mp H
          obtain ⟨t115,A170,H⟩:=H
          replace H : (if t115 = true then (order_Validate.l1 k2 l0 l0 (l0.length : Int) (wrap64 (x22_2 + 1))) else (some 2)) = some r:=H
          have A17:=Aside0.mk A170
          clear A170
          by_cases c18 : t115 = true
          ·subst c18
           have H1 : (order_Validate.l1 k2 l0 l0 (l0.length : Int) (wrap64 (x22_2 + 1))) = some r:=by rw [if_pos rfl] at H;exact H
           clear H
           have H:=H1
           clear H1
           have H':=Aside0.mk H
           clear H
           have p113 : 0 ≤ (x22_2 : Int):=of_decide_eq_true (by first|(with_reducible assumption)|assumption)
           have q113 : x22_2 < (l0.length : Int):=of_decide_eq_true (by first|(with_reducible assumption)|assumption)
           obtain ⟨ad113,e113,hx113_0,hx113_1,hx113_2,hx113_3,hx113_4,hx113_5,hx113_6,hx113_7,hx113_8⟩:=at_T33 HR0.out x22_2 p113 q113
           cases e113
           replace hx113_0:=(HB.out.cell (World.block_lt_of_cell? w _ hx113_0)).trans hx113_0
           replace hx113_1:=(HB.out.cell (World.block_lt_of_cell? w _ hx113_1)).trans hx113_1
           replace hx113_2:=(HB.out.cell (World.block_lt_of_cell? w _ hx113_2)).trans hx113_2
           replace hx113_3:=(HB.out.cell (World.block_lt_of_cell? w _ hx113_3)).trans hx113_3
           replace hx113_4:=(HB.out.cell (World.block_lt_of_cell? w _ hx113_4)).trans hx113_4
           replace hx113_5:=(HB.out.cell (World.block_lt_of_cell? w _ hx113_5)).trans hx113_5
           replace hx113_6:=(HB.out.cell (World.block_lt_of_cell? w _ hx113_6)).trans hx113_6
           replace hx113_7:=(HB.out.cell (World.block_lt_of_cell? w _ hx113_7)).trans hx113_7
           replace hx113_8:=(HB.out.cell (World.block_lt_of_cell? w _ hx113_8)).trans hx113_8
           replace p113:=eq_true p113
           replace q113:=eq_true q113
           go_wp2_with (first|((with_reducible refine gate_dst (N:=6) rfl ?_);refine box_event ?hg (N:=6) ?hd (cs:=#[.int .i64 0,.int .i64 0,.int .i64 0,.int .i64 0,.int .i64 0,.int .i64 0,.int .i64 0,.int .i64 0,.int .i64 0]) (t:=33) ?hr ?_;(case hd => rfl);(case hg => rfl);(case hr => first|(go_simp;done)|(go_simp;rfl));intro gb114 hg w19 hbox hb;have n0_:=Aside0.mk (below_step (by repeat (first|(with_reducible first|exact HB.out|apply below_alloc|apply pw_below_drewN|apply below_drew1)|exact HB.out)) hb);have n1_:=Aside0.mk (hbox);have n2_:=Aside0.mk ((by rw [hg];exact (below_size (by repeat (first|(with_reducible first|exact HB.out|apply below_alloc|apply pw_below_drewN|apply below_drew1)|exact HB.out))) : w.heap.size ≤ gb114));have n3_:=Aside0.mk ((by rw [hg];exact (below_size (by repeat (first|(with_reducible first|exact HB.out|apply below_alloc|apply pw_below_drewN|apply below_drew1)|exact HB.out))) : w.heap.size ≤ gb114));clear HB;have HB:=n0_;have BK114:=n1_;have GW114:=n2_;have GE114:=n3_;clear n0_ n1_ n2_ n3_;clear hb hbox hg;have hcz20_0 : w19.cell? ⟨gb114,0,none⟩ = some (.int .i64 0):=(blk_cell BK114.out 0).trans rfl;have hcz20_1 : w19.cell? ⟨gb114,1,none⟩ = some (.int .i64 0):=(blk_cell BK114.out 1).trans rfl;have hcz20_2 : w19.cell? ⟨gb114,2,none⟩ = some (.int .i64 0):=(blk_cell BK114.out 2).trans rfl;have hcz20_3 : w19.cell? ⟨gb114,3,none⟩ = some (.int .i64 0):=(blk_cell BK114.out 3).trans rfl;have hcz20_4 : w19.cell? ⟨gb114,4,none⟩ = some (.int .i64 0):=(blk_cell BK114.out 4).trans rfl;have hcz20_5 : w19.cell? ⟨gb114,5,none⟩ = some (.int .i64 0):=(blk_cell BK114.out 5).trans rfl;have hcz20_6 : w19.cell? ⟨gb114,6,none⟩ = some (.int .i64 0):=(blk_cell BK114.out 6).trans rfl;have hcz20_7 : w19.cell? ⟨gb114,7,none⟩ = some (.int .i64 0):=(blk_cell BK114.out 7).trans rfl;have hcz20_8 : w19.cell? ⟨gb114,8,none⟩ = some (.int .i64 0):=(blk_cell BK114.out 8).trans rfl;have hfz20_0:=blk_frozen BK114.out 0;have hfz20_1:=blk_frozen BK114.out 1;have hfz20_2:=blk_frozen BK114.out 2;have hfz20_3:=blk_frozen BK114.out 3;have hfz20_4:=blk_frozen BK114.out 4;have hfz20_5:=blk_frozen BK114.out 5;have hfz20_6:=blk_frozen BK114.out 6;have hfz20_7:=blk_frozen BK114.out 7;have hfz20_8:=blk_frozen BK114.out 8)|((with_reducible refine gate_callee (f:=39) rfl ?_);refine goesL_ (some 31) rfl rfl Try.func39 (by kernel_rfl) rfl #[.int .i64 ((rd_T33 l0 x22_2).f6),.int .i64 (wrap64 ((l0.length : Int) - 1))] rfl (by (try simp only [List.map_toArray,List.map_cons,List.map_nil]);first|done|rfl|(simp only [List.length_drop,List.length_take];rfl)) ?_;(with_reducible refine (order_within.calls ((rd_T33 l0 x22_2).f6) (wrap64 ((l0.length : Int) - 1)) true _ A17.out).mono ?_);rintro e w' ⟨rfl,⟨nd,rfl⟩⟩;refine ⟨_,rfl,?_⟩))
           go_roundg k2
           case measure => have:=HK1.out;have:=HK2.out;omega
           case rel => exact ⟨(wrap64 (x22_2 + 1)),(by first|rfl|(simp;done)|(simp [*];done)),H',⟨by have:=HK1.out;have:=HK2.out;omega⟩,⟨by repeat (first|(with_reducible first|exact HB.out|apply below_alloc|apply pw_below_drewN|apply below_drew1|refine below_set ?_ GE114.out)|exact HB.out)⟩⟩
          ·replace c18:=Bool.eq_false_iff.mpr c18
           subst c18
           have H1 : (some 2) = some r:=by rw [if_neg (show ¬ (false = true) by decide)] at H;exact H
           clear H
           have H:=H1
           clear H1
           obtain rfl:=Option.some.inj H
           have p113 : 0 ≤ (x22_2 : Int):=of_decide_eq_true (by first|(with_reducible assumption)|assumption)
           have q113 : x22_2 < (l0.length : Int):=of_decide_eq_true (by first|(with_reducible assumption)|assumption)
           obtain ⟨ad113,e113,hx113_0,hx113_1,hx113_2,hx113_3,hx113_4,hx113_5,hx113_6,hx113_7,hx113_8⟩:=at_T33 HR0.out x22_2 p113 q113
           cases e113
           replace hx113_0:=(HB.out.cell (World.block_lt_of_cell? w _ hx113_0)).trans hx113_0
           replace hx113_1:=(HB.out.cell (World.block_lt_of_cell? w _ hx113_1)).trans hx113_1
           replace hx113_2:=(HB.out.cell (World.block_lt_of_cell? w _ hx113_2)).trans hx113_2
           replace hx113_3:=(HB.out.cell (World.block_lt_of_cell? w _ hx113_3)).trans hx113_3
           replace hx113_4:=(HB.out.cell (World.block_lt_of_cell? w _ hx113_4)).trans hx113_4
           replace hx113_5:=(HB.out.cell (World.block_lt_of_cell? w _ hx113_5)).trans hx113_5
           replace hx113_6:=(HB.out.cell (World.block_lt_of_cell? w _ hx113_6)).trans hx113_6
           replace hx113_7:=(HB.out.cell (World.block_lt_of_cell? w _ hx113_7)).trans hx113_7
           replace hx113_8:=(HB.out.cell (World.block_lt_of_cell? w _ hx113_8)).trans hx113_8
           replace p113:=eq_true p113
           replace q113:=eq_true q113
           go_wp2_with (first|((with_reducible refine gate_dst (N:=6) rfl ?_);refine box_event ?hg (N:=6) ?hd (cs:=#[.int .i64 0,.int .i64 0,.int .i64 0,.int .i64 0,.int .i64 0,.int .i64 0,.int .i64 0,.int .i64 0,.int .i64 0]) (t:=33) ?hr ?_;(case hd => rfl);(case hg => rfl);(case hr => first|(go_simp;done)|(go_simp;rfl));intro gb114 hg w21 hbox hb;have n0_:=Aside0.mk (below_step (by repeat (first|(with_reducible first|exact HB.out|apply below_alloc|apply pw_below_drewN|apply below_drew1)|exact HB.out)) hb);have n1_:=Aside0.mk (hbox);have n2_:=Aside0.mk ((by rw [hg];exact (below_size (by repeat (first|(with_reducible first|exact HB.out|apply below_alloc|apply pw_below_drewN|apply below_drew1)|exact HB.out))) : w.heap.size ≤ gb114));have n3_:=Aside0.mk ((by rw [hg];exact (below_size (by repeat (first|(with_reducible first|exact HB.out|apply below_alloc|apply pw_below_drewN|apply below_drew1)|exact HB.out))) : w.heap.size ≤ gb114));clear HB;have HB:=n0_;have BK114:=n1_;have GW114:=n2_;have GE114:=n3_;clear n0_ n1_ n2_ n3_;clear hb hbox hg;have hcz22_0 : w21.cell? ⟨gb114,0,none⟩ = some (.int .i64 0):=(blk_cell BK114.out 0).trans rfl;have hcz22_1 : w21.cell? ⟨gb114,1,none⟩ = some (.int .i64 0):=(blk_cell BK114.out 1).trans rfl;have hcz22_2 : w21.cell? ⟨gb114,2,none⟩ = some (.int .i64 0):=(blk_cell BK114.out 2).trans rfl;have hcz22_3 : w21.cell? ⟨gb114,3,none⟩ = some (.int .i64 0):=(blk_cell BK114.out 3).trans rfl;have hcz22_4 : w21.cell? ⟨gb114,4,none⟩ = some (.int .i64 0):=(blk_cell BK114.out 4).trans rfl;have hcz22_5 : w21.cell? ⟨gb114,5,none⟩ = some (.int .i64 0):=(blk_cell BK114.out 5).trans rfl;have hcz22_6 : w21.cell? ⟨gb114,6,none⟩ = some (.int .i64 0):=(blk_cell BK114.out 6).trans rfl;have hcz22_7 : w21.cell? ⟨gb114,7,none⟩ = some (.int .i64 0):=(blk_cell BK114.out 7).trans rfl;have hcz22_8 : w21.cell? ⟨gb114,8,none⟩ = some (.int .i64 0):=(blk_cell BK114.out 8).trans rfl;have hfz22_0:=blk_frozen BK114.out 0;have hfz22_1:=blk_frozen BK114.out 1;have hfz22_2:=blk_frozen BK114.out 2;have hfz22_3:=blk_frozen BK114.out 3;have hfz22_4:=blk_frozen BK114.out 4;have hfz22_5:=blk_frozen BK114.out 5;have hfz22_6:=blk_frozen BK114.out 6;have hfz22_7:=blk_frozen BK114.out 7;have hfz22_8:=blk_frozen BK114.out 8)|((with_reducible refine gate_callee (f:=39) rfl ?_);refine goesL_ (some 31) rfl rfl Try.func39 (by kernel_rfl) rfl #[.int .i64 ((rd_T33 l0 x22_2).f6),.int .i64 (wrap64 ((l0.length : Int) - 1))] rfl (by (try simp only [List.map_toArray,List.map_cons,List.map_nil]);first|done|rfl|(simp only [List.length_drop,List.length_take];rfl)) ?_;(with_reducible refine (order_within.calls ((rd_T33 l0 x22_2).f6) (wrap64 ((l0.length : Int) - 1)) false _ A17.out).mono ?_);rintro e w' ⟨rfl,⟨nd,rfl⟩⟩;refine ⟨_,rfl,?_⟩))
           go_ret
           exact ⟨by first|rfl|(simp [errW_none,errW_some] <;> rfl)|(simp [*,errW_none,errW_some] <;> rfl),by repeat (first|(with_reducible first|exact HB.out|apply below_alloc|apply pw_below_drewN|apply below_drew1|refine below_set ?_ GE114.out)|exact HB.out)⟩
         ·rw [if_neg c16] at H
          exact absurd H (by simp)
        ·rw [if_neg c15] at H
         exact absurd H (by simp)
       ·rw [if_neg c14] at H
        have c14b0 : decide (x22_2 < (l0.length : Int)) = false:=decide_eq_false c14
        clear c14
        obtain rfl:=Option.some.inj H
        go_wp2
        go_ret
        exact ⟨by first|rfl|(simp [errW_none,errW_some] <;> rfl)|(simp [*,errW_none,errW_some] <;> rfl),by repeat (first|(with_reducible first|exact HB.out|apply below_alloc|apply pw_below_drewN|apply below_drew1)|exact HB.out)⟩

/-! ### order_check: function 41 -/
def order_check.f (k : Nat) (l0 : List (S33)) (a1 : Int) : Option (Int) := (order_Validate.f k l0).bind fun t116 => (if t116 = 0 then (if (l0.length : Int) > 0 then ((order_within.f a1 (wrap64 ((l0.length : Int) - 1))).bind fun t117 => (if t117 = true then (some 0) else (some 2))) else (some 0)) else (some t116))
theorem order_check.mono : ∀ a0 a1 k, LeO (order_check.f k a0 a1) (order_check.f (k + 1) a0 a1) := by
 intro a0 a1 k
 unfold order_check.f
 repeat' first
   | (with_reducible exact order_Validate.mono _ _)
   | (with_reducible exact LeO.refl _)
   | (with_reducible exact LeO.none _)
   | (with_reducible refine LeO.ite ?_ ?_)
   | (with_reducible refine LeO.bind ?_ (fun _ => ?_))
   | exact order_Validate.mono _ _
   | exact LeO.none _
   | refine LeO.ite ?_ ?_
   | refine LeO.bind ?_ (fun _ => ?_)
set_option maxHeartbeats 8000000 in
set_option maxRecDepth 100000 in
theorem order_check.calls (k : Nat) (A0 : Option Addr) (c0 : Nat) (l0 : List (S33)) (a1 : Int) (r : Int) (w : World) (hr0 : Kd.C k33 w A0 l0.length l0) (hc0 : l0.length ≤ c0) (h : order_check.f k l0 a1 = some r) :
  Calls Try.prog 41 #[.slice A0 l0.length c0,.int .i64 a1] w fun e w' => e = .returned (.int .i64 r) ∧ Below w.heap.size w w':=by
 have HR0:=Aside0.mk hr0
 have HC0:=Aside0.mk hc0
 clear hr0 hc0
 have HB:=Aside0.mk (Below.refl w.heap.size w)
 have H : ((order_Validate.f k l0).bind fun t116 => (if t116 = 0 then (if (l0.length : Int) > 0 then ((order_within.f a1 (wrap64 ((l0.length : Int) - 1))).bind fun t117 => (if t117 = true then (some 0) else (some 2))) else (some 0)) else (some t116))) = some r:=h
 clear h
 replace H:=Option.bind_eq_some_iff.mp H
 obtain ⟨t116,A30,H⟩:=H
 replace H : (if t116 = 0 then (if (l0.length : Int) > 0 then ((order_within.f a1 (wrap64 ((l0.length : Int) - 1))).bind fun t117 => (if t117 = true then (some 0) else (some 2))) else (some 0)) else (some t116)) = some r:=H
 have A3:=Aside0.mk A30
 clear A30
 by_cases c4 : t116 = 0
 ·rw [if_pos c4] at H
  have c4b0 : (t116 == 0) = true:=beq_iff_eq.mpr c4
  have c4b1 : (t116 != 0) = false:=bne_eq_false_iff_eq.mpr c4
  clear c4
  by_cases c5 : (l0.length : Int) > 0
  ·rw [if_pos c5] at H
   have c5b0 : decide (0 < (l0.length : Int)) = true:=decide_eq_true c5
   have c5b1 : decide (0 < l0.length) = true:=decide_eq_true (by omega)
   clear c5
   replace H:=Option.bind_eq_some_iff.mp H
   obtain ⟨t117,A60,H⟩:=H
   replace H : (if t117 = true then (some 0) else (some 2)) = some r:=H
   have A6:=Aside0.mk A60
   clear A60
   by_cases c7 : t117 = true
   ·subst c7
    have H1 : (some 0) = some r:=by rw [if_pos rfl] at H;exact H
    clear H
    have H:=H1
    clear H1
    obtain rfl:=Option.some.inj H
    go_enter Try.func41,Try.ntmps41
    go_wp2_with (first|((with_reducible refine gate_callee (f:=18) rfl ?_);refine goesL_ (some 7) rfl rfl Try.func18 (by kernel_rfl) rfl #[.slice A0 l0.length c0] rfl (by (try simp only [List.map_toArray,List.map_cons,List.map_nil]);first|done|rfl|(simp only [List.length_drop,List.length_take];rfl)) ?_;(with_reducible refine (order_Validate.calls k _ _ l0 t116 _ ?side1 ?side2 A3.out).mono ?_);(case side1 => repeat (first|exact HR0.out|(with_reducible refine Kd.C_alloc ?_ _)|(with_reducible refine Kd.C_drewN ?_ _)|(with_reducible refine Kd.C_drew ?_)));(case side2 => exact HC0.out);rintro e w8 ⟨rfl,hb⟩;refine ⟨_,rfl,?_⟩;have n0_:=Aside0.mk (below_step (by repeat (first|(with_reducible first|exact HB.out|apply below_alloc|apply pw_below_drewN|apply below_drew1)|exact HB.out)) hb);clear HB;have HB:=n0_;clear n0_;(try clear hb);(try clear hb2);(try clear hk);(try clear hi))|(go_at_call 39;(with_reducible refine (order_within.calls a1 (wrap64 ((l0.length : Int) - 1)) true _ A6.out).mono ?_);rintro e w' ⟨rfl,⟨nd,rfl⟩⟩))
    go_ret
    exact ⟨by first|rfl|(simp [errW_none,errW_some] <;> rfl)|(simp [*,errW_none,errW_some] <;> rfl),by repeat (first|(with_reducible first|exact HB.out|apply below_alloc|apply pw_below_drewN|apply below_drew1)|exact HB.out)⟩
   ·replace c7:=Bool.eq_false_iff.mpr c7
    subst c7
    have H1 : (some 2) = some r:=by rw [if_neg (show ¬ (false = true) by decide)] at H;exact H
    clear H
    have H:=H1
    clear H1
    obtain rfl:=Option.some.inj H
    go_enter Try.func41,Try.ntmps41
    go_wp2_with (first|((with_reducible refine gate_callee (f:=18) rfl ?_);refine goesL_ (some 7) rfl rfl Try.func18 (by kernel_rfl) rfl #[.slice A0 l0.length c0] rfl (by (try simp only [List.map_toArray,List.map_cons,List.map_nil]);first|done|rfl|(simp only [List.length_drop,List.length_take];rfl)) ?_;(with_reducible refine (order_Validate.calls k _ _ l0 t116 _ ?side1 ?side2 A3.out).mono ?_);(case side1 => repeat (first|exact HR0.out|(with_reducible refine Kd.C_alloc ?_ _)|(with_reducible refine Kd.C_drewN ?_ _)|(with_reducible refine Kd.C_drew ?_)));(case side2 => exact HC0.out);rintro e w9 ⟨rfl,hb⟩;refine ⟨_,rfl,?_⟩;have n0_:=Aside0.mk (below_step (by repeat (first|(with_reducible first|exact HB.out|apply below_alloc|apply pw_below_drewN|apply below_drew1)|exact HB.out)) hb);clear HB;have HB:=n0_;clear n0_;(try clear hb);(try clear hb2);(try clear hk);(try clear hi))|(go_at_call 39;(with_reducible refine (order_within.calls a1 (wrap64 ((l0.length : Int) - 1)) false _ A6.out).mono ?_);rintro e w' ⟨rfl,⟨nd,rfl⟩⟩))
    go_ret
    exact ⟨by first|rfl|(simp [errW_none,errW_some] <;> rfl)|(simp [*,errW_none,errW_some] <;> rfl),by repeat (first|(with_reducible first|exact HB.out|apply below_alloc|apply pw_below_drewN|apply below_drew1)|exact HB.out)⟩
  ·rw [if_neg c5] at H
   have c5b0 : decide (0 < (l0.length : Int)) = false:=decide_eq_false c5
   have c5b1 : decide (0 < l0.length) = false:=decide_eq_false (by omega)
   clear c5
   obtain rfl:=Option.some.inj H
   go_enter Try.func41,Try.ntmps41
   go_wp2_with (first|((with_reducible refine gate_callee (f:=18) rfl ?_);refine goesL_ (some 7) rfl rfl Try.func18 (by kernel_rfl) rfl #[.slice A0 l0.length c0] rfl (by (try simp only [List.map_toArray,List.map_cons,List.map_nil]);first|done|rfl|(simp only [List.length_drop,List.length_take];rfl)) ?_;(with_reducible refine (order_Validate.calls k _ _ l0 t116 _ ?side1 ?side2 A3.out).mono ?_);(case side1 => repeat (first|exact HR0.out|(with_reducible refine Kd.C_alloc ?_ _)|(with_reducible refine Kd.C_drewN ?_ _)|(with_reducible refine Kd.C_drew ?_)));(case side2 => exact HC0.out);rintro e w10 ⟨rfl,hb⟩;refine ⟨_,rfl,?_⟩;have n0_:=Aside0.mk (below_step (by repeat (first|(with_reducible first|exact HB.out|apply below_alloc|apply pw_below_drewN|apply below_drew1)|exact HB.out)) hb);clear HB;have HB:=n0_;clear n0_;(try clear hb);(try clear hb2);(try clear hk);(try clear hi)))
   go_ret
   exact ⟨by first|rfl|(simp [errW_none,errW_some] <;> rfl)|(simp [*,errW_none,errW_some] <;> rfl),by repeat (first|(with_reducible first|exact HB.out|apply below_alloc|apply pw_below_drewN|apply below_drew1)|exact HB.out)⟩
 ·rw [if_neg c4] at H
  have c4b0 : (t116 == 0) = false:=beq_eq_false_iff_ne.mpr c4
  have c4b1 : (t116 != 0) = true:=bne_iff_ne.mpr c4
  obtain rfl:=Option.some.inj H
  go_enter Try.func41,Try.ntmps41
  go_wp2_with (first|((with_reducible refine gate_callee (f:=18) rfl ?_);refine goesL_ (some 7) rfl rfl Try.func18 (by kernel_rfl) rfl #[.slice A0 l0.length c0] rfl (by (try simp only [List.map_toArray,List.map_cons,List.map_nil]);first|done|rfl|(simp only [List.length_drop,List.length_take];rfl)) ?_;(with_reducible refine (order_Validate.calls k _ _ l0 t116 _ ?side1 ?side2 A3.out).mono ?_);(case side1 => repeat (first|exact HR0.out|(with_reducible refine Kd.C_alloc ?_ _)|(with_reducible refine Kd.C_drewN ?_ _)|(with_reducible refine Kd.C_drew ?_)));(case side2 => exact HC0.out);rintro e w11 ⟨rfl,hb⟩;refine ⟨_,rfl,?_⟩;have n0_:=Aside0.mk (below_step (by repeat (first|(with_reducible first|exact HB.out|apply below_alloc|apply pw_below_drewN|apply below_drew1)|exact HB.out)) hb);clear HB;have HB:=n0_;clear n0_;(try clear hb);(try clear hb2);(try clear hk);(try clear hi)))
  go_ret
  exact ⟨by first|rfl|(simp [errW_none,errW_some] <;> rfl)|(simp [*,errW_none,errW_some] <;> rfl),by repeat (first|(with_reducible first|exact HB.out|apply below_alloc|apply pw_below_drewN|apply below_drew1)|exact HB.out)⟩

end Go.Proofs.Ythbjchicpebglaa.P

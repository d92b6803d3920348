/- Functions of this seat as plain Lean functions, with proofs that the Go code comes to just their answers, or what stands between them and a law's statement; no conditions. (Laid by a program of this session, out of the kit's print.) -/
import Derived.Test.YtbdijpjlgokfkaaPx0
import Derived.Test.YtbdijpjlgokfkaaPx3
import Derived.Test.YtbdijpjlgokfkaaPx4
import Derived.Test.YtbdijpjlgokfkaaPx7
namespace Go.Proofs.Ytbdijpjlgokfkaa.P
open Go.RowKit Go.Proofs.YtbdijpjlgokfkaaW.PrintWords Go.Proofs.YtbdijpjlgokfkaaW.PrintLast Go.Proofs.YtbdijpjlgokfkaaW.PrintMore
attribute [local go_sem] max2_int min2_int max_two min_two max_three min_three max_four min_four   -- for this text's walks alone
set_option linter.unusedVariables false
set_option linter.unusedSimpArgs false

/-! ### town_deeds: function 49 -/
def town_deeds.f  : Option (S77) := some (⟨(-150), (-20), 10, (-50), (-20), 15, (-400), 150⟩ : S77)
set_option maxHeartbeats 8000000 in
set_option maxRecDepth 100000 in
theorem town_deeds.calls  (r : S77) (w : World) (h : town_deeds.f  = some r) :
  Calls Try.prog 49 #[] w fun e w' => e = .returned (.agg #[.int .i64 r.f0,.int .i64 r.f1,.int .i64 r.f2,.int .i64 r.f3,.int .i64 r.f4,.int .i64 r.f5,.int .i64 r.f6,.int .i64 r.f7]) ∧ Below w.heap.size w w':=by
 have hu77:=Try.underlying77
 have HB:=Aside0.mk (Below.refl w.heap.size w)
 have H : (some (⟨(-150),(-20),10,(-50),(-20),15,(-400),150⟩ : S77)) = some r:=h
 clear h
 obtain rfl:=Option.some.inj H
 go_enter Try.func49,Try.ntmps49
 go_wp2_with (first|((with_reducible refine gate_dst (N:=0) rfl ?_);refine box_event ?hg (N:=0) ?hd (cs:=#[.int .i64 0,.int .i64 0,.int .i64 0,.int .i64 0,.int .i64 0,.int .i64 0,.int .i64 0,.int .i64 0]) (t:=77) ?hr ?_;(case hd => rfl);(case hg => rfl);(case hr => first|(go_simp;done)|(go_simp;rfl));intro gb236 hg w1 hbox hb;have n0_:=Aside0.mk (below_step (by repeat (first|(with_reducible first|exact HB.out|apply below_alloc|apply pw_below_drewN|apply below_drew1)|exact HB.out)) hb);have n1_:=Aside0.mk (hbox);have n2_:=Aside0.mk ((by rw [hg];exact (below_size (by repeat (first|(with_reducible first|exact HB.out|apply below_alloc|apply pw_below_drewN|apply below_drew1)|exact HB.out))) : w.heap.size ≤ gb236));have n3_:=Aside0.mk ((by rw [hg];exact (below_size (by repeat (first|(with_reducible first|exact HB.out|apply below_alloc|apply pw_below_drewN|apply below_drew1)|exact HB.out))) : w.heap.size ≤ gb236));clear HB;have HB:=n0_;have BK236:=n1_;have GW236:=n2_;have GE236:=n3_;clear n0_ n1_ n2_ n3_;clear hb hbox hg;have hcz2_0 : w1.cell? ⟨gb236,0,none⟩ = some (.int .i64 0):=(blk_cell BK236.out 0).trans rfl;have hcz2_1 : w1.cell? ⟨gb236,1,none⟩ = some (.int .i64 0):=(blk_cell BK236.out 1).trans rfl;have hcz2_2 : w1.cell? ⟨gb236,2,none⟩ = some (.int .i64 0):=(blk_cell BK236.out 2).trans rfl;have hcz2_3 : w1.cell? ⟨gb236,3,none⟩ = some (.int .i64 0):=(blk_cell BK236.out 3).trans rfl;have hcz2_4 : w1.cell? ⟨gb236,4,none⟩ = some (.int .i64 0):=(blk_cell BK236.out 4).trans rfl;have hcz2_5 : w1.cell? ⟨gb236,5,none⟩ = some (.int .i64 0):=(blk_cell BK236.out 5).trans rfl;have hcz2_6 : w1.cell? ⟨gb236,6,none⟩ = some (.int .i64 0):=(blk_cell BK236.out 6).trans rfl;have hcz2_7 : w1.cell? ⟨gb236,7,none⟩ = some (.int .i64 0):=(blk_cell BK236.out 7).trans rfl;have hfz2_0:=blk_frozen BK236.out 0;have hfz2_1:=blk_frozen BK236.out 1;have hfz2_2:=blk_frozen BK236.out 2;have hfz2_3:=blk_frozen BK236.out 3;have hfz2_4:=blk_frozen BK236.out 4;have hfz2_5:=blk_frozen BK236.out 5;have hfz2_6:=blk_frozen BK236.out 6;have hfz2_7:=blk_frozen BK236.out 7))
 refine bodyPost_ret (results_cell_row rfl _ _ gb236 77 #[.int .i64 (-150),.int .i64 (-20),.int .i64 10,.int .i64 (-50),.int .i64 (-20),.int .i64 15,.int .i64 (-400),.int .i64 150] (0,0) _ rfl (by (with_reducible repeat (first|refine blk_drewN ?_ _|refine blk_drew ?_|refine blk_alloc ?_ _));refine blk_put (cs:=#[.int .i64 (-150),.int .i64 (-20),.int .i64 10,.int .i64 (-50),.int .i64 (-20),.int .i64 15,.int .i64 (-400),.int .i64 0]) ?_ 7 _ rfl;(with_reducible repeat (first|refine blk_drewN ?_ _|refine blk_drew ?_|refine blk_alloc ?_ _));refine blk_put (cs:=#[.int .i64 (-150),.int .i64 (-20),.int .i64 10,.int .i64 (-50),.int .i64 (-20),.int .i64 15,.int .i64 0,.int .i64 0]) ?_ 6 _ rfl;(with_reducible repeat (first|refine blk_drewN ?_ _|refine blk_drew ?_|refine blk_alloc ?_ _));refine blk_put (cs:=#[.int .i64 (-150),.int .i64 (-20),.int .i64 10,.int .i64 (-50),.int .i64 (-20),.int .i64 0,.int .i64 0,.int .i64 0]) ?_ 5 _ rfl;(with_reducible repeat (first|refine blk_drewN ?_ _|refine blk_drew ?_|refine blk_alloc ?_ _));refine blk_put (cs:=#[.int .i64 (-150),.int .i64 (-20),.int .i64 10,.int .i64 (-50),.int .i64 0,.int .i64 0,.int .i64 0,.int .i64 0]) ?_ 4 _ rfl;(with_reducible repeat (first|refine blk_drewN ?_ _|refine blk_drew ?_|refine blk_alloc ?_ _));refine blk_put (cs:=#[.int .i64 (-150),.int .i64 (-20),.int .i64 10,.int .i64 0,.int .i64 0,.int .i64 0,.int .i64 0,.int .i64 0]) ?_ 3 _ rfl;(with_reducible repeat (first|refine blk_drewN ?_ _|refine blk_drew ?_|refine blk_alloc ?_ _));refine blk_put (cs:=#[.int .i64 (-150),.int .i64 (-20),.int .i64 0,.int .i64 0,.int .i64 0,.int .i64 0,.int .i64 0,.int .i64 0]) ?_ 2 _ rfl;(with_reducible repeat (first|refine blk_drewN ?_ _|refine blk_drew ?_|refine blk_alloc ?_ _));refine blk_put (cs:=#[.int .i64 (-150),.int .i64 0,.int .i64 0,.int .i64 0,.int .i64 0,.int .i64 0,.int .i64 0,.int .i64 0]) ?_ 1 _ rfl;(with_reducible repeat (first|refine blk_drewN ?_ _|refine blk_drew ?_|refine blk_alloc ?_ _));refine blk_put (cs:=#[.int .i64 0,.int .i64 0,.int .i64 0,.int .i64 0,.int .i64 0,.int .i64 0,.int .i64 0,.int .i64 0]) ?_ 0 _ rfl;(with_reducible repeat (first|refine blk_drewN ?_ _|refine blk_drew ?_|refine blk_alloc ?_ _));exact BK236.out) Try.underlying77 rfl (by kernel_rfl)) rfl ?_
 exact ⟨by first|rfl|(simp [errW_none,errW_some] <;> rfl)|(simp [*,errW_none,errW_some] <;> rfl),by repeat (first|(with_reducible first|exact HB.out|apply below_alloc|apply pw_below_drewN|apply below_drew1|refine below_set ?_ GE236.out)|exact HB.out)⟩

/-! ### town_check: function 48 -/
def town_check.f (k : Nat) (a0_0 : Int) (l0_1 : List (S68)) (l0_2 : List Int) (a0_3 : Int) (a0_4 : Int) (a1 : Int) (a2 : Int) : Option (Int) := (town_sound.f k a0_0 l0_1 l0_2 a0_3 a0_4).bind fun t238 => (if t238 = 0 then ((town_within.f a1 11).bind fun t239 => (if t239 = true then ((town_deeds.f).bind fun t240 => ((town_within.f a2 7).bind fun t241 => (if t241 = true then (some 0) else (some 1)))) else (some 1))) else (some t238))
theorem town_check.mono : ∀ a0 a1 a2 a3 a4 a5 a6 k, LeO (town_check.f k a0 a1 a2 a3 a4 a5 a6) (town_check.f (k + 1) a0 a1 a2 a3 a4 a5 a6) := by
 intro a0 a1 a2 a3 a4 a5 a6 k
 unfold town_check.f
 repeat' first
   | (with_reducible exact town_sound.mono _ _ _ _ _ _)
   | (with_reducible exact LeO.refl _)
   | (with_reducible exact LeO.none _)
   | (with_reducible refine LeO.ite ?_ ?_)
   | (with_reducible refine LeO.bind ?_ (fun _ => ?_))
   | exact town_sound.mono _ _ _ _ _ _
   | exact LeO.none _
   | refine LeO.ite ?_ ?_
   | refine LeO.bind ?_ (fun _ => ?_)
set_option maxHeartbeats 8000000 in
set_option maxRecDepth 100000 in
theorem town_check.calls (k : Nat) (a0_0 : Int) (A0_1 : Option Addr) (c0_1 : Nat) (l0_1 : List (S68)) (A0_2 : Option Addr) (c0_2 : Nat) (l0_2 : List Int) (a0_3 : Int) (a0_4 : Int) (a1 : Int) (a2 : Int) (r : Int) (w : World) (hr0_1 : Kd.C k68 w A0_1 l0_1.length l0_1) (hc0_1 : l0_1.length ≤ c0_1) (hr0_2 : Kd.C (Kd.int .i64) w A0_2 l0_2.length l0_2) (hc0_2 : l0_2.length ≤ c0_2) (h : town_check.f k a0_0 l0_1 l0_2 a0_3 a0_4 a1 a2 = some r) :
  Calls Try.prog 48 #[.agg #[.int .i64 a0_0,.slice A0_1 l0_1.length c0_1,.slice A0_2 l0_2.length c0_2,.int .i64 a0_3,.int .i64 a0_4],.int .i64 a1,.int .i64 a2] w fun e w' => e = .returned (.int .i64 r) ∧ Below w.heap.size w w':=by
 have hu25:=Try.underlying25
 have HR0_1:=Aside0.mk hr0_1
 have HC0_1:=Aside0.mk hc0_1
 clear hr0_1 hc0_1
 have HR0_2:=Aside0.mk hr0_2
 have HC0_2:=Aside0.mk hc0_2
 clear hr0_2 hc0_2
 have HB:=Aside0.mk (Below.refl w.heap.size w)
 have H : ((town_sound.f k a0_0 l0_1 l0_2 a0_3 a0_4).bind fun t238 => (if t238 = 0 then ((town_within.f a1 11).bind fun t239 => (if t239 = true then ((town_deeds.f).bind fun t240 => ((town_within.f a2 7).bind fun t241 => (if t241 = true then (some 0) else (some 1)))) else (some 1))) else (some t238))) = some r:=h
 clear h
 replace H:=Option.bind_eq_some_iff.mp H
 obtain ⟨t238,A40,H⟩:=H
 replace H : (if t238 = 0 then ((town_within.f a1 11).bind fun t239 => (if t239 = true then ((town_deeds.f).bind fun t240 => ((town_within.f a2 7).bind fun t241 => (if t241 = true then (some 0) else (some 1)))) else (some 1))) else (some t238)) = some r:=H
 have A4:=Aside0.mk A40
 clear A40
 by_cases c5 : t238 = 0
 ·rw [if_pos c5] at H
  have c5b0 : (t238 == 0) = true:=beq_iff_eq.mpr c5
  have c5b1 : (t238 != 0) = false:=bne_eq_false_iff_eq.mpr c5
  clear c5
  replace H:=Option.bind_eq_some_iff.mp H
  obtain ⟨t239,A60,H⟩:=H
  replace H : (if t239 = true then ((town_deeds.f).bind fun t240 => ((town_within.f a2 7).bind fun t241 => (if t241 = true then (some 0) else (some 1)))) else (some 1)) = some r:=H
  have A6:=Aside0.mk A60
  clear A60
  by_cases c7 : t239 = true
  ·subst c7
   have H1 : ((town_deeds.f).bind fun t240 => ((town_within.f a2 7).bind fun t241 => (if t241 = true then (some 0) else (some 1)))) = some r:=by rw [if_pos rfl] at H;exact H
   clear H
   have H:=H1
   clear H1
   replace H:=Option.bind_eq_some_iff.mp H
   obtain ⟨t240,A80,H⟩:=H
   replace H : ((town_within.f a2 7).bind fun t241 => (if t241 = true then (some 0) else (some 1))) = some r:=H
   have A8:=Aside0.mk A80
   clear A80
   replace H:=Option.bind_eq_some_iff.mp H
   obtain ⟨t241,A90,H⟩:=H
   replace H : (if t241 = true then (some 0) else (some 1)) = some r:=H
   have A9:=Aside0.mk A90
   clear A90
   by_cases c10 : t241 = true
   ·subst c10
    have H1 : (some 0) = some r:=by rw [if_pos rfl] at H;exact H
    clear H
    have H:=H1
    clear H1
    obtain rfl:=Option.some.inj H
    go_enter Try.func48,Try.ntmps48
    go_wp2_with (first|((with_reducible refine gate_dst (N:=3) rfl ?_);refine box_event ?hg (N:=3) ?hd (cs:=#[.int .i64 a0_0,.slice A0_1 l0_1.length c0_1,.slice A0_2 l0_2.length c0_2,.int .i64 a0_3,.int .i64 a0_4]) (t:=25) ?hr ?_;(case hd => rfl);(case hg => rfl);(case hr => first|(go_simp;done)|(go_simp;rfl));intro gb237 hg w11 hbox hb;have n0_:=Aside0.mk (below_step (by repeat (first|(with_reducible first|exact HB.out|apply below_alloc|apply pw_below_drewN|apply below_drew1)|exact HB.out)) hb);have n1_:=Aside0.mk (hbox);have n2_:=Aside0.mk ((by rw [hg];exact (below_size (by repeat (first|(with_reducible first|exact HB.out|apply below_alloc|apply pw_below_drewN|apply below_drew1)|exact HB.out))) : w.heap.size ≤ gb237));have n3_:=Aside0.mk ((by rw [hg];exact (below_size (by repeat (first|(with_reducible first|exact HB.out|apply below_alloc|apply pw_below_drewN|apply below_drew1)|exact HB.out))) : w.heap.size ≤ gb237));clear HB;have HB:=n0_;have BK237:=n1_;have GW237:=n2_;have GE237:=n3_;clear n0_ n1_ n2_ n3_;clear hb hbox hg;have hcz12_0 : w11.cell? ⟨gb237,0,none⟩ = some (.int .i64 a0_0):=(blk_cell BK237.out 0).trans rfl;have hcz12_1 : w11.cell? ⟨gb237,1,none⟩ = some (.slice A0_1 l0_1.length c0_1):=(blk_cell BK237.out 1).trans rfl;have hcz12_2 : w11.cell? ⟨gb237,2,none⟩ = some (.slice A0_2 l0_2.length c0_2):=(blk_cell BK237.out 2).trans rfl;have hcz12_3 : w11.cell? ⟨gb237,3,none⟩ = some (.int .i64 a0_3):=(blk_cell BK237.out 3).trans rfl;have hcz12_4 : w11.cell? ⟨gb237,4,none⟩ = some (.int .i64 a0_4):=(blk_cell BK237.out 4).trans rfl;have hfz12_0:=blk_frozen BK237.out 0;have hfz12_1:=blk_frozen BK237.out 1;have hfz12_2:=blk_frozen BK237.out 2;have hfz12_3:=blk_frozen BK237.out 3;have hfz12_4:=blk_frozen BK237.out 4)|((with_reducible refine gate_callee (f:=42) rfl ?_);refine goesL_ (some 9) rfl rfl Try.func42 (by kernel_rfl) rfl #[.agg #[.int .i64 a0_0,.slice A0_1 l0_1.length c0_1,.slice A0_2 l0_2.length c0_2,.int .i64 a0_3,.int .i64 a0_4]] rfl (by (try simp only [List.map_toArray,List.map_cons,List.map_nil]);first|done|rfl|(simp only [List.length_drop,List.length_take];rfl)) ?_;(with_reducible refine (town_sound.calls k a0_0 _ _ l0_1 _ _ l0_2 a0_3 a0_4 t238 _ ?side1 ?side2 ?side3 ?side4 A4.out).mono ?_);(case side1 => repeat (first|exact (Kd.C_below HR0_1.out HB.out)|(with_reducible refine Kd.C_alloc ?_ _)|(with_reducible refine Kd.C_drewN ?_ _)|(with_reducible refine Kd.C_drew ?_)));(case side2 => exact HC0_1.out);(case side3 => repeat (first|exact (Kd.C_below HR0_2.out HB.out)|(with_reducible refine Kd.C_alloc ?_ _)|(with_reducible refine Kd.C_drewN ?_ _)|(with_reducible refine Kd.C_drew ?_)));(case side4 => exact HC0_2.out);rintro e w13 ⟨rfl,hb⟩;refine ⟨_,rfl,?_⟩;have n0_:=Aside0.mk (blk_below (g:=gb237) (o:=.cells #[.int .i64 a0_0,.slice A0_1 l0_1.length c0_1,.slice A0_2 l0_2.length c0_2,.int .i64 a0_3,.int .i64 a0_4] 25 (0,0)) (by (with_reducible repeat (first|refine blk_drewN ?_ _|refine blk_drew ?_|refine blk_alloc ?_ _));exact BK237.out) hb);have n1_:=Aside0.mk (below_step (by repeat (first|(with_reducible first|exact HB.out|apply below_alloc|apply pw_below_drewN|apply below_drew1|refine below_set ?_ GE237.out)|exact HB.out)) hb);clear BK237;clear HB;have BK237:=n0_;have HB:=n1_;clear n0_ n1_;(try clear hb);(try clear hb2);(try clear hk);(try clear hi))|((with_reducible refine gate_callee (f:=53) rfl ?_);refine goesL_ (some 14) rfl rfl Try.func53 (by kernel_rfl) rfl #[.int .i64 a1,.int .i64 11] rfl (by (try simp only [List.map_toArray,List.map_cons,List.map_nil]);first|done|rfl|(simp only [List.length_drop,List.length_take];rfl)) ?_;(with_reducible refine (town_within.calls a1 11 true _ A6.out).mono ?_);rintro e w' ⟨rfl,⟨nd,rfl⟩⟩;refine ⟨_,rfl,?_⟩)|(go_at_call 49;(with_reducible refine (town_deeds.calls  t240 _ A8.out).mono ?_);rintro e w14 ⟨rfl,hb⟩;have n0_:=Aside0.mk (blk_below (g:=gb237) (o:=.cells #[.int .i64 a0_0,.slice A0_1 l0_1.length c0_1,.slice A0_2 l0_2.length c0_2,.int .i64 a0_3,.int .i64 a0_4] 25 (0,0)) (by (with_reducible repeat (first|refine blk_drewN ?_ _|refine blk_drew ?_|refine blk_alloc ?_ _));exact BK237.out) hb);have n1_:=Aside0.mk (below_step (by repeat (first|(with_reducible first|exact HB.out|apply below_alloc|apply pw_below_drewN|apply below_drew1|refine below_set ?_ GE237.out)|exact HB.out)) hb);clear BK237;clear HB;have BK237:=n0_;have HB:=n1_;clear n0_ n1_;(try clear hb);(try clear hb2);(try clear hk);(try clear hi))|(go_at_call 53;(with_reducible refine (town_within.calls a2 7 true _ A9.out).mono ?_);rintro e w' ⟨rfl,⟨nd,rfl⟩⟩))
    go_ret
    exact ⟨by first|rfl|(simp [errW_none,errW_some] <;> rfl)|(simp [*,errW_none,errW_some] <;> rfl),by repeat (first|(with_reducible first|exact HB.out|apply below_alloc|apply pw_below_drewN|apply below_drew1|refine below_set ?_ GE237.out)|exact HB.out)⟩
   ·replace c10:=Bool.eq_false_iff.mpr c10
    subst c10
    have H1 : (some 1) = some r:=by rw [if_neg (show ¬ (false = true) by decide)] at H;exact H
    clear H
    have H:=H1
    clear H1
    obtain rfl:=Option.some.inj H
    go_enter Try.func48,Try.ntmps48
    go_wp2_with (first|((with_reducible refine gate_dst (N:=3) rfl ?_);refine box_event ?hg (N:=3) ?hd (cs:=#[.int .i64 a0_0,.slice A0_1 l0_1.length c0_1,.slice A0_2 l0_2.length c0_2,.int .i64 a0_3,.int .i64 a0_4]) (t:=25) ?hr ?_;(case hd => rfl);(case hg => rfl);(case hr => first|(go_simp;done)|(go_simp;rfl));intro gb237 hg w15 hbox hb;have n0_:=Aside0.mk (below_step (by repeat (first|(with_reducible first|exact HB.out|apply below_alloc|apply pw_below_drewN|apply below_drew1)|exact HB.out)) hb);have n1_:=Aside0.mk (hbox);have n2_:=Aside0.mk ((by rw [hg];exact (below_size (by repeat (first|(with_reducible first|exact HB.out|apply below_alloc|apply pw_below_drewN|apply below_drew1)|exact HB.out))) : w.heap.size ≤ gb237));have n3_:=Aside0.mk ((by rw [hg];exact (below_size (by repeat (first|(with_reducible first|exact HB.out|apply below_alloc|apply pw_below_drewN|apply below_drew1)|exact HB.out))) : w.heap.size ≤ gb237));clear HB;have HB:=n0_;have BK237:=n1_;have GW237:=n2_;have GE237:=n3_;clear n0_ n1_ n2_ n3_;clear hb hbox hg;have hcz16_0 : w15.cell? ⟨gb237,0,none⟩ = some (.int .i64 a0_0):=(blk_cell BK237.out 0).trans rfl;have hcz16_1 : w15.cell? ⟨gb237,1,none⟩ = some (.slice A0_1 l0_1.length c0_1):=(blk_cell BK237.out 1).trans rfl;have hcz16_2 : w15.cell? ⟨gb237,2,none⟩ = some (.slice A0_2 l0_2.length c0_2):=(blk_cell BK237.out 2).trans rfl;have hcz16_3 : w15.cell? ⟨gb237,3,none⟩ = some (.int .i64 a0_3):=(blk_cell BK237.out 3).trans rfl;have hcz16_4 : w15.cell? ⟨gb237,4,none⟩ = some (.int .i64 a0_4):=(blk_cell BK237.out 4).trans rfl;have hfz16_0:=blk_frozen BK237.out 0;have hfz16_1:=blk_frozen BK237.out 1;have hfz16_2:=blk_frozen BK237.out 2;have hfz16_3:=blk_frozen BK237.out 3;have hfz16_4:=blk_frozen BK237.out 4)|((with_reducible refine gate_callee (f:=42) rfl ?_);refine goesL_ (some 9) rfl rfl Try.func42 (by kernel_rfl) rfl #[.agg #[.int .i64 a0_0,.slice A0_1 l0_1.length c0_1,.slice A0_2 l0_2.length c0_2,.int .i64 a0_3,.int .i64 a0_4]] rfl (by (try simp only [List.map_toArray,List.map_cons,List.map_nil]);first|done|rfl|(simp only [List.length_drop,List.length_take];rfl)) ?_;(with_reducible refine (town_sound.calls k a0_0 _ _ l0_1 _ _ l0_2 a0_3 a0_4 t238 _ ?side1 ?side2 ?side3 ?side4 A4.out).mono ?_);(case side1 => repeat (first|exact (Kd.C_below HR0_1.out HB.out)|(with_reducible refine Kd.C_alloc ?_ _)|(with_reducible refine Kd.C_drewN ?_ _)|(with_reducible refine Kd.C_drew ?_)));(case side2 => exact HC0_1.out);(case side3 => repeat (first|exact (Kd.C_below HR0_2.out HB.out)|(with_reducible refine Kd.C_alloc ?_ _)|(with_reducible refine Kd.C_drewN ?_ _)|(with_reducible refine Kd.C_drew ?_)));(case side4 => exact HC0_2.out);rintro e w17 ⟨rfl,hb⟩;refine ⟨_,rfl,?_⟩;have n0_:=Aside0.mk (blk_below (g:=gb237) (o:=.cells #[.int .i64 a0_0,.slice A0_1 l0_1.length c0_1,.slice A0_2 l0_2.length c0_2,.int .i64 a0_3,.int .i64 a0_4] 25 (0,0)) (by (with_reducible repeat (first|refine blk_drewN ?_ _|refine blk_drew ?_|refine blk_alloc ?_ _));exact BK237.out) hb);have n1_:=Aside0.mk (below_step (by repeat (first|(with_reducible first|exact HB.out|apply below_alloc|apply pw_below_drewN|apply below_drew1|refine below_set ?_ GE237.out)|exact HB.out)) hb);clear BK237;clear HB;have BK237:=n0_;have HB:=n1_;clear n0_ n1_;(try clear hb);(try clear hb2);(try clear hk);(try clear hi))|((with_reducible refine gate_callee (f:=53) rfl ?_);refine goesL_ (some 14) rfl rfl Try.func53 (by kernel_rfl) rfl #[.int .i64 a1,.int .i64 11] rfl (by (try simp only [List.map_toArray,List.map_cons,List.map_nil]);first|done|rfl|(simp only [List.length_drop,List.length_take];rfl)) ?_;(with_reducible refine (town_within.calls a1 11 true _ A6.out).mono ?_);rintro e w' ⟨rfl,⟨nd,rfl⟩⟩;refine ⟨_,rfl,?_⟩)|(go_at_call 49;(with_reducible refine (town_deeds.calls  t240 _ A8.out).mono ?_);rintro e w18 ⟨rfl,hb⟩;have n0_:=Aside0.mk (blk_below (g:=gb237) (o:=.cells #[.int .i64 a0_0,.slice A0_1 l0_1.length c0_1,.slice A0_2 l0_2.length c0_2,.int .i64 a0_3,.int .i64 a0_4] 25 (0,0)) (by (with_reducible repeat (first|refine blk_drewN ?_ _|refine blk_drew ?_|refine blk_alloc ?_ _));exact BK237.out) hb);have n1_:=Aside0.mk (below_step (by repeat (first|(with_reducible first|exact HB.out|apply below_alloc|apply pw_below_drewN|apply below_drew1|refine below_set ?_ GE237.out)|exact HB.out)) hb);clear BK237;clear HB;have BK237:=n0_;have HB:=n1_;clear n0_ n1_;(try clear hb);(try clear hb2);(try clear hk);(try clear hi))|(go_at_call 53;(with_reducible refine (town_within.calls a2 7 false _ A9.out).mono ?_);rintro e w' ⟨rfl,⟨nd,rfl⟩⟩))
    go_ret
    exact ⟨by first|rfl|(simp [errW_none,errW_some] <;> rfl)|(simp [*,errW_none,errW_some] <;> rfl),by repeat (first|(with_reducible first|exact HB.out|apply below_alloc|apply pw_below_drewN|apply below_drew1|refine below_set ?_ GE237.out)|exact HB.out)⟩
  ·replace c7:=Bool.eq_false_iff.mpr c7
   subst c7
   have H1 : (some 1) = some r:=by rw [if_neg (show ¬ (false = true) by decide)] at H;exact H
   clear H
   have H:=H1
   clear H1
   obtain rfl:=Option.some.inj H
   go_enter Try.func48,Try.ntmps48
   go_wp2_with (first|((with_reducible refine gate_dst (N:=3) rfl ?_);refine box_event ?hg (N:=3) ?hd (cs:=#[.int .i64 a0_0,.slice A0_1 l0_1.length c0_1,.slice A0_2 l0_2.length c0_2,.int .i64 a0_3,.int .i64 a0_4]) (t:=25) ?hr ?_;(case hd => rfl);(case hg => rfl);(case hr => first|(go_simp;done)|(go_simp;rfl));intro gb237 hg w19 hbox hb;have n0_:=Aside0.mk (below_step (by repeat (first|(with_reducible first|exact HB.out|apply below_alloc|apply pw_below_drewN|apply below_drew1)|exact HB.out)) hb);have n1_:=Aside0.mk (hbox);have n2_:=Aside0.mk ((by rw [hg];exact (below_size (by repeat (first|(with_reducible first|exact HB.out|apply below_alloc|apply pw_below_drewN|apply below_drew1)|exact HB.out))) : w.heap.size ≤ gb237));have n3_:=Aside0.mk ((by rw [hg];exact (below_size (by repeat (first|(with_reducible first|exact HB.out|apply below_alloc|apply pw_below_drewN|apply below_drew1)|exact HB.out))) : w.heap.size ≤ gb237));clear HB;have HB:=n0_;have BK237:=n1_;have GW237:=n2_;have GE237:=n3_;clear n0_ n1_ n2_ n3_;clear hb hbox hg;have hcz20_0 : w19.cell? ⟨gb237,0,none⟩ = some (.int .i64 a0_0):=(blk_cell BK237.out 0).trans rfl;have hcz20_1 : w19.cell? ⟨gb237,1,none⟩ = some (.slice A0_1 l0_1.length c0_1):=(blk_cell BK237.out 1).trans rfl;have hcz20_2 : w19.cell? ⟨gb237,2,none⟩ = some (.slice A0_2 l0_2.length c0_2):=(blk_cell BK237.out 2).trans rfl;have hcz20_3 : w19.cell? ⟨gb237,3,none⟩ = some (.int .i64 a0_3):=(blk_cell BK237.out 3).trans rfl;have hcz20_4 : w19.cell? ⟨gb237,4,none⟩ = some (.int .i64 a0_4):=(blk_cell BK237.out 4).trans rfl;have hfz20_0:=blk_frozen BK237.out 0;have hfz20_1:=blk_frozen BK237.out 1;have hfz20_2:=blk_frozen BK237.out 2;have hfz20_3:=blk_frozen BK237.out 3;have hfz20_4:=blk_frozen BK237.out 4)|((with_reducible refine gate_callee (f:=42) rfl ?_);refine goesL_ (some 9) rfl rfl Try.func42 (by kernel_rfl) rfl #[.agg #[.int .i64 a0_0,.slice A0_1 l0_1.length c0_1,.slice A0_2 l0_2.length c0_2,.int .i64 a0_3,.int .i64 a0_4]] rfl (by (try simp only [List.map_toArray,List.map_cons,List.map_nil]);first|done|rfl|(simp only [List.length_drop,List.length_take];rfl)) ?_;(with_reducible refine (town_sound.calls k a0_0 _ _ l0_1 _ _ l0_2 a0_3 a0_4 t238 _ ?side1 ?side2 ?side3 ?side4 A4.out).mono ?_);(case side1 => repeat (first|exact (Kd.C_below HR0_1.out HB.out)|(with_reducible refine Kd.C_alloc ?_ _)|(with_reducible refine Kd.C_drewN ?_ _)|(with_reducible refine Kd.C_drew ?_)));(case side2 => exact HC0_1.out);(case side3 => repeat (first|exact (Kd.C_below HR0_2.out HB.out)|(with_reducible refine Kd.C_alloc ?_ _)|(with_reducible refine Kd.C_drewN ?_ _)|(with_reducible refine Kd.C_drew ?_)));(case side4 => exact HC0_2.out);rintro e w21 ⟨rfl,hb⟩;refine ⟨_,rfl,?_⟩;have n0_:=Aside0.mk (blk_below (g:=gb237) (o:=.cells #[.int .i64 a0_0,.slice A0_1 l0_1.length c0_1,.slice A0_2 l0_2.length c0_2,.int .i64 a0_3,.int .i64 a0_4] 25 (0,0)) (by (with_reducible repeat (first|refine blk_drewN ?_ _|refine blk_drew ?_|refine blk_alloc ?_ _));exact BK237.out) hb);have n1_:=Aside0.mk (below_step (by repeat (first|(with_reducible first|exact HB.out|apply below_alloc|apply pw_below_drewN|apply below_drew1|refine below_set ?_ GE237.out)|exact HB.out)) hb);clear BK237;clear HB;have BK237:=n0_;have HB:=n1_;clear n0_ n1_;(try clear hb);(try clear hb2);(try clear hk);(try clear hi))|((with_reducible refine gate_callee (f:=53) rfl ?_);refine goesL_ (some 14) rfl rfl Try.func53 (by kernel_rfl) rfl #[.int .i64 a1,.int .i64 11] rfl (by (try simp only [List.map_toArray,List.map_cons,List.map_nil]);first|done|rfl|(simp only [List.length_drop,List.length_take];rfl)) ?_;(with_reducible refine (town_within.calls a1 11 false _ A6.out).mono ?_);rintro e w' ⟨rfl,⟨nd,rfl⟩⟩;refine ⟨_,rfl,?_⟩))
   go_ret
   exact ⟨by first|rfl|(simp [errW_none,errW_some] <;> rfl)|(simp [*,errW_none,errW_some] <;> rfl),by repeat (first|(with_reducible first|exact HB.out|apply below_alloc|apply pw_below_drewN|apply below_drew1|refine below_set ?_ GE237.out)|exact HB.out)⟩
 ·rw [if_neg c5] at H
  have c5b0 : (t238 == 0) = false:=beq_eq_false_iff_ne.mpr c5
  have c5b1 : (t238 != 0) = true:=bne_iff_ne.mpr c5
  obtain rfl:=Option.some.inj H
  go_enter Try.func48,Try.ntmps48
  go_wp2_with (first|((with_reducible refine gate_dst (N:=3) rfl ?_);refine box_event ?hg (N:=3) ?hd (cs:=#[.int .i64 a0_0,.slice A0_1 l0_1.length c0_1,.slice A0_2 l0_2.length c0_2,.int .i64 a0_3,.int .i64 a0_4]) (t:=25) ?hr ?_;(case hd => rfl);(case hg => rfl);(case hr => first|(go_simp;done)|(go_simp;rfl));intro gb237 hg w22 hbox hb;have n0_:=Aside0.mk (below_step (by repeat (first|(with_reducible first|exact HB.out|apply below_alloc|apply pw_below_drewN|apply below_drew1)|exact HB.out)) hb);have n1_:=Aside0.mk (hbox);have n2_:=Aside0.mk ((by rw [hg];exact (below_size (by repeat (first|(with_reducible first|exact HB.out|apply below_alloc|apply pw_below_drewN|apply below_drew1)|exact HB.out))) : w.heap.size ≤ gb237));have n3_:=Aside0.mk ((by rw [hg];exact (below_size (by repeat (first|(with_reducible first|exact HB.out|apply below_alloc|apply pw_below_drewN|apply below_drew1)|exact HB.out))) : w.heap.size ≤ gb237));clear HB;have HB:=n0_;have BK237:=n1_;have GW237:=n2_;have GE237:=n3_;clear n0_ n1_ n2_ n3_;clear hb hbox hg;have hcz23_0 : w22.cell? ⟨gb237,0,none⟩ = some (.int .i64 a0_0):=(blk_cell BK237.out 0).trans rfl;have hcz23_1 : w22.cell? ⟨gb237,1,none⟩ = some (.slice A0_1 l0_1.length c0_1):=(blk_cell BK237.out 1).trans rfl;have hcz23_2 : w22.cell? ⟨gb237,2,none⟩ = some (.slice A0_2 l0_2.length c0_2):=(blk_cell BK237.out 2).trans rfl;have hcz23_3 : w22.cell? ⟨gb237,3,none⟩ = some (.int .i64 a0_3):=(blk_cell BK237.out 3).trans rfl;have hcz23_4 : w22.cell? ⟨gb237,4,none⟩ = some (.int .i64 a0_4):=(blk_cell BK237.out 4).trans rfl;have hfz23_0:=blk_frozen BK237.out 0;have hfz23_1:=blk_frozen BK237.out 1;have hfz23_2:=blk_frozen BK237.out 2;have hfz23_3:=blk_frozen BK237.out 3;have hfz23_4:=blk_frozen BK237.out 4)|((with_reducible refine gate_callee (f:=42) rfl ?_);refine goesL_ (some 9) rfl rfl Try.func42 (by kernel_rfl) rfl #[.agg #[.int .i64 a0_0,.slice A0_1 l0_1.length c0_1,.slice A0_2 l0_2.length c0_2,.int .i64 a0_3,.int .i64 a0_4]] rfl (by (try simp only [List.map_toArray,List.map_cons,List.map_nil]);first|done|rfl|(simp only [List.length_drop,List.length_take];rfl)) ?_;(with_reducible refine (town_sound.calls k a0_0 _ _ l0_1 _ _ l0_2 a0_3 a0_4 t238 _ ?side1 ?side2 ?side3 ?side4 A4.out).mono ?_);(case side1 => repeat (first|exact (Kd.C_below HR0_1.out HB.out)|(with_reducible refine Kd.C_alloc ?_ _)|(with_reducible refine Kd.C_drewN ?_ _)|(with_reducible refine Kd.C_drew ?_)));(case side2 => exact HC0_1.out);(case side3 => repeat (first|exact (Kd.C_below HR0_2.out HB.out)|(with_reducible refine Kd.C_alloc ?_ _)|(with_reducible refine Kd.C_drewN ?_ _)|(with_reducible refine Kd.C_drew ?_)));(case side4 => exact HC0_2.out);rintro e w24 ⟨rfl,hb⟩;refine ⟨_,rfl,?_⟩;have n0_:=Aside0.mk (blk_below (g:=gb237) (o:=.cells #[.int .i64 a0_0,.slice A0_1 l0_1.length c0_1,.slice A0_2 l0_2.length c0_2,.int .i64 a0_3,.int .i64 a0_4] 25 (0,0)) (by (with_reducible repeat (first|refine blk_drewN ?_ _|refine blk_drew ?_|refine blk_alloc ?_ _));exact BK237.out) hb);have n1_:=Aside0.mk (below_step (by repeat (first|(with_reducible first|exact HB.out|apply below_alloc|apply pw_below_drewN|apply below_drew1|refine below_set ?_ GE237.out)|exact HB.out)) hb);clear BK237;clear HB;have BK237:=n0_;have HB:=n1_;clear n0_ n1_;(try clear hb);(try clear hb2);(try clear hk);(try clear hi)))
  go_ret
  exact ⟨by first|rfl|(simp [errW_none,errW_some] <;> rfl)|(simp [*,errW_none,errW_some] <;> rfl),by repeat (first|(with_reducible first|exact HB.out|apply below_alloc|apply pw_below_drewN|apply below_drew1|refine below_set ?_ GE237.out)|exact HB.out)⟩

/-! ### town_Feel: function 21 -/
def town_Feel.f (k : Nat) (a0_0 : Int) (l0_1 : List (S68)) (l0_2 : List Int) (a0_3 : Int) (a0_4 : Int) (a1 : Int) (a2 : Int) : Option (Int × (List (S68)) × List Int × Int × Int × Int) := (town_check.f k a0_0 l0_1 l0_2 a0_3 a0_4 a1 a2).bind fun t244 => (if t244 = 0 then ((town_copied.f a0_0 l0_1 l0_2 a0_3 a0_4).bind fun bt245 => (if 0 ≤ a1 then (if a1 < (bt245.2.2.1.length : Int) then ((town_deeds.f).bind fun t255 => (if 0 ≤ a2 then (if a2 < 8 then (some (bt245.1, bt245.2.1, (bt245.2.2.1.set (a1 : Int).toNat (mx (-1000) (mn (wrap64 ((rd bt245.2.2.1 a1) + (ix77 t255 a2))) 1000))), bt245.2.2.2.1, bt245.2.2.2.2, 0)) else (none)) else (none))) else (none)) else (none))) else (some (0, ([] : List (S68)), ([] : List Int), 0, 0, t244)))
theorem town_Feel.mono : ∀ a0 a1 a2 a3 a4 a5 a6 k, LeO (town_Feel.f k a0 a1 a2 a3 a4 a5 a6) (town_Feel.f (k + 1) a0 a1 a2 a3 a4 a5 a6) := by
 intro a0 a1 a2 a3 a4 a5 a6 k
 unfold town_Feel.f
 repeat' first
   | (with_reducible exact town_check.mono _ _ _ _ _ _ _ _)
   | (with_reducible exact LeO.refl _)
   | (with_reducible exact LeO.none _)
   | (with_reducible refine LeO.ite ?_ ?_)
   | (with_reducible refine LeO.bind ?_ (fun _ => ?_))
   | exact town_check.mono _ _ _ _ _ _ _ _
   | exact LeO.none _
   | refine LeO.ite ?_ ?_
   | refine LeO.bind ?_ (fun _ => ?_)
def town_Feel.T5 : Bool × List (List Nat × List Nat) := (true, [([], []), ([0], [0]), ([], []), ([], []), ([3], [3]), ([], []), ([4, 5], [4, 5]), ([6], [6]), ([], []), ([], []), ([8, 9], [8, 9]), ([7, 10], [7, 10]), ([11], [11]), ([12], [12]), ([1, 2, 0, 1, 2, 3, 4, 5, 6, 7, 8, 9, 10, 11, 12, 13], [1, 2]), ([14, 13, 8, 0, 1, 2, 3, 4, 5, 6, 7, 8, 9, 10, 11, 12, 13], [13, 14])])
def town_Feel.B5 : List Nat := [0, 1, 0, 0, 8, 0, 56, 120, 0, 0, 768, 2040, 4088, 8184, 16383, 32767]
theorem town_Feel.tab5 : rtab .any (opsOf Try.f21 5) = town_Feel.T5 := by kernel_rfl
theorem town_Feel.bits5 : waitsOk town_Feel.T5.2 town_Feel.B5 = true := by kernel_rfl
set_option maxHeartbeats 8000000 in
set_option maxRecDepth 100000 in
theorem town_Feel.calls (k : Nat) (a0_0 : Int) (A0_1 : Option Addr) (c0_1 : Nat) (l0_1 : List (S68)) (A0_2 : Option Addr) (c0_2 : Nat) (l0_2 : List Int) (a0_3 : Int) (a0_4 : Int) (a1 : Int) (a2 : Int) (r1 : Int) (r2 : List (S68)) (r3 : List Int) (r4 : Int) (r5 : Int) (r6 : Int) (w : World) (hr0_1 : Kd.C k68 w A0_1 l0_1.length l0_1) (hc0_1 : l0_1.length ≤ c0_1) (hr0_2 : Kd.C (Kd.int .i64) w A0_2 l0_2.length l0_2) (hc0_2 : l0_2.length ≤ c0_2) (h : town_Feel.f k a0_0 l0_1 l0_2 a0_3 a0_4 a1 a2 = some (r1, r2, r3, r4, r5, r6)) :
  Calls Try.prog 21 #[.agg #[.int .i64 a0_0,.slice A0_1 l0_1.length c0_1,.slice A0_2 l0_2.length c0_2,.int .i64 a0_3,.int .i64 a0_4],.int .i64 a1,.int .i64 a2] w fun e w' => ∃ v1_ v2_ : Value,e = .returned (.tuple #[.agg #[.int .i64 r1,v1_,v2_,.int .i64 r4,.int .i64 r5],.int .i64 r6]) ∧ Kd.R k68 68 w' w.heap.size (fun _ => True) v1_ r2 ∧ Kd.R (Kd.int .i64) 3 w' w.heap.size (fun _ => True) v2_ r3 ∧ Below w.heap.size w w':=by
 have hu25:=Try.underlying25
 have hu77:=Try.underlying77
 have HR0_1:=Aside0.mk hr0_1
 have HC0_1:=Aside0.mk hc0_1
 clear hr0_1 hc0_1
 have HR0_2:=Aside0.mk hr0_2
 have HC0_2:=Aside0.mk hc0_2
 clear hr0_2 hc0_2
 have HB:=Aside0.mk (Below.refl w.heap.size w)
 have H : ((town_check.f k a0_0 l0_1 l0_2 a0_3 a0_4 a1 a2).bind fun t244 => (if t244 = 0 then ((town_copied.f a0_0 l0_1 l0_2 a0_3 a0_4).bind fun bt245 => (if 0 ≤ a1 then (if a1 < (bt245.2.2.1.length : Int) then ((town_deeds.f).bind fun t255 => (if 0 ≤ a2 then (if a2 < 8 then (some (bt245.1,bt245.2.1,(bt245.2.2.1.set (a1 : Int).toNat (mx (-1000) (mn (wrap64 ((rd bt245.2.2.1 a1) + (ix77 t255 a2))) 1000))),bt245.2.2.2.1,bt245.2.2.2.2,0)) else (none)) else (none))) else (none)) else (none))) else (some (0,([] : List (S68)),([] : List Int),0,0,t244)))) = some (r1,r2,r3,r4,r5,r6):=h
 clear h
 replace H:=Option.bind_eq_some_iff.mp H
 obtain ⟨t244,A40,H⟩:=H
 replace H : (if t244 = 0 then ((town_copied.f a0_0 l0_1 l0_2 a0_3 a0_4).bind fun bt245 => (if 0 ≤ a1 then (if a1 < (bt245.2.2.1.length : Int) then ((town_deeds.f).bind fun t255 => (if 0 ≤ a2 then (if a2 < 8 then (some (bt245.1,bt245.2.1,(bt245.2.2.1.set (a1 : Int).toNat (mx (-1000) (mn (wrap64 ((rd bt245.2.2.1 a1) + (ix77 t255 a2))) 1000))),bt245.2.2.2.1,bt245.2.2.2.2,0)) else (none)) else (none))) else (none)) else (none))) else (some (0,([] : List (S68)),([] : List Int),0,0,t244))) = some (r1,r2,r3,r4,r5,r6):=H
 have A4:=Aside0.mk A40
 clear A40
 by_cases c5 : t244 = 0
 ·rw [if_pos c5] at H
  have c5b0 : (t244 == 0) = true:=beq_iff_eq.mpr c5
  have c5b1 : (t244 != 0) = false:=bne_eq_false_iff_eq.mpr c5
  clear c5
  replace H:=Option.bind_eq_some_iff.mp H
  obtain ⟨⟨t245,t246,t249,t252,t253⟩,A60,H⟩:=H
  replace H : (if 0 ≤ a1 then (if a1 < (t249.length : Int) then ((town_deeds.f).bind fun t255 => (if 0 ≤ a2 then (if a2 < 8 then (some (t245,t246,(t249.set (a1 : Int).toNat (mx (-1000) (mn (wrap64 ((rd t249 a1) + (ix77 t255 a2))) 1000))),t252,t253,0)) else (none)) else (none))) else (none)) else (none)) = some (r1,r2,r3,r4,r5,r6):=H
  have A6:=Aside0.mk A60
  clear A60
  by_cases c7 : 0 ≤ a1
  ·rw [if_pos c7] at H
   have c7b0 : decide (0 ≤ a1) = true:=decide_eq_true c7
   clear c7
   by_cases c8 : a1 < (t249.length : Int)
   ·rw [if_pos c8] at H
    have c8b0 : decide (a1 < (t249.length : Int)) = true:=decide_eq_true c8
    clear c8
    replace H:=Option.bind_eq_some_iff.mp H
    obtain ⟨t255,A90,H⟩:=H
    replace H : (if 0 ≤ a2 then (if a2 < 8 then (some (t245,t246,(t249.set (a1 : Int).toNat (mx (-1000) (mn (wrap64 ((rd t249 a1) + (ix77 t255 a2))) 1000))),t252,t253,0)) else (none)) else (none)) = some (r1,r2,r3,r4,r5,r6):=H
    have A9:=Aside0.mk A90
    clear A90
    by_cases c10 : 0 ≤ a2
    ·rw [if_pos c10] at H
     have c10b0 : decide (0 ≤ a2) = true:=decide_eq_true c10
     clear c10
     by_cases c11 : a2 < 8
     ·rw [if_pos c11] at H
      have c11b0 : decide (a2 < 8) = true:=decide_eq_true c11
      clear c11
      have hix12:=fun (W_ : World) => (ix77_run t255.f0 t255.f1 t255.f2 t255.f3 t255.f4 t255.f5 t255.f6 t255.f7 a2 (of_decide_eq_true (by first|(with_reducible assumption)|assumption)) (of_decide_eq_true (by first|(with_reducible assumption)|assumption)) W_ : (Instr.index 77 (.agg #[.int .i64 t255.f0,.int .i64 t255.f1,.int .i64 t255.f2,.int .i64 t255.f3,.int .i64 t255.f4,.int .i64 t255.f5,.int .i64 t255.f6,.int .i64 t255.f7]) (.int .i64 a2)).run Try.prog W_ = .ok (.int .i64 (ix77 t255 a2)) W_)
      obtain ⟨ji13,hji13⟩ : ∃ j_ : Int,(mn (wrap64 ((rd t249 a1) + (ix77 t255 a2))) 1000) = j_:=⟨_,rfl⟩
      replace H : (some (t245,t246,(t249.set (a1 : Int).toNat (mx (-1000) (ji13))),t252,t253,0)) = some (r1,r2,r3,r4,r5,r6):=by first|(rw [hji13] at H;exact H)|(simp only [hji13] at H ⊢;exact H)
      (try rw [hji13] at A4)
      (try rw [hji13] at A6)
      (try rw [hji13] at A9)
      (try (have hji13h : ji13 ≤ 1000:=by (rw [← hji13];unfold mn;(repeat' split) <;> omega)))
      (try (have hji13g : ji13 ≤ 64:=by omega))
      have hji13_ : (if 1000 < (wrap64 ((rd t249 a1) + (ix77 t255 a2))) then 1000 else (wrap64 ((rd t249 a1) + (ix77 t255 a2)))) = ji13:=hji13
      obtain ⟨ji14,hji14⟩ : ∃ j_ : Int,(mx (-1000) (ji13)) = j_:=⟨_,rfl⟩
      replace H : (some (t245,t246,(t249.set (a1 : Int).toNat (ji14)),t252,t253,0)) = some (r1,r2,r3,r4,r5,r6):=by first|(rw [hji14] at H;exact H)|(simp only [hji14] at H ⊢;exact H)
      (try rw [hji14] at A4)
      (try rw [hji14] at A6)
      (try rw [hji14] at A9)
      have hji14_ : (if (-1000) < (ji13) then (ji13) else (-1000)) = ji14:=hji14
      obtain ⟨y256,hy256⟩ : ∃ y_ : List Int,y_ = (t249.set (a1 : Int).toNat (ji14)):=⟨_,rfl⟩
      replace H : (some (t245,t246,y256,t252,t253,0)) = some (r1,r2,r3,r4,r5,r6):=by first|(rw [hy256];with_reducible exact H)|(have H2_:=(Option.bind_some _ _).symm.trans H;rw [hy256];with_reducible exact H2_)|(have H2_:=(Option.bind_some _ _).symm.trans H;with_reducible exact H2_)|with_reducible exact H|(rw [hy256];exact H)|exact H
      have Ny256:=Aside0.mk hy256
      clear hy256
      simp only [Option.some.injEq,Prod.mk.injEq] at H
      obtain ⟨rfl,rfl,rfl,rfl,rfl,rfl⟩:=H
      go_enter Try.func21,Try.ntmps21
      try go_wp2_with (first|((with_reducible refine gate_dst (N:=3) rfl ?_);refine box_event ?hg (N:=3) ?hd (cs:=#[.int .i64 a0_0,.slice A0_1 l0_1.length c0_1,.slice A0_2 l0_2.length c0_2,.int .i64 a0_3,.int .i64 a0_4]) (t:=25) ?hr ?_;(case hd => rfl);(case hg => rfl);(case hr => first|(go_simp;done)|(go_simp;rfl));intro gb242 hg w16 hbox hb;have n0_:=Aside0.mk (below_step (by repeat (first|(with_reducible first|exact HB.out|apply below_alloc|apply pw_below_drewN|apply below_drew1)|exact HB.out)) hb);have n1_:=Aside0.mk (hbox);have n2_:=Aside0.mk ((by rw [hg];exact (below_size (by repeat (first|(with_reducible first|exact HB.out|apply below_alloc|apply pw_below_drewN|apply below_drew1)|exact HB.out))) : w.heap.size ≤ gb242));have n3_:=Aside0.mk ((by rw [hg];exact (below_size (by repeat (first|(with_reducible first|exact HB.out|apply below_alloc|apply pw_below_drewN|apply below_drew1)|exact HB.out))) : w.heap.size ≤ gb242));clear HB;have HB:=n0_;have BK242:=n1_;have GW242:=n2_;have GE242:=n3_;clear n0_ n1_ n2_ n3_;clear hb hbox hg)|((with_reducible refine gate_dst (N:=6) rfl ?_);refine box_event ?hg (N:=6) ?hd (cs:=#[.int .i64 0,.slice none 0 0,.slice none 0 0,.int .i64 0,.int .i64 0]) (t:=25) ?hr ?_;(case hd => rfl);(case hg => rfl);(case hr => first|(go_simp;done)|(go_simp;rfl));intro gb243 hg w17 hbox hb;have n0_:=Aside0.mk (blk_below (g:=gb242) (o:=.cells #[.int .i64 a0_0,.slice A0_1 l0_1.length c0_1,.slice A0_2 l0_2.length c0_2,.int .i64 a0_3,.int .i64 a0_4] 25 (0,0)) (by (with_reducible repeat (first|refine blk_drewN ?_ _|refine blk_drew ?_|refine blk_alloc ?_ _));exact BK242.out) hb);have n1_:=Aside0.mk (below_step (by repeat (first|(with_reducible first|exact HB.out|apply below_alloc|apply pw_below_drewN|apply below_drew1|refine below_set ?_ GE242.out)|exact HB.out)) hb);have n2_:=Aside0.mk (hbox);have n3_:=Aside0.mk ((by rw [hg];exact (below_size (by repeat (first|(with_reducible first|exact HB.out|apply below_alloc|apply pw_below_drewN|apply below_drew1|refine below_set ?_ GE242.out)|exact HB.out))) : w.heap.size ≤ gb243));have n4_:=Aside0.mk ((by rw [hg];exact (below_size (by repeat (first|(with_reducible first|exact HB.out|apply below_alloc|apply pw_below_drewN|apply below_drew1|refine below_set ?_ GE242.out)|exact HB.out))) : w.heap.size ≤ gb243));have n5_:=Aside0.mk ((by rw [hg];exact Nat.ne_of_lt (blk_lt (g:=gb242) (o:=.cells #[.int .i64 a0_0,.slice A0_1 l0_1.length c0_1,.slice A0_2 l0_2.length c0_2,.int .i64 a0_3,.int .i64 a0_4] 25 (0,0)) (by (with_reducible repeat (first|refine blk_drewN ?_ _|refine blk_drew ?_|refine blk_alloc ?_ _));exact BK242.out)) : gb242 ≠ gb243));have n6_:=Aside0.mk ((by rw [hg];exact Nat.ne_of_gt (blk_lt (g:=gb242) (o:=.cells #[.int .i64 a0_0,.slice A0_1 l0_1.length c0_1,.slice A0_2 l0_2.length c0_2,.int .i64 a0_3,.int .i64 a0_4] 25 (0,0)) (by (with_reducible repeat (first|refine blk_drewN ?_ _|refine blk_drew ?_|refine blk_alloc ?_ _));exact BK242.out)) : gb243 ≠ gb242));clear BK242;clear HB;have BK242:=n0_;have HB:=n1_;have BK243:=n2_;have GW243:=n3_;have GE243:=n4_;have NB242_243:=n5_;have NB243_242:=n6_;clear n0_ n1_ n2_ n3_ n4_ n5_ n6_;clear hb hbox hg;have hnb18:=NB242_243.out;have hnc18:=NB243_242.out;have hcz19_0 : w17.cell? ⟨gb242,0,none⟩ = some (.int .i64 a0_0):=(blk_cell BK242.out 0).trans rfl;have hcz19_1 : w17.cell? ⟨gb242,1,none⟩ = some (.slice A0_1 l0_1.length c0_1):=(blk_cell BK242.out 1).trans rfl;have hcz19_2 : w17.cell? ⟨gb242,2,none⟩ = some (.slice A0_2 l0_2.length c0_2):=(blk_cell BK242.out 2).trans rfl;have hcz19_3 : w17.cell? ⟨gb242,3,none⟩ = some (.int .i64 a0_3):=(blk_cell BK242.out 3).trans rfl;have hcz19_4 : w17.cell? ⟨gb242,4,none⟩ = some (.int .i64 a0_4):=(blk_cell BK242.out 4).trans rfl;have hfz19_0:=blk_frozen BK242.out 0;have hfz19_1:=blk_frozen BK242.out 1;have hfz19_2:=blk_frozen BK242.out 2;have hfz19_3:=blk_frozen BK242.out 3;have hfz19_4:=blk_frozen BK242.out 4)|((with_reducible refine gate_callee (f:=48) rfl ?_);refine goesL_ (some 12) rfl rfl Try.func48 (by kernel_rfl) rfl #[.agg #[.int .i64 a0_0,.slice A0_1 l0_1.length c0_1,.slice A0_2 l0_2.length c0_2,.int .i64 a0_3,.int .i64 a0_4],.int .i64 a1,.int .i64 a2] rfl (by (try simp only [List.map_toArray,List.map_cons,List.map_nil]);first|done|rfl|(simp only [List.length_drop,List.length_take];rfl)) ?_;(with_reducible refine (town_check.calls k a0_0 _ _ l0_1 _ _ l0_2 a0_3 a0_4 a1 a2 t244 _ ?side1 ?side2 ?side3 ?side4 A4.out).mono ?_);(case side1 => repeat (first|exact (Kd.C_below HR0_1.out HB.out)|(with_reducible refine Kd.C_alloc ?_ _)|(with_reducible refine Kd.C_drewN ?_ _)|(with_reducible refine Kd.C_drew ?_)));(case side2 => exact HC0_1.out);(case side3 => repeat (first|exact (Kd.C_below HR0_2.out HB.out)|(with_reducible refine Kd.C_alloc ?_ _)|(with_reducible refine Kd.C_drewN ?_ _)|(with_reducible refine Kd.C_drew ?_)));(case side4 => exact HC0_2.out);rintro e w20 ⟨rfl,hb⟩;refine ⟨_,rfl,?_⟩;have n0_:=Aside0.mk (blk_below (g:=gb242) (o:=.cells #[.int .i64 a0_0,.slice A0_1 l0_1.length c0_1,.slice A0_2 l0_2.length c0_2,.int .i64 a0_3,.int .i64 a0_4] 25 (0,0)) (by (with_reducible repeat (first|refine blk_drewN ?_ _|refine blk_drew ?_|refine blk_alloc ?_ _));exact BK242.out) hb);have n1_:=Aside0.mk (blk_below (g:=gb243) (o:=.cells #[.int .i64 0,.slice none 0 0,.slice none 0 0,.int .i64 0,.int .i64 0] 25 (0,0)) (by (with_reducible repeat (first|refine blk_drewN ?_ _|refine blk_drew ?_|refine blk_alloc ?_ _));exact BK243.out) hb);have n2_:=Aside0.mk (below_step (by repeat (first|(with_reducible first|exact HB.out|apply below_alloc|apply pw_below_drewN|apply below_drew1|refine below_set ?_ GE242.out|refine below_set ?_ GE243.out)|exact HB.out)) hb);clear BK242;clear BK243;clear HB;have BK242:=n0_;have BK243:=n1_;have HB:=n2_;clear n0_ n1_ n2_;(try clear hb);(try clear hb2);(try clear hk);(try clear hi);have hcz21_0 : w20.cell? ⟨gb242,0,none⟩ = some (.int .i64 a0_0):=(blk_cell BK242.out 0).trans rfl;have hcz21_1 : w20.cell? ⟨gb242,1,none⟩ = some (.slice A0_1 l0_1.length c0_1):=(blk_cell BK242.out 1).trans rfl;have hcz21_2 : w20.cell? ⟨gb242,2,none⟩ = some (.slice A0_2 l0_2.length c0_2):=(blk_cell BK242.out 2).trans rfl;have hcz21_3 : w20.cell? ⟨gb242,3,none⟩ = some (.int .i64 a0_3):=(blk_cell BK242.out 3).trans rfl;have hcz21_4 : w20.cell? ⟨gb242,4,none⟩ = some (.int .i64 a0_4):=(blk_cell BK242.out 4).trans rfl;have hfz21_0:=blk_frozen BK242.out 0;have hfz21_1:=blk_frozen BK242.out 1;have hfz21_2:=blk_frozen BK242.out 2;have hfz21_3:=blk_frozen BK242.out 3;have hfz21_4:=blk_frozen BK242.out 4)|((with_reducible refine gate_callee (f:=43) rfl ?_);refine goesL_ (some 18) rfl rfl Try.func43 (by kernel_rfl) rfl #[.agg #[.int .i64 a0_0,.slice A0_1 l0_1.length c0_1,.slice A0_2 l0_2.length c0_2,.int .i64 a0_3,.int .i64 a0_4]] rfl (by (try simp only [List.map_toArray,List.map_cons,List.map_nil]);first|done|rfl|(simp only [List.length_drop,List.length_take];rfl)) ?_;(with_reducible refine (town_copied.calls a0_0 _ _ l0_1 _ _ l0_2 a0_3 a0_4 t245 t246 t249 t252 t253 _ ?side1 ?side2 ?side3 ?side4 A6.out).mono ?_);(case side1 => repeat (first|exact (Kd.C_below HR0_1.out HB.out)|(with_reducible refine Kd.C_alloc ?_ _)|(with_reducible refine Kd.C_drewN ?_ _)|(with_reducible refine Kd.C_drew ?_)));(case side2 => exact HC0_1.out);(case side3 => repeat (first|exact (Kd.C_below HR0_2.out HB.out)|(with_reducible refine Kd.C_alloc ?_ _)|(with_reducible refine Kd.C_drewN ?_ _)|(with_reducible refine Kd.C_drew ?_)));(case side4 => exact HC0_2.out);rintro e w22 ⟨v247,v250,rfl,ho0,ho1,hb⟩;refine ⟨_,rfl,?_⟩;have n0_:=Aside0.mk (Kd.R_lower ho0 (below_size (by repeat (first|(with_reducible first|exact HB.out|apply below_alloc|apply pw_below_drewN|apply below_drew1|refine below_set ?_ GE242.out|refine below_set ?_ GE243.out)|exact HB.out))));have n1_:=Aside0.mk (Kd.R_lower ho1 (below_size (by repeat (first|(with_reducible first|exact HB.out|apply below_alloc|apply pw_below_drewN|apply below_drew1|refine below_set ?_ GE242.out|refine below_set ?_ GE243.out)|exact HB.out))));have n2_:=Aside0.mk (blk_below (g:=gb242) (o:=.cells #[.int .i64 a0_0,.slice A0_1 l0_1.length c0_1,.slice A0_2 l0_2.length c0_2,.int .i64 a0_3,.int .i64 a0_4] 25 (0,0)) (by (with_reducible repeat (first|refine blk_drewN ?_ _|refine blk_drew ?_|refine blk_alloc ?_ _));exact BK242.out) hb);have n3_:=Aside0.mk (blk_below (g:=gb243) (o:=.cells #[.int .i64 0,.slice none 0 0,.slice none 0 0,.int .i64 0,.int .i64 0] 25 (0,0)) (by (with_reducible repeat (first|refine blk_drewN ?_ _|refine blk_drew ?_|refine blk_alloc ?_ _));exact BK243.out) hb);have n4_:=Aside0.mk (below_step (by repeat (first|(with_reducible first|exact HB.out|apply below_alloc|apply pw_below_drewN|apply below_drew1|refine below_set ?_ GE242.out|refine below_set ?_ GE243.out)|exact HB.out)) hb);clear BK242;clear BK243;clear HB;have HO248:=n0_;have HO251:=n1_;have BK242:=n2_;have BK243:=n3_;have HB:=n4_;clear n0_ n1_ n2_ n3_ n4_;(try clear hb);(try clear hb2);(try clear hk);(try clear hi);(try clear ho0);(try clear ho1);have hcz23_0 : w22.cell? ⟨gb242,0,none⟩ = some (.int .i64 a0_0):=(blk_cell BK242.out 0).trans rfl;have hcz23_1 : w22.cell? ⟨gb242,1,none⟩ = some (.slice A0_1 l0_1.length c0_1):=(blk_cell BK242.out 1).trans rfl;have hcz23_2 : w22.cell? ⟨gb242,2,none⟩ = some (.slice A0_2 l0_2.length c0_2):=(blk_cell BK242.out 2).trans rfl;have hcz23_3 : w22.cell? ⟨gb242,3,none⟩ = some (.int .i64 a0_3):=(blk_cell BK242.out 3).trans rfl;have hcz23_4 : w22.cell? ⟨gb242,4,none⟩ = some (.int .i64 a0_4):=(blk_cell BK242.out 4).trans rfl;have hfz23_0:=blk_frozen BK242.out 0;have hfz23_1:=blk_frozen BK242.out 1;have hfz23_2:=blk_frozen BK242.out 2;have hfz23_3:=blk_frozen BK242.out 3;have hfz23_4:=blk_frozen BK242.out 4;obtain ⟨Ao24,co24,eo24⟩:=Kd.R_slice HO248.out;subst eo24;obtain ⟨Ao25,co25,eo25⟩:=Kd.R_slice HO251.out;subst eo25))
      have n0_ : Aside0 (Kd.R k68 68 (((((w22.setCell ⟨gb242,0,none⟩ (.int .i64 t245)).setCell ⟨gb242,1,none⟩ (.slice Ao24 t246.length co24)).setCell ⟨gb242,2,none⟩ (.slice Ao25 t249.length co25)).setCell ⟨gb242,3,none⟩ (.int .i64 t252)).setCell ⟨gb242,4,none⟩ (.int .i64 t253)) w.heap.size (fun _ => True) (.slice Ao24 t246.length co24) t246):=⟨by (with_reducible repeat (first|apply Kd.R_alloc|apply Kd.R_drewN|apply Kd.R_drew));exact Kd.R_mono (Kd.R_far (p:=⟨gb242,4,none⟩) (Kd.R_far (p:=⟨gb242,3,none⟩) (Kd.R_far (p:=⟨gb242,2,none⟩) (Kd.R_far (p:=⟨gb242,1,none⟩) (Kd.R_far (p:=⟨gb242,0,none⟩) (Kd.R_types HO248.out BK242.out (by decide)) (fun _ hk => hk.2) (.int .i64 t245)) (fun _ hk => hk.2) (.slice Ao24 t246.length co24)) (fun _ hk => hk.2) (.slice Ao25 t249.length co25)) (fun _ hk => hk.2) (.int .i64 t252)) (fun _ hk => hk.2) (.int .i64 t253)) (fun _ hk => trivial)⟩
      have n1_ : Aside0 (Kd.R (Kd.int .i64) 3 (((((w22.setCell ⟨gb242,0,none⟩ (.int .i64 t245)).setCell ⟨gb242,1,none⟩ (.slice Ao24 t246.length co24)).setCell ⟨gb242,2,none⟩ (.slice Ao25 t249.length co25)).setCell ⟨gb242,3,none⟩ (.int .i64 t252)).setCell ⟨gb242,4,none⟩ (.int .i64 t253)) w.heap.size (fun _ => True) (.slice Ao25 t249.length co25) t249):=⟨by (with_reducible repeat (first|apply Kd.R_alloc|apply Kd.R_drewN|apply Kd.R_drew));exact Kd.R_mono (Kd.R_far (p:=⟨gb242,4,none⟩) (Kd.R_far (p:=⟨gb242,3,none⟩) (Kd.R_far (p:=⟨gb242,2,none⟩) (Kd.R_far (p:=⟨gb242,1,none⟩) (Kd.R_far (p:=⟨gb242,0,none⟩) (Kd.R_types HO251.out BK242.out (by decide)) (fun _ hk => hk.2) (.int .i64 t245)) (fun _ hk => hk.2) (.slice Ao24 t246.length co24)) (fun _ hk => hk.2) (.slice Ao25 t249.length co25)) (fun _ hk => hk.2) (.int .i64 t252)) (fun _ hk => hk.2) (.int .i64 t253)) (fun _ hk => trivial)⟩
      have n2_ : Aside0 ((((((w22.setCell ⟨gb242,0,none⟩ (.int .i64 t245)).setCell ⟨gb242,1,none⟩ (.slice Ao24 t246.length co24)).setCell ⟨gb242,2,none⟩ (.slice Ao25 t249.length co25)).setCell ⟨gb242,3,none⟩ (.int .i64 t252)).setCell ⟨gb242,4,none⟩ (.int .i64 t253)).heap[gb242]? = some (.cells #[.int .i64 t245,.slice Ao24 t246.length co24,.slice Ao25 t249.length co25,.int .i64 t252,.int .i64 t253] 25 (0,0))):=⟨by (with_reducible repeat (first|refine blk_drewN ?_ _|refine blk_drew ?_|refine blk_alloc ?_ _));refine blk_put (cs:=#[.int .i64 t245,.slice Ao24 t246.length co24,.slice Ao25 t249.length co25,.int .i64 t252,.int .i64 a0_4]) ?_ 4 _ rfl;(with_reducible repeat (first|refine blk_drewN ?_ _|refine blk_drew ?_|refine blk_alloc ?_ _));refine blk_put (cs:=#[.int .i64 t245,.slice Ao24 t246.length co24,.slice Ao25 t249.length co25,.int .i64 a0_3,.int .i64 a0_4]) ?_ 3 _ rfl;(with_reducible repeat (first|refine blk_drewN ?_ _|refine blk_drew ?_|refine blk_alloc ?_ _));refine blk_put (cs:=#[.int .i64 t245,.slice Ao24 t246.length co24,.slice A0_2 l0_2.length c0_2,.int .i64 a0_3,.int .i64 a0_4]) ?_ 2 _ rfl;(with_reducible repeat (first|refine blk_drewN ?_ _|refine blk_drew ?_|refine blk_alloc ?_ _));refine blk_put (cs:=#[.int .i64 t245,.slice A0_1 l0_1.length c0_1,.slice A0_2 l0_2.length c0_2,.int .i64 a0_3,.int .i64 a0_4]) ?_ 1 _ rfl;(with_reducible repeat (first|refine blk_drewN ?_ _|refine blk_drew ?_|refine blk_alloc ?_ _));refine blk_put (cs:=#[.int .i64 a0_0,.slice A0_1 l0_1.length c0_1,.slice A0_2 l0_2.length c0_2,.int .i64 a0_3,.int .i64 a0_4]) ?_ 0 _ rfl;(with_reducible repeat (first|refine blk_drewN ?_ _|refine blk_drew ?_|refine blk_alloc ?_ _));exact BK242.out⟩
      have n3_ : Aside0 ((((((w22.setCell ⟨gb242,0,none⟩ (.int .i64 t245)).setCell ⟨gb242,1,none⟩ (.slice Ao24 t246.length co24)).setCell ⟨gb242,2,none⟩ (.slice Ao25 t249.length co25)).setCell ⟨gb242,3,none⟩ (.int .i64 t252)).setCell ⟨gb242,4,none⟩ (.int .i64 t253)).heap[gb243]? = some (.cells #[.int .i64 0,.slice none 0 0,.slice none 0 0,.int .i64 0,.int .i64 0] 25 (0,0))):=⟨by (with_reducible repeat (first|refine blk_drewN ?_ _|refine blk_drew ?_|refine blk_alloc ?_ _));refine blk_far ?_ NB243_242.out _;(with_reducible repeat (first|refine blk_drewN ?_ _|refine blk_drew ?_|refine blk_alloc ?_ _));refine blk_far ?_ NB243_242.out _;(with_reducible repeat (first|refine blk_drewN ?_ _|refine blk_drew ?_|refine blk_alloc ?_ _));refine blk_far ?_ NB243_242.out _;(with_reducible repeat (first|refine blk_drewN ?_ _|refine blk_drew ?_|refine blk_alloc ?_ _));refine blk_far ?_ NB243_242.out _;(with_reducible repeat (first|refine blk_drewN ?_ _|refine blk_drew ?_|refine blk_alloc ?_ _));refine blk_far ?_ NB243_242.out _;(with_reducible repeat (first|refine blk_drewN ?_ _|refine blk_drew ?_|refine blk_alloc ?_ _));exact BK243.out⟩
      have n4_ : Aside0 (Below w.heap.size w (((((w22.setCell ⟨gb242,0,none⟩ (.int .i64 t245)).setCell ⟨gb242,1,none⟩ (.slice Ao24 t246.length co24)).setCell ⟨gb242,2,none⟩ (.slice Ao25 t249.length co25)).setCell ⟨gb242,3,none⟩ (.int .i64 t252)).setCell ⟨gb242,4,none⟩ (.int .i64 t253))):=⟨by repeat (first|(with_reducible first|exact HB.out|apply below_alloc|apply pw_below_drewN|apply below_drew1|refine below_set ?_ GE242.out|refine below_set ?_ GE243.out)|exact HB.out)⟩
      (try clear HO248)
      (try clear HO251)
      (try clear BK242)
      (try clear BK243)
      (try clear HB)
      generalize (((((w22.setCell ⟨gb242,0,none⟩ (.int .i64 t245)).setCell ⟨gb242,1,none⟩ (.slice Ao24 t246.length co24)).setCell ⟨gb242,2,none⟩ (.slice Ao25 t249.length co25)).setCell ⟨gb242,3,none⟩ (.int .i64 t252)).setCell ⟨gb242,4,none⟩ (.int .i64 t253)) = w26 at n0_ n1_ n2_ n3_ n4_ ⊢
      have HO248:=n0_
      have HO251:=n1_
      have BK242:=n2_
      have BK243:=n3_
      have HB:=n4_
      clear n0_ n1_ n2_ n3_ n4_
      have n0_:=Aside0.mk (Kd.R_drew HO248.out)
      have n1_:=Aside0.mk (Kd.R_drew HO251.out)
      have n2_:=Aside0.mk (blk_drew BK242.out)
      have n3_:=Aside0.mk (blk_drew BK243.out)
      have n4_:=Aside0.mk (below_drew1 HB.out)
      clear HO248
      clear HO251
      clear BK242
      clear BK243
      clear HB
      have HO248:=n0_
      have HO251:=n1_
      have BK242:=n2_
      have BK243:=n3_
      have HB:=n4_
      clear n0_ n1_ n2_ n3_ n4_
      have p254 : 0 ≤ (a1 : Int):=of_decide_eq_true (by first|(with_reducible assumption)|assumption)
      have q254 : a1 < (t249.length : Int):=of_decide_eq_true (by first|(with_reducible assumption)|assumption)
      obtain ⟨ad254,e254,hx254_0⟩:=Kd.at_int (Kd.R_reads' HO251.out).2.2 a1 p254 q254
      cases e254
      replace p254:=eq_true p254
      replace q254:=eq_true q254
      refine start_ (n:=16) (S:=fun w' => w'.cell? ⟨gb242,0,none⟩ = some (.int .i64 t245) ∧ w'.cell? ⟨gb242,1,none⟩ = some (.slice Ao24 t246.length co24) ∧ w'.cell? ⟨gb242,2,none⟩ = some (.slice (some ad254) t249.length co25) ∧ w'.cell? ⟨gb242,3,none⟩ = some (.int .i64 t252) ∧ w'.cell? ⟨gb242,4,none⟩ = some (.int .i64 t253) ∧ w'.cell? (ad254.add (a1).toNat) = some (.int .i64 (rd t249 a1))) (ds:=[15]) #[false,false,false,false,false,false,false,false,false,false,false,false,false,false,false,false] (by kernel_rfl) rfl rfl ⟨(blk_cell BK242.out 0).trans rfl,(blk_cell BK242.out 1).trans rfl,(blk_cell BK242.out 2).trans rfl,(blk_cell BK242.out 3).trans rfl,(blk_cell BK242.out 4).trans rfl,hx254_0⟩ (fun hHeld => ?_);refine with_tabW town_Feel.tab5 town_Feel.bits5 (fun HT_ HW_ => ?_)
      generalize w26.drew = w27 at HO248 HO251 BK242 BK243 HB hx254_0 hHeld ⊢
      refine pure_ (i:=0) (N:=some 19) (v:=?_) (a':=?_) #[true,false,false,false,false,false,false,false,false,false,false,false,false,false,false,false] rfl rfl (any_of HT_.out (by kernel_rfl)) (fun _ _ _ h => h) (Or.inl ⟨by rfl,?_⟩) ?_ ?_
      rotate_left
      ·intro w'
       go_simp
       with_reducible rfl
      rotate_left
      ·simp only [Act.put,List.setIfInBounds_toArray,List.set_cons_zero,List.set_cons_succ,i64_w,i32_w]
       rfl
      refine pure_ (i:=2) (N:=some 21) (v:=?_) (a':=?_) #[true,false,true,false,false,false,false,false,false,false,false,false,false,false,false,false] rfl rfl (any_of HT_.out (by kernel_rfl)) (fun _ _ _ h => h) (Or.inl ⟨by rfl,?_⟩) ?_ ?_
      rotate_left
      ·intro w'
       go_simp
       with_reducible rfl
      rotate_left
      ·simp only [Act.put,List.setIfInBounds_toArray,List.set_cons_zero,List.set_cons_succ,i64_w,i32_w]
       rfl
      refine pure_ (i:=3) (N:=some 22) (v:=?_) (a':=?_) #[true,false,true,true,false,false,false,false,false,false,false,false,false,false,false,false] rfl rfl (any_of HT_.out (by kernel_rfl)) (fun _ _ _ h => h) (Or.inl ⟨by rfl,?_⟩) ?_ ?_
      rotate_left
      ·intro w'
       go_simp
       with_reducible rfl
      rotate_left
      ·simp only [Act.put,List.setIfInBounds_toArray,List.set_cons_zero,List.set_cons_succ,i64_w,i32_w]
       rfl
      refine pure_ (i:=5) (N:=some 24) (v:=?_) (a':=?_) #[true,false,true,true,false,true,false,false,false,false,false,false,false,false,false,false] rfl rfl (any_of HT_.out (by kernel_rfl)) (fun _ _ _ h => h) (Or.inl ⟨by rfl,?_⟩) ?_ ?_
      rotate_left
      ·intro w'
       go_simp
       with_reducible rfl
      rotate_left
      ·simp only [Act.put,List.setIfInBounds_toArray,List.set_cons_zero,List.set_cons_succ,i64_w,i32_w]
       rfl
      refine pure_ (i:=9) (N:=some 28) (v:=?_) (a':=?_) #[true,false,true,true,false,true,false,false,false,true,false,false,false,false,false,false] rfl rfl (any_of HT_.out (by kernel_rfl)) (fun _ _ _ h => h) (Or.inl ⟨by rfl,?_⟩) ?_ ?_
      rotate_left
      ·intro w'
       go_simp
       with_reducible rfl
      rotate_left
      ·simp only [Act.put,List.setIfInBounds_toArray,List.set_cons_zero,List.set_cons_succ,i64_w,i32_w]
       rfl
      refine take_ (i:=1) (N:=some 20) (v:=?_) (a':=?_) #[true,true,true,true,false,true,false,false,false,true,false,false,false,false,false,false] rfl rfl (take_ofW HT_.out HW_.out (by kernel_rfl)) (fun _ _ _ h => h) (Or.inl ⟨by rfl,?_⟩) hHeld ?_ ?_
      rotate_left
      ·rintro w' ⟨s0,s1,s2,s3,s4,s5⟩
       go_simp
       with_reducible rfl
      rotate_left
      ·simp only [Act.put,List.setIfInBounds_toArray,List.set_cons_zero,List.set_cons_succ,i64_w,i32_w]
       rfl
      refine take_ (i:=4) (N:=some 23) (v:=?_) (a':=?_) #[true,true,true,true,true,true,false,false,false,true,false,false,false,false,false,false] rfl rfl (take_ofW HT_.out HW_.out (by kernel_rfl)) (fun _ _ _ h => h) (Or.inl ⟨by rfl,?_⟩) hHeld ?_ ?_
      rotate_left
      ·rintro w' ⟨s0,s1,s2,s3,s4,s5⟩
       go_simp
       with_reducible rfl
      rotate_left
      ·simp only [Act.put,List.setIfInBounds_toArray,List.set_cons_zero,List.set_cons_succ,i64_w,i32_w]
       rfl
      refine pure_ (i:=6) (N:=some 25) (v:=?_) (a':=?_) #[true,true,true,true,true,true,true,false,false,true,false,false,false,false,false,false] rfl rfl (any_of HT_.out (by kernel_rfl)) (fun _ _ _ h => h) (Or.inl ⟨by rfl,?_⟩) ?_ ?_
      rotate_left
      ·intro w'
       go_simp
       with_reducible rfl
      rotate_left
      ·simp only [Act.put,List.setIfInBounds_toArray,List.set_cons_zero,List.set_cons_succ,i64_w,i32_w]
       rfl
      refine take_ (i:=7) (N:=some 26) (v:=?_) (a':=?_) #[true,true,true,true,true,true,true,true,false,true,false,false,false,false,false,false] rfl rfl (take_ofW HT_.out HW_.out (by kernel_rfl)) (fun _ _ _ h => h) (Or.inl ⟨by rfl,?_⟩) hHeld ?_ ?_
      rotate_left
      ·rintro w' ⟨s0,s1,s2,s3,s4,s5⟩
       go_simp
       with_reducible rfl
      rotate_left
      ·simp only [Act.put,List.setIfInBounds_toArray,List.set_cons_zero,List.set_cons_succ,i64_w,i32_w]
       rfl
      refine one_ (i:=8) (N:=some 27) #[true,true,true,true,true,true,true,true,true,true,false,false,false,false,false,false] rfl rfl (one_of HT_.out (by kernel_rfl)) (by decide) (fun K hK => ?_)
      refine goes_ Try.func49 (by kernel_rfl) rfl #[] (by rfl) rfl rfl (by (try simp only [List.map_toArray,List.map_cons,List.map_nil]);first|done|rfl|(simp only [List.length_drop,List.length_take];rfl)) ?_
      with_reducible refine (town_deeds.calls  t255 _ A9.out).mono ?_
      rintro e w28 ⟨rfl,hb⟩
      have HS5_:=(hb.cell (World.block_lt_of_cell? _ _ (hHeld.2.2.2.2.2))).trans (hHeld.2.2.2.2.2)
      refine ⟨_,rfl,?_⟩
      have n0_:=Aside0.mk (Kd.R_below (by (with_reducible repeat (first|apply Kd.R_alloc|apply Kd.R_drewN|apply Kd.R_drew));exact HO248.out) hb)
      have n1_:=Aside0.mk (Kd.R_below (by (with_reducible repeat (first|apply Kd.R_alloc|apply Kd.R_drewN|apply Kd.R_drew));exact HO251.out) hb)
      have n2_:=Aside0.mk (blk_below (g:=gb242) (o:=.cells #[.int .i64 t245,.slice Ao24 t246.length co24,.slice (some ad254) t249.length co25,.int .i64 t252,.int .i64 t253] 25 (0,0)) (by (with_reducible repeat (first|refine blk_drewN ?_ _|refine blk_drew ?_|refine blk_alloc ?_ _));exact BK242.out) hb)
      have n3_:=Aside0.mk (blk_below (g:=gb243) (o:=.cells #[.int .i64 0,.slice none 0 0,.slice none 0 0,.int .i64 0,.int .i64 0] 25 (0,0)) (by (with_reducible repeat (first|refine blk_drewN ?_ _|refine blk_drew ?_|refine blk_alloc ?_ _));exact BK243.out) hb)
      have n4_:=Aside0.mk (below_step (by repeat (first|(with_reducible first|exact HB.out|apply below_alloc|apply pw_below_drewN|apply below_drew1|refine below_set ?_ GE242.out|refine below_set ?_ GE243.out)|exact HB.out)) hb)
      clear HO248
      clear HO251
      clear BK242
      clear BK243
      clear HB
      have HO248:=n0_
      have HO251:=n1_
      have BK242:=n2_
      have BK243:=n3_
      have HB:=n4_
      clear n0_ n1_ n2_ n3_ n4_
      (try clear hb)
      (try clear hb2)
      (try clear hk)
      (try clear hi)
      have p15 : 0 ≤ (a1 : Int):=of_decide_eq_true (by first|(with_reducible assumption)|assumption)
      have q15 : (a1 : Int) < ((t249.length : Int) : Int):=of_decide_eq_true (by first|(with_reducible assumption)|assumption)
      obtain ⟨go15,co15,eo15,gb15,gl15,cl15,HG15⟩:=Kd.R_form HO251.out (by omega)
      (first|cases eo15|(injection eo15 with ea_ en_ ec_;(first|subst ea_|(injection ea_ with ea_;subst ea_));subst ec_;clear en_))
      have GB15:=Aside0.mk gb15
      have GG15:=Aside0.mk HG15
      clear gb15 gl15 HG15
      (first|simp only [add_plain] at hx254_0|skip)
      obtain ⟨hx15_0,hf15_0⟩:=Kd.R_celln 0 HO251.out (a1 : Int) p15 q15
      replace p15:=eq_true p15
      replace q15:=eq_true q15
      have HP29:=Kd.R_putn HO251.out (a1 : Int) ji14
      rw [← Ny256.out] at HP29
      have HQ29:=Aside0.mk HP29
      clear HP29
      refine hK.out _ _ ⟨(blk_cell BK242.out 0).trans rfl,(blk_cell BK242.out 1).trans rfl,(blk_cell BK242.out 2).trans rfl,(blk_cell BK242.out 3).trans rfl,(blk_cell BK242.out 4).trans rfl,HS5_⟩ (fun hHeld => ?_)
      clear hK K
      refine norm_ (a':=?_) ?_ ?_
      rotate_left
      ·show Act.put _ (some 27) _ = _
       simp only [Act.put,List.setIfInBounds_toArray,List.set_cons_zero,List.set_cons_succ,i64_w,i32_w]
       rfl
      refine take_ (i:=10) (N:=some 29) (v:=?_) (a':=?_) #[true,true,true,true,true,true,true,true,true,true,true,false,false,false,false,false] rfl rfl (take_ofW HT_.out HW_.out (by kernel_rfl)) (fun _ _ _ h => h) (Or.inl ⟨by rfl,?_⟩) hHeld ?_ ?_
      rotate_left
      ·rintro w' ⟨s0,s1,s2,s3,s4,s5⟩
       go_simp
       with_reducible rfl
      rotate_left
      ·simp only [Act.put,List.setIfInBounds_toArray,List.set_cons_zero,List.set_cons_succ,i64_w,i32_w]
       rfl
      refine pure_ (i:=11) (N:=some 30) (v:=?_) (a':=?_) #[true,true,true,true,true,true,true,true,true,true,true,true,false,false,false,false] rfl rfl (any_of HT_.out (by kernel_rfl)) (fun _ _ _ h => h) (Or.inl ⟨by rfl,?_⟩) ?_ ?_
      rotate_left
      ·intro w'
       go_simp
       with_reducible rfl
      rotate_left
      ·simp only [Act.put,List.setIfInBounds_toArray,List.set_cons_zero,List.set_cons_succ,i64_w,i32_w]
       rfl
      refine pure_ (i:=12) (N:=some 31) (v:=?_) (a':=?_) #[true,true,true,true,true,true,true,true,true,true,true,true,true,false,false,false] rfl rfl (any_of HT_.out (by kernel_rfl)) (fun _ _ _ h => h) (Or.inl ⟨by rfl,?_⟩) ?_ ?_
      rotate_left
      ·intro w'
       go_simp
       with_reducible rfl
      rotate_left
      ·simp only [Act.put,List.setIfInBounds_toArray,List.set_cons_zero,List.set_cons_succ,i64_w,i32_w]
       rfl
      refine pure_ (i:=13) (N:=some 32) (v:=?_) (a':=?_) #[true,true,true,true,true,true,true,true,true,true,true,true,true,true,false,false] rfl rfl (any_of HT_.out (by kernel_rfl)) (fun _ _ _ h => h) (Or.inl ⟨by rfl,?_⟩) ?_ ?_
      rotate_left
      ·intro w'
       go_simp
       with_reducible rfl
      rotate_left
      ·simp only [Act.put,List.setIfInBounds_toArray,List.set_cons_zero,List.set_cons_succ,i64_w,i32_w]
       rfl
      refine pure_ (i:=14) (N:=some 33) (v:=?_) (a':=?_) #[true,true,true,true,true,true,true,true,true,true,true,true,true,true,true,false] rfl rfl (any_of HT_.out (by kernel_rfl)) (fun _ _ _ h => h) (Or.inl ⟨by rfl,?_⟩) ?_ ?_
      rotate_left
      ·intro w'
       go_simp
       with_reducible rfl
      rotate_left
      ·simp only [Act.put,List.setIfInBounds_toArray,List.set_cons_zero,List.set_cons_succ,i64_w,i32_w]
       rfl
      refine last_ (i:=15) (N:=none) #[true,true,true,true,true,true,true,true,true,true,true,true,true,true,true,true] rfl rfl (one_of HT_.out (by kernel_rfl)) (by decide) (fun K hK => ?_)
      refine skip_ (w1:=?_) (by rfl) rfl ?_ ?_
      rotate_left
      ·go_simp
       rfl
      refine hK.out _ _ ?_
      clear hK K
      refine done_ (done_of HT_.out (by kernel_rfl)) ?_
      have n0_ : Aside0 (Kd.R k68 68 (w28.setCell ⟨go15,(a1 : Int).toNat,none⟩ (.int .i64 ji14)) w.heap.size (fun _ => True) (.slice Ao24 t246.length co24) t246):=⟨by (with_reducible repeat (first|apply Kd.R_alloc|apply Kd.R_drewN|apply Kd.R_drew));exact Kd.R_mono (Kd.R_far (p:=⟨go15,(a1 : Int).toNat,none⟩) (Kd.R_types HO248.out GG15.out (by decide)) (fun _ hk => hk.2) (.int .i64 ji14)) (fun _ hk => trivial)⟩
      have n1_ : Aside0 (Kd.R (Kd.int .i64) 3 (w28.setCell ⟨go15,(a1 : Int).toNat,none⟩ (.int .i64 ji14)) w.heap.size (fun _ => True) (.slice (some ⟨go15,0,none⟩) t249.length co25) y256):=⟨by (with_reducible repeat (first|apply Kd.R_alloc|apply Kd.R_drewN|apply Kd.R_drew));exact HQ29.out⟩
      have n2_ : Aside0 ((w28.setCell ⟨go15,(a1 : Int).toNat,none⟩ (.int .i64 ji14)).heap[gb242]? = some (.cells #[.int .i64 t245,.slice Ao24 t246.length co24,.slice (some ⟨go15,0,none⟩) t249.length co25,.int .i64 t252,.int .i64 t253] 25 (0,0))):=⟨by (with_reducible repeat (first|refine blk_drewN ?_ _|refine blk_drew ?_|refine blk_alloc ?_ _));refine blk_far ?_ (by have h_:=Kd.R_ne HO251.out BK242.out (by decide);intro e_;exact h_ (by rw [e_];rfl)) _;(with_reducible repeat (first|refine blk_drewN ?_ _|refine blk_drew ?_|refine blk_alloc ?_ _));exact BK242.out⟩
      have n3_ : Aside0 ((w28.setCell ⟨go15,(a1 : Int).toNat,none⟩ (.int .i64 ji14)).heap[gb243]? = some (.cells #[.int .i64 0,.slice none 0 0,.slice none 0 0,.int .i64 0,.int .i64 0] 25 (0,0))):=⟨by (with_reducible repeat (first|refine blk_drewN ?_ _|refine blk_drew ?_|refine blk_alloc ?_ _));refine blk_far ?_ (by have h_:=Kd.R_ne HO251.out BK243.out (by decide);intro e_;exact h_ (by rw [e_];rfl)) _;(with_reducible repeat (first|refine blk_drewN ?_ _|refine blk_drew ?_|refine blk_alloc ?_ _));exact BK243.out⟩
      have n4_ : Aside0 (Below w.heap.size w (w28.setCell ⟨go15,(a1 : Int).toNat,none⟩ (.int .i64 ji14))):=⟨by repeat (first|(with_reducible first|exact HB.out|apply below_alloc|apply pw_below_drewN|apply below_drew1|refine below_set ?_ GB15.out|refine below_set ?_ GE242.out|refine below_set ?_ GE243.out)|exact HB.out)⟩
      (try clear HO248)
      (try clear HO251)
      (try clear BK242)
      (try clear BK243)
      (try clear HB)
      generalize (w28.setCell ⟨go15,(a1 : Int).toNat,none⟩ (.int .i64 ji14)) = w30 at n0_ n1_ n2_ n3_ n4_ ⊢
      have HO248:=n0_
      have HO251:=n1_
      have BK242:=n2_
      have BK243:=n3_
      have HB:=n4_
      clear n0_ n1_ n2_ n3_ n4_
      have hcz31_0 : w30.cell? ⟨gb242,0,none⟩ = some (.int .i64 t245):=(blk_cell BK242.out 0).trans rfl
      have hcz31_1 : w30.cell? ⟨gb242,1,none⟩ = some (.slice Ao24 t246.length co24):=(blk_cell BK242.out 1).trans rfl
      have hcz31_2 : w30.cell? ⟨gb242,2,none⟩ = some (.slice (some ⟨go15,0,none⟩) t249.length co25):=(blk_cell BK242.out 2).trans rfl
      have hcz31_3 : w30.cell? ⟨gb242,3,none⟩ = some (.int .i64 t252):=(blk_cell BK242.out 3).trans rfl
      have hcz31_4 : w30.cell? ⟨gb242,4,none⟩ = some (.int .i64 t253):=(blk_cell BK242.out 4).trans rfl
      have hfz31_0:=blk_frozen BK242.out 0
      have hfz31_1:=blk_frozen BK242.out 1
      have hfz31_2:=blk_frozen BK242.out 2
      have hfz31_3:=blk_frozen BK242.out 3
      have hfz31_4:=blk_frozen BK242.out 4
      have hcz32_0 : w30.cell? ⟨gb243,0,none⟩ = some (.int .i64 0):=(blk_cell BK243.out 0).trans rfl
      have hcz32_1 : w30.cell? ⟨gb243,1,none⟩ = some (.slice none 0 0):=(blk_cell BK243.out 1).trans rfl
      have hcz32_2 : w30.cell? ⟨gb243,2,none⟩ = some (.slice none 0 0):=(blk_cell BK243.out 2).trans rfl
      have hcz32_3 : w30.cell? ⟨gb243,3,none⟩ = some (.int .i64 0):=(blk_cell BK243.out 3).trans rfl
      have hcz32_4 : w30.cell? ⟨gb243,4,none⟩ = some (.int .i64 0):=(blk_cell BK243.out 4).trans rfl
      have hfz32_0:=blk_frozen BK243.out 0
      have hfz32_1:=blk_frozen BK243.out 1
      have hfz32_2:=blk_frozen BK243.out 2
      have hfz32_3:=blk_frozen BK243.out 3
      have hfz32_4:=blk_frozen BK243.out 4
      try go_wp2
      refine bodyPost_ret (results_ct rfl _ _ gb243 25 #[.int .i64 t245,.slice Ao24 t246.length co24,.slice (some ⟨go15,0,none⟩) t249.length co25,.int .i64 t252,.int .i64 t253] (0,0) _ rfl (by (with_reducible repeat (first|refine blk_drewN ?_ _|refine blk_drew ?_|refine blk_alloc ?_ _));refine blk_put (cs:=#[.int .i64 t245,.slice Ao24 t246.length co24,.slice (some ⟨go15,0,none⟩) t249.length co25,.int .i64 t252,.int .i64 0]) ?_ 4 _ rfl;(with_reducible repeat (first|refine blk_drewN ?_ _|refine blk_drew ?_|refine blk_alloc ?_ _));refine blk_put (cs:=#[.int .i64 t245,.slice Ao24 t246.length co24,.slice (some ⟨go15,0,none⟩) t249.length co25,.int .i64 0,.int .i64 0]) ?_ 3 _ rfl;(with_reducible repeat (first|refine blk_drewN ?_ _|refine blk_drew ?_|refine blk_alloc ?_ _));refine blk_put (cs:=#[.int .i64 t245,.slice Ao24 t246.length co24,.slice none 0 0,.int .i64 0,.int .i64 0]) ?_ 2 _ rfl;(with_reducible repeat (first|refine blk_drewN ?_ _|refine blk_drew ?_|refine blk_alloc ?_ _));refine blk_put (cs:=#[.int .i64 t245,.slice none 0 0,.slice none 0 0,.int .i64 0,.int .i64 0]) ?_ 1 _ rfl;(with_reducible repeat (first|refine blk_drewN ?_ _|refine blk_drew ?_|refine blk_alloc ?_ _));refine blk_put (cs:=#[.int .i64 0,.slice none 0 0,.slice none 0 0,.int .i64 0,.int .i64 0]) ?_ 0 _ rfl;(with_reducible repeat (first|refine blk_drewN ?_ _|refine blk_drew ?_|refine blk_alloc ?_ _));exact BK243.out) Try.underlying25 rfl (by kernel_rfl)) rfl ?_
      exact ⟨_,_,by first|rfl|(simp [errW_none,errW_some] <;> rfl)|(simp only [← hji13,← hji14];first|rfl|(simp [errW_none,errW_some] <;> rfl))|(simp [*,errW_none,errW_some] <;> rfl),by (with_reducible repeat (first|apply Kd.R_alloc|apply Kd.R_drewN|apply Kd.R_drew));exact Kd.R_mono (Kd.R_far (p:=⟨gb243,4,none⟩) (Kd.R_far (p:=⟨gb243,3,none⟩) (Kd.R_far (p:=⟨gb243,2,none⟩) (Kd.R_far (p:=⟨gb243,1,none⟩) (Kd.R_far (p:=⟨gb243,0,none⟩) (Kd.R_types HO248.out BK243.out (by decide)) (fun _ hk => hk.2) (.int .i64 t245)) (fun _ hk => hk.2) (.slice Ao24 t246.length co24)) (fun _ hk => hk.2) (.slice (some ⟨go15,0,none⟩) t249.length co25)) (fun _ hk => hk.2) (.int .i64 t252)) (fun _ hk => hk.2) (.int .i64 t253)) (fun _ hk => trivial),by (with_reducible repeat (first|apply Kd.R_alloc|apply Kd.R_drewN|apply Kd.R_drew));exact Kd.R_mono (Kd.R_far (p:=⟨gb243,4,none⟩) (Kd.R_far (p:=⟨gb243,3,none⟩) (Kd.R_far (p:=⟨gb243,2,none⟩) (Kd.R_far (p:=⟨gb243,1,none⟩) (Kd.R_far (p:=⟨gb243,0,none⟩) (Kd.R_types HO251.out BK243.out (by decide)) (fun _ hk => hk.2) (.int .i64 t245)) (fun _ hk => hk.2) (.slice Ao24 t246.length co24)) (fun _ hk => hk.2) (.slice (some ⟨go15,0,none⟩) t249.length co25)) (fun _ hk => hk.2) (.int .i64 t252)) (fun _ hk => hk.2) (.int .i64 t253)) (fun _ hk => trivial),by repeat (first|(with_reducible first|exact HB.out|apply below_alloc|apply pw_below_drewN|apply below_drew1|refine below_set ?_ GE242.out|refine below_set ?_ GE243.out)|exact HB.out)⟩
     ·rw [if_neg c11] at H
      exact absurd H (by simp)
    ·rw [if_neg c10] at H
     exact absurd H (by simp)
   ·rw [if_neg c8] at H
    exact absurd H (by simp)
  ·rw [if_neg c7] at H
   exact absurd H (by simp)
 ·rw [if_neg c5] at H
  have c5b0 : (t244 == 0) = false:=beq_eq_false_iff_ne.mpr c5
  have c5b1 : (t244 != 0) = true:=bne_iff_ne.mpr c5
  simp only [Option.some.injEq,Prod.mk.injEq] at H
  obtain ⟨rfl,rfl,rfl,rfl,rfl,rfl⟩:=H
  go_enter Try.func21,Try.ntmps21
  go_wp2_with (first|((with_reducible refine gate_dst (N:=3) rfl ?_);refine box_event ?hg (N:=3) ?hd (cs:=#[.int .i64 a0_0,.slice A0_1 l0_1.length c0_1,.slice A0_2 l0_2.length c0_2,.int .i64 a0_3,.int .i64 a0_4]) (t:=25) ?hr ?_;(case hd => rfl);(case hg => rfl);(case hr => first|(go_simp;done)|(go_simp;rfl));intro gb242 hg w33 hbox hb;have n0_:=Aside0.mk (below_step (by repeat (first|(with_reducible first|exact HB.out|apply below_alloc|apply pw_below_drewN|apply below_drew1)|exact HB.out)) hb);have n1_:=Aside0.mk (hbox);have n2_:=Aside0.mk ((by rw [hg];exact (below_size (by repeat (first|(with_reducible first|exact HB.out|apply below_alloc|apply pw_below_drewN|apply below_drew1)|exact HB.out))) : w.heap.size ≤ gb242));have n3_:=Aside0.mk ((by rw [hg];exact (below_size (by repeat (first|(with_reducible first|exact HB.out|apply below_alloc|apply pw_below_drewN|apply below_drew1)|exact HB.out))) : w.heap.size ≤ gb242));clear HB;have HB:=n0_;have BK242:=n1_;have GW242:=n2_;have GE242:=n3_;clear n0_ n1_ n2_ n3_;clear hb hbox hg)|((with_reducible refine gate_dst (N:=6) rfl ?_);refine box_event ?hg (N:=6) ?hd (cs:=#[.int .i64 0,.slice none 0 0,.slice none 0 0,.int .i64 0,.int .i64 0]) (t:=25) ?hr ?_;(case hd => rfl);(case hg => rfl);(case hr => first|(go_simp;done)|(go_simp;rfl));intro gb243 hg w34 hbox hb;have n0_:=Aside0.mk (blk_below (g:=gb242) (o:=.cells #[.int .i64 a0_0,.slice A0_1 l0_1.length c0_1,.slice A0_2 l0_2.length c0_2,.int .i64 a0_3,.int .i64 a0_4] 25 (0,0)) (by (with_reducible repeat (first|refine blk_drewN ?_ _|refine blk_drew ?_|refine blk_alloc ?_ _));exact BK242.out) hb);have n1_:=Aside0.mk (below_step (by repeat (first|(with_reducible first|exact HB.out|apply below_alloc|apply pw_below_drewN|apply below_drew1|refine below_set ?_ GE242.out)|exact HB.out)) hb);have n2_:=Aside0.mk (hbox);have n3_:=Aside0.mk ((by rw [hg];exact (below_size (by repeat (first|(with_reducible first|exact HB.out|apply below_alloc|apply pw_below_drewN|apply below_drew1|refine below_set ?_ GE242.out)|exact HB.out))) : w.heap.size ≤ gb243));have n4_:=Aside0.mk ((by rw [hg];exact (below_size (by repeat (first|(with_reducible first|exact HB.out|apply below_alloc|apply pw_below_drewN|apply below_drew1|refine below_set ?_ GE242.out)|exact HB.out))) : w.heap.size ≤ gb243));have n5_:=Aside0.mk ((by rw [hg];exact Nat.ne_of_lt (blk_lt (g:=gb242) (o:=.cells #[.int .i64 a0_0,.slice A0_1 l0_1.length c0_1,.slice A0_2 l0_2.length c0_2,.int .i64 a0_3,.int .i64 a0_4] 25 (0,0)) (by (with_reducible repeat (first|refine blk_drewN ?_ _|refine blk_drew ?_|refine blk_alloc ?_ _));exact BK242.out)) : gb242 ≠ gb243));have n6_:=Aside0.mk ((by rw [hg];exact Nat.ne_of_gt (blk_lt (g:=gb242) (o:=.cells #[.int .i64 a0_0,.slice A0_1 l0_1.length c0_1,.slice A0_2 l0_2.length c0_2,.int .i64 a0_3,.int .i64 a0_4] 25 (0,0)) (by (with_reducible repeat (first|refine blk_drewN ?_ _|refine blk_drew ?_|refine blk_alloc ?_ _));exact BK242.out)) : gb243 ≠ gb242));clear BK242;clear HB;have BK242:=n0_;have HB:=n1_;have BK243:=n2_;have GW243:=n3_;have GE243:=n4_;have NB242_243:=n5_;have NB243_242:=n6_;clear n0_ n1_ n2_ n3_ n4_ n5_ n6_;clear hb hbox hg;have hnb35:=NB242_243.out;have hnc35:=NB243_242.out;have hcz36_0 : w34.cell? ⟨gb242,0,none⟩ = some (.int .i64 a0_0):=(blk_cell BK242.out 0).trans rfl;have hcz36_1 : w34.cell? ⟨gb242,1,none⟩ = some (.slice A0_1 l0_1.length c0_1):=(blk_cell BK242.out 1).trans rfl;have hcz36_2 : w34.cell? ⟨gb242,2,none⟩ = some (.slice A0_2 l0_2.length c0_2):=(blk_cell BK242.out 2).trans rfl;have hcz36_3 : w34.cell? ⟨gb242,3,none⟩ = some (.int .i64 a0_3):=(blk_cell BK242.out 3).trans rfl;have hcz36_4 : w34.cell? ⟨gb242,4,none⟩ = some (.int .i64 a0_4):=(blk_cell BK242.out 4).trans rfl;have hfz36_0:=blk_frozen BK242.out 0;have hfz36_1:=blk_frozen BK242.out 1;have hfz36_2:=blk_frozen BK242.out 2;have hfz36_3:=blk_frozen BK242.out 3;have hfz36_4:=blk_frozen BK242.out 4)|((with_reducible refine gate_callee (f:=48) rfl ?_);refine goesL_ (some 12) rfl rfl Try.func48 (by kernel_rfl) rfl #[.agg #[.int .i64 a0_0,.slice A0_1 l0_1.length c0_1,.slice A0_2 l0_2.length c0_2,.int .i64 a0_3,.int .i64 a0_4],.int .i64 a1,.int .i64 a2] rfl (by (try simp only [List.map_toArray,List.map_cons,List.map_nil]);first|done|rfl|(simp only [List.length_drop,List.length_take];rfl)) ?_;(with_reducible refine (town_check.calls k a0_0 _ _ l0_1 _ _ l0_2 a0_3 a0_4 a1 a2 t244 _ ?side1 ?side2 ?side3 ?side4 A4.out).mono ?_);(case side1 => repeat (first|exact (Kd.C_below HR0_1.out HB.out)|(with_reducible refine Kd.C_alloc ?_ _)|(with_reducible refine Kd.C_drewN ?_ _)|(with_reducible refine Kd.C_drew ?_)));(case side2 => exact HC0_1.out);(case side3 => repeat (first|exact (Kd.C_below HR0_2.out HB.out)|(with_reducible refine Kd.C_alloc ?_ _)|(with_reducible refine Kd.C_drewN ?_ _)|(with_reducible refine Kd.C_drew ?_)));(case side4 => exact HC0_2.out);rintro e w37 ⟨rfl,hb⟩;refine ⟨_,rfl,?_⟩;have n0_:=Aside0.mk (blk_below (g:=gb242) (o:=.cells #[.int .i64 a0_0,.slice A0_1 l0_1.length c0_1,.slice A0_2 l0_2.length c0_2,.int .i64 a0_3,.int .i64 a0_4] 25 (0,0)) (by (with_reducible repeat (first|refine blk_drewN ?_ _|refine blk_drew ?_|refine blk_alloc ?_ _));exact BK242.out) hb);have n1_:=Aside0.mk (blk_below (g:=gb243) (o:=.cells #[.int .i64 0,.slice none 0 0,.slice none 0 0,.int .i64 0,.int .i64 0] 25 (0,0)) (by (with_reducible repeat (first|refine blk_drewN ?_ _|refine blk_drew ?_|refine blk_alloc ?_ _));exact BK243.out) hb);have n2_:=Aside0.mk (below_step (by repeat (first|(with_reducible first|exact HB.out|apply below_alloc|apply pw_below_drewN|apply below_drew1|refine below_set ?_ GE242.out|refine below_set ?_ GE243.out)|exact HB.out)) hb);clear BK242;clear BK243;clear HB;have BK242:=n0_;have BK243:=n1_;have HB:=n2_;clear n0_ n1_ n2_;(try clear hb);(try clear hb2);(try clear hk);(try clear hi);have hcz38_0 : w37.cell? ⟨gb243,0,none⟩ = some (.int .i64 0):=(blk_cell BK243.out 0).trans rfl;have hcz38_1 : w37.cell? ⟨gb243,1,none⟩ = some (.slice none 0 0):=(blk_cell BK243.out 1).trans rfl;have hcz38_2 : w37.cell? ⟨gb243,2,none⟩ = some (.slice none 0 0):=(blk_cell BK243.out 2).trans rfl;have hcz38_3 : w37.cell? ⟨gb243,3,none⟩ = some (.int .i64 0):=(blk_cell BK243.out 3).trans rfl;have hcz38_4 : w37.cell? ⟨gb243,4,none⟩ = some (.int .i64 0):=(blk_cell BK243.out 4).trans rfl;have hfz38_0:=blk_frozen BK243.out 0;have hfz38_1:=blk_frozen BK243.out 1;have hfz38_2:=blk_frozen BK243.out 2;have hfz38_3:=blk_frozen BK243.out 3;have hfz38_4:=blk_frozen BK243.out 4))
  refine bodyPost_ret (results_ct rfl _ _ gb243 25 #[.int .i64 0,.slice none 0 0,.slice none 0 0,.int .i64 0,.int .i64 0] (0,0) _ rfl (by (with_reducible repeat (first|refine blk_drewN ?_ _|refine blk_drew ?_|refine blk_alloc ?_ _));refine blk_put (cs:=#[.int .i64 0,.slice none 0 0,.slice none 0 0,.int .i64 0,.int .i64 0]) ?_ 4 _ rfl;(with_reducible repeat (first|refine blk_drewN ?_ _|refine blk_drew ?_|refine blk_alloc ?_ _));refine blk_put (cs:=#[.int .i64 0,.slice none 0 0,.slice none 0 0,.int .i64 0,.int .i64 0]) ?_ 3 _ rfl;(with_reducible repeat (first|refine blk_drewN ?_ _|refine blk_drew ?_|refine blk_alloc ?_ _));refine blk_put (cs:=#[.int .i64 0,.slice none 0 0,.slice none 0 0,.int .i64 0,.int .i64 0]) ?_ 2 _ rfl;(with_reducible repeat (first|refine blk_drewN ?_ _|refine blk_drew ?_|refine blk_alloc ?_ _));refine blk_put (cs:=#[.int .i64 0,.slice none 0 0,.slice none 0 0,.int .i64 0,.int .i64 0]) ?_ 1 _ rfl;(with_reducible repeat (first|refine blk_drewN ?_ _|refine blk_drew ?_|refine blk_alloc ?_ _));refine blk_put (cs:=#[.int .i64 0,.slice none 0 0,.slice none 0 0,.int .i64 0,.int .i64 0]) ?_ 0 _ rfl;(with_reducible repeat (first|refine blk_drewN ?_ _|refine blk_drew ?_|refine blk_alloc ?_ _));exact BK243.out) Try.underlying25 rfl (by kernel_rfl)) rfl ?_
  exact ⟨_,_,by first|rfl|(simp [errW_none,errW_some] <;> rfl)|(simp [*,errW_none,errW_some] <;> rfl),by first|exact Kd.R_nil _ _ _ _ _|exact Kd.N_nil _ _ _ _ _|exact Kd.V_nil _ _ _ _ _|exact Kd.Q_nil _ _ _ _ _|exact Kd.S_nil _ _ _ _ _,by first|exact Kd.R_nil _ _ _ _ _|exact Kd.N_nil _ _ _ _ _|exact Kd.V_nil _ _ _ _ _|exact Kd.Q_nil _ _ _ _ _|exact Kd.S_nil _ _ _ _ _,by repeat (first|(with_reducible first|exact HB.out|apply below_alloc|apply pw_below_drewN|apply below_drew1|refine below_set ?_ GE242.out|refine below_set ?_ GE243.out)|exact HB.out)⟩

/-! ### roll_Next: function 79 -/
def roll_Next.f (a0_0 : Int) : Option (Int × Int) := some (Go.bits .xor .u64 (IntKind.u64.wrap ((Go.bits .xor .u64 (IntKind.u64.wrap ((Go.bits .xor .u64 (IntKind.u64.wrap (a0_0 + 11400714819323198485)) ((IntKind.u64.wrap (a0_0 + 11400714819323198485)) / 1073741824)) * 13787848793156543929)) ((IntKind.u64.wrap ((Go.bits .xor .u64 (IntKind.u64.wrap (a0_0 + 11400714819323198485)) ((IntKind.u64.wrap (a0_0 + 11400714819323198485)) / 1073741824)) * 13787848793156543929)) / 134217728)) * 10723151780598845931)) ((IntKind.u64.wrap ((Go.bits .xor .u64 (IntKind.u64.wrap ((Go.bits .xor .u64 (IntKind.u64.wrap (a0_0 + 11400714819323198485)) ((IntKind.u64.wrap (a0_0 + 11400714819323198485)) / 1073741824)) * 13787848793156543929)) ((IntKind.u64.wrap ((Go.bits .xor .u64 (IntKind.u64.wrap (a0_0 + 11400714819323198485)) ((IntKind.u64.wrap (a0_0 + 11400714819323198485)) / 1073741824)) * 13787848793156543929)) / 134217728)) * 10723151780598845931)) / 2147483648), IntKind.u64.wrap (a0_0 + 11400714819323198485))
set_option maxHeartbeats 8000000 in
set_option maxRecDepth 100000 in
theorem roll_Next.calls (a0_0 : Int) (r1 : Int) (r2 : Int) (w : World) (h : roll_Next.f a0_0 = some (r1, r2)) :
  Calls Try.prog 79 #[.agg #[.int .u64 a0_0]] w fun e w' => e = .returned (.tuple #[.int .u64 r1,.agg #[.int .u64 r2]]) ∧ Below w.heap.size w w':=by
 have hu45:=Try.underlying45
 have HB:=Aside0.mk (Below.refl w.heap.size w)
 have H : (some (Go.bits .xor .u64 (IntKind.u64.wrap ((Go.bits .xor .u64 (IntKind.u64.wrap ((Go.bits .xor .u64 (IntKind.u64.wrap (a0_0 + 11400714819323198485)) ((IntKind.u64.wrap (a0_0 + 11400714819323198485)) / 1073741824)) * 13787848793156543929)) ((IntKind.u64.wrap ((Go.bits .xor .u64 (IntKind.u64.wrap (a0_0 + 11400714819323198485)) ((IntKind.u64.wrap (a0_0 + 11400714819323198485)) / 1073741824)) * 13787848793156543929)) / 134217728)) * 10723151780598845931)) ((IntKind.u64.wrap ((Go.bits .xor .u64 (IntKind.u64.wrap ((Go.bits .xor .u64 (IntKind.u64.wrap (a0_0 + 11400714819323198485)) ((IntKind.u64.wrap (a0_0 + 11400714819323198485)) / 1073741824)) * 13787848793156543929)) ((IntKind.u64.wrap ((Go.bits .xor .u64 (IntKind.u64.wrap (a0_0 + 11400714819323198485)) ((IntKind.u64.wrap (a0_0 + 11400714819323198485)) / 1073741824)) * 13787848793156543929)) / 134217728)) * 10723151780598845931)) / 2147483648),IntKind.u64.wrap (a0_0 + 11400714819323198485))) = some (r1,r2):=h
 clear h
 simp only [Option.some.injEq,Prod.mk.injEq] at H
 obtain ⟨rfl,rfl⟩:=H
 go_enter Try.func79,Try.ntmps79
 try go_wp2_with (first|((with_reducible refine gate_dst (N:=1) rfl ?_);refine box_event ?hg (N:=1) ?hd (cs:=#[.int .u64 a0_0]) (t:=45) ?hr ?_;(case hd => rfl);(case hg => rfl);(case hr => first|(go_simp;done)|(go_simp;rfl));intro gb257 hg w2 hbox hb;have n0_:=Aside0.mk (below_step (by repeat (first|(with_reducible first|exact HB.out|apply below_alloc|apply pw_below_drewN|apply below_drew1)|exact HB.out)) hb);have n1_:=Aside0.mk (hbox);have n2_:=Aside0.mk ((by rw [hg];exact (below_size (by repeat (first|(with_reducible first|exact HB.out|apply below_alloc|apply pw_below_drewN|apply below_drew1)|exact HB.out))) : w.heap.size ≤ gb257));have n3_:=Aside0.mk ((by rw [hg];exact (below_size (by repeat (first|(with_reducible first|exact HB.out|apply below_alloc|apply pw_below_drewN|apply below_drew1)|exact HB.out))) : w.heap.size ≤ gb257));clear HB;have HB:=n0_;have BK257:=n1_;have GW257:=n2_;have GE257:=n3_;clear n0_ n1_ n2_ n3_;clear hb hbox hg)|((with_reducible refine gate_dst (N:=3) rfl ?_);refine box_event ?hg (N:=3) ?hd (cs:=#[.int .u64 0]) (t:=45) ?hr ?_;(case hd => rfl);(case hg => rfl);(case hr => first|(go_simp;done)|(go_simp;rfl));intro gb258 hg w3 hbox hb;have n0_:=Aside0.mk (blk_below (g:=gb257) (o:=.cells #[.int .u64 a0_0] 45 (0,0)) (by (with_reducible repeat (first|refine blk_drewN ?_ _|refine blk_drew ?_|refine blk_alloc ?_ _));exact BK257.out) hb);have n1_:=Aside0.mk (below_step (by repeat (first|(with_reducible first|exact HB.out|apply below_alloc|apply pw_below_drewN|apply below_drew1|refine below_set ?_ GE257.out)|exact HB.out)) hb);have n2_:=Aside0.mk (hbox);have n3_:=Aside0.mk ((by rw [hg];exact (below_size (by repeat (first|(with_reducible first|exact HB.out|apply below_alloc|apply pw_below_drewN|apply below_drew1|refine below_set ?_ GE257.out)|exact HB.out))) : w.heap.size ≤ gb258));have n4_:=Aside0.mk ((by rw [hg];exact (below_size (by repeat (first|(with_reducible first|exact HB.out|apply below_alloc|apply pw_below_drewN|apply below_drew1|refine below_set ?_ GE257.out)|exact HB.out))) : w.heap.size ≤ gb258));have n5_:=Aside0.mk ((by rw [hg];exact Nat.ne_of_lt (blk_lt (g:=gb257) (o:=.cells #[.int .u64 a0_0] 45 (0,0)) (by (with_reducible repeat (first|refine blk_drewN ?_ _|refine blk_drew ?_|refine blk_alloc ?_ _));exact BK257.out)) : gb257 ≠ gb258));have n6_:=Aside0.mk ((by rw [hg];exact Nat.ne_of_gt (blk_lt (g:=gb257) (o:=.cells #[.int .u64 a0_0] 45 (0,0)) (by (with_reducible repeat (first|refine blk_drewN ?_ _|refine blk_drew ?_|refine blk_alloc ?_ _));exact BK257.out)) : gb258 ≠ gb257));clear BK257;clear HB;have BK257:=n0_;have HB:=n1_;have BK258:=n2_;have GW258:=n3_;have GE258:=n4_;have NB257_258:=n5_;have NB258_257:=n6_;clear n0_ n1_ n2_ n3_ n4_ n5_ n6_;clear hb hbox hg;have hnb4:=NB257_258.out;have hnc4:=NB258_257.out;have hcz5_0 : w3.cell? ⟨gb257,0,none⟩ = some (.int .u64 a0_0):=(blk_cell BK257.out 0).trans rfl;have hfz5_0:=blk_frozen BK257.out 0))
 have n0_ : Aside0 ((w3.setCell ⟨gb257,0,none⟩ (.int .u64 (IntKind.u64.wrap (a0_0 + 11400714819323198485)))).heap[gb257]? = some (.cells #[.int .u64 (IntKind.u64.wrap (a0_0 + 11400714819323198485))] 45 (0,0))):=⟨by (with_reducible repeat (first|refine blk_drewN ?_ _|refine blk_drew ?_|refine blk_alloc ?_ _));refine blk_put (cs:=#[.int .u64 a0_0]) ?_ 0 _ rfl;(with_reducible repeat (first|refine blk_drewN ?_ _|refine blk_drew ?_|refine blk_alloc ?_ _));exact BK257.out⟩
 have n1_ : Aside0 ((w3.setCell ⟨gb257,0,none⟩ (.int .u64 (IntKind.u64.wrap (a0_0 + 11400714819323198485)))).heap[gb258]? = some (.cells #[.int .u64 0] 45 (0,0))):=⟨by (with_reducible repeat (first|refine blk_drewN ?_ _|refine blk_drew ?_|refine blk_alloc ?_ _));refine blk_far ?_ NB258_257.out _;(with_reducible repeat (first|refine blk_drewN ?_ _|refine blk_drew ?_|refine blk_alloc ?_ _));exact BK258.out⟩
 have n2_ : Aside0 (Below w.heap.size w (w3.setCell ⟨gb257,0,none⟩ (.int .u64 (IntKind.u64.wrap (a0_0 + 11400714819323198485))))):=⟨by repeat (first|(with_reducible first|exact HB.out|apply below_alloc|apply pw_below_drewN|apply below_drew1|refine below_set ?_ GE257.out|refine below_set ?_ GE258.out)|exact HB.out)⟩
 (try clear BK257)
 (try clear BK258)
 (try clear HB)
 generalize (w3.setCell ⟨gb257,0,none⟩ (.int .u64 (IntKind.u64.wrap (a0_0 + 11400714819323198485)))) = w6 at n0_ n1_ n2_ ⊢
 have BK257:=n0_
 have BK258:=n1_
 have HB:=n2_
 clear n0_ n1_ n2_
 have n0_:=Aside0.mk (blk_drew BK257.out)
 have n1_:=Aside0.mk (blk_drew BK258.out)
 have n2_:=Aside0.mk (below_drew1 HB.out)
 clear BK257
 clear BK258
 clear HB
 have BK257:=n0_
 have BK258:=n1_
 have HB:=n2_
 clear n0_ n1_ n2_
 refine start_ (n:=7) (S:=fun w' => w'.cell? ⟨gb257,0,none⟩ = some (.int .u64 (IntKind.u64.wrap (a0_0 + 11400714819323198485)))) (ds:=[]) #[false,false,false,false,false,false,false] (by kernel_rfl) rfl rfl ((blk_cell BK257.out 0).trans rfl) (fun hHeld => ?_)
 generalize w6.drew = w7 at BK257 BK258 HB hHeld ⊢
 refine pure_ (i:=0) (N:=some 21) (v:=?_) (a':=?_) #[true,false,false,false,false,false,false] rfl rfl (by kernel_rfl) (fun _ _ _ h => h) (Or.inl ⟨by rfl,?_⟩) ?_ ?_
 rotate_left
 ·intro w'
  go_simp
  with_reducible rfl
 rotate_left
 ·simp only [Act.put,List.setIfInBounds_toArray,List.set_cons_zero,List.set_cons_succ,i64_w,i32_w]
  rfl
 refine pure_ (i:=1) (N:=some 22) (v:=?_) (a':=?_) #[true,true,false,false,false,false,false] rfl rfl (by kernel_rfl) (fun _ _ _ h => h) (Or.inl ⟨by rfl,?_⟩) ?_ ?_
 rotate_left
 ·intro w'
  go_simp
  with_reducible rfl
 rotate_left
 ·simp only [Act.put,List.setIfInBounds_toArray,List.set_cons_zero,List.set_cons_succ,i64_w,i32_w]
  rfl
 refine pure_ (i:=2) (N:=some 23) (v:=?_) (a':=?_) #[true,true,true,false,false,false,false] rfl rfl (by kernel_rfl) (fun _ _ _ h => h) (Or.inl ⟨by rfl,?_⟩) ?_ ?_
 rotate_left
 ·intro w'
  go_simp
  with_reducible rfl
 rotate_left
 ·simp only [Act.put,List.setIfInBounds_toArray,List.set_cons_zero,List.set_cons_succ,i64_w,i32_w]
  rfl
 refine pure_ (i:=3) (N:=some 24) (v:=?_) (a':=?_) #[true,true,true,true,false,false,false] rfl rfl (by kernel_rfl) (fun _ _ _ h => h) (Or.inl ⟨by rfl,?_⟩) ?_ ?_
 rotate_left
 ·intro w'
  go_simp
  with_reducible rfl
 rotate_left
 ·simp only [Act.put,List.setIfInBounds_toArray,List.set_cons_zero,List.set_cons_succ,i64_w,i32_w]
  rfl
 refine pure_ (i:=5) (N:=some 2) (v:=?_) (a':=?_) #[true,true,true,true,false,true,false] rfl rfl (by kernel_rfl) (fun _ _ _ h => h) (Or.inl ⟨by rfl,?_⟩) ?_ ?_
 rotate_left
 ·intro w'
  go_simp
  with_reducible rfl
 rotate_left
 ·simp only [Act.put,List.setIfInBounds_toArray,List.set_cons_zero,List.set_cons_succ,i64_w,i32_w]
  rfl
 refine take_ (i:=4) (N:=some 25) (v:=?_) (a':=?_) #[true,true,true,true,true,true,false] rfl rfl (by kernel_rfl) (fun _ _ _ h => h) (Or.inl ⟨by rfl,?_⟩) hHeld ?_ ?_
 rotate_left
 ·intro w' s0
  go_simp
  with_reducible rfl
 rotate_left
 ·simp only [Act.put,List.setIfInBounds_toArray,List.set_cons_zero,List.set_cons_succ,i64_w,i32_w]
  rfl
 refine one_ (i:=6) (N:=none) #[true,true,true,true,true,true,true] rfl rfl (by kernel_rfl) (by decide) (fun K hK => ?_)
 have hs8 : w7.cell? ⟨gb258,0,none⟩ = some (.int .u64 0):=(blk_cell BK258.out 0).trans rfl
 have hfs8:=blk_frozen BK258.out 0
 have hns8_0:=NB257_258.out
 have hms8_0:=NB258_257.out
 refine skip_ (w1:=?_) (by rfl) rfl ?_ ?_
 rotate_left
 ·go_simp
  rfl
 refine hK.out _ _ (((cell_far (p:=⟨gb258,_,none⟩) NB257_258.out _).trans (hHeld))) (fun hHeld => ?_)
 clear hK K
 refine done_ (by kernel_rfl) ?_
 try go_wp2
 refine bodyPost_ret (results_tc rfl _ _ gb258 45 #[.int .u64 (IntKind.u64.wrap (a0_0 + 11400714819323198485))] (0,0) _ rfl (by (with_reducible repeat (first|refine blk_drewN ?_ _|refine blk_drew ?_|refine blk_alloc ?_ _));refine blk_put (cs:=#[.int .u64 0]) ?_ 0 _ rfl;(with_reducible repeat (first|refine blk_drewN ?_ _|refine blk_drew ?_|refine blk_alloc ?_ _));exact BK258.out) Try.underlying45 rfl (by kernel_rfl)) rfl ?_
 exact ⟨by first|rfl|(simp [errW_none,errW_some] <;> rfl)|(simp [*,errW_none,errW_some] <;> rfl),by repeat (first|(with_reducible first|exact HB.out|apply below_alloc|apply pw_below_drewN|apply below_drew1|refine below_set ?_ GE257.out|refine below_set ?_ GE258.out)|exact HB.out)⟩

end Go.Proofs.Ytbdijpjlgokfkaa.P

/- Functions of this seat as plain Lean functions, with proofs that the Go code comes to just their answers, or what stands between them and a law's statement; no conditions. (Laid by a program of this session, out of the kit's print.) -/
import Derived.Test.YtbdijpjlgokfkaaPx0
import Derived.Test.YtbdijpjlgokfkaaPx9
import Derived.Test.YtbdijpjlgokfkaaPx10
namespace Go.Proofs.Ytbdijpjlgokfkaa.P
open Go.RowKit Go.Proofs.YtbdijpjlgokfkaaW.PrintWords Go.Proofs.YtbdijpjlgokfkaaW.PrintLast Go.Proofs.YtbdijpjlgokfkaaW.PrintMore
attribute [local go_sem] max2_int min2_int max_two min_two max_three min_three max_four min_four   -- for this text's walks alone
set_option linter.unusedVariables false
set_option linter.unusedSimpArgs false

/-! ### hinterlandref11_deedError: function 46 -/
def hinterlandref11_deedError.f (k : Nat) (a0_0 : Int) (l0_1 : List (S68)) (l0_2 : List Int) (a0_3 : Int) (a0_4 : Int) (a1 : Int) (a2 : Int) : Option (Int) := (hinterlandref11_fields.f k a0_0 l0_1 l0_2 a0_3 a0_4).bind fun t187 => (if t187 = 0 then (if a1 < 0 then (some 1) else (if a1 ≥ 12 then (some 1) else (if a2 < 0 then (some 1) else (if a2 > 7 then (some 1) else (some 0))))) else (some t187))
theorem hinterlandref11_deedError.mono : ∀ a0 a1 a2 a3 a4 a5 a6 k, LeO (hinterlandref11_deedError.f k a0 a1 a2 a3 a4 a5 a6) (hinterlandref11_deedError.f (k + 1) a0 a1 a2 a3 a4 a5 a6) := by
 intro a0 a1 a2 a3 a4 a5 a6 k
 unfold hinterlandref11_deedError.f
 repeat' first
   | (with_reducible exact hinterlandref11_fields.mono _ _ _ _ _ _)
   | (with_reducible exact LeO.refl _)
   | (with_reducible exact LeO.none _)
   | (with_reducible refine LeO.ite ?_ ?_)
   | (with_reducible refine LeO.bind ?_ (fun _ => ?_))
   | exact hinterlandref11_fields.mono _ _ _ _ _ _
   | exact LeO.none _
   | refine LeO.ite ?_ ?_
   | refine LeO.bind ?_ (fun _ => ?_)
set_option maxHeartbeats 8000000 in
set_option maxRecDepth 100000 in
theorem hinterlandref11_deedError.calls (k : Nat) (a0_0 : Int) (A0_1 : Option Addr) (c0_1 : Nat) (l0_1 : List (S68)) (A0_2 : Option Addr) (c0_2 : Nat) (l0_2 : List Int) (a0_3 : Int) (a0_4 : Int) (a1 : Int) (a2 : Int) (r : Int) (w : World) (hr0_1 : Kd.C k68 w A0_1 l0_1.length l0_1) (hc0_1 : l0_1.length ≤ c0_1) (hr0_2 : Kd.C (Kd.int .i64) w A0_2 l0_2.length l0_2) (hc0_2 : l0_2.length ≤ c0_2) (h : hinterlandref11_deedError.f k a0_0 l0_1 l0_2 a0_3 a0_4 a1 a2 = some r) :
  Calls Try.prog 46 #[.agg #[.int .i64 a0_0,.slice A0_1 l0_1.length c0_1,.slice A0_2 l0_2.length c0_2,.int .i64 a0_3,.int .i64 a0_4],.int .i64 a1,.int .i64 a2] w fun e w' => e = .returned (.int .i64 r) ∧ Below w.heap.size w w':=by
 have hu25:=Try.underlying25
 have HR0_1:=Aside0.mk hr0_1
 have HC0_1:=Aside0.mk hc0_1
 clear hr0_1 hc0_1
 have HR0_2:=Aside0.mk hr0_2
 have HC0_2:=Aside0.mk hc0_2
 clear hr0_2 hc0_2
 have HB:=Aside0.mk (Below.refl w.heap.size w)
 have H : ((hinterlandref11_fields.f k a0_0 l0_1 l0_2 a0_3 a0_4).bind fun t187 => (if t187 = 0 then (if a1 < 0 then (some 1) else (if a1 ≥ 12 then (some 1) else (if a2 < 0 then (some 1) else (if a2 > 7 then (some 1) else (some 0))))) else (some t187))) = some r:=h
 clear h
 replace H:=Option.bind_eq_some_iff.mp H
 obtain ⟨t187,A40,H⟩:=H
 replace H : (if t187 = 0 then (if a1 < 0 then (some 1) else (if a1 ≥ 12 then (some 1) else (if a2 < 0 then (some 1) else (if a2 > 7 then (some 1) else (some 0))))) else (some t187)) = some r:=H
 have A4:=Aside0.mk A40
 clear A40
 by_cases c5 : t187 = 0
 ·rw [if_pos c5] at H
  have c5b0 : (t187 == 0) = true:=beq_iff_eq.mpr c5
  have c5b1 : (t187 != 0) = false:=bne_eq_false_iff_eq.mpr c5
  clear c5
  by_cases c6 : a1 < 0
  ·rw [if_pos c6] at H
   have c6b0 : decide (a1 < 0) = true:=decide_eq_true c6
   clear c6
   obtain rfl:=Option.some.inj H
   go_enter Try.func46,Try.ntmps46
   go_wp2_with (first|((with_reducible refine gate_dst (N:=3) rfl ?_);refine box_event ?hg (N:=3) ?hd (cs:=#[.int .i64 a0_0,.slice A0_1 l0_1.length c0_1,.slice A0_2 l0_2.length c0_2,.int .i64 a0_3,.int .i64 a0_4]) (t:=25) ?hr ?_;(case hd => rfl);(case hg => rfl);(case hr => first|(go_simp;done)|(go_simp;rfl));intro gb186 hg w7 hbox hb;have n0_:=Aside0.mk (below_step (by repeat (first|(with_reducible first|exact HB.out|apply below_alloc|apply pw_below_drewN|apply below_drew1)|exact HB.out)) hb);have n1_:=Aside0.mk (hbox);have n2_:=Aside0.mk ((by rw [hg];exact (below_size (by repeat (first|(with_reducible first|exact HB.out|apply below_alloc|apply pw_below_drewN|apply below_drew1)|exact HB.out))) : w.heap.size ≤ gb186));have n3_:=Aside0.mk ((by rw [hg];exact (below_size (by repeat (first|(with_reducible first|exact HB.out|apply below_alloc|apply pw_below_drewN|apply below_drew1)|exact HB.out))) : w.heap.size ≤ gb186));clear HB;have HB:=n0_;have BK186:=n1_;have GW186:=n2_;have GE186:=n3_;clear n0_ n1_ n2_ n3_;clear hb hbox hg;have hcz8_0 : w7.cell? ⟨gb186,0,none⟩ = some (.int .i64 a0_0):=(blk_cell BK186.out 0).trans rfl;have hcz8_1 : w7.cell? ⟨gb186,1,none⟩ = some (.slice A0_1 l0_1.length c0_1):=(blk_cell BK186.out 1).trans rfl;have hcz8_2 : w7.cell? ⟨gb186,2,none⟩ = some (.slice A0_2 l0_2.length c0_2):=(blk_cell BK186.out 2).trans rfl;have hcz8_3 : w7.cell? ⟨gb186,3,none⟩ = some (.int .i64 a0_3):=(blk_cell BK186.out 3).trans rfl;have hcz8_4 : w7.cell? ⟨gb186,4,none⟩ = some (.int .i64 a0_4):=(blk_cell BK186.out 4).trans rfl;have hfz8_0:=blk_frozen BK186.out 0;have hfz8_1:=blk_frozen BK186.out 1;have hfz8_2:=blk_frozen BK186.out 2;have hfz8_3:=blk_frozen BK186.out 3;have hfz8_4:=blk_frozen BK186.out 4)|((with_reducible refine gate_callee (f:=40) rfl ?_);refine goesL_ (some 9) rfl rfl Try.func40 (by kernel_rfl) rfl #[.agg #[.int .i64 a0_0,.slice A0_1 l0_1.length c0_1,.slice A0_2 l0_2.length c0_2,.int .i64 a0_3,.int .i64 a0_4]] rfl (by (try simp only [List.map_toArray,List.map_cons,List.map_nil]);first|done|rfl|(simp only [List.length_drop,List.length_take];rfl)) ?_;(with_reducible refine (hinterlandref11_fields.calls k a0_0 _ _ l0_1 _ _ l0_2 a0_3 a0_4 t187 _ ?side1 ?side2 ?side3 ?side4 A4.out).mono ?_);(case side1 => repeat (first|exact (Kd.C_below HR0_1.out HB.out)|(with_reducible refine Kd.C_alloc ?_ _)|(with_reducible refine Kd.C_drewN ?_ _)|(with_reducible refine Kd.C_drew ?_)));(case side2 => exact HC0_1.out);(case side3 => repeat (first|exact (Kd.C_below HR0_2.out HB.out)|(with_reducible refine Kd.C_alloc ?_ _)|(with_reducible refine Kd.C_drewN ?_ _)|(with_reducible refine Kd.C_drew ?_)));(case side4 => exact HC0_2.out);rintro e w9 ⟨rfl,hb⟩;refine ⟨_,rfl,?_⟩;have n0_:=Aside0.mk (blk_below (g:=gb186) (o:=.cells #[.int .i64 a0_0,.slice A0_1 l0_1.length c0_1,.slice A0_2 l0_2.length c0_2,.int .i64 a0_3,.int .i64 a0_4] 25 (0,0)) (by (with_reducible repeat (first|refine blk_drewN ?_ _|refine blk_drew ?_|refine blk_alloc ?_ _));exact BK186.out) hb);have n1_:=Aside0.mk (below_step (by repeat (first|(with_reducible first|exact HB.out|apply below_alloc|apply pw_below_drewN|apply below_drew1|refine below_set ?_ GE186.out)|exact HB.out)) hb);clear BK186;clear HB;have BK186:=n0_;have HB:=n1_;clear n0_ n1_;(try clear hb);(try clear hb2);(try clear hk);(try clear hi)))
   go_ret
   exact ⟨by first|rfl|(simp [errW_none,errW_some] <;> rfl)|(simp [*,errW_none,errW_some] <;> rfl),by repeat (first|(with_reducible first|exact HB.out|apply below_alloc|apply pw_below_drewN|apply below_drew1|refine below_set ?_ GE186.out)|exact HB.out)⟩
  ·rw [if_neg c6] at H
   have c6b0 : decide (a1 < 0) = false:=decide_eq_false c6
   clear c6
   by_cases c10 : a1 ≥ 12
   ·rw [if_pos c10] at H
    have c10b0 : decide (12 ≤ a1) = true:=decide_eq_true c10
    clear c10
    obtain rfl:=Option.some.inj H
    go_enter Try.func46,Try.ntmps46
    go_wp2_with (first|((with_reducible refine gate_dst (N:=3) rfl ?_);refine box_event ?hg (N:=3) ?hd (cs:=#[.int .i64 a0_0,.slice A0_1 l0_1.length c0_1,.slice A0_2 l0_2.length c0_2,.int .i64 a0_3,.int .i64 a0_4]) (t:=25) ?hr ?_;(case hd => rfl);(case hg => rfl);(case hr => first|(go_simp;done)|(go_simp;rfl));intro gb186 hg w11 hbox hb;have n0_:=Aside0.mk (below_step (by repeat (first|(with_reducible first|exact HB.out|apply below_alloc|apply pw_below_drewN|apply below_drew1)|exact HB.out)) hb);have n1_:=Aside0.mk (hbox);have n2_:=Aside0.mk ((by rw [hg];exact (below_size (by repeat (first|(with_reducible first|exact HB.out|apply below_alloc|apply pw_below_drewN|apply below_drew1)|exact HB.out))) : w.heap.size ≤ gb186));have n3_:=Aside0.mk ((by rw [hg];exact (below_size (by repeat (first|(with_reducible first|exact HB.out|apply below_alloc|apply pw_below_drewN|apply below_drew1)|exact HB.out))) : w.heap.size ≤ gb186));clear HB;have HB:=n0_;have BK186:=n1_;have GW186:=n2_;have GE186:=n3_;clear n0_ n1_ n2_ n3_;clear hb hbox hg;have hcz12_0 : w11.cell? ⟨gb186,0,none⟩ = some (.int .i64 a0_0):=(blk_cell BK186.out 0).trans rfl;have hcz12_1 : w11.cell? ⟨gb186,1,none⟩ = some (.slice A0_1 l0_1.length c0_1):=(blk_cell BK186.out 1).trans rfl;have hcz12_2 : w11.cell? ⟨gb186,2,none⟩ = some (.slice A0_2 l0_2.length c0_2):=(blk_cell BK186.out 2).trans rfl;have hcz12_3 : w11.cell? ⟨gb186,3,none⟩ = some (.int .i64 a0_3):=(blk_cell BK186.out 3).trans rfl;have hcz12_4 : w11.cell? ⟨gb186,4,none⟩ = some (.int .i64 a0_4):=(blk_cell BK186.out 4).trans rfl;have hfz12_0:=blk_frozen BK186.out 0;have hfz12_1:=blk_frozen BK186.out 1;have hfz12_2:=blk_frozen BK186.out 2;have hfz12_3:=blk_frozen BK186.out 3;have hfz12_4:=blk_frozen BK186.out 4)|((with_reducible refine gate_callee (f:=40) rfl ?_);refine goesL_ (some 9) rfl rfl Try.func40 (by kernel_rfl) rfl #[.agg #[.int .i64 a0_0,.slice A0_1 l0_1.length c0_1,.slice A0_2 l0_2.length c0_2,.int .i64 a0_3,.int .i64 a0_4]] rfl (by (try simp only [List.map_toArray,List.map_cons,List.map_nil]);first|done|rfl|(simp only [List.length_drop,List.length_take];rfl)) ?_;(with_reducible refine (hinterlandref11_fields.calls k a0_0 _ _ l0_1 _ _ l0_2 a0_3 a0_4 t187 _ ?side1 ?side2 ?side3 ?side4 A4.out).mono ?_);(case side1 => repeat (first|exact (Kd.C_below HR0_1.out HB.out)|(with_reducible refine Kd.C_alloc ?_ _)|(with_reducible refine Kd.C_drewN ?_ _)|(with_reducible refine Kd.C_drew ?_)));(case side2 => exact HC0_1.out);(case side3 => repeat (first|exact (Kd.C_below HR0_2.out HB.out)|(with_reducible refine Kd.C_alloc ?_ _)|(with_reducible refine Kd.C_drewN ?_ _)|(with_reducible refine Kd.C_drew ?_)));(case side4 => exact HC0_2.out);rintro e w13 ⟨rfl,hb⟩;refine ⟨_,rfl,?_⟩;have n0_:=Aside0.mk (blk_below (g:=gb186) (o:=.cells #[.int .i64 a0_0,.slice A0_1 l0_1.length c0_1,.slice A0_2 l0_2.length c0_2,.int .i64 a0_3,.int .i64 a0_4] 25 (0,0)) (by (with_reducible repeat (first|refine blk_drewN ?_ _|refine blk_drew ?_|refine blk_alloc ?_ _));exact BK186.out) hb);have n1_:=Aside0.mk (below_step (by repeat (first|(with_reducible first|exact HB.out|apply below_alloc|apply pw_below_drewN|apply below_drew1|refine below_set ?_ GE186.out)|exact HB.out)) hb);clear BK186;clear HB;have BK186:=n0_;have HB:=n1_;clear n0_ n1_;(try clear hb);(try clear hb2);(try clear hk);(try clear hi)))
    go_ret
    exact ⟨by first|rfl|(simp [errW_none,errW_some] <;> rfl)|(simp [*,errW_none,errW_some] <;> rfl),by repeat (first|(with_reducible first|exact HB.out|apply below_alloc|apply pw_below_drewN|apply below_drew1|refine below_set ?_ GE186.out)|exact HB.out)⟩
   ·rw [if_neg c10] at H
    have c10b0 : decide (12 ≤ a1) = false:=decide_eq_false c10
    clear c10
    by_cases c14 : a2 < 0
    ·rw [if_pos c14] at H
     have c14b0 : decide (a2 < 0) = true:=decide_eq_true c14
     clear c14
     obtain rfl:=Option.some.inj H
     go_enter Try.func46,Try.ntmps46
     go_wp2_with (first|((with_reducible refine gate_dst (N:=3) rfl ?_);refine box_event ?hg (N:=3) ?hd (cs:=#[.int .i64 a0_0,.slice A0_1 l0_1.length c0_1,.slice A0_2 l0_2.length c0_2,.int .i64 a0_3,.int .i64 a0_4]) (t:=25) ?hr ?_;(case hd => rfl);(case hg => rfl);(case hr => first|(go_simp;done)|(go_simp;rfl));intro gb186 hg w15 hbox hb;have n0_:=Aside0.mk (below_step (by repeat (first|(with_reducible first|exact HB.out|apply below_alloc|apply pw_below_drewN|apply below_drew1)|exact HB.out)) hb);have n1_:=Aside0.mk (hbox);have n2_:=Aside0.mk ((by rw [hg];exact (below_size (by repeat (first|(with_reducible first|exact HB.out|apply below_alloc|apply pw_below_drewN|apply below_drew1)|exact HB.out))) : w.heap.size ≤ gb186));have n3_:=Aside0.mk ((by rw [hg];exact (below_size (by repeat (first|(with_reducible first|exact HB.out|apply below_alloc|apply pw_below_drewN|apply below_drew1)|exact HB.out))) : w.heap.size ≤ gb186));clear HB;have HB:=n0_;have BK186:=n1_;have GW186:=n2_;have GE186:=n3_;clear n0_ n1_ n2_ n3_;clear hb hbox hg;have hcz16_0 : w15.cell? ⟨gb186,0,none⟩ = some (.int .i64 a0_0):=(blk_cell BK186.out 0).trans rfl;have hcz16_1 : w15.cell? ⟨gb186,1,none⟩ = some (.slice A0_1 l0_1.length c0_1):=(blk_cell BK186.out 1).trans rfl;have hcz16_2 : w15.cell? ⟨gb186,2,none⟩ = some (.slice A0_2 l0_2.length c0_2):=(blk_cell BK186.out 2).trans rfl;have hcz16_3 : w15.cell? ⟨gb186,3,none⟩ = some (.int .i64 a0_3):=(blk_cell BK186.out 3).trans rfl;have hcz16_4 : w15.cell? ⟨gb186,4,none⟩ = some (.int .i64 a0_4):=(blk_cell BK186.out 4).trans rfl;have hfz16_0:=blk_frozen BK186.out 0;have hfz16_1:=blk_frozen BK186.out 1;have hfz16_2:=blk_frozen BK186.out 2;have hfz16_3:=blk_frozen BK186.out 3;have hfz16_4:=blk_frozen BK186.out 4)|((with_reducible refine gate_callee (f:=40) rfl ?_);refine goesL_ (some 9) rfl rfl Try.func40 (by kernel_rfl) rfl #[.agg #[.int .i64 a0_0,.slice A0_1 l0_1.length c0_1,.slice A0_2 l0_2.length c0_2,.int .i64 a0_3,.int .i64 a0_4]] rfl (by (try simp only [List.map_toArray,List.map_cons,List.map_nil]);first|done|rfl|(simp only [List.length_drop,List.length_take];rfl)) ?_;(with_reducible refine (hinterlandref11_fields.calls k a0_0 _ _ l0_1 _ _ l0_2 a0_3 a0_4 t187 _ ?side1 ?side2 ?side3 ?side4 A4.out).mono ?_);(case side1 => repeat (first|exact (Kd.C_below HR0_1.out HB.out)|(with_reducible refine Kd.C_alloc ?_ _)|(with_reducible refine Kd.C_drewN ?_ _)|(with_reducible refine Kd.C_drew ?_)));(case side2 => exact HC0_1.out);(case side3 => repeat (first|exact (Kd.C_below HR0_2.out HB.out)|(with_reducible refine Kd.C_alloc ?_ _)|(with_reducible refine Kd.C_drewN ?_ _)|(with_reducible refine Kd.C_drew ?_)));(case side4 => exact HC0_2.out);rintro e w17 ⟨rfl,hb⟩;refine ⟨_,rfl,?_⟩;have n0_:=Aside0.mk (blk_below (g:=gb186) (o:=.cells #[.int .i64 a0_0,.slice A0_1 l0_1.length c0_1,.slice A0_2 l0_2.length c0_2,.int .i64 a0_3,.int .i64 a0_4] 25 (0,0)) (by (with_reducible repeat (first|refine blk_drewN ?_ _|refine blk_drew ?_|refine blk_alloc ?_ _));exact BK186.out) hb);have n1_:=Aside0.mk (below_step (by repeat (first|(with_reducible first|exact HB.out|apply below_alloc|apply pw_below_drewN|apply below_drew1|refine below_set ?_ GE186.out)|exact HB.out)) hb);clear BK186;clear HB;have BK186:=n0_;have HB:=n1_;clear n0_ n1_;(try clear hb);(try clear hb2);(try clear hk);(try clear hi)))
     go_ret
     exact ⟨by first|rfl|(simp [errW_none,errW_some] <;> rfl)|(simp [*,errW_none,errW_some] <;> rfl),by repeat (first|(with_reducible first|exact HB.out|apply below_alloc|apply pw_below_drewN|apply below_drew1|refine below_set ?_ GE186.out)|exact HB.out)⟩
    ·rw [if_neg c14] at H
     have c14b0 : decide (a2 < 0) = false:=decide_eq_false c14
     clear c14
     by_cases c18 : a2 > 7
     ·rw [if_pos c18] at H
      have c18b0 : decide (7 < a2) = true:=decide_eq_true c18
      clear c18
      obtain rfl:=Option.some.inj H
      go_enter Try.func46,Try.ntmps46
      go_wp2_with (first|((with_reducible refine gate_dst (N:=3) rfl ?_);refine box_event ?hg (N:=3) ?hd (cs:=#[.int .i64 a0_0,.slice A0_1 l0_1.length c0_1,.slice A0_2 l0_2.length c0_2,.int .i64 a0_3,.int .i64 a0_4]) (t:=25) ?hr ?_;(case hd => rfl);(case hg => rfl);(case hr => first|(go_simp;done)|(go_simp;rfl));intro gb186 hg w19 hbox hb;have n0_:=Aside0.mk (below_step (by repeat (first|(with_reducible first|exact HB.out|apply below_alloc|apply pw_below_drewN|apply below_drew1)|exact HB.out)) hb);have n1_:=Aside0.mk (hbox);have n2_:=Aside0.mk ((by rw [hg];exact (below_size (by repeat (first|(with_reducible first|exact HB.out|apply below_alloc|apply pw_below_drewN|apply below_drew1)|exact HB.out))) : w.heap.size ≤ gb186));have n3_:=Aside0.mk ((by rw [hg];exact (below_size (by repeat (first|(with_reducible first|exact HB.out|apply below_alloc|apply pw_below_drewN|apply below_drew1)|exact HB.out))) : w.heap.size ≤ gb186));clear HB;have HB:=n0_;have BK186:=n1_;have GW186:=n2_;have GE186:=n3_;clear n0_ n1_ n2_ n3_;clear hb hbox hg;have hcz20_0 : w19.cell? ⟨gb186,0,none⟩ = some (.int .i64 a0_0):=(blk_cell BK186.out 0).trans rfl;have hcz20_1 : w19.cell? ⟨gb186,1,none⟩ = some (.slice A0_1 l0_1.length c0_1):=(blk_cell BK186.out 1).trans rfl;have hcz20_2 : w19.cell? ⟨gb186,2,none⟩ = some (.slice A0_2 l0_2.length c0_2):=(blk_cell BK186.out 2).trans rfl;have hcz20_3 : w19.cell? ⟨gb186,3,none⟩ = some (.int .i64 a0_3):=(blk_cell BK186.out 3).trans rfl;have hcz20_4 : w19.cell? ⟨gb186,4,none⟩ = some (.int .i64 a0_4):=(blk_cell BK186.out 4).trans rfl;have hfz20_0:=blk_frozen BK186.out 0;have hfz20_1:=blk_frozen BK186.out 1;have hfz20_2:=blk_frozen BK186.out 2;have hfz20_3:=blk_frozen BK186.out 3;have hfz20_4:=blk_frozen BK186.out 4)|((with_reducible refine gate_callee (f:=40) rfl ?_);refine goesL_ (some 9) rfl rfl Try.func40 (by kernel_rfl) rfl #[.agg #[.int .i64 a0_0,.slice A0_1 l0_1.length c0_1,.slice A0_2 l0_2.length c0_2,.int .i64 a0_3,.int .i64 a0_4]] rfl (by (try simp only [List.map_toArray,List.map_cons,List.map_nil]);first|done|rfl|(simp only [List.length_drop,List.length_take];rfl)) ?_;(with_reducible refine (hinterlandref11_fields.calls k a0_0 _ _ l0_1 _ _ l0_2 a0_3 a0_4 t187 _ ?side1 ?side2 ?side3 ?side4 A4.out).mono ?_);(case side1 => repeat (first|exact (Kd.C_below HR0_1.out HB.out)|(with_reducible refine Kd.C_alloc ?_ _)|(with_reducible refine Kd.C_drewN ?_ _)|(with_reducible refine Kd.C_drew ?_)));(case side2 => exact HC0_1.out);(case side3 => repeat (first|exact (Kd.C_below HR0_2.out HB.out)|(with_reducible refine Kd.C_alloc ?_ _)|(with_reducible refine Kd.C_drewN ?_ _)|(with_reducible refine Kd.C_drew ?_)));(case side4 => exact HC0_2.out);rintro e w21 ⟨rfl,hb⟩;refine ⟨_,rfl,?_⟩;have n0_:=Aside0.mk (blk_below (g:=gb186) (o:=.cells #[.int .i64 a0_0,.slice A0_1 l0_1.length c0_1,.slice A0_2 l0_2.length c0_2,.int .i64 a0_3,.int .i64 a0_4] 25 (0,0)) (by (with_reducible repeat (first|refine blk_drewN ?_ _|refine blk_drew ?_|refine blk_alloc ?_ _));exact BK186.out) hb);have n1_:=Aside0.mk (below_step (by repeat (first|(with_reducible first|exact HB.out|apply below_alloc|apply pw_below_drewN|apply below_drew1|refine below_set ?_ GE186.out)|exact HB.out)) hb);clear BK186;clear HB;have BK186:=n0_;have HB:=n1_;clear n0_ n1_;(try clear hb);(try clear hb2);(try clear hk);(try clear hi)))
      go_ret
      exact ⟨by first|rfl|(simp [errW_none,errW_some] <;> rfl)|(simp [*,errW_none,errW_some] <;> rfl),by repeat (first|(with_reducible first|exact HB.out|apply below_alloc|apply pw_below_drewN|apply below_drew1|refine below_set ?_ GE186.out)|exact HB.out)⟩
     ·rw [if_neg c18] at H
      have c18b0 : decide (7 < a2) = false:=decide_eq_false c18
      clear c18
      obtain rfl:=Option.some.inj H
      go_enter Try.func46,Try.ntmps46
      go_wp2_with (first|((with_reducible refine gate_dst (N:=3) rfl ?_);refine box_event ?hg (N:=3) ?hd (cs:=#[.int .i64 a0_0,.slice A0_1 l0_1.length c0_1,.slice A0_2 l0_2.length c0_2,.int .i64 a0_3,.int .i64 a0_4]) (t:=25) ?hr ?_;(case hd => rfl);(case hg => rfl);(case hr => first|(go_simp;done)|(go_simp;rfl));intro gb186 hg w22 hbox hb;have n0_:=Aside0.mk (below_step (by repeat (first|(with_reducible first|exact HB.out|apply below_alloc|apply pw_below_drewN|apply below_drew1)|exact HB.out)) hb);have n1_:=Aside0.mk (hbox);have n2_:=Aside0.mk ((by rw [hg];exact (below_size (by repeat (first|(with_reducible first|exact HB.out|apply below_alloc|apply pw_below_drewN|apply below_drew1)|exact HB.out))) : w.heap.size ≤ gb186));have n3_:=Aside0.mk ((by rw [hg];exact (below_size (by repeat (first|(with_reducible first|exact HB.out|apply below_alloc|apply pw_below_drewN|apply below_drew1)|exact HB.out))) : w.heap.size ≤ gb186));clear HB;have HB:=n0_;have BK186:=n1_;have GW186:=n2_;have GE186:=n3_;clear n0_ n1_ n2_ n3_;clear hb hbox hg;have hcz23_0 : w22.cell? ⟨gb186,0,none⟩ = some (.int .i64 a0_0):=(blk_cell BK186.out 0).trans rfl;have hcz23_1 : w22.cell? ⟨gb186,1,none⟩ = some (.slice A0_1 l0_1.length c0_1):=(blk_cell BK186.out 1).trans rfl;have hcz23_2 : w22.cell? ⟨gb186,2,none⟩ = some (.slice A0_2 l0_2.length c0_2):=(blk_cell BK186.out 2).trans rfl;have hcz23_3 : w22.cell? ⟨gb186,3,none⟩ = some (.int .i64 a0_3):=(blk_cell BK186.out 3).trans rfl;have hcz23_4 : w22.cell? ⟨gb186,4,none⟩ = some (.int .i64 a0_4):=(blk_cell BK186.out 4).trans rfl;have hfz23_0:=blk_frozen BK186.out 0;have hfz23_1:=blk_frozen BK186.out 1;have hfz23_2:=blk_frozen BK186.out 2;have hfz23_3:=blk_frozen BK186.out 3;have hfz23_4:=blk_frozen BK186.out 4)|((with_reducible refine gate_callee (f:=40) rfl ?_);refine goesL_ (some 9) rfl rfl Try.func40 (by kernel_rfl) rfl #[.agg #[.int .i64 a0_0,.slice A0_1 l0_1.length c0_1,.slice A0_2 l0_2.length c0_2,.int .i64 a0_3,.int .i64 a0_4]] rfl (by (try simp only [List.map_toArray,List.map_cons,List.map_nil]);first|done|rfl|(simp only [List.length_drop,List.length_take];rfl)) ?_;(with_reducible refine (hinterlandref11_fields.calls k a0_0 _ _ l0_1 _ _ l0_2 a0_3 a0_4 t187 _ ?side1 ?side2 ?side3 ?side4 A4.out).mono ?_);(case side1 => repeat (first|exact (Kd.C_below HR0_1.out HB.out)|(with_reducible refine Kd.C_alloc ?_ _)|(with_reducible refine Kd.C_drewN ?_ _)|(with_reducible refine Kd.C_drew ?_)));(case side2 => exact HC0_1.out);(case side3 => repeat (first|exact (Kd.C_below HR0_2.out HB.out)|(with_reducible refine Kd.C_alloc ?_ _)|(with_reducible refine Kd.C_drewN ?_ _)|(with_reducible refine Kd.C_drew ?_)));(case side4 => exact HC0_2.out);rintro e w24 ⟨rfl,hb⟩;refine ⟨_,rfl,?_⟩;have n0_:=Aside0.mk (blk_below (g:=gb186) (o:=.cells #[.int .i64 a0_0,.slice A0_1 l0_1.length c0_1,.slice A0_2 l0_2.length c0_2,.int .i64 a0_3,.int .i64 a0_4] 25 (0,0)) (by (with_reducible repeat (first|refine blk_drewN ?_ _|refine blk_drew ?_|refine blk_alloc ?_ _));exact BK186.out) hb);have n1_:=Aside0.mk (below_step (by repeat (first|(with_reducible first|exact HB.out|apply below_alloc|apply pw_below_drewN|apply below_drew1|refine below_set ?_ GE186.out)|exact HB.out)) hb);clear BK186;clear HB;have BK186:=n0_;have HB:=n1_;clear n0_ n1_;(try clear hb);(try clear hb2);(try clear hk);(try clear hi)))
      go_ret
      exact ⟨by first|rfl|(simp [errW_none,errW_some] <;> rfl)|(simp [*,errW_none,errW_some] <;> rfl),by repeat (first|(with_reducible first|exact HB.out|apply below_alloc|apply pw_below_drewN|apply below_drew1|refine below_set ?_ GE186.out)|exact HB.out)⟩
 ·rw [if_neg c5] at H
  have c5b0 : (t187 == 0) = false:=beq_eq_false_iff_ne.mpr c5
  have c5b1 : (t187 != 0) = true:=bne_iff_ne.mpr c5
  obtain rfl:=Option.some.inj H
  go_enter Try.func46,Try.ntmps46
  go_wp2_with (first|((with_reducible refine gate_dst (N:=3) rfl ?_);refine box_event ?hg (N:=3) ?hd (cs:=#[.int .i64 a0_0,.slice A0_1 l0_1.length c0_1,.slice A0_2 l0_2.length c0_2,.int .i64 a0_3,.int .i64 a0_4]) (t:=25) ?hr ?_;(case hd => rfl);(case hg => rfl);(case hr => first|(go_simp;done)|(go_simp;rfl));intro gb186 hg w25 hbox hb;have n0_:=Aside0.mk (below_step (by repeat (first|(with_reducible first|exact HB.out|apply below_alloc|apply pw_below_drewN|apply below_drew1)|exact HB.out)) hb);have n1_:=Aside0.mk (hbox);have n2_:=Aside0.mk ((by rw [hg];exact (below_size (by repeat (first|(with_reducible first|exact HB.out|apply below_alloc|apply pw_below_drewN|apply below_drew1)|exact HB.out))) : w.heap.size ≤ gb186));have n3_:=Aside0.mk ((by rw [hg];exact (below_size (by repeat (first|(with_reducible first|exact HB.out|apply below_alloc|apply pw_below_drewN|apply below_drew1)|exact HB.out))) : w.heap.size ≤ gb186));clear HB;have HB:=n0_;have BK186:=n1_;have GW186:=n2_;have GE186:=n3_;clear n0_ n1_ n2_ n3_;clear hb hbox hg;have hcz26_0 : w25.cell? ⟨gb186,0,none⟩ = some (.int .i64 a0_0):=(blk_cell BK186.out 0).trans rfl;have hcz26_1 : w25.cell? ⟨gb186,1,none⟩ = some (.slice A0_1 l0_1.length c0_1):=(blk_cell BK186.out 1).trans rfl;have hcz26_2 : w25.cell? ⟨gb186,2,none⟩ = some (.slice A0_2 l0_2.length c0_2):=(blk_cell BK186.out 2).trans rfl;have hcz26_3 : w25.cell? ⟨gb186,3,none⟩ = some (.int .i64 a0_3):=(blk_cell BK186.out 3).trans rfl;have hcz26_4 : w25.cell? ⟨gb186,4,none⟩ = some (.int .i64 a0_4):=(blk_cell BK186.out 4).trans rfl;have hfz26_0:=blk_frozen BK186.out 0;have hfz26_1:=blk_frozen BK186.out 1;have hfz26_2:=blk_frozen BK186.out 2;have hfz26_3:=blk_frozen BK186.out 3;have hfz26_4:=blk_frozen BK186.out 4)|((with_reducible refine gate_callee (f:=40) rfl ?_);refine goesL_ (some 9) rfl rfl Try.func40 (by kernel_rfl) rfl #[.agg #[.int .i64 a0_0,.slice A0_1 l0_1.length c0_1,.slice A0_2 l0_2.length c0_2,.int .i64 a0_3,.int .i64 a0_4]] rfl (by (try simp only [List.map_toArray,List.map_cons,List.map_nil]);first|done|rfl|(simp only [List.length_drop,List.length_take];rfl)) ?_;(with_reducible refine (hinterlandref11_fields.calls k a0_0 _ _ l0_1 _ _ l0_2 a0_3 a0_4 t187 _ ?side1 ?side2 ?side3 ?side4 A4.out).mono ?_);(case side1 => repeat (first|exact (Kd.C_below HR0_1.out HB.out)|(with_reducible refine Kd.C_alloc ?_ _)|(with_reducible refine Kd.C_drewN ?_ _)|(with_reducible refine Kd.C_drew ?_)));(case side2 => exact HC0_1.out);(case side3 => repeat (first|exact (Kd.C_below HR0_2.out HB.out)|(with_reducible refine Kd.C_alloc ?_ _)|(with_reducible refine Kd.C_drewN ?_ _)|(with_reducible refine Kd.C_drew ?_)));(case side4 => exact HC0_2.out);rintro e w27 ⟨rfl,hb⟩;refine ⟨_,rfl,?_⟩;have n0_:=Aside0.mk (blk_below (g:=gb186) (o:=.cells #[.int .i64 a0_0,.slice A0_1 l0_1.length c0_1,.slice A0_2 l0_2.length c0_2,.int .i64 a0_3,.int .i64 a0_4] 25 (0,0)) (by (with_reducible repeat (first|refine blk_drewN ?_ _|refine blk_drew ?_|refine blk_alloc ?_ _));exact BK186.out) hb);have n1_:=Aside0.mk (below_step (by repeat (first|(with_reducible first|exact HB.out|apply below_alloc|apply pw_below_drewN|apply below_drew1|refine below_set ?_ GE186.out)|exact HB.out)) hb);clear BK186;clear HB;have BK186:=n0_;have HB:=n1_;clear n0_ n1_;(try clear hb);(try clear hb2);(try clear hk);(try clear hi)))
  go_ret
  exact ⟨by first|rfl|(simp [errW_none,errW_some] <;> rfl)|(simp [*,errW_none,errW_some] <;> rfl),by repeat (first|(with_reducible first|exact HB.out|apply below_alloc|apply pw_below_drewN|apply below_drew1|refine below_set ?_ GE186.out)|exact HB.out)⟩

/-! ### hinterlandref11_change: function 47 -/
def hinterlandref11_change.j0 : Nat → Int → Bool → Option (Int)
 | 0,_,_ => none
 | k + 1,x3,x6 => if x6 = true then (some (-20)) else (if x3 = 2 then (some 10) else (if x3 = 3 then (some (-50)) else (if x3 = 5 then (some 15) else (if x3 = 6 then (some (-400)) else (some 150)))))
def hinterlandref11_change.f (k : Nat) (a0 : Int) : Option (Int) := if a0 = 0 then (some (-150)) else (if a0 = 1 then (hinterlandref11_change.j0 k a0 (a0 == 1)) else (hinterlandref11_change.j0 k a0 (a0 == 4)))
theorem hinterlandref11_change.mono_l : ∀ k, (∀ y0 y1, LeO (hinterlandref11_change.j0 k y0 y1) (hinterlandref11_change.j0 (k + 1) y0 y1))
 | 0 => fun _ _ r h => by simp [hinterlandref11_change.j0] at h
 | k + 1 => by
  have ih0:=hinterlandref11_change.mono_l k
  ·intro y0 y1
   unfold hinterlandref11_change.j0
   repeat' first
   | (with_reducible exact ih0 _ _)
   | (with_reducible exact LeO.refl _)
   | (with_reducible exact LeO.none _)
   | (with_reducible refine LeO.ite ?_ ?_)
   | (with_reducible refine LeO.bind ?_ (fun _ => ?_))
   | exact ih0 _ _
   | exact LeO.none _
   | refine LeO.ite ?_ ?_
   | refine LeO.bind ?_ (fun _ => ?_)
theorem hinterlandref11_change.mono : ∀ a0 k, LeO (hinterlandref11_change.f k a0) (hinterlandref11_change.f (k + 1) a0) := by
 intro a0 k
 have ih0:=hinterlandref11_change.mono_l k
 unfold hinterlandref11_change.f
 repeat' first
   | (with_reducible exact ih0 _ _)
   | (with_reducible exact LeO.refl _)
   | (with_reducible exact LeO.none _)
   | (with_reducible refine LeO.ite ?_ ?_)
   | (with_reducible refine LeO.bind ?_ (fun _ => ?_))
   | exact ih0 _ _
   | exact LeO.none _
   | refine LeO.ite ?_ ?_
   | refine LeO.bind ?_ (fun _ => ?_)
set_option maxHeartbeats 8000000 in
set_option maxRecDepth 100000 in
theorem hinterlandref11_change.calls (k : Nat) (a0 : Int) (r : Int) (w : World) (h : hinterlandref11_change.f k a0 = some r) :
  Calls Try.prog 47 #[.int .i64 a0] w fun e w' => e = .returned (.int .i64 r) ∧ Drawn0 w w':=by
 have H : (if a0 = 0 then (some (-150)) else (if a0 = 1 then (hinterlandref11_change.j0 k a0 (a0 == 1)) else (hinterlandref11_change.j0 k a0 (a0 == 4)))) = some r:=h
 clear h
 by_cases c2 : a0 = 0
 ·rw [if_pos c2] at H
  have c2b0 : (a0 == 0) = true:=beq_iff_eq.mpr c2
  have c2b1 : (a0 != 0) = false:=bne_eq_false_iff_eq.mpr c2
  clear c2
  obtain rfl:=Option.some.inj H
  go_enter Try.func47,Try.ntmps47
  go_wp2
  go_ret
  exact ⟨by first|rfl|(simp;done)|(simp [*];done),by repeat (first|exact Drawn0.refl _|apply Drawn0.step)⟩
 ·rw [if_neg c2] at H
  have c2b0 : (a0 == 0) = false:=beq_eq_false_iff_ne.mpr c2
  have c2b1 : (a0 != 0) = true:=bne_iff_ne.mpr c2
  have HC3:=Aside0.mk H
  clear H
  go_enter Try.func47,Try.ntmps47
  go_upto_if 6 with (fail)
  go_cut [6] (fun v6 wc => ∃ (kq : Nat) (x6_2 : Bool),v6 = .bool x6_2 ∧ Aside0 (hinterlandref11_change.j0 kq a0 x6_2 = some r) ∧ Aside0 (kq ≤ k) ∧ Drawn0 w wc)
  case first =>
   have H:=HC3.out
   clear HC3
   by_cases c4 : a0 = 1
   ·rw [if_pos c4] at H
    have c4b0 : (a0 == 1) = true:=beq_iff_eq.mpr c4
    have c4b1 : (a0 != 1) = false:=bne_eq_false_iff_eq.mpr c4
    clear c4
    (first|rw [c4b0]|(simp only [i64_w,i32_w];rw [c4b0])|skip)
    have H':=Aside0.mk H
    clear H
    go_wp2
    go_meet
    case rel => exact ⟨_,((a0 == 1)),(by first|rfl|(simp;done)|(simp [*];done)),H',⟨by first|omega|exact Nat.le_refl _⟩,by repeat (first|exact Drawn0.refl _|apply Drawn0.step)⟩
   ·rw [if_neg c4] at H
    have c4b0 : (a0 == 1) = false:=beq_eq_false_iff_ne.mpr c4
    have c4b1 : (a0 != 1) = true:=bne_iff_ne.mpr c4
    (first|rw [c4b0]|(simp only [i64_w,i32_w];rw [c4b0])|skip)
    have H':=Aside0.mk H
    clear H
    go_wp2
    go_meet
    case rel => exact ⟨_,((a0 == 4)),(by first|rfl|(simp;done)|(simp [*];done)),H',⟨by first|omega|exact Nat.le_refl _⟩,by repeat (first|exact Drawn0.refl _|apply Drawn0.step)⟩
  case rest =>
   clear HC3
   try clear c2
   try clear c2b0
   try clear c2b1
   try clear p2
   try clear c4
   try clear c4b0
   try clear c4b1
   obtain ⟨kq,x6_2,rfl,HA,HJ2,⟨mc2,rfl⟩⟩:=hcut
   cases kq with
   | zero => exact absurd HA.out (by simp [hinterlandref11_change.j0])
   | succ kj2 =>
    have H:=HA.out
    clear HA
    simp only [hinterlandref11_change.j0] at H
    by_cases c5 : x6_2 = true
    ·subst c5
     have H1 : (some (-20)) = some r:=by rw [if_pos rfl] at H;exact H
     clear H
     have H:=H1
     clear H1
     obtain rfl:=Option.some.inj H
     go_wp2
     go_ret
     exact ⟨by first|rfl|(simp;done)|(simp [*];done),by repeat (first|exact Drawn0.refl _|apply Drawn0.step)⟩
    ·replace c5:=Bool.eq_false_iff.mpr c5
     subst c5
     have H1 : (if a0 = 2 then (some 10) else (if a0 = 3 then (some (-50)) else (if a0 = 5 then (some 15) else (if a0 = 6 then (some (-400)) else (some 150))))) = some r:=by rw [if_neg (show ¬ (false = true) by decide)] at H;exact H
     clear H
     have H:=H1
     clear H1
     by_cases c6 : a0 = 2
     ·rw [if_pos c6] at H
      have c6b0 : (a0 == 2) = true:=beq_iff_eq.mpr c6
      have c6b1 : (a0 != 2) = false:=bne_eq_false_iff_eq.mpr c6
      clear c6
      obtain rfl:=Option.some.inj H
      go_wp2
      go_ret
      exact ⟨by first|rfl|(simp;done)|(simp [*];done),by repeat (first|exact Drawn0.refl _|apply Drawn0.step)⟩
     ·rw [if_neg c6] at H
      have c6b0 : (a0 == 2) = false:=beq_eq_false_iff_ne.mpr c6
      have c6b1 : (a0 != 2) = true:=bne_iff_ne.mpr c6
      by_cases c7 : a0 = 3
      ·rw [if_pos c7] at H
       have c7b0 : (a0 == 3) = true:=beq_iff_eq.mpr c7
       have c7b1 : (a0 != 3) = false:=bne_eq_false_iff_eq.mpr c7
       clear c7
       obtain rfl:=Option.some.inj H
       go_wp2
       go_ret
       exact ⟨by first|rfl|(simp;done)|(simp [*];done),by repeat (first|exact Drawn0.refl _|apply Drawn0.step)⟩
      ·rw [if_neg c7] at H
       have c7b0 : (a0 == 3) = false:=beq_eq_false_iff_ne.mpr c7
       have c7b1 : (a0 != 3) = true:=bne_iff_ne.mpr c7
       by_cases c8 : a0 = 5
       ·rw [if_pos c8] at H
        have c8b0 : (a0 == 5) = true:=beq_iff_eq.mpr c8
        have c8b1 : (a0 != 5) = false:=bne_eq_false_iff_eq.mpr c8
        clear c8
        obtain rfl:=Option.some.inj H
        go_wp2
        go_ret
        exact ⟨by first|rfl|(simp;done)|(simp [*];done),by repeat (first|exact Drawn0.refl _|apply Drawn0.step)⟩
       ·rw [if_neg c8] at H
        have c8b0 : (a0 == 5) = false:=beq_eq_false_iff_ne.mpr c8
        have c8b1 : (a0 != 5) = true:=bne_iff_ne.mpr c8
        by_cases c9 : a0 = 6
        ·rw [if_pos c9] at H
         have c9b0 : (a0 == 6) = true:=beq_iff_eq.mpr c9
         have c9b1 : (a0 != 6) = false:=bne_eq_false_iff_eq.mpr c9
         clear c9
         obtain rfl:=Option.some.inj H
         go_wp2
         go_ret
         exact ⟨by first|rfl|(simp;done)|(simp [*];done),by repeat (first|exact Drawn0.refl _|apply Drawn0.step)⟩
        ·rw [if_neg c9] at H
         have c9b0 : (a0 == 6) = false:=beq_eq_false_iff_ne.mpr c9
         have c9b1 : (a0 != 6) = true:=bne_iff_ne.mpr c9
         obtain rfl:=Option.some.inj H
         go_wp2
         go_ret
         exact ⟨by first|rfl|(simp;done)|(simp [*];done),by repeat (first|exact Drawn0.refl _|apply Drawn0.step)⟩

/-! ### hinterlandref11_Feel: function 20 -/
def hinterlandref11_Feel.f (k : Nat) (a0_0 : Int) (l0_1 : List (S68)) (l0_2 : List Int) (a0_3 : Int) (a0_4 : Int) (a1 : Int) (a2 : Int) : Option (Int × (List (S68)) × List Int × Int × Int × Int) := (hinterlandref11_deedError.f k a0_0 l0_1 l0_2 a0_3 a0_4 a1 a2).bind fun t190 => (if t190 = 0 then ((hinterlandref11_Copy.f a0_0 l0_1 l0_2 a0_3 a0_4).bind fun bt191 => (if 0 ≤ a1 then (if a1 < (bt191.2.2.1.length : Int) then ((hinterlandref11_change.f k a2).bind fun t201 => (some (bt191.1, bt191.2.1, (bt191.2.2.1.set (a1 : Int).toNat (mx (-1000) (mn 1000 (wrap64 ((rd bt191.2.2.1 a1) + t201))))), bt191.2.2.2.1, bt191.2.2.2.2, 0))) else (none)) else (none))) else (some (0, ([] : List (S68)), ([] : List Int), 0, 0, t190)))
theorem hinterlandref11_Feel.mono : ∀ a0 a1 a2 a3 a4 a5 a6 k, LeO (hinterlandref11_Feel.f k a0 a1 a2 a3 a4 a5 a6) (hinterlandref11_Feel.f (k + 1) a0 a1 a2 a3 a4 a5 a6) := by
 intro a0 a1 a2 a3 a4 a5 a6 k
 unfold hinterlandref11_Feel.f
 repeat' first
   | (with_reducible exact hinterlandref11_change.mono _ _)
   | (with_reducible exact hinterlandref11_deedError.mono _ _ _ _ _ _ _ _)
   | (with_reducible exact LeO.refl _)
   | (with_reducible exact LeO.none _)
   | (with_reducible refine LeO.ite ?_ ?_)
   | (with_reducible refine LeO.bind ?_ (fun _ => ?_))
   | exact hinterlandref11_change.mono _ _
   | exact hinterlandref11_deedError.mono _ _ _ _ _ _ _ _
   | exact LeO.none _
   | refine LeO.ite ?_ ?_
   | refine LeO.bind ?_ (fun _ => ?_)
def hinterlandref11_Feel.T5 : Bool × List (List Nat × List Nat) := (true, [([], []), ([0], [0]), ([], []), ([], []), ([3], [3]), ([], []), ([4, 5], [4, 5]), ([6], [6]), ([], []), ([8], [8]), ([7, 9], [7, 9]), ([10], [10]), ([11], [11]), ([1, 2, 0, 1, 2, 3, 4, 5, 6, 7, 8, 9, 10, 11, 12], [1, 2]), ([13, 12, 9, 0, 1, 2, 3, 4, 5, 6, 7, 8, 9, 10, 11, 12], [12, 13])])
def hinterlandref11_Feel.B5 : List Nat := [0, 1, 0, 0, 8, 0, 56, 120, 0, 256, 1016, 2040, 4088, 8191, 16383]
theorem hinterlandref11_Feel.tab5 : rtab .any (opsOf Try.f20 5) = hinterlandref11_Feel.T5 := by kernel_rfl
theorem hinterlandref11_Feel.bits5 : waitsOk hinterlandref11_Feel.T5.2 hinterlandref11_Feel.B5 = true := by kernel_rfl
set_option maxHeartbeats 8000000 in
set_option maxRecDepth 100000 in
theorem hinterlandref11_Feel.calls (k : Nat) (a0_0 : Int) (A0_1 : Option Addr) (c0_1 : Nat) (l0_1 : List (S68)) (A0_2 : Option Addr) (c0_2 : Nat) (l0_2 : List Int) (a0_3 : Int) (a0_4 : Int) (a1 : Int) (a2 : Int) (r1 : Int) (r2 : List (S68)) (r3 : List Int) (r4 : Int) (r5 : Int) (r6 : Int) (w : World) (hr0_1 : Kd.C k68 w A0_1 l0_1.length l0_1) (hc0_1 : l0_1.length ≤ c0_1) (hr0_2 : Kd.C (Kd.int .i64) w A0_2 l0_2.length l0_2) (hc0_2 : l0_2.length ≤ c0_2) (h : hinterlandref11_Feel.f k a0_0 l0_1 l0_2 a0_3 a0_4 a1 a2 = some (r1, r2, r3, r4, r5, r6)) :
  Calls Try.prog 20 #[.agg #[.int .i64 a0_0,.slice A0_1 l0_1.length c0_1,.slice A0_2 l0_2.length c0_2,.int .i64 a0_3,.int .i64 a0_4],.int .i64 a1,.int .i64 a2] w fun e w' => ∃ v1_ v2_ : Value,e = .returned (.tuple #[.agg #[.int .i64 r1,v1_,v2_,.int .i64 r4,.int .i64 r5],.int .i64 r6]) ∧ Kd.R k68 68 w' w.heap.size (fun _ => True) v1_ r2 ∧ Kd.R (Kd.int .i64) 3 w' w.heap.size (fun _ => True) v2_ r3 ∧ Below w.heap.size w w':=by
 have hu25:=Try.underlying25
 have HR0_1:=Aside0.mk hr0_1
 have HC0_1:=Aside0.mk hc0_1
 clear hr0_1 hc0_1
 have HR0_2:=Aside0.mk hr0_2
 have HC0_2:=Aside0.mk hc0_2
 clear hr0_2 hc0_2
 have HB:=Aside0.mk (Below.refl w.heap.size w)
 have H : ((hinterlandref11_deedError.f k a0_0 l0_1 l0_2 a0_3 a0_4 a1 a2).bind fun t190 => (if t190 = 0 then ((hinterlandref11_Copy.f a0_0 l0_1 l0_2 a0_3 a0_4).bind fun bt191 => (if 0 ≤ a1 then (if a1 < (bt191.2.2.1.length : Int) then ((hinterlandref11_change.f k a2).bind fun t201 => (some (bt191.1,bt191.2.1,(bt191.2.2.1.set (a1 : Int).toNat (mx (-1000) (mn 1000 (wrap64 ((rd bt191.2.2.1 a1) + t201))))),bt191.2.2.2.1,bt191.2.2.2.2,0))) else (none)) else (none))) else (some (0,([] : List (S68)),([] : List Int),0,0,t190)))) = some (r1,r2,r3,r4,r5,r6):=h
 clear h
 replace H:=Option.bind_eq_some_iff.mp H
 obtain ⟨t190,A40,H⟩:=H
 replace H : (if t190 = 0 then ((hinterlandref11_Copy.f a0_0 l0_1 l0_2 a0_3 a0_4).bind fun bt191 => (if 0 ≤ a1 then (if a1 < (bt191.2.2.1.length : Int) then ((hinterlandref11_change.f k a2).bind fun t201 => (some (bt191.1,bt191.2.1,(bt191.2.2.1.set (a1 : Int).toNat (mx (-1000) (mn 1000 (wrap64 ((rd bt191.2.2.1 a1) + t201))))),bt191.2.2.2.1,bt191.2.2.2.2,0))) else (none)) else (none))) else (some (0,([] : List (S68)),([] : List Int),0,0,t190))) = some (r1,r2,r3,r4,r5,r6):=H
 have A4:=Aside0.mk A40
 clear A40
 by_cases c5 : t190 = 0
 ·rw [if_pos c5] at H
  have c5b0 : (t190 == 0) = true:=beq_iff_eq.mpr c5
  have c5b1 : (t190 != 0) = false:=bne_eq_false_iff_eq.mpr c5
  clear c5
  replace H:=Option.bind_eq_some_iff.mp H
  obtain ⟨⟨t191,t192,t195,t198,t199⟩,A60,H⟩:=H
  replace H : (if 0 ≤ a1 then (if a1 < (t195.length : Int) then ((hinterlandref11_change.f k a2).bind fun t201 => (some (t191,t192,(t195.set (a1 : Int).toNat (mx (-1000) (mn 1000 (wrap64 ((rd t195 a1) + t201))))),t198,t199,0))) else (none)) else (none)) = some (r1,r2,r3,r4,r5,r6):=H
  have A6:=Aside0.mk A60
  clear A60
  by_cases c7 : 0 ≤ a1
  ·rw [if_pos c7] at H
   have c7b0 : decide (0 ≤ a1) = true:=decide_eq_true c7
   clear c7
   by_cases c8 : a1 < (t195.length : Int)
   ·rw [if_pos c8] at H
    have c8b0 : decide (a1 < (t195.length : Int)) = true:=decide_eq_true c8
    clear c8
    replace H:=Option.bind_eq_some_iff.mp H
    obtain ⟨t201,A90,H⟩:=H
    replace H : (some (t191,t192,(t195.set (a1 : Int).toNat (mx (-1000) (mn 1000 (wrap64 ((rd t195 a1) + t201))))),t198,t199,0)) = some (r1,r2,r3,r4,r5,r6):=H
    have A9:=Aside0.mk A90
    clear A90
    obtain ⟨ji10,hji10⟩ : ∃ j_ : Int,(mn 1000 (wrap64 ((rd t195 a1) + t201))) = j_:=⟨_,rfl⟩
    replace H : (some (t191,t192,(t195.set (a1 : Int).toNat (mx (-1000) (ji10))),t198,t199,0)) = some (r1,r2,r3,r4,r5,r6):=by first|(rw [hji10] at H;exact H)|(simp only [hji10] at H ⊢;exact H)
    (try rw [hji10] at A4)
    (try rw [hji10] at A6)
    (try rw [hji10] at A9)
    (try (have hji10h : ji10 ≤ 1000:=by (rw [← hji10];unfold mn;(repeat' split) <;> omega)))
    (try (have hji10g : ji10 ≤ 64:=by omega))
    have hji10_ : (if (wrap64 ((rd t195 a1) + t201)) < 1000 then (wrap64 ((rd t195 a1) + t201)) else 1000) = ji10:=hji10
    obtain ⟨ji11,hji11⟩ : ∃ j_ : Int,(mx (-1000) (ji10)) = j_:=⟨_,rfl⟩
    replace H : (some (t191,t192,(t195.set (a1 : Int).toNat (ji11)),t198,t199,0)) = some (r1,r2,r3,r4,r5,r6):=by first|(rw [hji11] at H;exact H)|(simp only [hji11] at H ⊢;exact H)
    (try rw [hji11] at A4)
    (try rw [hji11] at A6)
    (try rw [hji11] at A9)
    have hji11_ : (if (-1000) < (ji10) then (ji10) else (-1000)) = ji11:=hji11
    obtain ⟨y202,hy202⟩ : ∃ y_ : List Int,y_ = (t195.set (a1 : Int).toNat (ji11)):=⟨_,rfl⟩
    replace H : (some (t191,t192,y202,t198,t199,0)) = some (r1,r2,r3,r4,r5,r6):=by first|(rw [hy202];with_reducible exact H)|(have H2_:=(Option.bind_some _ _).symm.trans H;rw [hy202];with_reducible exact H2_)|(have H2_:=(Option.bind_some _ _).symm.trans H;with_reducible exact H2_)|with_reducible exact H|(rw [hy202];exact H)|exact H
    have Ny202:=Aside0.mk hy202
    clear hy202
    simp only [Option.some.injEq,Prod.mk.injEq] at H
    obtain ⟨rfl,rfl,rfl,rfl,rfl,rfl⟩:=H
    go_enter Try.func20,Try.ntmps20
    try go_wp2_with (first|((with_reducible refine gate_dst (N:=3) rfl ?_);refine box_event ?hg (N:=3) ?hd (cs:=#[.int .i64 a0_0,.slice A0_1 l0_1.length c0_1,.slice A0_2 l0_2.length c0_2,.int .i64 a0_3,.int .i64 a0_4]) (t:=25) ?hr ?_;(case hd => rfl);(case hg => rfl);(case hr => first|(go_simp;done)|(go_simp;rfl));intro gb188 hg w13 hbox hb;have n0_:=Aside0.mk (below_step (by repeat (first|(with_reducible first|exact HB.out|apply below_alloc|apply pw_below_drewN|apply below_drew1)|exact HB.out)) hb);have n1_:=Aside0.mk (hbox);have n2_:=Aside0.mk ((by rw [hg];exact (below_size (by repeat (first|(with_reducible first|exact HB.out|apply below_alloc|apply pw_below_drewN|apply below_drew1)|exact HB.out))) : w.heap.size ≤ gb188));have n3_:=Aside0.mk ((by rw [hg];exact (below_size (by repeat (first|(with_reducible first|exact HB.out|apply below_alloc|apply pw_below_drewN|apply below_drew1)|exact HB.out))) : w.heap.size ≤ gb188));clear HB;have HB:=n0_;have BK188:=n1_;have GW188:=n2_;have GE188:=n3_;clear n0_ n1_ n2_ n3_;clear hb hbox hg)|((with_reducible refine gate_dst (N:=6) rfl ?_);refine box_event ?hg (N:=6) ?hd (cs:=#[.int .i64 0,.slice none 0 0,.slice none 0 0,.int .i64 0,.int .i64 0]) (t:=25) ?hr ?_;(case hd => rfl);(case hg => rfl);(case hr => first|(go_simp;done)|(go_simp;rfl));intro gb189 hg w14 hbox hb;have n0_:=Aside0.mk (blk_below (g:=gb188) (o:=.cells #[.int .i64 a0_0,.slice A0_1 l0_1.length c0_1,.slice A0_2 l0_2.length c0_2,.int .i64 a0_3,.int .i64 a0_4] 25 (0,0)) (by (with_reducible repeat (first|refine blk_drewN ?_ _|refine blk_drew ?_|refine blk_alloc ?_ _));exact BK188.out) hb);have n1_:=Aside0.mk (below_step (by repeat (first|(with_reducible first|exact HB.out|apply below_alloc|apply pw_below_drewN|apply below_drew1|refine below_set ?_ GE188.out)|exact HB.out)) hb);have n2_:=Aside0.mk (hbox);have n3_:=Aside0.mk ((by rw [hg];exact (below_size (by repeat (first|(with_reducible first|exact HB.out|apply below_alloc|apply pw_below_drewN|apply below_drew1|refine below_set ?_ GE188.out)|exact HB.out))) : w.heap.size ≤ gb189));have n4_:=Aside0.mk ((by rw [hg];exact (below_size (by repeat (first|(with_reducible first|exact HB.out|apply below_alloc|apply pw_below_drewN|apply below_drew1|refine below_set ?_ GE188.out)|exact HB.out))) : w.heap.size ≤ gb189));have n5_:=Aside0.mk ((by rw [hg];exact Nat.ne_of_lt (blk_lt (g:=gb188) (o:=.cells #[.int .i64 a0_0,.slice A0_1 l0_1.length c0_1,.slice A0_2 l0_2.length c0_2,.int .i64 a0_3,.int .i64 a0_4] 25 (0,0)) (by (with_reducible repeat (first|refine blk_drewN ?_ _|refine blk_drew ?_|refine blk_alloc ?_ _));exact BK188.out)) : gb188 ≠ gb189));have n6_:=Aside0.mk ((by rw [hg];exact Nat.ne_of_gt (blk_lt (g:=gb188) (o:=.cells #[.int .i64 a0_0,.slice A0_1 l0_1.length c0_1,.slice A0_2 l0_2.length c0_2,.int .i64 a0_3,.int .i64 a0_4] 25 (0,0)) (by (with_reducible repeat (first|refine blk_drewN ?_ _|refine blk_drew ?_|refine blk_alloc ?_ _));exact BK188.out)) : gb189 ≠ gb188));clear BK188;clear HB;have BK188:=n0_;have HB:=n1_;have BK189:=n2_;have GW189:=n3_;have GE189:=n4_;have NB188_189:=n5_;have NB189_188:=n6_;clear n0_ n1_ n2_ n3_ n4_ n5_ n6_;clear hb hbox hg;have hnb15:=NB188_189.out;have hnc15:=NB189_188.out;have hcz16_0 : w14.cell? ⟨gb188,0,none⟩ = some (.int .i64 a0_0):=(blk_cell BK188.out 0).trans rfl;have hcz16_1 : w14.cell? ⟨gb188,1,none⟩ = some (.slice A0_1 l0_1.length c0_1):=(blk_cell BK188.out 1).trans rfl;have hcz16_2 : w14.cell? ⟨gb188,2,none⟩ = some (.slice A0_2 l0_2.length c0_2):=(blk_cell BK188.out 2).trans rfl;have hcz16_3 : w14.cell? ⟨gb188,3,none⟩ = some (.int .i64 a0_3):=(blk_cell BK188.out 3).trans rfl;have hcz16_4 : w14.cell? ⟨gb188,4,none⟩ = some (.int .i64 a0_4):=(blk_cell BK188.out 4).trans rfl;have hfz16_0:=blk_frozen BK188.out 0;have hfz16_1:=blk_frozen BK188.out 1;have hfz16_2:=blk_frozen BK188.out 2;have hfz16_3:=blk_frozen BK188.out 3;have hfz16_4:=blk_frozen BK188.out 4)|((with_reducible refine gate_callee (f:=46) rfl ?_);refine goesL_ (some 12) rfl rfl Try.func46 (by kernel_rfl) rfl #[.agg #[.int .i64 a0_0,.slice A0_1 l0_1.length c0_1,.slice A0_2 l0_2.length c0_2,.int .i64 a0_3,.int .i64 a0_4],.int .i64 a1,.int .i64 a2] rfl (by (try simp only [List.map_toArray,List.map_cons,List.map_nil]);first|done|rfl|(simp only [List.length_drop,List.length_take];rfl)) ?_;(with_reducible refine (hinterlandref11_deedError.calls k a0_0 _ _ l0_1 _ _ l0_2 a0_3 a0_4 a1 a2 t190 _ ?side1 ?side2 ?side3 ?side4 A4.out).mono ?_);(case side1 => repeat (first|exact (Kd.C_below HR0_1.out HB.out)|(with_reducible refine Kd.C_alloc ?_ _)|(with_reducible refine Kd.C_drewN ?_ _)|(with_reducible refine Kd.C_drew ?_)));(case side2 => exact HC0_1.out);(case side3 => repeat (first|exact (Kd.C_below HR0_2.out HB.out)|(with_reducible refine Kd.C_alloc ?_ _)|(with_reducible refine Kd.C_drewN ?_ _)|(with_reducible refine Kd.C_drew ?_)));(case side4 => exact HC0_2.out);rintro e w17 ⟨rfl,hb⟩;refine ⟨_,rfl,?_⟩;have n0_:=Aside0.mk (blk_below (g:=gb188) (o:=.cells #[.int .i64 a0_0,.slice A0_1 l0_1.length c0_1,.slice A0_2 l0_2.length c0_2,.int .i64 a0_3,.int .i64 a0_4] 25 (0,0)) (by (with_reducible repeat (first|refine blk_drewN ?_ _|refine blk_drew ?_|refine blk_alloc ?_ _));exact BK188.out) hb);have n1_:=Aside0.mk (blk_below (g:=gb189) (o:=.cells #[.int .i64 0,.slice none 0 0,.slice none 0 0,.int .i64 0,.int .i64 0] 25 (0,0)) (by (with_reducible repeat (first|refine blk_drewN ?_ _|refine blk_drew ?_|refine blk_alloc ?_ _));exact BK189.out) hb);have n2_:=Aside0.mk (below_step (by repeat (first|(with_reducible first|exact HB.out|apply below_alloc|apply pw_below_drewN|apply below_drew1|refine below_set ?_ GE188.out|refine below_set ?_ GE189.out)|exact HB.out)) hb);clear BK188;clear BK189;clear HB;have BK188:=n0_;have BK189:=n1_;have HB:=n2_;clear n0_ n1_ n2_;(try clear hb);(try clear hb2);(try clear hk);(try clear hi);have hcz18_0 : w17.cell? ⟨gb188,0,none⟩ = some (.int .i64 a0_0):=(blk_cell BK188.out 0).trans rfl;have hcz18_1 : w17.cell? ⟨gb188,1,none⟩ = some (.slice A0_1 l0_1.length c0_1):=(blk_cell BK188.out 1).trans rfl;have hcz18_2 : w17.cell? ⟨gb188,2,none⟩ = some (.slice A0_2 l0_2.length c0_2):=(blk_cell BK188.out 2).trans rfl;have hcz18_3 : w17.cell? ⟨gb188,3,none⟩ = some (.int .i64 a0_3):=(blk_cell BK188.out 3).trans rfl;have hcz18_4 : w17.cell? ⟨gb188,4,none⟩ = some (.int .i64 a0_4):=(blk_cell BK188.out 4).trans rfl;have hfz18_0:=blk_frozen BK188.out 0;have hfz18_1:=blk_frozen BK188.out 1;have hfz18_2:=blk_frozen BK188.out 2;have hfz18_3:=blk_frozen BK188.out 3;have hfz18_4:=blk_frozen BK188.out 4)|((with_reducible refine gate_callee (f:=41) rfl ?_);refine goesL_ (some 18) rfl rfl Try.func41 (by kernel_rfl) rfl #[.agg #[.int .i64 a0_0,.slice A0_1 l0_1.length c0_1,.slice A0_2 l0_2.length c0_2,.int .i64 a0_3,.int .i64 a0_4]] rfl (by (try simp only [List.map_toArray,List.map_cons,List.map_nil]);first|done|rfl|(simp only [List.length_drop,List.length_take];rfl)) ?_;(with_reducible refine (hinterlandref11_Copy.calls a0_0 _ _ l0_1 _ _ l0_2 a0_3 a0_4 t191 t192 t195 t198 t199 _ ?side1 ?side2 ?side3 ?side4 A6.out).mono ?_);(case side1 => repeat (first|exact (Kd.C_below HR0_1.out HB.out)|(with_reducible refine Kd.C_alloc ?_ _)|(with_reducible refine Kd.C_drewN ?_ _)|(with_reducible refine Kd.C_drew ?_)));(case side2 => exact HC0_1.out);(case side3 => repeat (first|exact (Kd.C_below HR0_2.out HB.out)|(with_reducible refine Kd.C_alloc ?_ _)|(with_reducible refine Kd.C_drewN ?_ _)|(with_reducible refine Kd.C_drew ?_)));(case side4 => exact HC0_2.out);rintro e w19 ⟨v193,v196,rfl,ho0,ho1,hb⟩;refine ⟨_,rfl,?_⟩;have n0_:=Aside0.mk (Kd.R_lower ho0 (below_size (by repeat (first|(with_reducible first|exact HB.out|apply below_alloc|apply pw_below_drewN|apply below_drew1|refine below_set ?_ GE188.out|refine below_set ?_ GE189.out)|exact HB.out))));have n1_:=Aside0.mk (Kd.R_lower ho1 (below_size (by repeat (first|(with_reducible first|exact HB.out|apply below_alloc|apply pw_below_drewN|apply below_drew1|refine below_set ?_ GE188.out|refine below_set ?_ GE189.out)|exact HB.out))));have n2_:=Aside0.mk (blk_below (g:=gb188) (o:=.cells #[.int .i64 a0_0,.slice A0_1 l0_1.length c0_1,.slice A0_2 l0_2.length c0_2,.int .i64 a0_3,.int .i64 a0_4] 25 (0,0)) (by (with_reducible repeat (first|refine blk_drewN ?_ _|refine blk_drew ?_|refine blk_alloc ?_ _));exact BK188.out) hb);have n3_:=Aside0.mk (blk_below (g:=gb189) (o:=.cells #[.int .i64 0,.slice none 0 0,.slice none 0 0,.int .i64 0,.int .i64 0] 25 (0,0)) (by (with_reducible repeat (first|refine blk_drewN ?_ _|refine blk_drew ?_|refine blk_alloc ?_ _));exact BK189.out) hb);have n4_:=Aside0.mk (below_step (by repeat (first|(with_reducible first|exact HB.out|apply below_alloc|apply pw_below_drewN|apply below_drew1|refine below_set ?_ GE188.out|refine below_set ?_ GE189.out)|exact HB.out)) hb);clear BK188;clear BK189;clear HB;have HO194:=n0_;have HO197:=n1_;have BK188:=n2_;have BK189:=n3_;have HB:=n4_;clear n0_ n1_ n2_ n3_ n4_;(try clear hb);(try clear hb2);(try clear hk);(try clear hi);(try clear ho0);(try clear ho1);have hcz20_0 : w19.cell? ⟨gb188,0,none⟩ = some (.int .i64 a0_0):=(blk_cell BK188.out 0).trans rfl;have hcz20_1 : w19.cell? ⟨gb188,1,none⟩ = some (.slice A0_1 l0_1.length c0_1):=(blk_cell BK188.out 1).trans rfl;have hcz20_2 : w19.cell? ⟨gb188,2,none⟩ = some (.slice A0_2 l0_2.length c0_2):=(blk_cell BK188.out 2).trans rfl;have hcz20_3 : w19.cell? ⟨gb188,3,none⟩ = some (.int .i64 a0_3):=(blk_cell BK188.out 3).trans rfl;have hcz20_4 : w19.cell? ⟨gb188,4,none⟩ = some (.int .i64 a0_4):=(blk_cell BK188.out 4).trans rfl;have hfz20_0:=blk_frozen BK188.out 0;have hfz20_1:=blk_frozen BK188.out 1;have hfz20_2:=blk_frozen BK188.out 2;have hfz20_3:=blk_frozen BK188.out 3;have hfz20_4:=blk_frozen BK188.out 4;obtain ⟨Ao21,co21,eo21⟩:=Kd.R_slice HO194.out;subst eo21;obtain ⟨Ao22,co22,eo22⟩:=Kd.R_slice HO197.out;subst eo22))
    have n0_ : Aside0 (Kd.R k68 68 (((((w19.setCell ⟨gb188,0,none⟩ (.int .i64 t191)).setCell ⟨gb188,1,none⟩ (.slice Ao21 t192.length co21)).setCell ⟨gb188,2,none⟩ (.slice Ao22 t195.length co22)).setCell ⟨gb188,3,none⟩ (.int .i64 t198)).setCell ⟨gb188,4,none⟩ (.int .i64 t199)) w.heap.size (fun _ => True) (.slice Ao21 t192.length co21) t192):=⟨by (with_reducible repeat (first|apply Kd.R_alloc|apply Kd.R_drewN|apply Kd.R_drew));exact Kd.R_mono (Kd.R_far (p:=⟨gb188,4,none⟩) (Kd.R_far (p:=⟨gb188,3,none⟩) (Kd.R_far (p:=⟨gb188,2,none⟩) (Kd.R_far (p:=⟨gb188,1,none⟩) (Kd.R_far (p:=⟨gb188,0,none⟩) (Kd.R_types HO194.out BK188.out (by decide)) (fun _ hk => hk.2) (.int .i64 t191)) (fun _ hk => hk.2) (.slice Ao21 t192.length co21)) (fun _ hk => hk.2) (.slice Ao22 t195.length co22)) (fun _ hk => hk.2) (.int .i64 t198)) (fun _ hk => hk.2) (.int .i64 t199)) (fun _ hk => trivial)⟩
    have n1_ : Aside0 (Kd.R (Kd.int .i64) 3 (((((w19.setCell ⟨gb188,0,none⟩ (.int .i64 t191)).setCell ⟨gb188,1,none⟩ (.slice Ao21 t192.length co21)).setCell ⟨gb188,2,none⟩ (.slice Ao22 t195.length co22)).setCell ⟨gb188,3,none⟩ (.int .i64 t198)).setCell ⟨gb188,4,none⟩ (.int .i64 t199)) w.heap.size (fun _ => True) (.slice Ao22 t195.length co22) t195):=⟨by (with_reducible repeat (first|apply Kd.R_alloc|apply Kd.R_drewN|apply Kd.R_drew));exact Kd.R_mono (Kd.R_far (p:=⟨gb188,4,none⟩) (Kd.R_far (p:=⟨gb188,3,none⟩) (Kd.R_far (p:=⟨gb188,2,none⟩) (Kd.R_far (p:=⟨gb188,1,none⟩) (Kd.R_far (p:=⟨gb188,0,none⟩) (Kd.R_types HO197.out BK188.out (by decide)) (fun _ hk => hk.2) (.int .i64 t191)) (fun _ hk => hk.2) (.slice Ao21 t192.length co21)) (fun _ hk => hk.2) (.slice Ao22 t195.length co22)) (fun _ hk => hk.2) (.int .i64 t198)) (fun _ hk => hk.2) (.int .i64 t199)) (fun _ hk => trivial)⟩
    have n2_ : Aside0 ((((((w19.setCell ⟨gb188,0,none⟩ (.int .i64 t191)).setCell ⟨gb188,1,none⟩ (.slice Ao21 t192.length co21)).setCell ⟨gb188,2,none⟩ (.slice Ao22 t195.length co22)).setCell ⟨gb188,3,none⟩ (.int .i64 t198)).setCell ⟨gb188,4,none⟩ (.int .i64 t199)).heap[gb188]? = some (.cells #[.int .i64 t191,.slice Ao21 t192.length co21,.slice Ao22 t195.length co22,.int .i64 t198,.int .i64 t199] 25 (0,0))):=⟨by (with_reducible repeat (first|refine blk_drewN ?_ _|refine blk_drew ?_|refine blk_alloc ?_ _));refine blk_put (cs:=#[.int .i64 t191,.slice Ao21 t192.length co21,.slice Ao22 t195.length co22,.int .i64 t198,.int .i64 a0_4]) ?_ 4 _ rfl;(with_reducible repeat (first|refine blk_drewN ?_ _|refine blk_drew ?_|refine blk_alloc ?_ _));refine blk_put (cs:=#[.int .i64 t191,.slice Ao21 t192.length co21,.slice Ao22 t195.length co22,.int .i64 a0_3,.int .i64 a0_4]) ?_ 3 _ rfl;(with_reducible repeat (first|refine blk_drewN ?_ _|refine blk_drew ?_|refine blk_alloc ?_ _));refine blk_put (cs:=#[.int .i64 t191,.slice Ao21 t192.length co21,.slice A0_2 l0_2.length c0_2,.int .i64 a0_3,.int .i64 a0_4]) ?_ 2 _ rfl;(with_reducible repeat (first|refine blk_drewN ?_ _|refine blk_drew ?_|refine blk_alloc ?_ _));refine blk_put (cs:=#[.int .i64 t191,.slice A0_1 l0_1.length c0_1,.slice A0_2 l0_2.length c0_2,.int .i64 a0_3,.int .i64 a0_4]) ?_ 1 _ rfl;(with_reducible repeat (first|refine blk_drewN ?_ _|refine blk_drew ?_|refine blk_alloc ?_ _));refine blk_put (cs:=#[.int .i64 a0_0,.slice A0_1 l0_1.length c0_1,.slice A0_2 l0_2.length c0_2,.int .i64 a0_3,.int .i64 a0_4]) ?_ 0 _ rfl;(with_reducible repeat (first|refine blk_drewN ?_ _|refine blk_drew ?_|refine blk_alloc ?_ _));exact BK188.out⟩
    have n3_ : Aside0 ((((((w19.setCell ⟨gb188,0,none⟩ (.int .i64 t191)).setCell ⟨gb188,1,none⟩ (.slice Ao21 t192.length co21)).setCell ⟨gb188,2,none⟩ (.slice Ao22 t195.length co22)).setCell ⟨gb188,3,none⟩ (.int .i64 t198)).setCell ⟨gb188,4,none⟩ (.int .i64 t199)).heap[gb189]? = some (.cells #[.int .i64 0,.slice none 0 0,.slice none 0 0,.int .i64 0,.int .i64 0] 25 (0,0))):=⟨by (with_reducible repeat (first|refine blk_drewN ?_ _|refine blk_drew ?_|refine blk_alloc ?_ _));refine blk_far ?_ NB189_188.out _;(with_reducible repeat (first|refine blk_drewN ?_ _|refine blk_drew ?_|refine blk_alloc ?_ _));refine blk_far ?_ NB189_188.out _;(with_reducible repeat (first|refine blk_drewN ?_ _|refine blk_drew ?_|refine blk_alloc ?_ _));refine blk_far ?_ NB189_188.out _;(with_reducible repeat (first|refine blk_drewN ?_ _|refine blk_drew ?_|refine blk_alloc ?_ _));refine blk_far ?_ NB189_188.out _;(with_reducible repeat (first|refine blk_drewN ?_ _|refine blk_drew ?_|refine blk_alloc ?_ _));refine blk_far ?_ NB189_188.out _;(with_reducible repeat (first|refine blk_drewN ?_ _|refine blk_drew ?_|refine blk_alloc ?_ _));exact BK189.out⟩
    have n4_ : Aside0 (Below w.heap.size w (((((w19.setCell ⟨gb188,0,none⟩ (.int .i64 t191)).setCell ⟨gb188,1,none⟩ (.slice Ao21 t192.length co21)).setCell ⟨gb188,2,none⟩ (.slice Ao22 t195.length co22)).setCell ⟨gb188,3,none⟩ (.int .i64 t198)).setCell ⟨gb188,4,none⟩ (.int .i64 t199))):=⟨by repeat (first|(with_reducible first|exact HB.out|apply below_alloc|apply pw_below_drewN|apply below_drew1|refine below_set ?_ GE188.out|refine below_set ?_ GE189.out)|exact HB.out)⟩
    (try clear HO194)
    (try clear HO197)
    (try clear BK188)
    (try clear BK189)
    (try clear HB)
    generalize (((((w19.setCell ⟨gb188,0,none⟩ (.int .i64 t191)).setCell ⟨gb188,1,none⟩ (.slice Ao21 t192.length co21)).setCell ⟨gb188,2,none⟩ (.slice Ao22 t195.length co22)).setCell ⟨gb188,3,none⟩ (.int .i64 t198)).setCell ⟨gb188,4,none⟩ (.int .i64 t199)) = w23 at n0_ n1_ n2_ n3_ n4_ ⊢
    have HO194:=n0_
    have HO197:=n1_
    have BK188:=n2_
    have BK189:=n3_
    have HB:=n4_
    clear n0_ n1_ n2_ n3_ n4_
    have n0_:=Aside0.mk (Kd.R_drew HO194.out)
    have n1_:=Aside0.mk (Kd.R_drew HO197.out)
    have n2_:=Aside0.mk (blk_drew BK188.out)
    have n3_:=Aside0.mk (blk_drew BK189.out)
    have n4_:=Aside0.mk (below_drew1 HB.out)
    clear HO194
    clear HO197
    clear BK188
    clear BK189
    clear HB
    have HO194:=n0_
    have HO197:=n1_
    have BK188:=n2_
    have BK189:=n3_
    have HB:=n4_
    clear n0_ n1_ n2_ n3_ n4_
    have p200 : 0 ≤ (a1 : Int):=of_decide_eq_true (by first|(with_reducible assumption)|assumption)
    have q200 : a1 < (t195.length : Int):=of_decide_eq_true (by first|(with_reducible assumption)|assumption)
    obtain ⟨ad200,e200,hx200_0⟩:=Kd.at_int (Kd.R_reads' HO197.out).2.2 a1 p200 q200
    cases e200
    replace p200:=eq_true p200
    replace q200:=eq_true q200
    refine start_ (n:=15) (S:=fun w' => w'.cell? ⟨gb188,0,none⟩ = some (.int .i64 t191) ∧ w'.cell? ⟨gb188,1,none⟩ = some (.slice Ao21 t192.length co21) ∧ w'.cell? ⟨gb188,2,none⟩ = some (.slice (some ad200) t195.length co22) ∧ w'.cell? ⟨gb188,3,none⟩ = some (.int .i64 t198) ∧ w'.cell? ⟨gb188,4,none⟩ = some (.int .i64 t199) ∧ w'.cell? (ad200.add (a1).toNat) = some (.int .i64 (rd t195 a1))) (ds:=[14]) #[false,false,false,false,false,false,false,false,false,false,false,false,false,false,false] (by kernel_rfl) rfl rfl ⟨(blk_cell BK188.out 0).trans rfl,(blk_cell BK188.out 1).trans rfl,(blk_cell BK188.out 2).trans rfl,(blk_cell BK188.out 3).trans rfl,(blk_cell BK188.out 4).trans rfl,hx200_0⟩ (fun hHeld => ?_);refine with_tabW hinterlandref11_Feel.tab5 hinterlandref11_Feel.bits5 (fun HT_ HW_ => ?_)
    generalize w23.drew = w24 at HO194 HO197 BK188 BK189 HB hx200_0 hHeld ⊢
    refine pure_ (i:=0) (N:=some 19) (v:=?_) (a':=?_) #[true,false,false,false,false,false,false,false,false,false,false,false,false,false,false] rfl rfl (any_of HT_.out (by kernel_rfl)) (fun _ _ _ h => h) (Or.inl ⟨by rfl,?_⟩) ?_ ?_
    rotate_left
    ·intro w'
     go_simp
     with_reducible rfl
    rotate_left
    ·simp only [Act.put,List.setIfInBounds_toArray,List.set_cons_zero,List.set_cons_succ,i64_w,i32_w]
     rfl
    refine pure_ (i:=2) (N:=some 21) (v:=?_) (a':=?_) #[true,false,true,false,false,false,false,false,false,false,false,false,false,false,false] rfl rfl (any_of HT_.out (by kernel_rfl)) (fun _ _ _ h => h) (Or.inl ⟨by rfl,?_⟩) ?_ ?_
    rotate_left
    ·intro w'
     go_simp
     with_reducible rfl
    rotate_left
    ·simp only [Act.put,List.setIfInBounds_toArray,List.set_cons_zero,List.set_cons_succ,i64_w,i32_w]
     rfl
    refine pure_ (i:=3) (N:=some 22) (v:=?_) (a':=?_) #[true,false,true,true,false,false,false,false,false,false,false,false,false,false,false] rfl rfl (any_of HT_.out (by kernel_rfl)) (fun _ _ _ h => h) (Or.inl ⟨by rfl,?_⟩) ?_ ?_
    rotate_left
    ·intro w'
     go_simp
     with_reducible rfl
    rotate_left
    ·simp only [Act.put,List.setIfInBounds_toArray,List.set_cons_zero,List.set_cons_succ,i64_w,i32_w]
     rfl
    refine pure_ (i:=5) (N:=some 24) (v:=?_) (a':=?_) #[true,false,true,true,false,true,false,false,false,false,false,false,false,false,false] rfl rfl (any_of HT_.out (by kernel_rfl)) (fun _ _ _ h => h) (Or.inl ⟨by rfl,?_⟩) ?_ ?_
    rotate_left
    ·intro w'
     go_simp
     with_reducible rfl
    rotate_left
    ·simp only [Act.put,List.setIfInBounds_toArray,List.set_cons_zero,List.set_cons_succ,i64_w,i32_w]
     rfl
    refine pure_ (i:=8) (N:=some 27) (v:=?_) (a':=?_) #[true,false,true,true,false,true,false,false,true,false,false,false,false,false,false] rfl rfl (any_of HT_.out (by kernel_rfl)) (fun _ _ _ h => h) (Or.inl ⟨by rfl,?_⟩) ?_ ?_
    rotate_left
    ·intro w'
     go_simp
     with_reducible rfl
    rotate_left
    ·simp only [Act.put,List.setIfInBounds_toArray,List.set_cons_zero,List.set_cons_succ,i64_w,i32_w]
     rfl
    refine take_ (i:=1) (N:=some 20) (v:=?_) (a':=?_) #[true,true,true,true,false,true,false,false,true,false,false,false,false,false,false] rfl rfl (take_ofW HT_.out HW_.out (by kernel_rfl)) (fun _ _ _ h => h) (Or.inl ⟨by rfl,?_⟩) hHeld ?_ ?_
    rotate_left
    ·rintro w' ⟨s0,s1,s2,s3,s4,s5⟩
     go_simp
     with_reducible rfl
    rotate_left
    ·simp only [Act.put,List.setIfInBounds_toArray,List.set_cons_zero,List.set_cons_succ,i64_w,i32_w]
     rfl
    refine take_ (i:=4) (N:=some 23) (v:=?_) (a':=?_) #[true,true,true,true,true,true,false,false,true,false,false,false,false,false,false] rfl rfl (take_ofW HT_.out HW_.out (by kernel_rfl)) (fun _ _ _ h => h) (Or.inl ⟨by rfl,?_⟩) hHeld ?_ ?_
    rotate_left
    ·rintro w' ⟨s0,s1,s2,s3,s4,s5⟩
     go_simp
     with_reducible rfl
    rotate_left
    ·simp only [Act.put,List.setIfInBounds_toArray,List.set_cons_zero,List.set_cons_succ,i64_w,i32_w]
     rfl
    refine pure_ (i:=6) (N:=some 25) (v:=?_) (a':=?_) #[true,true,true,true,true,true,true,false,true,false,false,false,false,false,false] rfl rfl (any_of HT_.out (by kernel_rfl)) (fun _ _ _ h => h) (Or.inl ⟨by rfl,?_⟩) ?_ ?_
    rotate_left
    ·intro w'
     go_simp
     with_reducible rfl
    rotate_left
    ·simp only [Act.put,List.setIfInBounds_toArray,List.set_cons_zero,List.set_cons_succ,i64_w,i32_w]
     rfl
    refine take_ (i:=7) (N:=some 26) (v:=?_) (a':=?_) #[true,true,true,true,true,true,true,true,true,false,false,false,false,false,false] rfl rfl (take_ofW HT_.out HW_.out (by kernel_rfl)) (fun _ _ _ h => h) (Or.inl ⟨by rfl,?_⟩) hHeld ?_ ?_
    rotate_left
    ·rintro w' ⟨s0,s1,s2,s3,s4,s5⟩
     go_simp
     with_reducible rfl
    rotate_left
    ·simp only [Act.put,List.setIfInBounds_toArray,List.set_cons_zero,List.set_cons_succ,i64_w,i32_w]
     rfl
    refine one_ (i:=9) (N:=some 28) #[true,true,true,true,true,true,true,true,true,true,false,false,false,false,false] rfl rfl (one_of HT_.out (by kernel_rfl)) (by decide) (fun K hK => ?_)
    refine goes_ Try.func47 (by kernel_rfl) rfl #[.int .i64 a2] (by rfl) rfl rfl (by (try simp only [List.map_toArray,List.map_cons,List.map_nil]);first|done|rfl|(simp only [List.length_drop,List.length_take];rfl)) ?_
    with_reducible refine (hinterlandref11_change.calls k a2 t201 _ A9.out).mono ?_
    rintro e w' ⟨rfl,⟨nd,rfl⟩⟩
    refine ⟨_,rfl,?_⟩
    have p12 : 0 ≤ (a1 : Int):=of_decide_eq_true (by first|(with_reducible assumption)|assumption)
    have q12 : (a1 : Int) < ((t195.length : Int) : Int):=of_decide_eq_true (by first|(with_reducible assumption)|assumption)
    obtain ⟨go12,co12,eo12,gb12,gl12,cl12,HG12⟩:=Kd.R_form HO197.out (by omega)
    (first|cases eo12|(injection eo12 with ea_ en_ ec_;(first|subst ea_|(injection ea_ with ea_;subst ea_));subst ec_;clear en_))
    have GB12:=Aside0.mk gb12
    have GG12:=Aside0.mk HG12
    clear gb12 gl12 HG12
    (first|simp only [add_plain] at hx200_0|skip)
    obtain ⟨hx12_0,hf12_0⟩:=Kd.R_celln 0 HO197.out (a1 : Int) p12 q12
    replace p12:=eq_true p12
    replace q12:=eq_true q12
    have HP25:=Kd.R_putn HO197.out (a1 : Int) ji11
    rw [← Ny202.out] at HP25
    have HQ25:=Aside0.mk HP25
    clear HP25
    refine hK.out _ _ ⟨(blk_cell BK188.out 0).trans rfl,(blk_cell BK188.out 1).trans rfl,(blk_cell BK188.out 2).trans rfl,(blk_cell BK188.out 3).trans rfl,(blk_cell BK188.out 4).trans rfl,hHeld.2.2.2.2.2⟩ (fun hHeld => ?_)
    clear hK K
    refine norm_ (a':=?_) ?_ ?_
    rotate_left
    ·show Act.put _ (some 28) _ = _
     simp only [Act.put,List.setIfInBounds_toArray,List.set_cons_zero,List.set_cons_succ,i64_w,i32_w]
     rfl
    refine pure_ (i:=10) (N:=some 29) (v:=?_) (a':=?_) #[true,true,true,true,true,true,true,true,true,true,true,false,false,false,false] rfl rfl (any_of HT_.out (by kernel_rfl)) (fun _ _ _ h => h) (Or.inl ⟨by rfl,?_⟩) ?_ ?_
    rotate_left
    ·intro w'
     go_simp
     with_reducible rfl
    rotate_left
    ·simp only [Act.put,List.setIfInBounds_toArray,List.set_cons_zero,List.set_cons_succ,i64_w,i32_w]
     rfl
    refine pure_ (i:=11) (N:=some 30) (v:=?_) (a':=?_) #[true,true,true,true,true,true,true,true,true,true,true,true,false,false,false] rfl rfl (any_of HT_.out (by kernel_rfl)) (fun _ _ _ h => h) (Or.inl ⟨by rfl,?_⟩) ?_ ?_
    rotate_left
    ·intro w'
     go_simp
     with_reducible rfl
    rotate_left
    ·simp only [Act.put,List.setIfInBounds_toArray,List.set_cons_zero,List.set_cons_succ,i64_w,i32_w]
     rfl
    refine pure_ (i:=12) (N:=some 31) (v:=?_) (a':=?_) #[true,true,true,true,true,true,true,true,true,true,true,true,true,false,false] rfl rfl (any_of HT_.out (by kernel_rfl)) (fun _ _ _ h => h) (Or.inl ⟨by rfl,?_⟩) ?_ ?_
    rotate_left
    ·intro w'
     go_simp
     with_reducible rfl
    rotate_left
    ·simp only [Act.put,List.setIfInBounds_toArray,List.set_cons_zero,List.set_cons_succ,i64_w,i32_w]
     rfl
    refine pure_ (i:=13) (N:=some 32) (v:=?_) (a':=?_) #[true,true,true,true,true,true,true,true,true,true,true,true,true,true,false] rfl rfl (any_of HT_.out (by kernel_rfl)) (fun _ _ _ h => h) (Or.inl ⟨by rfl,?_⟩) ?_ ?_
    rotate_left
    ·intro w'
     go_simp
     with_reducible rfl
    rotate_left
    ·simp only [Act.put,List.setIfInBounds_toArray,List.set_cons_zero,List.set_cons_succ,i64_w,i32_w]
     rfl
    refine last_ (i:=14) (N:=none) #[true,true,true,true,true,true,true,true,true,true,true,true,true,true,true] rfl rfl (one_of HT_.out (by kernel_rfl)) (by decide) (fun K hK => ?_)
    refine skip_ (w1:=?_) (by rfl) rfl ?_ ?_
    rotate_left
    ·go_simp
     rfl
    refine hK.out _ _ ?_
    clear hK K
    refine done_ (done_of HT_.out (by kernel_rfl)) ?_
    have n0_ : Aside0 (Kd.R k68 68 (w24.setCell ⟨go12,(a1 : Int).toNat,none⟩ (.int .i64 ji11)) w.heap.size (fun _ => True) (.slice Ao21 t192.length co21) t192):=⟨by (with_reducible repeat (first|apply Kd.R_alloc|apply Kd.R_drewN|apply Kd.R_drew));exact Kd.R_mono (Kd.R_far (p:=⟨go12,(a1 : Int).toNat,none⟩) (Kd.R_types HO194.out GG12.out (by decide)) (fun _ hk => hk.2) (.int .i64 ji11)) (fun _ hk => trivial)⟩
    have n1_ : Aside0 (Kd.R (Kd.int .i64) 3 (w24.setCell ⟨go12,(a1 : Int).toNat,none⟩ (.int .i64 ji11)) w.heap.size (fun _ => True) (.slice (some ⟨go12,0,none⟩) t195.length co22) y202):=⟨by (with_reducible repeat (first|apply Kd.R_alloc|apply Kd.R_drewN|apply Kd.R_drew));exact HQ25.out⟩
    have n2_ : Aside0 ((w24.setCell ⟨go12,(a1 : Int).toNat,none⟩ (.int .i64 ji11)).heap[gb188]? = some (.cells #[.int .i64 t191,.slice Ao21 t192.length co21,.slice (some ⟨go12,0,none⟩) t195.length co22,.int .i64 t198,.int .i64 t199] 25 (0,0))):=⟨by (with_reducible repeat (first|refine blk_drewN ?_ _|refine blk_drew ?_|refine blk_alloc ?_ _));refine blk_far ?_ (by have h_:=Kd.R_ne HO197.out BK188.out (by decide);intro e_;exact h_ (by rw [e_];rfl)) _;(with_reducible repeat (first|refine blk_drewN ?_ _|refine blk_drew ?_|refine blk_alloc ?_ _));exact BK188.out⟩
    have n3_ : Aside0 ((w24.setCell ⟨go12,(a1 : Int).toNat,none⟩ (.int .i64 ji11)).heap[gb189]? = some (.cells #[.int .i64 0,.slice none 0 0,.slice none 0 0,.int .i64 0,.int .i64 0] 25 (0,0))):=⟨by (with_reducible repeat (first|refine blk_drewN ?_ _|refine blk_drew ?_|refine blk_alloc ?_ _));refine blk_far ?_ (by have h_:=Kd.R_ne HO197.out BK189.out (by decide);intro e_;exact h_ (by rw [e_];rfl)) _;(with_reducible repeat (first|refine blk_drewN ?_ _|refine blk_drew ?_|refine blk_alloc ?_ _));exact BK189.out⟩
    have n4_ : Aside0 (Below w.heap.size w (w24.setCell ⟨go12,(a1 : Int).toNat,none⟩ (.int .i64 ji11))):=⟨by repeat (first|(with_reducible first|exact HB.out|apply below_alloc|apply pw_below_drewN|apply below_drew1|refine below_set ?_ GB12.out|refine below_set ?_ GE188.out|refine below_set ?_ GE189.out)|exact HB.out)⟩
    (try clear HO194)
    (try clear HO197)
    (try clear BK188)
    (try clear BK189)
    (try clear HB)
    (try rw [show ∀ n_ : Nat,((w24.drewN n_).setCell ⟨go12,(a1 : Int).toNat,none⟩ (.int .i64 ji11)) = World.drewN (w24.setCell ⟨go12,(a1 : Int).toNat,none⟩ (.int .i64 ji11)) n_ from fun _ => rfl])
    generalize (w24.setCell ⟨go12,(a1 : Int).toNat,none⟩ (.int .i64 ji11)) = w26 at n0_ n1_ n2_ n3_ n4_ ⊢
    have HO194:=n0_
    have HO197:=n1_
    have BK188:=n2_
    have BK189:=n3_
    have HB:=n4_
    clear n0_ n1_ n2_ n3_ n4_
    (try (rw [drewN_self w26];generalize hq_ : World.drewN w26 _ = w26;have k0_:=Aside0.mk (by first|exact Kd.R_at hq_ HO194.out|exact blk_at hq_ HO194.out|exact below_at hq_ HO194.out|exact keep_at hq_ HO194.out|exact kept_at hq_ HO194.out|exact Kd.S_at hq_ HO194.out|exact Kd.N_at hq_ HO194.out|exact Kd.Q_at hq_ HO194.out);have k1_:=Aside0.mk (by first|exact Kd.R_at hq_ HO197.out|exact blk_at hq_ HO197.out|exact below_at hq_ HO197.out|exact keep_at hq_ HO197.out|exact kept_at hq_ HO197.out|exact Kd.S_at hq_ HO197.out|exact Kd.N_at hq_ HO197.out|exact Kd.Q_at hq_ HO197.out);have k2_:=Aside0.mk (by first|exact Kd.R_at hq_ BK188.out|exact blk_at hq_ BK188.out|exact below_at hq_ BK188.out|exact keep_at hq_ BK188.out|exact kept_at hq_ BK188.out|exact Kd.S_at hq_ BK188.out|exact Kd.N_at hq_ BK188.out|exact Kd.Q_at hq_ BK188.out);have k3_:=Aside0.mk (by first|exact Kd.R_at hq_ BK189.out|exact blk_at hq_ BK189.out|exact below_at hq_ BK189.out|exact keep_at hq_ BK189.out|exact kept_at hq_ BK189.out|exact Kd.S_at hq_ BK189.out|exact Kd.N_at hq_ BK189.out|exact Kd.Q_at hq_ BK189.out);have k4_:=Aside0.mk (by first|exact Kd.R_at hq_ HB.out|exact blk_at hq_ HB.out|exact below_at hq_ HB.out|exact keep_at hq_ HB.out|exact kept_at hq_ HB.out|exact Kd.S_at hq_ HB.out|exact Kd.N_at hq_ HB.out|exact Kd.Q_at hq_ HB.out);clear hq_ HO194 HO197 BK188 BK189 HB;have HO194:=k0_;have HO197:=k1_;have BK188:=k2_;have BK189:=k3_;have HB:=k4_;clear k0_ k1_ k2_ k3_ k4_))
    have hcz27_0 : w26.cell? ⟨gb188,0,none⟩ = some (.int .i64 t191):=(blk_cell BK188.out 0).trans rfl
    have hcz27_1 : w26.cell? ⟨gb188,1,none⟩ = some (.slice Ao21 t192.length co21):=(blk_cell BK188.out 1).trans rfl
    have hcz27_2 : w26.cell? ⟨gb188,2,none⟩ = some (.slice (some ⟨go12,0,none⟩) t195.length co22):=(blk_cell BK188.out 2).trans rfl
    have hcz27_3 : w26.cell? ⟨gb188,3,none⟩ = some (.int .i64 t198):=(blk_cell BK188.out 3).trans rfl
    have hcz27_4 : w26.cell? ⟨gb188,4,none⟩ = some (.int .i64 t199):=(blk_cell BK188.out 4).trans rfl
    have hfz27_0:=blk_frozen BK188.out 0
    have hfz27_1:=blk_frozen BK188.out 1
    have hfz27_2:=blk_frozen BK188.out 2
    have hfz27_3:=blk_frozen BK188.out 3
    have hfz27_4:=blk_frozen BK188.out 4
    have hcz28_0 : w26.cell? ⟨gb189,0,none⟩ = some (.int .i64 0):=(blk_cell BK189.out 0).trans rfl
    have hcz28_1 : w26.cell? ⟨gb189,1,none⟩ = some (.slice none 0 0):=(blk_cell BK189.out 1).trans rfl
    have hcz28_2 : w26.cell? ⟨gb189,2,none⟩ = some (.slice none 0 0):=(blk_cell BK189.out 2).trans rfl
    have hcz28_3 : w26.cell? ⟨gb189,3,none⟩ = some (.int .i64 0):=(blk_cell BK189.out 3).trans rfl
    have hcz28_4 : w26.cell? ⟨gb189,4,none⟩ = some (.int .i64 0):=(blk_cell BK189.out 4).trans rfl
    have hfz28_0:=blk_frozen BK189.out 0
    have hfz28_1:=blk_frozen BK189.out 1
    have hfz28_2:=blk_frozen BK189.out 2
    have hfz28_3:=blk_frozen BK189.out 3
    have hfz28_4:=blk_frozen BK189.out 4
    try go_wp2
    refine bodyPost_ret (results_ct rfl _ _ gb189 25 #[.int .i64 t191,.slice Ao21 t192.length co21,.slice (some ⟨go12,0,none⟩) t195.length co22,.int .i64 t198,.int .i64 t199] (0,0) _ rfl (by (with_reducible repeat (first|refine blk_drewN ?_ _|refine blk_drew ?_|refine blk_alloc ?_ _));refine blk_put (cs:=#[.int .i64 t191,.slice Ao21 t192.length co21,.slice (some ⟨go12,0,none⟩) t195.length co22,.int .i64 t198,.int .i64 0]) ?_ 4 _ rfl;(with_reducible repeat (first|refine blk_drewN ?_ _|refine blk_drew ?_|refine blk_alloc ?_ _));refine blk_put (cs:=#[.int .i64 t191,.slice Ao21 t192.length co21,.slice (some ⟨go12,0,none⟩) t195.length co22,.int .i64 0,.int .i64 0]) ?_ 3 _ rfl;(with_reducible repeat (first|refine blk_drewN ?_ _|refine blk_drew ?_|refine blk_alloc ?_ _));refine blk_put (cs:=#[.int .i64 t191,.slice Ao21 t192.length co21,.slice none 0 0,.int .i64 0,.int .i64 0]) ?_ 2 _ rfl;(with_reducible repeat (first|refine blk_drewN ?_ _|refine blk_drew ?_|refine blk_alloc ?_ _));refine blk_put (cs:=#[.int .i64 t191,.slice none 0 0,.slice none 0 0,.int .i64 0,.int .i64 0]) ?_ 1 _ rfl;(with_reducible repeat (first|refine blk_drewN ?_ _|refine blk_drew ?_|refine blk_alloc ?_ _));refine blk_put (cs:=#[.int .i64 0,.slice none 0 0,.slice none 0 0,.int .i64 0,.int .i64 0]) ?_ 0 _ rfl;(with_reducible repeat (first|refine blk_drewN ?_ _|refine blk_drew ?_|refine blk_alloc ?_ _));exact BK189.out) Try.underlying25 rfl (by kernel_rfl)) rfl ?_
    exact ⟨_,_,by first|rfl|(simp [errW_none,errW_some] <;> rfl)|(simp only [← hji10,← hji11];first|rfl|(simp [errW_none,errW_some] <;> rfl))|(simp [*,errW_none,errW_some] <;> rfl),by (with_reducible repeat (first|apply Kd.R_alloc|apply Kd.R_drewN|apply Kd.R_drew));exact Kd.R_mono (Kd.R_far (p:=⟨gb189,4,none⟩) (Kd.R_far (p:=⟨gb189,3,none⟩) (Kd.R_far (p:=⟨gb189,2,none⟩) (Kd.R_far (p:=⟨gb189,1,none⟩) (Kd.R_far (p:=⟨gb189,0,none⟩) (Kd.R_types HO194.out BK189.out (by decide)) (fun _ hk => hk.2) (.int .i64 t191)) (fun _ hk => hk.2) (.slice Ao21 t192.length co21)) (fun _ hk => hk.2) (.slice (some ⟨go12,0,none⟩) t195.length co22)) (fun _ hk => hk.2) (.int .i64 t198)) (fun _ hk => hk.2) (.int .i64 t199)) (fun _ hk => trivial),by (with_reducible repeat (first|apply Kd.R_alloc|apply Kd.R_drewN|apply Kd.R_drew));exact Kd.R_mono (Kd.R_far (p:=⟨gb189,4,none⟩) (Kd.R_far (p:=⟨gb189,3,none⟩) (Kd.R_far (p:=⟨gb189,2,none⟩) (Kd.R_far (p:=⟨gb189,1,none⟩) (Kd.R_far (p:=⟨gb189,0,none⟩) (Kd.R_types HO197.out BK189.out (by decide)) (fun _ hk => hk.2) (.int .i64 t191)) (fun _ hk => hk.2) (.slice Ao21 t192.length co21)) (fun _ hk => hk.2) (.slice (some ⟨go12,0,none⟩) t195.length co22)) (fun _ hk => hk.2) (.int .i64 t198)) (fun _ hk => hk.2) (.int .i64 t199)) (fun _ hk => trivial),by repeat (first|(with_reducible first|exact HB.out|apply below_alloc|apply pw_below_drewN|apply below_drew1|refine below_set ?_ GE188.out|refine below_set ?_ GE189.out)|exact HB.out)⟩
   ·rw [if_neg c8] at H
    exact absurd H (by simp)
  ·rw [if_neg c7] at H
   exact absurd H (by simp)
 ·rw [if_neg c5] at H
  have c5b0 : (t190 == 0) = false:=beq_eq_false_iff_ne.mpr c5
  have c5b1 : (t190 != 0) = true:=bne_iff_ne.mpr c5
  simp only [Option.some.injEq,Prod.mk.injEq] at H
  obtain ⟨rfl,rfl,rfl,rfl,rfl,rfl⟩:=H
  go_enter Try.func20,Try.ntmps20
  go_wp2_with (first|((with_reducible refine gate_dst (N:=3) rfl ?_);refine box_event ?hg (N:=3) ?hd (cs:=#[.int .i64 a0_0,.slice A0_1 l0_1.length c0_1,.slice A0_2 l0_2.length c0_2,.int .i64 a0_3,.int .i64 a0_4]) (t:=25) ?hr ?_;(case hd => rfl);(case hg => rfl);(case hr => first|(go_simp;done)|(go_simp;rfl));intro gb188 hg w29 hbox hb;have n0_:=Aside0.mk (below_step (by repeat (first|(with_reducible first|exact HB.out|apply below_alloc|apply pw_below_drewN|apply below_drew1)|exact HB.out)) hb);have n1_:=Aside0.mk (hbox);have n2_:=Aside0.mk ((by rw [hg];exact (below_size (by repeat (first|(with_reducible first|exact HB.out|apply below_alloc|apply pw_below_drewN|apply below_drew1)|exact HB.out))) : w.heap.size ≤ gb188));have n3_:=Aside0.mk ((by rw [hg];exact (below_size (by repeat (first|(with_reducible first|exact HB.out|apply below_alloc|apply pw_below_drewN|apply below_drew1)|exact HB.out))) : w.heap.size ≤ gb188));clear HB;have HB:=n0_;have BK188:=n1_;have GW188:=n2_;have GE188:=n3_;clear n0_ n1_ n2_ n3_;clear hb hbox hg)|((with_reducible refine gate_dst (N:=6) rfl ?_);refine box_event ?hg (N:=6) ?hd (cs:=#[.int .i64 0,.slice none 0 0,.slice none 0 0,.int .i64 0,.int .i64 0]) (t:=25) ?hr ?_;(case hd => rfl);(case hg => rfl);(case hr => first|(go_simp;done)|(go_simp;rfl));intro gb189 hg w30 hbox hb;have n0_:=Aside0.mk (blk_below (g:=gb188) (o:=.cells #[.int .i64 a0_0,.slice A0_1 l0_1.length c0_1,.slice A0_2 l0_2.length c0_2,.int .i64 a0_3,.int .i64 a0_4] 25 (0,0)) (by (with_reducible repeat (first|refine blk_drewN ?_ _|refine blk_drew ?_|refine blk_alloc ?_ _));exact BK188.out) hb);have n1_:=Aside0.mk (below_step (by repeat (first|(with_reducible first|exact HB.out|apply below_alloc|apply pw_below_drewN|apply below_drew1|refine below_set ?_ GE188.out)|exact HB.out)) hb);have n2_:=Aside0.mk (hbox);have n3_:=Aside0.mk ((by rw [hg];exact (below_size (by repeat (first|(with_reducible first|exact HB.out|apply below_alloc|apply pw_below_drewN|apply below_drew1|refine below_set ?_ GE188.out)|exact HB.out))) : w.heap.size ≤ gb189));have n4_:=Aside0.mk ((by rw [hg];exact (below_size (by repeat (first|(with_reducible first|exact HB.out|apply below_alloc|apply pw_below_drewN|apply below_drew1|refine below_set ?_ GE188.out)|exact HB.out))) : w.heap.size ≤ gb189));have n5_:=Aside0.mk ((by rw [hg];exact Nat.ne_of_lt (blk_lt (g:=gb188) (o:=.cells #[.int .i64 a0_0,.slice A0_1 l0_1.length c0_1,.slice A0_2 l0_2.length c0_2,.int .i64 a0_3,.int .i64 a0_4] 25 (0,0)) (by (with_reducible repeat (first|refine blk_drewN ?_ _|refine blk_drew ?_|refine blk_alloc ?_ _));exact BK188.out)) : gb188 ≠ gb189));have n6_:=Aside0.mk ((by rw [hg];exact Nat.ne_of_gt (blk_lt (g:=gb188) (o:=.cells #[.int .i64 a0_0,.slice A0_1 l0_1.length c0_1,.slice A0_2 l0_2.length c0_2,.int .i64 a0_3,.int .i64 a0_4] 25 (0,0)) (by (with_reducible repeat (first|refine blk_drewN ?_ _|refine blk_drew ?_|refine blk_alloc ?_ _));exact BK188.out)) : gb189 ≠ gb188));clear BK188;clear HB;have BK188:=n0_;have HB:=n1_;have BK189:=n2_;have GW189:=n3_;have GE189:=n4_;have NB188_189:=n5_;have NB189_188:=n6_;clear n0_ n1_ n2_ n3_ n4_ n5_ n6_;clear hb hbox hg;have hnb31:=NB188_189.out;have hnc31:=NB189_188.out;have hcz32_0 : w30.cell? ⟨gb188,0,none⟩ = some (.int .i64 a0_0):=(blk_cell BK188.out 0).trans rfl;have hcz32_1 : w30.cell? ⟨gb188,1,none⟩ = some (.slice A0_1 l0_1.length c0_1):=(blk_cell BK188.out 1).trans rfl;have hcz32_2 : w30.cell? ⟨gb188,2,none⟩ = some (.slice A0_2 l0_2.length c0_2):=(blk_cell BK188.out 2).trans rfl;have hcz32_3 : w30.cell? ⟨gb188,3,none⟩ = some (.int .i64 a0_3):=(blk_cell BK188.out 3).trans rfl;have hcz32_4 : w30.cell? ⟨gb188,4,none⟩ = some (.int .i64 a0_4):=(blk_cell BK188.out 4).trans rfl;have hfz32_0:=blk_frozen BK188.out 0;have hfz32_1:=blk_frozen BK188.out 1;have hfz32_2:=blk_frozen BK188.out 2;have hfz32_3:=blk_frozen BK188.out 3;have hfz32_4:=blk_frozen BK188.out 4)|((with_reducible refine gate_callee (f:=46) rfl ?_);refine goesL_ (some 12) rfl rfl Try.func46 (by kernel_rfl) rfl #[.agg #[.int .i64 a0_0,.slice A0_1 l0_1.length c0_1,.slice A0_2 l0_2.length c0_2,.int .i64 a0_3,.int .i64 a0_4],.int .i64 a1,.int .i64 a2] rfl (by (try simp only [List.map_toArray,List.map_cons,List.map_nil]);first|done|rfl|(simp only [List.length_drop,List.length_take];rfl)) ?_;(with_reducible refine (hinterlandref11_deedError.calls k a0_0 _ _ l0_1 _ _ l0_2 a0_3 a0_4 a1 a2 t190 _ ?side1 ?side2 ?side3 ?side4 A4.out).mono ?_);(case side1 => repeat (first|exact (Kd.C_below HR0_1.out HB.out)|(with_reducible refine Kd.C_alloc ?_ _)|(with_reducible refine Kd.C_drewN ?_ _)|(with_reducible refine Kd.C_drew ?_)));(case side2 => exact HC0_1.out);(case side3 => repeat (first|exact (Kd.C_below HR0_2.out HB.out)|(with_reducible refine Kd.C_alloc ?_ _)|(with_reducible refine Kd.C_drewN ?_ _)|(with_reducible refine Kd.C_drew ?_)));(case side4 => exact HC0_2.out);rintro e w33 ⟨rfl,hb⟩;refine ⟨_,rfl,?_⟩;have n0_:=Aside0.mk (blk_below (g:=gb188) (o:=.cells #[.int .i64 a0_0,.slice A0_1 l0_1.length c0_1,.slice A0_2 l0_2.length c0_2,.int .i64 a0_3,.int .i64 a0_4] 25 (0,0)) (by (with_reducible repeat (first|refine blk_drewN ?_ _|refine blk_drew ?_|refine blk_alloc ?_ _));exact BK188.out) hb);have n1_:=Aside0.mk (blk_below (g:=gb189) (o:=.cells #[.int .i64 0,.slice none 0 0,.slice none 0 0,.int .i64 0,.int .i64 0] 25 (0,0)) (by (with_reducible repeat (first|refine blk_drewN ?_ _|refine blk_drew ?_|refine blk_alloc ?_ _));exact BK189.out) hb);have n2_:=Aside0.mk (below_step (by repeat (first|(with_reducible first|exact HB.out|apply below_alloc|apply pw_below_drewN|apply below_drew1|refine below_set ?_ GE188.out|refine below_set ?_ GE189.out)|exact HB.out)) hb);clear BK188;clear BK189;clear HB;have BK188:=n0_;have BK189:=n1_;have HB:=n2_;clear n0_ n1_ n2_;(try clear hb);(try clear hb2);(try clear hk);(try clear hi);have hcz34_0 : w33.cell? ⟨gb189,0,none⟩ = some (.int .i64 0):=(blk_cell BK189.out 0).trans rfl;have hcz34_1 : w33.cell? ⟨gb189,1,none⟩ = some (.slice none 0 0):=(blk_cell BK189.out 1).trans rfl;have hcz34_2 : w33.cell? ⟨gb189,2,none⟩ = some (.slice none 0 0):=(blk_cell BK189.out 2).trans rfl;have hcz34_3 : w33.cell? ⟨gb189,3,none⟩ = some (.int .i64 0):=(blk_cell BK189.out 3).trans rfl;have hcz34_4 : w33.cell? ⟨gb189,4,none⟩ = some (.int .i64 0):=(blk_cell BK189.out 4).trans rfl;have hfz34_0:=blk_frozen BK189.out 0;have hfz34_1:=blk_frozen BK189.out 1;have hfz34_2:=blk_frozen BK189.out 2;have hfz34_3:=blk_frozen BK189.out 3;have hfz34_4:=blk_frozen BK189.out 4))
  refine bodyPost_ret (results_ct rfl _ _ gb189 25 #[.int .i64 0,.slice none 0 0,.slice none 0 0,.int .i64 0,.int .i64 0] (0,0) _ rfl (by (with_reducible repeat (first|refine blk_drewN ?_ _|refine blk_drew ?_|refine blk_alloc ?_ _));refine blk_put (cs:=#[.int .i64 0,.slice none 0 0,.slice none 0 0,.int .i64 0,.int .i64 0]) ?_ 4 _ rfl;(with_reducible repeat (first|refine blk_drewN ?_ _|refine blk_drew ?_|refine blk_alloc ?_ _));refine blk_put (cs:=#[.int .i64 0,.slice none 0 0,.slice none 0 0,.int .i64 0,.int .i64 0]) ?_ 3 _ rfl;(with_reducible repeat (first|refine blk_drewN ?_ _|refine blk_drew ?_|refine blk_alloc ?_ _));refine blk_put (cs:=#[.int .i64 0,.slice none 0 0,.slice none 0 0,.int .i64 0,.int .i64 0]) ?_ 2 _ rfl;(with_reducible repeat (first|refine blk_drewN ?_ _|refine blk_drew ?_|refine blk_alloc ?_ _));refine blk_put (cs:=#[.int .i64 0,.slice none 0 0,.slice none 0 0,.int .i64 0,.int .i64 0]) ?_ 1 _ rfl;(with_reducible repeat (first|refine blk_drewN ?_ _|refine blk_drew ?_|refine blk_alloc ?_ _));refine blk_put (cs:=#[.int .i64 0,.slice none 0 0,.slice none 0 0,.int .i64 0,.int .i64 0]) ?_ 0 _ rfl;(with_reducible repeat (first|refine blk_drewN ?_ _|refine blk_drew ?_|refine blk_alloc ?_ _));exact BK189.out) Try.underlying25 rfl (by kernel_rfl)) rfl ?_
  exact ⟨_,_,by first|rfl|(simp [errW_none,errW_some] <;> rfl)|(simp [*,errW_none,errW_some] <;> rfl),by first|exact Kd.R_nil _ _ _ _ _|exact Kd.N_nil _ _ _ _ _|exact Kd.V_nil _ _ _ _ _|exact Kd.Q_nil _ _ _ _ _|exact Kd.S_nil _ _ _ _ _,by first|exact Kd.R_nil _ _ _ _ _|exact Kd.N_nil _ _ _ _ _|exact Kd.V_nil _ _ _ _ _|exact Kd.Q_nil _ _ _ _ _|exact Kd.S_nil _ _ _ _ _,by repeat (first|(with_reducible first|exact HB.out|apply below_alloc|apply pw_below_drewN|apply below_drew1|refine below_set ?_ GE188.out|refine below_set ?_ GE189.out)|exact HB.out)⟩

/-! ### hinterlandref01_At: function 78 -/
def hinterlandref01_At.f (a0_0 : Int) (a1 : Int) : Option (Int) := some (Go.bits .xor .u64 (IntKind.u64.wrap ((Go.bits .xor .u64 (IntKind.u64.wrap ((Go.bits .xor .u64 (IntKind.u64.wrap (a0_0 + (IntKind.u64.wrap (a1 * 11400714819323198485)))) ((IntKind.u64.wrap (a0_0 + (IntKind.u64.wrap (a1 * 11400714819323198485)))) / 1073741824)) * 13787848793156543929)) ((IntKind.u64.wrap ((Go.bits .xor .u64 (IntKind.u64.wrap (a0_0 + (IntKind.u64.wrap (a1 * 11400714819323198485)))) ((IntKind.u64.wrap (a0_0 + (IntKind.u64.wrap (a1 * 11400714819323198485)))) / 1073741824)) * 13787848793156543929)) / 134217728)) * 10723151780598845931)) ((IntKind.u64.wrap ((Go.bits .xor .u64 (IntKind.u64.wrap ((Go.bits .xor .u64 (IntKind.u64.wrap (a0_0 + (IntKind.u64.wrap (a1 * 11400714819323198485)))) ((IntKind.u64.wrap (a0_0 + (IntKind.u64.wrap (a1 * 11400714819323198485)))) / 1073741824)) * 13787848793156543929)) ((IntKind.u64.wrap ((Go.bits .xor .u64 (IntKind.u64.wrap (a0_0 + (IntKind.u64.wrap (a1 * 11400714819323198485)))) ((IntKind.u64.wrap (a0_0 + (IntKind.u64.wrap (a1 * 11400714819323198485)))) / 1073741824)) * 13787848793156543929)) / 134217728)) * 10723151780598845931)) / 2147483648))
set_option maxHeartbeats 8000000 in
set_option maxRecDepth 100000 in
theorem hinterlandref01_At.calls (a0_0 : Int) (a1 : Int) (r : Int) (w : World) (h : hinterlandref01_At.f a0_0 a1 = some r) :
  Calls Try.prog 78 #[.agg #[.int .u64 a0_0],.int .u64 a1] w fun e w' => e = .returned (.int .u64 r) ∧ Below w.heap.size w w':=by
 have hu45:=Try.underlying45
 have HB:=Aside0.mk (Below.refl w.heap.size w)
 have H : (some (Go.bits .xor .u64 (IntKind.u64.wrap ((Go.bits .xor .u64 (IntKind.u64.wrap ((Go.bits .xor .u64 (IntKind.u64.wrap (a0_0 + (IntKind.u64.wrap (a1 * 11400714819323198485)))) ((IntKind.u64.wrap (a0_0 + (IntKind.u64.wrap (a1 * 11400714819323198485)))) / 1073741824)) * 13787848793156543929)) ((IntKind.u64.wrap ((Go.bits .xor .u64 (IntKind.u64.wrap (a0_0 + (IntKind.u64.wrap (a1 * 11400714819323198485)))) ((IntKind.u64.wrap (a0_0 + (IntKind.u64.wrap (a1 * 11400714819323198485)))) / 1073741824)) * 13787848793156543929)) / 134217728)) * 10723151780598845931)) ((IntKind.u64.wrap ((Go.bits .xor .u64 (IntKind.u64.wrap ((Go.bits .xor .u64 (IntKind.u64.wrap (a0_0 + (IntKind.u64.wrap (a1 * 11400714819323198485)))) ((IntKind.u64.wrap (a0_0 + (IntKind.u64.wrap (a1 * 11400714819323198485)))) / 1073741824)) * 13787848793156543929)) ((IntKind.u64.wrap ((Go.bits .xor .u64 (IntKind.u64.wrap (a0_0 + (IntKind.u64.wrap (a1 * 11400714819323198485)))) ((IntKind.u64.wrap (a0_0 + (IntKind.u64.wrap (a1 * 11400714819323198485)))) / 1073741824)) * 13787848793156543929)) / 134217728)) * 10723151780598845931)) / 2147483648))) = some r:=h
 clear h
 obtain rfl:=Option.some.inj H
 go_enter Try.func78,Try.ntmps78
 go_wp2_with (first|((with_reducible refine gate_dst (N:=2) rfl ?_);refine box_event ?hg (N:=2) ?hd (cs:=#[.int .u64 a0_0]) (t:=45) ?hr ?_;(case hd => rfl);(case hg => rfl);(case hr => first|(go_simp;done)|(go_simp;rfl));intro gb203 hg w3 hbox hb;have n0_:=Aside0.mk (below_step (by repeat (first|(with_reducible first|exact HB.out|apply below_alloc|apply pw_below_drewN|apply below_drew1)|exact HB.out)) hb);have n1_:=Aside0.mk (hbox);have n2_:=Aside0.mk ((by rw [hg];exact (below_size (by repeat (first|(with_reducible first|exact HB.out|apply below_alloc|apply pw_below_drewN|apply below_drew1)|exact HB.out))) : w.heap.size ≤ gb203));have n3_:=Aside0.mk ((by rw [hg];exact (below_size (by repeat (first|(with_reducible first|exact HB.out|apply below_alloc|apply pw_below_drewN|apply below_drew1)|exact HB.out))) : w.heap.size ≤ gb203));clear HB;have HB:=n0_;have BK203:=n1_;have GW203:=n2_;have GE203:=n3_;clear n0_ n1_ n2_ n3_;clear hb hbox hg;have hcz4_0 : w3.cell? ⟨gb203,0,none⟩ = some (.int .u64 a0_0):=(blk_cell BK203.out 0).trans rfl;have hfz4_0:=blk_frozen BK203.out 0))
 go_ret
 exact ⟨by first|rfl|(simp [errW_none,errW_some] <;> rfl)|(simp [*,errW_none,errW_some] <;> rfl),by repeat (first|(with_reducible first|exact HB.out|apply below_alloc|apply pw_below_drewN|apply below_drew1|refine below_set ?_ GE203.out)|exact HB.out)⟩

end Go.Proofs.Ytbdijpjlgokfkaa.P

/- Functions of this seat as plain Lean functions, with proofs that the Go code comes to just their answers, or what stands between them and a law's statement; no conditions. (Laid by a program of this session, out of the kit's print.) -/
import Derived.Test.YthbjchicpebglaaPx0
import Derived.Test.YthbjchicpebglaaPx4
import Derived.Test.YthbjchicpebglaaPx9
import Derived.Test.YthbjchicpebglaaPx14
namespace Go.Proofs.Ythbjchicpebglaa.P
open Go.RowKit Go.Proofs.YthbjchicpebglaaW.PrintWords Go.Proofs.YthbjchicpebglaaW.PrintLast Go.Proofs.YthbjchicpebglaaW.PrintMore
attribute [local go_sem] max2_int min2_int max_two min_two max_three min_three max_four min_four   -- for this text's walks alone
set_option linter.unusedVariables false
set_option linter.unusedSimpArgs false

/-! ### hinterlandlaw15_OrderUndone: function 15 -/
def hinterlandlaw15_OrderUndone.f (k : Nat) (l0 : List (S33)) (a1 : Int) (a2_0 : Int) (a2_1 : Int) (a2_2 : Int) (a2_3 : Int) (a2_4 : Int) (a2_5 : Int) (a2_6 : Int) (a2_7 : Int) (a2_8 : Int) : Option (Bool) := if (l0.length : Int) > 300 then ((hinterlandlaw15_known.f k).bind fun t237 => (some t237)) else ((order_Insert.f k l0 a1 a2_0 a2_1 a2_2 a2_3 a2_4 a2_5 a2_6 a2_7 a2_8).bind fun bt238 => (if bt238.2 = 0 then ((order_Remove.f k bt238.1 a1).bind fun bt242 => (if bt242.2 = 0 then ((api_Order_30.f k bt242.1 l0).bind fun t246 => (if t246 = true then (if (bt238.1.length : Int) = (wrap64 ((l0.length : Int) + 1)) then ((hinterlandlaw15_known.f k).bind fun t247 => (some t247)) else (some false)) else (some false))) else (some false))) else ((hinterlandlaw15_known.f k).bind fun t248 => (some t248))))
theorem hinterlandlaw15_OrderUndone.mono : ∀ a0 a1 a2 a3 a4 a5 a6 a7 a8 a9 a10 k, LeO (hinterlandlaw15_OrderUndone.f k a0 a1 a2 a3 a4 a5 a6 a7 a8 a9 a10) (hinterlandlaw15_OrderUndone.f (k + 1) a0 a1 a2 a3 a4 a5 a6 a7 a8 a9 a10) := by
 intro a0 a1 a2 a3 a4 a5 a6 a7 a8 a9 a10 k
 unfold hinterlandlaw15_OrderUndone.f
 repeat' first
   | (with_reducible exact api_Order_30.mono _ _ _)
   | (with_reducible exact hinterlandlaw15_known.mono _)
   | (with_reducible exact order_Insert.mono _ _ _ _ _ _ _ _ _ _ _ _)
   | (with_reducible exact order_Remove.mono _ _ _)
   | (with_reducible exact LeO.refl _)
   | (with_reducible exact LeO.none _)
   | (with_reducible refine LeO.ite ?_ ?_)
   | (with_reducible refine LeO.bind ?_ (fun _ => ?_))
   | exact api_Order_30.mono _ _ _
   | exact hinterlandlaw15_known.mono _
   | exact order_Insert.mono _ _ _ _ _ _ _ _ _ _ _ _
   | exact order_Remove.mono _ _ _
   | exact LeO.none _
   | refine LeO.ite ?_ ?_
   | refine LeO.bind ?_ (fun _ => ?_)
set_option maxHeartbeats 8000000 in
set_option maxRecDepth 100000 in
theorem hinterlandlaw15_OrderUndone.calls (k : Nat) (A0 : Option Addr) (c0 : Nat) (l0 : List (S33)) (a1 : Int) (a2_0 : Int) (a2_1 : Int) (a2_2 : Int) (a2_3 : Int) (a2_4 : Int) (a2_5 : Int) (a2_6 : Int) (a2_7 : Int) (a2_8 : Int) (r : Bool) (w : World) (hr0 : Kd.C k33 w A0 l0.length l0) (hc0 : l0.length ≤ c0) (h : hinterlandlaw15_OrderUndone.f k l0 a1 a2_0 a2_1 a2_2 a2_3 a2_4 a2_5 a2_6 a2_7 a2_8 = some r) :
  Calls Try.prog 15 #[.slice A0 l0.length c0,.int .i64 a1,.agg #[.int .i64 a2_0,.int .i64 a2_1,.int .i64 a2_2,.int .i64 a2_3,.int .i64 a2_4,.int .i64 a2_5,.int .i64 a2_6,.int .i64 a2_7,.int .i64 a2_8]] w fun e w' => e = .returned (.bool r) ∧ Below w.heap.size w w':=by
 have hu33:=Try.underlying33
 have HR0:=Aside0.mk hr0
 have HC0:=Aside0.mk hc0
 clear hr0 hc0
 have HB:=Aside0.mk (Below.refl w.heap.size w)
 have H : (if (l0.length : Int) > 300 then ((hinterlandlaw15_known.f k).bind fun t237 => (some t237)) else ((order_Insert.f k l0 a1 a2_0 a2_1 a2_2 a2_3 a2_4 a2_5 a2_6 a2_7 a2_8).bind fun bt238 => (if bt238.2 = 0 then ((order_Remove.f k bt238.1 a1).bind fun bt242 => (if bt242.2 = 0 then ((api_Order_30.f k bt242.1 l0).bind fun t246 => (if t246 = true then (if (bt238.1.length : Int) = (wrap64 ((l0.length : Int) + 1)) then ((hinterlandlaw15_known.f k).bind fun t247 => (some t247)) else (some false)) else (some false))) else (some false))) else ((hinterlandlaw15_known.f k).bind fun t248 => (some t248))))) = some r:=h
 clear h
 by_cases c4 : (l0.length : Int) > 300
 ·rw [if_pos c4] at H
  have c4b0 : decide (300 < (l0.length : Int)) = true:=decide_eq_true c4
  have c4b1 : decide (300 < l0.length) = true:=decide_eq_true (by omega)
  clear c4
  replace H:=Option.bind_eq_some_iff.mp H
  obtain ⟨t237,A50,H⟩:=H
  replace H : (some t237) = some r:=H
  have A5:=Aside0.mk A50
  clear A50
  obtain rfl:=Option.some.inj H
  go_enter Try.func15,Try.ntmps15
  go_wp2_with (first|((with_reducible refine gate_dst (N:=5) rfl ?_);(try (refine gate_guard (by rfl) ?_;dsimp only));refine box_ev (N:=5) (cs:=#[.int .i64 a2_0,.int .i64 a2_1,.int .i64 a2_2,.int .i64 a2_3,.int .i64 a2_4,.int .i64 a2_5,.int .i64 a2_6,.int .i64 a2_7,.int .i64 a2_8]) (t:=33) ?_;intro gb236 hg w6 hbox hb;have BK236:=Aside0.mk (hbox);have GW236 : Aside0 (w.heap.size ≤ gb236):=gsz hg;have GE236:=GW236;replace HB:=Aside0.mk (below_step (hb_) hb);clear hb hbox hg)|((with_reducible refine gate_callee (f:=16) rfl ?_);refine goesL_ (some 14) rfl rfl Try.func16 (by kernel_rfl) rfl #[] rfl (by (try simp only [List.map_toArray,List.map_cons,List.map_nil]);first|done|rfl|(simp only [List.length_drop,List.length_take];rfl)) ?_;(with_reducible refine (hinterlandlaw15_known.calls k  t237 _ A5.out).mono ?_);rintro e w7 ⟨rfl,hb⟩;refine ⟨_,rfl,?_⟩;replace BK236:=bkb BK236 hb;replace HB:=Aside0.mk (below_step (hb_) hb)))
  go_ret
  exact ⟨by first|rfl|(simp [errW_none,errW_some] <;> rfl)|(simp [*,errW_none,errW_some] <;> rfl),hb_⟩
 rw [if_neg c4] at H
 have c4b0 : decide (300 < (l0.length : Int)) = false:=decide_eq_false c4
 have c4b1 : decide (300 < l0.length) = false:=decide_eq_false (by omega)
 clear c4
 replace H:=Option.bind_eq_some_iff.mp H
 obtain ⟨⟨t238,t241⟩,A80,H⟩:=H
 replace H : (if t241 = 0 then ((order_Remove.f k t238 a1).bind fun bt242 => (if bt242.2 = 0 then ((api_Order_30.f k bt242.1 l0).bind fun t246 => (if t246 = true then (if (t238.length : Int) = (wrap64 ((l0.length : Int) + 1)) then ((hinterlandlaw15_known.f k).bind fun t247 => (some t247)) else (some false)) else (some false))) else (some false))) else ((hinterlandlaw15_known.f k).bind fun t248 => (some t248))) = some r:=H
 have A8:=Aside0.mk A80
 clear A80
 by_cases c9 : t241 = 0
 rotate_left
 ·rw [if_neg c9] at H
  have c9b0 : (t241 == 0) = false:=beq_eq_false_iff_ne.mpr c9
  have c9b1 : (t241 != 0) = true:=bne_iff_ne.mpr c9
  replace H:=Option.bind_eq_some_iff.mp H
  obtain ⟨t248,A400,H⟩:=H
  replace H : (some t248) = some r:=H
  have A40:=Aside0.mk A400
  clear A400
  obtain rfl:=Option.some.inj H
  go_enter Try.func15,Try.ntmps15
  go_wp2_with (first|((with_reducible refine gate_dst (N:=5) rfl ?_);(try (refine gate_guard (by rfl) ?_;dsimp only));refine box_ev (N:=5) (cs:=#[.int .i64 a2_0,.int .i64 a2_1,.int .i64 a2_2,.int .i64 a2_3,.int .i64 a2_4,.int .i64 a2_5,.int .i64 a2_6,.int .i64 a2_7,.int .i64 a2_8]) (t:=33) ?_;intro gb236 hg w41 hbox hb;have BK236:=Aside0.mk (hbox);have GW236 : Aside0 (w.heap.size ≤ gb236):=gsz hg;have GE236:=GW236;replace HB:=Aside0.mk (below_step (hb_) hb);clear hb hbox hg;obtain ⟨hcz42_0,hcz42_1,hcz42_2,hcz42_3,hcz42_4,hcz42_5,hcz42_6,hcz42_7,hcz42_8,hfz42_0,hfz42_1,hfz42_2,hfz42_3,hfz42_4,hfz42_5,hfz42_6,hfz42_7,hfz42_8⟩:=cells9 BK236.out)|((with_reducible refine gate_callee (f:=36) rfl ?_);refine goesL_ (some 19) rfl rfl Try.func36 (by kernel_rfl) rfl #[.slice A0 l0.length c0,.int .i64 a1,.agg #[.int .i64 a2_0,.int .i64 a2_1,.int .i64 a2_2,.int .i64 a2_3,.int .i64 a2_4,.int .i64 a2_5,.int .i64 a2_6,.int .i64 a2_7,.int .i64 a2_8]] rfl (by (try simp only [List.map_toArray,List.map_cons,List.map_nil]);first|done|rfl|(simp only [List.length_drop,List.length_take];rfl)) ?_;(with_reducible refine (order_Insert.calls k _ _ l0 a1 a2_0 a2_1 a2_2 a2_3 a2_4 a2_5 a2_6 a2_7 a2_8 t238 t241 _ ?side1 ?side2 A8.out).mono ?_);(case side1 => exact Kd.C_up (Kd.C_below HR0.out HB.out));(case side2 => exact HC0.out);rintro e w43 ⟨v239,rfl,ho0,hb⟩;refine ⟨_,rfl,?_⟩;have HO240:=Aside0.mk (Kd.R_lower (Kd.R_newB ho0 (blk_up BK236.out)) (below_size (hb_)));replace BK236:=bkb BK236 hb;replace HB:=Aside0.mk (below_step (hb_) hb))|((with_reducible refine gate_callee (f:=16) rfl ?_);refine goesL_ (some 24) rfl rfl Try.func16 (by kernel_rfl) rfl #[] rfl (by (try simp only [List.map_toArray,List.map_cons,List.map_nil]);first|done|rfl|(simp only [List.length_drop,List.length_take];rfl)) ?_;(with_reducible refine (hinterlandlaw15_known.calls k  t248 _ A40.out).mono ?_);rintro e w44 ⟨rfl,hb⟩;refine ⟨_,rfl,?_⟩;replace HO240:=rbw HO240 hb;replace BK236:=bkb BK236 hb;replace HB:=Aside0.mk (below_step (hb_) hb)))
  go_ret
  exact ⟨by first|rfl|(simp [errW_none,errW_some] <;> rfl)|(simp [*,errW_none,errW_some] <;> rfl),hb_⟩
 rw [if_pos c9] at H
 have c9b0 : (t241 == 0) = true:=beq_iff_eq.mpr c9
 have c9b1 : (t241 != 0) = false:=bne_eq_false_iff_eq.mpr c9
 clear c9
 replace H:=Option.bind_eq_some_iff.mp H
 obtain ⟨⟨t242,t243⟩,A100,H⟩:=H
 replace H : (if t243 = 0 then ((api_Order_30.f k t242 l0).bind fun t246 => (if t246 = true then (if (t238.length : Int) = (wrap64 ((l0.length : Int) + 1)) then ((hinterlandlaw15_known.f k).bind fun t247 => (some t247)) else (some false)) else (some false))) else (some false)) = some r:=H
 have A10:=Aside0.mk A100
 clear A100
 by_cases c11 : t243 = 0
 rotate_left
 ·rw [if_neg c11] at H
  have c11b0 : (t243 == 0) = false:=beq_eq_false_iff_ne.mpr c11
  have c11b1 : (t243 != 0) = true:=bne_iff_ne.mpr c11
  obtain rfl:=Option.some.inj H
  go_enter Try.func15,Try.ntmps15
  go_wp2_with (first|((with_reducible refine gate_dst (N:=5) rfl ?_);(try (refine gate_guard (by rfl) ?_;dsimp only));refine box_ev (N:=5) (cs:=#[.int .i64 a2_0,.int .i64 a2_1,.int .i64 a2_2,.int .i64 a2_3,.int .i64 a2_4,.int .i64 a2_5,.int .i64 a2_6,.int .i64 a2_7,.int .i64 a2_8]) (t:=33) ?_;intro gb236 hg w35 hbox hb;have BK236:=Aside0.mk (hbox);have GW236 : Aside0 (w.heap.size ≤ gb236):=gsz hg;have GE236:=GW236;replace HB:=Aside0.mk (below_step (hb_) hb);clear hb hbox hg;obtain ⟨hcz36_0,hcz36_1,hcz36_2,hcz36_3,hcz36_4,hcz36_5,hcz36_6,hcz36_7,hcz36_8,hfz36_0,hfz36_1,hfz36_2,hfz36_3,hfz36_4,hfz36_5,hfz36_6,hfz36_7,hfz36_8⟩:=cells9 BK236.out)|((with_reducible refine gate_callee (f:=36) rfl ?_);refine goesL_ (some 19) rfl rfl Try.func36 (by kernel_rfl) rfl #[.slice A0 l0.length c0,.int .i64 a1,.agg #[.int .i64 a2_0,.int .i64 a2_1,.int .i64 a2_2,.int .i64 a2_3,.int .i64 a2_4,.int .i64 a2_5,.int .i64 a2_6,.int .i64 a2_7,.int .i64 a2_8]] rfl (by (try simp only [List.map_toArray,List.map_cons,List.map_nil]);first|done|rfl|(simp only [List.length_drop,List.length_take];rfl)) ?_;(with_reducible refine (order_Insert.calls k _ _ l0 a1 a2_0 a2_1 a2_2 a2_3 a2_4 a2_5 a2_6 a2_7 a2_8 t238 t241 _ ?side1 ?side2 A8.out).mono ?_);(case side1 => exact Kd.C_up (Kd.C_below HR0.out HB.out));(case side2 => exact HC0.out);rintro e w37 ⟨v239,rfl,ho0,hb⟩;refine ⟨_,rfl,?_⟩;have HO240:=Aside0.mk (Kd.R_lower (Kd.R_newB ho0 (blk_up BK236.out)) (below_size (hb_)));replace BK236:=bkb BK236 hb;replace HB:=Aside0.mk (below_step (hb_) hb);obtain ⟨Ao38,co38,eo38⟩:=Kd.R_slice HO240.out;subst eo38)|((with_reducible refine gate_callee (f:=29) rfl ?_);refine goesL_ (some 28) rfl rfl Try.func29 (by kernel_rfl) rfl #[.slice Ao38 t238.length co38,.int .i64 a1] rfl (by (try simp only [List.map_toArray,List.map_cons,List.map_nil]);first|done|rfl|(simp only [List.length_drop,List.length_take];rfl)) ?_;(with_reducible refine (order_Remove.calls k _ _ t238 a1 t242 t243 _ ?side1 ?side2 A10.out).mono ?_);(case side1 => exact Kd.C_up (Kd.R_reads' HO240.out).2.2);(case side2 => exact (Kd.R_reads' HO240.out).2.1);rintro e w39 ⟨v244,rfl,ho0,hb⟩;refine ⟨_,rfl,?_⟩;have HO245:=Aside0.mk (Kd.R_lower (Kd.R_newB (Kd.R_new' ho0 (Kd.R_lt (Kd.R_up HO240.out))) (blk_up BK236.out)) (below_size (hb_)));replace HO240:=Aside0.mk (Kd.R_elder' (Kd.R_up HO240.out) (Kd.R_base ho0) hb);replace BK236:=bkb BK236 hb;replace HB:=Aside0.mk (below_step (hb_) hb)))
  go_ret
  exact ⟨by first|rfl|(simp [errW_none,errW_some] <;> rfl)|(simp [*,errW_none,errW_some] <;> rfl),hb_⟩
 rw [if_pos c11] at H
 have c11b0 : (t243 == 0) = true:=beq_iff_eq.mpr c11
 have c11b1 : (t243 != 0) = false:=bne_eq_false_iff_eq.mpr c11
 clear c11
 replace H:=Option.bind_eq_some_iff.mp H
 obtain ⟨t246,A120,H⟩:=H
 replace H : (if t246 = true then (if (t238.length : Int) = (wrap64 ((l0.length : Int) + 1)) then ((hinterlandlaw15_known.f k).bind fun t247 => (some t247)) else (some false)) else (some false)) = some r:=H
 have A12:=Aside0.mk A120
 clear A120
 by_cases c13 : t246 = true
 ·subst c13
  have H1 : (if (t238.length : Int) = (wrap64 ((l0.length : Int) + 1)) then ((hinterlandlaw15_known.f k).bind fun t247 => (some t247)) else (some false)) = some r:=by rw [if_pos rfl] at H;exact H
  clear H
  have H:=H1
  clear H1
  by_cases c14 : (t238.length : Int) = (wrap64 ((l0.length : Int) + 1))
  ·rw [if_pos c14] at H
   have c14b0 : ((t238.length : Int) == (wrap64 ((l0.length : Int) + 1))) = true:=beq_iff_eq.mpr c14
   have c14b1 : ((t238.length : Int) != (wrap64 ((l0.length : Int) + 1))) = false:=bne_eq_false_iff_eq.mpr c14
   clear c14
   replace H:=Option.bind_eq_some_iff.mp H
   obtain ⟨t247,A150,H⟩:=H
   replace H : (some t247) = some r:=H
   have A15:=Aside0.mk A150
   clear A150
   obtain rfl:=Option.some.inj H
   go_enter Try.func15,Try.ntmps15
   go_wp2_with (first|((with_reducible refine gate_dst (N:=5) rfl ?_);(try (refine gate_guard (by rfl) ?_;dsimp only));refine box_ev (N:=5) (cs:=#[.int .i64 a2_0,.int .i64 a2_1,.int .i64 a2_2,.int .i64 a2_3,.int .i64 a2_4,.int .i64 a2_5,.int .i64 a2_6,.int .i64 a2_7,.int .i64 a2_8]) (t:=33) ?_;intro gb236 hg w16 hbox hb;have BK236:=Aside0.mk (hbox);have GW236 : Aside0 (w.heap.size ≤ gb236):=gsz hg;have GE236:=GW236;replace HB:=Aside0.mk (below_step (hb_) hb);clear hb hbox hg;obtain ⟨hcz17_0,hcz17_1,hcz17_2,hcz17_3,hcz17_4,hcz17_5,hcz17_6,hcz17_7,hcz17_8,hfz17_0,hfz17_1,hfz17_2,hfz17_3,hfz17_4,hfz17_5,hfz17_6,hfz17_7,hfz17_8⟩:=cells9 BK236.out)|((with_reducible refine gate_callee (f:=36) rfl ?_);refine goesL_ (some 19) rfl rfl Try.func36 (by kernel_rfl) rfl #[.slice A0 l0.length c0,.int .i64 a1,.agg #[.int .i64 a2_0,.int .i64 a2_1,.int .i64 a2_2,.int .i64 a2_3,.int .i64 a2_4,.int .i64 a2_5,.int .i64 a2_6,.int .i64 a2_7,.int .i64 a2_8]] rfl (by (try simp only [List.map_toArray,List.map_cons,List.map_nil]);first|done|rfl|(simp only [List.length_drop,List.length_take];rfl)) ?_;(with_reducible refine (order_Insert.calls k _ _ l0 a1 a2_0 a2_1 a2_2 a2_3 a2_4 a2_5 a2_6 a2_7 a2_8 t238 t241 _ ?side1 ?side2 A8.out).mono ?_);(case side1 => exact Kd.C_up (Kd.C_below HR0.out HB.out));(case side2 => exact HC0.out);rintro e w18 ⟨v239,rfl,ho0,hb⟩;refine ⟨_,rfl,?_⟩;have HO240:=Aside0.mk (Kd.R_lower (Kd.R_newB ho0 (blk_up BK236.out)) (below_size (hb_)));replace BK236:=bkb BK236 hb;replace HB:=Aside0.mk (below_step (hb_) hb);obtain ⟨Ao19,co19,eo19⟩:=Kd.R_slice HO240.out;subst eo19)|((with_reducible refine gate_callee (f:=29) rfl ?_);refine goesL_ (some 28) rfl rfl Try.func29 (by kernel_rfl) rfl #[.slice Ao19 t238.length co19,.int .i64 a1] rfl (by (try simp only [List.map_toArray,List.map_cons,List.map_nil]);first|done|rfl|(simp only [List.length_drop,List.length_take];rfl)) ?_;(with_reducible refine (order_Remove.calls k _ _ t238 a1 t242 t243 _ ?side1 ?side2 A10.out).mono ?_);(case side1 => exact Kd.C_up (Kd.R_reads' HO240.out).2.2);(case side2 => exact (Kd.R_reads' HO240.out).2.1);rintro e w20 ⟨v244,rfl,ho0,hb⟩;refine ⟨_,rfl,?_⟩;have HO245:=Aside0.mk (Kd.R_lower (Kd.R_newB (Kd.R_new' ho0 (Kd.R_lt (Kd.R_up HO240.out))) (blk_up BK236.out)) (below_size (hb_)));replace HO240:=Aside0.mk (Kd.R_elder' (Kd.R_up HO240.out) (Kd.R_base ho0) hb);replace BK236:=bkb BK236 hb;replace HB:=Aside0.mk (below_step (hb_) hb);obtain ⟨Ao21,co21,eo21⟩:=Kd.R_slice HO245.out;subst eo21)|(go_at_call 30;(with_reducible refine (api_Order_30.calls k _ _ t242 _ _ l0 true _ ?side1 ?side2 ?side3 ?side4 A12.out).mono ?_);(case side1 => exact Kd.C_up (Kd.R_reads' HO245.out).2.2);(case side2 => exact (Kd.R_reads' HO245.out).2.1);(case side3 => exact Kd.C_up (Kd.C_below HR0.out HB.out));(case side4 => exact HC0.out);rintro e w' ⟨rfl,⟨nd,rfl⟩⟩)|(go_at_call 16;(with_reducible refine (hinterlandlaw15_known.calls k  t247 _ A15.out).mono ?_);rintro e w22 ⟨rfl,hb⟩;replace HO240:=rbw HO240 hb;replace HO245:=rbw HO245 hb;replace BK236:=bkb BK236 hb;replace HB:=Aside0.mk (below_step (hb_) hb)))
   go_ret
   exact ⟨by first|rfl|(simp [errW_none,errW_some] <;> rfl)|(simp [*,errW_none,errW_some] <;> rfl),hb_⟩
  ·rw [if_neg c14] at H
   have c14b0 : ((t238.length : Int) == (wrap64 ((l0.length : Int) + 1))) = false:=beq_eq_false_iff_ne.mpr c14
   have c14b1 : ((t238.length : Int) != (wrap64 ((l0.length : Int) + 1))) = true:=bne_iff_ne.mpr c14
   obtain rfl:=Option.some.inj H
   go_enter Try.func15,Try.ntmps15
   go_wp2_with (first|((with_reducible refine gate_dst (N:=5) rfl ?_);(try (refine gate_guard (by rfl) ?_;dsimp only));refine box_ev (N:=5) (cs:=#[.int .i64 a2_0,.int .i64 a2_1,.int .i64 a2_2,.int .i64 a2_3,.int .i64 a2_4,.int .i64 a2_5,.int .i64 a2_6,.int .i64 a2_7,.int .i64 a2_8]) (t:=33) ?_;intro gb236 hg w23 hbox hb;have BK236:=Aside0.mk (hbox);have GW236 : Aside0 (w.heap.size ≤ gb236):=gsz hg;have GE236:=GW236;replace HB:=Aside0.mk (below_step (hb_) hb);clear hb hbox hg;obtain ⟨hcz24_0,hcz24_1,hcz24_2,hcz24_3,hcz24_4,hcz24_5,hcz24_6,hcz24_7,hcz24_8,hfz24_0,hfz24_1,hfz24_2,hfz24_3,hfz24_4,hfz24_5,hfz24_6,hfz24_7,hfz24_8⟩:=cells9 BK236.out)|((with_reducible refine gate_callee (f:=36) rfl ?_);refine goesL_ (some 19) rfl rfl Try.func36 (by kernel_rfl) rfl #[.slice A0 l0.length c0,.int .i64 a1,.agg #[.int .i64 a2_0,.int .i64 a2_1,.int .i64 a2_2,.int .i64 a2_3,.int .i64 a2_4,.int .i64 a2_5,.int .i64 a2_6,.int .i64 a2_7,.int .i64 a2_8]] rfl (by (try simp only [List.map_toArray,List.map_cons,List.map_nil]);first|done|rfl|(simp only [List.length_drop,List.length_take];rfl)) ?_;(with_reducible refine (order_Insert.calls k _ _ l0 a1 a2_0 a2_1 a2_2 a2_3 a2_4 a2_5 a2_6 a2_7 a2_8 t238 t241 _ ?side1 ?side2 A8.out).mono ?_);(case side1 => exact Kd.C_up (Kd.C_below HR0.out HB.out));(case side2 => exact HC0.out);rintro e w25 ⟨v239,rfl,ho0,hb⟩;refine ⟨_,rfl,?_⟩;have HO240:=Aside0.mk (Kd.R_lower (Kd.R_newB ho0 (blk_up BK236.out)) (below_size (hb_)));replace BK236:=bkb BK236 hb;replace HB:=Aside0.mk (below_step (hb_) hb);obtain ⟨Ao26,co26,eo26⟩:=Kd.R_slice HO240.out;subst eo26)|((with_reducible refine gate_callee (f:=29) rfl ?_);refine goesL_ (some 28) rfl rfl Try.func29 (by kernel_rfl) rfl #[.slice Ao26 t238.length co26,.int .i64 a1] rfl (by (try simp only [List.map_toArray,List.map_cons,List.map_nil]);first|done|rfl|(simp only [List.length_drop,List.length_take];rfl)) ?_;(with_reducible refine (order_Remove.calls k _ _ t238 a1 t242 t243 _ ?side1 ?side2 A10.out).mono ?_);(case side1 => exact Kd.C_up (Kd.R_reads' HO240.out).2.2);(case side2 => exact (Kd.R_reads' HO240.out).2.1);rintro e w27 ⟨v244,rfl,ho0,hb⟩;refine ⟨_,rfl,?_⟩;have HO245:=Aside0.mk (Kd.R_lower (Kd.R_newB (Kd.R_new' ho0 (Kd.R_lt (Kd.R_up HO240.out))) (blk_up BK236.out)) (below_size (hb_)));replace HO240:=Aside0.mk (Kd.R_elder' (Kd.R_up HO240.out) (Kd.R_base ho0) hb);replace BK236:=bkb BK236 hb;replace HB:=Aside0.mk (below_step (hb_) hb);obtain ⟨Ao28,co28,eo28⟩:=Kd.R_slice HO245.out;subst eo28)|(go_at_call 30;(with_reducible refine (api_Order_30.calls k _ _ t242 _ _ l0 true _ ?side1 ?side2 ?side3 ?side4 A12.out).mono ?_);(case side1 => exact Kd.C_up (Kd.R_reads' HO245.out).2.2);(case side2 => exact (Kd.R_reads' HO245.out).2.1);(case side3 => exact Kd.C_up (Kd.C_below HR0.out HB.out));(case side4 => exact HC0.out);rintro e w' ⟨rfl,⟨nd,rfl⟩⟩))
   go_ret
   exact ⟨by first|rfl|(simp [errW_none,errW_some] <;> rfl)|(simp [*,errW_none,errW_some] <;> rfl),hb_⟩
 ·replace c13:=Bool.eq_false_iff.mpr c13
  subst c13
  have H1 : (some false) = some r:=by rw [if_neg (show ¬ (false = true) by decide)] at H;exact H
  clear H
  have H:=H1
  clear H1
  obtain rfl:=Option.some.inj H
  go_enter Try.func15,Try.ntmps15
  go_wp2_with (first|((with_reducible refine gate_dst (N:=5) rfl ?_);(try (refine gate_guard (by rfl) ?_;dsimp only));refine box_ev (N:=5) (cs:=#[.int .i64 a2_0,.int .i64 a2_1,.int .i64 a2_2,.int .i64 a2_3,.int .i64 a2_4,.int .i64 a2_5,.int .i64 a2_6,.int .i64 a2_7,.int .i64 a2_8]) (t:=33) ?_;intro gb236 hg w29 hbox hb;have BK236:=Aside0.mk (hbox);have GW236 : Aside0 (w.heap.size ≤ gb236):=gsz hg;have GE236:=GW236;replace HB:=Aside0.mk (below_step (hb_) hb);clear hb hbox hg;obtain ⟨hcz30_0,hcz30_1,hcz30_2,hcz30_3,hcz30_4,hcz30_5,hcz30_6,hcz30_7,hcz30_8,hfz30_0,hfz30_1,hfz30_2,hfz30_3,hfz30_4,hfz30_5,hfz30_6,hfz30_7,hfz30_8⟩:=cells9 BK236.out)|((with_reducible refine gate_callee (f:=36) rfl ?_);refine goesL_ (some 19) rfl rfl Try.func36 (by kernel_rfl) rfl #[.slice A0 l0.length c0,.int .i64 a1,.agg #[.int .i64 a2_0,.int .i64 a2_1,.int .i64 a2_2,.int .i64 a2_3,.int .i64 a2_4,.int .i64 a2_5,.int .i64 a2_6,.int .i64 a2_7,.int .i64 a2_8]] rfl (by (try simp only [List.map_toArray,List.map_cons,List.map_nil]);first|done|rfl|(simp only [List.length_drop,List.length_take];rfl)) ?_;(with_reducible refine (order_Insert.calls k _ _ l0 a1 a2_0 a2_1 a2_2 a2_3 a2_4 a2_5 a2_6 a2_7 a2_8 t238 t241 _ ?side1 ?side2 A8.out).mono ?_);(case side1 => exact Kd.C_up (Kd.C_below HR0.out HB.out));(case side2 => exact HC0.out);rintro e w31 ⟨v239,rfl,ho0,hb⟩;refine ⟨_,rfl,?_⟩;have HO240:=Aside0.mk (Kd.R_lower (Kd.R_newB ho0 (blk_up BK236.out)) (below_size (hb_)));replace BK236:=bkb BK236 hb;replace HB:=Aside0.mk (below_step (hb_) hb);obtain ⟨Ao32,co32,eo32⟩:=Kd.R_slice HO240.out;subst eo32)|((with_reducible refine gate_callee (f:=29) rfl ?_);refine goesL_ (some 28) rfl rfl Try.func29 (by kernel_rfl) rfl #[.slice Ao32 t238.length co32,.int .i64 a1] rfl (by (try simp only [List.map_toArray,List.map_cons,List.map_nil]);first|done|rfl|(simp only [List.length_drop,List.length_take];rfl)) ?_;(with_reducible refine (order_Remove.calls k _ _ t238 a1 t242 t243 _ ?side1 ?side2 A10.out).mono ?_);(case side1 => exact Kd.C_up (Kd.R_reads' HO240.out).2.2);(case side2 => exact (Kd.R_reads' HO240.out).2.1);rintro e w33 ⟨v244,rfl,ho0,hb⟩;refine ⟨_,rfl,?_⟩;have HO245:=Aside0.mk (Kd.R_lower (Kd.R_newB (Kd.R_new' ho0 (Kd.R_lt (Kd.R_up HO240.out))) (blk_up BK236.out)) (below_size (hb_)));replace HO240:=Aside0.mk (Kd.R_elder' (Kd.R_up HO240.out) (Kd.R_base ho0) hb);replace BK236:=bkb BK236 hb;replace HB:=Aside0.mk (below_step (hb_) hb);obtain ⟨Ao34,co34,eo34⟩:=Kd.R_slice HO245.out;subst eo34)|(go_at_call 30;(with_reducible refine (api_Order_30.calls k _ _ t242 _ _ l0 false _ ?side1 ?side2 ?side3 ?side4 A12.out).mono ?_);(case side1 => exact Kd.C_up (Kd.R_reads' HO245.out).2.2);(case side2 => exact (Kd.R_reads' HO245.out).2.1);(case side3 => exact Kd.C_up (Kd.C_below HR0.out HB.out));(case side4 => exact HC0.out);rintro e w' ⟨rfl,⟨nd,rfl⟩⟩))
  go_ret
  exact ⟨by first|rfl|(simp [errW_none,errW_some] <;> rfl)|(simp [*,errW_none,errW_some] <;> rfl),hb_⟩

end Go.Proofs.Ythbjchicpebglaa.P

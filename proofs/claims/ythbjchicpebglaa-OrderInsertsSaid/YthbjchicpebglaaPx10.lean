/- Functions of this seat as plain Lean functions, with proofs that the Go code comes to just their answers, or what stands between them and a law's statement; no conditions. (Laid by a program of this session, out of the kit's print.) -/
import Derived.Test.YthbjchicpebglaaPx0
import Derived.Test.YthbjchicpebglaaPx4
import Derived.Test.YthbjchicpebglaaPx6
import Derived.Test.YthbjchicpebglaaPx9
namespace Go.Proofs.Ythbjchicpebglaa.P
open Go.RowKit Go.Proofs.YthbjchicpebglaaW.PrintWords Go.Proofs.YthbjchicpebglaaW.PrintLast Go.Proofs.YthbjchicpebglaaW.PrintMore
attribute [local go_sem] max2_int min2_int max_two min_two max_three min_three max_four min_four   -- for this text's walks alone
set_option linter.unusedVariables false
set_option linter.unusedSimpArgs false

/-! ### hinterlandlaw15_OrderInserts: function 13 -/
def hinterlandlaw15_OrderInserts.f (k : Nat) (l0 : List (S33)) (a1 : Int) (a2_0 : Int) (a2_1 : Int) (a2_2 : Int) (a2_3 : Int) (a2_4 : Int) (a2_5 : Int) (a2_6 : Int) (a2_7 : Int) (a2_8 : Int) : Option (Bool) := if (l0.length : Int) > 300 then ((hinterlandlaw15_known.f k).bind fun t185 => (some t185)) else ((hinterlandref15_Insert.f k l0 a1 a2_0 a2_1 a2_2 a2_3 a2_4 a2_5 a2_6 a2_7 a2_8).bind fun bt186 => ((order_Insert.f k l0 a1 a2_0 a2_1 a2_2 a2_3 a2_4 a2_5 a2_6 a2_7 a2_8).bind fun bt190 => (if bt190.2 = bt186.2 then ((api_Order_30.f k bt190.1 bt186.1).bind fun t194 => (if t194 = true then ((hinterlandlaw15_known.f k).bind fun t195 => (some t195)) else (some false))) else (some false))))
theorem hinterlandlaw15_OrderInserts.mono : ∀ a0 a1 a2 a3 a4 a5 a6 a7 a8 a9 a10 k, LeO (hinterlandlaw15_OrderInserts.f k a0 a1 a2 a3 a4 a5 a6 a7 a8 a9 a10) (hinterlandlaw15_OrderInserts.f (k + 1) a0 a1 a2 a3 a4 a5 a6 a7 a8 a9 a10) := by
 intro a0 a1 a2 a3 a4 a5 a6 a7 a8 a9 a10 k
 unfold hinterlandlaw15_OrderInserts.f
 repeat' first
   | (with_reducible exact api_Order_30.mono _ _ _)
   | (with_reducible exact hinterlandlaw15_known.mono _)
   | (with_reducible exact hinterlandref15_Insert.mono _ _ _ _ _ _ _ _ _ _ _ _)
   | (with_reducible exact order_Insert.mono _ _ _ _ _ _ _ _ _ _ _ _)
   | (with_reducible exact LeO.refl _)
   | (with_reducible exact LeO.none _)
   | (with_reducible refine LeO.ite ?_ ?_)
   | (with_reducible refine LeO.bind ?_ (fun _ => ?_))
   | exact api_Order_30.mono _ _ _
   | exact hinterlandlaw15_known.mono _
   | exact hinterlandref15_Insert.mono _ _ _ _ _ _ _ _ _ _ _ _
   | exact order_Insert.mono _ _ _ _ _ _ _ _ _ _ _ _
   | exact LeO.none _
   | refine LeO.ite ?_ ?_
   | refine LeO.bind ?_ (fun _ => ?_)
set_option maxHeartbeats 8000000 in
set_option maxRecDepth 100000 in
theorem hinterlandlaw15_OrderInserts.calls (k : Nat) (A0 : Option Addr) (c0 : Nat) (l0 : List (S33)) (a1 : Int) (a2_0 : Int) (a2_1 : Int) (a2_2 : Int) (a2_3 : Int) (a2_4 : Int) (a2_5 : Int) (a2_6 : Int) (a2_7 : Int) (a2_8 : Int) (r : Bool) (w : World) (hr0 : Kd.C k33 w A0 l0.length l0) (hc0 : l0.length ≤ c0) (h : hinterlandlaw15_OrderInserts.f k l0 a1 a2_0 a2_1 a2_2 a2_3 a2_4 a2_5 a2_6 a2_7 a2_8 = some r) :
  Calls Try.prog 13 #[.slice A0 l0.length c0,.int .i64 a1,.agg #[.int .i64 a2_0,.int .i64 a2_1,.int .i64 a2_2,.int .i64 a2_3,.int .i64 a2_4,.int .i64 a2_5,.int .i64 a2_6,.int .i64 a2_7,.int .i64 a2_8]] w fun e w' => e = .returned (.bool r) ∧ Below w.heap.size w w':=by
 have hu33:=Try.underlying33
 have HR0:=Aside0.mk hr0
 have HC0:=Aside0.mk hc0
 clear hr0 hc0
 have HB:=Aside0.mk (Below.refl w.heap.size w)
 have H : (if (l0.length : Int) > 300 then ((hinterlandlaw15_known.f k).bind fun t185 => (some t185)) else ((hinterlandref15_Insert.f k l0 a1 a2_0 a2_1 a2_2 a2_3 a2_4 a2_5 a2_6 a2_7 a2_8).bind fun bt186 => ((order_Insert.f k l0 a1 a2_0 a2_1 a2_2 a2_3 a2_4 a2_5 a2_6 a2_7 a2_8).bind fun bt190 => (if bt190.2 = bt186.2 then ((api_Order_30.f k bt190.1 bt186.1).bind fun t194 => (if t194 = true then ((hinterlandlaw15_known.f k).bind fun t195 => (some t195)) else (some false))) else (some false))))) = some r:=h
 clear h
 by_cases c4 : (l0.length : Int) > 300
 ·rw [if_pos c4] at H
  have c4b0 : decide (300 < (l0.length : Int)) = true:=decide_eq_true c4
  have c4b1 : decide (300 < l0.length) = true:=decide_eq_true (by omega)
  clear c4
  replace H:=Option.bind_eq_some_iff.mp H
  obtain ⟨t185,A50,H⟩:=H
  replace H : (some t185) = some r:=H
  have A5:=Aside0.mk A50
  clear A50
  obtain rfl:=Option.some.inj H
  go_enter Try.func13,Try.ntmps13
  go_wp2_with (first|((with_reducible refine gate_dst (N:=5) rfl ?_);refine box_ev (N:=5) (cs:=#[.int .i64 a2_0,.int .i64 a2_1,.int .i64 a2_2,.int .i64 a2_3,.int .i64 a2_4,.int .i64 a2_5,.int .i64 a2_6,.int .i64 a2_7,.int .i64 a2_8]) (t:=33) ?_;intro gb184 hg w6 hbox hb;have BK184:=Aside0.mk (hbox);have GW184 : Aside0 (w.heap.size ≤ gb184):=gsz hg;have GE184:=GW184;replace HB:=Aside0.mk (below_step (hb_) hb);clear hb hbox hg)|((with_reducible refine gate_callee (f:=16) rfl ?_);refine goesL_ (some 14) rfl rfl Try.func16 (by kernel_rfl) rfl #[] rfl (by (try simp only [List.map_toArray,List.map_cons,List.map_nil]);first|done|rfl|(simp only [List.length_drop,List.length_take];rfl)) ?_;(with_reducible refine (hinterlandlaw15_known.calls k  t185 _ A5.out).mono ?_);rintro e w7 ⟨rfl,hb⟩;refine ⟨_,rfl,?_⟩;replace BK184:=bkb BK184 hb;replace HB:=Aside0.mk (below_step (hb_) hb)))
  go_ret
  exact ⟨by first|rfl|(simp [errW_none,errW_some] <;> rfl)|(simp [*,errW_none,errW_some] <;> rfl),hb_⟩
 rw [if_neg c4] at H
 have c4b0 : decide (300 < (l0.length : Int)) = false:=decide_eq_false c4
 have c4b1 : decide (300 < l0.length) = false:=decide_eq_false (by omega)
 clear c4
 replace H:=Option.bind_eq_some_iff.mp H
 obtain ⟨⟨t186,t189⟩,A80,H⟩:=H
 replace H : ((order_Insert.f k l0 a1 a2_0 a2_1 a2_2 a2_3 a2_4 a2_5 a2_6 a2_7 a2_8).bind fun bt190 => (if bt190.2 = t189 then ((api_Order_30.f k bt190.1 t186).bind fun t194 => (if t194 = true then ((hinterlandlaw15_known.f k).bind fun t195 => (some t195)) else (some false))) else (some false))) = some r:=H
 have A8:=Aside0.mk A80
 clear A80
 replace H:=Option.bind_eq_some_iff.mp H
 obtain ⟨⟨t190,t193⟩,A90,H⟩:=H
 replace H : (if t193 = t189 then ((api_Order_30.f k t190 t186).bind fun t194 => (if t194 = true then ((hinterlandlaw15_known.f k).bind fun t195 => (some t195)) else (some false))) else (some false)) = some r:=H
 have A9:=Aside0.mk A90
 clear A90
 by_cases c10 : t193 = t189
 rotate_left
 ·rw [if_neg c10] at H
  have c10b0 : (t193 == t189) = false:=beq_eq_false_iff_ne.mpr c10
  have c10b1 : (t193 != t189) = true:=bne_iff_ne.mpr c10
  obtain rfl:=Option.some.inj H
  go_enter Try.func13,Try.ntmps13
  go_wp2_with (first|((with_reducible refine gate_dst (N:=5) rfl ?_);refine box_ev (N:=5) (cs:=#[.int .i64 a2_0,.int .i64 a2_1,.int .i64 a2_2,.int .i64 a2_3,.int .i64 a2_4,.int .i64 a2_5,.int .i64 a2_6,.int .i64 a2_7,.int .i64 a2_8]) (t:=33) ?_;intro gb184 hg w29 hbox hb;have BK184:=Aside0.mk (hbox);have GW184 : Aside0 (w.heap.size ≤ gb184):=gsz hg;have GE184:=GW184;replace HB:=Aside0.mk (below_step (hb_) hb);clear hb hbox hg;obtain ⟨hcz30_0,hcz30_1,hcz30_2,hcz30_3,hcz30_4,hcz30_5,hcz30_6,hcz30_7,hcz30_8,hfz30_0,hfz30_1,hfz30_2,hfz30_3,hfz30_4,hfz30_5,hfz30_6,hfz30_7,hfz30_8⟩:=cells9 BK184.out)|((with_reducible refine gate_callee (f:=35) rfl ?_);refine goesL_ (some 19) rfl rfl Try.func35 (by kernel_rfl) rfl #[.slice A0 l0.length c0,.int .i64 a1,.agg #[.int .i64 a2_0,.int .i64 a2_1,.int .i64 a2_2,.int .i64 a2_3,.int .i64 a2_4,.int .i64 a2_5,.int .i64 a2_6,.int .i64 a2_7,.int .i64 a2_8]] rfl (by (try simp only [List.map_toArray,List.map_cons,List.map_nil]);first|done|rfl|(simp only [List.length_drop,List.length_take];rfl)) ?_;(with_reducible refine (hinterlandref15_Insert.calls k _ _ l0 a1 a2_0 a2_1 a2_2 a2_3 a2_4 a2_5 a2_6 a2_7 a2_8 t186 t189 _ ?side1 ?side2 A8.out).mono ?_);(case side1 => exact Kd.C_up (Kd.C_below HR0.out HB.out));(case side2 => exact HC0.out);rintro e w31 ⟨v187,rfl,ho0,hb⟩;refine ⟨_,rfl,?_⟩;have HO188:=Aside0.mk (Kd.R_lower (Kd.R_newB ho0 (blk_up BK184.out)) (below_size (hb_)));replace BK184:=bkb BK184 hb;replace HB:=Aside0.mk (below_step (hb_) hb);obtain ⟨hcz32_0,hcz32_1,hcz32_2,hcz32_3,hcz32_4,hcz32_5,hcz32_6,hcz32_7,hcz32_8,hfz32_0,hfz32_1,hfz32_2,hfz32_3,hfz32_4,hfz32_5,hfz32_6,hfz32_7,hfz32_8⟩:=cells9 BK184.out)|((with_reducible refine gate_callee (f:=36) rfl ?_);refine goesL_ (some 26) rfl rfl Try.func36 (by kernel_rfl) rfl #[.slice A0 l0.length c0,.int .i64 a1,.agg #[.int .i64 a2_0,.int .i64 a2_1,.int .i64 a2_2,.int .i64 a2_3,.int .i64 a2_4,.int .i64 a2_5,.int .i64 a2_6,.int .i64 a2_7,.int .i64 a2_8]] rfl (by (try simp only [List.map_toArray,List.map_cons,List.map_nil]);first|done|rfl|(simp only [List.length_drop,List.length_take];rfl)) ?_;(with_reducible refine (order_Insert.calls k _ _ l0 a1 a2_0 a2_1 a2_2 a2_3 a2_4 a2_5 a2_6 a2_7 a2_8 t190 t193 _ ?side1 ?side2 A9.out).mono ?_);(case side1 => exact Kd.C_up (Kd.C_below HR0.out HB.out));(case side2 => exact HC0.out);rintro e w33 ⟨v191,rfl,ho0,hb⟩;refine ⟨_,rfl,?_⟩;have HO192:=Aside0.mk (Kd.R_lower (Kd.R_newB (Kd.R_new' ho0 (Kd.R_lt (Kd.R_up HO188.out))) (blk_up BK184.out)) (below_size (hb_)));replace HO188:=Aside0.mk (Kd.R_elder' (Kd.R_up HO188.out) (Kd.R_base ho0) hb);replace BK184:=bkb BK184 hb;replace HB:=Aside0.mk (below_step (hb_) hb)))
  go_ret
  exact ⟨by first|rfl|(simp [errW_none,errW_some] <;> rfl)|(simp [*,errW_none,errW_some] <;> rfl),hb_⟩
 rw [if_pos c10] at H
 have c10b0 : (t193 == t189) = true:=beq_iff_eq.mpr c10
 have c10b1 : (t193 != t189) = false:=bne_eq_false_iff_eq.mpr c10
 clear c10
 replace H:=Option.bind_eq_some_iff.mp H
 obtain ⟨t194,A110,H⟩:=H
 replace H : (if t194 = true then ((hinterlandlaw15_known.f k).bind fun t195 => (some t195)) else (some false)) = some r:=H
 have A11:=Aside0.mk A110
 clear A110
 by_cases c12 : t194 = true
 ·subst c12
  have H1 : ((hinterlandlaw15_known.f k).bind fun t195 => (some t195)) = some r:=by rw [if_pos rfl] at H;exact H
  clear H
  have H:=H1
  clear H1
  replace H:=Option.bind_eq_some_iff.mp H
  obtain ⟨t195,A130,H⟩:=H
  replace H : (some t195) = some r:=H
  have A13:=Aside0.mk A130
  clear A130
  obtain rfl:=Option.some.inj H
  go_enter Try.func13,Try.ntmps13
  go_wp2_with (first|((with_reducible refine gate_dst (N:=5) rfl ?_);refine box_ev (N:=5) (cs:=#[.int .i64 a2_0,.int .i64 a2_1,.int .i64 a2_2,.int .i64 a2_3,.int .i64 a2_4,.int .i64 a2_5,.int .i64 a2_6,.int .i64 a2_7,.int .i64 a2_8]) (t:=33) ?_;intro gb184 hg w14 hbox hb;have BK184:=Aside0.mk (hbox);have GW184 : Aside0 (w.heap.size ≤ gb184):=gsz hg;have GE184:=GW184;replace HB:=Aside0.mk (below_step (hb_) hb);clear hb hbox hg;obtain ⟨hcz15_0,hcz15_1,hcz15_2,hcz15_3,hcz15_4,hcz15_5,hcz15_6,hcz15_7,hcz15_8,hfz15_0,hfz15_1,hfz15_2,hfz15_3,hfz15_4,hfz15_5,hfz15_6,hfz15_7,hfz15_8⟩:=cells9 BK184.out)|((with_reducible refine gate_callee (f:=35) rfl ?_);refine goesL_ (some 19) rfl rfl Try.func35 (by kernel_rfl) rfl #[.slice A0 l0.length c0,.int .i64 a1,.agg #[.int .i64 a2_0,.int .i64 a2_1,.int .i64 a2_2,.int .i64 a2_3,.int .i64 a2_4,.int .i64 a2_5,.int .i64 a2_6,.int .i64 a2_7,.int .i64 a2_8]] rfl (by (try simp only [List.map_toArray,List.map_cons,List.map_nil]);first|done|rfl|(simp only [List.length_drop,List.length_take];rfl)) ?_;(with_reducible refine (hinterlandref15_Insert.calls k _ _ l0 a1 a2_0 a2_1 a2_2 a2_3 a2_4 a2_5 a2_6 a2_7 a2_8 t186 t189 _ ?side1 ?side2 A8.out).mono ?_);(case side1 => exact Kd.C_up (Kd.C_below HR0.out HB.out));(case side2 => exact HC0.out);rintro e w16 ⟨v187,rfl,ho0,hb⟩;refine ⟨_,rfl,?_⟩;have HO188:=Aside0.mk (Kd.R_lower (Kd.R_newB ho0 (blk_up BK184.out)) (below_size (hb_)));replace BK184:=bkb BK184 hb;replace HB:=Aside0.mk (below_step (hb_) hb);obtain ⟨hcz17_0,hcz17_1,hcz17_2,hcz17_3,hcz17_4,hcz17_5,hcz17_6,hcz17_7,hcz17_8,hfz17_0,hfz17_1,hfz17_2,hfz17_3,hfz17_4,hfz17_5,hfz17_6,hfz17_7,hfz17_8⟩:=cells9 BK184.out)|((with_reducible refine gate_callee (f:=36) rfl ?_);refine goesL_ (some 26) rfl rfl Try.func36 (by kernel_rfl) rfl #[.slice A0 l0.length c0,.int .i64 a1,.agg #[.int .i64 a2_0,.int .i64 a2_1,.int .i64 a2_2,.int .i64 a2_3,.int .i64 a2_4,.int .i64 a2_5,.int .i64 a2_6,.int .i64 a2_7,.int .i64 a2_8]] rfl (by (try simp only [List.map_toArray,List.map_cons,List.map_nil]);first|done|rfl|(simp only [List.length_drop,List.length_take];rfl)) ?_;(with_reducible refine (order_Insert.calls k _ _ l0 a1 a2_0 a2_1 a2_2 a2_3 a2_4 a2_5 a2_6 a2_7 a2_8 t190 t193 _ ?side1 ?side2 A9.out).mono ?_);(case side1 => exact Kd.C_up (Kd.C_below HR0.out HB.out));(case side2 => exact HC0.out);rintro e w18 ⟨v191,rfl,ho0,hb⟩;refine ⟨_,rfl,?_⟩;have HO192:=Aside0.mk (Kd.R_lower (Kd.R_newB (Kd.R_new' ho0 (Kd.R_lt (Kd.R_up HO188.out))) (blk_up BK184.out)) (below_size (hb_)));replace HO188:=Aside0.mk (Kd.R_elder' (Kd.R_up HO188.out) (Kd.R_base ho0) hb);replace BK184:=bkb BK184 hb;replace HB:=Aside0.mk (below_step (hb_) hb);obtain ⟨Ao19,co19,eo19⟩:=Kd.R_slice HO192.out;subst eo19;obtain ⟨Ao20,co20,eo20⟩:=Kd.R_slice HO188.out;subst eo20)|(go_at_call 30;(with_reducible refine (api_Order_30.calls k _ _ t190 _ _ t186 true _ ?side1 ?side2 ?side3 ?side4 A11.out).mono ?_);(case side1 => exact Kd.C_up (Kd.R_reads' HO192.out).2.2);(case side2 => exact (Kd.R_reads' HO192.out).2.1);(case side3 => exact Kd.C_up (Kd.R_reads' HO188.out).2.2);(case side4 => exact (Kd.R_reads' HO188.out).2.1);rintro e w' ⟨rfl,⟨nd,rfl⟩⟩)|(go_at_call 16;(with_reducible refine (hinterlandlaw15_known.calls k  t195 _ A13.out).mono ?_);rintro e w21 ⟨rfl,hb⟩;replace HO188:=rbw HO188 hb;replace HO192:=rbw HO192 hb;replace BK184:=bkb BK184 hb;replace HB:=Aside0.mk (below_step (hb_) hb)))
  go_ret
  exact ⟨by first|rfl|(simp [errW_none,errW_some] <;> rfl)|(simp [*,errW_none,errW_some] <;> rfl),hb_⟩
 ·replace c12:=Bool.eq_false_iff.mpr c12
  subst c12
  have H1 : (some false) = some r:=by rw [if_neg (show ¬ (false = true) by decide)] at H;exact H
  clear H
  have H:=H1
  clear H1
  obtain rfl:=Option.some.inj H
  go_enter Try.func13,Try.ntmps13
  go_wp2_with (first|((with_reducible refine gate_dst (N:=5) rfl ?_);refine box_ev (N:=5) (cs:=#[.int .i64 a2_0,.int .i64 a2_1,.int .i64 a2_2,.int .i64 a2_3,.int .i64 a2_4,.int .i64 a2_5,.int .i64 a2_6,.int .i64 a2_7,.int .i64 a2_8]) (t:=33) ?_;intro gb184 hg w22 hbox hb;have BK184:=Aside0.mk (hbox);have GW184 : Aside0 (w.heap.size ≤ gb184):=gsz hg;have GE184:=GW184;replace HB:=Aside0.mk (below_step (hb_) hb);clear hb hbox hg;obtain ⟨hcz23_0,hcz23_1,hcz23_2,hcz23_3,hcz23_4,hcz23_5,hcz23_6,hcz23_7,hcz23_8,hfz23_0,hfz23_1,hfz23_2,hfz23_3,hfz23_4,hfz23_5,hfz23_6,hfz23_7,hfz23_8⟩:=cells9 BK184.out)|((with_reducible refine gate_callee (f:=35) rfl ?_);refine goesL_ (some 19) rfl rfl Try.func35 (by kernel_rfl) rfl #[.slice A0 l0.length c0,.int .i64 a1,.agg #[.int .i64 a2_0,.int .i64 a2_1,.int .i64 a2_2,.int .i64 a2_3,.int .i64 a2_4,.int .i64 a2_5,.int .i64 a2_6,.int .i64 a2_7,.int .i64 a2_8]] rfl (by (try simp only [List.map_toArray,List.map_cons,List.map_nil]);first|done|rfl|(simp only [List.length_drop,List.length_take];rfl)) ?_;(with_reducible refine (hinterlandref15_Insert.calls k _ _ l0 a1 a2_0 a2_1 a2_2 a2_3 a2_4 a2_5 a2_6 a2_7 a2_8 t186 t189 _ ?side1 ?side2 A8.out).mono ?_);(case side1 => exact Kd.C_up (Kd.C_below HR0.out HB.out));(case side2 => exact HC0.out);rintro e w24 ⟨v187,rfl,ho0,hb⟩;refine ⟨_,rfl,?_⟩;have HO188:=Aside0.mk (Kd.R_lower (Kd.R_newB ho0 (blk_up BK184.out)) (below_size (hb_)));replace BK184:=bkb BK184 hb;replace HB:=Aside0.mk (below_step (hb_) hb);obtain ⟨hcz25_0,hcz25_1,hcz25_2,hcz25_3,hcz25_4,hcz25_5,hcz25_6,hcz25_7,hcz25_8,hfz25_0,hfz25_1,hfz25_2,hfz25_3,hfz25_4,hfz25_5,hfz25_6,hfz25_7,hfz25_8⟩:=cells9 BK184.out)|((with_reducible refine gate_callee (f:=36) rfl ?_);refine goesL_ (some 26) rfl rfl Try.func36 (by kernel_rfl) rfl #[.slice A0 l0.length c0,.int .i64 a1,.agg #[.int .i64 a2_0,.int .i64 a2_1,.int .i64 a2_2,.int .i64 a2_3,.int .i64 a2_4,.int .i64 a2_5,.int .i64 a2_6,.int .i64 a2_7,.int .i64 a2_8]] rfl (by (try simp only [List.map_toArray,List.map_cons,List.map_nil]);first|done|rfl|(simp only [List.length_drop,List.length_take];rfl)) ?_;(with_reducible refine (order_Insert.calls k _ _ l0 a1 a2_0 a2_1 a2_2 a2_3 a2_4 a2_5 a2_6 a2_7 a2_8 t190 t193 _ ?side1 ?side2 A9.out).mono ?_);(case side1 => exact Kd.C_up (Kd.C_below HR0.out HB.out));(case side2 => exact HC0.out);rintro e w26 ⟨v191,rfl,ho0,hb⟩;refine ⟨_,rfl,?_⟩;have HO192:=Aside0.mk (Kd.R_lower (Kd.R_newB (Kd.R_new' ho0 (Kd.R_lt (Kd.R_up HO188.out))) (blk_up BK184.out)) (below_size (hb_)));replace HO188:=Aside0.mk (Kd.R_elder' (Kd.R_up HO188.out) (Kd.R_base ho0) hb);replace BK184:=bkb BK184 hb;replace HB:=Aside0.mk (below_step (hb_) hb);obtain ⟨Ao27,co27,eo27⟩:=Kd.R_slice HO192.out;subst eo27;obtain ⟨Ao28,co28,eo28⟩:=Kd.R_slice HO188.out;subst eo28)|(go_at_call 30;(with_reducible refine (api_Order_30.calls k _ _ t190 _ _ t186 false _ ?side1 ?side2 ?side3 ?side4 A11.out).mono ?_);(case side1 => exact Kd.C_up (Kd.R_reads' HO192.out).2.2);(case side2 => exact (Kd.R_reads' HO192.out).2.1);(case side3 => exact Kd.C_up (Kd.R_reads' HO188.out).2.2);(case side4 => exact (Kd.R_reads' HO188.out).2.1);rintro e w' ⟨rfl,⟨nd,rfl⟩⟩))
  go_ret
  exact ⟨by first|rfl|(simp [errW_none,errW_some] <;> rfl)|(simp [*,errW_none,errW_some] <;> rfl),hb_⟩

end Go.Proofs.Ythbjchicpebglaa.P

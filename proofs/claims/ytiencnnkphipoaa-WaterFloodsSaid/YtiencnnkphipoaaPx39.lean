/- Functions of this seat as plain Lean functions, with proofs that the Go code comes to just their answers, or what stands between them and a law's statement; no conditions. (Laid by a program of this session, out of the kit's print.) -/
import Derived.Test.YtiencnnkphipoaaPx0
import Derived.Test.YtiencnnkphipoaaPx1
import Derived.Test.YtiencnnkphipoaaPx8
import Derived.Test.YtiencnnkphipoaaPx17
import Derived.Test.YtiencnnkphipoaaPx38
namespace Go.Proofs.Ytiencnnkphipoaa.P
open Go.RowKit Go.Proofs.YtiencnnkphipoaaW.PrintWords Go.Proofs.YtiencnnkphipoaaW.PrintLast Go.Proofs.YtiencnnkphipoaaW.PrintMore
attribute [local go_sem] max2_int min2_int max_two min_two max_three min_three max_four min_four   -- for this text's walks alone
set_option linter.unusedVariables false
set_option linter.unusedSimpArgs false

/-! ### hinterlandlaw06_WaterFloods: function 6 -/
def hinterlandlaw06_WaterFloods.f (k : Nat) (a0_0 : Int) (a0_1 : Int) (l0_2 : List Int) (l1_0 : List Int) (l1_1 : List Int) : Option (Bool) := (hinterlandlaw06_large.f a0_0 a0_1 l0_2 l1_0 l1_1).bind fun t805 => (if t805 = true then ((hinterlandlaw06_known.f k).bind fun t806 => (some t806)) else ((water_Flood.f k a0_0 a0_1 l0_2 l1_0 l1_1).bind fun bt807 => ((hinterlandref06_Flood.f k a0_0 a0_1 l0_2 l1_0 l1_1).bind fun bt811 => (if bt807.2 = bt811.2 then ((hinterlandsame_List_int.f k bt807.1 bt811.1).bind fun t815 => (if t815 = true then ((hinterlandlaw06_known.f k).bind fun t816 => (some t816)) else (some false))) else (some false)))))
theorem hinterlandlaw06_WaterFloods.mono : ∀ a0 a1 a2 a3 a4 k, LeO (hinterlandlaw06_WaterFloods.f k a0 a1 a2 a3 a4) (hinterlandlaw06_WaterFloods.f (k + 1) a0 a1 a2 a3 a4) := by
 intro a0 a1 a2 a3 a4 k
 unfold hinterlandlaw06_WaterFloods.f
 repeat' first
   | (with_reducible exact hinterlandlaw06_known.mono _)
   | (with_reducible exact hinterlandref06_Flood.mono _ _ _ _ _ _)
   | (with_reducible exact hinterlandsame_List_int.mono _ _ _)
   | (with_reducible exact water_Flood.mono _ _ _ _ _ _)
   | (with_reducible exact LeO.refl _)
   | (with_reducible exact LeO.none _)
   | (with_reducible refine LeO.ite ?_ ?_)
   | (with_reducible refine LeO.bind ?_ (fun _ => ?_))
   | exact hinterlandlaw06_known.mono _
   | exact hinterlandref06_Flood.mono _ _ _ _ _ _
   | exact hinterlandsame_List_int.mono _ _ _
   | exact water_Flood.mono _ _ _ _ _ _
   | exact LeO.none _
   | refine LeO.ite ?_ ?_
   | refine LeO.bind ?_ (fun _ => ?_)
set_option maxHeartbeats 8000000 in
set_option maxRecDepth 100000 in
theorem hinterlandlaw06_WaterFloods.calls (k : Nat) (a0_0 : Int) (a0_1 : Int) (A0_2 : Option Addr) (c0_2 : Nat) (l0_2 : List Int) (A1_0 : Option Addr) (c1_0 : Nat) (l1_0 : List Int) (A1_1 : Option Addr) (c1_1 : Nat) (l1_1 : List Int) (r : Bool) (w : World) (hr0_2 : Kd.C (Kd.int .i64) w A0_2 l0_2.length l0_2) (hc0_2 : l0_2.length ≤ c0_2) (hr1_0 : Kd.C (Kd.int .i64) w A1_0 l1_0.length l1_0) (hc1_0 : l1_0.length ≤ c1_0) (hr1_1 : Kd.C (Kd.int .i64) w A1_1 l1_1.length l1_1) (hc1_1 : l1_1.length ≤ c1_1) (h : hinterlandlaw06_WaterFloods.f k a0_0 a0_1 l0_2 l1_0 l1_1 = some r) :
  Calls Try.prog 6 #[.agg #[.int .i64 a0_0,.int .i64 a0_1,.slice A0_2 l0_2.length c0_2],.agg #[.slice A1_0 l1_0.length c1_0,.slice A1_1 l1_1.length c1_1]] w fun e w' => e = .returned (.bool r) ∧ Below w.heap.size w w':=by
 have hu24:=Try.underlying24
 have hu26:=Try.underlying26
 have HR0_2:=Aside0.mk hr0_2
 have HC0_2:=Aside0.mk hc0_2
 clear hr0_2 hc0_2
 have HR1_0:=Aside0.mk hr1_0
 have HC1_0:=Aside0.mk hc1_0
 clear hr1_0 hc1_0
 have HR1_1:=Aside0.mk hr1_1
 have HC1_1:=Aside0.mk hc1_1
 clear hr1_1 hc1_1
 have HB:=Aside0.mk (Below.refl w.heap.size w)
 have H : ((hinterlandlaw06_large.f a0_0 a0_1 l0_2 l1_0 l1_1).bind fun t805 => (if t805 = true then ((hinterlandlaw06_known.f k).bind fun t806 => (some t806)) else ((water_Flood.f k a0_0 a0_1 l0_2 l1_0 l1_1).bind fun bt807 => ((hinterlandref06_Flood.f k a0_0 a0_1 l0_2 l1_0 l1_1).bind fun bt811 => (if bt807.2 = bt811.2 then ((hinterlandsame_List_int.f k bt807.1 bt811.1).bind fun t815 => (if t815 = true then ((hinterlandlaw06_known.f k).bind fun t816 => (some t816)) else (some false))) else (some false)))))) = some r:=h
 clear h
 replace H:=Option.bind_eq_some_iff.mp H
 obtain ⟨t805,A30,H⟩:=H
 replace H : (if t805 = true then ((hinterlandlaw06_known.f k).bind fun t806 => (some t806)) else ((water_Flood.f k a0_0 a0_1 l0_2 l1_0 l1_1).bind fun bt807 => ((hinterlandref06_Flood.f k a0_0 a0_1 l0_2 l1_0 l1_1).bind fun bt811 => (if bt807.2 = bt811.2 then ((hinterlandsame_List_int.f k bt807.1 bt811.1).bind fun t815 => (if t815 = true then ((hinterlandlaw06_known.f k).bind fun t816 => (some t816)) else (some false))) else (some false))))) = some r:=H
 have A3:=Aside0.mk A30
 clear A30
 by_cases c4 : t805 = true
 ·subst c4
  have H1 : ((hinterlandlaw06_known.f k).bind fun t806 => (some t806)) = some r:=by rw [if_pos rfl] at H;exact H
  clear H
  have H:=H1
  clear H1
  replace H:=Option.bind_eq_some_iff.mp H
  obtain ⟨t806,A50,H⟩:=H
  replace H : (some t806) = some r:=H
  have A5:=Aside0.mk A50
  clear A50
  obtain rfl:=Option.some.inj H
  go_enter Try.func6,Try.ntmps6
  go_wp2_with (first|((with_reducible refine gate_dst (N:=2) rfl ?_);refine box_ev (N:=2) (cs:=#[.int .i64 a0_0,.int .i64 a0_1,.slice A0_2 l0_2.length c0_2]) (t:=24) ?_;intro gb803 hg w6 hbox hb;have BK803:=Aside0.mk (hbox);have GW803 : Aside0 (w.heap.size ≤ gb803):=gsz hg;have GE803:=GW803;replace HB:=Aside0.mk (below_step (hb_) hb);clear hb hbox hg)|((with_reducible refine gate_dst (N:=3) rfl ?_);refine box_ev (N:=3) (cs:=#[.slice A1_0 l1_0.length c1_0,.slice A1_1 l1_1.length c1_1]) (t:=26) ?_;intro gb804 hg w7 hbox hb;have BK804:=Aside0.mk (hbox);have GW804 : Aside0 (w.heap.size ≤ gb804):=gsz hg;have GE804:=GW804;have NB803_804:=nbl BK803 hg;have NB804_803:=nbr BK803 hg;replace BK803:=bkb BK803 hb;replace HB:=Aside0.mk (below_step (hb_) hb);clear hb hbox hg;have hnb8:=NB803_804.out;have hnc8:=NB804_803.out;obtain ⟨hcz9_0,hcz9_1,hcz9_2,hfz9_0,hfz9_1,hfz9_2⟩:=cells3 BK803.out;obtain ⟨hcz10_0,hcz10_1,hfz10_0,hfz10_1⟩:=cells2 BK804.out)|((with_reducible refine gate_callee (f:=14) rfl ?_);refine goesL_ (some 11) rfl rfl Try.func14 (by kernel_rfl) rfl #[.agg #[.int .i64 a0_0,.int .i64 a0_1,.slice A0_2 l0_2.length c0_2],.agg #[.slice A1_0 l1_0.length c1_0,.slice A1_1 l1_1.length c1_1]] rfl (by (try simp only [List.map_toArray,List.map_cons,List.map_nil]);first|done|rfl|(simp only [List.length_drop,List.length_take];rfl)) ?_;(with_reducible refine (hinterlandlaw06_large.calls a0_0 a0_1 _ _ l0_2 _ _ l1_0 _ _ l1_1 true _ ?side1 ?side2 ?side3 ?side4 ?side5 ?side6 A3.out).mono ?_);(case side1 => exact Kd.C_up (Kd.C_below HR0_2.out HB.out));(case side2 => exact HC0_2.out);(case side3 => exact Kd.C_up (Kd.C_below HR1_0.out HB.out));(case side4 => exact HC1_0.out);(case side5 => exact Kd.C_up (Kd.C_below HR1_1.out HB.out));(case side6 => exact HC1_1.out);rintro e w11 ⟨rfl,hb⟩;refine ⟨_,rfl,?_⟩;replace BK803:=bkb BK803 hb;replace BK804:=bkb BK804 hb;replace HB:=Aside0.mk (below_step (hb_) hb))|((with_reducible refine gate_callee (f:=15) rfl ?_);refine goesL_ (some 12) rfl rfl Try.func15 (by kernel_rfl) rfl #[] rfl (by (try simp only [List.map_toArray,List.map_cons,List.map_nil]);first|done|rfl|(simp only [List.length_drop,List.length_take];rfl)) ?_;(with_reducible refine (hinterlandlaw06_known.calls k  t806 _ A5.out).mono ?_);rintro e w12 ⟨rfl,hb⟩;refine ⟨_,rfl,?_⟩;replace BK803:=bkb BK803 hb;replace BK804:=bkb BK804 hb;replace HB:=Aside0.mk (below_step (hb_) hb)))
  go_ret
  exact ⟨by first|rfl|(simp [errW_none,errW_some] <;> rfl)|(simp [*,errW_none,errW_some] <;> rfl),hb_⟩
 ·replace c4:=Bool.eq_false_iff.mpr c4
  subst c4
  have H1 : ((water_Flood.f k a0_0 a0_1 l0_2 l1_0 l1_1).bind fun bt807 => ((hinterlandref06_Flood.f k a0_0 a0_1 l0_2 l1_0 l1_1).bind fun bt811 => (if bt807.2 = bt811.2 then ((hinterlandsame_List_int.f k bt807.1 bt811.1).bind fun t815 => (if t815 = true then ((hinterlandlaw06_known.f k).bind fun t816 => (some t816)) else (some false))) else (some false)))) = some r:=by rw [if_neg (show ¬ (false = true) by decide)] at H;exact H
  clear H
  have H:=H1
  clear H1
  replace H:=Option.bind_eq_some_iff.mp H
  obtain ⟨⟨t807,t810⟩,A130,H⟩:=H
  replace H : ((hinterlandref06_Flood.f k a0_0 a0_1 l0_2 l1_0 l1_1).bind fun bt811 => (if t810 = bt811.2 then ((hinterlandsame_List_int.f k t807 bt811.1).bind fun t815 => (if t815 = true then ((hinterlandlaw06_known.f k).bind fun t816 => (some t816)) else (some false))) else (some false))) = some r:=H
  have A13:=Aside0.mk A130
  clear A130
  replace H:=Option.bind_eq_some_iff.mp H
  obtain ⟨⟨t811,t814⟩,A140,H⟩:=H
  replace H : (if t810 = t814 then ((hinterlandsame_List_int.f k t807 t811).bind fun t815 => (if t815 = true then ((hinterlandlaw06_known.f k).bind fun t816 => (some t816)) else (some false))) else (some false)) = some r:=H
  have A14:=Aside0.mk A140
  clear A140
  by_cases c15 : t810 = t814
  ·rw [if_pos c15] at H
   have c15b0 : (t810 == t814) = true:=beq_iff_eq.mpr c15
   have c15b1 : (t810 != t814) = false:=bne_eq_false_iff_eq.mpr c15
   clear c15
   replace H:=Option.bind_eq_some_iff.mp H
   obtain ⟨t815,A160,H⟩:=H
   replace H : (if t815 = true then ((hinterlandlaw06_known.f k).bind fun t816 => (some t816)) else (some false)) = some r:=H
   have A16:=Aside0.mk A160
   clear A160
   by_cases c17 : t815 = true
   ·subst c17
    have H1 : ((hinterlandlaw06_known.f k).bind fun t816 => (some t816)) = some r:=by rw [if_pos rfl] at H;exact H
    clear H
    have H:=H1
    clear H1
    replace H:=Option.bind_eq_some_iff.mp H
    obtain ⟨t816,A180,H⟩:=H
    replace H : (some t816) = some r:=H
    have A18:=Aside0.mk A180
    clear A180
    obtain rfl:=Option.some.inj H
    go_enter Try.func6,Try.ntmps6
    go_wp2_with (first|((with_reducible refine gate_dst (N:=2) rfl ?_);refine box_ev (N:=2) (cs:=#[.int .i64 a0_0,.int .i64 a0_1,.slice A0_2 l0_2.length c0_2]) (t:=24) ?_;intro gb803 hg w19 hbox hb;have BK803:=Aside0.mk (hbox);have GW803 : Aside0 (w.heap.size ≤ gb803):=gsz hg;have GE803:=GW803;replace HB:=Aside0.mk (below_step (hb_) hb);clear hb hbox hg)|((with_reducible refine gate_dst (N:=3) rfl ?_);refine box_ev (N:=3) (cs:=#[.slice A1_0 l1_0.length c1_0,.slice A1_1 l1_1.length c1_1]) (t:=26) ?_;intro gb804 hg w20 hbox hb;have BK804:=Aside0.mk (hbox);have GW804 : Aside0 (w.heap.size ≤ gb804):=gsz hg;have GE804:=GW804;have NB803_804:=nbl BK803 hg;have NB804_803:=nbr BK803 hg;replace BK803:=bkb BK803 hb;replace HB:=Aside0.mk (below_step (hb_) hb);clear hb hbox hg;have hnb21:=NB803_804.out;have hnc21:=NB804_803.out;obtain ⟨hcz22_0,hcz22_1,hcz22_2,hfz22_0,hfz22_1,hfz22_2⟩:=cells3 BK803.out;obtain ⟨hcz23_0,hcz23_1,hfz23_0,hfz23_1⟩:=cells2 BK804.out)|((with_reducible refine gate_callee (f:=14) rfl ?_);refine goesL_ (some 11) rfl rfl Try.func14 (by kernel_rfl) rfl #[.agg #[.int .i64 a0_0,.int .i64 a0_1,.slice A0_2 l0_2.length c0_2],.agg #[.slice A1_0 l1_0.length c1_0,.slice A1_1 l1_1.length c1_1]] rfl (by (try simp only [List.map_toArray,List.map_cons,List.map_nil]);first|done|rfl|(simp only [List.length_drop,List.length_take];rfl)) ?_;(with_reducible refine (hinterlandlaw06_large.calls a0_0 a0_1 _ _ l0_2 _ _ l1_0 _ _ l1_1 false _ ?side1 ?side2 ?side3 ?side4 ?side5 ?side6 A3.out).mono ?_);(case side1 => exact Kd.C_up (Kd.C_below HR0_2.out HB.out));(case side2 => exact HC0_2.out);(case side3 => exact Kd.C_up (Kd.C_below HR1_0.out HB.out));(case side4 => exact HC1_0.out);(case side5 => exact Kd.C_up (Kd.C_below HR1_1.out HB.out));(case side6 => exact HC1_1.out);rintro e w24 ⟨rfl,hb⟩;refine ⟨_,rfl,?_⟩;replace BK803:=bkb BK803 hb;replace BK804:=bkb BK804 hb;replace HB:=Aside0.mk (below_step (hb_) hb);obtain ⟨hcz25_0,hcz25_1,hcz25_2,hfz25_0,hfz25_1,hfz25_2⟩:=cells3 BK803.out;obtain ⟨hcz26_0,hcz26_1,hfz26_0,hfz26_1⟩:=cells2 BK804.out)|((with_reducible refine gate_callee (f:=24) rfl ?_);refine goesL_ (some 16) rfl rfl Try.func24 (by kernel_rfl) rfl #[.agg #[.int .i64 a0_0,.int .i64 a0_1,.slice A0_2 l0_2.length c0_2],.agg #[.slice A1_0 l1_0.length c1_0,.slice A1_1 l1_1.length c1_1]] rfl (by (try simp only [List.map_toArray,List.map_cons,List.map_nil]);first|done|rfl|(simp only [List.length_drop,List.length_take];rfl)) ?_;(with_reducible refine (water_Flood.calls k a0_0 a0_1 _ _ l0_2 _ _ l1_0 _ _ l1_1 t807 t810 _ ?side1 ?side2 ?side3 ?side4 ?side5 ?side6 A13.out).mono ?_);(case side1 => exact Kd.C_up (Kd.C_below HR0_2.out HB.out));(case side2 => exact HC0_2.out);(case side3 => exact Kd.C_up (Kd.C_below HR1_0.out HB.out));(case side4 => exact HC1_0.out);(case side5 => exact Kd.C_up (Kd.C_below HR1_1.out HB.out));(case side6 => exact HC1_1.out);rintro e w27 ⟨v808,rfl,ho0,hb⟩;refine ⟨_,rfl,?_⟩;have HO809:=rlo ho0;replace BK803:=bkb BK803 hb;replace BK804:=bkb BK804 hb;replace HB:=Aside0.mk (below_step (hb_) hb);obtain ⟨hcz28_0,hcz28_1,hcz28_2,hfz28_0,hfz28_1,hfz28_2⟩:=cells3 BK803.out;obtain ⟨hcz29_0,hcz29_1,hfz29_0,hfz29_1⟩:=cells2 BK804.out)|((with_reducible refine gate_callee (f:=25) rfl ?_);refine goesL_ (some 22) rfl rfl Try.func25 (by kernel_rfl) rfl #[.agg #[.int .i64 a0_0,.int .i64 a0_1,.slice A0_2 l0_2.length c0_2],.agg #[.slice A1_0 l1_0.length c1_0,.slice A1_1 l1_1.length c1_1]] rfl (by (try simp only [List.map_toArray,List.map_cons,List.map_nil]);first|done|rfl|(simp only [List.length_drop,List.length_take];rfl)) ?_;(with_reducible refine (hinterlandref06_Flood.calls k a0_0 a0_1 _ _ l0_2 _ _ l1_0 _ _ l1_1 t811 t814 _ ?side1 ?side2 ?side3 ?side4 ?side5 ?side6 A14.out).mono ?_);(case side1 => exact Kd.C_up (Kd.C_below HR0_2.out HB.out));(case side2 => exact HC0_2.out);(case side3 => exact Kd.C_up (Kd.C_below HR1_0.out HB.out));(case side4 => exact HC1_0.out);(case side5 => exact Kd.C_up (Kd.C_below HR1_1.out HB.out));(case side6 => exact HC1_1.out);rintro e w30 ⟨v812,rfl,ho0,hb⟩;refine ⟨_,rfl,?_⟩;have HO813:=Aside0.mk (Kd.R_lower (Kd.R_new' ho0 (Kd.R_lt (Kd.R_up HO809.out))) (below_size (hb_)));replace HO809:=Aside0.mk (Kd.R_elder' (Kd.R_up HO809.out) (Kd.R_base ho0) hb);replace BK803:=bkb BK803 hb;replace BK804:=bkb BK804 hb;replace HB:=Aside0.mk (below_step (hb_) hb);obtain ⟨Ao31,co31,eo31⟩:=Kd.R_slice HO809.out;subst eo31;obtain ⟨Ao32,co32,eo32⟩:=Kd.R_slice HO813.out;subst eo32)|(go_at_call 21;(with_reducible refine (hinterlandsame_List_int.calls k _ _ t807 _ _ t811 true _ ?side1 ?side2 ?side3 ?side4 A16.out).mono ?_);(case side1 => exact Kd.C_up (Kd.R_reads' HO809.out).2.2);(case side2 => exact (Kd.R_reads' HO809.out).2.1);(case side3 => exact Kd.C_up (Kd.R_reads' HO813.out).2.2);(case side4 => exact (Kd.R_reads' HO813.out).2.1);rintro e w' ⟨rfl,⟨nd,rfl⟩⟩)|(go_at_call 15;(with_reducible refine (hinterlandlaw06_known.calls k  t816 _ A18.out).mono ?_);rintro e w33 ⟨rfl,hb⟩;replace HO809:=rbw HO809 hb;replace HO813:=rbw HO813 hb;replace BK803:=bkb BK803 hb;replace BK804:=bkb BK804 hb;replace HB:=Aside0.mk (below_step (hb_) hb)))
    go_ret
    exact ⟨by first|rfl|(simp [errW_none,errW_some] <;> rfl)|(simp [*,errW_none,errW_some] <;> rfl),hb_⟩
   ·replace c17:=Bool.eq_false_iff.mpr c17
    subst c17
    have H1 : (some false) = some r:=by rw [if_neg (show ¬ (false = true) by decide)] at H;exact H
    clear H
    have H:=H1
    clear H1
    obtain rfl:=Option.some.inj H
    go_enter Try.func6,Try.ntmps6
    go_wp2_with (first|((with_reducible refine gate_dst (N:=2) rfl ?_);refine box_ev (N:=2) (cs:=#[.int .i64 a0_0,.int .i64 a0_1,.slice A0_2 l0_2.length c0_2]) (t:=24) ?_;intro gb803 hg w34 hbox hb;have BK803:=Aside0.mk (hbox);have GW803 : Aside0 (w.heap.size ≤ gb803):=gsz hg;have GE803:=GW803;replace HB:=Aside0.mk (below_step (hb_) hb);clear hb hbox hg)|((with_reducible refine gate_dst (N:=3) rfl ?_);refine box_ev (N:=3) (cs:=#[.slice A1_0 l1_0.length c1_0,.slice A1_1 l1_1.length c1_1]) (t:=26) ?_;intro gb804 hg w35 hbox hb;have BK804:=Aside0.mk (hbox);have GW804 : Aside0 (w.heap.size ≤ gb804):=gsz hg;have GE804:=GW804;have NB803_804:=nbl BK803 hg;have NB804_803:=nbr BK803 hg;replace BK803:=bkb BK803 hb;replace HB:=Aside0.mk (below_step (hb_) hb);clear hb hbox hg;have hnb36:=NB803_804.out;have hnc36:=NB804_803.out;obtain ⟨hcz37_0,hcz37_1,hcz37_2,hfz37_0,hfz37_1,hfz37_2⟩:=cells3 BK803.out;obtain ⟨hcz38_0,hcz38_1,hfz38_0,hfz38_1⟩:=cells2 BK804.out)|((with_reducible refine gate_callee (f:=14) rfl ?_);refine goesL_ (some 11) rfl rfl Try.func14 (by kernel_rfl) rfl #[.agg #[.int .i64 a0_0,.int .i64 a0_1,.slice A0_2 l0_2.length c0_2],.agg #[.slice A1_0 l1_0.length c1_0,.slice A1_1 l1_1.length c1_1]] rfl (by (try simp only [List.map_toArray,List.map_cons,List.map_nil]);first|done|rfl|(simp only [List.length_drop,List.length_take];rfl)) ?_;(with_reducible refine (hinterlandlaw06_large.calls a0_0 a0_1 _ _ l0_2 _ _ l1_0 _ _ l1_1 false _ ?side1 ?side2 ?side3 ?side4 ?side5 ?side6 A3.out).mono ?_);(case side1 => exact Kd.C_up (Kd.C_below HR0_2.out HB.out));(case side2 => exact HC0_2.out);(case side3 => exact Kd.C_up (Kd.C_below HR1_0.out HB.out));(case side4 => exact HC1_0.out);(case side5 => exact Kd.C_up (Kd.C_below HR1_1.out HB.out));(case side6 => exact HC1_1.out);rintro e w39 ⟨rfl,hb⟩;refine ⟨_,rfl,?_⟩;replace BK803:=bkb BK803 hb;replace BK804:=bkb BK804 hb;replace HB:=Aside0.mk (below_step (hb_) hb);obtain ⟨hcz40_0,hcz40_1,hcz40_2,hfz40_0,hfz40_1,hfz40_2⟩:=cells3 BK803.out;obtain ⟨hcz41_0,hcz41_1,hfz41_0,hfz41_1⟩:=cells2 BK804.out)|((with_reducible refine gate_callee (f:=24) rfl ?_);refine goesL_ (some 16) rfl rfl Try.func24 (by kernel_rfl) rfl #[.agg #[.int .i64 a0_0,.int .i64 a0_1,.slice A0_2 l0_2.length c0_2],.agg #[.slice A1_0 l1_0.length c1_0,.slice A1_1 l1_1.length c1_1]] rfl (by (try simp only [List.map_toArray,List.map_cons,List.map_nil]);first|done|rfl|(simp only [List.length_drop,List.length_take];rfl)) ?_;(with_reducible refine (water_Flood.calls k a0_0 a0_1 _ _ l0_2 _ _ l1_0 _ _ l1_1 t807 t810 _ ?side1 ?side2 ?side3 ?side4 ?side5 ?side6 A13.out).mono ?_);(case side1 => exact Kd.C_up (Kd.C_below HR0_2.out HB.out));(case side2 => exact HC0_2.out);(case side3 => exact Kd.C_up (Kd.C_below HR1_0.out HB.out));(case side4 => exact HC1_0.out);(case side5 => exact Kd.C_up (Kd.C_below HR1_1.out HB.out));(case side6 => exact HC1_1.out);rintro e w42 ⟨v808,rfl,ho0,hb⟩;refine ⟨_,rfl,?_⟩;have HO809:=rlo ho0;replace BK803:=bkb BK803 hb;replace BK804:=bkb BK804 hb;replace HB:=Aside0.mk (below_step (hb_) hb);obtain ⟨hcz43_0,hcz43_1,hcz43_2,hfz43_0,hfz43_1,hfz43_2⟩:=cells3 BK803.out;obtain ⟨hcz44_0,hcz44_1,hfz44_0,hfz44_1⟩:=cells2 BK804.out)|((with_reducible refine gate_callee (f:=25) rfl ?_);refine goesL_ (some 22) rfl rfl Try.func25 (by kernel_rfl) rfl #[.agg #[.int .i64 a0_0,.int .i64 a0_1,.slice A0_2 l0_2.length c0_2],.agg #[.slice A1_0 l1_0.length c1_0,.slice A1_1 l1_1.length c1_1]] rfl (by (try simp only [List.map_toArray,List.map_cons,List.map_nil]);first|done|rfl|(simp only [List.length_drop,List.length_take];rfl)) ?_;(with_reducible refine (hinterlandref06_Flood.calls k a0_0 a0_1 _ _ l0_2 _ _ l1_0 _ _ l1_1 t811 t814 _ ?side1 ?side2 ?side3 ?side4 ?side5 ?side6 A14.out).mono ?_);(case side1 => exact Kd.C_up (Kd.C_below HR0_2.out HB.out));(case side2 => exact HC0_2.out);(case side3 => exact Kd.C_up (Kd.C_below HR1_0.out HB.out));(case side4 => exact HC1_0.out);(case side5 => exact Kd.C_up (Kd.C_below HR1_1.out HB.out));(case side6 => exact HC1_1.out);rintro e w45 ⟨v812,rfl,ho0,hb⟩;refine ⟨_,rfl,?_⟩;have HO813:=Aside0.mk (Kd.R_lower (Kd.R_new' ho0 (Kd.R_lt (Kd.R_up HO809.out))) (below_size (hb_)));replace HO809:=Aside0.mk (Kd.R_elder' (Kd.R_up HO809.out) (Kd.R_base ho0) hb);replace BK803:=bkb BK803 hb;replace BK804:=bkb BK804 hb;replace HB:=Aside0.mk (below_step (hb_) hb);obtain ⟨Ao46,co46,eo46⟩:=Kd.R_slice HO809.out;subst eo46;obtain ⟨Ao47,co47,eo47⟩:=Kd.R_slice HO813.out;subst eo47)|(go_at_call 21;(with_reducible refine (hinterlandsame_List_int.calls k _ _ t807 _ _ t811 false _ ?side1 ?side2 ?side3 ?side4 A16.out).mono ?_);(case side1 => exact Kd.C_up (Kd.R_reads' HO809.out).2.2);(case side2 => exact (Kd.R_reads' HO809.out).2.1);(case side3 => exact Kd.C_up (Kd.R_reads' HO813.out).2.2);(case side4 => exact (Kd.R_reads' HO813.out).2.1);rintro e w' ⟨rfl,⟨nd,rfl⟩⟩))
    go_ret
    exact ⟨by first|rfl|(simp [errW_none,errW_some] <;> rfl)|(simp [*,errW_none,errW_some] <;> rfl),hb_⟩
  ·rw [if_neg c15] at H
   have c15b0 : (t810 == t814) = false:=beq_eq_false_iff_ne.mpr c15
   have c15b1 : (t810 != t814) = true:=bne_iff_ne.mpr c15
   obtain rfl:=Option.some.inj H
   go_enter Try.func6,Try.ntmps6
   go_wp2_with (first|((with_reducible refine gate_dst (N:=2) rfl ?_);refine box_ev (N:=2) (cs:=#[.int .i64 a0_0,.int .i64 a0_1,.slice A0_2 l0_2.length c0_2]) (t:=24) ?_;intro gb803 hg w48 hbox hb;have BK803:=Aside0.mk (hbox);have GW803 : Aside0 (w.heap.size ≤ gb803):=gsz hg;have GE803:=GW803;replace HB:=Aside0.mk (below_step (hb_) hb);clear hb hbox hg)|((with_reducible refine gate_dst (N:=3) rfl ?_);refine box_ev (N:=3) (cs:=#[.slice A1_0 l1_0.length c1_0,.slice A1_1 l1_1.length c1_1]) (t:=26) ?_;intro gb804 hg w49 hbox hb;have BK804:=Aside0.mk (hbox);have GW804 : Aside0 (w.heap.size ≤ gb804):=gsz hg;have GE804:=GW804;have NB803_804:=nbl BK803 hg;have NB804_803:=nbr BK803 hg;replace BK803:=bkb BK803 hb;replace HB:=Aside0.mk (below_step (hb_) hb);clear hb hbox hg;have hnb50:=NB803_804.out;have hnc50:=NB804_803.out;obtain ⟨hcz51_0,hcz51_1,hcz51_2,hfz51_0,hfz51_1,hfz51_2⟩:=cells3 BK803.out;obtain ⟨hcz52_0,hcz52_1,hfz52_0,hfz52_1⟩:=cells2 BK804.out)|((with_reducible refine gate_callee (f:=14) rfl ?_);refine goesL_ (some 11) rfl rfl Try.func14 (by kernel_rfl) rfl #[.agg #[.int .i64 a0_0,.int .i64 a0_1,.slice A0_2 l0_2.length c0_2],.agg #[.slice A1_0 l1_0.length c1_0,.slice A1_1 l1_1.length c1_1]] rfl (by (try simp only [List.map_toArray,List.map_cons,List.map_nil]);first|done|rfl|(simp only [List.length_drop,List.length_take];rfl)) ?_;(with_reducible refine (hinterlandlaw06_large.calls a0_0 a0_1 _ _ l0_2 _ _ l1_0 _ _ l1_1 false _ ?side1 ?side2 ?side3 ?side4 ?side5 ?side6 A3.out).mono ?_);(case side1 => exact Kd.C_up (Kd.C_below HR0_2.out HB.out));(case side2 => exact HC0_2.out);(case side3 => exact Kd.C_up (Kd.C_below HR1_0.out HB.out));(case side4 => exact HC1_0.out);(case side5 => exact Kd.C_up (Kd.C_below HR1_1.out HB.out));(case side6 => exact HC1_1.out);rintro e w53 ⟨rfl,hb⟩;refine ⟨_,rfl,?_⟩;replace BK803:=bkb BK803 hb;replace BK804:=bkb BK804 hb;replace HB:=Aside0.mk (below_step (hb_) hb);obtain ⟨hcz54_0,hcz54_1,hcz54_2,hfz54_0,hfz54_1,hfz54_2⟩:=cells3 BK803.out;obtain ⟨hcz55_0,hcz55_1,hfz55_0,hfz55_1⟩:=cells2 BK804.out)|((with_reducible refine gate_callee (f:=24) rfl ?_);refine goesL_ (some 16) rfl rfl Try.func24 (by kernel_rfl) rfl #[.agg #[.int .i64 a0_0,.int .i64 a0_1,.slice A0_2 l0_2.length c0_2],.agg #[.slice A1_0 l1_0.length c1_0,.slice A1_1 l1_1.length c1_1]] rfl (by (try simp only [List.map_toArray,List.map_cons,List.map_nil]);first|done|rfl|(simp only [List.length_drop,List.length_take];rfl)) ?_;(with_reducible refine (water_Flood.calls k a0_0 a0_1 _ _ l0_2 _ _ l1_0 _ _ l1_1 t807 t810 _ ?side1 ?side2 ?side3 ?side4 ?side5 ?side6 A13.out).mono ?_);(case side1 => exact Kd.C_up (Kd.C_below HR0_2.out HB.out));(case side2 => exact HC0_2.out);(case side3 => exact Kd.C_up (Kd.C_below HR1_0.out HB.out));(case side4 => exact HC1_0.out);(case side5 => exact Kd.C_up (Kd.C_below HR1_1.out HB.out));(case side6 => exact HC1_1.out);rintro e w56 ⟨v808,rfl,ho0,hb⟩;refine ⟨_,rfl,?_⟩;have HO809:=rlo ho0;replace BK803:=bkb BK803 hb;replace BK804:=bkb BK804 hb;replace HB:=Aside0.mk (below_step (hb_) hb);obtain ⟨hcz57_0,hcz57_1,hcz57_2,hfz57_0,hfz57_1,hfz57_2⟩:=cells3 BK803.out;obtain ⟨hcz58_0,hcz58_1,hfz58_0,hfz58_1⟩:=cells2 BK804.out)|((with_reducible refine gate_callee (f:=25) rfl ?_);refine goesL_ (some 22) rfl rfl Try.func25 (by kernel_rfl) rfl #[.agg #[.int .i64 a0_0,.int .i64 a0_1,.slice A0_2 l0_2.length c0_2],.agg #[.slice A1_0 l1_0.length c1_0,.slice A1_1 l1_1.length c1_1]] rfl (by (try simp only [List.map_toArray,List.map_cons,List.map_nil]);first|done|rfl|(simp only [List.length_drop,List.length_take];rfl)) ?_;(with_reducible refine (hinterlandref06_Flood.calls k a0_0 a0_1 _ _ l0_2 _ _ l1_0 _ _ l1_1 t811 t814 _ ?side1 ?side2 ?side3 ?side4 ?side5 ?side6 A14.out).mono ?_);(case side1 => exact Kd.C_up (Kd.C_below HR0_2.out HB.out));(case side2 => exact HC0_2.out);(case side3 => exact Kd.C_up (Kd.C_below HR1_0.out HB.out));(case side4 => exact HC1_0.out);(case side5 => exact Kd.C_up (Kd.C_below HR1_1.out HB.out));(case side6 => exact HC1_1.out);rintro e w59 ⟨v812,rfl,ho0,hb⟩;refine ⟨_,rfl,?_⟩;have HO813:=Aside0.mk (Kd.R_lower (Kd.R_new' ho0 (Kd.R_lt (Kd.R_up HO809.out))) (below_size (hb_)));replace HO809:=Aside0.mk (Kd.R_elder' (Kd.R_up HO809.out) (Kd.R_base ho0) hb);replace BK803:=bkb BK803 hb;replace BK804:=bkb BK804 hb;replace HB:=Aside0.mk (below_step (hb_) hb)))
   go_ret
   exact ⟨by first|rfl|(simp [errW_none,errW_some] <;> rfl)|(simp [*,errW_none,errW_some] <;> rfl),hb_⟩

end Go.Proofs.Ytiencnnkphipoaa.P

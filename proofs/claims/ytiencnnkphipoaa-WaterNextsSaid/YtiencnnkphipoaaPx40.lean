/- Functions of this seat as plain Lean functions, with proofs that the Go code comes to just their answers, or what stands between them and a law's statement; no conditions. (Laid by a program of this session, out of the kit's print.) -/
import Derived.Test.YtiencnnkphipoaaPx0
import Derived.Test.YtiencnnkphipoaaPx1
import Derived.Test.YtiencnnkphipoaaPx8
import Derived.Test.YtiencnnkphipoaaPx16
import Derived.Test.YtiencnnkphipoaaPx39
namespace Go.Proofs.Ytiencnnkphipoaa.P
open Go.RowKit Go.Proofs.YtiencnnkphipoaaW.PrintWords Go.Proofs.YtiencnnkphipoaaW.PrintLast Go.Proofs.YtiencnnkphipoaaW.PrintMore
attribute [local go_sem] max2_int min2_int max_two min_two max_three min_three max_four min_four   -- for this text's walks alone
set_option linter.unusedVariables false
set_option linter.unusedSimpArgs false

/-! ### hinterlandlaw06_WaterNexts: function 7 -/
def hinterlandlaw06_WaterNexts.f (k : Nat) (a0_0 : Int) (a0_1 : Int) (l0_2 : List Int) (l1_0 : List Int) (l1_1 : List Int) (a2 : Int) (a3 : Int) : Option (Bool) := (hinterlandlaw06_large.f a0_0 a0_1 l0_2 l1_0 l1_1).bind fun t855 => (if t855 = true then ((hinterlandlaw06_known.f k).bind fun t856 => (some t856)) else ((water_Next.f k a0_0 a0_1 l0_2 l1_0 l1_1 a2 a3).bind fun bt857 => ((hinterlandref06_Next.f k a0_0 a0_1 l0_2 l1_0 l1_1 a2 a3).bind fun bt861 => (if bt857.2 = bt861.2 then ((hinterlandsame_List_int.f k bt857.1 bt861.1).bind fun t865 => (if t865 = true then ((hinterlandlaw06_known.f k).bind fun t866 => (some t866)) else (some false))) else (some false)))))
theorem hinterlandlaw06_WaterNexts.mono : ∀ a0 a1 a2 a3 a4 a5 a6 k, LeO (hinterlandlaw06_WaterNexts.f k a0 a1 a2 a3 a4 a5 a6) (hinterlandlaw06_WaterNexts.f (k + 1) a0 a1 a2 a3 a4 a5 a6) := by
 intro a0 a1 a2 a3 a4 a5 a6 k
 unfold hinterlandlaw06_WaterNexts.f
 repeat' first
   | (with_reducible exact hinterlandlaw06_known.mono _)
   | (with_reducible exact hinterlandref06_Next.mono _ _ _ _ _ _ _ _)
   | (with_reducible exact hinterlandsame_List_int.mono _ _ _)
   | (with_reducible exact water_Next.mono _ _ _ _ _ _ _ _)
   | (with_reducible exact LeO.refl _)
   | (with_reducible exact LeO.none _)
   | (with_reducible refine LeO.ite ?_ ?_)
   | (with_reducible refine LeO.bind ?_ (fun _ => ?_))
   | exact hinterlandlaw06_known.mono _
   | exact hinterlandref06_Next.mono _ _ _ _ _ _ _ _
   | exact hinterlandsame_List_int.mono _ _ _
   | exact water_Next.mono _ _ _ _ _ _ _ _
   | exact LeO.none _
   | refine LeO.ite ?_ ?_
   | refine LeO.bind ?_ (fun _ => ?_)
set_option maxHeartbeats 8000000 in
set_option maxRecDepth 100000 in
theorem hinterlandlaw06_WaterNexts.calls (k : Nat) (a0_0 : Int) (a0_1 : Int) (A0_2 : Option Addr) (c0_2 : Nat) (l0_2 : List Int) (A1_0 : Option Addr) (c1_0 : Nat) (l1_0 : List Int) (A1_1 : Option Addr) (c1_1 : Nat) (l1_1 : List Int) (a2 : Int) (a3 : Int) (r : Bool) (w : World) (hr0_2 : Kd.C (Kd.int .i64) w A0_2 l0_2.length l0_2) (hc0_2 : l0_2.length ≤ c0_2) (hr1_0 : Kd.C (Kd.int .i64) w A1_0 l1_0.length l1_0) (hc1_0 : l1_0.length ≤ c1_0) (hr1_1 : Kd.C (Kd.int .i64) w A1_1 l1_1.length l1_1) (hc1_1 : l1_1.length ≤ c1_1) (h : hinterlandlaw06_WaterNexts.f k a0_0 a0_1 l0_2 l1_0 l1_1 a2 a3 = some r) :
  Calls Try.prog 7 #[.agg #[.int .i64 a0_0,.int .i64 a0_1,.slice A0_2 l0_2.length c0_2],.agg #[.slice A1_0 l1_0.length c1_0,.slice A1_1 l1_1.length c1_1],.int .i64 a2,.int .i64 a3] w fun e w' => e = .returned (.bool r) ∧ Below w.heap.size w w':=by
 have hu24:=Try.underlying24
 have hu26:=Try.underlying26
 have HR0_2:=Aside0.mk hr0_2
 have HC0_2:=Aside0.mk hc0_2
 clear hr0_2 hc0_2
 have HR1_0:=Aside0.mk hr1_0
 have HC1_0:=Aside0.mk hc1_0
 clear hr1_0 hc1_0
 have HR1_1:=Aside0.mk hr1_1
 have HC1_1:=Aside0.mk hc1_1
 clear hr1_1 hc1_1
 have HB:=Aside0.mk (Below.refl w.heap.size w)
 have H : ((hinterlandlaw06_large.f a0_0 a0_1 l0_2 l1_0 l1_1).bind fun t855 => (if t855 = true then ((hinterlandlaw06_known.f k).bind fun t856 => (some t856)) else ((water_Next.f k a0_0 a0_1 l0_2 l1_0 l1_1 a2 a3).bind fun bt857 => ((hinterlandref06_Next.f k a0_0 a0_1 l0_2 l1_0 l1_1 a2 a3).bind fun bt861 => (if bt857.2 = bt861.2 then ((hinterlandsame_List_int.f k bt857.1 bt861.1).bind fun t865 => (if t865 = true then ((hinterlandlaw06_known.f k).bind fun t866 => (some t866)) else (some false))) else (some false)))))) = some r:=h
 clear h
 replace H:=Option.bind_eq_some_iff.mp H
 obtain ⟨t855,A50,H⟩:=H
 replace H : (if t855 = true then ((hinterlandlaw06_known.f k).bind fun t856 => (some t856)) else ((water_Next.f k a0_0 a0_1 l0_2 l1_0 l1_1 a2 a3).bind fun bt857 => ((hinterlandref06_Next.f k a0_0 a0_1 l0_2 l1_0 l1_1 a2 a3).bind fun bt861 => (if bt857.2 = bt861.2 then ((hinterlandsame_List_int.f k bt857.1 bt861.1).bind fun t865 => (if t865 = true then ((hinterlandlaw06_known.f k).bind fun t866 => (some t866)) else (some false))) else (some false))))) = some r:=H
 have A5:=Aside0.mk A50
 clear A50
 by_cases c6 : t855 = true
 ·subst c6
  have H1 : ((hinterlandlaw06_known.f k).bind fun t856 => (some t856)) = some r:=by rw [if_pos rfl] at H;exact H
  clear H
  have H:=H1
  clear H1
  replace H:=Option.bind_eq_some_iff.mp H
  obtain ⟨t856,A70,H⟩:=H
  replace H : (some t856) = some r:=H
  have A7:=Aside0.mk A70
  clear A70
  obtain rfl:=Option.some.inj H
  go_enter Try.func7,Try.ntmps7
  go_wp2_with (first|((with_reducible refine gate_dst (N:=4) rfl ?_);refine box_ev (N:=4) (cs:=#[.int .i64 a0_0,.int .i64 a0_1,.slice A0_2 l0_2.length c0_2]) (t:=24) ?_;intro gb853 hg w8 hbox hb;have BK853:=Aside0.mk (hbox);have GW853 : Aside0 (w.heap.size ≤ gb853):=gsz hg;have GE853:=GW853;replace HB:=Aside0.mk (below_step (hb_) hb);clear hb hbox hg)|((with_reducible refine gate_dst (N:=5) rfl ?_);refine box_ev (N:=5) (cs:=#[.slice A1_0 l1_0.length c1_0,.slice A1_1 l1_1.length c1_1]) (t:=26) ?_;intro gb854 hg w9 hbox hb;have BK854:=Aside0.mk (hbox);have GW854 : Aside0 (w.heap.size ≤ gb854):=gsz hg;have GE854:=GW854;have NB853_854:=nbl BK853 hg;have NB854_853:=nbr BK853 hg;replace BK853:=bkb BK853 hb;replace HB:=Aside0.mk (below_step (hb_) hb);clear hb hbox hg;have hnb10:=NB853_854.out;have hnc10:=NB854_853.out;obtain ⟨hcz11_0,hcz11_1,hcz11_2,hfz11_0,hfz11_1,hfz11_2⟩:=cells3 BK853.out;obtain ⟨hcz12_0,hcz12_1,hfz12_0,hfz12_1⟩:=cells2 BK854.out)|((with_reducible refine gate_callee (f:=14) rfl ?_);refine goesL_ (some 15) rfl rfl Try.func14 (by kernel_rfl) rfl #[.agg #[.int .i64 a0_0,.int .i64 a0_1,.slice A0_2 l0_2.length c0_2],.agg #[.slice A1_0 l1_0.length c1_0,.slice A1_1 l1_1.length c1_1]] rfl (by (try simp only [List.map_toArray,List.map_cons,List.map_nil]);first|done|rfl|(simp only [List.length_drop,List.length_take];rfl)) ?_;(with_reducible refine (hinterlandlaw06_large.calls a0_0 a0_1 _ _ l0_2 _ _ l1_0 _ _ l1_1 true _ ?side1 ?side2 ?side3 ?side4 ?side5 ?side6 A5.out).mono ?_);(case side1 => exact Kd.C_up (Kd.C_below HR0_2.out HB.out));(case side2 => exact HC0_2.out);(case side3 => exact Kd.C_up (Kd.C_below HR1_0.out HB.out));(case side4 => exact HC1_0.out);(case side5 => exact Kd.C_up (Kd.C_below HR1_1.out HB.out));(case side6 => exact HC1_1.out);rintro e w13 ⟨rfl,hb⟩;refine ⟨_,rfl,?_⟩;replace BK853:=bkb BK853 hb;replace BK854:=bkb BK854 hb;replace HB:=Aside0.mk (below_step (hb_) hb))|((with_reducible refine gate_callee (f:=15) rfl ?_);refine goesL_ (some 16) rfl rfl Try.func15 (by kernel_rfl) rfl #[] rfl (by (try simp only [List.map_toArray,List.map_cons,List.map_nil]);first|done|rfl|(simp only [List.length_drop,List.length_take];rfl)) ?_;(with_reducible refine (hinterlandlaw06_known.calls k  t856 _ A7.out).mono ?_);rintro e w14 ⟨rfl,hb⟩;refine ⟨_,rfl,?_⟩;replace BK853:=bkb BK853 hb;replace BK854:=bkb BK854 hb;replace HB:=Aside0.mk (below_step (hb_) hb)))
  go_ret
  exact ⟨by first|rfl|(simp [errW_none,errW_some] <;> rfl)|(simp [*,errW_none,errW_some] <;> rfl),hb_⟩
 ·replace c6:=Bool.eq_false_iff.mpr c6
  subst c6
  have H1 : ((water_Next.f k a0_0 a0_1 l0_2 l1_0 l1_1 a2 a3).bind fun bt857 => ((hinterlandref06_Next.f k a0_0 a0_1 l0_2 l1_0 l1_1 a2 a3).bind fun bt861 => (if bt857.2 = bt861.2 then ((hinterlandsame_List_int.f k bt857.1 bt861.1).bind fun t865 => (if t865 = true then ((hinterlandlaw06_known.f k).bind fun t866 => (some t866)) else (some false))) else (some false)))) = some r:=by rw [if_neg (show ¬ (false = true) by decide)] at H;exact H
  clear H
  have H:=H1
  clear H1
  replace H:=Option.bind_eq_some_iff.mp H
  obtain ⟨⟨t857,t860⟩,A150,H⟩:=H
  replace H : ((hinterlandref06_Next.f k a0_0 a0_1 l0_2 l1_0 l1_1 a2 a3).bind fun bt861 => (if t860 = bt861.2 then ((hinterlandsame_List_int.f k t857 bt861.1).bind fun t865 => (if t865 = true then ((hinterlandlaw06_known.f k).bind fun t866 => (some t866)) else (some false))) else (some false))) = some r:=H
  have A15:=Aside0.mk A150
  clear A150
  replace H:=Option.bind_eq_some_iff.mp H
  obtain ⟨⟨t861,t864⟩,A160,H⟩:=H
  replace H : (if t860 = t864 then ((hinterlandsame_List_int.f k t857 t861).bind fun t865 => (if t865 = true then ((hinterlandlaw06_known.f k).bind fun t866 => (some t866)) else (some false))) else (some false)) = some r:=H
  have A16:=Aside0.mk A160
  clear A160
  by_cases c17 : t860 = t864
  rotate_left
  ·rw [if_neg c17] at H
   have c17b0 : (t860 == t864) = false:=beq_eq_false_iff_ne.mpr c17
   have c17b1 : (t860 != t864) = true:=bne_iff_ne.mpr c17
   obtain rfl:=Option.some.inj H
   go_enter Try.func7,Try.ntmps7
   go_wp2_with (first|((with_reducible refine gate_dst (N:=4) rfl ?_);refine box_ev (N:=4) (cs:=#[.int .i64 a0_0,.int .i64 a0_1,.slice A0_2 l0_2.length c0_2]) (t:=24) ?_;intro gb853 hg w50 hbox hb;have BK853:=Aside0.mk (hbox);have GW853 : Aside0 (w.heap.size ≤ gb853):=gsz hg;have GE853:=GW853;replace HB:=Aside0.mk (below_step (hb_) hb);clear hb hbox hg)|((with_reducible refine gate_dst (N:=5) rfl ?_);refine box_ev (N:=5) (cs:=#[.slice A1_0 l1_0.length c1_0,.slice A1_1 l1_1.length c1_1]) (t:=26) ?_;intro gb854 hg w51 hbox hb;have BK854:=Aside0.mk (hbox);have GW854 : Aside0 (w.heap.size ≤ gb854):=gsz hg;have GE854:=GW854;have NB853_854:=nbl BK853 hg;have NB854_853:=nbr BK853 hg;replace BK853:=bkb BK853 hb;replace HB:=Aside0.mk (below_step (hb_) hb);clear hb hbox hg;have hnb52:=NB853_854.out;have hnc52:=NB854_853.out;obtain ⟨hcz53_0,hcz53_1,hcz53_2,hfz53_0,hfz53_1,hfz53_2⟩:=cells3 BK853.out;obtain ⟨hcz54_0,hcz54_1,hfz54_0,hfz54_1⟩:=cells2 BK854.out)|((with_reducible refine gate_callee (f:=14) rfl ?_);refine goesL_ (some 15) rfl rfl Try.func14 (by kernel_rfl) rfl #[.agg #[.int .i64 a0_0,.int .i64 a0_1,.slice A0_2 l0_2.length c0_2],.agg #[.slice A1_0 l1_0.length c1_0,.slice A1_1 l1_1.length c1_1]] rfl (by (try simp only [List.map_toArray,List.map_cons,List.map_nil]);first|done|rfl|(simp only [List.length_drop,List.length_take];rfl)) ?_;(with_reducible refine (hinterlandlaw06_large.calls a0_0 a0_1 _ _ l0_2 _ _ l1_0 _ _ l1_1 false _ ?side1 ?side2 ?side3 ?side4 ?side5 ?side6 A5.out).mono ?_);(case side1 => exact Kd.C_up (Kd.C_below HR0_2.out HB.out));(case side2 => exact HC0_2.out);(case side3 => exact Kd.C_up (Kd.C_below HR1_0.out HB.out));(case side4 => exact HC1_0.out);(case side5 => exact Kd.C_up (Kd.C_below HR1_1.out HB.out));(case side6 => exact HC1_1.out);rintro e w55 ⟨rfl,hb⟩;refine ⟨_,rfl,?_⟩;replace BK853:=bkb BK853 hb;replace BK854:=bkb BK854 hb;replace HB:=Aside0.mk (below_step (hb_) hb);obtain ⟨hcz56_0,hcz56_1,hcz56_2,hfz56_0,hfz56_1,hfz56_2⟩:=cells3 BK853.out;obtain ⟨hcz57_0,hcz57_1,hfz57_0,hfz57_1⟩:=cells2 BK854.out)|((with_reducible refine gate_callee (f:=26) rfl ?_);refine goesL_ (some 22) rfl rfl Try.func26 (by kernel_rfl) rfl #[.agg #[.int .i64 a0_0,.int .i64 a0_1,.slice A0_2 l0_2.length c0_2],.agg #[.slice A1_0 l1_0.length c1_0,.slice A1_1 l1_1.length c1_1],.int .i64 a2,.int .i64 a3] rfl (by (try simp only [List.map_toArray,List.map_cons,List.map_nil]);first|done|rfl|(simp only [List.length_drop,List.length_take];rfl)) ?_;(with_reducible refine (water_Next.calls k a0_0 a0_1 _ _ l0_2 _ _ l1_0 _ _ l1_1 a2 a3 t857 t860 _ ?side1 ?side2 ?side3 ?side4 ?side5 ?side6 A15.out).mono ?_);(case side1 => exact Kd.C_up (Kd.C_below HR0_2.out HB.out));(case side2 => exact HC0_2.out);(case side3 => exact Kd.C_up (Kd.C_below HR1_0.out HB.out));(case side4 => exact HC1_0.out);(case side5 => exact Kd.C_up (Kd.C_below HR1_1.out HB.out));(case side6 => exact HC1_1.out);rintro e w58 ⟨v858,rfl,ho0,hb⟩;refine ⟨_,rfl,?_⟩;have HO859:=rlo ho0;replace BK853:=bkb BK853 hb;replace BK854:=bkb BK854 hb;replace HB:=Aside0.mk (below_step (hb_) hb);obtain ⟨hcz59_0,hcz59_1,hcz59_2,hfz59_0,hfz59_1,hfz59_2⟩:=cells3 BK853.out;obtain ⟨hcz60_0,hcz60_1,hfz60_0,hfz60_1⟩:=cells2 BK854.out)|((with_reducible refine gate_callee (f:=27) rfl ?_);refine goesL_ (some 30) rfl rfl Try.func27 (by kernel_rfl) rfl #[.agg #[.int .i64 a0_0,.int .i64 a0_1,.slice A0_2 l0_2.length c0_2],.agg #[.slice A1_0 l1_0.length c1_0,.slice A1_1 l1_1.length c1_1],.int .i64 a2,.int .i64 a3] rfl (by (try simp only [List.map_toArray,List.map_cons,List.map_nil]);first|done|rfl|(simp only [List.length_drop,List.length_take];rfl)) ?_;(with_reducible refine (hinterlandref06_Next.calls k a0_0 a0_1 _ _ l0_2 _ _ l1_0 _ _ l1_1 a2 a3 t861 t864 _ ?side1 ?side2 ?side3 ?side4 ?side5 ?side6 A16.out).mono ?_);(case side1 => exact Kd.C_up (Kd.C_below HR0_2.out HB.out));(case side2 => exact HC0_2.out);(case side3 => exact Kd.C_up (Kd.C_below HR1_0.out HB.out));(case side4 => exact HC1_0.out);(case side5 => exact Kd.C_up (Kd.C_below HR1_1.out HB.out));(case side6 => exact HC1_1.out);rintro e w61 ⟨v862,rfl,ho0,hb⟩;refine ⟨_,rfl,?_⟩;have HO863:=Aside0.mk (Kd.R_lower (Kd.R_new' ho0 (Kd.R_lt (Kd.R_up HO859.out))) (below_size (hb_)));replace HO859:=Aside0.mk (Kd.R_elder' (Kd.R_up HO859.out) (Kd.R_base ho0) hb);replace BK853:=bkb BK853 hb;replace BK854:=bkb BK854 hb;replace HB:=Aside0.mk (below_step (hb_) hb)))
   go_ret
   exact ⟨by first|rfl|(simp [errW_none,errW_some] <;> rfl)|(simp [*,errW_none,errW_some] <;> rfl),hb_⟩
  rw [if_pos c17] at H
  have c17b0 : (t860 == t864) = true:=beq_iff_eq.mpr c17
  have c17b1 : (t860 != t864) = false:=bne_eq_false_iff_eq.mpr c17
  clear c17
  replace H:=Option.bind_eq_some_iff.mp H
  obtain ⟨t865,A180,H⟩:=H
  replace H : (if t865 = true then ((hinterlandlaw06_known.f k).bind fun t866 => (some t866)) else (some false)) = some r:=H
  have A18:=Aside0.mk A180
  clear A180
  by_cases c19 : t865 = true
  ·subst c19
   have H1 : ((hinterlandlaw06_known.f k).bind fun t866 => (some t866)) = some r:=by rw [if_pos rfl] at H;exact H
   clear H
   have H:=H1
   clear H1
   replace H:=Option.bind_eq_some_iff.mp H
   obtain ⟨t866,A200,H⟩:=H
   replace H : (some t866) = some r:=H
   have A20:=Aside0.mk A200
   clear A200
   obtain rfl:=Option.some.inj H
   go_enter Try.func7,Try.ntmps7
   go_wp2_with (first|((with_reducible refine gate_dst (N:=4) rfl ?_);refine box_ev (N:=4) (cs:=#[.int .i64 a0_0,.int .i64 a0_1,.slice A0_2 l0_2.length c0_2]) (t:=24) ?_;intro gb853 hg w21 hbox hb;have BK853:=Aside0.mk (hbox);have GW853 : Aside0 (w.heap.size ≤ gb853):=gsz hg;have GE853:=GW853;replace HB:=Aside0.mk (below_step (hb_) hb);clear hb hbox hg)|((with_reducible refine gate_dst (N:=5) rfl ?_);refine box_ev (N:=5) (cs:=#[.slice A1_0 l1_0.length c1_0,.slice A1_1 l1_1.length c1_1]) (t:=26) ?_;intro gb854 hg w22 hbox hb;have BK854:=Aside0.mk (hbox);have GW854 : Aside0 (w.heap.size ≤ gb854):=gsz hg;have GE854:=GW854;have NB853_854:=nbl BK853 hg;have NB854_853:=nbr BK853 hg;replace BK853:=bkb BK853 hb;replace HB:=Aside0.mk (below_step (hb_) hb);clear hb hbox hg;have hnb23:=NB853_854.out;have hnc23:=NB854_853.out;obtain ⟨hcz24_0,hcz24_1,hcz24_2,hfz24_0,hfz24_1,hfz24_2⟩:=cells3 BK853.out;obtain ⟨hcz25_0,hcz25_1,hfz25_0,hfz25_1⟩:=cells2 BK854.out)|((with_reducible refine gate_callee (f:=14) rfl ?_);refine goesL_ (some 15) rfl rfl Try.func14 (by kernel_rfl) rfl #[.agg #[.int .i64 a0_0,.int .i64 a0_1,.slice A0_2 l0_2.length c0_2],.agg #[.slice A1_0 l1_0.length c1_0,.slice A1_1 l1_1.length c1_1]] rfl (by (try simp only [List.map_toArray,List.map_cons,List.map_nil]);first|done|rfl|(simp only [List.length_drop,List.length_take];rfl)) ?_;(with_reducible refine (hinterlandlaw06_large.calls a0_0 a0_1 _ _ l0_2 _ _ l1_0 _ _ l1_1 false _ ?side1 ?side2 ?side3 ?side4 ?side5 ?side6 A5.out).mono ?_);(case side1 => exact Kd.C_up (Kd.C_below HR0_2.out HB.out));(case side2 => exact HC0_2.out);(case side3 => exact Kd.C_up (Kd.C_below HR1_0.out HB.out));(case side4 => exact HC1_0.out);(case side5 => exact Kd.C_up (Kd.C_below HR1_1.out HB.out));(case side6 => exact HC1_1.out);rintro e w26 ⟨rfl,hb⟩;refine ⟨_,rfl,?_⟩;replace BK853:=bkb BK853 hb;replace BK854:=bkb BK854 hb;replace HB:=Aside0.mk (below_step (hb_) hb);obtain ⟨hcz27_0,hcz27_1,hcz27_2,hfz27_0,hfz27_1,hfz27_2⟩:=cells3 BK853.out;obtain ⟨hcz28_0,hcz28_1,hfz28_0,hfz28_1⟩:=cells2 BK854.out)|((with_reducible refine gate_callee (f:=26) rfl ?_);refine goesL_ (some 22) rfl rfl Try.func26 (by kernel_rfl) rfl #[.agg #[.int .i64 a0_0,.int .i64 a0_1,.slice A0_2 l0_2.length c0_2],.agg #[.slice A1_0 l1_0.length c1_0,.slice A1_1 l1_1.length c1_1],.int .i64 a2,.int .i64 a3] rfl (by (try simp only [List.map_toArray,List.map_cons,List.map_nil]);first|done|rfl|(simp only [List.length_drop,List.length_take];rfl)) ?_;(with_reducible refine (water_Next.calls k a0_0 a0_1 _ _ l0_2 _ _ l1_0 _ _ l1_1 a2 a3 t857 t860 _ ?side1 ?side2 ?side3 ?side4 ?side5 ?side6 A15.out).mono ?_);(case side1 => exact Kd.C_up (Kd.C_below HR0_2.out HB.out));(case side2 => exact HC0_2.out);(case side3 => exact Kd.C_up (Kd.C_below HR1_0.out HB.out));(case side4 => exact HC1_0.out);(case side5 => exact Kd.C_up (Kd.C_below HR1_1.out HB.out));(case side6 => exact HC1_1.out);rintro e w29 ⟨v858,rfl,ho0,hb⟩;refine ⟨_,rfl,?_⟩;have HO859:=rlo ho0;replace BK853:=bkb BK853 hb;replace BK854:=bkb BK854 hb;replace HB:=Aside0.mk (below_step (hb_) hb);obtain ⟨hcz30_0,hcz30_1,hcz30_2,hfz30_0,hfz30_1,hfz30_2⟩:=cells3 BK853.out;obtain ⟨hcz31_0,hcz31_1,hfz31_0,hfz31_1⟩:=cells2 BK854.out)|((with_reducible refine gate_callee (f:=27) rfl ?_);refine goesL_ (some 30) rfl rfl Try.func27 (by kernel_rfl) rfl #[.agg #[.int .i64 a0_0,.int .i64 a0_1,.slice A0_2 l0_2.length c0_2],.agg #[.slice A1_0 l1_0.length c1_0,.slice A1_1 l1_1.length c1_1],.int .i64 a2,.int .i64 a3] rfl (by (try simp only [List.map_toArray,List.map_cons,List.map_nil]);first|done|rfl|(simp only [List.length_drop,List.length_take];rfl)) ?_;(with_reducible refine (hinterlandref06_Next.calls k a0_0 a0_1 _ _ l0_2 _ _ l1_0 _ _ l1_1 a2 a3 t861 t864 _ ?side1 ?side2 ?side3 ?side4 ?side5 ?side6 A16.out).mono ?_);(case side1 => exact Kd.C_up (Kd.C_below HR0_2.out HB.out));(case side2 => exact HC0_2.out);(case side3 => exact Kd.C_up (Kd.C_below HR1_0.out HB.out));(case side4 => exact HC1_0.out);(case side5 => exact Kd.C_up (Kd.C_below HR1_1.out HB.out));(case side6 => exact HC1_1.out);rintro e w32 ⟨v862,rfl,ho0,hb⟩;refine ⟨_,rfl,?_⟩;have HO863:=Aside0.mk (Kd.R_lower (Kd.R_new' ho0 (Kd.R_lt (Kd.R_up HO859.out))) (below_size (hb_)));replace HO859:=Aside0.mk (Kd.R_elder' (Kd.R_up HO859.out) (Kd.R_base ho0) hb);replace BK853:=bkb BK853 hb;replace BK854:=bkb BK854 hb;replace HB:=Aside0.mk (below_step (hb_) hb);obtain ⟨Ao33,co33,eo33⟩:=Kd.R_slice HO859.out;subst eo33;obtain ⟨Ao34,co34,eo34⟩:=Kd.R_slice HO863.out;subst eo34)|(go_at_call 21;(with_reducible refine (hinterlandsame_List_int.calls k _ _ t857 _ _ t861 true _ ?side1 ?side2 ?side3 ?side4 A18.out).mono ?_);(case side1 => exact Kd.C_up (Kd.R_reads' HO859.out).2.2);(case side2 => exact (Kd.R_reads' HO859.out).2.1);(case side3 => exact Kd.C_up (Kd.R_reads' HO863.out).2.2);(case side4 => exact (Kd.R_reads' HO863.out).2.1);rintro e w' ⟨rfl,⟨nd,rfl⟩⟩)|(go_at_call 15;(with_reducible refine (hinterlandlaw06_known.calls k  t866 _ A20.out).mono ?_);rintro e w35 ⟨rfl,hb⟩;replace HO859:=rbw HO859 hb;replace HO863:=rbw HO863 hb;replace BK853:=bkb BK853 hb;replace BK854:=bkb BK854 hb;replace HB:=Aside0.mk (below_step (hb_) hb)))
   go_ret
   exact ⟨by first|rfl|(simp [errW_none,errW_some] <;> rfl)|(simp [*,errW_none,errW_some] <;> rfl),hb_⟩
  ·replace c19:=Bool.eq_false_iff.mpr c19
   subst c19
   have H1 : (some false) = some r:=by rw [if_neg (show ¬ (false = true) by decide)] at H;exact H
   clear H
   have H:=H1
   clear H1
   obtain rfl:=Option.some.inj H
   go_enter Try.func7,Try.ntmps7
   go_wp2_with (first|((with_reducible refine gate_dst (N:=4) rfl ?_);refine box_ev (N:=4) (cs:=#[.int .i64 a0_0,.int .i64 a0_1,.slice A0_2 l0_2.length c0_2]) (t:=24) ?_;intro gb853 hg w36 hbox hb;have BK853:=Aside0.mk (hbox);have GW853 : Aside0 (w.heap.size ≤ gb853):=gsz hg;have GE853:=GW853;replace HB:=Aside0.mk (below_step (hb_) hb);clear hb hbox hg)|((with_reducible refine gate_dst (N:=5) rfl ?_);refine box_ev (N:=5) (cs:=#[.slice A1_0 l1_0.length c1_0,.slice A1_1 l1_1.length c1_1]) (t:=26) ?_;intro gb854 hg w37 hbox hb;have BK854:=Aside0.mk (hbox);have GW854 : Aside0 (w.heap.size ≤ gb854):=gsz hg;have GE854:=GW854;have NB853_854:=nbl BK853 hg;have NB854_853:=nbr BK853 hg;replace BK853:=bkb BK853 hb;replace HB:=Aside0.mk (below_step (hb_) hb);clear hb hbox hg;have hnb38:=NB853_854.out;have hnc38:=NB854_853.out;obtain ⟨hcz39_0,hcz39_1,hcz39_2,hfz39_0,hfz39_1,hfz39_2⟩:=cells3 BK853.out;obtain ⟨hcz40_0,hcz40_1,hfz40_0,hfz40_1⟩:=cells2 BK854.out)|((with_reducible refine gate_callee (f:=14) rfl ?_);refine goesL_ (some 15) rfl rfl Try.func14 (by kernel_rfl) rfl #[.agg #[.int .i64 a0_0,.int .i64 a0_1,.slice A0_2 l0_2.length c0_2],.agg #[.slice A1_0 l1_0.length c1_0,.slice A1_1 l1_1.length c1_1]] rfl (by (try simp only [List.map_toArray,List.map_cons,List.map_nil]);first|done|rfl|(simp only [List.length_drop,List.length_take];rfl)) ?_;(with_reducible refine (hinterlandlaw06_large.calls a0_0 a0_1 _ _ l0_2 _ _ l1_0 _ _ l1_1 false _ ?side1 ?side2 ?side3 ?side4 ?side5 ?side6 A5.out).mono ?_);(case side1 => exact Kd.C_up (Kd.C_below HR0_2.out HB.out));(case side2 => exact HC0_2.out);(case side3 => exact Kd.C_up (Kd.C_below HR1_0.out HB.out));(case side4 => exact HC1_0.out);(case side5 => exact Kd.C_up (Kd.C_below HR1_1.out HB.out));(case side6 => exact HC1_1.out);rintro e w41 ⟨rfl,hb⟩;refine ⟨_,rfl,?_⟩;replace BK853:=bkb BK853 hb;replace BK854:=bkb BK854 hb;replace HB:=Aside0.mk (below_step (hb_) hb);obtain ⟨hcz42_0,hcz42_1,hcz42_2,hfz42_0,hfz42_1,hfz42_2⟩:=cells3 BK853.out;obtain ⟨hcz43_0,hcz43_1,hfz43_0,hfz43_1⟩:=cells2 BK854.out)|((with_reducible refine gate_callee (f:=26) rfl ?_);refine goesL_ (some 22) rfl rfl Try.func26 (by kernel_rfl) rfl #[.agg #[.int .i64 a0_0,.int .i64 a0_1,.slice A0_2 l0_2.length c0_2],.agg #[.slice A1_0 l1_0.length c1_0,.slice A1_1 l1_1.length c1_1],.int .i64 a2,.int .i64 a3] rfl (by (try simp only [List.map_toArray,List.map_cons,List.map_nil]);first|done|rfl|(simp only [List.length_drop,List.length_take];rfl)) ?_;(with_reducible refine (water_Next.calls k a0_0 a0_1 _ _ l0_2 _ _ l1_0 _ _ l1_1 a2 a3 t857 t860 _ ?side1 ?side2 ?side3 ?side4 ?side5 ?side6 A15.out).mono ?_);(case side1 => exact Kd.C_up (Kd.C_below HR0_2.out HB.out));(case side2 => exact HC0_2.out);(case side3 => exact Kd.C_up (Kd.C_below HR1_0.out HB.out));(case side4 => exact HC1_0.out);(case side5 => exact Kd.C_up (Kd.C_below HR1_1.out HB.out));(case side6 => exact HC1_1.out);rintro e w44 ⟨v858,rfl,ho0,hb⟩;refine ⟨_,rfl,?_⟩;have HO859:=rlo ho0;replace BK853:=bkb BK853 hb;replace BK854:=bkb BK854 hb;replace HB:=Aside0.mk (below_step (hb_) hb);obtain ⟨hcz45_0,hcz45_1,hcz45_2,hfz45_0,hfz45_1,hfz45_2⟩:=cells3 BK853.out;obtain ⟨hcz46_0,hcz46_1,hfz46_0,hfz46_1⟩:=cells2 BK854.out)|((with_reducible refine gate_callee (f:=27) rfl ?_);refine goesL_ (some 30) rfl rfl Try.func27 (by kernel_rfl) rfl #[.agg #[.int .i64 a0_0,.int .i64 a0_1,.slice A0_2 l0_2.length c0_2],.agg #[.slice A1_0 l1_0.length c1_0,.slice A1_1 l1_1.length c1_1],.int .i64 a2,.int .i64 a3] rfl (by (try simp only [List.map_toArray,List.map_cons,List.map_nil]);first|done|rfl|(simp only [List.length_drop,List.length_take];rfl)) ?_;(with_reducible refine (hinterlandref06_Next.calls k a0_0 a0_1 _ _ l0_2 _ _ l1_0 _ _ l1_1 a2 a3 t861 t864 _ ?side1 ?side2 ?side3 ?side4 ?side5 ?side6 A16.out).mono ?_);(case side1 => exact Kd.C_up (Kd.C_below HR0_2.out HB.out));(case side2 => exact HC0_2.out);(case side3 => exact Kd.C_up (Kd.C_below HR1_0.out HB.out));(case side4 => exact HC1_0.out);(case side5 => exact Kd.C_up (Kd.C_below HR1_1.out HB.out));(case side6 => exact HC1_1.out);rintro e w47 ⟨v862,rfl,ho0,hb⟩;refine ⟨_,rfl,?_⟩;have HO863:=Aside0.mk (Kd.R_lower (Kd.R_new' ho0 (Kd.R_lt (Kd.R_up HO859.out))) (below_size (hb_)));replace HO859:=Aside0.mk (Kd.R_elder' (Kd.R_up HO859.out) (Kd.R_base ho0) hb);replace BK853:=bkb BK853 hb;replace BK854:=bkb BK854 hb;replace HB:=Aside0.mk (below_step (hb_) hb);obtain ⟨Ao48,co48,eo48⟩:=Kd.R_slice HO859.out;subst eo48;obtain ⟨Ao49,co49,eo49⟩:=Kd.R_slice HO863.out;subst eo49)|(go_at_call 21;(with_reducible refine (hinterlandsame_List_int.calls k _ _ t857 _ _ t861 false _ ?side1 ?side2 ?side3 ?side4 A18.out).mono ?_);(case side1 => exact Kd.C_up (Kd.R_reads' HO859.out).2.2);(case side2 => exact (Kd.R_reads' HO859.out).2.1);(case side3 => exact Kd.C_up (Kd.R_reads' HO863.out).2.2);(case side4 => exact (Kd.R_reads' HO863.out).2.1);rintro e w' ⟨rfl,⟨nd,rfl⟩⟩))
   go_ret
   exact ⟨by first|rfl|(simp [errW_none,errW_some] <;> rfl)|(simp [*,errW_none,errW_some] <;> rfl),hb_⟩

end Go.Proofs.Ytiencnnkphipoaa.P

/- Functions of this seat as plain Lean functions, with proofs that the Go code comes to just their answers, or what stands between them and a law's statement; no conditions. (Laid by a program of this session, out of the kit's print.) -/
import Derived.Test.YtiencnnkphipoaaPx0
import Derived.Test.YtiencnnkphipoaaPx1
import Derived.Test.YtiencnnkphipoaaPx7
import Derived.Test.YtiencnnkphipoaaPx8
import Derived.Test.YtiencnnkphipoaaPx16
import Derived.Test.YtiencnnkphipoaaPx33
namespace Go.Proofs.Ytiencnnkphipoaa.P
open Go.RowKit Go.Proofs.YtiencnnkphipoaaW.PrintWords Go.Proofs.YtiencnnkphipoaaW.PrintLast Go.Proofs.YtiencnnkphipoaaW.PrintMore
attribute [local go_sem] max2_int min2_int max_two min_two max_three min_three max_four min_four   -- for this text's walks alone
set_option linter.unusedVariables false
set_option linter.unusedSimpArgs false

/-! ### hinterlandlaw06_WaterSails: function 4 -/
def hinterlandlaw06_WaterSails.j0 : Nat → Bool → Option (Bool)
 | 0,_ => none
 | k + 1,x8 => some x8
def hinterlandlaw06_WaterSails.f (k : Nat) (a0_0 : Int) (a0_1 : Int) (l0_2 : List Int) (l1_0 : List Int) (l1_1 : List Int) (a2 : Int) (a3 : Int) : Option (Bool) := (hinterlandlaw06_large.f a0_0 a0_1 l0_2 l1_0 l1_1).bind fun t715 => (if t715 = true then ((hinterlandlaw06_known.f k).bind fun t716 => (some t716)) else ((water_Sail.f k a0_0 a0_1 l0_2 l1_0 l1_1 a2 a3).bind fun bt717 => ((hinterlandref06_Sail.f k a0_0 a0_1 l0_2 l1_0 l1_1 a2 a3).bind fun bt721 => (if bt717.2 = bt721.2 then ((hinterlandsame_List_int.f k bt717.1 bt721.1).bind fun t725 => (if t725 = true then ((hinterlandlaw06_known.f k).bind fun t726 => (hinterlandlaw06_WaterSails.j0 k t726)) else (hinterlandlaw06_WaterSails.j0 k false))) else (hinterlandlaw06_WaterSails.j0 k false)))))
theorem hinterlandlaw06_WaterSails.mono_l : ∀ k, (∀ y0, LeO (hinterlandlaw06_WaterSails.j0 k y0) (hinterlandlaw06_WaterSails.j0 (k + 1) y0))
 | 0 => fun _ r h => by simp [hinterlandlaw06_WaterSails.j0] at h
 | k + 1 => by
  have ih0:=hinterlandlaw06_WaterSails.mono_l k
  ·intro y0
   unfold hinterlandlaw06_WaterSails.j0
   repeat' first
   | (with_reducible exact ih0 _)
   | (with_reducible exact hinterlandlaw06_known.mono _)
   | (with_reducible exact hinterlandref06_Sail.mono _ _ _ _ _ _ _ _)
   | (with_reducible exact hinterlandsame_List_int.mono _ _ _)
   | (with_reducible exact water_Sail.mono _ _ _ _ _ _ _ _)
   | (with_reducible exact LeO.refl _)
   | (with_reducible exact LeO.none _)
   | (with_reducible refine LeO.ite ?_ ?_)
   | (with_reducible refine LeO.bind ?_ (fun _ => ?_))
   | exact ih0 _
   | exact hinterlandlaw06_known.mono _
   | exact hinterlandref06_Sail.mono _ _ _ _ _ _ _ _
   | exact hinterlandsame_List_int.mono _ _ _
   | exact water_Sail.mono _ _ _ _ _ _ _ _
   | exact LeO.none _
   | refine LeO.ite ?_ ?_
   | refine LeO.bind ?_ (fun _ => ?_)
theorem hinterlandlaw06_WaterSails.mono : ∀ a0 a1 a2 a3 a4 a5 a6 k, LeO (hinterlandlaw06_WaterSails.f k a0 a1 a2 a3 a4 a5 a6) (hinterlandlaw06_WaterSails.f (k + 1) a0 a1 a2 a3 a4 a5 a6) := by
 intro a0 a1 a2 a3 a4 a5 a6 k
 have ih0:=hinterlandlaw06_WaterSails.mono_l k
 unfold hinterlandlaw06_WaterSails.f
 repeat' first
   | (with_reducible exact ih0 _)
   | (with_reducible exact hinterlandlaw06_known.mono _)
   | (with_reducible exact hinterlandref06_Sail.mono _ _ _ _ _ _ _ _)
   | (with_reducible exact hinterlandsame_List_int.mono _ _ _)
   | (with_reducible exact water_Sail.mono _ _ _ _ _ _ _ _)
   | (with_reducible exact LeO.refl _)
   | (with_reducible exact LeO.none _)
   | (with_reducible refine LeO.ite ?_ ?_)
   | (with_reducible refine LeO.bind ?_ (fun _ => ?_))
   | exact ih0 _
   | exact hinterlandlaw06_known.mono _
   | exact hinterlandref06_Sail.mono _ _ _ _ _ _ _ _
   | exact hinterlandsame_List_int.mono _ _ _
   | exact water_Sail.mono _ _ _ _ _ _ _ _
   | exact LeO.none _
   | refine LeO.ite ?_ ?_
   | refine LeO.bind ?_ (fun _ => ?_)
set_option maxHeartbeats 8000000 in
set_option maxRecDepth 100000 in
theorem hinterlandlaw06_WaterSails.calls (k : Nat) (a0_0 : Int) (a0_1 : Int) (A0_2 : Option Addr) (c0_2 : Nat) (l0_2 : List Int) (A1_0 : Option Addr) (c1_0 : Nat) (l1_0 : List Int) (A1_1 : Option Addr) (c1_1 : Nat) (l1_1 : List Int) (a2 : Int) (a3 : Int) (r : Bool) (w : World) (hr0_2 : Kd.C (Kd.int .i64) w A0_2 l0_2.length l0_2) (hc0_2 : l0_2.length ≤ c0_2) (hr1_0 : Kd.C (Kd.int .i64) w A1_0 l1_0.length l1_0) (hc1_0 : l1_0.length ≤ c1_0) (hr1_1 : Kd.C (Kd.int .i64) w A1_1 l1_1.length l1_1) (hc1_1 : l1_1.length ≤ c1_1) (h : hinterlandlaw06_WaterSails.f k a0_0 a0_1 l0_2 l1_0 l1_1 a2 a3 = some r) :
  Calls Try.prog 4 #[.agg #[.int .i64 a0_0,.int .i64 a0_1,.slice A0_2 l0_2.length c0_2],.agg #[.slice A1_0 l1_0.length c1_0,.slice A1_1 l1_1.length c1_1],.int .i64 a2,.int .i64 a3] w fun e w' => e = .returned (.bool r) ∧ Below w.heap.size w w':=by
 have hu24:=Try.underlying24
 have hu26:=Try.underlying26
 have HR0_2:=Aside0.mk hr0_2
 have HC0_2:=Aside0.mk hc0_2
 clear hr0_2 hc0_2
 have HR1_0:=Aside0.mk hr1_0
 have HC1_0:=Aside0.mk hc1_0
 clear hr1_0 hc1_0
 have HR1_1:=Aside0.mk hr1_1
 have HC1_1:=Aside0.mk hc1_1
 clear hr1_1 hc1_1
 have HB:=Aside0.mk (Below.refl w.heap.size w)
 have H : ((hinterlandlaw06_large.f a0_0 a0_1 l0_2 l1_0 l1_1).bind fun t715 => (if t715 = true then ((hinterlandlaw06_known.f k).bind fun t716 => (some t716)) else ((water_Sail.f k a0_0 a0_1 l0_2 l1_0 l1_1 a2 a3).bind fun bt717 => ((hinterlandref06_Sail.f k a0_0 a0_1 l0_2 l1_0 l1_1 a2 a3).bind fun bt721 => (if bt717.2 = bt721.2 then ((hinterlandsame_List_int.f k bt717.1 bt721.1).bind fun t725 => (if t725 = true then ((hinterlandlaw06_known.f k).bind fun t726 => (hinterlandlaw06_WaterSails.j0 k t726)) else (hinterlandlaw06_WaterSails.j0 k false))) else (hinterlandlaw06_WaterSails.j0 k false)))))) = some r:=h
 clear h
 replace H:=Option.bind_eq_some_iff.mp H
 obtain ⟨t715,A50,H⟩:=H
 replace H : (if t715 = true then ((hinterlandlaw06_known.f k).bind fun t716 => (some t716)) else ((water_Sail.f k a0_0 a0_1 l0_2 l1_0 l1_1 a2 a3).bind fun bt717 => ((hinterlandref06_Sail.f k a0_0 a0_1 l0_2 l1_0 l1_1 a2 a3).bind fun bt721 => (if bt717.2 = bt721.2 then ((hinterlandsame_List_int.f k bt717.1 bt721.1).bind fun t725 => (if t725 = true then ((hinterlandlaw06_known.f k).bind fun t726 => (hinterlandlaw06_WaterSails.j0 k t726)) else (hinterlandlaw06_WaterSails.j0 k false))) else (hinterlandlaw06_WaterSails.j0 k false))))) = some r:=H
 have A5:=Aside0.mk A50
 clear A50
 by_cases c6 : t715 = true
 ·subst c6
  have H1 : ((hinterlandlaw06_known.f k).bind fun t716 => (some t716)) = some r:=by rw [if_pos rfl] at H;exact H
  clear H
  have H:=H1
  clear H1
  replace H:=Option.bind_eq_some_iff.mp H
  obtain ⟨t716,A70,H⟩:=H
  replace H : (some t716) = some r:=H
  have A7:=Aside0.mk A70
  clear A70
  obtain rfl:=Option.some.inj H
  go_enter Try.func4,Try.ntmps4
  go_wp2_with (first|((with_reducible refine gate_dst (N:=4) rfl ?_);refine box_ev (N:=4) (cs:=#[.int .i64 a0_0,.int .i64 a0_1,.slice A0_2 l0_2.length c0_2]) (t:=24) ?_;intro gb713 hg w8 hbox hb;have BK713:=Aside0.mk (hbox);have GW713 : Aside0 (w.heap.size ≤ gb713):=gsz hg;have GE713:=GW713;replace HB:=Aside0.mk (below_step (hb_) hb);clear hb hbox hg)|((with_reducible refine gate_dst (N:=5) rfl ?_);refine box_ev (N:=5) (cs:=#[.slice A1_0 l1_0.length c1_0,.slice A1_1 l1_1.length c1_1]) (t:=26) ?_;intro gb714 hg w9 hbox hb;have BK714:=Aside0.mk (hbox);have GW714 : Aside0 (w.heap.size ≤ gb714):=gsz hg;have GE714:=GW714;have NB713_714:=nbl BK713 hg;have NB714_713:=nbr BK713 hg;replace BK713:=bkb BK713 hb;replace HB:=Aside0.mk (below_step (hb_) hb);clear hb hbox hg;have hnb10:=NB713_714.out;have hnc10:=NB714_713.out;obtain ⟨hcz11_0,hcz11_1,hcz11_2,hfz11_0,hfz11_1,hfz11_2⟩:=cells3 BK713.out;obtain ⟨hcz12_0,hcz12_1,hfz12_0,hfz12_1⟩:=cells2 BK714.out)|((with_reducible refine gate_callee (f:=14) rfl ?_);refine goesL_ (some 15) rfl rfl Try.func14 (by kernel_rfl) rfl #[.agg #[.int .i64 a0_0,.int .i64 a0_1,.slice A0_2 l0_2.length c0_2],.agg #[.slice A1_0 l1_0.length c1_0,.slice A1_1 l1_1.length c1_1]] rfl (by (try simp only [List.map_toArray,List.map_cons,List.map_nil]);first|done|rfl|(simp only [List.length_drop,List.length_take];rfl)) ?_;(with_reducible refine (hinterlandlaw06_large.calls a0_0 a0_1 _ _ l0_2 _ _ l1_0 _ _ l1_1 true _ ?side1 ?side2 ?side3 ?side4 ?side5 ?side6 A5.out).mono ?_);(case side1 => exact Kd.C_up (Kd.C_below HR0_2.out HB.out));(case side2 => exact HC0_2.out);(case side3 => exact Kd.C_up (Kd.C_below HR1_0.out HB.out));(case side4 => exact HC1_0.out);(case side5 => exact Kd.C_up (Kd.C_below HR1_1.out HB.out));(case side6 => exact HC1_1.out);rintro e w13 ⟨rfl,hb⟩;refine ⟨_,rfl,?_⟩;replace BK713:=bkb BK713 hb;replace BK714:=bkb BK714 hb;replace HB:=Aside0.mk (below_step (hb_) hb))|((with_reducible refine gate_callee (f:=15) rfl ?_);refine goesL_ (some 16) rfl rfl Try.func15 (by kernel_rfl) rfl #[] rfl (by (try simp only [List.map_toArray,List.map_cons,List.map_nil]);first|done|rfl|(simp only [List.length_drop,List.length_take];rfl)) ?_;(with_reducible refine (hinterlandlaw06_known.calls k  t716 _ A7.out).mono ?_);rintro e w14 ⟨rfl,hb⟩;refine ⟨_,rfl,?_⟩;replace BK713:=bkb BK713 hb;replace BK714:=bkb BK714 hb;replace HB:=Aside0.mk (below_step (hb_) hb)))
  go_ret
  exact ⟨by first|rfl|(simp [errW_none,errW_some] <;> rfl)|(simp [*,errW_none,errW_some] <;> rfl),hb_⟩
 ·replace c6:=Bool.eq_false_iff.mpr c6
  subst c6
  have H1 : ((water_Sail.f k a0_0 a0_1 l0_2 l1_0 l1_1 a2 a3).bind fun bt717 => ((hinterlandref06_Sail.f k a0_0 a0_1 l0_2 l1_0 l1_1 a2 a3).bind fun bt721 => (if bt717.2 = bt721.2 then ((hinterlandsame_List_int.f k bt717.1 bt721.1).bind fun t725 => (if t725 = true then ((hinterlandlaw06_known.f k).bind fun t726 => (hinterlandlaw06_WaterSails.j0 k t726)) else (hinterlandlaw06_WaterSails.j0 k false))) else (hinterlandlaw06_WaterSails.j0 k false)))) = some r:=by rw [if_neg (show ¬ (false = true) by decide)] at H;exact H
  clear H
  have H:=H1
  clear H1
  replace H:=Option.bind_eq_some_iff.mp H
  obtain ⟨⟨t717,t720⟩,A150,H⟩:=H
  replace H : ((hinterlandref06_Sail.f k a0_0 a0_1 l0_2 l1_0 l1_1 a2 a3).bind fun bt721 => (if t720 = bt721.2 then ((hinterlandsame_List_int.f k t717 bt721.1).bind fun t725 => (if t725 = true then ((hinterlandlaw06_known.f k).bind fun t726 => (hinterlandlaw06_WaterSails.j0 k t726)) else (hinterlandlaw06_WaterSails.j0 k false))) else (hinterlandlaw06_WaterSails.j0 k false))) = some r:=H
  have A15:=Aside0.mk A150
  clear A150
  replace H:=Option.bind_eq_some_iff.mp H
  obtain ⟨⟨t721,t724⟩,A160,H⟩:=H
  replace H : (if t720 = t724 then ((hinterlandsame_List_int.f k t717 t721).bind fun t725 => (if t725 = true then ((hinterlandlaw06_known.f k).bind fun t726 => (hinterlandlaw06_WaterSails.j0 k t726)) else (hinterlandlaw06_WaterSails.j0 k false))) else (hinterlandlaw06_WaterSails.j0 k false)) = some r:=H
  have A16:=Aside0.mk A160
  clear A160
  have HC17:=Aside0.mk H
  clear H
  go_enter Try.func4,Try.ntmps4
  go_upto_region 5 with (first|((with_reducible refine gate_dst (N:=4) rfl ?_);refine box_ev (N:=4) (cs:=#[.int .i64 a0_0,.int .i64 a0_1,.slice A0_2 l0_2.length c0_2]) (t:=24) ?_;intro gb713 hg w18 hbox hb;have BK713:=Aside0.mk (hbox);have GW713 : Aside0 (w.heap.size ≤ gb713):=gsz hg;have GE713:=GW713;replace HB:=Aside0.mk (below_step (hb_) hb);clear hb hbox hg)|((with_reducible refine gate_dst (N:=5) rfl ?_);refine box_ev (N:=5) (cs:=#[.slice A1_0 l1_0.length c1_0,.slice A1_1 l1_1.length c1_1]) (t:=26) ?_;intro gb714 hg w19 hbox hb;have BK714:=Aside0.mk (hbox);have GW714 : Aside0 (w.heap.size ≤ gb714):=gsz hg;have GE714:=GW714;have NB713_714:=nbl BK713 hg;have NB714_713:=nbr BK713 hg;replace BK713:=bkb BK713 hb;replace HB:=Aside0.mk (below_step (hb_) hb);clear hb hbox hg;have hnb20:=NB713_714.out;have hnc20:=NB714_713.out;obtain ⟨hcz21_0,hcz21_1,hcz21_2,hfz21_0,hfz21_1,hfz21_2⟩:=cells3 BK713.out;obtain ⟨hcz22_0,hcz22_1,hfz22_0,hfz22_1⟩:=cells2 BK714.out)|((with_reducible refine gate_callee (f:=14) rfl ?_);refine goesL_ (some 15) rfl rfl Try.func14 (by kernel_rfl) rfl #[.agg #[.int .i64 a0_0,.int .i64 a0_1,.slice A0_2 l0_2.length c0_2],.agg #[.slice A1_0 l1_0.length c1_0,.slice A1_1 l1_1.length c1_1]] rfl (by (try simp only [List.map_toArray,List.map_cons,List.map_nil]);first|done|rfl|(simp only [List.length_drop,List.length_take];rfl)) ?_;(with_reducible refine (hinterlandlaw06_large.calls a0_0 a0_1 _ _ l0_2 _ _ l1_0 _ _ l1_1 false _ ?side1 ?side2 ?side3 ?side4 ?side5 ?side6 A5.out).mono ?_);(case side1 => exact Kd.C_up (Kd.C_below HR0_2.out HB.out));(case side2 => exact HC0_2.out);(case side3 => exact Kd.C_up (Kd.C_below HR1_0.out HB.out));(case side4 => exact HC1_0.out);(case side5 => exact Kd.C_up (Kd.C_below HR1_1.out HB.out));(case side6 => exact HC1_1.out);rintro e w23 ⟨rfl,hb⟩;refine ⟨_,rfl,?_⟩;replace BK713:=bkb BK713 hb;replace BK714:=bkb BK714 hb;replace HB:=Aside0.mk (below_step (hb_) hb);obtain ⟨hcz24_0,hcz24_1,hcz24_2,hfz24_0,hfz24_1,hfz24_2⟩:=cells3 BK713.out;obtain ⟨hcz25_0,hcz25_1,hfz25_0,hfz25_1⟩:=cells2 BK714.out)|((with_reducible refine gate_callee (f:=19) rfl ?_);refine goesL_ (some 22) rfl rfl Try.func19 (by kernel_rfl) rfl #[.agg #[.int .i64 a0_0,.int .i64 a0_1,.slice A0_2 l0_2.length c0_2],.agg #[.slice A1_0 l1_0.length c1_0,.slice A1_1 l1_1.length c1_1],.int .i64 a2,.int .i64 a3] rfl (by (try simp only [List.map_toArray,List.map_cons,List.map_nil]);first|done|rfl|(simp only [List.length_drop,List.length_take];rfl)) ?_;(with_reducible refine (water_Sail.calls k a0_0 a0_1 _ _ l0_2 _ _ l1_0 _ _ l1_1 a2 a3 t717 t720 _ ?side1 ?side2 ?side3 ?side4 ?side5 ?side6 A15.out).mono ?_);(case side1 => exact Kd.C_up (Kd.C_below HR0_2.out HB.out));(case side2 => exact HC0_2.out);(case side3 => exact Kd.C_up (Kd.C_below HR1_0.out HB.out));(case side4 => exact HC1_0.out);(case side5 => exact Kd.C_up (Kd.C_below HR1_1.out HB.out));(case side6 => exact HC1_1.out);rintro e w26 ⟨v718,rfl,ho0,hb⟩;refine ⟨_,rfl,?_⟩;have HO719:=rlo ho0;replace BK713:=bkb BK713 hb;replace BK714:=bkb BK714 hb;replace HB:=Aside0.mk (below_step (hb_) hb);obtain ⟨hcz27_0,hcz27_1,hcz27_2,hfz27_0,hfz27_1,hfz27_2⟩:=cells3 BK713.out;obtain ⟨hcz28_0,hcz28_1,hfz28_0,hfz28_1⟩:=cells2 BK714.out)|((with_reducible refine gate_callee (f:=20) rfl ?_);refine goesL_ (some 30) rfl rfl Try.func20 (by kernel_rfl) rfl #[.agg #[.int .i64 a0_0,.int .i64 a0_1,.slice A0_2 l0_2.length c0_2],.agg #[.slice A1_0 l1_0.length c1_0,.slice A1_1 l1_1.length c1_1],.int .i64 a2,.int .i64 a3] rfl (by (try simp only [List.map_toArray,List.map_cons,List.map_nil]);first|done|rfl|(simp only [List.length_drop,List.length_take];rfl)) ?_;(with_reducible refine (hinterlandref06_Sail.calls k a0_0 a0_1 _ _ l0_2 _ _ l1_0 _ _ l1_1 a2 a3 t721 t724 _ ?side1 ?side2 ?side3 ?side4 ?side5 ?side6 A16.out).mono ?_);(case side1 => exact Kd.C_up (Kd.C_below HR0_2.out HB.out));(case side2 => exact HC0_2.out);(case side3 => exact Kd.C_up (Kd.C_below HR1_0.out HB.out));(case side4 => exact HC1_0.out);(case side5 => exact Kd.C_up (Kd.C_below HR1_1.out HB.out));(case side6 => exact HC1_1.out);rintro e w29 ⟨v722,rfl,ho0,hb⟩;refine ⟨_,rfl,?_⟩;have HO723:=Aside0.mk (Kd.R_lower (Kd.R_new' ho0 (Kd.R_lt (Kd.R_up HO719.out))) (below_size (hb_)));replace HO719:=Aside0.mk (Kd.R_elder' (Kd.R_up HO719.out) (Kd.R_base ho0) hb);replace BK713:=bkb BK713 hb;replace BK714:=bkb BK714 hb;replace HB:=Aside0.mk (below_step (hb_) hb)))
  (try simp only [Act.put,List.setIfInBounds_toArray,List.set_cons_zero,List.set_cons_succ])
  go_cut [8] (fun v8 wc => ∃ (kq : Nat) (x8_16 : Bool),v8 = .bool x8_16 ∧ Aside0 (hinterlandlaw06_WaterSails.j0 kq x8_16 = some r) ∧ Aside0 (kq ≤ k) ∧ Aside0 (wc.heap[gb713]? = some (.cells #[.int .i64 a0_0,.int .i64 a0_1,(.slice A0_2 l0_2.length c0_2)] 24 (0,0))) ∧ Aside0 (wc.heap[gb714]? = some (.cells #[(.slice A1_0 l1_0.length c1_0),(.slice A1_1 l1_1.length c1_1)] 26 (0,0))) ∧ Aside0 (Below w.heap.size w wc))
  case first =>
   have H:=HC17.out
   clear HC17
   by_cases c30 : t720 = t724
   rotate_left
   ·rw [if_neg c30] at H
    have c30b0 : (t720 == t724) = false:=beq_eq_false_iff_ne.mpr c30
    have c30b1 : (t720 != t724) = true:=bne_iff_ne.mpr c30
    (first|rw [c30b0]|(simp only [i64_w,i32_w];rw [c30b0])|skip)
    have H':=Aside0.mk H
    clear H
    go_wp2
    go_meet
    case rel => exact ⟨_,(false),(by first|rfl|(simp;done)|(simp [*];done)),H',⟨by first|omega|exact Nat.le_refl _⟩,⟨blk_up BK713.out⟩,⟨blk_up BK714.out⟩,⟨hb_⟩⟩
   rw [if_pos c30] at H
   have c30b0 : (t720 == t724) = true:=beq_iff_eq.mpr c30
   have c30b1 : (t720 != t724) = false:=bne_eq_false_iff_eq.mpr c30
   clear c30
   (first|rw [c30b0]|(simp only [i64_w,i32_w];rw [c30b0])|skip)
   replace H:=Option.bind_eq_some_iff.mp H
   obtain ⟨t725,A310,H⟩:=H
   replace H : (if t725 = true then ((hinterlandlaw06_known.f k).bind fun t726 => (hinterlandlaw06_WaterSails.j0 k t726)) else (hinterlandlaw06_WaterSails.j0 k false)) = some r:=H
   have A31:=Aside0.mk A310
   clear A310
   by_cases c32 : t725 = true
   ·subst c32
    have H1 : ((hinterlandlaw06_known.f k).bind fun t726 => (hinterlandlaw06_WaterSails.j0 k t726)) = some r:=by rw [if_pos rfl] at H;exact H
    clear H
    have H:=H1
    clear H1
    replace H:=Option.bind_eq_some_iff.mp H
    obtain ⟨t726,A330,H⟩:=H
    replace H : (hinterlandlaw06_WaterSails.j0 k t726) = some r:=H
    have A33:=Aside0.mk A330
    clear A330
    have H':=Aside0.mk H
    clear H
    obtain ⟨Ao34,co34,eo34⟩:=Kd.R_slice HO719.out
    subst eo34
    obtain ⟨Ao35,co35,eo35⟩:=Kd.R_slice HO723.out
    subst eo35
    go_wp2_with (first|(go_at_call 21;(with_reducible refine (hinterlandsame_List_int.calls k _ _ t717 _ _ t721 true _ ?side1 ?side2 ?side3 ?side4 A31.out).mono ?_);(case side1 => exact Kd.C_up (Kd.R_reads' HO719.out).2.2);(case side2 => exact (Kd.R_reads' HO719.out).2.1);(case side3 => exact Kd.C_up (Kd.R_reads' HO723.out).2.2);(case side4 => exact (Kd.R_reads' HO723.out).2.1);rintro e w' ⟨rfl,⟨nd,rfl⟩⟩)|(go_at_call 15;(with_reducible refine (hinterlandlaw06_known.calls k  t726 _ A33.out).mono ?_);rintro e w36 ⟨rfl,hb⟩;replace HO719:=rbw HO719 hb;replace HO723:=rbw HO723 hb;replace BK713:=bkb BK713 hb;replace BK714:=bkb BK714 hb;replace HB:=Aside0.mk (below_step (hb_) hb)))
    go_meet
    case rel => exact ⟨_,(t726),(by first|rfl|(simp;done)|(simp [*];done)),H',⟨by first|omega|exact Nat.le_refl _⟩,⟨blk_up BK713.out⟩,⟨blk_up BK714.out⟩,⟨hb_⟩⟩
   ·replace c32:=Bool.eq_false_iff.mpr c32
    subst c32
    have H1 : (hinterlandlaw06_WaterSails.j0 k false) = some r:=by rw [if_neg (show ¬ (false = true) by decide)] at H;exact H
    clear H
    have H:=H1
    clear H1
    have H':=Aside0.mk H
    clear H
    obtain ⟨Ao37,co37,eo37⟩:=Kd.R_slice HO719.out
    subst eo37
    obtain ⟨Ao38,co38,eo38⟩:=Kd.R_slice HO723.out
    subst eo38
    go_wp2_with (first|(go_at_call 21;(with_reducible refine (hinterlandsame_List_int.calls k _ _ t717 _ _ t721 false _ ?side1 ?side2 ?side3 ?side4 A31.out).mono ?_);(case side1 => exact Kd.C_up (Kd.R_reads' HO719.out).2.2);(case side2 => exact (Kd.R_reads' HO719.out).2.1);(case side3 => exact Kd.C_up (Kd.R_reads' HO723.out).2.2);(case side4 => exact (Kd.R_reads' HO723.out).2.1);rintro e w' ⟨rfl,⟨nd,rfl⟩⟩))
    go_meet
    case rel => exact ⟨_,(false),(by first|rfl|(simp;done)|(simp [*];done)),H',⟨by first|omega|exact Nat.le_refl _⟩,⟨blk_up BK713.out⟩,⟨blk_up BK714.out⟩,⟨hb_⟩⟩
  case rest =>
   clear HC17
   obtain ⟨kq,x8_16,rfl,HA,HJ16,BK713,BK714,HB⟩:=hcut
   cases kq with
   | zero => exact absurd HA.out (by simp [hinterlandlaw06_WaterSails.j0])
   | succ kj16 =>
    have H:=HA.out
    clear HA
    simp only [hinterlandlaw06_WaterSails.j0] at H
    obtain rfl:=Option.some.inj H
    go_wp2
    go_ret
    exact ⟨by first|rfl|(simp [errW_none,errW_some] <;> rfl)|(simp [*,errW_none,errW_some] <;> rfl),hb_⟩

end Go.Proofs.Ytiencnnkphipoaa.P

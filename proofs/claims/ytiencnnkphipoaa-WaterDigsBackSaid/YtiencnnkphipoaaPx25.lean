/- Functions of this seat as plain Lean functions, with proofs that the Go code comes to just their answers, or what stands between them and a law's statement; no conditions. (Laid by a program of this session, out of the kit's print.) -/
import Derived.Test.YtiencnnkphipoaaPx0
import Derived.Test.YtiencnnkphipoaaPx1
import Derived.Test.YtiencnnkphipoaaPx8
import Derived.Test.YtiencnnkphipoaaPx14
import Derived.Test.YtiencnnkphipoaaPx17
import Derived.Test.YtiencnnkphipoaaPx21
namespace Go.Proofs.Ytiencnnkphipoaa.P
open Go.RowKit Go.Proofs.YtiencnnkphipoaaW.PrintWords Go.Proofs.YtiencnnkphipoaaW.PrintLast Go.Proofs.YtiencnnkphipoaaW.PrintMore
attribute [local go_sem] max2_int min2_int max_two min_two max_three min_three max_four min_four   -- for this text's walks alone
set_option linter.unusedVariables false
set_option linter.unusedSimpArgs false

/-! ### hinterlandlaw06_WaterDigsBack: function 12 -/
mutual
def hinterlandlaw06_WaterDigsBack.j1 : Nat → Bool → Option (Bool)
 | 0,_ => none
 | k + 1,x8 => some x8
def hinterlandlaw06_WaterDigsBack.j0 : Nat → Bool → Option (Bool)
 | 0,_ => none
 | k + 1,x8 => some x8
end
def hinterlandlaw06_WaterDigsBack.f (k : Nat) (a0_0 : Int) (a0_1 : Int) (l0_2 : List Int) (l1_0 : List Int) (l1_1 : List Int) (a2 : Int) (a3 : Int) : Option (Bool) := (hinterlandlaw06_large.f a0_0 a0_1 l0_2 l1_0 l1_1).bind fun t546 => (if t546 = true then ((hinterlandlaw06_known.f k).bind fun t547 => (some t547)) else ((water_Dig.f k a0_0 a0_1 l0_2 l1_0 l1_1 a2 a3).bind fun bt548 => (if bt548.2.2.2 = 0 then ((water_Fill.f k a0_0 a0_1 l0_2 bt548.1 bt548.2.1 a2).bind fun bt558 => (if bt558.2.2.2 = 0 then ((hinterlandsame_Waters.f k bt558.1 bt558.2.1 l1_0 l1_1).bind fun t567 => (if t567 = true then (if (wrap64 (2 * bt558.2.2.1)) ≤ bt548.2.2.1 then ((hinterlandlaw06_known.f k).bind fun t568 => (hinterlandlaw06_WaterDigsBack.j1 k t568)) else (hinterlandlaw06_WaterDigsBack.j1 k false)) else (hinterlandlaw06_WaterDigsBack.j1 k false))) else (hinterlandlaw06_WaterDigsBack.j1 k false))) else (if bt548.2.2.1 = 0 then ((hinterlandlaw06_known.f k).bind fun t557 => (hinterlandlaw06_WaterDigsBack.j0 k t557)) else (hinterlandlaw06_WaterDigsBack.j0 k false)))))
theorem hinterlandlaw06_WaterDigsBack.mono_l : ∀ k, (∀ y0, LeO (hinterlandlaw06_WaterDigsBack.j1 k y0) (hinterlandlaw06_WaterDigsBack.j1 (k + 1) y0)) ∧ (∀ y0, LeO (hinterlandlaw06_WaterDigsBack.j0 k y0) (hinterlandlaw06_WaterDigsBack.j0 (k + 1) y0))
 | 0 => ⟨fun _ r h => by simp [hinterlandlaw06_WaterDigsBack.j1] at h,fun _ r h => by simp [hinterlandlaw06_WaterDigsBack.j0] at h⟩
 | k + 1 => by
  obtain ⟨ih0,ih1⟩:=hinterlandlaw06_WaterDigsBack.mono_l k
  refine ⟨?_,?_⟩
  ·intro y0
   unfold hinterlandlaw06_WaterDigsBack.j1
   repeat' first
   | (with_reducible exact ih0 _)
   | (with_reducible exact ih1 _)
   | (with_reducible exact hinterlandlaw06_known.mono _)
   | (with_reducible exact hinterlandsame_Waters.mono _ _ _ _ _)
   | (with_reducible exact water_Dig.mono _ _ _ _ _ _ _ _)
   | (with_reducible exact water_Fill.mono _ _ _ _ _ _ _)
   | (with_reducible exact LeO.refl _)
   | (with_reducible exact LeO.none _)
   | (with_reducible refine LeO.ite ?_ ?_)
   | (with_reducible refine LeO.bind ?_ (fun _ => ?_))
   | exact ih0 _
   | exact ih1 _
   | exact hinterlandlaw06_known.mono _
   | exact hinterlandsame_Waters.mono _ _ _ _ _
   | exact water_Dig.mono _ _ _ _ _ _ _ _
   | exact water_Fill.mono _ _ _ _ _ _ _
   | exact LeO.none _
   | refine LeO.ite ?_ ?_
   | refine LeO.bind ?_ (fun _ => ?_)
  ·intro y0
   unfold hinterlandlaw06_WaterDigsBack.j0
   repeat' first
   | (with_reducible exact ih0 _)
   | (with_reducible exact ih1 _)
   | (with_reducible exact hinterlandlaw06_known.mono _)
   | (with_reducible exact hinterlandsame_Waters.mono _ _ _ _ _)
   | (with_reducible exact water_Dig.mono _ _ _ _ _ _ _ _)
   | (with_reducible exact water_Fill.mono _ _ _ _ _ _ _)
   | (with_reducible exact LeO.refl _)
   | (with_reducible exact LeO.none _)
   | (with_reducible refine LeO.ite ?_ ?_)
   | (with_reducible refine LeO.bind ?_ (fun _ => ?_))
   | exact ih0 _
   | exact ih1 _
   | exact hinterlandlaw06_known.mono _
   | exact hinterlandsame_Waters.mono _ _ _ _ _
   | exact water_Dig.mono _ _ _ _ _ _ _ _
   | exact water_Fill.mono _ _ _ _ _ _ _
   | exact LeO.none _
   | refine LeO.ite ?_ ?_
   | refine LeO.bind ?_ (fun _ => ?_)
theorem hinterlandlaw06_WaterDigsBack.mono : ∀ a0 a1 a2 a3 a4 a5 a6 k, LeO (hinterlandlaw06_WaterDigsBack.f k a0 a1 a2 a3 a4 a5 a6) (hinterlandlaw06_WaterDigsBack.f (k + 1) a0 a1 a2 a3 a4 a5 a6) := by
 intro a0 a1 a2 a3 a4 a5 a6 k
 obtain ⟨ih0,ih1⟩:=hinterlandlaw06_WaterDigsBack.mono_l k
 unfold hinterlandlaw06_WaterDigsBack.f
 repeat' first
   | (with_reducible exact ih0 _)
   | (with_reducible exact ih1 _)
   | (with_reducible exact hinterlandlaw06_known.mono _)
   | (with_reducible exact hinterlandsame_Waters.mono _ _ _ _ _)
   | (with_reducible exact water_Dig.mono _ _ _ _ _ _ _ _)
   | (with_reducible exact water_Fill.mono _ _ _ _ _ _ _)
   | (with_reducible exact LeO.refl _)
   | (with_reducible exact LeO.none _)
   | (with_reducible refine LeO.ite ?_ ?_)
   | (with_reducible refine LeO.bind ?_ (fun _ => ?_))
   | exact ih0 _
   | exact ih1 _
   | exact hinterlandlaw06_known.mono _
   | exact hinterlandsame_Waters.mono _ _ _ _ _
   | exact water_Dig.mono _ _ _ _ _ _ _ _
   | exact water_Fill.mono _ _ _ _ _ _ _
   | exact LeO.none _
   | refine LeO.ite ?_ ?_
   | refine LeO.bind ?_ (fun _ => ?_)
set_option maxHeartbeats 8000000 in
set_option maxRecDepth 100000 in
theorem hinterlandlaw06_WaterDigsBack.calls (k : Nat) (a0_0 : Int) (a0_1 : Int) (A0_2 : Option Addr) (c0_2 : Nat) (l0_2 : List Int) (A1_0 : Option Addr) (c1_0 : Nat) (l1_0 : List Int) (A1_1 : Option Addr) (c1_1 : Nat) (l1_1 : List Int) (a2 : Int) (a3 : Int) (r : Bool) (w : World) (hr0_2 : Kd.C (Kd.int .i64) w A0_2 l0_2.length l0_2) (hc0_2 : l0_2.length ≤ c0_2) (hr1_0 : Kd.C (Kd.int .i64) w A1_0 l1_0.length l1_0) (hc1_0 : l1_0.length ≤ c1_0) (hr1_1 : Kd.C (Kd.int .i64) w A1_1 l1_1.length l1_1) (hc1_1 : l1_1.length ≤ c1_1) (h : hinterlandlaw06_WaterDigsBack.f k a0_0 a0_1 l0_2 l1_0 l1_1 a2 a3 = some r) :
  Calls Try.prog 12 #[.agg #[.int .i64 a0_0,.int .i64 a0_1,.slice A0_2 l0_2.length c0_2],.agg #[.slice A1_0 l1_0.length c1_0,.slice A1_1 l1_1.length c1_1],.int .i64 a2,.int .i64 a3] w fun e w' => e = .returned (.bool r) ∧ Below w.heap.size w w':=by
 have hu24:=Try.underlying24
 have hu26:=Try.underlying26
 have HR0_2:=Aside0.mk hr0_2
 have HC0_2:=Aside0.mk hc0_2
 clear hr0_2 hc0_2
 have HR1_0:=Aside0.mk hr1_0
 have HC1_0:=Aside0.mk hc1_0
 clear hr1_0 hc1_0
 have HR1_1:=Aside0.mk hr1_1
 have HC1_1:=Aside0.mk hc1_1
 clear hr1_1 hc1_1
 have HB:=Aside0.mk (Below.refl w.heap.size w)
 have H : ((hinterlandlaw06_large.f a0_0 a0_1 l0_2 l1_0 l1_1).bind fun t546 => (if t546 = true then ((hinterlandlaw06_known.f k).bind fun t547 => (some t547)) else ((water_Dig.f k a0_0 a0_1 l0_2 l1_0 l1_1 a2 a3).bind fun bt548 => (if bt548.2.2.2 = 0 then ((water_Fill.f k a0_0 a0_1 l0_2 bt548.1 bt548.2.1 a2).bind fun bt558 => (if bt558.2.2.2 = 0 then ((hinterlandsame_Waters.f k bt558.1 bt558.2.1 l1_0 l1_1).bind fun t567 => (if t567 = true then (if (wrap64 (2 * bt558.2.2.1)) ≤ bt548.2.2.1 then ((hinterlandlaw06_known.f k).bind fun t568 => (hinterlandlaw06_WaterDigsBack.j1 k t568)) else (hinterlandlaw06_WaterDigsBack.j1 k false)) else (hinterlandlaw06_WaterDigsBack.j1 k false))) else (hinterlandlaw06_WaterDigsBack.j1 k false))) else (if bt548.2.2.1 = 0 then ((hinterlandlaw06_known.f k).bind fun t557 => (hinterlandlaw06_WaterDigsBack.j0 k t557)) else (hinterlandlaw06_WaterDigsBack.j0 k false)))))) = some r:=h
 clear h
 replace H:=Option.bind_eq_some_iff.mp H
 obtain ⟨t546,A50,H⟩:=H
 replace H : (if t546 = true then ((hinterlandlaw06_known.f k).bind fun t547 => (some t547)) else ((water_Dig.f k a0_0 a0_1 l0_2 l1_0 l1_1 a2 a3).bind fun bt548 => (if bt548.2.2.2 = 0 then ((water_Fill.f k a0_0 a0_1 l0_2 bt548.1 bt548.2.1 a2).bind fun bt558 => (if bt558.2.2.2 = 0 then ((hinterlandsame_Waters.f k bt558.1 bt558.2.1 l1_0 l1_1).bind fun t567 => (if t567 = true then (if (wrap64 (2 * bt558.2.2.1)) ≤ bt548.2.2.1 then ((hinterlandlaw06_known.f k).bind fun t568 => (hinterlandlaw06_WaterDigsBack.j1 k t568)) else (hinterlandlaw06_WaterDigsBack.j1 k false)) else (hinterlandlaw06_WaterDigsBack.j1 k false))) else (hinterlandlaw06_WaterDigsBack.j1 k false))) else (if bt548.2.2.1 = 0 then ((hinterlandlaw06_known.f k).bind fun t557 => (hinterlandlaw06_WaterDigsBack.j0 k t557)) else (hinterlandlaw06_WaterDigsBack.j0 k false))))) = some r:=H
 have A5:=Aside0.mk A50
 clear A50
 by_cases c6 : t546 = true
 ·subst c6
  have H1 : ((hinterlandlaw06_known.f k).bind fun t547 => (some t547)) = some r:=by rw [if_pos rfl] at H;exact H
  clear H
  have H:=H1
  clear H1
  replace H:=Option.bind_eq_some_iff.mp H
  obtain ⟨t547,A70,H⟩:=H
  replace H : (some t547) = some r:=H
  have A7:=Aside0.mk A70
  clear A70
  obtain rfl:=Option.some.inj H
  go_enter Try.func12,Try.ntmps12
  go_wp2_with (first|((with_reducible refine gate_dst (N:=4) rfl ?_);refine box_ev (N:=4) (cs:=#[.int .i64 a0_0,.int .i64 a0_1,.slice A0_2 l0_2.length c0_2]) (t:=24) ?_;intro gb544 hg w8 hbox hb;have BK544:=Aside0.mk (hbox);have GW544 : Aside0 (w.heap.size ≤ gb544):=gsz hg;have GE544:=GW544;replace HB:=Aside0.mk (below_step (hb_) hb);clear hb hbox hg)|((with_reducible refine gate_dst (N:=5) rfl ?_);refine box_ev (N:=5) (cs:=#[.slice A1_0 l1_0.length c1_0,.slice A1_1 l1_1.length c1_1]) (t:=26) ?_;intro gb545 hg w9 hbox hb;have BK545:=Aside0.mk (hbox);have GW545 : Aside0 (w.heap.size ≤ gb545):=gsz hg;have GE545:=GW545;have NB544_545:=nbl BK544 hg;have NB545_544:=nbr BK544 hg;replace BK544:=bkb BK544 hb;replace HB:=Aside0.mk (below_step (hb_) hb);clear hb hbox hg;have hnb10:=NB544_545.out;have hnc10:=NB545_544.out;obtain ⟨hcz11_0,hcz11_1,hcz11_2,hfz11_0,hfz11_1,hfz11_2⟩:=cells3 BK544.out;obtain ⟨hcz12_0,hcz12_1,hfz12_0,hfz12_1⟩:=cells2 BK545.out)|((with_reducible refine gate_callee (f:=14) rfl ?_);refine goesL_ (some 17) rfl rfl Try.func14 (by kernel_rfl) rfl #[.agg #[.int .i64 a0_0,.int .i64 a0_1,.slice A0_2 l0_2.length c0_2],.agg #[.slice A1_0 l1_0.length c1_0,.slice A1_1 l1_1.length c1_1]] rfl (by (try simp only [List.map_toArray,List.map_cons,List.map_nil]);first|done|rfl|(simp only [List.length_drop,List.length_take];rfl)) ?_;(with_reducible refine (hinterlandlaw06_large.calls a0_0 a0_1 _ _ l0_2 _ _ l1_0 _ _ l1_1 true _ ?side1 ?side2 ?side3 ?side4 ?side5 ?side6 A5.out).mono ?_);(case side1 => exact Kd.C_up (Kd.C_below HR0_2.out HB.out));(case side2 => exact HC0_2.out);(case side3 => exact Kd.C_up (Kd.C_below HR1_0.out HB.out));(case side4 => exact HC1_0.out);(case side5 => exact Kd.C_up (Kd.C_below HR1_1.out HB.out));(case side6 => exact HC1_1.out);rintro e w13 ⟨rfl,hb⟩;refine ⟨_,rfl,?_⟩;replace BK544:=bkb BK544 hb;replace BK545:=bkb BK545 hb;replace HB:=Aside0.mk (below_step (hb_) hb))|((with_reducible refine gate_callee (f:=15) rfl ?_);refine goesL_ (some 18) rfl rfl Try.func15 (by kernel_rfl) rfl #[] rfl (by (try simp only [List.map_toArray,List.map_cons,List.map_nil]);first|done|rfl|(simp only [List.length_drop,List.length_take];rfl)) ?_;(with_reducible refine (hinterlandlaw06_known.calls k  t547 _ A7.out).mono ?_);rintro e w14 ⟨rfl,hb⟩;refine ⟨_,rfl,?_⟩;replace BK544:=bkb BK544 hb;replace BK545:=bkb BK545 hb;replace HB:=Aside0.mk (below_step (hb_) hb)))
  go_ret
  exact ⟨by first|rfl|(simp [errW_none,errW_some] <;> rfl)|(simp [*,errW_none,errW_some] <;> rfl),hb_⟩
 ·replace c6:=Bool.eq_false_iff.mpr c6
  subst c6
  have H1 : ((water_Dig.f k a0_0 a0_1 l0_2 l1_0 l1_1 a2 a3).bind fun bt548 => (if bt548.2.2.2 = 0 then ((water_Fill.f k a0_0 a0_1 l0_2 bt548.1 bt548.2.1 a2).bind fun bt558 => (if bt558.2.2.2 = 0 then ((hinterlandsame_Waters.f k bt558.1 bt558.2.1 l1_0 l1_1).bind fun t567 => (if t567 = true then (if (wrap64 (2 * bt558.2.2.1)) ≤ bt548.2.2.1 then ((hinterlandlaw06_known.f k).bind fun t568 => (hinterlandlaw06_WaterDigsBack.j1 k t568)) else (hinterlandlaw06_WaterDigsBack.j1 k false)) else (hinterlandlaw06_WaterDigsBack.j1 k false))) else (hinterlandlaw06_WaterDigsBack.j1 k false))) else (if bt548.2.2.1 = 0 then ((hinterlandlaw06_known.f k).bind fun t557 => (hinterlandlaw06_WaterDigsBack.j0 k t557)) else (hinterlandlaw06_WaterDigsBack.j0 k false)))) = some r:=by rw [if_neg (show ¬ (false = true) by decide)] at H;exact H
  clear H
  have H:=H1
  clear H1
  replace H:=Option.bind_eq_some_iff.mp H
  obtain ⟨⟨t548,t551,t554,t555⟩,A150,H⟩:=H
  replace H : (if t555 = 0 then ((water_Fill.f k a0_0 a0_1 l0_2 t548 t551 a2).bind fun bt558 => (if bt558.2.2.2 = 0 then ((hinterlandsame_Waters.f k bt558.1 bt558.2.1 l1_0 l1_1).bind fun t567 => (if t567 = true then (if (wrap64 (2 * bt558.2.2.1)) ≤ t554 then ((hinterlandlaw06_known.f k).bind fun t568 => (hinterlandlaw06_WaterDigsBack.j1 k t568)) else (hinterlandlaw06_WaterDigsBack.j1 k false)) else (hinterlandlaw06_WaterDigsBack.j1 k false))) else (hinterlandlaw06_WaterDigsBack.j1 k false))) else (if t554 = 0 then ((hinterlandlaw06_known.f k).bind fun t557 => (hinterlandlaw06_WaterDigsBack.j0 k t557)) else (hinterlandlaw06_WaterDigsBack.j0 k false))) = some r:=H
  have A15:=Aside0.mk A150
  clear A150
  by_cases c16 : t555 = 0
  ·rw [if_pos c16] at H
   have c16b0 : (t555 == 0) = true:=beq_iff_eq.mpr c16
   have c16b1 : (t555 != 0) = false:=bne_eq_false_iff_eq.mpr c16
   clear c16
   replace H:=Option.bind_eq_some_iff.mp H
   obtain ⟨⟨t558,t561,t564,t565⟩,A170,H⟩:=H
   replace H : (if t565 = 0 then ((hinterlandsame_Waters.f k t558 t561 l1_0 l1_1).bind fun t567 => (if t567 = true then (if (wrap64 (2 * t564)) ≤ t554 then ((hinterlandlaw06_known.f k).bind fun t568 => (hinterlandlaw06_WaterDigsBack.j1 k t568)) else (hinterlandlaw06_WaterDigsBack.j1 k false)) else (hinterlandlaw06_WaterDigsBack.j1 k false))) else (hinterlandlaw06_WaterDigsBack.j1 k false)) = some r:=H
   have A17:=Aside0.mk A170
   clear A170
   have HC18:=Aside0.mk H
   clear H
   go_enter Try.func12,Try.ntmps12
   go_upto_region 7 with (first|((with_reducible refine gate_dst (N:=4) rfl ?_);refine box_ev (N:=4) (cs:=#[.int .i64 a0_0,.int .i64 a0_1,.slice A0_2 l0_2.length c0_2]) (t:=24) ?_;intro gb544 hg w19 hbox hb;have BK544:=Aside0.mk (hbox);have GW544 : Aside0 (w.heap.size ≤ gb544):=gsz hg;have GE544:=GW544;replace HB:=Aside0.mk (below_step (hb_) hb);clear hb hbox hg)|((with_reducible refine gate_dst (N:=5) rfl ?_);refine box_ev (N:=5) (cs:=#[.slice A1_0 l1_0.length c1_0,.slice A1_1 l1_1.length c1_1]) (t:=26) ?_;intro gb545 hg w20 hbox hb;have BK545:=Aside0.mk (hbox);have GW545 : Aside0 (w.heap.size ≤ gb545):=gsz hg;have GE545:=GW545;have NB544_545:=nbl BK544 hg;have NB545_544:=nbr BK544 hg;replace BK544:=bkb BK544 hb;replace HB:=Aside0.mk (below_step (hb_) hb);clear hb hbox hg;have hnb21:=NB544_545.out;have hnc21:=NB545_544.out;obtain ⟨hcz22_0,hcz22_1,hcz22_2,hfz22_0,hfz22_1,hfz22_2⟩:=cells3 BK544.out;obtain ⟨hcz23_0,hcz23_1,hfz23_0,hfz23_1⟩:=cells2 BK545.out)|((with_reducible refine gate_callee (f:=14) rfl ?_);refine goesL_ (some 17) rfl rfl Try.func14 (by kernel_rfl) rfl #[.agg #[.int .i64 a0_0,.int .i64 a0_1,.slice A0_2 l0_2.length c0_2],.agg #[.slice A1_0 l1_0.length c1_0,.slice A1_1 l1_1.length c1_1]] rfl (by (try simp only [List.map_toArray,List.map_cons,List.map_nil]);first|done|rfl|(simp only [List.length_drop,List.length_take];rfl)) ?_;(with_reducible refine (hinterlandlaw06_large.calls a0_0 a0_1 _ _ l0_2 _ _ l1_0 _ _ l1_1 false _ ?side1 ?side2 ?side3 ?side4 ?side5 ?side6 A5.out).mono ?_);(case side1 => exact Kd.C_up (Kd.C_below HR0_2.out HB.out));(case side2 => exact HC0_2.out);(case side3 => exact Kd.C_up (Kd.C_below HR1_0.out HB.out));(case side4 => exact HC1_0.out);(case side5 => exact Kd.C_up (Kd.C_below HR1_1.out HB.out));(case side6 => exact HC1_1.out);rintro e w24 ⟨rfl,hb⟩;refine ⟨_,rfl,?_⟩;replace BK544:=bkb BK544 hb;replace BK545:=bkb BK545 hb;replace HB:=Aside0.mk (below_step (hb_) hb);obtain ⟨hcz25_0,hcz25_1,hcz25_2,hfz25_0,hfz25_1,hfz25_2⟩:=cells3 BK544.out;obtain ⟨hcz26_0,hcz26_1,hfz26_0,hfz26_1⟩:=cells2 BK545.out)|((with_reducible refine gate_callee (f:=28) rfl ?_);refine goesL_ (some 24) rfl rfl Try.func28 (by kernel_rfl) rfl #[.agg #[.int .i64 a0_0,.int .i64 a0_1,.slice A0_2 l0_2.length c0_2],.agg #[.slice A1_0 l1_0.length c1_0,.slice A1_1 l1_1.length c1_1],.int .i64 a2,.int .i64 a3] rfl (by (try simp only [List.map_toArray,List.map_cons,List.map_nil]);first|done|rfl|(simp only [List.length_drop,List.length_take];rfl)) ?_;(with_reducible refine (water_Dig.calls k a0_0 a0_1 _ _ l0_2 _ _ l1_0 _ _ l1_1 a2 a3 t548 t551 t554 t555 _ ?side1 ?side2 ?side3 ?side4 ?side5 ?side6 A15.out).mono ?_);(case side1 => exact Kd.C_up (Kd.C_below HR0_2.out HB.out));(case side2 => exact HC0_2.out);(case side3 => exact Kd.C_up (Kd.C_below HR1_0.out HB.out));(case side4 => exact HC1_0.out);(case side5 => exact Kd.C_up (Kd.C_below HR1_1.out HB.out));(case side6 => exact HC1_1.out);rintro e w27 ⟨v549,v552,rfl,ho0,ho1,hb⟩;refine ⟨_,rfl,?_⟩;have HO550:=rlo ho0;have HO553:=rlo ho1;replace BK544:=bkb BK544 hb;replace BK545:=bkb BK545 hb;replace HB:=Aside0.mk (below_step (hb_) hb))|((with_reducible refine gate_dst (N:=9) rfl ?_);refine box_ev (N:=9) (cs:=#[.slice none 0 0,.slice none 0 0]) (t:=26) ?_;intro gb556 hg w28 hbox hb;have BK556:=Aside0.mk (hbox);have GW556 : Aside0 (w.heap.size ≤ gb556):=gsz hg;have GE556:=GW556;have NB544_556:=nbl BK544 hg;have NB556_544:=nbr BK544 hg;have NB545_556:=nbl BK545 hg;have NB556_545:=nbr BK545 hg;replace HO550:=rbw HO550 hb;replace HO553:=rbw HO553 hb;replace BK544:=bkb BK544 hb;replace BK545:=bkb BK545 hb;replace HB:=Aside0.mk (below_step (hb_) hb);clear hb hbox hg;obtain ⟨Ao29,co29,eo29⟩:=Kd.R_slice HO550.out;subst eo29;have hnb30:=NB556_544.out;have hnc30:=NB544_556.out;have hnb31:=NB556_545.out;have hnc31:=NB545_556.out;obtain ⟨hcz32_0,hcz32_1,hfz32_0,hfz32_1⟩:=cells2 BK556.out;obtain ⟨Ao33,co33,eo33⟩:=Kd.R_slice HO553.out;subst eo33;obtain ⟨hcz34_0,hcz34_1,hcz34_2,hfz34_0,hfz34_1,hfz34_2⟩:=cells3 BK544.out)|((with_reducible refine gate_callee (f:=35) rfl ?_);refine goesL_ (some 39) rfl rfl Try.func35 (by kernel_rfl) rfl #[.agg #[.int .i64 a0_0,.int .i64 a0_1,.slice A0_2 l0_2.length c0_2],.agg #[.slice Ao29 t548.length co29,.slice Ao33 t551.length co33],.int .i64 a2] rfl (by (try simp only [List.map_toArray,List.map_cons,List.map_nil]);first|done|rfl|(simp only [List.length_drop,List.length_take];rfl)) ?_;(with_reducible refine (water_Fill.calls k a0_0 a0_1 _ _ l0_2 _ _ t548 _ _ t551 a2 t558 t561 t564 t565 _ ?side1 ?side2 ?side3 ?side4 ?side5 ?side6 A17.out).mono ?_);(case side1 => exact Kd.C_below HR0_2.out (hb_));(case side2 => exact HC0_2.out);(case side3 => refine (Kd.R_reads' (e:=3) (base:=w.heap.size) (ok:=fun k_ => some k_ ≠ (.slice Ao33 t551.length co33 : Value).ownBlock) (n:=t548.length) (c:=co29) ?_).2.2;exact (by (with_reducible repeat (first|apply Kd.R_alloc|apply Kd.R_drewN|apply Kd.R_drew));exact (Kd.R_mono (Kd.R_fars gb556 (Kd.R_types HO550.out BK556.out (by decide)) (fun _ hk => hk.2)) (fun _ h_ => h_.1))));(case side4 => exact (Kd.R_reads' HO550.out).2.1);(case side5 => refine (Kd.R_reads' (e:=3) (base:=w.heap.size) (ok:=fun k_ => some k_ ≠ (.slice Ao29 t548.length co29 : Value).ownBlock) (n:=t551.length) (c:=co33) ?_).2.2;exact (by (with_reducible repeat (first|apply Kd.R_alloc|apply Kd.R_drewN|apply Kd.R_drew));exact (Kd.R_mono (Kd.R_fars gb556 (Kd.R_types HO553.out BK556.out (by decide)) (fun _ hk => hk.2)) (fun _ h_ => h_.1))));(case side6 => exact (Kd.R_reads' HO553.out).2.1);rintro e w35 ⟨v559,v562,rfl,ho0,ho1,hb⟩;refine ⟨_,rfl,?_⟩;have HO560:=Aside0.mk (Kd.R_lower (Kd.R_new' (Kd.R_new' ho0 (Kd.R_lt (by (with_reducible repeat (first|apply Kd.R_alloc|apply Kd.R_drewN|apply Kd.R_drew));exact (Kd.R_mono (Kd.R_fars gb556 (Kd.R_types HO550.out BK556.out (by decide)) (fun _ hk => hk.2)) (fun _ h_ => h_.1))))) (Kd.R_lt (by (with_reducible repeat (first|apply Kd.R_alloc|apply Kd.R_drewN|apply Kd.R_drew));exact (Kd.R_mono (Kd.R_fars gb556 (Kd.R_types HO553.out BK556.out (by decide)) (fun _ hk => hk.2)) (fun _ h_ => h_.1))))) (below_size (hb_)));have HO563:=Aside0.mk (Kd.R_lower (Kd.R_new' (Kd.R_new' ho1 (Kd.R_lt (by (with_reducible repeat (first|apply Kd.R_alloc|apply Kd.R_drewN|apply Kd.R_drew));exact (Kd.R_mono (Kd.R_fars gb556 (Kd.R_types HO550.out BK556.out (by decide)) (fun _ hk => hk.2)) (fun _ h_ => h_.1))))) (Kd.R_lt (by (with_reducible repeat (first|apply Kd.R_alloc|apply Kd.R_drewN|apply Kd.R_drew));exact (Kd.R_mono (Kd.R_fars gb556 (Kd.R_types HO553.out BK556.out (by decide)) (fun _ hk => hk.2)) (fun _ h_ => h_.1))))) (below_size (hb_)));replace HO550:=Aside0.mk (Kd.R_mono (Kd.R_told (Kd.R_told (Kd.R_old (by (with_reducible repeat (first|apply Kd.R_alloc|apply Kd.R_drewN|apply Kd.R_drew));exact (Kd.R_mono (Kd.R_fars gb556 (Kd.R_types HO550.out BK556.out (by decide)) (fun _ hk => hk.2)) (fun _ h_ => h_.1))) hb) (Kd.R_base ho0)) (Kd.R_base ho1)) (fun _ h_ => h_.1));replace HO553:=Aside0.mk (Kd.R_mono (Kd.R_told (Kd.R_told (Kd.R_old (by (with_reducible repeat (first|apply Kd.R_alloc|apply Kd.R_drewN|apply Kd.R_drew));exact (Kd.R_mono (Kd.R_fars gb556 (Kd.R_types HO553.out BK556.out (by decide)) (fun _ hk => hk.2)) (fun _ h_ => h_.1))) hb) (Kd.R_base ho0)) (Kd.R_base ho1)) (fun _ h_ => h_.1));replace BK544:=Aside0.mk (blk_below (g:=gb544) (o:=.cells #[.int .i64 a0_0,.int .i64 a0_1,.slice A0_2 l0_2.length c0_2] 24 (0,0)) (by (with_reducible repeat (first|refine blk_drewN ?_ _|refine blk_drew ?_|refine blk_alloc ?_ _));refine blk_far ?_ NB544_556.out _;(with_reducible repeat (first|refine blk_drewN ?_ _|refine blk_drew ?_|refine blk_alloc ?_ _));refine blk_far ?_ NB544_556.out _;(with_reducible repeat (first|refine blk_drewN ?_ _|refine blk_drew ?_|refine blk_alloc ?_ _));exact BK544.out) hb);replace BK545:=Aside0.mk (blk_below (g:=gb545) (o:=.cells #[.slice A1_0 l1_0.length c1_0,.slice A1_1 l1_1.length c1_1] 26 (0,0)) (by (with_reducible repeat (first|refine blk_drewN ?_ _|refine blk_drew ?_|refine blk_alloc ?_ _));refine blk_far ?_ NB545_556.out _;(with_reducible repeat (first|refine blk_drewN ?_ _|refine blk_drew ?_|refine blk_alloc ?_ _));refine blk_far ?_ NB545_556.out _;(with_reducible repeat (first|refine blk_drewN ?_ _|refine blk_drew ?_|refine blk_alloc ?_ _));exact BK545.out) hb);replace BK556:=Aside0.mk (blk_below (g:=gb556) (o:=.cells #[.slice Ao29 t548.length co29,.slice Ao33 t551.length co33] 26 (0,0)) (by (with_reducible repeat (first|refine blk_drewN ?_ _|refine blk_drew ?_|refine blk_alloc ?_ _));exact blk_puts2 (blk_up BK556.out)) hb);replace HB:=Aside0.mk (below_step (hb_) hb))|((with_reducible refine gate_dst (N:=12) rfl ?_);refine box_ev (N:=12) (cs:=#[.slice none 0 0,.slice none 0 0]) (t:=26) ?_;intro gb566 hg w36 hbox hb;have BK566:=Aside0.mk (hbox);have GW566 : Aside0 (w.heap.size ≤ gb566):=gsz hg;have GE566:=GW566;have NB544_566:=nbl BK544 hg;have NB566_544:=nbr BK544 hg;have NB545_566:=nbl BK545 hg;have NB566_545:=nbr BK545 hg;have NB556_566:=nbl BK556 hg;have NB566_556:=nbr BK556 hg;replace HO550:=rbw HO550 hb;replace HO553:=rbw HO553 hb;replace HO560:=rbw HO560 hb;replace HO563:=rbw HO563 hb;replace BK544:=bkb BK544 hb;replace BK545:=bkb BK545 hb;replace BK556:=bkb BK556 hb;replace HB:=Aside0.mk (below_step (hb_) hb);clear hb hbox hg;obtain ⟨Ao37,co37,eo37⟩:=Kd.R_slice HO560.out;subst eo37;have hnb38:=NB566_544.out;have hnc38:=NB544_566.out;have hnb39:=NB566_545.out;have hnc39:=NB545_566.out;have hnb40:=NB566_556.out;have hnc40:=NB556_566.out;obtain ⟨hcz41_0,hcz41_1,hfz41_0,hfz41_1⟩:=cells2 BK566.out;obtain ⟨Ao42,co42,eo42⟩:=Kd.R_slice HO563.out;subst eo42))
   (try simp only [Act.put,List.setIfInBounds_toArray,List.set_cons_zero,List.set_cons_succ])
   go_cut [8] (fun v8 wc => ∃ (kq : Nat) (x8_17 : Bool),v8 = .bool x8_17 ∧ Aside0 (hinterlandlaw06_WaterDigsBack.j1 kq x8_17 = some r) ∧ Aside0 (kq ≤ k) ∧ Aside0 (Kd.R (Kd.int .i64) 3 wc w.heap.size (fun k_ => some k_ ≠ ((.slice Ao33 t551.length co33) : Value).ownBlock ∧ some k_ ≠ ((.slice Ao37 t558.length co37) : Value).ownBlock ∧ some k_ ≠ ((.slice Ao42 t561.length co42) : Value).ownBlock) (.slice Ao29 t548.length co29) t548) ∧ Aside0 (Kd.R (Kd.int .i64) 3 wc w.heap.size (fun k_ => some k_ ≠ ((.slice Ao29 t548.length co29) : Value).ownBlock ∧ some k_ ≠ ((.slice Ao37 t558.length co37) : Value).ownBlock ∧ some k_ ≠ ((.slice Ao42 t561.length co42) : Value).ownBlock) (.slice Ao33 t551.length co33) t551) ∧ Aside0 (Kd.R (Kd.int .i64) 3 wc w.heap.size (fun k_ => some k_ ≠ ((.slice Ao29 t548.length co29) : Value).ownBlock ∧ some k_ ≠ ((.slice Ao33 t551.length co33) : Value).ownBlock ∧ some k_ ≠ ((.slice Ao42 t561.length co42) : Value).ownBlock) (.slice Ao37 t558.length co37) t558) ∧ Aside0 (Kd.R (Kd.int .i64) 3 wc w.heap.size (fun k_ => some k_ ≠ ((.slice Ao29 t548.length co29) : Value).ownBlock ∧ some k_ ≠ ((.slice Ao33 t551.length co33) : Value).ownBlock ∧ some k_ ≠ ((.slice Ao37 t558.length co37) : Value).ownBlock) (.slice Ao42 t561.length co42) t561) ∧ Aside0 (wc.heap[gb544]? = some (.cells #[.int .i64 a0_0,.int .i64 a0_1,(.slice A0_2 l0_2.length c0_2)] 24 (0,0))) ∧ Aside0 (wc.heap[gb545]? = some (.cells #[(.slice A1_0 l1_0.length c1_0),(.slice A1_1 l1_1.length c1_1)] 26 (0,0))) ∧ Aside0 (wc.heap[gb556]? = some (.cells #[(.slice Ao29 t548.length co29),(.slice Ao33 t551.length co33)] 26 (0,0))) ∧ Aside0 (wc.heap[gb566]? = some (.cells #[(.slice Ao37 t558.length co37),(.slice Ao42 t561.length co42)] 26 (0,0))) ∧ Aside0 (Below w.heap.size w wc))
   case first =>
    have H:=HC18.out
    clear HC18
    by_cases c43 : t565 = 0
    ·rw [if_pos c43] at H
     have c43b0 : (t565 == 0) = true:=beq_iff_eq.mpr c43
     have c43b1 : (t565 != 0) = false:=bne_eq_false_iff_eq.mpr c43
     clear c43
     (first|rw [c43b0]|(simp only [i64_w,i32_w];rw [c43b0])|skip)
     replace H:=Option.bind_eq_some_iff.mp H
     obtain ⟨t567,A440,H⟩:=H
     replace H : (if t567 = true then (if (wrap64 (2 * t564)) ≤ t554 then ((hinterlandlaw06_known.f k).bind fun t568 => (hinterlandlaw06_WaterDigsBack.j1 k t568)) else (hinterlandlaw06_WaterDigsBack.j1 k false)) else (hinterlandlaw06_WaterDigsBack.j1 k false)) = some r:=H
     have A44:=Aside0.mk A440
     clear A440
     by_cases c45 : t567 = true
     ·subst c45
      have H1 : (if (wrap64 (2 * t564)) ≤ t554 then ((hinterlandlaw06_known.f k).bind fun t568 => (hinterlandlaw06_WaterDigsBack.j1 k t568)) else (hinterlandlaw06_WaterDigsBack.j1 k false)) = some r:=by rw [if_pos rfl] at H;exact H
      clear H
      have H:=H1
      clear H1
      by_cases c46 : (wrap64 (2 * t564)) ≤ t554
      ·rw [if_pos c46] at H
       have c46b0 : decide ((wrap64 (2 * t564)) ≤ t554) = true:=decide_eq_true c46
       clear c46
       replace H:=Option.bind_eq_some_iff.mp H
       obtain ⟨t568,A470,H⟩:=H
       replace H : (hinterlandlaw06_WaterDigsBack.j1 k t568) = some r:=H
       have A47:=Aside0.mk A470
       clear A470
       have H':=Aside0.mk H
       clear H
       have hnb48:=NB566_544.out
       have hnc48:=NB544_566.out
       have hnb49:=NB566_545.out
       have hnc49:=NB545_566.out
       have hnb50:=NB566_556.out
       have hnc50:=NB556_566.out
       obtain ⟨hcz51_0,hcz51_1,hfz51_0,hfz51_1⟩:=cells2 BK566.out
       have hnb52:=NB545_544.out
       have hnc52:=NB544_545.out
       have hnb53:=NB545_556.out
       have hnc53:=NB556_545.out
       obtain ⟨hcz54_0,hcz54_1,hfz54_0,hfz54_1⟩:=cells2 BK545.out
       go_wp2_with (first|(go_at_call 30;(with_reducible refine (hinterlandsame_Waters.calls k _ _ t558 _ _ t561 _ _ l1_0 _ _ l1_1 true _ ?side1 ?side2 ?side3 ?side4 ?side5 ?side6 ?side7 ?side8 A44.out).mono ?_);(case side1 => refine (Kd.R_reads' (e:=3) (base:=w.heap.size) (ok:=fun k_ => ((some k_ ≠ (.slice Ao42 t561.length co42 : Value).ownBlock ∧ some k_ ≠ (.slice Ao29 t548.length co29 : Value).ownBlock) ∧ some k_ ≠ (.slice Ao33 t551.length co33 : Value).ownBlock)) (n:=t558.length) (c:=co37) ?_).2.2;exact (by (with_reducible repeat (first|apply Kd.R_alloc|apply Kd.R_drewN|apply Kd.R_drew));exact (Kd.R_mono (Kd.R_fars gb566 (Kd.R_types HO560.out BK566.out (by decide)) (fun _ hk => hk.2)) (fun _ h_ => h_.1))));(case side2 => exact (Kd.R_reads' HO560.out).2.1);(case side3 => refine (Kd.R_reads' (e:=3) (base:=w.heap.size) (ok:=fun k_ => ((some k_ ≠ (.slice Ao37 t558.length co37 : Value).ownBlock ∧ some k_ ≠ (.slice Ao29 t548.length co29 : Value).ownBlock) ∧ some k_ ≠ (.slice Ao33 t551.length co33 : Value).ownBlock)) (n:=t561.length) (c:=co42) ?_).2.2;exact (by (with_reducible repeat (first|apply Kd.R_alloc|apply Kd.R_drewN|apply Kd.R_drew));exact (Kd.R_mono (Kd.R_fars gb566 (Kd.R_types HO563.out BK566.out (by decide)) (fun _ hk => hk.2)) (fun _ h_ => h_.1))));(case side4 => exact (Kd.R_reads' HO563.out).2.1);(case side5 => exact Kd.C_below HR1_0.out (hb_));(case side6 => exact HC1_0.out);(case side7 => exact Kd.C_below HR1_1.out (hb_));(case side8 => exact HC1_1.out);rintro e w55 ⟨rfl,hb⟩;replace HO550:=Aside0.mk (Kd.R_below (by (with_reducible repeat (first|apply Kd.R_alloc|apply Kd.R_drewN|apply Kd.R_drew));exact (Kd.R_mono (Kd.R_fars gb566 (Kd.R_types HO550.out BK566.out (by decide)) (fun _ hk => hk.2)) (fun _ h_ => h_.1))) hb);replace HO553:=Aside0.mk (Kd.R_below (by (with_reducible repeat (first|apply Kd.R_alloc|apply Kd.R_drewN|apply Kd.R_drew));exact (Kd.R_mono (Kd.R_fars gb566 (Kd.R_types HO553.out BK566.out (by decide)) (fun _ hk => hk.2)) (fun _ h_ => h_.1))) hb);replace HO560:=Aside0.mk (Kd.R_below (by (with_reducible repeat (first|apply Kd.R_alloc|apply Kd.R_drewN|apply Kd.R_drew));exact (Kd.R_mono (Kd.R_fars gb566 (Kd.R_types HO560.out BK566.out (by decide)) (fun _ hk => hk.2)) (fun _ h_ => h_.1))) hb);replace HO563:=Aside0.mk (Kd.R_below (by (with_reducible repeat (first|apply Kd.R_alloc|apply Kd.R_drewN|apply Kd.R_drew));exact (Kd.R_mono (Kd.R_fars gb566 (Kd.R_types HO563.out BK566.out (by decide)) (fun _ hk => hk.2)) (fun _ h_ => h_.1))) hb);replace BK544:=Aside0.mk (blk_below (g:=gb544) (o:=.cells #[.int .i64 a0_0,.int .i64 a0_1,.slice A0_2 l0_2.length c0_2] 24 (0,0)) (by (with_reducible repeat (first|refine blk_drewN ?_ _|refine blk_drew ?_|refine blk_alloc ?_ _));refine blk_far ?_ NB544_566.out _;(with_reducible repeat (first|refine blk_drewN ?_ _|refine blk_drew ?_|refine blk_alloc ?_ _));refine blk_far ?_ NB544_566.out _;(with_reducible repeat (first|refine blk_drewN ?_ _|refine blk_drew ?_|refine blk_alloc ?_ _));exact BK544.out) hb);replace BK545:=Aside0.mk (blk_below (g:=gb545) (o:=.cells #[.slice A1_0 l1_0.length c1_0,.slice A1_1 l1_1.length c1_1] 26 (0,0)) (by (with_reducible repeat (first|refine blk_drewN ?_ _|refine blk_drew ?_|refine blk_alloc ?_ _));refine blk_far ?_ NB545_566.out _;(with_reducible repeat (first|refine blk_drewN ?_ _|refine blk_drew ?_|refine blk_alloc ?_ _));refine blk_far ?_ NB545_566.out _;(with_reducible repeat (first|refine blk_drewN ?_ _|refine blk_drew ?_|refine blk_alloc ?_ _));exact BK545.out) hb);replace BK556:=Aside0.mk (blk_below (g:=gb556) (o:=.cells #[.slice Ao29 t548.length co29,.slice Ao33 t551.length co33] 26 (0,0)) (by (with_reducible repeat (first|refine blk_drewN ?_ _|refine blk_drew ?_|refine blk_alloc ?_ _));refine blk_far ?_ NB556_566.out _;(with_reducible repeat (first|refine blk_drewN ?_ _|refine blk_drew ?_|refine blk_alloc ?_ _));refine blk_far ?_ NB556_566.out _;(with_reducible repeat (first|refine blk_drewN ?_ _|refine blk_drew ?_|refine blk_alloc ?_ _));exact BK556.out) hb);replace BK566:=Aside0.mk (blk_below (g:=gb566) (o:=.cells #[.slice Ao37 t558.length co37,.slice Ao42 t561.length co42] 26 (0,0)) (by (with_reducible repeat (first|refine blk_drewN ?_ _|refine blk_drew ?_|refine blk_alloc ?_ _));exact blk_puts2 (blk_up BK566.out)) hb);replace HB:=Aside0.mk (below_step (hb_) hb))|(go_at_call 15;(with_reducible refine (hinterlandlaw06_known.calls k  t568 _ A47.out).mono ?_);rintro e w56 ⟨rfl,hb⟩;replace HO550:=rbw HO550 hb;replace HO553:=rbw HO553 hb;replace HO560:=rbw HO560 hb;replace HO563:=rbw HO563 hb;replace BK544:=bkb BK544 hb;replace BK545:=bkb BK545 hb;replace BK556:=bkb BK556 hb;replace BK566:=bkb BK566 hb;replace HB:=Aside0.mk (below_step (hb_) hb)))
       go_meet
       case rel => exact ⟨_,(t568),(by first|rfl|(simp;done)|(simp [*];done)),H',⟨by first|omega|exact Nat.le_refl _⟩,⟨by (with_reducible repeat (first|apply Kd.R_alloc|apply Kd.R_drewN|apply Kd.R_drew));exact Kd.R_mono HO550.out (fun _ hk => ⟨hk.1.1,⟨hk.1.2,hk.2⟩⟩)⟩,⟨by (with_reducible repeat (first|apply Kd.R_alloc|apply Kd.R_drewN|apply Kd.R_drew));exact Kd.R_mono HO553.out (fun _ hk => ⟨hk.1.1,⟨hk.1.2,hk.2⟩⟩)⟩,⟨by (with_reducible repeat (first|apply Kd.R_alloc|apply Kd.R_drewN|apply Kd.R_drew));exact Kd.R_mono HO560.out (fun _ hk => ⟨hk.1.2,⟨hk.2,hk.1.1⟩⟩)⟩,⟨by (with_reducible repeat (first|apply Kd.R_alloc|apply Kd.R_drewN|apply Kd.R_drew));exact Kd.R_mono HO563.out (fun _ hk => ⟨hk.1.2,⟨hk.2,hk.1.1⟩⟩)⟩,⟨blk_up BK544.out⟩,⟨blk_up BK545.out⟩,⟨blk_up BK556.out⟩,⟨blk_up BK566.out⟩,⟨hb_⟩⟩
      ·rw [if_neg c46] at H
       have c46b0 : decide ((wrap64 (2 * t564)) ≤ t554) = false:=decide_eq_false c46
       clear c46
       have H':=Aside0.mk H
       clear H
       have hnb57:=NB566_544.out
       have hnc57:=NB544_566.out
       have hnb58:=NB566_545.out
       have hnc58:=NB545_566.out
       have hnb59:=NB566_556.out
       have hnc59:=NB556_566.out
       obtain ⟨hcz60_0,hcz60_1,hfz60_0,hfz60_1⟩:=cells2 BK566.out
       have hnb61:=NB545_544.out
       have hnc61:=NB544_545.out
       have hnb62:=NB545_556.out
       have hnc62:=NB556_545.out
       obtain ⟨hcz63_0,hcz63_1,hfz63_0,hfz63_1⟩:=cells2 BK545.out
       go_wp2_with (first|(go_at_call 30;(with_reducible refine (hinterlandsame_Waters.calls k _ _ t558 _ _ t561 _ _ l1_0 _ _ l1_1 true _ ?side1 ?side2 ?side3 ?side4 ?side5 ?side6 ?side7 ?side8 A44.out).mono ?_);(case side1 => refine (Kd.R_reads' (e:=3) (base:=w.heap.size) (ok:=fun k_ => ((some k_ ≠ (.slice Ao42 t561.length co42 : Value).ownBlock ∧ some k_ ≠ (.slice Ao29 t548.length co29 : Value).ownBlock) ∧ some k_ ≠ (.slice Ao33 t551.length co33 : Value).ownBlock)) (n:=t558.length) (c:=co37) ?_).2.2;exact (by (with_reducible repeat (first|apply Kd.R_alloc|apply Kd.R_drewN|apply Kd.R_drew));exact (Kd.R_mono (Kd.R_fars gb566 (Kd.R_types HO560.out BK566.out (by decide)) (fun _ hk => hk.2)) (fun _ h_ => h_.1))));(case side2 => exact (Kd.R_reads' HO560.out).2.1);(case side3 => refine (Kd.R_reads' (e:=3) (base:=w.heap.size) (ok:=fun k_ => ((some k_ ≠ (.slice Ao37 t558.length co37 : Value).ownBlock ∧ some k_ ≠ (.slice Ao29 t548.length co29 : Value).ownBlock) ∧ some k_ ≠ (.slice Ao33 t551.length co33 : Value).ownBlock)) (n:=t561.length) (c:=co42) ?_).2.2;exact (by (with_reducible repeat (first|apply Kd.R_alloc|apply Kd.R_drewN|apply Kd.R_drew));exact (Kd.R_mono (Kd.R_fars gb566 (Kd.R_types HO563.out BK566.out (by decide)) (fun _ hk => hk.2)) (fun _ h_ => h_.1))));(case side4 => exact (Kd.R_reads' HO563.out).2.1);(case side5 => exact Kd.C_below HR1_0.out (hb_));(case side6 => exact HC1_0.out);(case side7 => exact Kd.C_below HR1_1.out (hb_));(case side8 => exact HC1_1.out);rintro e w64 ⟨rfl,hb⟩;replace HO550:=Aside0.mk (Kd.R_below (by (with_reducible repeat (first|apply Kd.R_alloc|apply Kd.R_drewN|apply Kd.R_drew));exact (Kd.R_mono (Kd.R_fars gb566 (Kd.R_types HO550.out BK566.out (by decide)) (fun _ hk => hk.2)) (fun _ h_ => h_.1))) hb);replace HO553:=Aside0.mk (Kd.R_below (by (with_reducible repeat (first|apply Kd.R_alloc|apply Kd.R_drewN|apply Kd.R_drew));exact (Kd.R_mono (Kd.R_fars gb566 (Kd.R_types HO553.out BK566.out (by decide)) (fun _ hk => hk.2)) (fun _ h_ => h_.1))) hb);replace HO560:=Aside0.mk (Kd.R_below (by (with_reducible repeat (first|apply Kd.R_alloc|apply Kd.R_drewN|apply Kd.R_drew));exact (Kd.R_mono (Kd.R_fars gb566 (Kd.R_types HO560.out BK566.out (by decide)) (fun _ hk => hk.2)) (fun _ h_ => h_.1))) hb);replace HO563:=Aside0.mk (Kd.R_below (by (with_reducible repeat (first|apply Kd.R_alloc|apply Kd.R_drewN|apply Kd.R_drew));exact (Kd.R_mono (Kd.R_fars gb566 (Kd.R_types HO563.out BK566.out (by decide)) (fun _ hk => hk.2)) (fun _ h_ => h_.1))) hb);replace BK544:=Aside0.mk (blk_below (g:=gb544) (o:=.cells #[.int .i64 a0_0,.int .i64 a0_1,.slice A0_2 l0_2.length c0_2] 24 (0,0)) (by (with_reducible repeat (first|refine blk_drewN ?_ _|refine blk_drew ?_|refine blk_alloc ?_ _));refine blk_far ?_ NB544_566.out _;(with_reducible repeat (first|refine blk_drewN ?_ _|refine blk_drew ?_|refine blk_alloc ?_ _));refine blk_far ?_ NB544_566.out _;(with_reducible repeat (first|refine blk_drewN ?_ _|refine blk_drew ?_|refine blk_alloc ?_ _));exact BK544.out) hb);replace BK545:=Aside0.mk (blk_below (g:=gb545) (o:=.cells #[.slice A1_0 l1_0.length c1_0,.slice A1_1 l1_1.length c1_1] 26 (0,0)) (by (with_reducible repeat (first|refine blk_drewN ?_ _|refine blk_drew ?_|refine blk_alloc ?_ _));refine blk_far ?_ NB545_566.out _;(with_reducible repeat (first|refine blk_drewN ?_ _|refine blk_drew ?_|refine blk_alloc ?_ _));refine blk_far ?_ NB545_566.out _;(with_reducible repeat (first|refine blk_drewN ?_ _|refine blk_drew ?_|refine blk_alloc ?_ _));exact BK545.out) hb);replace BK556:=Aside0.mk (blk_below (g:=gb556) (o:=.cells #[.slice Ao29 t548.length co29,.slice Ao33 t551.length co33] 26 (0,0)) (by (with_reducible repeat (first|refine blk_drewN ?_ _|refine blk_drew ?_|refine blk_alloc ?_ _));refine blk_far ?_ NB556_566.out _;(with_reducible repeat (first|refine blk_drewN ?_ _|refine blk_drew ?_|refine blk_alloc ?_ _));refine blk_far ?_ NB556_566.out _;(with_reducible repeat (first|refine blk_drewN ?_ _|refine blk_drew ?_|refine blk_alloc ?_ _));exact BK556.out) hb);replace BK566:=Aside0.mk (blk_below (g:=gb566) (o:=.cells #[.slice Ao37 t558.length co37,.slice Ao42 t561.length co42] 26 (0,0)) (by (with_reducible repeat (first|refine blk_drewN ?_ _|refine blk_drew ?_|refine blk_alloc ?_ _));exact blk_puts2 (blk_up BK566.out)) hb);replace HB:=Aside0.mk (below_step (hb_) hb)))
       go_meet
       case rel => exact ⟨_,(false),(by first|rfl|(simp;done)|(simp [*];done)),H',⟨by first|omega|exact Nat.le_refl _⟩,⟨by (with_reducible repeat (first|apply Kd.R_alloc|apply Kd.R_drewN|apply Kd.R_drew));exact Kd.R_mono HO550.out (fun _ hk => ⟨hk.1.1,⟨hk.1.2,hk.2⟩⟩)⟩,⟨by (with_reducible repeat (first|apply Kd.R_alloc|apply Kd.R_drewN|apply Kd.R_drew));exact Kd.R_mono HO553.out (fun _ hk => ⟨hk.1.1,⟨hk.1.2,hk.2⟩⟩)⟩,⟨by (with_reducible repeat (first|apply Kd.R_alloc|apply Kd.R_drewN|apply Kd.R_drew));exact Kd.R_mono HO560.out (fun _ hk => ⟨hk.1.2,⟨hk.2,hk.1.1⟩⟩)⟩,⟨by (with_reducible repeat (first|apply Kd.R_alloc|apply Kd.R_drewN|apply Kd.R_drew));exact Kd.R_mono HO563.out (fun _ hk => ⟨hk.1.2,⟨hk.2,hk.1.1⟩⟩)⟩,⟨blk_up BK544.out⟩,⟨blk_up BK545.out⟩,⟨blk_up BK556.out⟩,⟨blk_up BK566.out⟩,⟨hb_⟩⟩
     ·replace c45:=Bool.eq_false_iff.mpr c45
      subst c45
      have H1 : (hinterlandlaw06_WaterDigsBack.j1 k false) = some r:=by rw [if_neg (show ¬ (false = true) by decide)] at H;exact H
      clear H
      have H:=H1
      clear H1
      have H':=Aside0.mk H
      clear H
      have hnb65:=NB566_544.out
      have hnc65:=NB544_566.out
      have hnb66:=NB566_545.out
      have hnc66:=NB545_566.out
      have hnb67:=NB566_556.out
      have hnc67:=NB556_566.out
      obtain ⟨hcz68_0,hcz68_1,hfz68_0,hfz68_1⟩:=cells2 BK566.out
      have hnb69:=NB545_544.out
      have hnc69:=NB544_545.out
      have hnb70:=NB545_556.out
      have hnc70:=NB556_545.out
      obtain ⟨hcz71_0,hcz71_1,hfz71_0,hfz71_1⟩:=cells2 BK545.out
      go_wp2_with (first|(go_at_call 30;(with_reducible refine (hinterlandsame_Waters.calls k _ _ t558 _ _ t561 _ _ l1_0 _ _ l1_1 false _ ?side1 ?side2 ?side3 ?side4 ?side5 ?side6 ?side7 ?side8 A44.out).mono ?_);(case side1 => refine (Kd.R_reads' (e:=3) (base:=w.heap.size) (ok:=fun k_ => ((some k_ ≠ (.slice Ao42 t561.length co42 : Value).ownBlock ∧ some k_ ≠ (.slice Ao29 t548.length co29 : Value).ownBlock) ∧ some k_ ≠ (.slice Ao33 t551.length co33 : Value).ownBlock)) (n:=t558.length) (c:=co37) ?_).2.2;exact (by (with_reducible repeat (first|apply Kd.R_alloc|apply Kd.R_drewN|apply Kd.R_drew));exact (Kd.R_mono (Kd.R_fars gb566 (Kd.R_types HO560.out BK566.out (by decide)) (fun _ hk => hk.2)) (fun _ h_ => h_.1))));(case side2 => exact (Kd.R_reads' HO560.out).2.1);(case side3 => refine (Kd.R_reads' (e:=3) (base:=w.heap.size) (ok:=fun k_ => ((some k_ ≠ (.slice Ao37 t558.length co37 : Value).ownBlock ∧ some k_ ≠ (.slice Ao29 t548.length co29 : Value).ownBlock) ∧ some k_ ≠ (.slice Ao33 t551.length co33 : Value).ownBlock)) (n:=t561.length) (c:=co42) ?_).2.2;exact (by (with_reducible repeat (first|apply Kd.R_alloc|apply Kd.R_drewN|apply Kd.R_drew));exact (Kd.R_mono (Kd.R_fars gb566 (Kd.R_types HO563.out BK566.out (by decide)) (fun _ hk => hk.2)) (fun _ h_ => h_.1))));(case side4 => exact (Kd.R_reads' HO563.out).2.1);(case side5 => exact Kd.C_below HR1_0.out (hb_));(case side6 => exact HC1_0.out);(case side7 => exact Kd.C_below HR1_1.out (hb_));(case side8 => exact HC1_1.out);rintro e w72 ⟨rfl,hb⟩;replace HO550:=Aside0.mk (Kd.R_below (by (with_reducible repeat (first|apply Kd.R_alloc|apply Kd.R_drewN|apply Kd.R_drew));exact (Kd.R_mono (Kd.R_fars gb566 (Kd.R_types HO550.out BK566.out (by decide)) (fun _ hk => hk.2)) (fun _ h_ => h_.1))) hb);replace HO553:=Aside0.mk (Kd.R_below (by (with_reducible repeat (first|apply Kd.R_alloc|apply Kd.R_drewN|apply Kd.R_drew));exact (Kd.R_mono (Kd.R_fars gb566 (Kd.R_types HO553.out BK566.out (by decide)) (fun _ hk => hk.2)) (fun _ h_ => h_.1))) hb);replace HO560:=Aside0.mk (Kd.R_below (by (with_reducible repeat (first|apply Kd.R_alloc|apply Kd.R_drewN|apply Kd.R_drew));exact (Kd.R_mono (Kd.R_fars gb566 (Kd.R_types HO560.out BK566.out (by decide)) (fun _ hk => hk.2)) (fun _ h_ => h_.1))) hb);replace HO563:=Aside0.mk (Kd.R_below (by (with_reducible repeat (first|apply Kd.R_alloc|apply Kd.R_drewN|apply Kd.R_drew));exact (Kd.R_mono (Kd.R_fars gb566 (Kd.R_types HO563.out BK566.out (by decide)) (fun _ hk => hk.2)) (fun _ h_ => h_.1))) hb);replace BK544:=Aside0.mk (blk_below (g:=gb544) (o:=.cells #[.int .i64 a0_0,.int .i64 a0_1,.slice A0_2 l0_2.length c0_2] 24 (0,0)) (by (with_reducible repeat (first|refine blk_drewN ?_ _|refine blk_drew ?_|refine blk_alloc ?_ _));refine blk_far ?_ NB544_566.out _;(with_reducible repeat (first|refine blk_drewN ?_ _|refine blk_drew ?_|refine blk_alloc ?_ _));refine blk_far ?_ NB544_566.out _;(with_reducible repeat (first|refine blk_drewN ?_ _|refine blk_drew ?_|refine blk_alloc ?_ _));exact BK544.out) hb);replace BK545:=Aside0.mk (blk_below (g:=gb545) (o:=.cells #[.slice A1_0 l1_0.length c1_0,.slice A1_1 l1_1.length c1_1] 26 (0,0)) (by (with_reducible repeat (first|refine blk_drewN ?_ _|refine blk_drew ?_|refine blk_alloc ?_ _));refine blk_far ?_ NB545_566.out _;(with_reducible repeat (first|refine blk_drewN ?_ _|refine blk_drew ?_|refine blk_alloc ?_ _));refine blk_far ?_ NB545_566.out _;(with_reducible repeat (first|refine blk_drewN ?_ _|refine blk_drew ?_|refine blk_alloc ?_ _));exact BK545.out) hb);replace BK556:=Aside0.mk (blk_below (g:=gb556) (o:=.cells #[.slice Ao29 t548.length co29,.slice Ao33 t551.length co33] 26 (0,0)) (by (with_reducible repeat (first|refine blk_drewN ?_ _|refine blk_drew ?_|refine blk_alloc ?_ _));refine blk_far ?_ NB556_566.out _;(with_reducible repeat (first|refine blk_drewN ?_ _|refine blk_drew ?_|refine blk_alloc ?_ _));refine blk_far ?_ NB556_566.out _;(with_reducible repeat (first|refine blk_drewN ?_ _|refine blk_drew ?_|refine blk_alloc ?_ _));exact BK556.out) hb);replace BK566:=Aside0.mk (blk_below (g:=gb566) (o:=.cells #[.slice Ao37 t558.length co37,.slice Ao42 t561.length co42] 26 (0,0)) (by (with_reducible repeat (first|refine blk_drewN ?_ _|refine blk_drew ?_|refine blk_alloc ?_ _));exact blk_puts2 (blk_up BK566.out)) hb);replace HB:=Aside0.mk (below_step (hb_) hb)))
      go_meet
      case rel => exact ⟨_,(false),(by first|rfl|(simp;done)|(simp [*];done)),H',⟨by first|omega|exact Nat.le_refl _⟩,⟨by (with_reducible repeat (first|apply Kd.R_alloc|apply Kd.R_drewN|apply Kd.R_drew));exact Kd.R_mono HO550.out (fun _ hk => ⟨hk.1.1,⟨hk.1.2,hk.2⟩⟩)⟩,⟨by (with_reducible repeat (first|apply Kd.R_alloc|apply Kd.R_drewN|apply Kd.R_drew));exact Kd.R_mono HO553.out (fun _ hk => ⟨hk.1.1,⟨hk.1.2,hk.2⟩⟩)⟩,⟨by (with_reducible repeat (first|apply Kd.R_alloc|apply Kd.R_drewN|apply Kd.R_drew));exact Kd.R_mono HO560.out (fun _ hk => ⟨hk.1.2,⟨hk.2,hk.1.1⟩⟩)⟩,⟨by (with_reducible repeat (first|apply Kd.R_alloc|apply Kd.R_drewN|apply Kd.R_drew));exact Kd.R_mono HO563.out (fun _ hk => ⟨hk.1.2,⟨hk.2,hk.1.1⟩⟩)⟩,⟨blk_up BK544.out⟩,⟨blk_up BK545.out⟩,⟨blk_up BK556.out⟩,⟨blk_up BK566.out⟩,⟨hb_⟩⟩
    ·rw [if_neg c43] at H
     have c43b0 : (t565 == 0) = false:=beq_eq_false_iff_ne.mpr c43
     have c43b1 : (t565 != 0) = true:=bne_iff_ne.mpr c43
     (first|rw [c43b0]|(simp only [i64_w,i32_w];rw [c43b0])|skip)
     have H':=Aside0.mk H
     clear H
     go_wp2
     go_meet
     case rel => exact ⟨_,(false),(by first|rfl|(simp;done)|(simp [*];done)),H',⟨by first|omega|exact Nat.le_refl _⟩,⟨by (with_reducible repeat (first|apply Kd.R_alloc|apply Kd.R_drewN|apply Kd.R_drew));exact Kd.R_mono (Kd.R_fars gb566 (Kd.R_types HO550.out BK566.out (by decide)) (fun _ hk => hk.2)) (fun _ hk => ⟨hk.1.1.1,⟨hk.1.1.2,hk.1.2⟩⟩)⟩,⟨by (with_reducible repeat (first|apply Kd.R_alloc|apply Kd.R_drewN|apply Kd.R_drew));exact Kd.R_mono (Kd.R_fars gb566 (Kd.R_types HO553.out BK566.out (by decide)) (fun _ hk => hk.2)) (fun _ hk => ⟨hk.1.1.1,⟨hk.1.1.2,hk.1.2⟩⟩)⟩,⟨by (with_reducible repeat (first|apply Kd.R_alloc|apply Kd.R_drewN|apply Kd.R_drew));exact Kd.R_mono (Kd.R_fars gb566 (Kd.R_types HO560.out BK566.out (by decide)) (fun _ hk => hk.2)) (fun _ hk => ⟨hk.1.1.2,⟨hk.1.2,hk.1.1.1⟩⟩)⟩,⟨by (with_reducible repeat (first|apply Kd.R_alloc|apply Kd.R_drewN|apply Kd.R_drew));exact Kd.R_mono (Kd.R_fars gb566 (Kd.R_types HO563.out BK566.out (by decide)) (fun _ hk => hk.2)) (fun _ hk => ⟨hk.1.1.2,⟨hk.1.2,hk.1.1.1⟩⟩)⟩,⟨by (with_reducible repeat (first|refine blk_drewN ?_ _|refine blk_drew ?_|refine blk_alloc ?_ _));refine blk_far ?_ NB544_566.out _;(with_reducible repeat (first|refine blk_drewN ?_ _|refine blk_drew ?_|refine blk_alloc ?_ _));refine blk_far ?_ NB544_566.out _;(with_reducible repeat (first|refine blk_drewN ?_ _|refine blk_drew ?_|refine blk_alloc ?_ _));exact BK544.out⟩,⟨by (with_reducible repeat (first|refine blk_drewN ?_ _|refine blk_drew ?_|refine blk_alloc ?_ _));refine blk_far ?_ NB545_566.out _;(with_reducible repeat (first|refine blk_drewN ?_ _|refine blk_drew ?_|refine blk_alloc ?_ _));refine blk_far ?_ NB545_566.out _;(with_reducible repeat (first|refine blk_drewN ?_ _|refine blk_drew ?_|refine blk_alloc ?_ _));exact BK545.out⟩,⟨by (with_reducible repeat (first|refine blk_drewN ?_ _|refine blk_drew ?_|refine blk_alloc ?_ _));refine blk_far ?_ NB556_566.out _;(with_reducible repeat (first|refine blk_drewN ?_ _|refine blk_drew ?_|refine blk_alloc ?_ _));refine blk_far ?_ NB556_566.out _;(with_reducible repeat (first|refine blk_drewN ?_ _|refine blk_drew ?_|refine blk_alloc ?_ _));exact BK556.out⟩,⟨by (with_reducible repeat (first|refine blk_drewN ?_ _|refine blk_drew ?_|refine blk_alloc ?_ _));exact blk_puts2 (blk_up BK566.out)⟩,⟨hb_⟩⟩
   case rest =>
    clear HC18
    obtain ⟨kq,x8_17,rfl,HA,HJ17,HO_557000,HO_557001,HO_567000,HO_567001,BK544,BK545,BK556,BK566,HB⟩:=hcut
    cases kq with
    | zero => exact absurd HA.out (by simp [hinterlandlaw06_WaterDigsBack.j1])
    | succ kj17 =>
     have H:=HA.out
     clear HA
     simp only [hinterlandlaw06_WaterDigsBack.j1] at H
     obtain rfl:=Option.some.inj H
     go_wp2
     go_ret
     exact ⟨by first|rfl|(simp [errW_none,errW_some] <;> rfl)|(simp [*,errW_none,errW_some] <;> rfl),hb_⟩
  ·rw [if_neg c16] at H
   have c16b0 : (t555 == 0) = false:=beq_eq_false_iff_ne.mpr c16
   have c16b1 : (t555 != 0) = true:=bne_iff_ne.mpr c16
   have HC73:=Aside0.mk H
   clear H
   go_enter Try.func12,Try.ntmps12
   go_upto_region 5 with (first|((with_reducible refine gate_dst (N:=4) rfl ?_);refine box_ev (N:=4) (cs:=#[.int .i64 a0_0,.int .i64 a0_1,.slice A0_2 l0_2.length c0_2]) (t:=24) ?_;intro gb544 hg w74 hbox hb;have BK544:=Aside0.mk (hbox);have GW544 : Aside0 (w.heap.size ≤ gb544):=gsz hg;have GE544:=GW544;replace HB:=Aside0.mk (below_step (hb_) hb);clear hb hbox hg)|((with_reducible refine gate_dst (N:=5) rfl ?_);refine box_ev (N:=5) (cs:=#[.slice A1_0 l1_0.length c1_0,.slice A1_1 l1_1.length c1_1]) (t:=26) ?_;intro gb545 hg w75 hbox hb;have BK545:=Aside0.mk (hbox);have GW545 : Aside0 (w.heap.size ≤ gb545):=gsz hg;have GE545:=GW545;have NB544_545:=nbl BK544 hg;have NB545_544:=nbr BK544 hg;replace BK544:=bkb BK544 hb;replace HB:=Aside0.mk (below_step (hb_) hb);clear hb hbox hg;have hnb76:=NB544_545.out;have hnc76:=NB545_544.out;obtain ⟨hcz77_0,hcz77_1,hcz77_2,hfz77_0,hfz77_1,hfz77_2⟩:=cells3 BK544.out;obtain ⟨hcz78_0,hcz78_1,hfz78_0,hfz78_1⟩:=cells2 BK545.out)|((with_reducible refine gate_callee (f:=14) rfl ?_);refine goesL_ (some 17) rfl rfl Try.func14 (by kernel_rfl) rfl #[.agg #[.int .i64 a0_0,.int .i64 a0_1,.slice A0_2 l0_2.length c0_2],.agg #[.slice A1_0 l1_0.length c1_0,.slice A1_1 l1_1.length c1_1]] rfl (by (try simp only [List.map_toArray,List.map_cons,List.map_nil]);first|done|rfl|(simp only [List.length_drop,List.length_take];rfl)) ?_;(with_reducible refine (hinterlandlaw06_large.calls a0_0 a0_1 _ _ l0_2 _ _ l1_0 _ _ l1_1 false _ ?side1 ?side2 ?side3 ?side4 ?side5 ?side6 A5.out).mono ?_);(case side1 => exact Kd.C_up (Kd.C_below HR0_2.out HB.out));(case side2 => exact HC0_2.out);(case side3 => exact Kd.C_up (Kd.C_below HR1_0.out HB.out));(case side4 => exact HC1_0.out);(case side5 => exact Kd.C_up (Kd.C_below HR1_1.out HB.out));(case side6 => exact HC1_1.out);rintro e w79 ⟨rfl,hb⟩;refine ⟨_,rfl,?_⟩;replace BK544:=bkb BK544 hb;replace BK545:=bkb BK545 hb;replace HB:=Aside0.mk (below_step (hb_) hb);obtain ⟨hcz80_0,hcz80_1,hcz80_2,hfz80_0,hfz80_1,hfz80_2⟩:=cells3 BK544.out;obtain ⟨hcz81_0,hcz81_1,hfz81_0,hfz81_1⟩:=cells2 BK545.out)|((with_reducible refine gate_callee (f:=28) rfl ?_);refine goesL_ (some 24) rfl rfl Try.func28 (by kernel_rfl) rfl #[.agg #[.int .i64 a0_0,.int .i64 a0_1,.slice A0_2 l0_2.length c0_2],.agg #[.slice A1_0 l1_0.length c1_0,.slice A1_1 l1_1.length c1_1],.int .i64 a2,.int .i64 a3] rfl (by (try simp only [List.map_toArray,List.map_cons,List.map_nil]);first|done|rfl|(simp only [List.length_drop,List.length_take];rfl)) ?_;(with_reducible refine (water_Dig.calls k a0_0 a0_1 _ _ l0_2 _ _ l1_0 _ _ l1_1 a2 a3 t548 t551 t554 t555 _ ?side1 ?side2 ?side3 ?side4 ?side5 ?side6 A15.out).mono ?_);(case side1 => exact Kd.C_up (Kd.C_below HR0_2.out HB.out));(case side2 => exact HC0_2.out);(case side3 => exact Kd.C_up (Kd.C_below HR1_0.out HB.out));(case side4 => exact HC1_0.out);(case side5 => exact Kd.C_up (Kd.C_below HR1_1.out HB.out));(case side6 => exact HC1_1.out);rintro e w82 ⟨v549,v552,rfl,ho0,ho1,hb⟩;refine ⟨_,rfl,?_⟩;have HO550:=rlo ho0;have HO553:=rlo ho1;replace BK544:=bkb BK544 hb;replace BK545:=bkb BK545 hb;replace HB:=Aside0.mk (below_step (hb_) hb))|((with_reducible refine gate_dst (N:=9) rfl ?_);refine box_ev (N:=9) (cs:=#[.slice none 0 0,.slice none 0 0]) (t:=26) ?_;intro gb556 hg w83 hbox hb;have BK556:=Aside0.mk (hbox);have GW556 : Aside0 (w.heap.size ≤ gb556):=gsz hg;have GE556:=GW556;have NB544_556:=nbl BK544 hg;have NB556_544:=nbr BK544 hg;have NB545_556:=nbl BK545 hg;have NB556_545:=nbr BK545 hg;replace HO550:=rbw HO550 hb;replace HO553:=rbw HO553 hb;replace BK544:=bkb BK544 hb;replace BK545:=bkb BK545 hb;replace HB:=Aside0.mk (below_step (hb_) hb);clear hb hbox hg;obtain ⟨Ao84,co84,eo84⟩:=Kd.R_slice HO550.out;subst eo84;have hnb85:=NB556_544.out;have hnc85:=NB544_556.out;have hnb86:=NB556_545.out;have hnc86:=NB545_556.out;obtain ⟨hcz87_0,hcz87_1,hfz87_0,hfz87_1⟩:=cells2 BK556.out;obtain ⟨Ao88,co88,eo88⟩:=Kd.R_slice HO553.out;subst eo88))
   (try simp only [Act.put,List.setIfInBounds_toArray,List.set_cons_zero,List.set_cons_succ])
   go_cut [8] (fun v8 wc => ∃ (kq : Nat) (x8_72 : Bool),v8 = .bool x8_72 ∧ Aside0 (hinterlandlaw06_WaterDigsBack.j0 kq x8_72 = some r) ∧ Aside0 (kq ≤ k) ∧ Aside0 (Kd.R (Kd.int .i64) 3 wc w.heap.size (fun k_ => some k_ ≠ ((.slice Ao88 t551.length co88) : Value).ownBlock) (.slice Ao84 t548.length co84) t548) ∧ Aside0 (Kd.R (Kd.int .i64) 3 wc w.heap.size (fun k_ => some k_ ≠ ((.slice Ao84 t548.length co84) : Value).ownBlock) (.slice Ao88 t551.length co88) t551) ∧ Aside0 (wc.heap[gb544]? = some (.cells #[.int .i64 a0_0,.int .i64 a0_1,(.slice A0_2 l0_2.length c0_2)] 24 (0,0))) ∧ Aside0 (wc.heap[gb545]? = some (.cells #[(.slice A1_0 l1_0.length c1_0),(.slice A1_1 l1_1.length c1_1)] 26 (0,0))) ∧ Aside0 (wc.heap[gb556]? = some (.cells #[(.slice Ao84 t548.length co84),(.slice Ao88 t551.length co88)] 26 (0,0))) ∧ Aside0 (Below w.heap.size w wc))
   case first =>
    have H:=HC73.out
    clear HC73
    by_cases c89 : t554 = 0
    ·rw [if_pos c89] at H
     have c89b0 : (t554 == 0) = true:=beq_iff_eq.mpr c89
     have c89b1 : (t554 != 0) = false:=bne_eq_false_iff_eq.mpr c89
     clear c89
     (first|rw [c89b0]|(simp only [i64_w,i32_w];rw [c89b0])|skip)
     replace H:=Option.bind_eq_some_iff.mp H
     obtain ⟨t557,A900,H⟩:=H
     replace H : (hinterlandlaw06_WaterDigsBack.j0 k t557) = some r:=H
     have A90:=Aside0.mk A900
     clear A900
     have H':=Aside0.mk H
     clear H
     go_wp2_with (first|(go_at_call 15;(with_reducible refine (hinterlandlaw06_known.calls k  t557 _ A90.out).mono ?_);rintro e w91 ⟨rfl,hb⟩;replace HO550:=Aside0.mk (Kd.R_below (by (with_reducible repeat (first|apply Kd.R_alloc|apply Kd.R_drewN|apply Kd.R_drew));exact (Kd.R_mono (Kd.R_fars gb556 (Kd.R_types HO550.out BK556.out (by decide)) (fun _ hk => hk.2)) (fun _ h_ => h_.1))) hb);replace HO553:=Aside0.mk (Kd.R_below (by (with_reducible repeat (first|apply Kd.R_alloc|apply Kd.R_drewN|apply Kd.R_drew));exact (Kd.R_mono (Kd.R_fars gb556 (Kd.R_types HO553.out BK556.out (by decide)) (fun _ hk => hk.2)) (fun _ h_ => h_.1))) hb);replace BK544:=Aside0.mk (blk_below (g:=gb544) (o:=.cells #[.int .i64 a0_0,.int .i64 a0_1,.slice A0_2 l0_2.length c0_2] 24 (0,0)) (by (with_reducible repeat (first|refine blk_drewN ?_ _|refine blk_drew ?_|refine blk_alloc ?_ _));refine blk_far ?_ NB544_556.out _;(with_reducible repeat (first|refine blk_drewN ?_ _|refine blk_drew ?_|refine blk_alloc ?_ _));refine blk_far ?_ NB544_556.out _;(with_reducible repeat (first|refine blk_drewN ?_ _|refine blk_drew ?_|refine blk_alloc ?_ _));exact BK544.out) hb);replace BK545:=Aside0.mk (blk_below (g:=gb545) (o:=.cells #[.slice A1_0 l1_0.length c1_0,.slice A1_1 l1_1.length c1_1] 26 (0,0)) (by (with_reducible repeat (first|refine blk_drewN ?_ _|refine blk_drew ?_|refine blk_alloc ?_ _));refine blk_far ?_ NB545_556.out _;(with_reducible repeat (first|refine blk_drewN ?_ _|refine blk_drew ?_|refine blk_alloc ?_ _));refine blk_far ?_ NB545_556.out _;(with_reducible repeat (first|refine blk_drewN ?_ _|refine blk_drew ?_|refine blk_alloc ?_ _));exact BK545.out) hb);replace BK556:=Aside0.mk (blk_below (g:=gb556) (o:=.cells #[.slice Ao84 t548.length co84,.slice Ao88 t551.length co88] 26 (0,0)) (by (with_reducible repeat (first|refine blk_drewN ?_ _|refine blk_drew ?_|refine blk_alloc ?_ _));exact blk_puts2 (blk_up BK556.out)) hb);replace HB:=Aside0.mk (below_step (hb_) hb)))
     go_meet
     case rel => exact ⟨_,(t557),(by first|rfl|(simp;done)|(simp [*];done)),H',⟨by first|omega|exact Nat.le_refl _⟩,⟨Kd.R_up HO550.out⟩,⟨Kd.R_up HO553.out⟩,⟨blk_up BK544.out⟩,⟨blk_up BK545.out⟩,⟨blk_up BK556.out⟩,⟨hb_⟩⟩
    ·rw [if_neg c89] at H
     have c89b0 : (t554 == 0) = false:=beq_eq_false_iff_ne.mpr c89
     have c89b1 : (t554 != 0) = true:=bne_iff_ne.mpr c89
     (first|rw [c89b0]|(simp only [i64_w,i32_w];rw [c89b0])|skip)
     have H':=Aside0.mk H
     clear H
     go_wp2
     go_meet
     case rel => exact ⟨_,(false),(by first|rfl|(simp;done)|(simp [*];done)),H',⟨by first|omega|exact Nat.le_refl _⟩,⟨by (with_reducible repeat (first|apply Kd.R_alloc|apply Kd.R_drewN|apply Kd.R_drew));exact Kd.R_mono (Kd.R_fars gb556 (Kd.R_types HO550.out BK556.out (by decide)) (fun _ hk => hk.2)) (fun _ hk => hk.1)⟩,⟨by (with_reducible repeat (first|apply Kd.R_alloc|apply Kd.R_drewN|apply Kd.R_drew));exact Kd.R_mono (Kd.R_fars gb556 (Kd.R_types HO553.out BK556.out (by decide)) (fun _ hk => hk.2)) (fun _ hk => hk.1)⟩,⟨by (with_reducible repeat (first|refine blk_drewN ?_ _|refine blk_drew ?_|refine blk_alloc ?_ _));refine blk_far ?_ NB544_556.out _;(with_reducible repeat (first|refine blk_drewN ?_ _|refine blk_drew ?_|refine blk_alloc ?_ _));refine blk_far ?_ NB544_556.out _;(with_reducible repeat (first|refine blk_drewN ?_ _|refine blk_drew ?_|refine blk_alloc ?_ _));exact BK544.out⟩,⟨by (with_reducible repeat (first|refine blk_drewN ?_ _|refine blk_drew ?_|refine blk_alloc ?_ _));refine blk_far ?_ NB545_556.out _;(with_reducible repeat (first|refine blk_drewN ?_ _|refine blk_drew ?_|refine blk_alloc ?_ _));refine blk_far ?_ NB545_556.out _;(with_reducible repeat (first|refine blk_drewN ?_ _|refine blk_drew ?_|refine blk_alloc ?_ _));exact BK545.out⟩,⟨by (with_reducible repeat (first|refine blk_drewN ?_ _|refine blk_drew ?_|refine blk_alloc ?_ _));exact blk_puts2 (blk_up BK556.out)⟩,⟨hb_⟩⟩
   case rest =>
    clear HC73
    obtain ⟨kq,x8_72,rfl,HA,HJ72,HO_557000,HO_557001,BK544,BK545,BK556,HB⟩:=hcut
    cases kq with
    | zero => exact absurd HA.out (by simp [hinterlandlaw06_WaterDigsBack.j0])
    | succ kj72 =>
     have H:=HA.out
     clear HA
     simp only [hinterlandlaw06_WaterDigsBack.j0] at H
     obtain rfl:=Option.some.inj H
     go_wp2
     go_ret
     exact ⟨by first|rfl|(simp [errW_none,errW_some] <;> rfl)|(simp [*,errW_none,errW_some] <;> rfl),hb_⟩

end Go.Proofs.Ytiencnnkphipoaa.P

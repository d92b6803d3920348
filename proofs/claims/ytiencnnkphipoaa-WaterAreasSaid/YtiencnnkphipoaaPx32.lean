/- Functions of this seat as plain Lean functions, with proofs that the Go code comes to just their answers, or what stands between them and a law's statement; no conditions. (Laid by a program of this session, out of the kit's print.) -/
import Derived.Test.YtiencnnkphipoaaPx0
import Derived.Test.YtiencnnkphipoaaPx1
import Derived.Test.YtiencnnkphipoaaPx8
import Derived.Test.YtiencnnkphipoaaPx16
import Derived.Test.YtiencnnkphipoaaPx30
import Derived.Test.YtiencnnkphipoaaPx31
namespace Go.Proofs.Ytiencnnkphipoaa.P
open Go.RowKit Go.Proofs.YtiencnnkphipoaaW.PrintWords Go.Proofs.YtiencnnkphipoaaW.PrintLast Go.Proofs.YtiencnnkphipoaaW.PrintMore
attribute [local go_sem] max2_int min2_int max_two min_two max_three min_three max_four min_four   -- for this text's walks alone
set_option linter.unusedVariables false
set_option linter.unusedSimpArgs false

/-! ### hinterlandlaw06_WaterAreas: function 9 -/
def hinterlandlaw06_WaterAreas.j0 : Nat → Bool → Option (Bool)
 | 0,_ => none
 | k + 1,x4 => some x4
def hinterlandlaw06_WaterAreas.f (k : Nat) (a0_0 : Int) (a0_1 : Int) (l0_2 : List Int) (l1_0 : List Int) (l1_1 : List Int) : Option (Bool) := (hinterlandlaw06_large.f a0_0 a0_1 l0_2 l1_0 l1_1).bind fun t667 => (if t667 = true then ((hinterlandlaw06_known.f k).bind fun t668 => (some t668)) else ((water_Areas.f k a0_0 a0_1 l0_2 l1_0 l1_1).bind fun bt669 => ((hinterlandref06_Areas.f k a0_0 a0_1 l0_2 l1_0 l1_1).bind fun bt673 => (if bt669.2 = bt673.2 then ((hinterlandsame_List_int.f k bt669.1 bt673.1).bind fun t677 => (if t677 = true then ((hinterlandlaw06_known.f k).bind fun t678 => (hinterlandlaw06_WaterAreas.j0 k t678)) else (hinterlandlaw06_WaterAreas.j0 k false))) else (hinterlandlaw06_WaterAreas.j0 k false)))))
theorem hinterlandlaw06_WaterAreas.mono_l : ∀ k, (∀ y0, LeO (hinterlandlaw06_WaterAreas.j0 k y0) (hinterlandlaw06_WaterAreas.j0 (k + 1) y0))
 | 0 => fun _ r h => by simp [hinterlandlaw06_WaterAreas.j0] at h
 | k + 1 => by
  have ih0:=hinterlandlaw06_WaterAreas.mono_l k
  ·intro y0
   unfold hinterlandlaw06_WaterAreas.j0
   repeat' first
   | (with_reducible exact ih0 _)
   | (with_reducible exact hinterlandlaw06_known.mono _)
   | (with_reducible exact hinterlandref06_Areas.mono _ _ _ _ _ _)
   | (with_reducible exact hinterlandsame_List_int.mono _ _ _)
   | (with_reducible exact water_Areas.mono _ _ _ _ _ _)
   | (with_reducible exact LeO.refl _)
   | (with_reducible exact LeO.none _)
   | (with_reducible refine LeO.ite ?_ ?_)
   | (with_reducible refine LeO.bind ?_ (fun _ => ?_))
   | exact ih0 _
   | exact hinterlandlaw06_known.mono _
   | exact hinterlandref06_Areas.mono _ _ _ _ _ _
   | exact hinterlandsame_List_int.mono _ _ _
   | exact water_Areas.mono _ _ _ _ _ _
   | exact LeO.none _
   | refine LeO.ite ?_ ?_
   | refine LeO.bind ?_ (fun _ => ?_)
theorem hinterlandlaw06_WaterAreas.mono : ∀ a0 a1 a2 a3 a4 k, LeO (hinterlandlaw06_WaterAreas.f k a0 a1 a2 a3 a4) (hinterlandlaw06_WaterAreas.f (k + 1) a0 a1 a2 a3 a4) := by
 intro a0 a1 a2 a3 a4 k
 have ih0:=hinterlandlaw06_WaterAreas.mono_l k
 unfold hinterlandlaw06_WaterAreas.f
 repeat' first
   | (with_reducible exact ih0 _)
   | (with_reducible exact hinterlandlaw06_known.mono _)
   | (with_reducible exact hinterlandref06_Areas.mono _ _ _ _ _ _)
   | (with_reducible exact hinterlandsame_List_int.mono _ _ _)
   | (with_reducible exact water_Areas.mono _ _ _ _ _ _)
   | (with_reducible exact LeO.refl _)
   | (with_reducible exact LeO.none _)
   | (with_reducible refine LeO.ite ?_ ?_)
   | (with_reducible refine LeO.bind ?_ (fun _ => ?_))
   | exact ih0 _
   | exact hinterlandlaw06_known.mono _
   | exact hinterlandref06_Areas.mono _ _ _ _ _ _
   | exact hinterlandsame_List_int.mono _ _ _
   | exact water_Areas.mono _ _ _ _ _ _
   | exact LeO.none _
   | refine LeO.ite ?_ ?_
   | refine LeO.bind ?_ (fun _ => ?_)
set_option maxHeartbeats 8000000 in
set_option maxRecDepth 100000 in
theorem hinterlandlaw06_WaterAreas.calls (k : Nat) (a0_0 : Int) (a0_1 : Int) (A0_2 : Option Addr) (c0_2 : Nat) (l0_2 : List Int) (A1_0 : Option Addr) (c1_0 : Nat) (l1_0 : List Int) (A1_1 : Option Addr) (c1_1 : Nat) (l1_1 : List Int) (r : Bool) (w : World) (hr0_2 : Kd.C (Kd.int .i64) w A0_2 l0_2.length l0_2) (hc0_2 : l0_2.length ≤ c0_2) (hr1_0 : Kd.C (Kd.int .i64) w A1_0 l1_0.length l1_0) (hc1_0 : l1_0.length ≤ c1_0) (hr1_1 : Kd.C (Kd.int .i64) w A1_1 l1_1.length l1_1) (hc1_1 : l1_1.length ≤ c1_1) (h : hinterlandlaw06_WaterAreas.f k a0_0 a0_1 l0_2 l1_0 l1_1 = some r) :
  Calls Try.prog 9 #[.agg #[.int .i64 a0_0,.int .i64 a0_1,.slice A0_2 l0_2.length c0_2],.agg #[.slice A1_0 l1_0.length c1_0,.slice A1_1 l1_1.length c1_1]] w fun e w' => e = .returned (.bool r) ∧ Below w.heap.size w w':=by
 have hu24:=Try.underlying24
 have hu26:=Try.underlying26
 have HR0_2:=Aside0.mk hr0_2
 have HC0_2:=Aside0.mk hc0_2
 clear hr0_2 hc0_2
 have HR1_0:=Aside0.mk hr1_0
 have HC1_0:=Aside0.mk hc1_0
 clear hr1_0 hc1_0
 have HR1_1:=Aside0.mk hr1_1
 have HC1_1:=Aside0.mk hc1_1
 clear hr1_1 hc1_1
 have HB:=Aside0.mk (Below.refl w.heap.size w)
 have H : ((hinterlandlaw06_large.f a0_0 a0_1 l0_2 l1_0 l1_1).bind fun t667 => (if t667 = true then ((hinterlandlaw06_known.f k).bind fun t668 => (some t668)) else ((water_Areas.f k a0_0 a0_1 l0_2 l1_0 l1_1).bind fun bt669 => ((hinterlandref06_Areas.f k a0_0 a0_1 l0_2 l1_0 l1_1).bind fun bt673 => (if bt669.2 = bt673.2 then ((hinterlandsame_List_int.f k bt669.1 bt673.1).bind fun t677 => (if t677 = true then ((hinterlandlaw06_known.f k).bind fun t678 => (hinterlandlaw06_WaterAreas.j0 k t678)) else (hinterlandlaw06_WaterAreas.j0 k false))) else (hinterlandlaw06_WaterAreas.j0 k false)))))) = some r:=h
 clear h
 replace H:=Option.bind_eq_some_iff.mp H
 obtain ⟨t667,A30,H⟩:=H
 replace H : (if t667 = true then ((hinterlandlaw06_known.f k).bind fun t668 => (some t668)) else ((water_Areas.f k a0_0 a0_1 l0_2 l1_0 l1_1).bind fun bt669 => ((hinterlandref06_Areas.f k a0_0 a0_1 l0_2 l1_0 l1_1).bind fun bt673 => (if bt669.2 = bt673.2 then ((hinterlandsame_List_int.f k bt669.1 bt673.1).bind fun t677 => (if t677 = true then ((hinterlandlaw06_known.f k).bind fun t678 => (hinterlandlaw06_WaterAreas.j0 k t678)) else (hinterlandlaw06_WaterAreas.j0 k false))) else (hinterlandlaw06_WaterAreas.j0 k false))))) = some r:=H
 have A3:=Aside0.mk A30
 clear A30
 by_cases c4 : t667 = true
 ·subst c4
  have H1 : ((hinterlandlaw06_known.f k).bind fun t668 => (some t668)) = some r:=by rw [if_pos rfl] at H;exact H
  clear H
  have H:=H1
  clear H1
  replace H:=Option.bind_eq_some_iff.mp H
  obtain ⟨t668,A50,H⟩:=H
  replace H : (some t668) = some r:=H
  have A5:=Aside0.mk A50
  clear A50
  obtain rfl:=Option.some.inj H
  go_enter Try.func9,Try.ntmps9
  go_wp2_with (first|((with_reducible refine gate_dst (N:=2) rfl ?_);refine box_ev (N:=2) (cs:=#[.int .i64 a0_0,.int .i64 a0_1,.slice A0_2 l0_2.length c0_2]) (t:=24) ?_;intro gb665 hg w6 hbox hb;have BK665:=Aside0.mk (hbox);have GW665 : Aside0 (w.heap.size ≤ gb665):=gsz hg;have GE665:=GW665;replace HB:=Aside0.mk (below_step (hb_) hb);clear hb hbox hg)|((with_reducible refine gate_dst (N:=3) rfl ?_);refine box_ev (N:=3) (cs:=#[.slice A1_0 l1_0.length c1_0,.slice A1_1 l1_1.length c1_1]) (t:=26) ?_;intro gb666 hg w7 hbox hb;have BK666:=Aside0.mk (hbox);have GW666 : Aside0 (w.heap.size ≤ gb666):=gsz hg;have GE666:=GW666;have NB665_666:=nbl BK665 hg;have NB666_665:=nbr BK665 hg;replace BK665:=bkb BK665 hb;replace HB:=Aside0.mk (below_step (hb_) hb);clear hb hbox hg;have hnb8:=NB665_666.out;have hnc8:=NB666_665.out;obtain ⟨hcz9_0,hcz9_1,hcz9_2,hfz9_0,hfz9_1,hfz9_2⟩:=cells3 BK665.out;obtain ⟨hcz10_0,hcz10_1,hfz10_0,hfz10_1⟩:=cells2 BK666.out)|((with_reducible refine gate_callee (f:=14) rfl ?_);refine goesL_ (some 11) rfl rfl Try.func14 (by kernel_rfl) rfl #[.agg #[.int .i64 a0_0,.int .i64 a0_1,.slice A0_2 l0_2.length c0_2],.agg #[.slice A1_0 l1_0.length c1_0,.slice A1_1 l1_1.length c1_1]] rfl (by (try simp only [List.map_toArray,List.map_cons,List.map_nil]);first|done|rfl|(simp only [List.length_drop,List.length_take];rfl)) ?_;(with_reducible refine (hinterlandlaw06_large.calls a0_0 a0_1 _ _ l0_2 _ _ l1_0 _ _ l1_1 true _ ?side1 ?side2 ?side3 ?side4 ?side5 ?side6 A3.out).mono ?_);(case side1 => exact Kd.C_up (Kd.C_below HR0_2.out HB.out));(case side2 => exact HC0_2.out);(case side3 => exact Kd.C_up (Kd.C_below HR1_0.out HB.out));(case side4 => exact HC1_0.out);(case side5 => exact Kd.C_up (Kd.C_below HR1_1.out HB.out));(case side6 => exact HC1_1.out);rintro e w11 ⟨rfl,hb⟩;refine ⟨_,rfl,?_⟩;replace BK665:=bkb BK665 hb;replace BK666:=bkb BK666 hb;replace HB:=Aside0.mk (below_step (hb_) hb))|((with_reducible refine gate_callee (f:=15) rfl ?_);refine goesL_ (some 12) rfl rfl Try.func15 (by kernel_rfl) rfl #[] rfl (by (try simp only [List.map_toArray,List.map_cons,List.map_nil]);first|done|rfl|(simp only [List.length_drop,List.length_take];rfl)) ?_;(with_reducible refine (hinterlandlaw06_known.calls k  t668 _ A5.out).mono ?_);rintro e w12 ⟨rfl,hb⟩;refine ⟨_,rfl,?_⟩;replace BK665:=bkb BK665 hb;replace BK666:=bkb BK666 hb;replace HB:=Aside0.mk (below_step (hb_) hb)))
  go_ret
  exact ⟨by first|rfl|(simp [errW_none,errW_some] <;> rfl)|(simp [*,errW_none,errW_some] <;> rfl),hb_⟩
 ·replace c4:=Bool.eq_false_iff.mpr c4
  subst c4
  have H1 : ((water_Areas.f k a0_0 a0_1 l0_2 l1_0 l1_1).bind fun bt669 => ((hinterlandref06_Areas.f k a0_0 a0_1 l0_2 l1_0 l1_1).bind fun bt673 => (if bt669.2 = bt673.2 then ((hinterlandsame_List_int.f k bt669.1 bt673.1).bind fun t677 => (if t677 = true then ((hinterlandlaw06_known.f k).bind fun t678 => (hinterlandlaw06_WaterAreas.j0 k t678)) else (hinterlandlaw06_WaterAreas.j0 k false))) else (hinterlandlaw06_WaterAreas.j0 k false)))) = some r:=by rw [if_neg (show ¬ (false = true) by decide)] at H;exact H
  clear H
  have H:=H1
  clear H1
  replace H:=Option.bind_eq_some_iff.mp H
  obtain ⟨⟨t669,t672⟩,A130,H⟩:=H
  replace H : ((hinterlandref06_Areas.f k a0_0 a0_1 l0_2 l1_0 l1_1).bind fun bt673 => (if t672 = bt673.2 then ((hinterlandsame_List_int.f k t669 bt673.1).bind fun t677 => (if t677 = true then ((hinterlandlaw06_known.f k).bind fun t678 => (hinterlandlaw06_WaterAreas.j0 k t678)) else (hinterlandlaw06_WaterAreas.j0 k false))) else (hinterlandlaw06_WaterAreas.j0 k false))) = some r:=H
  have A13:=Aside0.mk A130
  clear A130
  replace H:=Option.bind_eq_some_iff.mp H
  obtain ⟨⟨t673,t676⟩,A140,H⟩:=H
  replace H : (if t672 = t676 then ((hinterlandsame_List_int.f k t669 t673).bind fun t677 => (if t677 = true then ((hinterlandlaw06_known.f k).bind fun t678 => (hinterlandlaw06_WaterAreas.j0 k t678)) else (hinterlandlaw06_WaterAreas.j0 k false))) else (hinterlandlaw06_WaterAreas.j0 k false)) = some r:=H
  have A14:=Aside0.mk A140
  clear A140
  have HC15:=Aside0.mk H
  clear H
  go_enter Try.func9,Try.ntmps9
  go_upto_region 5 with (first|((with_reducible refine gate_dst (N:=2) rfl ?_);refine box_ev (N:=2) (cs:=#[.int .i64 a0_0,.int .i64 a0_1,.slice A0_2 l0_2.length c0_2]) (t:=24) ?_;intro gb665 hg w16 hbox hb;have BK665:=Aside0.mk (hbox);have GW665 : Aside0 (w.heap.size ≤ gb665):=gsz hg;have GE665:=GW665;replace HB:=Aside0.mk (below_step (hb_) hb);clear hb hbox hg)|((with_reducible refine gate_dst (N:=3) rfl ?_);refine box_ev (N:=3) (cs:=#[.slice A1_0 l1_0.length c1_0,.slice A1_1 l1_1.length c1_1]) (t:=26) ?_;intro gb666 hg w17 hbox hb;have BK666:=Aside0.mk (hbox);have GW666 : Aside0 (w.heap.size ≤ gb666):=gsz hg;have GE666:=GW666;have NB665_666:=nbl BK665 hg;have NB666_665:=nbr BK665 hg;replace BK665:=bkb BK665 hb;replace HB:=Aside0.mk (below_step (hb_) hb);clear hb hbox hg;have hnb18:=NB665_666.out;have hnc18:=NB666_665.out;obtain ⟨hcz19_0,hcz19_1,hcz19_2,hfz19_0,hfz19_1,hfz19_2⟩:=cells3 BK665.out;obtain ⟨hcz20_0,hcz20_1,hfz20_0,hfz20_1⟩:=cells2 BK666.out)|((with_reducible refine gate_callee (f:=14) rfl ?_);refine goesL_ (some 11) rfl rfl Try.func14 (by kernel_rfl) rfl #[.agg #[.int .i64 a0_0,.int .i64 a0_1,.slice A0_2 l0_2.length c0_2],.agg #[.slice A1_0 l1_0.length c1_0,.slice A1_1 l1_1.length c1_1]] rfl (by (try simp only [List.map_toArray,List.map_cons,List.map_nil]);first|done|rfl|(simp only [List.length_drop,List.length_take];rfl)) ?_;(with_reducible refine (hinterlandlaw06_large.calls a0_0 a0_1 _ _ l0_2 _ _ l1_0 _ _ l1_1 false _ ?side1 ?side2 ?side3 ?side4 ?side5 ?side6 A3.out).mono ?_);(case side1 => exact Kd.C_up (Kd.C_below HR0_2.out HB.out));(case side2 => exact HC0_2.out);(case side3 => exact Kd.C_up (Kd.C_below HR1_0.out HB.out));(case side4 => exact HC1_0.out);(case side5 => exact Kd.C_up (Kd.C_below HR1_1.out HB.out));(case side6 => exact HC1_1.out);rintro e w21 ⟨rfl,hb⟩;refine ⟨_,rfl,?_⟩;replace BK665:=bkb BK665 hb;replace BK666:=bkb BK666 hb;replace HB:=Aside0.mk (below_step (hb_) hb);obtain ⟨hcz22_0,hcz22_1,hcz22_2,hfz22_0,hfz22_1,hfz22_2⟩:=cells3 BK665.out;obtain ⟨hcz23_0,hcz23_1,hfz23_0,hfz23_1⟩:=cells2 BK666.out)|((with_reducible refine gate_callee (f:=31) rfl ?_);refine goesL_ (some 16) rfl rfl Try.func31 (by kernel_rfl) rfl #[.agg #[.int .i64 a0_0,.int .i64 a0_1,.slice A0_2 l0_2.length c0_2],.agg #[.slice A1_0 l1_0.length c1_0,.slice A1_1 l1_1.length c1_1]] rfl (by (try simp only [List.map_toArray,List.map_cons,List.map_nil]);first|done|rfl|(simp only [List.length_drop,List.length_take];rfl)) ?_;(with_reducible refine (water_Areas.calls k a0_0 a0_1 _ _ l0_2 _ _ l1_0 _ _ l1_1 t669 t672 _ ?side1 ?side2 ?side3 ?side4 ?side5 ?side6 A13.out).mono ?_);(case side1 => exact Kd.C_up (Kd.C_below HR0_2.out HB.out));(case side2 => exact HC0_2.out);(case side3 => exact Kd.C_up (Kd.C_below HR1_0.out HB.out));(case side4 => exact HC1_0.out);(case side5 => exact Kd.C_up (Kd.C_below HR1_1.out HB.out));(case side6 => exact HC1_1.out);rintro e w24 ⟨v670,rfl,ho0,hb⟩;refine ⟨_,rfl,?_⟩;have HO671:=rlo ho0;replace BK665:=bkb BK665 hb;replace BK666:=bkb BK666 hb;replace HB:=Aside0.mk (below_step (hb_) hb);obtain ⟨hcz25_0,hcz25_1,hcz25_2,hfz25_0,hfz25_1,hfz25_2⟩:=cells3 BK665.out;obtain ⟨hcz26_0,hcz26_1,hfz26_0,hfz26_1⟩:=cells2 BK666.out)|((with_reducible refine gate_callee (f:=32) rfl ?_);refine goesL_ (some 22) rfl rfl Try.func32 (by kernel_rfl) rfl #[.agg #[.int .i64 a0_0,.int .i64 a0_1,.slice A0_2 l0_2.length c0_2],.agg #[.slice A1_0 l1_0.length c1_0,.slice A1_1 l1_1.length c1_1]] rfl (by (try simp only [List.map_toArray,List.map_cons,List.map_nil]);first|done|rfl|(simp only [List.length_drop,List.length_take];rfl)) ?_;(with_reducible refine (hinterlandref06_Areas.calls k a0_0 a0_1 _ _ l0_2 _ _ l1_0 _ _ l1_1 t673 t676 _ ?side1 ?side2 ?side3 ?side4 ?side5 ?side6 A14.out).mono ?_);(case side1 => exact Kd.C_up (Kd.C_below HR0_2.out HB.out));(case side2 => exact HC0_2.out);(case side3 => exact Kd.C_up (Kd.C_below HR1_0.out HB.out));(case side4 => exact HC1_0.out);(case side5 => exact Kd.C_up (Kd.C_below HR1_1.out HB.out));(case side6 => exact HC1_1.out);rintro e w27 ⟨v674,rfl,ho0,hb⟩;refine ⟨_,rfl,?_⟩;have HO675:=Aside0.mk (Kd.R_lower (Kd.R_new' ho0 (Kd.R_lt (Kd.R_up HO671.out))) (below_size (hb_)));replace HO671:=Aside0.mk (Kd.R_elder' (Kd.R_up HO671.out) (Kd.R_base ho0) hb);replace BK665:=bkb BK665 hb;replace BK666:=bkb BK666 hb;replace HB:=Aside0.mk (below_step (hb_) hb)))
  (try simp only [Act.put,List.setIfInBounds_toArray,List.set_cons_zero,List.set_cons_succ])
  go_cut [4] (fun v4 wc => ∃ (kq : Nat) (x4_14 : Bool),v4 = .bool x4_14 ∧ Aside0 (hinterlandlaw06_WaterAreas.j0 kq x4_14 = some r) ∧ Aside0 (kq ≤ k) ∧ Aside0 (wc.heap[gb665]? = some (.cells #[.int .i64 a0_0,.int .i64 a0_1,(.slice A0_2 l0_2.length c0_2)] 24 (0,0))) ∧ Aside0 (wc.heap[gb666]? = some (.cells #[(.slice A1_0 l1_0.length c1_0),(.slice A1_1 l1_1.length c1_1)] 26 (0,0))) ∧ Aside0 (Below w.heap.size w wc))
  case first =>
   have H:=HC15.out
   clear HC15
   by_cases c28 : t672 = t676
   rotate_left
   ·rw [if_neg c28] at H
    have c28b0 : (t672 == t676) = false:=beq_eq_false_iff_ne.mpr c28
    have c28b1 : (t672 != t676) = true:=bne_iff_ne.mpr c28
    (first|rw [c28b0]|(simp only [i64_w,i32_w];rw [c28b0])|skip)
    have H':=Aside0.mk H
    clear H
    go_wp2
    go_meet
    case rel => exact ⟨_,(false),(by first|rfl|(simp;done)|(simp [*];done)),H',⟨by first|omega|exact Nat.le_refl _⟩,⟨blk_up BK665.out⟩,⟨blk_up BK666.out⟩,⟨hb_⟩⟩
   rw [if_pos c28] at H
   have c28b0 : (t672 == t676) = true:=beq_iff_eq.mpr c28
   have c28b1 : (t672 != t676) = false:=bne_eq_false_iff_eq.mpr c28
   clear c28
   (first|rw [c28b0]|(simp only [i64_w,i32_w];rw [c28b0])|skip)
   replace H:=Option.bind_eq_some_iff.mp H
   obtain ⟨t677,A290,H⟩:=H
   replace H : (if t677 = true then ((hinterlandlaw06_known.f k).bind fun t678 => (hinterlandlaw06_WaterAreas.j0 k t678)) else (hinterlandlaw06_WaterAreas.j0 k false)) = some r:=H
   have A29:=Aside0.mk A290
   clear A290
   by_cases c30 : t677 = true
   ·subst c30
    have H1 : ((hinterlandlaw06_known.f k).bind fun t678 => (hinterlandlaw06_WaterAreas.j0 k t678)) = some r:=by rw [if_pos rfl] at H;exact H
    clear H
    have H:=H1
    clear H1
    replace H:=Option.bind_eq_some_iff.mp H
    obtain ⟨t678,A310,H⟩:=H
    replace H : (hinterlandlaw06_WaterAreas.j0 k t678) = some r:=H
    have A31:=Aside0.mk A310
    clear A310
    have H':=Aside0.mk H
    clear H
    obtain ⟨Ao32,co32,eo32⟩:=Kd.R_slice HO671.out
    subst eo32
    obtain ⟨Ao33,co33,eo33⟩:=Kd.R_slice HO675.out
    subst eo33
    go_wp2_with (first|(go_at_call 21;(with_reducible refine (hinterlandsame_List_int.calls k _ _ t669 _ _ t673 true _ ?side1 ?side2 ?side3 ?side4 A29.out).mono ?_);(case side1 => exact Kd.C_up (Kd.R_reads' HO671.out).2.2);(case side2 => exact (Kd.R_reads' HO671.out).2.1);(case side3 => exact Kd.C_up (Kd.R_reads' HO675.out).2.2);(case side4 => exact (Kd.R_reads' HO675.out).2.1);rintro e w' ⟨rfl,⟨nd,rfl⟩⟩)|(go_at_call 15;(with_reducible refine (hinterlandlaw06_known.calls k  t678 _ A31.out).mono ?_);rintro e w34 ⟨rfl,hb⟩;replace HO671:=rbw HO671 hb;replace HO675:=rbw HO675 hb;replace BK665:=bkb BK665 hb;replace BK666:=bkb BK666 hb;replace HB:=Aside0.mk (below_step (hb_) hb)))
    go_meet
    case rel => exact ⟨_,(t678),(by first|rfl|(simp;done)|(simp [*];done)),H',⟨by first|omega|exact Nat.le_refl _⟩,⟨blk_up BK665.out⟩,⟨blk_up BK666.out⟩,⟨hb_⟩⟩
   ·replace c30:=Bool.eq_false_iff.mpr c30
    subst c30
    have H1 : (hinterlandlaw06_WaterAreas.j0 k false) = some r:=by rw [if_neg (show ¬ (false = true) by decide)] at H;exact H
    clear H
    have H:=H1
    clear H1
    have H':=Aside0.mk H
    clear H
    obtain ⟨Ao35,co35,eo35⟩:=Kd.R_slice HO671.out
    subst eo35
    obtain ⟨Ao36,co36,eo36⟩:=Kd.R_slice HO675.out
    subst eo36
    go_wp2_with (first|(go_at_call 21;(with_reducible refine (hinterlandsame_List_int.calls k _ _ t669 _ _ t673 false _ ?side1 ?side2 ?side3 ?side4 A29.out).mono ?_);(case side1 => exact Kd.C_up (Kd.R_reads' HO671.out).2.2);(case side2 => exact (Kd.R_reads' HO671.out).2.1);(case side3 => exact Kd.C_up (Kd.R_reads' HO675.out).2.2);(case side4 => exact (Kd.R_reads' HO675.out).2.1);rintro e w' ⟨rfl,⟨nd,rfl⟩⟩))
    go_meet
    case rel => exact ⟨_,(false),(by first|rfl|(simp;done)|(simp [*];done)),H',⟨by first|omega|exact Nat.le_refl _⟩,⟨blk_up BK665.out⟩,⟨blk_up BK666.out⟩,⟨hb_⟩⟩
  case rest =>
   clear HC15
   obtain ⟨kq,x4_14,rfl,HA,HJ14,BK665,BK666,HB⟩:=hcut
   cases kq with
   | zero => exact absurd HA.out (by simp [hinterlandlaw06_WaterAreas.j0])
   | succ kj14 =>
    have H:=HA.out
    clear HA
    simp only [hinterlandlaw06_WaterAreas.j0] at H
    obtain rfl:=Option.some.inj H
    go_wp2
    go_ret
    exact ⟨by first|rfl|(simp [errW_none,errW_some] <;> rfl)|(simp [*,errW_none,errW_some] <;> rfl),hb_⟩

end Go.Proofs.Ytiencnnkphipoaa.P

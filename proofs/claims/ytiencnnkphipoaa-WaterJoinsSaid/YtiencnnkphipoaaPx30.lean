/- Functions of this seat as plain Lean functions, with proofs that the Go code comes to just their answers, or what stands between them and a law's statement; no conditions. (Laid by a program of this session, out of the kit's print.) -/
import Derived.Test.YtiencnnkphipoaaPx0
import Derived.Test.YtiencnnkphipoaaPx1
import Derived.Test.YtiencnnkphipoaaPx6
import Derived.Test.YtiencnnkphipoaaPx8
import Derived.Test.YtiencnnkphipoaaPx27
import Derived.Test.YtiencnnkphipoaaPx29
namespace Go.Proofs.Ytiencnnkphipoaa.P
open Go.RowKit Go.Proofs.YtiencnnkphipoaaW.PrintWords Go.Proofs.YtiencnnkphipoaaW.PrintLast Go.Proofs.YtiencnnkphipoaaW.PrintMore
attribute [local go_sem] max2_int min2_int max_two min_two max_three min_three max_four min_four   -- for this text's walks alone
set_option linter.unusedVariables false
set_option linter.unusedSimpArgs false

/-! ### hinterlandlaw06_WaterJoins: function 3 -/
mutual
def hinterlandlaw06_WaterJoins.j0 : Nat → Int → Int → Bool → Bool → Int → Int → List Int → List Int → List Int → Option (Bool)
 | 0,_,_,_,_,_,_,_,_,_ => none
 | k + 1,x2,x3,x9,x42,x595000,x595001,x595002,x596000,x596001 => if x42 = true then (some false) else (if x9 = true then ((hinterlandref02_Beyond.f x595000 x595001 x2 x3).bind fun t602 => ((water_Joined.f k x595000 x595001 x595002 x596000 x596001 t602 (Int.tmod (wrap64 (x3 + 2)) 4)).bind fun bt603 => (if bt603.1 = true then (if bt603.2 = 0 then ((hinterlandlaw06_known.f k).bind fun t605 => (hinterlandlaw06_WaterJoins.j1 k t605)) else (hinterlandlaw06_WaterJoins.j1 k false)) else (hinterlandlaw06_WaterJoins.j1 k false)))) else ((hinterlandlaw06_known.f k).bind fun t606 => (some t606)))
def hinterlandlaw06_WaterJoins.j1 : Nat → Bool → Option (Bool)
 | 0,_ => none
 | k + 1,x8 => some x8
end
def hinterlandlaw06_WaterJoins.f (k : Nat) (a0_0 : Int) (a0_1 : Int) (l0_2 : List Int) (l1_0 : List Int) (l1_1 : List Int) (a2 : Int) (a3 : Int) : Option (Bool) := (hinterlandlaw06_large.f a0_0 a0_1 l0_2 l1_0 l1_1).bind fun t596 => (if t596 = true then ((hinterlandlaw06_known.f k).bind fun t597 => (some t597)) else ((water_Joined.f k a0_0 a0_1 l0_2 l1_0 l1_1 a2 a3).bind fun bt598 => ((hinterlandref06_Joined.f k a0_0 a0_1 l0_2 l1_0 l1_1 a2 a3).bind fun bt600 => (if (bt598.1 != bt600.1) = true then (hinterlandlaw06_WaterJoins.j0 k a2 a3 bt598.1 true a0_0 a0_1 l0_2 l1_0 l1_1) else (hinterlandlaw06_WaterJoins.j0 k a2 a3 bt598.1 (bt598.2 != bt600.2) a0_0 a0_1 l0_2 l1_0 l1_1)))))
theorem hinterlandlaw06_WaterJoins.mono_l : ∀ k, (∀ y0 y1 y2 y3 y4 y5 y6 y7 y8, LeO (hinterlandlaw06_WaterJoins.j0 k y0 y1 y2 y3 y4 y5 y6 y7 y8) (hinterlandlaw06_WaterJoins.j0 (k + 1) y0 y1 y2 y3 y4 y5 y6 y7 y8)) ∧ (∀ y0, LeO (hinterlandlaw06_WaterJoins.j1 k y0) (hinterlandlaw06_WaterJoins.j1 (k + 1) y0))
 | 0 => ⟨fun _ _ _ _ _ _ _ _ _ r h => by simp [hinterlandlaw06_WaterJoins.j0] at h,fun _ r h => by simp [hinterlandlaw06_WaterJoins.j1] at h⟩
 | k + 1 => by
  obtain ⟨ih0,ih1⟩:=hinterlandlaw06_WaterJoins.mono_l k
  refine ⟨?_,?_⟩
  ·intro y0 y1 y2 y3 y4 y5 y6 y7 y8
   unfold hinterlandlaw06_WaterJoins.j0
   repeat' first
   | (with_reducible exact ih0 _ _ _ _ _ _ _ _ _)
   | (with_reducible exact ih1 _)
   | (with_reducible exact hinterlandlaw06_known.mono _)
   | (with_reducible exact hinterlandref06_Joined.mono _ _ _ _ _ _ _ _)
   | (with_reducible exact water_Joined.mono _ _ _ _ _ _ _ _)
   | (with_reducible exact LeO.refl _)
   | (with_reducible exact LeO.none _)
   | (with_reducible refine LeO.ite ?_ ?_)
   | (with_reducible refine LeO.bind ?_ (fun _ => ?_))
   | exact ih0 _ _ _ _ _ _ _ _ _
   | exact ih1 _
   | exact hinterlandlaw06_known.mono _
   | exact hinterlandref06_Joined.mono _ _ _ _ _ _ _ _
   | exact water_Joined.mono _ _ _ _ _ _ _ _
   | exact LeO.none _
   | refine LeO.ite ?_ ?_
   | refine LeO.bind ?_ (fun _ => ?_)
  ·intro y0
   unfold hinterlandlaw06_WaterJoins.j1
   repeat' first
   | (with_reducible exact ih0 _ _ _ _ _ _ _ _ _)
   | (with_reducible exact ih1 _)
   | (with_reducible exact hinterlandlaw06_known.mono _)
   | (with_reducible exact hinterlandref06_Joined.mono _ _ _ _ _ _ _ _)
   | (with_reducible exact water_Joined.mono _ _ _ _ _ _ _ _)
   | (with_reducible exact LeO.refl _)
   | (with_reducible exact LeO.none _)
   | (with_reducible refine LeO.ite ?_ ?_)
   | (with_reducible refine LeO.bind ?_ (fun _ => ?_))
   | exact ih0 _ _ _ _ _ _ _ _ _
   | exact ih1 _
   | exact hinterlandlaw06_known.mono _
   | exact hinterlandref06_Joined.mono _ _ _ _ _ _ _ _
   | exact water_Joined.mono _ _ _ _ _ _ _ _
   | exact LeO.none _
   | refine LeO.ite ?_ ?_
   | refine LeO.bind ?_ (fun _ => ?_)
theorem hinterlandlaw06_WaterJoins.mono : ∀ a0 a1 a2 a3 a4 a5 a6 k, LeO (hinterlandlaw06_WaterJoins.f k a0 a1 a2 a3 a4 a5 a6) (hinterlandlaw06_WaterJoins.f (k + 1) a0 a1 a2 a3 a4 a5 a6) := by
 intro a0 a1 a2 a3 a4 a5 a6 k
 obtain ⟨ih0,ih1⟩:=hinterlandlaw06_WaterJoins.mono_l k
 unfold hinterlandlaw06_WaterJoins.f
 repeat' first
   | (with_reducible exact ih0 _ _ _ _ _ _ _ _ _)
   | (with_reducible exact ih1 _)
   | (with_reducible exact hinterlandlaw06_known.mono _)
   | (with_reducible exact hinterlandref06_Joined.mono _ _ _ _ _ _ _ _)
   | (with_reducible exact water_Joined.mono _ _ _ _ _ _ _ _)
   | (with_reducible exact LeO.refl _)
   | (with_reducible exact LeO.none _)
   | (with_reducible refine LeO.ite ?_ ?_)
   | (with_reducible refine LeO.bind ?_ (fun _ => ?_))
   | exact ih0 _ _ _ _ _ _ _ _ _
   | exact ih1 _
   | exact hinterlandlaw06_known.mono _
   | exact hinterlandref06_Joined.mono _ _ _ _ _ _ _ _
   | exact water_Joined.mono _ _ _ _ _ _ _ _
   | exact LeO.none _
   | refine LeO.ite ?_ ?_
   | refine LeO.bind ?_ (fun _ => ?_)
def hinterlandlaw06_WaterJoins.T8 : Bool × List (List Nat × List Nat) := (true, [([], []), ([], []), ([], []), ([2], [2]), ([], []), ([4], [4]), ([], []), ([], []), ([3, 5, 6, 7], [3, 5, 6, 7]), ([], []), ([9], [9]), ([10], [10]), ([0, 1, 8, 11, 8], [0, 1, 8, 11]), ([12], [12]), ([13], [13]), ([13], [13]), ([14, 12, 0, 1, 2, 3, 4, 5, 6, 7, 8, 9, 10, 11, 12, 13, 14], [14]), ([15, 16, 0, 1, 2, 3, 4, 5, 6, 7, 8, 9, 10, 11, 12, 13, 14, 15, 16], [15])])
def hinterlandlaw06_WaterJoins.B8 : List Nat := [0, 0, 0, 4, 0, 16, 0, 0, 252, 0, 512, 1536, 4095, 8191, 16383, 16383, 32767, 131071]
theorem hinterlandlaw06_WaterJoins.tab8 : rtab .any (opsOf Try.f3 8) = hinterlandlaw06_WaterJoins.T8 := by kernel_rfl
theorem hinterlandlaw06_WaterJoins.bits8 : waitsOk hinterlandlaw06_WaterJoins.T8.2 hinterlandlaw06_WaterJoins.B8 = true := by kernel_rfl
set_option maxHeartbeats 8000000 in
set_option maxRecDepth 100000 in
theorem hinterlandlaw06_WaterJoins.calls (k : Nat) (a0_0 : Int) (a0_1 : Int) (A0_2 : Option Addr) (c0_2 : Nat) (l0_2 : List Int) (A1_0 : Option Addr) (c1_0 : Nat) (l1_0 : List Int) (A1_1 : Option Addr) (c1_1 : Nat) (l1_1 : List Int) (a2 : Int) (a3 : Int) (r : Bool) (w : World) (hr0_2 : Kd.C (Kd.int .i64) w A0_2 l0_2.length l0_2) (hc0_2 : l0_2.length ≤ c0_2) (hr1_0 : Kd.C (Kd.int .i64) w A1_0 l1_0.length l1_0) (hc1_0 : l1_0.length ≤ c1_0) (hr1_1 : Kd.C (Kd.int .i64) w A1_1 l1_1.length l1_1) (hc1_1 : l1_1.length ≤ c1_1) (h : hinterlandlaw06_WaterJoins.f k a0_0 a0_1 l0_2 l1_0 l1_1 a2 a3 = some r) :
  Calls Try.prog 3 #[.agg #[.int .i64 a0_0,.int .i64 a0_1,.slice A0_2 l0_2.length c0_2],.agg #[.slice A1_0 l1_0.length c1_0,.slice A1_1 l1_1.length c1_1],.int .i64 a2,.int .i64 a3] w fun e w' => e = .returned (.bool r) ∧ Below w.heap.size w w':=by
 have hu24:=Try.underlying24
 have hu26:=Try.underlying26
 have HR0_2:=Aside0.mk hr0_2
 have HC0_2:=Aside0.mk hc0_2
 clear hr0_2 hc0_2
 have HR1_0:=Aside0.mk hr1_0
 have HC1_0:=Aside0.mk hc1_0
 clear hr1_0 hc1_0
 have HR1_1:=Aside0.mk hr1_1
 have HC1_1:=Aside0.mk hc1_1
 clear hr1_1 hc1_1
 have HB:=Aside0.mk (Below.refl w.heap.size w)
 have H : ((hinterlandlaw06_large.f a0_0 a0_1 l0_2 l1_0 l1_1).bind fun t596 => (if t596 = true then ((hinterlandlaw06_known.f k).bind fun t597 => (some t597)) else ((water_Joined.f k a0_0 a0_1 l0_2 l1_0 l1_1 a2 a3).bind fun bt598 => ((hinterlandref06_Joined.f k a0_0 a0_1 l0_2 l1_0 l1_1 a2 a3).bind fun bt600 => (if (bt598.1 != bt600.1) = true then (hinterlandlaw06_WaterJoins.j0 k a2 a3 bt598.1 true a0_0 a0_1 l0_2 l1_0 l1_1) else (hinterlandlaw06_WaterJoins.j0 k a2 a3 bt598.1 (bt598.2 != bt600.2) a0_0 a0_1 l0_2 l1_0 l1_1)))))) = some r:=h
 clear h
 replace H:=Option.bind_eq_some_iff.mp H
 obtain ⟨t596,A50,H⟩:=H
 replace H : (if t596 = true then ((hinterlandlaw06_known.f k).bind fun t597 => (some t597)) else ((water_Joined.f k a0_0 a0_1 l0_2 l1_0 l1_1 a2 a3).bind fun bt598 => ((hinterlandref06_Joined.f k a0_0 a0_1 l0_2 l1_0 l1_1 a2 a3).bind fun bt600 => (if (bt598.1 != bt600.1) = true then (hinterlandlaw06_WaterJoins.j0 k a2 a3 bt598.1 true a0_0 a0_1 l0_2 l1_0 l1_1) else (hinterlandlaw06_WaterJoins.j0 k a2 a3 bt598.1 (bt598.2 != bt600.2) a0_0 a0_1 l0_2 l1_0 l1_1))))) = some r:=H
 have A5:=Aside0.mk A50
 clear A50
 by_cases c6 : t596 = true
 ·subst c6
  have H1 : ((hinterlandlaw06_known.f k).bind fun t597 => (some t597)) = some r:=by rw [if_pos rfl] at H;exact H
  clear H
  have H:=H1
  clear H1
  replace H:=Option.bind_eq_some_iff.mp H
  obtain ⟨t597,A70,H⟩:=H
  replace H : (some t597) = some r:=H
  have A7:=Aside0.mk A70
  clear A70
  obtain rfl:=Option.some.inj H
  go_enter Try.func3,Try.ntmps3
  go_wp2_with (first|((with_reducible refine gate_dst (N:=4) rfl ?_);refine box_ev (N:=4) (cs:=#[.int .i64 a0_0,.int .i64 a0_1,.slice A0_2 l0_2.length c0_2]) (t:=24) ?_;intro gb594 hg w8 hbox hb;have BK594:=Aside0.mk (hbox);have GW594 : Aside0 (w.heap.size ≤ gb594):=gsz hg;have GE594:=GW594;replace HB:=Aside0.mk (below_step (hb_) hb);clear hb hbox hg)|((with_reducible refine gate_dst (N:=5) rfl ?_);refine box_ev (N:=5) (cs:=#[.slice A1_0 l1_0.length c1_0,.slice A1_1 l1_1.length c1_1]) (t:=26) ?_;intro gb595 hg w9 hbox hb;have BK595:=Aside0.mk (hbox);have GW595 : Aside0 (w.heap.size ≤ gb595):=gsz hg;have GE595:=GW595;have NB594_595:=nbl BK594 hg;have NB595_594:=nbr BK594 hg;replace BK594:=bkb BK594 hb;replace HB:=Aside0.mk (below_step (hb_) hb);clear hb hbox hg;have hnb10:=NB594_595.out;have hnc10:=NB595_594.out;obtain ⟨hcz11_0,hcz11_1,hcz11_2,hfz11_0,hfz11_1,hfz11_2⟩:=cells3 BK594.out;obtain ⟨hcz12_0,hcz12_1,hfz12_0,hfz12_1⟩:=cells2 BK595.out)|((with_reducible refine gate_callee (f:=14) rfl ?_);refine goesL_ (some 17) rfl rfl Try.func14 (by kernel_rfl) rfl #[.agg #[.int .i64 a0_0,.int .i64 a0_1,.slice A0_2 l0_2.length c0_2],.agg #[.slice A1_0 l1_0.length c1_0,.slice A1_1 l1_1.length c1_1]] rfl (by (try simp only [List.map_toArray,List.map_cons,List.map_nil]);first|done|rfl|(simp only [List.length_drop,List.length_take];rfl)) ?_;(with_reducible refine (hinterlandlaw06_large.calls a0_0 a0_1 _ _ l0_2 _ _ l1_0 _ _ l1_1 true _ ?side1 ?side2 ?side3 ?side4 ?side5 ?side6 A5.out).mono ?_);(case side1 => exact Kd.C_up (Kd.C_below HR0_2.out HB.out));(case side2 => exact HC0_2.out);(case side3 => exact Kd.C_up (Kd.C_below HR1_0.out HB.out));(case side4 => exact HC1_0.out);(case side5 => exact Kd.C_up (Kd.C_below HR1_1.out HB.out));(case side6 => exact HC1_1.out);rintro e w13 ⟨rfl,hb⟩;refine ⟨_,rfl,?_⟩;replace BK594:=bkb BK594 hb;replace BK595:=bkb BK595 hb;replace HB:=Aside0.mk (below_step (hb_) hb))|((with_reducible refine gate_callee (f:=15) rfl ?_);refine goesL_ (some 18) rfl rfl Try.func15 (by kernel_rfl) rfl #[] rfl (by (try simp only [List.map_toArray,List.map_cons,List.map_nil]);first|done|rfl|(simp only [List.length_drop,List.length_take];rfl)) ?_;(with_reducible refine (hinterlandlaw06_known.calls k  t597 _ A7.out).mono ?_);rintro e w14 ⟨rfl,hb⟩;refine ⟨_,rfl,?_⟩;replace BK594:=bkb BK594 hb;replace BK595:=bkb BK595 hb;replace HB:=Aside0.mk (below_step (hb_) hb)))
  go_ret
  exact ⟨by first|rfl|(simp [errW_none,errW_some] <;> rfl)|(simp [*,errW_none,errW_some] <;> rfl),hb_⟩
 ·replace c6:=Bool.eq_false_iff.mpr c6
  subst c6
  have H1 : ((water_Joined.f k a0_0 a0_1 l0_2 l1_0 l1_1 a2 a3).bind fun bt598 => ((hinterlandref06_Joined.f k a0_0 a0_1 l0_2 l1_0 l1_1 a2 a3).bind fun bt600 => (if (bt598.1 != bt600.1) = true then (hinterlandlaw06_WaterJoins.j0 k a2 a3 bt598.1 true a0_0 a0_1 l0_2 l1_0 l1_1) else (hinterlandlaw06_WaterJoins.j0 k a2 a3 bt598.1 (bt598.2 != bt600.2) a0_0 a0_1 l0_2 l1_0 l1_1)))) = some r:=by rw [if_neg (show ¬ (false = true) by decide)] at H;exact H
  clear H
  have H:=H1
  clear H1
  replace H:=Option.bind_eq_some_iff.mp H
  obtain ⟨⟨t598,t599⟩,A150,H⟩:=H
  replace H : ((hinterlandref06_Joined.f k a0_0 a0_1 l0_2 l1_0 l1_1 a2 a3).bind fun bt600 => (if (t598 != bt600.1) = true then (hinterlandlaw06_WaterJoins.j0 k a2 a3 t598 true a0_0 a0_1 l0_2 l1_0 l1_1) else (hinterlandlaw06_WaterJoins.j0 k a2 a3 t598 (t599 != bt600.2) a0_0 a0_1 l0_2 l1_0 l1_1))) = some r:=H
  have A15:=Aside0.mk A150
  clear A150
  replace H:=Option.bind_eq_some_iff.mp H
  obtain ⟨⟨t600,t601⟩,A160,H⟩:=H
  replace H : (if (t598 != t600) = true then (hinterlandlaw06_WaterJoins.j0 k a2 a3 t598 true a0_0 a0_1 l0_2 l1_0 l1_1) else (hinterlandlaw06_WaterJoins.j0 k a2 a3 t598 (t599 != t601) a0_0 a0_1 l0_2 l1_0 l1_1)) = some r:=H
  have A16:=Aside0.mk A160
  clear A160
  have HC17:=Aside0.mk H
  clear H
  go_enter Try.func3,Try.ntmps3
  go_upto_region 5 with (first|((with_reducible refine gate_dst (N:=4) rfl ?_);refine box_ev (N:=4) (cs:=#[.int .i64 a0_0,.int .i64 a0_1,.slice A0_2 l0_2.length c0_2]) (t:=24) ?_;intro gb594 hg w18 hbox hb;have BK594:=Aside0.mk (hbox);have GW594 : Aside0 (w.heap.size ≤ gb594):=gsz hg;have GE594:=GW594;replace HB:=Aside0.mk (below_step (hb_) hb);clear hb hbox hg)|((with_reducible refine gate_dst (N:=5) rfl ?_);refine box_ev (N:=5) (cs:=#[.slice A1_0 l1_0.length c1_0,.slice A1_1 l1_1.length c1_1]) (t:=26) ?_;intro gb595 hg w19 hbox hb;have BK595:=Aside0.mk (hbox);have GW595 : Aside0 (w.heap.size ≤ gb595):=gsz hg;have GE595:=GW595;have NB594_595:=nbl BK594 hg;have NB595_594:=nbr BK594 hg;replace BK594:=bkb BK594 hb;replace HB:=Aside0.mk (below_step (hb_) hb);clear hb hbox hg;have hnb20:=NB594_595.out;have hnc20:=NB595_594.out;obtain ⟨hcz21_0,hcz21_1,hcz21_2,hfz21_0,hfz21_1,hfz21_2⟩:=cells3 BK594.out;obtain ⟨hcz22_0,hcz22_1,hfz22_0,hfz22_1⟩:=cells2 BK595.out)|((with_reducible refine gate_callee (f:=14) rfl ?_);refine goesL_ (some 17) rfl rfl Try.func14 (by kernel_rfl) rfl #[.agg #[.int .i64 a0_0,.int .i64 a0_1,.slice A0_2 l0_2.length c0_2],.agg #[.slice A1_0 l1_0.length c1_0,.slice A1_1 l1_1.length c1_1]] rfl (by (try simp only [List.map_toArray,List.map_cons,List.map_nil]);first|done|rfl|(simp only [List.length_drop,List.length_take];rfl)) ?_;(with_reducible refine (hinterlandlaw06_large.calls a0_0 a0_1 _ _ l0_2 _ _ l1_0 _ _ l1_1 false _ ?side1 ?side2 ?side3 ?side4 ?side5 ?side6 A5.out).mono ?_);(case side1 => exact Kd.C_up (Kd.C_below HR0_2.out HB.out));(case side2 => exact HC0_2.out);(case side3 => exact Kd.C_up (Kd.C_below HR1_0.out HB.out));(case side4 => exact HC1_0.out);(case side5 => exact Kd.C_up (Kd.C_below HR1_1.out HB.out));(case side6 => exact HC1_1.out);rintro e w23 ⟨rfl,hb⟩;refine ⟨_,rfl,?_⟩;replace BK594:=bkb BK594 hb;replace BK595:=bkb BK595 hb;replace HB:=Aside0.mk (below_step (hb_) hb);obtain ⟨hcz24_0,hcz24_1,hcz24_2,hfz24_0,hfz24_1,hfz24_2⟩:=cells3 BK594.out;obtain ⟨hcz25_0,hcz25_1,hfz25_0,hfz25_1⟩:=cells2 BK595.out)|((with_reducible refine gate_callee (f:=16) rfl ?_);refine goesL_ (some 24) rfl rfl Try.func16 (by kernel_rfl) rfl #[.agg #[.int .i64 a0_0,.int .i64 a0_1,.slice A0_2 l0_2.length c0_2],.agg #[.slice A1_0 l1_0.length c1_0,.slice A1_1 l1_1.length c1_1],.int .i64 a2,.int .i64 a3] rfl (by (try simp only [List.map_toArray,List.map_cons,List.map_nil]);first|done|rfl|(simp only [List.length_drop,List.length_take];rfl)) ?_;(with_reducible refine (water_Joined.calls k a0_0 a0_1 _ _ l0_2 _ _ l1_0 _ _ l1_1 a2 a3 t598 t599 _ ?side1 ?side2 ?side3 ?side4 ?side5 ?side6 A15.out).mono ?_);(case side1 => exact Kd.C_up (Kd.C_below HR0_2.out HB.out));(case side2 => exact HC0_2.out);(case side3 => exact Kd.C_up (Kd.C_below HR1_0.out HB.out));(case side4 => exact HC1_0.out);(case side5 => exact Kd.C_up (Kd.C_below HR1_1.out HB.out));(case side6 => exact HC1_1.out);rintro e w26 ⟨rfl,hb⟩;refine ⟨_,rfl,?_⟩;replace BK594:=bkb BK594 hb;replace BK595:=bkb BK595 hb;replace HB:=Aside0.mk (below_step (hb_) hb);obtain ⟨hcz27_0,hcz27_1,hcz27_2,hfz27_0,hfz27_1,hfz27_2⟩:=cells3 BK594.out;obtain ⟨hcz28_0,hcz28_1,hfz28_0,hfz28_1⟩:=cells2 BK595.out)|((with_reducible refine gate_callee (f:=17) rfl ?_);refine goesL_ (some 32) rfl rfl Try.func17 (by kernel_rfl) rfl #[.agg #[.int .i64 a0_0,.int .i64 a0_1,.slice A0_2 l0_2.length c0_2],.agg #[.slice A1_0 l1_0.length c1_0,.slice A1_1 l1_1.length c1_1],.int .i64 a2,.int .i64 a3] rfl (by (try simp only [List.map_toArray,List.map_cons,List.map_nil]);first|done|rfl|(simp only [List.length_drop,List.length_take];rfl)) ?_;(with_reducible refine (hinterlandref06_Joined.calls k a0_0 a0_1 _ _ l0_2 _ _ l1_0 _ _ l1_1 a2 a3 t600 t601 _ ?side1 ?side2 ?side3 ?side4 ?side5 ?side6 A16.out).mono ?_);(case side1 => exact Kd.C_up (Kd.C_below HR0_2.out HB.out));(case side2 => exact HC0_2.out);(case side3 => exact Kd.C_up (Kd.C_below HR1_0.out HB.out));(case side4 => exact HC1_0.out);(case side5 => exact Kd.C_up (Kd.C_below HR1_1.out HB.out));(case side6 => exact HC1_1.out);rintro e w29 ⟨rfl,hb⟩;refine ⟨_,rfl,?_⟩;replace BK594:=bkb BK594 hb;replace BK595:=bkb BK595 hb;replace HB:=Aside0.mk (below_step (hb_) hb)))
  (try simp only [Act.put,List.setIfInBounds_toArray,List.set_cons_zero,List.set_cons_succ])
  go_cut [42] (fun v42 wc => ∃ (kq : Nat) (x42_16 : Bool),v42 = .bool x42_16 ∧ Aside0 (hinterlandlaw06_WaterJoins.j0 kq a2 a3 t598 x42_16 a0_0 a0_1 l0_2 l1_0 l1_1 = some r) ∧ Aside0 (kq ≤ k) ∧ Aside0 (wc.heap[gb594]? = some (.cells #[.int .i64 a0_0,.int .i64 a0_1,(.slice A0_2 l0_2.length c0_2)] 24 (0,0))) ∧ Aside0 (wc.heap[gb595]? = some (.cells #[(.slice A1_0 l1_0.length c1_0),(.slice A1_1 l1_1.length c1_1)] 26 (0,0))) ∧ Aside0 (Below w.heap.size w wc))
  case first =>
   have H:=HC17.out
   clear HC17
   by_cases c30 : (t598 != t600) = true
   ·rw [if_pos c30] at H
    have c30b0 : (t598 != t600) = true:=c30
    (try (have c30b1 : decide (t598 = t600) = false:=by simpa using c30))
    (try (have c30b2 : (t598 == t600) = false:=by simpa using c30))
    (try (have c30b3 : ¬ (t598 = t600):=by simpa using c30))
    clear c30
    (first|rw [c30b0]|(simp only [i64_w,i32_w];rw [c30b0])|skip)
    have H':=Aside0.mk H
    clear H
    go_wp2
    go_meet
    case rel => exact ⟨_,(true),(by first|rfl|(simp;done)|(simp [*];done)),H',⟨by first|omega|exact Nat.le_refl _⟩,⟨blk_up BK594.out⟩,⟨blk_up BK595.out⟩,⟨hb_⟩⟩
   ·rw [if_neg c30] at H
    have c30b0 : (t598 != t600) = false:=by simpa using c30
    (try (have c30b1 : decide (t598 = t600) = true:=by simpa using c30))
    (try (have c30b2 : (t598 == t600) = true:=by simpa using c30))
    clear c30
    (first|rw [c30b0]|(simp only [i64_w,i32_w];rw [c30b0])|skip)
    have H':=Aside0.mk H
    clear H
    go_wp2
    go_meet
    case rel => exact ⟨_,((t599 != t601)),(by first|rfl|(simp;done)|(simp [*];done)),H',⟨by first|omega|exact Nat.le_refl _⟩,⟨blk_up BK594.out⟩,⟨blk_up BK595.out⟩,⟨hb_⟩⟩
  case rest =>
   clear HC17
   obtain ⟨kq,x42_16,rfl,HA,HJ16,BK594,BK595,HB⟩:=hcut
   cases kq with
   | zero => exact absurd HA.out (by simp [hinterlandlaw06_WaterJoins.j0])
   | succ kj16 =>
    have H:=HA.out
    clear HA
    simp only [hinterlandlaw06_WaterJoins.j0] at H
    by_cases c31 : x42_16 = true
    ·subst c31
     have H1 : (some false) = some r:=by rw [if_pos rfl] at H;exact H
     clear H
     have H:=H1
     clear H1
     obtain rfl:=Option.some.inj H
     go_wp2
     go_ret
     exact ⟨by first|rfl|(simp [errW_none,errW_some] <;> rfl)|(simp [*,errW_none,errW_some] <;> rfl),hb_⟩
    ·replace c31:=Bool.eq_false_iff.mpr c31
     subst c31
     have H1 : (if t598 = true then ((hinterlandref02_Beyond.f a0_0 a0_1 a2 a3).bind fun t602 => ((water_Joined.f kj16 a0_0 a0_1 l0_2 l1_0 l1_1 t602 (Int.tmod (wrap64 (a3 + 2)) 4)).bind fun bt603 => (if bt603.1 = true then (if bt603.2 = 0 then ((hinterlandlaw06_known.f kj16).bind fun t605 => (hinterlandlaw06_WaterJoins.j1 kj16 t605)) else (hinterlandlaw06_WaterJoins.j1 kj16 false)) else (hinterlandlaw06_WaterJoins.j1 kj16 false)))) else ((hinterlandlaw06_known.f kj16).bind fun t606 => (some t606))) = some r:=by rw [if_neg (show ¬ (false = true) by decide)] at H;exact H
     clear H
     have H:=H1
     clear H1
     by_cases c32 : t598 = true
     ·subst c32
      have H1 : ((hinterlandref02_Beyond.f a0_0 a0_1 a2 a3).bind fun t602 => ((water_Joined.f kj16 a0_0 a0_1 l0_2 l1_0 l1_1 t602 (Int.tmod (wrap64 (a3 + 2)) 4)).bind fun bt603 => (if bt603.1 = true then (if bt603.2 = 0 then ((hinterlandlaw06_known.f kj16).bind fun t605 => (hinterlandlaw06_WaterJoins.j1 kj16 t605)) else (hinterlandlaw06_WaterJoins.j1 kj16 false)) else (hinterlandlaw06_WaterJoins.j1 kj16 false)))) = some r:=by rw [if_pos rfl] at H;exact H
      clear H
      have H:=H1
      clear H1
      replace H:=Option.bind_eq_some_iff.mp H
      obtain ⟨t602,A330,H⟩:=H
      replace H : ((water_Joined.f kj16 a0_0 a0_1 l0_2 l1_0 l1_1 t602 (Int.tmod (wrap64 (a3 + 2)) 4)).bind fun bt603 => (if bt603.1 = true then (if bt603.2 = 0 then ((hinterlandlaw06_known.f kj16).bind fun t605 => (hinterlandlaw06_WaterJoins.j1 kj16 t605)) else (hinterlandlaw06_WaterJoins.j1 kj16 false)) else (hinterlandlaw06_WaterJoins.j1 kj16 false))) = some r:=H
      have A33:=Aside0.mk A330
      clear A330
      replace H:=Option.bind_eq_some_iff.mp H
      obtain ⟨⟨t603,t604⟩,A340,H⟩:=H
      replace H : (if t603 = true then (if t604 = 0 then ((hinterlandlaw06_known.f kj16).bind fun t605 => (hinterlandlaw06_WaterJoins.j1 kj16 t605)) else (hinterlandlaw06_WaterJoins.j1 kj16 false)) else (hinterlandlaw06_WaterJoins.j1 kj16 false)) = some r:=H
      have A34:=Aside0.mk A340
      clear A340
      have HC35:=Aside0.mk H
      clear H
      try go_wp2
      replace BK594:=Aside0.mk (blk_drew BK594.out)
      replace BK595:=Aside0.mk (blk_drew BK595.out)
      replace HB:=Aside0.mk (below_drew1 HB.out)
      refine start_ (n:=18) (S:=fun w' => w'.cell? ⟨gb594,0,none⟩ = some (.int .i64 a0_0) ∧ w'.cell? ⟨gb594,1,none⟩ = some (.int .i64 a0_1) ∧ w'.cell? ⟨gb594,2,none⟩ = some (.slice A0_2 l0_2.length c0_2) ∧ w'.cell? ⟨gb595,0,none⟩ = some (.slice A1_0 l1_0.length c1_0) ∧ w'.cell? ⟨gb595,1,none⟩ = some (.slice A1_1 l1_1.length c1_1)) (ds:=[]) #[false,false,false,false,false,false,false,false,false,false,false,false,false,false,false,false,false,false] (by kernel_rfl) rfl rfl ⟨(blk_cell BK594.out 0).trans rfl,(blk_cell BK594.out 1).trans rfl,(blk_cell BK594.out 2).trans rfl,(blk_cell BK595.out 0).trans rfl,(blk_cell BK595.out 1).trans rfl⟩ (fun hHeld => ?_);refine with_tabW hinterlandlaw06_WaterJoins.tab8 hinterlandlaw06_WaterJoins.bits8 (fun HT_ HW_ => ?_)
      generalize wc.drew = w36 at BK594 BK595 HB hHeld ⊢
      refine pureZ (i:=2) (N:=some 47) #[false,false,true,false,false,false,false,false,false,false,false,false,false,false,false,false,false,false] ?_
      refine pureZ (i:=4) (N:=some 49) #[false,false,true,false,true,false,false,false,false,false,false,false,false,false,false,false,false,false] ?_
      refine pureZ (i:=6) (N:=some 51) #[false,false,true,false,true,false,true,false,false,false,false,false,false,false,false,false,false,false] ?_
      refine pureZ (i:=7) (N:=some 52) #[false,false,true,false,true,false,true,true,false,false,false,false,false,false,false,false,false,false] ?_
      refine pureZ (i:=9) (N:=some 54) #[false,false,true,false,true,false,true,true,false,true,false,false,false,false,false,false,false,false] ?_
      refine pureZ (i:=10) (N:=some 55) #[false,false,true,false,true,false,true,true,false,true,true,false,false,false,false,false,false,false] ?_
      refine pureZ (i:=11) (N:=some 56) #[false,false,true,false,true,false,true,true,false,true,true,true,false,false,false,false,false,false] ?_
      refine takeZ5 (i:=0) (N:=some 45) #[true,false,true,false,true,false,true,true,false,true,true,true,false,false,false,false,false,false] hHeld ?_
      refine takeZ5 (i:=1) (N:=some 46) #[true,true,true,false,true,false,true,true,false,true,true,true,false,false,false,false,false,false] hHeld ?_
      refine takeZ5 (i:=3) (N:=some 48) #[true,true,true,true,true,false,true,true,false,true,true,true,false,false,false,false,false,false] hHeld ?_
      refine takeZ5 (i:=5) (N:=some 50) #[true,true,true,true,true,true,true,true,false,true,true,true,false,false,false,false,false,false] hHeld ?_
      refine one_ (i:=8) (N:=some 53) #[true,true,true,true,true,true,true,true,true,true,true,true,false,false,false,false,false,false] rfl rfl (one_of HT_.out (by kernel_rfl)) (by decide) (fun K hK => ?_)
      refine goes_ Try.func18 (by kernel_rfl) rfl #[.int .i64 a0_0,.int .i64 a0_1,.int .i64 a2,.int .i64 a3] (by rfl) rfl rfl (by (try simp only [List.map_toArray,List.map_cons,List.map_nil]);first|done|rfl|(simp only [List.length_drop,List.length_take];rfl)) ?_
      with_reducible refine (hinterlandref02_Beyond.calls a0_0 a0_1 a2 a3 t602 _ A33.out).mono ?_
      rintro e w' ⟨rfl,⟨nd,rfl⟩⟩
      refine ⟨_,rfl,?_⟩
      refine hK.out _ _ ⟨(blk_cell BK594.out 0).trans rfl,(blk_cell BK594.out 1).trans rfl,(blk_cell BK594.out 2).trans rfl,(blk_cell BK595.out 0).trans rfl,(blk_cell BK595.out 1).trans rfl⟩ (fun hHeld => ?_)
      clear hK K
      refine norm_ (a':=?_) ?_ ?_
      rotate_left
      ·show Act.put _ (some 53) _ = _
       simp only [Act.put,List.setIfInBounds_toArray,List.set_cons_zero,List.set_cons_succ,i64_w,i32_w]
       rfl
      refine one_ (i:=12) (N:=some 57) #[true,true,true,true,true,true,true,true,true,true,true,true,true,false,false,false,false,false] rfl rfl (one_of HT_.out (by kernel_rfl)) (by decide) (fun K hK => ?_)
      refine goes_ Try.func16 (by kernel_rfl) rfl #[.agg #[.int .i64 a0_0,.int .i64 a0_1,.slice A0_2 l0_2.length c0_2],.agg #[.slice A1_0 l1_0.length c1_0,.slice A1_1 l1_1.length c1_1],.int .i64 t602,.int .i64 (Int.tmod (wrap64 (a3 + 2)) 4)] (by rfl) rfl rfl (by (try simp only [List.map_toArray,List.map_cons,List.map_nil]);first|done|rfl|(simp only [List.length_drop,List.length_take];rfl)) ?_
      with_reducible refine (water_Joined.calls kj16 a0_0 a0_1 _ _ l0_2 _ _ l1_0 _ _ l1_1 t602 (Int.tmod (wrap64 (a3 + 2)) 4) t603 t604 _ ?side1 ?side2 ?side3 ?side4 ?side5 ?side6 A34.out).mono ?_
      (case side1 => repeat (first|exact (Kd.C_below HR0_2.out (hb_))|(with_reducible refine Kd.C_alloc ?_ _)|(with_reducible refine Kd.C_drewN ?_ _)|(with_reducible refine Kd.C_drew ?_)))
      (case side2 => exact HC0_2.out)
      (case side3 => repeat (first|exact (Kd.C_below HR1_0.out (hb_))|(with_reducible refine Kd.C_alloc ?_ _)|(with_reducible refine Kd.C_drewN ?_ _)|(with_reducible refine Kd.C_drew ?_)))
      (case side4 => exact HC1_0.out)
      (case side5 => repeat (first|exact (Kd.C_below HR1_1.out (hb_))|(with_reducible refine Kd.C_alloc ?_ _)|(with_reducible refine Kd.C_drewN ?_ _)|(with_reducible refine Kd.C_drew ?_)))
      (case side6 => exact HC1_1.out)
      rintro e w37 ⟨rfl,hb⟩
      refine ⟨_,rfl,?_⟩
      have n0_:=bkb BK594 hb
      have n1_:=bkb BK595 hb
      have n2_:=Aside0.mk (below_step (hb_) hb)
      clear BK594
      clear BK595
      clear HB
      have BK594:=n0_
      have BK595:=n1_
      have HB:=n2_
      clear n0_ n1_ n2_
      (try clear hb)
      (try clear hb2)
      (try clear hk)
      (try clear hi)
      refine hK.out _ _ ⟨(blk_cell BK594.out 0).trans rfl,(blk_cell BK594.out 1).trans rfl,(blk_cell BK594.out 2).trans rfl,(blk_cell BK595.out 0).trans rfl,(blk_cell BK595.out 1).trans rfl⟩ (fun hHeld => ?_)
      clear hK K
      refine norm_ (a':=?_) ?_ ?_
      rotate_left
      ·show Act.put _ (some 57) _ = _
       simp only [Act.put,List.setIfInBounds_toArray,List.set_cons_zero,List.set_cons_succ,i64_w,i32_w]
       rfl
      refine pureZ (i:=13) (N:=some 44) #[true,true,true,true,true,true,true,true,true,true,true,true,true,true,false,false,false,false] ?_
      refine pureZ (i:=14) (N:=some 58) #[true,true,true,true,true,true,true,true,true,true,true,true,true,true,true,false,false,false] ?_
      refine pureZ (i:=15) (N:=some 59) #[true,true,true,true,true,true,true,true,true,true,true,true,true,true,true,true,false,false] ?_
      refine pureZ (i:=16) (N:=some 13) #[true,true,true,true,true,true,true,true,true,true,true,true,true,true,true,true,true,false] ?_
      refine pureZ (i:=17) (N:=some 14) #[true,true,true,true,true,true,true,true,true,true,true,true,true,true,true,true,true,true] ?_
      refine done_ (done_of HT_.out (by kernel_rfl)) ?_
      go_upto_region 9 with (fail)
      go_cut [8] (fun v8 wc => ∃ (kq : Nat) (x8_34 : Bool),v8 = .bool x8_34 ∧ Aside0 (hinterlandlaw06_WaterJoins.j1 kq x8_34 = some r) ∧ Aside0 (kq ≤ kj16) ∧ Aside0 (wc.heap[gb594]? = some (.cells #[.int .i64 a0_0,.int .i64 a0_1,(.slice A0_2 l0_2.length c0_2)] 24 (0,0))) ∧ Aside0 (wc.heap[gb595]? = some (.cells #[(.slice A1_0 l1_0.length c1_0),(.slice A1_1 l1_1.length c1_1)] 26 (0,0))) ∧ Aside0 (Below w.heap.size w wc))
      case first =>
       have H:=HC35.out
       clear HC35
       by_cases c38 : t603 = true
       ·subst c38
        have H1 : (if t604 = 0 then ((hinterlandlaw06_known.f kj16).bind fun t605 => (hinterlandlaw06_WaterJoins.j1 kj16 t605)) else (hinterlandlaw06_WaterJoins.j1 kj16 false)) = some r:=by rw [if_pos rfl] at H;exact H
        clear H
        have H:=H1
        clear H1
        by_cases c39 : t604 = 0
        ·rw [if_pos c39] at H
         have c39b0 : (t604 == 0) = true:=beq_iff_eq.mpr c39
         have c39b1 : (t604 != 0) = false:=bne_eq_false_iff_eq.mpr c39
         clear c39
         (first|rw [c39b0]|(simp only [i64_w,i32_w];rw [c39b0])|skip)
         replace H:=Option.bind_eq_some_iff.mp H
         obtain ⟨t605,A400,H⟩:=H
         replace H : (hinterlandlaw06_WaterJoins.j1 kj16 t605) = some r:=H
         have A40:=Aside0.mk A400
         clear A400
         have H':=Aside0.mk H
         clear H
         go_wp2_with (first|(go_at_call 15;(with_reducible refine (hinterlandlaw06_known.calls kj16  t605 _ A40.out).mono ?_);rintro e w41 ⟨rfl,hb⟩;replace BK594:=bkb BK594 hb;replace BK595:=bkb BK595 hb;replace HB:=Aside0.mk (below_step (hb_) hb)))
         go_meet
         case rel => exact ⟨_,(t605),(by first|rfl|(simp;done)|(simp [*];done)),H',⟨by have:=HJ16.out;first|omega|exact Nat.le_refl _⟩,⟨blk_up BK594.out⟩,⟨blk_up BK595.out⟩,⟨hb_⟩⟩
        ·rw [if_neg c39] at H
         have c39b0 : (t604 == 0) = false:=beq_eq_false_iff_ne.mpr c39
         have c39b1 : (t604 != 0) = true:=bne_iff_ne.mpr c39
         (first|rw [c39b0]|(simp only [i64_w,i32_w];rw [c39b0])|skip)
         have H':=Aside0.mk H
         clear H
         go_wp2
         go_meet
         case rel => exact ⟨_,(false),(by first|rfl|(simp;done)|(simp [*];done)),H',⟨by have:=HJ16.out;first|omega|exact Nat.le_refl _⟩,⟨blk_up BK594.out⟩,⟨blk_up BK595.out⟩,⟨hb_⟩⟩
       ·replace c38:=Bool.eq_false_iff.mpr c38
        subst c38
        have H1 : (hinterlandlaw06_WaterJoins.j1 kj16 false) = some r:=by rw [if_neg (show ¬ (false = true) by decide)] at H;exact H
        clear H
        have H:=H1
        clear H1
        have H':=Aside0.mk H
        clear H
        go_wp2
        go_meet
        case rel => exact ⟨_,(false),(by first|rfl|(simp;done)|(simp [*];done)),H',⟨by have:=HJ16.out;first|omega|exact Nat.le_refl _⟩,⟨blk_up BK594.out⟩,⟨blk_up BK595.out⟩,⟨hb_⟩⟩
      case rest =>
       clear HC35
       obtain ⟨kq,x8_34,rfl,HA,HJ34,BK594,BK595,HB⟩:=hcut
       cases kq with
       | zero => exact absurd HA.out (by simp [hinterlandlaw06_WaterJoins.j1])
       | succ kj34 =>
        have H:=HA.out
        clear HA
        simp only [hinterlandlaw06_WaterJoins.j1] at H
        obtain rfl:=Option.some.inj H
        go_wp2
        go_ret
        exact ⟨by first|rfl|(simp [errW_none,errW_some] <;> rfl)|(simp [*,errW_none,errW_some] <;> rfl),hb_⟩
     ·replace c32:=Bool.eq_false_iff.mpr c32
      subst c32
      have H1 : ((hinterlandlaw06_known.f kj16).bind fun t606 => (some t606)) = some r:=by rw [if_neg (show ¬ (false = true) by decide)] at H;exact H
      clear H
      have H:=H1
      clear H1
      replace H:=Option.bind_eq_some_iff.mp H
      obtain ⟨t606,A420,H⟩:=H
      replace H : (some t606) = some r:=H
      have A42:=Aside0.mk A420
      clear A420
      obtain rfl:=Option.some.inj H
      go_wp2_with (first|((with_reducible refine gate_callee (f:=15) rfl ?_);refine goesL_ (some 68) rfl rfl Try.func15 (by kernel_rfl) rfl #[] rfl (by (try simp only [List.map_toArray,List.map_cons,List.map_nil]);first|done|rfl|(simp only [List.length_drop,List.length_take];rfl)) ?_;(with_reducible refine (hinterlandlaw06_known.calls kj16  t606 _ A42.out).mono ?_);rintro e w43 ⟨rfl,hb⟩;refine ⟨_,rfl,?_⟩;replace BK594:=bkb BK594 hb;replace BK595:=bkb BK595 hb;replace HB:=Aside0.mk (below_step (hb_) hb)))
      go_ret
      exact ⟨by first|rfl|(simp [errW_none,errW_some] <;> rfl)|(simp [*,errW_none,errW_some] <;> rfl),hb_⟩

end Go.Proofs.Ytiencnnkphipoaa.P

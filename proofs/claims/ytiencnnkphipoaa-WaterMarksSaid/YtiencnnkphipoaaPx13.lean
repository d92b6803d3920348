/- Functions of this seat as plain Lean functions, with proofs that the Go code comes to just their answers, or what stands between them and a law's statement; no conditions. (Laid by a program of this session, out of the kit's print.) -/
import Derived.Test.YtiencnnkphipoaaPx0
import Derived.Test.YtiencnnkphipoaaPx1
import Derived.Test.YtiencnnkphipoaaPx3
import Derived.Test.YtiencnnkphipoaaPx8
import Derived.Test.YtiencnnkphipoaaPx12
namespace Go.Proofs.Ytiencnnkphipoaa.P
open Go.RowKit Go.Proofs.YtiencnnkphipoaaW.PrintWords Go.Proofs.YtiencnnkphipoaaW.PrintLast Go.Proofs.YtiencnnkphipoaaW.PrintMore
attribute [local go_sem] max2_int min2_int max_two min_two max_three min_three max_four min_four   -- for this text's walks alone
set_option linter.unusedVariables false
set_option linter.unusedSimpArgs false

/-! ### hinterlandlaw06_WaterMarks: function 13 -/
def hinterlandlaw06_WaterMarks.j0 : Nat → Int → Int → Bool → Int → Int → List Int → List Int → List Int → List Int → List Int → Option (Bool)
 | 0,_,_,_,_,_,_,_,_,_,_ => none
 | k + 1,x2,x8,x39,x438000,x438001,x438002,x439000,x439001,x449000,x449001 => if x39 = true then (some false) else ((water_Mark.f k x438000 x438001 x438002 x449000 x449001 x2).bind fun bt458 => (if x8 = 0 then (if bt458.2.2 = 0 then ((hinterlandsame_Waters.f k bt458.1 bt458.2.1 x439000 x439001).bind fun t466 => (if t466 = true then ((hinterlandlaw06_known.f k).bind fun t467 => (some t467)) else (some false))) else (some false)) else ((hinterlandlaw06_known.f k).bind fun t468 => (some t468))))
def hinterlandlaw06_WaterMarks.f (k : Nat) (a0_0 : Int) (a0_1 : Int) (l0_2 : List Int) (l1_0 : List Int) (l1_1 : List Int) (a2 : Int) : Option (Bool) := (hinterlandlaw06_large.f a0_0 a0_1 l0_2 l1_0 l1_1).bind fun t439 => (if t439 = true then ((hinterlandlaw06_known.f k).bind fun t440 => (some t440)) else ((water_Mark.f k a0_0 a0_1 l0_2 l1_0 l1_1 a2).bind fun bt441 => ((hinterlandref06_Mark.f k a0_0 a0_1 l0_2 l1_0 l1_1 a2).bind fun bt449 => (if bt441.2.2 = bt449.2.2 then ((hinterlandsame_Waters.f k bt441.1 bt441.2.1 bt449.1 bt449.2.1).bind fun t457 => (hinterlandlaw06_WaterMarks.j0 k a2 bt441.2.2 (!t457) a0_0 a0_1 l0_2 l1_0 l1_1 bt441.1 bt441.2.1)) else (hinterlandlaw06_WaterMarks.j0 k a2 bt441.2.2 true a0_0 a0_1 l0_2 l1_0 l1_1 bt441.1 bt441.2.1)))))
theorem hinterlandlaw06_WaterMarks.mono_l : ∀ k, (∀ y0 y1 y2 y3 y4 y5 y6 y7 y8 y9, LeO (hinterlandlaw06_WaterMarks.j0 k y0 y1 y2 y3 y4 y5 y6 y7 y8 y9) (hinterlandlaw06_WaterMarks.j0 (k + 1) y0 y1 y2 y3 y4 y5 y6 y7 y8 y9))
 | 0 => fun _ _ _ _ _ _ _ _ _ _ r h => by simp [hinterlandlaw06_WaterMarks.j0] at h
 | k + 1 => by
  have ih0:=hinterlandlaw06_WaterMarks.mono_l k
  ·intro y0 y1 y2 y3 y4 y5 y6 y7 y8 y9
   unfold hinterlandlaw06_WaterMarks.j0
   repeat' first
   | (with_reducible exact ih0 _ _ _ _ _ _ _ _ _ _)
   | (with_reducible exact hinterlandlaw06_known.mono _)
   | (with_reducible exact hinterlandref06_Mark.mono _ _ _ _ _ _ _)
   | (with_reducible exact hinterlandsame_Waters.mono _ _ _ _ _)
   | (with_reducible exact water_Mark.mono _ _ _ _ _ _ _)
   | (with_reducible exact LeO.refl _)
   | (with_reducible exact LeO.none _)
   | (with_reducible refine LeO.ite ?_ ?_)
   | (with_reducible refine LeO.bind ?_ (fun _ => ?_))
   | exact ih0 _ _ _ _ _ _ _ _ _ _
   | exact hinterlandlaw06_known.mono _
   | exact hinterlandref06_Mark.mono _ _ _ _ _ _ _
   | exact hinterlandsame_Waters.mono _ _ _ _ _
   | exact water_Mark.mono _ _ _ _ _ _ _
   | exact LeO.none _
   | refine LeO.ite ?_ ?_
   | refine LeO.bind ?_ (fun _ => ?_)
theorem hinterlandlaw06_WaterMarks.mono : ∀ a0 a1 a2 a3 a4 a5 k, LeO (hinterlandlaw06_WaterMarks.f k a0 a1 a2 a3 a4 a5) (hinterlandlaw06_WaterMarks.f (k + 1) a0 a1 a2 a3 a4 a5) := by
 intro a0 a1 a2 a3 a4 a5 k
 have ih0:=hinterlandlaw06_WaterMarks.mono_l k
 unfold hinterlandlaw06_WaterMarks.f
 repeat' first
   | (with_reducible exact ih0 _ _ _ _ _ _ _ _ _ _)
   | (with_reducible exact hinterlandlaw06_known.mono _)
   | (with_reducible exact hinterlandref06_Mark.mono _ _ _ _ _ _ _)
   | (with_reducible exact hinterlandsame_Waters.mono _ _ _ _ _)
   | (with_reducible exact water_Mark.mono _ _ _ _ _ _ _)
   | (with_reducible exact LeO.refl _)
   | (with_reducible exact LeO.none _)
   | (with_reducible refine LeO.ite ?_ ?_)
   | (with_reducible refine LeO.bind ?_ (fun _ => ?_))
   | exact ih0 _ _ _ _ _ _ _ _ _ _
   | exact hinterlandlaw06_known.mono _
   | exact hinterlandref06_Mark.mono _ _ _ _ _ _ _
   | exact hinterlandsame_Waters.mono _ _ _ _ _
   | exact water_Mark.mono _ _ _ _ _ _ _
   | exact LeO.none _
   | refine LeO.ite ?_ ?_
   | refine LeO.bind ?_ (fun _ => ?_)
set_option maxHeartbeats 8000000 in
set_option maxRecDepth 100000 in
theorem hinterlandlaw06_WaterMarks.calls (k : Nat) (a0_0 : Int) (a0_1 : Int) (A0_2 : Option Addr) (c0_2 : Nat) (l0_2 : List Int) (A1_0 : Option Addr) (c1_0 : Nat) (l1_0 : List Int) (A1_1 : Option Addr) (c1_1 : Nat) (l1_1 : List Int) (a2 : Int) (r : Bool) (w : World) (hr0_2 : Kd.C (Kd.int .i64) w A0_2 l0_2.length l0_2) (hc0_2 : l0_2.length ≤ c0_2) (hr1_0 : Kd.C (Kd.int .i64) w A1_0 l1_0.length l1_0) (hc1_0 : l1_0.length ≤ c1_0) (hr1_1 : Kd.C (Kd.int .i64) w A1_1 l1_1.length l1_1) (hc1_1 : l1_1.length ≤ c1_1) (h : hinterlandlaw06_WaterMarks.f k a0_0 a0_1 l0_2 l1_0 l1_1 a2 = some r) :
  Calls Try.prog 13 #[.agg #[.int .i64 a0_0,.int .i64 a0_1,.slice A0_2 l0_2.length c0_2],.agg #[.slice A1_0 l1_0.length c1_0,.slice A1_1 l1_1.length c1_1],.int .i64 a2] w fun e w' => e = .returned (.bool r) ∧ Below w.heap.size w w':=by
 have hu24:=Try.underlying24
 have hu26:=Try.underlying26
 have HR0_2:=Aside0.mk hr0_2
 have HC0_2:=Aside0.mk hc0_2
 clear hr0_2 hc0_2
 have HR1_0:=Aside0.mk hr1_0
 have HC1_0:=Aside0.mk hc1_0
 clear hr1_0 hc1_0
 have HR1_1:=Aside0.mk hr1_1
 have HC1_1:=Aside0.mk hc1_1
 clear hr1_1 hc1_1
 have HB:=Aside0.mk (Below.refl w.heap.size w)
 have H : ((hinterlandlaw06_large.f a0_0 a0_1 l0_2 l1_0 l1_1).bind fun t439 => (if t439 = true then ((hinterlandlaw06_known.f k).bind fun t440 => (some t440)) else ((water_Mark.f k a0_0 a0_1 l0_2 l1_0 l1_1 a2).bind fun bt441 => ((hinterlandref06_Mark.f k a0_0 a0_1 l0_2 l1_0 l1_1 a2).bind fun bt449 => (if bt441.2.2 = bt449.2.2 then ((hinterlandsame_Waters.f k bt441.1 bt441.2.1 bt449.1 bt449.2.1).bind fun t457 => (hinterlandlaw06_WaterMarks.j0 k a2 bt441.2.2 (!t457) a0_0 a0_1 l0_2 l1_0 l1_1 bt441.1 bt441.2.1)) else (hinterlandlaw06_WaterMarks.j0 k a2 bt441.2.2 true a0_0 a0_1 l0_2 l1_0 l1_1 bt441.1 bt441.2.1)))))) = some r:=h
 clear h
 replace H:=Option.bind_eq_some_iff.mp H
 obtain ⟨t439,A40,H⟩:=H
 replace H : (if t439 = true then ((hinterlandlaw06_known.f k).bind fun t440 => (some t440)) else ((water_Mark.f k a0_0 a0_1 l0_2 l1_0 l1_1 a2).bind fun bt441 => ((hinterlandref06_Mark.f k a0_0 a0_1 l0_2 l1_0 l1_1 a2).bind fun bt449 => (if bt441.2.2 = bt449.2.2 then ((hinterlandsame_Waters.f k bt441.1 bt441.2.1 bt449.1 bt449.2.1).bind fun t457 => (hinterlandlaw06_WaterMarks.j0 k a2 bt441.2.2 (!t457) a0_0 a0_1 l0_2 l1_0 l1_1 bt441.1 bt441.2.1)) else (hinterlandlaw06_WaterMarks.j0 k a2 bt441.2.2 true a0_0 a0_1 l0_2 l1_0 l1_1 bt441.1 bt441.2.1))))) = some r:=H
 have A4:=Aside0.mk A40
 clear A40
 by_cases c5 : t439 = true
 ·subst c5
  have H1 : ((hinterlandlaw06_known.f k).bind fun t440 => (some t440)) = some r:=by rw [if_pos rfl] at H;exact H
  clear H
  have H:=H1
  clear H1
  replace H:=Option.bind_eq_some_iff.mp H
  obtain ⟨t440,A60,H⟩:=H
  replace H : (some t440) = some r:=H
  have A6:=Aside0.mk A60
  clear A60
  obtain rfl:=Option.some.inj H
  go_enter Try.func13,Try.ntmps13
  go_wp2_with (first|((with_reducible refine gate_dst (N:=3) rfl ?_);refine box_ev (N:=3) (cs:=#[.int .i64 a0_0,.int .i64 a0_1,.slice A0_2 l0_2.length c0_2]) (t:=24) ?_;intro gb437 hg w7 hbox hb;have BK437:=Aside0.mk (hbox);have GW437 : Aside0 (w.heap.size ≤ gb437):=gsz hg;have GE437:=GW437;replace HB:=hbs hb;clear hb hbox hg)|((with_reducible refine gate_dst (N:=4) rfl ?_);refine box_ev (N:=4) (cs:=#[.slice A1_0 l1_0.length c1_0,.slice A1_1 l1_1.length c1_1]) (t:=26) ?_;intro gb438 hg w8 hbox hb;have BK438:=Aside0.mk (hbox);have GW438 : Aside0 (w.heap.size ≤ gb438):=gsz hg;have GE438:=GW438;have NB437_438:=nbl BK437 hg;have NB438_437:=nbr BK437 hg;replace BK437:=bkb BK437 hb;replace HB:=hbs hb;clear hb hbox hg;have hnb9:=NB437_438.out;have hnc9:=NB438_437.out;obtain ⟨_,_,_,_,_,_⟩:=cells3 BK437.out;obtain ⟨_,_,_,_⟩:=cells2 BK438.out)|((with_reducible refine gate_callee (f:=14) rfl ?_);refine goesL_ (some 15) rfl rfl Try.func14 (by kernel_rfl) rfl #[.agg #[.int .i64 a0_0,.int .i64 a0_1,.slice A0_2 l0_2.length c0_2],.agg #[.slice A1_0 l1_0.length c1_0,.slice A1_1 l1_1.length c1_1]] rfl ga_ ?_;(with_reducible refine (hinterlandlaw06_large.calls a0_0 a0_1 _ _ l0_2 _ _ l1_0 _ _ l1_1 true _ ?_ ?_ ?_ ?_ ?_ ?_ A4.out).mono ?_);exact cq HR0_2;exact HC0_2.out;exact cq HR1_0;exact HC1_0.out;exact cq HR1_1;exact HC1_1.out;rintro e w12 ⟨rfl,hb⟩;refine ⟨_,rfl,?_⟩;replace BK437:=bkb BK437 hb;replace BK438:=bkb BK438 hb;replace HB:=hbs hb)|((with_reducible refine gate_callee (f:=15) rfl ?_);refine goesL_ (some 16) rfl rfl Try.func15 (by kernel_rfl) rfl #[] rfl ga_ ?_;(with_reducible refine (hinterlandlaw06_known.calls k  t440 _ A6.out).mono ?_);rintro e w13 ⟨rfl,hb⟩;refine ⟨_,rfl,?_⟩;replace BK437:=bkb BK437 hb;replace BK438:=bkb BK438 hb;replace HB:=hbs hb))
  go_ret
  exact ⟨er_,hb_⟩
 ·replace c5:=Bool.eq_false_iff.mpr c5
  subst c5
  have H1 : ((water_Mark.f k a0_0 a0_1 l0_2 l1_0 l1_1 a2).bind fun bt441 => ((hinterlandref06_Mark.f k a0_0 a0_1 l0_2 l1_0 l1_1 a2).bind fun bt449 => (if bt441.2.2 = bt449.2.2 then ((hinterlandsame_Waters.f k bt441.1 bt441.2.1 bt449.1 bt449.2.1).bind fun t457 => (hinterlandlaw06_WaterMarks.j0 k a2 bt441.2.2 (!t457) a0_0 a0_1 l0_2 l1_0 l1_1 bt441.1 bt441.2.1)) else (hinterlandlaw06_WaterMarks.j0 k a2 bt441.2.2 true a0_0 a0_1 l0_2 l1_0 l1_1 bt441.1 bt441.2.1)))) = some r:=by rw [if_neg (show ¬ (false = true) by decide)] at H;exact H
  clear H
  have H:=H1
  clear H1
  replace H:=Option.bind_eq_some_iff.mp H
  obtain ⟨⟨t441,t444,t447⟩,A140,H⟩:=H
  replace H : ((hinterlandref06_Mark.f k a0_0 a0_1 l0_2 l1_0 l1_1 a2).bind fun bt449 => (if t447 = bt449.2.2 then ((hinterlandsame_Waters.f k t441 t444 bt449.1 bt449.2.1).bind fun t457 => (hinterlandlaw06_WaterMarks.j0 k a2 t447 (!t457) a0_0 a0_1 l0_2 l1_0 l1_1 t441 t444)) else (hinterlandlaw06_WaterMarks.j0 k a2 t447 true a0_0 a0_1 l0_2 l1_0 l1_1 t441 t444))) = some r:=H
  have A14:=Aside0.mk A140
  clear A140
  replace H:=Option.bind_eq_some_iff.mp H
  obtain ⟨⟨t449,t452,t455⟩,A150,H⟩:=H
  replace H : (if t447 = t455 then ((hinterlandsame_Waters.f k t441 t444 t449 t452).bind fun t457 => (hinterlandlaw06_WaterMarks.j0 k a2 t447 (!t457) a0_0 a0_1 l0_2 l1_0 l1_1 t441 t444)) else (hinterlandlaw06_WaterMarks.j0 k a2 t447 true a0_0 a0_1 l0_2 l1_0 l1_1 t441 t444)) = some r:=H
  have A15:=Aside0.mk A150
  clear A150
  have HC16:=Aside0.mk H
  clear H
  go_enter Try.func13,Try.ntmps13
  go_upto_region 5 with (first|((with_reducible refine gate_dst (N:=3) rfl ?_);refine box_ev (N:=3) (cs:=#[.int .i64 a0_0,.int .i64 a0_1,.slice A0_2 l0_2.length c0_2]) (t:=24) ?_;intro gb437 hg w17 hbox hb;have BK437:=Aside0.mk (hbox);have GW437 : Aside0 (w.heap.size ≤ gb437):=gsz hg;have GE437:=GW437;replace HB:=hbs hb;clear hb hbox hg)|((with_reducible refine gate_dst (N:=4) rfl ?_);refine box_ev (N:=4) (cs:=#[.slice A1_0 l1_0.length c1_0,.slice A1_1 l1_1.length c1_1]) (t:=26) ?_;intro gb438 hg w18 hbox hb;have BK438:=Aside0.mk (hbox);have GW438 : Aside0 (w.heap.size ≤ gb438):=gsz hg;have GE438:=GW438;have NB437_438:=nbl BK437 hg;have NB438_437:=nbr BK437 hg;replace BK437:=bkb BK437 hb;replace HB:=hbs hb;clear hb hbox hg;have hnb19:=NB437_438.out;have hnc19:=NB438_437.out;obtain ⟨_,_,_,_,_,_⟩:=cells3 BK437.out;obtain ⟨_,_,_,_⟩:=cells2 BK438.out)|((with_reducible refine gate_callee (f:=14) rfl ?_);refine goesL_ (some 15) rfl rfl Try.func14 (by kernel_rfl) rfl #[.agg #[.int .i64 a0_0,.int .i64 a0_1,.slice A0_2 l0_2.length c0_2],.agg #[.slice A1_0 l1_0.length c1_0,.slice A1_1 l1_1.length c1_1]] rfl ga_ ?_;(with_reducible refine (hinterlandlaw06_large.calls a0_0 a0_1 _ _ l0_2 _ _ l1_0 _ _ l1_1 false _ ?_ ?_ ?_ ?_ ?_ ?_ A4.out).mono ?_);exact cq HR0_2;exact HC0_2.out;exact cq HR1_0;exact HC1_0.out;exact cq HR1_1;exact HC1_1.out;rintro e w22 ⟨rfl,hb⟩;refine ⟨_,rfl,?_⟩;replace BK437:=bkb BK437 hb;replace BK438:=bkb BK438 hb;replace HB:=hbs hb;obtain ⟨_,_,_,_,_,_⟩:=cells3 BK437.out;obtain ⟨_,_,_,_⟩:=cells2 BK438.out)|((with_reducible refine gate_callee (f:=37) rfl ?_);refine goesL_ (some 21) rfl rfl Try.func37 (by kernel_rfl) rfl #[.agg #[.int .i64 a0_0,.int .i64 a0_1,.slice A0_2 l0_2.length c0_2],.agg #[.slice A1_0 l1_0.length c1_0,.slice A1_1 l1_1.length c1_1],.int .i64 a2] rfl ga_ ?_;(with_reducible refine (water_Mark.calls k a0_0 a0_1 _ _ l0_2 _ _ l1_0 _ _ l1_1 a2 t441 t444 t447 _ ?_ ?_ ?_ ?_ ?_ ?_ A14.out).mono ?_);exact cq HR0_2;exact HC0_2.out;exact cq HR1_0;exact HC1_0.out;exact cq HR1_1;exact HC1_1.out;rintro e w25 ⟨v442,v445,rfl,ho0,ho1,hb⟩;refine ⟨_,rfl,?_⟩;have HO443:=rlo ho0;have HO446:=rlo ho1;replace BK437:=bkb BK437 hb;replace BK438:=bkb BK438 hb;replace HB:=hbs hb)|((with_reducible refine gate_dst (N:=7) rfl ?_);refine box_ev (N:=7) (cs:=#[.slice none 0 0,.slice none 0 0]) (t:=26) ?_;intro gb448 hg w26 hbox hb;have BK448:=Aside0.mk (hbox);have GW448 : Aside0 (w.heap.size ≤ gb448):=gsz hg;have GE448:=GW448;have NB437_448:=nbl BK437 hg;have NB448_437:=nbr BK437 hg;have NB438_448:=nbl BK438 hg;have NB448_438:=nbr BK438 hg;replace HO443:=rbw HO443 hb;replace HO446:=rbw HO446 hb;replace BK437:=bkb BK437 hb;replace BK438:=bkb BK438 hb;replace HB:=hbs hb;clear hb hbox hg;obtain ⟨Ao27,co27,eo27⟩:=Kd.R_slice HO443.out;subst eo27;have hnb28:=NB448_437.out;have hnc28:=NB437_448.out;have hnb29:=NB448_438.out;have hnc29:=NB438_448.out;obtain ⟨_,_,_,_⟩:=cells2 BK448.out;obtain ⟨Ao31,co31,eo31⟩:=Kd.R_slice HO446.out;subst eo31;obtain ⟨_,_,_,_,_,_⟩:=cells3 BK437.out;obtain ⟨_,_,_,_⟩:=cells2 BK438.out)|((with_reducible refine gate_callee (f:=38) rfl ?_);refine goesL_ (some 28) rfl rfl Try.func38 (by kernel_rfl) rfl #[.agg #[.int .i64 a0_0,.int .i64 a0_1,.slice A0_2 l0_2.length c0_2],.agg #[.slice A1_0 l1_0.length c1_0,.slice A1_1 l1_1.length c1_1],.int .i64 a2] rfl ga_ ?_;(with_reducible refine (hinterlandref06_Mark.calls k a0_0 a0_1 _ _ l0_2 _ _ l1_0 _ _ l1_1 a2 t449 t452 t455 _ ?_ ?_ ?_ ?_ ?_ ?_ A15.out).mono ?_);exact Kd.C_below HR0_2.out (hb_);exact HC0_2.out;exact Kd.C_below HR1_0.out (hb_);exact HC1_0.out;exact Kd.C_below HR1_1.out (hb_);exact HC1_1.out;rintro e w34 ⟨v450,v453,rfl,ho0,ho1,hb⟩;refine ⟨_,rfl,?_⟩;have HO451:=Aside0.mk (Kd.R_lower (Kd.R_new' (Kd.R_new' ho0 (Kd.R_lt (by (with_reducible repeat (first|apply Kd.R_alloc|apply Kd.R_drewN|apply Kd.R_drew));exact (Kd.R_mono (Kd.R_fars gb448 (Kd.R_types HO443.out BK448.out (by decide)) (fun _ hk => hk.2)) (fun _ h_ => h_.1))))) (Kd.R_lt (by (with_reducible repeat (first|apply Kd.R_alloc|apply Kd.R_drewN|apply Kd.R_drew));exact (Kd.R_mono (Kd.R_fars gb448 (Kd.R_types HO446.out BK448.out (by decide)) (fun _ hk => hk.2)) (fun _ h_ => h_.1))))) (below_size (hb_)));have HO454:=Aside0.mk (Kd.R_lower (Kd.R_new' (Kd.R_new' ho1 (Kd.R_lt (by (with_reducible repeat (first|apply Kd.R_alloc|apply Kd.R_drewN|apply Kd.R_drew));exact (Kd.R_mono (Kd.R_fars gb448 (Kd.R_types HO443.out BK448.out (by decide)) (fun _ hk => hk.2)) (fun _ h_ => h_.1))))) (Kd.R_lt (by (with_reducible repeat (first|apply Kd.R_alloc|apply Kd.R_drewN|apply Kd.R_drew));exact (Kd.R_mono (Kd.R_fars gb448 (Kd.R_types HO446.out BK448.out (by decide)) (fun _ hk => hk.2)) (fun _ h_ => h_.1))))) (below_size (hb_)));replace HO443:=Aside0.mk (Kd.R_mono (Kd.R_told (Kd.R_told (Kd.R_old (by (with_reducible repeat (first|apply Kd.R_alloc|apply Kd.R_drewN|apply Kd.R_drew));exact (Kd.R_mono (Kd.R_fars gb448 (Kd.R_types HO443.out BK448.out (by decide)) (fun _ hk => hk.2)) (fun _ h_ => h_.1))) hb) (Kd.R_base ho0)) (Kd.R_base ho1)) (fun _ h_ => h_.1));replace HO446:=Aside0.mk (Kd.R_mono (Kd.R_told (Kd.R_told (Kd.R_old (by (with_reducible repeat (first|apply Kd.R_alloc|apply Kd.R_drewN|apply Kd.R_drew));exact (Kd.R_mono (Kd.R_fars gb448 (Kd.R_types HO446.out BK448.out (by decide)) (fun _ hk => hk.2)) (fun _ h_ => h_.1))) hb) (Kd.R_base ho0)) (Kd.R_base ho1)) (fun _ h_ => h_.1));replace BK437:=Aside0.mk (blk_below (g:=gb437) (o:=.cells #[.int .i64 a0_0,.int .i64 a0_1,.slice A0_2 l0_2.length c0_2] 24 (0,0)) (by (with_reducible repeat (first|refine blk_drewN ?_ _|refine blk_drew ?_|refine blk_alloc ?_ _));refine blk_far ?_ NB437_448.out _;(with_reducible repeat (first|refine blk_drewN ?_ _|refine blk_drew ?_|refine blk_alloc ?_ _));refine blk_far ?_ NB437_448.out _;(with_reducible repeat (first|refine blk_drewN ?_ _|refine blk_drew ?_|refine blk_alloc ?_ _));exact BK437.out) hb);replace BK438:=Aside0.mk (blk_below (g:=gb438) (o:=.cells #[.slice A1_0 l1_0.length c1_0,.slice A1_1 l1_1.length c1_1] 26 (0,0)) (by (with_reducible repeat (first|refine blk_drewN ?_ _|refine blk_drew ?_|refine blk_alloc ?_ _));refine blk_far ?_ NB438_448.out _;(with_reducible repeat (first|refine blk_drewN ?_ _|refine blk_drew ?_|refine blk_alloc ?_ _));refine blk_far ?_ NB438_448.out _;(with_reducible repeat (first|refine blk_drewN ?_ _|refine blk_drew ?_|refine blk_alloc ?_ _));exact BK438.out) hb);replace BK448:=Aside0.mk (blk_below (g:=gb448) (o:=.cells #[.slice Ao27 t441.length co27,.slice Ao31 t444.length co31] 26 (0,0)) (by (with_reducible repeat (first|refine blk_drewN ?_ _|refine blk_drew ?_|refine blk_alloc ?_ _));exact blk_puts2 (blk_up BK448.out)) hb);replace HB:=hbs hb)|((with_reducible refine gate_dst (N:=9) rfl ?_);refine box_ev (N:=9) (cs:=#[.slice none 0 0,.slice none 0 0]) (t:=26) ?_;intro gb456 hg w35 hbox hb;have BK456:=Aside0.mk (hbox);have GW456 : Aside0 (w.heap.size ≤ gb456):=gsz hg;have GE456:=GW456;have NB437_456:=nbl BK437 hg;have NB456_437:=nbr BK437 hg;have NB438_456:=nbl BK438 hg;have NB456_438:=nbr BK438 hg;have NB448_456:=nbl BK448 hg;have NB456_448:=nbr BK448 hg;replace HO443:=rbw HO443 hb;replace HO446:=rbw HO446 hb;replace HO451:=rbw HO451 hb;replace HO454:=rbw HO454 hb;replace BK437:=bkb BK437 hb;replace BK438:=bkb BK438 hb;replace BK448:=bkb BK448 hb;replace HB:=hbs hb;clear hb hbox hg;obtain ⟨Ao36,co36,eo36⟩:=Kd.R_slice HO451.out;subst eo36;have hnb37:=NB456_437.out;have hnc37:=NB437_456.out;have hnb38:=NB456_438.out;have hnc38:=NB438_456.out;have hnb39:=NB456_448.out;have hnc39:=NB448_456.out;obtain ⟨_,_,_,_⟩:=cells2 BK456.out;obtain ⟨Ao41,co41,eo41⟩:=Kd.R_slice HO454.out;subst eo41))
  (try simp only [Act.put,List.setIfInBounds_toArray,List.set_cons_zero,List.set_cons_succ])
  go_cut [39] (fun v39 wc => ∃ (kq : Nat) (x39_15 : Bool),v39 = .bool x39_15 ∧ Aside0 (hinterlandlaw06_WaterMarks.j0 kq a2 t447 x39_15 a0_0 a0_1 l0_2 l1_0 l1_1 t441 t444 = some r) ∧ Aside0 (kq ≤ k) ∧ Aside0 (Kd.R (Kd.int .i64) 3 wc w.heap.size (fun k_ => some k_ ≠ ((.slice Ao31 t444.length co31) : Value).ownBlock ∧ some k_ ≠ ((.slice Ao36 t449.length co36) : Value).ownBlock ∧ some k_ ≠ ((.slice Ao41 t452.length co41) : Value).ownBlock) (.slice Ao27 t441.length co27) t441) ∧ Aside0 (Kd.R (Kd.int .i64) 3 wc w.heap.size (fun k_ => some k_ ≠ ((.slice Ao27 t441.length co27) : Value).ownBlock ∧ some k_ ≠ ((.slice Ao36 t449.length co36) : Value).ownBlock ∧ some k_ ≠ ((.slice Ao41 t452.length co41) : Value).ownBlock) (.slice Ao31 t444.length co31) t444) ∧ Aside0 (Kd.R (Kd.int .i64) 3 wc w.heap.size (fun k_ => some k_ ≠ ((.slice Ao27 t441.length co27) : Value).ownBlock ∧ some k_ ≠ ((.slice Ao31 t444.length co31) : Value).ownBlock ∧ some k_ ≠ ((.slice Ao41 t452.length co41) : Value).ownBlock) (.slice Ao36 t449.length co36) t449) ∧ Aside0 (Kd.R (Kd.int .i64) 3 wc w.heap.size (fun k_ => some k_ ≠ ((.slice Ao27 t441.length co27) : Value).ownBlock ∧ some k_ ≠ ((.slice Ao31 t444.length co31) : Value).ownBlock ∧ some k_ ≠ ((.slice Ao36 t449.length co36) : Value).ownBlock) (.slice Ao41 t452.length co41) t452) ∧ Aside0 (wc.heap[gb437]? = some (.cells #[.int .i64 a0_0,.int .i64 a0_1,(.slice A0_2 l0_2.length c0_2)] 24 (0,0))) ∧ Aside0 (wc.heap[gb438]? = some (.cells #[(.slice A1_0 l1_0.length c1_0),(.slice A1_1 l1_1.length c1_1)] 26 (0,0))) ∧ Aside0 (wc.heap[gb448]? = some (.cells #[(.slice Ao27 t441.length co27),(.slice Ao31 t444.length co31)] 26 (0,0))) ∧ Aside0 (wc.heap[gb456]? = some (.cells #[(.slice Ao36 t449.length co36),(.slice Ao41 t452.length co41)] 26 (0,0))) ∧ Aside0 (Below w.heap.size w wc))
  case first =>
   have H:=HC16.out
   clear HC16
   by_cases c42 : t447 = t455
   ·rw [if_pos c42] at H
    have c42b0:=bqt c42
    have c42b1:=bnf c42
    clear c42
    (first|rw [c42b0]|(simp only [i64_w,i32_w];rw [c42b0])|skip)
    replace H:=Option.bind_eq_some_iff.mp H
    obtain ⟨t457,A430,H⟩:=H
    replace H : (hinterlandlaw06_WaterMarks.j0 k a2 t447 (!t457) a0_0 a0_1 l0_2 l1_0 l1_1 t441 t444) = some r:=H
    have A43:=Aside0.mk A430
    clear A430
    have H':=Aside0.mk H
    clear H
    have hnb44:=NB448_437.out
    have hnc44:=NB437_448.out
    have hnb45:=NB448_438.out
    have hnc45:=NB438_448.out
    have hnb46:=NB448_456.out
    have hnc46:=NB456_448.out
    obtain ⟨_,_,_,_⟩:=cells2 BK448.out
    have hnb48:=NB456_437.out
    have hnc48:=NB437_456.out
    have hnb49:=NB456_438.out
    have hnc49:=NB438_456.out
    obtain ⟨_,_,_,_⟩:=cells2 BK456.out
    go_wp2_with (first|(go_at_call 30;(with_reducible refine (hinterlandsame_Waters.calls k _ _ t441 _ _ t444 _ _ t449 _ _ t452 t457 _ ?_ ?_ ?_ ?_ ?_ ?_ ?_ ?_ A43.out).mono ?_);exact rqs gb456 HO443 BK456;exact (Kd.R_reads' HO443.out).2.1;exact rqs gb456 HO446 BK456;exact (Kd.R_reads' HO446.out).2.1;exact rqs gb456 HO451 BK456;exact (Kd.R_reads' HO451.out).2.1;exact rqs gb456 HO454 BK456;exact (Kd.R_reads' HO454.out).2.1;rintro e w51 ⟨rfl,hb⟩;replace HO443:=Aside0.mk (Kd.R_below (by (with_reducible repeat (first|apply Kd.R_alloc|apply Kd.R_drewN|apply Kd.R_drew));exact (Kd.R_mono (Kd.R_fars gb456 (Kd.R_types HO443.out BK456.out (by decide)) (fun _ hk => hk.2)) (fun _ h_ => h_.1))) hb);replace HO446:=Aside0.mk (Kd.R_below (by (with_reducible repeat (first|apply Kd.R_alloc|apply Kd.R_drewN|apply Kd.R_drew));exact (Kd.R_mono (Kd.R_fars gb456 (Kd.R_types HO446.out BK456.out (by decide)) (fun _ hk => hk.2)) (fun _ h_ => h_.1))) hb);replace HO451:=Aside0.mk (Kd.R_below (by (with_reducible repeat (first|apply Kd.R_alloc|apply Kd.R_drewN|apply Kd.R_drew));exact (Kd.R_mono (Kd.R_fars gb456 (Kd.R_types HO451.out BK456.out (by decide)) (fun _ hk => hk.2)) (fun _ h_ => h_.1))) hb);replace HO454:=Aside0.mk (Kd.R_below (by (with_reducible repeat (first|apply Kd.R_alloc|apply Kd.R_drewN|apply Kd.R_drew));exact (Kd.R_mono (Kd.R_fars gb456 (Kd.R_types HO454.out BK456.out (by decide)) (fun _ hk => hk.2)) (fun _ h_ => h_.1))) hb);replace BK437:=Aside0.mk (blk_below (g:=gb437) (o:=.cells #[.int .i64 a0_0,.int .i64 a0_1,.slice A0_2 l0_2.length c0_2] 24 (0,0)) (by (with_reducible repeat (first|refine blk_drewN ?_ _|refine blk_drew ?_|refine blk_alloc ?_ _));refine blk_far ?_ NB437_456.out _;(with_reducible repeat (first|refine blk_drewN ?_ _|refine blk_drew ?_|refine blk_alloc ?_ _));refine blk_far ?_ NB437_456.out _;(with_reducible repeat (first|refine blk_drewN ?_ _|refine blk_drew ?_|refine blk_alloc ?_ _));exact BK437.out) hb);replace BK438:=Aside0.mk (blk_below (g:=gb438) (o:=.cells #[.slice A1_0 l1_0.length c1_0,.slice A1_1 l1_1.length c1_1] 26 (0,0)) (by (with_reducible repeat (first|refine blk_drewN ?_ _|refine blk_drew ?_|refine blk_alloc ?_ _));refine blk_far ?_ NB438_456.out _;(with_reducible repeat (first|refine blk_drewN ?_ _|refine blk_drew ?_|refine blk_alloc ?_ _));refine blk_far ?_ NB438_456.out _;(with_reducible repeat (first|refine blk_drewN ?_ _|refine blk_drew ?_|refine blk_alloc ?_ _));exact BK438.out) hb);replace BK448:=Aside0.mk (blk_below (g:=gb448) (o:=.cells #[.slice Ao27 t441.length co27,.slice Ao31 t444.length co31] 26 (0,0)) (by (with_reducible repeat (first|refine blk_drewN ?_ _|refine blk_drew ?_|refine blk_alloc ?_ _));refine blk_far ?_ NB448_456.out _;(with_reducible repeat (first|refine blk_drewN ?_ _|refine blk_drew ?_|refine blk_alloc ?_ _));refine blk_far ?_ NB448_456.out _;(with_reducible repeat (first|refine blk_drewN ?_ _|refine blk_drew ?_|refine blk_alloc ?_ _));exact BK448.out) hb);replace BK456:=Aside0.mk (blk_below (g:=gb456) (o:=.cells #[.slice Ao36 t449.length co36,.slice Ao41 t452.length co41] 26 (0,0)) (by (with_reducible repeat (first|refine blk_drewN ?_ _|refine blk_drew ?_|refine blk_alloc ?_ _));exact blk_puts2 (blk_up BK456.out)) hb);replace HB:=hbs hb))
    go_meet
    case rel => exact ⟨_,(!t457),(by first|rfl|(simp;done)|(simp [*];done)),H',⟨by first|omega|exact Nat.le_refl _⟩,⟨by (with_reducible repeat (first|apply Kd.R_alloc|apply Kd.R_drewN|apply Kd.R_drew));exact Kd.R_mono HO443.out (fun _ hk => ⟨hk.1.1,⟨hk.1.2,hk.2⟩⟩)⟩,⟨by (with_reducible repeat (first|apply Kd.R_alloc|apply Kd.R_drewN|apply Kd.R_drew));exact Kd.R_mono HO446.out (fun _ hk => ⟨hk.1.1,⟨hk.1.2,hk.2⟩⟩)⟩,⟨by (with_reducible repeat (first|apply Kd.R_alloc|apply Kd.R_drewN|apply Kd.R_drew));exact Kd.R_mono HO451.out (fun _ hk => ⟨hk.1.2,⟨hk.2,hk.1.1⟩⟩)⟩,⟨by (with_reducible repeat (first|apply Kd.R_alloc|apply Kd.R_drewN|apply Kd.R_drew));exact Kd.R_mono HO454.out (fun _ hk => ⟨hk.1.2,⟨hk.2,hk.1.1⟩⟩)⟩,⟨blk_up BK437.out⟩,⟨blk_up BK438.out⟩,⟨blk_up BK448.out⟩,⟨blk_up BK456.out⟩,⟨hb_⟩⟩
   ·rw [if_neg c42] at H
    have c42b0:=bqf c42
    have c42b1:=bnt c42
    (first|rw [c42b0]|(simp only [i64_w,i32_w];rw [c42b0])|skip)
    have H':=Aside0.mk H
    clear H
    go_wp2
    go_meet
    case rel => exact ⟨_,(true),(by first|rfl|(simp;done)|(simp [*];done)),H',⟨by first|omega|exact Nat.le_refl _⟩,⟨by (with_reducible repeat (first|apply Kd.R_alloc|apply Kd.R_drewN|apply Kd.R_drew));exact Kd.R_mono (Kd.R_fars gb456 (Kd.R_types HO443.out BK456.out (by decide)) (fun _ hk => hk.2)) (fun _ hk => ⟨hk.1.1.1,⟨hk.1.1.2,hk.1.2⟩⟩)⟩,⟨by (with_reducible repeat (first|apply Kd.R_alloc|apply Kd.R_drewN|apply Kd.R_drew));exact Kd.R_mono (Kd.R_fars gb456 (Kd.R_types HO446.out BK456.out (by decide)) (fun _ hk => hk.2)) (fun _ hk => ⟨hk.1.1.1,⟨hk.1.1.2,hk.1.2⟩⟩)⟩,⟨by (with_reducible repeat (first|apply Kd.R_alloc|apply Kd.R_drewN|apply Kd.R_drew));exact Kd.R_mono (Kd.R_fars gb456 (Kd.R_types HO451.out BK456.out (by decide)) (fun _ hk => hk.2)) (fun _ hk => ⟨hk.1.1.2,⟨hk.1.2,hk.1.1.1⟩⟩)⟩,⟨by (with_reducible repeat (first|apply Kd.R_alloc|apply Kd.R_drewN|apply Kd.R_drew));exact Kd.R_mono (Kd.R_fars gb456 (Kd.R_types HO454.out BK456.out (by decide)) (fun _ hk => hk.2)) (fun _ hk => ⟨hk.1.1.2,⟨hk.1.2,hk.1.1.1⟩⟩)⟩,⟨by (with_reducible repeat (first|refine blk_drewN ?_ _|refine blk_drew ?_|refine blk_alloc ?_ _));refine blk_far ?_ NB437_456.out _;(with_reducible repeat (first|refine blk_drewN ?_ _|refine blk_drew ?_|refine blk_alloc ?_ _));refine blk_far ?_ NB437_456.out _;(with_reducible repeat (first|refine blk_drewN ?_ _|refine blk_drew ?_|refine blk_alloc ?_ _));exact BK437.out⟩,⟨by (with_reducible repeat (first|refine blk_drewN ?_ _|refine blk_drew ?_|refine blk_alloc ?_ _));refine blk_far ?_ NB438_456.out _;(with_reducible repeat (first|refine blk_drewN ?_ _|refine blk_drew ?_|refine blk_alloc ?_ _));refine blk_far ?_ NB438_456.out _;(with_reducible repeat (first|refine blk_drewN ?_ _|refine blk_drew ?_|refine blk_alloc ?_ _));exact BK438.out⟩,⟨by (with_reducible repeat (first|refine blk_drewN ?_ _|refine blk_drew ?_|refine blk_alloc ?_ _));refine blk_far ?_ NB448_456.out _;(with_reducible repeat (first|refine blk_drewN ?_ _|refine blk_drew ?_|refine blk_alloc ?_ _));refine blk_far ?_ NB448_456.out _;(with_reducible repeat (first|refine blk_drewN ?_ _|refine blk_drew ?_|refine blk_alloc ?_ _));exact BK448.out⟩,⟨by (with_reducible repeat (first|refine blk_drewN ?_ _|refine blk_drew ?_|refine blk_alloc ?_ _));exact blk_puts2 (blk_up BK456.out)⟩,⟨hb_⟩⟩
  case rest =>
   clear HC16
   obtain ⟨kq,x39_15,rfl,HA,HJ15,HO_449000,HO_449001,HO_457000,HO_457001,BK437,BK438,BK448,BK456,HB⟩:=hcut
   cases kq with
   | zero => exact absurd HA.out (by simp [hinterlandlaw06_WaterMarks.j0])
   | succ kj15 =>
    have H:=HA.out
    clear HA
    simp only [hinterlandlaw06_WaterMarks.j0] at H
    by_cases c52 : x39_15 = true
    ·subst c52
     have H1 : (some false) = some r:=by rw [if_pos rfl] at H;exact H
     clear H
     have H:=H1
     clear H1
     obtain rfl:=Option.some.inj H
     go_wp2
     go_ret
     exact ⟨er_,hb_⟩
    ·replace c52:=Bool.eq_false_iff.mpr c52
     subst c52
     have H1 : ((water_Mark.f kj15 a0_0 a0_1 l0_2 t441 t444 a2).bind fun bt458 => (if t447 = 0 then (if bt458.2.2 = 0 then ((hinterlandsame_Waters.f kj15 bt458.1 bt458.2.1 l1_0 l1_1).bind fun t466 => (if t466 = true then ((hinterlandlaw06_known.f kj15).bind fun t467 => (some t467)) else (some false))) else (some false)) else ((hinterlandlaw06_known.f kj15).bind fun t468 => (some t468)))) = some r:=by rw [if_neg (show ¬ (false = true) by decide)] at H;exact H
     clear H
     have H:=H1
     clear H1
     replace H:=Option.bind_eq_some_iff.mp H
     obtain ⟨⟨t458,t461,t464⟩,A530,H⟩:=H
     replace H : (if t447 = 0 then (if t464 = 0 then ((hinterlandsame_Waters.f kj15 t458 t461 l1_0 l1_1).bind fun t466 => (if t466 = true then ((hinterlandlaw06_known.f kj15).bind fun t467 => (some t467)) else (some false))) else (some false)) else ((hinterlandlaw06_known.f kj15).bind fun t468 => (some t468))) = some r:=H
     have A53:=Aside0.mk A530
     clear A530
     by_cases c54 : t447 = 0
     rotate_left
     ·rw [if_neg c54] at H
      have c54b0:=bqf c54
      have c54b1:=bnt c54
      replace H:=Option.bind_eq_some_iff.mp H
      obtain ⟨t468,A1140,H⟩:=H
      replace H : (some t468) = some r:=H
      have A114:=Aside0.mk A1140
      clear A1140
      obtain rfl:=Option.some.inj H
      have hnb115:=NB437_438.out
      have hnc115:=NB438_437.out
      have hnb116:=NB437_448.out
      have hnc116:=NB448_437.out
      have hnb117:=NB437_456.out
      have hnc117:=NB456_437.out
      obtain ⟨_,_,_,_,_,_⟩:=cells3 BK437.out
      have hnb119:=NB448_438.out
      have hnc119:=NB438_448.out
      have hnb120:=NB448_456.out
      have hnc120:=NB456_448.out
      obtain ⟨_,_,_,_⟩:=cells2 BK448.out
      go_wp2_with (first|((with_reducible refine gate_callee (f:=37) rfl ?_);refine goesL_ (some 44) rfl rfl Try.func37 (by kernel_rfl) rfl #[.agg #[.int .i64 a0_0,.int .i64 a0_1,.slice A0_2 l0_2.length c0_2],.agg #[.slice Ao27 t441.length co27,.slice Ao31 t444.length co31],.int .i64 a2] rfl ga_ ?_;(with_reducible refine (water_Mark.calls kj15 a0_0 a0_1 _ _ l0_2 _ _ t441 _ _ t444 a2 t458 t461 t464 _ ?_ ?_ ?_ ?_ ?_ ?_ A53.out).mono ?_);exact cq HR0_2;exact HC0_2.out;exact Kd.C_up (Kd.R_reads' HO_449000.out).2.2;exact (Kd.R_reads' HO_449000.out).2.1;exact Kd.C_up (Kd.R_reads' HO_449001.out).2.2;exact (Kd.R_reads' HO_449001.out).2.1;rintro e w122 ⟨v459,v462,rfl,ho0,ho1,hb⟩;refine ⟨_,rfl,?_⟩;have HO460:=Aside0.mk (Kd.R_lower (Kd.R_new' (Kd.R_new' (Kd.R_new' (Kd.R_new' ho0 (Kd.R_lt (Kd.R_up HO_449000.out))) (Kd.R_lt (Kd.R_up HO_449001.out))) (Kd.R_lt (Kd.R_up HO_457000.out))) (Kd.R_lt (Kd.R_up HO_457001.out))) (below_size (hb_)));have HO463:=Aside0.mk (Kd.R_lower (Kd.R_new' (Kd.R_new' (Kd.R_new' (Kd.R_new' ho1 (Kd.R_lt (Kd.R_up HO_449000.out))) (Kd.R_lt (Kd.R_up HO_449001.out))) (Kd.R_lt (Kd.R_up HO_457000.out))) (Kd.R_lt (Kd.R_up HO_457001.out))) (below_size (hb_)));replace HO_449000:=Aside0.mk (Kd.R_mono (Kd.R_told (Kd.R_told (Kd.R_old (Kd.R_up HO_449000.out) hb) (Kd.R_base ho0)) (Kd.R_base ho1)) (fun _ h_ => h_.1));replace HO_449001:=Aside0.mk (Kd.R_mono (Kd.R_told (Kd.R_told (Kd.R_old (Kd.R_up HO_449001.out) hb) (Kd.R_base ho0)) (Kd.R_base ho1)) (fun _ h_ => h_.1));replace HO_457000:=Aside0.mk (Kd.R_mono (Kd.R_told (Kd.R_told (Kd.R_old (Kd.R_up HO_457000.out) hb) (Kd.R_base ho0)) (Kd.R_base ho1)) (fun _ h_ => h_.1));replace HO_457001:=Aside0.mk (Kd.R_mono (Kd.R_told (Kd.R_told (Kd.R_old (Kd.R_up HO_457001.out) hb) (Kd.R_base ho0)) (Kd.R_base ho1)) (fun _ h_ => h_.1));replace BK437:=bkb BK437 hb;replace BK438:=bkb BK438 hb;replace BK448:=bkb BK448 hb;replace BK456:=bkb BK456 hb;replace HB:=hbs hb)|((with_reducible refine gate_dst (N:=11) rfl ?_);refine box_ev (N:=11) (cs:=#[.slice none 0 0,.slice none 0 0]) (t:=26) ?_;intro gb465 hg w123 hbox hb;have BK465:=Aside0.mk (hbox);have GW465 : Aside0 (w.heap.size ≤ gb465):=gsz hg;have GE465:=GW465;have NB437_465:=nbl BK437 hg;have NB465_437:=nbr BK437 hg;have NB438_465:=nbl BK438 hg;have NB465_438:=nbr BK438 hg;have NB448_465:=nbl BK448 hg;have NB465_448:=nbr BK448 hg;have NB456_465:=nbl BK456 hg;have NB465_456:=nbr BK456 hg;replace HO_449000:=rbw HO_449000 hb;replace HO_449001:=rbw HO_449001 hb;replace HO_457000:=rbw HO_457000 hb;replace HO_457001:=rbw HO_457001 hb;replace HO460:=rbw HO460 hb;replace HO463:=rbw HO463 hb;replace BK437:=bkb BK437 hb;replace BK438:=bkb BK438 hb;replace BK448:=bkb BK448 hb;replace BK456:=bkb BK456 hb;replace HB:=hbs hb;clear hb hbox hg;obtain ⟨Ao124,co124,eo124⟩:=Kd.R_slice HO460.out;subst eo124;have hnb125:=NB465_437.out;have hnc125:=NB437_465.out;have hnb126:=NB465_438.out;have hnc126:=NB438_465.out;have hnb127:=NB465_448.out;have hnc127:=NB448_465.out;have hnb128:=NB465_456.out;have hnc128:=NB456_465.out;obtain ⟨_,_,_,_⟩:=cells2 BK465.out;obtain ⟨Ao130,co130,eo130⟩:=Kd.R_slice HO463.out;subst eo130)|(go_at_call 15;(with_reducible refine (hinterlandlaw06_known.calls kj15  t468 _ A114.out).mono ?_);rintro e w131 ⟨rfl,hb⟩;replace HO_449000:=Aside0.mk (Kd.R_below (by (with_reducible repeat (first|apply Kd.R_alloc|apply Kd.R_drewN|apply Kd.R_drew));exact (Kd.R_mono (Kd.R_fars gb465 (Kd.R_types HO_449000.out BK465.out (by decide)) (fun _ hk => hk.2)) (fun _ h_ => h_.1))) hb);replace HO_449001:=Aside0.mk (Kd.R_below (by (with_reducible repeat (first|apply Kd.R_alloc|apply Kd.R_drewN|apply Kd.R_drew));exact (Kd.R_mono (Kd.R_fars gb465 (Kd.R_types HO_449001.out BK465.out (by decide)) (fun _ hk => hk.2)) (fun _ h_ => h_.1))) hb);replace HO_457000:=Aside0.mk (Kd.R_below (by (with_reducible repeat (first|apply Kd.R_alloc|apply Kd.R_drewN|apply Kd.R_drew));exact (Kd.R_mono (Kd.R_fars gb465 (Kd.R_types HO_457000.out BK465.out (by decide)) (fun _ hk => hk.2)) (fun _ h_ => h_.1))) hb);replace HO_457001:=Aside0.mk (Kd.R_below (by (with_reducible repeat (first|apply Kd.R_alloc|apply Kd.R_drewN|apply Kd.R_drew));exact (Kd.R_mono (Kd.R_fars gb465 (Kd.R_types HO_457001.out BK465.out (by decide)) (fun _ hk => hk.2)) (fun _ h_ => h_.1))) hb);replace HO460:=Aside0.mk (Kd.R_below (by (with_reducible repeat (first|apply Kd.R_alloc|apply Kd.R_drewN|apply Kd.R_drew));exact (Kd.R_mono (Kd.R_fars gb465 (Kd.R_types HO460.out BK465.out (by decide)) (fun _ hk => hk.2)) (fun _ h_ => h_.1))) hb);replace HO463:=Aside0.mk (Kd.R_below (by (with_reducible repeat (first|apply Kd.R_alloc|apply Kd.R_drewN|apply Kd.R_drew));exact (Kd.R_mono (Kd.R_fars gb465 (Kd.R_types HO463.out BK465.out (by decide)) (fun _ hk => hk.2)) (fun _ h_ => h_.1))) hb);replace BK437:=Aside0.mk (blk_below (g:=gb437) (o:=.cells #[.int .i64 a0_0,.int .i64 a0_1,.slice A0_2 l0_2.length c0_2] 24 (0,0)) (by (with_reducible repeat (first|refine blk_drewN ?_ _|refine blk_drew ?_|refine blk_alloc ?_ _));refine blk_far ?_ NB437_465.out _;(with_reducible repeat (first|refine blk_drewN ?_ _|refine blk_drew ?_|refine blk_alloc ?_ _));refine blk_far ?_ NB437_465.out _;(with_reducible repeat (first|refine blk_drewN ?_ _|refine blk_drew ?_|refine blk_alloc ?_ _));exact BK437.out) hb);replace BK438:=Aside0.mk (blk_below (g:=gb438) (o:=.cells #[.slice A1_0 l1_0.length c1_0,.slice A1_1 l1_1.length c1_1] 26 (0,0)) (by (with_reducible repeat (first|refine blk_drewN ?_ _|refine blk_drew ?_|refine blk_alloc ?_ _));refine blk_far ?_ NB438_465.out _;(with_reducible repeat (first|refine blk_drewN ?_ _|refine blk_drew ?_|refine blk_alloc ?_ _));refine blk_far ?_ NB438_465.out _;(with_reducible repeat (first|refine blk_drewN ?_ _|refine blk_drew ?_|refine blk_alloc ?_ _));exact BK438.out) hb);replace BK448:=Aside0.mk (blk_below (g:=gb448) (o:=.cells #[.slice Ao27 t441.length co27,.slice Ao31 t444.length co31] 26 (0,0)) (by (with_reducible repeat (first|refine blk_drewN ?_ _|refine blk_drew ?_|refine blk_alloc ?_ _));refine blk_far ?_ NB448_465.out _;(with_reducible repeat (first|refine blk_drewN ?_ _|refine blk_drew ?_|refine blk_alloc ?_ _));refine blk_far ?_ NB448_465.out _;(with_reducible repeat (first|refine blk_drewN ?_ _|refine blk_drew ?_|refine blk_alloc ?_ _));exact BK448.out) hb);replace BK456:=Aside0.mk (blk_below (g:=gb456) (o:=.cells #[.slice Ao36 t449.length co36,.slice Ao41 t452.length co41] 26 (0,0)) (by (with_reducible repeat (first|refine blk_drewN ?_ _|refine blk_drew ?_|refine blk_alloc ?_ _));refine blk_far ?_ NB456_465.out _;(with_reducible repeat (first|refine blk_drewN ?_ _|refine blk_drew ?_|refine blk_alloc ?_ _));refine blk_far ?_ NB456_465.out _;(with_reducible repeat (first|refine blk_drewN ?_ _|refine blk_drew ?_|refine blk_alloc ?_ _));exact BK456.out) hb);replace BK465:=Aside0.mk (blk_below (g:=gb465) (o:=.cells #[.slice Ao124 t458.length co124,.slice Ao130 t461.length co130] 26 (0,0)) (by (with_reducible repeat (first|refine blk_drewN ?_ _|refine blk_drew ?_|refine blk_alloc ?_ _));exact blk_puts2 (blk_up BK465.out)) hb);replace HB:=hbs hb))
      go_ret
      exact ⟨er_,hb_⟩
     rw [if_pos c54] at H
     have c54b0:=bqt c54
     have c54b1:=bnf c54
     clear c54
     by_cases c55 : t464 = 0
     rotate_left
     ·rw [if_neg c55] at H
      have c55b0:=bqf c55
      have c55b1:=bnt c55
      obtain rfl:=Option.some.inj H
      have hnb98:=NB437_438.out
      have hnc98:=NB438_437.out
      have hnb99:=NB437_448.out
      have hnc99:=NB448_437.out
      have hnb100:=NB437_456.out
      have hnc100:=NB456_437.out
      obtain ⟨_,_,_,_,_,_⟩:=cells3 BK437.out
      have hnb102:=NB448_438.out
      have hnc102:=NB438_448.out
      have hnb103:=NB448_456.out
      have hnc103:=NB456_448.out
      obtain ⟨_,_,_,_⟩:=cells2 BK448.out
      go_wp2_with (first|((with_reducible refine gate_callee (f:=37) rfl ?_);refine goesL_ (some 44) rfl rfl Try.func37 (by kernel_rfl) rfl #[.agg #[.int .i64 a0_0,.int .i64 a0_1,.slice A0_2 l0_2.length c0_2],.agg #[.slice Ao27 t441.length co27,.slice Ao31 t444.length co31],.int .i64 a2] rfl ga_ ?_;(with_reducible refine (water_Mark.calls kj15 a0_0 a0_1 _ _ l0_2 _ _ t441 _ _ t444 a2 t458 t461 t464 _ ?_ ?_ ?_ ?_ ?_ ?_ A53.out).mono ?_);exact cq HR0_2;exact HC0_2.out;exact Kd.C_up (Kd.R_reads' HO_449000.out).2.2;exact (Kd.R_reads' HO_449000.out).2.1;exact Kd.C_up (Kd.R_reads' HO_449001.out).2.2;exact (Kd.R_reads' HO_449001.out).2.1;rintro e w105 ⟨v459,v462,rfl,ho0,ho1,hb⟩;refine ⟨_,rfl,?_⟩;have HO460:=Aside0.mk (Kd.R_lower (Kd.R_new' (Kd.R_new' (Kd.R_new' (Kd.R_new' ho0 (Kd.R_lt (Kd.R_up HO_449000.out))) (Kd.R_lt (Kd.R_up HO_449001.out))) (Kd.R_lt (Kd.R_up HO_457000.out))) (Kd.R_lt (Kd.R_up HO_457001.out))) (below_size (hb_)));have HO463:=Aside0.mk (Kd.R_lower (Kd.R_new' (Kd.R_new' (Kd.R_new' (Kd.R_new' ho1 (Kd.R_lt (Kd.R_up HO_449000.out))) (Kd.R_lt (Kd.R_up HO_449001.out))) (Kd.R_lt (Kd.R_up HO_457000.out))) (Kd.R_lt (Kd.R_up HO_457001.out))) (below_size (hb_)));replace HO_449000:=Aside0.mk (Kd.R_mono (Kd.R_told (Kd.R_told (Kd.R_old (Kd.R_up HO_449000.out) hb) (Kd.R_base ho0)) (Kd.R_base ho1)) (fun _ h_ => h_.1));replace HO_449001:=Aside0.mk (Kd.R_mono (Kd.R_told (Kd.R_told (Kd.R_old (Kd.R_up HO_449001.out) hb) (Kd.R_base ho0)) (Kd.R_base ho1)) (fun _ h_ => h_.1));replace HO_457000:=Aside0.mk (Kd.R_mono (Kd.R_told (Kd.R_told (Kd.R_old (Kd.R_up HO_457000.out) hb) (Kd.R_base ho0)) (Kd.R_base ho1)) (fun _ h_ => h_.1));replace HO_457001:=Aside0.mk (Kd.R_mono (Kd.R_told (Kd.R_told (Kd.R_old (Kd.R_up HO_457001.out) hb) (Kd.R_base ho0)) (Kd.R_base ho1)) (fun _ h_ => h_.1));replace BK437:=bkb BK437 hb;replace BK438:=bkb BK438 hb;replace BK448:=bkb BK448 hb;replace BK456:=bkb BK456 hb;replace HB:=hbs hb)|((with_reducible refine gate_dst (N:=11) rfl ?_);refine box_ev (N:=11) (cs:=#[.slice none 0 0,.slice none 0 0]) (t:=26) ?_;intro gb465 hg w106 hbox hb;have BK465:=Aside0.mk (hbox);have GW465 : Aside0 (w.heap.size ≤ gb465):=gsz hg;have GE465:=GW465;have NB437_465:=nbl BK437 hg;have NB465_437:=nbr BK437 hg;have NB438_465:=nbl BK438 hg;have NB465_438:=nbr BK438 hg;have NB448_465:=nbl BK448 hg;have NB465_448:=nbr BK448 hg;have NB456_465:=nbl BK456 hg;have NB465_456:=nbr BK456 hg;replace HO_449000:=rbw HO_449000 hb;replace HO_449001:=rbw HO_449001 hb;replace HO_457000:=rbw HO_457000 hb;replace HO_457001:=rbw HO_457001 hb;replace HO460:=rbw HO460 hb;replace HO463:=rbw HO463 hb;replace BK437:=bkb BK437 hb;replace BK438:=bkb BK438 hb;replace BK448:=bkb BK448 hb;replace BK456:=bkb BK456 hb;replace HB:=hbs hb;clear hb hbox hg;obtain ⟨Ao107,co107,eo107⟩:=Kd.R_slice HO460.out;subst eo107;have hnb108:=NB465_437.out;have hnc108:=NB437_465.out;have hnb109:=NB465_438.out;have hnc109:=NB438_465.out;have hnb110:=NB465_448.out;have hnc110:=NB448_465.out;have hnb111:=NB465_456.out;have hnc111:=NB456_465.out;obtain ⟨_,_,_,_⟩:=cells2 BK465.out;obtain ⟨Ao113,co113,eo113⟩:=Kd.R_slice HO463.out;subst eo113))
      go_ret
      exact ⟨er_,hb_⟩
     rw [if_pos c55] at H
     have c55b0:=bqt c55
     have c55b1:=bnf c55
     clear c55
     replace H:=Option.bind_eq_some_iff.mp H
     obtain ⟨t466,A560,H⟩:=H
     replace H : (if t466 = true then ((hinterlandlaw06_known.f kj15).bind fun t467 => (some t467)) else (some false)) = some r:=H
     have A56:=Aside0.mk A560
     clear A560
     by_cases c57 : t466 = true
     ·subst c57
      have H1 : ((hinterlandlaw06_known.f kj15).bind fun t467 => (some t467)) = some r:=by rw [if_pos rfl] at H;exact H
      clear H
      have H:=H1
      clear H1
      replace H:=Option.bind_eq_some_iff.mp H
      obtain ⟨t467,A580,H⟩:=H
      replace H : (some t467) = some r:=H
      have A58:=Aside0.mk A580
      clear A580
      obtain rfl:=Option.some.inj H
      have hnb59:=NB437_438.out
      have hnc59:=NB438_437.out
      have hnb60:=NB437_448.out
      have hnc60:=NB448_437.out
      have hnb61:=NB437_456.out
      have hnc61:=NB456_437.out
      obtain ⟨_,_,_,_,_,_⟩:=cells3 BK437.out
      have hnb63:=NB448_438.out
      have hnc63:=NB438_448.out
      have hnb64:=NB448_456.out
      have hnc64:=NB456_448.out
      obtain ⟨_,_,_,_⟩:=cells2 BK448.out
      go_wp2_with (first|((with_reducible refine gate_callee (f:=37) rfl ?_);refine goesL_ (some 44) rfl rfl Try.func37 (by kernel_rfl) rfl #[.agg #[.int .i64 a0_0,.int .i64 a0_1,.slice A0_2 l0_2.length c0_2],.agg #[.slice Ao27 t441.length co27,.slice Ao31 t444.length co31],.int .i64 a2] rfl ga_ ?_;(with_reducible refine (water_Mark.calls kj15 a0_0 a0_1 _ _ l0_2 _ _ t441 _ _ t444 a2 t458 t461 t464 _ ?_ ?_ ?_ ?_ ?_ ?_ A53.out).mono ?_);exact cq HR0_2;exact HC0_2.out;exact Kd.C_up (Kd.R_reads' HO_449000.out).2.2;exact (Kd.R_reads' HO_449000.out).2.1;exact Kd.C_up (Kd.R_reads' HO_449001.out).2.2;exact (Kd.R_reads' HO_449001.out).2.1;rintro e w66 ⟨v459,v462,rfl,ho0,ho1,hb⟩;refine ⟨_,rfl,?_⟩;have HO460:=Aside0.mk (Kd.R_lower (Kd.R_new' (Kd.R_new' (Kd.R_new' (Kd.R_new' ho0 (Kd.R_lt (Kd.R_up HO_449000.out))) (Kd.R_lt (Kd.R_up HO_449001.out))) (Kd.R_lt (Kd.R_up HO_457000.out))) (Kd.R_lt (Kd.R_up HO_457001.out))) (below_size (hb_)));have HO463:=Aside0.mk (Kd.R_lower (Kd.R_new' (Kd.R_new' (Kd.R_new' (Kd.R_new' ho1 (Kd.R_lt (Kd.R_up HO_449000.out))) (Kd.R_lt (Kd.R_up HO_449001.out))) (Kd.R_lt (Kd.R_up HO_457000.out))) (Kd.R_lt (Kd.R_up HO_457001.out))) (below_size (hb_)));replace HO_449000:=Aside0.mk (Kd.R_mono (Kd.R_told (Kd.R_told (Kd.R_old (Kd.R_up HO_449000.out) hb) (Kd.R_base ho0)) (Kd.R_base ho1)) (fun _ h_ => h_.1));replace HO_449001:=Aside0.mk (Kd.R_mono (Kd.R_told (Kd.R_told (Kd.R_old (Kd.R_up HO_449001.out) hb) (Kd.R_base ho0)) (Kd.R_base ho1)) (fun _ h_ => h_.1));replace HO_457000:=Aside0.mk (Kd.R_mono (Kd.R_told (Kd.R_told (Kd.R_old (Kd.R_up HO_457000.out) hb) (Kd.R_base ho0)) (Kd.R_base ho1)) (fun _ h_ => h_.1));replace HO_457001:=Aside0.mk (Kd.R_mono (Kd.R_told (Kd.R_told (Kd.R_old (Kd.R_up HO_457001.out) hb) (Kd.R_base ho0)) (Kd.R_base ho1)) (fun _ h_ => h_.1));replace BK437:=bkb BK437 hb;replace BK438:=bkb BK438 hb;replace BK448:=bkb BK448 hb;replace BK456:=bkb BK456 hb;replace HB:=hbs hb)|((with_reducible refine gate_dst (N:=11) rfl ?_);refine box_ev (N:=11) (cs:=#[.slice none 0 0,.slice none 0 0]) (t:=26) ?_;intro gb465 hg w67 hbox hb;have BK465:=Aside0.mk (hbox);have GW465 : Aside0 (w.heap.size ≤ gb465):=gsz hg;have GE465:=GW465;have NB437_465:=nbl BK437 hg;have NB465_437:=nbr BK437 hg;have NB438_465:=nbl BK438 hg;have NB465_438:=nbr BK438 hg;have NB448_465:=nbl BK448 hg;have NB465_448:=nbr BK448 hg;have NB456_465:=nbl BK456 hg;have NB465_456:=nbr BK456 hg;replace HO_449000:=rbw HO_449000 hb;replace HO_449001:=rbw HO_449001 hb;replace HO_457000:=rbw HO_457000 hb;replace HO_457001:=rbw HO_457001 hb;replace HO460:=rbw HO460 hb;replace HO463:=rbw HO463 hb;replace BK437:=bkb BK437 hb;replace BK438:=bkb BK438 hb;replace BK448:=bkb BK448 hb;replace BK456:=bkb BK456 hb;replace HB:=hbs hb;clear hb hbox hg;obtain ⟨Ao68,co68,eo68⟩:=Kd.R_slice HO460.out;subst eo68;have hnb69:=NB465_437.out;have hnc69:=NB437_465.out;have hnb70:=NB465_438.out;have hnc70:=NB438_465.out;have hnb71:=NB465_448.out;have hnc71:=NB448_465.out;have hnb72:=NB465_456.out;have hnc72:=NB456_465.out;obtain ⟨_,_,_,_⟩:=cells2 BK465.out;obtain ⟨Ao74,co74,eo74⟩:=Kd.R_slice HO463.out;subst eo74;have hnb75:=NB438_456.out;have hnc75:=NB456_438.out;obtain ⟨_,_,_,_⟩:=cells2 BK438.out)|(go_at_call 30;(with_reducible refine (hinterlandsame_Waters.calls kj15 _ _ t458 _ _ t461 _ _ l1_0 _ _ l1_1 true _ ?_ ?_ ?_ ?_ ?_ ?_ ?_ ?_ A56.out).mono ?_);exact rqs gb465 HO460 BK465;exact (Kd.R_reads' HO460.out).2.1;exact rqs gb465 HO463 BK465;exact (Kd.R_reads' HO463.out).2.1;exact Kd.C_below HR1_0.out (hb_);exact HC1_0.out;exact Kd.C_below HR1_1.out (hb_);exact HC1_1.out;rintro e w77 ⟨rfl,hb⟩;replace HO_449000:=Aside0.mk (Kd.R_below (by (with_reducible repeat (first|apply Kd.R_alloc|apply Kd.R_drewN|apply Kd.R_drew));exact (Kd.R_mono (Kd.R_fars gb465 (Kd.R_types HO_449000.out BK465.out (by decide)) (fun _ hk => hk.2)) (fun _ h_ => h_.1))) hb);replace HO_449001:=Aside0.mk (Kd.R_below (by (with_reducible repeat (first|apply Kd.R_alloc|apply Kd.R_drewN|apply Kd.R_drew));exact (Kd.R_mono (Kd.R_fars gb465 (Kd.R_types HO_449001.out BK465.out (by decide)) (fun _ hk => hk.2)) (fun _ h_ => h_.1))) hb);replace HO_457000:=Aside0.mk (Kd.R_below (by (with_reducible repeat (first|apply Kd.R_alloc|apply Kd.R_drewN|apply Kd.R_drew));exact (Kd.R_mono (Kd.R_fars gb465 (Kd.R_types HO_457000.out BK465.out (by decide)) (fun _ hk => hk.2)) (fun _ h_ => h_.1))) hb);replace HO_457001:=Aside0.mk (Kd.R_below (by (with_reducible repeat (first|apply Kd.R_alloc|apply Kd.R_drewN|apply Kd.R_drew));exact (Kd.R_mono (Kd.R_fars gb465 (Kd.R_types HO_457001.out BK465.out (by decide)) (fun _ hk => hk.2)) (fun _ h_ => h_.1))) hb);replace HO460:=Aside0.mk (Kd.R_below (by (with_reducible repeat (first|apply Kd.R_alloc|apply Kd.R_drewN|apply Kd.R_drew));exact (Kd.R_mono (Kd.R_fars gb465 (Kd.R_types HO460.out BK465.out (by decide)) (fun _ hk => hk.2)) (fun _ h_ => h_.1))) hb);replace HO463:=Aside0.mk (Kd.R_below (by (with_reducible repeat (first|apply Kd.R_alloc|apply Kd.R_drewN|apply Kd.R_drew));exact (Kd.R_mono (Kd.R_fars gb465 (Kd.R_types HO463.out BK465.out (by decide)) (fun _ hk => hk.2)) (fun _ h_ => h_.1))) hb);replace BK437:=Aside0.mk (blk_below (g:=gb437) (o:=.cells #[.int .i64 a0_0,.int .i64 a0_1,.slice A0_2 l0_2.length c0_2] 24 (0,0)) (by (with_reducible repeat (first|refine blk_drewN ?_ _|refine blk_drew ?_|refine blk_alloc ?_ _));refine blk_far ?_ NB437_465.out _;(with_reducible repeat (first|refine blk_drewN ?_ _|refine blk_drew ?_|refine blk_alloc ?_ _));refine blk_far ?_ NB437_465.out _;(with_reducible repeat (first|refine blk_drewN ?_ _|refine blk_drew ?_|refine blk_alloc ?_ _));exact BK437.out) hb);replace BK438:=Aside0.mk (blk_below (g:=gb438) (o:=.cells #[.slice A1_0 l1_0.length c1_0,.slice A1_1 l1_1.length c1_1] 26 (0,0)) (by (with_reducible repeat (first|refine blk_drewN ?_ _|refine blk_drew ?_|refine blk_alloc ?_ _));refine blk_far ?_ NB438_465.out _;(with_reducible repeat (first|refine blk_drewN ?_ _|refine blk_drew ?_|refine blk_alloc ?_ _));refine blk_far ?_ NB438_465.out _;(with_reducible repeat (first|refine blk_drewN ?_ _|refine blk_drew ?_|refine blk_alloc ?_ _));exact BK438.out) hb);replace BK448:=Aside0.mk (blk_below (g:=gb448) (o:=.cells #[.slice Ao27 t441.length co27,.slice Ao31 t444.length co31] 26 (0,0)) (by (with_reducible repeat (first|refine blk_drewN ?_ _|refine blk_drew ?_|refine blk_alloc ?_ _));refine blk_far ?_ NB448_465.out _;(with_reducible repeat (first|refine blk_drewN ?_ _|refine blk_drew ?_|refine blk_alloc ?_ _));refine blk_far ?_ NB448_465.out _;(with_reducible repeat (first|refine blk_drewN ?_ _|refine blk_drew ?_|refine blk_alloc ?_ _));exact BK448.out) hb);replace BK456:=Aside0.mk (blk_below (g:=gb456) (o:=.cells #[.slice Ao36 t449.length co36,.slice Ao41 t452.length co41] 26 (0,0)) (by (with_reducible repeat (first|refine blk_drewN ?_ _|refine blk_drew ?_|refine blk_alloc ?_ _));refine blk_far ?_ NB456_465.out _;(with_reducible repeat (first|refine blk_drewN ?_ _|refine blk_drew ?_|refine blk_alloc ?_ _));refine blk_far ?_ NB456_465.out _;(with_reducible repeat (first|refine blk_drewN ?_ _|refine blk_drew ?_|refine blk_alloc ?_ _));exact BK456.out) hb);replace BK465:=Aside0.mk (blk_below (g:=gb465) (o:=.cells #[.slice Ao68 t458.length co68,.slice Ao74 t461.length co74] 26 (0,0)) (by (with_reducible repeat (first|refine blk_drewN ?_ _|refine blk_drew ?_|refine blk_alloc ?_ _));exact blk_puts2 (blk_up BK465.out)) hb);replace HB:=hbs hb)|(go_at_call 15;(with_reducible refine (hinterlandlaw06_known.calls kj15  t467 _ A58.out).mono ?_);rintro e w78 ⟨rfl,hb⟩;replace HO_449000:=rbw HO_449000 hb;replace HO_449001:=rbw HO_449001 hb;replace HO_457000:=rbw HO_457000 hb;replace HO_457001:=rbw HO_457001 hb;replace HO460:=rbw HO460 hb;replace HO463:=rbw HO463 hb;replace BK437:=bkb BK437 hb;replace BK438:=bkb BK438 hb;replace BK448:=bkb BK448 hb;replace BK456:=bkb BK456 hb;replace BK465:=bkb BK465 hb;replace HB:=hbs hb))
      go_ret
      exact ⟨er_,hb_⟩
     ·replace c57:=Bool.eq_false_iff.mpr c57
      subst c57
      have H1 : (some false) = some r:=by rw [if_neg (show ¬ (false = true) by decide)] at H;exact H
      clear H
      have H:=H1
      clear H1
      obtain rfl:=Option.some.inj H
      have hnb79:=NB437_438.out
      have hnc79:=NB438_437.out
      have hnb80:=NB437_448.out
      have hnc80:=NB448_437.out
      have hnb81:=NB437_456.out
      have hnc81:=NB456_437.out
      obtain ⟨_,_,_,_,_,_⟩:=cells3 BK437.out
      have hnb83:=NB448_438.out
      have hnc83:=NB438_448.out
      have hnb84:=NB448_456.out
      have hnc84:=NB456_448.out
      obtain ⟨_,_,_,_⟩:=cells2 BK448.out
      go_wp2_with (first|((with_reducible refine gate_callee (f:=37) rfl ?_);refine goesL_ (some 44) rfl rfl Try.func37 (by kernel_rfl) rfl #[.agg #[.int .i64 a0_0,.int .i64 a0_1,.slice A0_2 l0_2.length c0_2],.agg #[.slice Ao27 t441.length co27,.slice Ao31 t444.length co31],.int .i64 a2] rfl ga_ ?_;(with_reducible refine (water_Mark.calls kj15 a0_0 a0_1 _ _ l0_2 _ _ t441 _ _ t444 a2 t458 t461 t464 _ ?_ ?_ ?_ ?_ ?_ ?_ A53.out).mono ?_);exact cq HR0_2;exact HC0_2.out;exact Kd.C_up (Kd.R_reads' HO_449000.out).2.2;exact (Kd.R_reads' HO_449000.out).2.1;exact Kd.C_up (Kd.R_reads' HO_449001.out).2.2;exact (Kd.R_reads' HO_449001.out).2.1;rintro e w86 ⟨v459,v462,rfl,ho0,ho1,hb⟩;refine ⟨_,rfl,?_⟩;have HO460:=Aside0.mk (Kd.R_lower (Kd.R_new' (Kd.R_new' (Kd.R_new' (Kd.R_new' ho0 (Kd.R_lt (Kd.R_up HO_449000.out))) (Kd.R_lt (Kd.R_up HO_449001.out))) (Kd.R_lt (Kd.R_up HO_457000.out))) (Kd.R_lt (Kd.R_up HO_457001.out))) (below_size (hb_)));have HO463:=Aside0.mk (Kd.R_lower (Kd.R_new' (Kd.R_new' (Kd.R_new' (Kd.R_new' ho1 (Kd.R_lt (Kd.R_up HO_449000.out))) (Kd.R_lt (Kd.R_up HO_449001.out))) (Kd.R_lt (Kd.R_up HO_457000.out))) (Kd.R_lt (Kd.R_up HO_457001.out))) (below_size (hb_)));replace HO_449000:=Aside0.mk (Kd.R_mono (Kd.R_told (Kd.R_told (Kd.R_old (Kd.R_up HO_449000.out) hb) (Kd.R_base ho0)) (Kd.R_base ho1)) (fun _ h_ => h_.1));replace HO_449001:=Aside0.mk (Kd.R_mono (Kd.R_told (Kd.R_told (Kd.R_old (Kd.R_up HO_449001.out) hb) (Kd.R_base ho0)) (Kd.R_base ho1)) (fun _ h_ => h_.1));replace HO_457000:=Aside0.mk (Kd.R_mono (Kd.R_told (Kd.R_told (Kd.R_old (Kd.R_up HO_457000.out) hb) (Kd.R_base ho0)) (Kd.R_base ho1)) (fun _ h_ => h_.1));replace HO_457001:=Aside0.mk (Kd.R_mono (Kd.R_told (Kd.R_told (Kd.R_old (Kd.R_up HO_457001.out) hb) (Kd.R_base ho0)) (Kd.R_base ho1)) (fun _ h_ => h_.1));replace BK437:=bkb BK437 hb;replace BK438:=bkb BK438 hb;replace BK448:=bkb BK448 hb;replace BK456:=bkb BK456 hb;replace HB:=hbs hb)|((with_reducible refine gate_dst (N:=11) rfl ?_);refine box_ev (N:=11) (cs:=#[.slice none 0 0,.slice none 0 0]) (t:=26) ?_;intro gb465 hg w87 hbox hb;have BK465:=Aside0.mk (hbox);have GW465 : Aside0 (w.heap.size ≤ gb465):=gsz hg;have GE465:=GW465;have NB437_465:=nbl BK437 hg;have NB465_437:=nbr BK437 hg;have NB438_465:=nbl BK438 hg;have NB465_438:=nbr BK438 hg;have NB448_465:=nbl BK448 hg;have NB465_448:=nbr BK448 hg;have NB456_465:=nbl BK456 hg;have NB465_456:=nbr BK456 hg;replace HO_449000:=rbw HO_449000 hb;replace HO_449001:=rbw HO_449001 hb;replace HO_457000:=rbw HO_457000 hb;replace HO_457001:=rbw HO_457001 hb;replace HO460:=rbw HO460 hb;replace HO463:=rbw HO463 hb;replace BK437:=bkb BK437 hb;replace BK438:=bkb BK438 hb;replace BK448:=bkb BK448 hb;replace BK456:=bkb BK456 hb;replace HB:=hbs hb;clear hb hbox hg;obtain ⟨Ao88,co88,eo88⟩:=Kd.R_slice HO460.out;subst eo88;have hnb89:=NB465_437.out;have hnc89:=NB437_465.out;have hnb90:=NB465_438.out;have hnc90:=NB438_465.out;have hnb91:=NB465_448.out;have hnc91:=NB448_465.out;have hnb92:=NB465_456.out;have hnc92:=NB456_465.out;obtain ⟨_,_,_,_⟩:=cells2 BK465.out;obtain ⟨Ao94,co94,eo94⟩:=Kd.R_slice HO463.out;subst eo94;have hnb95:=NB438_456.out;have hnc95:=NB456_438.out;obtain ⟨_,_,_,_⟩:=cells2 BK438.out)|(go_at_call 30;(with_reducible refine (hinterlandsame_Waters.calls kj15 _ _ t458 _ _ t461 _ _ l1_0 _ _ l1_1 false _ ?_ ?_ ?_ ?_ ?_ ?_ ?_ ?_ A56.out).mono ?_);exact rqs gb465 HO460 BK465;exact (Kd.R_reads' HO460.out).2.1;exact rqs gb465 HO463 BK465;exact (Kd.R_reads' HO463.out).2.1;exact Kd.C_below HR1_0.out (hb_);exact HC1_0.out;exact Kd.C_below HR1_1.out (hb_);exact HC1_1.out;rintro e w97 ⟨rfl,hb⟩;replace HO_449000:=Aside0.mk (Kd.R_below (by (with_reducible repeat (first|apply Kd.R_alloc|apply Kd.R_drewN|apply Kd.R_drew));exact (Kd.R_mono (Kd.R_fars gb465 (Kd.R_types HO_449000.out BK465.out (by decide)) (fun _ hk => hk.2)) (fun _ h_ => h_.1))) hb);replace HO_449001:=Aside0.mk (Kd.R_below (by (with_reducible repeat (first|apply Kd.R_alloc|apply Kd.R_drewN|apply Kd.R_drew));exact (Kd.R_mono (Kd.R_fars gb465 (Kd.R_types HO_449001.out BK465.out (by decide)) (fun _ hk => hk.2)) (fun _ h_ => h_.1))) hb);replace HO_457000:=Aside0.mk (Kd.R_below (by (with_reducible repeat (first|apply Kd.R_alloc|apply Kd.R_drewN|apply Kd.R_drew));exact (Kd.R_mono (Kd.R_fars gb465 (Kd.R_types HO_457000.out BK465.out (by decide)) (fun _ hk => hk.2)) (fun _ h_ => h_.1))) hb);replace HO_457001:=Aside0.mk (Kd.R_below (by (with_reducible repeat (first|apply Kd.R_alloc|apply Kd.R_drewN|apply Kd.R_drew));exact (Kd.R_mono (Kd.R_fars gb465 (Kd.R_types HO_457001.out BK465.out (by decide)) (fun _ hk => hk.2)) (fun _ h_ => h_.1))) hb);replace HO460:=Aside0.mk (Kd.R_below (by (with_reducible repeat (first|apply Kd.R_alloc|apply Kd.R_drewN|apply Kd.R_drew));exact (Kd.R_mono (Kd.R_fars gb465 (Kd.R_types HO460.out BK465.out (by decide)) (fun _ hk => hk.2)) (fun _ h_ => h_.1))) hb);replace HO463:=Aside0.mk (Kd.R_below (by (with_reducible repeat (first|apply Kd.R_alloc|apply Kd.R_drewN|apply Kd.R_drew));exact (Kd.R_mono (Kd.R_fars gb465 (Kd.R_types HO463.out BK465.out (by decide)) (fun _ hk => hk.2)) (fun _ h_ => h_.1))) hb);replace BK437:=Aside0.mk (blk_below (g:=gb437) (o:=.cells #[.int .i64 a0_0,.int .i64 a0_1,.slice A0_2 l0_2.length c0_2] 24 (0,0)) (by (with_reducible repeat (first|refine blk_drewN ?_ _|refine blk_drew ?_|refine blk_alloc ?_ _));refine blk_far ?_ NB437_465.out _;(with_reducible repeat (first|refine blk_drewN ?_ _|refine blk_drew ?_|refine blk_alloc ?_ _));refine blk_far ?_ NB437_465.out _;(with_reducible repeat (first|refine blk_drewN ?_ _|refine blk_drew ?_|refine blk_alloc ?_ _));exact BK437.out) hb);replace BK438:=Aside0.mk (blk_below (g:=gb438) (o:=.cells #[.slice A1_0 l1_0.length c1_0,.slice A1_1 l1_1.length c1_1] 26 (0,0)) (by (with_reducible repeat (first|refine blk_drewN ?_ _|refine blk_drew ?_|refine blk_alloc ?_ _));refine blk_far ?_ NB438_465.out _;(with_reducible repeat (first|refine blk_drewN ?_ _|refine blk_drew ?_|refine blk_alloc ?_ _));refine blk_far ?_ NB438_465.out _;(with_reducible repeat (first|refine blk_drewN ?_ _|refine blk_drew ?_|refine blk_alloc ?_ _));exact BK438.out) hb);replace BK448:=Aside0.mk (blk_below (g:=gb448) (o:=.cells #[.slice Ao27 t441.length co27,.slice Ao31 t444.length co31] 26 (0,0)) (by (with_reducible repeat (first|refine blk_drewN ?_ _|refine blk_drew ?_|refine blk_alloc ?_ _));refine blk_far ?_ NB448_465.out _;(with_reducible repeat (first|refine blk_drewN ?_ _|refine blk_drew ?_|refine blk_alloc ?_ _));refine blk_far ?_ NB448_465.out _;(with_reducible repeat (first|refine blk_drewN ?_ _|refine blk_drew ?_|refine blk_alloc ?_ _));exact BK448.out) hb);replace BK456:=Aside0.mk (blk_below (g:=gb456) (o:=.cells #[.slice Ao36 t449.length co36,.slice Ao41 t452.length co41] 26 (0,0)) (by (with_reducible repeat (first|refine blk_drewN ?_ _|refine blk_drew ?_|refine blk_alloc ?_ _));refine blk_far ?_ NB456_465.out _;(with_reducible repeat (first|refine blk_drewN ?_ _|refine blk_drew ?_|refine blk_alloc ?_ _));refine blk_far ?_ NB456_465.out _;(with_reducible repeat (first|refine blk_drewN ?_ _|refine blk_drew ?_|refine blk_alloc ?_ _));exact BK456.out) hb);replace BK465:=Aside0.mk (blk_below (g:=gb465) (o:=.cells #[.slice Ao88 t458.length co88,.slice Ao94 t461.length co94] 26 (0,0)) (by (with_reducible repeat (first|refine blk_drewN ?_ _|refine blk_drew ?_|refine blk_alloc ?_ _));exact blk_puts2 (blk_up BK465.out)) hb);replace HB:=hbs hb))
      go_ret
      exact ⟨er_,hb_⟩

end Go.Proofs.Ytiencnnkphipoaa.P

/- Functions of this seat as plain Lean functions, with proofs that the Go code comes to just their answers, or what stands between them and a law's statement; no conditions. (Laid by a program of this session, out of the kit's print.) -/
import Derived.Test.YtiencnnkphipoaaPx0
import Derived.Test.YtiencnnkphipoaaPx1
import Derived.Test.YtiencnnkphipoaaPx4
import Derived.Test.YtiencnnkphipoaaPx5
import Derived.Test.YtiencnnkphipoaaPx6
namespace Go.Proofs.Ytiencnnkphipoaa.P
open Go.RowKit Go.Proofs.YtiencnnkphipoaaW.PrintWords Go.Proofs.YtiencnnkphipoaaW.PrintLast Go.Proofs.YtiencnnkphipoaaW.PrintMore
attribute [local go_sem] max2_int min2_int max_two min_two max_three min_three max_four min_four   -- for this text's walks alone
set_option linter.unusedVariables false
set_option linter.unusedSimpArgs false

/-! ### water_Areas: function 31 -/
mutual
def water_Areas.l0 : Nat → Int → Int → List Int → List Int → Int → Int → List Int → List Int → List Bool → List (Int × Int) → Option (List Int × Int)
 | 0,_,_,_,_,_,_,_,_,_,_ => none
 | k + 1,x33,x34,x609000,x609001,x622000,x622001,x622002,x622003,x622004,x623000 => if x34 < x33 then (if mpHas x34 x623000 = true then (water_Areas.l0 k x33 (wrap64 (x34 + 1)) x609000 x609001 x622000 x622001 x622002 x622003 x622004 x623000) else ((water_ground_wet.f x622000 x622001 x622002 x622003 x622004 x609000 x609001 x34).bind fun t623 => (if t623 = true then (water_Areas.l1 k x34 (([x34] : List Int)) x33 x34 x609000 x609001 x622000 x622001 x622002 x622003 x622004 (mpPut x34 x34 x623000)) else (water_Areas.l0 k x33 (wrap64 (x34 + 1)) x609000 x609001 x622000 x622001 x622002 x622003 x622004 x623000)))) else (if 0 ≤ (x609000.length : Int) then (if ((x609000.length : Int) : Int).toNat ≤ 35184372088832 then ((some (List.replicate ((x609000.length : Int) : Int).toNat 0 : List Int)).bind fun y637 => (water_Areas.l3 k y637 (y637.length : Int) 0 x623000)) else (none)) else (none))
def water_Areas.l1 : Nat → Int → List Int → Int → Int → List Int → List Int → Int → Int → List Int → List Int → List Bool → List (Int × Int) → Option (List Int × Int)
 | 0,_,_,_,_,_,_,_,_,_,_,_,_ => none
 | k + 1,x9,x12,x33,x34,x609000,x609001,x622000,x622001,x622002,x622003,x622004,x623000 => if (x12.length : Int) > 0 then (water_Areas.l2 k x9 x12 x33 x34 0 x609000 x609001 x622000 x622001 x622002 x622003 x622004 x623000) else (water_Areas.l0 k x33 (wrap64 (x34 + 1)) x609000 x609001 x622000 x622001 x622002 x622003 x622004 x623000)
def water_Areas.l2 : Nat → Int → List Int → Int → Int → Int → List Int → List Int → Int → Int → List Int → List Int → List Bool → List (Int × Int) → Option (List Int × Int)
 | 0,_,_,_,_,_,_,_,_,_,_,_,_,_ => none
 | k + 1,x9,x12,x33,x34,x61,x609000,x609001,x622000,x622001,x622002,x622003,x622004,x623000 => if x61 < 4 then (if 0 < (x12.length : Int) then ((water_ground_joined.f k x622000 x622001 x622002 x622003 x622004 x609000 x609001 (rd x12 0) x61).bind fun t628 => (if t628 = true then ((water_ground_beyond.f k x622000 x622001 x622002 x622003 x622004 (rd x12 0) x61).bind fun t630 => (if mpHas t630 x623000 = true then (water_Areas.l2 k x9 x12 x33 x34 (wrap64 (x61 + 1)) x609000 x609001 x622000 x622001 x622002 x622003 x622004 x623000) else (if x12.length < 17592186044416 then (water_Areas.l2 k x9 (x12 ++ [t630]) x33 x34 (wrap64 (x61 + 1)) x609000 x609001 x622000 x622001 x622002 x622003 x622004 (mpPut t630 x9 x623000)) else (none)))) else (water_Areas.l2 k x9 x12 x33 x34 (wrap64 (x61 + 1)) x609000 x609001 x622000 x622001 x622002 x622003 x622004 x623000))) else (none)) else (if 1 ≤ (x12.length : Int) then (water_Areas.l1 k x9 (x12.drop (1 : Int).toNat) x33 x34 x609000 x609001 x622000 x622001 x622002 x622003 x622004 x623000) else (none))
def water_Areas.l3 : Nat → List Int → Int → Int → List (Int × Int) → Option (List Int × Int)
 | 0,_,_,_,_ => none
 | k + 1,x17,x99,x100,x623000 => if x100 < x99 then (if 0 ≤ x100 then (if x100 < (x17.length : Int) then ((some (x17.set (x100 : Int).toNat (-1) : List Int)).bind fun y640 => (if mpHas x100 x623000 = true then (water_Areas.l3 k (y640.set (x100 : Int).toNat (mpV x100 x623000)) x99 (wrap64 (x100 + 1)) x623000) else (water_Areas.l3 k y640 x99 (wrap64 (x100 + 1)) x623000))) else (none)) else (none)) else (some (x17,0))
end
def water_Areas.f (k : Nat) (a0_0 : Int) (a0_1 : Int) (l0_2 : List Int) (l1_0 : List Int) (l1_1 : List Int) : Option (List Int × Int) := (water_check.f k a0_0 a0_1 l0_2 l1_0 l1_1).bind fun bt609 => (if bt609.2.2.2.2.2 = 0 then (water_Areas.l0 k (l1_0.length : Int) 0 l1_0 l1_1 bt609.1 bt609.2.1 bt609.2.2.1 bt609.2.2.2.1 bt609.2.2.2.2.1 ([] : List (Int × Int))) else (some (([] : List Int), bt609.2.2.2.2.2)))
theorem water_Areas.mono_l : ∀ k, (∀ y0 y1 y2 y3 y4 y5 y6 y7 y8 y9, LeO (water_Areas.l0 k y0 y1 y2 y3 y4 y5 y6 y7 y8 y9) (water_Areas.l0 (k + 1) y0 y1 y2 y3 y4 y5 y6 y7 y8 y9)) ∧ (∀ y0 y1 y2 y3 y4 y5 y6 y7 y8 y9 y10 y11, LeO (water_Areas.l1 k y0 y1 y2 y3 y4 y5 y6 y7 y8 y9 y10 y11) (water_Areas.l1 (k + 1) y0 y1 y2 y3 y4 y5 y6 y7 y8 y9 y10 y11)) ∧ (∀ y0 y1 y2 y3 y4 y5 y6 y7 y8 y9 y10 y11 y12, LeO (water_Areas.l2 k y0 y1 y2 y3 y4 y5 y6 y7 y8 y9 y10 y11 y12) (water_Areas.l2 (k + 1) y0 y1 y2 y3 y4 y5 y6 y7 y8 y9 y10 y11 y12)) ∧ (∀ y0 y1 y2 y3, LeO (water_Areas.l3 k y0 y1 y2 y3) (water_Areas.l3 (k + 1) y0 y1 y2 y3))
 | 0 => ⟨fun _ _ _ _ _ _ _ _ _ _ r h => by simp [water_Areas.l0] at h,fun _ _ _ _ _ _ _ _ _ _ _ _ r h => by simp [water_Areas.l1] at h,fun _ _ _ _ _ _ _ _ _ _ _ _ _ r h => by simp [water_Areas.l2] at h,fun _ _ _ _ r h => by simp [water_Areas.l3] at h⟩
 | k + 1 => by
  obtain ⟨ih0,ih1,ih2,ih3⟩:=water_Areas.mono_l k
  refine ⟨?_,?_,?_,?_⟩
  ·intro y0 y1 y2 y3 y4 y5 y6 y7 y8 y9
   unfold water_Areas.l0
   repeat' first
   | (with_reducible exact ih0 _ _ _ _ _ _ _ _ _ _)
   | (with_reducible exact ih1 _ _ _ _ _ _ _ _ _ _ _ _)
   | (with_reducible exact ih2 _ _ _ _ _ _ _ _ _ _ _ _ _)
   | (with_reducible exact ih3 _ _ _ _)
   | (with_reducible exact water_check.mono _ _ _ _ _ _)
   | (with_reducible exact water_ground_beyond.mono _ _ _ _ _ _ _ _)
   | (with_reducible exact water_ground_joined.mono _ _ _ _ _ _ _ _ _ _)
   | (with_reducible exact LeO.refl _)
   | (with_reducible exact LeO.none _)
   | (with_reducible refine LeO.ite ?_ ?_)
   | (with_reducible refine LeO.bind ?_ (fun _ => ?_))
   | exact ih0 _ _ _ _ _ _ _ _ _ _
   | exact ih1 _ _ _ _ _ _ _ _ _ _ _ _
   | exact ih2 _ _ _ _ _ _ _ _ _ _ _ _ _
   | exact ih3 _ _ _ _
   | exact water_check.mono _ _ _ _ _ _
   | exact water_ground_beyond.mono _ _ _ _ _ _ _ _
   | exact water_ground_joined.mono _ _ _ _ _ _ _ _ _ _
   | exact LeO.none _
   | refine LeO.ite ?_ ?_
   | refine LeO.bind ?_ (fun _ => ?_)
  ·intro y0 y1 y2 y3 y4 y5 y6 y7 y8 y9 y10 y11
   unfold water_Areas.l1
   repeat' first
   | (with_reducible exact ih0 _ _ _ _ _ _ _ _ _ _)
   | (with_reducible exact ih1 _ _ _ _ _ _ _ _ _ _ _ _)
   | (with_reducible exact ih2 _ _ _ _ _ _ _ _ _ _ _ _ _)
   | (with_reducible exact ih3 _ _ _ _)
   | (with_reducible exact water_check.mono _ _ _ _ _ _)
   | (with_reducible exact water_ground_beyond.mono _ _ _ _ _ _ _ _)
   | (with_reducible exact water_ground_joined.mono _ _ _ _ _ _ _ _ _ _)
   | (with_reducible exact LeO.refl _)
   | (with_reducible exact LeO.none _)
   | (with_reducible refine LeO.ite ?_ ?_)
   | (with_reducible refine LeO.bind ?_ (fun _ => ?_))
   | exact ih0 _ _ _ _ _ _ _ _ _ _
   | exact ih1 _ _ _ _ _ _ _ _ _ _ _ _
   | exact ih2 _ _ _ _ _ _ _ _ _ _ _ _ _
   | exact ih3 _ _ _ _
   | exact water_check.mono _ _ _ _ _ _
   | exact water_ground_beyond.mono _ _ _ _ _ _ _ _
   | exact water_ground_joined.mono _ _ _ _ _ _ _ _ _ _
   | exact LeO.none _
   | refine LeO.ite ?_ ?_
   | refine LeO.bind ?_ (fun _ => ?_)
  ·intro y0 y1 y2 y3 y4 y5 y6 y7 y8 y9 y10 y11 y12
   unfold water_Areas.l2
   repeat' first
   | (with_reducible exact ih0 _ _ _ _ _ _ _ _ _ _)
   | (with_reducible exact ih1 _ _ _ _ _ _ _ _ _ _ _ _)
   | (with_reducible exact ih2 _ _ _ _ _ _ _ _ _ _ _ _ _)
   | (with_reducible exact ih3 _ _ _ _)
   | (with_reducible exact water_check.mono _ _ _ _ _ _)
   | (with_reducible exact water_ground_beyond.mono _ _ _ _ _ _ _ _)
   | (with_reducible exact water_ground_joined.mono _ _ _ _ _ _ _ _ _ _)
   | (with_reducible exact LeO.refl _)
   | (with_reducible exact LeO.none _)
   | (with_reducible refine LeO.ite ?_ ?_)
   | (with_reducible refine LeO.bind ?_ (fun _ => ?_))
   | exact ih0 _ _ _ _ _ _ _ _ _ _
   | exact ih1 _ _ _ _ _ _ _ _ _ _ _ _
   | exact ih2 _ _ _ _ _ _ _ _ _ _ _ _ _
   | exact ih3 _ _ _ _
   | exact water_check.mono _ _ _ _ _ _
   | exact water_ground_beyond.mono _ _ _ _ _ _ _ _
   | exact water_ground_joined.mono _ _ _ _ _ _ _ _ _ _
   | exact LeO.none _
   | refine LeO.ite ?_ ?_
   | refine LeO.bind ?_ (fun _ => ?_)
  ·intro y0 y1 y2 y3
   unfold water_Areas.l3
   repeat' first
   | (with_reducible exact ih0 _ _ _ _ _ _ _ _ _ _)
   | (with_reducible exact ih1 _ _ _ _ _ _ _ _ _ _ _ _)
   | (with_reducible exact ih2 _ _ _ _ _ _ _ _ _ _ _ _ _)
   | (with_reducible exact ih3 _ _ _ _)
   | (with_reducible exact water_check.mono _ _ _ _ _ _)
   | (with_reducible exact water_ground_beyond.mono _ _ _ _ _ _ _ _)
   | (with_reducible exact water_ground_joined.mono _ _ _ _ _ _ _ _ _ _)
   | (with_reducible exact LeO.refl _)
   | (with_reducible exact LeO.none _)
   | (with_reducible refine LeO.ite ?_ ?_)
   | (with_reducible refine LeO.bind ?_ (fun _ => ?_))
   | exact ih0 _ _ _ _ _ _ _ _ _ _
   | exact ih1 _ _ _ _ _ _ _ _ _ _ _ _
   | exact ih2 _ _ _ _ _ _ _ _ _ _ _ _ _
   | exact ih3 _ _ _ _
   | exact water_check.mono _ _ _ _ _ _
   | exact water_ground_beyond.mono _ _ _ _ _ _ _ _
   | exact water_ground_joined.mono _ _ _ _ _ _ _ _ _ _
   | exact LeO.none _
   | refine LeO.ite ?_ ?_
   | refine LeO.bind ?_ (fun _ => ?_)
theorem water_Areas.mono : ∀ a0 a1 a2 a3 a4 k, LeO (water_Areas.f k a0 a1 a2 a3 a4) (water_Areas.f (k + 1) a0 a1 a2 a3 a4) := by
 intro a0 a1 a2 a3 a4 k
 obtain ⟨ih0,ih1,ih2,ih3⟩:=water_Areas.mono_l k
 unfold water_Areas.f
 repeat' first
   | (with_reducible exact ih0 _ _ _ _ _ _ _ _ _ _)
   | (with_reducible exact ih1 _ _ _ _ _ _ _ _ _ _ _ _)
   | (with_reducible exact ih2 _ _ _ _ _ _ _ _ _ _ _ _ _)
   | (with_reducible exact ih3 _ _ _ _)
   | (with_reducible exact water_check.mono _ _ _ _ _ _)
   | (with_reducible exact water_ground_beyond.mono _ _ _ _ _ _ _ _)
   | (with_reducible exact water_ground_joined.mono _ _ _ _ _ _ _ _ _ _)
   | (with_reducible exact LeO.refl _)
   | (with_reducible exact LeO.none _)
   | (with_reducible refine LeO.ite ?_ ?_)
   | (with_reducible refine LeO.bind ?_ (fun _ => ?_))
   | exact ih0 _ _ _ _ _ _ _ _ _ _
   | exact ih1 _ _ _ _ _ _ _ _ _ _ _ _
   | exact ih2 _ _ _ _ _ _ _ _ _ _ _ _ _
   | exact ih3 _ _ _ _
   | exact water_check.mono _ _ _ _ _ _
   | exact water_ground_beyond.mono _ _ _ _ _ _ _ _
   | exact water_ground_joined.mono _ _ _ _ _ _ _ _ _ _
   | exact LeO.none _
   | refine LeO.ite ?_ ?_
   | refine LeO.bind ?_ (fun _ => ?_)
set_option maxHeartbeats 8000000 in
set_option maxRecDepth 100000 in
theorem water_Areas.calls (k : Nat) (a0_0 : Int) (a0_1 : Int) (A0_2 : Option Addr) (c0_2 : Nat) (l0_2 : List Int) (A1_0 : Option Addr) (c1_0 : Nat) (l1_0 : List Int) (A1_1 : Option Addr) (c1_1 : Nat) (l1_1 : List Int) (r1 : List Int) (r2 : Int) (w : World) (hr0_2 : Kd.C (Kd.int .i64) w A0_2 l0_2.length l0_2) (hc0_2 : l0_2.length ≤ c0_2) (hr1_0 : Kd.C (Kd.int .i64) w A1_0 l1_0.length l1_0) (hc1_0 : l1_0.length ≤ c1_0) (hr1_1 : Kd.C (Kd.int .i64) w A1_1 l1_1.length l1_1) (hc1_1 : l1_1.length ≤ c1_1) (h : water_Areas.f k a0_0 a0_1 l0_2 l1_0 l1_1 = some (r1, r2)) :
  Calls Try.prog 31 #[.agg #[.int .i64 a0_0,.int .i64 a0_1,.slice A0_2 l0_2.length c0_2],.agg #[.slice A1_0 l1_0.length c1_0,.slice A1_1 l1_1.length c1_1]] w fun e w' => ∃ v0_ : Value,e = .returned (.tuple #[v0_,.int .i64 r2]) ∧ Kd.R (Kd.int .i64) 3 w' w.heap.size (fun _ => True) v0_ r1 ∧ Below w.heap.size w w':=by
 have hu24:=Try.underlying24
 have hu26:=Try.underlying26
 have hu52:=Try.underlying52
 have HR0_2:=Aside0.mk hr0_2
 have HC0_2:=Aside0.mk hc0_2
 clear hr0_2 hc0_2
 have HR1_0:=Aside0.mk hr1_0
 have HC1_0:=Aside0.mk hc1_0
 clear hr1_0 hc1_0
 have HR1_1:=Aside0.mk hr1_1
 have HC1_1:=Aside0.mk hc1_1
 clear hr1_1 hc1_1
 have HB:=Aside0.mk (Below.refl w.heap.size w)
 have H : ((water_check.f k a0_0 a0_1 l0_2 l1_0 l1_1).bind fun bt609 => (if bt609.2.2.2.2.2 = 0 then (water_Areas.l0 k (l1_0.length : Int) 0 l1_0 l1_1 bt609.1 bt609.2.1 bt609.2.2.1 bt609.2.2.2.1 bt609.2.2.2.2.1 ([] : List (Int × Int))) else (some (([] : List Int),bt609.2.2.2.2.2)))) = some (r1,r2):=h
 clear h
 replace H:=Option.bind_eq_some_iff.mp H
 obtain ⟨⟨t609,t610,t611,t614,t617,t620⟩,A30,H⟩:=H
 replace H : (if t620 = 0 then (water_Areas.l0 k (l1_0.length : Int) 0 l1_0 l1_1 t609 t610 t611 t614 t617 ([] : List (Int × Int))) else (some (([] : List Int),t620))) = some (r1,r2):=H
 have A3:=Aside0.mk A30
 clear A30
 by_cases c4 : t620 = 0
 rotate_left
 ·rw [if_neg c4] at H
  have c4b0 : (t620 == 0) = false:=beq_eq_false_iff_ne.mpr c4
  have c4b1 : (t620 != 0) = true:=bne_iff_ne.mpr c4
  simp only [Option.some.injEq,Prod.mk.injEq] at H
  obtain ⟨rfl,rfl⟩:=H
  go_enter Try.func31,Try.ntmps31
  go_wp2_with (first|((with_reducible refine gate_dst (N:=2) rfl ?_);refine box_ev (N:=2) (cs:=#[.int .i64 a0_0,.int .i64 a0_1,.slice A0_2 l0_2.length c0_2]) (t:=24) ?_;intro gb607 hg w93 hbox hb;have BK607:=Aside0.mk (hbox);have GW607 : Aside0 (w.heap.size ≤ gb607):=gsz hg;have GE607:=GW607;replace HB:=Aside0.mk (below_step (hb_) hb);clear hb hbox hg)|((with_reducible refine gate_dst (N:=3) rfl ?_);refine box_ev (N:=3) (cs:=#[.slice A1_0 l1_0.length c1_0,.slice A1_1 l1_1.length c1_1]) (t:=26) ?_;intro gb608 hg w94 hbox hb;have BK608:=Aside0.mk (hbox);have GW608 : Aside0 (w.heap.size ≤ gb608):=gsz hg;have GE608:=GW608;have NB607_608:=nbl BK607 hg;have NB608_607:=nbr BK607 hg;replace BK607:=bkb BK607 hb;replace HB:=Aside0.mk (below_step (hb_) hb);clear hb hbox hg;have hnb95:=NB607_608.out;have hnc95:=NB608_607.out;obtain ⟨hcz96_0,hcz96_1,hcz96_2,hfz96_0,hfz96_1,hfz96_2⟩:=cells3 BK607.out;obtain ⟨hcz97_0,hcz97_1,hfz97_0,hfz97_1⟩:=cells2 BK608.out)|((with_reducible refine gate_callee (f:=44) rfl ?_);refine goesL_ (some 24) rfl rfl Try.func44 (by kernel_rfl) rfl #[.agg #[.int .i64 a0_0,.int .i64 a0_1,.slice A0_2 l0_2.length c0_2],.agg #[.slice A1_0 l1_0.length c1_0,.slice A1_1 l1_1.length c1_1]] rfl (by (try simp only [List.map_toArray,List.map_cons,List.map_nil]);first|done|rfl|(simp only [List.length_drop,List.length_take];rfl)) ?_;(with_reducible refine (water_check.calls k a0_0 a0_1 _ _ l0_2 _ _ l1_0 _ _ l1_1 t609 t610 t611 t614 t617 t620 _ ?side1 ?side2 ?side3 ?side4 ?side5 ?side6 A3.out).mono ?_);(case side1 => exact Kd.C_up (Kd.C_below HR0_2.out HB.out));(case side2 => exact HC0_2.out);(case side3 => exact Kd.C_up (Kd.C_below HR1_0.out HB.out));(case side4 => exact HC1_0.out);(case side5 => exact Kd.C_up (Kd.C_below HR1_1.out HB.out));(case side6 => exact HC1_1.out);rintro e w98 ⟨v612,v615,v618,rfl,ho0,ho1,ho2,hb⟩;refine ⟨_,rfl,?_⟩;have HO613:=rlo ho0;have HO616:=rlo ho1;have HO619:=rlo ho2;replace BK607:=bkb BK607 hb;replace BK608:=bkb BK608 hb;replace HB:=Aside0.mk (below_step (hb_) hb))|((with_reducible refine gate_dst (N:=6) rfl ?_);refine box_ev (N:=6) (cs:=#[.int .i64 0,.int .i64 0,.slice none 0 0,.slice none 0 0,.slice none 0 0]) (t:=52) ?_;intro gb621 hg w99 hbox hb;have BK621:=Aside0.mk (hbox);have GW621 : Aside0 (w.heap.size ≤ gb621):=gsz hg;have GE621:=GW621;have NB607_621:=nbl BK607 hg;have NB621_607:=nbr BK607 hg;have NB608_621:=nbl BK608 hg;have NB621_608:=nbr BK608 hg;replace HO613:=rbw HO613 hb;replace HO616:=rbw HO616 hb;replace HO619:=rbw HO619 hb;replace BK607:=bkb BK607 hb;replace BK608:=bkb BK608 hb;replace HB:=Aside0.mk (below_step (hb_) hb);clear hb hbox hg;have hnb100:=NB621_607.out;have hnc100:=NB607_621.out;have hnb101:=NB621_608.out;have hnc101:=NB608_621.out;obtain ⟨hcz102_0,hcz102_1,hcz102_2,hcz102_3,hcz102_4,hfz102_0,hfz102_1,hfz102_2,hfz102_3,hfz102_4⟩:=cells5 BK621.out;obtain ⟨Ao103,co103,eo103⟩:=Kd.R_slice HO613.out;subst eo103;obtain ⟨Ao104,co104,eo104⟩:=Kd.R_slice HO616.out;subst eo104;obtain ⟨Ao105,co105,eo105⟩:=Kd.R_slice HO619.out;subst eo105))
  go_ret2
  exact ⟨_,by first|rfl|(simp [errW_none,errW_some] <;> rfl)|(simp [*,errW_none,errW_some] <;> rfl),by first|exact Kd.R_nil _ _ _ _ _|exact Kd.N_nil _ _ _ _ _|exact Kd.V_nil _ _ _ _ _|exact Kd.Q_nil _ _ _ _ _|exact Kd.S_nil _ _ _ _ _,hb_⟩
 rw [if_pos c4] at H
 have c4b0 : (t620 == 0) = true:=beq_iff_eq.mpr c4
 have c4b1 : (t620 != 0) = false:=bne_eq_false_iff_eq.mpr c4
 clear c4
 have H':=Aside0.mk H
 clear H
 go_enter Try.func31,Try.ntmps31
 go_wp2_with (first|((with_reducible refine gate_dst (N:=2) rfl ?_);refine box_ev (N:=2) (cs:=#[.int .i64 a0_0,.int .i64 a0_1,.slice A0_2 l0_2.length c0_2]) (t:=24) ?_;intro gb607 hg w5 hbox hb;have BK607:=Aside0.mk (hbox);have GW607 : Aside0 (w.heap.size ≤ gb607):=gsz hg;have GE607:=GW607;replace HB:=Aside0.mk (below_step (hb_) hb);clear hb hbox hg)|((with_reducible refine gate_dst (N:=3) rfl ?_);refine box_ev (N:=3) (cs:=#[.slice A1_0 l1_0.length c1_0,.slice A1_1 l1_1.length c1_1]) (t:=26) ?_;intro gb608 hg w6 hbox hb;have BK608:=Aside0.mk (hbox);have GW608 : Aside0 (w.heap.size ≤ gb608):=gsz hg;have GE608:=GW608;have NB607_608:=nbl BK607 hg;have NB608_607:=nbr BK607 hg;replace BK607:=bkb BK607 hb;replace HB:=Aside0.mk (below_step (hb_) hb);clear hb hbox hg;have hnb7:=NB607_608.out;have hnc7:=NB608_607.out;obtain ⟨hcz8_0,hcz8_1,hcz8_2,hfz8_0,hfz8_1,hfz8_2⟩:=cells3 BK607.out;obtain ⟨hcz9_0,hcz9_1,hfz9_0,hfz9_1⟩:=cells2 BK608.out)|((with_reducible refine gate_callee (f:=44) rfl ?_);refine goesL_ (some 24) rfl rfl Try.func44 (by kernel_rfl) rfl #[.agg #[.int .i64 a0_0,.int .i64 a0_1,.slice A0_2 l0_2.length c0_2],.agg #[.slice A1_0 l1_0.length c1_0,.slice A1_1 l1_1.length c1_1]] rfl (by (try simp only [List.map_toArray,List.map_cons,List.map_nil]);first|done|rfl|(simp only [List.length_drop,List.length_take];rfl)) ?_;(with_reducible refine (water_check.calls k a0_0 a0_1 _ _ l0_2 _ _ l1_0 _ _ l1_1 t609 t610 t611 t614 t617 t620 _ ?side1 ?side2 ?side3 ?side4 ?side5 ?side6 A3.out).mono ?_);(case side1 => exact Kd.C_up (Kd.C_below HR0_2.out HB.out));(case side2 => exact HC0_2.out);(case side3 => exact Kd.C_up (Kd.C_below HR1_0.out HB.out));(case side4 => exact HC1_0.out);(case side5 => exact Kd.C_up (Kd.C_below HR1_1.out HB.out));(case side6 => exact HC1_1.out);rintro e w10 ⟨v612,v615,v618,rfl,ho0,ho1,ho2,hb⟩;refine ⟨_,rfl,?_⟩;have HO613:=rlo ho0;have HO616:=rlo ho1;have HO619:=rlo ho2;replace BK607:=bkb BK607 hb;replace BK608:=bkb BK608 hb;replace HB:=Aside0.mk (below_step (hb_) hb))|((with_reducible refine gate_dst (N:=6) rfl ?_);refine box_ev (N:=6) (cs:=#[.int .i64 0,.int .i64 0,.slice none 0 0,.slice none 0 0,.slice none 0 0]) (t:=52) ?_;intro gb621 hg w11 hbox hb;have BK621:=Aside0.mk (hbox);have GW621 : Aside0 (w.heap.size ≤ gb621):=gsz hg;have GE621:=GW621;have NB607_621:=nbl BK607 hg;have NB621_607:=nbr BK607 hg;have NB608_621:=nbl BK608 hg;have NB621_608:=nbr BK608 hg;replace HO613:=rbw HO613 hb;replace HO616:=rbw HO616 hb;replace HO619:=rbw HO619 hb;replace BK607:=bkb BK607 hb;replace BK608:=bkb BK608 hb;replace HB:=Aside0.mk (below_step (hb_) hb);clear hb hbox hg;have hnb12:=NB621_607.out;have hnc12:=NB607_621.out;have hnb13:=NB621_608.out;have hnc13:=NB608_621.out;obtain ⟨hcz14_0,hcz14_1,hcz14_2,hcz14_3,hcz14_4,hfz14_0,hfz14_1,hfz14_2,hfz14_3,hfz14_4⟩:=cells5 BK621.out;obtain ⟨Ao15,co15,eo15⟩:=Kd.R_slice HO613.out;subst eo15;obtain ⟨Ao16,co16,eo16⟩:=Kd.R_slice HO616.out;subst eo16;obtain ⟨Ao17,co17,eo17⟩:=Kd.R_slice HO619.out;subst eo17)|((with_reducible refine gate_dst (N:=30) rfl ?_);refine mp_make rfl (t:=61) rfl ?_;intro gb622 hg w18 hbox hb;have BK622:=Aside0.mk (hbox);have GW622 : Aside0 (w.heap.size ≤ gb622):=gsz hg;have GE622:=GW622;have NB607_622:=Aside0.mk ((by rw [hg];exact Nat.ne_of_lt (blk_lt (g:=gb607) (o:=.cells #[.int .i64 a0_0,.int .i64 a0_1,.slice A0_2 l0_2.length c0_2] 24 (0,0)) (by (with_reducible repeat (first|refine blk_drewN ?_ _|refine blk_drew ?_|refine blk_alloc ?_ _));refine blk_far ?_ NB607_621.out _;(with_reducible repeat (first|refine blk_drewN ?_ _|refine blk_drew ?_|refine blk_alloc ?_ _));refine blk_far ?_ NB607_621.out _;(with_reducible repeat (first|refine blk_drewN ?_ _|refine blk_drew ?_|refine blk_alloc ?_ _));refine blk_far ?_ NB607_621.out _;(with_reducible repeat (first|refine blk_drewN ?_ _|refine blk_drew ?_|refine blk_alloc ?_ _));refine blk_far ?_ NB607_621.out _;(with_reducible repeat (first|refine blk_drewN ?_ _|refine blk_drew ?_|refine blk_alloc ?_ _));refine blk_far ?_ NB607_621.out _;(with_reducible repeat (first|refine blk_drewN ?_ _|refine blk_drew ?_|refine blk_alloc ?_ _));exact BK607.out)) : gb607 ≠ gb622));have NB622_607:=Aside0.mk ((by rw [hg];exact Nat.ne_of_gt (blk_lt (g:=gb607) (o:=.cells #[.int .i64 a0_0,.int .i64 a0_1,.slice A0_2 l0_2.length c0_2] 24 (0,0)) (by (with_reducible repeat (first|refine blk_drewN ?_ _|refine blk_drew ?_|refine blk_alloc ?_ _));refine blk_far ?_ NB607_621.out _;(with_reducible repeat (first|refine blk_drewN ?_ _|refine blk_drew ?_|refine blk_alloc ?_ _));refine blk_far ?_ NB607_621.out _;(with_reducible repeat (first|refine blk_drewN ?_ _|refine blk_drew ?_|refine blk_alloc ?_ _));refine blk_far ?_ NB607_621.out _;(with_reducible repeat (first|refine blk_drewN ?_ _|refine blk_drew ?_|refine blk_alloc ?_ _));refine blk_far ?_ NB607_621.out _;(with_reducible repeat (first|refine blk_drewN ?_ _|refine blk_drew ?_|refine blk_alloc ?_ _));refine blk_far ?_ NB607_621.out _;(with_reducible repeat (first|refine blk_drewN ?_ _|refine blk_drew ?_|refine blk_alloc ?_ _));exact BK607.out)) : gb622 ≠ gb607));have NB608_622:=Aside0.mk ((by rw [hg];exact Nat.ne_of_lt (blk_lt (g:=gb608) (o:=.cells #[.slice A1_0 l1_0.length c1_0,.slice A1_1 l1_1.length c1_1] 26 (0,0)) (by (with_reducible repeat (first|refine blk_drewN ?_ _|refine blk_drew ?_|refine blk_alloc ?_ _));refine blk_far ?_ NB608_621.out _;(with_reducible repeat (first|refine blk_drewN ?_ _|refine blk_drew ?_|refine blk_alloc ?_ _));refine blk_far ?_ NB608_621.out _;(with_reducible repeat (first|refine blk_drewN ?_ _|refine blk_drew ?_|refine blk_alloc ?_ _));refine blk_far ?_ NB608_621.out _;(with_reducible repeat (first|refine blk_drewN ?_ _|refine blk_drew ?_|refine blk_alloc ?_ _));refine blk_far ?_ NB608_621.out _;(with_reducible repeat (first|refine blk_drewN ?_ _|refine blk_drew ?_|refine blk_alloc ?_ _));refine blk_far ?_ NB608_621.out _;(with_reducible repeat (first|refine blk_drewN ?_ _|refine blk_drew ?_|refine blk_alloc ?_ _));exact BK608.out)) : gb608 ≠ gb622));have NB622_608:=Aside0.mk ((by rw [hg];exact Nat.ne_of_gt (blk_lt (g:=gb608) (o:=.cells #[.slice A1_0 l1_0.length c1_0,.slice A1_1 l1_1.length c1_1] 26 (0,0)) (by (with_reducible repeat (first|refine blk_drewN ?_ _|refine blk_drew ?_|refine blk_alloc ?_ _));refine blk_far ?_ NB608_621.out _;(with_reducible repeat (first|refine blk_drewN ?_ _|refine blk_drew ?_|refine blk_alloc ?_ _));refine blk_far ?_ NB608_621.out _;(with_reducible repeat (first|refine blk_drewN ?_ _|refine blk_drew ?_|refine blk_alloc ?_ _));refine blk_far ?_ NB608_621.out _;(with_reducible repeat (first|refine blk_drewN ?_ _|refine blk_drew ?_|refine blk_alloc ?_ _));refine blk_far ?_ NB608_621.out _;(with_reducible repeat (first|refine blk_drewN ?_ _|refine blk_drew ?_|refine blk_alloc ?_ _));refine blk_far ?_ NB608_621.out _;(with_reducible repeat (first|refine blk_drewN ?_ _|refine blk_drew ?_|refine blk_alloc ?_ _));exact BK608.out)) : gb622 ≠ gb608));have NB621_622:=Aside0.mk ((by rw [hg];exact Nat.ne_of_lt (blk_lt (g:=gb621) (o:=.cells #[.int .i64 t609,.int .i64 t610,.slice Ao15 t611.length co15,.slice Ao16 t614.length co16,.slice Ao17 t617.length co17] 52 (0,0)) (by (with_reducible repeat (first|refine blk_drewN ?_ _|refine blk_drew ?_|refine blk_alloc ?_ _));exact blk_puts5 (blk_up BK621.out))) : gb621 ≠ gb622));have NB622_621:=Aside0.mk ((by rw [hg];exact Nat.ne_of_gt (blk_lt (g:=gb621) (o:=.cells #[.int .i64 t609,.int .i64 t610,.slice Ao15 t611.length co15,.slice Ao16 t614.length co16,.slice Ao17 t617.length co17] 52 (0,0)) (by (with_reducible repeat (first|refine blk_drewN ?_ _|refine blk_drew ?_|refine blk_alloc ?_ _));exact blk_puts5 (blk_up BK621.out))) : gb622 ≠ gb621));replace HO613:=Aside0.mk (Kd.R_below (by (with_reducible repeat (first|apply Kd.R_alloc|apply Kd.R_drewN|apply Kd.R_drew));exact (Kd.R_mono (Kd.R_fars gb621 (Kd.R_types HO613.out BK621.out (by decide)) (fun _ hk => hk.2)) (fun _ h_ => h_.1))) hb);replace HO616:=Aside0.mk (Kd.R_below (by (with_reducible repeat (first|apply Kd.R_alloc|apply Kd.R_drewN|apply Kd.R_drew));exact (Kd.R_mono (Kd.R_fars gb621 (Kd.R_types HO616.out BK621.out (by decide)) (fun _ hk => hk.2)) (fun _ h_ => h_.1))) hb);replace HO619:=Aside0.mk (Kd.R_below (by (with_reducible repeat (first|apply Kd.R_alloc|apply Kd.R_drewN|apply Kd.R_drew));exact (Kd.R_mono (Kd.R_fars gb621 (Kd.R_types HO619.out BK621.out (by decide)) (fun _ hk => hk.2)) (fun _ h_ => h_.1))) hb);replace BK607:=Aside0.mk (blk_below (g:=gb607) (o:=.cells #[.int .i64 a0_0,.int .i64 a0_1,.slice A0_2 l0_2.length c0_2] 24 (0,0)) (by (with_reducible repeat (first|refine blk_drewN ?_ _|refine blk_drew ?_|refine blk_alloc ?_ _));refine blk_far ?_ NB607_621.out _;(with_reducible repeat (first|refine blk_drewN ?_ _|refine blk_drew ?_|refine blk_alloc ?_ _));refine blk_far ?_ NB607_621.out _;(with_reducible repeat (first|refine blk_drewN ?_ _|refine blk_drew ?_|refine blk_alloc ?_ _));refine blk_far ?_ NB607_621.out _;(with_reducible repeat (first|refine blk_drewN ?_ _|refine blk_drew ?_|refine blk_alloc ?_ _));refine blk_far ?_ NB607_621.out _;(with_reducible repeat (first|refine blk_drewN ?_ _|refine blk_drew ?_|refine blk_alloc ?_ _));refine blk_far ?_ NB607_621.out _;(with_reducible repeat (first|refine blk_drewN ?_ _|refine blk_drew ?_|refine blk_alloc ?_ _));exact BK607.out) hb);replace BK608:=Aside0.mk (blk_below (g:=gb608) (o:=.cells #[.slice A1_0 l1_0.length c1_0,.slice A1_1 l1_1.length c1_1] 26 (0,0)) (by (with_reducible repeat (first|refine blk_drewN ?_ _|refine blk_drew ?_|refine blk_alloc ?_ _));refine blk_far ?_ NB608_621.out _;(with_reducible repeat (first|refine blk_drewN ?_ _|refine blk_drew ?_|refine blk_alloc ?_ _));refine blk_far ?_ NB608_621.out _;(with_reducible repeat (first|refine blk_drewN ?_ _|refine blk_drew ?_|refine blk_alloc ?_ _));refine blk_far ?_ NB608_621.out _;(with_reducible repeat (first|refine blk_drewN ?_ _|refine blk_drew ?_|refine blk_alloc ?_ _));refine blk_far ?_ NB608_621.out _;(with_reducible repeat (first|refine blk_drewN ?_ _|refine blk_drew ?_|refine blk_alloc ?_ _));refine blk_far ?_ NB608_621.out _;(with_reducible repeat (first|refine blk_drewN ?_ _|refine blk_drew ?_|refine blk_alloc ?_ _));exact BK608.out) hb);replace BK621:=Aside0.mk (blk_below (g:=gb621) (o:=.cells #[.int .i64 t609,.int .i64 t610,.slice Ao15 t611.length co15,.slice Ao16 t614.length co16,.slice Ao17 t617.length co17] 52 (0,0)) (by (with_reducible repeat (first|refine blk_drewN ?_ _|refine blk_drew ?_|refine blk_alloc ?_ _));exact blk_puts5 (blk_up BK621.out)) hb);replace HB:=Aside0.mk (below_step (hb_) hb);clear hb hbox hg;have hnb19:=NB608_622.out;have hnc19:=NB622_608.out;obtain ⟨hcz20_0,hcz20_1,hfz20_0,hfz20_1⟩:=cells2 BK608.out))
 go_loopg [34] k (fun kq v34 w' => ∃ (x34_1 : Int) (x623000_1 : List (Int × Int)),v34 = .int .i64 x34_1 ∧ Aside0 (water_Areas.l0 kq (l1_0.length : Int) x34_1 l1_0 l1_1 t609 t610 t611 t614 t617 x623000_1 = some (r1,r2)) ∧ Aside0 (kq ≤ k) ∧ Aside0 (Kd.R (Kd.int .i64) 3 w' w.heap.size (fun k_ => some k_ ≠ ((.slice Ao16 t614.length co16) : Value).ownBlock) (.slice Ao15 t611.length co15) t611) ∧ Aside0 (Kd.R (Kd.int .i64) 3 w' w.heap.size (fun k_ => some k_ ≠ ((.slice Ao15 t611.length co15) : Value).ownBlock) (.slice Ao16 t614.length co16) t614) ∧ Aside0 (Kd.R Kd.bool 4 w' w.heap.size (fun _ => True) (.slice Ao17 t617.length co17) t617) ∧ Aside0 (w'.heap[gb607]? = some (.cells #[.int .i64 a0_0,.int .i64 a0_1,(.slice A0_2 l0_2.length c0_2)] 24 (0,0))) ∧ Aside0 (w'.heap[gb608]? = some (.cells #[(.slice A1_0 l1_0.length c1_0),(.slice A1_1 l1_1.length c1_1)] 26 (0,0))) ∧ Aside0 (w'.heap[gb621]? = some (.cells #[.int .i64 t609,.int .i64 t610,(.slice Ao15 t611.length co15),(.slice Ao16 t614.length co16),(.slice Ao17 t617.length co17)] 52 (0,0))) ∧ Aside0 (w'.heap[gb622]? = some (mpO x623000_1)) ∧ Aside0 (Below w.heap.size w w'))
 case atStart => exact ⟨(0),(([] : List (Int × Int))),(by first|rfl|(simp;done)|(simp [*];done)),H',⟨Nat.le_refl _⟩,⟨Kd.R_up HO613.out⟩,⟨Kd.R_up HO616.out⟩,⟨Kd.R_up HO619.out⟩,⟨blk_up BK607.out⟩,⟨blk_up BK608.out⟩,⟨blk_up BK621.out⟩,⟨blk_up BK622.out⟩,⟨hb_⟩⟩
 case round =>
  clear H'
  obtain ⟨x34_1,x623000_1,rfl,HA,HK1,HO_622002,HO_622003,HO_622004,BK607,BK608,BK621,BK622,HB⟩:=hrel
  cases gk with
  | zero => exact absurd HA.out (by simp [water_Areas.l0])
  | succ k1 =>
   have H:=HA.out
   clear HA
   simp only [water_Areas.l0] at H
   by_cases c21 : x34_1 < (l1_0.length : Int)
   rotate_left
   ·rw [if_neg c21] at H
    have c21b0 : decide (x34_1 < (l1_0.length : Int)) = false:=decide_eq_false c21
    clear c21
    replace H:=ifp_ H;obtain ⟨c72,H⟩:=H
    have c72b0:=eq_true c72
    have c72b1 : decide (0 ≤ (l1_0.length : Int)) = true:=decide_eq_true c72
    clear c72
    replace H:=ifp_ H;obtain ⟨c73,H⟩:=H
    have c73b0:=eq_true c73
    have c73b1 : decide (((l1_0.length : Int) : Int).toNat ≤ 35184372088832) = true:=decide_eq_true c73
    clear c73
    obtain ⟨y637,hy637⟩ : ∃ y_ : List Int,y_ = (List.replicate ((l1_0.length : Int) : Int).toNat 0):=⟨_,rfl⟩
    replace H : (water_Areas.l3 k1 y637 (y637.length : Int) 0 x623000_1) = some (r1,r2):=by first|(rw [hy637];with_reducible exact H)|(have H2_:=(Option.bind_some _ _).symm.trans H;rw [hy637];with_reducible exact H2_)|(have H2_:=(Option.bind_some _ _).symm.trans H;with_reducible exact H2_)|with_reducible exact H|(rw [hy637];exact H)|exact H
    have Ny637:=Aside0.mk hy637
    clear hy637
    have H':=Aside0.mk H
    clear H
    have hnb74:=NB608_607.out
    have hnc74:=NB607_608.out
    have hnb75:=NB608_621.out
    have hnc75:=NB621_608.out
    have hnb76:=NB608_622.out
    have hnc76:=NB622_608.out
    obtain ⟨hcz77_0,hcz77_1,hfz77_0,hfz77_1⟩:=cells2 BK608.out
    go_wp2_with (first|((with_reducible refine gate_dst (N:=97) rfl ?_);refine Kd.R_make (Kd.int .i64) _ 3 rfl (N:=97) rfl 22 _ _ rfl (l1_0.length : Int) rfl rfl Try.underlying22 (.int .i64 0) 8 info3 rfl (by decide) (by omega) 0 (ok:=fun _ => True) (okp:=fun _ => True) rfl (fun _ hk => hk) trivial (of_decide_eq_true (by first|(with_reducible assumption)|assumption)) (Nat.le_trans (Nat.mul_le_mul_right _ (of_decide_eq_true (by first|(with_reducible assumption)|assumption) : (l1_0.length : Int).toNat ≤ 35184372088832)) (by omega)) (Below.refl _ _) (Nat.le_refl _) ?_;intro v638 w78 ho79 hb hg_ hnew_;clear hg_ hnew_;(first|rw [← Ny637.out] at ho79|(simp only [Int.reduceToNat] at ho79;rw [← Ny637.out] at ho79));have HO639:=Aside0.mk (Kd.R_lower (Kd.R_new' (Kd.R_new' ho79 (Kd.R_lt (Kd.R_up HO_622002.out))) (Kd.R_lt (Kd.R_up HO_622003.out))) (below_size (hb_)));replace HO_622002:=Aside0.mk (Kd.R_elder' (Kd.R_up HO_622002.out) (Kd.R_base ho79) hb);replace HO_622003:=Aside0.mk (Kd.R_elder' (Kd.R_up HO_622003.out) (Kd.R_base ho79) hb);replace HO_622004:=rbw HO_622004 hb;replace BK607:=bkb BK607 hb;replace BK608:=bkb BK608 hb;replace BK621:=bkb BK621 hb;replace BK622:=bkb BK622 hb;replace HB:=Aside0.mk (below_step (hb_) hb);clear hb ho79;obtain ⟨Ao80,co80,eo80⟩:=Kd.R_slice HO639.out;subst eo80))
    go_loopg [100] k1 (fun kq v100 w' => ∃ (x17_2 : List Int) (x100_2 : Int),v100 = .int .i64 x100_2 ∧ Aside0 (water_Areas.l3 kq x17_2 (y637.length : Int) x100_2 x623000_1 = some (r1,r2)) ∧ Aside0 (kq ≤ k1) ∧ Aside0 (Kd.R (Kd.int .i64) 3 w' w.heap.size (fun k_ => some k_ ≠ ((.slice Ao15 t611.length co15) : Value).ownBlock ∧ some k_ ≠ ((.slice Ao16 t614.length co16) : Value).ownBlock) (.slice Ao80 y637.length co80) x17_2) ∧ Aside0 (Kd.R (Kd.int .i64) 3 w' w.heap.size (fun k_ => some k_ ≠ ((.slice Ao80 y637.length co80) : Value).ownBlock ∧ some k_ ≠ ((.slice Ao16 t614.length co16) : Value).ownBlock) (.slice Ao15 t611.length co15) t611) ∧ Aside0 (Kd.R (Kd.int .i64) 3 w' w.heap.size (fun k_ => some k_ ≠ ((.slice Ao80 y637.length co80) : Value).ownBlock ∧ some k_ ≠ ((.slice Ao15 t611.length co15) : Value).ownBlock) (.slice Ao16 t614.length co16) t614) ∧ Aside0 (Kd.R Kd.bool 4 w' w.heap.size (fun _ => True) (.slice Ao17 t617.length co17) t617) ∧ Aside0 (w'.heap[gb607]? = some (.cells #[.int .i64 a0_0,.int .i64 a0_1,(.slice A0_2 l0_2.length c0_2)] 24 (0,0))) ∧ Aside0 (w'.heap[gb608]? = some (.cells #[(.slice A1_0 l1_0.length c1_0),(.slice A1_1 l1_1.length c1_1)] 26 (0,0))) ∧ Aside0 (w'.heap[gb621]? = some (.cells #[.int .i64 t609,.int .i64 t610,(.slice Ao15 t611.length co15),(.slice Ao16 t614.length co16),(.slice Ao17 t617.length co17)] 52 (0,0))) ∧ Aside0 (w'.heap[gb622]? = some (mpO x623000_1)) ∧ Aside0 (Below w.heap.size w w'))
    case atStart => exact ⟨(y637),(0),(by first|rfl|(simp;done)|(simp [*];done)),H',⟨Nat.le_refl _⟩,⟨by (with_reducible repeat (first|apply Kd.R_alloc|apply Kd.R_drewN|apply Kd.R_drew));exact Kd.R_mono HO639.out (fun _ hk => ⟨hk.1.2,hk.2⟩)⟩,⟨by (with_reducible repeat (first|apply Kd.R_alloc|apply Kd.R_drewN|apply Kd.R_drew));exact Kd.R_mono HO_622002.out (fun _ hk => ⟨hk.2,hk.1⟩)⟩,⟨by (with_reducible repeat (first|apply Kd.R_alloc|apply Kd.R_drewN|apply Kd.R_drew));exact Kd.R_mono HO_622003.out (fun _ hk => ⟨hk.2,hk.1⟩)⟩,⟨Kd.R_up HO_622004.out⟩,⟨blk_up BK607.out⟩,⟨blk_up BK608.out⟩,⟨blk_up BK621.out⟩,⟨blk_up BK622.out⟩,⟨hb_⟩⟩
    case round =>
     clear H'
     obtain ⟨x17_2,x100_2,rfl,HA,HK2,HO_17,HO_622002,HO_622003,HO_622004,BK607,BK608,BK621,BK622,HB⟩:=hrel
     have hl17_2:=(Kd.R_reads' HO_17.out).1
     rw [hl17_2] at HO_17
     (try simp only [hl17_2])
     (try simp only [hl17_2] at BK607)
     (try simp only [hl17_2] at BK608)
     (try simp only [hl17_2] at BK621)
     (try simp only [hl17_2] at BK622)
     (try simp only [hl17_2] at HO_622002)
     (try simp only [hl17_2] at HO_622003)
     (try simp only [hl17_2] at HO_622004)
     cases gk with
     | zero => exact absurd HA.out (by simp [water_Areas.l3])
     | succ k2 =>
      have H:=HA.out
      clear HA
      simp only [water_Areas.l3] at H
      by_cases c81 : x100_2 < (y637.length : Int)
      rotate_left
      ·rw [if_neg c81] at H
       have c81b0 : decide (x100_2 < (y637.length : Int)) = false:=decide_eq_false c81
       (try simp only [hl17_2] at c81b0)
       clear c81
       simp only [Option.some.injEq,Prod.mk.injEq] at H
       obtain ⟨rfl,rfl⟩:=H
       go_wp2
       go_ret2
       exact ⟨_,by first|rfl|(simp [errW_none,errW_some] <;> rfl)|(simp [*,errW_none,errW_some] <;> rfl),by (with_reducible repeat (first|apply Kd.R_alloc|apply Kd.R_drewN|apply Kd.R_drew));exact Kd.R_mono HO_17.out (fun _ hk => trivial),hb_⟩
      rw [if_pos c81] at H
      have c81b0 : decide (x100_2 < (y637.length : Int)) = true:=decide_eq_true c81
      (try simp only [hl17_2] at c81b0)
      clear c81
      replace H:=ifp_ H;obtain ⟨c82,H⟩:=H
      have c82b0 : decide (0 ≤ x100_2) = true:=decide_eq_true c82
      clear c82
      replace H:=ifp_ H;obtain ⟨c83,H⟩:=H
      have c83b0 : decide (x100_2 < (x17_2.length : Int)) = true:=decide_eq_true c83
      (try simp only [hl17_2] at c83b0)
      clear c83
      obtain ⟨y640,hy640⟩ : ∃ y_ : List Int,y_ = (x17_2.set (x100_2 : Int).toNat (-1)):=⟨_,rfl⟩
      replace H : (if mpHas x100_2 x623000_1 = true then (water_Areas.l3 k2 (y640.set (x100_2 : Int).toNat (mpV x100_2 x623000_1)) (y637.length : Int) (wrap64 (x100_2 + 1)) x623000_1) else (water_Areas.l3 k2 y640 (y637.length : Int) (wrap64 (x100_2 + 1)) x623000_1)) = some (r1,r2):=by first|(rw [hy640];with_reducible exact H)|(have H2_:=(Option.bind_some _ _).symm.trans H;rw [hy640];with_reducible exact H2_)|(have H2_:=(Option.bind_some _ _).symm.trans H;with_reducible exact H2_)|with_reducible exact H|(rw [hy640];exact H)|exact H
      have Ny640:=Aside0.mk hy640
      clear hy640
      by_cases c85 : mpHas x100_2 x623000_1 = true
      ·rw [if_pos c85] at H
       have c85b0 : mpHas x100_2 x623000_1 = true:=c85
       clear c85
       obtain ⟨y641,hy641⟩ : ∃ y_ : List Int,y_ = (y640.set (x100_2 : Int).toNat (mpV x100_2 x623000_1)):=⟨_,rfl⟩
       replace H : (water_Areas.l3 k2 y641 (y637.length : Int) (wrap64 (x100_2 + 1)) x623000_1) = some (r1,r2):=by first|(rw [hy641];with_reducible exact H)|(have H2_:=(Option.bind_some _ _).symm.trans H;rw [hy641];with_reducible exact H2_)|(have H2_:=(Option.bind_some _ _).symm.trans H;with_reducible exact H2_)|with_reducible exact H|(rw [hy641];exact H)|exact H
       have Ny641:=Aside0.mk hy641
       clear hy641
       have H':=Aside0.mk H
       clear H
       have p84 : 0 ≤ (x100_2 : Int):=of_decide_eq_true (by first|(with_reducible assumption)|assumption)
       have q84 : (x100_2 : Int) < ((x17_2.length : Int) : Int):=of_decide_eq_true (by first|(with_reducible assumption)|assumption)
       obtain ⟨go84,co84,eo84,gb84,gl84,cl84,HG84⟩:=Kd.R_form HO_17.out (by omega)
       (first|cases eo84|(injection eo84 with ea_ en_ ec_;(first|subst ea_|(injection ea_ with ea_;subst ea_));subst ec_;clear en_))
       have GB84:=Aside0.mk gb84
       have GG84:=Aside0.mk HG84
       clear gb84 gl84 HG84
       obtain ⟨hx84_0,hf84_0⟩:=Kd.R_celln 0 HO_17.out (x100_2 : Int) p84 q84
       replace p84:=eq_true p84
       replace q84:=eq_true q84
       have HP87:=Kd.R_putg HO_17.out (x100_2 : Int) (-1)
       go_wp2_with (first|((with_reducible refine gate_store (t:=3) (p:=105) rfl ?_);refine store_event (t:=3) (p:=105) (v:=?vo_w88) (w1:=(wr.setCell ⟨go84,(x100_2 : Int).toNat,none⟩ (.int .i64 (-1)))) ?hg ?ho ?hn ?hr ?_;(case ho => rfl);(case hg => rfl);(case hn => rfl);(case hr => first|(go_simp;done)|(go_simp;rfl));intro w88 hw;have hg : wr.grownBy w88 (some go84):=(by rw [hw];exact HP87.2);have hp_ : Kd.R (Kd.int .i64) 3 w88 w.heap.size (fun k_ => some k_ ≠ (.slice Ao15 t611.length co15 : Value).ownBlock ∧ some k_ ≠ (.slice Ao16 t614.length co16 : Value).ownBlock) (.slice (some ⟨go84,0,none⟩) x17_2.length co80) y640:=(by rw [hw,Ny640.out];exact HP87.1);clear HP87;replace HO_622002:=Aside0.mk (Kd.R_after (v:=(.slice (some ⟨go84,0,none⟩) x17_2.length co80)) (v1:=(.slice (some ⟨go84,0,none⟩) x17_2.length co80)) (ok:=(fun k_ => some k_ ≠ (.slice Ao16 t614.length co16 : Value).ownBlock)) (by (with_reducible repeat (first|apply Kd.R_alloc|apply Kd.R_drewN|apply Kd.R_drew));exact Kd.R_mono HO_622002.out (fun _ hk => ⟨hk.2,hk.1⟩)) hg (.inl rfl));replace HO_622003:=Aside0.mk (Kd.R_after (v:=(.slice (some ⟨go84,0,none⟩) x17_2.length co80)) (v1:=(.slice (some ⟨go84,0,none⟩) x17_2.length co80)) (ok:=(fun k_ => some k_ ≠ (.slice Ao15 t611.length co15 : Value).ownBlock)) (by (with_reducible repeat (first|apply Kd.R_alloc|apply Kd.R_drewN|apply Kd.R_drew));exact Kd.R_mono HO_622003.out (fun _ hk => ⟨hk.2,hk.1⟩)) hg (.inl rfl));replace HO_622004:=Aside0.mk (Kd.R_over' (v:=(.slice (some ⟨go84,0,none⟩) x17_2.length co80)) (Kd.R_up HO_622004.out) (Kd.R_typed HO_17.out) (by decide) hg);replace BK607:=Aside0.mk (blk_grown (blk_up BK607.out) hg (Kd.R_ne HO_17.out BK607.out (by decide)));replace BK608:=Aside0.mk (blk_grown (blk_up BK608.out) hg (Kd.R_ne HO_17.out BK608.out (by decide)));replace BK621:=Aside0.mk (blk_grown (blk_up BK621.out) hg (Kd.R_ne HO_17.out BK621.out (by decide)));replace BK622:=Aside0.mk (blk_grown (blk_up BK622.out) hg (mp_R_ne HO_17.out BK622.out));replace HO_17:=Aside0.mk (hp_);replace HB:=Aside0.mk ((by rw [hw];exact below_set (HB.out) GB84.out : Below w.heap.size w w88));clear hg hw hp_)|((with_reducible refine gate_dst (N:=109) rfl ?_);refine mp_look_ok rfl (t:=61) rfl (b:=gb622) (x:=x100_2) (l:=x623000_1) ?hm_ ?hk_ mpT_61 mpK_61 mpZ_61 ?hb_ ?_;(case hm_ => first|rfl|(go_simp;done));(case hk_ => first|rfl|(go_simp;done));(case hb_ => exact (blk_up BK622.out));have p86 : 0 ≤ (x100_2 : Int):=of_decide_eq_true (by first|(with_reducible assumption)|assumption);have q86 : (x100_2 : Int) < ((x17_2.length : Int) : Int):=of_decide_eq_true (by first|(with_reducible assumption)|assumption);obtain ⟨hx86_0,hf86_0⟩:=Kd.R_celln 0 HO_17.out (x100_2 : Int) p86 q86;replace p86:=eq_true p86;replace q86:=eq_true q86;obtain ⟨hy89_,hz89_⟩:=Kd.R_celln 0 HO_17.out (x100_2 : Int) (of_decide_eq_true (by first|(with_reducible assumption)|assumption)) (of_decide_eq_true (by first|(with_reducible assumption)|assumption));have HP89:=Kd.R_putg HO_17.out (x100_2 : Int) (mpV x100_2 x623000_1))|((with_reducible refine gate_store (t:=3) (p:=116) rfl ?_);refine store_event (t:=3) (p:=116) (v:=?vo_w90) (w1:=(w88.setCell ⟨go84,(x100_2 : Int).toNat,none⟩ (.int .i64 (mpV x100_2 x623000_1)))) ?hg ?ho ?hn ?hr ?_;(case ho => rfl);(case hg => rfl);(case hn => rfl);(case hr => first|(go_simp;done)|(go_simp;rfl));intro w90 hw;have hg : w88.grownBy w90 (some go84):=(by rw [hw];exact HP89.2);have hp_ : Kd.R (Kd.int .i64) 3 w90 w.heap.size (fun k_ => some k_ ≠ (.slice Ao15 t611.length co15 : Value).ownBlock ∧ some k_ ≠ (.slice Ao16 t614.length co16 : Value).ownBlock) (.slice (some ⟨go84,0,none⟩) x17_2.length co80) y641:=(by rw [hw,Ny641.out];exact HP89.1);clear HP89;replace HO_622002:=Aside0.mk (Kd.R_after (v:=(.slice (some ⟨go84,0,none⟩) x17_2.length co80)) (v1:=(.slice (some ⟨go84,0,none⟩) x17_2.length co80)) (ok:=(fun k_ => some k_ ≠ (.slice Ao16 t614.length co16 : Value).ownBlock)) (Kd.R_up HO_622002.out) hg (.inl rfl));replace HO_622003:=Aside0.mk (Kd.R_after (v:=(.slice (some ⟨go84,0,none⟩) x17_2.length co80)) (v1:=(.slice (some ⟨go84,0,none⟩) x17_2.length co80)) (ok:=(fun k_ => some k_ ≠ (.slice Ao15 t611.length co15 : Value).ownBlock)) (Kd.R_up HO_622003.out) hg (.inl rfl));replace HO_622004:=Aside0.mk (Kd.R_over' (v:=(.slice (some ⟨go84,0,none⟩) x17_2.length co80)) (Kd.R_up HO_622004.out) (Kd.R_typed HO_17.out) (by decide) hg);replace BK607:=Aside0.mk (blk_grown (blk_up BK607.out) hg (Kd.R_ne HO_17.out BK607.out (by decide)));replace BK608:=Aside0.mk (blk_grown (blk_up BK608.out) hg (Kd.R_ne HO_17.out BK608.out (by decide)));replace BK621:=Aside0.mk (blk_grown (blk_up BK621.out) hg (Kd.R_ne HO_17.out BK621.out (by decide)));replace BK622:=Aside0.mk (blk_grown (blk_up BK622.out) hg (mp_R_ne HO_17.out BK622.out));replace HO_17:=Aside0.mk (hp_);replace HB:=Aside0.mk ((by rw [hw];exact below_set (HB.out) GB84.out : Below w.heap.size w w90));clear hg hw hp_))
       (try simp only [← hl17_2])
       go_roundg k2
       case measure => have:=HK1.out;have:=HK2.out;omega
       case rel => exact ⟨(y641),(wrap64 (x100_2 + 1)),(by first|rfl|(simp;done)|(simp [*];done)),H',⟨by have:=HK1.out;have:=HK2.out;omega⟩,⟨by (try simp only [hl17_2]);(with_reducible repeat (first|apply Kd.R_alloc|apply Kd.R_drewN|apply Kd.R_drew));exact HO_17.out⟩,⟨by (try simp only [hl17_2]);(with_reducible repeat (first|apply Kd.R_alloc|apply Kd.R_drewN|apply Kd.R_drew));exact Kd.R_mono HO_622002.out (fun _ hk => ⟨hk.2,hk.1⟩)⟩,⟨by (try simp only [hl17_2]);(with_reducible repeat (first|apply Kd.R_alloc|apply Kd.R_drewN|apply Kd.R_drew));exact Kd.R_mono HO_622003.out (fun _ hk => ⟨hk.2,hk.1⟩)⟩,⟨by (try simp only [hl17_2]);(with_reducible repeat (first|apply Kd.R_alloc|apply Kd.R_drewN|apply Kd.R_drew));exact HO_622004.out⟩,⟨by (try simp only [hl17_2]);(with_reducible repeat (first|refine blk_drewN ?_ _|refine blk_drew ?_|refine blk_alloc ?_ _));exact BK607.out⟩,⟨by (try simp only [hl17_2]);(with_reducible repeat (first|refine blk_drewN ?_ _|refine blk_drew ?_|refine blk_alloc ?_ _));exact BK608.out⟩,⟨by (try simp only [hl17_2]);(with_reducible repeat (first|refine blk_drewN ?_ _|refine blk_drew ?_|refine blk_alloc ?_ _));exact BK621.out⟩,⟨by (try simp only [hl17_2]);(with_reducible repeat (first|refine blk_drewN ?_ _|refine blk_drew ?_|refine blk_alloc ?_ _));exact BK622.out⟩,⟨hb_⟩⟩
      ·rw [if_neg c85] at H
       have c85b0 : mpHas x100_2 x623000_1 = false:=by simpa using c85
       clear c85
       have H':=Aside0.mk H
       clear H
       have p84 : 0 ≤ (x100_2 : Int):=of_decide_eq_true (by first|(with_reducible assumption)|assumption)
       have q84 : (x100_2 : Int) < ((x17_2.length : Int) : Int):=of_decide_eq_true (by first|(with_reducible assumption)|assumption)
       obtain ⟨go84,co84,eo84,gb84,gl84,cl84,HG84⟩:=Kd.R_form HO_17.out (by omega)
       (first|cases eo84|(injection eo84 with ea_ en_ ec_;(first|subst ea_|(injection ea_ with ea_;subst ea_));subst ec_;clear en_))
       have GB84:=Aside0.mk gb84
       have GG84:=Aside0.mk HG84
       clear gb84 gl84 HG84
       obtain ⟨hx84_0,hf84_0⟩:=Kd.R_celln 0 HO_17.out (x100_2 : Int) p84 q84
       replace p84:=eq_true p84
       replace q84:=eq_true q84
       have HP91:=Kd.R_putg HO_17.out (x100_2 : Int) (-1)
       go_wp2_with (first|((with_reducible refine gate_store (t:=3) (p:=105) rfl ?_);refine store_event (t:=3) (p:=105) (v:=?vo_w92) (w1:=(wr.setCell ⟨go84,(x100_2 : Int).toNat,none⟩ (.int .i64 (-1)))) ?hg ?ho ?hn ?hr ?_;(case ho => rfl);(case hg => rfl);(case hn => rfl);(case hr => first|(go_simp;done)|(go_simp;rfl));intro w92 hw;have hg : wr.grownBy w92 (some go84):=(by rw [hw];exact HP91.2);have hp_ : Kd.R (Kd.int .i64) 3 w92 w.heap.size (fun k_ => some k_ ≠ (.slice Ao15 t611.length co15 : Value).ownBlock ∧ some k_ ≠ (.slice Ao16 t614.length co16 : Value).ownBlock) (.slice (some ⟨go84,0,none⟩) x17_2.length co80) y640:=(by rw [hw,Ny640.out];exact HP91.1);clear HP91;replace HO_622002:=Aside0.mk (Kd.R_after (v:=(.slice (some ⟨go84,0,none⟩) x17_2.length co80)) (v1:=(.slice (some ⟨go84,0,none⟩) x17_2.length co80)) (ok:=(fun k_ => some k_ ≠ (.slice Ao16 t614.length co16 : Value).ownBlock)) (by (with_reducible repeat (first|apply Kd.R_alloc|apply Kd.R_drewN|apply Kd.R_drew));exact Kd.R_mono HO_622002.out (fun _ hk => ⟨hk.2,hk.1⟩)) hg (.inl rfl));replace HO_622003:=Aside0.mk (Kd.R_after (v:=(.slice (some ⟨go84,0,none⟩) x17_2.length co80)) (v1:=(.slice (some ⟨go84,0,none⟩) x17_2.length co80)) (ok:=(fun k_ => some k_ ≠ (.slice Ao15 t611.length co15 : Value).ownBlock)) (by (with_reducible repeat (first|apply Kd.R_alloc|apply Kd.R_drewN|apply Kd.R_drew));exact Kd.R_mono HO_622003.out (fun _ hk => ⟨hk.2,hk.1⟩)) hg (.inl rfl));replace HO_622004:=Aside0.mk (Kd.R_over' (v:=(.slice (some ⟨go84,0,none⟩) x17_2.length co80)) (Kd.R_up HO_622004.out) (Kd.R_typed HO_17.out) (by decide) hg);replace BK607:=Aside0.mk (blk_grown (blk_up BK607.out) hg (Kd.R_ne HO_17.out BK607.out (by decide)));replace BK608:=Aside0.mk (blk_grown (blk_up BK608.out) hg (Kd.R_ne HO_17.out BK608.out (by decide)));replace BK621:=Aside0.mk (blk_grown (blk_up BK621.out) hg (Kd.R_ne HO_17.out BK621.out (by decide)));replace BK622:=Aside0.mk (blk_grown (blk_up BK622.out) hg (mp_R_ne HO_17.out BK622.out));replace HO_17:=Aside0.mk (hp_);replace HB:=Aside0.mk ((by rw [hw];exact below_set (HB.out) GB84.out : Below w.heap.size w w92));clear hg hw hp_)|((with_reducible refine gate_dst (N:=109) rfl ?_);refine mp_look_ok rfl (t:=61) rfl (b:=gb622) (x:=x100_2) (l:=x623000_1) ?hm_ ?hk_ mpT_61 mpK_61 mpZ_61 ?hb_ ?_;(case hm_ => first|rfl|(go_simp;done));(case hk_ => first|rfl|(go_simp;done));(case hb_ => exact (blk_up BK622.out))))
       (try simp only [← hl17_2])
       go_roundg k2
       case measure => have:=HK1.out;have:=HK2.out;omega
       case rel => exact ⟨(y640),(wrap64 (x100_2 + 1)),(by first|rfl|(simp;done)|(simp [*];done)),H',⟨by have:=HK1.out;have:=HK2.out;omega⟩,⟨by (try simp only [hl17_2]);(with_reducible repeat (first|apply Kd.R_alloc|apply Kd.R_drewN|apply Kd.R_drew));exact HO_17.out⟩,⟨by (try simp only [hl17_2]);(with_reducible repeat (first|apply Kd.R_alloc|apply Kd.R_drewN|apply Kd.R_drew));exact Kd.R_mono HO_622002.out (fun _ hk => ⟨hk.2,hk.1⟩)⟩,⟨by (try simp only [hl17_2]);(with_reducible repeat (first|apply Kd.R_alloc|apply Kd.R_drewN|apply Kd.R_drew));exact Kd.R_mono HO_622003.out (fun _ hk => ⟨hk.2,hk.1⟩)⟩,⟨by (try simp only [hl17_2]);(with_reducible repeat (first|apply Kd.R_alloc|apply Kd.R_drewN|apply Kd.R_drew));exact HO_622004.out⟩,⟨by (try simp only [hl17_2]);(with_reducible repeat (first|refine blk_drewN ?_ _|refine blk_drew ?_|refine blk_alloc ?_ _));exact BK607.out⟩,⟨by (try simp only [hl17_2]);(with_reducible repeat (first|refine blk_drewN ?_ _|refine blk_drew ?_|refine blk_alloc ?_ _));exact BK608.out⟩,⟨by (try simp only [hl17_2]);(with_reducible repeat (first|refine blk_drewN ?_ _|refine blk_drew ?_|refine blk_alloc ?_ _));exact BK621.out⟩,⟨by (try simp only [hl17_2]);(with_reducible repeat (first|refine blk_drewN ?_ _|refine blk_drew ?_|refine blk_alloc ?_ _));exact BK622.out⟩,⟨hb_⟩⟩
   rw [if_pos c21] at H
   have c21b0 : decide (x34_1 < (l1_0.length : Int)) = true:=decide_eq_true c21
   clear c21
   by_cases c22 : mpHas x34_1 x623000_1 = true
   ·rw [if_pos c22] at H
    have c22b0 : mpHas x34_1 x623000_1 = true:=c22
    clear c22
    have H':=Aside0.mk H
    clear H
    go_wp2_with (first|((with_reducible refine gate_dst (N:=40) rfl ?_);refine mp_look_ok rfl (t:=61) rfl (b:=gb622) (x:=x34_1) (l:=x623000_1) ?hm_ ?hk_ mpT_61 mpK_61 mpZ_61 ?hb_ ?_;(case hm_ => first|rfl|(go_simp;done));(case hk_ => first|rfl|(go_simp;done));(case hb_ => exact (blk_up BK622.out))))
    go_roundg k1
    case measure => have:=HK1.out;omega
    case rel => exact ⟨(wrap64 (x34_1 + 1)),(x623000_1),(by first|rfl|(simp;done)|(simp [*];done)),H',⟨by have:=HK1.out;omega⟩,⟨Kd.R_up HO_622002.out⟩,⟨Kd.R_up HO_622003.out⟩,⟨Kd.R_up HO_622004.out⟩,⟨blk_up BK607.out⟩,⟨blk_up BK608.out⟩,⟨blk_up BK621.out⟩,⟨blk_up BK622.out⟩,⟨hb_⟩⟩
   rw [if_neg c22] at H
   have c22b0 : mpHas x34_1 x623000_1 = false:=by simpa using c22
   clear c22
   replace H:=Option.bind_eq_some_iff.mp H
   obtain ⟨t623,A230,H⟩:=H
   replace H : (if t623 = true then (water_Areas.l1 k1 x34_1 (([x34_1] : List Int)) (l1_0.length : Int) x34_1 l1_0 l1_1 t609 t610 t611 t614 t617 (mpPut x34_1 x34_1 x623000_1)) else (water_Areas.l0 k1 (l1_0.length : Int) (wrap64 (x34_1 + 1)) l1_0 l1_1 t609 t610 t611 t614 t617 x623000_1)) = some (r1,r2):=H
   have A23:=Aside0.mk A230
   clear A230
   by_cases c24 : t623 = true
   ·subst c24
    have H1 : (water_Areas.l1 k1 x34_1 (([x34_1] : List Int)) (l1_0.length : Int) x34_1 l1_0 l1_1 t609 t610 t611 t614 t617 (mpPut x34_1 x34_1 x623000_1)) = some (r1,r2):=by rw [if_pos rfl] at H;exact H
    clear H
    have H:=H1
    clear H1
    obtain ⟨y624,hy624⟩ : ∃ y_ : List Int,y_ = (([x34_1] : List Int)):=⟨_,rfl⟩
    replace H : (water_Areas.l1 k1 x34_1 y624 (l1_0.length : Int) x34_1 l1_0 l1_1 t609 t610 t611 t614 t617 (mpPut x34_1 x34_1 x623000_1)) = some (r1,r2):=by first|(rw [hy624];with_reducible exact H)|(have H2_:=(Option.bind_some _ _).symm.trans H;rw [hy624];with_reducible exact H2_)|(have H2_:=(Option.bind_some _ _).symm.trans H;with_reducible exact H2_)|with_reducible exact H|(rw [hy624];exact H)|exact H
    have Ny624:=Aside0.mk hy624
    clear hy624
    have H':=Aside0.mk H
    clear H
    go_wp2_with (first|((with_reducible refine gate_dst (N:=40) rfl ?_);refine mp_look_ok rfl (t:=61) rfl (b:=gb622) (x:=x34_1) (l:=x623000_1) ?hm_ ?hk_ mpT_61 mpK_61 mpZ_61 ?hb_ ?_;(case hm_ => first|rfl|(go_simp;done));(case hk_ => first|rfl|(go_simp;done));(case hb_ => exact (blk_up BK622.out));have hnb25:=NB621_607.out;have hnc25:=NB607_621.out;have hnb26:=NB621_608.out;have hnc26:=NB608_621.out;have hnb27:=NB621_622.out;have hnc27:=NB622_621.out;obtain ⟨hcz28_0,hcz28_1,hcz28_2,hcz28_3,hcz28_4,hfz28_0,hfz28_1,hfz28_2,hfz28_3,hfz28_4⟩:=cells5 BK621.out;have hnb29:=NB608_607.out;have hnc29:=NB607_608.out;have hnb30:=NB608_622.out;have hnc30:=NB622_608.out;obtain ⟨hcz31_0,hcz31_1,hfz31_0,hfz31_1⟩:=cells2 BK608.out)|(go_at_call 45;(with_reducible refine (water_ground_wet.calls t609 t610 _ _ t611 _ _ t614 _ _ t617 _ _ l1_0 _ _ l1_1 x34_1 true _ ?side1 ?side2 ?side3 ?side4 ?side5 ?side6 ?side7 ?side8 ?side9 ?side10 A23.out).mono ?_);(case side1 => exact Kd.C_up (Kd.R_reads' HO_622002.out).2.2);(case side2 => exact (Kd.R_reads' HO_622002.out).2.1);(case side3 => exact Kd.C_up (Kd.R_reads' HO_622003.out).2.2);(case side4 => exact (Kd.R_reads' HO_622003.out).2.1);(case side5 => exact Kd.C_up (Kd.R_reads' HO_622004.out).2.2);(case side6 => exact (Kd.R_reads' HO_622004.out).2.1);(case side7 => exact Kd.C_up (Kd.C_below HR1_0.out HB.out));(case side8 => exact HC1_0.out);(case side9 => exact Kd.C_up (Kd.C_below HR1_1.out HB.out));(case side10 => exact HC1_1.out);rintro e w32 ⟨rfl,hb⟩;replace HO_622002:=rbw HO_622002 hb;replace HO_622003:=rbw HO_622003 hb;replace HO_622004:=rbw HO_622004 hb;replace BK607:=bkb BK607 hb;replace BK608:=bkb BK608 hb;replace BK621:=bkb BK621 hb;replace BK622:=bkb BK622 hb;replace HB:=Aside0.mk (below_step (hb_) hb))|((with_reducible refine mp_gate (t:=61) rfl ?_);refine mp_put rfl rfl (t:=61) rfl (b:=gb622) (x:=x34_1) (y:=x34_1) (l:=x623000_1) ?hm_ ?hk_ ?hv_ mpT_61 mpK_61 ?hb_ ?_;(case hm_ => first|rfl|(go_simp;done));(case hk_ => first|rfl|(go_simp;done));(case hv_ => first|rfl|(go_simp;done));(case hb_ => exact (blk_up BK622.out));intro w33 hbox hg;replace HO_622002:=Aside0.mk (mp_R_over (Kd.R_up HO_622002.out) (blk_up BK622.out) ⟨_,rfl⟩ hg);replace HO_622003:=Aside0.mk (mp_R_over (Kd.R_up HO_622003.out) (blk_up BK622.out) ⟨_,rfl⟩ hg);replace HO_622004:=Aside0.mk (mp_R_over (Kd.R_up HO_622004.out) (blk_up BK622.out) ⟨_,rfl⟩ hg);replace BK607:=Aside0.mk (blk_grown (blk_up BK607.out) hg (fun e_ => NB607_622.out (Option.some.inj e_)));replace BK608:=Aside0.mk (blk_grown (blk_up BK608.out) hg (fun e_ => NB608_622.out (Option.some.inj e_)));replace BK621:=Aside0.mk (blk_grown (blk_up BK621.out) hg (fun e_ => NB621_622.out (Option.some.inj e_)));replace BK622:=Aside0.mk (hbox);replace HB:=Aside0.mk (Below.grown (hb_) hg (below_size (hb_)) (fun k_ hk_ => by injection hk_ with hk_;rw [← hk_];exact GE622.out));clear hbox hg)|((with_reducible refine gate_dst (N:=55) rfl ?_);refine Kd.R_lit (Kd.int .i64) _ 3 ?hg (N:=55) ?hd (xs:=([x34_1] : List Int)) (inner:=[.int .i64 x34_1]) (ok:=fun _ => True) (okp:=fun _ => True) ?hr ?hp (fun _ hk => hk) trivial (Below.refl _ _) (Nat.le_refl _) (by simp) ?_;(case hd => rfl);(case hg => rfl);(case hr => first|(go_simp;done)|(go_simp;rfl));(case hp => exact (Reps.one (show Kd.M (Kd.int .i64) _ _ _ x34_1 [.int .i64 x34_1] from rfl) (Reps.none _ _)));intro v625 w34 ho35 hb hg_ hnew_;clear hg_ hnew_;(first|rw [← Ny624.out] at ho35|(simp only [Int.reduceToNat] at ho35;rw [← Ny624.out] at ho35));have HO626:=Aside0.mk (Kd.R_lower (Kd.R_new' (Kd.R_new' ho35 (Kd.R_lt (Kd.R_up HO_622002.out))) (Kd.R_lt (Kd.R_up HO_622003.out))) (below_size (hb_)));replace HO_622002:=Aside0.mk (Kd.R_elder' (Kd.R_up HO_622002.out) (Kd.R_base ho35) hb);replace HO_622003:=Aside0.mk (Kd.R_elder' (Kd.R_up HO_622003.out) (Kd.R_base ho35) hb);replace HO_622004:=rbw HO_622004 hb;replace BK607:=bkb BK607 hb;replace BK608:=bkb BK608 hb;replace BK621:=bkb BK621 hb;replace BK622:=bkb BK622 hb;replace HB:=Aside0.mk (below_step (hb_) hb);clear hb ho35))
    go_loopg [12] k1 (fun kq v12 w' => ∃ (x12_2 : List Int) (x623000_2 : List (Int × Int)),Aside0 (water_Areas.l1 kq x34_1 x12_2 (l1_0.length : Int) x34_1 l1_0 l1_1 t609 t610 t611 t614 t617 x623000_2 = some (r1,r2)) ∧ Aside0 (kq ≤ k1) ∧ Aside0 (Kd.Q (Kd.int .i64) 3 w' w.heap.size (fun k_ => some k_ ≠ ((.slice Ao15 t611.length co15) : Value).ownBlock ∧ some k_ ≠ ((.slice Ao16 t614.length co16) : Value).ownBlock) v12 x12_2) ∧ Aside0 (Kd.R (Kd.int .i64) 3 w' w.heap.size (fun k_ => some k_ ≠ (v12 : Value).ownBlock ∧ some k_ ≠ ((.slice Ao16 t614.length co16) : Value).ownBlock) (.slice Ao15 t611.length co15) t611) ∧ Aside0 (Kd.R (Kd.int .i64) 3 w' w.heap.size (fun k_ => some k_ ≠ (v12 : Value).ownBlock ∧ some k_ ≠ ((.slice Ao15 t611.length co15) : Value).ownBlock) (.slice Ao16 t614.length co16) t614) ∧ Aside0 (Kd.R Kd.bool 4 w' w.heap.size (fun _ => True) (.slice Ao17 t617.length co17) t617) ∧ Aside0 (w'.heap[gb607]? = some (.cells #[.int .i64 a0_0,.int .i64 a0_1,(.slice A0_2 l0_2.length c0_2)] 24 (0,0))) ∧ Aside0 (w'.heap[gb608]? = some (.cells #[(.slice A1_0 l1_0.length c1_0),(.slice A1_1 l1_1.length c1_1)] 26 (0,0))) ∧ Aside0 (w'.heap[gb621]? = some (.cells #[.int .i64 t609,.int .i64 t610,(.slice Ao15 t611.length co15),(.slice Ao16 t614.length co16),(.slice Ao17 t617.length co17)] 52 (0,0))) ∧ Aside0 (w'.heap[gb622]? = some (mpO x623000_2)) ∧ Aside0 (Below w.heap.size w w'))
    case atStart => exact ⟨(y624),(mpPut x34_1 x34_1 x623000_1),H',⟨Nat.le_refl _⟩,⟨Kd.Q_of_R (by (with_reducible repeat (first|apply Kd.R_alloc|apply Kd.R_drewN|apply Kd.R_drew));exact Kd.R_mono HO626.out (fun _ hk => ⟨hk.1.2,hk.2⟩))⟩,⟨by (with_reducible repeat (first|apply Kd.R_alloc|apply Kd.R_drewN|apply Kd.R_drew));exact Kd.R_mono HO_622002.out (fun _ hk => ⟨hk.2,hk.1⟩)⟩,⟨by (with_reducible repeat (first|apply Kd.R_alloc|apply Kd.R_drewN|apply Kd.R_drew));exact Kd.R_mono HO_622003.out (fun _ hk => ⟨hk.2,hk.1⟩)⟩,⟨Kd.R_up HO_622004.out⟩,⟨blk_up BK607.out⟩,⟨blk_up BK608.out⟩,⟨blk_up BK621.out⟩,⟨blk_up BK622.out⟩,⟨hb_⟩⟩
    case round =>
     clear H'
     obtain ⟨x12_2,x623000_2,HA,HK2,HO_12,HO_622002,HO_622003,HO_622004,BK607,BK608,BK621,BK622,HB⟩:=hrel
     cases gk with
     | zero => exact absurd HA.out (by simp [water_Areas.l1])
     | succ k2 =>
      have H:=HA.out
      clear HA
      simp only [water_Areas.l1] at H
      by_cases c36 : (x12_2.length : Int) > 0
      rotate_left
      ·rw [if_neg c36] at H
       have c36b0 : decide (0 < (x12_2.length : Int)) = false:=decide_eq_false c36
       have c36b1 : decide (0 < x12_2.length) = false:=decide_eq_false (by omega)
       clear c36
       have H':=Aside0.mk H
       clear H
       obtain ⟨Ao63,co63,eo63,_⟩:=Kd.Q_slice HO_12.out
       subst eo63
       go_wp2
       go_roundg k2
       case measure => have:=HK1.out;have:=HK2.out;omega
       case rel => exact ⟨(wrap64 (x34_1 + 1)),(x623000_2),(by first|rfl|(simp;done)|(simp [*];done)),H',⟨by have:=HK1.out;have:=HK2.out;omega⟩,⟨by (with_reducible repeat (first|apply Kd.R_alloc|apply Kd.R_drewN|apply Kd.R_drew));exact Kd.R_mono HO_622002.out (fun _ hk => hk.2)⟩,⟨by (with_reducible repeat (first|apply Kd.R_alloc|apply Kd.R_drewN|apply Kd.R_drew));exact Kd.R_mono HO_622003.out (fun _ hk => hk.2)⟩,⟨Kd.R_up HO_622004.out⟩,⟨blk_up BK607.out⟩,⟨blk_up BK608.out⟩,⟨blk_up BK621.out⟩,⟨blk_up BK622.out⟩,⟨hb_⟩⟩
      rw [if_pos c36] at H
      have c36b0 : decide (0 < (x12_2.length : Int)) = true:=decide_eq_true c36
      have c36b1 : decide (0 < x12_2.length) = true:=decide_eq_true (by omega)
      clear c36
      have H':=Aside0.mk H
      clear H
      obtain ⟨Ao37,co37,eo37,_⟩:=Kd.Q_slice HO_12.out
      subst eo37
      go_wp2
      go_loopg [12,61] k2 (fun kq v12 v61 w' => ∃ (x12_3 : List Int) (x61_3 : Int) (x623000_3 : List (Int × Int)),v61 = .int .i64 x61_3 ∧ Aside0 (water_Areas.l2 kq x34_1 x12_3 (l1_0.length : Int) x34_1 x61_3 l1_0 l1_1 t609 t610 t611 t614 t617 x623000_3 = some (r1,r2)) ∧ Aside0 (kq ≤ k2) ∧ Aside0 (Kd.Q (Kd.int .i64) 3 w' w.heap.size (fun k_ => some k_ ≠ ((.slice Ao15 t611.length co15) : Value).ownBlock ∧ some k_ ≠ ((.slice Ao16 t614.length co16) : Value).ownBlock) v12 x12_3) ∧ Aside0 (Kd.R (Kd.int .i64) 3 w' w.heap.size (fun k_ => some k_ ≠ (v12 : Value).ownBlock ∧ some k_ ≠ ((.slice Ao16 t614.length co16) : Value).ownBlock) (.slice Ao15 t611.length co15) t611) ∧ Aside0 (Kd.R (Kd.int .i64) 3 w' w.heap.size (fun k_ => some k_ ≠ (v12 : Value).ownBlock ∧ some k_ ≠ ((.slice Ao15 t611.length co15) : Value).ownBlock) (.slice Ao16 t614.length co16) t614) ∧ Aside0 (Kd.R Kd.bool 4 w' w.heap.size (fun _ => True) (.slice Ao17 t617.length co17) t617) ∧ Aside0 (w'.heap[gb607]? = some (.cells #[.int .i64 a0_0,.int .i64 a0_1,(.slice A0_2 l0_2.length c0_2)] 24 (0,0))) ∧ Aside0 (w'.heap[gb608]? = some (.cells #[(.slice A1_0 l1_0.length c1_0),(.slice A1_1 l1_1.length c1_1)] 26 (0,0))) ∧ Aside0 (w'.heap[gb621]? = some (.cells #[.int .i64 t609,.int .i64 t610,(.slice Ao15 t611.length co15),(.slice Ao16 t614.length co16),(.slice Ao17 t617.length co17)] 52 (0,0))) ∧ Aside0 (w'.heap[gb622]? = some (mpO x623000_3)) ∧ Aside0 (Below w.heap.size w w'))
      case atStart => exact ⟨(x12_2),(0),(x623000_2),(by first|rfl|(simp;done)|(simp [*];done)),H',⟨Nat.le_refl _⟩,⟨Kd.Q_up HO_12.out⟩,⟨Kd.R_up HO_622002.out⟩,⟨Kd.R_up HO_622003.out⟩,⟨Kd.R_up HO_622004.out⟩,⟨blk_up BK607.out⟩,⟨blk_up BK608.out⟩,⟨blk_up BK621.out⟩,⟨blk_up BK622.out⟩,⟨hb_⟩⟩
      case round =>
       clear H'
       obtain ⟨x12_3,x61_3,x623000_3,rfl,HA,HK3,HO_12,HO_622002,HO_622003,HO_622004,BK607,BK608,BK621,BK622,HB⟩:=hrel
       cases gk with
       | zero => exact absurd HA.out (by simp [water_Areas.l2])
       | succ k3 =>
        have H:=HA.out
        clear HA
        simp only [water_Areas.l2] at H
        by_cases c38 : x61_3 < 4
        rotate_left
        ·rw [if_neg c38] at H
         have c38b0 : decide (x61_3 < 4) = false:=decide_eq_false c38
         clear c38
         replace H:=ifp_ H;obtain ⟨c60,H⟩:=H
         have c60b0:=eq_true c60
         have c60b1 : decide (1 ≤ (x12_3.length : Int)) = true:=decide_eq_true c60
         clear c60
         obtain ⟨y634,hy634⟩ : ∃ y_ : List Int,y_ = (x12_3.drop (1 : Int).toNat):=⟨_,rfl⟩
         replace H : (water_Areas.l1 k3 x34_1 y634 (l1_0.length : Int) x34_1 l1_0 l1_1 t609 t610 t611 t614 t617 x623000_3) = some (r1,r2):=by first|(rw [hy634];with_reducible exact H)|(have H2_:=(Option.bind_some _ _).symm.trans H;rw [hy634];with_reducible exact H2_)|(have H2_:=(Option.bind_some _ _).symm.trans H;with_reducible exact H2_)|with_reducible exact H|(rw [hy634];exact H)|exact H
         have Ny634:=Aside0.mk hy634
         clear hy634
         have H':=Aside0.mk H
         clear H
         obtain ⟨Ao61,co61,eo61,_⟩:=Kd.Q_slice HO_12.out
         subst eo61
         have q62 : (1 : Int) ≤ ((x12_3.length : Int) : Int):=of_decide_eq_true (by first|(with_reducible assumption)|assumption)
         obtain ⟨i062,hi062,_,hsz62,_⟩:=info_parts info3
         have hcut62:=cut_from (P:=Try.prog) 22 3 .i64 Try.underlying22 hi062 1 hsz62 Ao61 x12_3.length co61 1 (by omega) q62
         have hr62:=Kd.Q_drop (k:=(1 : Int).toNat) HO_12.out (by omega)
         obtain ⟨A62,hA62⟩ : ∃ A1,A1 = (if co61 = (1 : Int).toNat then Ao61 else (Ao61 : Option Addr).map (·.add ((1 : Int).toNat * 1))):=⟨_,rfl⟩
         obtain ⟨c62,hc62⟩ : ∃ c1,c1 = co61 - (1 : Int).toNat:=⟨_,rfl⟩
         have hy62 : y634.length = x12_3.length - (1 : Int).toNat:=(by rw [Ny634.out,List.length_drop])
         rw [← Ny634.out] at hr62
         rw [← hy62,← hA62,← hc62] at hcut62
         replace hr62 : Kd.Q (Kd.int .i64) 3 wr w.heap.size (fun k_ => some k_ ≠ (.slice Ao15 t611.length co15 : Value).ownBlock ∧ some k_ ≠ (.slice Ao16 t614.length co16 : Value).ownBlock) (.slice A62 y634.length c62) y634:=(by rw [hA62,hc62,hy62];exact hr62)
         have HE62 : Aside0 ((Value.slice A62 y634.length c62).ownBlock = (.slice Ao61 x12_3.length co61 : Value).ownBlock):=⟨by rw [hA62];split <;> (cases (Ao61 : Option Addr) <;> rfl)⟩
         clear hy62 hi062 hsz62 HO_12 hA62 hc62
         have HO636:=Aside0.mk hr62
         clear hr62
         replace q62:=eq_true q62
         have n_:=Aside0.mk (Kd.R_mono (ok':=fun k_ => (some k_ ≠ (.slice A62 y634.length c62 : Value).ownBlock ∧ some k_ ≠ (.slice Ao16 t614.length co16 : Value).ownBlock)) HO_622002.out (fun k_ hk => ⟨(by rw [HE62.out];exact hk.1),hk.2⟩))
         clear HO_622002
         have HO_622002:=n_
         clear n_
         have n_:=Aside0.mk (Kd.R_mono (ok':=fun k_ => (some k_ ≠ (.slice A62 y634.length c62 : Value).ownBlock ∧ some k_ ≠ (.slice Ao15 t611.length co15 : Value).ownBlock)) HO_622003.out (fun k_ hk => ⟨(by rw [HE62.out];exact hk.1),hk.2⟩))
         clear HO_622003
         have HO_622003:=n_
         clear n_
         go_wp2
         go_roundg k3
         case measure => have:=HK1.out;have:=HK2.out;have:=HK3.out;omega
         case rel => exact ⟨(y634),(x623000_3),H',⟨by have:=HK1.out;have:=HK2.out;have:=HK3.out;omega⟩,⟨Kd.Q_up HO636.out⟩,⟨Kd.R_up HO_622002.out⟩,⟨Kd.R_up HO_622003.out⟩,⟨Kd.R_up HO_622004.out⟩,⟨blk_up BK607.out⟩,⟨blk_up BK608.out⟩,⟨blk_up BK621.out⟩,⟨blk_up BK622.out⟩,⟨hb_⟩⟩
        rw [if_pos c38] at H
        have c38b0 : decide (x61_3 < 4) = true:=decide_eq_true c38
        clear c38
        replace H:=ifp_ H;obtain ⟨c39,H⟩:=H
        have c39b0 : decide (0 < (x12_3.length : Int)) = true:=decide_eq_true c39
        have c39b1 : decide (0 < x12_3.length) = true:=decide_eq_true (by omega)
        clear c39
        replace H:=Option.bind_eq_some_iff.mp H
        obtain ⟨t628,A400,H⟩:=H
        replace H : (if t628 = true then ((water_ground_beyond.f k3 t609 t610 t611 t614 t617 (rd x12_3 0) x61_3).bind fun t630 => (if mpHas t630 x623000_3 = true then (water_Areas.l2 k3 x34_1 x12_3 (l1_0.length : Int) x34_1 (wrap64 (x61_3 + 1)) l1_0 l1_1 t609 t610 t611 t614 t617 x623000_3) else (if x12_3.length < 17592186044416 then (water_Areas.l2 k3 x34_1 (x12_3 ++ [t630]) (l1_0.length : Int) x34_1 (wrap64 (x61_3 + 1)) l1_0 l1_1 t609 t610 t611 t614 t617 (mpPut t630 x34_1 x623000_3)) else (none)))) else (water_Areas.l2 k3 x34_1 x12_3 (l1_0.length : Int) x34_1 (wrap64 (x61_3 + 1)) l1_0 l1_1 t609 t610 t611 t614 t617 x623000_3)) = some (r1,r2):=H
        have A40:=Aside0.mk A400
        clear A400
        by_cases c41 : t628 = true
        ·subst c41
         have H1 : ((water_ground_beyond.f k3 t609 t610 t611 t614 t617 (rd x12_3 0) x61_3).bind fun t630 => (if mpHas t630 x623000_3 = true then (water_Areas.l2 k3 x34_1 x12_3 (l1_0.length : Int) x34_1 (wrap64 (x61_3 + 1)) l1_0 l1_1 t609 t610 t611 t614 t617 x623000_3) else (if x12_3.length < 17592186044416 then (water_Areas.l2 k3 x34_1 (x12_3 ++ [t630]) (l1_0.length : Int) x34_1 (wrap64 (x61_3 + 1)) l1_0 l1_1 t609 t610 t611 t614 t617 (mpPut t630 x34_1 x623000_3)) else (none)))) = some (r1,r2):=by rw [if_pos rfl] at H;exact H
         clear H
         have H:=H1
         clear H1
         replace H:=Option.bind_eq_some_iff.mp H
         obtain ⟨t630,A420,H⟩:=H
         replace H : (if mpHas t630 x623000_3 = true then (water_Areas.l2 k3 x34_1 x12_3 (l1_0.length : Int) x34_1 (wrap64 (x61_3 + 1)) l1_0 l1_1 t609 t610 t611 t614 t617 x623000_3) else (if x12_3.length < 17592186044416 then (water_Areas.l2 k3 x34_1 (x12_3 ++ [t630]) (l1_0.length : Int) x34_1 (wrap64 (x61_3 + 1)) l1_0 l1_1 t609 t610 t611 t614 t617 (mpPut t630 x34_1 x623000_3)) else (none))) = some (r1,r2):=H
         have A42:=Aside0.mk A420
         clear A420
         by_cases c43 : mpHas t630 x623000_3 = true
         ·rw [if_pos c43] at H
          have c43b0 : mpHas t630 x623000_3 = true:=c43
          clear c43
          have H':=Aside0.mk H
          clear H
          try go_wp2
          replace HO_12:=Aside0.mk (Kd.Q_drew HO_12.out)
          replace HO_622002:=Aside0.mk (Kd.R_drew HO_622002.out)
          replace HO_622003:=Aside0.mk (Kd.R_drew HO_622003.out)
          replace HO_622004:=Aside0.mk (Kd.R_drew HO_622004.out)
          replace BK607:=Aside0.mk (blk_drew BK607.out)
          replace BK608:=Aside0.mk (blk_drew BK608.out)
          replace BK621:=Aside0.mk (blk_drew BK621.out)
          replace BK622:=Aside0.mk (blk_drew BK622.out)
          replace HB:=Aside0.mk (below_drew1 HB.out)
          obtain ⟨Ao45,co45,eo45,_⟩:=Kd.Q_slice HO_12.out
          (first|subst eo45|(injection eo45 with f1_ f2_ f3_;have f4_:=f1_.symm;have f5_:=f3_.symm;clear f1_ f2_ f3_;subst f4_;subst f5_))
          have p627 : 0 ≤ (0 : Int):=(by omega)
          have q627 : 0 < (x12_3.length : Int):=of_decide_eq_true (by first|(with_reducible assumption)|assumption)
          obtain ⟨ad627,e627,hx627_0⟩:=Kd.at_int (Kd.Q_reads' HO_12.out).2.2 0 p627 q627
          cases e627
          have qi627 : (0 < x12_3.length) = True:=eq_true (by omega)
          (try rw [show ((0 : Int)).toNat = 0 from rfl] at hx627_0)
          (try rw [Addr.add_zero'] at hx627_0)
          replace p627:=eq_true p627
          replace q627:=eq_true q627
          refine start_ (n:=7) (S:=fun w' => w'.cell? ⟨gb621,0,none⟩ = some (.int .i64 t609) ∧ w'.cell? ⟨gb621,1,none⟩ = some (.int .i64 t610) ∧ w'.cell? ⟨gb621,2,none⟩ = some (.slice Ao15 t611.length co15) ∧ w'.cell? ⟨gb621,3,none⟩ = some (.slice Ao16 t614.length co16) ∧ w'.cell? ⟨gb621,4,none⟩ = some (.slice Ao17 t617.length co17) ∧ w'.cell? ⟨gb608,0,none⟩ = some (.slice A1_0 l1_0.length c1_0) ∧ w'.cell? ⟨gb608,1,none⟩ = some (.slice A1_1 l1_1.length c1_1) ∧ w'.cell? ad627 = some (.int .i64 (rd x12_3 0))) (ds:=[]) #[false,false,false,false,false,false,false] (by kernel_rfl) rfl rfl ⟨(blk_cell BK621.out 0).trans rfl,(blk_cell BK621.out 1).trans rfl,(blk_cell BK621.out 2).trans rfl,(blk_cell BK621.out 3).trans rfl,(blk_cell BK621.out 4).trans rfl,(blk_cell BK608.out 0).trans rfl,(blk_cell BK608.out 1).trans rfl,hx627_0⟩ (fun hHeld => ?_)
          generalize wr.drew = w44 at HO_12 HO_622002 HO_622003 HO_622004 BK607 BK608 BK621 BK622 HB hx627_0 hHeld ⊢
          refine pI 2 (some 66) ?_
          refine pI 3 (some 67) ?_
          refine pI 5 (some 69) ?_
          refine tI8 0 (some 64) hHeld ?_
          refine tI8 1 (some 65) hHeld ?_
          refine tI8 4 (some 68) hHeld ?_
          refine oI 6 (some 70) (fun K hK => ?_)
          refine goes_ Try.func41 (by kernel_rfl) rfl #[.agg #[.int .i64 t609,.int .i64 t610,.slice Ao15 t611.length co15,.slice Ao16 t614.length co16,.slice Ao17 t617.length co17],.agg #[.slice A1_0 l1_0.length c1_0,.slice A1_1 l1_1.length c1_1],.int .i64 (rd x12_3 0),.int .i64 x61_3] (by rfl) rfl rfl (by (try simp only [List.map_toArray,List.map_cons,List.map_nil]);first|done|rfl|(simp only [List.length_drop,List.length_take];rfl)) ?_
          with_reducible refine (water_ground_joined.calls k3 t609 t610 _ _ t611 _ _ t614 _ _ t617 _ _ l1_0 _ _ l1_1 (rd x12_3 0) x61_3 true _ ?side1 ?side2 ?side3 ?side4 ?side5 ?side6 ?side7 ?side8 ?side9 ?side10 A40.out).mono ?_
          (case side1 => exact Kd.C_up (Kd.R_reads' HO_622002.out).2.2)
          (case side2 => exact (Kd.R_reads' HO_622002.out).2.1)
          (case side3 => exact Kd.C_up (Kd.R_reads' HO_622003.out).2.2)
          (case side4 => exact (Kd.R_reads' HO_622003.out).2.1)
          (case side5 => exact Kd.C_up (Kd.R_reads' HO_622004.out).2.2)
          (case side6 => exact (Kd.R_reads' HO_622004.out).2.1)
          (case side7 => exact Kd.C_up (Kd.C_below HR1_0.out HB.out))
          (case side8 => exact HC1_0.out)
          (case side9 => exact Kd.C_up (Kd.C_below HR1_1.out HB.out))
          (case side10 => exact HC1_1.out)
          rintro e w46 ⟨rfl,hb⟩
          have HS7_:=(hb.cell (World.block_lt_of_cell? _ _ (hHeld.2.2.2.2.2.2.2))).trans (hHeld.2.2.2.2.2.2.2)
          refine ⟨_,rfl,?_⟩
          have n0_:=Aside0.mk (Kd.Q_below (Kd.Q_up HO_12.out) hb)
          have n1_:=rbw HO_622002 hb
          have n2_:=rbw HO_622003 hb
          have n3_:=rbw HO_622004 hb
          have n4_:=bkb BK607 hb
          have n5_:=bkb BK608 hb
          have n6_:=bkb BK621 hb
          have n7_:=bkb BK622 hb
          have n8_:=Aside0.mk (below_step (hb_) hb)
          clear HO_12
          clear HO_622002
          clear HO_622003
          clear HO_622004
          clear BK607
          clear BK608
          clear BK621
          clear BK622
          clear HB
          have HO_12:=n0_
          have HO_622002:=n1_
          have HO_622003:=n2_
          have HO_622004:=n3_
          have BK607:=n4_
          have BK608:=n5_
          have BK621:=n6_
          have BK622:=n7_
          have HB:=n8_
          clear n0_ n1_ n2_ n3_ n4_ n5_ n6_ n7_ n8_
          (try clear hb)
          (try clear hb2)
          (try clear hk)
          (try clear hi)
          refine hK.out _ _ ⟨(blk_cell BK621.out 0).trans rfl,(blk_cell BK621.out 1).trans rfl,(blk_cell BK621.out 2).trans rfl,(blk_cell BK621.out 3).trans rfl,(blk_cell BK621.out 4).trans rfl,(blk_cell BK608.out 0).trans rfl,(blk_cell BK608.out 1).trans rfl,HS7_⟩ (fun hHeld => ?_)
          clear hK K
          refine norm_ (a':=?_) ?_ ?_
          rotate_left
          ·show Act.put _ (some 70) _ = _
           simp only [Act.put,List.setIfInBounds_toArray,List.set_cons_zero,List.set_cons_succ,i64_w,i32_w]
           rfl
          refine done_ (by kernel_rfl) ?_
          try go_wp2
          replace HO_12:=Aside0.mk (Kd.Q_drew HO_12.out)
          replace HO_622002:=Aside0.mk (Kd.R_drew HO_622002.out)
          replace HO_622003:=Aside0.mk (Kd.R_drew HO_622003.out)
          replace HO_622004:=Aside0.mk (Kd.R_drew HO_622004.out)
          replace BK607:=Aside0.mk (blk_drew BK607.out)
          replace BK608:=Aside0.mk (blk_drew BK608.out)
          replace BK621:=Aside0.mk (blk_drew BK621.out)
          replace BK622:=Aside0.mk (blk_drew BK622.out)
          replace HB:=Aside0.mk (below_drew1 HB.out)
          have p629 : 0 ≤ (0 : Int):=(by omega)
          have q629 : 0 < (x12_3.length : Int):=of_decide_eq_true (by first|(with_reducible assumption)|assumption)
          obtain ⟨ad629,e629,hx629_0⟩:=Kd.at_int (Kd.Q_reads' HO_12.out).2.2 0 p629 q629
          obtain rfl : ad627 = ad629:=(by injection e629)
          have qi629 : (0 < x12_3.length) = True:=eq_true (by omega)
          (try rw [show ((0 : Int)).toNat = 0 from rfl] at hx629_0)
          (try rw [Addr.add_zero'] at hx629_0)
          replace p629:=eq_true p629
          replace q629:=eq_true q629
          refine start_ (n:=7) (S:=fun w' => w'.cell? ⟨gb621,0,none⟩ = some (.int .i64 t609) ∧ w'.cell? ⟨gb621,1,none⟩ = some (.int .i64 t610) ∧ w'.cell? ⟨gb621,2,none⟩ = some (.slice Ao15 t611.length co15) ∧ w'.cell? ⟨gb621,3,none⟩ = some (.slice Ao16 t614.length co16) ∧ w'.cell? ⟨gb621,4,none⟩ = some (.slice Ao17 t617.length co17) ∧ w'.cell? ad627 = some (.int .i64 (rd x12_3 0))) (ds:=[]) #[false,false,false,false,false,false,false] (by kernel_rfl) rfl rfl ⟨(blk_cell BK621.out 0).trans rfl,(blk_cell BK621.out 1).trans rfl,(blk_cell BK621.out 2).trans rfl,(blk_cell BK621.out 3).trans rfl,(blk_cell BK621.out 4).trans rfl,hx629_0⟩ (fun hHeld => ?_)
          generalize w46.drew = w47 at HO_12 HO_622002 HO_622003 HO_622004 BK607 BK608 BK621 BK622 HB hx629_0 hHeld ⊢
          refine pI 1 (some 72) ?_
          refine pI 2 (some 73) ?_
          refine pI 4 (some 75) ?_
          refine tI6 0 (some 71) hHeld ?_
          refine tI6 3 (some 74) hHeld ?_
          refine oI 5 (some 76) (fun K hK => ?_)
          refine goes_ Try.func46 (by kernel_rfl) rfl #[.agg #[.int .i64 t609,.int .i64 t610,.slice Ao15 t611.length co15,.slice Ao16 t614.length co16,.slice Ao17 t617.length co17],.int .i64 (rd x12_3 0),.int .i64 x61_3] (by rfl) rfl rfl (by (try simp only [List.map_toArray,List.map_cons,List.map_nil]);first|done|rfl|(simp only [List.length_drop,List.length_take];rfl)) ?_
          with_reducible refine (water_ground_beyond.calls k3 t609 t610 _ _ t611 _ _ t614 _ _ t617 (rd x12_3 0) x61_3 t630 _ ?side1 ?side2 ?side3 ?side4 ?side5 ?side6 A42.out).mono ?_
          (case side1 => exact Kd.C_up (Kd.R_reads' HO_622002.out).2.2)
          (case side2 => exact (Kd.R_reads' HO_622002.out).2.1)
          (case side3 => exact Kd.C_up (Kd.R_reads' HO_622003.out).2.2)
          (case side4 => exact (Kd.R_reads' HO_622003.out).2.1)
          (case side5 => exact Kd.C_up (Kd.R_reads' HO_622004.out).2.2)
          (case side6 => exact (Kd.R_reads' HO_622004.out).2.1)
          rintro e w48 ⟨rfl,hb⟩
          have HS5_:=(hb.cell (World.block_lt_of_cell? _ _ (hHeld.2.2.2.2.2))).trans (hHeld.2.2.2.2.2)
          refine ⟨_,rfl,?_⟩
          have n0_:=Aside0.mk (Kd.Q_below (Kd.Q_up HO_12.out) hb)
          have n1_:=rbw HO_622002 hb
          have n2_:=rbw HO_622003 hb
          have n3_:=rbw HO_622004 hb
          have n4_:=bkb BK607 hb
          have n5_:=bkb BK608 hb
          have n6_:=bkb BK621 hb
          have n7_:=bkb BK622 hb
          have n8_:=Aside0.mk (below_step (hb_) hb)
          clear HO_12
          clear HO_622002
          clear HO_622003
          clear HO_622004
          clear BK607
          clear BK608
          clear BK621
          clear BK622
          clear HB
          have HO_12:=n0_
          have HO_622002:=n1_
          have HO_622003:=n2_
          have HO_622004:=n3_
          have BK607:=n4_
          have BK608:=n5_
          have BK621:=n6_
          have BK622:=n7_
          have HB:=n8_
          clear n0_ n1_ n2_ n3_ n4_ n5_ n6_ n7_ n8_
          (try clear hb)
          (try clear hb2)
          (try clear hk)
          (try clear hi)
          refine hK.out _ _ ⟨(blk_cell BK621.out 0).trans rfl,(blk_cell BK621.out 1).trans rfl,(blk_cell BK621.out 2).trans rfl,(blk_cell BK621.out 3).trans rfl,(blk_cell BK621.out 4).trans rfl,HS5_⟩ (fun hHeld => ?_)
          clear hK K
          refine norm_ (a':=?_) ?_ ?_
          rotate_left
          ·show Act.put _ (some 76) _ = _
           simp only [Act.put,List.setIfInBounds_toArray,List.set_cons_zero,List.set_cons_succ,i64_w,i32_w]
           rfl
          refine pI 6 (some 14) ?_
          refine done_ (by kernel_rfl) ?_
          try go_wp2_with (first|((with_reducible refine gate_dst (N:=80) rfl ?_);refine mp_look_ok rfl (t:=61) rfl (b:=gb622) (x:=t630) (l:=x623000_3) ?hm_ ?hk_ mpT_61 mpK_61 mpZ_61 ?hb_ ?_;(case hm_ => first|rfl|(go_simp;done));(case hk_ => first|rfl|(go_simp;done));(case hb_ => exact (blk_up BK622.out))))
          go_roundg k3
          case measure => have:=HK1.out;have:=HK2.out;have:=HK3.out;omega
          case rel => exact ⟨(x12_3),(wrap64 (x61_3 + 1)),(x623000_3),(by first|rfl|(simp;done)|(simp [*];done)),H',⟨by have:=HK1.out;have:=HK2.out;have:=HK3.out;omega⟩,⟨Kd.Q_up HO_12.out⟩,⟨Kd.R_up HO_622002.out⟩,⟨Kd.R_up HO_622003.out⟩,⟨Kd.R_up HO_622004.out⟩,⟨blk_up BK607.out⟩,⟨blk_up BK608.out⟩,⟨blk_up BK621.out⟩,⟨blk_up BK622.out⟩,⟨hb_⟩⟩
         rw [if_neg c43] at H
         have c43b0 : mpHas t630 x623000_3 = false:=by simpa using c43
         clear c43
         replace H:=ifp_ H;obtain ⟨c49,H⟩:=H
         have LMc49:=Aside0.mk c49
         clear c49
         obtain ⟨y631,hy631⟩ : ∃ y_ : List Int,y_ = (x12_3 ++ [t630]):=⟨_,rfl⟩
         replace H : (water_Areas.l2 k3 x34_1 y631 (l1_0.length : Int) x34_1 (wrap64 (x61_3 + 1)) l1_0 l1_1 t609 t610 t611 t614 t617 (mpPut t630 x34_1 x623000_3)) = some (r1,r2):=by first|(rw [hy631];with_reducible exact H)|(have H2_:=(Option.bind_some _ _).symm.trans H;rw [hy631];with_reducible exact H2_)|(have H2_:=(Option.bind_some _ _).symm.trans H;with_reducible exact H2_)|with_reducible exact H|(rw [hy631];exact H)|exact H
         have Ny631:=Aside0.mk hy631
         clear hy631
         have H':=Aside0.mk H
         clear H
         try go_wp2
         replace HO_12:=Aside0.mk (Kd.Q_drew HO_12.out)
         replace HO_622002:=Aside0.mk (Kd.R_drew HO_622002.out)
         replace HO_622003:=Aside0.mk (Kd.R_drew HO_622003.out)
         replace HO_622004:=Aside0.mk (Kd.R_drew HO_622004.out)
         replace BK607:=Aside0.mk (blk_drew BK607.out)
         replace BK608:=Aside0.mk (blk_drew BK608.out)
         replace BK621:=Aside0.mk (blk_drew BK621.out)
         replace BK622:=Aside0.mk (blk_drew BK622.out)
         replace HB:=Aside0.mk (below_drew1 HB.out)
         obtain ⟨Ao51,co51,eo51,_⟩:=Kd.Q_slice HO_12.out
         (first|subst eo51|(injection eo51 with f1_ f2_ f3_;have f4_:=f1_.symm;have f5_:=f3_.symm;clear f1_ f2_ f3_;subst f4_;subst f5_))
         have p627 : 0 ≤ (0 : Int):=(by omega)
         have q627 : 0 < (x12_3.length : Int):=of_decide_eq_true (by first|(with_reducible assumption)|assumption)
         obtain ⟨ad627,e627,hx627_0⟩:=Kd.at_int (Kd.Q_reads' HO_12.out).2.2 0 p627 q627
         cases e627
         have qi627 : (0 < x12_3.length) = True:=eq_true (by omega)
         (try rw [show ((0 : Int)).toNat = 0 from rfl] at hx627_0)
         (try rw [Addr.add_zero'] at hx627_0)
         replace p627:=eq_true p627
         replace q627:=eq_true q627
         refine start_ (n:=7) (S:=fun w' => w'.cell? ⟨gb621,0,none⟩ = some (.int .i64 t609) ∧ w'.cell? ⟨gb621,1,none⟩ = some (.int .i64 t610) ∧ w'.cell? ⟨gb621,2,none⟩ = some (.slice Ao15 t611.length co15) ∧ w'.cell? ⟨gb621,3,none⟩ = some (.slice Ao16 t614.length co16) ∧ w'.cell? ⟨gb621,4,none⟩ = some (.slice Ao17 t617.length co17) ∧ w'.cell? ⟨gb608,0,none⟩ = some (.slice A1_0 l1_0.length c1_0) ∧ w'.cell? ⟨gb608,1,none⟩ = some (.slice A1_1 l1_1.length c1_1) ∧ w'.cell? ad627 = some (.int .i64 (rd x12_3 0))) (ds:=[]) #[false,false,false,false,false,false,false] (by kernel_rfl) rfl rfl ⟨(blk_cell BK621.out 0).trans rfl,(blk_cell BK621.out 1).trans rfl,(blk_cell BK621.out 2).trans rfl,(blk_cell BK621.out 3).trans rfl,(blk_cell BK621.out 4).trans rfl,(blk_cell BK608.out 0).trans rfl,(blk_cell BK608.out 1).trans rfl,hx627_0⟩ (fun hHeld => ?_)
         generalize wr.drew = w50 at HO_12 HO_622002 HO_622003 HO_622004 BK607 BK608 BK621 BK622 HB hx627_0 hHeld ⊢
         refine pI 2 (some 66) ?_
         refine pI 3 (some 67) ?_
         refine pI 5 (some 69) ?_
         refine tI8 0 (some 64) hHeld ?_
         refine tI8 1 (some 65) hHeld ?_
         refine tI8 4 (some 68) hHeld ?_
         refine oI 6 (some 70) (fun K hK => ?_)
         refine goes_ Try.func41 (by kernel_rfl) rfl #[.agg #[.int .i64 t609,.int .i64 t610,.slice Ao15 t611.length co15,.slice Ao16 t614.length co16,.slice Ao17 t617.length co17],.agg #[.slice A1_0 l1_0.length c1_0,.slice A1_1 l1_1.length c1_1],.int .i64 (rd x12_3 0),.int .i64 x61_3] (by rfl) rfl rfl (by (try simp only [List.map_toArray,List.map_cons,List.map_nil]);first|done|rfl|(simp only [List.length_drop,List.length_take];rfl)) ?_
         with_reducible refine (water_ground_joined.calls k3 t609 t610 _ _ t611 _ _ t614 _ _ t617 _ _ l1_0 _ _ l1_1 (rd x12_3 0) x61_3 true _ ?side1 ?side2 ?side3 ?side4 ?side5 ?side6 ?side7 ?side8 ?side9 ?side10 A40.out).mono ?_
         (case side1 => exact Kd.C_up (Kd.R_reads' HO_622002.out).2.2)
         (case side2 => exact (Kd.R_reads' HO_622002.out).2.1)
         (case side3 => exact Kd.C_up (Kd.R_reads' HO_622003.out).2.2)
         (case side4 => exact (Kd.R_reads' HO_622003.out).2.1)
         (case side5 => exact Kd.C_up (Kd.R_reads' HO_622004.out).2.2)
         (case side6 => exact (Kd.R_reads' HO_622004.out).2.1)
         (case side7 => exact Kd.C_up (Kd.C_below HR1_0.out HB.out))
         (case side8 => exact HC1_0.out)
         (case side9 => exact Kd.C_up (Kd.C_below HR1_1.out HB.out))
         (case side10 => exact HC1_1.out)
         rintro e w52 ⟨rfl,hb⟩
         have HS7_:=(hb.cell (World.block_lt_of_cell? _ _ (hHeld.2.2.2.2.2.2.2))).trans (hHeld.2.2.2.2.2.2.2)
         refine ⟨_,rfl,?_⟩
         have n0_:=Aside0.mk (Kd.Q_below (Kd.Q_up HO_12.out) hb)
         have n1_:=rbw HO_622002 hb
         have n2_:=rbw HO_622003 hb
         have n3_:=rbw HO_622004 hb
         have n4_:=bkb BK607 hb
         have n5_:=bkb BK608 hb
         have n6_:=bkb BK621 hb
         have n7_:=bkb BK622 hb
         have n8_:=Aside0.mk (below_step (hb_) hb)
         clear HO_12
         clear HO_622002
         clear HO_622003
         clear HO_622004
         clear BK607
         clear BK608
         clear BK621
         clear BK622
         clear HB
         have HO_12:=n0_
         have HO_622002:=n1_
         have HO_622003:=n2_
         have HO_622004:=n3_
         have BK607:=n4_
         have BK608:=n5_
         have BK621:=n6_
         have BK622:=n7_
         have HB:=n8_
         clear n0_ n1_ n2_ n3_ n4_ n5_ n6_ n7_ n8_
         (try clear hb)
         (try clear hb2)
         (try clear hk)
         (try clear hi)
         refine hK.out _ _ ⟨(blk_cell BK621.out 0).trans rfl,(blk_cell BK621.out 1).trans rfl,(blk_cell BK621.out 2).trans rfl,(blk_cell BK621.out 3).trans rfl,(blk_cell BK621.out 4).trans rfl,(blk_cell BK608.out 0).trans rfl,(blk_cell BK608.out 1).trans rfl,HS7_⟩ (fun hHeld => ?_)
         clear hK K
         refine norm_ (a':=?_) ?_ ?_
         rotate_left
         ·show Act.put _ (some 70) _ = _
          simp only [Act.put,List.setIfInBounds_toArray,List.set_cons_zero,List.set_cons_succ,i64_w,i32_w]
          rfl
         refine done_ (by kernel_rfl) ?_
         try go_wp2
         replace HO_12:=Aside0.mk (Kd.Q_drew HO_12.out)
         replace HO_622002:=Aside0.mk (Kd.R_drew HO_622002.out)
         replace HO_622003:=Aside0.mk (Kd.R_drew HO_622003.out)
         replace HO_622004:=Aside0.mk (Kd.R_drew HO_622004.out)
         replace BK607:=Aside0.mk (blk_drew BK607.out)
         replace BK608:=Aside0.mk (blk_drew BK608.out)
         replace BK621:=Aside0.mk (blk_drew BK621.out)
         replace BK622:=Aside0.mk (blk_drew BK622.out)
         replace HB:=Aside0.mk (below_drew1 HB.out)
         have p629 : 0 ≤ (0 : Int):=(by omega)
         have q629 : 0 < (x12_3.length : Int):=of_decide_eq_true (by first|(with_reducible assumption)|assumption)
         obtain ⟨ad629,e629,hx629_0⟩:=Kd.at_int (Kd.Q_reads' HO_12.out).2.2 0 p629 q629
         obtain rfl : ad627 = ad629:=(by injection e629)
         have qi629 : (0 < x12_3.length) = True:=eq_true (by omega)
         (try rw [show ((0 : Int)).toNat = 0 from rfl] at hx629_0)
         (try rw [Addr.add_zero'] at hx629_0)
         replace p629:=eq_true p629
         replace q629:=eq_true q629
         refine start_ (n:=7) (S:=fun w' => w'.cell? ⟨gb621,0,none⟩ = some (.int .i64 t609) ∧ w'.cell? ⟨gb621,1,none⟩ = some (.int .i64 t610) ∧ w'.cell? ⟨gb621,2,none⟩ = some (.slice Ao15 t611.length co15) ∧ w'.cell? ⟨gb621,3,none⟩ = some (.slice Ao16 t614.length co16) ∧ w'.cell? ⟨gb621,4,none⟩ = some (.slice Ao17 t617.length co17) ∧ w'.cell? ad627 = some (.int .i64 (rd x12_3 0))) (ds:=[]) #[false,false,false,false,false,false,false] (by kernel_rfl) rfl rfl ⟨(blk_cell BK621.out 0).trans rfl,(blk_cell BK621.out 1).trans rfl,(blk_cell BK621.out 2).trans rfl,(blk_cell BK621.out 3).trans rfl,(blk_cell BK621.out 4).trans rfl,hx629_0⟩ (fun hHeld => ?_)
         generalize w52.drew = w53 at HO_12 HO_622002 HO_622003 HO_622004 BK607 BK608 BK621 BK622 HB hx629_0 hHeld ⊢
         refine pI 1 (some 72) ?_
         refine pI 2 (some 73) ?_
         refine pI 4 (some 75) ?_
         refine tI6 0 (some 71) hHeld ?_
         refine tI6 3 (some 74) hHeld ?_
         refine oI 5 (some 76) (fun K hK => ?_)
         refine goes_ Try.func46 (by kernel_rfl) rfl #[.agg #[.int .i64 t609,.int .i64 t610,.slice Ao15 t611.length co15,.slice Ao16 t614.length co16,.slice Ao17 t617.length co17],.int .i64 (rd x12_3 0),.int .i64 x61_3] (by rfl) rfl rfl (by (try simp only [List.map_toArray,List.map_cons,List.map_nil]);first|done|rfl|(simp only [List.length_drop,List.length_take];rfl)) ?_
         with_reducible refine (water_ground_beyond.calls k3 t609 t610 _ _ t611 _ _ t614 _ _ t617 (rd x12_3 0) x61_3 t630 _ ?side1 ?side2 ?side3 ?side4 ?side5 ?side6 A42.out).mono ?_
         (case side1 => exact Kd.C_up (Kd.R_reads' HO_622002.out).2.2)
         (case side2 => exact (Kd.R_reads' HO_622002.out).2.1)
         (case side3 => exact Kd.C_up (Kd.R_reads' HO_622003.out).2.2)
         (case side4 => exact (Kd.R_reads' HO_622003.out).2.1)
         (case side5 => exact Kd.C_up (Kd.R_reads' HO_622004.out).2.2)
         (case side6 => exact (Kd.R_reads' HO_622004.out).2.1)
         rintro e w54 ⟨rfl,hb⟩
         have HS5_:=(hb.cell (World.block_lt_of_cell? _ _ (hHeld.2.2.2.2.2))).trans (hHeld.2.2.2.2.2)
         refine ⟨_,rfl,?_⟩
         have n0_:=Aside0.mk (Kd.Q_below (Kd.Q_up HO_12.out) hb)
         have n1_:=rbw HO_622002 hb
         have n2_:=rbw HO_622003 hb
         have n3_:=rbw HO_622004 hb
         have n4_:=bkb BK607 hb
         have n5_:=bkb BK608 hb
         have n6_:=bkb BK621 hb
         have n7_:=bkb BK622 hb
         have n8_:=Aside0.mk (below_step (hb_) hb)
         clear HO_12
         clear HO_622002
         clear HO_622003
         clear HO_622004
         clear BK607
         clear BK608
         clear BK621
         clear BK622
         clear HB
         have HO_12:=n0_
         have HO_622002:=n1_
         have HO_622003:=n2_
         have HO_622004:=n3_
         have BK607:=n4_
         have BK608:=n5_
         have BK621:=n6_
         have BK622:=n7_
         have HB:=n8_
         clear n0_ n1_ n2_ n3_ n4_ n5_ n6_ n7_ n8_
         (try clear hb)
         (try clear hb2)
         (try clear hk)
         (try clear hi)
         refine hK.out _ _ ⟨(blk_cell BK621.out 0).trans rfl,(blk_cell BK621.out 1).trans rfl,(blk_cell BK621.out 2).trans rfl,(blk_cell BK621.out 3).trans rfl,(blk_cell BK621.out 4).trans rfl,HS5_⟩ (fun hHeld => ?_)
         clear hK K
         refine norm_ (a':=?_) ?_ ?_
         rotate_left
         ·show Act.put _ (some 76) _ = _
          simp only [Act.put,List.setIfInBounds_toArray,List.set_cons_zero,List.set_cons_succ,i64_w,i32_w]
          rfl
         refine pI 6 (some 14) ?_
         refine done_ (by kernel_rfl) ?_
         try go_wp2_with (first|((with_reducible refine gate_dst (N:=80) rfl ?_);refine mp_look_ok rfl (t:=61) rfl (b:=gb622) (x:=t630) (l:=x623000_3) ?hm_ ?hk_ mpT_61 mpK_61 mpZ_61 ?hb_ ?_;(case hm_ => first|rfl|(go_simp;done));(case hk_ => first|rfl|(go_simp;done));(case hb_ => exact (blk_up BK622.out)))|((with_reducible refine mp_gate (t:=61) rfl ?_);refine mp_put rfl rfl (t:=61) rfl (b:=gb622) (x:=t630) (y:=x34_1) (l:=x623000_3) ?hm_ ?hk_ ?hv_ mpT_61 mpK_61 ?hb_ ?_;(case hm_ => first|rfl|(go_simp;done));(case hk_ => first|rfl|(go_simp;done));(case hv_ => first|rfl|(go_simp;done));(case hb_ => exact (blk_up BK622.out));intro w55 hbox hg;replace HO_12:=Aside0.mk (mp_Q_over (Kd.Q_up HO_12.out) (blk_up BK622.out) ⟨_,rfl⟩ hg);replace HO_622002:=Aside0.mk (mp_R_over (Kd.R_up HO_622002.out) (blk_up BK622.out) ⟨_,rfl⟩ hg);replace HO_622003:=Aside0.mk (mp_R_over (Kd.R_up HO_622003.out) (blk_up BK622.out) ⟨_,rfl⟩ hg);replace HO_622004:=Aside0.mk (mp_R_over (Kd.R_up HO_622004.out) (blk_up BK622.out) ⟨_,rfl⟩ hg);replace BK607:=Aside0.mk (blk_grown (blk_up BK607.out) hg (fun e_ => NB607_622.out (Option.some.inj e_)));replace BK608:=Aside0.mk (blk_grown (blk_up BK608.out) hg (fun e_ => NB608_622.out (Option.some.inj e_)));replace BK621:=Aside0.mk (blk_grown (blk_up BK621.out) hg (fun e_ => NB621_622.out (Option.some.inj e_)));replace BK622:=Aside0.mk (hbox);replace HB:=Aside0.mk (Below.grown (hb_) hg (below_size (hb_)) (fun k_ hk_ => by injection hk_ with hk_;rw [← hk_];exact GE622.out));clear hbox hg)|((with_reducible refine gate_builtin (b:=.append) (xs:=#[.tmp 88,.tmp 90]) rfl ?_);at_builtin;refine Kd.Q_append (Kd.int .i64) (w0:=w) w.heap.size rfl (.tmp 88) (.tmp 90) 22 3 (.int .i64 0) 8 rfl Try.underlying22 info3 rfl (by decide) (by omega) (.slice (some ad627) x12_3.length co51) x12_3 t630 [.int .i64 t630] (fun k_ => some k_ ≠ (.slice Ao15 t611.length co15 : Value).ownBlock ∧ some k_ ≠ (.slice Ao16 t614.length co16 : Value).ownBlock) (fun _ => False) rfl rfl ?aP (fun _ hk => hk.elim) ?aF ?aO ?aB ?aS ?aL ?_;(case aP => exact rfl);(case aB => exact (hb_));(case aF => exact (fun k_ hk => ⟨Kd.fresh' (Kd.R_lt (Kd.R_up HO_622002.out)) k_ hk,Kd.fresh' (Kd.R_lt (Kd.R_up HO_622003.out)) k_ hk⟩));(case aO => exact (Kd.Q_up HO_12.out));(case aS => exact (below_size (hb_)));(case aL => have:=LMc49.out;omega);intro v632 w56 ho hb hg hat;rw [← Ny631.out] at ho;have HO633:=Aside0.mk (ho);replace HO_622002:=Aside0.mk (Kd.R_after (ok:=(fun k_ => some k_ ≠ (.slice Ao16 t614.length co16 : Value).ownBlock)) (by (with_reducible repeat (first|apply Kd.R_alloc|apply Kd.R_drewN|apply Kd.R_drew));exact Kd.R_mono HO_622002.out (fun _ hk => ⟨hk.2,hk.1⟩)) hg hat);replace HO_622003:=Aside0.mk (Kd.R_after (ok:=(fun k_ => some k_ ≠ (.slice Ao15 t611.length co15 : Value).ownBlock)) (by (with_reducible repeat (first|apply Kd.R_alloc|apply Kd.R_drewN|apply Kd.R_drew));exact Kd.R_mono HO_622003.out (fun _ hk => ⟨hk.2,hk.1⟩)) hg hat);replace HO_622004:=Aside0.mk (Kd.R_over' (Kd.R_up HO_622004.out) (Kd.Q_typed (Kd.Q_up HO_12.out)) (by decide) hg);replace BK607:=Aside0.mk (blk_grown (blk_up BK607.out) hg (Kd.Q_ne HO_12.out BK607.out (by decide)));replace BK608:=Aside0.mk (blk_grown (blk_up BK608.out) hg (Kd.Q_ne HO_12.out BK608.out (by decide)));replace BK621:=Aside0.mk (blk_grown (blk_up BK621.out) hg (Kd.Q_ne HO_12.out BK621.out (by decide)));replace BK622:=Aside0.mk (blk_grown (blk_up BK622.out) hg (mp_Q_ne HO_12.out BK622.out));replace HB:=Aside0.mk (hb);clear HO_12;clear ho hb hg hat))
         go_roundg k3
         case measure => have:=HK1.out;have:=HK2.out;have:=HK3.out;omega
         case rel => exact ⟨(y631),(wrap64 (x61_3 + 1)),(mpPut t630 x34_1 x623000_3),(by first|rfl|(simp;done)|(simp [*];done)),H',⟨by have:=HK1.out;have:=HK2.out;have:=HK3.out;omega⟩,⟨Kd.Q_up HO633.out⟩,⟨by (with_reducible repeat (first|apply Kd.R_alloc|apply Kd.R_drewN|apply Kd.R_drew));exact Kd.R_mono HO_622002.out (fun _ hk => ⟨hk.2,hk.1⟩)⟩,⟨by (with_reducible repeat (first|apply Kd.R_alloc|apply Kd.R_drewN|apply Kd.R_drew));exact Kd.R_mono HO_622003.out (fun _ hk => ⟨hk.2,hk.1⟩)⟩,⟨Kd.R_up HO_622004.out⟩,⟨blk_up BK607.out⟩,⟨blk_up BK608.out⟩,⟨blk_up BK621.out⟩,⟨blk_up BK622.out⟩,⟨hb_⟩⟩
        ·replace c41:=Bool.eq_false_iff.mpr c41
         subst c41
         have H1 : (water_Areas.l2 k3 x34_1 x12_3 (l1_0.length : Int) x34_1 (wrap64 (x61_3 + 1)) l1_0 l1_1 t609 t610 t611 t614 t617 x623000_3) = some (r1,r2):=by rw [if_neg (show ¬ (false = true) by decide)] at H;exact H
         clear H
         have H:=H1
         clear H1
         have H':=Aside0.mk H
         clear H
         try go_wp2
         replace HO_12:=Aside0.mk (Kd.Q_drew HO_12.out)
         replace HO_622002:=Aside0.mk (Kd.R_drew HO_622002.out)
         replace HO_622003:=Aside0.mk (Kd.R_drew HO_622003.out)
         replace HO_622004:=Aside0.mk (Kd.R_drew HO_622004.out)
         replace BK607:=Aside0.mk (blk_drew BK607.out)
         replace BK608:=Aside0.mk (blk_drew BK608.out)
         replace BK621:=Aside0.mk (blk_drew BK621.out)
         replace BK622:=Aside0.mk (blk_drew BK622.out)
         replace HB:=Aside0.mk (below_drew1 HB.out)
         obtain ⟨Ao58,co58,eo58,_⟩:=Kd.Q_slice HO_12.out
         (first|subst eo58|(injection eo58 with f1_ f2_ f3_;have f4_:=f1_.symm;have f5_:=f3_.symm;clear f1_ f2_ f3_;subst f4_;subst f5_))
         have p627 : 0 ≤ (0 : Int):=(by omega)
         have q627 : 0 < (x12_3.length : Int):=of_decide_eq_true (by first|(with_reducible assumption)|assumption)
         obtain ⟨ad627,e627,hx627_0⟩:=Kd.at_int (Kd.Q_reads' HO_12.out).2.2 0 p627 q627
         cases e627
         have qi627 : (0 < x12_3.length) = True:=eq_true (by omega)
         (try rw [show ((0 : Int)).toNat = 0 from rfl] at hx627_0)
         (try rw [Addr.add_zero'] at hx627_0)
         replace p627:=eq_true p627
         replace q627:=eq_true q627
         refine start_ (n:=7) (S:=fun w' => w'.cell? ⟨gb621,0,none⟩ = some (.int .i64 t609) ∧ w'.cell? ⟨gb621,1,none⟩ = some (.int .i64 t610) ∧ w'.cell? ⟨gb621,2,none⟩ = some (.slice Ao15 t611.length co15) ∧ w'.cell? ⟨gb621,3,none⟩ = some (.slice Ao16 t614.length co16) ∧ w'.cell? ⟨gb621,4,none⟩ = some (.slice Ao17 t617.length co17) ∧ w'.cell? ⟨gb608,0,none⟩ = some (.slice A1_0 l1_0.length c1_0) ∧ w'.cell? ⟨gb608,1,none⟩ = some (.slice A1_1 l1_1.length c1_1) ∧ w'.cell? ad627 = some (.int .i64 (rd x12_3 0))) (ds:=[]) #[false,false,false,false,false,false,false] (by kernel_rfl) rfl rfl ⟨(blk_cell BK621.out 0).trans rfl,(blk_cell BK621.out 1).trans rfl,(blk_cell BK621.out 2).trans rfl,(blk_cell BK621.out 3).trans rfl,(blk_cell BK621.out 4).trans rfl,(blk_cell BK608.out 0).trans rfl,(blk_cell BK608.out 1).trans rfl,hx627_0⟩ (fun hHeld => ?_)
         generalize wr.drew = w57 at HO_12 HO_622002 HO_622003 HO_622004 BK607 BK608 BK621 BK622 HB hx627_0 hHeld ⊢
         refine pI 2 (some 66) ?_
         refine pI 3 (some 67) ?_
         refine pI 5 (some 69) ?_
         refine tI8 0 (some 64) hHeld ?_
         refine tI8 1 (some 65) hHeld ?_
         refine tI8 4 (some 68) hHeld ?_
         refine oI 6 (some 70) (fun K hK => ?_)
         refine goes_ Try.func41 (by kernel_rfl) rfl #[.agg #[.int .i64 t609,.int .i64 t610,.slice Ao15 t611.length co15,.slice Ao16 t614.length co16,.slice Ao17 t617.length co17],.agg #[.slice A1_0 l1_0.length c1_0,.slice A1_1 l1_1.length c1_1],.int .i64 (rd x12_3 0),.int .i64 x61_3] (by rfl) rfl rfl (by (try simp only [List.map_toArray,List.map_cons,List.map_nil]);first|done|rfl|(simp only [List.length_drop,List.length_take];rfl)) ?_
         with_reducible refine (water_ground_joined.calls k3 t609 t610 _ _ t611 _ _ t614 _ _ t617 _ _ l1_0 _ _ l1_1 (rd x12_3 0) x61_3 false _ ?side1 ?side2 ?side3 ?side4 ?side5 ?side6 ?side7 ?side8 ?side9 ?side10 A40.out).mono ?_
         (case side1 => exact Kd.C_up (Kd.R_reads' HO_622002.out).2.2)
         (case side2 => exact (Kd.R_reads' HO_622002.out).2.1)
         (case side3 => exact Kd.C_up (Kd.R_reads' HO_622003.out).2.2)
         (case side4 => exact (Kd.R_reads' HO_622003.out).2.1)
         (case side5 => exact Kd.C_up (Kd.R_reads' HO_622004.out).2.2)
         (case side6 => exact (Kd.R_reads' HO_622004.out).2.1)
         (case side7 => exact Kd.C_up (Kd.C_below HR1_0.out HB.out))
         (case side8 => exact HC1_0.out)
         (case side9 => exact Kd.C_up (Kd.C_below HR1_1.out HB.out))
         (case side10 => exact HC1_1.out)
         rintro e w59 ⟨rfl,hb⟩
         have HS7_:=(hb.cell (World.block_lt_of_cell? _ _ (hHeld.2.2.2.2.2.2.2))).trans (hHeld.2.2.2.2.2.2.2)
         refine ⟨_,rfl,?_⟩
         have n0_:=Aside0.mk (Kd.Q_below (Kd.Q_up HO_12.out) hb)
         have n1_:=rbw HO_622002 hb
         have n2_:=rbw HO_622003 hb
         have n3_:=rbw HO_622004 hb
         have n4_:=bkb BK607 hb
         have n5_:=bkb BK608 hb
         have n6_:=bkb BK621 hb
         have n7_:=bkb BK622 hb
         have n8_:=Aside0.mk (below_step (hb_) hb)
         clear HO_12
         clear HO_622002
         clear HO_622003
         clear HO_622004
         clear BK607
         clear BK608
         clear BK621
         clear BK622
         clear HB
         have HO_12:=n0_
         have HO_622002:=n1_
         have HO_622003:=n2_
         have HO_622004:=n3_
         have BK607:=n4_
         have BK608:=n5_
         have BK621:=n6_
         have BK622:=n7_
         have HB:=n8_
         clear n0_ n1_ n2_ n3_ n4_ n5_ n6_ n7_ n8_
         (try clear hb)
         (try clear hb2)
         (try clear hk)
         (try clear hi)
         refine hK.out _ _ ⟨(blk_cell BK621.out 0).trans rfl,(blk_cell BK621.out 1).trans rfl,(blk_cell BK621.out 2).trans rfl,(blk_cell BK621.out 3).trans rfl,(blk_cell BK621.out 4).trans rfl,(blk_cell BK608.out 0).trans rfl,(blk_cell BK608.out 1).trans rfl,HS7_⟩ (fun hHeld => ?_)
         clear hK K
         refine norm_ (a':=?_) ?_ ?_
         rotate_left
         ·show Act.put _ (some 70) _ = _
          simp only [Act.put,List.setIfInBounds_toArray,List.set_cons_zero,List.set_cons_succ,i64_w,i32_w]
          rfl
         refine done_ (by kernel_rfl) ?_
         try go_wp2
         go_roundg k3
         case measure => have:=HK1.out;have:=HK2.out;have:=HK3.out;omega
         case rel => exact ⟨(x12_3),(wrap64 (x61_3 + 1)),(x623000_3),(by first|rfl|(simp;done)|(simp [*];done)),H',⟨by have:=HK1.out;have:=HK2.out;have:=HK3.out;omega⟩,⟨Kd.Q_up HO_12.out⟩,⟨Kd.R_up HO_622002.out⟩,⟨Kd.R_up HO_622003.out⟩,⟨Kd.R_up HO_622004.out⟩,⟨blk_up BK607.out⟩,⟨blk_up BK608.out⟩,⟨blk_up BK621.out⟩,⟨blk_up BK622.out⟩,⟨hb_⟩⟩
   ·replace c24:=Bool.eq_false_iff.mpr c24
    subst c24
    have H1 : (water_Areas.l0 k1 (l1_0.length : Int) (wrap64 (x34_1 + 1)) l1_0 l1_1 t609 t610 t611 t614 t617 x623000_1) = some (r1,r2):=by rw [if_neg (show ¬ (false = true) by decide)] at H;exact H
    clear H
    have H:=H1
    clear H1
    have H':=Aside0.mk H
    clear H
    go_wp2_with (first|((with_reducible refine gate_dst (N:=40) rfl ?_);refine mp_look_ok rfl (t:=61) rfl (b:=gb622) (x:=x34_1) (l:=x623000_1) ?hm_ ?hk_ mpT_61 mpK_61 mpZ_61 ?hb_ ?_;(case hm_ => first|rfl|(go_simp;done));(case hk_ => first|rfl|(go_simp;done));(case hb_ => exact (blk_up BK622.out));have hnb64:=NB621_607.out;have hnc64:=NB607_621.out;have hnb65:=NB621_608.out;have hnc65:=NB608_621.out;have hnb66:=NB621_622.out;have hnc66:=NB622_621.out;obtain ⟨hcz67_0,hcz67_1,hcz67_2,hcz67_3,hcz67_4,hfz67_0,hfz67_1,hfz67_2,hfz67_3,hfz67_4⟩:=cells5 BK621.out;have hnb68:=NB608_607.out;have hnc68:=NB607_608.out;have hnb69:=NB608_622.out;have hnc69:=NB622_608.out;obtain ⟨hcz70_0,hcz70_1,hfz70_0,hfz70_1⟩:=cells2 BK608.out)|(go_at_call 45;(with_reducible refine (water_ground_wet.calls t609 t610 _ _ t611 _ _ t614 _ _ t617 _ _ l1_0 _ _ l1_1 x34_1 false _ ?side1 ?side2 ?side3 ?side4 ?side5 ?side6 ?side7 ?side8 ?side9 ?side10 A23.out).mono ?_);(case side1 => exact Kd.C_up (Kd.R_reads' HO_622002.out).2.2);(case side2 => exact (Kd.R_reads' HO_622002.out).2.1);(case side3 => exact Kd.C_up (Kd.R_reads' HO_622003.out).2.2);(case side4 => exact (Kd.R_reads' HO_622003.out).2.1);(case side5 => exact Kd.C_up (Kd.R_reads' HO_622004.out).2.2);(case side6 => exact (Kd.R_reads' HO_622004.out).2.1);(case side7 => exact Kd.C_up (Kd.C_below HR1_0.out HB.out));(case side8 => exact HC1_0.out);(case side9 => exact Kd.C_up (Kd.C_below HR1_1.out HB.out));(case side10 => exact HC1_1.out);rintro e w71 ⟨rfl,hb⟩;replace HO_622002:=rbw HO_622002 hb;replace HO_622003:=rbw HO_622003 hb;replace HO_622004:=rbw HO_622004 hb;replace BK607:=bkb BK607 hb;replace BK608:=bkb BK608 hb;replace BK621:=bkb BK621 hb;replace BK622:=bkb BK622 hb;replace HB:=Aside0.mk (below_step (hb_) hb)))
    go_roundg k1
    case measure => have:=HK1.out;omega
    case rel => exact ⟨(wrap64 (x34_1 + 1)),(x623000_1),(by first|rfl|(simp;done)|(simp [*];done)),H',⟨by have:=HK1.out;omega⟩,⟨Kd.R_up HO_622002.out⟩,⟨Kd.R_up HO_622003.out⟩,⟨Kd.R_up HO_622004.out⟩,⟨blk_up BK607.out⟩,⟨blk_up BK608.out⟩,⟨blk_up BK621.out⟩,⟨blk_up BK622.out⟩,⟨hb_⟩⟩

end Go.Proofs.Ytiencnnkphipoaa.P

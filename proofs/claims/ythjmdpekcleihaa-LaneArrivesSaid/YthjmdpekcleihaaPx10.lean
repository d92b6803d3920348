/- Functions of this seat as plain Lean functions, with proofs that the Go code comes to just their answers, or what stands between them and a law's statement; no conditions. (Laid by a program of this session, out of the kit's print.) -/
import Derived.Test.YthjmdpekcleihaaPx0
import Derived.Test.YthjmdpekcleihaaPx4
import Derived.Test.YthjmdpekcleihaaPx8
import Derived.Test.YthjmdpekcleihaaPx9
namespace Go.Proofs.Ythjmdpekcleihaa.P
open Go.RowKit Go.Proofs.YthjmdpekcleihaaW.PrintWords Go.Proofs.YthjmdpekcleihaaW.PrintLast Go.Proofs.YthjmdpekcleihaaW.PrintMore
attribute [local go_sem] max2_int min2_int max_two min_two max_three min_three max_four min_four   -- for this text's walks alone
set_option linter.unusedVariables false
set_option linter.unusedSimpArgs false

/-! ### hinterlandlaw17_LaneArrives: function 11 -/
mutual
def hinterlandlaw17_LaneArrives.j0 : Nat → Int → Bool → Int → Int → List Int → List Int → List Int → Int → Int → Int → Int → Int → Option (Bool)
 | 0,_,_,_,_,_,_,_,_,_,_,_,_ => none
 | k + 1,x3,x33,x361000,x361001,x361002,x362000,x362001,x371000,x371001,x371002,x371003,x371004 => if x33 = true then ((hinterlandlaw17_known.f k).bind fun t371 => (some t371)) else (hinterlandlaw17_LaneArrives.l0 k x3 0 x361000 x361001 x361002 x362000 x362001 x371000 x371001 x371002 x371003 x371004)
def hinterlandlaw17_LaneArrives.l0 : Nat → Int → Int → Int → Int → List Int → List Int → List Int → Int → Int → Int → Int → Int → Option (Bool)
 | 0,_,_,_,_,_,_,_,_,_,_,_,_ => none
 | k + 1,x3,x11,x361000,x361001,x361002,x362000,x362001,x371000,x371001,x371002,x371003,x371004 => if x11 ≤ (x362000.length : Int) then ((lane_Sail.f k x361000 x361001 x361002 x362000 x362001 x371000 x371001 x371002 192 x371004 x3).bind fun bt372 => (if bt372.2.2.2.2.2.2 = 0 then (if bt372.2.2.2.2.2.1 = 3 then (if bt372.1 = x3 then ((hinterlandlaw17_known.f k).bind fun t380 => (hinterlandlaw17_LaneArrives.j2 k t380)) else (hinterlandlaw17_LaneArrives.j2 k false)) else (if bt372.2.2.2.2.2.1 = 2 then (if x11 = 0 then ((hinterlandlaw17_known.f k).bind fun t381 => (hinterlandlaw17_LaneArrives.j3 k t381)) else (hinterlandlaw17_LaneArrives.j3 k false)) else (hinterlandlaw17_LaneArrives.l0 k x3 (wrap64 (x11 + 1)) x361000 x361001 x361002 x362000 x362001 bt372.1 bt372.2.1 bt372.2.2.1 bt372.2.2.2.1 bt372.2.2.2.2.1))) else (some false))) else (some false)
def hinterlandlaw17_LaneArrives.j2 : Nat → Bool → Option (Bool)
 | 0,_ => none
 | k + 1,x8 => some x8
def hinterlandlaw17_LaneArrives.j3 : Nat → Bool → Option (Bool)
 | 0,_ => none
 | k + 1,x8 => some x8
end
def hinterlandlaw17_LaneArrives.f (k : Nat) (a0_0 : Int) (a0_1 : Int) (l0_2 : List Int) (l1_0 : List Int) (l1_1 : List Int) (a2 : Int) (a3 : Int) : Option (Bool) := (hinterlandlaw17_vast.f a0_0 a0_1 l0_2 l1_0 l1_1).bind fun t362 => (if t362 = true then ((hinterlandlaw17_known.f k).bind fun t363 => (some t363)) else ((lane_Launch.f k a0_0 a0_1 l0_2 l1_0 l1_1 a2 a3).bind fun bt364 => (if bt364.2.2.2.2.2 = 0 then (hinterlandlaw17_LaneArrives.j0 k a3 (a2 == a3) a0_0 a0_1 l0_2 l1_0 l1_1 bt364.1 bt364.2.1 bt364.2.2.1 bt364.2.2.2.1 bt364.2.2.2.2.1) else (hinterlandlaw17_LaneArrives.j0 k a3 true a0_0 a0_1 l0_2 l1_0 l1_1 bt364.1 bt364.2.1 bt364.2.2.1 bt364.2.2.2.1 bt364.2.2.2.2.1))))
theorem hinterlandlaw17_LaneArrives.mono_l : ∀ k, (∀ y0 y1 y2 y3 y4 y5 y6 y7 y8 y9 y10 y11, LeO (hinterlandlaw17_LaneArrives.j0 k y0 y1 y2 y3 y4 y5 y6 y7 y8 y9 y10 y11) (hinterlandlaw17_LaneArrives.j0 (k + 1) y0 y1 y2 y3 y4 y5 y6 y7 y8 y9 y10 y11)) ∧ (∀ y0 y1 y2 y3 y4 y5 y6 y7 y8 y9 y10 y11, LeO (hinterlandlaw17_LaneArrives.l0 k y0 y1 y2 y3 y4 y5 y6 y7 y8 y9 y10 y11) (hinterlandlaw17_LaneArrives.l0 (k + 1) y0 y1 y2 y3 y4 y5 y6 y7 y8 y9 y10 y11)) ∧ (∀ y0, LeO (hinterlandlaw17_LaneArrives.j2 k y0) (hinterlandlaw17_LaneArrives.j2 (k + 1) y0)) ∧ (∀ y0, LeO (hinterlandlaw17_LaneArrives.j3 k y0) (hinterlandlaw17_LaneArrives.j3 (k + 1) y0))
 | 0 => ⟨fun _ _ _ _ _ _ _ _ _ _ _ _ r h => by simp [hinterlandlaw17_LaneArrives.j0] at h,fun _ _ _ _ _ _ _ _ _ _ _ _ r h => by simp [hinterlandlaw17_LaneArrives.l0] at h,fun _ r h => by simp [hinterlandlaw17_LaneArrives.j2] at h,fun _ r h => by simp [hinterlandlaw17_LaneArrives.j3] at h⟩
 | k + 1 => by
  obtain ⟨ih0,ih1,ih2,ih3⟩:=hinterlandlaw17_LaneArrives.mono_l k
  refine ⟨?_,?_,?_,?_⟩
  ·intro y0 y1 y2 y3 y4 y5 y6 y7 y8 y9 y10 y11
   unfold hinterlandlaw17_LaneArrives.j0
   repeat' first
   | (with_reducible exact ih0 _ _ _ _ _ _ _ _ _ _ _ _)
   | (with_reducible exact ih1 _ _ _ _ _ _ _ _ _ _ _ _)
   | (with_reducible exact ih2 _)
   | (with_reducible exact ih3 _)
   | (with_reducible exact hinterlandlaw17_known.mono _)
   | (with_reducible exact lane_Launch.mono _ _ _ _ _ _ _ _)
   | (with_reducible exact lane_Sail.mono _ _ _ _ _ _ _ _ _ _ _ _)
   | (with_reducible exact LeO.refl _)
   | (with_reducible exact LeO.none _)
   | (with_reducible refine LeO.ite ?_ ?_)
   | (with_reducible refine LeO.bind ?_ (fun _ => ?_))
   | exact ih0 _ _ _ _ _ _ _ _ _ _ _ _
   | exact ih1 _ _ _ _ _ _ _ _ _ _ _ _
   | exact ih2 _
   | exact ih3 _
   | exact hinterlandlaw17_known.mono _
   | exact lane_Launch.mono _ _ _ _ _ _ _ _
   | exact lane_Sail.mono _ _ _ _ _ _ _ _ _ _ _ _
   | exact LeO.none _
   | refine LeO.ite ?_ ?_
   | refine LeO.bind ?_ (fun _ => ?_)
  ·intro y0 y1 y2 y3 y4 y5 y6 y7 y8 y9 y10 y11
   unfold hinterlandlaw17_LaneArrives.l0
   repeat' first
   | (with_reducible exact ih0 _ _ _ _ _ _ _ _ _ _ _ _)
   | (with_reducible exact ih1 _ _ _ _ _ _ _ _ _ _ _ _)
   | (with_reducible exact ih2 _)
   | (with_reducible exact ih3 _)
   | (with_reducible exact hinterlandlaw17_known.mono _)
   | (with_reducible exact lane_Launch.mono _ _ _ _ _ _ _ _)
   | (with_reducible exact lane_Sail.mono _ _ _ _ _ _ _ _ _ _ _ _)
   | (with_reducible exact LeO.refl _)
   | (with_reducible exact LeO.none _)
   | (with_reducible refine LeO.ite ?_ ?_)
   | (with_reducible refine LeO.bind ?_ (fun _ => ?_))
   | exact ih0 _ _ _ _ _ _ _ _ _ _ _ _
   | exact ih1 _ _ _ _ _ _ _ _ _ _ _ _
   | exact ih2 _
   | exact ih3 _
   | exact hinterlandlaw17_known.mono _
   | exact lane_Launch.mono _ _ _ _ _ _ _ _
   | exact lane_Sail.mono _ _ _ _ _ _ _ _ _ _ _ _
   | exact LeO.none _
   | refine LeO.ite ?_ ?_
   | refine LeO.bind ?_ (fun _ => ?_)
  ·intro y0
   unfold hinterlandlaw17_LaneArrives.j2
   repeat' first
   | (with_reducible exact ih0 _ _ _ _ _ _ _ _ _ _ _ _)
   | (with_reducible exact ih1 _ _ _ _ _ _ _ _ _ _ _ _)
   | (with_reducible exact ih2 _)
   | (with_reducible exact ih3 _)
   | (with_reducible exact hinterlandlaw17_known.mono _)
   | (with_reducible exact lane_Launch.mono _ _ _ _ _ _ _ _)
   | (with_reducible exact lane_Sail.mono _ _ _ _ _ _ _ _ _ _ _ _)
   | (with_reducible exact LeO.refl _)
   | (with_reducible exact LeO.none _)
   | (with_reducible refine LeO.ite ?_ ?_)
   | (with_reducible refine LeO.bind ?_ (fun _ => ?_))
   | exact ih0 _ _ _ _ _ _ _ _ _ _ _ _
   | exact ih1 _ _ _ _ _ _ _ _ _ _ _ _
   | exact ih2 _
   | exact ih3 _
   | exact hinterlandlaw17_known.mono _
   | exact lane_Launch.mono _ _ _ _ _ _ _ _
   | exact lane_Sail.mono _ _ _ _ _ _ _ _ _ _ _ _
   | exact LeO.none _
   | refine LeO.ite ?_ ?_
   | refine LeO.bind ?_ (fun _ => ?_)
  ·intro y0
   unfold hinterlandlaw17_LaneArrives.j3
   repeat' first
   | (with_reducible exact ih0 _ _ _ _ _ _ _ _ _ _ _ _)
   | (with_reducible exact ih1 _ _ _ _ _ _ _ _ _ _ _ _)
   | (with_reducible exact ih2 _)
   | (with_reducible exact ih3 _)
   | (with_reducible exact hinterlandlaw17_known.mono _)
   | (with_reducible exact lane_Launch.mono _ _ _ _ _ _ _ _)
   | (with_reducible exact lane_Sail.mono _ _ _ _ _ _ _ _ _ _ _ _)
   | (with_reducible exact LeO.refl _)
   | (with_reducible exact LeO.none _)
   | (with_reducible refine LeO.ite ?_ ?_)
   | (with_reducible refine LeO.bind ?_ (fun _ => ?_))
   | exact ih0 _ _ _ _ _ _ _ _ _ _ _ _
   | exact ih1 _ _ _ _ _ _ _ _ _ _ _ _
   | exact ih2 _
   | exact ih3 _
   | exact hinterlandlaw17_known.mono _
   | exact lane_Launch.mono _ _ _ _ _ _ _ _
   | exact lane_Sail.mono _ _ _ _ _ _ _ _ _ _ _ _
   | exact LeO.none _
   | refine LeO.ite ?_ ?_
   | refine LeO.bind ?_ (fun _ => ?_)
theorem hinterlandlaw17_LaneArrives.mono : ∀ a0 a1 a2 a3 a4 a5 a6 k, LeO (hinterlandlaw17_LaneArrives.f k a0 a1 a2 a3 a4 a5 a6) (hinterlandlaw17_LaneArrives.f (k + 1) a0 a1 a2 a3 a4 a5 a6) := by
 intro a0 a1 a2 a3 a4 a5 a6 k
 obtain ⟨ih0,ih1,ih2,ih3⟩:=hinterlandlaw17_LaneArrives.mono_l k
 unfold hinterlandlaw17_LaneArrives.f
 repeat' first
   | (with_reducible exact ih0 _ _ _ _ _ _ _ _ _ _ _ _)
   | (with_reducible exact ih1 _ _ _ _ _ _ _ _ _ _ _ _)
   | (with_reducible exact ih2 _)
   | (with_reducible exact ih3 _)
   | (with_reducible exact hinterlandlaw17_known.mono _)
   | (with_reducible exact lane_Launch.mono _ _ _ _ _ _ _ _)
   | (with_reducible exact lane_Sail.mono _ _ _ _ _ _ _ _ _ _ _ _)
   | (with_reducible exact LeO.refl _)
   | (with_reducible exact LeO.none _)
   | (with_reducible refine LeO.ite ?_ ?_)
   | (with_reducible refine LeO.bind ?_ (fun _ => ?_))
   | exact ih0 _ _ _ _ _ _ _ _ _ _ _ _
   | exact ih1 _ _ _ _ _ _ _ _ _ _ _ _
   | exact ih2 _
   | exact ih3 _
   | exact hinterlandlaw17_known.mono _
   | exact lane_Launch.mono _ _ _ _ _ _ _ _
   | exact lane_Sail.mono _ _ _ _ _ _ _ _ _ _ _ _
   | exact LeO.none _
   | refine LeO.ite ?_ ?_
   | refine LeO.bind ?_ (fun _ => ?_)
set_option maxHeartbeats 8000000 in
set_option maxRecDepth 100000 in
theorem hinterlandlaw17_LaneArrives.calls (k : Nat) (a0_0 : Int) (a0_1 : Int) (A0_2 : Option Addr) (c0_2 : Nat) (l0_2 : List Int) (A1_0 : Option Addr) (c1_0 : Nat) (l1_0 : List Int) (A1_1 : Option Addr) (c1_1 : Nat) (l1_1 : List Int) (a2 : Int) (a3 : Int) (r : Bool) (w : World) (hr0_2 : Kd.C (Kd.int .i64) w A0_2 l0_2.length l0_2) (hc0_2 : l0_2.length ≤ c0_2) (hr1_0 : Kd.C (Kd.int .i64) w A1_0 l1_0.length l1_0) (hc1_0 : l1_0.length ≤ c1_0) (hr1_1 : Kd.C (Kd.int .i64) w A1_1 l1_1.length l1_1) (hc1_1 : l1_1.length ≤ c1_1) (h : hinterlandlaw17_LaneArrives.f k a0_0 a0_1 l0_2 l1_0 l1_1 a2 a3 = some r) :
  Calls Try.prog 11 #[.agg #[.int .i64 a0_0,.int .i64 a0_1,.slice A0_2 l0_2.length c0_2],.agg #[.slice A1_0 l1_0.length c1_0,.slice A1_1 l1_1.length c1_1],.int .i64 a2,.int .i64 a3] w fun e w' => e = .returned (.bool r) ∧ Below w.heap.size w w':=by
 have hu53:=Try.underlying53
 have hu55:=Try.underlying55
 have hu57:=Try.underlying57
 have HR0_2:=Aside0.mk hr0_2
 have HC0_2:=Aside0.mk hc0_2
 clear hr0_2 hc0_2
 have HR1_0:=Aside0.mk hr1_0
 have HC1_0:=Aside0.mk hc1_0
 clear hr1_0 hc1_0
 have HR1_1:=Aside0.mk hr1_1
 have HC1_1:=Aside0.mk hc1_1
 clear hr1_1 hc1_1
 have HB:=Aside0.mk (Below.refl w.heap.size w)
 have H : ((hinterlandlaw17_vast.f a0_0 a0_1 l0_2 l1_0 l1_1).bind fun t362 => (if t362 = true then ((hinterlandlaw17_known.f k).bind fun t363 => (some t363)) else ((lane_Launch.f k a0_0 a0_1 l0_2 l1_0 l1_1 a2 a3).bind fun bt364 => (if bt364.2.2.2.2.2 = 0 then (hinterlandlaw17_LaneArrives.j0 k a3 (a2 == a3) a0_0 a0_1 l0_2 l1_0 l1_1 bt364.1 bt364.2.1 bt364.2.2.1 bt364.2.2.2.1 bt364.2.2.2.2.1) else (hinterlandlaw17_LaneArrives.j0 k a3 true a0_0 a0_1 l0_2 l1_0 l1_1 bt364.1 bt364.2.1 bt364.2.2.1 bt364.2.2.2.1 bt364.2.2.2.2.1))))) = some r:=h
 clear h
 replace H:=Option.bind_eq_some_iff.mp H
 obtain ⟨t362,A50,H⟩:=H
 replace H : (if t362 = true then ((hinterlandlaw17_known.f k).bind fun t363 => (some t363)) else ((lane_Launch.f k a0_0 a0_1 l0_2 l1_0 l1_1 a2 a3).bind fun bt364 => (if bt364.2.2.2.2.2 = 0 then (hinterlandlaw17_LaneArrives.j0 k a3 (a2 == a3) a0_0 a0_1 l0_2 l1_0 l1_1 bt364.1 bt364.2.1 bt364.2.2.1 bt364.2.2.2.1 bt364.2.2.2.2.1) else (hinterlandlaw17_LaneArrives.j0 k a3 true a0_0 a0_1 l0_2 l1_0 l1_1 bt364.1 bt364.2.1 bt364.2.2.1 bt364.2.2.2.1 bt364.2.2.2.2.1)))) = some r:=H
 have A5:=Aside0.mk A50
 clear A50
 by_cases c6 : t362 = true
 ·subst c6
  have H1 : ((hinterlandlaw17_known.f k).bind fun t363 => (some t363)) = some r:=by rw [if_pos rfl] at H;exact H
  clear H
  have H:=H1
  clear H1
  replace H:=Option.bind_eq_some_iff.mp H
  obtain ⟨t363,A70,H⟩:=H
  replace H : (some t363) = some r:=H
  have A7:=Aside0.mk A70
  clear A70
  obtain rfl:=Option.some.inj H
  go_enter Try.func11,Try.ntmps11
  go_wp2_with (first|((with_reducible refine gate_dst (N:=4) rfl ?_);refine box_ev (N:=4) (cs:=#[.int .i64 a0_0,.int .i64 a0_1,.slice A0_2 l0_2.length c0_2]) (t:=53) ?_;intro gb360 hg w8 hbox hb;have BK360:=Aside0.mk (hbox);have GW360 : Aside0 (w.heap.size ≤ gb360):=gsz hg;have GE360:=GW360;replace HB:=hbs hb;clear hb hbox hg)|((with_reducible refine gate_dst (N:=5) rfl ?_);refine box_ev (N:=5) (cs:=#[.slice A1_0 l1_0.length c1_0,.slice A1_1 l1_1.length c1_1]) (t:=55) ?_;intro gb361 hg w9 hbox hb;have BK361:=Aside0.mk (hbox);have GW361 : Aside0 (w.heap.size ≤ gb361):=gsz hg;have GE361:=GW361;have NB360_361:=nbl BK360 hg;have NB361_360:=nbr BK360 hg;replace BK360:=bkb BK360 hb;replace HB:=hbs hb;clear hb hbox hg;have hnb10:=NB360_361.out;have hnc10:=NB361_360.out;obtain ⟨_,_,_,_,_,_⟩:=cells3 BK360.out;obtain ⟨_,_,_,_⟩:=cells2 BK361.out)|((with_reducible refine gate_callee (f:=29) rfl ?_);refine goesL_ (some 17) rfl rfl Try.func29 (by kernel_rfl) rfl #[.agg #[.int .i64 a0_0,.int .i64 a0_1,.slice A0_2 l0_2.length c0_2],.agg #[.slice A1_0 l1_0.length c1_0,.slice A1_1 l1_1.length c1_1]] rfl ga_ ?_;(with_reducible refine (hinterlandlaw17_vast.calls a0_0 a0_1 _ _ l0_2 _ _ l1_0 _ _ l1_1 true _ ?_ ?_ ?_ ?_ ?_ ?_ A5.out).mono ?_);exact cq HR0_2;exact HC0_2.out;exact cq HR1_0;exact HC1_0.out;exact cq HR1_1;exact HC1_1.out;rintro e w13 ⟨rfl,hb⟩;refine ⟨_,rfl,?_⟩;replace BK360:=bkb BK360 hb;replace BK361:=bkb BK361 hb;replace HB:=hbs hb)|((with_reducible refine gate_callee (f:=13) rfl ?_);refine goesL_ (some 18) rfl rfl Try.func13 (by kernel_rfl) rfl #[] rfl ga_ ?_;(with_reducible refine (hinterlandlaw17_known.calls k  t363 _ A7.out).mono ?_);rintro e w14 ⟨rfl,hb⟩;refine ⟨_,rfl,?_⟩;replace BK360:=bkb BK360 hb;replace BK361:=bkb BK361 hb;replace HB:=hbs hb))
  go_ret
  exact ⟨er_,hb_⟩
 ·replace c6:=Bool.eq_false_iff.mpr c6
  subst c6
  have H1 : ((lane_Launch.f k a0_0 a0_1 l0_2 l1_0 l1_1 a2 a3).bind fun bt364 => (if bt364.2.2.2.2.2 = 0 then (hinterlandlaw17_LaneArrives.j0 k a3 (a2 == a3) a0_0 a0_1 l0_2 l1_0 l1_1 bt364.1 bt364.2.1 bt364.2.2.1 bt364.2.2.2.1 bt364.2.2.2.2.1) else (hinterlandlaw17_LaneArrives.j0 k a3 true a0_0 a0_1 l0_2 l1_0 l1_1 bt364.1 bt364.2.1 bt364.2.2.1 bt364.2.2.2.1 bt364.2.2.2.2.1))) = some r:=by rw [if_neg (show ¬ (false = true) by decide)] at H;exact H
  clear H
  have H:=H1
  clear H1
  replace H:=Option.bind_eq_some_iff.mp H
  obtain ⟨⟨t364,t365,t366,t367,t368,t369⟩,A150,H⟩:=H
  replace H : (if t369 = 0 then (hinterlandlaw17_LaneArrives.j0 k a3 (a2 == a3) a0_0 a0_1 l0_2 l1_0 l1_1 t364 t365 t366 t367 t368) else (hinterlandlaw17_LaneArrives.j0 k a3 true a0_0 a0_1 l0_2 l1_0 l1_1 t364 t365 t366 t367 t368)) = some r:=H
  have A15:=Aside0.mk A150
  clear A150
  have HC16:=Aside0.mk H
  clear H
  go_enter Try.func11,Try.ntmps11
  go_upto_region 4 with (first|((with_reducible refine gate_dst (N:=4) rfl ?_);refine box_ev (N:=4) (cs:=#[.int .i64 a0_0,.int .i64 a0_1,.slice A0_2 l0_2.length c0_2]) (t:=53) ?_;intro gb360 hg w17 hbox hb;have BK360:=Aside0.mk (hbox);have GW360 : Aside0 (w.heap.size ≤ gb360):=gsz hg;have GE360:=GW360;replace HB:=hbs hb;clear hb hbox hg)|((with_reducible refine gate_dst (N:=5) rfl ?_);refine box_ev (N:=5) (cs:=#[.slice A1_0 l1_0.length c1_0,.slice A1_1 l1_1.length c1_1]) (t:=55) ?_;intro gb361 hg w18 hbox hb;have BK361:=Aside0.mk (hbox);have GW361 : Aside0 (w.heap.size ≤ gb361):=gsz hg;have GE361:=GW361;have NB360_361:=nbl BK360 hg;have NB361_360:=nbr BK360 hg;replace BK360:=bkb BK360 hb;replace HB:=hbs hb;clear hb hbox hg;have hnb19:=NB360_361.out;have hnc19:=NB361_360.out;obtain ⟨_,_,_,_,_,_⟩:=cells3 BK360.out;obtain ⟨_,_,_,_⟩:=cells2 BK361.out)|((with_reducible refine gate_callee (f:=29) rfl ?_);refine goesL_ (some 17) rfl rfl Try.func29 (by kernel_rfl) rfl #[.agg #[.int .i64 a0_0,.int .i64 a0_1,.slice A0_2 l0_2.length c0_2],.agg #[.slice A1_0 l1_0.length c1_0,.slice A1_1 l1_1.length c1_1]] rfl ga_ ?_;(with_reducible refine (hinterlandlaw17_vast.calls a0_0 a0_1 _ _ l0_2 _ _ l1_0 _ _ l1_1 false _ ?_ ?_ ?_ ?_ ?_ ?_ A5.out).mono ?_);exact cq HR0_2;exact HC0_2.out;exact cq HR1_0;exact HC1_0.out;exact cq HR1_1;exact HC1_1.out;rintro e w22 ⟨rfl,hb⟩;refine ⟨_,rfl,?_⟩;replace BK360:=bkb BK360 hb;replace BK361:=bkb BK361 hb;replace HB:=hbs hb;obtain ⟨_,_,_,_,_,_⟩:=cells3 BK360.out;obtain ⟨_,_,_,_⟩:=cells2 BK361.out)|((with_reducible refine gate_callee (f:=31) rfl ?_);refine goesL_ (some 24) rfl rfl Try.func31 (by kernel_rfl) rfl #[.agg #[.int .i64 a0_0,.int .i64 a0_1,.slice A0_2 l0_2.length c0_2],.agg #[.slice A1_0 l1_0.length c1_0,.slice A1_1 l1_1.length c1_1],.int .i64 a2,.int .i64 a3] rfl ga_ ?_;(with_reducible refine (lane_Launch.calls k a0_0 a0_1 _ _ l0_2 _ _ l1_0 _ _ l1_1 a2 a3 t364 t365 t366 t367 t368 t369 _ ?_ ?_ ?_ ?_ ?_ ?_ A15.out).mono ?_);exact cq HR0_2;exact HC0_2.out;exact cq HR1_0;exact HC1_0.out;exact cq HR1_1;exact HC1_1.out;rintro e w25 ⟨rfl,hb⟩;refine ⟨_,rfl,?_⟩;replace BK360:=bkb BK360 hb;replace BK361:=bkb BK361 hb;replace HB:=hbs hb)|((with_reducible refine gate_dst (N:=9) rfl ?_);refine box_ev (N:=9) (cs:=#[.int .i64 0,.int .i64 0,.int .i64 0,.int .i64 0,.int .i64 0]) (t:=57) ?_;intro gb370 hg w26 hbox hb;have BK370:=Aside0.mk (hbox);have GW370 : Aside0 (w.heap.size ≤ gb370):=gsz hg;have GE370:=GW370;have NB360_370:=nbl BK360 hg;have NB370_360:=nbr BK360 hg;have NB361_370:=nbl BK361 hg;have NB370_361:=nbr BK361 hg;replace BK360:=bkb BK360 hb;replace BK361:=bkb BK361 hb;replace HB:=hbs hb;clear hb hbox hg;have hnb27:=NB370_360.out;have hnc27:=NB360_370.out;have hnb28:=NB370_361.out;have hnc28:=NB361_370.out;obtain ⟨_,_,_,_,_,_,_,_,_,_⟩:=cells5 BK370.out))
  (try simp only [Act.put,List.setIfInBounds_toArray,List.set_cons_zero,List.set_cons_succ])
  go_cut [33] (fun v33 wc => ∃ (kq : Nat) (x33_15 : Bool),v33 = .bool x33_15 ∧ Aside0 (hinterlandlaw17_LaneArrives.j0 kq a3 x33_15 a0_0 a0_1 l0_2 l1_0 l1_1 t364 t365 t366 t367 t368 = some r) ∧ Aside0 (kq ≤ k) ∧ Aside0 (wc.heap[gb360]? = some (.cells #[.int .i64 a0_0,.int .i64 a0_1,(.slice A0_2 l0_2.length c0_2)] 53 (0,0))) ∧ Aside0 (wc.heap[gb361]? = some (.cells #[(.slice A1_0 l1_0.length c1_0),(.slice A1_1 l1_1.length c1_1)] 55 (0,0))) ∧ Aside0 (wc.heap[gb370]? = some (.cells #[.int .i64 t364,.int .i64 t365,.int .i64 t366,.int .i64 t367,.int .i64 t368] 57 (0,0))) ∧ Aside0 (Below w.heap.size w wc))
  case first =>
   have H:=HC16.out
   clear HC16
   by_cases c30 : t369 = 0
   ·rw [if_pos c30] at H
    have c30b0:=bqt c30
    have c30b1:=bnf c30
    clear c30
    (first|rw [c30b0]|(simp only [i64_w,i32_w];rw [c30b0])|skip)
    have H':=Aside0.mk H
    clear H
    go_wp2
    go_meet
    case rel => exact ⟨_,((a2 == a3)),(by first|rfl|(simp;done)|(simp [*];done)),H',⟨by first|omega|exact Nat.le_refl _⟩,⟨by (with_reducible repeat (first|refine blk_drewN ?_ _|refine blk_drew ?_|refine blk_alloc ?_ _));refine blk_far ?_ NB360_370.out _;(with_reducible repeat (first|refine blk_drewN ?_ _|refine blk_drew ?_|refine blk_alloc ?_ _));refine blk_far ?_ NB360_370.out _;(with_reducible repeat (first|refine blk_drewN ?_ _|refine blk_drew ?_|refine blk_alloc ?_ _));refine blk_far ?_ NB360_370.out _;(with_reducible repeat (first|refine blk_drewN ?_ _|refine blk_drew ?_|refine blk_alloc ?_ _));refine blk_far ?_ NB360_370.out _;(with_reducible repeat (first|refine blk_drewN ?_ _|refine blk_drew ?_|refine blk_alloc ?_ _));refine blk_far ?_ NB360_370.out _;(with_reducible repeat (first|refine blk_drewN ?_ _|refine blk_drew ?_|refine blk_alloc ?_ _));exact BK360.out⟩,⟨by (with_reducible repeat (first|refine blk_drewN ?_ _|refine blk_drew ?_|refine blk_alloc ?_ _));refine blk_far ?_ NB361_370.out _;(with_reducible repeat (first|refine blk_drewN ?_ _|refine blk_drew ?_|refine blk_alloc ?_ _));refine blk_far ?_ NB361_370.out _;(with_reducible repeat (first|refine blk_drewN ?_ _|refine blk_drew ?_|refine blk_alloc ?_ _));refine blk_far ?_ NB361_370.out _;(with_reducible repeat (first|refine blk_drewN ?_ _|refine blk_drew ?_|refine blk_alloc ?_ _));refine blk_far ?_ NB361_370.out _;(with_reducible repeat (first|refine blk_drewN ?_ _|refine blk_drew ?_|refine blk_alloc ?_ _));refine blk_far ?_ NB361_370.out _;(with_reducible repeat (first|refine blk_drewN ?_ _|refine blk_drew ?_|refine blk_alloc ?_ _));exact BK361.out⟩,⟨by (with_reducible repeat (first|refine blk_drewN ?_ _|refine blk_drew ?_|refine blk_alloc ?_ _));exact blk_puts5 (blk_up BK370.out)⟩,⟨hb_⟩⟩
   ·rw [if_neg c30] at H
    have c30b0:=bqf c30
    have c30b1:=bnt c30
    (first|rw [c30b0]|(simp only [i64_w,i32_w];rw [c30b0])|skip)
    have H':=Aside0.mk H
    clear H
    go_wp2
    go_meet
    case rel => exact ⟨_,(true),(by first|rfl|(simp;done)|(simp [*];done)),H',⟨by first|omega|exact Nat.le_refl _⟩,⟨by (with_reducible repeat (first|refine blk_drewN ?_ _|refine blk_drew ?_|refine blk_alloc ?_ _));refine blk_far ?_ NB360_370.out _;(with_reducible repeat (first|refine blk_drewN ?_ _|refine blk_drew ?_|refine blk_alloc ?_ _));refine blk_far ?_ NB360_370.out _;(with_reducible repeat (first|refine blk_drewN ?_ _|refine blk_drew ?_|refine blk_alloc ?_ _));refine blk_far ?_ NB360_370.out _;(with_reducible repeat (first|refine blk_drewN ?_ _|refine blk_drew ?_|refine blk_alloc ?_ _));refine blk_far ?_ NB360_370.out _;(with_reducible repeat (first|refine blk_drewN ?_ _|refine blk_drew ?_|refine blk_alloc ?_ _));refine blk_far ?_ NB360_370.out _;(with_reducible repeat (first|refine blk_drewN ?_ _|refine blk_drew ?_|refine blk_alloc ?_ _));exact BK360.out⟩,⟨by (with_reducible repeat (first|refine blk_drewN ?_ _|refine blk_drew ?_|refine blk_alloc ?_ _));refine blk_far ?_ NB361_370.out _;(with_reducible repeat (first|refine blk_drewN ?_ _|refine blk_drew ?_|refine blk_alloc ?_ _));refine blk_far ?_ NB361_370.out _;(with_reducible repeat (first|refine blk_drewN ?_ _|refine blk_drew ?_|refine blk_alloc ?_ _));refine blk_far ?_ NB361_370.out _;(with_reducible repeat (first|refine blk_drewN ?_ _|refine blk_drew ?_|refine blk_alloc ?_ _));refine blk_far ?_ NB361_370.out _;(with_reducible repeat (first|refine blk_drewN ?_ _|refine blk_drew ?_|refine blk_alloc ?_ _));refine blk_far ?_ NB361_370.out _;(with_reducible repeat (first|refine blk_drewN ?_ _|refine blk_drew ?_|refine blk_alloc ?_ _));exact BK361.out⟩,⟨by (with_reducible repeat (first|refine blk_drewN ?_ _|refine blk_drew ?_|refine blk_alloc ?_ _));exact blk_puts5 (blk_up BK370.out)⟩,⟨hb_⟩⟩
  case rest =>
   clear HC16
   obtain ⟨kq,x33_15,rfl,HA,HJ15,BK360,BK361,BK370,HB⟩:=hcut
   cases kq with
   | zero => exact absurd HA.out (by simp [hinterlandlaw17_LaneArrives.j0])
   | succ kj15 =>
    have H:=HA.out
    clear HA
    simp only [hinterlandlaw17_LaneArrives.j0] at H
    by_cases c31 : x33_15 = true
    ·subst c31
     have H1 : ((hinterlandlaw17_known.f kj15).bind fun t371 => (some t371)) = some r:=by rw [if_pos rfl] at H;exact H
     clear H
     have H:=H1
     clear H1
     replace H:=Option.bind_eq_some_iff.mp H
     obtain ⟨t371,A320,H⟩:=H
     replace H : (some t371) = some r:=H
     have A32:=Aside0.mk A320
     clear A320
     obtain rfl:=Option.some.inj H
     go_wp2_with (first|((with_reducible refine gate_callee (f:=13) rfl ?_);refine goesL_ (some 34) rfl rfl Try.func13 (by kernel_rfl) rfl #[] rfl ga_ ?_;(with_reducible refine (hinterlandlaw17_known.calls kj15  t371 _ A32.out).mono ?_);rintro e w33 ⟨rfl,hb⟩;refine ⟨_,rfl,?_⟩;replace BK360:=bkb BK360 hb;replace BK361:=bkb BK361 hb;replace BK370:=bkb BK370 hb;replace HB:=hbs hb))
     go_ret
     exact ⟨er_,hb_⟩
    ·replace c31:=Bool.eq_false_iff.mpr c31
     subst c31
     have H1 : (hinterlandlaw17_LaneArrives.l0 kj15 a3 0 a0_0 a0_1 l0_2 l1_0 l1_1 t364 t365 t366 t367 t368) = some r:=by rw [if_neg (show ¬ (false = true) by decide)] at H;exact H
     clear H
     have H:=H1
     clear H1
     have H':=Aside0.mk H
     clear H
     go_wp2
     go_loopg [11] kj15 (fun kq v11 w' => ∃ (x11_2 : Int) (x371000_2 : Int) (x371001_2 : Int) (x371002_2 : Int) (x371003_2 : Int) (x371004_2 : Int),v11 = .int .i64 x11_2 ∧ Aside0 (hinterlandlaw17_LaneArrives.l0 kq a3 x11_2 a0_0 a0_1 l0_2 l1_0 l1_1 x371000_2 x371001_2 x371002_2 x371003_2 x371004_2 = some r) ∧ Aside0 (kq ≤ kj15) ∧ Aside0 (w'.heap[gb360]? = some (.cells #[.int .i64 a0_0,.int .i64 a0_1,(.slice A0_2 l0_2.length c0_2)] 53 (0,0))) ∧ Aside0 (w'.heap[gb361]? = some (.cells #[(.slice A1_0 l1_0.length c1_0),(.slice A1_1 l1_1.length c1_1)] 55 (0,0))) ∧ Aside0 (w'.heap[gb370]? = some (.cells #[.int .i64 x371000_2,.int .i64 x371001_2,.int .i64 x371002_2,.int .i64 x371003_2,.int .i64 x371004_2] 57 (0,0))) ∧ Aside0 (Below w.heap.size w w'))
     case atStart => exact ⟨(0),(t364),(t365),(t366),(t367),(t368),(by first|rfl|(simp;done)|(simp [*];done)),H',⟨Nat.le_refl _⟩,⟨blk_up BK360.out⟩,⟨blk_up BK361.out⟩,⟨blk_up BK370.out⟩,⟨hb_⟩⟩
     case round =>
      clear H'
      obtain ⟨x11_2,x371000_2,x371001_2,x371002_2,x371003_2,x371004_2,rfl,HA,HK2,BK360,BK361,BK370,HB⟩:=hrel
      cases gk with
      | zero => exact absurd HA.out (by simp [hinterlandlaw17_LaneArrives.l0])
      | succ k2 =>
       have H:=HA.out
       clear HA
       simp only [hinterlandlaw17_LaneArrives.l0] at H
       by_cases c34 : x11_2 ≤ (l1_0.length : Int)
       rotate_left
       ·rw [if_neg c34] at H
        have c34b0 : decide (x11_2 ≤ (l1_0.length : Int)) = false:=decide_eq_false c34
        clear c34
        obtain rfl:=Option.some.inj H
        have hnb104:=NB361_360.out
        have hnc104:=NB360_361.out
        have hnb105:=NB361_370.out
        have hnc105:=NB370_361.out
        obtain ⟨_,_,_,_⟩:=cells2 BK361.out
        go_wp2
        go_ret
        exact ⟨er_,hb_⟩
       rw [if_pos c34] at H
       have c34b0 : decide (x11_2 ≤ (l1_0.length : Int)) = true:=decide_eq_true c34
       clear c34
       replace H:=Option.bind_eq_some_iff.mp H
       obtain ⟨⟨t372,t373,t374,t375,t376,t377,t378⟩,A350,H⟩:=H
       replace H : (if t378 = 0 then (if t377 = 3 then (if t372 = a3 then ((hinterlandlaw17_known.f k2).bind fun t380 => (hinterlandlaw17_LaneArrives.j2 k2 t380)) else (hinterlandlaw17_LaneArrives.j2 k2 false)) else (if t377 = 2 then (if x11_2 = 0 then ((hinterlandlaw17_known.f k2).bind fun t381 => (hinterlandlaw17_LaneArrives.j3 k2 t381)) else (hinterlandlaw17_LaneArrives.j3 k2 false)) else (hinterlandlaw17_LaneArrives.l0 k2 a3 (wrap64 (x11_2 + 1)) a0_0 a0_1 l0_2 l1_0 l1_1 t372 t373 t374 t375 t376))) else (some false)) = some r:=H
       have A35:=Aside0.mk A350
       clear A350
       by_cases c36 : t378 = 0
       rotate_left
       ·rw [if_neg c36] at H
        have c36b0:=bqf c36
        have c36b1:=bnt c36
        obtain rfl:=Option.some.inj H
        have hnb92:=NB361_360.out
        have hnc92:=NB360_361.out
        have hnb93:=NB361_370.out
        have hnc93:=NB370_361.out
        obtain ⟨_,_,_,_⟩:=cells2 BK361.out
        have hnb95:=NB370_360.out
        have hnc95:=NB360_370.out
        obtain ⟨_,_,_,_,_,_,_,_,_,_⟩:=cells5 BK370.out
        obtain ⟨_,_,_,_,_,_⟩:=cells3 BK360.out
        go_wp2_with (first|((with_reducible refine gate_callee (f:=33) rfl ?_);refine goesL_ (some 48) rfl rfl Try.func33 (by kernel_rfl) rfl #[.agg #[.int .i64 a0_0,.int .i64 a0_1,.slice A0_2 l0_2.length c0_2],.agg #[.slice A1_0 l1_0.length c1_0,.slice A1_1 l1_1.length c1_1],.agg #[.int .i64 x371000_2,.int .i64 x371001_2,.int .i64 x371002_2,.int .i64 192,.int .i64 x371004_2],.int .i64 a3] rfl ga_ ?_;(with_reducible refine (lane_Sail.calls k2 a0_0 a0_1 _ _ l0_2 _ _ l1_0 _ _ l1_1 x371000_2 x371001_2 x371002_2 192 x371004_2 a3 t372 t373 t374 t375 t376 t377 t378 _ ?_ ?_ ?_ ?_ ?_ ?_ A35.out).mono ?_);exact Kd.C_below HR0_2.out (hb_);exact HC0_2.out;exact Kd.C_below HR1_0.out (hb_);exact HC1_0.out;exact Kd.C_below HR1_1.out (hb_);exact HC1_1.out;rintro e w98 ⟨rfl,hb⟩;refine ⟨_,rfl,?_⟩;replace BK360:=Aside0.mk (blk_below (g:=gb360) (o:=.cells #[.int .i64 a0_0,.int .i64 a0_1,.slice A0_2 l0_2.length c0_2] 53 (0,0)) (by (with_reducible repeat (first|refine blk_drewN ?_ _|refine blk_drew ?_|refine blk_alloc ?_ _));refine blk_far ?_ NB360_370.out _;(with_reducible repeat (first|refine blk_drewN ?_ _|refine blk_drew ?_|refine blk_alloc ?_ _));exact BK360.out) hb);replace BK361:=Aside0.mk (blk_below (g:=gb361) (o:=.cells #[.slice A1_0 l1_0.length c1_0,.slice A1_1 l1_1.length c1_1] 55 (0,0)) (by (with_reducible repeat (first|refine blk_drewN ?_ _|refine blk_drew ?_|refine blk_alloc ?_ _));refine blk_far ?_ NB361_370.out _;(with_reducible repeat (first|refine blk_drewN ?_ _|refine blk_drew ?_|refine blk_alloc ?_ _));exact BK361.out) hb);replace BK370:=Aside0.mk (blk_below (g:=gb370) (o:=.cells #[.int .i64 x371000_2,.int .i64 x371001_2,.int .i64 x371002_2,.int .i64 192,.int .i64 x371004_2] 57 (0,0)) (by (with_reducible repeat (first|refine blk_drewN ?_ _|refine blk_drew ?_|refine blk_alloc ?_ _));refine blk_put (cs:=#[.int .i64 x371000_2,.int .i64 x371001_2,.int .i64 x371002_2,.int .i64 x371003_2,.int .i64 x371004_2]) ?_ 3 _ rfl;(with_reducible repeat (first|refine blk_drewN ?_ _|refine blk_drew ?_|refine blk_alloc ?_ _));exact BK370.out) hb);replace HB:=hbs hb)|((with_reducible refine gate_dst (N:=12) rfl ?_);refine box_ev (N:=12) (cs:=#[.int .i64 0,.int .i64 0,.int .i64 0,.int .i64 0,.int .i64 0]) (t:=57) ?_;intro gb379 hg w99 hbox hb;have BK379:=Aside0.mk (hbox);have GW379 : Aside0 (w.heap.size ≤ gb379):=gsz hg;have GE379:=GW379;have NB360_379:=nbl BK360 hg;have NB379_360:=nbr BK360 hg;have NB361_379:=nbl BK361 hg;have NB379_361:=nbr BK361 hg;have NB370_379:=nbl BK370 hg;have NB379_370:=nbr BK370 hg;replace BK360:=bkb BK360 hb;replace BK361:=bkb BK361 hb;replace BK370:=bkb BK370 hb;replace HB:=hbs hb;clear hb hbox hg;have hnb100:=NB379_360.out;have hnc100:=NB360_379.out;have hnb101:=NB379_361.out;have hnc101:=NB361_379.out;have hnb102:=NB379_370.out;have hnc102:=NB370_379.out;obtain ⟨_,_,_,_,_,_,_,_,_,_⟩:=cells5 BK379.out))
        go_ret
        exact ⟨er_,hb_⟩
       rw [if_pos c36] at H
       have c36b0:=bqt c36
       have c36b1:=bnf c36
       clear c36
       by_cases c37 : t377 = 3
       ·rw [if_pos c37] at H
        have c37b0:=bqt c37
        have c37b1:=bnf c37
        clear c37
        have HC38:=Aside0.mk H
        clear H
        have hnb39:=NB361_360.out
        have hnc39:=NB360_361.out
        have hnb40:=NB361_370.out
        have hnc40:=NB370_361.out
        obtain ⟨_,_,_,_⟩:=cells2 BK361.out
        have hnb42:=NB370_360.out
        have hnc42:=NB360_370.out
        obtain ⟨_,_,_,_,_,_,_,_,_,_⟩:=cells5 BK370.out
        obtain ⟨_,_,_,_,_,_⟩:=cells3 BK360.out
        go_upto_region 14 with (first|((with_reducible refine gate_callee (f:=33) rfl ?_);refine goesL_ (some 48) rfl rfl Try.func33 (by kernel_rfl) rfl #[.agg #[.int .i64 a0_0,.int .i64 a0_1,.slice A0_2 l0_2.length c0_2],.agg #[.slice A1_0 l1_0.length c1_0,.slice A1_1 l1_1.length c1_1],.agg #[.int .i64 x371000_2,.int .i64 x371001_2,.int .i64 x371002_2,.int .i64 192,.int .i64 x371004_2],.int .i64 a3] rfl ga_ ?_;(with_reducible refine (lane_Sail.calls k2 a0_0 a0_1 _ _ l0_2 _ _ l1_0 _ _ l1_1 x371000_2 x371001_2 x371002_2 192 x371004_2 a3 t372 t373 t374 t375 t376 t377 t378 _ ?_ ?_ ?_ ?_ ?_ ?_ A35.out).mono ?_);exact Kd.C_below HR0_2.out (hb_);exact HC0_2.out;exact Kd.C_below HR1_0.out (hb_);exact HC1_0.out;exact Kd.C_below HR1_1.out (hb_);exact HC1_1.out;rintro e w45 ⟨rfl,hb⟩;refine ⟨_,rfl,?_⟩;replace BK360:=Aside0.mk (blk_below (g:=gb360) (o:=.cells #[.int .i64 a0_0,.int .i64 a0_1,.slice A0_2 l0_2.length c0_2] 53 (0,0)) (by (with_reducible repeat (first|refine blk_drewN ?_ _|refine blk_drew ?_|refine blk_alloc ?_ _));refine blk_far ?_ NB360_370.out _;(with_reducible repeat (first|refine blk_drewN ?_ _|refine blk_drew ?_|refine blk_alloc ?_ _));exact BK360.out) hb);replace BK361:=Aside0.mk (blk_below (g:=gb361) (o:=.cells #[.slice A1_0 l1_0.length c1_0,.slice A1_1 l1_1.length c1_1] 55 (0,0)) (by (with_reducible repeat (first|refine blk_drewN ?_ _|refine blk_drew ?_|refine blk_alloc ?_ _));refine blk_far ?_ NB361_370.out _;(with_reducible repeat (first|refine blk_drewN ?_ _|refine blk_drew ?_|refine blk_alloc ?_ _));exact BK361.out) hb);replace BK370:=Aside0.mk (blk_below (g:=gb370) (o:=.cells #[.int .i64 x371000_2,.int .i64 x371001_2,.int .i64 x371002_2,.int .i64 192,.int .i64 x371004_2] 57 (0,0)) (by (with_reducible repeat (first|refine blk_drewN ?_ _|refine blk_drew ?_|refine blk_alloc ?_ _));refine blk_put (cs:=#[.int .i64 x371000_2,.int .i64 x371001_2,.int .i64 x371002_2,.int .i64 x371003_2,.int .i64 x371004_2]) ?_ 3 _ rfl;(with_reducible repeat (first|refine blk_drewN ?_ _|refine blk_drew ?_|refine blk_alloc ?_ _));exact BK370.out) hb);replace HB:=hbs hb)|((with_reducible refine gate_dst (N:=12) rfl ?_);refine box_ev (N:=12) (cs:=#[.int .i64 0,.int .i64 0,.int .i64 0,.int .i64 0,.int .i64 0]) (t:=57) ?_;intro gb379 hg w46 hbox hb;have BK379:=Aside0.mk (hbox);have GW379 : Aside0 (w.heap.size ≤ gb379):=gsz hg;have GE379:=GW379;have NB360_379:=nbl BK360 hg;have NB379_360:=nbr BK360 hg;have NB361_379:=nbl BK361 hg;have NB379_361:=nbr BK361 hg;have NB370_379:=nbl BK370 hg;have NB379_370:=nbr BK370 hg;replace BK360:=bkb BK360 hb;replace BK361:=bkb BK361 hb;replace BK370:=bkb BK370 hb;replace HB:=hbs hb;clear hb hbox hg;have hnb47:=NB379_360.out;have hnc47:=NB360_379.out;have hnb48:=NB379_361.out;have hnc48:=NB361_379.out;have hnb49:=NB379_370.out;have hnc49:=NB370_379.out;obtain ⟨_,_,_,_,_,_,_,_,_,_⟩:=cells5 BK379.out))
        (try simp only [Act.put,List.setIfInBounds_toArray,List.set_cons_zero,List.set_cons_succ])
        go_cut [8] (fun v8 wc => ∃ (kq : Nat) (x8_37 : Bool),v8 = .bool x8_37 ∧ Aside0 (hinterlandlaw17_LaneArrives.j2 kq x8_37 = some r) ∧ Aside0 (kq ≤ k2) ∧ Aside0 (wc.heap[gb360]? = some (.cells #[.int .i64 a0_0,.int .i64 a0_1,(.slice A0_2 l0_2.length c0_2)] 53 (0,0))) ∧ Aside0 (wc.heap[gb361]? = some (.cells #[(.slice A1_0 l1_0.length c1_0),(.slice A1_1 l1_1.length c1_1)] 55 (0,0))) ∧ Aside0 (wc.heap[gb370]? = some (.cells #[.int .i64 x371000_2,.int .i64 x371001_2,.int .i64 x371002_2,.int .i64 192,.int .i64 x371004_2] 57 (0,0))) ∧ Aside0 (wc.heap[gb379]? = some (.cells #[.int .i64 t372,.int .i64 t373,.int .i64 t374,.int .i64 t375,.int .i64 t376] 57 (0,0))) ∧ Aside0 (Below w.heap.size w wc))
        case first =>
         have H:=HC38.out
         clear HC38
         by_cases c51 : t372 = a3
         ·rw [if_pos c51] at H
          have c51b0:=bqt c51
          have c51b1:=bnf c51
          clear c51
          (first|rw [c51b0]|(simp only [i64_w,i32_w];rw [c51b0])|skip)
          replace H:=Option.bind_eq_some_iff.mp H
          obtain ⟨t380,A520,H⟩:=H
          replace H : (hinterlandlaw17_LaneArrives.j2 k2 t380) = some r:=H
          have A52:=Aside0.mk A520
          clear A520
          have H':=Aside0.mk H
          clear H
          have hnb53:=NB379_360.out
          have hnc53:=NB360_379.out
          have hnb54:=NB379_361.out
          have hnc54:=NB361_379.out
          have hnb55:=NB379_370.out
          have hnc55:=NB370_379.out
          obtain ⟨_,_,_,_,_,_,_,_,_,_⟩:=cells5 BK379.out
          go_wp2_with (first|(go_at_call 13;(with_reducible refine (hinterlandlaw17_known.calls k2  t380 _ A52.out).mono ?_);rintro e w57 ⟨rfl,hb⟩;replace BK360:=Aside0.mk (blk_below (g:=gb360) (o:=.cells #[.int .i64 a0_0,.int .i64 a0_1,.slice A0_2 l0_2.length c0_2] 53 (0,0)) (by (with_reducible repeat (first|refine blk_drewN ?_ _|refine blk_drew ?_|refine blk_alloc ?_ _));refine blk_far ?_ NB360_379.out _;(with_reducible repeat (first|refine blk_drewN ?_ _|refine blk_drew ?_|refine blk_alloc ?_ _));refine blk_far ?_ NB360_379.out _;(with_reducible repeat (first|refine blk_drewN ?_ _|refine blk_drew ?_|refine blk_alloc ?_ _));refine blk_far ?_ NB360_379.out _;(with_reducible repeat (first|refine blk_drewN ?_ _|refine blk_drew ?_|refine blk_alloc ?_ _));refine blk_far ?_ NB360_379.out _;(with_reducible repeat (first|refine blk_drewN ?_ _|refine blk_drew ?_|refine blk_alloc ?_ _));refine blk_far ?_ NB360_379.out _;(with_reducible repeat (first|refine blk_drewN ?_ _|refine blk_drew ?_|refine blk_alloc ?_ _));exact BK360.out) hb);replace BK361:=Aside0.mk (blk_below (g:=gb361) (o:=.cells #[.slice A1_0 l1_0.length c1_0,.slice A1_1 l1_1.length c1_1] 55 (0,0)) (by (with_reducible repeat (first|refine blk_drewN ?_ _|refine blk_drew ?_|refine blk_alloc ?_ _));refine blk_far ?_ NB361_379.out _;(with_reducible repeat (first|refine blk_drewN ?_ _|refine blk_drew ?_|refine blk_alloc ?_ _));refine blk_far ?_ NB361_379.out _;(with_reducible repeat (first|refine blk_drewN ?_ _|refine blk_drew ?_|refine blk_alloc ?_ _));refine blk_far ?_ NB361_379.out _;(with_reducible repeat (first|refine blk_drewN ?_ _|refine blk_drew ?_|refine blk_alloc ?_ _));refine blk_far ?_ NB361_379.out _;(with_reducible repeat (first|refine blk_drewN ?_ _|refine blk_drew ?_|refine blk_alloc ?_ _));refine blk_far ?_ NB361_379.out _;(with_reducible repeat (first|refine blk_drewN ?_ _|refine blk_drew ?_|refine blk_alloc ?_ _));exact BK361.out) hb);replace BK370:=Aside0.mk (blk_below (g:=gb370) (o:=.cells #[.int .i64 x371000_2,.int .i64 x371001_2,.int .i64 x371002_2,.int .i64 192,.int .i64 x371004_2] 57 (0,0)) (by (with_reducible repeat (first|refine blk_drewN ?_ _|refine blk_drew ?_|refine blk_alloc ?_ _));refine blk_far ?_ NB370_379.out _;(with_reducible repeat (first|refine blk_drewN ?_ _|refine blk_drew ?_|refine blk_alloc ?_ _));refine blk_far ?_ NB370_379.out _;(with_reducible repeat (first|refine blk_drewN ?_ _|refine blk_drew ?_|refine blk_alloc ?_ _));refine blk_far ?_ NB370_379.out _;(with_reducible repeat (first|refine blk_drewN ?_ _|refine blk_drew ?_|refine blk_alloc ?_ _));refine blk_far ?_ NB370_379.out _;(with_reducible repeat (first|refine blk_drewN ?_ _|refine blk_drew ?_|refine blk_alloc ?_ _));refine blk_far ?_ NB370_379.out _;(with_reducible repeat (first|refine blk_drewN ?_ _|refine blk_drew ?_|refine blk_alloc ?_ _));exact BK370.out) hb);replace BK379:=Aside0.mk (blk_below (g:=gb379) (o:=.cells #[.int .i64 t372,.int .i64 t373,.int .i64 t374,.int .i64 t375,.int .i64 t376] 57 (0,0)) (by (with_reducible repeat (first|refine blk_drewN ?_ _|refine blk_drew ?_|refine blk_alloc ?_ _));exact blk_puts5 (blk_up BK379.out)) hb);replace HB:=hbs hb))
          go_meet
          case rel => exact ⟨_,(t380),(by first|rfl|(simp;done)|(simp [*];done)),H',⟨by have:=HJ15.out;have:=HK2.out;first|omega|exact Nat.le_refl _⟩,⟨blk_up BK360.out⟩,⟨blk_up BK361.out⟩,⟨blk_up BK370.out⟩,⟨blk_up BK379.out⟩,⟨hb_⟩⟩
         ·rw [if_neg c51] at H
          have c51b0:=bqf c51
          have c51b1:=bnt c51
          (first|rw [c51b0]|(simp only [i64_w,i32_w];rw [c51b0])|skip)
          have H':=Aside0.mk H
          clear H
          have hnb58:=NB379_360.out
          have hnc58:=NB360_379.out
          have hnb59:=NB379_361.out
          have hnc59:=NB361_379.out
          have hnb60:=NB379_370.out
          have hnc60:=NB370_379.out
          obtain ⟨_,_,_,_,_,_,_,_,_,_⟩:=cells5 BK379.out
          go_wp2
          go_meet
          case rel => exact ⟨_,(false),(by first|rfl|(simp;done)|(simp [*];done)),H',⟨by have:=HJ15.out;have:=HK2.out;first|omega|exact Nat.le_refl _⟩,⟨by (with_reducible repeat (first|refine blk_drewN ?_ _|refine blk_drew ?_|refine blk_alloc ?_ _));refine blk_far ?_ NB360_379.out _;(with_reducible repeat (first|refine blk_drewN ?_ _|refine blk_drew ?_|refine blk_alloc ?_ _));refine blk_far ?_ NB360_379.out _;(with_reducible repeat (first|refine blk_drewN ?_ _|refine blk_drew ?_|refine blk_alloc ?_ _));refine blk_far ?_ NB360_379.out _;(with_reducible repeat (first|refine blk_drewN ?_ _|refine blk_drew ?_|refine blk_alloc ?_ _));refine blk_far ?_ NB360_379.out _;(with_reducible repeat (first|refine blk_drewN ?_ _|refine blk_drew ?_|refine blk_alloc ?_ _));refine blk_far ?_ NB360_379.out _;(with_reducible repeat (first|refine blk_drewN ?_ _|refine blk_drew ?_|refine blk_alloc ?_ _));exact BK360.out⟩,⟨by (with_reducible repeat (first|refine blk_drewN ?_ _|refine blk_drew ?_|refine blk_alloc ?_ _));refine blk_far ?_ NB361_379.out _;(with_reducible repeat (first|refine blk_drewN ?_ _|refine blk_drew ?_|refine blk_alloc ?_ _));refine blk_far ?_ NB361_379.out _;(with_reducible repeat (first|refine blk_drewN ?_ _|refine blk_drew ?_|refine blk_alloc ?_ _));refine blk_far ?_ NB361_379.out _;(with_reducible repeat (first|refine blk_drewN ?_ _|refine blk_drew ?_|refine blk_alloc ?_ _));refine blk_far ?_ NB361_379.out _;(with_reducible repeat (first|refine blk_drewN ?_ _|refine blk_drew ?_|refine blk_alloc ?_ _));refine blk_far ?_ NB361_379.out _;(with_reducible repeat (first|refine blk_drewN ?_ _|refine blk_drew ?_|refine blk_alloc ?_ _));exact BK361.out⟩,⟨by (with_reducible repeat (first|refine blk_drewN ?_ _|refine blk_drew ?_|refine blk_alloc ?_ _));refine blk_far ?_ NB370_379.out _;(with_reducible repeat (first|refine blk_drewN ?_ _|refine blk_drew ?_|refine blk_alloc ?_ _));refine blk_far ?_ NB370_379.out _;(with_reducible repeat (first|refine blk_drewN ?_ _|refine blk_drew ?_|refine blk_alloc ?_ _));refine blk_far ?_ NB370_379.out _;(with_reducible repeat (first|refine blk_drewN ?_ _|refine blk_drew ?_|refine blk_alloc ?_ _));refine blk_far ?_ NB370_379.out _;(with_reducible repeat (first|refine blk_drewN ?_ _|refine blk_drew ?_|refine blk_alloc ?_ _));refine blk_far ?_ NB370_379.out _;(with_reducible repeat (first|refine blk_drewN ?_ _|refine blk_drew ?_|refine blk_alloc ?_ _));exact BK370.out⟩,⟨by (with_reducible repeat (first|refine blk_drewN ?_ _|refine blk_drew ?_|refine blk_alloc ?_ _));exact blk_puts5 (blk_up BK379.out)⟩,⟨hb_⟩⟩
        case rest =>
         clear HC38
         obtain ⟨kq,x8_37,rfl,HA,HJ37,BK360,BK361,BK370,BK379,HB⟩:=hcut
         cases kq with
         | zero => exact absurd HA.out (by simp [hinterlandlaw17_LaneArrives.j2])
         | succ kj37 =>
          have H:=HA.out
          clear HA
          simp only [hinterlandlaw17_LaneArrives.j2] at H
          obtain rfl:=Option.some.inj H
          go_wp2
          go_ret
          exact ⟨er_,hb_⟩
       rw [if_neg c37] at H
       have c37b0:=bqf c37
       have c37b1:=bnt c37
       by_cases c62 : t377 = 2
       rotate_left
       ·rw [if_neg c62] at H
        have c62b0:=bqf c62
        have c62b1:=bnt c62
        have H':=Aside0.mk H
        clear H
        have hnb79:=NB361_360.out
        have hnc79:=NB360_361.out
        have hnb80:=NB361_370.out
        have hnc80:=NB370_361.out
        obtain ⟨_,_,_,_⟩:=cells2 BK361.out
        have hnb82:=NB370_360.out
        have hnc82:=NB360_370.out
        obtain ⟨_,_,_,_,_,_,_,_,_,_⟩:=cells5 BK370.out
        obtain ⟨_,_,_,_,_,_⟩:=cells3 BK360.out
        go_wp2_with (first|((with_reducible refine gate_callee (f:=33) rfl ?_);refine goesL_ (some 48) rfl rfl Try.func33 (by kernel_rfl) rfl #[.agg #[.int .i64 a0_0,.int .i64 a0_1,.slice A0_2 l0_2.length c0_2],.agg #[.slice A1_0 l1_0.length c1_0,.slice A1_1 l1_1.length c1_1],.agg #[.int .i64 x371000_2,.int .i64 x371001_2,.int .i64 x371002_2,.int .i64 192,.int .i64 x371004_2],.int .i64 a3] rfl ga_ ?_;(with_reducible refine (lane_Sail.calls k2 a0_0 a0_1 _ _ l0_2 _ _ l1_0 _ _ l1_1 x371000_2 x371001_2 x371002_2 192 x371004_2 a3 t372 t373 t374 t375 t376 t377 t378 _ ?_ ?_ ?_ ?_ ?_ ?_ A35.out).mono ?_);exact Kd.C_below HR0_2.out (hb_);exact HC0_2.out;exact Kd.C_below HR1_0.out (hb_);exact HC1_0.out;exact Kd.C_below HR1_1.out (hb_);exact HC1_1.out;rintro e w85 ⟨rfl,hb⟩;refine ⟨_,rfl,?_⟩;replace BK360:=Aside0.mk (blk_below (g:=gb360) (o:=.cells #[.int .i64 a0_0,.int .i64 a0_1,.slice A0_2 l0_2.length c0_2] 53 (0,0)) (by (with_reducible repeat (first|refine blk_drewN ?_ _|refine blk_drew ?_|refine blk_alloc ?_ _));refine blk_far ?_ NB360_370.out _;(with_reducible repeat (first|refine blk_drewN ?_ _|refine blk_drew ?_|refine blk_alloc ?_ _));exact BK360.out) hb);replace BK361:=Aside0.mk (blk_below (g:=gb361) (o:=.cells #[.slice A1_0 l1_0.length c1_0,.slice A1_1 l1_1.length c1_1] 55 (0,0)) (by (with_reducible repeat (first|refine blk_drewN ?_ _|refine blk_drew ?_|refine blk_alloc ?_ _));refine blk_far ?_ NB361_370.out _;(with_reducible repeat (first|refine blk_drewN ?_ _|refine blk_drew ?_|refine blk_alloc ?_ _));exact BK361.out) hb);replace BK370:=Aside0.mk (blk_below (g:=gb370) (o:=.cells #[.int .i64 x371000_2,.int .i64 x371001_2,.int .i64 x371002_2,.int .i64 192,.int .i64 x371004_2] 57 (0,0)) (by (with_reducible repeat (first|refine blk_drewN ?_ _|refine blk_drew ?_|refine blk_alloc ?_ _));refine blk_put (cs:=#[.int .i64 x371000_2,.int .i64 x371001_2,.int .i64 x371002_2,.int .i64 x371003_2,.int .i64 x371004_2]) ?_ 3 _ rfl;(with_reducible repeat (first|refine blk_drewN ?_ _|refine blk_drew ?_|refine blk_alloc ?_ _));exact BK370.out) hb);replace HB:=hbs hb)|((with_reducible refine gate_dst (N:=12) rfl ?_);refine box_ev (N:=12) (cs:=#[.int .i64 0,.int .i64 0,.int .i64 0,.int .i64 0,.int .i64 0]) (t:=57) ?_;intro gb379 hg w86 hbox hb;have BK379:=Aside0.mk (hbox);have GW379 : Aside0 (w.heap.size ≤ gb379):=gsz hg;have GE379:=GW379;have NB360_379:=nbl BK360 hg;have NB379_360:=nbr BK360 hg;have NB361_379:=nbl BK361 hg;have NB379_361:=nbr BK361 hg;have NB370_379:=nbl BK370 hg;have NB379_370:=nbr BK370 hg;replace BK360:=bkb BK360 hb;replace BK361:=bkb BK361 hb;replace BK370:=bkb BK370 hb;replace HB:=hbs hb;clear hb hbox hg;have hnb87:=NB379_360.out;have hnc87:=NB360_379.out;have hnb88:=NB379_361.out;have hnc88:=NB361_379.out;have hnb89:=NB379_370.out;have hnc89:=NB370_379.out;obtain ⟨_,_,_,_,_,_,_,_,_,_⟩:=cells5 BK379.out;obtain ⟨_,_,_,_,_,_,_,_,_,_⟩:=cells5 BK370.out))
        go_roundg k2
        case measure => have:=HJ15.out;have:=HK2.out;omega
        case rel => exact ⟨(wrap64 (x11_2 + 1)),(t372),(t373),(t374),(t375),(t376),(by first|rfl|(simp;done)|(simp [*];done)),H',⟨by have:=HJ15.out;have:=HK2.out;omega⟩,⟨by (with_reducible repeat (first|refine blk_drewN ?_ _|refine blk_drew ?_|refine blk_alloc ?_ _));refine blk_far ?_ NB360_370.out _;(with_reducible repeat (first|refine blk_drewN ?_ _|refine blk_drew ?_|refine blk_alloc ?_ _));refine blk_far ?_ NB360_370.out _;(with_reducible repeat (first|refine blk_drewN ?_ _|refine blk_drew ?_|refine blk_alloc ?_ _));refine blk_far ?_ NB360_370.out _;(with_reducible repeat (first|refine blk_drewN ?_ _|refine blk_drew ?_|refine blk_alloc ?_ _));refine blk_far ?_ NB360_370.out _;(with_reducible repeat (first|refine blk_drewN ?_ _|refine blk_drew ?_|refine blk_alloc ?_ _));refine blk_far ?_ NB360_370.out _;(with_reducible repeat (first|refine blk_drewN ?_ _|refine blk_drew ?_|refine blk_alloc ?_ _));refine blk_far ?_ NB360_379.out _;(with_reducible repeat (first|refine blk_drewN ?_ _|refine blk_drew ?_|refine blk_alloc ?_ _));refine blk_far ?_ NB360_379.out _;(with_reducible repeat (first|refine blk_drewN ?_ _|refine blk_drew ?_|refine blk_alloc ?_ _));refine blk_far ?_ NB360_379.out _;(with_reducible repeat (first|refine blk_drewN ?_ _|refine blk_drew ?_|refine blk_alloc ?_ _));refine blk_far ?_ NB360_379.out _;(with_reducible repeat (first|refine blk_drewN ?_ _|refine blk_drew ?_|refine blk_alloc ?_ _));refine blk_far ?_ NB360_379.out _;(with_reducible repeat (first|refine blk_drewN ?_ _|refine blk_drew ?_|refine blk_alloc ?_ _));exact BK360.out⟩,⟨by (with_reducible repeat (first|refine blk_drewN ?_ _|refine blk_drew ?_|refine blk_alloc ?_ _));refine blk_far ?_ NB361_370.out _;(with_reducible repeat (first|refine blk_drewN ?_ _|refine blk_drew ?_|refine blk_alloc ?_ _));refine blk_far ?_ NB361_370.out _;(with_reducible repeat (first|refine blk_drewN ?_ _|refine blk_drew ?_|refine blk_alloc ?_ _));refine blk_far ?_ NB361_370.out _;(with_reducible repeat (first|refine blk_drewN ?_ _|refine blk_drew ?_|refine blk_alloc ?_ _));refine blk_far ?_ NB361_370.out _;(with_reducible repeat (first|refine blk_drewN ?_ _|refine blk_drew ?_|refine blk_alloc ?_ _));refine blk_far ?_ NB361_370.out _;(with_reducible repeat (first|refine blk_drewN ?_ _|refine blk_drew ?_|refine blk_alloc ?_ _));refine blk_far ?_ NB361_379.out _;(with_reducible repeat (first|refine blk_drewN ?_ _|refine blk_drew ?_|refine blk_alloc ?_ _));refine blk_far ?_ NB361_379.out _;(with_reducible repeat (first|refine blk_drewN ?_ _|refine blk_drew ?_|refine blk_alloc ?_ _));refine blk_far ?_ NB361_379.out _;(with_reducible repeat (first|refine blk_drewN ?_ _|refine blk_drew ?_|refine blk_alloc ?_ _));refine blk_far ?_ NB361_379.out _;(with_reducible repeat (first|refine blk_drewN ?_ _|refine blk_drew ?_|refine blk_alloc ?_ _));refine blk_far ?_ NB361_379.out _;(with_reducible repeat (first|refine blk_drewN ?_ _|refine blk_drew ?_|refine blk_alloc ?_ _));exact BK361.out⟩,⟨by (with_reducible repeat (first|refine blk_drewN ?_ _|refine blk_drew ?_|refine blk_alloc ?_ _));refine blk_put (cs:=#[.int .i64 t372,.int .i64 t373,.int .i64 t374,.int .i64 t375,.int .i64 x371004_2]) ?_ 4 _ rfl;(with_reducible repeat (first|refine blk_drewN ?_ _|refine blk_drew ?_|refine blk_alloc ?_ _));refine blk_put (cs:=#[.int .i64 t372,.int .i64 t373,.int .i64 t374,.int .i64 192,.int .i64 x371004_2]) ?_ 3 _ rfl;(with_reducible repeat (first|refine blk_drewN ?_ _|refine blk_drew ?_|refine blk_alloc ?_ _));refine blk_put (cs:=#[.int .i64 t372,.int .i64 t373,.int .i64 x371002_2,.int .i64 192,.int .i64 x371004_2]) ?_ 2 _ rfl;(with_reducible repeat (first|refine blk_drewN ?_ _|refine blk_drew ?_|refine blk_alloc ?_ _));refine blk_put (cs:=#[.int .i64 t372,.int .i64 x371001_2,.int .i64 x371002_2,.int .i64 192,.int .i64 x371004_2]) ?_ 1 _ rfl;(with_reducible repeat (first|refine blk_drewN ?_ _|refine blk_drew ?_|refine blk_alloc ?_ _));refine blk_put (cs:=#[.int .i64 x371000_2,.int .i64 x371001_2,.int .i64 x371002_2,.int .i64 192,.int .i64 x371004_2]) ?_ 0 _ rfl;(with_reducible repeat (first|refine blk_drewN ?_ _|refine blk_drew ?_|refine blk_alloc ?_ _));refine blk_far ?_ NB370_379.out _;(with_reducible repeat (first|refine blk_drewN ?_ _|refine blk_drew ?_|refine blk_alloc ?_ _));refine blk_far ?_ NB370_379.out _;(with_reducible repeat (first|refine blk_drewN ?_ _|refine blk_drew ?_|refine blk_alloc ?_ _));refine blk_far ?_ NB370_379.out _;(with_reducible repeat (first|refine blk_drewN ?_ _|refine blk_drew ?_|refine blk_alloc ?_ _));refine blk_far ?_ NB370_379.out _;(with_reducible repeat (first|refine blk_drewN ?_ _|refine blk_drew ?_|refine blk_alloc ?_ _));refine blk_far ?_ NB370_379.out _;(with_reducible repeat (first|refine blk_drewN ?_ _|refine blk_drew ?_|refine blk_alloc ?_ _));exact BK370.out⟩,⟨hb_⟩⟩
       rw [if_pos c62] at H
       have c62b0:=bqt c62
       have c62b1:=bnf c62
       clear c62
       have HC63:=Aside0.mk H
       clear H
       have hnb64:=NB361_360.out
       have hnc64:=NB360_361.out
       have hnb65:=NB361_370.out
       have hnc65:=NB370_361.out
       obtain ⟨_,_,_,_⟩:=cells2 BK361.out
       have hnb67:=NB370_360.out
       have hnc67:=NB360_370.out
       obtain ⟨_,_,_,_,_,_,_,_,_,_⟩:=cells5 BK370.out
       obtain ⟨_,_,_,_,_,_⟩:=cells3 BK360.out
       go_upto_region 16 with (first|((with_reducible refine gate_callee (f:=33) rfl ?_);refine goesL_ (some 48) rfl rfl Try.func33 (by kernel_rfl) rfl #[.agg #[.int .i64 a0_0,.int .i64 a0_1,.slice A0_2 l0_2.length c0_2],.agg #[.slice A1_0 l1_0.length c1_0,.slice A1_1 l1_1.length c1_1],.agg #[.int .i64 x371000_2,.int .i64 x371001_2,.int .i64 x371002_2,.int .i64 192,.int .i64 x371004_2],.int .i64 a3] rfl ga_ ?_;(with_reducible refine (lane_Sail.calls k2 a0_0 a0_1 _ _ l0_2 _ _ l1_0 _ _ l1_1 x371000_2 x371001_2 x371002_2 192 x371004_2 a3 t372 t373 t374 t375 t376 t377 t378 _ ?_ ?_ ?_ ?_ ?_ ?_ A35.out).mono ?_);exact Kd.C_below HR0_2.out (hb_);exact HC0_2.out;exact Kd.C_below HR1_0.out (hb_);exact HC1_0.out;exact Kd.C_below HR1_1.out (hb_);exact HC1_1.out;rintro e w70 ⟨rfl,hb⟩;refine ⟨_,rfl,?_⟩;replace BK360:=Aside0.mk (blk_below (g:=gb360) (o:=.cells #[.int .i64 a0_0,.int .i64 a0_1,.slice A0_2 l0_2.length c0_2] 53 (0,0)) (by (with_reducible repeat (first|refine blk_drewN ?_ _|refine blk_drew ?_|refine blk_alloc ?_ _));refine blk_far ?_ NB360_370.out _;(with_reducible repeat (first|refine blk_drewN ?_ _|refine blk_drew ?_|refine blk_alloc ?_ _));exact BK360.out) hb);replace BK361:=Aside0.mk (blk_below (g:=gb361) (o:=.cells #[.slice A1_0 l1_0.length c1_0,.slice A1_1 l1_1.length c1_1] 55 (0,0)) (by (with_reducible repeat (first|refine blk_drewN ?_ _|refine blk_drew ?_|refine blk_alloc ?_ _));refine blk_far ?_ NB361_370.out _;(with_reducible repeat (first|refine blk_drewN ?_ _|refine blk_drew ?_|refine blk_alloc ?_ _));exact BK361.out) hb);replace BK370:=Aside0.mk (blk_below (g:=gb370) (o:=.cells #[.int .i64 x371000_2,.int .i64 x371001_2,.int .i64 x371002_2,.int .i64 192,.int .i64 x371004_2] 57 (0,0)) (by (with_reducible repeat (first|refine blk_drewN ?_ _|refine blk_drew ?_|refine blk_alloc ?_ _));refine blk_put (cs:=#[.int .i64 x371000_2,.int .i64 x371001_2,.int .i64 x371002_2,.int .i64 x371003_2,.int .i64 x371004_2]) ?_ 3 _ rfl;(with_reducible repeat (first|refine blk_drewN ?_ _|refine blk_drew ?_|refine blk_alloc ?_ _));exact BK370.out) hb);replace HB:=hbs hb)|((with_reducible refine gate_dst (N:=12) rfl ?_);refine box_ev (N:=12) (cs:=#[.int .i64 0,.int .i64 0,.int .i64 0,.int .i64 0,.int .i64 0]) (t:=57) ?_;intro gb379 hg w71 hbox hb;have BK379:=Aside0.mk (hbox);have GW379 : Aside0 (w.heap.size ≤ gb379):=gsz hg;have GE379:=GW379;have NB360_379:=nbl BK360 hg;have NB379_360:=nbr BK360 hg;have NB361_379:=nbl BK361 hg;have NB379_361:=nbr BK361 hg;have NB370_379:=nbl BK370 hg;have NB379_370:=nbr BK370 hg;replace BK360:=bkb BK360 hb;replace BK361:=bkb BK361 hb;replace BK370:=bkb BK370 hb;replace HB:=hbs hb;clear hb hbox hg;have hnb72:=NB379_360.out;have hnc72:=NB360_379.out;have hnb73:=NB379_361.out;have hnc73:=NB361_379.out;have hnb74:=NB379_370.out;have hnc74:=NB370_379.out;obtain ⟨_,_,_,_,_,_,_,_,_,_⟩:=cells5 BK379.out))
       (try simp only [Act.put,List.setIfInBounds_toArray,List.set_cons_zero,List.set_cons_succ])
       go_cut [8] (fun v8 wc => ∃ (kq : Nat) (x8_62 : Bool),v8 = .bool x8_62 ∧ Aside0 (hinterlandlaw17_LaneArrives.j3 kq x8_62 = some r) ∧ Aside0 (kq ≤ k2) ∧ Aside0 (wc.heap[gb360]? = some (.cells #[.int .i64 a0_0,.int .i64 a0_1,(.slice A0_2 l0_2.length c0_2)] 53 (0,0))) ∧ Aside0 (wc.heap[gb361]? = some (.cells #[(.slice A1_0 l1_0.length c1_0),(.slice A1_1 l1_1.length c1_1)] 55 (0,0))) ∧ Aside0 (wc.heap[gb370]? = some (.cells #[.int .i64 x371000_2,.int .i64 x371001_2,.int .i64 x371002_2,.int .i64 192,.int .i64 x371004_2] 57 (0,0))) ∧ Aside0 (wc.heap[gb379]? = some (.cells #[.int .i64 t372,.int .i64 t373,.int .i64 t374,.int .i64 t375,.int .i64 t376] 57 (0,0))) ∧ Aside0 (Below w.heap.size w wc))
       case first =>
        have H:=HC63.out
        clear HC63
        by_cases c76 : x11_2 = 0
        ·rw [if_pos c76] at H
         have c76b0:=bqt c76
         have c76b1:=bnf c76
         clear c76
         (first|rw [c76b0]|(simp only [i64_w,i32_w];rw [c76b0])|skip)
         replace H:=Option.bind_eq_some_iff.mp H
         obtain ⟨t381,A770,H⟩:=H
         replace H : (hinterlandlaw17_LaneArrives.j3 k2 t381) = some r:=H
         have A77:=Aside0.mk A770
         clear A770
         have H':=Aside0.mk H
         clear H
         go_wp2_with (first|(go_at_call 13;(with_reducible refine (hinterlandlaw17_known.calls k2  t381 _ A77.out).mono ?_);rintro e w78 ⟨rfl,hb⟩;replace BK360:=Aside0.mk (blk_below (g:=gb360) (o:=.cells #[.int .i64 a0_0,.int .i64 a0_1,.slice A0_2 l0_2.length c0_2] 53 (0,0)) (by (with_reducible repeat (first|refine blk_drewN ?_ _|refine blk_drew ?_|refine blk_alloc ?_ _));refine blk_far ?_ NB360_379.out _;(with_reducible repeat (first|refine blk_drewN ?_ _|refine blk_drew ?_|refine blk_alloc ?_ _));refine blk_far ?_ NB360_379.out _;(with_reducible repeat (first|refine blk_drewN ?_ _|refine blk_drew ?_|refine blk_alloc ?_ _));refine blk_far ?_ NB360_379.out _;(with_reducible repeat (first|refine blk_drewN ?_ _|refine blk_drew ?_|refine blk_alloc ?_ _));refine blk_far ?_ NB360_379.out _;(with_reducible repeat (first|refine blk_drewN ?_ _|refine blk_drew ?_|refine blk_alloc ?_ _));refine blk_far ?_ NB360_379.out _;(with_reducible repeat (first|refine blk_drewN ?_ _|refine blk_drew ?_|refine blk_alloc ?_ _));exact BK360.out) hb);replace BK361:=Aside0.mk (blk_below (g:=gb361) (o:=.cells #[.slice A1_0 l1_0.length c1_0,.slice A1_1 l1_1.length c1_1] 55 (0,0)) (by (with_reducible repeat (first|refine blk_drewN ?_ _|refine blk_drew ?_|refine blk_alloc ?_ _));refine blk_far ?_ NB361_379.out _;(with_reducible repeat (first|refine blk_drewN ?_ _|refine blk_drew ?_|refine blk_alloc ?_ _));refine blk_far ?_ NB361_379.out _;(with_reducible repeat (first|refine blk_drewN ?_ _|refine blk_drew ?_|refine blk_alloc ?_ _));refine blk_far ?_ NB361_379.out _;(with_reducible repeat (first|refine blk_drewN ?_ _|refine blk_drew ?_|refine blk_alloc ?_ _));refine blk_far ?_ NB361_379.out _;(with_reducible repeat (first|refine blk_drewN ?_ _|refine blk_drew ?_|refine blk_alloc ?_ _));refine blk_far ?_ NB361_379.out _;(with_reducible repeat (first|refine blk_drewN ?_ _|refine blk_drew ?_|refine blk_alloc ?_ _));exact BK361.out) hb);replace BK370:=Aside0.mk (blk_below (g:=gb370) (o:=.cells #[.int .i64 x371000_2,.int .i64 x371001_2,.int .i64 x371002_2,.int .i64 192,.int .i64 x371004_2] 57 (0,0)) (by (with_reducible repeat (first|refine blk_drewN ?_ _|refine blk_drew ?_|refine blk_alloc ?_ _));refine blk_far ?_ NB370_379.out _;(with_reducible repeat (first|refine blk_drewN ?_ _|refine blk_drew ?_|refine blk_alloc ?_ _));refine blk_far ?_ NB370_379.out _;(with_reducible repeat (first|refine blk_drewN ?_ _|refine blk_drew ?_|refine blk_alloc ?_ _));refine blk_far ?_ NB370_379.out _;(with_reducible repeat (first|refine blk_drewN ?_ _|refine blk_drew ?_|refine blk_alloc ?_ _));refine blk_far ?_ NB370_379.out _;(with_reducible repeat (first|refine blk_drewN ?_ _|refine blk_drew ?_|refine blk_alloc ?_ _));refine blk_far ?_ NB370_379.out _;(with_reducible repeat (first|refine blk_drewN ?_ _|refine blk_drew ?_|refine blk_alloc ?_ _));exact BK370.out) hb);replace BK379:=Aside0.mk (blk_below (g:=gb379) (o:=.cells #[.int .i64 t372,.int .i64 t373,.int .i64 t374,.int .i64 t375,.int .i64 t376] 57 (0,0)) (by (with_reducible repeat (first|refine blk_drewN ?_ _|refine blk_drew ?_|refine blk_alloc ?_ _));exact blk_puts5 (blk_up BK379.out)) hb);replace HB:=hbs hb))
         go_meet
         case rel => exact ⟨_,(t381),(by first|rfl|(simp;done)|(simp [*];done)),H',⟨by have:=HJ15.out;have:=HK2.out;first|omega|exact Nat.le_refl _⟩,⟨blk_up BK360.out⟩,⟨blk_up BK361.out⟩,⟨blk_up BK370.out⟩,⟨blk_up BK379.out⟩,⟨hb_⟩⟩
        ·rw [if_neg c76] at H
         have c76b0:=bqf c76
         have c76b1:=bnt c76
         (first|rw [c76b0]|(simp only [i64_w,i32_w];rw [c76b0])|skip)
         have H':=Aside0.mk H
         clear H
         go_wp2
         go_meet
         case rel => exact ⟨_,(false),(by first|rfl|(simp;done)|(simp [*];done)),H',⟨by have:=HJ15.out;have:=HK2.out;first|omega|exact Nat.le_refl _⟩,⟨by (with_reducible repeat (first|refine blk_drewN ?_ _|refine blk_drew ?_|refine blk_alloc ?_ _));refine blk_far ?_ NB360_379.out _;(with_reducible repeat (first|refine blk_drewN ?_ _|refine blk_drew ?_|refine blk_alloc ?_ _));refine blk_far ?_ NB360_379.out _;(with_reducible repeat (first|refine blk_drewN ?_ _|refine blk_drew ?_|refine blk_alloc ?_ _));refine blk_far ?_ NB360_379.out _;(with_reducible repeat (first|refine blk_drewN ?_ _|refine blk_drew ?_|refine blk_alloc ?_ _));refine blk_far ?_ NB360_379.out _;(with_reducible repeat (first|refine blk_drewN ?_ _|refine blk_drew ?_|refine blk_alloc ?_ _));refine blk_far ?_ NB360_379.out _;(with_reducible repeat (first|refine blk_drewN ?_ _|refine blk_drew ?_|refine blk_alloc ?_ _));exact BK360.out⟩,⟨by (with_reducible repeat (first|refine blk_drewN ?_ _|refine blk_drew ?_|refine blk_alloc ?_ _));refine blk_far ?_ NB361_379.out _;(with_reducible repeat (first|refine blk_drewN ?_ _|refine blk_drew ?_|refine blk_alloc ?_ _));refine blk_far ?_ NB361_379.out _;(with_reducible repeat (first|refine blk_drewN ?_ _|refine blk_drew ?_|refine blk_alloc ?_ _));refine blk_far ?_ NB361_379.out _;(with_reducible repeat (first|refine blk_drewN ?_ _|refine blk_drew ?_|refine blk_alloc ?_ _));refine blk_far ?_ NB361_379.out _;(with_reducible repeat (first|refine blk_drewN ?_ _|refine blk_drew ?_|refine blk_alloc ?_ _));refine blk_far ?_ NB361_379.out _;(with_reducible repeat (first|refine blk_drewN ?_ _|refine blk_drew ?_|refine blk_alloc ?_ _));exact BK361.out⟩,⟨by (with_reducible repeat (first|refine blk_drewN ?_ _|refine blk_drew ?_|refine blk_alloc ?_ _));refine blk_far ?_ NB370_379.out _;(with_reducible repeat (first|refine blk_drewN ?_ _|refine blk_drew ?_|refine blk_alloc ?_ _));refine blk_far ?_ NB370_379.out _;(with_reducible repeat (first|refine blk_drewN ?_ _|refine blk_drew ?_|refine blk_alloc ?_ _));refine blk_far ?_ NB370_379.out _;(with_reducible repeat (first|refine blk_drewN ?_ _|refine blk_drew ?_|refine blk_alloc ?_ _));refine blk_far ?_ NB370_379.out _;(with_reducible repeat (first|refine blk_drewN ?_ _|refine blk_drew ?_|refine blk_alloc ?_ _));refine blk_far ?_ NB370_379.out _;(with_reducible repeat (first|refine blk_drewN ?_ _|refine blk_drew ?_|refine blk_alloc ?_ _));exact BK370.out⟩,⟨by (with_reducible repeat (first|refine blk_drewN ?_ _|refine blk_drew ?_|refine blk_alloc ?_ _));exact blk_puts5 (blk_up BK379.out)⟩,⟨hb_⟩⟩
       case rest =>
        clear HC63
        obtain ⟨kq,x8_62,rfl,HA,HJ62,BK360,BK361,BK370,BK379,HB⟩:=hcut
        cases kq with
        | zero => exact absurd HA.out (by simp [hinterlandlaw17_LaneArrives.j3])
        | succ kj62 =>
         have H:=HA.out
         clear HA
         simp only [hinterlandlaw17_LaneArrives.j3] at H
         obtain rfl:=Option.some.inj H
         go_wp2
         go_ret
         exact ⟨er_,hb_⟩

end Go.Proofs.Ythjmdpekcleihaa.P

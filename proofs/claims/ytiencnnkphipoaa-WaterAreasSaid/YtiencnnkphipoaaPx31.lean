/- Functions of this seat as plain Lean functions, with proofs that the Go code comes to just their answers, or what stands between them and a law's statement; no conditions. (Laid by a program of this session, out of the kit's print.) -/
import Derived.Test.YtiencnnkphipoaaPx0
import Derived.Test.YtiencnnkphipoaaPx8
import Derived.Test.YtiencnnkphipoaaPx10
import Derived.Test.YtiencnnkphipoaaPx27
namespace Go.Proofs.Ytiencnnkphipoaa.P
open Go.RowKit Go.Proofs.YtiencnnkphipoaaW.PrintWords Go.Proofs.YtiencnnkphipoaaW.PrintLast Go.Proofs.YtiencnnkphipoaaW.PrintMore
attribute [local go_sem] max2_int min2_int max_two min_two max_three min_three max_four min_four   -- for this text's walks alone
set_option linter.unusedVariables false
set_option linter.unusedSimpArgs false

/-! ### hinterlandref06_Areas: function 32 -/
mutual
def hinterlandref06_Areas.l0 : Nat → List Int → Int → Int → Int → Int → List Int → List Int → List Int → Option (List Int × Int)
 | 0,_,_,_,_,_,_,_,_ => none
 | k + 1,x7,x25,x26,x643000,x643001,x643002,x644000,x644001 => if x26 < x25 then (if 0 ≤ x26 then (if x26 < (x7.length : Int) then ((some (x7.set (x26 : Int).toNat (-1) : List Int)).bind fun y648 => ((hinterlandref06_Wet.f k x643000 x643001 x643002 x644000 x26).bind fun t649 => (if t649 = true then (hinterlandref06_Areas.l0 k (y648.set (x26 : Int).toNat x26) x25 (wrap64 (x26 + 1)) x643000 x643001 x643002 x644000 x644001) else (hinterlandref06_Areas.l0 k y648 x25 (wrap64 (x26 + 1)) x643000 x643001 x643002 x644000 x644001)))) else (none)) else (none)) else (hinterlandref06_Areas.l1 k x7 (x7.length : Int) 0 x643000 x643001 x643002 x644000 x644001)
def hinterlandref06_Areas.l1 : Nat → List Int → Int → Int → Int → Int → List Int → List Int → List Int → Option (List Int × Int)
 | 0,_,_,_,_,_,_,_,_ => none
 | k + 1,x7,x43,x44,x643000,x643001,x643002,x644000,x644001 => if x44 < x43 then (if 0 ≤ x44 then (if x44 < (x7.length : Int) then (if (rd x7 x44) = x44 then (hinterlandref06_Areas.l2 k x7 x44 (([x44] : List Int)) x43 x44 x643000 x643001 x643002 x644000 x644001) else (hinterlandref06_Areas.l1 k x7 x43 (wrap64 (x44 + 1)) x643000 x643001 x643002 x644000 x644001)) else (none)) else (none)) else (some (x7,0))
def hinterlandref06_Areas.l2 : Nat → List Int → Int → List Int → Int → Int → Int → Int → List Int → List Int → List Int → Option (List Int × Int)
 | 0,_,_,_,_,_,_,_,_,_,_ => none
 | k + 1,x7,x9,x10,x43,x44,x643000,x643001,x643002,x644000,x644001 => if (x10.length : Int) > 0 then (if 0 ≤ (wrap64 ((x10.length : Int) - 1)) then (if (wrap64 ((x10.length : Int) - 1)) < (x10.length : Int) then (if (wrap64 ((x10.length : Int) - 1)) ≤ (x10.length : Int) then (hinterlandref06_Areas.l3 k x7 x9 (x10.take ((wrap64 ((x10.length : Int) - 1)) : Int).toNat) (rd x10 (wrap64 ((x10.length : Int) - 1))) x43 x44 0 x643000 x643001 x643002 x644000 x644001) else (none)) else (none)) else (none)) else (hinterlandref06_Areas.l1 k x7 x43 (wrap64 (x44 + 1)) x643000 x643001 x643002 x644000 x644001)
def hinterlandref06_Areas.l3 : Nat → List Int → Int → List Int → Int → Int → Int → Int → Int → Int → List Int → List Int → List Int → Option (List Int × Int)
 | 0,_,_,_,_,_,_,_,_,_,_,_,_ => none
 | k + 1,x7,x9,x10,x11,x43,x44,x69,x643000,x643001,x643002,x644000,x644001 => if x69 < 4 then ((hinterlandref06_Meets.f k x643000 x643001 x643002 x644000 x644001 x11 x69).bind fun t659 => (if t659 ≥ 0 then (if 0 ≤ t659 then (if t659 < (x7.length : Int) then (if (rd x7 t659) > x9 then (if x10.length < 17592186044416 then (hinterlandref06_Areas.l3 k (x7.set (t659 : Int).toNat x9) x9 (x10 ++ [t659]) x11 x43 x44 (wrap64 (x69 + 1)) x643000 x643001 x643002 x644000 x644001) else (none)) else (hinterlandref06_Areas.l3 k x7 x9 x10 x11 x43 x44 (wrap64 (x69 + 1)) x643000 x643001 x643002 x644000 x644001)) else (none)) else (none)) else (hinterlandref06_Areas.l3 k x7 x9 x10 x11 x43 x44 (wrap64 (x69 + 1)) x643000 x643001 x643002 x644000 x644001))) else (hinterlandref06_Areas.l2 k x7 x9 x10 x43 x44 x643000 x643001 x643002 x644000 x644001)
end
def hinterlandref06_Areas.f (k : Nat) (a0_0 : Int) (a0_1 : Int) (l0_2 : List Int) (l1_0 : List Int) (l1_1 : List Int) : Option (List Int × Int) := (hinterlandref06_Validate.f k a0_0 a0_1 l0_2 l1_0 l1_1).bind fun t644 => (if t644 = 0 then (if 0 ≤ (l1_0.length : Int) then (if ((l1_0.length : Int) : Int).toNat ≤ 35184372088832 then ((some (List.replicate ((l1_0.length : Int) : Int).toNat 0 : List Int)).bind fun y645 => (hinterlandref06_Areas.l0 k y645 (y645.length : Int) 0 a0_0 a0_1 l0_2 l1_0 l1_1)) else (none)) else (none)) else (some (([] : List Int), t644)))
theorem hinterlandref06_Areas.mono_l : ∀ k, (∀ y0 y1 y2 y3 y4 y5 y6 y7, LeO (hinterlandref06_Areas.l0 k y0 y1 y2 y3 y4 y5 y6 y7) (hinterlandref06_Areas.l0 (k + 1) y0 y1 y2 y3 y4 y5 y6 y7)) ∧ (∀ y0 y1 y2 y3 y4 y5 y6 y7, LeO (hinterlandref06_Areas.l1 k y0 y1 y2 y3 y4 y5 y6 y7) (hinterlandref06_Areas.l1 (k + 1) y0 y1 y2 y3 y4 y5 y6 y7)) ∧ (∀ y0 y1 y2 y3 y4 y5 y6 y7 y8 y9, LeO (hinterlandref06_Areas.l2 k y0 y1 y2 y3 y4 y5 y6 y7 y8 y9) (hinterlandref06_Areas.l2 (k + 1) y0 y1 y2 y3 y4 y5 y6 y7 y8 y9)) ∧ (∀ y0 y1 y2 y3 y4 y5 y6 y7 y8 y9 y10 y11, LeO (hinterlandref06_Areas.l3 k y0 y1 y2 y3 y4 y5 y6 y7 y8 y9 y10 y11) (hinterlandref06_Areas.l3 (k + 1) y0 y1 y2 y3 y4 y5 y6 y7 y8 y9 y10 y11))
 | 0 => ⟨fun _ _ _ _ _ _ _ _ r h => by simp [hinterlandref06_Areas.l0] at h,fun _ _ _ _ _ _ _ _ r h => by simp [hinterlandref06_Areas.l1] at h,fun _ _ _ _ _ _ _ _ _ _ r h => by simp [hinterlandref06_Areas.l2] at h,fun _ _ _ _ _ _ _ _ _ _ _ _ r h => by simp [hinterlandref06_Areas.l3] at h⟩
 | k + 1 => by
  obtain ⟨ih0,ih1,ih2,ih3⟩:=hinterlandref06_Areas.mono_l k
  refine ⟨?_,?_,?_,?_⟩
  ·intro y0 y1 y2 y3 y4 y5 y6 y7
   unfold hinterlandref06_Areas.l0
   repeat' first
   | (with_reducible exact ih0 _ _ _ _ _ _ _ _)
   | (with_reducible exact ih1 _ _ _ _ _ _ _ _)
   | (with_reducible exact ih2 _ _ _ _ _ _ _ _ _ _)
   | (with_reducible exact ih3 _ _ _ _ _ _ _ _ _ _ _ _)
   | (with_reducible exact hinterlandref06_Meets.mono _ _ _ _ _ _ _ _)
   | (with_reducible exact hinterlandref06_Validate.mono _ _ _ _ _ _)
   | (with_reducible exact hinterlandref06_Wet.mono _ _ _ _ _ _)
   | (with_reducible exact LeO.refl _)
   | (with_reducible exact LeO.none _)
   | (with_reducible refine LeO.ite ?_ ?_)
   | (with_reducible refine LeO.bind ?_ (fun _ => ?_))
   | exact ih0 _ _ _ _ _ _ _ _
   | exact ih1 _ _ _ _ _ _ _ _
   | exact ih2 _ _ _ _ _ _ _ _ _ _
   | exact ih3 _ _ _ _ _ _ _ _ _ _ _ _
   | exact hinterlandref06_Meets.mono _ _ _ _ _ _ _ _
   | exact hinterlandref06_Validate.mono _ _ _ _ _ _
   | exact hinterlandref06_Wet.mono _ _ _ _ _ _
   | exact LeO.none _
   | refine LeO.ite ?_ ?_
   | refine LeO.bind ?_ (fun _ => ?_)
  ·intro y0 y1 y2 y3 y4 y5 y6 y7
   unfold hinterlandref06_Areas.l1
   repeat' first
   | (with_reducible exact ih0 _ _ _ _ _ _ _ _)
   | (with_reducible exact ih1 _ _ _ _ _ _ _ _)
   | (with_reducible exact ih2 _ _ _ _ _ _ _ _ _ _)
   | (with_reducible exact ih3 _ _ _ _ _ _ _ _ _ _ _ _)
   | (with_reducible exact hinterlandref06_Meets.mono _ _ _ _ _ _ _ _)
   | (with_reducible exact hinterlandref06_Validate.mono _ _ _ _ _ _)
   | (with_reducible exact hinterlandref06_Wet.mono _ _ _ _ _ _)
   | (with_reducible exact LeO.refl _)
   | (with_reducible exact LeO.none _)
   | (with_reducible refine LeO.ite ?_ ?_)
   | (with_reducible refine LeO.bind ?_ (fun _ => ?_))
   | exact ih0 _ _ _ _ _ _ _ _
   | exact ih1 _ _ _ _ _ _ _ _
   | exact ih2 _ _ _ _ _ _ _ _ _ _
   | exact ih3 _ _ _ _ _ _ _ _ _ _ _ _
   | exact hinterlandref06_Meets.mono _ _ _ _ _ _ _ _
   | exact hinterlandref06_Validate.mono _ _ _ _ _ _
   | exact hinterlandref06_Wet.mono _ _ _ _ _ _
   | exact LeO.none _
   | refine LeO.ite ?_ ?_
   | refine LeO.bind ?_ (fun _ => ?_)
  ·intro y0 y1 y2 y3 y4 y5 y6 y7 y8 y9
   unfold hinterlandref06_Areas.l2
   repeat' first
   | (with_reducible exact ih0 _ _ _ _ _ _ _ _)
   | (with_reducible exact ih1 _ _ _ _ _ _ _ _)
   | (with_reducible exact ih2 _ _ _ _ _ _ _ _ _ _)
   | (with_reducible exact ih3 _ _ _ _ _ _ _ _ _ _ _ _)
   | (with_reducible exact hinterlandref06_Meets.mono _ _ _ _ _ _ _ _)
   | (with_reducible exact hinterlandref06_Validate.mono _ _ _ _ _ _)
   | (with_reducible exact hinterlandref06_Wet.mono _ _ _ _ _ _)
   | (with_reducible exact LeO.refl _)
   | (with_reducible exact LeO.none _)
   | (with_reducible refine LeO.ite ?_ ?_)
   | (with_reducible refine LeO.bind ?_ (fun _ => ?_))
   | exact ih0 _ _ _ _ _ _ _ _
   | exact ih1 _ _ _ _ _ _ _ _
   | exact ih2 _ _ _ _ _ _ _ _ _ _
   | exact ih3 _ _ _ _ _ _ _ _ _ _ _ _
   | exact hinterlandref06_Meets.mono _ _ _ _ _ _ _ _
   | exact hinterlandref06_Validate.mono _ _ _ _ _ _
   | exact hinterlandref06_Wet.mono _ _ _ _ _ _
   | exact LeO.none _
   | refine LeO.ite ?_ ?_
   | refine LeO.bind ?_ (fun _ => ?_)
  ·intro y0 y1 y2 y3 y4 y5 y6 y7 y8 y9 y10 y11
   unfold hinterlandref06_Areas.l3
   repeat' first
   | (with_reducible exact ih0 _ _ _ _ _ _ _ _)
   | (with_reducible exact ih1 _ _ _ _ _ _ _ _)
   | (with_reducible exact ih2 _ _ _ _ _ _ _ _ _ _)
   | (with_reducible exact ih3 _ _ _ _ _ _ _ _ _ _ _ _)
   | (with_reducible exact hinterlandref06_Meets.mono _ _ _ _ _ _ _ _)
   | (with_reducible exact hinterlandref06_Validate.mono _ _ _ _ _ _)
   | (with_reducible exact hinterlandref06_Wet.mono _ _ _ _ _ _)
   | (with_reducible exact LeO.refl _)
   | (with_reducible exact LeO.none _)
   | (with_reducible refine LeO.ite ?_ ?_)
   | (with_reducible refine LeO.bind ?_ (fun _ => ?_))
   | exact ih0 _ _ _ _ _ _ _ _
   | exact ih1 _ _ _ _ _ _ _ _
   | exact ih2 _ _ _ _ _ _ _ _ _ _
   | exact ih3 _ _ _ _ _ _ _ _ _ _ _ _
   | exact hinterlandref06_Meets.mono _ _ _ _ _ _ _ _
   | exact hinterlandref06_Validate.mono _ _ _ _ _ _
   | exact hinterlandref06_Wet.mono _ _ _ _ _ _
   | exact LeO.none _
   | refine LeO.ite ?_ ?_
   | refine LeO.bind ?_ (fun _ => ?_)
theorem hinterlandref06_Areas.mono : ∀ a0 a1 a2 a3 a4 k, LeO (hinterlandref06_Areas.f k a0 a1 a2 a3 a4) (hinterlandref06_Areas.f (k + 1) a0 a1 a2 a3 a4) := by
 intro a0 a1 a2 a3 a4 k
 obtain ⟨ih0,ih1,ih2,ih3⟩:=hinterlandref06_Areas.mono_l k
 unfold hinterlandref06_Areas.f
 repeat' first
   | (with_reducible exact ih0 _ _ _ _ _ _ _ _)
   | (with_reducible exact ih1 _ _ _ _ _ _ _ _)
   | (with_reducible exact ih2 _ _ _ _ _ _ _ _ _ _)
   | (with_reducible exact ih3 _ _ _ _ _ _ _ _ _ _ _ _)
   | (with_reducible exact hinterlandref06_Meets.mono _ _ _ _ _ _ _ _)
   | (with_reducible exact hinterlandref06_Validate.mono _ _ _ _ _ _)
   | (with_reducible exact hinterlandref06_Wet.mono _ _ _ _ _ _)
   | (with_reducible exact LeO.refl _)
   | (with_reducible exact LeO.none _)
   | (with_reducible refine LeO.ite ?_ ?_)
   | (with_reducible refine LeO.bind ?_ (fun _ => ?_))
   | exact ih0 _ _ _ _ _ _ _ _
   | exact ih1 _ _ _ _ _ _ _ _
   | exact ih2 _ _ _ _ _ _ _ _ _ _
   | exact ih3 _ _ _ _ _ _ _ _ _ _ _ _
   | exact hinterlandref06_Meets.mono _ _ _ _ _ _ _ _
   | exact hinterlandref06_Validate.mono _ _ _ _ _ _
   | exact hinterlandref06_Wet.mono _ _ _ _ _ _
   | exact LeO.none _
   | refine LeO.ite ?_ ?_
   | refine LeO.bind ?_ (fun _ => ?_)
set_option maxHeartbeats 8000000 in
set_option maxRecDepth 100000 in
theorem hinterlandref06_Areas.calls (k : Nat) (a0_0 : Int) (a0_1 : Int) (A0_2 : Option Addr) (c0_2 : Nat) (l0_2 : List Int) (A1_0 : Option Addr) (c1_0 : Nat) (l1_0 : List Int) (A1_1 : Option Addr) (c1_1 : Nat) (l1_1 : List Int) (r1 : List Int) (r2 : Int) (w : World) (hr0_2 : Kd.C (Kd.int .i64) w A0_2 l0_2.length l0_2) (hc0_2 : l0_2.length ≤ c0_2) (hr1_0 : Kd.C (Kd.int .i64) w A1_0 l1_0.length l1_0) (hc1_0 : l1_0.length ≤ c1_0) (hr1_1 : Kd.C (Kd.int .i64) w A1_1 l1_1.length l1_1) (hc1_1 : l1_1.length ≤ c1_1) (h : hinterlandref06_Areas.f k a0_0 a0_1 l0_2 l1_0 l1_1 = some (r1, r2)) :
  Calls Try.prog 32 #[.agg #[.int .i64 a0_0,.int .i64 a0_1,.slice A0_2 l0_2.length c0_2],.agg #[.slice A1_0 l1_0.length c1_0,.slice A1_1 l1_1.length c1_1]] w fun e w' => ∃ v0_ : Value,e = .returned (.tuple #[v0_,.int .i64 r2]) ∧ Kd.R (Kd.int .i64) 3 w' w.heap.size (fun _ => True) v0_ r1 ∧ Below w.heap.size w w':=by
 have hu24:=Try.underlying24
 have hu26:=Try.underlying26
 have HR0_2:=Aside0.mk hr0_2
 have HC0_2:=Aside0.mk hc0_2
 clear hr0_2 hc0_2
 have HR1_0:=Aside0.mk hr1_0
 have HC1_0:=Aside0.mk hc1_0
 clear hr1_0 hc1_0
 have HR1_1:=Aside0.mk hr1_1
 have HC1_1:=Aside0.mk hc1_1
 clear hr1_1 hc1_1
 have HB:=Aside0.mk (Below.refl w.heap.size w)
 have H : ((hinterlandref06_Validate.f k a0_0 a0_1 l0_2 l1_0 l1_1).bind fun t644 => (if t644 = 0 then (if 0 ≤ (l1_0.length : Int) then (if ((l1_0.length : Int) : Int).toNat ≤ 35184372088832 then ((some (List.replicate ((l1_0.length : Int) : Int).toNat 0 : List Int)).bind fun y645 => (hinterlandref06_Areas.l0 k y645 (y645.length : Int) 0 a0_0 a0_1 l0_2 l1_0 l1_1)) else (none)) else (none)) else (some (([] : List Int),t644)))) = some (r1,r2):=h
 clear h
 replace H:=Option.bind_eq_some_iff.mp H
 obtain ⟨t644,A30,H⟩:=H
 replace H : (if t644 = 0 then (if 0 ≤ (l1_0.length : Int) then (if ((l1_0.length : Int) : Int).toNat ≤ 35184372088832 then ((some (List.replicate ((l1_0.length : Int) : Int).toNat 0 : List Int)).bind fun y645 => (hinterlandref06_Areas.l0 k y645 (y645.length : Int) 0 a0_0 a0_1 l0_2 l1_0 l1_1)) else (none)) else (none)) else (some (([] : List Int),t644))) = some (r1,r2):=H
 have A3:=Aside0.mk A30
 clear A30
 by_cases c4 : t644 = 0
 rotate_left
 ·rw [if_neg c4] at H
  have c4b0 : (t644 == 0) = false:=beq_eq_false_iff_ne.mpr c4
  have c4b1 : (t644 != 0) = true:=bne_iff_ne.mpr c4
  simp only [Option.some.injEq,Prod.mk.injEq] at H
  obtain ⟨rfl,rfl⟩:=H
  go_enter Try.func32,Try.ntmps32
  go_wp2_with (first|((with_reducible refine gate_dst (N:=2) rfl ?_);refine box_ev (N:=2) (cs:=#[.int .i64 a0_0,.int .i64 a0_1,.slice A0_2 l0_2.length c0_2]) (t:=24) ?_;intro gb642 hg w75 hbox hb;have BK642:=Aside0.mk (hbox);have GW642 : Aside0 (w.heap.size ≤ gb642):=gsz hg;have GE642:=GW642;replace HB:=Aside0.mk (below_step (hb_) hb);clear hb hbox hg)|((with_reducible refine gate_dst (N:=3) rfl ?_);refine box_ev (N:=3) (cs:=#[.slice A1_0 l1_0.length c1_0,.slice A1_1 l1_1.length c1_1]) (t:=26) ?_;intro gb643 hg w76 hbox hb;have BK643:=Aside0.mk (hbox);have GW643 : Aside0 (w.heap.size ≤ gb643):=gsz hg;have GE643:=GW643;have NB642_643:=nbl BK642 hg;have NB643_642:=nbr BK642 hg;replace BK642:=bkb BK642 hb;replace HB:=Aside0.mk (below_step (hb_) hb);clear hb hbox hg;have hnb77:=NB642_643.out;have hnc77:=NB643_642.out;obtain ⟨hcz78_0,hcz78_1,hcz78_2,hfz78_0,hfz78_1,hfz78_2⟩:=cells3 BK642.out;obtain ⟨hcz79_0,hcz79_1,hfz79_0,hfz79_1⟩:=cells2 BK643.out)|((with_reducible refine gate_callee (f:=23) rfl ?_);refine goesL_ (some 16) rfl rfl Try.func23 (by kernel_rfl) rfl #[.agg #[.int .i64 a0_0,.int .i64 a0_1,.slice A0_2 l0_2.length c0_2],.agg #[.slice A1_0 l1_0.length c1_0,.slice A1_1 l1_1.length c1_1]] rfl (by (try simp only [List.map_toArray,List.map_cons,List.map_nil]);first|done|rfl|(simp only [List.length_drop,List.length_take];rfl)) ?_;(with_reducible refine (hinterlandref06_Validate.calls k a0_0 a0_1 _ _ l0_2 _ _ l1_0 _ _ l1_1 t644 _ ?side1 ?side2 ?side3 ?side4 ?side5 ?side6 A3.out).mono ?_);(case side1 => exact Kd.C_up (Kd.C_below HR0_2.out HB.out));(case side2 => exact HC0_2.out);(case side3 => exact Kd.C_up (Kd.C_below HR1_0.out HB.out));(case side4 => exact HC1_0.out);(case side5 => exact Kd.C_up (Kd.C_below HR1_1.out HB.out));(case side6 => exact HC1_1.out);rintro e w80 ⟨rfl,hb⟩;refine ⟨_,rfl,?_⟩;replace BK642:=bkb BK642 hb;replace BK643:=bkb BK643 hb;replace HB:=Aside0.mk (below_step (hb_) hb)))
  go_ret2
  exact ⟨_,by first|rfl|(simp [errW_none,errW_some] <;> rfl)|(simp [*,errW_none,errW_some] <;> rfl),by first|exact Kd.R_nil _ _ _ _ _|exact Kd.N_nil _ _ _ _ _|exact Kd.V_nil _ _ _ _ _|exact Kd.Q_nil _ _ _ _ _|exact Kd.S_nil _ _ _ _ _,hb_⟩
 rw [if_pos c4] at H
 have c4b0 : (t644 == 0) = true:=beq_iff_eq.mpr c4
 have c4b1 : (t644 != 0) = false:=bne_eq_false_iff_eq.mpr c4
 clear c4
 replace H:=ifp_ H;obtain ⟨c5,H⟩:=H
 have c5b0:=eq_true c5
 have c5b1 : decide (0 ≤ (l1_0.length : Int)) = true:=decide_eq_true c5
 clear c5
 replace H:=ifp_ H;obtain ⟨c6,H⟩:=H
 have c6b0:=eq_true c6
 have c6b1 : decide (((l1_0.length : Int) : Int).toNat ≤ 35184372088832) = true:=decide_eq_true c6
 clear c6
 obtain ⟨y645,hy645⟩ : ∃ y_ : List Int,y_ = (List.replicate ((l1_0.length : Int) : Int).toNat 0):=⟨_,rfl⟩
 replace H : (hinterlandref06_Areas.l0 k y645 (y645.length : Int) 0 a0_0 a0_1 l0_2 l1_0 l1_1) = some (r1,r2):=by first|(rw [hy645];with_reducible exact H)|(have H2_:=(Option.bind_some _ _).symm.trans H;rw [hy645];with_reducible exact H2_)|(have H2_:=(Option.bind_some _ _).symm.trans H;with_reducible exact H2_)|with_reducible exact H|(rw [hy645];exact H)|exact H
 have Ny645:=Aside0.mk hy645
 clear hy645
 have H':=Aside0.mk H
 clear H
 go_enter Try.func32,Try.ntmps32
 go_wp2_with (first|((with_reducible refine gate_dst (N:=2) rfl ?_);refine box_ev (N:=2) (cs:=#[.int .i64 a0_0,.int .i64 a0_1,.slice A0_2 l0_2.length c0_2]) (t:=24) ?_;intro gb642 hg w7 hbox hb;have BK642:=Aside0.mk (hbox);have GW642 : Aside0 (w.heap.size ≤ gb642):=gsz hg;have GE642:=GW642;replace HB:=Aside0.mk (below_step (hb_) hb);clear hb hbox hg)|((with_reducible refine gate_dst (N:=3) rfl ?_);refine box_ev (N:=3) (cs:=#[.slice A1_0 l1_0.length c1_0,.slice A1_1 l1_1.length c1_1]) (t:=26) ?_;intro gb643 hg w8 hbox hb;have BK643:=Aside0.mk (hbox);have GW643 : Aside0 (w.heap.size ≤ gb643):=gsz hg;have GE643:=GW643;have NB642_643:=nbl BK642 hg;have NB643_642:=nbr BK642 hg;replace BK642:=bkb BK642 hb;replace HB:=Aside0.mk (below_step (hb_) hb);clear hb hbox hg;have hnb9:=NB642_643.out;have hnc9:=NB643_642.out;obtain ⟨hcz10_0,hcz10_1,hcz10_2,hfz10_0,hfz10_1,hfz10_2⟩:=cells3 BK642.out;obtain ⟨hcz11_0,hcz11_1,hfz11_0,hfz11_1⟩:=cells2 BK643.out)|((with_reducible refine gate_callee (f:=23) rfl ?_);refine goesL_ (some 16) rfl rfl Try.func23 (by kernel_rfl) rfl #[.agg #[.int .i64 a0_0,.int .i64 a0_1,.slice A0_2 l0_2.length c0_2],.agg #[.slice A1_0 l1_0.length c1_0,.slice A1_1 l1_1.length c1_1]] rfl (by (try simp only [List.map_toArray,List.map_cons,List.map_nil]);first|done|rfl|(simp only [List.length_drop,List.length_take];rfl)) ?_;(with_reducible refine (hinterlandref06_Validate.calls k a0_0 a0_1 _ _ l0_2 _ _ l1_0 _ _ l1_1 t644 _ ?side1 ?side2 ?side3 ?side4 ?side5 ?side6 A3.out).mono ?_);(case side1 => exact Kd.C_up (Kd.C_below HR0_2.out HB.out));(case side2 => exact HC0_2.out);(case side3 => exact Kd.C_up (Kd.C_below HR1_0.out HB.out));(case side4 => exact HC1_0.out);(case side5 => exact Kd.C_up (Kd.C_below HR1_1.out HB.out));(case side6 => exact HC1_1.out);rintro e w12 ⟨rfl,hb⟩;refine ⟨_,rfl,?_⟩;replace BK642:=bkb BK642 hb;replace BK643:=bkb BK643 hb;replace HB:=Aside0.mk (below_step (hb_) hb);obtain ⟨hcz13_0,hcz13_1,hfz13_0,hfz13_1⟩:=cells2 BK643.out)|((with_reducible refine gate_dst (N:=23) rfl ?_);refine Kd.R_make (Kd.int .i64) _ 3 rfl (N:=23) rfl 22 _ _ rfl (l1_0.length : Int) rfl rfl Try.underlying22 (.int .i64 0) 8 info3 rfl (by decide) (by omega) 0 (ok:=fun _ => True) (okp:=fun _ => True) rfl (fun _ hk => hk) trivial (of_decide_eq_true (by first|(with_reducible assumption)|assumption)) (Nat.le_trans (Nat.mul_le_mul_right _ (of_decide_eq_true (by first|(with_reducible assumption)|assumption) : (l1_0.length : Int).toNat ≤ 35184372088832)) (by omega)) (Below.refl _ _) (Nat.le_refl _) ?_;intro v646 w14 ho15 hb hg_ hnew_;clear hg_ hnew_;(first|rw [← Ny645.out] at ho15|(simp only [Int.reduceToNat] at ho15;rw [← Ny645.out] at ho15));have HO647:=rlo ho15;replace BK642:=bkb BK642 hb;replace BK643:=bkb BK643 hb;replace HB:=Aside0.mk (below_step (hb_) hb);clear hb ho15;obtain ⟨Ao16,co16,eo16⟩:=Kd.R_slice HO647.out;subst eo16))
 go_loopg [26] k (fun kq v26 w' => ∃ (x7_1 : List Int) (x26_1 : Int),v26 = .int .i64 x26_1 ∧ Aside0 (hinterlandref06_Areas.l0 kq x7_1 (y645.length : Int) x26_1 a0_0 a0_1 l0_2 l1_0 l1_1 = some (r1,r2)) ∧ Aside0 (kq ≤ k) ∧ Aside0 (Kd.R (Kd.int .i64) 3 w' w.heap.size (fun _ => True) (.slice Ao16 y645.length co16) x7_1) ∧ Aside0 (w'.heap[gb642]? = some (.cells #[.int .i64 a0_0,.int .i64 a0_1,(.slice A0_2 l0_2.length c0_2)] 24 (0,0))) ∧ Aside0 (w'.heap[gb643]? = some (.cells #[(.slice A1_0 l1_0.length c1_0),(.slice A1_1 l1_1.length c1_1)] 26 (0,0))) ∧ Aside0 (Below w.heap.size w w'))
 case atStart => exact ⟨(y645),(0),(by first|rfl|(simp;done)|(simp [*];done)),H',⟨Nat.le_refl _⟩,⟨Kd.R_up HO647.out⟩,⟨blk_up BK642.out⟩,⟨blk_up BK643.out⟩,⟨hb_⟩⟩
 case round =>
  clear H'
  obtain ⟨x7_1,x26_1,rfl,HA,HK1,HO_7,BK642,BK643,HB⟩:=hrel
  have hl7_1:=(Kd.R_reads' HO_7.out).1
  rw [hl7_1] at HO_7
  (try simp only [hl7_1])
  (try simp only [hl7_1] at BK642)
  (try simp only [hl7_1] at BK643)
  cases gk with
  | zero => exact absurd HA.out (by simp [hinterlandref06_Areas.l0])
  | succ k1 =>
   have H:=HA.out
   clear HA
   simp only [hinterlandref06_Areas.l0] at H
   by_cases c17 : x26_1 < (y645.length : Int)
   ·rw [if_pos c17] at H
    have c17b0 : decide (x26_1 < (y645.length : Int)) = true:=decide_eq_true c17
    (try simp only [hl7_1] at c17b0)
    clear c17
    replace H:=ifp_ H;obtain ⟨c18,H⟩:=H
    have c18b0 : decide (0 ≤ x26_1) = true:=decide_eq_true c18
    clear c18
    replace H:=ifp_ H;obtain ⟨c19,H⟩:=H
    have c19b0 : decide (x26_1 < (x7_1.length : Int)) = true:=decide_eq_true c19
    (try simp only [hl7_1] at c19b0)
    clear c19
    obtain ⟨y648,hy648⟩ : ∃ y_ : List Int,y_ = (x7_1.set (x26_1 : Int).toNat (-1)):=⟨_,rfl⟩
    replace H : ((hinterlandref06_Wet.f k1 a0_0 a0_1 l0_2 l1_0 x26_1).bind fun t649 => (if t649 = true then (hinterlandref06_Areas.l0 k1 (y648.set (x26_1 : Int).toNat x26_1) (y645.length : Int) (wrap64 (x26_1 + 1)) a0_0 a0_1 l0_2 l1_0 l1_1) else (hinterlandref06_Areas.l0 k1 y648 (y645.length : Int) (wrap64 (x26_1 + 1)) a0_0 a0_1 l0_2 l1_0 l1_1))) = some (r1,r2):=by first|(rw [hy648];with_reducible exact H)|(have H2_:=(Option.bind_some _ _).symm.trans H;rw [hy648];with_reducible exact H2_)|(have H2_:=(Option.bind_some _ _).symm.trans H;with_reducible exact H2_)|with_reducible exact H|(rw [hy648];exact H)|exact H
    have Ny648:=Aside0.mk hy648
    clear hy648
    replace H:=Option.bind_eq_some_iff.mp H
    obtain ⟨t649,A210,H⟩:=H
    replace H : (if t649 = true then (hinterlandref06_Areas.l0 k1 (y648.set (x26_1 : Int).toNat x26_1) (y645.length : Int) (wrap64 (x26_1 + 1)) a0_0 a0_1 l0_2 l1_0 l1_1) else (hinterlandref06_Areas.l0 k1 y648 (y645.length : Int) (wrap64 (x26_1 + 1)) a0_0 a0_1 l0_2 l1_0 l1_1)) = some (r1,r2):=H
    have A21:=Aside0.mk A210
    clear A210
    by_cases c22 : t649 = true
    ·subst c22
     have H1 : (hinterlandref06_Areas.l0 k1 (y648.set (x26_1 : Int).toNat x26_1) (y645.length : Int) (wrap64 (x26_1 + 1)) a0_0 a0_1 l0_2 l1_0 l1_1) = some (r1,r2):=by rw [if_pos rfl] at H;exact H
     clear H
     have H:=H1
     clear H1
     obtain ⟨y650,hy650⟩ : ∃ y_ : List Int,y_ = (y648.set (x26_1 : Int).toNat x26_1):=⟨_,rfl⟩
     replace H : (hinterlandref06_Areas.l0 k1 y650 (y645.length : Int) (wrap64 (x26_1 + 1)) a0_0 a0_1 l0_2 l1_0 l1_1) = some (r1,r2):=by first|(rw [hy650];with_reducible exact H)|(have H2_:=(Option.bind_some _ _).symm.trans H;rw [hy650];with_reducible exact H2_)|(have H2_:=(Option.bind_some _ _).symm.trans H;with_reducible exact H2_)|with_reducible exact H|(rw [hy650];exact H)|exact H
     have Ny650:=Aside0.mk hy650
     clear hy650
     have H':=Aside0.mk H
     clear H
     have p20 : 0 ≤ (x26_1 : Int):=of_decide_eq_true (by first|(with_reducible assumption)|assumption)
     have q20 : (x26_1 : Int) < ((x7_1.length : Int) : Int):=of_decide_eq_true (by first|(with_reducible assumption)|assumption)
     obtain ⟨go20,co20,eo20,gb20,gl20,cl20,HG20⟩:=Kd.R_form HO_7.out (by omega)
     (first|cases eo20|(injection eo20 with ea_ en_ ec_;(first|subst ea_|(injection ea_ with ea_;subst ea_));subst ec_;clear en_))
     have GB20:=Aside0.mk gb20
     have GG20:=Aside0.mk HG20
     clear gb20 gl20 HG20
     obtain ⟨hx20_0,hf20_0⟩:=Kd.R_celln 0 HO_7.out (x26_1 : Int) p20 q20
     replace p20:=eq_true p20
     replace q20:=eq_true q20
     have HP24:=Kd.R_putg HO_7.out (x26_1 : Int) (-1)
     go_wp2_with (first|((with_reducible refine gate_store (t:=3) (p:=31) rfl ?_);refine store_event (t:=3) (p:=31) (v:=?vo_w25) (w1:=(wr.setCell ⟨go20,(x26_1 : Int).toNat,none⟩ (.int .i64 (-1)))) ?hg ?ho ?hn ?hr ?_;(case ho => rfl);(case hg => rfl);(case hn => rfl);(case hr => first|(go_simp;done)|(go_simp;rfl));intro w25 hw;have hg : wr.grownBy w25 (some go20):=(by rw [hw];exact HP24.2);have hp_ : Kd.R (Kd.int .i64) 3 w25 w.heap.size (fun _ => True) (.slice (some ⟨go20,0,none⟩) x7_1.length co16) y648:=(by rw [hw,Ny648.out];exact HP24.1);clear HP24;replace BK642:=Aside0.mk (blk_grown (blk_up BK642.out) hg (Kd.R_ne HO_7.out BK642.out (by decide)));replace BK643:=Aside0.mk (blk_grown (blk_up BK643.out) hg (Kd.R_ne HO_7.out BK643.out (by decide)));replace HO_7:=Aside0.mk (hp_);replace HB:=Aside0.mk ((by rw [hw];exact below_set (HB.out) GB20.out : Below w.heap.size w w25));clear hg hw hp_;have hnb26:=NB642_643.out;have hnc26:=NB643_642.out;obtain ⟨hcz27_0,hcz27_1,hcz27_2,hfz27_0,hfz27_1,hfz27_2⟩:=cells3 BK642.out;obtain ⟨hcz28_0,hcz28_1,hfz28_0,hfz28_1⟩:=cells2 BK643.out)|((with_reducible refine gate_callee (f:=47) rfl ?_);refine goesL_ (some 36) rfl rfl Try.func47 (by kernel_rfl) rfl #[.agg #[.int .i64 a0_0,.int .i64 a0_1,.slice A0_2 l0_2.length c0_2],.slice A1_0 l1_0.length c1_0,.int .i64 x26_1] rfl (by (try simp only [List.map_toArray,List.map_cons,List.map_nil]);first|done|rfl|(simp only [List.length_drop,List.length_take];rfl)) ?_;(with_reducible refine (hinterlandref06_Wet.calls k1 a0_0 a0_1 _ _ l0_2 _ _ l1_0 x26_1 true _ ?side1 ?side2 ?side3 ?side4 A21.out).mono ?_);(case side1 => exact Kd.C_up (Kd.C_below HR0_2.out HB.out));(case side2 => exact HC0_2.out);(case side3 => exact Kd.C_up (Kd.C_below HR1_0.out HB.out));(case side4 => exact HC1_0.out);rintro e w29 ⟨rfl,hb⟩;refine ⟨_,rfl,?_⟩;replace HO_7:=rbw HO_7 hb;replace BK642:=bkb BK642 hb;replace BK643:=bkb BK643 hb;replace HB:=Aside0.mk (below_step (hb_) hb);have p23 : 0 ≤ (x26_1 : Int):=of_decide_eq_true (by first|(with_reducible assumption)|assumption);have q23 : (x26_1 : Int) < ((x7_1.length : Int) : Int):=of_decide_eq_true (by first|(with_reducible assumption)|assumption);obtain ⟨hx23_0,hf23_0⟩:=Kd.R_celln 0 HO_7.out (x26_1 : Int) p23 q23;replace p23:=eq_true p23;replace q23:=eq_true q23;obtain ⟨hy30_,hz30_⟩:=Kd.R_celln 0 HO_7.out (x26_1 : Int) (of_decide_eq_true (by first|(with_reducible assumption)|assumption)) (of_decide_eq_true (by first|(with_reducible assumption)|assumption));have HP30:=Kd.R_putg HO_7.out (x26_1 : Int) x26_1)|((with_reducible refine gate_store (t:=3) (p:=40) rfl ?_);refine store_event (t:=3) (p:=40) (v:=?vo_w31) (w1:=(w29.setCell ⟨go20,(x26_1 : Int).toNat,none⟩ (.int .i64 x26_1))) ?hg ?ho ?hn ?hr ?_;(case ho => rfl);(case hg => rfl);(case hn => rfl);(case hr => first|(go_simp;done)|(go_simp;rfl));intro w31 hw;have hg : w29.grownBy w31 (some go20):=(by rw [hw];exact HP30.2);have hp_ : Kd.R (Kd.int .i64) 3 w31 w.heap.size (fun _ => True) (.slice (some ⟨go20,0,none⟩) x7_1.length co16) y650:=(by rw [hw,Ny650.out];exact HP30.1);clear HP30;replace BK642:=Aside0.mk (blk_grown (blk_up BK642.out) hg (Kd.R_ne HO_7.out BK642.out (by decide)));replace BK643:=Aside0.mk (blk_grown (blk_up BK643.out) hg (Kd.R_ne HO_7.out BK643.out (by decide)));replace HO_7:=Aside0.mk (hp_);replace HB:=Aside0.mk ((by rw [hw];exact below_set (HB.out) GB20.out : Below w.heap.size w w31));clear hg hw hp_))
     (try simp only [← hl7_1])
     (try (rename ∀ (k_ : Nat) (a_ : Act) (w_ : World),_ → _ => hJ_;simp only [add_plain] at hJ_))
     go_roundg k1
     case measure => have:=HK1.out;omega
     case rel => exact ⟨(y650),(wrap64 (x26_1 + 1)),(by first|rfl|(simp;done)|(simp [*];done)),H',⟨by have:=HK1.out;omega⟩,⟨by (try simp only [hl7_1]);(with_reducible repeat (first|apply Kd.R_alloc|apply Kd.R_drewN|apply Kd.R_drew));exact HO_7.out⟩,⟨by (try simp only [hl7_1]);(with_reducible repeat (first|refine blk_drewN ?_ _|refine blk_drew ?_|refine blk_alloc ?_ _));exact BK642.out⟩,⟨by (try simp only [hl7_1]);(with_reducible repeat (first|refine blk_drewN ?_ _|refine blk_drew ?_|refine blk_alloc ?_ _));exact BK643.out⟩,⟨hb_⟩⟩
    ·replace c22:=Bool.eq_false_iff.mpr c22
     subst c22
     have H1 : (hinterlandref06_Areas.l0 k1 y648 (y645.length : Int) (wrap64 (x26_1 + 1)) a0_0 a0_1 l0_2 l1_0 l1_1) = some (r1,r2):=by rw [if_neg (show ¬ (false = true) by decide)] at H;exact H
     clear H
     have H:=H1
     clear H1
     have H':=Aside0.mk H
     clear H
     have p20 : 0 ≤ (x26_1 : Int):=of_decide_eq_true (by first|(with_reducible assumption)|assumption)
     have q20 : (x26_1 : Int) < ((x7_1.length : Int) : Int):=of_decide_eq_true (by first|(with_reducible assumption)|assumption)
     obtain ⟨go20,co20,eo20,gb20,gl20,cl20,HG20⟩:=Kd.R_form HO_7.out (by omega)
     (first|cases eo20|(injection eo20 with ea_ en_ ec_;(first|subst ea_|(injection ea_ with ea_;subst ea_));subst ec_;clear en_))
     have GB20:=Aside0.mk gb20
     have GG20:=Aside0.mk HG20
     clear gb20 gl20 HG20
     obtain ⟨hx20_0,hf20_0⟩:=Kd.R_celln 0 HO_7.out (x26_1 : Int) p20 q20
     replace p20:=eq_true p20
     replace q20:=eq_true q20
     have HP32:=Kd.R_putg HO_7.out (x26_1 : Int) (-1)
     go_wp2_with (first|((with_reducible refine gate_store (t:=3) (p:=31) rfl ?_);refine store_event (t:=3) (p:=31) (v:=?vo_w33) (w1:=(wr.setCell ⟨go20,(x26_1 : Int).toNat,none⟩ (.int .i64 (-1)))) ?hg ?ho ?hn ?hr ?_;(case ho => rfl);(case hg => rfl);(case hn => rfl);(case hr => first|(go_simp;done)|(go_simp;rfl));intro w33 hw;have hg : wr.grownBy w33 (some go20):=(by rw [hw];exact HP32.2);have hp_ : Kd.R (Kd.int .i64) 3 w33 w.heap.size (fun _ => True) (.slice (some ⟨go20,0,none⟩) x7_1.length co16) y648:=(by rw [hw,Ny648.out];exact HP32.1);clear HP32;replace BK642:=Aside0.mk (blk_grown (blk_up BK642.out) hg (Kd.R_ne HO_7.out BK642.out (by decide)));replace BK643:=Aside0.mk (blk_grown (blk_up BK643.out) hg (Kd.R_ne HO_7.out BK643.out (by decide)));replace HO_7:=Aside0.mk (hp_);replace HB:=Aside0.mk ((by rw [hw];exact below_set (HB.out) GB20.out : Below w.heap.size w w33));clear hg hw hp_;have hnb34:=NB642_643.out;have hnc34:=NB643_642.out;obtain ⟨hcz35_0,hcz35_1,hcz35_2,hfz35_0,hfz35_1,hfz35_2⟩:=cells3 BK642.out;obtain ⟨hcz36_0,hcz36_1,hfz36_0,hfz36_1⟩:=cells2 BK643.out)|((with_reducible refine gate_callee (f:=47) rfl ?_);refine goesL_ (some 36) rfl rfl Try.func47 (by kernel_rfl) rfl #[.agg #[.int .i64 a0_0,.int .i64 a0_1,.slice A0_2 l0_2.length c0_2],.slice A1_0 l1_0.length c1_0,.int .i64 x26_1] rfl (by (try simp only [List.map_toArray,List.map_cons,List.map_nil]);first|done|rfl|(simp only [List.length_drop,List.length_take];rfl)) ?_;(with_reducible refine (hinterlandref06_Wet.calls k1 a0_0 a0_1 _ _ l0_2 _ _ l1_0 x26_1 false _ ?side1 ?side2 ?side3 ?side4 A21.out).mono ?_);(case side1 => exact Kd.C_up (Kd.C_below HR0_2.out HB.out));(case side2 => exact HC0_2.out);(case side3 => exact Kd.C_up (Kd.C_below HR1_0.out HB.out));(case side4 => exact HC1_0.out);rintro e w37 ⟨rfl,hb⟩;refine ⟨_,rfl,?_⟩;replace HO_7:=rbw HO_7 hb;replace BK642:=bkb BK642 hb;replace BK643:=bkb BK643 hb;replace HB:=Aside0.mk (below_step (hb_) hb)))
     (try simp only [← hl7_1])
     (try (rename ∀ (k_ : Nat) (a_ : Act) (w_ : World),_ → _ => hJ_;simp only [add_plain] at hJ_))
     go_roundg k1
     case measure => have:=HK1.out;omega
     case rel => exact ⟨(y648),(wrap64 (x26_1 + 1)),(by first|rfl|(simp;done)|(simp [*];done)),H',⟨by have:=HK1.out;omega⟩,⟨by (try simp only [hl7_1]);(with_reducible repeat (first|apply Kd.R_alloc|apply Kd.R_drewN|apply Kd.R_drew));exact HO_7.out⟩,⟨by (try simp only [hl7_1]);(with_reducible repeat (first|refine blk_drewN ?_ _|refine blk_drew ?_|refine blk_alloc ?_ _));exact BK642.out⟩,⟨by (try simp only [hl7_1]);(with_reducible repeat (first|refine blk_drewN ?_ _|refine blk_drew ?_|refine blk_alloc ?_ _));exact BK643.out⟩,⟨hb_⟩⟩
   rw [if_neg c17] at H
   have c17b0 : decide (x26_1 < (y645.length : Int)) = false:=decide_eq_false c17
   (try simp only [hl7_1] at c17b0)
   clear c17
   have H':=Aside0.mk H
   clear H
   go_wp2
   go_loopg [44] k1 (fun kq v44 w' => ∃ (x7_2 : List Int) (x44_2 : Int),v44 = .int .i64 x44_2 ∧ Aside0 (hinterlandref06_Areas.l1 kq x7_2 (x7_1.length : Int) x44_2 a0_0 a0_1 l0_2 l1_0 l1_1 = some (r1,r2)) ∧ Aside0 (kq ≤ k1) ∧ Aside0 (Kd.R (Kd.int .i64) 3 w' w.heap.size (fun _ => True) (.slice Ao16 x7_1.length co16) x7_2) ∧ Aside0 (w'.heap[gb642]? = some (.cells #[.int .i64 a0_0,.int .i64 a0_1,(.slice A0_2 l0_2.length c0_2)] 24 (0,0))) ∧ Aside0 (w'.heap[gb643]? = some (.cells #[(.slice A1_0 l1_0.length c1_0),(.slice A1_1 l1_1.length c1_1)] 26 (0,0))) ∧ Aside0 (Below w.heap.size w w'))
   case atStart => exact ⟨(x7_1),(0),(by first|rfl|(simp;done)|(simp [*];done)),H',⟨Nat.le_refl _⟩,⟨by (try simp only [hl7_1]);(with_reducible repeat (first|apply Kd.R_alloc|apply Kd.R_drewN|apply Kd.R_drew));exact HO_7.out⟩,⟨by (try simp only [hl7_1]);(with_reducible repeat (first|refine blk_drewN ?_ _|refine blk_drew ?_|refine blk_alloc ?_ _));exact BK642.out⟩,⟨by (try simp only [hl7_1]);(with_reducible repeat (first|refine blk_drewN ?_ _|refine blk_drew ?_|refine blk_alloc ?_ _));exact BK643.out⟩,⟨hb_⟩⟩
   case round =>
    clear H'
    obtain ⟨x7_2,x44_2,rfl,HA,HK2,HO_7,BK642,BK643,HB⟩:=hrel
    have hl7_2:=(Kd.R_reads' HO_7.out).1
    rw [hl7_2] at HO_7
    (try simp only [hl7_2])
    (try simp only [hl7_2] at BK642)
    (try simp only [hl7_2] at BK643)
    cases gk with
    | zero => exact absurd HA.out (by simp [hinterlandref06_Areas.l1])
    | succ k2 =>
     have H:=HA.out
     clear HA
     simp only [hinterlandref06_Areas.l1] at H
     by_cases c38 : x44_2 < (x7_1.length : Int)
     rotate_left
     ·rw [if_neg c38] at H
      have c38b0 : decide (x44_2 < (x7_1.length : Int)) = false:=decide_eq_false c38
      (try simp only [hl7_1] at c38b0)
      (try simp only [hl7_2] at c38b0)
      clear c38
      simp only [Option.some.injEq,Prod.mk.injEq] at H
      obtain ⟨rfl,rfl⟩:=H
      go_wp2
      go_ret2
      exact ⟨_,by first|rfl|(simp [errW_none,errW_some] <;> rfl)|(simp [*,errW_none,errW_some] <;> rfl),Kd.R_up HO_7.out,hb_⟩
     rw [if_pos c38] at H
     have c38b0 : decide (x44_2 < (x7_1.length : Int)) = true:=decide_eq_true c38
     (try simp only [hl7_1] at c38b0)
     (try simp only [hl7_2] at c38b0)
     clear c38
     replace H:=ifp_ H;obtain ⟨c39,H⟩:=H
     have c39b0 : decide (0 ≤ x44_2) = true:=decide_eq_true c39
     clear c39
     replace H:=ifp_ H;obtain ⟨c40,H⟩:=H
     have c40b0 : decide (x44_2 < (x7_2.length : Int)) = true:=decide_eq_true c40
     (try simp only [hl7_1] at c40b0)
     (try simp only [hl7_2] at c40b0)
     clear c40
     by_cases c41 : (rd x7_2 x44_2) = x44_2
     rotate_left
     ·rw [if_neg c41] at H
      have c41b0 : ((rd x7_2 x44_2) == x44_2) = false:=beq_eq_false_iff_ne.mpr c41
      have c41b1 : ((rd x7_2 x44_2) != x44_2) = true:=bne_iff_ne.mpr c41
      have H':=Aside0.mk H
      clear H
      have p651 : 0 ≤ (x44_2 : Int):=of_decide_eq_true (by first|(with_reducible assumption)|assumption)
      have q651 : x44_2 < (x7_2.length : Int):=of_decide_eq_true (by first|(with_reducible assumption)|assumption)
      obtain ⟨ad651,e651,hx651_0⟩:=Kd.at_int (Kd.R_reads' HO_7.out).2.2 x44_2 p651 q651
      cases e651
      replace p651:=eq_true p651
      replace q651:=eq_true q651
      go_wp2
      (try simp only [← hl7_2])
      (try (rename ∀ (k_ : Nat) (a_ : Act) (w_ : World),_ → _ => hJ_;simp only [add_plain] at hJ_))
      go_roundg k2
      case measure => have:=HK1.out;have:=HK2.out;omega
      case rel => exact ⟨(x7_2),(wrap64 (x44_2 + 1)),(by first|rfl|(simp;done)|(simp [*];done)),H',⟨by have:=HK1.out;have:=HK2.out;omega⟩,⟨by (try simp only [hl7_1]);(try simp only [hl7_2]);(with_reducible repeat (first|apply Kd.R_alloc|apply Kd.R_drewN|apply Kd.R_drew));exact HO_7.out⟩,⟨by (try simp only [hl7_1]);(try simp only [hl7_2]);(with_reducible repeat (first|refine blk_drewN ?_ _|refine blk_drew ?_|refine blk_alloc ?_ _));exact BK642.out⟩,⟨by (try simp only [hl7_1]);(try simp only [hl7_2]);(with_reducible repeat (first|refine blk_drewN ?_ _|refine blk_drew ?_|refine blk_alloc ?_ _));exact BK643.out⟩,⟨hb_⟩⟩
     rw [if_pos c41] at H
     have c41b0 : ((rd x7_2 x44_2) == x44_2) = true:=beq_iff_eq.mpr c41
     have c41b1 : ((rd x7_2 x44_2) != x44_2) = false:=bne_eq_false_iff_eq.mpr c41
     clear c41
     obtain ⟨y652,hy652⟩ : ∃ y_ : List Int,y_ = (([x44_2] : List Int)):=⟨_,rfl⟩
     replace H : (hinterlandref06_Areas.l2 k2 x7_2 x44_2 y652 (x7_1.length : Int) x44_2 a0_0 a0_1 l0_2 l1_0 l1_1) = some (r1,r2):=by first|(rw [hy652];with_reducible exact H)|(have H2_:=(Option.bind_some _ _).symm.trans H;rw [hy652];with_reducible exact H2_)|(have H2_:=(Option.bind_some _ _).symm.trans H;with_reducible exact H2_)|with_reducible exact H|(rw [hy652];exact H)|exact H
     have Ny652:=Aside0.mk hy652
     clear hy652
     have H':=Aside0.mk H
     clear H
     have p651 : 0 ≤ (x44_2 : Int):=of_decide_eq_true (by first|(with_reducible assumption)|assumption)
     have q651 : x44_2 < (x7_2.length : Int):=of_decide_eq_true (by first|(with_reducible assumption)|assumption)
     obtain ⟨ad651,e651,hx651_0⟩:=Kd.at_int (Kd.R_reads' HO_7.out).2.2 x44_2 p651 q651
     cases e651
     replace p651:=eq_true p651
     replace q651:=eq_true q651
     go_wp2_with (first|((with_reducible refine gate_dst (N:=54) rfl ?_);refine Kd.R_lit (Kd.int .i64) _ 3 ?hg (N:=54) ?hd (xs:=([x44_2] : List Int)) (inner:=[.int .i64 x44_2]) (ok:=fun _ => True) (okp:=fun _ => True) ?hr ?hp (fun _ hk => hk) trivial (Below.refl _ _) (Nat.le_refl _) (by simp) ?_;(case hd => rfl);(case hg => rfl);(case hr => first|(go_simp;done)|(go_simp;rfl));(case hp => exact (Reps.one (show Kd.M (Kd.int .i64) _ _ _ x44_2 [.int .i64 x44_2] from rfl) (Reps.none _ _)));intro v653 w42 ho43 hb hg_ hnew_;clear hg_ hnew_;(first|rw [← Ny652.out] at ho43|(simp only [Int.reduceToNat] at ho43;rw [← Ny652.out] at ho43));have HO654:=Aside0.mk (Kd.R_lower (Kd.R_new' ho43 (Kd.R_lt (Kd.R_up HO_7.out))) (below_size (hb_)));replace HO_7:=Aside0.mk (Kd.R_elder' (Kd.R_up HO_7.out) (Kd.R_base ho43) hb);replace BK642:=bkb BK642 hb;replace BK643:=bkb BK643 hb;replace HB:=Aside0.mk (below_step (hb_) hb);clear hb ho43))
     go_loopg [10] k2 (fun kq v10 w' => ∃ (x7_3 : List Int) (x10_3 : List Int),Aside0 (hinterlandref06_Areas.l2 kq x7_3 x44_2 x10_3 (x7_1.length : Int) x44_2 a0_0 a0_1 l0_2 l1_0 l1_1 = some (r1,r2)) ∧ Aside0 (kq ≤ k2) ∧ Aside0 (Kd.R (Kd.int .i64) 3 w' w.heap.size (fun k_ => some k_ ≠ (v10 : Value).ownBlock) (.slice (some ad651) x7_2.length co16) x7_3) ∧ Aside0 (Kd.R (Kd.int .i64) 3 w' w.heap.size (fun k_ => some k_ ≠ ((.slice (some ad651) x7_2.length co16) : Value).ownBlock) v10 x10_3) ∧ Aside0 (w'.heap[gb642]? = some (.cells #[.int .i64 a0_0,.int .i64 a0_1,(.slice A0_2 l0_2.length c0_2)] 24 (0,0))) ∧ Aside0 (w'.heap[gb643]? = some (.cells #[(.slice A1_0 l1_0.length c1_0),(.slice A1_1 l1_1.length c1_1)] 26 (0,0))) ∧ Aside0 (Below w.heap.size w w'))
     case atStart => exact ⟨(x7_2),(y652),H',⟨Nat.le_refl _⟩,⟨by (try simp only [hl7_1]);(try simp only [hl7_2]);(with_reducible repeat (first|apply Kd.R_alloc|apply Kd.R_drewN|apply Kd.R_drew));exact Kd.R_mono HO_7.out (fun _ hk => hk.2)⟩,⟨by (try simp only [hl7_1]);(try simp only [hl7_2]);(with_reducible repeat (first|apply Kd.R_alloc|apply Kd.R_drewN|apply Kd.R_drew));exact Kd.R_mono HO654.out (fun _ hk => hk.2)⟩,⟨by (try simp only [hl7_1]);(try simp only [hl7_2]);(with_reducible repeat (first|refine blk_drewN ?_ _|refine blk_drew ?_|refine blk_alloc ?_ _));exact BK642.out⟩,⟨by (try simp only [hl7_1]);(try simp only [hl7_2]);(with_reducible repeat (first|refine blk_drewN ?_ _|refine blk_drew ?_|refine blk_alloc ?_ _));exact BK643.out⟩,⟨hb_⟩⟩
     case round =>
      clear H'
      obtain ⟨x7_3,x10_3,HA,HK3,HO_7,HO_10,BK642,BK643,HB⟩:=hrel
      have hl7_3:=(Kd.R_reads' HO_7.out).1
      rw [hl7_3] at HO_7
      (try simp only [hl7_3])
      (try simp only [hl7_3] at BK642)
      (try simp only [hl7_3] at BK643)
      (try simp only [hl7_3] at HO_10)
      cases gk with
      | zero => exact absurd HA.out (by simp [hinterlandref06_Areas.l2])
      | succ k3 =>
       have H:=HA.out
       clear HA
       simp only [hinterlandref06_Areas.l2] at H
       by_cases c44 : (x10_3.length : Int) > 0
       rotate_left
       ·rw [if_neg c44] at H
        have c44b0 : decide (0 < (x10_3.length : Int)) = false:=decide_eq_false c44
        (try simp only [hl7_1] at c44b0)
        (try simp only [hl7_2] at c44b0)
        (try simp only [hl7_3] at c44b0)
        have c44b1 : decide (0 < x10_3.length) = false:=decide_eq_false (by omega)
        (try simp only [hl7_1] at c44b1)
        (try simp only [hl7_2] at c44b1)
        (try simp only [hl7_3] at c44b1)
        clear c44
        have H':=Aside0.mk H
        clear H
        obtain ⟨Ao74,co74,eo74⟩:=Kd.R_slice HO_10.out
        subst eo74
        go_wp2
        (try simp only [← hl7_2,← hl7_3])
        (try (rename ∀ (k_ : Nat) (a_ : Act) (w_ : World),_ → _ => hJ_;simp only [add_plain] at hJ_))
        go_roundg k3
        case measure => have:=HK1.out;have:=HK2.out;have:=HK3.out;omega
        case rel => exact ⟨(x7_3),(wrap64 (x44_2 + 1)),(by first|rfl|(simp;done)|(simp [*];done)),H',⟨by have:=HK1.out;have:=HK2.out;have:=HK3.out;omega⟩,⟨by (try simp only [hl7_1]);(try simp only [hl7_2]);(try simp only [hl7_3]);(with_reducible repeat (first|apply Kd.R_alloc|apply Kd.R_drewN|apply Kd.R_drew));exact Kd.R_mono HO_7.out (fun _ hk => trivial)⟩,⟨by (try simp only [hl7_1]);(try simp only [hl7_2]);(try simp only [hl7_3]);(with_reducible repeat (first|refine blk_drewN ?_ _|refine blk_drew ?_|refine blk_alloc ?_ _));exact BK642.out⟩,⟨by (try simp only [hl7_1]);(try simp only [hl7_2]);(try simp only [hl7_3]);(with_reducible repeat (first|refine blk_drewN ?_ _|refine blk_drew ?_|refine blk_alloc ?_ _));exact BK643.out⟩,⟨hb_⟩⟩
       rw [if_pos c44] at H
       have c44b0 : decide (0 < (x10_3.length : Int)) = true:=decide_eq_true c44
       (try simp only [hl7_1] at c44b0)
       (try simp only [hl7_2] at c44b0)
       (try simp only [hl7_3] at c44b0)
       have c44b1 : decide (0 < x10_3.length) = true:=decide_eq_true (by omega)
       (try simp only [hl7_1] at c44b1)
       (try simp only [hl7_2] at c44b1)
       (try simp only [hl7_3] at c44b1)
       clear c44
       obtain ⟨ji45,hji45⟩ : ∃ j_ : Int,(wrap64 ((x10_3.length : Int) - 1)) = j_:=⟨_,rfl⟩
       replace H : (if 0 ≤ (ji45) then (if (ji45) < (x10_3.length : Int) then (if (ji45) ≤ (x10_3.length : Int) then (hinterlandref06_Areas.l3 k3 x7_3 x44_2 (x10_3.take ((ji45) : Int).toNat) (rd x10_3 (ji45)) (x7_1.length : Int) x44_2 0 a0_0 a0_1 l0_2 l1_0 l1_1) else (none)) else (none)) else (none)) = some (r1,r2):=by first|(rw [hji45] at H;exact H)|(simp only [hji45] at H ⊢;exact H)
       have hji45w : (IntKind.i64.wrap ((x10_3.length : Int) - 1)) = ji45:=(i64_w _).trans hji45
       replace H:=ifp_ H;obtain ⟨c46,H⟩:=H
       have c46b0 : decide (0 ≤ (ji45)) = true:=decide_eq_true c46
       clear c46
       replace H:=ifp_ H;obtain ⟨c47,H⟩:=H
       have c47b0 : decide ((ji45) < (x10_3.length : Int)) = true:=decide_eq_true c47
       (try simp only [hl7_1] at c47b0)
       (try simp only [hl7_2] at c47b0)
       (try simp only [hl7_3] at c47b0)
       clear c47
       replace H:=ifp_ H;obtain ⟨c48,H⟩:=H
       have c48b0:=eq_true c48
       have c48b1 : decide ((ji45) ≤ (x10_3.length : Int)) = true:=decide_eq_true c48
       (try simp only [hl7_1] at c48b1)
       (try simp only [hl7_2] at c48b1)
       (try simp only [hl7_3] at c48b1)
       clear c48
       obtain ⟨y656,hy656⟩ : ∃ y_ : List Int,y_ = (x10_3.take ((ji45) : Int).toNat):=⟨_,rfl⟩
       replace H : (hinterlandref06_Areas.l3 k3 x7_3 x44_2 y656 (rd x10_3 (ji45)) (x7_1.length : Int) x44_2 0 a0_0 a0_1 l0_2 l1_0 l1_1) = some (r1,r2):=by first|(rw [hy656];with_reducible exact H)|(have H2_:=(Option.bind_some _ _).symm.trans H;rw [hy656];with_reducible exact H2_)|(have H2_:=(Option.bind_some _ _).symm.trans H;with_reducible exact H2_)|with_reducible exact H|(rw [hy656];exact H)|exact H
       have Ny656:=Aside0.mk hy656
       clear hy656
       have H':=Aside0.mk H
       clear H
       obtain ⟨Ao49,co49,eo49⟩:=Kd.R_slice HO_10.out
       subst eo49
       have p655 : 0 ≤ ((ji45) : Int):=of_decide_eq_true (by first|(with_reducible assumption)|assumption)
       have q655 : (ji45) < (x10_3.length : Int):=of_decide_eq_true (by first|(with_reducible assumption)|assumption)
       obtain ⟨ad655,e655,hx655_0⟩:=Kd.at_int (Kd.R_reads' HO_10.out).2.2 (ji45) p655 q655
       cases e655
       replace p655:=eq_true p655
       replace q655:=eq_true q655
       have q50 : ((ji45) : Int) ≤ ((x10_3.length : Int) : Int):=of_decide_eq_true (by first|(with_reducible assumption)|assumption)
       obtain ⟨i050,hi050,_,hsz50,_⟩:=info_parts info3
       have hcut50:=cut_to (P:=Try.prog) 22 3 .i64 Try.underlying22 hi050 (some ad655) x10_3.length co49 (ji45) (of_decide_eq_true (by first|(with_reducible assumption)|assumption)) q50 (Kd.R_reads' HO_10.out).2.1
       have hr50:=Kd.R_take (m:=((ji45) : Int).toNat) HO_10.out (by omega)
       have hy50 : y656.length = ((ji45) : Int).toNat:=(by rw [Ny656.out,List.length_take];omega)
       rw [← Ny656.out] at hr50
       rw [← hy50] at hr50 hcut50
       clear hy50 hi050 hsz50 HO_10
       have HO658:=Aside0.mk hr50
       clear hr50
       replace q50:=eq_true q50
       go_wp2
       go_loopg [10,69] k3 (fun kq v10 v69 w' => ∃ (x7_4 : List Int) (x10_4 : List Int) (x69_4 : Int),v69 = .int .i64 x69_4 ∧ Aside0 (hinterlandref06_Areas.l3 kq x7_4 x44_2 x10_4 (rd x10_3 (ji45)) (x7_1.length : Int) x44_2 x69_4 a0_0 a0_1 l0_2 l1_0 l1_1 = some (r1,r2)) ∧ Aside0 (kq ≤ k3) ∧ Aside0 (Kd.R (Kd.int .i64) 3 w' w.heap.size (fun k_ => some k_ ≠ (v10 : Value).ownBlock) (.slice (some ad651) x7_3.length co16) x7_4) ∧ Aside0 (Kd.R (Kd.int .i64) 3 w' w.heap.size (fun k_ => some k_ ≠ ((.slice (some ad651) x7_3.length co16) : Value).ownBlock) v10 x10_4) ∧ Aside0 (w'.heap[gb642]? = some (.cells #[.int .i64 a0_0,.int .i64 a0_1,(.slice A0_2 l0_2.length c0_2)] 24 (0,0))) ∧ Aside0 (w'.heap[gb643]? = some (.cells #[(.slice A1_0 l1_0.length c1_0),(.slice A1_1 l1_1.length c1_1)] 26 (0,0))) ∧ Aside0 (Below w.heap.size w w'))
       case atStart => exact ⟨(x7_3),(y656),(0),(by first|rfl|(simp;done)|(simp [*];done)),H',⟨Nat.le_refl _⟩,⟨by (try simp only [hl7_1]);(try simp only [hl7_2]);(try simp only [hl7_3]);(with_reducible repeat (first|apply Kd.R_alloc|apply Kd.R_drewN|apply Kd.R_drew));exact HO_7.out⟩,⟨by (try simp only [hl7_1]);(try simp only [hl7_2]);(try simp only [hl7_3]);(with_reducible repeat (first|apply Kd.R_alloc|apply Kd.R_drewN|apply Kd.R_drew));exact HO658.out⟩,⟨by (try simp only [hl7_1]);(try simp only [hl7_2]);(try simp only [hl7_3]);(with_reducible repeat (first|refine blk_drewN ?_ _|refine blk_drew ?_|refine blk_alloc ?_ _));exact BK642.out⟩,⟨by (try simp only [hl7_1]);(try simp only [hl7_2]);(try simp only [hl7_3]);(with_reducible repeat (first|refine blk_drewN ?_ _|refine blk_drew ?_|refine blk_alloc ?_ _));exact BK643.out⟩,⟨hb_⟩⟩
       case round =>
        clear H'
        obtain ⟨x7_4,x10_4,x69_4,rfl,HA,HK4,HO_7,HO_10,BK642,BK643,HB⟩:=hrel
        have hl7_4:=(Kd.R_reads' HO_7.out).1
        rw [hl7_4] at HO_7
        (try simp only [hl7_4])
        (try simp only [hl7_4] at BK642)
        (try simp only [hl7_4] at BK643)
        (try simp only [hl7_4] at HO_10)
        cases gk with
        | zero => exact absurd HA.out (by simp [hinterlandref06_Areas.l3])
        | succ k4 =>
         have H:=HA.out
         clear HA
         simp only [hinterlandref06_Areas.l3] at H
         by_cases c51 : x69_4 < 4
         rotate_left
         ·rw [if_neg c51] at H
          have c51b0 : decide (x69_4 < 4) = false:=decide_eq_false c51
          clear c51
          have H':=Aside0.mk H
          clear H
          go_wp2
          (try simp only [← hl7_3,← hl7_4])
          (try (rename ∀ (k_ : Nat) (a_ : Act) (w_ : World),_ → _ => hJ_;simp only [add_plain] at hJ_))
          go_roundg k4
          case measure => have:=HK1.out;have:=HK2.out;have:=HK3.out;have:=HK4.out;omega
          case rel => exact ⟨(x7_4),(x10_4),H',⟨by have:=HK1.out;have:=HK2.out;have:=HK3.out;have:=HK4.out;omega⟩,⟨by (try simp only [hl7_1]);(try simp only [hl7_2]);(try simp only [hl7_3]);(try simp only [hl7_4]);(with_reducible repeat (first|apply Kd.R_alloc|apply Kd.R_drewN|apply Kd.R_drew));exact HO_7.out⟩,⟨by (try simp only [hl7_1]);(try simp only [hl7_2]);(try simp only [hl7_3]);(try simp only [hl7_4]);(with_reducible repeat (first|apply Kd.R_alloc|apply Kd.R_drewN|apply Kd.R_drew));exact HO_10.out⟩,⟨by (try simp only [hl7_1]);(try simp only [hl7_2]);(try simp only [hl7_3]);(try simp only [hl7_4]);(with_reducible repeat (first|refine blk_drewN ?_ _|refine blk_drew ?_|refine blk_alloc ?_ _));exact BK642.out⟩,⟨by (try simp only [hl7_1]);(try simp only [hl7_2]);(try simp only [hl7_3]);(try simp only [hl7_4]);(with_reducible repeat (first|refine blk_drewN ?_ _|refine blk_drew ?_|refine blk_alloc ?_ _));exact BK643.out⟩,⟨hb_⟩⟩
         rw [if_pos c51] at H
         have c51b0 : decide (x69_4 < 4) = true:=decide_eq_true c51
         clear c51
         replace H:=Option.bind_eq_some_iff.mp H
         obtain ⟨t659,A520,H⟩:=H
         replace H : (if t659 ≥ 0 then (if 0 ≤ t659 then (if t659 < (x7_4.length : Int) then (if (rd x7_4 t659) > x44_2 then (if x10_4.length < 17592186044416 then (hinterlandref06_Areas.l3 k4 (x7_4.set (t659 : Int).toNat x44_2) x44_2 (x10_4 ++ [t659]) (rd x10_3 (ji45)) (x7_1.length : Int) x44_2 (wrap64 (x69_4 + 1)) a0_0 a0_1 l0_2 l1_0 l1_1) else (none)) else (hinterlandref06_Areas.l3 k4 x7_4 x44_2 x10_4 (rd x10_3 (ji45)) (x7_1.length : Int) x44_2 (wrap64 (x69_4 + 1)) a0_0 a0_1 l0_2 l1_0 l1_1)) else (none)) else (none)) else (hinterlandref06_Areas.l3 k4 x7_4 x44_2 x10_4 (rd x10_3 (ji45)) (x7_1.length : Int) x44_2 (wrap64 (x69_4 + 1)) a0_0 a0_1 l0_2 l1_0 l1_1)) = some (r1,r2):=H
         have A52:=Aside0.mk A520
         clear A520
         by_cases c53 : t659 ≥ 0
         ·rw [if_pos c53] at H
          have c53b0 : decide (0 ≤ t659) = true:=decide_eq_true c53
          clear c53
          replace H:=ifp_ H;obtain ⟨c54,H⟩:=H
          have c54b0 : decide (0 ≤ t659) = true:=decide_eq_true c54
          clear c54
          replace H:=ifp_ H;obtain ⟨c55,H⟩:=H
          have c55b0 : decide (t659 < (x7_4.length : Int)) = true:=decide_eq_true c55
          (try simp only [hl7_1] at c55b0)
          (try simp only [hl7_2] at c55b0)
          (try simp only [hl7_3] at c55b0)
          (try simp only [hl7_4] at c55b0)
          clear c55
          by_cases c56 : (rd x7_4 t659) > x44_2
          ·rw [if_pos c56] at H
           have c56b0 : decide (x44_2 < (rd x7_4 t659)) = true:=decide_eq_true c56
           clear c56
           obtain ⟨y661,hy661⟩ : ∃ y_ : List Int,y_ = (x7_4.set (t659 : Int).toNat x44_2):=⟨_,rfl⟩
           replace H : (if x10_4.length < 17592186044416 then (hinterlandref06_Areas.l3 k4 y661 x44_2 (x10_4 ++ [t659]) (rd x10_3 (ji45)) (x7_1.length : Int) x44_2 (wrap64 (x69_4 + 1)) a0_0 a0_1 l0_2 l1_0 l1_1) else (none)) = some (r1,r2):=by first|(rw [hy661];with_reducible exact H)|(have H2_:=(Option.bind_some _ _).symm.trans H;rw [hy661];with_reducible exact H2_)|(have H2_:=(Option.bind_some _ _).symm.trans H;with_reducible exact H2_)|with_reducible exact H|(rw [hy661];exact H)|exact H
           have Ny661:=Aside0.mk hy661
           clear hy661
           replace H:=ifp_ H;obtain ⟨c58,H⟩:=H
           have LMc58:=Aside0.mk c58
           clear c58
           obtain ⟨y662,hy662⟩ : ∃ y_ : List Int,y_ = (x10_4 ++ [t659]):=⟨_,rfl⟩
           replace H : (hinterlandref06_Areas.l3 k4 y661 x44_2 y662 (rd x10_3 (ji45)) (x7_1.length : Int) x44_2 (wrap64 (x69_4 + 1)) a0_0 a0_1 l0_2 l1_0 l1_1) = some (r1,r2):=by first|(rw [hy662];with_reducible exact H)|(have H2_:=(Option.bind_some _ _).symm.trans H;rw [hy662];with_reducible exact H2_)|(have H2_:=(Option.bind_some _ _).symm.trans H;with_reducible exact H2_)|with_reducible exact H|(rw [hy662];exact H)|exact H
           have Ny662:=Aside0.mk hy662
           clear hy662
           have H':=Aside0.mk H
           clear H
           have hnb59:=NB642_643.out
           have hnc59:=NB643_642.out
           obtain ⟨hcz60_0,hcz60_1,hcz60_2,hfz60_0,hfz60_1,hfz60_2⟩:=cells3 BK642.out
           obtain ⟨hcz61_0,hcz61_1,hfz61_0,hfz61_1⟩:=cells2 BK643.out
           go_wp2_with (first|((with_reducible refine gate_callee (f:=43) rfl ?_);refine goesL_ (some 76) rfl rfl Try.func43 (by kernel_rfl) rfl #[.agg #[.int .i64 a0_0,.int .i64 a0_1,.slice A0_2 l0_2.length c0_2],.agg #[.slice A1_0 l1_0.length c1_0,.slice A1_1 l1_1.length c1_1],.int .i64 (rd x10_3 (ji45)),.int .i64 x69_4] rfl (by (try simp only [List.map_toArray,List.map_cons,List.map_nil]);first|done|(simp only [hji45];rfl)|rfl|(simp only [List.length_drop,List.length_take];rfl)) ?_;(with_reducible refine (hinterlandref06_Meets.calls k4 a0_0 a0_1 _ _ l0_2 _ _ l1_0 _ _ l1_1 (rd x10_3 (ji45)) x69_4 t659 _ ?side1 ?side2 ?side3 ?side4 ?side5 ?side6 A52.out).mono ?_);(case side1 => exact Kd.C_up (Kd.C_below HR0_2.out HB.out));(case side2 => exact HC0_2.out);(case side3 => exact Kd.C_up (Kd.C_below HR1_0.out HB.out));(case side4 => exact HC1_0.out);(case side5 => exact Kd.C_up (Kd.C_below HR1_1.out HB.out));(case side6 => exact HC1_1.out);rintro e w62 ⟨rfl,hb⟩;refine ⟨_,rfl,?_⟩;replace HO_7:=rbw HO_7 hb;replace HO_10:=rbw HO_10 hb;replace BK642:=bkb BK642 hb;replace BK643:=bkb BK643 hb;replace HB:=Aside0.mk (below_step (hb_) hb);have p660 : 0 ≤ (t659 : Int):=of_decide_eq_true (by first|(with_reducible assumption)|assumption);have q660 : t659 < (x7_4.length : Int):=of_decide_eq_true (by first|(with_reducible assumption)|assumption);obtain ⟨ad660,e660,hx660_0⟩:=Kd.at_int (Kd.R_reads' HO_7.out).2.2 t659 p660 q660;obtain rfl : ad651 = ad660:=(by injection e660);replace p660:=eq_true p660;replace q660:=eq_true q660;have p57 : 0 ≤ (t659 : Int):=of_decide_eq_true (by first|(with_reducible assumption)|assumption);have q57 : (t659 : Int) < ((x7_4.length : Int) : Int):=of_decide_eq_true (by first|(with_reducible assumption)|assumption);obtain ⟨go57,co57,eo57,gb57,gl57,cl57,HG57⟩:=Kd.R_form HO_7.out (by omega);(first|cases eo57|(injection eo57 with ea_ en_ ec_;(first|subst ea_|(injection ea_ with ea_;subst ea_));subst ec_;clear en_));have GB57:=Aside0.mk gb57;have GG57:=Aside0.mk HG57;clear gb57 gl57 HG57;(first|simp only [add_plain] at hx651_0|skip);(first|simp only [add_plain] at hx660_0|skip);obtain ⟨hx57_0,hf57_0⟩:=Kd.R_celln 0 HO_7.out (t659 : Int) p57 q57;replace p57:=eq_true p57;replace q57:=eq_true q57;obtain ⟨hy63_,hz63_⟩:=Kd.R_celln 0 HO_7.out (t659 : Int) (of_decide_eq_true (by first|(with_reducible assumption)|assumption)) (of_decide_eq_true (by first|(with_reducible assumption)|assumption));have HP63:=Kd.R_putg HO_7.out (t659 : Int) x44_2)|((with_reducible refine gate_store (t:=3) (p:=90) rfl ?_);refine store_event (t:=3) (p:=90) (v:=?vo_w64) (w1:=(w62.setCell ⟨go57,(t659 : Int).toNat,none⟩ (.int .i64 x44_2))) ?hg ?ho ?hn ?hr ?_;(case ho => rfl);(case hg => rfl);(case hn => rfl);(case hr => first|(go_simp;done)|(go_simp;rfl));intro w64 hw;have hg : w62.grownBy w64 (some go57):=(by rw [hw];exact HP63.2);have hp_ : Kd.R (Kd.int .i64) 3 w64 w.heap.size (fun k_ => some k_ ≠ (u10 : Value).ownBlock) (.slice (some ⟨go57,0,none⟩) x7_4.length co16) y661:=(by rw [hw,Ny661.out];exact HP63.1);clear HP63;replace HO_10:=Aside0.mk (Kd.R_after (v:=(.slice (some ⟨go57,0,none⟩) x7_4.length co16)) (v1:=(.slice (some ⟨go57,0,none⟩) x7_4.length co16)) (ok:=(fun _ => True)) (by (with_reducible repeat (first|apply Kd.R_alloc|apply Kd.R_drewN|apply Kd.R_drew));exact Kd.R_mono HO_10.out (fun _ hk => ⟨trivial,hk⟩)) hg (.inl rfl));replace BK642:=Aside0.mk (blk_grown (blk_up BK642.out) hg (Kd.R_ne HO_7.out BK642.out (by decide)));replace BK643:=Aside0.mk (blk_grown (blk_up BK643.out) hg (Kd.R_ne HO_7.out BK643.out (by decide)));replace HO_7:=Aside0.mk (hp_);replace HB:=Aside0.mk ((by rw [hw];exact below_set (HB.out) GB57.out : Below w.heap.size w w64));clear hg hw hp_)|((with_reducible refine gate_builtin (b:=.append) (xs:=#[.tmp 91,.tmp 93]) rfl ?_);at_builtin;refine Kd.R_append (Kd.int .i64) (w0:=w) w.heap.size rfl (.tmp 91) (.tmp 93) 22 3 (.int .i64 0) 8 rfl Try.underlying22 info3 rfl (by decide) (by omega) u10 x10_4 t659 [.int .i64 t659] (fun k_ => some k_ ≠ (.slice (some ⟨go57,0,none⟩) x7_4.length co16 : Value).ownBlock) (fun _ => False) rfl rfl ?aP (fun _ hk => hk.elim) ?aF ?aO ?aB ?aS ?aL ?_;(case aP => exact rfl);(case aB => exact (hb_));(case aF => exact (fun k_ hk => Kd.fresh' (Kd.R_lt (Kd.R_up HO_7.out)) k_ hk));(case aO => exact (by (with_reducible repeat (first|apply Kd.R_alloc|apply Kd.R_drewN|apply Kd.R_drew));exact Kd.R_mono HO_10.out (fun _ hk => hk.2)));(case aS => exact (below_size (hb_)));(case aL => have:=LMc58.out;omega);intro v663 w65 ho hb hg hat;rw [← Ny662.out] at ho;have HO664:=Aside0.mk (ho);replace HO_7:=Aside0.mk (Kd.R_after (ok:=(fun _ => True)) (by (with_reducible repeat (first|apply Kd.R_alloc|apply Kd.R_drewN|apply Kd.R_drew));exact Kd.R_mono HO_7.out (fun _ hk => ⟨trivial,hk⟩)) hg hat);replace BK642:=Aside0.mk (blk_grown (blk_up BK642.out) hg (Kd.R_ne HO_10.out BK642.out (by decide)));replace BK643:=Aside0.mk (blk_grown (blk_up BK643.out) hg (Kd.R_ne HO_10.out BK643.out (by decide)));replace HB:=Aside0.mk (hb);clear HO_10;clear ho hb hg hat))
           (try simp only [← hl7_4])
           (try (rename ∀ (k_ : Nat) (a_ : Act) (w_ : World),_ → _ => hJ_;simp only [add_plain] at hJ_))
           go_roundg k4
           case measure => have:=HK1.out;have:=HK2.out;have:=HK3.out;have:=HK4.out;omega
           case rel => exact ⟨(y661),(y662),(wrap64 (x69_4 + 1)),(by first|rfl|(simp;done)|(simp [*];done)),H',⟨by have:=HK1.out;have:=HK2.out;have:=HK3.out;have:=HK4.out;omega⟩,⟨by (try simp only [hl7_1]);(try simp only [hl7_2]);(try simp only [hl7_3]);(try simp only [hl7_4]);(with_reducible repeat (first|apply Kd.R_alloc|apply Kd.R_drewN|apply Kd.R_drew));exact Kd.R_mono HO_7.out (fun _ hk => hk.2)⟩,⟨by (try simp only [hl7_1]);(try simp only [hl7_2]);(try simp only [hl7_3]);(try simp only [hl7_4]);(with_reducible repeat (first|apply Kd.R_alloc|apply Kd.R_drewN|apply Kd.R_drew));exact HO664.out⟩,⟨by (try simp only [hl7_1]);(try simp only [hl7_2]);(try simp only [hl7_3]);(try simp only [hl7_4]);(with_reducible repeat (first|refine blk_drewN ?_ _|refine blk_drew ?_|refine blk_alloc ?_ _));exact BK642.out⟩,⟨by (try simp only [hl7_1]);(try simp only [hl7_2]);(try simp only [hl7_3]);(try simp only [hl7_4]);(with_reducible repeat (first|refine blk_drewN ?_ _|refine blk_drew ?_|refine blk_alloc ?_ _));exact BK643.out⟩,⟨hb_⟩⟩
          ·rw [if_neg c56] at H
           have c56b0 : decide (x44_2 < (rd x7_4 t659)) = false:=decide_eq_false c56
           clear c56
           have H':=Aside0.mk H
           clear H
           have hnb66:=NB642_643.out
           have hnc66:=NB643_642.out
           obtain ⟨hcz67_0,hcz67_1,hcz67_2,hfz67_0,hfz67_1,hfz67_2⟩:=cells3 BK642.out
           obtain ⟨hcz68_0,hcz68_1,hfz68_0,hfz68_1⟩:=cells2 BK643.out
           go_wp2_with (first|((with_reducible refine gate_callee (f:=43) rfl ?_);refine goesL_ (some 76) rfl rfl Try.func43 (by kernel_rfl) rfl #[.agg #[.int .i64 a0_0,.int .i64 a0_1,.slice A0_2 l0_2.length c0_2],.agg #[.slice A1_0 l1_0.length c1_0,.slice A1_1 l1_1.length c1_1],.int .i64 (rd x10_3 (ji45)),.int .i64 x69_4] rfl (by (try simp only [List.map_toArray,List.map_cons,List.map_nil]);first|done|(simp only [hji45];rfl)|rfl|(simp only [List.length_drop,List.length_take];rfl)) ?_;(with_reducible refine (hinterlandref06_Meets.calls k4 a0_0 a0_1 _ _ l0_2 _ _ l1_0 _ _ l1_1 (rd x10_3 (ji45)) x69_4 t659 _ ?side1 ?side2 ?side3 ?side4 ?side5 ?side6 A52.out).mono ?_);(case side1 => exact Kd.C_up (Kd.C_below HR0_2.out HB.out));(case side2 => exact HC0_2.out);(case side3 => exact Kd.C_up (Kd.C_below HR1_0.out HB.out));(case side4 => exact HC1_0.out);(case side5 => exact Kd.C_up (Kd.C_below HR1_1.out HB.out));(case side6 => exact HC1_1.out);rintro e w69 ⟨rfl,hb⟩;refine ⟨_,rfl,?_⟩;replace HO_7:=rbw HO_7 hb;replace HO_10:=rbw HO_10 hb;replace BK642:=bkb BK642 hb;replace BK643:=bkb BK643 hb;replace HB:=Aside0.mk (below_step (hb_) hb);have p660 : 0 ≤ (t659 : Int):=of_decide_eq_true (by first|(with_reducible assumption)|assumption);have q660 : t659 < (x7_4.length : Int):=of_decide_eq_true (by first|(with_reducible assumption)|assumption);obtain ⟨ad660,e660,hx660_0⟩:=Kd.at_int (Kd.R_reads' HO_7.out).2.2 t659 p660 q660;obtain rfl : ad651 = ad660:=(by injection e660);replace p660:=eq_true p660;replace q660:=eq_true q660))
           (try simp only [← hl7_4])
           (try (rename ∀ (k_ : Nat) (a_ : Act) (w_ : World),_ → _ => hJ_;simp only [add_plain] at hJ_))
           go_roundg k4
           case measure => have:=HK1.out;have:=HK2.out;have:=HK3.out;have:=HK4.out;omega
           case rel => exact ⟨(x7_4),(x10_4),(wrap64 (x69_4 + 1)),(by first|rfl|(simp;done)|(simp [*];done)),H',⟨by have:=HK1.out;have:=HK2.out;have:=HK3.out;have:=HK4.out;omega⟩,⟨by (try simp only [hl7_1]);(try simp only [hl7_2]);(try simp only [hl7_3]);(try simp only [hl7_4]);(with_reducible repeat (first|apply Kd.R_alloc|apply Kd.R_drewN|apply Kd.R_drew));exact HO_7.out⟩,⟨by (try simp only [hl7_1]);(try simp only [hl7_2]);(try simp only [hl7_3]);(try simp only [hl7_4]);(with_reducible repeat (first|apply Kd.R_alloc|apply Kd.R_drewN|apply Kd.R_drew));exact HO_10.out⟩,⟨by (try simp only [hl7_1]);(try simp only [hl7_2]);(try simp only [hl7_3]);(try simp only [hl7_4]);(with_reducible repeat (first|refine blk_drewN ?_ _|refine blk_drew ?_|refine blk_alloc ?_ _));exact BK642.out⟩,⟨by (try simp only [hl7_1]);(try simp only [hl7_2]);(try simp only [hl7_3]);(try simp only [hl7_4]);(with_reducible repeat (first|refine blk_drewN ?_ _|refine blk_drew ?_|refine blk_alloc ?_ _));exact BK643.out⟩,⟨hb_⟩⟩
         ·rw [if_neg c53] at H
          have c53b0 : decide (0 ≤ t659) = false:=decide_eq_false c53
          clear c53
          have H':=Aside0.mk H
          clear H
          have hnb70:=NB642_643.out
          have hnc70:=NB643_642.out
          obtain ⟨hcz71_0,hcz71_1,hcz71_2,hfz71_0,hfz71_1,hfz71_2⟩:=cells3 BK642.out
          obtain ⟨hcz72_0,hcz72_1,hfz72_0,hfz72_1⟩:=cells2 BK643.out
          go_wp2_with (first|((with_reducible refine gate_callee (f:=43) rfl ?_);refine goesL_ (some 76) rfl rfl Try.func43 (by kernel_rfl) rfl #[.agg #[.int .i64 a0_0,.int .i64 a0_1,.slice A0_2 l0_2.length c0_2],.agg #[.slice A1_0 l1_0.length c1_0,.slice A1_1 l1_1.length c1_1],.int .i64 (rd x10_3 (ji45)),.int .i64 x69_4] rfl (by (try simp only [List.map_toArray,List.map_cons,List.map_nil]);first|done|(simp only [hji45];rfl)|rfl|(simp only [List.length_drop,List.length_take];rfl)) ?_;(with_reducible refine (hinterlandref06_Meets.calls k4 a0_0 a0_1 _ _ l0_2 _ _ l1_0 _ _ l1_1 (rd x10_3 (ji45)) x69_4 t659 _ ?side1 ?side2 ?side3 ?side4 ?side5 ?side6 A52.out).mono ?_);(case side1 => exact Kd.C_up (Kd.C_below HR0_2.out HB.out));(case side2 => exact HC0_2.out);(case side3 => exact Kd.C_up (Kd.C_below HR1_0.out HB.out));(case side4 => exact HC1_0.out);(case side5 => exact Kd.C_up (Kd.C_below HR1_1.out HB.out));(case side6 => exact HC1_1.out);rintro e w73 ⟨rfl,hb⟩;refine ⟨_,rfl,?_⟩;replace HO_7:=rbw HO_7 hb;replace HO_10:=rbw HO_10 hb;replace BK642:=bkb BK642 hb;replace BK643:=bkb BK643 hb;replace HB:=Aside0.mk (below_step (hb_) hb)))
          (try simp only [← hl7_4])
          (try (rename ∀ (k_ : Nat) (a_ : Act) (w_ : World),_ → _ => hJ_;simp only [add_plain] at hJ_))
          go_roundg k4
          case measure => have:=HK1.out;have:=HK2.out;have:=HK3.out;have:=HK4.out;omega
          case rel => exact ⟨(x7_4),(x10_4),(wrap64 (x69_4 + 1)),(by first|rfl|(simp;done)|(simp [*];done)),H',⟨by have:=HK1.out;have:=HK2.out;have:=HK3.out;have:=HK4.out;omega⟩,⟨by (try simp only [hl7_1]);(try simp only [hl7_2]);(try simp only [hl7_3]);(try simp only [hl7_4]);(with_reducible repeat (first|apply Kd.R_alloc|apply Kd.R_drewN|apply Kd.R_drew));exact HO_7.out⟩,⟨by (try simp only [hl7_1]);(try simp only [hl7_2]);(try simp only [hl7_3]);(try simp only [hl7_4]);(with_reducible repeat (first|apply Kd.R_alloc|apply Kd.R_drewN|apply Kd.R_drew));exact HO_10.out⟩,⟨by (try simp only [hl7_1]);(try simp only [hl7_2]);(try simp only [hl7_3]);(try simp only [hl7_4]);(with_reducible repeat (first|refine blk_drewN ?_ _|refine blk_drew ?_|refine blk_alloc ?_ _));exact BK642.out⟩,⟨by (try simp only [hl7_1]);(try simp only [hl7_2]);(try simp only [hl7_3]);(try simp only [hl7_4]);(with_reducible repeat (first|refine blk_drewN ?_ _|refine blk_drew ?_|refine blk_alloc ?_ _));exact BK643.out⟩,⟨hb_⟩⟩

end Go.Proofs.Ytiencnnkphipoaa.P

/- Functions of this seat as plain Lean functions, with proofs that the Go code comes to just their answers, or what stands between them and a law's statement; no conditions. (Laid by a program of this session, out of the kit's print.) -/
import Derived.Test.YthbjchicpebglaaPx0
import Derived.Test.YthbjchicpebglaaPx5
namespace Go.Proofs.Ythbjchicpebglaa.P
open Go.RowKit Go.Proofs.YthbjchicpebglaaW.PrintWords Go.Proofs.YthbjchicpebglaaW.PrintLast Go.Proofs.YthbjchicpebglaaW.PrintMore
attribute [local go_sem] max2_int min2_int max_two min_two max_three min_three max_four min_four   -- for this text's walks alone
set_option linter.unusedVariables false
set_option linter.unusedSimpArgs false

/-! ### hinterlandref15_Insert: function 35 -/
mutual
def hinterlandref15_Insert.j0 : Nat → List (S33) → Int → Bool → Int → Int → Int → Int → Int → Int → Int → Int → Int → Option ((List (S33)) × Int)
 | 0,_,_,_,_,_,_,_,_,_,_,_,_ => none
 | k + 1,x0,x1,x25,x154000,x154001,x154002,x154003,x154004,x154005,x154006,x154007,x154008 => if x25 = true then (some (([] : List (S33)),2)) else (if (x0.length : Int) ≥ 40 then (some (([] : List (S33)),4)) else (hinterlandref15_Insert.l0 k x0 x1 ([] : List (S33)) 0 x154000 x154001 x154002 x154003 x154004 x154005 x154006 x154007 x154008))
def hinterlandref15_Insert.l0 : Nat → List (S33) → Int → List (S33) → Int → Int → Int → Int → Int → Int → Int → Int → Int → Int → Option ((List (S33)) × Int)
 | 0,_,_,_,_,_,_,_,_,_,_,_,_,_ => none
 | k + 1,x0,x1,x9,x10,x154000,x154001,x154002,x154003,x154004,x154005,x154006,x154007,x154008 => if x10 ≤ (x0.length : Int) then (if x10 = x1 then (if x9.length < 1954687338268 then (hinterlandref15_Insert.j2 k x0 x1 (x9 ++ [(⟨x154000,x154001,x154002,x154003,x154004,x154005,x154006,x154007,x154008⟩ : S33)]) x10 x154000 x154001 x154002 x154003 x154004 x154005 x154006 x154007 x154008) else (none)) else (hinterlandref15_Insert.j2 k x0 x1 x9 x10 x154000 x154001 x154002 x154003 x154004 x154005 x154006 x154007 x154008)) else ((hinterlandref15_Validate.f k x9).bind fun t166 => (if t166 = 0 then (some (x9,0)) else (some (([] : List (S33)),t166))))
def hinterlandref15_Insert.j2 : Nat → List (S33) → Int → List (S33) → Int → Int → Int → Int → Int → Int → Int → Int → Int → Int → Option ((List (S33)) × Int)
 | 0,_,_,_,_,_,_,_,_,_,_,_,_,_ => none
 | k + 1,x0,x1,x9,x10,x154000,x154001,x154002,x154003,x154004,x154005,x154006,x154007,x154008 => if x10 < (x0.length : Int) then (if 0 ≤ x10 then (if ((rd_T33 x0 x10).f0) = 2 then (hinterlandref15_Insert.j3 k x0 x1 x9 x10 (decide (((rd_T33 x0 x10).f6) ≥ x1)) x154000 x154001 x154002 x154003 x154004 x154005 x154006 x154007 x154008 ((rd_T33 x0 x10).f0) ((rd_T33 x0 x10).f1) ((rd_T33 x0 x10).f2) ((rd_T33 x0 x10).f3) ((rd_T33 x0 x10).f4) ((rd_T33 x0 x10).f5) ((rd_T33 x0 x10).f6) ((rd_T33 x0 x10).f7) ((rd_T33 x0 x10).f8)) else (hinterlandref15_Insert.j3 k x0 x1 x9 x10 false x154000 x154001 x154002 x154003 x154004 x154005 x154006 x154007 x154008 ((rd_T33 x0 x10).f0) ((rd_T33 x0 x10).f1) ((rd_T33 x0 x10).f2) ((rd_T33 x0 x10).f3) ((rd_T33 x0 x10).f4) ((rd_T33 x0 x10).f5) ((rd_T33 x0 x10).f6) ((rd_T33 x0 x10).f7) ((rd_T33 x0 x10).f8))) else (none)) else (hinterlandref15_Insert.l0 k x0 x1 x9 (wrap64 (x10 + 1)) x154000 x154001 x154002 x154003 x154004 x154005 x154006 x154007 x154008)
def hinterlandref15_Insert.j3 : Nat → List (S33) → Int → List (S33) → Int → Bool → Int → Int → Int → Int → Int → Int → Int → Int → Int → Int → Int → Int → Int → Int → Int → Int → Int → Int → Option ((List (S33)) × Int)
 | 0,_,_,_,_,_,_,_,_,_,_,_,_,_,_,_,_,_,_,_,_,_,_,_ => none
 | k + 1,x0,x1,x9,x10,x58,x154000,x154001,x154002,x154003,x154004,x154005,x154006,x154007,x154008,x160000,x160001,x160002,x160003,x160004,x160005,x160006,x160007,x160008 => if x58 = true then (if x9.length < 1954687338268 then (hinterlandref15_Insert.l0 k x0 x1 (x9 ++ [(⟨x160000,x160001,x160002,x160003,x160004,x160005,wrap64 (x160006 + 1),x160007,x160008⟩ : S33)]) (wrap64 (x10 + 1)) x154000 x154001 x154002 x154003 x154004 x154005 x154006 x154007 x154008) else (none)) else (if x9.length < 1954687338268 then (hinterlandref15_Insert.l0 k x0 x1 (x9 ++ [(⟨x160000,x160001,x160002,x160003,x160004,x160005,x160006,x160007,x160008⟩ : S33)]) (wrap64 (x10 + 1)) x154000 x154001 x154002 x154003 x154004 x154005 x154006 x154007 x154008) else (none))
end
def hinterlandref15_Insert.f (k : Nat) (l0 : List (S33)) (a1 : Int) (a2_0 : Int) (a2_1 : Int) (a2_2 : Int) (a2_3 : Int) (a2_4 : Int) (a2_5 : Int) (a2_6 : Int) (a2_7 : Int) (a2_8 : Int) : Option ((List (S33)) × Int) := (hinterlandref15_Validate.f k l0).bind fun t154 => (if t154 = 0 then (if a1 < 0 then (hinterlandref15_Insert.j0 k l0 a1 true a2_0 a2_1 a2_2 a2_3 a2_4 a2_5 a2_6 a2_7 a2_8) else (hinterlandref15_Insert.j0 k l0 a1 (decide (a1 > (l0.length : Int))) a2_0 a2_1 a2_2 a2_3 a2_4 a2_5 a2_6 a2_7 a2_8)) else (some (([] : List (S33)), t154)))
theorem hinterlandref15_Insert.mono_l : ∀ k, (∀ y0 y1 y2 y3 y4 y5 y6 y7 y8 y9 y10 y11, LeO (hinterlandref15_Insert.j0 k y0 y1 y2 y3 y4 y5 y6 y7 y8 y9 y10 y11) (hinterlandref15_Insert.j0 (k + 1) y0 y1 y2 y3 y4 y5 y6 y7 y8 y9 y10 y11)) ∧ (∀ y0 y1 y2 y3 y4 y5 y6 y7 y8 y9 y10 y11 y12, LeO (hinterlandref15_Insert.l0 k y0 y1 y2 y3 y4 y5 y6 y7 y8 y9 y10 y11 y12) (hinterlandref15_Insert.l0 (k + 1) y0 y1 y2 y3 y4 y5 y6 y7 y8 y9 y10 y11 y12)) ∧ (∀ y0 y1 y2 y3 y4 y5 y6 y7 y8 y9 y10 y11 y12, LeO (hinterlandref15_Insert.j2 k y0 y1 y2 y3 y4 y5 y6 y7 y8 y9 y10 y11 y12) (hinterlandref15_Insert.j2 (k + 1) y0 y1 y2 y3 y4 y5 y6 y7 y8 y9 y10 y11 y12)) ∧ (∀ y0 y1 y2 y3 y4 y5 y6 y7 y8 y9 y10 y11 y12 y13 y14 y15 y16 y17 y18 y19 y20 y21 y22, LeO (hinterlandref15_Insert.j3 k y0 y1 y2 y3 y4 y5 y6 y7 y8 y9 y10 y11 y12 y13 y14 y15 y16 y17 y18 y19 y20 y21 y22) (hinterlandref15_Insert.j3 (k + 1) y0 y1 y2 y3 y4 y5 y6 y7 y8 y9 y10 y11 y12 y13 y14 y15 y16 y17 y18 y19 y20 y21 y22))
 | 0 => ⟨fun _ _ _ _ _ _ _ _ _ _ _ _ r h => by simp [hinterlandref15_Insert.j0] at h,fun _ _ _ _ _ _ _ _ _ _ _ _ _ r h => by simp [hinterlandref15_Insert.l0] at h,fun _ _ _ _ _ _ _ _ _ _ _ _ _ r h => by simp [hinterlandref15_Insert.j2] at h,fun _ _ _ _ _ _ _ _ _ _ _ _ _ _ _ _ _ _ _ _ _ _ _ r h => by simp [hinterlandref15_Insert.j3] at h⟩
 | k + 1 => by
  obtain ⟨ih0,ih1,ih2,ih3⟩:=hinterlandref15_Insert.mono_l k
  refine ⟨?_,?_,?_,?_⟩
  ·intro y0 y1 y2 y3 y4 y5 y6 y7 y8 y9 y10 y11
   unfold hinterlandref15_Insert.j0
   repeat' first
   | (with_reducible exact ih0 _ _ _ _ _ _ _ _ _ _ _ _)
   | (with_reducible exact ih1 _ _ _ _ _ _ _ _ _ _ _ _ _)
   | (with_reducible exact ih2 _ _ _ _ _ _ _ _ _ _ _ _ _)
   | (with_reducible exact ih3 _ _ _ _ _ _ _ _ _ _ _ _ _ _ _ _ _ _ _ _ _ _ _)
   | (with_reducible exact hinterlandref15_Validate.mono _ _)
   | (with_reducible exact LeO.refl _)
   | (with_reducible exact LeO.none _)
   | (with_reducible refine LeO.ite ?_ ?_)
   | (with_reducible refine LeO.bind ?_ (fun _ => ?_))
   | exact ih0 _ _ _ _ _ _ _ _ _ _ _ _
   | exact ih1 _ _ _ _ _ _ _ _ _ _ _ _ _
   | exact ih2 _ _ _ _ _ _ _ _ _ _ _ _ _
   | exact ih3 _ _ _ _ _ _ _ _ _ _ _ _ _ _ _ _ _ _ _ _ _ _ _
   | exact hinterlandref15_Validate.mono _ _
   | exact LeO.none _
   | refine LeO.ite ?_ ?_
   | refine LeO.bind ?_ (fun _ => ?_)
  ·intro y0 y1 y2 y3 y4 y5 y6 y7 y8 y9 y10 y11 y12
   unfold hinterlandref15_Insert.l0
   repeat' first
   | (with_reducible exact ih0 _ _ _ _ _ _ _ _ _ _ _ _)
   | (with_reducible exact ih1 _ _ _ _ _ _ _ _ _ _ _ _ _)
   | (with_reducible exact ih2 _ _ _ _ _ _ _ _ _ _ _ _ _)
   | (with_reducible exact ih3 _ _ _ _ _ _ _ _ _ _ _ _ _ _ _ _ _ _ _ _ _ _ _)
   | (with_reducible exact hinterlandref15_Validate.mono _ _)
   | (with_reducible exact LeO.refl _)
   | (with_reducible exact LeO.none _)
   | (with_reducible refine LeO.ite ?_ ?_)
   | (with_reducible refine LeO.bind ?_ (fun _ => ?_))
   | exact ih0 _ _ _ _ _ _ _ _ _ _ _ _
   | exact ih1 _ _ _ _ _ _ _ _ _ _ _ _ _
   | exact ih2 _ _ _ _ _ _ _ _ _ _ _ _ _
   | exact ih3 _ _ _ _ _ _ _ _ _ _ _ _ _ _ _ _ _ _ _ _ _ _ _
   | exact hinterlandref15_Validate.mono _ _
   | exact LeO.none _
   | refine LeO.ite ?_ ?_
   | refine LeO.bind ?_ (fun _ => ?_)
  ·intro y0 y1 y2 y3 y4 y5 y6 y7 y8 y9 y10 y11 y12
   unfold hinterlandref15_Insert.j2
   repeat' first
   | (with_reducible exact ih0 _ _ _ _ _ _ _ _ _ _ _ _)
   | (with_reducible exact ih1 _ _ _ _ _ _ _ _ _ _ _ _ _)
   | (with_reducible exact ih2 _ _ _ _ _ _ _ _ _ _ _ _ _)
   | (with_reducible exact ih3 _ _ _ _ _ _ _ _ _ _ _ _ _ _ _ _ _ _ _ _ _ _ _)
   | (with_reducible exact hinterlandref15_Validate.mono _ _)
   | (with_reducible exact LeO.refl _)
   | (with_reducible exact LeO.none _)
   | (with_reducible refine LeO.ite ?_ ?_)
   | (with_reducible refine LeO.bind ?_ (fun _ => ?_))
   | exact ih0 _ _ _ _ _ _ _ _ _ _ _ _
   | exact ih1 _ _ _ _ _ _ _ _ _ _ _ _ _
   | exact ih2 _ _ _ _ _ _ _ _ _ _ _ _ _
   | exact ih3 _ _ _ _ _ _ _ _ _ _ _ _ _ _ _ _ _ _ _ _ _ _ _
   | exact hinterlandref15_Validate.mono _ _
   | exact LeO.none _
   | refine LeO.ite ?_ ?_
   | refine LeO.bind ?_ (fun _ => ?_)
  ·intro y0 y1 y2 y3 y4 y5 y6 y7 y8 y9 y10 y11 y12 y13 y14 y15 y16 y17 y18 y19 y20 y21 y22
   unfold hinterlandref15_Insert.j3
   repeat' first
   | (with_reducible exact ih0 _ _ _ _ _ _ _ _ _ _ _ _)
   | (with_reducible exact ih1 _ _ _ _ _ _ _ _ _ _ _ _ _)
   | (with_reducible exact ih2 _ _ _ _ _ _ _ _ _ _ _ _ _)
   | (with_reducible exact ih3 _ _ _ _ _ _ _ _ _ _ _ _ _ _ _ _ _ _ _ _ _ _ _)
   | (with_reducible exact hinterlandref15_Validate.mono _ _)
   | (with_reducible exact LeO.refl _)
   | (with_reducible exact LeO.none _)
   | (with_reducible refine LeO.ite ?_ ?_)
   | (with_reducible refine LeO.bind ?_ (fun _ => ?_))
   | exact ih0 _ _ _ _ _ _ _ _ _ _ _ _
   | exact ih1 _ _ _ _ _ _ _ _ _ _ _ _ _
   | exact ih2 _ _ _ _ _ _ _ _ _ _ _ _ _
   | exact ih3 _ _ _ _ _ _ _ _ _ _ _ _ _ _ _ _ _ _ _ _ _ _ _
   | exact hinterlandref15_Validate.mono _ _
   | exact LeO.none _
   | refine LeO.ite ?_ ?_
   | refine LeO.bind ?_ (fun _ => ?_)
theorem hinterlandref15_Insert.mono : ∀ a0 a1 a2 a3 a4 a5 a6 a7 a8 a9 a10 k, LeO (hinterlandref15_Insert.f k a0 a1 a2 a3 a4 a5 a6 a7 a8 a9 a10) (hinterlandref15_Insert.f (k + 1) a0 a1 a2 a3 a4 a5 a6 a7 a8 a9 a10) := by
 intro a0 a1 a2 a3 a4 a5 a6 a7 a8 a9 a10 k
 obtain ⟨ih0,ih1,ih2,ih3⟩:=hinterlandref15_Insert.mono_l k
 unfold hinterlandref15_Insert.f
 repeat' first
   | (with_reducible exact ih0 _ _ _ _ _ _ _ _ _ _ _ _)
   | (with_reducible exact ih1 _ _ _ _ _ _ _ _ _ _ _ _ _)
   | (with_reducible exact ih2 _ _ _ _ _ _ _ _ _ _ _ _ _)
   | (with_reducible exact ih3 _ _ _ _ _ _ _ _ _ _ _ _ _ _ _ _ _ _ _ _ _ _ _)
   | (with_reducible exact hinterlandref15_Validate.mono _ _)
   | (with_reducible exact LeO.refl _)
   | (with_reducible exact LeO.none _)
   | (with_reducible refine LeO.ite ?_ ?_)
   | (with_reducible refine LeO.bind ?_ (fun _ => ?_))
   | exact ih0 _ _ _ _ _ _ _ _ _ _ _ _
   | exact ih1 _ _ _ _ _ _ _ _ _ _ _ _ _
   | exact ih2 _ _ _ _ _ _ _ _ _ _ _ _ _
   | exact ih3 _ _ _ _ _ _ _ _ _ _ _ _ _ _ _ _ _ _ _ _ _ _ _
   | exact hinterlandref15_Validate.mono _ _
   | exact LeO.none _
   | refine LeO.ite ?_ ?_
   | refine LeO.bind ?_ (fun _ => ?_)
set_option maxHeartbeats 8000000 in
set_option maxRecDepth 100000 in
theorem hinterlandref15_Insert.calls (k : Nat) (A0 : Option Addr) (c0 : Nat) (l0 : List (S33)) (a1 : Int) (a2_0 : Int) (a2_1 : Int) (a2_2 : Int) (a2_3 : Int) (a2_4 : Int) (a2_5 : Int) (a2_6 : Int) (a2_7 : Int) (a2_8 : Int) (r1 : List (S33)) (r2 : Int) (w : World) (hr0 : Kd.C k33 w A0 l0.length l0) (hc0 : l0.length ≤ c0) (h : hinterlandref15_Insert.f k l0 a1 a2_0 a2_1 a2_2 a2_3 a2_4 a2_5 a2_6 a2_7 a2_8 = some (r1, r2)) :
  Calls Try.prog 35 #[.slice A0 l0.length c0,.int .i64 a1,.agg #[.int .i64 a2_0,.int .i64 a2_1,.int .i64 a2_2,.int .i64 a2_3,.int .i64 a2_4,.int .i64 a2_5,.int .i64 a2_6,.int .i64 a2_7,.int .i64 a2_8]] w fun e w' => ∃ v0_ : Value,e = .returned (.tuple #[v0_,.int .i64 r2]) ∧ Kd.R k33 33 w' w.heap.size (fun _ => True) v0_ r1 ∧ Below w.heap.size w w':=by
 have hu33:=Try.underlying33
 have HR0:=Aside0.mk hr0
 have HC0:=Aside0.mk hc0
 clear hr0 hc0
 have HB:=Aside0.mk (Below.refl w.heap.size w)
 have H : ((hinterlandref15_Validate.f k l0).bind fun t154 => (if t154 = 0 then (if a1 < 0 then (hinterlandref15_Insert.j0 k l0 a1 true a2_0 a2_1 a2_2 a2_3 a2_4 a2_5 a2_6 a2_7 a2_8) else (hinterlandref15_Insert.j0 k l0 a1 (decide (a1 > (l0.length : Int))) a2_0 a2_1 a2_2 a2_3 a2_4 a2_5 a2_6 a2_7 a2_8)) else (some (([] : List (S33)),t154)))) = some (r1,r2):=h
 clear h
 replace H:=Option.bind_eq_some_iff.mp H
 obtain ⟨t154,A40,H⟩:=H
 replace H : (if t154 = 0 then (if a1 < 0 then (hinterlandref15_Insert.j0 k l0 a1 true a2_0 a2_1 a2_2 a2_3 a2_4 a2_5 a2_6 a2_7 a2_8) else (hinterlandref15_Insert.j0 k l0 a1 (decide (a1 > (l0.length : Int))) a2_0 a2_1 a2_2 a2_3 a2_4 a2_5 a2_6 a2_7 a2_8)) else (some (([] : List (S33)),t154))) = some (r1,r2):=H
 have A4:=Aside0.mk A40
 clear A40
 by_cases c5 : t154 = 0
 rotate_left
 ·rw [if_neg c5] at H
  have c5b0 : (t154 == 0) = false:=beq_eq_false_iff_ne.mpr c5
  have c5b1 : (t154 != 0) = true:=bne_iff_ne.mpr c5
  simp only [Option.some.injEq,Prod.mk.injEq] at H
  obtain ⟨rfl,rfl⟩:=H
  go_enter Try.func35,Try.ntmps35
  go_wp2_with (first|((with_reducible refine gate_dst (N:=5) rfl ?_);(try (refine gate_guard (by rfl) ?_;dsimp only));refine box_ev (N:=5) (cs:=#[.int .i64 a2_0,.int .i64 a2_1,.int .i64 a2_2,.int .i64 a2_3,.int .i64 a2_4,.int .i64 a2_5,.int .i64 a2_6,.int .i64 a2_7,.int .i64 a2_8]) (t:=33) ?_;intro gb153 hg w44 hbox hb;have BK153:=Aside0.mk (hbox);have GW153 : Aside0 (w.heap.size ≤ gb153):=gsz hg;have GE153:=GW153;replace HB:=Aside0.mk (below_step (hb_) hb);clear hb hbox hg)|((with_reducible refine gate_callee (f:=17) rfl ?_);refine goesL_ (some 14) rfl rfl Try.func17 (by kernel_rfl) rfl #[.slice A0 l0.length c0] rfl (by (try simp only [List.map_toArray,List.map_cons,List.map_nil]);first|done|rfl|(simp only [List.length_drop,List.length_take];rfl)) ?_;(with_reducible refine (hinterlandref15_Validate.calls k _ _ l0 t154 _ ?side1 ?side2 A4.out).mono ?_);(case side1 => exact Kd.C_up (Kd.C_below HR0.out HB.out));(case side2 => exact HC0.out);rintro e w45 ⟨rfl,hb⟩;refine ⟨_,rfl,?_⟩;replace BK153:=bkb BK153 hb;replace HB:=Aside0.mk (below_step (hb_) hb)))
  go_ret2
  exact ⟨_,by first|rfl|(simp [errW_none,errW_some] <;> rfl)|(simp [*,errW_none,errW_some] <;> rfl),by first|exact Kd.R_nil _ _ _ _ _|exact Kd.N_nil _ _ _ _ _|exact Kd.V_nil _ _ _ _ _|exact Kd.Q_nil _ _ _ _ _|exact Kd.S_nil _ _ _ _ _,hb_⟩
 rw [if_pos c5] at H
 have c5b0 : (t154 == 0) = true:=beq_iff_eq.mpr c5
 have c5b1 : (t154 != 0) = false:=bne_eq_false_iff_eq.mpr c5
 clear c5
 have HC6:=Aside0.mk H
 clear H
 go_enter Try.func35,Try.ntmps35
 go_upto_region 4 with (first|((with_reducible refine gate_dst (N:=5) rfl ?_);(try (refine gate_guard (by rfl) ?_;dsimp only));refine box_ev (N:=5) (cs:=#[.int .i64 a2_0,.int .i64 a2_1,.int .i64 a2_2,.int .i64 a2_3,.int .i64 a2_4,.int .i64 a2_5,.int .i64 a2_6,.int .i64 a2_7,.int .i64 a2_8]) (t:=33) ?_;intro gb153 hg w7 hbox hb;have BK153:=Aside0.mk (hbox);have GW153 : Aside0 (w.heap.size ≤ gb153):=gsz hg;have GE153:=GW153;replace HB:=Aside0.mk (below_step (hb_) hb);clear hb hbox hg)|((with_reducible refine gate_callee (f:=17) rfl ?_);refine goesL_ (some 14) rfl rfl Try.func17 (by kernel_rfl) rfl #[.slice A0 l0.length c0] rfl (by (try simp only [List.map_toArray,List.map_cons,List.map_nil]);first|done|rfl|(simp only [List.length_drop,List.length_take];rfl)) ?_;(with_reducible refine (hinterlandref15_Validate.calls k _ _ l0 t154 _ ?side1 ?side2 A4.out).mono ?_);(case side1 => exact Kd.C_up (Kd.C_below HR0.out HB.out));(case side2 => exact HC0.out);rintro e w8 ⟨rfl,hb⟩;refine ⟨_,rfl,?_⟩;replace BK153:=bkb BK153 hb;replace HB:=Aside0.mk (below_step (hb_) hb)))
 (try simp only [Act.put,List.setIfInBounds_toArray,List.set_cons_zero,List.set_cons_succ])
 go_cut [25] (fun v25 wc => ∃ (kq : Nat) (x25_5 : Bool),v25 = .bool x25_5 ∧ Aside0 (hinterlandref15_Insert.j0 kq l0 a1 x25_5 a2_0 a2_1 a2_2 a2_3 a2_4 a2_5 a2_6 a2_7 a2_8 = some (r1,r2)) ∧ Aside0 (kq ≤ k) ∧ Aside0 (wc.heap[gb153]? = some (.cells #[.int .i64 a2_0,.int .i64 a2_1,.int .i64 a2_2,.int .i64 a2_3,.int .i64 a2_4,.int .i64 a2_5,.int .i64 a2_6,.int .i64 a2_7,.int .i64 a2_8] 33 (0,0))) ∧ Aside0 (Below w.heap.size w wc))
 case first =>
  have H:=HC6.out
  clear HC6
  by_cases c9 : a1 < 0
  ·rw [if_pos c9] at H
   have c9b0 : decide (a1 < 0) = true:=decide_eq_true c9
   clear c9
   (first|rw [c9b0]|(simp only [i64_w,i32_w];rw [c9b0])|skip)
   have H':=Aside0.mk H
   clear H
   go_wp2
   go_meet
   case rel => exact ⟨_,(true),(by first|rfl|(simp;done)|(simp [*];done)),H',⟨by first|omega|exact Nat.le_refl _⟩,⟨blk_up BK153.out⟩,⟨hb_⟩⟩
  ·rw [if_neg c9] at H
   have c9b0 : decide (a1 < 0) = false:=decide_eq_false c9
   clear c9
   (first|rw [c9b0]|(simp only [i64_w,i32_w];rw [c9b0])|skip)
   have H':=Aside0.mk H
   clear H
   go_wp2
   go_meet
   case rel => exact ⟨_,(decide (a1 > (l0.length : Int))),(by first|rfl|(simp;done)|(simp [*];done)),H',⟨by first|omega|exact Nat.le_refl _⟩,⟨blk_up BK153.out⟩,⟨hb_⟩⟩
 case rest =>
  clear HC6
  obtain ⟨kq,x25_5,rfl,HA,HJ5,BK153,HB⟩:=hcut
  cases kq with
  | zero => exact absurd HA.out (by simp [hinterlandref15_Insert.j0])
  | succ kj5 =>
   have H:=HA.out
   clear HA
   simp only [hinterlandref15_Insert.j0] at H
   by_cases c10 : x25_5 = true
   ·subst c10
    have H1 : (some (([] : List (S33)),2)) = some (r1,r2):=by rw [if_pos rfl] at H;exact H
    clear H
    have H:=H1
    clear H1
    simp only [Option.some.injEq,Prod.mk.injEq] at H
    obtain ⟨rfl,rfl⟩:=H
    go_wp2
    go_ret2
    exact ⟨_,by first|rfl|(simp [errW_none,errW_some] <;> rfl)|(simp [*,errW_none,errW_some] <;> rfl),by first|exact Kd.R_nil _ _ _ _ _|exact Kd.N_nil _ _ _ _ _|exact Kd.V_nil _ _ _ _ _|exact Kd.Q_nil _ _ _ _ _|exact Kd.S_nil _ _ _ _ _,hb_⟩
   ·replace c10:=Bool.eq_false_iff.mpr c10
    subst c10
    have H1 : (if (l0.length : Int) ≥ 40 then (some (([] : List (S33)),4)) else (hinterlandref15_Insert.l0 kj5 l0 a1 ([] : List (S33)) 0 a2_0 a2_1 a2_2 a2_3 a2_4 a2_5 a2_6 a2_7 a2_8)) = some (r1,r2):=by rw [if_neg (show ¬ (false = true) by decide)] at H;exact H
    clear H
    have H:=H1
    clear H1
    by_cases c11 : (l0.length : Int) ≥ 40
    ·rw [if_pos c11] at H
     have c11b0 : decide (40 ≤ (l0.length : Int)) = true:=decide_eq_true c11
     have c11b1 : decide (40 ≤ l0.length) = true:=decide_eq_true (by omega)
     clear c11
     simp only [Option.some.injEq,Prod.mk.injEq] at H
     obtain ⟨rfl,rfl⟩:=H
     go_wp2
     go_ret2
     exact ⟨_,by first|rfl|(simp [errW_none,errW_some] <;> rfl)|(simp [*,errW_none,errW_some] <;> rfl),by first|exact Kd.R_nil _ _ _ _ _|exact Kd.N_nil _ _ _ _ _|exact Kd.V_nil _ _ _ _ _|exact Kd.Q_nil _ _ _ _ _|exact Kd.S_nil _ _ _ _ _,hb_⟩
    rw [if_neg c11] at H
    have c11b0 : decide (40 ≤ (l0.length : Int)) = false:=decide_eq_false c11
    have c11b1 : decide (40 ≤ l0.length) = false:=decide_eq_false (by omega)
    clear c11
    have H':=Aside0.mk H
    clear H
    go_wp2
    go_loopg [9,10] kj5 (fun kq v9 v10 w' => ∃ (x9_2 : List (S33)) (x10_2 : Int),v10 = .int .i64 x10_2 ∧ Aside0 (hinterlandref15_Insert.l0 kq l0 a1 x9_2 x10_2 a2_0 a2_1 a2_2 a2_3 a2_4 a2_5 a2_6 a2_7 a2_8 = some (r1,r2)) ∧ Aside0 (kq ≤ kj5) ∧ Aside0 (Kd.R k33 33 w' w.heap.size (fun k_ => k_ ≠ gb153) v9 x9_2) ∧ Aside0 (w'.heap[gb153]? = some (.cells #[.int .i64 a2_0,.int .i64 a2_1,.int .i64 a2_2,.int .i64 a2_3,.int .i64 a2_4,.int .i64 a2_5,.int .i64 a2_6,.int .i64 a2_7,.int .i64 a2_8] 33 (0,0))) ∧ Aside0 (Below w.heap.size w w'))
    case atStart => exact ⟨(([] : List (S33))),(0),(by first|rfl|(simp;done)|(simp [*];done)),H',⟨Nat.le_refl _⟩,⟨by first|exact Kd.R_nil _ _ _ _ _|exact Kd.N_nil _ _ _ _ _|exact Kd.V_nil _ _ _ _ _|exact Kd.Q_nil _ _ _ _ _|exact Kd.S_nil _ _ _ _ _⟩,⟨blk_up BK153.out⟩,⟨hb_⟩⟩
    case round =>
     clear H'
     obtain ⟨x9_2,x10_2,rfl,HA,HK2,HO_9,BK153,HB⟩:=hrel
     cases gk with
     | zero => exact absurd HA.out (by simp [hinterlandref15_Insert.l0])
     | succ k2 =>
      have H:=HA.out
      clear HA
      simp only [hinterlandref15_Insert.l0] at H
      by_cases c12 : x10_2 ≤ (l0.length : Int)
      rotate_left
      ·rw [if_neg c12] at H
       have c12b0 : decide (x10_2 ≤ (l0.length : Int)) = false:=decide_eq_false c12
       clear c12
       replace H:=Option.bind_eq_some_iff.mp H
       obtain ⟨t166,A380,H⟩:=H
       replace H : (if t166 = 0 then (some (x9_2,0)) else (some (([] : List (S33)),t166))) = some (r1,r2):=H
       have A38:=Aside0.mk A380
       clear A380
       by_cases c39 : t166 = 0
       ·rw [if_pos c39] at H
        have c39b0 : (t166 == 0) = true:=beq_iff_eq.mpr c39
        have c39b1 : (t166 != 0) = false:=bne_eq_false_iff_eq.mpr c39
        clear c39
        simp only [Option.some.injEq,Prod.mk.injEq] at H
        obtain ⟨rfl,rfl⟩:=H
        obtain ⟨Ao40,co40,eo40⟩:=Kd.R_slice HO_9.out
        subst eo40
        go_wp2_with (first|((with_reducible refine gate_callee (f:=17) rfl ?_);refine goesL_ (some 68) rfl rfl Try.func17 (by kernel_rfl) rfl #[.slice Ao40 x9_2.length co40] rfl (by (try simp only [List.map_toArray,List.map_cons,List.map_nil]);first|done|rfl|(simp only [List.length_drop,List.length_take];rfl)) ?_;(with_reducible refine (hinterlandref15_Validate.calls k2 _ _ x9_2 t166 _ ?side1 ?side2 A38.out).mono ?_);(case side1 => exact Kd.C_up (Kd.R_reads' HO_9.out).2.2);(case side2 => exact (Kd.R_reads' HO_9.out).2.1);rintro e w41 ⟨rfl,hb⟩;refine ⟨_,rfl,?_⟩;replace HO_9:=rbw HO_9 hb;replace BK153:=bkb BK153 hb;replace HB:=Aside0.mk (below_step (hb_) hb)))
        go_ret2
        exact ⟨_,by first|rfl|(simp [errW_none,errW_some] <;> rfl)|(simp [*,errW_none,errW_some] <;> rfl),by (with_reducible repeat (first|apply Kd.R_alloc|apply Kd.R_drewN|apply Kd.R_drew));exact Kd.R_mono HO_9.out (fun _ hk => trivial),hb_⟩
       ·rw [if_neg c39] at H
        have c39b0 : (t166 == 0) = false:=beq_eq_false_iff_ne.mpr c39
        have c39b1 : (t166 != 0) = true:=bne_iff_ne.mpr c39
        simp only [Option.some.injEq,Prod.mk.injEq] at H
        obtain ⟨rfl,rfl⟩:=H
        obtain ⟨Ao42,co42,eo42⟩:=Kd.R_slice HO_9.out
        subst eo42
        go_wp2_with (first|((with_reducible refine gate_callee (f:=17) rfl ?_);refine goesL_ (some 68) rfl rfl Try.func17 (by kernel_rfl) rfl #[.slice Ao42 x9_2.length co42] rfl (by (try simp only [List.map_toArray,List.map_cons,List.map_nil]);first|done|rfl|(simp only [List.length_drop,List.length_take];rfl)) ?_;(with_reducible refine (hinterlandref15_Validate.calls k2 _ _ x9_2 t166 _ ?side1 ?side2 A38.out).mono ?_);(case side1 => exact Kd.C_up (Kd.R_reads' HO_9.out).2.2);(case side2 => exact (Kd.R_reads' HO_9.out).2.1);rintro e w43 ⟨rfl,hb⟩;refine ⟨_,rfl,?_⟩;replace HO_9:=rbw HO_9 hb;replace BK153:=bkb BK153 hb;replace HB:=Aside0.mk (below_step (hb_) hb)))
        go_ret2
        exact ⟨_,by first|rfl|(simp [errW_none,errW_some] <;> rfl)|(simp [*,errW_none,errW_some] <;> rfl),by first|exact Kd.R_nil _ _ _ _ _|exact Kd.N_nil _ _ _ _ _|exact Kd.V_nil _ _ _ _ _|exact Kd.Q_nil _ _ _ _ _|exact Kd.S_nil _ _ _ _ _,hb_⟩
      rw [if_pos c12] at H
      have c12b0 : decide (x10_2 ≤ (l0.length : Int)) = true:=decide_eq_true c12
      clear c12
      have HC13:=Aside0.mk H
      clear H
      go_upto_if 37 with (fail)
      go_cut [9] (fun v9 wc => ∃ (kq : Nat) (x9_12 : List (S33)),Aside0 (hinterlandref15_Insert.j2 kq l0 a1 x9_12 x10_2 a2_0 a2_1 a2_2 a2_3 a2_4 a2_5 a2_6 a2_7 a2_8 = some (r1,r2)) ∧ Aside0 (kq ≤ k2) ∧ Aside0 (Kd.R k33 33 wc w.heap.size (fun k_ => k_ ≠ gb153) v9 x9_12) ∧ Aside0 (wc.heap[gb153]? = some (.cells #[.int .i64 a2_0,.int .i64 a2_1,.int .i64 a2_2,.int .i64 a2_3,.int .i64 a2_4,.int .i64 a2_5,.int .i64 a2_6,.int .i64 a2_7,.int .i64 a2_8] 33 (0,0))) ∧ Aside0 (Below w.heap.size w wc))
      case first =>
       have H:=HC13.out
       clear HC13
       by_cases c14 : x10_2 = a1
       ·rw [if_pos c14] at H
        have c14b0 : (x10_2 == a1) = true:=beq_iff_eq.mpr c14
        have c14b1 : (x10_2 != a1) = false:=bne_eq_false_iff_eq.mpr c14
        clear c14
        (first|rw [c14b0]|(simp only [i64_w,i32_w];rw [c14b0])|skip)
        replace H:=ifp_ H;obtain ⟨c15,H⟩:=H
        have LMc15:=Aside0.mk c15
        clear c15
        obtain ⟨y155,hy155⟩ : ∃ y_ : List (S33),y_ = (x9_2 ++ [(⟨a2_0,a2_1,a2_2,a2_3,a2_4,a2_5,a2_6,a2_7,a2_8⟩ : S33)]):=⟨_,rfl⟩
        replace H : (hinterlandref15_Insert.j2 k2 l0 a1 y155 x10_2 a2_0 a2_1 a2_2 a2_3 a2_4 a2_5 a2_6 a2_7 a2_8) = some (r1,r2):=by first|(rw [hy155];with_reducible exact H)|(have H2_:=(Option.bind_some _ _).symm.trans H;rw [hy155];with_reducible exact H2_)|(have H2_:=(Option.bind_some _ _).symm.trans H;with_reducible exact H2_)|with_reducible exact H|(rw [hy155];exact H)|exact H
        have Ny155:=Aside0.mk hy155
        clear hy155
        have H':=Aside0.mk H
        clear H
        obtain ⟨hcz16_0,hcz16_1,hcz16_2,hcz16_3,hcz16_4,hcz16_5,hcz16_6,hcz16_7,hcz16_8,hfz16_0,hfz16_1,hfz16_2,hfz16_3,hfz16_4,hfz16_5,hfz16_6,hfz16_7,hfz16_8⟩:=cells9 BK153.out
        go_wp2_with (first|((with_reducible refine gate_builtin (b:=.append) (xs:=#[.tmp 38,.tmp 40]) rfl ?_);(try (refine gate_guard (by rfl) ?_;dsimp only));at_builtin;refine Kd.R_append k33 (w0:=w) w.heap.size rfl (.tmp 38) (.tmp 40) 22 33 (.agg #[(.int .i64 0),(.int .i64 0),(.int .i64 0),(.int .i64 0),(.int .i64 0),(.int .i64 0),(.int .i64 0),(.int .i64 0),(.int .i64 0)]) 72 rfl Try.underlying22 info33 rfl (by decide) (by omega) u9 x9_2 (⟨a2_0,a2_1,a2_2,a2_3,a2_4,a2_5,a2_6,a2_7,a2_8⟩ : S33) [.int .i64 a2_0,.int .i64 a2_1,.int .i64 a2_2,.int .i64 a2_3,.int .i64 a2_4,.int .i64 a2_5,.int .i64 a2_6,.int .i64 a2_7,.int .i64 a2_8] (fun k_ => k_ ≠ gb153) (fun _ => False) rfl rfl ?aP (fun _ hk => hk.elim) ?aF ?aO ?aB ?aS ?aL ?_;(case aP => exact k33_mkM _ _ _ (⟨a2_0,a2_1,a2_2,a2_3,a2_4,a2_5,a2_6,a2_7,a2_8⟩ : S33));(case aB => exact (hb_));(case aF => exact (fun k_ hk => Kd.freshB (blk_up BK153.out) k_ hk));(case aO => exact (Kd.R_up HO_9.out));(case aS => exact (below_size (hb_)));(case aL => have:=LMc15.out;omega);intro v156 w17 ho hb hg hat;rw [← Ny155.out] at ho;have HO157:=Aside0.mk (ho);replace BK153:=Aside0.mk (blk_grown (blk_up BK153.out) hg (Kd.R_away HO_9.out (fun _ hk => hk)));replace HB:=Aside0.mk (hb);clear HO_9;clear ho hb hg hat))
        go_meet
        case rel => exact ⟨_,(y155),H',⟨by have:=HJ5.out;have:=HK2.out;first|omega|exact Nat.le_refl _⟩,⟨Kd.R_up HO157.out⟩,⟨blk_up BK153.out⟩,⟨hb_⟩⟩
       ·rw [if_neg c14] at H
        have c14b0 : (x10_2 == a1) = false:=beq_eq_false_iff_ne.mpr c14
        have c14b1 : (x10_2 != a1) = true:=bne_iff_ne.mpr c14
        (first|rw [c14b0]|(simp only [i64_w,i32_w];rw [c14b0])|skip)
        have H':=Aside0.mk H
        clear H
        go_wp2
        go_meet
        case rel => exact ⟨_,(x9_2),H',⟨by have:=HJ5.out;have:=HK2.out;first|omega|exact Nat.le_refl _⟩,⟨Kd.R_up HO_9.out⟩,⟨blk_up BK153.out⟩,⟨hb_⟩⟩
      case rest =>
       clear HC13
       obtain ⟨kq,x9_12,HA,HJ12,HO_9,BK153,HB⟩:=hcut
       cases kq with
       | zero => exact absurd HA.out (by simp [hinterlandref15_Insert.j2])
       | succ kj12 =>
        have H:=HA.out
        clear HA
        simp only [hinterlandref15_Insert.j2] at H
        by_cases c18 : x10_2 < (l0.length : Int)
        rotate_left
        ·rw [if_neg c18] at H
         have c18b0 : decide (x10_2 < (l0.length : Int)) = false:=decide_eq_false c18
         clear c18
         have H':=Aside0.mk H
         clear H
         go_wp2
         go_roundg kj12
         case measure => have:=HJ5.out;have:=HK2.out;have:=HJ12.out;omega
         case rel => exact ⟨(x9_12),(wrap64 (x10_2 + 1)),(by first|rfl|(simp;done)|(simp [*];done)),H',⟨by have:=HJ5.out;have:=HK2.out;have:=HJ12.out;omega⟩,⟨Kd.R_up HO_9.out⟩,⟨blk_up BK153.out⟩,⟨hb_⟩⟩
        rw [if_pos c18] at H
        have c18b0 : decide (x10_2 < (l0.length : Int)) = true:=decide_eq_true c18
        clear c18
        replace H:=ifp_ H;obtain ⟨c19,H⟩:=H
        have c19b0 : decide (0 ≤ x10_2) = true:=decide_eq_true c19
        clear c19
        have HC20:=Aside0.mk H
        clear H
        have p158 : 0 ≤ (x10_2 : Int):=of_decide_eq_true (by first|(with_reducible assumption)|assumption)
        have q158 : x10_2 < (l0.length : Int):=of_decide_eq_true (by first|(with_reducible assumption)|assumption)
        obtain ⟨ad158,e158,hx158_0,hx158_1,hx158_2,hx158_3,hx158_4,hx158_5,hx158_6,hx158_7,hx158_8⟩:=at_T33 HR0.out x10_2 p158 q158
        cases e158
        replace hx158_0:=(HB.out.cell (World.block_lt_of_cell? w _ hx158_0)).trans hx158_0
        replace hx158_1:=(HB.out.cell (World.block_lt_of_cell? w _ hx158_1)).trans hx158_1
        replace hx158_2:=(HB.out.cell (World.block_lt_of_cell? w _ hx158_2)).trans hx158_2
        replace hx158_3:=(HB.out.cell (World.block_lt_of_cell? w _ hx158_3)).trans hx158_3
        replace hx158_4:=(HB.out.cell (World.block_lt_of_cell? w _ hx158_4)).trans hx158_4
        replace hx158_5:=(HB.out.cell (World.block_lt_of_cell? w _ hx158_5)).trans hx158_5
        replace hx158_6:=(HB.out.cell (World.block_lt_of_cell? w _ hx158_6)).trans hx158_6
        replace hx158_7:=(HB.out.cell (World.block_lt_of_cell? w _ hx158_7)).trans hx158_7
        replace hx158_8:=(HB.out.cell (World.block_lt_of_cell? w _ hx158_8)).trans hx158_8
        replace p158:=eq_true p158
        replace q158:=eq_true q158
        go_upto_region 16 with (first|((with_reducible refine gate_dst (N:=11) rfl ?_);(try (refine gate_guard (by rfl) ?_;dsimp only));refine box_ev (N:=11) (cs:=#[.int .i64 0,.int .i64 0,.int .i64 0,.int .i64 0,.int .i64 0,.int .i64 0,.int .i64 0,.int .i64 0,.int .i64 0]) (t:=33) ?_;intro gb159 hg w21 hbox hb;have BK159:=Aside0.mk (hbox);have GW159 : Aside0 (w.heap.size ≤ gb159):=gsz hg;have GE159:=GW159;have NB153_159:=nbl BK153 hg;have NB159_153:=nbr BK153 hg;replace HO_9:=Aside0.mk (Kd.R_below (Kd.R_elderB (Kd.R_up HO_9.out) gb159 (Nat.le_of_eq hg.symm)) hb);replace BK153:=bkb BK153 hb;replace HB:=Aside0.mk (below_step (hb_) hb);clear hb hbox hg;have hnb22:=NB159_153.out;have hnc22:=NB153_159.out;obtain ⟨hcz23_0,hcz23_1,hcz23_2,hcz23_3,hcz23_4,hcz23_5,hcz23_6,hcz23_7,hcz23_8,hfz23_0,hfz23_1,hfz23_2,hfz23_3,hfz23_4,hfz23_5,hfz23_6,hfz23_7,hfz23_8⟩:=cells9 BK159.out))
        (try simp only [Act.put,List.setIfInBounds_toArray,List.set_cons_zero,List.set_cons_succ])
        go_cut [58] (fun v58 wc => ∃ (kq : Nat) (x58_19 : Bool),v58 = .bool x58_19 ∧ Aside0 (hinterlandref15_Insert.j3 kq l0 a1 x9_12 x10_2 x58_19 a2_0 a2_1 a2_2 a2_3 a2_4 a2_5 a2_6 a2_7 a2_8 ((rd_T33 l0 x10_2).f0) ((rd_T33 l0 x10_2).f1) ((rd_T33 l0 x10_2).f2) ((rd_T33 l0 x10_2).f3) ((rd_T33 l0 x10_2).f4) ((rd_T33 l0 x10_2).f5) ((rd_T33 l0 x10_2).f6) ((rd_T33 l0 x10_2).f7) ((rd_T33 l0 x10_2).f8) = some (r1,r2)) ∧ Aside0 (kq ≤ kj12) ∧ Aside0 (Kd.R k33 33 wc w.heap.size (fun k_ => k_ ≠ gb153 ∧ k_ ≠ gb159) u9 x9_12) ∧ Aside0 (wc.heap[gb153]? = some (.cells #[.int .i64 a2_0,.int .i64 a2_1,.int .i64 a2_2,.int .i64 a2_3,.int .i64 a2_4,.int .i64 a2_5,.int .i64 a2_6,.int .i64 a2_7,.int .i64 a2_8] 33 (0,0))) ∧ Aside0 (wc.heap[gb159]? = some (.cells #[.int .i64 ((rd_T33 l0 x10_2).f0),.int .i64 ((rd_T33 l0 x10_2).f1),.int .i64 ((rd_T33 l0 x10_2).f2),.int .i64 ((rd_T33 l0 x10_2).f3),.int .i64 ((rd_T33 l0 x10_2).f4),.int .i64 ((rd_T33 l0 x10_2).f5),.int .i64 ((rd_T33 l0 x10_2).f6),.int .i64 ((rd_T33 l0 x10_2).f7),.int .i64 ((rd_T33 l0 x10_2).f8)] 33 (0,0))) ∧ Aside0 (Below w.heap.size w wc))
        case first =>
         have H:=HC20.out
         clear HC20
         by_cases c24 : ((rd_T33 l0 x10_2).f0) = 2
         ·rw [if_pos c24] at H
          have c24b0 : (((rd_T33 l0 x10_2).f0) == 2) = true:=beq_iff_eq.mpr c24
          have c24b1 : (((rd_T33 l0 x10_2).f0) != 2) = false:=bne_eq_false_iff_eq.mpr c24
          clear c24
          (first|rw [c24b0]|(simp only [i64_w,i32_w];rw [c24b0])|skip)
          have H':=Aside0.mk H
          clear H
          have hnb25:=NB159_153.out
          have hnc25:=NB153_159.out
          obtain ⟨hcz26_0,hcz26_1,hcz26_2,hcz26_3,hcz26_4,hcz26_5,hcz26_6,hcz26_7,hcz26_8,hfz26_0,hfz26_1,hfz26_2,hfz26_3,hfz26_4,hfz26_5,hfz26_6,hfz26_7,hfz26_8⟩:=cells9 BK159.out
          go_wp2
          go_meet
          case rel => exact ⟨_,(decide (((rd_T33 l0 x10_2).f6) ≥ a1)),(by first|rfl|(simp;done)|(simp [*];done)),H',⟨by have:=HJ5.out;have:=HK2.out;have:=HJ12.out;first|omega|exact Nat.le_refl _⟩,⟨by (with_reducible repeat (first|apply Kd.R_alloc|apply Kd.R_drewN|apply Kd.R_drew));exact Kd.R_mono (Kd.R_fars gb159 (Kd.R_mono HO_9.out (fun k_ hk => (⟨hk,hk.2⟩ : _ ∧ k_ ≠ gb159))) (fun _ hk => hk.2)) (fun _ hk => ⟨hk.1.1,hk.1.2⟩)⟩,⟨by (with_reducible repeat (first|refine blk_drewN ?_ _|refine blk_drew ?_|refine blk_alloc ?_ _));refine blk_far ?_ NB153_159.out _;(with_reducible repeat (first|refine blk_drewN ?_ _|refine blk_drew ?_|refine blk_alloc ?_ _));refine blk_far ?_ NB153_159.out _;(with_reducible repeat (first|refine blk_drewN ?_ _|refine blk_drew ?_|refine blk_alloc ?_ _));refine blk_far ?_ NB153_159.out _;(with_reducible repeat (first|refine blk_drewN ?_ _|refine blk_drew ?_|refine blk_alloc ?_ _));refine blk_far ?_ NB153_159.out _;(with_reducible repeat (first|refine blk_drewN ?_ _|refine blk_drew ?_|refine blk_alloc ?_ _));refine blk_far ?_ NB153_159.out _;(with_reducible repeat (first|refine blk_drewN ?_ _|refine blk_drew ?_|refine blk_alloc ?_ _));refine blk_far ?_ NB153_159.out _;(with_reducible repeat (first|refine blk_drewN ?_ _|refine blk_drew ?_|refine blk_alloc ?_ _));refine blk_far ?_ NB153_159.out _;(with_reducible repeat (first|refine blk_drewN ?_ _|refine blk_drew ?_|refine blk_alloc ?_ _));refine blk_far ?_ NB153_159.out _;(with_reducible repeat (first|refine blk_drewN ?_ _|refine blk_drew ?_|refine blk_alloc ?_ _));refine blk_far ?_ NB153_159.out _;(with_reducible repeat (first|refine blk_drewN ?_ _|refine blk_drew ?_|refine blk_alloc ?_ _));exact BK153.out⟩,⟨by (with_reducible repeat (first|refine blk_drewN ?_ _|refine blk_drew ?_|refine blk_alloc ?_ _));refine blk_put (cs:=#[.int .i64 ((rd_T33 l0 x10_2).f0),.int .i64 ((rd_T33 l0 x10_2).f1),.int .i64 ((rd_T33 l0 x10_2).f2),.int .i64 ((rd_T33 l0 x10_2).f3),.int .i64 ((rd_T33 l0 x10_2).f4),.int .i64 ((rd_T33 l0 x10_2).f5),.int .i64 ((rd_T33 l0 x10_2).f6),.int .i64 ((rd_T33 l0 x10_2).f7),.int .i64 0]) ?_ 8 _ rfl;(with_reducible repeat (first|refine blk_drewN ?_ _|refine blk_drew ?_|refine blk_alloc ?_ _));refine blk_put (cs:=#[.int .i64 ((rd_T33 l0 x10_2).f0),.int .i64 ((rd_T33 l0 x10_2).f1),.int .i64 ((rd_T33 l0 x10_2).f2),.int .i64 ((rd_T33 l0 x10_2).f3),.int .i64 ((rd_T33 l0 x10_2).f4),.int .i64 ((rd_T33 l0 x10_2).f5),.int .i64 ((rd_T33 l0 x10_2).f6),.int .i64 0,.int .i64 0]) ?_ 7 _ rfl;(with_reducible repeat (first|refine blk_drewN ?_ _|refine blk_drew ?_|refine blk_alloc ?_ _));refine blk_put (cs:=#[.int .i64 ((rd_T33 l0 x10_2).f0),.int .i64 ((rd_T33 l0 x10_2).f1),.int .i64 ((rd_T33 l0 x10_2).f2),.int .i64 ((rd_T33 l0 x10_2).f3),.int .i64 ((rd_T33 l0 x10_2).f4),.int .i64 ((rd_T33 l0 x10_2).f5),.int .i64 0,.int .i64 0,.int .i64 0]) ?_ 6 _ rfl;(with_reducible repeat (first|refine blk_drewN ?_ _|refine blk_drew ?_|refine blk_alloc ?_ _));refine blk_put (cs:=#[.int .i64 ((rd_T33 l0 x10_2).f0),.int .i64 ((rd_T33 l0 x10_2).f1),.int .i64 ((rd_T33 l0 x10_2).f2),.int .i64 ((rd_T33 l0 x10_2).f3),.int .i64 ((rd_T33 l0 x10_2).f4),.int .i64 0,.int .i64 0,.int .i64 0,.int .i64 0]) ?_ 5 _ rfl;(with_reducible repeat (first|refine blk_drewN ?_ _|refine blk_drew ?_|refine blk_alloc ?_ _));refine blk_put (cs:=#[.int .i64 ((rd_T33 l0 x10_2).f0),.int .i64 ((rd_T33 l0 x10_2).f1),.int .i64 ((rd_T33 l0 x10_2).f2),.int .i64 ((rd_T33 l0 x10_2).f3),.int .i64 0,.int .i64 0,.int .i64 0,.int .i64 0,.int .i64 0]) ?_ 4 _ rfl;(with_reducible repeat (first|refine blk_drewN ?_ _|refine blk_drew ?_|refine blk_alloc ?_ _));refine blk_put (cs:=#[.int .i64 ((rd_T33 l0 x10_2).f0),.int .i64 ((rd_T33 l0 x10_2).f1),.int .i64 ((rd_T33 l0 x10_2).f2),.int .i64 0,.int .i64 0,.int .i64 0,.int .i64 0,.int .i64 0,.int .i64 0]) ?_ 3 _ rfl;(with_reducible repeat (first|refine blk_drewN ?_ _|refine blk_drew ?_|refine blk_alloc ?_ _));refine blk_put (cs:=#[.int .i64 ((rd_T33 l0 x10_2).f0),.int .i64 ((rd_T33 l0 x10_2).f1),.int .i64 0,.int .i64 0,.int .i64 0,.int .i64 0,.int .i64 0,.int .i64 0,.int .i64 0]) ?_ 2 _ rfl;(with_reducible repeat (first|refine blk_drewN ?_ _|refine blk_drew ?_|refine blk_alloc ?_ _));refine blk_put (cs:=#[.int .i64 ((rd_T33 l0 x10_2).f0),.int .i64 0,.int .i64 0,.int .i64 0,.int .i64 0,.int .i64 0,.int .i64 0,.int .i64 0,.int .i64 0]) ?_ 1 _ rfl;(with_reducible repeat (first|refine blk_drewN ?_ _|refine blk_drew ?_|refine blk_alloc ?_ _));refine blk_put (cs:=#[.int .i64 0,.int .i64 0,.int .i64 0,.int .i64 0,.int .i64 0,.int .i64 0,.int .i64 0,.int .i64 0,.int .i64 0]) ?_ 0 _ rfl;(with_reducible repeat (first|refine blk_drewN ?_ _|refine blk_drew ?_|refine blk_alloc ?_ _));exact BK159.out⟩,⟨hb_⟩⟩
         ·rw [if_neg c24] at H
          have c24b0 : (((rd_T33 l0 x10_2).f0) == 2) = false:=beq_eq_false_iff_ne.mpr c24
          have c24b1 : (((rd_T33 l0 x10_2).f0) != 2) = true:=bne_iff_ne.mpr c24
          (first|rw [c24b0]|(simp only [i64_w,i32_w];rw [c24b0])|skip)
          have H':=Aside0.mk H
          clear H
          have hnb27:=NB159_153.out
          have hnc27:=NB153_159.out
          obtain ⟨hcz28_0,hcz28_1,hcz28_2,hcz28_3,hcz28_4,hcz28_5,hcz28_6,hcz28_7,hcz28_8,hfz28_0,hfz28_1,hfz28_2,hfz28_3,hfz28_4,hfz28_5,hfz28_6,hfz28_7,hfz28_8⟩:=cells9 BK159.out
          go_wp2
          go_meet
          case rel => exact ⟨_,(false),(by first|rfl|(simp;done)|(simp [*];done)),H',⟨by have:=HJ5.out;have:=HK2.out;have:=HJ12.out;first|omega|exact Nat.le_refl _⟩,⟨by (with_reducible repeat (first|apply Kd.R_alloc|apply Kd.R_drewN|apply Kd.R_drew));exact Kd.R_mono (Kd.R_fars gb159 (Kd.R_mono HO_9.out (fun k_ hk => (⟨hk,hk.2⟩ : _ ∧ k_ ≠ gb159))) (fun _ hk => hk.2)) (fun _ hk => ⟨hk.1.1,hk.1.2⟩)⟩,⟨by (with_reducible repeat (first|refine blk_drewN ?_ _|refine blk_drew ?_|refine blk_alloc ?_ _));refine blk_far ?_ NB153_159.out _;(with_reducible repeat (first|refine blk_drewN ?_ _|refine blk_drew ?_|refine blk_alloc ?_ _));refine blk_far ?_ NB153_159.out _;(with_reducible repeat (first|refine blk_drewN ?_ _|refine blk_drew ?_|refine blk_alloc ?_ _));refine blk_far ?_ NB153_159.out _;(with_reducible repeat (first|refine blk_drewN ?_ _|refine blk_drew ?_|refine blk_alloc ?_ _));refine blk_far ?_ NB153_159.out _;(with_reducible repeat (first|refine blk_drewN ?_ _|refine blk_drew ?_|refine blk_alloc ?_ _));refine blk_far ?_ NB153_159.out _;(with_reducible repeat (first|refine blk_drewN ?_ _|refine blk_drew ?_|refine blk_alloc ?_ _));refine blk_far ?_ NB153_159.out _;(with_reducible repeat (first|refine blk_drewN ?_ _|refine blk_drew ?_|refine blk_alloc ?_ _));refine blk_far ?_ NB153_159.out _;(with_reducible repeat (first|refine blk_drewN ?_ _|refine blk_drew ?_|refine blk_alloc ?_ _));refine blk_far ?_ NB153_159.out _;(with_reducible repeat (first|refine blk_drewN ?_ _|refine blk_drew ?_|refine blk_alloc ?_ _));refine blk_far ?_ NB153_159.out _;(with_reducible repeat (first|refine blk_drewN ?_ _|refine blk_drew ?_|refine blk_alloc ?_ _));exact BK153.out⟩,⟨by (with_reducible repeat (first|refine blk_drewN ?_ _|refine blk_drew ?_|refine blk_alloc ?_ _));refine blk_put (cs:=#[.int .i64 ((rd_T33 l0 x10_2).f0),.int .i64 ((rd_T33 l0 x10_2).f1),.int .i64 ((rd_T33 l0 x10_2).f2),.int .i64 ((rd_T33 l0 x10_2).f3),.int .i64 ((rd_T33 l0 x10_2).f4),.int .i64 ((rd_T33 l0 x10_2).f5),.int .i64 ((rd_T33 l0 x10_2).f6),.int .i64 ((rd_T33 l0 x10_2).f7),.int .i64 0]) ?_ 8 _ rfl;(with_reducible repeat (first|refine blk_drewN ?_ _|refine blk_drew ?_|refine blk_alloc ?_ _));refine blk_put (cs:=#[.int .i64 ((rd_T33 l0 x10_2).f0),.int .i64 ((rd_T33 l0 x10_2).f1),.int .i64 ((rd_T33 l0 x10_2).f2),.int .i64 ((rd_T33 l0 x10_2).f3),.int .i64 ((rd_T33 l0 x10_2).f4),.int .i64 ((rd_T33 l0 x10_2).f5),.int .i64 ((rd_T33 l0 x10_2).f6),.int .i64 0,.int .i64 0]) ?_ 7 _ rfl;(with_reducible repeat (first|refine blk_drewN ?_ _|refine blk_drew ?_|refine blk_alloc ?_ _));refine blk_put (cs:=#[.int .i64 ((rd_T33 l0 x10_2).f0),.int .i64 ((rd_T33 l0 x10_2).f1),.int .i64 ((rd_T33 l0 x10_2).f2),.int .i64 ((rd_T33 l0 x10_2).f3),.int .i64 ((rd_T33 l0 x10_2).f4),.int .i64 ((rd_T33 l0 x10_2).f5),.int .i64 0,.int .i64 0,.int .i64 0]) ?_ 6 _ rfl;(with_reducible repeat (first|refine blk_drewN ?_ _|refine blk_drew ?_|refine blk_alloc ?_ _));refine blk_put (cs:=#[.int .i64 ((rd_T33 l0 x10_2).f0),.int .i64 ((rd_T33 l0 x10_2).f1),.int .i64 ((rd_T33 l0 x10_2).f2),.int .i64 ((rd_T33 l0 x10_2).f3),.int .i64 ((rd_T33 l0 x10_2).f4),.int .i64 0,.int .i64 0,.int .i64 0,.int .i64 0]) ?_ 5 _ rfl;(with_reducible repeat (first|refine blk_drewN ?_ _|refine blk_drew ?_|refine blk_alloc ?_ _));refine blk_put (cs:=#[.int .i64 ((rd_T33 l0 x10_2).f0),.int .i64 ((rd_T33 l0 x10_2).f1),.int .i64 ((rd_T33 l0 x10_2).f2),.int .i64 ((rd_T33 l0 x10_2).f3),.int .i64 0,.int .i64 0,.int .i64 0,.int .i64 0,.int .i64 0]) ?_ 4 _ rfl;(with_reducible repeat (first|refine blk_drewN ?_ _|refine blk_drew ?_|refine blk_alloc ?_ _));refine blk_put (cs:=#[.int .i64 ((rd_T33 l0 x10_2).f0),.int .i64 ((rd_T33 l0 x10_2).f1),.int .i64 ((rd_T33 l0 x10_2).f2),.int .i64 0,.int .i64 0,.int .i64 0,.int .i64 0,.int .i64 0,.int .i64 0]) ?_ 3 _ rfl;(with_reducible repeat (first|refine blk_drewN ?_ _|refine blk_drew ?_|refine blk_alloc ?_ _));refine blk_put (cs:=#[.int .i64 ((rd_T33 l0 x10_2).f0),.int .i64 ((rd_T33 l0 x10_2).f1),.int .i64 0,.int .i64 0,.int .i64 0,.int .i64 0,.int .i64 0,.int .i64 0,.int .i64 0]) ?_ 2 _ rfl;(with_reducible repeat (first|refine blk_drewN ?_ _|refine blk_drew ?_|refine blk_alloc ?_ _));refine blk_put (cs:=#[.int .i64 ((rd_T33 l0 x10_2).f0),.int .i64 0,.int .i64 0,.int .i64 0,.int .i64 0,.int .i64 0,.int .i64 0,.int .i64 0,.int .i64 0]) ?_ 1 _ rfl;(with_reducible repeat (first|refine blk_drewN ?_ _|refine blk_drew ?_|refine blk_alloc ?_ _));refine blk_put (cs:=#[.int .i64 0,.int .i64 0,.int .i64 0,.int .i64 0,.int .i64 0,.int .i64 0,.int .i64 0,.int .i64 0,.int .i64 0]) ?_ 0 _ rfl;(with_reducible repeat (first|refine blk_drewN ?_ _|refine blk_drew ?_|refine blk_alloc ?_ _));exact BK159.out⟩,⟨hb_⟩⟩
        case rest =>
         clear HC20
         obtain ⟨kq,x58_19,rfl,HA,HJ19,HO_9,BK153,BK159,HB⟩:=hcut
         cases kq with
         | zero => exact absurd HA.out (by simp [hinterlandref15_Insert.j3])
         | succ kj19 =>
          have H:=HA.out
          clear HA
          simp only [hinterlandref15_Insert.j3] at H
          by_cases c29 : x58_19 = true
          ·subst c29
           have H1 : (if x9_12.length < 1954687338268 then (hinterlandref15_Insert.l0 kj19 l0 a1 (x9_12 ++ [(⟨((rd_T33 l0 x10_2).f0),((rd_T33 l0 x10_2).f1),((rd_T33 l0 x10_2).f2),((rd_T33 l0 x10_2).f3),((rd_T33 l0 x10_2).f4),((rd_T33 l0 x10_2).f5),wrap64 (((rd_T33 l0 x10_2).f6) + 1),((rd_T33 l0 x10_2).f7),((rd_T33 l0 x10_2).f8)⟩ : S33)]) (wrap64 (x10_2 + 1)) a2_0 a2_1 a2_2 a2_3 a2_4 a2_5 a2_6 a2_7 a2_8) else (none)) = some (r1,r2):=by rw [if_pos rfl] at H;exact H
           clear H
           have H:=H1
           clear H1
           replace H:=ifp_ H;obtain ⟨c30,H⟩:=H
           have LMc30:=Aside0.mk c30
           clear c30
           obtain ⟨y160,hy160⟩ : ∃ y_ : List (S33),y_ = (x9_12 ++ [(⟨((rd_T33 l0 x10_2).f0),((rd_T33 l0 x10_2).f1),((rd_T33 l0 x10_2).f2),((rd_T33 l0 x10_2).f3),((rd_T33 l0 x10_2).f4),((rd_T33 l0 x10_2).f5),wrap64 (((rd_T33 l0 x10_2).f6) + 1),((rd_T33 l0 x10_2).f7),((rd_T33 l0 x10_2).f8)⟩ : S33)]):=⟨_,rfl⟩
           replace H : (hinterlandref15_Insert.l0 kj19 l0 a1 y160 (wrap64 (x10_2 + 1)) a2_0 a2_1 a2_2 a2_3 a2_4 a2_5 a2_6 a2_7 a2_8) = some (r1,r2):=by first|(rw [hy160];with_reducible exact H)|(have H2_:=(Option.bind_some _ _).symm.trans H;rw [hy160];with_reducible exact H2_)|(have H2_:=(Option.bind_some _ _).symm.trans H;with_reducible exact H2_)|with_reducible exact H|(rw [hy160];exact H)|exact H
           have Ny160:=Aside0.mk hy160
           clear hy160
           have H':=Aside0.mk H
           clear H
           have hnb31:=NB159_153.out
           have hnc31:=NB153_159.out
           obtain ⟨hcz32_0,hcz32_1,hcz32_2,hcz32_3,hcz32_4,hcz32_5,hcz32_6,hcz32_7,hcz32_8,hfz32_0,hfz32_1,hfz32_2,hfz32_3,hfz32_4,hfz32_5,hfz32_6,hfz32_7,hfz32_8⟩:=cells9 BK159.out
           go_wp2_with (first|((with_reducible refine gate_builtin (b:=.append) (xs:=#[.tmp 63,.tmp 65]) rfl ?_);(try (refine gate_guard (by rfl) ?_;dsimp only));at_builtin;refine Kd.R_append k33 (w0:=w) w.heap.size rfl (.tmp 63) (.tmp 65) 22 33 (.agg #[(.int .i64 0),(.int .i64 0),(.int .i64 0),(.int .i64 0),(.int .i64 0),(.int .i64 0),(.int .i64 0),(.int .i64 0),(.int .i64 0)]) 72 rfl Try.underlying22 info33 rfl (by decide) (by omega) u9 x9_12 (⟨((rd_T33 l0 x10_2).f0),((rd_T33 l0 x10_2).f1),((rd_T33 l0 x10_2).f2),((rd_T33 l0 x10_2).f3),((rd_T33 l0 x10_2).f4),((rd_T33 l0 x10_2).f5),wrap64 (((rd_T33 l0 x10_2).f6) + 1),((rd_T33 l0 x10_2).f7),((rd_T33 l0 x10_2).f8)⟩ : S33) [.int .i64 ((rd_T33 l0 x10_2).f0),.int .i64 ((rd_T33 l0 x10_2).f1),.int .i64 ((rd_T33 l0 x10_2).f2),.int .i64 ((rd_T33 l0 x10_2).f3),.int .i64 ((rd_T33 l0 x10_2).f4),.int .i64 ((rd_T33 l0 x10_2).f5),.int .i64 (wrap64 (((rd_T33 l0 x10_2).f6) + 1)),.int .i64 ((rd_T33 l0 x10_2).f7),.int .i64 ((rd_T33 l0 x10_2).f8)] (fun k_ => k_ ≠ gb153 ∧ k_ ≠ gb159) (fun _ => False) rfl (by first|(go_simp;done)|(go_simp;rfl)) ?aP (fun _ hk => hk.elim) ?aF ?aO ?aB ?aS ?aL ?_;(case aP => exact k33_mkM _ _ _ (⟨((rd_T33 l0 x10_2).f0),((rd_T33 l0 x10_2).f1),((rd_T33 l0 x10_2).f2),((rd_T33 l0 x10_2).f3),((rd_T33 l0 x10_2).f4),((rd_T33 l0 x10_2).f5),wrap64 (((rd_T33 l0 x10_2).f6) + 1),((rd_T33 l0 x10_2).f7),((rd_T33 l0 x10_2).f8)⟩ : S33));(case aB => exact (hb_));(case aF => exact (fun k_ hk => ⟨Kd.freshB (g:=gb153) (o:=.cells #[.int .i64 a2_0,.int .i64 a2_1,.int .i64 a2_2,.int .i64 a2_3,.int .i64 a2_4,.int .i64 a2_5,.int .i64 a2_6,.int .i64 a2_7,.int .i64 a2_8] 33 (0,0)) (by (with_reducible repeat (first|refine blk_drewN ?_ _|refine blk_drew ?_|refine blk_alloc ?_ _));refine blk_far ?_ NB153_159.out _;(with_reducible repeat (first|refine blk_drewN ?_ _|refine blk_drew ?_|refine blk_alloc ?_ _));exact BK153.out) k_ hk,Kd.freshB (g:=gb159) (o:=.cells #[.int .i64 ((rd_T33 l0 x10_2).f0),.int .i64 ((rd_T33 l0 x10_2).f1),.int .i64 ((rd_T33 l0 x10_2).f2),.int .i64 ((rd_T33 l0 x10_2).f3),.int .i64 ((rd_T33 l0 x10_2).f4),.int .i64 ((rd_T33 l0 x10_2).f5),.int .i64 (wrap64 (((rd_T33 l0 x10_2).f6) + 1)),.int .i64 ((rd_T33 l0 x10_2).f7),.int .i64 ((rd_T33 l0 x10_2).f8)] 33 (0,0)) (by (with_reducible repeat (first|refine blk_drewN ?_ _|refine blk_drew ?_|refine blk_alloc ?_ _));refine blk_put (cs:=#[.int .i64 ((rd_T33 l0 x10_2).f0),.int .i64 ((rd_T33 l0 x10_2).f1),.int .i64 ((rd_T33 l0 x10_2).f2),.int .i64 ((rd_T33 l0 x10_2).f3),.int .i64 ((rd_T33 l0 x10_2).f4),.int .i64 ((rd_T33 l0 x10_2).f5),.int .i64 ((rd_T33 l0 x10_2).f6),.int .i64 ((rd_T33 l0 x10_2).f7),.int .i64 ((rd_T33 l0 x10_2).f8)]) ?_ 6 _ rfl;(with_reducible repeat (first|refine blk_drewN ?_ _|refine blk_drew ?_|refine blk_alloc ?_ _));exact BK159.out) k_ hk⟩));(case aO => exact (by (with_reducible repeat (first|apply Kd.R_alloc|apply Kd.R_drewN|apply Kd.R_drew));exact Kd.R_mono (Kd.R_far (p:=⟨gb159,6,none⟩) (Kd.R_mono HO_9.out (fun k_ hk => (⟨hk,hk.2⟩ : _ ∧ k_ ≠ gb159))) (fun _ hk => hk.2) (.int .i64 (wrap64 (((rd_T33 l0 x10_2).f6) + 1)))) (fun _ hk => ⟨hk.1.1,hk.1.2⟩)));(case aS => exact (below_size (hb_)));(case aL => have:=LMc30.out;omega);intro v161 w33 ho hb hg hat;rw [← Ny160.out] at ho;have HO162:=Aside0.mk (ho);replace BK153:=Aside0.mk (blk_grown (g:=gb153) (o:=.cells #[.int .i64 a2_0,.int .i64 a2_1,.int .i64 a2_2,.int .i64 a2_3,.int .i64 a2_4,.int .i64 a2_5,.int .i64 a2_6,.int .i64 a2_7,.int .i64 a2_8] 33 (0,0)) (by (with_reducible repeat (first|refine blk_drewN ?_ _|refine blk_drew ?_|refine blk_alloc ?_ _));refine blk_far ?_ NB153_159.out _;(with_reducible repeat (first|refine blk_drewN ?_ _|refine blk_drew ?_|refine blk_alloc ?_ _));exact BK153.out) hg (Kd.R_away HO_9.out (fun _ hk => hk.1)));replace BK159:=Aside0.mk (blk_grown (g:=gb159) (o:=.cells #[.int .i64 ((rd_T33 l0 x10_2).f0),.int .i64 ((rd_T33 l0 x10_2).f1),.int .i64 ((rd_T33 l0 x10_2).f2),.int .i64 ((rd_T33 l0 x10_2).f3),.int .i64 ((rd_T33 l0 x10_2).f4),.int .i64 ((rd_T33 l0 x10_2).f5),.int .i64 (wrap64 (((rd_T33 l0 x10_2).f6) + 1)),.int .i64 ((rd_T33 l0 x10_2).f7),.int .i64 ((rd_T33 l0 x10_2).f8)] 33 (0,0)) (by (with_reducible repeat (first|refine blk_drewN ?_ _|refine blk_drew ?_|refine blk_alloc ?_ _));refine blk_put (cs:=#[.int .i64 ((rd_T33 l0 x10_2).f0),.int .i64 ((rd_T33 l0 x10_2).f1),.int .i64 ((rd_T33 l0 x10_2).f2),.int .i64 ((rd_T33 l0 x10_2).f3),.int .i64 ((rd_T33 l0 x10_2).f4),.int .i64 ((rd_T33 l0 x10_2).f5),.int .i64 ((rd_T33 l0 x10_2).f6),.int .i64 ((rd_T33 l0 x10_2).f7),.int .i64 ((rd_T33 l0 x10_2).f8)]) ?_ 6 _ rfl;(with_reducible repeat (first|refine blk_drewN ?_ _|refine blk_drew ?_|refine blk_alloc ?_ _));exact BK159.out) hg (Kd.R_away HO_9.out (fun _ hk => hk.2)));replace HB:=Aside0.mk (hb);clear HO_9;clear ho hb hg hat))
           go_roundg kj19
           case measure => have:=HJ5.out;have:=HK2.out;have:=HJ12.out;have:=HJ19.out;omega
           case rel => exact ⟨(y160),(wrap64 (x10_2 + 1)),(by first|rfl|(simp;done)|(simp [*];done)),H',⟨by have:=HJ5.out;have:=HK2.out;have:=HJ12.out;have:=HJ19.out;omega⟩,⟨by (with_reducible repeat (first|apply Kd.R_alloc|apply Kd.R_drewN|apply Kd.R_drew));exact Kd.R_mono HO162.out (fun _ hk => hk.1)⟩,⟨blk_up BK153.out⟩,⟨hb_⟩⟩
          ·replace c29:=Bool.eq_false_iff.mpr c29
           subst c29
           have H1 : (if x9_12.length < 1954687338268 then (hinterlandref15_Insert.l0 kj19 l0 a1 (x9_12 ++ [(⟨((rd_T33 l0 x10_2).f0),((rd_T33 l0 x10_2).f1),((rd_T33 l0 x10_2).f2),((rd_T33 l0 x10_2).f3),((rd_T33 l0 x10_2).f4),((rd_T33 l0 x10_2).f5),((rd_T33 l0 x10_2).f6),((rd_T33 l0 x10_2).f7),((rd_T33 l0 x10_2).f8)⟩ : S33)]) (wrap64 (x10_2 + 1)) a2_0 a2_1 a2_2 a2_3 a2_4 a2_5 a2_6 a2_7 a2_8) else (none)) = some (r1,r2):=by rw [if_neg (show ¬ (false = true) by decide)] at H;exact H
           clear H
           have H:=H1
           clear H1
           replace H:=ifp_ H;obtain ⟨c34,H⟩:=H
           have LMc34:=Aside0.mk c34
           clear c34
           obtain ⟨y163,hy163⟩ : ∃ y_ : List (S33),y_ = (x9_12 ++ [(⟨((rd_T33 l0 x10_2).f0),((rd_T33 l0 x10_2).f1),((rd_T33 l0 x10_2).f2),((rd_T33 l0 x10_2).f3),((rd_T33 l0 x10_2).f4),((rd_T33 l0 x10_2).f5),((rd_T33 l0 x10_2).f6),((rd_T33 l0 x10_2).f7),((rd_T33 l0 x10_2).f8)⟩ : S33)]):=⟨_,rfl⟩
           replace H : (hinterlandref15_Insert.l0 kj19 l0 a1 y163 (wrap64 (x10_2 + 1)) a2_0 a2_1 a2_2 a2_3 a2_4 a2_5 a2_6 a2_7 a2_8) = some (r1,r2):=by first|(rw [hy163];with_reducible exact H)|(have H2_:=(Option.bind_some _ _).symm.trans H;rw [hy163];with_reducible exact H2_)|(have H2_:=(Option.bind_some _ _).symm.trans H;with_reducible exact H2_)|with_reducible exact H|(rw [hy163];exact H)|exact H
           have Ny163:=Aside0.mk hy163
           clear hy163
           have H':=Aside0.mk H
           clear H
           have hnb35:=NB159_153.out
           have hnc35:=NB153_159.out
           obtain ⟨hcz36_0,hcz36_1,hcz36_2,hcz36_3,hcz36_4,hcz36_5,hcz36_6,hcz36_7,hcz36_8,hfz36_0,hfz36_1,hfz36_2,hfz36_3,hfz36_4,hfz36_5,hfz36_6,hfz36_7,hfz36_8⟩:=cells9 BK159.out
           go_wp2_with (first|((with_reducible refine gate_builtin (b:=.append) (xs:=#[.tmp 63,.tmp 65]) rfl ?_);(try (refine gate_guard (by rfl) ?_;dsimp only));at_builtin;refine Kd.R_append k33 (w0:=w) w.heap.size rfl (.tmp 63) (.tmp 65) 22 33 (.agg #[(.int .i64 0),(.int .i64 0),(.int .i64 0),(.int .i64 0),(.int .i64 0),(.int .i64 0),(.int .i64 0),(.int .i64 0),(.int .i64 0)]) 72 rfl Try.underlying22 info33 rfl (by decide) (by omega) u9 x9_12 (⟨((rd_T33 l0 x10_2).f0),((rd_T33 l0 x10_2).f1),((rd_T33 l0 x10_2).f2),((rd_T33 l0 x10_2).f3),((rd_T33 l0 x10_2).f4),((rd_T33 l0 x10_2).f5),((rd_T33 l0 x10_2).f6),((rd_T33 l0 x10_2).f7),((rd_T33 l0 x10_2).f8)⟩ : S33) [.int .i64 ((rd_T33 l0 x10_2).f0),.int .i64 ((rd_T33 l0 x10_2).f1),.int .i64 ((rd_T33 l0 x10_2).f2),.int .i64 ((rd_T33 l0 x10_2).f3),.int .i64 ((rd_T33 l0 x10_2).f4),.int .i64 ((rd_T33 l0 x10_2).f5),.int .i64 ((rd_T33 l0 x10_2).f6),.int .i64 ((rd_T33 l0 x10_2).f7),.int .i64 ((rd_T33 l0 x10_2).f8)] (fun k_ => k_ ≠ gb153 ∧ k_ ≠ gb159) (fun _ => False) rfl rfl ?aP (fun _ hk => hk.elim) ?aF ?aO ?aB ?aS ?aL ?_;(case aP => exact k33_mkM _ _ _ (⟨((rd_T33 l0 x10_2).f0),((rd_T33 l0 x10_2).f1),((rd_T33 l0 x10_2).f2),((rd_T33 l0 x10_2).f3),((rd_T33 l0 x10_2).f4),((rd_T33 l0 x10_2).f5),((rd_T33 l0 x10_2).f6),((rd_T33 l0 x10_2).f7),((rd_T33 l0 x10_2).f8)⟩ : S33));(case aB => exact (hb_));(case aF => exact (fun k_ hk => ⟨Kd.freshB (blk_up BK153.out) k_ hk,Kd.freshB (blk_up BK159.out) k_ hk⟩));(case aO => exact (Kd.R_up HO_9.out));(case aS => exact (below_size (hb_)));(case aL => have:=LMc34.out;omega);intro v164 w37 ho hb hg hat;rw [← Ny163.out] at ho;have HO165:=Aside0.mk (ho);replace BK153:=Aside0.mk (blk_grown (blk_up BK153.out) hg (Kd.R_away HO_9.out (fun _ hk => hk.1)));replace BK159:=Aside0.mk (blk_grown (blk_up BK159.out) hg (Kd.R_away HO_9.out (fun _ hk => hk.2)));replace HB:=Aside0.mk (hb);clear HO_9;clear ho hb hg hat))
           go_roundg kj19
           case measure => have:=HJ5.out;have:=HK2.out;have:=HJ12.out;have:=HJ19.out;omega
           case rel => exact ⟨(y163),(wrap64 (x10_2 + 1)),(by first|rfl|(simp;done)|(simp [*];done)),H',⟨by have:=HJ5.out;have:=HK2.out;have:=HJ12.out;have:=HJ19.out;omega⟩,⟨by (with_reducible repeat (first|apply Kd.R_alloc|apply Kd.R_drewN|apply Kd.R_drew));exact Kd.R_mono HO165.out (fun _ hk => hk.1)⟩,⟨blk_up BK153.out⟩,⟨hb_⟩⟩

end Go.Proofs.Ythbjchicpebglaa.P

/- Functions of this seat as plain Lean functions, with proofs that the Go code comes to just their answers, or what stands between them and a law's statement; no conditions. (Laid by a program of this session, out of the kit's print.) -/
import Derived.Test.YtiencnnkphipoaaPx0
import Derived.Test.YtiencnnkphipoaaPx1
import Derived.Test.YtiencnnkphipoaaPx10
import Derived.Test.YtiencnnkphipoaaPx13
namespace Go.Proofs.Ytiencnnkphipoaa.P
open Go.RowKit Go.Proofs.YtiencnnkphipoaaW.PrintWords Go.Proofs.YtiencnnkphipoaaW.PrintLast Go.Proofs.YtiencnnkphipoaaW.PrintMore
attribute [local go_sem] max2_int min2_int max_two min_two max_three min_three max_four min_four   -- for this text's walks alone
set_option linter.unusedVariables false
set_option linter.unusedSimpArgs false

/-! ### hinterlandlaw06_WaterValidates: function 5 -/
def hinterlandlaw06_WaterValidates.j0 : Nat → Bool → Option (Bool)
 | 0,_ => none
 | k + 1,x4 => some x4
def hinterlandlaw06_WaterValidates.f (k : Nat) (a0_0 : Int) (a0_1 : Int) (l0_2 : List Int) (l1_0 : List Int) (l1_1 : List Int) : Option (Bool) := (hinterlandlaw06_large.f a0_0 a0_1 l0_2 l1_0 l1_1).bind fun t360 => (if t360 = true then ((hinterlandlaw06_known.f k).bind fun t361 => (some t361)) else ((water_Validate.f k a0_0 a0_1 l0_2 l1_0 l1_1).bind fun t362 => ((hinterlandref06_Validate.f k a0_0 a0_1 l0_2 l1_0 l1_1).bind fun t363 => (if t362 = t363 then ((hinterlandlaw06_known.f k).bind fun t364 => (hinterlandlaw06_WaterValidates.j0 k t364)) else (hinterlandlaw06_WaterValidates.j0 k false)))))
theorem hinterlandlaw06_WaterValidates.mono_l : ∀ k, (∀ y0, LeO (hinterlandlaw06_WaterValidates.j0 k y0) (hinterlandlaw06_WaterValidates.j0 (k + 1) y0))
 | 0 => fun _ r h => by simp [hinterlandlaw06_WaterValidates.j0] at h
 | k + 1 => by
  have ih0:=hinterlandlaw06_WaterValidates.mono_l k
  ·intro y0
   unfold hinterlandlaw06_WaterValidates.j0
   repeat' first
   | (with_reducible exact ih0 _)
   | (with_reducible exact hinterlandlaw06_known.mono _)
   | (with_reducible exact hinterlandref06_Validate.mono _ _ _ _ _ _)
   | (with_reducible exact water_Validate.mono _ _ _ _ _ _)
   | (with_reducible exact LeO.refl _)
   | (with_reducible exact LeO.none _)
   | (with_reducible refine LeO.ite ?_ ?_)
   | (with_reducible refine LeO.bind ?_ (fun _ => ?_))
   | exact ih0 _
   | exact hinterlandlaw06_known.mono _
   | exact hinterlandref06_Validate.mono _ _ _ _ _ _
   | exact water_Validate.mono _ _ _ _ _ _
   | exact LeO.none _
   | refine LeO.ite ?_ ?_
   | refine LeO.bind ?_ (fun _ => ?_)
theorem hinterlandlaw06_WaterValidates.mono : ∀ a0 a1 a2 a3 a4 k, LeO (hinterlandlaw06_WaterValidates.f k a0 a1 a2 a3 a4) (hinterlandlaw06_WaterValidates.f (k + 1) a0 a1 a2 a3 a4) := by
 intro a0 a1 a2 a3 a4 k
 have ih0:=hinterlandlaw06_WaterValidates.mono_l k
 unfold hinterlandlaw06_WaterValidates.f
 repeat' first
   | (with_reducible exact ih0 _)
   | (with_reducible exact hinterlandlaw06_known.mono _)
   | (with_reducible exact hinterlandref06_Validate.mono _ _ _ _ _ _)
   | (with_reducible exact water_Validate.mono _ _ _ _ _ _)
   | (with_reducible exact LeO.refl _)
   | (with_reducible exact LeO.none _)
   | (with_reducible refine LeO.ite ?_ ?_)
   | (with_reducible refine LeO.bind ?_ (fun _ => ?_))
   | exact ih0 _
   | exact hinterlandlaw06_known.mono _
   | exact hinterlandref06_Validate.mono _ _ _ _ _ _
   | exact water_Validate.mono _ _ _ _ _ _
   | exact LeO.none _
   | refine LeO.ite ?_ ?_
   | refine LeO.bind ?_ (fun _ => ?_)
def hinterlandlaw06_WaterValidates.T3 : Bool × List (List Nat × List Nat) := (true, [([], []), ([], []), ([0, 1], [0, 1]), ([], []), ([], []), ([3, 4, 2], [3, 4]), ([2, 5], [2, 5]), ([6, 5], [6]), ([7, 7], [7]), ([7, 8], [7, 8]), ([9, 8, 0, 1, 2, 3, 4, 5, 6, 7, 8, 9], [9])])
def hinterlandlaw06_WaterValidates.B3 : List Nat := [0, 0, 3, 0, 0, 31, 63, 127, 255, 511, 1023]
theorem hinterlandlaw06_WaterValidates.tab3 : rtab .any (opsOf Try.f5 3) = hinterlandlaw06_WaterValidates.T3 := by kernel_rfl
theorem hinterlandlaw06_WaterValidates.bits3 : waitsOk hinterlandlaw06_WaterValidates.T3.2 hinterlandlaw06_WaterValidates.B3 = true := by kernel_rfl
set_option maxHeartbeats 8000000 in
set_option maxRecDepth 100000 in
theorem hinterlandlaw06_WaterValidates.calls (k : Nat) (a0_0 : Int) (a0_1 : Int) (A0_2 : Option Addr) (c0_2 : Nat) (l0_2 : List Int) (A1_0 : Option Addr) (c1_0 : Nat) (l1_0 : List Int) (A1_1 : Option Addr) (c1_1 : Nat) (l1_1 : List Int) (r : Bool) (w : World) (hr0_2 : Kd.C (Kd.int .i64) w A0_2 l0_2.length l0_2) (hc0_2 : l0_2.length ≤ c0_2) (hr1_0 : Kd.C (Kd.int .i64) w A1_0 l1_0.length l1_0) (hc1_0 : l1_0.length ≤ c1_0) (hr1_1 : Kd.C (Kd.int .i64) w A1_1 l1_1.length l1_1) (hc1_1 : l1_1.length ≤ c1_1) (h : hinterlandlaw06_WaterValidates.f k a0_0 a0_1 l0_2 l1_0 l1_1 = some r) :
  Calls Try.prog 5 #[.agg #[.int .i64 a0_0,.int .i64 a0_1,.slice A0_2 l0_2.length c0_2],.agg #[.slice A1_0 l1_0.length c1_0,.slice A1_1 l1_1.length c1_1]] w fun e w' => e = .returned (.bool r) ∧ Below w.heap.size w w':=by
 have hu24:=Try.underlying24
 have hu26:=Try.underlying26
 have HR0_2:=Aside0.mk hr0_2
 have HC0_2:=Aside0.mk hc0_2
 clear hr0_2 hc0_2
 have HR1_0:=Aside0.mk hr1_0
 have HC1_0:=Aside0.mk hc1_0
 clear hr1_0 hc1_0
 have HR1_1:=Aside0.mk hr1_1
 have HC1_1:=Aside0.mk hc1_1
 clear hr1_1 hc1_1
 have HB:=Aside0.mk (Below.refl w.heap.size w)
 have H : ((hinterlandlaw06_large.f a0_0 a0_1 l0_2 l1_0 l1_1).bind fun t360 => (if t360 = true then ((hinterlandlaw06_known.f k).bind fun t361 => (some t361)) else ((water_Validate.f k a0_0 a0_1 l0_2 l1_0 l1_1).bind fun t362 => ((hinterlandref06_Validate.f k a0_0 a0_1 l0_2 l1_0 l1_1).bind fun t363 => (if t362 = t363 then ((hinterlandlaw06_known.f k).bind fun t364 => (hinterlandlaw06_WaterValidates.j0 k t364)) else (hinterlandlaw06_WaterValidates.j0 k false)))))) = some r:=h
 clear h
 replace H:=Option.bind_eq_some_iff.mp H
 obtain ⟨t360,A30,H⟩:=H
 replace H : (if t360 = true then ((hinterlandlaw06_known.f k).bind fun t361 => (some t361)) else ((water_Validate.f k a0_0 a0_1 l0_2 l1_0 l1_1).bind fun t362 => ((hinterlandref06_Validate.f k a0_0 a0_1 l0_2 l1_0 l1_1).bind fun t363 => (if t362 = t363 then ((hinterlandlaw06_known.f k).bind fun t364 => (hinterlandlaw06_WaterValidates.j0 k t364)) else (hinterlandlaw06_WaterValidates.j0 k false))))) = some r:=H
 have A3:=Aside0.mk A30
 clear A30
 by_cases c4 : t360 = true
 ·subst c4
  have H1 : ((hinterlandlaw06_known.f k).bind fun t361 => (some t361)) = some r:=by rw [if_pos rfl] at H;exact H
  clear H
  have H:=H1
  clear H1
  replace H:=Option.bind_eq_some_iff.mp H
  obtain ⟨t361,A50,H⟩:=H
  replace H : (some t361) = some r:=H
  have A5:=Aside0.mk A50
  clear A50
  obtain rfl:=Option.some.inj H
  go_enter Try.func5,Try.ntmps5
  go_wp2_with (first|((with_reducible refine gate_dst (N:=2) rfl ?_);refine box_event ?hg (N:=2) ?hd (cs:=#[.int .i64 a0_0,.int .i64 a0_1,.slice A0_2 l0_2.length c0_2]) (t:=24) ?hr ?_;(case hd => rfl);(case hg => rfl);(case hr => first|(go_simp;done)|(go_simp;rfl));intro gb358 hg w6 hbox hb;have BK358:=Aside0.mk (hbox);have GW358:=Aside0.mk ((by rw [hg];exact (below_size (hb_)) : w.heap.size ≤ gb358));have GE358:=Aside0.mk ((by rw [hg];exact (below_size (hb_)) : w.heap.size ≤ gb358));replace HB:=Aside0.mk (below_step (hb_) hb);clear hb hbox hg)|((with_reducible refine gate_dst (N:=3) rfl ?_);refine box_event ?hg (N:=3) ?hd (cs:=#[.slice A1_0 l1_0.length c1_0,.slice A1_1 l1_1.length c1_1]) (t:=26) ?hr ?_;(case hd => rfl);(case hg => rfl);(case hr => first|(go_simp;done)|(go_simp;rfl));intro gb359 hg w7 hbox hb;have BK359:=Aside0.mk (hbox);have GW359:=Aside0.mk ((by rw [hg];exact (below_size (hb_)) : w.heap.size ≤ gb359));have GE359:=Aside0.mk ((by rw [hg];exact (below_size (hb_)) : w.heap.size ≤ gb359));have NB358_359:=Aside0.mk ((by rw [hg];exact Nat.ne_of_lt (blk_lt (blk_up BK358.out)) : gb358 ≠ gb359));have NB359_358:=Aside0.mk ((by rw [hg];exact Nat.ne_of_gt (blk_lt (blk_up BK358.out)) : gb359 ≠ gb358));replace BK358:=Aside0.mk (blk_below (blk_up BK358.out) hb);replace HB:=Aside0.mk (below_step (hb_) hb);clear hb hbox hg;have hnb8:=NB358_359.out;have hnc8:=NB359_358.out;obtain ⟨hcz9_0,hcz9_1,hcz9_2,hfz9_0,hfz9_1,hfz9_2⟩:=cells3 BK358.out;obtain ⟨hcz10_0,hcz10_1,hfz10_0,hfz10_1⟩:=cells2 BK359.out)|((with_reducible refine gate_callee (f:=14) rfl ?_);refine goesL_ (some 7) rfl rfl Try.func14 (by kernel_rfl) rfl #[.agg #[.int .i64 a0_0,.int .i64 a0_1,.slice A0_2 l0_2.length c0_2],.agg #[.slice A1_0 l1_0.length c1_0,.slice A1_1 l1_1.length c1_1]] rfl (by (try simp only [List.map_toArray,List.map_cons,List.map_nil]);first|done|rfl|(simp only [List.length_drop,List.length_take];rfl)) ?_;(with_reducible refine (hinterlandlaw06_large.calls a0_0 a0_1 _ _ l0_2 _ _ l1_0 _ _ l1_1 true _ ?side1 ?side2 ?side3 ?side4 ?side5 ?side6 A3.out).mono ?_);(case side1 => exact Kd.C_up (Kd.C_below HR0_2.out HB.out));(case side2 => exact HC0_2.out);(case side3 => exact Kd.C_up (Kd.C_below HR1_0.out HB.out));(case side4 => exact HC1_0.out);(case side5 => exact Kd.C_up (Kd.C_below HR1_1.out HB.out));(case side6 => exact HC1_1.out);rintro e w11 ⟨rfl,hb⟩;refine ⟨_,rfl,?_⟩;replace BK358:=Aside0.mk (blk_below (blk_up BK358.out) hb);replace BK359:=Aside0.mk (blk_below (blk_up BK359.out) hb);replace HB:=Aside0.mk (below_step (hb_) hb);(try clear hb);(try clear hb2);(try clear hk);(try clear hi))|((with_reducible refine gate_callee (f:=15) rfl ?_);refine goesL_ (some 8) rfl rfl Try.func15 (by kernel_rfl) rfl #[] rfl (by (try simp only [List.map_toArray,List.map_cons,List.map_nil]);first|done|rfl|(simp only [List.length_drop,List.length_take];rfl)) ?_;(with_reducible refine (hinterlandlaw06_known.calls k  t361 _ A5.out).mono ?_);rintro e w12 ⟨rfl,hb⟩;refine ⟨_,rfl,?_⟩;replace BK358:=Aside0.mk (blk_below (blk_up BK358.out) hb);replace BK359:=Aside0.mk (blk_below (blk_up BK359.out) hb);replace HB:=Aside0.mk (below_step (hb_) hb);(try clear hb);(try clear hb2);(try clear hk);(try clear hi)))
  go_ret
  exact ⟨by first|rfl|(simp [errW_none,errW_some] <;> rfl)|(simp [*,errW_none,errW_some] <;> rfl),hb_⟩
 ·replace c4:=Bool.eq_false_iff.mpr c4
  subst c4
  have H1 : ((water_Validate.f k a0_0 a0_1 l0_2 l1_0 l1_1).bind fun t362 => ((hinterlandref06_Validate.f k a0_0 a0_1 l0_2 l1_0 l1_1).bind fun t363 => (if t362 = t363 then ((hinterlandlaw06_known.f k).bind fun t364 => (hinterlandlaw06_WaterValidates.j0 k t364)) else (hinterlandlaw06_WaterValidates.j0 k false)))) = some r:=by rw [if_neg (show ¬ (false = true) by decide)] at H;exact H
  clear H
  have H:=H1
  clear H1
  have HC13:=Aside0.mk H
  clear H
  go_enter Try.func5,Try.ntmps5
  go_upto_region 3 with (first|((with_reducible refine gate_dst (N:=2) rfl ?_);refine box_event ?hg (N:=2) ?hd (cs:=#[.int .i64 a0_0,.int .i64 a0_1,.slice A0_2 l0_2.length c0_2]) (t:=24) ?hr ?_;(case hd => rfl);(case hg => rfl);(case hr => first|(go_simp;done)|(go_simp;rfl));intro gb358 hg w14 hbox hb;have BK358:=Aside0.mk (hbox);have GW358:=Aside0.mk ((by rw [hg];exact (below_size (hb_)) : w.heap.size ≤ gb358));have GE358:=Aside0.mk ((by rw [hg];exact (below_size (hb_)) : w.heap.size ≤ gb358));replace HB:=Aside0.mk (below_step (hb_) hb);clear hb hbox hg)|((with_reducible refine gate_dst (N:=3) rfl ?_);refine box_event ?hg (N:=3) ?hd (cs:=#[.slice A1_0 l1_0.length c1_0,.slice A1_1 l1_1.length c1_1]) (t:=26) ?hr ?_;(case hd => rfl);(case hg => rfl);(case hr => first|(go_simp;done)|(go_simp;rfl));intro gb359 hg w15 hbox hb;have BK359:=Aside0.mk (hbox);have GW359:=Aside0.mk ((by rw [hg];exact (below_size (hb_)) : w.heap.size ≤ gb359));have GE359:=Aside0.mk ((by rw [hg];exact (below_size (hb_)) : w.heap.size ≤ gb359));have NB358_359:=Aside0.mk ((by rw [hg];exact Nat.ne_of_lt (blk_lt (blk_up BK358.out)) : gb358 ≠ gb359));have NB359_358:=Aside0.mk ((by rw [hg];exact Nat.ne_of_gt (blk_lt (blk_up BK358.out)) : gb359 ≠ gb358));replace BK358:=Aside0.mk (blk_below (blk_up BK358.out) hb);replace HB:=Aside0.mk (below_step (hb_) hb);clear hb hbox hg;have hnb16:=NB358_359.out;have hnc16:=NB359_358.out;obtain ⟨hcz17_0,hcz17_1,hcz17_2,hfz17_0,hfz17_1,hfz17_2⟩:=cells3 BK358.out;obtain ⟨hcz18_0,hcz18_1,hfz18_0,hfz18_1⟩:=cells2 BK359.out)|((with_reducible refine gate_callee (f:=14) rfl ?_);refine goesL_ (some 7) rfl rfl Try.func14 (by kernel_rfl) rfl #[.agg #[.int .i64 a0_0,.int .i64 a0_1,.slice A0_2 l0_2.length c0_2],.agg #[.slice A1_0 l1_0.length c1_0,.slice A1_1 l1_1.length c1_1]] rfl (by (try simp only [List.map_toArray,List.map_cons,List.map_nil]);first|done|rfl|(simp only [List.length_drop,List.length_take];rfl)) ?_;(with_reducible refine (hinterlandlaw06_large.calls a0_0 a0_1 _ _ l0_2 _ _ l1_0 _ _ l1_1 false _ ?side1 ?side2 ?side3 ?side4 ?side5 ?side6 A3.out).mono ?_);(case side1 => exact Kd.C_up (Kd.C_below HR0_2.out HB.out));(case side2 => exact HC0_2.out);(case side3 => exact Kd.C_up (Kd.C_below HR1_0.out HB.out));(case side4 => exact HC1_0.out);(case side5 => exact Kd.C_up (Kd.C_below HR1_1.out HB.out));(case side6 => exact HC1_1.out);rintro e w19 ⟨rfl,hb⟩;refine ⟨_,rfl,?_⟩;replace BK358:=Aside0.mk (blk_below (blk_up BK358.out) hb);replace BK359:=Aside0.mk (blk_below (blk_up BK359.out) hb);replace HB:=Aside0.mk (below_step (hb_) hb);(try clear hb);(try clear hb2);(try clear hk);(try clear hi)))
  (try simp only [Act.put,List.setIfInBounds_toArray,List.set_cons_zero,List.set_cons_succ])
  go_cut [4] (fun v4 wc => ∃ (kq : Nat) (x4_12 : Bool),v4 = .bool x4_12 ∧ Aside0 (hinterlandlaw06_WaterValidates.j0 kq x4_12 = some r) ∧ Aside0 (kq ≤ k) ∧ Aside0 (wc.heap[gb358]? = some (.cells #[.int .i64 a0_0,.int .i64 a0_1,(.slice A0_2 l0_2.length c0_2)] 24 (0,0))) ∧ Aside0 (wc.heap[gb359]? = some (.cells #[(.slice A1_0 l1_0.length c1_0),(.slice A1_1 l1_1.length c1_1)] 26 (0,0))) ∧ Aside0 (Below w.heap.size w wc))
  case first =>
   have H:=HC13.out
   clear HC13
   replace H:=Option.bind_eq_some_iff.mp H
   obtain ⟨t362,A200,H⟩:=H
   replace H : ((hinterlandref06_Validate.f k a0_0 a0_1 l0_2 l1_0 l1_1).bind fun t363 => (if t362 = t363 then ((hinterlandlaw06_known.f k).bind fun t364 => (hinterlandlaw06_WaterValidates.j0 k t364)) else (hinterlandlaw06_WaterValidates.j0 k false))) = some r:=H
   have A20:=Aside0.mk A200
   clear A200
   replace H:=Option.bind_eq_some_iff.mp H
   obtain ⟨t363,A210,H⟩:=H
   replace H : (if t362 = t363 then ((hinterlandlaw06_known.f k).bind fun t364 => (hinterlandlaw06_WaterValidates.j0 k t364)) else (hinterlandlaw06_WaterValidates.j0 k false)) = some r:=H
   have A21:=Aside0.mk A210
   clear A210
   by_cases c22 : t362 = t363
   ·rw [if_pos c22] at H
    have c22b0 : (t362 == t363) = true:=beq_iff_eq.mpr c22
    have c22b1 : (t362 != t363) = false:=bne_eq_false_iff_eq.mpr c22
    clear c22
    (first|rw [c22b0]|(simp only [i64_w,i32_w];rw [c22b0])|skip)
    replace H:=Option.bind_eq_some_iff.mp H
    obtain ⟨t364,A230,H⟩:=H
    replace H : (hinterlandlaw06_WaterValidates.j0 k t364) = some r:=H
    have A23:=Aside0.mk A230
    clear A230
    have H':=Aside0.mk H
    clear H
    try go_wp2
    replace BK358:=Aside0.mk (blk_drew BK358.out)
    replace BK359:=Aside0.mk (blk_drew BK359.out)
    replace HB:=Aside0.mk (below_drew1 HB.out)
    refine start_ (n:=11) (S:=fun w' => w'.cell? ⟨gb358,0,none⟩ = some (.int .i64 a0_0) ∧ w'.cell? ⟨gb358,1,none⟩ = some (.int .i64 a0_1) ∧ w'.cell? ⟨gb358,2,none⟩ = some (.slice A0_2 l0_2.length c0_2) ∧ w'.cell? ⟨gb359,0,none⟩ = some (.slice A1_0 l1_0.length c1_0) ∧ w'.cell? ⟨gb359,1,none⟩ = some (.slice A1_1 l1_1.length c1_1)) (ds:=[]) #[false,false,false,false,false,false,false,false,false,false,false] (by kernel_rfl) rfl rfl ⟨(blk_cell BK358.out 0).trans rfl,(blk_cell BK358.out 1).trans rfl,(blk_cell BK358.out 2).trans rfl,(blk_cell BK359.out 0).trans rfl,(blk_cell BK359.out 1).trans rfl⟩ (fun hHeld => ?_);refine with_tabW hinterlandlaw06_WaterValidates.tab3 hinterlandlaw06_WaterValidates.bits3 (fun HT_ HW_ => ?_)
    generalize w19.drew = w24 at BK358 BK359 HB hHeld ⊢
    refine take_ (i:=0) (N:=some 9) (v:=?_) (a':=?_) #[true,false,false,false,false,false,false,false,false,false,false] rfl rfl (take_ofW HT_.out HW_.out (by kernel_rfl)) (fun _ _ _ h => h) (Or.inl ⟨by rfl,?_⟩) hHeld ?_ ?_
    rotate_left
    ·rintro w' ⟨s0,s1,s2,s3,s4⟩
     go_simp
     with_reducible rfl
    rotate_left
    ·simp only [Act.put,List.setIfInBounds_toArray,List.set_cons_zero,List.set_cons_succ,i64_w,i32_w]
     rfl
    refine take_ (i:=1) (N:=some 10) (v:=?_) (a':=?_) #[true,true,false,false,false,false,false,false,false,false,false] rfl rfl (take_ofW HT_.out HW_.out (by kernel_rfl)) (fun _ _ _ h => h) (Or.inl ⟨by rfl,?_⟩) hHeld ?_ ?_
    rotate_left
    ·rintro w' ⟨s0,s1,s2,s3,s4⟩
     go_simp
     with_reducible rfl
    rotate_left
    ·simp only [Act.put,List.setIfInBounds_toArray,List.set_cons_zero,List.set_cons_succ,i64_w,i32_w]
     rfl
    refine take_ (i:=3) (N:=some 12) (v:=?_) (a':=?_) #[true,true,false,true,false,false,false,false,false,false,false] rfl rfl (take_ofW HT_.out HW_.out (by kernel_rfl)) (fun _ _ _ h => h) (Or.inl ⟨by rfl,?_⟩) hHeld ?_ ?_
    rotate_left
    ·rintro w' ⟨s0,s1,s2,s3,s4⟩
     go_simp
     with_reducible rfl
    rotate_left
    ·simp only [Act.put,List.setIfInBounds_toArray,List.set_cons_zero,List.set_cons_succ,i64_w,i32_w]
     rfl
    refine take_ (i:=4) (N:=some 13) (v:=?_) (a':=?_) #[true,true,false,true,true,false,false,false,false,false,false] rfl rfl (take_ofW HT_.out HW_.out (by kernel_rfl)) (fun _ _ _ h => h) (Or.inl ⟨by rfl,?_⟩) hHeld ?_ ?_
    rotate_left
    ·rintro w' ⟨s0,s1,s2,s3,s4⟩
     go_simp
     with_reducible rfl
    rotate_left
    ·simp only [Act.put,List.setIfInBounds_toArray,List.set_cons_zero,List.set_cons_succ,i64_w,i32_w]
     rfl
    refine one_ (i:=2) (N:=some 11) #[true,true,true,true,true,false,false,false,false,false,false] rfl rfl (one_of HT_.out (by kernel_rfl)) (by decide) (fun K hK => ?_)
    refine goes_ Try.func22 (by kernel_rfl) rfl #[.agg #[.int .i64 a0_0,.int .i64 a0_1,.slice A0_2 l0_2.length c0_2],.agg #[.slice A1_0 l1_0.length c1_0,.slice A1_1 l1_1.length c1_1]] (by rfl) rfl rfl (by (try simp only [List.map_toArray,List.map_cons,List.map_nil]);first|done|rfl|(simp only [List.length_drop,List.length_take];rfl)) ?_
    with_reducible refine (water_Validate.calls k a0_0 a0_1 _ _ l0_2 _ _ l1_0 _ _ l1_1 t362 _ ?side1 ?side2 ?side3 ?side4 ?side5 ?side6 A20.out).mono ?_
    (case side1 => exact Kd.C_up (Kd.C_below HR0_2.out HB.out))
    (case side2 => exact HC0_2.out)
    (case side3 => exact Kd.C_up (Kd.C_below HR1_0.out HB.out))
    (case side4 => exact HC1_0.out)
    (case side5 => exact Kd.C_up (Kd.C_below HR1_1.out HB.out))
    (case side6 => exact HC1_1.out)
    rintro e w25 ⟨rfl,hb⟩
    refine ⟨_,rfl,?_⟩
    have n0_:=Aside0.mk (blk_below (blk_up BK358.out) hb)
    have n1_:=Aside0.mk (blk_below (blk_up BK359.out) hb)
    have n2_:=Aside0.mk (below_step (hb_) hb)
    clear BK358
    clear BK359
    clear HB
    have BK358:=n0_
    have BK359:=n1_
    have HB:=n2_
    clear n0_ n1_ n2_
    (try clear hb)
    (try clear hb2)
    (try clear hk)
    (try clear hi)
    refine hK.out _ _ ⟨(blk_cell BK358.out 0).trans rfl,(blk_cell BK358.out 1).trans rfl,(blk_cell BK358.out 2).trans rfl,(blk_cell BK359.out 0).trans rfl,(blk_cell BK359.out 1).trans rfl⟩ (fun hHeld => ?_)
    clear hK K
    refine norm_ (a':=?_) ?_ ?_
    rotate_left
    ·show Act.put _ (some 11) _ = _
     simp only [Act.put,List.setIfInBounds_toArray,List.set_cons_zero,List.set_cons_succ,i64_w,i32_w]
     rfl
    refine one_ (i:=5) (N:=some 14) #[true,true,true,true,true,true,false,false,false,false,false] rfl rfl (one_of HT_.out (by kernel_rfl)) (by decide) (fun K hK => ?_)
    refine goes_ Try.func23 (by kernel_rfl) rfl #[.agg #[.int .i64 a0_0,.int .i64 a0_1,.slice A0_2 l0_2.length c0_2],.agg #[.slice A1_0 l1_0.length c1_0,.slice A1_1 l1_1.length c1_1]] (by rfl) rfl rfl (by (try simp only [List.map_toArray,List.map_cons,List.map_nil]);first|done|rfl|(simp only [List.length_drop,List.length_take];rfl)) ?_
    with_reducible refine (hinterlandref06_Validate.calls k a0_0 a0_1 _ _ l0_2 _ _ l1_0 _ _ l1_1 t363 _ ?side1 ?side2 ?side3 ?side4 ?side5 ?side6 A21.out).mono ?_
    (case side1 => exact Kd.C_up (Kd.C_below HR0_2.out HB.out))
    (case side2 => exact HC0_2.out)
    (case side3 => exact Kd.C_up (Kd.C_below HR1_0.out HB.out))
    (case side4 => exact HC1_0.out)
    (case side5 => exact Kd.C_up (Kd.C_below HR1_1.out HB.out))
    (case side6 => exact HC1_1.out)
    rintro e w26 ⟨rfl,hb⟩
    refine ⟨_,rfl,?_⟩
    have n0_:=Aside0.mk (blk_below (blk_up BK358.out) hb)
    have n1_:=Aside0.mk (blk_below (blk_up BK359.out) hb)
    have n2_:=Aside0.mk (below_step (hb_) hb)
    clear BK358
    clear BK359
    clear HB
    have BK358:=n0_
    have BK359:=n1_
    have HB:=n2_
    clear n0_ n1_ n2_
    (try clear hb)
    (try clear hb2)
    (try clear hk)
    (try clear hi)
    refine hK.out _ _ ⟨(blk_cell BK358.out 0).trans rfl,(blk_cell BK358.out 1).trans rfl,(blk_cell BK358.out 2).trans rfl,(blk_cell BK359.out 0).trans rfl,(blk_cell BK359.out 1).trans rfl⟩ (fun hHeld => ?_)
    clear hK K
    refine norm_ (a':=?_) ?_ ?_
    rotate_left
    ·show Act.put _ (some 14) _ = _
     simp only [Act.put,List.setIfInBounds_toArray,List.set_cons_zero,List.set_cons_succ,i64_w,i32_w]
     rfl
    refine pure_ (i:=6) (N:=some 15) (v:=?_) (a':=?_) #[true,true,true,true,true,true,true,false,false,false,false] rfl rfl (any_of HT_.out (by kernel_rfl)) (fun _ _ _ h => h) (Or.inl ⟨by rfl,?_⟩) ?_ ?_
    rotate_left
    ·intro w'
     go_simp
     with_reducible rfl
    rotate_left
    ·simp only [Act.put,List.setIfInBounds_toArray,List.set_cons_zero,List.set_cons_succ,i64_w,i32_w]
     rfl
    refine pure_ (i:=7) (N:=some 16) (v:=?_) (a':=?_) #[true,true,true,true,true,true,true,true,false,false,false] rfl rfl (any_of HT_.out (by kernel_rfl)) (fun _ _ _ h => h) (Or.inl ⟨by rfl,?_⟩) ?_ ?_
    rotate_left
    ·intro w'
     go_simp
     with_reducible rfl
    rotate_left
    ·simp only [Act.put,List.setIfInBounds_toArray,List.set_cons_zero,List.set_cons_succ,i64_w,i32_w]
     rfl
    refine one_ (i:=8) (N:=some 17) #[true,true,true,true,true,true,true,true,true,false,false] rfl rfl (one_of HT_.out (by kernel_rfl)) (by decide) (fun K hK => ?_)
    refine goes_ Try.func15 (by kernel_rfl) rfl #[] (by rfl) rfl rfl (by (try simp only [List.map_toArray,List.map_cons,List.map_nil]);first|done|rfl|(simp only [List.length_drop,List.length_take];rfl)) ?_
    with_reducible refine (hinterlandlaw06_known.calls k  t364 _ A23.out).mono ?_
    rintro e w27 ⟨rfl,hb⟩
    refine ⟨_,rfl,?_⟩
    have n0_:=Aside0.mk (blk_below (blk_up BK358.out) hb)
    have n1_:=Aside0.mk (blk_below (blk_up BK359.out) hb)
    have n2_:=Aside0.mk (below_step (hb_) hb)
    clear BK358
    clear BK359
    clear HB
    have BK358:=n0_
    have BK359:=n1_
    have HB:=n2_
    clear n0_ n1_ n2_
    (try clear hb)
    (try clear hb2)
    (try clear hk)
    (try clear hi)
    refine hK.out _ _ ⟨(blk_cell BK358.out 0).trans rfl,(blk_cell BK358.out 1).trans rfl,(blk_cell BK358.out 2).trans rfl,(blk_cell BK359.out 0).trans rfl,(blk_cell BK359.out 1).trans rfl⟩ (fun hHeld => ?_)
    clear hK K
    refine norm_ (a':=?_) ?_ ?_
    rotate_left
    ·show Act.put _ (some 17) _ = _
     simp only [Act.put,List.setIfInBounds_toArray,List.set_cons_zero,List.set_cons_succ,i64_w,i32_w]
     rfl
    refine pure_ (i:=9) (N:=some 18) (v:=?_) (a':=?_) #[true,true,true,true,true,true,true,true,true,true,false] rfl rfl (any_of HT_.out (by kernel_rfl)) (fun _ _ _ h => h) (Or.inl ⟨by rfl,?_⟩) ?_ ?_
    rotate_left
    ·intro w'
     go_simp
     with_reducible rfl
    rotate_left
    ·simp only [Act.put,List.setIfInBounds_toArray,List.set_cons_zero,List.set_cons_succ,i64_w,i32_w]
     rfl
    refine pure_ (i:=10) (N:=some 4) (v:=?_) (a':=?_) #[true,true,true,true,true,true,true,true,true,true,true] rfl rfl (any_of HT_.out (by kernel_rfl)) (fun _ _ _ h => h) (Or.inl ⟨by rfl,?_⟩) ?_ ?_
    rotate_left
    ·intro w'
     go_simp
     with_reducible rfl
    rotate_left
    ·simp only [Act.put,List.setIfInBounds_toArray,List.set_cons_zero,List.set_cons_succ,i64_w,i32_w]
     rfl
    refine done_ (done_of HT_.out (by kernel_rfl)) ?_
    try go_wp2
    go_meet
    case rel => exact ⟨_,(t364),(by first|rfl|(simp;done)|(simp [*];done)),H',⟨by first|omega|exact Nat.le_refl _⟩,⟨blk_up BK358.out⟩,⟨blk_up BK359.out⟩,⟨hb_⟩⟩
   ·rw [if_neg c22] at H
    have c22b0 : (t362 == t363) = false:=beq_eq_false_iff_ne.mpr c22
    have c22b1 : (t362 != t363) = true:=bne_iff_ne.mpr c22
    (first|rw [c22b0]|(simp only [i64_w,i32_w];rw [c22b0])|skip)
    have H':=Aside0.mk H
    clear H
    try go_wp2
    replace BK358:=Aside0.mk (blk_drew BK358.out)
    replace BK359:=Aside0.mk (blk_drew BK359.out)
    replace HB:=Aside0.mk (below_drew1 HB.out)
    refine start_ (n:=11) (S:=fun w' => w'.cell? ⟨gb358,0,none⟩ = some (.int .i64 a0_0) ∧ w'.cell? ⟨gb358,1,none⟩ = some (.int .i64 a0_1) ∧ w'.cell? ⟨gb358,2,none⟩ = some (.slice A0_2 l0_2.length c0_2) ∧ w'.cell? ⟨gb359,0,none⟩ = some (.slice A1_0 l1_0.length c1_0) ∧ w'.cell? ⟨gb359,1,none⟩ = some (.slice A1_1 l1_1.length c1_1)) (ds:=[]) #[false,false,false,false,false,false,false,false,false,false,false] (by kernel_rfl) rfl rfl ⟨(blk_cell BK358.out 0).trans rfl,(blk_cell BK358.out 1).trans rfl,(blk_cell BK358.out 2).trans rfl,(blk_cell BK359.out 0).trans rfl,(blk_cell BK359.out 1).trans rfl⟩ (fun hHeld => ?_);refine with_tabW hinterlandlaw06_WaterValidates.tab3 hinterlandlaw06_WaterValidates.bits3 (fun HT_ HW_ => ?_)
    generalize w19.drew = w28 at BK358 BK359 HB hHeld ⊢
    refine take_ (i:=0) (N:=some 9) (v:=?_) (a':=?_) #[true,false,false,false,false,false,false,false,false,false,false] rfl rfl (take_ofW HT_.out HW_.out (by kernel_rfl)) (fun _ _ _ h => h) (Or.inl ⟨by rfl,?_⟩) hHeld ?_ ?_
    rotate_left
    ·rintro w' ⟨s0,s1,s2,s3,s4⟩
     go_simp
     with_reducible rfl
    rotate_left
    ·simp only [Act.put,List.setIfInBounds_toArray,List.set_cons_zero,List.set_cons_succ,i64_w,i32_w]
     rfl
    refine take_ (i:=1) (N:=some 10) (v:=?_) (a':=?_) #[true,true,false,false,false,false,false,false,false,false,false] rfl rfl (take_ofW HT_.out HW_.out (by kernel_rfl)) (fun _ _ _ h => h) (Or.inl ⟨by rfl,?_⟩) hHeld ?_ ?_
    rotate_left
    ·rintro w' ⟨s0,s1,s2,s3,s4⟩
     go_simp
     with_reducible rfl
    rotate_left
    ·simp only [Act.put,List.setIfInBounds_toArray,List.set_cons_zero,List.set_cons_succ,i64_w,i32_w]
     rfl
    refine take_ (i:=3) (N:=some 12) (v:=?_) (a':=?_) #[true,true,false,true,false,false,false,false,false,false,false] rfl rfl (take_ofW HT_.out HW_.out (by kernel_rfl)) (fun _ _ _ h => h) (Or.inl ⟨by rfl,?_⟩) hHeld ?_ ?_
    rotate_left
    ·rintro w' ⟨s0,s1,s2,s3,s4⟩
     go_simp
     with_reducible rfl
    rotate_left
    ·simp only [Act.put,List.setIfInBounds_toArray,List.set_cons_zero,List.set_cons_succ,i64_w,i32_w]
     rfl
    refine take_ (i:=4) (N:=some 13) (v:=?_) (a':=?_) #[true,true,false,true,true,false,false,false,false,false,false] rfl rfl (take_ofW HT_.out HW_.out (by kernel_rfl)) (fun _ _ _ h => h) (Or.inl ⟨by rfl,?_⟩) hHeld ?_ ?_
    rotate_left
    ·rintro w' ⟨s0,s1,s2,s3,s4⟩
     go_simp
     with_reducible rfl
    rotate_left
    ·simp only [Act.put,List.setIfInBounds_toArray,List.set_cons_zero,List.set_cons_succ,i64_w,i32_w]
     rfl
    refine one_ (i:=2) (N:=some 11) #[true,true,true,true,true,false,false,false,false,false,false] rfl rfl (one_of HT_.out (by kernel_rfl)) (by decide) (fun K hK => ?_)
    refine goes_ Try.func22 (by kernel_rfl) rfl #[.agg #[.int .i64 a0_0,.int .i64 a0_1,.slice A0_2 l0_2.length c0_2],.agg #[.slice A1_0 l1_0.length c1_0,.slice A1_1 l1_1.length c1_1]] (by rfl) rfl rfl (by (try simp only [List.map_toArray,List.map_cons,List.map_nil]);first|done|rfl|(simp only [List.length_drop,List.length_take];rfl)) ?_
    with_reducible refine (water_Validate.calls k a0_0 a0_1 _ _ l0_2 _ _ l1_0 _ _ l1_1 t362 _ ?side1 ?side2 ?side3 ?side4 ?side5 ?side6 A20.out).mono ?_
    (case side1 => exact Kd.C_up (Kd.C_below HR0_2.out HB.out))
    (case side2 => exact HC0_2.out)
    (case side3 => exact Kd.C_up (Kd.C_below HR1_0.out HB.out))
    (case side4 => exact HC1_0.out)
    (case side5 => exact Kd.C_up (Kd.C_below HR1_1.out HB.out))
    (case side6 => exact HC1_1.out)
    rintro e w29 ⟨rfl,hb⟩
    refine ⟨_,rfl,?_⟩
    have n0_:=Aside0.mk (blk_below (blk_up BK358.out) hb)
    have n1_:=Aside0.mk (blk_below (blk_up BK359.out) hb)
    have n2_:=Aside0.mk (below_step (hb_) hb)
    clear BK358
    clear BK359
    clear HB
    have BK358:=n0_
    have BK359:=n1_
    have HB:=n2_
    clear n0_ n1_ n2_
    (try clear hb)
    (try clear hb2)
    (try clear hk)
    (try clear hi)
    refine hK.out _ _ ⟨(blk_cell BK358.out 0).trans rfl,(blk_cell BK358.out 1).trans rfl,(blk_cell BK358.out 2).trans rfl,(blk_cell BK359.out 0).trans rfl,(blk_cell BK359.out 1).trans rfl⟩ (fun hHeld => ?_)
    clear hK K
    refine norm_ (a':=?_) ?_ ?_
    rotate_left
    ·show Act.put _ (some 11) _ = _
     simp only [Act.put,List.setIfInBounds_toArray,List.set_cons_zero,List.set_cons_succ,i64_w,i32_w]
     rfl
    refine one_ (i:=5) (N:=some 14) #[true,true,true,true,true,true,false,false,false,false,false] rfl rfl (one_of HT_.out (by kernel_rfl)) (by decide) (fun K hK => ?_)
    refine goes_ Try.func23 (by kernel_rfl) rfl #[.agg #[.int .i64 a0_0,.int .i64 a0_1,.slice A0_2 l0_2.length c0_2],.agg #[.slice A1_0 l1_0.length c1_0,.slice A1_1 l1_1.length c1_1]] (by rfl) rfl rfl (by (try simp only [List.map_toArray,List.map_cons,List.map_nil]);first|done|rfl|(simp only [List.length_drop,List.length_take];rfl)) ?_
    with_reducible refine (hinterlandref06_Validate.calls k a0_0 a0_1 _ _ l0_2 _ _ l1_0 _ _ l1_1 t363 _ ?side1 ?side2 ?side3 ?side4 ?side5 ?side6 A21.out).mono ?_
    (case side1 => exact Kd.C_up (Kd.C_below HR0_2.out HB.out))
    (case side2 => exact HC0_2.out)
    (case side3 => exact Kd.C_up (Kd.C_below HR1_0.out HB.out))
    (case side4 => exact HC1_0.out)
    (case side5 => exact Kd.C_up (Kd.C_below HR1_1.out HB.out))
    (case side6 => exact HC1_1.out)
    rintro e w30 ⟨rfl,hb⟩
    refine ⟨_,rfl,?_⟩
    have n0_:=Aside0.mk (blk_below (blk_up BK358.out) hb)
    have n1_:=Aside0.mk (blk_below (blk_up BK359.out) hb)
    have n2_:=Aside0.mk (below_step (hb_) hb)
    clear BK358
    clear BK359
    clear HB
    have BK358:=n0_
    have BK359:=n1_
    have HB:=n2_
    clear n0_ n1_ n2_
    (try clear hb)
    (try clear hb2)
    (try clear hk)
    (try clear hi)
    refine hK.out _ _ ⟨(blk_cell BK358.out 0).trans rfl,(blk_cell BK358.out 1).trans rfl,(blk_cell BK358.out 2).trans rfl,(blk_cell BK359.out 0).trans rfl,(blk_cell BK359.out 1).trans rfl⟩ (fun hHeld => ?_)
    clear hK K
    refine norm_ (a':=?_) ?_ ?_
    rotate_left
    ·show Act.put _ (some 14) _ = _
     simp only [Act.put,List.setIfInBounds_toArray,List.set_cons_zero,List.set_cons_succ,i64_w,i32_w]
     rfl
    refine pure_ (i:=6) (N:=some 15) (v:=?_) (a':=?_) #[true,true,true,true,true,true,true,false,false,false,false] rfl rfl (any_of HT_.out (by kernel_rfl)) (fun _ _ _ h => h) (Or.inl ⟨by rfl,?_⟩) ?_ ?_
    rotate_left
    ·intro w'
     go_simp
     with_reducible rfl
    rotate_left
    ·simp only [Act.put,List.setIfInBounds_toArray,List.set_cons_zero,List.set_cons_succ,i64_w,i32_w]
     rfl
    refine pure_ (i:=7) (N:=some 16) (v:=?_) (a':=?_) #[true,true,true,true,true,true,true,true,false,false,false] rfl rfl (any_of HT_.out (by kernel_rfl)) (fun _ _ _ h => h) (Or.inl ⟨by rfl,?_⟩) ?_ ?_
    rotate_left
    ·intro w'
     go_simp
     with_reducible rfl
    rotate_left
    ·simp only [Act.put,List.setIfInBounds_toArray,List.set_cons_zero,List.set_cons_succ,i64_w,i32_w]
     rfl
    refine pure_ (i:=8) (N:=some 17) (v:=undef) (a':=?_) #[true,true,true,true,true,true,true,true,true,false,false] rfl rfl (any_of HT_.out (by kernel_rfl)) (fun _ _ _ h => h) (Or.inr ⟨by rfl,rfl⟩) ?_ ?_
    rotate_left
    ·simp only [Act.put,List.setIfInBounds_toArray,List.set_cons_zero,List.set_cons_succ,i64_w,i32_w]
     rfl
    refine pure_ (i:=9) (N:=some 18) (v:=?_) (a':=?_) #[true,true,true,true,true,true,true,true,true,true,false] rfl rfl (any_of HT_.out (by kernel_rfl)) (fun _ _ _ h => h) (Or.inl ⟨by rfl,?_⟩) ?_ ?_
    rotate_left
    ·intro w'
     go_simp
     with_reducible rfl
    rotate_left
    ·simp only [Act.put,List.setIfInBounds_toArray,List.set_cons_zero,List.set_cons_succ,i64_w,i32_w]
     rfl
    refine pure_ (i:=10) (N:=some 4) (v:=?_) (a':=?_) #[true,true,true,true,true,true,true,true,true,true,true] rfl rfl (any_of HT_.out (by kernel_rfl)) (fun _ _ _ h => h) (Or.inl ⟨by rfl,?_⟩) ?_ ?_
    rotate_left
    ·intro w'
     go_simp
     with_reducible rfl
    rotate_left
    ·simp only [Act.put,List.setIfInBounds_toArray,List.set_cons_zero,List.set_cons_succ,i64_w,i32_w]
     rfl
    refine done_ (done_of HT_.out (by kernel_rfl)) ?_
    try go_wp2
    go_meet
    case rel => exact ⟨_,(false),(by first|rfl|(simp;done)|(simp [*];done)),H',⟨by first|omega|exact Nat.le_refl _⟩,⟨blk_up BK358.out⟩,⟨blk_up BK359.out⟩,⟨hb_⟩⟩
  case rest =>
   clear HC13
   try clear c1
   try clear c2
   try clear p2
   try clear c4
   try clear c5
   try clear c8
   try clear c14
   try clear c15
   try clear c16
   try clear c22
   try clear c22b0
   try clear c22b1
   try clear c23
   try clear hcz10_0
   try clear hcz10_1
   try clear hcz17_0
   try clear hcz17_1
   try clear hcz17_2
   try clear hcz18_0
   try clear hcz18_1
   try clear hcz9_0
   try clear hcz9_1
   try clear hcz9_2
   try clear hfz10_0
   try clear hfz10_1
   try clear hfz17_0
   try clear hfz17_1
   try clear hfz17_2
   try clear hfz18_0
   try clear hfz18_1
   try clear hfz9_0
   try clear hfz9_1
   try clear hfz9_2
   obtain ⟨kq,x4_12,rfl,HA,HJ12,BK358,BK359,HB⟩:=hcut
   cases kq with
   | zero => exact absurd HA.out (by simp [hinterlandlaw06_WaterValidates.j0])
   | succ kj12 =>
    have H:=HA.out
    clear HA
    simp only [hinterlandlaw06_WaterValidates.j0] at H
    obtain rfl:=Option.some.inj H
    go_wp2
    go_ret
    exact ⟨by first|rfl|(simp [errW_none,errW_some] <;> rfl)|(simp [*,errW_none,errW_some] <;> rfl),hb_⟩

end Go.Proofs.Ytiencnnkphipoaa.P

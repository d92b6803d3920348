/- Functions of this seat as plain Lean functions, with proofs that the Go code comes to just their answers, or what stands between them and a law's statement; no conditions. (Laid by a program of this session, out of the kit's print.) -/
import Derived.Test.YtiencnnkphipoaaPx0
import Derived.Test.YtiencnnkphipoaaPx8
import Derived.Test.YtiencnnkphipoaaPx9
import Derived.Test.YtiencnnkphipoaaPx26
namespace Go.Proofs.Ytiencnnkphipoaa.P
open Go.RowKit Go.Proofs.YtiencnnkphipoaaW.PrintWords Go.Proofs.YtiencnnkphipoaaW.PrintLast Go.Proofs.YtiencnnkphipoaaW.PrintMore
attribute [local go_sem] max2_int min2_int max_two min_two max_three min_three max_four min_four   -- for this text's walks alone
set_option linter.unusedVariables false
set_option linter.unusedSimpArgs false

/-! ### hinterlandref06_Meets: function 43 -/
mutual
def hinterlandref06_Meets.j0 : Nat → Int → Int → Int → Bool → Int → Int → List Int → List Int → List Int → Option (Int)
 | 0,_,_,_,_,_,_,_,_,_ => none
 | k + 1,x2,x3,x9,x41,x578000,x578001,x578002,x579000,x579001 => if x41 = true then (some (-1)) else (if 0 ≤ x9 then (if x9 < (x579000.length : Int) then (if (rd x579000 x9) = 2 then (if 0 ≤ x2 then (if x2 < (x579000.length : Int) then (if (rd x579000 x2) = 2 then (some (-1)) else (hinterlandref06_Meets.j1 k x9 x9 x2 (Int.tmod (wrap64 (x3 + 2)) 4) x578000 x578001 x578002 x579000 x579001)) else (none)) else (none)) else (hinterlandref06_Meets.j1 k x9 x2 x9 x3 x578000 x578001 x578002 x579000 x579001)) else (none)) else (none))
def hinterlandref06_Meets.j1 : Nat → Int → Int → Int → Int → Int → Int → List Int → List Int → List Int → Option (Int)
 | 0,_,_,_,_,_,_,_,_,_ => none
 | k + 1,x9,x10,x11,x12,x578000,x578001,x578002,x579000,x579001 => if 0 ≤ x10 then (if x10 < (x579000.length : Int) then (if (rd x579000 x10) = 2 then ((hinterlandref02_Face.f k x578000 x578001 x578002 x10).bind fun bt585 => ((hinterlandref06_upper.f bt585.1).bind fun t587 => (if (Int.tmod x12 2) = (Int.tmod t587 2) then (if x12 = t587 then (hinterlandref06_Meets.j2 k x9 x10 x11 1 x578000 x578001 x578002) else (hinterlandref06_Meets.j2 k x9 x10 x11 0 x578000 x578001 x578002)) else (some (-1))))) else (hinterlandref06_Meets.j2 k x9 x10 x11 0 x578000 x578001 x578002)) else (none)) else (none)
def hinterlandref06_Meets.j2 : Nat → Int → Int → Int → Int → Int → Int → List Int → Option (Int)
 | 0,_,_,_,_,_,_,_ => none
 | k + 1,x9,x10,x11,x13,x578000,x578001,x578002 => (hinterlandref06_Depth.f k x578000 x578001 x578002 x11).bind fun t588 => ((hinterlandref06_Depth.f k x578000 x578001 x578002 x10).bind fun t589 => (if t588 = (wrap64 (t589 + x13)) then (some x9) else (some (-1))))
end
def hinterlandref06_Meets.f (k : Nat) (a0_0 : Int) (a0_1 : Int) (l0_2 : List Int) (l1_0 : List Int) (l1_1 : List Int) (a2 : Int) (a3 : Int) : Option (Int) := (hinterlandref02_Beyond.f a0_0 a0_1 a2 a3).bind fun t579 => (if t579 < 0 then (hinterlandref06_Meets.j0 k a2 a3 t579 true a0_0 a0_1 l0_2 l1_0 l1_1) else ((hinterlandref06_Wet.f k a0_0 a0_1 l0_2 l1_0 a2).bind fun t580 => (if t580 = true then ((hinterlandref06_Wet.f k a0_0 a0_1 l0_2 l1_0 t579).bind fun t581 => (hinterlandref06_Meets.j0 k a2 a3 t579 (!t581) a0_0 a0_1 l0_2 l1_0 l1_1)) else (hinterlandref06_Meets.j0 k a2 a3 t579 true a0_0 a0_1 l0_2 l1_0 l1_1))))
theorem hinterlandref06_Meets.mono_l : ∀ k, (∀ y0 y1 y2 y3 y4 y5 y6 y7 y8, LeO (hinterlandref06_Meets.j0 k y0 y1 y2 y3 y4 y5 y6 y7 y8) (hinterlandref06_Meets.j0 (k + 1) y0 y1 y2 y3 y4 y5 y6 y7 y8)) ∧ (∀ y0 y1 y2 y3 y4 y5 y6 y7 y8, LeO (hinterlandref06_Meets.j1 k y0 y1 y2 y3 y4 y5 y6 y7 y8) (hinterlandref06_Meets.j1 (k + 1) y0 y1 y2 y3 y4 y5 y6 y7 y8)) ∧ (∀ y0 y1 y2 y3 y4 y5 y6, LeO (hinterlandref06_Meets.j2 k y0 y1 y2 y3 y4 y5 y6) (hinterlandref06_Meets.j2 (k + 1) y0 y1 y2 y3 y4 y5 y6))
 | 0 => ⟨fun _ _ _ _ _ _ _ _ _ r h => by simp [hinterlandref06_Meets.j0] at h,fun _ _ _ _ _ _ _ _ _ r h => by simp [hinterlandref06_Meets.j1] at h,fun _ _ _ _ _ _ _ r h => by simp [hinterlandref06_Meets.j2] at h⟩
 | k + 1 => by
  obtain ⟨ih0,ih1,ih2⟩:=hinterlandref06_Meets.mono_l k
  refine ⟨?_,?_,?_⟩
  ·intro y0 y1 y2 y3 y4 y5 y6 y7 y8
   unfold hinterlandref06_Meets.j0
   repeat' first
   | (with_reducible exact ih0 _ _ _ _ _ _ _ _ _)
   | (with_reducible exact ih1 _ _ _ _ _ _ _ _ _)
   | (with_reducible exact ih2 _ _ _ _ _ _ _)
   | (with_reducible exact hinterlandref02_Face.mono _ _ _ _ _)
   | (with_reducible exact hinterlandref06_Depth.mono _ _ _ _ _)
   | (with_reducible exact hinterlandref06_Wet.mono _ _ _ _ _ _)
   | (with_reducible exact LeO.refl _)
   | (with_reducible exact LeO.none _)
   | (with_reducible refine LeO.ite ?_ ?_)
   | (with_reducible refine LeO.bind ?_ (fun _ => ?_))
   | exact ih0 _ _ _ _ _ _ _ _ _
   | exact ih1 _ _ _ _ _ _ _ _ _
   | exact ih2 _ _ _ _ _ _ _
   | exact hinterlandref02_Face.mono _ _ _ _ _
   | exact hinterlandref06_Depth.mono _ _ _ _ _
   | exact hinterlandref06_Wet.mono _ _ _ _ _ _
   | exact LeO.none _
   | refine LeO.ite ?_ ?_
   | refine LeO.bind ?_ (fun _ => ?_)
  ·intro y0 y1 y2 y3 y4 y5 y6 y7 y8
   unfold hinterlandref06_Meets.j1
   repeat' first
   | (with_reducible exact ih0 _ _ _ _ _ _ _ _ _)
   | (with_reducible exact ih1 _ _ _ _ _ _ _ _ _)
   | (with_reducible exact ih2 _ _ _ _ _ _ _)
   | (with_reducible exact hinterlandref02_Face.mono _ _ _ _ _)
   | (with_reducible exact hinterlandref06_Depth.mono _ _ _ _ _)
   | (with_reducible exact hinterlandref06_Wet.mono _ _ _ _ _ _)
   | (with_reducible exact LeO.refl _)
   | (with_reducible exact LeO.none _)
   | (with_reducible refine LeO.ite ?_ ?_)
   | (with_reducible refine LeO.bind ?_ (fun _ => ?_))
   | exact ih0 _ _ _ _ _ _ _ _ _
   | exact ih1 _ _ _ _ _ _ _ _ _
   | exact ih2 _ _ _ _ _ _ _
   | exact hinterlandref02_Face.mono _ _ _ _ _
   | exact hinterlandref06_Depth.mono _ _ _ _ _
   | exact hinterlandref06_Wet.mono _ _ _ _ _ _
   | exact LeO.none _
   | refine LeO.ite ?_ ?_
   | refine LeO.bind ?_ (fun _ => ?_)
  ·intro y0 y1 y2 y3 y4 y5 y6
   unfold hinterlandref06_Meets.j2
   repeat' first
   | (with_reducible exact ih0 _ _ _ _ _ _ _ _ _)
   | (with_reducible exact ih1 _ _ _ _ _ _ _ _ _)
   | (with_reducible exact ih2 _ _ _ _ _ _ _)
   | (with_reducible exact hinterlandref02_Face.mono _ _ _ _ _)
   | (with_reducible exact hinterlandref06_Depth.mono _ _ _ _ _)
   | (with_reducible exact hinterlandref06_Wet.mono _ _ _ _ _ _)
   | (with_reducible exact LeO.refl _)
   | (with_reducible exact LeO.none _)
   | (with_reducible refine LeO.ite ?_ ?_)
   | (with_reducible refine LeO.bind ?_ (fun _ => ?_))
   | exact ih0 _ _ _ _ _ _ _ _ _
   | exact ih1 _ _ _ _ _ _ _ _ _
   | exact ih2 _ _ _ _ _ _ _
   | exact hinterlandref02_Face.mono _ _ _ _ _
   | exact hinterlandref06_Depth.mono _ _ _ _ _
   | exact hinterlandref06_Wet.mono _ _ _ _ _ _
   | exact LeO.none _
   | refine LeO.ite ?_ ?_
   | refine LeO.bind ?_ (fun _ => ?_)
theorem hinterlandref06_Meets.mono : ∀ a0 a1 a2 a3 a4 a5 a6 k, LeO (hinterlandref06_Meets.f k a0 a1 a2 a3 a4 a5 a6) (hinterlandref06_Meets.f (k + 1) a0 a1 a2 a3 a4 a5 a6) := by
 intro a0 a1 a2 a3 a4 a5 a6 k
 obtain ⟨ih0,ih1,ih2⟩:=hinterlandref06_Meets.mono_l k
 unfold hinterlandref06_Meets.f
 repeat' first
   | (with_reducible exact ih0 _ _ _ _ _ _ _ _ _)
   | (with_reducible exact ih1 _ _ _ _ _ _ _ _ _)
   | (with_reducible exact ih2 _ _ _ _ _ _ _)
   | (with_reducible exact hinterlandref02_Face.mono _ _ _ _ _)
   | (with_reducible exact hinterlandref06_Depth.mono _ _ _ _ _)
   | (with_reducible exact hinterlandref06_Wet.mono _ _ _ _ _ _)
   | (with_reducible exact LeO.refl _)
   | (with_reducible exact LeO.none _)
   | (with_reducible refine LeO.ite ?_ ?_)
   | (with_reducible refine LeO.bind ?_ (fun _ => ?_))
   | exact ih0 _ _ _ _ _ _ _ _ _
   | exact ih1 _ _ _ _ _ _ _ _ _
   | exact ih2 _ _ _ _ _ _ _
   | exact hinterlandref02_Face.mono _ _ _ _ _
   | exact hinterlandref06_Depth.mono _ _ _ _ _
   | exact hinterlandref06_Wet.mono _ _ _ _ _ _
   | exact LeO.none _
   | refine LeO.ite ?_ ?_
   | refine LeO.bind ?_ (fun _ => ?_)
def hinterlandref06_Meets.T17 : Bool × List (List Nat × List Nat) := (true, [([], []), ([], []), ([0, 1], [0, 1]), ([], []), ([], []), ([3, 4, 2], [3, 4]), ([], []), ([5, 6], [5, 6]), ([2, 7], [2, 7])])
def hinterlandref06_Meets.B17 : List Nat := [0, 0, 3, 0, 0, 31, 0, 127, 255]
theorem hinterlandref06_Meets.tab17 : rtab .any (opsOf Try.f43 17) = hinterlandref06_Meets.T17 := by kernel_rfl
theorem hinterlandref06_Meets.bits17 : waitsOk hinterlandref06_Meets.T17.2 hinterlandref06_Meets.B17 = true := by kernel_rfl
set_option maxHeartbeats 8000000 in
set_option maxRecDepth 100000 in
theorem hinterlandref06_Meets.calls (k : Nat) (a0_0 : Int) (a0_1 : Int) (A0_2 : Option Addr) (c0_2 : Nat) (l0_2 : List Int) (A1_0 : Option Addr) (c1_0 : Nat) (l1_0 : List Int) (A1_1 : Option Addr) (c1_1 : Nat) (l1_1 : List Int) (a2 : Int) (a3 : Int) (r : Int) (w : World) (hr0_2 : Kd.C (Kd.int .i64) w A0_2 l0_2.length l0_2) (hc0_2 : l0_2.length ≤ c0_2) (hr1_0 : Kd.C (Kd.int .i64) w A1_0 l1_0.length l1_0) (hc1_0 : l1_0.length ≤ c1_0) (hr1_1 : Kd.C (Kd.int .i64) w A1_1 l1_1.length l1_1) (hc1_1 : l1_1.length ≤ c1_1) (h : hinterlandref06_Meets.f k a0_0 a0_1 l0_2 l1_0 l1_1 a2 a3 = some r) :
  Calls Try.prog 43 #[.agg #[.int .i64 a0_0,.int .i64 a0_1,.slice A0_2 l0_2.length c0_2],.agg #[.slice A1_0 l1_0.length c1_0,.slice A1_1 l1_1.length c1_1],.int .i64 a2,.int .i64 a3] w fun e w' => e = .returned (.int .i64 r) ∧ Below w.heap.size w w':=by
 have hu24:=Try.underlying24
 have hu26:=Try.underlying26
 have HR0_2:=Aside0.mk hr0_2
 have HC0_2:=Aside0.mk hc0_2
 clear hr0_2 hc0_2
 have HR1_0:=Aside0.mk hr1_0
 have HC1_0:=Aside0.mk hc1_0
 clear hr1_0 hc1_0
 have HR1_1:=Aside0.mk hr1_1
 have HC1_1:=Aside0.mk hc1_1
 clear hr1_1 hc1_1
 have HB:=Aside0.mk (Below.refl w.heap.size w)
 have H : ((hinterlandref02_Beyond.f a0_0 a0_1 a2 a3).bind fun t579 => (if t579 < 0 then (hinterlandref06_Meets.j0 k a2 a3 t579 true a0_0 a0_1 l0_2 l1_0 l1_1) else ((hinterlandref06_Wet.f k a0_0 a0_1 l0_2 l1_0 a2).bind fun t580 => (if t580 = true then ((hinterlandref06_Wet.f k a0_0 a0_1 l0_2 l1_0 t579).bind fun t581 => (hinterlandref06_Meets.j0 k a2 a3 t579 (!t581) a0_0 a0_1 l0_2 l1_0 l1_1)) else (hinterlandref06_Meets.j0 k a2 a3 t579 true a0_0 a0_1 l0_2 l1_0 l1_1))))) = some r:=h
 clear h
 replace H:=Option.bind_eq_some_iff.mp H
 obtain ⟨t579,A50,H⟩:=H
 replace H : (if t579 < 0 then (hinterlandref06_Meets.j0 k a2 a3 t579 true a0_0 a0_1 l0_2 l1_0 l1_1) else ((hinterlandref06_Wet.f k a0_0 a0_1 l0_2 l1_0 a2).bind fun t580 => (if t580 = true then ((hinterlandref06_Wet.f k a0_0 a0_1 l0_2 l1_0 t579).bind fun t581 => (hinterlandref06_Meets.j0 k a2 a3 t579 (!t581) a0_0 a0_1 l0_2 l1_0 l1_1)) else (hinterlandref06_Meets.j0 k a2 a3 t579 true a0_0 a0_1 l0_2 l1_0 l1_1)))) = some r:=H
 have A5:=Aside0.mk A50
 clear A50
 have HC6:=Aside0.mk H
 clear H
 go_enter Try.func43,Try.ntmps43
 go_upto_region 2 with (first|((with_reducible refine gate_dst (N:=4) rfl ?_);refine box_ev (N:=4) (cs:=#[.int .i64 a0_0,.int .i64 a0_1,.slice A0_2 l0_2.length c0_2]) (t:=24) ?_;intro gb577 hg w7 hbox hb;have BK577:=Aside0.mk (hbox);have GW577 : Aside0 (w.heap.size ≤ gb577):=gsz hg;have GE577:=GW577;replace HB:=Aside0.mk (below_step (hb_) hb);clear hb hbox hg)|((with_reducible refine gate_dst (N:=5) rfl ?_);refine box_ev (N:=5) (cs:=#[.slice A1_0 l1_0.length c1_0,.slice A1_1 l1_1.length c1_1]) (t:=26) ?_;intro gb578 hg w8 hbox hb;have BK578:=Aside0.mk (hbox);have GW578 : Aside0 (w.heap.size ≤ gb578):=gsz hg;have GE578:=GW578;have NB577_578:=nbl BK577 hg;have NB578_577:=nbr BK577 hg;replace BK577:=bkb BK577 hb;replace HB:=Aside0.mk (below_step (hb_) hb);clear hb hbox hg;have hnb9:=NB577_578.out;have hnc9:=NB578_577.out;obtain ⟨hcz10_0,hcz10_1,hcz10_2,hfz10_0,hfz10_1,hfz10_2⟩:=cells3 BK577.out)|((with_reducible refine gate_callee (f:=18) rfl ?_);refine goesL_ (some 23) rfl rfl Try.func18 (by kernel_rfl) rfl #[.int .i64 a0_0,.int .i64 a0_1,.int .i64 a2,.int .i64 a3] rfl (by (try simp only [List.map_toArray,List.map_cons,List.map_nil]);first|done|rfl|(simp only [List.length_drop,List.length_take];rfl)) ?_;(with_reducible refine (hinterlandref02_Beyond.calls a0_0 a0_1 a2 a3 t579 _ A5.out).mono ?_);rintro e w' ⟨rfl,⟨nd,rfl⟩⟩;refine ⟨_,rfl,?_⟩))
 (try simp only [Act.put,List.setIfInBounds_toArray,List.set_cons_zero,List.set_cons_succ])
 go_cut [41] (fun v41 wc => ∃ (kq : Nat) (x41_5 : Bool),v41 = .bool x41_5 ∧ Aside0 (hinterlandref06_Meets.j0 kq a2 a3 t579 x41_5 a0_0 a0_1 l0_2 l1_0 l1_1 = some r) ∧ Aside0 (kq ≤ k) ∧ Aside0 (wc.heap[gb577]? = some (.cells #[.int .i64 a0_0,.int .i64 a0_1,(.slice A0_2 l0_2.length c0_2)] 24 (0,0))) ∧ Aside0 (wc.heap[gb578]? = some (.cells #[(.slice A1_0 l1_0.length c1_0),(.slice A1_1 l1_1.length c1_1)] 26 (0,0))) ∧ Aside0 (Below w.heap.size w wc))
 case first =>
  have H:=HC6.out
  clear HC6
  by_cases c11 : t579 < 0
  ·rw [if_pos c11] at H
   have c11b0 : decide (t579 < 0) = true:=decide_eq_true c11
   clear c11
   (first|rw [c11b0]|(simp only [i64_w,i32_w];rw [c11b0])|skip)
   have H':=Aside0.mk H
   clear H
   go_wp2
   go_meet
   case rel => exact ⟨_,(true),(by first|rfl|(simp;done)|(simp [*];done)),H',⟨by first|omega|exact Nat.le_refl _⟩,⟨blk_up BK577.out⟩,⟨blk_up BK578.out⟩,⟨hb_⟩⟩
  rw [if_neg c11] at H
  have c11b0 : decide (t579 < 0) = false:=decide_eq_false c11
  clear c11
  (first|rw [c11b0]|(simp only [i64_w,i32_w];rw [c11b0])|skip)
  replace H:=Option.bind_eq_some_iff.mp H
  obtain ⟨t580,A120,H⟩:=H
  replace H : (if t580 = true then ((hinterlandref06_Wet.f k a0_0 a0_1 l0_2 l1_0 t579).bind fun t581 => (hinterlandref06_Meets.j0 k a2 a3 t579 (!t581) a0_0 a0_1 l0_2 l1_0 l1_1)) else (hinterlandref06_Meets.j0 k a2 a3 t579 true a0_0 a0_1 l0_2 l1_0 l1_1)) = some r:=H
  have A12:=Aside0.mk A120
  clear A120
  by_cases c13 : t580 = true
  ·subst c13
   have H1 : ((hinterlandref06_Wet.f k a0_0 a0_1 l0_2 l1_0 t579).bind fun t581 => (hinterlandref06_Meets.j0 k a2 a3 t579 (!t581) a0_0 a0_1 l0_2 l1_0 l1_1)) = some r:=by rw [if_pos rfl] at H;exact H
   clear H
   have H:=H1
   clear H1
   replace H:=Option.bind_eq_some_iff.mp H
   obtain ⟨t581,A140,H⟩:=H
   replace H : (hinterlandref06_Meets.j0 k a2 a3 t579 (!t581) a0_0 a0_1 l0_2 l1_0 l1_1) = some r:=H
   have A14:=Aside0.mk A140
   clear A140
   have H':=Aside0.mk H
   clear H
   have hnb15:=NB577_578.out
   have hnc15:=NB578_577.out
   obtain ⟨hcz16_0,hcz16_1,hcz16_2,hfz16_0,hfz16_1,hfz16_2⟩:=cells3 BK577.out
   obtain ⟨hcz17_0,hcz17_1,hfz17_0,hfz17_1⟩:=cells2 BK578.out
   go_wp2_with (first|(go_at_call 47;(with_reducible refine (hinterlandref06_Wet.calls k a0_0 a0_1 _ _ l0_2 _ _ l1_0 a2 true _ ?side1 ?side2 ?side3 ?side4 A12.out).mono ?_);(case side1 => exact Kd.C_up (Kd.C_below HR0_2.out HB.out));(case side2 => exact HC0_2.out);(case side3 => exact Kd.C_up (Kd.C_below HR1_0.out HB.out));(case side4 => exact HC1_0.out);rintro e w18 ⟨rfl,hb⟩;replace BK577:=bkb BK577 hb;replace BK578:=bkb BK578 hb;replace HB:=Aside0.mk (below_step (hb_) hb);obtain ⟨hcz19_0,hcz19_1,hcz19_2,hfz19_0,hfz19_1,hfz19_2⟩:=cells3 BK577.out;obtain ⟨hcz20_0,hcz20_1,hfz20_0,hfz20_1⟩:=cells2 BK578.out)|(go_at_call 47;(with_reducible refine (hinterlandref06_Wet.calls k a0_0 a0_1 _ _ l0_2 _ _ l1_0 t579 t581 _ ?side1 ?side2 ?side3 ?side4 A14.out).mono ?_);(case side1 => exact Kd.C_up (Kd.C_below HR0_2.out HB.out));(case side2 => exact HC0_2.out);(case side3 => exact Kd.C_up (Kd.C_below HR1_0.out HB.out));(case side4 => exact HC1_0.out);rintro e w21 ⟨rfl,hb⟩;replace BK577:=bkb BK577 hb;replace BK578:=bkb BK578 hb;replace HB:=Aside0.mk (below_step (hb_) hb)))
   go_meet
   case rel => exact ⟨_,(!t581),(by first|rfl|(simp;done)|(simp [*];done)),H',⟨by first|omega|exact Nat.le_refl _⟩,⟨blk_up BK577.out⟩,⟨blk_up BK578.out⟩,⟨hb_⟩⟩
  ·replace c13:=Bool.eq_false_iff.mpr c13
   subst c13
   have H1 : (hinterlandref06_Meets.j0 k a2 a3 t579 true a0_0 a0_1 l0_2 l1_0 l1_1) = some r:=by rw [if_neg (show ¬ (false = true) by decide)] at H;exact H
   clear H
   have H:=H1
   clear H1
   have H':=Aside0.mk H
   clear H
   have hnb22:=NB577_578.out
   have hnc22:=NB578_577.out
   obtain ⟨hcz23_0,hcz23_1,hcz23_2,hfz23_0,hfz23_1,hfz23_2⟩:=cells3 BK577.out
   obtain ⟨hcz24_0,hcz24_1,hfz24_0,hfz24_1⟩:=cells2 BK578.out
   go_wp2_with (first|(go_at_call 47;(with_reducible refine (hinterlandref06_Wet.calls k a0_0 a0_1 _ _ l0_2 _ _ l1_0 a2 false _ ?side1 ?side2 ?side3 ?side4 A12.out).mono ?_);(case side1 => exact Kd.C_up (Kd.C_below HR0_2.out HB.out));(case side2 => exact HC0_2.out);(case side3 => exact Kd.C_up (Kd.C_below HR1_0.out HB.out));(case side4 => exact HC1_0.out);rintro e w25 ⟨rfl,hb⟩;replace BK577:=bkb BK577 hb;replace BK578:=bkb BK578 hb;replace HB:=Aside0.mk (below_step (hb_) hb)))
   go_meet
   case rel => exact ⟨_,(true),(by first|rfl|(simp;done)|(simp [*];done)),H',⟨by first|omega|exact Nat.le_refl _⟩,⟨blk_up BK577.out⟩,⟨blk_up BK578.out⟩,⟨hb_⟩⟩
 case rest =>
  clear HC6
  obtain ⟨kq,x41_5,rfl,HA,HJ5,BK577,BK578,HB⟩:=hcut
  cases kq with
  | zero => exact absurd HA.out (by simp [hinterlandref06_Meets.j0])
  | succ kj5 =>
   have H:=HA.out
   clear HA
   simp only [hinterlandref06_Meets.j0] at H
   by_cases c26 : x41_5 = true
   ·subst c26
    have H1 : (some (-1)) = some r:=by rw [if_pos rfl] at H;exact H
    clear H
    have H:=H1
    clear H1
    obtain rfl:=Option.some.inj H
    go_wp2
    go_ret
    exact ⟨by first|rfl|(simp [errW_none,errW_some] <;> rfl)|(simp [*,errW_none,errW_some] <;> rfl),hb_⟩
   ·replace c26:=Bool.eq_false_iff.mpr c26
    subst c26
    have H1 : (if 0 ≤ t579 then (if t579 < (l1_0.length : Int) then (if (rd l1_0 t579) = 2 then (if 0 ≤ a2 then (if a2 < (l1_0.length : Int) then (if (rd l1_0 a2) = 2 then (some (-1)) else (hinterlandref06_Meets.j1 kj5 t579 t579 a2 (Int.tmod (wrap64 (a3 + 2)) 4) a0_0 a0_1 l0_2 l1_0 l1_1)) else (none)) else (none)) else (hinterlandref06_Meets.j1 kj5 t579 a2 t579 a3 a0_0 a0_1 l0_2 l1_0 l1_1)) else (none)) else (none)) = some r:=by rw [if_neg (show ¬ (false = true) by decide)] at H;exact H
    clear H
    have H:=H1
    clear H1
    replace H:=ifp_ H;obtain ⟨c27,H⟩:=H
    have c27b0 : decide (0 ≤ t579) = true:=decide_eq_true c27
    clear c27
    replace H:=ifp_ H;obtain ⟨c28,H⟩:=H
    have c28b0 : decide (t579 < (l1_0.length : Int)) = true:=decide_eq_true c28
    clear c28
    have HC29:=Aside0.mk H
    clear H
    have hnb30:=NB578_577.out
    have hnc30:=NB577_578.out
    obtain ⟨hcz31_0,hcz31_1,hfz31_0,hfz31_1⟩:=cells2 BK578.out
    have p582 : 0 ≤ (t579 : Int):=of_decide_eq_true (by first|(with_reducible assumption)|assumption)
    have q582 : t579 < (l1_0.length : Int):=of_decide_eq_true (by first|(with_reducible assumption)|assumption)
    obtain ⟨ad582,e582,hx582_0⟩:=Kd.at_int HR1_0.out t579 p582 q582
    cases e582
    replace hx582_0:=(HB.out.cell (World.block_lt_of_cell? w _ hx582_0)).trans hx582_0
    replace p582:=eq_true p582
    replace q582:=eq_true q582
    go_upto_if 50 with (fail)
    go_cut [10,11,12] (fun v10 v11 v12 wc => ∃ (kq : Nat) (x10_28 : Int) (x11_28 : Int) (x12_28 : Int),v10 = .int .i64 x10_28 ∧ v11 = .int .i64 x11_28 ∧ v12 = .int .i64 x12_28 ∧ Aside0 (hinterlandref06_Meets.j1 kq t579 x10_28 x11_28 x12_28 a0_0 a0_1 l0_2 l1_0 l1_1 = some r) ∧ Aside0 (kq ≤ kj5) ∧ Aside0 (wc.heap[gb577]? = some (.cells #[.int .i64 a0_0,.int .i64 a0_1,(.slice A0_2 l0_2.length c0_2)] 24 (0,0))) ∧ Aside0 (wc.heap[gb578]? = some (.cells #[(.slice (some ad582) l1_0.length c1_0),(.slice A1_1 l1_1.length c1_1)] 26 (0,0))) ∧ Aside0 (Below w.heap.size w wc))
    case first =>
     have H:=HC29.out
     clear HC29
     by_cases c32 : (rd l1_0 t579) = 2
     rotate_left
     ·rw [if_neg c32] at H
      have c32b0 : ((rd l1_0 t579) == 2) = false:=beq_eq_false_iff_ne.mpr c32
      have c32b1 : ((rd l1_0 t579) != 2) = true:=bne_iff_ne.mpr c32
      (first|rw [c32b0]|(simp only [i64_w,i32_w];rw [c32b0])|skip)
      have H':=Aside0.mk H
      clear H
      go_wp2
      go_meet
      case rel => exact ⟨_,(a2),(t579),(a3),(by first|rfl|(simp;done)|(simp [*];done)),(by first|rfl|(simp;done)|(simp [*];done)),(by first|rfl|(simp;done)|(simp [*];done)),H',⟨by have:=HJ5.out;first|omega|exact Nat.le_refl _⟩,⟨blk_up BK577.out⟩,⟨blk_up BK578.out⟩,⟨hb_⟩⟩
     rw [if_pos c32] at H
     have c32b0 : ((rd l1_0 t579) == 2) = true:=beq_iff_eq.mpr c32
     have c32b1 : ((rd l1_0 t579) != 2) = false:=bne_eq_false_iff_eq.mpr c32
     clear c32
     (first|rw [c32b0]|(simp only [i64_w,i32_w];rw [c32b0])|skip)
     replace H:=ifp_ H;obtain ⟨c33,H⟩:=H
     have c33b0 : decide (0 ≤ a2) = true:=decide_eq_true c33
     clear c33
     replace H:=ifp_ H;obtain ⟨c34,H⟩:=H
     have c34b0 : decide (a2 < (l1_0.length : Int)) = true:=decide_eq_true c34
     clear c34
     by_cases c35 : (rd l1_0 a2) = 2
     ·rw [if_pos c35] at H
      have c35b0 : ((rd l1_0 a2) == 2) = true:=beq_iff_eq.mpr c35
      have c35b1 : ((rd l1_0 a2) != 2) = false:=bne_eq_false_iff_eq.mpr c35
      clear c35
      obtain rfl:=Option.some.inj H
      have hnb36:=NB578_577.out
      have hnc36:=NB577_578.out
      obtain ⟨hcz37_0,hcz37_1,hfz37_0,hfz37_1⟩:=cells2 BK578.out
      have p583 : 0 ≤ (a2 : Int):=of_decide_eq_true (by first|(with_reducible assumption)|assumption)
      have q583 : a2 < (l1_0.length : Int):=of_decide_eq_true (by first|(with_reducible assumption)|assumption)
      obtain ⟨ad583,e583,hx583_0⟩:=Kd.at_int HR1_0.out a2 p583 q583
      obtain rfl : ad582 = ad583:=(by injection e583)
      replace hx583_0:=(HB.out.cell (World.block_lt_of_cell? w _ hx583_0)).trans hx583_0
      replace p583:=eq_true p583
      replace q583:=eq_true q583
      go_wp2
      go_ret
      exact ⟨by first|rfl|(simp [errW_none,errW_some] <;> rfl)|(simp [*,errW_none,errW_some] <;> rfl),hb_⟩
     ·rw [if_neg c35] at H
      have c35b0 : ((rd l1_0 a2) == 2) = false:=beq_eq_false_iff_ne.mpr c35
      have c35b1 : ((rd l1_0 a2) != 2) = true:=bne_iff_ne.mpr c35
      have H':=Aside0.mk H
      clear H
      have hnb38:=NB578_577.out
      have hnc38:=NB577_578.out
      obtain ⟨hcz39_0,hcz39_1,hfz39_0,hfz39_1⟩:=cells2 BK578.out
      have p583 : 0 ≤ (a2 : Int):=of_decide_eq_true (by first|(with_reducible assumption)|assumption)
      have q583 : a2 < (l1_0.length : Int):=of_decide_eq_true (by first|(with_reducible assumption)|assumption)
      obtain ⟨ad583,e583,hx583_0⟩:=Kd.at_int HR1_0.out a2 p583 q583
      obtain rfl : ad582 = ad583:=(by injection e583)
      replace hx583_0:=(HB.out.cell (World.block_lt_of_cell? w _ hx583_0)).trans hx583_0
      replace p583:=eq_true p583
      replace q583:=eq_true q583
      go_wp2
      go_meet
      case rel => exact ⟨_,(t579),(a2),(Int.tmod (wrap64 (a3 + 2)) 4),(by first|rfl|(simp;done)|(simp [*];done)),(by first|rfl|(simp;done)|(simp [*];done)),(by first|rfl|(simp;done)|(simp [*];done)),H',⟨by have:=HJ5.out;first|omega|exact Nat.le_refl _⟩,⟨blk_up BK577.out⟩,⟨blk_up BK578.out⟩,⟨hb_⟩⟩
    case rest =>
     clear HC29
     obtain ⟨kq,x10_28,x11_28,x12_28,rfl,rfl,rfl,HA,HJ28,BK577,BK578,HB⟩:=hcut
     cases kq with
     | zero => exact absurd HA.out (by simp [hinterlandref06_Meets.j1])
     | succ kj28 =>
      have H:=HA.out
      clear HA
      simp only [hinterlandref06_Meets.j1] at H
      replace H:=ifp_ H;obtain ⟨c40,H⟩:=H
      have c40b0 : decide (0 ≤ x10_28) = true:=decide_eq_true c40
      clear c40
      replace H:=ifp_ H;obtain ⟨c41,H⟩:=H
      have c41b0 : decide (x10_28 < (l1_0.length : Int)) = true:=decide_eq_true c41
      clear c41
      have HC42:=Aside0.mk H
      clear H
      have hnb43:=NB578_577.out
      have hnc43:=NB577_578.out
      obtain ⟨hcz44_0,hcz44_1,hfz44_0,hfz44_1⟩:=cells2 BK578.out
      have p584 : 0 ≤ (x10_28 : Int):=of_decide_eq_true (by first|(with_reducible assumption)|assumption)
      have q584 : x10_28 < (l1_0.length : Int):=of_decide_eq_true (by first|(with_reducible assumption)|assumption)
      obtain ⟨ad584,e584,hx584_0⟩:=Kd.at_int HR1_0.out x10_28 p584 q584
      obtain rfl : ad582 = ad584:=(by injection e584)
      replace hx584_0:=(HB.out.cell (World.block_lt_of_cell? w _ hx584_0)).trans hx584_0
      replace p584:=eq_true p584
      replace q584:=eq_true q584
      go_upto_if 67 with (fail)
      go_cut [13] (fun v13 wc => ∃ (kq : Nat) (x13_41 : Int),v13 = .int .i64 x13_41 ∧ Aside0 (hinterlandref06_Meets.j2 kq t579 x10_28 x11_28 x13_41 a0_0 a0_1 l0_2 = some r) ∧ Aside0 (kq ≤ kj28) ∧ Aside0 (wc.heap[gb577]? = some (.cells #[.int .i64 a0_0,.int .i64 a0_1,(.slice A0_2 l0_2.length c0_2)] 24 (0,0))) ∧ Aside0 (wc.heap[gb578]? = some (.cells #[(.slice (some ad582) l1_0.length c1_0),(.slice A1_1 l1_1.length c1_1)] 26 (0,0))) ∧ Aside0 (Below w.heap.size w wc))
      case first =>
       have H:=HC42.out
       clear HC42
       by_cases c45 : (rd l1_0 x10_28) = 2
       rotate_left
       ·rw [if_neg c45] at H
        have c45b0 : ((rd l1_0 x10_28) == 2) = false:=beq_eq_false_iff_ne.mpr c45
        have c45b1 : ((rd l1_0 x10_28) != 2) = true:=bne_iff_ne.mpr c45
        (first|rw [c45b0]|(simp only [i64_w,i32_w];rw [c45b0])|skip)
        have H':=Aside0.mk H
        clear H
        go_wp2
        go_meet
        case rel => exact ⟨_,(0),(by first|rfl|(simp;done)|(simp [*];done)),H',⟨by have:=HJ5.out;have:=HJ28.out;first|omega|exact Nat.le_refl _⟩,⟨blk_up BK577.out⟩,⟨blk_up BK578.out⟩,⟨hb_⟩⟩
       rw [if_pos c45] at H
       have c45b0 : ((rd l1_0 x10_28) == 2) = true:=beq_iff_eq.mpr c45
       have c45b1 : ((rd l1_0 x10_28) != 2) = false:=bne_eq_false_iff_eq.mpr c45
       clear c45
       (first|rw [c45b0]|(simp only [i64_w,i32_w];rw [c45b0])|skip)
       replace H:=Option.bind_eq_some_iff.mp H
       obtain ⟨⟨t585,t586⟩,A460,H⟩:=H
       replace H : ((hinterlandref06_upper.f t585).bind fun t587 => (if (Int.tmod x12_28 2) = (Int.tmod t587 2) then (if x12_28 = t587 then (hinterlandref06_Meets.j2 kj28 t579 x10_28 x11_28 1 a0_0 a0_1 l0_2) else (hinterlandref06_Meets.j2 kj28 t579 x10_28 x11_28 0 a0_0 a0_1 l0_2)) else (some (-1)))) = some r:=H
       have A46:=Aside0.mk A460
       clear A460
       replace H:=Option.bind_eq_some_iff.mp H
       obtain ⟨t587,A470,H⟩:=H
       replace H : (if (Int.tmod x12_28 2) = (Int.tmod t587 2) then (if x12_28 = t587 then (hinterlandref06_Meets.j2 kj28 t579 x10_28 x11_28 1 a0_0 a0_1 l0_2) else (hinterlandref06_Meets.j2 kj28 t579 x10_28 x11_28 0 a0_0 a0_1 l0_2)) else (some (-1))) = some r:=H
       have A47:=Aside0.mk A470
       clear A470
       by_cases c48 : (Int.tmod x12_28 2) = (Int.tmod t587 2)
       ·rw [if_pos c48] at H
        have c48b0 : ((Int.tmod x12_28 2) == (Int.tmod t587 2)) = true:=beq_iff_eq.mpr c48
        have c48b1 : ((Int.tmod x12_28 2) != (Int.tmod t587 2)) = false:=bne_eq_false_iff_eq.mpr c48
        clear c48
        by_cases c49 : x12_28 = t587
        ·rw [if_pos c49] at H
         have c49b0 : (x12_28 == t587) = true:=beq_iff_eq.mpr c49
         have c49b1 : (x12_28 != t587) = false:=bne_eq_false_iff_eq.mpr c49
         clear c49
         have H':=Aside0.mk H
         clear H
         have hnb50:=NB577_578.out
         have hnc50:=NB578_577.out
         obtain ⟨hcz51_0,hcz51_1,hcz51_2,hfz51_0,hfz51_1,hfz51_2⟩:=cells3 BK577.out
         go_wp2_with (first|((with_reducible refine gate_callee (f:=50) rfl ?_);refine goesL_ (some 71) rfl rfl Try.func50 (by kernel_rfl) rfl #[.agg #[.int .i64 a0_0,.int .i64 a0_1,.slice A0_2 l0_2.length c0_2],.int .i64 x10_28] rfl (by (try simp only [List.map_toArray,List.map_cons,List.map_nil]);first|done|rfl|(simp only [List.length_drop,List.length_take];rfl)) ?_;(with_reducible refine (hinterlandref02_Face.calls kj28 a0_0 a0_1 _ _ l0_2 x10_28 t585 t586 _ ?side1 ?side2 A46.out).mono ?_);(case side1 => exact Kd.C_up (Kd.C_below HR0_2.out HB.out));(case side2 => exact HC0_2.out);rintro e w52 ⟨rfl,hb⟩;refine ⟨_,rfl,?_⟩;replace BK577:=bkb BK577 hb;replace BK578:=bkb BK578 hb;replace HB:=Aside0.mk (below_step (hb_) hb))|((with_reducible refine gate_callee (f:=63) rfl ?_);refine goesL_ (some 75) rfl rfl Try.func63 (by kernel_rfl) rfl #[.int .i64 t585] rfl (by (try simp only [List.map_toArray,List.map_cons,List.map_nil]);first|done|rfl|(simp only [List.length_drop,List.length_take];rfl)) ?_;(with_reducible refine (hinterlandref06_upper.calls t585 t587 _ A47.out).mono ?_);rintro e w' ⟨rfl,⟨nd,rfl⟩⟩;refine ⟨_,rfl,?_⟩))
         go_meet
         case rel => exact ⟨_,(1),(by first|rfl|(simp;done)|(simp [*];done)),H',⟨by have:=HJ5.out;have:=HJ28.out;first|omega|exact Nat.le_refl _⟩,⟨blk_up BK577.out⟩,⟨blk_up BK578.out⟩,⟨hb_⟩⟩
        ·rw [if_neg c49] at H
         have c49b0 : (x12_28 == t587) = false:=beq_eq_false_iff_ne.mpr c49
         have c49b1 : (x12_28 != t587) = true:=bne_iff_ne.mpr c49
         have H':=Aside0.mk H
         clear H
         have hnb53:=NB577_578.out
         have hnc53:=NB578_577.out
         obtain ⟨hcz54_0,hcz54_1,hcz54_2,hfz54_0,hfz54_1,hfz54_2⟩:=cells3 BK577.out
         go_wp2_with (first|((with_reducible refine gate_callee (f:=50) rfl ?_);refine goesL_ (some 71) rfl rfl Try.func50 (by kernel_rfl) rfl #[.agg #[.int .i64 a0_0,.int .i64 a0_1,.slice A0_2 l0_2.length c0_2],.int .i64 x10_28] rfl (by (try simp only [List.map_toArray,List.map_cons,List.map_nil]);first|done|rfl|(simp only [List.length_drop,List.length_take];rfl)) ?_;(with_reducible refine (hinterlandref02_Face.calls kj28 a0_0 a0_1 _ _ l0_2 x10_28 t585 t586 _ ?side1 ?side2 A46.out).mono ?_);(case side1 => exact Kd.C_up (Kd.C_below HR0_2.out HB.out));(case side2 => exact HC0_2.out);rintro e w55 ⟨rfl,hb⟩;refine ⟨_,rfl,?_⟩;replace BK577:=bkb BK577 hb;replace BK578:=bkb BK578 hb;replace HB:=Aside0.mk (below_step (hb_) hb))|((with_reducible refine gate_callee (f:=63) rfl ?_);refine goesL_ (some 75) rfl rfl Try.func63 (by kernel_rfl) rfl #[.int .i64 t585] rfl (by (try simp only [List.map_toArray,List.map_cons,List.map_nil]);first|done|rfl|(simp only [List.length_drop,List.length_take];rfl)) ?_;(with_reducible refine (hinterlandref06_upper.calls t585 t587 _ A47.out).mono ?_);rintro e w' ⟨rfl,⟨nd,rfl⟩⟩;refine ⟨_,rfl,?_⟩))
         go_meet
         case rel => exact ⟨_,(0),(by first|rfl|(simp;done)|(simp [*];done)),H',⟨by have:=HJ5.out;have:=HJ28.out;first|omega|exact Nat.le_refl _⟩,⟨blk_up BK577.out⟩,⟨blk_up BK578.out⟩,⟨hb_⟩⟩
       ·rw [if_neg c48] at H
        have c48b0 : ((Int.tmod x12_28 2) == (Int.tmod t587 2)) = false:=beq_eq_false_iff_ne.mpr c48
        have c48b1 : ((Int.tmod x12_28 2) != (Int.tmod t587 2)) = true:=bne_iff_ne.mpr c48
        obtain rfl:=Option.some.inj H
        have hnb56:=NB577_578.out
        have hnc56:=NB578_577.out
        obtain ⟨hcz57_0,hcz57_1,hcz57_2,hfz57_0,hfz57_1,hfz57_2⟩:=cells3 BK577.out
        go_wp2_with (first|((with_reducible refine gate_callee (f:=50) rfl ?_);refine goesL_ (some 71) rfl rfl Try.func50 (by kernel_rfl) rfl #[.agg #[.int .i64 a0_0,.int .i64 a0_1,.slice A0_2 l0_2.length c0_2],.int .i64 x10_28] rfl (by (try simp only [List.map_toArray,List.map_cons,List.map_nil]);first|done|rfl|(simp only [List.length_drop,List.length_take];rfl)) ?_;(with_reducible refine (hinterlandref02_Face.calls kj28 a0_0 a0_1 _ _ l0_2 x10_28 t585 t586 _ ?side1 ?side2 A46.out).mono ?_);(case side1 => exact Kd.C_up (Kd.C_below HR0_2.out HB.out));(case side2 => exact HC0_2.out);rintro e w58 ⟨rfl,hb⟩;refine ⟨_,rfl,?_⟩;replace BK577:=bkb BK577 hb;replace BK578:=bkb BK578 hb;replace HB:=Aside0.mk (below_step (hb_) hb))|((with_reducible refine gate_callee (f:=63) rfl ?_);refine goesL_ (some 75) rfl rfl Try.func63 (by kernel_rfl) rfl #[.int .i64 t585] rfl (by (try simp only [List.map_toArray,List.map_cons,List.map_nil]);first|done|rfl|(simp only [List.length_drop,List.length_take];rfl)) ?_;(with_reducible refine (hinterlandref06_upper.calls t585 t587 _ A47.out).mono ?_);rintro e w' ⟨rfl,⟨nd,rfl⟩⟩;refine ⟨_,rfl,?_⟩))
        go_ret
        exact ⟨by first|rfl|(simp [errW_none,errW_some] <;> rfl)|(simp [*,errW_none,errW_some] <;> rfl),hb_⟩
      case rest =>
       clear HC42
       obtain ⟨kq,x13_41,rfl,HA,HJ41,BK577,BK578,HB⟩:=hcut
       cases kq with
       | zero => exact absurd HA.out (by simp [hinterlandref06_Meets.j2])
       | succ kj41 =>
        have H:=HA.out
        clear HA
        simp only [hinterlandref06_Meets.j2] at H
        replace H:=Option.bind_eq_some_iff.mp H
        obtain ⟨t588,A590,H⟩:=H
        replace H : ((hinterlandref06_Depth.f kj41 a0_0 a0_1 l0_2 x10_28).bind fun t589 => (if t588 = (wrap64 (t589 + x13_41)) then (some t579) else (some (-1)))) = some r:=H
        have A59:=Aside0.mk A590
        clear A590
        replace H:=Option.bind_eq_some_iff.mp H
        obtain ⟨t589,A600,H⟩:=H
        replace H : (if t588 = (wrap64 (t589 + x13_41)) then (some t579) else (some (-1))) = some r:=H
        have A60:=Aside0.mk A600
        clear A600
        by_cases c61 : t588 = (wrap64 (t589 + x13_41))
        rotate_left
        ·rw [if_neg c61] at H
         have c61b0 : (t588 == (wrap64 (t589 + x13_41))) = false:=beq_eq_false_iff_ne.mpr c61
         have c61b1 : (t588 != (wrap64 (t589 + x13_41))) = true:=bne_iff_ne.mpr c61
         obtain rfl:=Option.some.inj H
         try go_wp2
         replace BK577:=Aside0.mk (blk_drew BK577.out)
         replace BK578:=Aside0.mk (blk_drew BK578.out)
         replace HB:=Aside0.mk (below_drew1 HB.out)
         refine start_ (n:=9) (S:=fun w' => w'.cell? ⟨gb577,0,none⟩ = some (.int .i64 a0_0) ∧ w'.cell? ⟨gb577,1,none⟩ = some (.int .i64 a0_1) ∧ w'.cell? ⟨gb577,2,none⟩ = some (.slice A0_2 l0_2.length c0_2)) (ds:=[]) #[false,false,false,false,false,false,false,false,false] (by kernel_rfl) rfl rfl ⟨(blk_cell BK577.out 0).trans rfl,(blk_cell BK577.out 1).trans rfl,(blk_cell BK577.out 2).trans rfl⟩ (fun hHeld => ?_);refine with_tabW hinterlandref06_Meets.tab17 hinterlandref06_Meets.bits17 (fun HT_ HW_ => ?_)
         generalize wc.drew = w65 at BK577 BK578 HB hHeld ⊢
         refine pI 1 (some 85) ?_
         refine pI 4 (some 88) ?_
         refine pI 6 (some 90) ?_
         refine tI3 0 (some 84) hHeld ?_
         refine tI3 3 (some 87) hHeld ?_
         refine oI 2 (some 86) (fun K hK => ?_)
         refine goes_ Try.func64 (by kernel_rfl) rfl #[.agg #[.int .i64 a0_0,.int .i64 a0_1,.slice A0_2 l0_2.length c0_2],.int .i64 x11_28] (by rfl) rfl rfl (by (try simp only [List.map_toArray,List.map_cons,List.map_nil]);first|done|rfl|(simp only [List.length_drop,List.length_take];rfl)) ?_
         with_reducible refine (hinterlandref06_Depth.calls kj41 a0_0 a0_1 _ _ l0_2 x11_28 t588 _ ?side1 ?side2 A59.out).mono ?_
         (case side1 => exact Kd.C_up (Kd.C_below HR0_2.out HB.out))
         (case side2 => exact HC0_2.out)
         rintro e w66 ⟨rfl,hb⟩
         refine ⟨_,rfl,?_⟩
         have n0_:=bkb BK577 hb
         have n1_:=bkb BK578 hb
         have n2_:=Aside0.mk (below_step (hb_) hb)
         clear BK577
         clear BK578
         clear HB
         have BK577:=n0_
         have BK578:=n1_
         have HB:=n2_
         clear n0_ n1_ n2_
         (try clear hb)
         (try clear hb2)
         (try clear hk)
         (try clear hi)
         refine hK.out _ _ ⟨(blk_cell BK577.out 0).trans rfl,(blk_cell BK577.out 1).trans rfl,(blk_cell BK577.out 2).trans rfl⟩ (fun hHeld => ?_)
         clear hK K
         refine norm_ (a':=?_) ?_ ?_
         rotate_left
         ·show Act.put _ (some 86) _ = _
          simp only [Act.put,List.setIfInBounds_toArray,List.set_cons_zero,List.set_cons_succ,i64_w,i32_w]
          rfl
         refine oI 5 (some 89) (fun K hK => ?_)
         refine goes_ Try.func64 (by kernel_rfl) rfl #[.agg #[.int .i64 a0_0,.int .i64 a0_1,.slice A0_2 l0_2.length c0_2],.int .i64 x10_28] (by rfl) rfl rfl (by (try simp only [List.map_toArray,List.map_cons,List.map_nil]);first|done|rfl|(simp only [List.length_drop,List.length_take];rfl)) ?_
         with_reducible refine (hinterlandref06_Depth.calls kj41 a0_0 a0_1 _ _ l0_2 x10_28 t589 _ ?side1 ?side2 A60.out).mono ?_
         (case side1 => exact Kd.C_up (Kd.C_below HR0_2.out HB.out))
         (case side2 => exact HC0_2.out)
         rintro e w67 ⟨rfl,hb⟩
         refine ⟨_,rfl,?_⟩
         have n0_:=bkb BK577 hb
         have n1_:=bkb BK578 hb
         have n2_:=Aside0.mk (below_step (hb_) hb)
         clear BK577
         clear BK578
         clear HB
         have BK577:=n0_
         have BK578:=n1_
         have HB:=n2_
         clear n0_ n1_ n2_
         (try clear hb)
         (try clear hb2)
         (try clear hk)
         (try clear hi)
         refine hK.out _ _ ⟨(blk_cell BK577.out 0).trans rfl,(blk_cell BK577.out 1).trans rfl,(blk_cell BK577.out 2).trans rfl⟩ (fun hHeld => ?_)
         clear hK K
         refine norm_ (a':=?_) ?_ ?_
         rotate_left
         ·show Act.put _ (some 89) _ = _
          simp only [Act.put,List.setIfInBounds_toArray,List.set_cons_zero,List.set_cons_succ,i64_w,i32_w]
          rfl
         refine pI 7 (some 91) ?_
         refine pI 8 (some 92) ?_
         refine done_ (done_of HT_.out (by kernel_rfl)) ?_
         try go_wp2
         go_ret
         exact ⟨by first|rfl|(simp [errW_none,errW_some] <;> rfl)|(simp [*,errW_none,errW_some] <;> rfl),hb_⟩
        rw [if_pos c61] at H
        have c61b0 : (t588 == (wrap64 (t589 + x13_41))) = true:=beq_iff_eq.mpr c61
        have c61b1 : (t588 != (wrap64 (t589 + x13_41))) = false:=bne_eq_false_iff_eq.mpr c61
        clear c61
        obtain rfl:=Option.some.inj H
        try go_wp2
        replace BK577:=Aside0.mk (blk_drew BK577.out)
        replace BK578:=Aside0.mk (blk_drew BK578.out)
        replace HB:=Aside0.mk (below_drew1 HB.out)
        refine start_ (n:=9) (S:=fun w' => w'.cell? ⟨gb577,0,none⟩ = some (.int .i64 a0_0) ∧ w'.cell? ⟨gb577,1,none⟩ = some (.int .i64 a0_1) ∧ w'.cell? ⟨gb577,2,none⟩ = some (.slice A0_2 l0_2.length c0_2)) (ds:=[]) #[false,false,false,false,false,false,false,false,false] (by kernel_rfl) rfl rfl ⟨(blk_cell BK577.out 0).trans rfl,(blk_cell BK577.out 1).trans rfl,(blk_cell BK577.out 2).trans rfl⟩ (fun hHeld => ?_);refine with_tabW hinterlandref06_Meets.tab17 hinterlandref06_Meets.bits17 (fun HT_ HW_ => ?_)
        generalize wc.drew = w62 at BK577 BK578 HB hHeld ⊢
        refine pI 1 (some 85) ?_
        refine pI 4 (some 88) ?_
        refine pI 6 (some 90) ?_
        refine tI3 0 (some 84) hHeld ?_
        refine tI3 3 (some 87) hHeld ?_
        refine oI 2 (some 86) (fun K hK => ?_)
        refine goes_ Try.func64 (by kernel_rfl) rfl #[.agg #[.int .i64 a0_0,.int .i64 a0_1,.slice A0_2 l0_2.length c0_2],.int .i64 x11_28] (by rfl) rfl rfl (by (try simp only [List.map_toArray,List.map_cons,List.map_nil]);first|done|rfl|(simp only [List.length_drop,List.length_take];rfl)) ?_
        with_reducible refine (hinterlandref06_Depth.calls kj41 a0_0 a0_1 _ _ l0_2 x11_28 t588 _ ?side1 ?side2 A59.out).mono ?_
        (case side1 => exact Kd.C_up (Kd.C_below HR0_2.out HB.out))
        (case side2 => exact HC0_2.out)
        rintro e w63 ⟨rfl,hb⟩
        refine ⟨_,rfl,?_⟩
        have n0_:=bkb BK577 hb
        have n1_:=bkb BK578 hb
        have n2_:=Aside0.mk (below_step (hb_) hb)
        clear BK577
        clear BK578
        clear HB
        have BK577:=n0_
        have BK578:=n1_
        have HB:=n2_
        clear n0_ n1_ n2_
        (try clear hb)
        (try clear hb2)
        (try clear hk)
        (try clear hi)
        refine hK.out _ _ ⟨(blk_cell BK577.out 0).trans rfl,(blk_cell BK577.out 1).trans rfl,(blk_cell BK577.out 2).trans rfl⟩ (fun hHeld => ?_)
        clear hK K
        refine norm_ (a':=?_) ?_ ?_
        rotate_left
        ·show Act.put _ (some 86) _ = _
         simp only [Act.put,List.setIfInBounds_toArray,List.set_cons_zero,List.set_cons_succ,i64_w,i32_w]
         rfl
        refine oI 5 (some 89) (fun K hK => ?_)
        refine goes_ Try.func64 (by kernel_rfl) rfl #[.agg #[.int .i64 a0_0,.int .i64 a0_1,.slice A0_2 l0_2.length c0_2],.int .i64 x10_28] (by rfl) rfl rfl (by (try simp only [List.map_toArray,List.map_cons,List.map_nil]);first|done|rfl|(simp only [List.length_drop,List.length_take];rfl)) ?_
        with_reducible refine (hinterlandref06_Depth.calls kj41 a0_0 a0_1 _ _ l0_2 x10_28 t589 _ ?side1 ?side2 A60.out).mono ?_
        (case side1 => exact Kd.C_up (Kd.C_below HR0_2.out HB.out))
        (case side2 => exact HC0_2.out)
        rintro e w64 ⟨rfl,hb⟩
        refine ⟨_,rfl,?_⟩
        have n0_:=bkb BK577 hb
        have n1_:=bkb BK578 hb
        have n2_:=Aside0.mk (below_step (hb_) hb)
        clear BK577
        clear BK578
        clear HB
        have BK577:=n0_
        have BK578:=n1_
        have HB:=n2_
        clear n0_ n1_ n2_
        (try clear hb)
        (try clear hb2)
        (try clear hk)
        (try clear hi)
        refine hK.out _ _ ⟨(blk_cell BK577.out 0).trans rfl,(blk_cell BK577.out 1).trans rfl,(blk_cell BK577.out 2).trans rfl⟩ (fun hHeld => ?_)
        clear hK K
        refine norm_ (a':=?_) ?_ ?_
        rotate_left
        ·show Act.put _ (some 89) _ = _
         simp only [Act.put,List.setIfInBounds_toArray,List.set_cons_zero,List.set_cons_succ,i64_w,i32_w]
         rfl
        refine pI 7 (some 91) ?_
        refine pI 8 (some 92) ?_
        refine done_ (done_of HT_.out (by kernel_rfl)) ?_
        try go_wp2
        go_ret
        exact ⟨by first|rfl|(simp [errW_none,errW_some] <;> rfl)|(simp [*,errW_none,errW_some] <;> rfl),hb_⟩

end Go.Proofs.Ytiencnnkphipoaa.P

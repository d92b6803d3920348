/- Functions of this seat as plain Lean functions, with proofs that the Go code comes to just their answers, or what stands between them and a law's statement; no conditions. (Laid by a program of this session, out of the kit's print.) -/
import Derived.Test.YthjmdpekcleihaaPx0
import Derived.Test.YthjmdpekcleihaaPx8
import Derived.Test.YthjmdpekcleihaaPx9
import Derived.Test.YthjmdpekcleihaaPx14
namespace Go.Proofs.Ythjmdpekcleihaa.P
open Go.RowKit Go.Proofs.YthjmdpekcleihaaW.PrintWords Go.Proofs.YthjmdpekcleihaaW.PrintLast Go.Proofs.YthjmdpekcleihaaW.PrintMore
attribute [local go_sem] max2_int min2_int max_two min_two max_three min_three max_four min_four   -- for this text's walks alone
set_option linter.unusedVariables false
set_option linter.unusedSimpArgs false

/-! ### hinterlandref17_Validate: function 17 -/
mutual
def hinterlandref17_Validate.l0 : Nat → Int → Int → Int → List Int → List Int → List Int → List (S50) → Option (Int)
 | 0,_,_,_,_,_,_,_ => none
 | k + 1,x4,x238000,x238001,x238002,x238003,x238004,x238005 => if x4 < (x238004.length : Int) then (if 0 ≤ (wrap64 (x4 - 1)) then (if (wrap64 (x4 - 1)) < (x238004.length : Int) then (if 0 ≤ x4 then (if (rd x238004 (wrap64 (x4 - 1))) ≥ (rd x238004 x4) then (some 1) else (hinterlandref17_Validate.l0 k (wrap64 (x4 + 1)) x238000 x238001 x238002 x238003 x238004 x238005)) else (none)) else (none)) else (none)) else (hinterlandref17_Validate.l1 k 0 x238000 x238001 x238002 x238003 x238004 x238005)
def hinterlandref17_Validate.l1 : Nat → Int → Int → Int → List Int → List Int → List Int → List (S50) → Option (Int)
 | 0,_,_,_,_,_,_,_ => none
 | k + 1,x5,x238000,x238001,x238002,x238003,x238004,x238005 => if x5 < (x238005.length : Int) then (if 0 ≤ x5 then ((hinterlandref17_piece.f ((rd_T50 x238005 x5).f0) ((rd_T50 x238005 x5).f1) ((rd_T50 x238005 x5).f2) ((rd_T50 x238005 x5).f3) ((rd_T50 x238005 x5).f4)).bind fun t243 => (if t243 = true then (some 1) else (hinterlandref17_Validate.l1 k (wrap64 (x5 + 1)) x238000 x238001 x238002 x238003 x238004 x238005))) else (none)) else (hinterlandref17_Validate.l2 k 0 x238000 x238001 x238002 x238003 x238004 x238005)
def hinterlandref17_Validate.l2 : Nat → Int → Int → Int → List Int → List Int → List Int → List (S50) → Option (Int)
 | 0,_,_,_,_,_,_,_ => none
 | k + 1,x7,x238000,x238001,x238002,x238003,x238004,x238005 => if x7 < (x238005.length : Int) then (if 0 ≤ x7 then (if ((rd_T50 x238005 x7).f0) < (-1) then (some 2) else (if ((rd_T50 x238005 x7).f0) ≥ (x238002.length : Int) then (some 2) else (hinterlandref17_Validate.l2 k (wrap64 (x7 + 1)) x238000 x238001 x238002 x238003 x238004 x238005))) else (none)) else (hinterlandref17_Validate.l3 k 0 x238000 x238001 x238002 x238003 x238004 x238005)
def hinterlandref17_Validate.l3 : Nat → Int → Int → Int → List Int → List Int → List Int → List (S50) → Option (Int)
 | 0,_,_,_,_,_,_,_ => none
 | k + 1,x9,x238000,x238001,x238002,x238003,x238004,x238005 => if x9 < (x238005.length : Int) then (if 0 ≤ x9 then (if ((rd_T50 x238005 x9).f0) < 0 then (hinterlandref17_Validate.l3 k (wrap64 (x9 + 1)) x238000 x238001 x238002 x238003 x238004 x238005) else ((hinterlandref17_linked.f k x238000 x238001 x238002 x238003 ((rd_T50 x238005 x9).f0) ((rd_T50 x238005 x9).f2)).bind fun t247 => (if t247 = true then (hinterlandref17_Validate.l3 k (wrap64 (x9 + 1)) x238000 x238001 x238002 x238003 x238004 x238005) else (some 8)))) else (none)) else (hinterlandref17_Validate.l4 k 0 x238000 x238001 x238002 x238003 x238004 x238005)
def hinterlandref17_Validate.l4 : Nat → Int → Int → Int → List Int → List Int → List Int → List (S50) → Option (Int)
 | 0,_,_,_,_,_,_,_ => none
 | k + 1,x11,x238000,x238001,x238002,x238003,x238004,x238005 => if x11 < (x238005.length : Int) then (if 0 ≤ x11 then ((hinterlandref17_taken.f k x238000 x238001 x238002 x238003 x238004 x238005 x11 ((rd_T50 x238005 x11).f0) ((rd_T50 x238005 x11).f2)).bind fun t250 => (if t250 = true then (some 7) else (hinterlandref17_Validate.l4 k (wrap64 (x11 + 1)) x238000 x238001 x238002 x238003 x238004 x238005))) else (none)) else (some 0)
end
def hinterlandref17_Validate.f (k : Nat) (a0_0 : Int) (a0_1 : Int) (l0_2 : List Int) (l0_3 : List Int) (l0_4 : List Int) (l0_5 : List (S50)) : Option (Int) := (hinterlandref04_Validate.f k a0_0 a0_1 l0_2 l0_3).bind fun t238 => (if t238 = 0 then (if (l0_5.length : Int) > 60 then (some 4) else (hinterlandref17_Validate.l0 k 1 a0_0 a0_1 l0_2 l0_3 l0_4 l0_5)) else (some t238))
theorem hinterlandref17_Validate.mono_l : ∀ k, (∀ y0 y1 y2 y3 y4 y5 y6, LeO (hinterlandref17_Validate.l0 k y0 y1 y2 y3 y4 y5 y6) (hinterlandref17_Validate.l0 (k + 1) y0 y1 y2 y3 y4 y5 y6)) ∧ (∀ y0 y1 y2 y3 y4 y5 y6, LeO (hinterlandref17_Validate.l1 k y0 y1 y2 y3 y4 y5 y6) (hinterlandref17_Validate.l1 (k + 1) y0 y1 y2 y3 y4 y5 y6)) ∧ (∀ y0 y1 y2 y3 y4 y5 y6, LeO (hinterlandref17_Validate.l2 k y0 y1 y2 y3 y4 y5 y6) (hinterlandref17_Validate.l2 (k + 1) y0 y1 y2 y3 y4 y5 y6)) ∧ (∀ y0 y1 y2 y3 y4 y5 y6, LeO (hinterlandref17_Validate.l3 k y0 y1 y2 y3 y4 y5 y6) (hinterlandref17_Validate.l3 (k + 1) y0 y1 y2 y3 y4 y5 y6)) ∧ (∀ y0 y1 y2 y3 y4 y5 y6, LeO (hinterlandref17_Validate.l4 k y0 y1 y2 y3 y4 y5 y6) (hinterlandref17_Validate.l4 (k + 1) y0 y1 y2 y3 y4 y5 y6))
 | 0 => ⟨fun _ _ _ _ _ _ _ r h => by simp [hinterlandref17_Validate.l0] at h,fun _ _ _ _ _ _ _ r h => by simp [hinterlandref17_Validate.l1] at h,fun _ _ _ _ _ _ _ r h => by simp [hinterlandref17_Validate.l2] at h,fun _ _ _ _ _ _ _ r h => by simp [hinterlandref17_Validate.l3] at h,fun _ _ _ _ _ _ _ r h => by simp [hinterlandref17_Validate.l4] at h⟩
 | k + 1 => by
  obtain ⟨ih0,ih1,ih2,ih3,ih4⟩:=hinterlandref17_Validate.mono_l k
  refine ⟨?_,?_,?_,?_,?_⟩
  ·intro y0 y1 y2 y3 y4 y5 y6
   unfold hinterlandref17_Validate.l0
   repeat' first
   | (with_reducible exact ih0 _ _ _ _ _ _ _)
   | (with_reducible exact ih1 _ _ _ _ _ _ _)
   | (with_reducible exact ih2 _ _ _ _ _ _ _)
   | (with_reducible exact ih3 _ _ _ _ _ _ _)
   | (with_reducible exact ih4 _ _ _ _ _ _ _)
   | (with_reducible exact hinterlandref04_Validate.mono _ _ _ _ _)
   | (with_reducible exact hinterlandref17_linked.mono _ _ _ _ _ _ _)
   | (with_reducible exact hinterlandref17_taken.mono _ _ _ _ _ _ _ _ _ _)
   | (with_reducible exact LeO.refl _)
   | (with_reducible exact LeO.none _)
   | (with_reducible refine LeO.ite ?_ ?_)
   | (with_reducible refine LeO.bind ?_ (fun _ => ?_))
   | exact ih0 _ _ _ _ _ _ _
   | exact ih1 _ _ _ _ _ _ _
   | exact ih2 _ _ _ _ _ _ _
   | exact ih3 _ _ _ _ _ _ _
   | exact ih4 _ _ _ _ _ _ _
   | exact hinterlandref04_Validate.mono _ _ _ _ _
   | exact hinterlandref17_linked.mono _ _ _ _ _ _ _
   | exact hinterlandref17_taken.mono _ _ _ _ _ _ _ _ _ _
   | exact LeO.none _
   | refine LeO.ite ?_ ?_
   | refine LeO.bind ?_ (fun _ => ?_)
  ·intro y0 y1 y2 y3 y4 y5 y6
   unfold hinterlandref17_Validate.l1
   repeat' first
   | (with_reducible exact ih0 _ _ _ _ _ _ _)
   | (with_reducible exact ih1 _ _ _ _ _ _ _)
   | (with_reducible exact ih2 _ _ _ _ _ _ _)
   | (with_reducible exact ih3 _ _ _ _ _ _ _)
   | (with_reducible exact ih4 _ _ _ _ _ _ _)
   | (with_reducible exact hinterlandref04_Validate.mono _ _ _ _ _)
   | (with_reducible exact hinterlandref17_linked.mono _ _ _ _ _ _ _)
   | (with_reducible exact hinterlandref17_taken.mono _ _ _ _ _ _ _ _ _ _)
   | (with_reducible exact LeO.refl _)
   | (with_reducible exact LeO.none _)
   | (with_reducible refine LeO.ite ?_ ?_)
   | (with_reducible refine LeO.bind ?_ (fun _ => ?_))
   | exact ih0 _ _ _ _ _ _ _
   | exact ih1 _ _ _ _ _ _ _
   | exact ih2 _ _ _ _ _ _ _
   | exact ih3 _ _ _ _ _ _ _
   | exact ih4 _ _ _ _ _ _ _
   | exact hinterlandref04_Validate.mono _ _ _ _ _
   | exact hinterlandref17_linked.mono _ _ _ _ _ _ _
   | exact hinterlandref17_taken.mono _ _ _ _ _ _ _ _ _ _
   | exact LeO.none _
   | refine LeO.ite ?_ ?_
   | refine LeO.bind ?_ (fun _ => ?_)
  ·intro y0 y1 y2 y3 y4 y5 y6
   unfold hinterlandref17_Validate.l2
   repeat' first
   | (with_reducible exact ih0 _ _ _ _ _ _ _)
   | (with_reducible exact ih1 _ _ _ _ _ _ _)
   | (with_reducible exact ih2 _ _ _ _ _ _ _)
   | (with_reducible exact ih3 _ _ _ _ _ _ _)
   | (with_reducible exact ih4 _ _ _ _ _ _ _)
   | (with_reducible exact hinterlandref04_Validate.mono _ _ _ _ _)
   | (with_reducible exact hinterlandref17_linked.mono _ _ _ _ _ _ _)
   | (with_reducible exact hinterlandref17_taken.mono _ _ _ _ _ _ _ _ _ _)
   | (with_reducible exact LeO.refl _)
   | (with_reducible exact LeO.none _)
   | (with_reducible refine LeO.ite ?_ ?_)
   | (with_reducible refine LeO.bind ?_ (fun _ => ?_))
   | exact ih0 _ _ _ _ _ _ _
   | exact ih1 _ _ _ _ _ _ _
   | exact ih2 _ _ _ _ _ _ _
   | exact ih3 _ _ _ _ _ _ _
   | exact ih4 _ _ _ _ _ _ _
   | exact hinterlandref04_Validate.mono _ _ _ _ _
   | exact hinterlandref17_linked.mono _ _ _ _ _ _ _
   | exact hinterlandref17_taken.mono _ _ _ _ _ _ _ _ _ _
   | exact LeO.none _
   | refine LeO.ite ?_ ?_
   | refine LeO.bind ?_ (fun _ => ?_)
  ·intro y0 y1 y2 y3 y4 y5 y6
   unfold hinterlandref17_Validate.l3
   repeat' first
   | (with_reducible exact ih0 _ _ _ _ _ _ _)
   | (with_reducible exact ih1 _ _ _ _ _ _ _)
   | (with_reducible exact ih2 _ _ _ _ _ _ _)
   | (with_reducible exact ih3 _ _ _ _ _ _ _)
   | (with_reducible exact ih4 _ _ _ _ _ _ _)
   | (with_reducible exact hinterlandref04_Validate.mono _ _ _ _ _)
   | (with_reducible exact hinterlandref17_linked.mono _ _ _ _ _ _ _)
   | (with_reducible exact hinterlandref17_taken.mono _ _ _ _ _ _ _ _ _ _)
   | (with_reducible exact LeO.refl _)
   | (with_reducible exact LeO.none _)
   | (with_reducible refine LeO.ite ?_ ?_)
   | (with_reducible refine LeO.bind ?_ (fun _ => ?_))
   | exact ih0 _ _ _ _ _ _ _
   | exact ih1 _ _ _ _ _ _ _
   | exact ih2 _ _ _ _ _ _ _
   | exact ih3 _ _ _ _ _ _ _
   | exact ih4 _ _ _ _ _ _ _
   | exact hinterlandref04_Validate.mono _ _ _ _ _
   | exact hinterlandref17_linked.mono _ _ _ _ _ _ _
   | exact hinterlandref17_taken.mono _ _ _ _ _ _ _ _ _ _
   | exact LeO.none _
   | refine LeO.ite ?_ ?_
   | refine LeO.bind ?_ (fun _ => ?_)
  ·intro y0 y1 y2 y3 y4 y5 y6
   unfold hinterlandref17_Validate.l4
   repeat' first
   | (with_reducible exact ih0 _ _ _ _ _ _ _)
   | (with_reducible exact ih1 _ _ _ _ _ _ _)
   | (with_reducible exact ih2 _ _ _ _ _ _ _)
   | (with_reducible exact ih3 _ _ _ _ _ _ _)
   | (with_reducible exact ih4 _ _ _ _ _ _ _)
   | (with_reducible exact hinterlandref04_Validate.mono _ _ _ _ _)
   | (with_reducible exact hinterlandref17_linked.mono _ _ _ _ _ _ _)
   | (with_reducible exact hinterlandref17_taken.mono _ _ _ _ _ _ _ _ _ _)
   | (with_reducible exact LeO.refl _)
   | (with_reducible exact LeO.none _)
   | (with_reducible refine LeO.ite ?_ ?_)
   | (with_reducible refine LeO.bind ?_ (fun _ => ?_))
   | exact ih0 _ _ _ _ _ _ _
   | exact ih1 _ _ _ _ _ _ _
   | exact ih2 _ _ _ _ _ _ _
   | exact ih3 _ _ _ _ _ _ _
   | exact ih4 _ _ _ _ _ _ _
   | exact hinterlandref04_Validate.mono _ _ _ _ _
   | exact hinterlandref17_linked.mono _ _ _ _ _ _ _
   | exact hinterlandref17_taken.mono _ _ _ _ _ _ _ _ _ _
   | exact LeO.none _
   | refine LeO.ite ?_ ?_
   | refine LeO.bind ?_ (fun _ => ?_)
theorem hinterlandref17_Validate.mono : ∀ a0 a1 a2 a3 a4 a5 k, LeO (hinterlandref17_Validate.f k a0 a1 a2 a3 a4 a5) (hinterlandref17_Validate.f (k + 1) a0 a1 a2 a3 a4 a5) := by
 intro a0 a1 a2 a3 a4 a5 k
 obtain ⟨ih0,ih1,ih2,ih3,ih4⟩:=hinterlandref17_Validate.mono_l k
 unfold hinterlandref17_Validate.f
 repeat' first
   | (with_reducible exact ih0 _ _ _ _ _ _ _)
   | (with_reducible exact ih1 _ _ _ _ _ _ _)
   | (with_reducible exact ih2 _ _ _ _ _ _ _)
   | (with_reducible exact ih3 _ _ _ _ _ _ _)
   | (with_reducible exact ih4 _ _ _ _ _ _ _)
   | (with_reducible exact hinterlandref04_Validate.mono _ _ _ _ _)
   | (with_reducible exact hinterlandref17_linked.mono _ _ _ _ _ _ _)
   | (with_reducible exact hinterlandref17_taken.mono _ _ _ _ _ _ _ _ _ _)
   | (with_reducible exact LeO.refl _)
   | (with_reducible exact LeO.none _)
   | (with_reducible refine LeO.ite ?_ ?_)
   | (with_reducible refine LeO.bind ?_ (fun _ => ?_))
   | exact ih0 _ _ _ _ _ _ _
   | exact ih1 _ _ _ _ _ _ _
   | exact ih2 _ _ _ _ _ _ _
   | exact ih3 _ _ _ _ _ _ _
   | exact ih4 _ _ _ _ _ _ _
   | exact hinterlandref04_Validate.mono _ _ _ _ _
   | exact hinterlandref17_linked.mono _ _ _ _ _ _ _
   | exact hinterlandref17_taken.mono _ _ _ _ _ _ _ _ _ _
   | exact LeO.none _
   | refine LeO.ite ?_ ?_
   | refine LeO.bind ?_ (fun _ => ?_)
def hinterlandref17_Validate.T9 : Bool × List (List Nat × List Nat) := (true, [([], []), ([0], [0]), ([], []), ([2], [2]), ([1, 3], [1, 3]), ([4], [4]), ([], []), ([6], [6]), ([], []), ([7, 8], [7, 8]), ([9], [9]), ([5, 10], [5, 10])])
def hinterlandref17_Validate.B9 : List Nat := [0, 1, 0, 4, 15, 31, 0, 64, 0, 448, 960, 2047]
theorem hinterlandref17_Validate.tab9 : rtab .any (opsOf Try.f17 9) = hinterlandref17_Validate.T9 := by kernel_rfl
theorem hinterlandref17_Validate.bits9 : waitsOk hinterlandref17_Validate.T9.2 hinterlandref17_Validate.B9 = true := by kernel_rfl
def hinterlandref17_Validate.T33 : Bool × List (List Nat × List Nat) := (true, [([], []), ([], []), ([], []), ([2], [2]), ([], []), ([3, 4], [3, 4]), ([5], [5]), ([6], [6]), ([], []), ([8], [8]), ([], []), ([9, 10], [9, 10]), ([11], [11]), ([12], [12]), ([0, 1, 7, 13], [0, 1, 7, 13])])
def hinterlandref17_Validate.B33 : List Nat := [0, 0, 0, 4, 0, 28, 60, 124, 0, 256, 0, 1792, 3840, 7936, 16383]
theorem hinterlandref17_Validate.tab33 : rtab .any (opsOf Try.f17 33) = hinterlandref17_Validate.T33 := by kernel_rfl
theorem hinterlandref17_Validate.bits33 : waitsOk hinterlandref17_Validate.T33.2 hinterlandref17_Validate.B33 = true := by kernel_rfl
set_option maxHeartbeats 8000000 in
set_option maxRecDepth 100000 in
theorem hinterlandref17_Validate.calls (k : Nat) (a0_0 : Int) (a0_1 : Int) (A0_2 : Option Addr) (c0_2 : Nat) (l0_2 : List Int) (A0_3 : Option Addr) (c0_3 : Nat) (l0_3 : List Int) (A0_4 : Option Addr) (c0_4 : Nat) (l0_4 : List Int) (A0_5 : Option Addr) (c0_5 : Nat) (l0_5 : List (S50)) (r : Int) (w : World) (hr0_2 : Kd.C (Kd.int .i64) w A0_2 l0_2.length l0_2) (hc0_2 : l0_2.length ≤ c0_2) (hr0_3 : Kd.C (Kd.int .i64) w A0_3 l0_3.length l0_3) (hc0_3 : l0_3.length ≤ c0_3) (hr0_4 : Kd.C (Kd.int .i64) w A0_4 l0_4.length l0_4) (hc0_4 : l0_4.length ≤ c0_4) (hr0_5 : Kd.C k50 w A0_5 l0_5.length l0_5) (hc0_5 : l0_5.length ≤ c0_5) (h : hinterlandref17_Validate.f k a0_0 a0_1 l0_2 l0_3 l0_4 l0_5 = some r) :
  Calls Try.prog 17 #[.agg #[.int .i64 a0_0,.int .i64 a0_1,.slice A0_2 l0_2.length c0_2,.slice A0_3 l0_3.length c0_3,.slice A0_4 l0_4.length c0_4,.slice A0_5 l0_5.length c0_5]] w fun e w' => e = .returned (.int .i64 r) ∧ Below w.heap.size w w':=by
 have hu33:=Try.underlying33
 have hu24:=Try.underlying24
 have hu50:=Try.underlying50
 have HR0_2:=Aside0.mk hr0_2
 have HC0_2:=Aside0.mk hc0_2
 clear hr0_2 hc0_2
 have HR0_3:=Aside0.mk hr0_3
 have HC0_3:=Aside0.mk hc0_3
 clear hr0_3 hc0_3
 have HR0_4:=Aside0.mk hr0_4
 have HC0_4:=Aside0.mk hc0_4
 clear hr0_4 hc0_4
 have HR0_5:=Aside0.mk hr0_5
 have HC0_5:=Aside0.mk hc0_5
 clear hr0_5 hc0_5
 have HB:=Aside0.mk (Below.refl w.heap.size w)
 have H : ((hinterlandref04_Validate.f k a0_0 a0_1 l0_2 l0_3).bind fun t238 => (if t238 = 0 then (if (l0_5.length : Int) > 60 then (some 4) else (hinterlandref17_Validate.l0 k 1 a0_0 a0_1 l0_2 l0_3 l0_4 l0_5)) else (some t238))) = some r:=h
 clear h
 replace H:=Option.bind_eq_some_iff.mp H
 obtain ⟨t238,A20,H⟩:=H
 replace H : (if t238 = 0 then (if (l0_5.length : Int) > 60 then (some 4) else (hinterlandref17_Validate.l0 k 1 a0_0 a0_1 l0_2 l0_3 l0_4 l0_5)) else (some t238)) = some r:=H
 have A2:=Aside0.mk A20
 clear A20
 by_cases c3 : t238 = 0
 rotate_left
 ·rw [if_neg c3] at H
  have c3b0:=bqf c3
  have c3b1:=bnt c3
  obtain rfl:=Option.some.inj H
  go_enter Try.func17,Try.ntmps17
  go_wp2_with (first|((with_reducible refine gate_dst (N:=1) rfl ?_);(try (refine gate_guard (by rfl) ?_;dsimp only));refine box_ev (N:=1) (cs:=#[.int .i64 a0_0,.int .i64 a0_1,.slice A0_2 l0_2.length c0_2,.slice A0_3 l0_3.length c0_3,.slice A0_4 l0_4.length c0_4,.slice A0_5 l0_5.length c0_5]) (t:=33) ?_;intro gb237 hg w78 hbox hb;have BK237:=Aside0.mk (hbox);have GW237 : Aside0 (w.heap.size ≤ gb237):=gsz hg;have GE237:=GW237;replace HB:=hbs hb;clear hb hbox hg;obtain ⟨_,_,_,_,_,_,_,_,_,_,_,_⟩:=cells6 BK237.out)|((with_reducible refine gate_callee (f:=34) rfl ?_);refine goesL_ (some 14) rfl rfl Try.func34 (by kernel_rfl) rfl #[.agg #[.int .i64 a0_0,.int .i64 a0_1,.slice A0_2 l0_2.length c0_2,.slice A0_3 l0_3.length c0_3]] rfl ga_ ?_;(with_reducible refine (hinterlandref04_Validate.calls k a0_0 a0_1 _ _ l0_2 _ _ l0_3 t238 _ ?_ ?_ ?_ ?_ A2.out).mono ?_);exact cq HR0_2;exact HC0_2.out;exact cq HR0_3;exact HC0_3.out;rintro e w80 ⟨rfl,hb⟩;refine ⟨_,rfl,?_⟩;replace BK237:=bkb BK237 hb;replace HB:=hbs hb))
  go_ret
  exact ⟨er_,hb_⟩
 rw [if_pos c3] at H
 have c3b0:=bqt c3
 have c3b1:=bnf c3
 clear c3
 by_cases c4 : (l0_5.length : Int) > 60
 ·rw [if_pos c4] at H
  have c4b0 : decide (60 < (l0_5.length : Int)) = true:=decide_eq_true c4
  have c4b1 : decide (60 < l0_5.length) = true:=decide_eq_true (by omega)
  clear c4
  obtain rfl:=Option.some.inj H
  go_enter Try.func17,Try.ntmps17
  go_wp2_with (first|((with_reducible refine gate_dst (N:=1) rfl ?_);(try (refine gate_guard (by rfl) ?_;dsimp only));refine box_ev (N:=1) (cs:=#[.int .i64 a0_0,.int .i64 a0_1,.slice A0_2 l0_2.length c0_2,.slice A0_3 l0_3.length c0_3,.slice A0_4 l0_4.length c0_4,.slice A0_5 l0_5.length c0_5]) (t:=33) ?_;intro gb237 hg w5 hbox hb;have BK237:=Aside0.mk (hbox);have GW237 : Aside0 (w.heap.size ≤ gb237):=gsz hg;have GE237:=GW237;replace HB:=hbs hb;clear hb hbox hg;obtain ⟨_,_,_,_,_,_,_,_,_,_,_,_⟩:=cells6 BK237.out)|((with_reducible refine gate_callee (f:=34) rfl ?_);refine goesL_ (some 14) rfl rfl Try.func34 (by kernel_rfl) rfl #[.agg #[.int .i64 a0_0,.int .i64 a0_1,.slice A0_2 l0_2.length c0_2,.slice A0_3 l0_3.length c0_3]] rfl ga_ ?_;(with_reducible refine (hinterlandref04_Validate.calls k a0_0 a0_1 _ _ l0_2 _ _ l0_3 t238 _ ?_ ?_ ?_ ?_ A2.out).mono ?_);exact cq HR0_2;exact HC0_2.out;exact cq HR0_3;exact HC0_3.out;rintro e w7 ⟨rfl,hb⟩;refine ⟨_,rfl,?_⟩;replace BK237:=bkb BK237 hb;replace HB:=hbs hb;obtain ⟨_,_,_,_,_,_,_,_,_,_,_,_⟩:=cells6 BK237.out))
  go_ret
  exact ⟨er_,hb_⟩
 rw [if_neg c4] at H
 have c4b0 : decide (60 < (l0_5.length : Int)) = false:=decide_eq_false c4
 have c4b1 : decide (60 < l0_5.length) = false:=decide_eq_false (by omega)
 clear c4
 have H':=Aside0.mk H
 clear H
 go_enter Try.func17,Try.ntmps17
 go_wp2_with (first|((with_reducible refine gate_dst (N:=1) rfl ?_);(try (refine gate_guard (by rfl) ?_;dsimp only));refine box_ev (N:=1) (cs:=#[.int .i64 a0_0,.int .i64 a0_1,.slice A0_2 l0_2.length c0_2,.slice A0_3 l0_3.length c0_3,.slice A0_4 l0_4.length c0_4,.slice A0_5 l0_5.length c0_5]) (t:=33) ?_;intro gb237 hg w9 hbox hb;have BK237:=Aside0.mk (hbox);have GW237 : Aside0 (w.heap.size ≤ gb237):=gsz hg;have GE237:=GW237;replace HB:=hbs hb;clear hb hbox hg;obtain ⟨_,_,_,_,_,_,_,_,_,_,_,_⟩:=cells6 BK237.out)|((with_reducible refine gate_callee (f:=34) rfl ?_);refine goesL_ (some 14) rfl rfl Try.func34 (by kernel_rfl) rfl #[.agg #[.int .i64 a0_0,.int .i64 a0_1,.slice A0_2 l0_2.length c0_2,.slice A0_3 l0_3.length c0_3]] rfl ga_ ?_;(with_reducible refine (hinterlandref04_Validate.calls k a0_0 a0_1 _ _ l0_2 _ _ l0_3 t238 _ ?_ ?_ ?_ ?_ A2.out).mono ?_);exact cq HR0_2;exact HC0_2.out;exact cq HR0_3;exact HC0_3.out;rintro e w11 ⟨rfl,hb⟩;refine ⟨_,rfl,?_⟩;replace BK237:=bkb BK237 hb;replace HB:=hbs hb;obtain ⟨_,_,_,_,_,_,_,_,_,_,_,_⟩:=cells6 BK237.out))
 go_loopg [4] k (fun kq v4 w' => ∃ (x4_1 : Int),v4 = .int .i64 x4_1 ∧ Aside0 (hinterlandref17_Validate.l0 kq x4_1 a0_0 a0_1 l0_2 l0_3 l0_4 l0_5 = some r) ∧ Aside0 (kq ≤ k) ∧ Aside0 (w'.heap[gb237]? = some (.cells #[.int .i64 a0_0,.int .i64 a0_1,(.slice A0_2 l0_2.length c0_2),(.slice A0_3 l0_3.length c0_3),(.slice A0_4 l0_4.length c0_4),(.slice A0_5 l0_5.length c0_5)] 33 (0,0))) ∧ Aside0 (Below w.heap.size w w'))
 case atStart => exact ⟨(1),(by first|rfl|(simp;done)|(simp [*];done)),H',⟨Nat.le_refl _⟩,⟨blk_up BK237.out⟩,⟨hb_⟩⟩
 case round =>
  clear H'
  obtain ⟨x4_1,rfl,HA,HK1,BK237,HB⟩:=hrel
  cases gk with
  | zero => exact absurd HA.out (by simp [hinterlandref17_Validate.l0])
  | succ k1 =>
   have H:=HA.out
   clear HA
   simp only [hinterlandref17_Validate.l0] at H
   by_cases c13 : x4_1 < (l0_4.length : Int)
   ·rw [if_pos c13] at H
    have c13b0 : decide (x4_1 < (l0_4.length : Int)) = true:=decide_eq_true c13
    clear c13
    obtain ⟨ji14,hji14⟩ : ∃ j_ : Int,(wrap64 (x4_1 - 1)) = j_:=⟨_,rfl⟩
    replace H : (if 0 ≤ (ji14) then (if (ji14) < (l0_4.length : Int) then (if 0 ≤ x4_1 then (if (rd l0_4 (ji14)) ≥ (rd l0_4 x4_1) then (some 1) else (hinterlandref17_Validate.l0 k1 (wrap64 (x4_1 + 1)) a0_0 a0_1 l0_2 l0_3 l0_4 l0_5)) else (none)) else (none)) else (none)) = some r:=by first|(rw [hji14] at H;exact H)|(simp only [hji14] at H ⊢;exact H)
    have hji14w : (IntKind.i64.wrap (x4_1 - 1)) = ji14:=(i64_w _).trans hji14
    replace H:=ifp_ H;obtain ⟨c15,H⟩:=H
    have c15b0 : decide (0 ≤ (ji14)) = true:=decide_eq_true c15
    clear c15
    replace H:=ifp_ H;obtain ⟨c16,H⟩:=H
    have c16b0 : decide ((ji14) < (l0_4.length : Int)) = true:=decide_eq_true c16
    clear c16
    replace H:=ifp_ H;obtain ⟨c17,H⟩:=H
    have c17b0 : decide (0 ≤ x4_1) = true:=decide_eq_true c17
    clear c17
    by_cases c18 : (rd l0_4 (ji14)) ≥ (rd l0_4 x4_1)
    ·rw [if_pos c18] at H
     have c18b0 : decide ((rd l0_4 x4_1) ≤ (rd l0_4 (ji14))) = true:=decide_eq_true c18
     clear c18
     obtain rfl:=Option.some.inj H
     obtain ⟨_,_,_,_,_,_,_,_,_,_,_,_⟩:=cells6 BK237.out
     try go_wp2
     replace BK237:=Aside0.mk (blk_drew BK237.out)
     replace HB:=Aside0.mk (below_drew1 HB.out)
     have p239 : 0 ≤ ((ji14) : Int):=of_decide_eq_true (by first|(with_reducible assumption)|assumption)
     have q239 : (ji14) < (l0_4.length : Int):=of_decide_eq_true (by first|(with_reducible assumption)|assumption)
     obtain ⟨ad239,e239,hx239_0⟩:=Kd.at_int HR0_4.out (ji14) p239 q239
     have hw239_0:=hx239_0
     cases e239
     replace hx239_0:=(HB.out.cell (World.block_lt_of_cell? w _ hx239_0)).trans hx239_0
     replace p239:=eq_true p239
     replace q239:=eq_true q239
     have p240 : 0 ≤ (x4_1 : Int):=of_decide_eq_true (by first|(with_reducible assumption)|assumption)
     have q240 : x4_1 < (l0_4.length : Int):=of_decide_eq_true (by first|(with_reducible assumption)|assumption)
     obtain ⟨ad240,e240,hx240_0⟩:=Kd.at_int HR0_4.out x4_1 p240 q240
     have hw240_0:=hx240_0
     obtain rfl : ad239 = ad240:=(by injection e240)
     replace hx240_0:=(HB.out.cell (World.block_lt_of_cell? w _ hx240_0)).trans hx240_0
     replace p240:=eq_true p240
     replace q240:=eq_true q240
     refine start_ (n:=12) (S:=fun w' => w'.cell? ⟨gb237,0,none⟩ = some (.int .i64 a0_0) ∧ w'.cell? ⟨gb237,1,none⟩ = some (.int .i64 a0_1) ∧ w'.cell? ⟨gb237,2,none⟩ = some (.slice A0_2 l0_2.length c0_2) ∧ w'.cell? ⟨gb237,3,none⟩ = some (.slice A0_3 l0_3.length c0_3) ∧ w'.cell? ⟨gb237,4,none⟩ = some (.slice (some ad239) l0_4.length c0_4) ∧ w'.cell? ⟨gb237,5,none⟩ = some (.slice A0_5 l0_5.length c0_5) ∧ w'.cell? (ad239.add ((ji14)).toNat) = some (.int .i64 (rd l0_4 (ji14))) ∧ w'.cell? (ad239.add (x4_1).toNat) = some (.int .i64 (rd l0_4 x4_1))) (ds:=[]) #[false,false,false,false,false,false,false,false,false,false,false,false] (by kernel_rfl) rfl rfl ⟨(blk_cell BK237.out 0).trans rfl,(blk_cell BK237.out 1).trans rfl,(blk_cell BK237.out 2).trans rfl,(blk_cell BK237.out 3).trans rfl,(blk_cell BK237.out 4).trans rfl,(blk_cell BK237.out 5).trans rfl,((HB.out.cell (World.block_lt_of_cell? w _ hw239_0)).trans hw239_0),((HB.out.cell (World.block_lt_of_cell? w _ hw240_0)).trans hw240_0)⟩ (fun hHeld => ?_);refine with_tabW hinterlandref17_Validate.tab9 hinterlandref17_Validate.bits9 (fun HT_ HW_ => ?_)
     generalize wr.drew = w20 at BK237 HB hx239_0 hx240_0 hHeld ⊢
     refine pI 0 (some 29) ?_
     refine pI 2 (some 31) ?_
     refine pI 3 (some 32) ?_
     refine pI 6 (some 35) ?_
     refine pI 8 (some 37) ?_
     refine tI8 1 (some 30) hHeld ?_
     refine pI 4 (some 33) ?_
     refine tI8 5 (some 34) hHeld ?_
     refine tI8 7 (some 36) hHeld ?_
     refine pI 9 (some 38) ?_
     refine tI8 10 (some 39) hHeld ?_
     refine pI 11 (some 40) ?_
     refine done_ (done_of HT_.out (by kernel_rfl)) ?_
     try go_wp2
     go_ret
     exact ⟨by first|rfl|(simp [errW_none,errW_some] <;> rfl)|(simp only [← hji14];first|rfl|(simp [errW_none,errW_some] <;> rfl))|(simp [*,errW_none,errW_some] <;> rfl),hb_⟩
    rw [if_neg c18] at H
    have c18b0 : decide ((rd l0_4 x4_1) ≤ (rd l0_4 (ji14))) = false:=decide_eq_false c18
    clear c18
    have H':=Aside0.mk H
    clear H
    obtain ⟨_,_,_,_,_,_,_,_,_,_,_,_⟩:=cells6 BK237.out
    try go_wp2
    replace BK237:=Aside0.mk (blk_drew BK237.out)
    replace HB:=Aside0.mk (below_drew1 HB.out)
    have p239 : 0 ≤ ((ji14) : Int):=of_decide_eq_true (by first|(with_reducible assumption)|assumption)
    have q239 : (ji14) < (l0_4.length : Int):=of_decide_eq_true (by first|(with_reducible assumption)|assumption)
    obtain ⟨ad239,e239,hx239_0⟩:=Kd.at_int HR0_4.out (ji14) p239 q239
    have hw239_0:=hx239_0
    cases e239
    replace hx239_0:=(HB.out.cell (World.block_lt_of_cell? w _ hx239_0)).trans hx239_0
    replace p239:=eq_true p239
    replace q239:=eq_true q239
    have p240 : 0 ≤ (x4_1 : Int):=of_decide_eq_true (by first|(with_reducible assumption)|assumption)
    have q240 : x4_1 < (l0_4.length : Int):=of_decide_eq_true (by first|(with_reducible assumption)|assumption)
    obtain ⟨ad240,e240,hx240_0⟩:=Kd.at_int HR0_4.out x4_1 p240 q240
    have hw240_0:=hx240_0
    obtain rfl : ad239 = ad240:=(by injection e240)
    replace hx240_0:=(HB.out.cell (World.block_lt_of_cell? w _ hx240_0)).trans hx240_0
    replace p240:=eq_true p240
    replace q240:=eq_true q240
    refine start_ (n:=12) (S:=fun w' => w'.cell? ⟨gb237,0,none⟩ = some (.int .i64 a0_0) ∧ w'.cell? ⟨gb237,1,none⟩ = some (.int .i64 a0_1) ∧ w'.cell? ⟨gb237,2,none⟩ = some (.slice A0_2 l0_2.length c0_2) ∧ w'.cell? ⟨gb237,3,none⟩ = some (.slice A0_3 l0_3.length c0_3) ∧ w'.cell? ⟨gb237,4,none⟩ = some (.slice (some ad239) l0_4.length c0_4) ∧ w'.cell? ⟨gb237,5,none⟩ = some (.slice A0_5 l0_5.length c0_5) ∧ w'.cell? (ad239.add ((ji14)).toNat) = some (.int .i64 (rd l0_4 (ji14))) ∧ w'.cell? (ad239.add (x4_1).toNat) = some (.int .i64 (rd l0_4 x4_1))) (ds:=[]) #[false,false,false,false,false,false,false,false,false,false,false,false] (by kernel_rfl) rfl rfl ⟨(blk_cell BK237.out 0).trans rfl,(blk_cell BK237.out 1).trans rfl,(blk_cell BK237.out 2).trans rfl,(blk_cell BK237.out 3).trans rfl,(blk_cell BK237.out 4).trans rfl,(blk_cell BK237.out 5).trans rfl,((HB.out.cell (World.block_lt_of_cell? w _ hw239_0)).trans hw239_0),((HB.out.cell (World.block_lt_of_cell? w _ hw240_0)).trans hw240_0)⟩ (fun hHeld => ?_);refine with_tabW hinterlandref17_Validate.tab9 hinterlandref17_Validate.bits9 (fun HT_ HW_ => ?_)
    generalize wr.drew = w22 at BK237 HB hx239_0 hx240_0 hHeld ⊢
    refine pI 0 (some 29) ?_
    refine pI 2 (some 31) ?_
    refine pI 3 (some 32) ?_
    refine pI 6 (some 35) ?_
    refine pI 8 (some 37) ?_
    refine tI8 1 (some 30) hHeld ?_
    refine pI 4 (some 33) ?_
    refine tI8 5 (some 34) hHeld ?_
    refine tI8 7 (some 36) hHeld ?_
    refine pI 9 (some 38) ?_
    refine tI8 10 (some 39) hHeld ?_
    refine pI 11 (some 40) ?_
    refine done_ (done_of HT_.out (by kernel_rfl)) ?_
    try go_wp2
    go_roundg k1
    case measure => have:=HK1.out;omega
    case rel => exact ⟨(wrap64 (x4_1 + 1)),(by first|rfl|(simp;done)|(simp [*];done)),H',⟨by have:=HK1.out;omega⟩,⟨blk_up BK237.out⟩,⟨hb_⟩⟩
   rw [if_neg c13] at H
   have c13b0 : decide (x4_1 < (l0_4.length : Int)) = false:=decide_eq_false c13
   clear c13
   have H':=Aside0.mk H
   clear H
   obtain ⟨_,_,_,_,_,_,_,_,_,_,_,_⟩:=cells6 BK237.out
   go_wp2
   go_loopg [5] k1 (fun kq v5 w' => ∃ (x5_2 : Int),v5 = .int .i64 x5_2 ∧ Aside0 (hinterlandref17_Validate.l1 kq x5_2 a0_0 a0_1 l0_2 l0_3 l0_4 l0_5 = some r) ∧ Aside0 (kq ≤ k1) ∧ Aside0 (w'.heap[gb237]? = some (.cells #[.int .i64 a0_0,.int .i64 a0_1,(.slice A0_2 l0_2.length c0_2),(.slice A0_3 l0_3.length c0_3),(.slice A0_4 l0_4.length c0_4),(.slice A0_5 l0_5.length c0_5)] 33 (0,0))) ∧ Aside0 (Below w.heap.size w w'))
   case atStart => exact ⟨(0),(by first|rfl|(simp;done)|(simp [*];done)),H',⟨Nat.le_refl _⟩,⟨blk_up BK237.out⟩,⟨hb_⟩⟩
   case round =>
    clear H'
    obtain ⟨x5_2,rfl,HA,HK2,BK237,HB⟩:=hrel
    cases gk with
    | zero => exact absurd HA.out (by simp [hinterlandref17_Validate.l1])
    | succ k2 =>
     have H:=HA.out
     clear HA
     simp only [hinterlandref17_Validate.l1] at H
     by_cases c24 : x5_2 < (l0_5.length : Int)
     ·rw [if_pos c24] at H
      have c24b0 : decide (x5_2 < (l0_5.length : Int)) = true:=decide_eq_true c24
      clear c24
      replace H:=ifp_ H;obtain ⟨c25,H⟩:=H
      have c25b0 : decide (0 ≤ x5_2) = true:=decide_eq_true c25
      clear c25
      replace H:=Option.bind_eq_some_iff.mp H
      obtain ⟨t243,A260,H⟩:=H
      replace H : (if t243 = true then (some 1) else (hinterlandref17_Validate.l1 k2 (wrap64 (x5_2 + 1)) a0_0 a0_1 l0_2 l0_3 l0_4 l0_5)) = some r:=H
      have A26:=Aside0.mk A260
      clear A260
      by_cases c27 : t243 = true
      ·subst c27
       have H1 : (some 1) = some r:=by rw [if_pos rfl] at H;exact H
       clear H
       have H:=H1
       clear H1
       obtain rfl:=Option.some.inj H
       obtain ⟨_,_,_,_,_,_,_,_,_,_,_,_⟩:=cells6 BK237.out
       have p241 : 0 ≤ (x5_2 : Int):=of_decide_eq_true (by first|(with_reducible assumption)|assumption)
       have q241 : x5_2 < (l0_5.length : Int):=of_decide_eq_true (by first|(with_reducible assumption)|assumption)
       obtain ⟨ad241,e241,hx241_0,hx241_1,hx241_2,hx241_3,hx241_4⟩:=at_T50 HR0_5.out x5_2 p241 q241
       cases e241
       replace hx241_0:=(HB.out.cell (World.block_lt_of_cell? w _ hx241_0)).trans hx241_0
       replace hx241_1:=(HB.out.cell (World.block_lt_of_cell? w _ hx241_1)).trans hx241_1
       replace hx241_2:=(HB.out.cell (World.block_lt_of_cell? w _ hx241_2)).trans hx241_2
       replace hx241_3:=(HB.out.cell (World.block_lt_of_cell? w _ hx241_3)).trans hx241_3
       replace hx241_4:=(HB.out.cell (World.block_lt_of_cell? w _ hx241_4)).trans hx241_4
       replace p241:=eq_true p241
       replace q241:=eq_true q241
       go_wp2_with (first|((with_reducible refine gate_dst (N:=6) rfl ?_);(try (refine gate_guard (by rfl) ?_;dsimp only));refine box_ev (N:=6) (cs:=#[.int .i64 0,.int .i64 0,.int .i64 0,.int .i64 0,.int .i64 0]) (t:=50) ?_;intro gb242 hg w29 hbox hb;have BK242:=Aside0.mk (hbox);have GW242 : Aside0 (w.heap.size ≤ gb242):=gsz hg;have GE242:=GW242;have NB237_242:=nbl BK237 hg;have NB242_237:=nbr BK237 hg;replace BK237:=bkb BK237 hb;replace HB:=hbs hb;clear hb hbox hg;have hnb30:=NB242_237.out;have hnc30:=NB237_242.out;obtain ⟨_,_,_,_,_,_,_,_,_,_⟩:=cells5 BK242.out)|((with_reducible refine gate_callee (f:=39) rfl ?_);refine goesL_ (some 63) rfl rfl Try.func39 (by kernel_rfl) rfl #[.int .i64 ((rd_T50 l0_5 x5_2).f0),.int .i64 ((rd_T50 l0_5 x5_2).f1),.int .i64 ((rd_T50 l0_5 x5_2).f2),.int .i64 ((rd_T50 l0_5 x5_2).f3),.int .i64 ((rd_T50 l0_5 x5_2).f4)] rfl ga_ ?_;(with_reducible refine (hinterlandref17_piece.calls ((rd_T50 l0_5 x5_2).f0) ((rd_T50 l0_5 x5_2).f1) ((rd_T50 l0_5 x5_2).f2) ((rd_T50 l0_5 x5_2).f3) ((rd_T50 l0_5 x5_2).f4) true _ A26.out).mono ?_);rintro e w' ⟨rfl,⟨nd,rfl⟩⟩;refine ⟨_,rfl,?_⟩))
       go_ret
       exact ⟨er_,hb_⟩
      ·replace c27:=Bool.eq_false_iff.mpr c27
       subst c27
       have H1 : (hinterlandref17_Validate.l1 k2 (wrap64 (x5_2 + 1)) a0_0 a0_1 l0_2 l0_3 l0_4 l0_5) = some r:=by rw [if_neg (show ¬ (false = true) by decide)] at H;exact H
       clear H
       have H:=H1
       clear H1
       have H':=Aside0.mk H
       clear H
       obtain ⟨_,_,_,_,_,_,_,_,_,_,_,_⟩:=cells6 BK237.out
       have p241 : 0 ≤ (x5_2 : Int):=of_decide_eq_true (by first|(with_reducible assumption)|assumption)
       have q241 : x5_2 < (l0_5.length : Int):=of_decide_eq_true (by first|(with_reducible assumption)|assumption)
       obtain ⟨ad241,e241,hx241_0,hx241_1,hx241_2,hx241_3,hx241_4⟩:=at_T50 HR0_5.out x5_2 p241 q241
       cases e241
       replace hx241_0:=(HB.out.cell (World.block_lt_of_cell? w _ hx241_0)).trans hx241_0
       replace hx241_1:=(HB.out.cell (World.block_lt_of_cell? w _ hx241_1)).trans hx241_1
       replace hx241_2:=(HB.out.cell (World.block_lt_of_cell? w _ hx241_2)).trans hx241_2
       replace hx241_3:=(HB.out.cell (World.block_lt_of_cell? w _ hx241_3)).trans hx241_3
       replace hx241_4:=(HB.out.cell (World.block_lt_of_cell? w _ hx241_4)).trans hx241_4
       replace p241:=eq_true p241
       replace q241:=eq_true q241
       go_wp2_with (first|((with_reducible refine gate_dst (N:=6) rfl ?_);(try (refine gate_guard (by rfl) ?_;dsimp only));refine box_ev (N:=6) (cs:=#[.int .i64 0,.int .i64 0,.int .i64 0,.int .i64 0,.int .i64 0]) (t:=50) ?_;intro gb242 hg w33 hbox hb;have BK242:=Aside0.mk (hbox);have GW242 : Aside0 (w.heap.size ≤ gb242):=gsz hg;have GE242:=GW242;have NB237_242:=nbl BK237 hg;have NB242_237:=nbr BK237 hg;replace BK237:=bkb BK237 hb;replace HB:=hbs hb;clear hb hbox hg;have hnb34:=NB242_237.out;have hnc34:=NB237_242.out;obtain ⟨_,_,_,_,_,_,_,_,_,_⟩:=cells5 BK242.out)|((with_reducible refine gate_callee (f:=39) rfl ?_);refine goesL_ (some 63) rfl rfl Try.func39 (by kernel_rfl) rfl #[.int .i64 ((rd_T50 l0_5 x5_2).f0),.int .i64 ((rd_T50 l0_5 x5_2).f1),.int .i64 ((rd_T50 l0_5 x5_2).f2),.int .i64 ((rd_T50 l0_5 x5_2).f3),.int .i64 ((rd_T50 l0_5 x5_2).f4)] rfl ga_ ?_;(with_reducible refine (hinterlandref17_piece.calls ((rd_T50 l0_5 x5_2).f0) ((rd_T50 l0_5 x5_2).f1) ((rd_T50 l0_5 x5_2).f2) ((rd_T50 l0_5 x5_2).f3) ((rd_T50 l0_5 x5_2).f4) false _ A26.out).mono ?_);rintro e w' ⟨rfl,⟨nd,rfl⟩⟩;refine ⟨_,rfl,?_⟩))
       go_roundg k2
       case measure => have:=HK1.out;have:=HK2.out;omega
       case rel => exact ⟨(wrap64 (x5_2 + 1)),(by first|rfl|(simp;done)|(simp [*];done)),H',⟨by have:=HK1.out;have:=HK2.out;omega⟩,⟨by (with_reducible repeat (first|refine blk_drewN ?_ _|refine blk_drew ?_|refine blk_alloc ?_ _));refine blk_far ?_ NB237_242.out _;(with_reducible repeat (first|refine blk_drewN ?_ _|refine blk_drew ?_|refine blk_alloc ?_ _));refine blk_far ?_ NB237_242.out _;(with_reducible repeat (first|refine blk_drewN ?_ _|refine blk_drew ?_|refine blk_alloc ?_ _));refine blk_far ?_ NB237_242.out _;(with_reducible repeat (first|refine blk_drewN ?_ _|refine blk_drew ?_|refine blk_alloc ?_ _));refine blk_far ?_ NB237_242.out _;(with_reducible repeat (first|refine blk_drewN ?_ _|refine blk_drew ?_|refine blk_alloc ?_ _));refine blk_far ?_ NB237_242.out _;(with_reducible repeat (first|refine blk_drewN ?_ _|refine blk_drew ?_|refine blk_alloc ?_ _));exact BK237.out⟩,⟨hb_⟩⟩
     rw [if_neg c24] at H
     have c24b0 : decide (x5_2 < (l0_5.length : Int)) = false:=decide_eq_false c24
     clear c24
     have H':=Aside0.mk H
     clear H
     obtain ⟨_,_,_,_,_,_,_,_,_,_,_,_⟩:=cells6 BK237.out
     go_wp2
     go_loopg [7] k2 (fun kq v7 w' => ∃ (x7_3 : Int),v7 = .int .i64 x7_3 ∧ Aside0 (hinterlandref17_Validate.l2 kq x7_3 a0_0 a0_1 l0_2 l0_3 l0_4 l0_5 = some r) ∧ Aside0 (kq ≤ k2) ∧ Aside0 (w'.heap[gb237]? = some (.cells #[.int .i64 a0_0,.int .i64 a0_1,(.slice A0_2 l0_2.length c0_2),(.slice A0_3 l0_3.length c0_3),(.slice A0_4 l0_4.length c0_4),(.slice A0_5 l0_5.length c0_5)] 33 (0,0))) ∧ Aside0 (Below w.heap.size w w'))
     case atStart => exact ⟨(0),(by first|rfl|(simp;done)|(simp [*];done)),H',⟨Nat.le_refl _⟩,⟨blk_up BK237.out⟩,⟨hb_⟩⟩
     case round =>
      clear H'
      obtain ⟨x7_3,rfl,HA,HK3,BK237,HB⟩:=hrel
      cases gk with
      | zero => exact absurd HA.out (by simp [hinterlandref17_Validate.l2])
      | succ k3 =>
       have H:=HA.out
       clear HA
       simp only [hinterlandref17_Validate.l2] at H
       by_cases c37 : x7_3 < (l0_5.length : Int)
       ·rw [if_pos c37] at H
        have c37b0 : decide (x7_3 < (l0_5.length : Int)) = true:=decide_eq_true c37
        clear c37
        replace H:=ifp_ H;obtain ⟨c38,H⟩:=H
        have c38b0 : decide (0 ≤ x7_3) = true:=decide_eq_true c38
        clear c38
        by_cases c39 : ((rd_T50 l0_5 x7_3).f0) < (-1)
        ·rw [if_pos c39] at H
         have c39b0 : decide (((rd_T50 l0_5 x7_3).f0) < (-1)) = true:=decide_eq_true c39
         clear c39
         obtain rfl:=Option.some.inj H
         obtain ⟨_,_,_,_,_,_,_,_,_,_,_,_⟩:=cells6 BK237.out
         have p244 : 0 ≤ (x7_3 : Int):=of_decide_eq_true (by first|(with_reducible assumption)|assumption)
         have q244 : x7_3 < (l0_5.length : Int):=of_decide_eq_true (by first|(with_reducible assumption)|assumption)
         obtain ⟨ad244,e244,hx244_0,hx244_1,hx244_2,hx244_3,hx244_4⟩:=at_T50 HR0_5.out x7_3 p244 q244
         cases e244
         replace hx244_0:=(HB.out.cell (World.block_lt_of_cell? w _ hx244_0)).trans hx244_0
         replace hx244_1:=(HB.out.cell (World.block_lt_of_cell? w _ hx244_1)).trans hx244_1
         replace hx244_2:=(HB.out.cell (World.block_lt_of_cell? w _ hx244_2)).trans hx244_2
         replace hx244_3:=(HB.out.cell (World.block_lt_of_cell? w _ hx244_3)).trans hx244_3
         replace hx244_4:=(HB.out.cell (World.block_lt_of_cell? w _ hx244_4)).trans hx244_4
         replace p244:=eq_true p244
         replace q244:=eq_true q244
         go_wp2
         go_ret
         exact ⟨er_,hb_⟩
        rw [if_neg c39] at H
        have c39b0 : decide (((rd_T50 l0_5 x7_3).f0) < (-1)) = false:=decide_eq_false c39
        clear c39
        by_cases c41 : ((rd_T50 l0_5 x7_3).f0) ≥ (l0_2.length : Int)
        ·rw [if_pos c41] at H
         have c41b0 : decide ((l0_2.length : Int) ≤ ((rd_T50 l0_5 x7_3).f0)) = true:=decide_eq_true c41
         clear c41
         obtain rfl:=Option.some.inj H
         obtain ⟨_,_,_,_,_,_,_,_,_,_,_,_⟩:=cells6 BK237.out
         have p244 : 0 ≤ (x7_3 : Int):=of_decide_eq_true (by first|(with_reducible assumption)|assumption)
         have q244 : x7_3 < (l0_5.length : Int):=of_decide_eq_true (by first|(with_reducible assumption)|assumption)
         obtain ⟨ad244,e244,hx244_0,hx244_1,hx244_2,hx244_3,hx244_4⟩:=at_T50 HR0_5.out x7_3 p244 q244
         cases e244
         replace hx244_0:=(HB.out.cell (World.block_lt_of_cell? w _ hx244_0)).trans hx244_0
         replace hx244_1:=(HB.out.cell (World.block_lt_of_cell? w _ hx244_1)).trans hx244_1
         replace hx244_2:=(HB.out.cell (World.block_lt_of_cell? w _ hx244_2)).trans hx244_2
         replace hx244_3:=(HB.out.cell (World.block_lt_of_cell? w _ hx244_3)).trans hx244_3
         replace hx244_4:=(HB.out.cell (World.block_lt_of_cell? w _ hx244_4)).trans hx244_4
         replace p244:=eq_true p244
         replace q244:=eq_true q244
         go_wp2
         go_ret
         exact ⟨er_,hb_⟩
        ·rw [if_neg c41] at H
         have c41b0 : decide ((l0_2.length : Int) ≤ ((rd_T50 l0_5 x7_3).f0)) = false:=decide_eq_false c41
         clear c41
         have H':=Aside0.mk H
         clear H
         obtain ⟨_,_,_,_,_,_,_,_,_,_,_,_⟩:=cells6 BK237.out
         have p244 : 0 ≤ (x7_3 : Int):=of_decide_eq_true (by first|(with_reducible assumption)|assumption)
         have q244 : x7_3 < (l0_5.length : Int):=of_decide_eq_true (by first|(with_reducible assumption)|assumption)
         obtain ⟨ad244,e244,hx244_0,hx244_1,hx244_2,hx244_3,hx244_4⟩:=at_T50 HR0_5.out x7_3 p244 q244
         cases e244
         replace hx244_0:=(HB.out.cell (World.block_lt_of_cell? w _ hx244_0)).trans hx244_0
         replace hx244_1:=(HB.out.cell (World.block_lt_of_cell? w _ hx244_1)).trans hx244_1
         replace hx244_2:=(HB.out.cell (World.block_lt_of_cell? w _ hx244_2)).trans hx244_2
         replace hx244_3:=(HB.out.cell (World.block_lt_of_cell? w _ hx244_3)).trans hx244_3
         replace hx244_4:=(HB.out.cell (World.block_lt_of_cell? w _ hx244_4)).trans hx244_4
         replace p244:=eq_true p244
         replace q244:=eq_true q244
         go_wp2
         go_roundg k3
         case measure => have:=HK1.out;have:=HK2.out;have:=HK3.out;omega
         case rel => exact ⟨(wrap64 (x7_3 + 1)),(by first|rfl|(simp;done)|(simp [*];done)),H',⟨by have:=HK1.out;have:=HK2.out;have:=HK3.out;omega⟩,⟨blk_up BK237.out⟩,⟨hb_⟩⟩
       rw [if_neg c37] at H
       have c37b0 : decide (x7_3 < (l0_5.length : Int)) = false:=decide_eq_false c37
       clear c37
       have H':=Aside0.mk H
       clear H
       obtain ⟨_,_,_,_,_,_,_,_,_,_,_,_⟩:=cells6 BK237.out
       go_wp2
       go_loopg [9] k3 (fun kq v9 w' => ∃ (x9_4 : Int),v9 = .int .i64 x9_4 ∧ Aside0 (hinterlandref17_Validate.l3 kq x9_4 a0_0 a0_1 l0_2 l0_3 l0_4 l0_5 = some r) ∧ Aside0 (kq ≤ k3) ∧ Aside0 (w'.heap[gb237]? = some (.cells #[.int .i64 a0_0,.int .i64 a0_1,(.slice A0_2 l0_2.length c0_2),(.slice A0_3 l0_3.length c0_3),(.slice A0_4 l0_4.length c0_4),(.slice A0_5 l0_5.length c0_5)] 33 (0,0))) ∧ Aside0 (Below w.heap.size w w'))
       case atStart => exact ⟨(0),(by first|rfl|(simp;done)|(simp [*];done)),H',⟨Nat.le_refl _⟩,⟨blk_up BK237.out⟩,⟨hb_⟩⟩
       case round =>
        clear H'
        obtain ⟨x9_4,rfl,HA,HK4,BK237,HB⟩:=hrel
        cases gk with
        | zero => exact absurd HA.out (by simp [hinterlandref17_Validate.l3])
        | succ k4 =>
         have H:=HA.out
         clear HA
         simp only [hinterlandref17_Validate.l3] at H
         by_cases c45 : x9_4 < (l0_5.length : Int)
         ·rw [if_pos c45] at H
          have c45b0 : decide (x9_4 < (l0_5.length : Int)) = true:=decide_eq_true c45
          clear c45
          replace H:=ifp_ H;obtain ⟨c46,H⟩:=H
          have c46b0 : decide (0 ≤ x9_4) = true:=decide_eq_true c46
          clear c46
          by_cases c47 : ((rd_T50 l0_5 x9_4).f0) < 0
          ·rw [if_pos c47] at H
           have c47b0 : decide (((rd_T50 l0_5 x9_4).f0) < 0) = true:=decide_eq_true c47
           clear c47
           have H':=Aside0.mk H
           clear H
           obtain ⟨_,_,_,_,_,_,_,_,_,_,_,_⟩:=cells6 BK237.out
           have p245 : 0 ≤ (x9_4 : Int):=of_decide_eq_true (by first|(with_reducible assumption)|assumption)
           have q245 : x9_4 < (l0_5.length : Int):=of_decide_eq_true (by first|(with_reducible assumption)|assumption)
           obtain ⟨ad245,e245,hx245_0,hx245_1,hx245_2,hx245_3,hx245_4⟩:=at_T50 HR0_5.out x9_4 p245 q245
           cases e245
           replace hx245_0:=(HB.out.cell (World.block_lt_of_cell? w _ hx245_0)).trans hx245_0
           replace hx245_1:=(HB.out.cell (World.block_lt_of_cell? w _ hx245_1)).trans hx245_1
           replace hx245_2:=(HB.out.cell (World.block_lt_of_cell? w _ hx245_2)).trans hx245_2
           replace hx245_3:=(HB.out.cell (World.block_lt_of_cell? w _ hx245_3)).trans hx245_3
           replace hx245_4:=(HB.out.cell (World.block_lt_of_cell? w _ hx245_4)).trans hx245_4
           replace p245:=eq_true p245
           replace q245:=eq_true q245
           go_wp2_with (first|((with_reducible refine gate_dst (N:=10) rfl ?_);(try (refine gate_guard (by rfl) ?_;dsimp only));refine box_ev (N:=10) (cs:=#[.int .i64 0,.int .i64 0,.int .i64 0,.int .i64 0,.int .i64 0]) (t:=50) ?_;intro gb246 hg w49 hbox hb;have BK246:=Aside0.mk (hbox);have GW246 : Aside0 (w.heap.size ≤ gb246):=gsz hg;have GE246:=GW246;have NB237_246:=nbl BK237 hg;have NB246_237:=nbr BK237 hg;replace BK237:=bkb BK237 hb;replace HB:=hbs hb;clear hb hbox hg;have hnb50:=NB246_237.out;have hnc50:=NB237_246.out;obtain ⟨_,_,_,_,_,_,_,_,_,_⟩:=cells5 BK246.out))
           go_roundg k4
           case measure => have:=HK1.out;have:=HK2.out;have:=HK3.out;have:=HK4.out;omega
           case rel => exact ⟨(wrap64 (x9_4 + 1)),(by first|rfl|(simp;done)|(simp [*];done)),H',⟨by have:=HK1.out;have:=HK2.out;have:=HK3.out;have:=HK4.out;omega⟩,⟨by (with_reducible repeat (first|refine blk_drewN ?_ _|refine blk_drew ?_|refine blk_alloc ?_ _));refine blk_far ?_ NB237_246.out _;(with_reducible repeat (first|refine blk_drewN ?_ _|refine blk_drew ?_|refine blk_alloc ?_ _));refine blk_far ?_ NB237_246.out _;(with_reducible repeat (first|refine blk_drewN ?_ _|refine blk_drew ?_|refine blk_alloc ?_ _));refine blk_far ?_ NB237_246.out _;(with_reducible repeat (first|refine blk_drewN ?_ _|refine blk_drew ?_|refine blk_alloc ?_ _));refine blk_far ?_ NB237_246.out _;(with_reducible repeat (first|refine blk_drewN ?_ _|refine blk_drew ?_|refine blk_alloc ?_ _));refine blk_far ?_ NB237_246.out _;(with_reducible repeat (first|refine blk_drewN ?_ _|refine blk_drew ?_|refine blk_alloc ?_ _));exact BK237.out⟩,⟨hb_⟩⟩
          rw [if_neg c47] at H
          have c47b0 : decide (((rd_T50 l0_5 x9_4).f0) < 0) = false:=decide_eq_false c47
          clear c47
          replace H:=Option.bind_eq_some_iff.mp H
          obtain ⟨t247,A520,H⟩:=H
          replace H : (if t247 = true then (hinterlandref17_Validate.l3 k4 (wrap64 (x9_4 + 1)) a0_0 a0_1 l0_2 l0_3 l0_4 l0_5) else (some 8)) = some r:=H
          have A52:=Aside0.mk A520
          clear A520
          by_cases c53 : t247 = true
          ·subst c53
           have H1 : (hinterlandref17_Validate.l3 k4 (wrap64 (x9_4 + 1)) a0_0 a0_1 l0_2 l0_3 l0_4 l0_5) = some r:=by rw [if_pos rfl] at H;exact H
           clear H
           have H:=H1
           clear H1
           have H':=Aside0.mk H
           clear H
           obtain ⟨_,_,_,_,_,_,_,_,_,_,_,_⟩:=cells6 BK237.out
           have p245 : 0 ≤ (x9_4 : Int):=of_decide_eq_true (by first|(with_reducible assumption)|assumption)
           have q245 : x9_4 < (l0_5.length : Int):=of_decide_eq_true (by first|(with_reducible assumption)|assumption)
           obtain ⟨ad245,e245,hx245_0,hx245_1,hx245_2,hx245_3,hx245_4⟩:=at_T50 HR0_5.out x9_4 p245 q245
           cases e245
           replace hx245_0:=(HB.out.cell (World.block_lt_of_cell? w _ hx245_0)).trans hx245_0
           replace hx245_1:=(HB.out.cell (World.block_lt_of_cell? w _ hx245_1)).trans hx245_1
           replace hx245_2:=(HB.out.cell (World.block_lt_of_cell? w _ hx245_2)).trans hx245_2
           replace hx245_3:=(HB.out.cell (World.block_lt_of_cell? w _ hx245_3)).trans hx245_3
           replace hx245_4:=(HB.out.cell (World.block_lt_of_cell? w _ hx245_4)).trans hx245_4
           replace p245:=eq_true p245
           replace q245:=eq_true q245
           go_wp2_with (first|((with_reducible refine gate_dst (N:=10) rfl ?_);(try (refine gate_guard (by rfl) ?_;dsimp only));refine box_ev (N:=10) (cs:=#[.int .i64 0,.int .i64 0,.int .i64 0,.int .i64 0,.int .i64 0]) (t:=50) ?_;intro gb246 hg w55 hbox hb;have BK246:=Aside0.mk (hbox);have GW246 : Aside0 (w.heap.size ≤ gb246):=gsz hg;have GE246:=GW246;have NB237_246:=nbl BK237 hg;have NB246_237:=nbr BK237 hg;replace BK237:=bkb BK237 hb;replace HB:=hbs hb;clear hb hbox hg;have hnb56:=NB246_237.out;have hnc56:=NB237_246.out;obtain ⟨_,_,_,_,_,_,_,_,_,_⟩:=cells5 BK246.out;obtain ⟨_,_,_,_,_,_,_,_,_,_,_,_⟩:=cells6 BK237.out)|((with_reducible refine gate_callee (f:=40) rfl ?_);refine goesL_ (some 108) rfl rfl Try.func40 (by kernel_rfl) rfl #[.agg #[.int .i64 a0_0,.int .i64 a0_1,.slice A0_2 l0_2.length c0_2,.slice A0_3 l0_3.length c0_3],.int .i64 ((rd_T50 l0_5 x9_4).f0),.int .i64 ((rd_T50 l0_5 x9_4).f2)] rfl ga_ ?_;(with_reducible refine (hinterlandref17_linked.calls k4 a0_0 a0_1 _ _ l0_2 _ _ l0_3 ((rd_T50 l0_5 x9_4).f0) ((rd_T50 l0_5 x9_4).f2) true _ ?_ ?_ ?_ ?_ A52.out).mono ?_);exact Kd.C_below HR0_2.out (hb_);exact HC0_2.out;exact Kd.C_below HR0_3.out (hb_);exact HC0_3.out;rintro e w59 ⟨rfl,hb⟩;refine ⟨_,rfl,?_⟩;replace BK237:=Aside0.mk (blk_below (g:=gb237) (o:=.cells #[.int .i64 a0_0,.int .i64 a0_1,.slice A0_2 l0_2.length c0_2,.slice A0_3 l0_3.length c0_3,.slice A0_4 l0_4.length c0_4,.slice (some ad245) l0_5.length c0_5] 33 (0,0)) (by (with_reducible repeat (first|refine blk_drewN ?_ _|refine blk_drew ?_|refine blk_alloc ?_ _));refine blk_far ?_ NB237_246.out _;(with_reducible repeat (first|refine blk_drewN ?_ _|refine blk_drew ?_|refine blk_alloc ?_ _));refine blk_far ?_ NB237_246.out _;(with_reducible repeat (first|refine blk_drewN ?_ _|refine blk_drew ?_|refine blk_alloc ?_ _));refine blk_far ?_ NB237_246.out _;(with_reducible repeat (first|refine blk_drewN ?_ _|refine blk_drew ?_|refine blk_alloc ?_ _));refine blk_far ?_ NB237_246.out _;(with_reducible repeat (first|refine blk_drewN ?_ _|refine blk_drew ?_|refine blk_alloc ?_ _));refine blk_far ?_ NB237_246.out _;(with_reducible repeat (first|refine blk_drewN ?_ _|refine blk_drew ?_|refine blk_alloc ?_ _));exact BK237.out) hb);replace BK246:=Aside0.mk (blk_below (g:=gb246) (o:=.cells #[.int .i64 ((rd_T50 l0_5 x9_4).f0),.int .i64 ((rd_T50 l0_5 x9_4).f1),.int .i64 ((rd_T50 l0_5 x9_4).f2),.int .i64 ((rd_T50 l0_5 x9_4).f3),.int .i64 ((rd_T50 l0_5 x9_4).f4)] 50 (0,0)) (by (with_reducible repeat (first|refine blk_drewN ?_ _|refine blk_drew ?_|refine blk_alloc ?_ _));exact blk_puts5 (blk_up BK246.out)) hb);replace HB:=hbs hb))
           go_roundg k4
           case measure => have:=HK1.out;have:=HK2.out;have:=HK3.out;have:=HK4.out;omega
           case rel => exact ⟨(wrap64 (x9_4 + 1)),(by first|rfl|(simp;done)|(simp [*];done)),H',⟨by have:=HK1.out;have:=HK2.out;have:=HK3.out;have:=HK4.out;omega⟩,⟨blk_up BK237.out⟩,⟨hb_⟩⟩
          ·replace c53:=Bool.eq_false_iff.mpr c53
           subst c53
           have H1 : (some 8) = some r:=by rw [if_neg (show ¬ (false = true) by decide)] at H;exact H
           clear H
           have H:=H1
           clear H1
           obtain rfl:=Option.some.inj H
           obtain ⟨_,_,_,_,_,_,_,_,_,_,_,_⟩:=cells6 BK237.out
           have p245 : 0 ≤ (x9_4 : Int):=of_decide_eq_true (by first|(with_reducible assumption)|assumption)
           have q245 : x9_4 < (l0_5.length : Int):=of_decide_eq_true (by first|(with_reducible assumption)|assumption)
           obtain ⟨ad245,e245,hx245_0,hx245_1,hx245_2,hx245_3,hx245_4⟩:=at_T50 HR0_5.out x9_4 p245 q245
           cases e245
           replace hx245_0:=(HB.out.cell (World.block_lt_of_cell? w _ hx245_0)).trans hx245_0
           replace hx245_1:=(HB.out.cell (World.block_lt_of_cell? w _ hx245_1)).trans hx245_1
           replace hx245_2:=(HB.out.cell (World.block_lt_of_cell? w _ hx245_2)).trans hx245_2
           replace hx245_3:=(HB.out.cell (World.block_lt_of_cell? w _ hx245_3)).trans hx245_3
           replace hx245_4:=(HB.out.cell (World.block_lt_of_cell? w _ hx245_4)).trans hx245_4
           replace p245:=eq_true p245
           replace q245:=eq_true q245
           go_wp2_with (first|((with_reducible refine gate_dst (N:=10) rfl ?_);(try (refine gate_guard (by rfl) ?_;dsimp only));refine box_ev (N:=10) (cs:=#[.int .i64 0,.int .i64 0,.int .i64 0,.int .i64 0,.int .i64 0]) (t:=50) ?_;intro gb246 hg w61 hbox hb;have BK246:=Aside0.mk (hbox);have GW246 : Aside0 (w.heap.size ≤ gb246):=gsz hg;have GE246:=GW246;have NB237_246:=nbl BK237 hg;have NB246_237:=nbr BK237 hg;replace BK237:=bkb BK237 hb;replace HB:=hbs hb;clear hb hbox hg;have hnb62:=NB246_237.out;have hnc62:=NB237_246.out;obtain ⟨_,_,_,_,_,_,_,_,_,_⟩:=cells5 BK246.out;obtain ⟨_,_,_,_,_,_,_,_,_,_,_,_⟩:=cells6 BK237.out)|((with_reducible refine gate_callee (f:=40) rfl ?_);refine goesL_ (some 108) rfl rfl Try.func40 (by kernel_rfl) rfl #[.agg #[.int .i64 a0_0,.int .i64 a0_1,.slice A0_2 l0_2.length c0_2,.slice A0_3 l0_3.length c0_3],.int .i64 ((rd_T50 l0_5 x9_4).f0),.int .i64 ((rd_T50 l0_5 x9_4).f2)] rfl ga_ ?_;(with_reducible refine (hinterlandref17_linked.calls k4 a0_0 a0_1 _ _ l0_2 _ _ l0_3 ((rd_T50 l0_5 x9_4).f0) ((rd_T50 l0_5 x9_4).f2) false _ ?_ ?_ ?_ ?_ A52.out).mono ?_);exact Kd.C_below HR0_2.out (hb_);exact HC0_2.out;exact Kd.C_below HR0_3.out (hb_);exact HC0_3.out;rintro e w65 ⟨rfl,hb⟩;refine ⟨_,rfl,?_⟩;replace BK237:=Aside0.mk (blk_below (g:=gb237) (o:=.cells #[.int .i64 a0_0,.int .i64 a0_1,.slice A0_2 l0_2.length c0_2,.slice A0_3 l0_3.length c0_3,.slice A0_4 l0_4.length c0_4,.slice (some ad245) l0_5.length c0_5] 33 (0,0)) (by (with_reducible repeat (first|refine blk_drewN ?_ _|refine blk_drew ?_|refine blk_alloc ?_ _));refine blk_far ?_ NB237_246.out _;(with_reducible repeat (first|refine blk_drewN ?_ _|refine blk_drew ?_|refine blk_alloc ?_ _));refine blk_far ?_ NB237_246.out _;(with_reducible repeat (first|refine blk_drewN ?_ _|refine blk_drew ?_|refine blk_alloc ?_ _));refine blk_far ?_ NB237_246.out _;(with_reducible repeat (first|refine blk_drewN ?_ _|refine blk_drew ?_|refine blk_alloc ?_ _));refine blk_far ?_ NB237_246.out _;(with_reducible repeat (first|refine blk_drewN ?_ _|refine blk_drew ?_|refine blk_alloc ?_ _));refine blk_far ?_ NB237_246.out _;(with_reducible repeat (first|refine blk_drewN ?_ _|refine blk_drew ?_|refine blk_alloc ?_ _));exact BK237.out) hb);replace BK246:=Aside0.mk (blk_below (g:=gb246) (o:=.cells #[.int .i64 ((rd_T50 l0_5 x9_4).f0),.int .i64 ((rd_T50 l0_5 x9_4).f1),.int .i64 ((rd_T50 l0_5 x9_4).f2),.int .i64 ((rd_T50 l0_5 x9_4).f3),.int .i64 ((rd_T50 l0_5 x9_4).f4)] 50 (0,0)) (by (with_reducible repeat (first|refine blk_drewN ?_ _|refine blk_drew ?_|refine blk_alloc ?_ _));exact blk_puts5 (blk_up BK246.out)) hb);replace HB:=hbs hb))
           go_ret
           exact ⟨er_,hb_⟩
         rw [if_neg c45] at H
         have c45b0 : decide (x9_4 < (l0_5.length : Int)) = false:=decide_eq_false c45
         clear c45
         have H':=Aside0.mk H
         clear H
         obtain ⟨_,_,_,_,_,_,_,_,_,_,_,_⟩:=cells6 BK237.out
         go_wp2
         go_loopg [11] k4 (fun kq v11 w' => ∃ (x11_5 : Int),v11 = .int .i64 x11_5 ∧ Aside0 (hinterlandref17_Validate.l4 kq x11_5 a0_0 a0_1 l0_2 l0_3 l0_4 l0_5 = some r) ∧ Aside0 (kq ≤ k4) ∧ Aside0 (w'.heap[gb237]? = some (.cells #[.int .i64 a0_0,.int .i64 a0_1,(.slice A0_2 l0_2.length c0_2),(.slice A0_3 l0_3.length c0_3),(.slice A0_4 l0_4.length c0_4),(.slice A0_5 l0_5.length c0_5)] 33 (0,0))) ∧ Aside0 (Below w.heap.size w w'))
         case atStart => exact ⟨(0),(by first|rfl|(simp;done)|(simp [*];done)),H',⟨Nat.le_refl _⟩,⟨blk_up BK237.out⟩,⟨hb_⟩⟩
         case round =>
          clear H'
          obtain ⟨x11_5,rfl,HA,HK5,BK237,HB⟩:=hrel
          cases gk with
          | zero => exact absurd HA.out (by simp [hinterlandref17_Validate.l4])
          | succ k5 =>
           have H:=HA.out
           clear HA
           simp only [hinterlandref17_Validate.l4] at H
           by_cases c67 : x11_5 < (l0_5.length : Int)
           rotate_left
           ·rw [if_neg c67] at H
            have c67b0 : decide (x11_5 < (l0_5.length : Int)) = false:=decide_eq_false c67
            clear c67
            obtain rfl:=Option.some.inj H
            obtain ⟨_,_,_,_,_,_,_,_,_,_,_,_⟩:=cells6 BK237.out
            go_wp2
            go_ret
            exact ⟨er_,hb_⟩
           rw [if_pos c67] at H
           have c67b0 : decide (x11_5 < (l0_5.length : Int)) = true:=decide_eq_true c67
           clear c67
           replace H:=ifp_ H;obtain ⟨c68,H⟩:=H
           have c68b0 : decide (0 ≤ x11_5) = true:=decide_eq_true c68
           clear c68
           replace H:=Option.bind_eq_some_iff.mp H
           obtain ⟨t250,A690,H⟩:=H
           replace H : (if t250 = true then (some 7) else (hinterlandref17_Validate.l4 k5 (wrap64 (x11_5 + 1)) a0_0 a0_1 l0_2 l0_3 l0_4 l0_5)) = some r:=H
           have A69:=Aside0.mk A690
           clear A690
           by_cases c70 : t250 = true
           ·subst c70
            have H1 : (some 7) = some r:=by rw [if_pos rfl] at H;exact H
            clear H
            have H:=H1
            clear H1
            obtain rfl:=Option.some.inj H
            obtain ⟨_,_,_,_,_,_,_,_,_,_,_,_⟩:=cells6 BK237.out
            try go_wp2
            replace BK237:=Aside0.mk (blk_drew BK237.out)
            replace HB:=Aside0.mk (below_drew1 HB.out)
            have p248 : 0 ≤ (x11_5 : Int):=of_decide_eq_true (by first|(with_reducible assumption)|assumption)
            have q248 : x11_5 < (l0_5.length : Int):=of_decide_eq_true (by first|(with_reducible assumption)|assumption)
            obtain ⟨ad248,e248,hx248_0,hx248_1,hx248_2,hx248_3,hx248_4⟩:=at_T50 HR0_5.out x11_5 p248 q248
            have hw248_4:=hx248_4
            have hw248_3:=hx248_3
            have hw248_2:=hx248_2
            have hw248_1:=hx248_1
            have hw248_0:=hx248_0
            cases e248
            replace hx248_0:=(HB.out.cell (World.block_lt_of_cell? w _ hx248_0)).trans hx248_0
            replace hx248_1:=(HB.out.cell (World.block_lt_of_cell? w _ hx248_1)).trans hx248_1
            replace hx248_2:=(HB.out.cell (World.block_lt_of_cell? w _ hx248_2)).trans hx248_2
            replace hx248_3:=(HB.out.cell (World.block_lt_of_cell? w _ hx248_3)).trans hx248_3
            replace hx248_4:=(HB.out.cell (World.block_lt_of_cell? w _ hx248_4)).trans hx248_4
            replace p248:=eq_true p248
            replace q248:=eq_true q248
            have p249 : 0 ≤ (x11_5 : Int):=of_decide_eq_true (by first|(with_reducible assumption)|assumption)
            have q249 : x11_5 < (l0_5.length : Int):=of_decide_eq_true (by first|(with_reducible assumption)|assumption)
            obtain ⟨ad249,e249,hx249_0,hx249_1,hx249_2,hx249_3,hx249_4⟩:=at_T50 HR0_5.out x11_5 p249 q249
            have hw249_4:=hx249_4
            have hw249_3:=hx249_3
            have hw249_2:=hx249_2
            have hw249_1:=hx249_1
            have hw249_0:=hx249_0
            obtain rfl : ad248 = ad249:=(by injection e249)
            replace hx249_0:=(HB.out.cell (World.block_lt_of_cell? w _ hx249_0)).trans hx249_0
            replace hx249_1:=(HB.out.cell (World.block_lt_of_cell? w _ hx249_1)).trans hx249_1
            replace hx249_2:=(HB.out.cell (World.block_lt_of_cell? w _ hx249_2)).trans hx249_2
            replace hx249_3:=(HB.out.cell (World.block_lt_of_cell? w _ hx249_3)).trans hx249_3
            replace hx249_4:=(HB.out.cell (World.block_lt_of_cell? w _ hx249_4)).trans hx249_4
            replace p249:=eq_true p249
            replace q249:=eq_true q249
            refine start_ (n:=15) (S:=fun w' => w'.cell? ⟨gb237,0,none⟩ = some (.int .i64 a0_0) ∧ w'.cell? ⟨gb237,1,none⟩ = some (.int .i64 a0_1) ∧ w'.cell? ⟨gb237,2,none⟩ = some (.slice A0_2 l0_2.length c0_2) ∧ w'.cell? ⟨gb237,3,none⟩ = some (.slice A0_3 l0_3.length c0_3) ∧ w'.cell? ⟨gb237,4,none⟩ = some (.slice A0_4 l0_4.length c0_4) ∧ w'.cell? ⟨gb237,5,none⟩ = some (.slice (some ad248) l0_5.length c0_5) ∧ w'.cell? (ad248.add ((x11_5).toNat * 5)) = some (.int .i64 ((rd_T50 l0_5 x11_5).f0)) ∧ w'.cell? ⟨(ad248.add ((x11_5).toNat * 5)).block,(ad248.add ((x11_5).toNat * 5)).off + 1,none⟩ = some (.int .i64 ((rd_T50 l0_5 x11_5).f1)) ∧ w'.cell? ⟨(ad248.add ((x11_5).toNat * 5)).block,(ad248.add ((x11_5).toNat * 5)).off + 2,none⟩ = some (.int .i64 ((rd_T50 l0_5 x11_5).f2)) ∧ w'.cell? ⟨(ad248.add ((x11_5).toNat * 5)).block,(ad248.add ((x11_5).toNat * 5)).off + 3,none⟩ = some (.int .i64 ((rd_T50 l0_5 x11_5).f3)) ∧ w'.cell? ⟨(ad248.add ((x11_5).toNat * 5)).block,(ad248.add ((x11_5).toNat * 5)).off + 4,none⟩ = some (.int .i64 ((rd_T50 l0_5 x11_5).f4)) ∧ w'.cell? (ad248.add ((x11_5).toNat * 5)) = some (.int .i64 ((rd_T50 l0_5 x11_5).f0)) ∧ w'.cell? ⟨(ad248.add ((x11_5).toNat * 5)).block,(ad248.add ((x11_5).toNat * 5)).off + 1,none⟩ = some (.int .i64 ((rd_T50 l0_5 x11_5).f1)) ∧ w'.cell? ⟨(ad248.add ((x11_5).toNat * 5)).block,(ad248.add ((x11_5).toNat * 5)).off + 2,none⟩ = some (.int .i64 ((rd_T50 l0_5 x11_5).f2)) ∧ w'.cell? ⟨(ad248.add ((x11_5).toNat * 5)).block,(ad248.add ((x11_5).toNat * 5)).off + 3,none⟩ = some (.int .i64 ((rd_T50 l0_5 x11_5).f3)) ∧ w'.cell? ⟨(ad248.add ((x11_5).toNat * 5)).block,(ad248.add ((x11_5).toNat * 5)).off + 4,none⟩ = some (.int .i64 ((rd_T50 l0_5 x11_5).f4))) (ds:=[]) #[false,false,false,false,false,false,false,false,false,false,false,false,false,false,false] (by kernel_rfl) rfl rfl ⟨(blk_cell BK237.out 0).trans rfl,(blk_cell BK237.out 1).trans rfl,(blk_cell BK237.out 2).trans rfl,(blk_cell BK237.out 3).trans rfl,(blk_cell BK237.out 4).trans rfl,(blk_cell BK237.out 5).trans rfl,((HB.out.cell (World.block_lt_of_cell? w _ hw248_0)).trans hw248_0),((HB.out.cell (World.block_lt_of_cell? w _ hw248_1)).trans hw248_1),((HB.out.cell (World.block_lt_of_cell? w _ hw248_2)).trans hw248_2),((HB.out.cell (World.block_lt_of_cell? w _ hw248_3)).trans hw248_3),((HB.out.cell (World.block_lt_of_cell? w _ hw248_4)).trans hw248_4),((HB.out.cell (World.block_lt_of_cell? w _ hw249_0)).trans hw249_0),((HB.out.cell (World.block_lt_of_cell? w _ hw249_1)).trans hw249_1),((HB.out.cell (World.block_lt_of_cell? w _ hw249_2)).trans hw249_2),((HB.out.cell (World.block_lt_of_cell? w _ hw249_3)).trans hw249_3),((HB.out.cell (World.block_lt_of_cell? w _ hw249_4)).trans hw249_4)⟩ (fun hHeld => ?_);refine with_tabW hinterlandref17_Validate.tab33 hinterlandref17_Validate.bits33 (fun HT_ HW_ => ?_)
            generalize wr.drew = w72 at BK237 HB hx248_0 hx248_1 hx248_2 hx248_3 hx248_4 hx249_0 hx249_1 hx249_2 hx249_3 hx249_4 hHeld ⊢
            refine pI 1 (some 118) ?_
            refine pI 2 (some 119) ?_
            refine pI 4 (some 121) ?_
            refine pI 8 (some 125) ?_
            refine pI 10 (some 127) ?_
            refine take_ (i:=0) (N:=some 117) (v:=?_) (a':=?_) #[true,true,true,false,true,false,false,false,true,false,true,false,false,false,false] rfl rfl (take_ofW HT_.out HW_.out (by kernel_rfl)) (fun _ _ _ h => h) (Or.inl ⟨by rfl,?_⟩) hHeld ?_ ?_
            rotate_left
            ·rintro w' ⟨s0,s1,s2,s3,s4,s5,s6,s7,s8,s9,s10,s11,s12,s13,s14,s15⟩
             go_simp
             with_reducible rfl
            rotate_left
            ·simp only [Act.put,List.setIfInBounds_toArray,List.set_cons_zero,List.set_cons_succ,i64_w,i32_w]
             rfl
            refine take_ (i:=3) (N:=some 120) (v:=?_) (a':=?_) #[true,true,true,true,true,false,false,false,true,false,true,false,false,false,false] rfl rfl (take_ofW HT_.out HW_.out (by kernel_rfl)) (fun _ _ _ h => h) (Or.inl ⟨by rfl,?_⟩) hHeld ?_ ?_
            rotate_left
            ·rintro w' ⟨s0,s1,s2,s3,s4,s5,s6,s7,s8,s9,s10,s11,s12,s13,s14,s15⟩
             go_simp
             with_reducible rfl
            rotate_left
            ·simp only [Act.put,List.setIfInBounds_toArray,List.set_cons_zero,List.set_cons_succ,i64_w,i32_w]
             rfl
            refine pI 5 (some 122) ?_
            refine pI 6 (some 123) ?_
            refine take_ (i:=7) (N:=some 124) (v:=?_) (a':=?_) #[true,true,true,true,true,true,true,true,true,false,true,false,false,false,false] rfl rfl (take_ofW HT_.out HW_.out (by kernel_rfl)) (fun _ _ _ h => h) (Or.inl ⟨by rfl,?_⟩) hHeld ?_ ?_
            rotate_left
            ·rintro w' ⟨s0,s1,s2,s3,s4,s5,s6,s7,s8,s9,s10,s11,s12,s13,s14,s15⟩
             go_simp
             with_reducible rfl
            rotate_left
            ·simp only [Act.put,List.setIfInBounds_toArray,List.set_cons_zero,List.set_cons_succ,i64_w,i32_w]
             rfl
            refine take_ (i:=9) (N:=some 126) (v:=?_) (a':=?_) #[true,true,true,true,true,true,true,true,true,true,true,false,false,false,false] rfl rfl (take_ofW HT_.out HW_.out (by kernel_rfl)) (fun _ _ _ h => h) (Or.inl ⟨by rfl,?_⟩) hHeld ?_ ?_
            rotate_left
            ·rintro w' ⟨s0,s1,s2,s3,s4,s5,s6,s7,s8,s9,s10,s11,s12,s13,s14,s15⟩
             go_simp
             with_reducible rfl
            rotate_left
            ·simp only [Act.put,List.setIfInBounds_toArray,List.set_cons_zero,List.set_cons_succ,i64_w,i32_w]
             rfl
            refine pI 11 (some 128) ?_
            refine pI 12 (some 129) ?_
            refine take_ (i:=13) (N:=some 130) (v:=?_) (a':=?_) #[true,true,true,true,true,true,true,true,true,true,true,true,true,true,false] rfl rfl (take_ofW HT_.out HW_.out (by kernel_rfl)) (fun _ _ _ h => h) (Or.inl ⟨by rfl,?_⟩) hHeld ?_ ?_
            rotate_left
            ·rintro w' ⟨s0,s1,s2,s3,s4,s5,s6,s7,s8,s9,s10,s11,s12,s13,s14,s15⟩
             go_simp
             with_reducible rfl
            rotate_left
            ·simp only [Act.put,List.setIfInBounds_toArray,List.set_cons_zero,List.set_cons_succ,i64_w,i32_w]
             rfl
            refine oI 14 (some 131) (fun K hK => ?_)
            refine goes_ Try.func41 (by kernel_rfl) rfl #[.agg #[.int .i64 a0_0,.int .i64 a0_1,.slice A0_2 l0_2.length c0_2,.slice A0_3 l0_3.length c0_3,.slice A0_4 l0_4.length c0_4,.slice (some ad248) l0_5.length c0_5],.int .i64 x11_5,.int .i64 ((rd_T50 l0_5 x11_5).f0),.int .i64 ((rd_T50 l0_5 x11_5).f2)] (by rfl) rfl rfl ga_ ?_
            with_reducible refine (hinterlandref17_taken.calls k5 a0_0 a0_1 _ _ l0_2 _ _ l0_3 _ _ l0_4 _ _ l0_5 x11_5 ((rd_T50 l0_5 x11_5).f0) ((rd_T50 l0_5 x11_5).f2) true _ ?side1 ?side2 ?side3 ?side4 ?side5 ?side6 ?side7 ?side8 A69.out).mono ?_
            (case side1 => exact cq HR0_2)
            (case side2 => exact HC0_2.out)
            (case side3 => exact cq HR0_3)
            (case side4 => exact HC0_3.out)
            (case side5 => exact cq HR0_4)
            (case side6 => exact HC0_4.out)
            (case side7 => exact cq HR0_5)
            (case side8 => exact HC0_5.out)
            rintro e w73 ⟨rfl,hb⟩
            refine ⟨_,rfl,?_⟩
            have n0_:=bkb BK237 hb
            have n1_:=Aside0.mk (below_step (hb_) hb)
            clear BK237
            clear HB
            have BK237:=n0_
            have HB:=n1_
            clear n0_ n1_
            (try clear hb)
            (try clear hb2)
            (try clear hk)
            (try clear hi)
            refine hK.out _ _ ⟨(blk_cell BK237.out 0).trans rfl,(blk_cell BK237.out 1).trans rfl,(blk_cell BK237.out 2).trans rfl,(blk_cell BK237.out 3).trans rfl,(blk_cell BK237.out 4).trans rfl,(blk_cell BK237.out 5).trans rfl,((HB.out.cell (World.block_lt_of_cell? w _ hw248_0)).trans hw248_0),((HB.out.cell (World.block_lt_of_cell? w _ hw248_1)).trans hw248_1),((HB.out.cell (World.block_lt_of_cell? w _ hw248_2)).trans hw248_2),((HB.out.cell (World.block_lt_of_cell? w _ hw248_3)).trans hw248_3),((HB.out.cell (World.block_lt_of_cell? w _ hw248_4)).trans hw248_4),((HB.out.cell (World.block_lt_of_cell? w _ hw249_0)).trans hw249_0),((HB.out.cell (World.block_lt_of_cell? w _ hw249_1)).trans hw249_1),((HB.out.cell (World.block_lt_of_cell? w _ hw249_2)).trans hw249_2),((HB.out.cell (World.block_lt_of_cell? w _ hw249_3)).trans hw249_3),((HB.out.cell (World.block_lt_of_cell? w _ hw249_4)).trans hw249_4)⟩ (fun hHeld => ?_)
            clear hK K
            refine norm_ (a':=?_) ?_ ?_
            rotate_left
            ·show Act.put _ (some 131) _ = _
             simp only [Act.put,List.setIfInBounds_toArray,List.set_cons_zero,List.set_cons_succ,i64_w,i32_w]
             rfl
            refine done_ (done_of HT_.out (by kernel_rfl)) ?_
            try go_wp2
            go_ret
            exact ⟨er_,hb_⟩
           ·replace c70:=Bool.eq_false_iff.mpr c70
            subst c70
            have H1 : (hinterlandref17_Validate.l4 k5 (wrap64 (x11_5 + 1)) a0_0 a0_1 l0_2 l0_3 l0_4 l0_5) = some r:=by rw [if_neg (show ¬ (false = true) by decide)] at H;exact H
            clear H
            have H:=H1
            clear H1
            have H':=Aside0.mk H
            clear H
            obtain ⟨_,_,_,_,_,_,_,_,_,_,_,_⟩:=cells6 BK237.out
            try go_wp2
            replace BK237:=Aside0.mk (blk_drew BK237.out)
            replace HB:=Aside0.mk (below_drew1 HB.out)
            have p248 : 0 ≤ (x11_5 : Int):=of_decide_eq_true (by first|(with_reducible assumption)|assumption)
            have q248 : x11_5 < (l0_5.length : Int):=of_decide_eq_true (by first|(with_reducible assumption)|assumption)
            obtain ⟨ad248,e248,hx248_0,hx248_1,hx248_2,hx248_3,hx248_4⟩:=at_T50 HR0_5.out x11_5 p248 q248
            have hw248_4:=hx248_4
            have hw248_3:=hx248_3
            have hw248_2:=hx248_2
            have hw248_1:=hx248_1
            have hw248_0:=hx248_0
            cases e248
            replace hx248_0:=(HB.out.cell (World.block_lt_of_cell? w _ hx248_0)).trans hx248_0
            replace hx248_1:=(HB.out.cell (World.block_lt_of_cell? w _ hx248_1)).trans hx248_1
            replace hx248_2:=(HB.out.cell (World.block_lt_of_cell? w _ hx248_2)).trans hx248_2
            replace hx248_3:=(HB.out.cell (World.block_lt_of_cell? w _ hx248_3)).trans hx248_3
            replace hx248_4:=(HB.out.cell (World.block_lt_of_cell? w _ hx248_4)).trans hx248_4
            replace p248:=eq_true p248
            replace q248:=eq_true q248
            have p249 : 0 ≤ (x11_5 : Int):=of_decide_eq_true (by first|(with_reducible assumption)|assumption)
            have q249 : x11_5 < (l0_5.length : Int):=of_decide_eq_true (by first|(with_reducible assumption)|assumption)
            obtain ⟨ad249,e249,hx249_0,hx249_1,hx249_2,hx249_3,hx249_4⟩:=at_T50 HR0_5.out x11_5 p249 q249
            have hw249_4:=hx249_4
            have hw249_3:=hx249_3
            have hw249_2:=hx249_2
            have hw249_1:=hx249_1
            have hw249_0:=hx249_0
            obtain rfl : ad248 = ad249:=(by injection e249)
            replace hx249_0:=(HB.out.cell (World.block_lt_of_cell? w _ hx249_0)).trans hx249_0
            replace hx249_1:=(HB.out.cell (World.block_lt_of_cell? w _ hx249_1)).trans hx249_1
            replace hx249_2:=(HB.out.cell (World.block_lt_of_cell? w _ hx249_2)).trans hx249_2
            replace hx249_3:=(HB.out.cell (World.block_lt_of_cell? w _ hx249_3)).trans hx249_3
            replace hx249_4:=(HB.out.cell (World.block_lt_of_cell? w _ hx249_4)).trans hx249_4
            replace p249:=eq_true p249
            replace q249:=eq_true q249
            refine start_ (n:=15) (S:=fun w' => w'.cell? ⟨gb237,0,none⟩ = some (.int .i64 a0_0) ∧ w'.cell? ⟨gb237,1,none⟩ = some (.int .i64 a0_1) ∧ w'.cell? ⟨gb237,2,none⟩ = some (.slice A0_2 l0_2.length c0_2) ∧ w'.cell? ⟨gb237,3,none⟩ = some (.slice A0_3 l0_3.length c0_3) ∧ w'.cell? ⟨gb237,4,none⟩ = some (.slice A0_4 l0_4.length c0_4) ∧ w'.cell? ⟨gb237,5,none⟩ = some (.slice (some ad248) l0_5.length c0_5) ∧ w'.cell? (ad248.add ((x11_5).toNat * 5)) = some (.int .i64 ((rd_T50 l0_5 x11_5).f0)) ∧ w'.cell? ⟨(ad248.add ((x11_5).toNat * 5)).block,(ad248.add ((x11_5).toNat * 5)).off + 1,none⟩ = some (.int .i64 ((rd_T50 l0_5 x11_5).f1)) ∧ w'.cell? ⟨(ad248.add ((x11_5).toNat * 5)).block,(ad248.add ((x11_5).toNat * 5)).off + 2,none⟩ = some (.int .i64 ((rd_T50 l0_5 x11_5).f2)) ∧ w'.cell? ⟨(ad248.add ((x11_5).toNat * 5)).block,(ad248.add ((x11_5).toNat * 5)).off + 3,none⟩ = some (.int .i64 ((rd_T50 l0_5 x11_5).f3)) ∧ w'.cell? ⟨(ad248.add ((x11_5).toNat * 5)).block,(ad248.add ((x11_5).toNat * 5)).off + 4,none⟩ = some (.int .i64 ((rd_T50 l0_5 x11_5).f4)) ∧ w'.cell? (ad248.add ((x11_5).toNat * 5)) = some (.int .i64 ((rd_T50 l0_5 x11_5).f0)) ∧ w'.cell? ⟨(ad248.add ((x11_5).toNat * 5)).block,(ad248.add ((x11_5).toNat * 5)).off + 1,none⟩ = some (.int .i64 ((rd_T50 l0_5 x11_5).f1)) ∧ w'.cell? ⟨(ad248.add ((x11_5).toNat * 5)).block,(ad248.add ((x11_5).toNat * 5)).off + 2,none⟩ = some (.int .i64 ((rd_T50 l0_5 x11_5).f2)) ∧ w'.cell? ⟨(ad248.add ((x11_5).toNat * 5)).block,(ad248.add ((x11_5).toNat * 5)).off + 3,none⟩ = some (.int .i64 ((rd_T50 l0_5 x11_5).f3)) ∧ w'.cell? ⟨(ad248.add ((x11_5).toNat * 5)).block,(ad248.add ((x11_5).toNat * 5)).off + 4,none⟩ = some (.int .i64 ((rd_T50 l0_5 x11_5).f4))) (ds:=[]) #[false,false,false,false,false,false,false,false,false,false,false,false,false,false,false] (by kernel_rfl) rfl rfl ⟨(blk_cell BK237.out 0).trans rfl,(blk_cell BK237.out 1).trans rfl,(blk_cell BK237.out 2).trans rfl,(blk_cell BK237.out 3).trans rfl,(blk_cell BK237.out 4).trans rfl,(blk_cell BK237.out 5).trans rfl,((HB.out.cell (World.block_lt_of_cell? w _ hw248_0)).trans hw248_0),((HB.out.cell (World.block_lt_of_cell? w _ hw248_1)).trans hw248_1),((HB.out.cell (World.block_lt_of_cell? w _ hw248_2)).trans hw248_2),((HB.out.cell (World.block_lt_of_cell? w _ hw248_3)).trans hw248_3),((HB.out.cell (World.block_lt_of_cell? w _ hw248_4)).trans hw248_4),((HB.out.cell (World.block_lt_of_cell? w _ hw249_0)).trans hw249_0),((HB.out.cell (World.block_lt_of_cell? w _ hw249_1)).trans hw249_1),((HB.out.cell (World.block_lt_of_cell? w _ hw249_2)).trans hw249_2),((HB.out.cell (World.block_lt_of_cell? w _ hw249_3)).trans hw249_3),((HB.out.cell (World.block_lt_of_cell? w _ hw249_4)).trans hw249_4)⟩ (fun hHeld => ?_);refine with_tabW hinterlandref17_Validate.tab33 hinterlandref17_Validate.bits33 (fun HT_ HW_ => ?_)
            generalize wr.drew = w75 at BK237 HB hx248_0 hx248_1 hx248_2 hx248_3 hx248_4 hx249_0 hx249_1 hx249_2 hx249_3 hx249_4 hHeld ⊢
            refine pI 1 (some 118) ?_
            refine pI 2 (some 119) ?_
            refine pI 4 (some 121) ?_
            refine pI 8 (some 125) ?_
            refine pI 10 (some 127) ?_
            refine take_ (i:=0) (N:=some 117) (v:=?_) (a':=?_) #[true,true,true,false,true,false,false,false,true,false,true,false,false,false,false] rfl rfl (take_ofW HT_.out HW_.out (by kernel_rfl)) (fun _ _ _ h => h) (Or.inl ⟨by rfl,?_⟩) hHeld ?_ ?_
            rotate_left
            ·rintro w' ⟨s0,s1,s2,s3,s4,s5,s6,s7,s8,s9,s10,s11,s12,s13,s14,s15⟩
             go_simp
             with_reducible rfl
            rotate_left
            ·simp only [Act.put,List.setIfInBounds_toArray,List.set_cons_zero,List.set_cons_succ,i64_w,i32_w]
             rfl
            refine take_ (i:=3) (N:=some 120) (v:=?_) (a':=?_) #[true,true,true,true,true,false,false,false,true,false,true,false,false,false,false] rfl rfl (take_ofW HT_.out HW_.out (by kernel_rfl)) (fun _ _ _ h => h) (Or.inl ⟨by rfl,?_⟩) hHeld ?_ ?_
            rotate_left
            ·rintro w' ⟨s0,s1,s2,s3,s4,s5,s6,s7,s8,s9,s10,s11,s12,s13,s14,s15⟩
             go_simp
             with_reducible rfl
            rotate_left
            ·simp only [Act.put,List.setIfInBounds_toArray,List.set_cons_zero,List.set_cons_succ,i64_w,i32_w]
             rfl
            refine pI 5 (some 122) ?_
            refine pI 6 (some 123) ?_
            refine take_ (i:=7) (N:=some 124) (v:=?_) (a':=?_) #[true,true,true,true,true,true,true,true,true,false,true,false,false,false,false] rfl rfl (take_ofW HT_.out HW_.out (by kernel_rfl)) (fun _ _ _ h => h) (Or.inl ⟨by rfl,?_⟩) hHeld ?_ ?_
            rotate_left
            ·rintro w' ⟨s0,s1,s2,s3,s4,s5,s6,s7,s8,s9,s10,s11,s12,s13,s14,s15⟩
             go_simp
             with_reducible rfl
            rotate_left
            ·simp only [Act.put,List.setIfInBounds_toArray,List.set_cons_zero,List.set_cons_succ,i64_w,i32_w]
             rfl
            refine take_ (i:=9) (N:=some 126) (v:=?_) (a':=?_) #[true,true,true,true,true,true,true,true,true,true,true,false,false,false,false] rfl rfl (take_ofW HT_.out HW_.out (by kernel_rfl)) (fun _ _ _ h => h) (Or.inl ⟨by rfl,?_⟩) hHeld ?_ ?_
            rotate_left
            ·rintro w' ⟨s0,s1,s2,s3,s4,s5,s6,s7,s8,s9,s10,s11,s12,s13,s14,s15⟩
             go_simp
             with_reducible rfl
            rotate_left
            ·simp only [Act.put,List.setIfInBounds_toArray,List.set_cons_zero,List.set_cons_succ,i64_w,i32_w]
             rfl
            refine pI 11 (some 128) ?_
            refine pI 12 (some 129) ?_
            refine take_ (i:=13) (N:=some 130) (v:=?_) (a':=?_) #[true,true,true,true,true,true,true,true,true,true,true,true,true,true,false] rfl rfl (take_ofW HT_.out HW_.out (by kernel_rfl)) (fun _ _ _ h => h) (Or.inl ⟨by rfl,?_⟩) hHeld ?_ ?_
            rotate_left
            ·rintro w' ⟨s0,s1,s2,s3,s4,s5,s6,s7,s8,s9,s10,s11,s12,s13,s14,s15⟩
             go_simp
             with_reducible rfl
            rotate_left
            ·simp only [Act.put,List.setIfInBounds_toArray,List.set_cons_zero,List.set_cons_succ,i64_w,i32_w]
             rfl
            refine oI 14 (some 131) (fun K hK => ?_)
            refine goes_ Try.func41 (by kernel_rfl) rfl #[.agg #[.int .i64 a0_0,.int .i64 a0_1,.slice A0_2 l0_2.length c0_2,.slice A0_3 l0_3.length c0_3,.slice A0_4 l0_4.length c0_4,.slice (some ad248) l0_5.length c0_5],.int .i64 x11_5,.int .i64 ((rd_T50 l0_5 x11_5).f0),.int .i64 ((rd_T50 l0_5 x11_5).f2)] (by rfl) rfl rfl ga_ ?_
            with_reducible refine (hinterlandref17_taken.calls k5 a0_0 a0_1 _ _ l0_2 _ _ l0_3 _ _ l0_4 _ _ l0_5 x11_5 ((rd_T50 l0_5 x11_5).f0) ((rd_T50 l0_5 x11_5).f2) false _ ?side1 ?side2 ?side3 ?side4 ?side5 ?side6 ?side7 ?side8 A69.out).mono ?_
            (case side1 => exact cq HR0_2)
            (case side2 => exact HC0_2.out)
            (case side3 => exact cq HR0_3)
            (case side4 => exact HC0_3.out)
            (case side5 => exact cq HR0_4)
            (case side6 => exact HC0_4.out)
            (case side7 => exact cq HR0_5)
            (case side8 => exact HC0_5.out)
            rintro e w76 ⟨rfl,hb⟩
            refine ⟨_,rfl,?_⟩
            have n0_:=bkb BK237 hb
            have n1_:=Aside0.mk (below_step (hb_) hb)
            clear BK237
            clear HB
            have BK237:=n0_
            have HB:=n1_
            clear n0_ n1_
            (try clear hb)
            (try clear hb2)
            (try clear hk)
            (try clear hi)
            refine hK.out _ _ ⟨(blk_cell BK237.out 0).trans rfl,(blk_cell BK237.out 1).trans rfl,(blk_cell BK237.out 2).trans rfl,(blk_cell BK237.out 3).trans rfl,(blk_cell BK237.out 4).trans rfl,(blk_cell BK237.out 5).trans rfl,((HB.out.cell (World.block_lt_of_cell? w _ hw248_0)).trans hw248_0),((HB.out.cell (World.block_lt_of_cell? w _ hw248_1)).trans hw248_1),((HB.out.cell (World.block_lt_of_cell? w _ hw248_2)).trans hw248_2),((HB.out.cell (World.block_lt_of_cell? w _ hw248_3)).trans hw248_3),((HB.out.cell (World.block_lt_of_cell? w _ hw248_4)).trans hw248_4),((HB.out.cell (World.block_lt_of_cell? w _ hw249_0)).trans hw249_0),((HB.out.cell (World.block_lt_of_cell? w _ hw249_1)).trans hw249_1),((HB.out.cell (World.block_lt_of_cell? w _ hw249_2)).trans hw249_2),((HB.out.cell (World.block_lt_of_cell? w _ hw249_3)).trans hw249_3),((HB.out.cell (World.block_lt_of_cell? w _ hw249_4)).trans hw249_4)⟩ (fun hHeld => ?_)
            clear hK K
            refine norm_ (a':=?_) ?_ ?_
            rotate_left
            ·show Act.put _ (some 131) _ = _
             simp only [Act.put,List.setIfInBounds_toArray,List.set_cons_zero,List.set_cons_succ,i64_w,i32_w]
             rfl
            refine done_ (done_of HT_.out (by kernel_rfl)) ?_
            try go_wp2
            go_roundg k5
            case measure => have:=HK1.out;have:=HK2.out;have:=HK3.out;have:=HK4.out;have:=HK5.out;omega
            case rel => exact ⟨(wrap64 (x11_5 + 1)),(by first|rfl|(simp;done)|(simp [*];done)),H',⟨by have:=HK1.out;have:=HK2.out;have:=HK3.out;have:=HK4.out;have:=HK5.out;omega⟩,⟨blk_up BK237.out⟩,⟨hb_⟩⟩

end Go.Proofs.Ythjmdpekcleihaa.P

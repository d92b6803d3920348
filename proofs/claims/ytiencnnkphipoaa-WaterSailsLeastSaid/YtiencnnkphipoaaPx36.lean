/- Functions of this seat as plain Lean functions, with proofs that the Go code comes to just their answers, or what stands between them and a law's statement; no conditions. (Laid by a program of this session, out of the kit's print.) -/
import Derived.Test.YtiencnnkphipoaaPx0
import Derived.Test.YtiencnnkphipoaaPx1
import Derived.Test.YtiencnnkphipoaaPx7
import Derived.Test.YtiencnnkphipoaaPx8
import Derived.Test.YtiencnnkphipoaaPx30
import Derived.Test.YtiencnnkphipoaaPx35
namespace Go.Proofs.Ytiencnnkphipoaa.P
open Go.RowKit Go.Proofs.YtiencnnkphipoaaW.PrintWords Go.Proofs.YtiencnnkphipoaaW.PrintLast Go.Proofs.YtiencnnkphipoaaW.PrintMore
attribute [local go_sem] max2_int min2_int max_two min_two max_three min_three max_four min_four   -- for this text's walks alone
set_option linter.unusedVariables false
set_option linter.unusedSimpArgs false

/-! ### hinterlandlaw06_WaterSailsLeast: function 10 -/
mutual
def hinterlandlaw06_WaterSailsLeast.j0 : Nat → Int → Int → List Int → Bool → Int → Int → List Int → List Int → List Int → Option (Bool)
 | 0,_,_,_,_,_,_,_,_,_ => none
 | k + 1,x2,x3,x4,x23,x739000,x739001,x739002,x740000,x740001 => if x23 = true then ((hinterlandlaw06_known.f k).bind fun t741 => (some t741)) else ((water_Areas.f k x739000 x739001 x739002 x740000 x740001).bind fun bt742 => (if bt742.2 = 0 then ((water_Sail.f k x739000 x739001 x739002 x740000 x740001 x2 x3).bind fun bt747 => ((hinterlandref02_Is.f x739000 x739001 x739002 x2).bind fun t751 => (if t751 = true then ((hinterlandref02_Is.f x739000 x739001 x739002 x3).bind fun t752 => (if t752 = true then (if (bt742.1.length : Int) = (x740000.length : Int) then (if 0 ≤ x2 then (if x2 < (bt742.1.length : Int) then (if (rd bt742.1 x2) ≥ 0 then (if 0 ≤ x3 then (if x3 < (bt742.1.length : Int) then (hinterlandlaw06_WaterSailsLeast.j1 k x2 x3 x4 bt747.1 bt747.2 ((rd bt742.1 x2) == (rd bt742.1 x3)) x739000 x739001 x739002 x740000 x740001) else (none)) else (none)) else (hinterlandlaw06_WaterSailsLeast.j1 k x2 x3 x4 bt747.1 bt747.2 false x739000 x739001 x739002 x740000 x740001)) else (none)) else (none)) else (hinterlandlaw06_WaterSailsLeast.j1 k x2 x3 x4 bt747.1 bt747.2 false x739000 x739001 x739002 x740000 x740001)) else (hinterlandlaw06_WaterSailsLeast.j1 k x2 x3 x4 bt747.1 bt747.2 false x739000 x739001 x739002 x740000 x740001))) else (hinterlandlaw06_WaterSailsLeast.j1 k x2 x3 x4 bt747.1 bt747.2 false x739000 x739001 x739002 x740000 x740001)))) else ((hinterlandlaw06_known.f k).bind fun t746 => (some t746))))
def hinterlandlaw06_WaterSailsLeast.j1 : Nat → Int → Int → List Int → List Int → Int → Bool → Int → Int → List Int → List Int → List Int → Option (Bool)
 | 0,_,_,_,_,_,_,_,_,_,_,_ => none
 | k + 1,x2,x3,x4,x13,x14,x15,x739000,x739001,x739002,x740000,x740001 => if (x15 != (x14 == 0)) = true then (some false) else (if x15 = true then (if (x13.length : Int) = 0 then (hinterlandlaw06_WaterSailsLeast.j3 k x2 x3 x4 x13 true x739000 x739001 x739002 x740000 x740001) else (if 0 < (x13.length : Int) then (if (rd x13 0) = x2 then (if 0 ≤ (wrap64 ((x13.length : Int) - 1)) then (if (wrap64 ((x13.length : Int) - 1)) < (x13.length : Int) then (if (rd x13 (wrap64 ((x13.length : Int) - 1))) = x3 then ((hinterlandlaw06_joins.f k x739000 x739001 x739002 x740000 x740001 x13).bind fun t759 => (hinterlandlaw06_WaterSailsLeast.j3 k x2 x3 x4 x13 (!t759) x739000 x739001 x739002 x740000 x740001)) else (hinterlandlaw06_WaterSailsLeast.j3 k x2 x3 x4 x13 true x739000 x739001 x739002 x740000 x740001)) else (none)) else (none)) else (hinterlandlaw06_WaterSailsLeast.j3 k x2 x3 x4 x13 true x739000 x739001 x739002 x740000 x740001)) else (none))) else (if (x13.length : Int) = 0 then ((hinterlandlaw06_known.f k).bind fun t756 => (hinterlandlaw06_WaterSailsLeast.j2 k t756)) else (hinterlandlaw06_WaterSailsLeast.j2 k false)))
def hinterlandlaw06_WaterSailsLeast.j3 : Nat → Int → Int → List Int → List Int → Bool → Int → Int → List Int → List Int → List Int → Option (Bool)
 | 0,_,_,_,_,_,_,_,_,_,_ => none
 | k + 1,x2,x3,x4,x13,x114,x739000,x739001,x739002,x740000,x740001 => if x114 = true then (some false) else (if (x4.length : Int) > 0 then (if (x4.length : Int) < (x13.length : Int) then (if 0 < (x4.length : Int) then (if (rd x4 0) = x2 then (if 0 ≤ (wrap64 ((x4.length : Int) - 1)) then (if (wrap64 ((x4.length : Int) - 1)) < (x4.length : Int) then (if (rd x4 (wrap64 ((x4.length : Int) - 1))) = x3 then ((hinterlandlaw06_joins.f k x739000 x739001 x739002 x740000 x740001 x4).bind fun t762 => (if t762 = true then (hinterlandlaw06_WaterSailsLeast.j4 k false) else ((hinterlandlaw06_known.f k).bind fun t763 => (hinterlandlaw06_WaterSailsLeast.j4 k t763)))) else ((hinterlandlaw06_known.f k).bind fun t764 => (hinterlandlaw06_WaterSailsLeast.j4 k t764))) else (none)) else (none)) else ((hinterlandlaw06_known.f k).bind fun t765 => (hinterlandlaw06_WaterSailsLeast.j4 k t765))) else (none)) else ((hinterlandlaw06_known.f k).bind fun t766 => (hinterlandlaw06_WaterSailsLeast.j4 k t766))) else ((hinterlandlaw06_known.f k).bind fun t767 => (hinterlandlaw06_WaterSailsLeast.j4 k t767)))
def hinterlandlaw06_WaterSailsLeast.j4 : Nat → Bool → Option (Bool)
 | 0,_ => none
 | k + 1,x10 => some x10
def hinterlandlaw06_WaterSailsLeast.j2 : Nat → Bool → Option (Bool)
 | 0,_ => none
 | k + 1,x10 => some x10
end
def hinterlandlaw06_WaterSailsLeast.f (k : Nat) (a0_0 : Int) (a0_1 : Int) (l0_2 : List Int) (l1_0 : List Int) (l1_1 : List Int) (a2 : Int) (a3 : Int) (l4 : List Int) : Option (Bool) := (hinterlandlaw06_large.f a0_0 a0_1 l0_2 l1_0 l1_1).bind fun t740 => (if t740 = true then (hinterlandlaw06_WaterSailsLeast.j0 k a2 a3 l4 true a0_0 a0_1 l0_2 l1_0 l1_1) else (hinterlandlaw06_WaterSailsLeast.j0 k a2 a3 l4 (decide ((l4.length : Int) > 4000)) a0_0 a0_1 l0_2 l1_0 l1_1))
theorem hinterlandlaw06_WaterSailsLeast.mono_l : ∀ k, (∀ y0 y1 y2 y3 y4 y5 y6 y7 y8, LeO (hinterlandlaw06_WaterSailsLeast.j0 k y0 y1 y2 y3 y4 y5 y6 y7 y8) (hinterlandlaw06_WaterSailsLeast.j0 (k + 1) y0 y1 y2 y3 y4 y5 y6 y7 y8)) ∧ (∀ y0 y1 y2 y3 y4 y5 y6 y7 y8 y9 y10, LeO (hinterlandlaw06_WaterSailsLeast.j1 k y0 y1 y2 y3 y4 y5 y6 y7 y8 y9 y10) (hinterlandlaw06_WaterSailsLeast.j1 (k + 1) y0 y1 y2 y3 y4 y5 y6 y7 y8 y9 y10)) ∧ (∀ y0 y1 y2 y3 y4 y5 y6 y7 y8 y9, LeO (hinterlandlaw06_WaterSailsLeast.j3 k y0 y1 y2 y3 y4 y5 y6 y7 y8 y9) (hinterlandlaw06_WaterSailsLeast.j3 (k + 1) y0 y1 y2 y3 y4 y5 y6 y7 y8 y9)) ∧ (∀ y0, LeO (hinterlandlaw06_WaterSailsLeast.j4 k y0) (hinterlandlaw06_WaterSailsLeast.j4 (k + 1) y0)) ∧ (∀ y0, LeO (hinterlandlaw06_WaterSailsLeast.j2 k y0) (hinterlandlaw06_WaterSailsLeast.j2 (k + 1) y0))
 | 0 => ⟨fun _ _ _ _ _ _ _ _ _ r h => by simp [hinterlandlaw06_WaterSailsLeast.j0] at h,fun _ _ _ _ _ _ _ _ _ _ _ r h => by simp [hinterlandlaw06_WaterSailsLeast.j1] at h,fun _ _ _ _ _ _ _ _ _ _ r h => by simp [hinterlandlaw06_WaterSailsLeast.j3] at h,fun _ r h => by simp [hinterlandlaw06_WaterSailsLeast.j4] at h,fun _ r h => by simp [hinterlandlaw06_WaterSailsLeast.j2] at h⟩
 | k + 1 => by
  obtain ⟨ih0,ih1,ih2,ih3,ih4⟩:=hinterlandlaw06_WaterSailsLeast.mono_l k
  refine ⟨?_,?_,?_,?_,?_⟩
  ·intro y0 y1 y2 y3 y4 y5 y6 y7 y8
   unfold hinterlandlaw06_WaterSailsLeast.j0
   repeat' first
   | (with_reducible exact ih0 _ _ _ _ _ _ _ _ _)
   | (with_reducible exact ih1 _ _ _ _ _ _ _ _ _ _ _)
   | (with_reducible exact ih2 _ _ _ _ _ _ _ _ _ _)
   | (with_reducible exact ih3 _)
   | (with_reducible exact ih4 _)
   | (with_reducible exact hinterlandlaw06_joins.mono _ _ _ _ _ _ _)
   | (with_reducible exact hinterlandlaw06_known.mono _)
   | (with_reducible exact water_Areas.mono _ _ _ _ _ _)
   | (with_reducible exact water_Sail.mono _ _ _ _ _ _ _ _)
   | (with_reducible exact LeO.refl _)
   | (with_reducible exact LeO.none _)
   | (with_reducible refine LeO.ite ?_ ?_)
   | (with_reducible refine LeO.bind ?_ (fun _ => ?_))
   | exact ih0 _ _ _ _ _ _ _ _ _
   | exact ih1 _ _ _ _ _ _ _ _ _ _ _
   | exact ih2 _ _ _ _ _ _ _ _ _ _
   | exact ih3 _
   | exact ih4 _
   | exact hinterlandlaw06_joins.mono _ _ _ _ _ _ _
   | exact hinterlandlaw06_known.mono _
   | exact water_Areas.mono _ _ _ _ _ _
   | exact water_Sail.mono _ _ _ _ _ _ _ _
   | exact LeO.none _
   | refine LeO.ite ?_ ?_
   | refine LeO.bind ?_ (fun _ => ?_)
  ·intro y0 y1 y2 y3 y4 y5 y6 y7 y8 y9 y10
   unfold hinterlandlaw06_WaterSailsLeast.j1
   repeat' first
   | (with_reducible exact ih0 _ _ _ _ _ _ _ _ _)
   | (with_reducible exact ih1 _ _ _ _ _ _ _ _ _ _ _)
   | (with_reducible exact ih2 _ _ _ _ _ _ _ _ _ _)
   | (with_reducible exact ih3 _)
   | (with_reducible exact ih4 _)
   | (with_reducible exact hinterlandlaw06_joins.mono _ _ _ _ _ _ _)
   | (with_reducible exact hinterlandlaw06_known.mono _)
   | (with_reducible exact water_Areas.mono _ _ _ _ _ _)
   | (with_reducible exact water_Sail.mono _ _ _ _ _ _ _ _)
   | (with_reducible exact LeO.refl _)
   | (with_reducible exact LeO.none _)
   | (with_reducible refine LeO.ite ?_ ?_)
   | (with_reducible refine LeO.bind ?_ (fun _ => ?_))
   | exact ih0 _ _ _ _ _ _ _ _ _
   | exact ih1 _ _ _ _ _ _ _ _ _ _ _
   | exact ih2 _ _ _ _ _ _ _ _ _ _
   | exact ih3 _
   | exact ih4 _
   | exact hinterlandlaw06_joins.mono _ _ _ _ _ _ _
   | exact hinterlandlaw06_known.mono _
   | exact water_Areas.mono _ _ _ _ _ _
   | exact water_Sail.mono _ _ _ _ _ _ _ _
   | exact LeO.none _
   | refine LeO.ite ?_ ?_
   | refine LeO.bind ?_ (fun _ => ?_)
  ·intro y0 y1 y2 y3 y4 y5 y6 y7 y8 y9
   unfold hinterlandlaw06_WaterSailsLeast.j3
   repeat' first
   | (with_reducible exact ih0 _ _ _ _ _ _ _ _ _)
   | (with_reducible exact ih1 _ _ _ _ _ _ _ _ _ _ _)
   | (with_reducible exact ih2 _ _ _ _ _ _ _ _ _ _)
   | (with_reducible exact ih3 _)
   | (with_reducible exact ih4 _)
   | (with_reducible exact hinterlandlaw06_joins.mono _ _ _ _ _ _ _)
   | (with_reducible exact hinterlandlaw06_known.mono _)
   | (with_reducible exact water_Areas.mono _ _ _ _ _ _)
   | (with_reducible exact water_Sail.mono _ _ _ _ _ _ _ _)
   | (with_reducible exact LeO.refl _)
   | (with_reducible exact LeO.none _)
   | (with_reducible refine LeO.ite ?_ ?_)
   | (with_reducible refine LeO.bind ?_ (fun _ => ?_))
   | exact ih0 _ _ _ _ _ _ _ _ _
   | exact ih1 _ _ _ _ _ _ _ _ _ _ _
   | exact ih2 _ _ _ _ _ _ _ _ _ _
   | exact ih3 _
   | exact ih4 _
   | exact hinterlandlaw06_joins.mono _ _ _ _ _ _ _
   | exact hinterlandlaw06_known.mono _
   | exact water_Areas.mono _ _ _ _ _ _
   | exact water_Sail.mono _ _ _ _ _ _ _ _
   | exact LeO.none _
   | refine LeO.ite ?_ ?_
   | refine LeO.bind ?_ (fun _ => ?_)
  ·intro y0
   unfold hinterlandlaw06_WaterSailsLeast.j4
   repeat' first
   | (with_reducible exact ih0 _ _ _ _ _ _ _ _ _)
   | (with_reducible exact ih1 _ _ _ _ _ _ _ _ _ _ _)
   | (with_reducible exact ih2 _ _ _ _ _ _ _ _ _ _)
   | (with_reducible exact ih3 _)
   | (with_reducible exact ih4 _)
   | (with_reducible exact hinterlandlaw06_joins.mono _ _ _ _ _ _ _)
   | (with_reducible exact hinterlandlaw06_known.mono _)
   | (with_reducible exact water_Areas.mono _ _ _ _ _ _)
   | (with_reducible exact water_Sail.mono _ _ _ _ _ _ _ _)
   | (with_reducible exact LeO.refl _)
   | (with_reducible exact LeO.none _)
   | (with_reducible refine LeO.ite ?_ ?_)
   | (with_reducible refine LeO.bind ?_ (fun _ => ?_))
   | exact ih0 _ _ _ _ _ _ _ _ _
   | exact ih1 _ _ _ _ _ _ _ _ _ _ _
   | exact ih2 _ _ _ _ _ _ _ _ _ _
   | exact ih3 _
   | exact ih4 _
   | exact hinterlandlaw06_joins.mono _ _ _ _ _ _ _
   | exact hinterlandlaw06_known.mono _
   | exact water_Areas.mono _ _ _ _ _ _
   | exact water_Sail.mono _ _ _ _ _ _ _ _
   | exact LeO.none _
   | refine LeO.ite ?_ ?_
   | refine LeO.bind ?_ (fun _ => ?_)
  ·intro y0
   unfold hinterlandlaw06_WaterSailsLeast.j2
   repeat' first
   | (with_reducible exact ih0 _ _ _ _ _ _ _ _ _)
   | (with_reducible exact ih1 _ _ _ _ _ _ _ _ _ _ _)
   | (with_reducible exact ih2 _ _ _ _ _ _ _ _ _ _)
   | (with_reducible exact ih3 _)
   | (with_reducible exact ih4 _)
   | (with_reducible exact hinterlandlaw06_joins.mono _ _ _ _ _ _ _)
   | (with_reducible exact hinterlandlaw06_known.mono _)
   | (with_reducible exact water_Areas.mono _ _ _ _ _ _)
   | (with_reducible exact water_Sail.mono _ _ _ _ _ _ _ _)
   | (with_reducible exact LeO.refl _)
   | (with_reducible exact LeO.none _)
   | (with_reducible refine LeO.ite ?_ ?_)
   | (with_reducible refine LeO.bind ?_ (fun _ => ?_))
   | exact ih0 _ _ _ _ _ _ _ _ _
   | exact ih1 _ _ _ _ _ _ _ _ _ _ _
   | exact ih2 _ _ _ _ _ _ _ _ _ _
   | exact ih3 _
   | exact ih4 _
   | exact hinterlandlaw06_joins.mono _ _ _ _ _ _ _
   | exact hinterlandlaw06_known.mono _
   | exact water_Areas.mono _ _ _ _ _ _
   | exact water_Sail.mono _ _ _ _ _ _ _ _
   | exact LeO.none _
   | refine LeO.ite ?_ ?_
   | refine LeO.bind ?_ (fun _ => ?_)
theorem hinterlandlaw06_WaterSailsLeast.mono : ∀ a0 a1 a2 a3 a4 a5 a6 a7 k, LeO (hinterlandlaw06_WaterSailsLeast.f k a0 a1 a2 a3 a4 a5 a6 a7) (hinterlandlaw06_WaterSailsLeast.f (k + 1) a0 a1 a2 a3 a4 a5 a6 a7) := by
 intro a0 a1 a2 a3 a4 a5 a6 a7 k
 obtain ⟨ih0,ih1,ih2,ih3,ih4⟩:=hinterlandlaw06_WaterSailsLeast.mono_l k
 unfold hinterlandlaw06_WaterSailsLeast.f
 repeat' first
   | (with_reducible exact ih0 _ _ _ _ _ _ _ _ _)
   | (with_reducible exact ih1 _ _ _ _ _ _ _ _ _ _ _)
   | (with_reducible exact ih2 _ _ _ _ _ _ _ _ _ _)
   | (with_reducible exact ih3 _)
   | (with_reducible exact ih4 _)
   | (with_reducible exact hinterlandlaw06_joins.mono _ _ _ _ _ _ _)
   | (with_reducible exact hinterlandlaw06_known.mono _)
   | (with_reducible exact water_Areas.mono _ _ _ _ _ _)
   | (with_reducible exact water_Sail.mono _ _ _ _ _ _ _ _)
   | (with_reducible exact LeO.refl _)
   | (with_reducible exact LeO.none _)
   | (with_reducible refine LeO.ite ?_ ?_)
   | (with_reducible refine LeO.bind ?_ (fun _ => ?_))
   | exact ih0 _ _ _ _ _ _ _ _ _
   | exact ih1 _ _ _ _ _ _ _ _ _ _ _
   | exact ih2 _ _ _ _ _ _ _ _ _ _
   | exact ih3 _
   | exact ih4 _
   | exact hinterlandlaw06_joins.mono _ _ _ _ _ _ _
   | exact hinterlandlaw06_known.mono _
   | exact water_Areas.mono _ _ _ _ _ _
   | exact water_Sail.mono _ _ _ _ _ _ _ _
   | exact LeO.none _
   | refine LeO.ite ?_ ?_
   | refine LeO.bind ?_ (fun _ => ?_)
def hinterlandlaw06_WaterSailsLeast.T7 : Bool × List (List Nat × List Nat) := (true, [([], []), ([], []), ([0, 1], [0, 1]), ([2, 2], [2]), ([3], [3]), ([3], [3]), ([4, 5, 3, 3], [3, 4, 5]), ([3, 6], [3, 6]), ([7, 6], [7]), ([8], [8]), ([9, 8], [8, 9]), ([8], [8]), ([11, 8], [8, 11]), ([12, 8], [8, 12]), ([10, 13, 8], [8, 10, 13]), ([8, 14], [8, 14]), ([15, 8], [15]), ([16], [16]), ([16], [16]), ([17, 18, 16], [16, 17, 18]), ([19, 16], [16, 19]), ([20, 16], [16, 20]), ([16, 21], [16, 21]), ([22, 16], [22]), ([23], [23]), ([23], [23]), ([24, 25, 23], [23, 24, 25]), ([26, 23], [23, 26]), ([23], [23]), ([23], [23]), ([28, 29, 23], [23, 28, 29]), ([30, 23], [23, 30]), ([27, 31, 23], [23, 27, 31]), ([23, 32], [23, 32]), ([33, 23, 0, 1, 2, 3, 4, 5, 6, 7, 8, 9, 10, 11, 12, 13, 14, 15, 16, 17, 18, 19, 20, 21, 22, 23, 24, 25, 26, 27, 28, 29, 30, 31, 32, 33], [33])])
def hinterlandlaw06_WaterSailsLeast.B7 : List Nat := [0, 0, 3, 7, 15, 15, 63, 127, 255, 511, 1023, 511, 2559, 6655, 16383, 32767, 65535, 131071, 131071, 524287, 1048575, 2097151, 4194303, 8388607, 16777215, 16777215, 67108863, 134217727, 16777215, 16777215, 822083583, 1895825407, 4294967295, 8589934591, 17179869183]
theorem hinterlandlaw06_WaterSailsLeast.tab7 : rtab .any (opsOf Try.f10 7) = hinterlandlaw06_WaterSailsLeast.T7 := by kernel_rfl
theorem hinterlandlaw06_WaterSailsLeast.bits7 : waitsOk hinterlandlaw06_WaterSailsLeast.T7.2 hinterlandlaw06_WaterSailsLeast.B7 = true := by kernel_rfl
set_option maxHeartbeats 8000000 in
set_option maxRecDepth 100000 in
theorem hinterlandlaw06_WaterSailsLeast.calls (k : Nat) (a0_0 : Int) (a0_1 : Int) (A0_2 : Option Addr) (c0_2 : Nat) (l0_2 : List Int) (A1_0 : Option Addr) (c1_0 : Nat) (l1_0 : List Int) (A1_1 : Option Addr) (c1_1 : Nat) (l1_1 : List Int) (a2 : Int) (a3 : Int) (A4 : Option Addr) (c4 : Nat) (l4 : List Int) (r : Bool) (w : World) (hr0_2 : Kd.C (Kd.int .i64) w A0_2 l0_2.length l0_2) (hc0_2 : l0_2.length ≤ c0_2) (hr1_0 : Kd.C (Kd.int .i64) w A1_0 l1_0.length l1_0) (hc1_0 : l1_0.length ≤ c1_0) (hr1_1 : Kd.C (Kd.int .i64) w A1_1 l1_1.length l1_1) (hc1_1 : l1_1.length ≤ c1_1) (hr4 : Kd.C (Kd.int .i64) w A4 l4.length l4) (hc4 : l4.length ≤ c4) (h : hinterlandlaw06_WaterSailsLeast.f k a0_0 a0_1 l0_2 l1_0 l1_1 a2 a3 l4 = some r) :
  Calls Try.prog 10 #[.agg #[.int .i64 a0_0,.int .i64 a0_1,.slice A0_2 l0_2.length c0_2],.agg #[.slice A1_0 l1_0.length c1_0,.slice A1_1 l1_1.length c1_1],.int .i64 a2,.int .i64 a3,.slice A4 l4.length c4] w fun e w' => e = .returned (.bool r) ∧ Below w.heap.size w w':=by
 have hu24:=Try.underlying24
 have hu26:=Try.underlying26
 have HR0_2:=Aside0.mk hr0_2
 have HC0_2:=Aside0.mk hc0_2
 clear hr0_2 hc0_2
 have HR1_0:=Aside0.mk hr1_0
 have HC1_0:=Aside0.mk hc1_0
 clear hr1_0 hc1_0
 have HR1_1:=Aside0.mk hr1_1
 have HC1_1:=Aside0.mk hc1_1
 clear hr1_1 hc1_1
 have HR4:=Aside0.mk hr4
 have HC4:=Aside0.mk hc4
 clear hr4 hc4
 have HB:=Aside0.mk (Below.refl w.heap.size w)
 have H : ((hinterlandlaw06_large.f a0_0 a0_1 l0_2 l1_0 l1_1).bind fun t740 => (if t740 = true then (hinterlandlaw06_WaterSailsLeast.j0 k a2 a3 l4 true a0_0 a0_1 l0_2 l1_0 l1_1) else (hinterlandlaw06_WaterSailsLeast.j0 k a2 a3 l4 (decide ((l4.length : Int) > 4000)) a0_0 a0_1 l0_2 l1_0 l1_1))) = some r:=h
 clear h
 have HC6:=Aside0.mk H
 clear H
 go_enter Try.func10,Try.ntmps10
 go_upto_region 1 with (first|((with_reducible refine gate_dst (N:=5) rfl ?_);(try (refine gate_guard (by rfl) ?_;dsimp only));refine box_ev (N:=5) (cs:=#[.int .i64 a0_0,.int .i64 a0_1,.slice A0_2 l0_2.length c0_2]) (t:=24) ?_;intro gb738 hg w7 hbox hb;have BK738:=Aside0.mk (hbox);have GW738 : Aside0 (w.heap.size ≤ gb738):=gsz hg;have GE738:=GW738;replace HB:=Aside0.mk (below_step (hb_) hb);clear hb hbox hg)|((with_reducible refine gate_dst (N:=6) rfl ?_);(try (refine gate_guard (by rfl) ?_;dsimp only));refine box_ev (N:=6) (cs:=#[.slice A1_0 l1_0.length c1_0,.slice A1_1 l1_1.length c1_1]) (t:=26) ?_;intro gb739 hg w8 hbox hb;have BK739:=Aside0.mk (hbox);have GW739 : Aside0 (w.heap.size ≤ gb739):=gsz hg;have GE739:=GW739;have NB738_739:=nbl BK738 hg;have NB739_738:=nbr BK738 hg;replace BK738:=bkb BK738 hb;replace HB:=Aside0.mk (below_step (hb_) hb);clear hb hbox hg))
 (try simp only [Act.put,List.setIfInBounds_toArray,List.set_cons_zero,List.set_cons_succ])
 go_cut [23] (fun v23 wc => ∃ (kq : Nat) (x23_5 : Bool),v23 = .bool x23_5 ∧ Aside0 (hinterlandlaw06_WaterSailsLeast.j0 kq a2 a3 l4 x23_5 a0_0 a0_1 l0_2 l1_0 l1_1 = some r) ∧ Aside0 (kq ≤ k) ∧ Aside0 (wc.heap[gb738]? = some (.cells #[.int .i64 a0_0,.int .i64 a0_1,(.slice A0_2 l0_2.length c0_2)] 24 (0,0))) ∧ Aside0 (wc.heap[gb739]? = some (.cells #[(.slice A1_0 l1_0.length c1_0),(.slice A1_1 l1_1.length c1_1)] 26 (0,0))) ∧ Aside0 (Below w.heap.size w wc))
 case first =>
  have H:=HC6.out
  clear HC6
  replace H:=Option.bind_eq_some_iff.mp H
  obtain ⟨t740,A90,H⟩:=H
  replace H : (if t740 = true then (hinterlandlaw06_WaterSailsLeast.j0 k a2 a3 l4 true a0_0 a0_1 l0_2 l1_0 l1_1) else (hinterlandlaw06_WaterSailsLeast.j0 k a2 a3 l4 (decide ((l4.length : Int) > 4000)) a0_0 a0_1 l0_2 l1_0 l1_1)) = some r:=H
  have A9:=Aside0.mk A90
  clear A90
  by_cases c10 : t740 = true
  ·subst c10
   have H1 : (hinterlandlaw06_WaterSailsLeast.j0 k a2 a3 l4 true a0_0 a0_1 l0_2 l1_0 l1_1) = some r:=by rw [if_pos rfl] at H;exact H
   clear H
   have H:=H1
   clear H1
   have H':=Aside0.mk H
   clear H
   have hnb11:=NB738_739.out
   have hnc11:=NB739_738.out
   obtain ⟨hcz12_0,hcz12_1,hcz12_2,hfz12_0,hfz12_1,hfz12_2⟩:=cells3 BK738.out
   obtain ⟨hcz13_0,hcz13_1,hfz13_0,hfz13_1⟩:=cells2 BK739.out
   go_wp2_with (first|((with_reducible refine gate_callee (f:=14) rfl ?_);refine goesL_ (some 18) rfl rfl Try.func14 (by kernel_rfl) rfl #[.agg #[.int .i64 a0_0,.int .i64 a0_1,.slice A0_2 l0_2.length c0_2],.agg #[.slice A1_0 l1_0.length c1_0,.slice A1_1 l1_1.length c1_1]] rfl (by (try simp only [List.map_toArray,List.map_cons,List.map_nil]);first|done|rfl|(simp only [List.length_drop,List.length_take];rfl)) ?_;(with_reducible refine (hinterlandlaw06_large.calls a0_0 a0_1 _ _ l0_2 _ _ l1_0 _ _ l1_1 true _ ?side1 ?side2 ?side3 ?side4 ?side5 ?side6 A9.out).mono ?_);(case side1 => exact Kd.C_up (Kd.C_below HR0_2.out HB.out));(case side2 => exact HC0_2.out);(case side3 => exact Kd.C_up (Kd.C_below HR1_0.out HB.out));(case side4 => exact HC1_0.out);(case side5 => exact Kd.C_up (Kd.C_below HR1_1.out HB.out));(case side6 => exact HC1_1.out);rintro e w14 ⟨rfl,hb⟩;refine ⟨_,rfl,?_⟩;replace BK738:=bkb BK738 hb;replace BK739:=bkb BK739 hb;replace HB:=Aside0.mk (below_step (hb_) hb)))
   go_meet
   case rel => exact ⟨_,(true),(by first|rfl|(simp;done)|(simp [*];done)),H',⟨by first|omega|exact Nat.le_refl _⟩,⟨blk_up BK738.out⟩,⟨blk_up BK739.out⟩,⟨hb_⟩⟩
  ·replace c10:=Bool.eq_false_iff.mpr c10
   subst c10
   have H1 : (hinterlandlaw06_WaterSailsLeast.j0 k a2 a3 l4 (decide ((l4.length : Int) > 4000)) a0_0 a0_1 l0_2 l1_0 l1_1) = some r:=by rw [if_neg (show ¬ (false = true) by decide)] at H;exact H
   clear H
   have H:=H1
   clear H1
   have H':=Aside0.mk H
   clear H
   have hnb15:=NB738_739.out
   have hnc15:=NB739_738.out
   obtain ⟨hcz16_0,hcz16_1,hcz16_2,hfz16_0,hfz16_1,hfz16_2⟩:=cells3 BK738.out
   obtain ⟨hcz17_0,hcz17_1,hfz17_0,hfz17_1⟩:=cells2 BK739.out
   go_wp2_with (first|((with_reducible refine gate_callee (f:=14) rfl ?_);refine goesL_ (some 18) rfl rfl Try.func14 (by kernel_rfl) rfl #[.agg #[.int .i64 a0_0,.int .i64 a0_1,.slice A0_2 l0_2.length c0_2],.agg #[.slice A1_0 l1_0.length c1_0,.slice A1_1 l1_1.length c1_1]] rfl (by (try simp only [List.map_toArray,List.map_cons,List.map_nil]);first|done|rfl|(simp only [List.length_drop,List.length_take];rfl)) ?_;(with_reducible refine (hinterlandlaw06_large.calls a0_0 a0_1 _ _ l0_2 _ _ l1_0 _ _ l1_1 false _ ?side1 ?side2 ?side3 ?side4 ?side5 ?side6 A9.out).mono ?_);(case side1 => exact Kd.C_up (Kd.C_below HR0_2.out HB.out));(case side2 => exact HC0_2.out);(case side3 => exact Kd.C_up (Kd.C_below HR1_0.out HB.out));(case side4 => exact HC1_0.out);(case side5 => exact Kd.C_up (Kd.C_below HR1_1.out HB.out));(case side6 => exact HC1_1.out);rintro e w18 ⟨rfl,hb⟩;refine ⟨_,rfl,?_⟩;replace BK738:=bkb BK738 hb;replace BK739:=bkb BK739 hb;replace HB:=Aside0.mk (below_step (hb_) hb)))
   go_meet
   case rel => exact ⟨_,(decide ((l4.length : Int) > 4000)),(by first|rfl|(simp;done)|(simp [*];done)),H',⟨by first|omega|exact Nat.le_refl _⟩,⟨blk_up BK738.out⟩,⟨blk_up BK739.out⟩,⟨hb_⟩⟩
 case rest =>
  clear HC6
  obtain ⟨kq,x23_5,rfl,HA,HJ5,BK738,BK739,HB⟩:=hcut
  cases kq with
  | zero => exact absurd HA.out (by simp [hinterlandlaw06_WaterSailsLeast.j0])
  | succ kj5 =>
   have H:=HA.out
   clear HA
   simp only [hinterlandlaw06_WaterSailsLeast.j0] at H
   by_cases c19 : x23_5 = true
   ·subst c19
    have H1 : ((hinterlandlaw06_known.f kj5).bind fun t741 => (some t741)) = some r:=by rw [if_pos rfl] at H;exact H
    clear H
    have H:=H1
    clear H1
    replace H:=Option.bind_eq_some_iff.mp H
    obtain ⟨t741,A200,H⟩:=H
    replace H : (some t741) = some r:=H
    have A20:=Aside0.mk A200
    clear A200
    obtain rfl:=Option.some.inj H
    go_wp2_with (first|((with_reducible refine gate_callee (f:=15) rfl ?_);refine goesL_ (some 24) rfl rfl Try.func15 (by kernel_rfl) rfl #[] rfl (by (try simp only [List.map_toArray,List.map_cons,List.map_nil]);first|done|rfl|(simp only [List.length_drop,List.length_take];rfl)) ?_;(with_reducible refine (hinterlandlaw06_known.calls kj5  t741 _ A20.out).mono ?_);rintro e w21 ⟨rfl,hb⟩;refine ⟨_,rfl,?_⟩;replace BK738:=bkb BK738 hb;replace BK739:=bkb BK739 hb;replace HB:=Aside0.mk (below_step (hb_) hb)))
    go_ret
    exact ⟨by first|rfl|(simp [errW_none,errW_some] <;> rfl)|(simp [*,errW_none,errW_some] <;> rfl),hb_⟩
   ·replace c19:=Bool.eq_false_iff.mpr c19
    subst c19
    have H1 : ((water_Areas.f kj5 a0_0 a0_1 l0_2 l1_0 l1_1).bind fun bt742 => (if bt742.2 = 0 then ((water_Sail.f kj5 a0_0 a0_1 l0_2 l1_0 l1_1 a2 a3).bind fun bt747 => ((hinterlandref02_Is.f a0_0 a0_1 l0_2 a2).bind fun t751 => (if t751 = true then ((hinterlandref02_Is.f a0_0 a0_1 l0_2 a3).bind fun t752 => (if t752 = true then (if (bt742.1.length : Int) = (l1_0.length : Int) then (if 0 ≤ a2 then (if a2 < (bt742.1.length : Int) then (if (rd bt742.1 a2) ≥ 0 then (if 0 ≤ a3 then (if a3 < (bt742.1.length : Int) then (hinterlandlaw06_WaterSailsLeast.j1 kj5 a2 a3 l4 bt747.1 bt747.2 ((rd bt742.1 a2) == (rd bt742.1 a3)) a0_0 a0_1 l0_2 l1_0 l1_1) else (none)) else (none)) else (hinterlandlaw06_WaterSailsLeast.j1 kj5 a2 a3 l4 bt747.1 bt747.2 false a0_0 a0_1 l0_2 l1_0 l1_1)) else (none)) else (none)) else (hinterlandlaw06_WaterSailsLeast.j1 kj5 a2 a3 l4 bt747.1 bt747.2 false a0_0 a0_1 l0_2 l1_0 l1_1)) else (hinterlandlaw06_WaterSailsLeast.j1 kj5 a2 a3 l4 bt747.1 bt747.2 false a0_0 a0_1 l0_2 l1_0 l1_1))) else (hinterlandlaw06_WaterSailsLeast.j1 kj5 a2 a3 l4 bt747.1 bt747.2 false a0_0 a0_1 l0_2 l1_0 l1_1)))) else ((hinterlandlaw06_known.f kj5).bind fun t746 => (some t746)))) = some r:=by rw [if_neg (show ¬ (false = true) by decide)] at H;exact H
    clear H
    have H:=H1
    clear H1
    replace H:=Option.bind_eq_some_iff.mp H
    obtain ⟨⟨t742,t745⟩,A220,H⟩:=H
    replace H : (if t745 = 0 then ((water_Sail.f kj5 a0_0 a0_1 l0_2 l1_0 l1_1 a2 a3).bind fun bt747 => ((hinterlandref02_Is.f a0_0 a0_1 l0_2 a2).bind fun t751 => (if t751 = true then ((hinterlandref02_Is.f a0_0 a0_1 l0_2 a3).bind fun t752 => (if t752 = true then (if (t742.length : Int) = (l1_0.length : Int) then (if 0 ≤ a2 then (if a2 < (t742.length : Int) then (if (rd t742 a2) ≥ 0 then (if 0 ≤ a3 then (if a3 < (t742.length : Int) then (hinterlandlaw06_WaterSailsLeast.j1 kj5 a2 a3 l4 bt747.1 bt747.2 ((rd t742 a2) == (rd t742 a3)) a0_0 a0_1 l0_2 l1_0 l1_1) else (none)) else (none)) else (hinterlandlaw06_WaterSailsLeast.j1 kj5 a2 a3 l4 bt747.1 bt747.2 false a0_0 a0_1 l0_2 l1_0 l1_1)) else (none)) else (none)) else (hinterlandlaw06_WaterSailsLeast.j1 kj5 a2 a3 l4 bt747.1 bt747.2 false a0_0 a0_1 l0_2 l1_0 l1_1)) else (hinterlandlaw06_WaterSailsLeast.j1 kj5 a2 a3 l4 bt747.1 bt747.2 false a0_0 a0_1 l0_2 l1_0 l1_1))) else (hinterlandlaw06_WaterSailsLeast.j1 kj5 a2 a3 l4 bt747.1 bt747.2 false a0_0 a0_1 l0_2 l1_0 l1_1)))) else ((hinterlandlaw06_known.f kj5).bind fun t746 => (some t746))) = some r:=H
    have A22:=Aside0.mk A220
    clear A220
    by_cases c23 : t745 = 0
    rotate_left
    ·rw [if_neg c23] at H
     have c23b0 : (t745 == 0) = false:=beq_eq_false_iff_ne.mpr c23
     have c23b1 : (t745 != 0) = true:=bne_iff_ne.mpr c23
     replace H:=Option.bind_eq_some_iff.mp H
     obtain ⟨t746,A1200,H⟩:=H
     replace H : (some t746) = some r:=H
     have A120:=Aside0.mk A1200
     clear A1200
     obtain rfl:=Option.some.inj H
     have hnb121:=NB738_739.out
     have hnc121:=NB739_738.out
     obtain ⟨hcz122_0,hcz122_1,hcz122_2,hfz122_0,hfz122_1,hfz122_2⟩:=cells3 BK738.out
     obtain ⟨hcz123_0,hcz123_1,hfz123_0,hfz123_1⟩:=cells2 BK739.out
     go_wp2_with (first|((with_reducible refine gate_callee (f:=31) rfl ?_);refine goesL_ (some 28) rfl rfl Try.func31 (by kernel_rfl) rfl #[.agg #[.int .i64 a0_0,.int .i64 a0_1,.slice A0_2 l0_2.length c0_2],.agg #[.slice A1_0 l1_0.length c1_0,.slice A1_1 l1_1.length c1_1]] rfl (by (try simp only [List.map_toArray,List.map_cons,List.map_nil]);first|done|rfl|(simp only [List.length_drop,List.length_take];rfl)) ?_;(with_reducible refine (water_Areas.calls kj5 a0_0 a0_1 _ _ l0_2 _ _ l1_0 _ _ l1_1 t742 t745 _ ?side1 ?side2 ?side3 ?side4 ?side5 ?side6 A22.out).mono ?_);(case side1 => exact Kd.C_up (Kd.C_below HR0_2.out HB.out));(case side2 => exact HC0_2.out);(case side3 => exact Kd.C_up (Kd.C_below HR1_0.out HB.out));(case side4 => exact HC1_0.out);(case side5 => exact Kd.C_up (Kd.C_below HR1_1.out HB.out));(case side6 => exact HC1_1.out);rintro e w124 ⟨v743,rfl,ho0,hb⟩;refine ⟨_,rfl,?_⟩;have HO744:=rlo ho0;replace BK738:=bkb BK738 hb;replace BK739:=bkb BK739 hb;replace HB:=Aside0.mk (below_step (hb_) hb))|((with_reducible refine gate_callee (f:=15) rfl ?_);refine goesL_ (some 33) rfl rfl Try.func15 (by kernel_rfl) rfl #[] rfl (by (try simp only [List.map_toArray,List.map_cons,List.map_nil]);first|done|rfl|(simp only [List.length_drop,List.length_take];rfl)) ?_;(with_reducible refine (hinterlandlaw06_known.calls kj5  t746 _ A120.out).mono ?_);rintro e w125 ⟨rfl,hb⟩;refine ⟨_,rfl,?_⟩;replace HO744:=rbw HO744 hb;replace BK738:=bkb BK738 hb;replace BK739:=bkb BK739 hb;replace HB:=Aside0.mk (below_step (hb_) hb)))
     go_ret
     exact ⟨by first|rfl|(simp [errW_none,errW_some] <;> rfl)|(simp [*,errW_none,errW_some] <;> rfl),hb_⟩
    rw [if_pos c23] at H
    have c23b0 : (t745 == 0) = true:=beq_iff_eq.mpr c23
    have c23b1 : (t745 != 0) = false:=bne_eq_false_iff_eq.mpr c23
    clear c23
    replace H:=Option.bind_eq_some_iff.mp H
    obtain ⟨⟨t747,t750⟩,A240,H⟩:=H
    replace H : ((hinterlandref02_Is.f a0_0 a0_1 l0_2 a2).bind fun t751 => (if t751 = true then ((hinterlandref02_Is.f a0_0 a0_1 l0_2 a3).bind fun t752 => (if t752 = true then (if (t742.length : Int) = (l1_0.length : Int) then (if 0 ≤ a2 then (if a2 < (t742.length : Int) then (if (rd t742 a2) ≥ 0 then (if 0 ≤ a3 then (if a3 < (t742.length : Int) then (hinterlandlaw06_WaterSailsLeast.j1 kj5 a2 a3 l4 t747 t750 ((rd t742 a2) == (rd t742 a3)) a0_0 a0_1 l0_2 l1_0 l1_1) else (none)) else (none)) else (hinterlandlaw06_WaterSailsLeast.j1 kj5 a2 a3 l4 t747 t750 false a0_0 a0_1 l0_2 l1_0 l1_1)) else (none)) else (none)) else (hinterlandlaw06_WaterSailsLeast.j1 kj5 a2 a3 l4 t747 t750 false a0_0 a0_1 l0_2 l1_0 l1_1)) else (hinterlandlaw06_WaterSailsLeast.j1 kj5 a2 a3 l4 t747 t750 false a0_0 a0_1 l0_2 l1_0 l1_1))) else (hinterlandlaw06_WaterSailsLeast.j1 kj5 a2 a3 l4 t747 t750 false a0_0 a0_1 l0_2 l1_0 l1_1))) = some r:=H
    have A24:=Aside0.mk A240
    clear A240
    have HC25:=Aside0.mk H
    clear H
    have hnb26:=NB738_739.out
    have hnc26:=NB739_738.out
    obtain ⟨hcz27_0,hcz27_1,hcz27_2,hfz27_0,hfz27_1,hfz27_2⟩:=cells3 BK738.out
    obtain ⟨hcz28_0,hcz28_1,hfz28_0,hfz28_1⟩:=cells2 BK739.out
    go_upto_region 7 with (first|((with_reducible refine gate_callee (f:=31) rfl ?_);refine goesL_ (some 28) rfl rfl Try.func31 (by kernel_rfl) rfl #[.agg #[.int .i64 a0_0,.int .i64 a0_1,.slice A0_2 l0_2.length c0_2],.agg #[.slice A1_0 l1_0.length c1_0,.slice A1_1 l1_1.length c1_1]] rfl (by (try simp only [List.map_toArray,List.map_cons,List.map_nil]);first|done|rfl|(simp only [List.length_drop,List.length_take];rfl)) ?_;(with_reducible refine (water_Areas.calls kj5 a0_0 a0_1 _ _ l0_2 _ _ l1_0 _ _ l1_1 t742 t745 _ ?side1 ?side2 ?side3 ?side4 ?side5 ?side6 A22.out).mono ?_);(case side1 => exact Kd.C_up (Kd.C_below HR0_2.out HB.out));(case side2 => exact HC0_2.out);(case side3 => exact Kd.C_up (Kd.C_below HR1_0.out HB.out));(case side4 => exact HC1_0.out);(case side5 => exact Kd.C_up (Kd.C_below HR1_1.out HB.out));(case side6 => exact HC1_1.out);rintro e w29 ⟨v743,rfl,ho0,hb⟩;refine ⟨_,rfl,?_⟩;have HO744:=rlo ho0;replace BK738:=bkb BK738 hb;replace BK739:=bkb BK739 hb;replace HB:=Aside0.mk (below_step (hb_) hb);obtain ⟨hcz30_0,hcz30_1,hcz30_2,hfz30_0,hfz30_1,hfz30_2⟩:=cells3 BK738.out;obtain ⟨hcz31_0,hcz31_1,hfz31_0,hfz31_1⟩:=cells2 BK739.out)|((with_reducible refine gate_callee (f:=19) rfl ?_);refine goesL_ (some 39) rfl rfl Try.func19 (by kernel_rfl) rfl #[.agg #[.int .i64 a0_0,.int .i64 a0_1,.slice A0_2 l0_2.length c0_2],.agg #[.slice A1_0 l1_0.length c1_0,.slice A1_1 l1_1.length c1_1],.int .i64 a2,.int .i64 a3] rfl (by (try simp only [List.map_toArray,List.map_cons,List.map_nil]);first|done|rfl|(simp only [List.length_drop,List.length_take];rfl)) ?_;(with_reducible refine (water_Sail.calls kj5 a0_0 a0_1 _ _ l0_2 _ _ l1_0 _ _ l1_1 a2 a3 t747 t750 _ ?side1 ?side2 ?side3 ?side4 ?side5 ?side6 A24.out).mono ?_);(case side1 => exact Kd.C_up (Kd.C_below HR0_2.out HB.out));(case side2 => exact HC0_2.out);(case side3 => exact Kd.C_up (Kd.C_below HR1_0.out HB.out));(case side4 => exact HC1_0.out);(case side5 => exact Kd.C_up (Kd.C_below HR1_1.out HB.out));(case side6 => exact HC1_1.out);rintro e w32 ⟨v748,rfl,ho0,hb⟩;refine ⟨_,rfl,?_⟩;have HO749:=Aside0.mk (Kd.R_lower (Kd.R_new' ho0 (Kd.R_lt (Kd.R_up HO744.out))) (below_size (hb_)));replace HO744:=Aside0.mk (Kd.R_elder' (Kd.R_up HO744.out) (Kd.R_base ho0) hb);replace BK738:=bkb BK738 hb;replace BK739:=bkb BK739 hb;replace HB:=Aside0.mk (below_step (hb_) hb)))
    (try simp only [Act.put,List.setIfInBounds_toArray,List.set_cons_zero,List.set_cons_succ])
    go_cut [15] (fun v15 wc => ∃ (kq : Nat) (x15_24 : Bool),v15 = .bool x15_24 ∧ Aside0 (hinterlandlaw06_WaterSailsLeast.j1 kq a2 a3 l4 t747 t750 x15_24 a0_0 a0_1 l0_2 l1_0 l1_1 = some r) ∧ Aside0 (kq ≤ kj5) ∧ Aside0 (Kd.R (Kd.int .i64) 3 wc w.heap.size (fun _ => True) v748 t747) ∧ Aside0 (wc.heap[gb738]? = some (.cells #[.int .i64 a0_0,.int .i64 a0_1,(.slice A0_2 l0_2.length c0_2)] 24 (0,0))) ∧ Aside0 (wc.heap[gb739]? = some (.cells #[(.slice A1_0 l1_0.length c1_0),(.slice A1_1 l1_1.length c1_1)] 26 (0,0))) ∧ Aside0 (Below w.heap.size w wc))
    case first =>
     have H:=HC25.out
     clear HC25
     replace H:=Option.bind_eq_some_iff.mp H
     obtain ⟨t751,A330,H⟩:=H
     replace H : (if t751 = true then ((hinterlandref02_Is.f a0_0 a0_1 l0_2 a3).bind fun t752 => (if t752 = true then (if (t742.length : Int) = (l1_0.length : Int) then (if 0 ≤ a2 then (if a2 < (t742.length : Int) then (if (rd t742 a2) ≥ 0 then (if 0 ≤ a3 then (if a3 < (t742.length : Int) then (hinterlandlaw06_WaterSailsLeast.j1 kj5 a2 a3 l4 t747 t750 ((rd t742 a2) == (rd t742 a3)) a0_0 a0_1 l0_2 l1_0 l1_1) else (none)) else (none)) else (hinterlandlaw06_WaterSailsLeast.j1 kj5 a2 a3 l4 t747 t750 false a0_0 a0_1 l0_2 l1_0 l1_1)) else (none)) else (none)) else (hinterlandlaw06_WaterSailsLeast.j1 kj5 a2 a3 l4 t747 t750 false a0_0 a0_1 l0_2 l1_0 l1_1)) else (hinterlandlaw06_WaterSailsLeast.j1 kj5 a2 a3 l4 t747 t750 false a0_0 a0_1 l0_2 l1_0 l1_1))) else (hinterlandlaw06_WaterSailsLeast.j1 kj5 a2 a3 l4 t747 t750 false a0_0 a0_1 l0_2 l1_0 l1_1)) = some r:=H
     have A33:=Aside0.mk A330
     clear A330
     by_cases c34 : t751 = true
     ·subst c34
      have H1 : ((hinterlandref02_Is.f a0_0 a0_1 l0_2 a3).bind fun t752 => (if t752 = true then (if (t742.length : Int) = (l1_0.length : Int) then (if 0 ≤ a2 then (if a2 < (t742.length : Int) then (if (rd t742 a2) ≥ 0 then (if 0 ≤ a3 then (if a3 < (t742.length : Int) then (hinterlandlaw06_WaterSailsLeast.j1 kj5 a2 a3 l4 t747 t750 ((rd t742 a2) == (rd t742 a3)) a0_0 a0_1 l0_2 l1_0 l1_1) else (none)) else (none)) else (hinterlandlaw06_WaterSailsLeast.j1 kj5 a2 a3 l4 t747 t750 false a0_0 a0_1 l0_2 l1_0 l1_1)) else (none)) else (none)) else (hinterlandlaw06_WaterSailsLeast.j1 kj5 a2 a3 l4 t747 t750 false a0_0 a0_1 l0_2 l1_0 l1_1)) else (hinterlandlaw06_WaterSailsLeast.j1 kj5 a2 a3 l4 t747 t750 false a0_0 a0_1 l0_2 l1_0 l1_1))) = some r:=by rw [if_pos rfl] at H;exact H
      clear H
      have H:=H1
      clear H1
      replace H:=Option.bind_eq_some_iff.mp H
      obtain ⟨t752,A350,H⟩:=H
      replace H : (if t752 = true then (if (t742.length : Int) = (l1_0.length : Int) then (if 0 ≤ a2 then (if a2 < (t742.length : Int) then (if (rd t742 a2) ≥ 0 then (if 0 ≤ a3 then (if a3 < (t742.length : Int) then (hinterlandlaw06_WaterSailsLeast.j1 kj5 a2 a3 l4 t747 t750 ((rd t742 a2) == (rd t742 a3)) a0_0 a0_1 l0_2 l1_0 l1_1) else (none)) else (none)) else (hinterlandlaw06_WaterSailsLeast.j1 kj5 a2 a3 l4 t747 t750 false a0_0 a0_1 l0_2 l1_0 l1_1)) else (none)) else (none)) else (hinterlandlaw06_WaterSailsLeast.j1 kj5 a2 a3 l4 t747 t750 false a0_0 a0_1 l0_2 l1_0 l1_1)) else (hinterlandlaw06_WaterSailsLeast.j1 kj5 a2 a3 l4 t747 t750 false a0_0 a0_1 l0_2 l1_0 l1_1)) = some r:=H
      have A35:=Aside0.mk A350
      clear A350
      by_cases c36 : t752 = true
      ·subst c36
       have H1 : (if (t742.length : Int) = (l1_0.length : Int) then (if 0 ≤ a2 then (if a2 < (t742.length : Int) then (if (rd t742 a2) ≥ 0 then (if 0 ≤ a3 then (if a3 < (t742.length : Int) then (hinterlandlaw06_WaterSailsLeast.j1 kj5 a2 a3 l4 t747 t750 ((rd t742 a2) == (rd t742 a3)) a0_0 a0_1 l0_2 l1_0 l1_1) else (none)) else (none)) else (hinterlandlaw06_WaterSailsLeast.j1 kj5 a2 a3 l4 t747 t750 false a0_0 a0_1 l0_2 l1_0 l1_1)) else (none)) else (none)) else (hinterlandlaw06_WaterSailsLeast.j1 kj5 a2 a3 l4 t747 t750 false a0_0 a0_1 l0_2 l1_0 l1_1)) = some r:=by rw [if_pos rfl] at H;exact H
       clear H
       have H:=H1
       clear H1
       by_cases c37 : (t742.length : Int) = (l1_0.length : Int)
       rotate_left
       ·rw [if_neg c37] at H
        have c37b0 : ((t742.length : Int) == (l1_0.length : Int)) = false:=beq_eq_false_iff_ne.mpr c37
        have c37b1 : ((t742.length : Int) != (l1_0.length : Int)) = true:=bne_iff_ne.mpr c37
        have c37b2 : (t742.length == l1_0.length) = false:=by first|simpa using c37|(simp at c37 ⊢;omega)
        (first|rw [c37b0]|(simp only [i64_w,i32_w];rw [c37b0])|skip)
        have H':=Aside0.mk H
        clear H
        try go_wp2
        replace HO744:=Aside0.mk (Kd.R_drew HO744.out)
        replace HO749:=Aside0.mk (Kd.R_drew HO749.out)
        replace BK738:=Aside0.mk (blk_drew BK738.out)
        replace BK739:=Aside0.mk (blk_drew BK739.out)
        replace HB:=Aside0.mk (below_drew1 HB.out)
        refine start_ (n:=35) (S:=fun w' => w'.cell? ⟨gb738,0,none⟩ = some (.int .i64 a0_0) ∧ w'.cell? ⟨gb738,1,none⟩ = some (.int .i64 a0_1) ∧ w'.cell? ⟨gb738,2,none⟩ = some (.slice A0_2 l0_2.length c0_2) ∧ w'.cell? ⟨gb739,0,none⟩ = some (.slice A1_0 l1_0.length c1_0) ∧ w'.cell? ⟨gb739,1,none⟩ = some (.slice A1_1 l1_1.length c1_1)) (ds:=[]) #[false,false,false,false,false,false,false,false,false,false,false,false,false,false,false,false,false,false,false,false,false,false,false,false,false,false,false,false,false,false,false,false,false,false,false] (by kernel_rfl) rfl rfl ⟨(blk_cell BK738.out 0).trans rfl,(blk_cell BK738.out 1).trans rfl,(blk_cell BK738.out 2).trans rfl,(blk_cell BK739.out 0).trans rfl,(blk_cell BK739.out 1).trans rfl⟩ (fun hHeld => ?_);refine with_tabW hinterlandlaw06_WaterSailsLeast.tab7 hinterlandlaw06_WaterSailsLeast.bits7 (fun HT_ HW_ => ?_)
        generalize w32.drew = w51 at HO744 HO749 BK738 BK739 HB hHeld ⊢
        refine pI 1 (some 43) ?_
        refine tI5 0 (some 42) hHeld ?_
        refine oI 2 (some 44) (fun K hK => ?_)
        refine goes_ Try.func33 (by kernel_rfl) rfl #[.agg #[.int .i64 a0_0,.int .i64 a0_1,.slice A0_2 l0_2.length c0_2],.int .i64 a2] (by rfl) rfl rfl (by (try simp only [List.map_toArray,List.map_cons,List.map_nil]);first|done|rfl|(simp only [List.length_drop,List.length_take];rfl)) ?_
        with_reducible refine (hinterlandref02_Is.calls a0_0 a0_1 _ _ l0_2 a2 true _ ?side1 ?side2 A33.out).mono ?_
        (case side1 => exact Kd.C_up (Kd.C_below HR0_2.out HB.out))
        (case side2 => exact HC0_2.out)
        rintro e w52 ⟨rfl,hb⟩
        refine ⟨_,rfl,?_⟩
        have n0_:=rbw HO744 hb
        have n1_:=rbw HO749 hb
        have n2_:=bkb BK738 hb
        have n3_:=bkb BK739 hb
        have n4_:=Aside0.mk (below_step (hb_) hb)
        clear HO744
        clear HO749
        clear BK738
        clear BK739
        clear HB
        have HO744:=n0_
        have HO749:=n1_
        have BK738:=n2_
        have BK739:=n3_
        have HB:=n4_
        clear n0_ n1_ n2_ n3_ n4_
        (try clear hb)
        (try clear hb2)
        (try clear hk)
        (try clear hi)
        refine hK.out _ _ ⟨(blk_cell BK738.out 0).trans rfl,(blk_cell BK738.out 1).trans rfl,(blk_cell BK738.out 2).trans rfl,(blk_cell BK739.out 0).trans rfl,(blk_cell BK739.out 1).trans rfl⟩ (fun hHeld => ?_)
        clear hK K
        refine norm_ (a':=?_) ?_ ?_
        rotate_left
        ·show Act.put _ (some 44) _ = _
         simp only [Act.put,List.setIfInBounds_toArray,List.set_cons_zero,List.set_cons_succ,i64_w,i32_w]
         rfl
        refine pI 3 (some 45) ?_
        refine pI 5 (some 47) ?_
        refine tI5 4 (some 46) hHeld ?_
        refine oI 6 (some 48) (fun K hK => ?_)
        refine goes_ Try.func33 (by kernel_rfl) rfl #[.agg #[.int .i64 a0_0,.int .i64 a0_1,.slice A0_2 l0_2.length c0_2],.int .i64 a3] (by rfl) rfl rfl (by (try simp only [List.map_toArray,List.map_cons,List.map_nil]);first|done|rfl|(simp only [List.length_drop,List.length_take];rfl)) ?_
        with_reducible refine (hinterlandref02_Is.calls a0_0 a0_1 _ _ l0_2 a3 true _ ?side1 ?side2 A35.out).mono ?_
        (case side1 => exact Kd.C_up (Kd.C_below HR0_2.out HB.out))
        (case side2 => exact HC0_2.out)
        rintro e w53 ⟨rfl,hb⟩
        refine ⟨_,rfl,?_⟩
        have n0_:=rbw HO744 hb
        have n1_:=rbw HO749 hb
        have n2_:=bkb BK738 hb
        have n3_:=bkb BK739 hb
        have n4_:=Aside0.mk (below_step (hb_) hb)
        clear HO744
        clear HO749
        clear BK738
        clear BK739
        clear HB
        have HO744:=n0_
        have HO749:=n1_
        have BK738:=n2_
        have BK739:=n3_
        have HB:=n4_
        clear n0_ n1_ n2_ n3_ n4_
        (try clear hb)
        (try clear hb2)
        (try clear hk)
        (try clear hi)
        obtain ⟨Ao54,co54,eo54⟩:=Kd.R_slice HO744.out
        (first|subst eo54|(injection eo54 with f1_ f2_ f3_;have f4_:=f1_.symm;have f5_:=f3_.symm;clear f1_ f2_ f3_;subst f4_;subst f5_))
        refine hK.out _ _ ⟨(blk_cell BK738.out 0).trans rfl,(blk_cell BK738.out 1).trans rfl,(blk_cell BK738.out 2).trans rfl,(blk_cell BK739.out 0).trans rfl,(blk_cell BK739.out 1).trans rfl⟩ (fun hHeld => ?_)
        clear hK K
        refine norm_ (a':=?_) ?_ ?_
        rotate_left
        ·show Act.put _ (some 48) _ = _
         simp only [Act.put,List.setIfInBounds_toArray,List.set_cons_zero,List.set_cons_succ,i64_w,i32_w]
         rfl
        refine pI 7 (some 49) ?_
        refine pI 8 (some 50) ?_
        refine pI 9 (some 51) ?_
        refine pI 10 (some 52) ?_
        refine pI 11 (some 53) ?_
        refine tI5 12 (some 54) hHeld ?_
        refine pI 13 (some 55) ?_
        refine pI 14 (some 56) ?_
        refine pI 15 (some 57) ?_
        refine pI 16 (some 58) ?_
        refine pU 17 (some 59) ?_
        refine pU 18 (some 60) ?_
        refine pU 19 (some 61) ?_
        refine pU 20 (some 62) ?_
        refine pU 21 (some 63) ?_
        refine pI 22 (some 64) ?_
        refine pI 23 (some 65) ?_
        refine pU 24 (some 66) ?_
        refine pU 25 (some 67) ?_
        refine pU 26 (some 68) ?_
        refine pU 27 (some 69) ?_
        refine pU 28 (some 70) ?_
        refine pU 29 (some 71) ?_
        refine pU 30 (some 72) ?_
        refine pU 31 (some 73) ?_
        refine pU 32 (some 74) ?_
        refine pI 33 (some 75) ?_
        refine pI 34 (some 15) ?_
        refine done_ (done_of HT_.out (by kernel_rfl)) ?_
        try go_wp2
        go_meet
        case rel => exact ⟨_,(false),(by first|rfl|(simp;done)|(simp [*];done)),H',⟨by have:=HJ5.out;first|omega|exact Nat.le_refl _⟩,⟨by (with_reducible repeat (first|apply Kd.R_alloc|apply Kd.R_drewN|apply Kd.R_drew));exact Kd.R_mono HO749.out (fun _ hk => trivial)⟩,⟨blk_up BK738.out⟩,⟨blk_up BK739.out⟩,⟨hb_⟩⟩
       rw [if_pos c37] at H
       have c37b0 : ((t742.length : Int) == (l1_0.length : Int)) = true:=beq_iff_eq.mpr c37
       have c37b1 : ((t742.length : Int) != (l1_0.length : Int)) = false:=bne_eq_false_iff_eq.mpr c37
       have c37b2 : (t742.length == l1_0.length) = true:=by first|simpa using c37|(simp at c37 ⊢;omega)
       clear c37
       (first|rw [c37b0]|(simp only [i64_w,i32_w];rw [c37b0])|skip)
       replace H:=ifp_ H;obtain ⟨c38,H⟩:=H
       have c38b0 : decide (0 ≤ a2) = true:=decide_eq_true c38
       clear c38
       replace H:=ifp_ H;obtain ⟨c39,H⟩:=H
       have c39b0 : decide (a2 < (t742.length : Int)) = true:=decide_eq_true c39
       clear c39
       by_cases c40 : (rd t742 a2) ≥ 0
       rotate_left
       ·rw [if_neg c40] at H
        have c40b0 : decide (0 ≤ (rd t742 a2)) = false:=decide_eq_false c40
        clear c40
        have H':=Aside0.mk H
        clear H
        try go_wp2
        replace HO744:=Aside0.mk (Kd.R_drew HO744.out)
        replace HO749:=Aside0.mk (Kd.R_drew HO749.out)
        replace BK738:=Aside0.mk (blk_drew BK738.out)
        replace BK739:=Aside0.mk (blk_drew BK739.out)
        replace HB:=Aside0.mk (below_drew1 HB.out)
        have p753 : 0 ≤ (a2 : Int):=of_decide_eq_true (by first|(with_reducible assumption)|assumption)
        have q753 : a2 < (t742.length : Int):=of_decide_eq_true (by first|(with_reducible assumption)|assumption)
        (try (obtain ⟨Ao9_,co9_,eo9_⟩:=Kd.R_slice HO744.out;subst eo9_))
        obtain ⟨ad753,e753,hx753_0⟩:=Kd.at_int (Kd.R_reads' HO744.out).2.2 a2 p753 q753
        cases e753
        replace p753:=eq_true p753
        replace q753:=eq_true q753
        refine start_ (n:=35) (S:=fun w' => w'.cell? ⟨gb738,0,none⟩ = some (.int .i64 a0_0) ∧ w'.cell? ⟨gb738,1,none⟩ = some (.int .i64 a0_1) ∧ w'.cell? ⟨gb738,2,none⟩ = some (.slice A0_2 l0_2.length c0_2) ∧ w'.cell? ⟨gb739,0,none⟩ = some (.slice A1_0 l1_0.length c1_0) ∧ w'.cell? ⟨gb739,1,none⟩ = some (.slice A1_1 l1_1.length c1_1) ∧ w'.cell? (ad753.add (a2).toNat) = some (.int .i64 (rd t742 a2))) (ds:=[]) #[false,false,false,false,false,false,false,false,false,false,false,false,false,false,false,false,false,false,false,false,false,false,false,false,false,false,false,false,false,false,false,false,false,false,false] (by kernel_rfl) rfl rfl ⟨(blk_cell BK738.out 0).trans rfl,(blk_cell BK738.out 1).trans rfl,(blk_cell BK738.out 2).trans rfl,(blk_cell BK739.out 0).trans rfl,(blk_cell BK739.out 1).trans rfl,hx753_0⟩ (fun hHeld => ?_);refine with_tabW hinterlandlaw06_WaterSailsLeast.tab7 hinterlandlaw06_WaterSailsLeast.bits7 (fun HT_ HW_ => ?_)
        generalize w32.drew = w47 at HO744 HO749 BK738 BK739 HB hx753_0 hHeld ⊢
        refine pI 1 (some 43) ?_
        refine tI6 0 (some 42) hHeld ?_
        refine oI 2 (some 44) (fun K hK => ?_)
        refine goes_ Try.func33 (by kernel_rfl) rfl #[.agg #[.int .i64 a0_0,.int .i64 a0_1,.slice A0_2 l0_2.length c0_2],.int .i64 a2] (by rfl) rfl rfl (by (try simp only [List.map_toArray,List.map_cons,List.map_nil]);first|done|rfl|(simp only [List.length_drop,List.length_take];rfl)) ?_
        with_reducible refine (hinterlandref02_Is.calls a0_0 a0_1 _ _ l0_2 a2 true _ ?side1 ?side2 A33.out).mono ?_
        (case side1 => exact Kd.C_up (Kd.C_below HR0_2.out HB.out))
        (case side2 => exact HC0_2.out)
        rintro e w48 ⟨rfl,hb⟩
        have HS5_:=(hb.cell (World.block_lt_of_cell? _ _ (hHeld.2.2.2.2.2))).trans (hHeld.2.2.2.2.2)
        refine ⟨_,rfl,?_⟩
        have n0_:=rbw HO744 hb
        have n1_:=rbw HO749 hb
        have n2_:=bkb BK738 hb
        have n3_:=bkb BK739 hb
        have n4_:=Aside0.mk (below_step (hb_) hb)
        clear HO744
        clear HO749
        clear BK738
        clear BK739
        clear HB
        have HO744:=n0_
        have HO749:=n1_
        have BK738:=n2_
        have BK739:=n3_
        have HB:=n4_
        clear n0_ n1_ n2_ n3_ n4_
        (try clear hb)
        (try clear hb2)
        (try clear hk)
        (try clear hi)
        refine hK.out _ _ ⟨(blk_cell BK738.out 0).trans rfl,(blk_cell BK738.out 1).trans rfl,(blk_cell BK738.out 2).trans rfl,(blk_cell BK739.out 0).trans rfl,(blk_cell BK739.out 1).trans rfl,HS5_⟩ (fun hHeld => ?_)
        clear hK K
        refine norm_ (a':=?_) ?_ ?_
        rotate_left
        ·show Act.put _ (some 44) _ = _
         simp only [Act.put,List.setIfInBounds_toArray,List.set_cons_zero,List.set_cons_succ,i64_w,i32_w]
         rfl
        refine pI 3 (some 45) ?_
        refine pI 5 (some 47) ?_
        refine tI6 4 (some 46) hHeld ?_
        refine oI 6 (some 48) (fun K hK => ?_)
        refine goes_ Try.func33 (by kernel_rfl) rfl #[.agg #[.int .i64 a0_0,.int .i64 a0_1,.slice A0_2 l0_2.length c0_2],.int .i64 a3] (by rfl) rfl rfl (by (try simp only [List.map_toArray,List.map_cons,List.map_nil]);first|done|rfl|(simp only [List.length_drop,List.length_take];rfl)) ?_
        with_reducible refine (hinterlandref02_Is.calls a0_0 a0_1 _ _ l0_2 a3 true _ ?side1 ?side2 A35.out).mono ?_
        (case side1 => exact Kd.C_up (Kd.C_below HR0_2.out HB.out))
        (case side2 => exact HC0_2.out)
        rintro e w49 ⟨rfl,hb⟩
        have HS5_:=(hb.cell (World.block_lt_of_cell? _ _ (hHeld.2.2.2.2.2))).trans (hHeld.2.2.2.2.2)
        refine ⟨_,rfl,?_⟩
        have n0_:=rbw HO744 hb
        have n1_:=rbw HO749 hb
        have n2_:=bkb BK738 hb
        have n3_:=bkb BK739 hb
        have n4_:=Aside0.mk (below_step (hb_) hb)
        clear HO744
        clear HO749
        clear BK738
        clear BK739
        clear HB
        have HO744:=n0_
        have HO749:=n1_
        have BK738:=n2_
        have BK739:=n3_
        have HB:=n4_
        clear n0_ n1_ n2_ n3_ n4_
        (try clear hb)
        (try clear hb2)
        (try clear hk)
        (try clear hi)
        obtain ⟨Ao50,co50,eo50⟩:=Kd.R_slice HO744.out
        (first|subst eo50|(injection eo50 with f1_ f2_ f3_;have f4_:=f1_.symm;have f5_:=f3_.symm;clear f1_ f2_ f3_;subst f4_;subst f5_))
        refine hK.out _ _ ⟨(blk_cell BK738.out 0).trans rfl,(blk_cell BK738.out 1).trans rfl,(blk_cell BK738.out 2).trans rfl,(blk_cell BK739.out 0).trans rfl,(blk_cell BK739.out 1).trans rfl,HS5_⟩ (fun hHeld => ?_)
        clear hK K
        refine norm_ (a':=?_) ?_ ?_
        rotate_left
        ·show Act.put _ (some 48) _ = _
         simp only [Act.put,List.setIfInBounds_toArray,List.set_cons_zero,List.set_cons_succ,i64_w,i32_w]
         rfl
        refine pI 7 (some 49) ?_
        refine pI 8 (some 50) ?_
        refine pI 9 (some 51) ?_
        refine pI 10 (some 52) ?_
        refine pI 11 (some 53) ?_
        refine tI6 12 (some 54) hHeld ?_
        refine pI 13 (some 55) ?_
        refine pI 14 (some 56) ?_
        refine pI 15 (some 57) ?_
        refine pI 16 (some 58) ?_
        refine pI 17 (some 59) ?_
        refine pI 18 (some 60) ?_
        refine pI 19 (some 61) ?_
        refine tI6 20 (some 62) hHeld ?_
        refine pI 21 (some 63) ?_
        refine pI 22 (some 64) ?_
        refine pI 23 (some 65) ?_
        refine pU 24 (some 66) ?_
        refine pU 25 (some 67) ?_
        refine pU 26 (some 68) ?_
        refine pU 27 (some 69) ?_
        refine pU 28 (some 70) ?_
        refine pU 29 (some 71) ?_
        refine pU 30 (some 72) ?_
        refine pU 31 (some 73) ?_
        refine pU 32 (some 74) ?_
        refine pI 33 (some 75) ?_
        refine pI 34 (some 15) ?_
        refine done_ (done_of HT_.out (by kernel_rfl)) ?_
        try go_wp2
        go_meet
        case rel => exact ⟨_,(false),(by first|rfl|(simp;done)|(simp [*];done)),H',⟨by have:=HJ5.out;first|omega|exact Nat.le_refl _⟩,⟨by (with_reducible repeat (first|apply Kd.R_alloc|apply Kd.R_drewN|apply Kd.R_drew));exact Kd.R_mono HO749.out (fun _ hk => trivial)⟩,⟨blk_up BK738.out⟩,⟨blk_up BK739.out⟩,⟨hb_⟩⟩
       rw [if_pos c40] at H
       have c40b0 : decide (0 ≤ (rd t742 a2)) = true:=decide_eq_true c40
       clear c40
       replace H:=ifp_ H;obtain ⟨c41,H⟩:=H
       have c41b0 : decide (0 ≤ a3) = true:=decide_eq_true c41
       clear c41
       replace H:=ifp_ H;obtain ⟨c42,H⟩:=H
       have c42b0 : decide (a3 < (t742.length : Int)) = true:=decide_eq_true c42
       clear c42
       have H':=Aside0.mk H
       clear H
       try go_wp2
       replace HO744:=Aside0.mk (Kd.R_drew HO744.out)
       replace HO749:=Aside0.mk (Kd.R_drew HO749.out)
       replace BK738:=Aside0.mk (blk_drew BK738.out)
       replace BK739:=Aside0.mk (blk_drew BK739.out)
       replace HB:=Aside0.mk (below_drew1 HB.out)
       have p753 : 0 ≤ (a2 : Int):=of_decide_eq_true (by first|(with_reducible assumption)|assumption)
       have q753 : a2 < (t742.length : Int):=of_decide_eq_true (by first|(with_reducible assumption)|assumption)
       (try (obtain ⟨Ao9_,co9_,eo9_⟩:=Kd.R_slice HO744.out;subst eo9_))
       obtain ⟨ad753,e753,hx753_0⟩:=Kd.at_int (Kd.R_reads' HO744.out).2.2 a2 p753 q753
       cases e753
       replace p753:=eq_true p753
       replace q753:=eq_true q753
       have p754 : 0 ≤ (a2 : Int):=of_decide_eq_true (by first|(with_reducible assumption)|assumption)
       have q754 : a2 < (t742.length : Int):=of_decide_eq_true (by first|(with_reducible assumption)|assumption)
       (try (obtain ⟨Ao9_,co9_,eo9_⟩:=Kd.R_slice HO744.out;subst eo9_))
       obtain ⟨ad754,e754,hx754_0⟩:=Kd.at_int (Kd.R_reads' HO744.out).2.2 a2 p754 q754
       obtain rfl : ad753 = ad754:=(by injection e754)
       replace p754:=eq_true p754
       replace q754:=eq_true q754
       have p755 : 0 ≤ (a3 : Int):=of_decide_eq_true (by first|(with_reducible assumption)|assumption)
       have q755 : a3 < (t742.length : Int):=of_decide_eq_true (by first|(with_reducible assumption)|assumption)
       (try (obtain ⟨Ao9_,co9_,eo9_⟩:=Kd.R_slice HO744.out;subst eo9_))
       obtain ⟨ad755,e755,hx755_0⟩:=Kd.at_int (Kd.R_reads' HO744.out).2.2 a3 p755 q755
       obtain rfl : ad753 = ad755:=(by injection e755)
       replace p755:=eq_true p755
       replace q755:=eq_true q755
       refine start_ (n:=35) (S:=fun w' => w'.cell? ⟨gb738,0,none⟩ = some (.int .i64 a0_0) ∧ w'.cell? ⟨gb738,1,none⟩ = some (.int .i64 a0_1) ∧ w'.cell? ⟨gb738,2,none⟩ = some (.slice A0_2 l0_2.length c0_2) ∧ w'.cell? ⟨gb739,0,none⟩ = some (.slice A1_0 l1_0.length c1_0) ∧ w'.cell? ⟨gb739,1,none⟩ = some (.slice A1_1 l1_1.length c1_1) ∧ w'.cell? (ad753.add (a2).toNat) = some (.int .i64 (rd t742 a2)) ∧ w'.cell? (ad753.add (a2).toNat) = some (.int .i64 (rd t742 a2)) ∧ w'.cell? (ad753.add (a3).toNat) = some (.int .i64 (rd t742 a3))) (ds:=[]) #[false,false,false,false,false,false,false,false,false,false,false,false,false,false,false,false,false,false,false,false,false,false,false,false,false,false,false,false,false,false,false,false,false,false,false] (by kernel_rfl) rfl rfl ⟨(blk_cell BK738.out 0).trans rfl,(blk_cell BK738.out 1).trans rfl,(blk_cell BK738.out 2).trans rfl,(blk_cell BK739.out 0).trans rfl,(blk_cell BK739.out 1).trans rfl,hx753_0,hx754_0,hx755_0⟩ (fun hHeld => ?_);refine with_tabW hinterlandlaw06_WaterSailsLeast.tab7 hinterlandlaw06_WaterSailsLeast.bits7 (fun HT_ HW_ => ?_)
       generalize w32.drew = w43 at HO744 HO749 BK738 BK739 HB hx753_0 hx754_0 hx755_0 hHeld ⊢
       refine pI 1 (some 43) ?_
       refine tI8 0 (some 42) hHeld ?_
       refine oI 2 (some 44) (fun K hK => ?_)
       refine goes_ Try.func33 (by kernel_rfl) rfl #[.agg #[.int .i64 a0_0,.int .i64 a0_1,.slice A0_2 l0_2.length c0_2],.int .i64 a2] (by rfl) rfl rfl (by (try simp only [List.map_toArray,List.map_cons,List.map_nil]);first|done|rfl|(simp only [List.length_drop,List.length_take];rfl)) ?_
       with_reducible refine (hinterlandref02_Is.calls a0_0 a0_1 _ _ l0_2 a2 true _ ?side1 ?side2 A33.out).mono ?_
       (case side1 => exact Kd.C_up (Kd.C_below HR0_2.out HB.out))
       (case side2 => exact HC0_2.out)
       rintro e w44 ⟨rfl,hb⟩
       have HS5_:=(hb.cell (World.block_lt_of_cell? _ _ (hHeld.2.2.2.2.2.1))).trans (hHeld.2.2.2.2.2.1)
       have HS6_:=(hb.cell (World.block_lt_of_cell? _ _ (hHeld.2.2.2.2.2.2.1))).trans (hHeld.2.2.2.2.2.2.1)
       have HS7_:=(hb.cell (World.block_lt_of_cell? _ _ (hHeld.2.2.2.2.2.2.2))).trans (hHeld.2.2.2.2.2.2.2)
       refine ⟨_,rfl,?_⟩
       have n0_:=rbw HO744 hb
       have n1_:=rbw HO749 hb
       have n2_:=bkb BK738 hb
       have n3_:=bkb BK739 hb
       have n4_:=Aside0.mk (below_step (hb_) hb)
       clear HO744
       clear HO749
       clear BK738
       clear BK739
       clear HB
       have HO744:=n0_
       have HO749:=n1_
       have BK738:=n2_
       have BK739:=n3_
       have HB:=n4_
       clear n0_ n1_ n2_ n3_ n4_
       (try clear hb)
       (try clear hb2)
       (try clear hk)
       (try clear hi)
       refine hK.out _ _ ⟨(blk_cell BK738.out 0).trans rfl,(blk_cell BK738.out 1).trans rfl,(blk_cell BK738.out 2).trans rfl,(blk_cell BK739.out 0).trans rfl,(blk_cell BK739.out 1).trans rfl,HS5_,HS6_,HS7_⟩ (fun hHeld => ?_)
       clear hK K
       refine norm_ (a':=?_) ?_ ?_
       rotate_left
       ·show Act.put _ (some 44) _ = _
        simp only [Act.put,List.setIfInBounds_toArray,List.set_cons_zero,List.set_cons_succ,i64_w,i32_w]
        rfl
       refine pI 3 (some 45) ?_
       refine pI 5 (some 47) ?_
       refine tI8 4 (some 46) hHeld ?_
       refine oI 6 (some 48) (fun K hK => ?_)
       refine goes_ Try.func33 (by kernel_rfl) rfl #[.agg #[.int .i64 a0_0,.int .i64 a0_1,.slice A0_2 l0_2.length c0_2],.int .i64 a3] (by rfl) rfl rfl (by (try simp only [List.map_toArray,List.map_cons,List.map_nil]);first|done|rfl|(simp only [List.length_drop,List.length_take];rfl)) ?_
       with_reducible refine (hinterlandref02_Is.calls a0_0 a0_1 _ _ l0_2 a3 true _ ?side1 ?side2 A35.out).mono ?_
       (case side1 => exact Kd.C_up (Kd.C_below HR0_2.out HB.out))
       (case side2 => exact HC0_2.out)
       rintro e w45 ⟨rfl,hb⟩
       have HS5_:=(hb.cell (World.block_lt_of_cell? _ _ (hHeld.2.2.2.2.2.1))).trans (hHeld.2.2.2.2.2.1)
       have HS6_:=(hb.cell (World.block_lt_of_cell? _ _ (hHeld.2.2.2.2.2.2.1))).trans (hHeld.2.2.2.2.2.2.1)
       have HS7_:=(hb.cell (World.block_lt_of_cell? _ _ (hHeld.2.2.2.2.2.2.2))).trans (hHeld.2.2.2.2.2.2.2)
       refine ⟨_,rfl,?_⟩
       have n0_:=rbw HO744 hb
       have n1_:=rbw HO749 hb
       have n2_:=bkb BK738 hb
       have n3_:=bkb BK739 hb
       have n4_:=Aside0.mk (below_step (hb_) hb)
       clear HO744
       clear HO749
       clear BK738
       clear BK739
       clear HB
       have HO744:=n0_
       have HO749:=n1_
       have BK738:=n2_
       have BK739:=n3_
       have HB:=n4_
       clear n0_ n1_ n2_ n3_ n4_
       (try clear hb)
       (try clear hb2)
       (try clear hk)
       (try clear hi)
       obtain ⟨Ao46,co46,eo46⟩:=Kd.R_slice HO744.out
       (first|subst eo46|(injection eo46 with f1_ f2_ f3_;have f4_:=f1_.symm;have f5_:=f3_.symm;clear f1_ f2_ f3_;subst f4_;subst f5_))
       refine hK.out _ _ ⟨(blk_cell BK738.out 0).trans rfl,(blk_cell BK738.out 1).trans rfl,(blk_cell BK738.out 2).trans rfl,(blk_cell BK739.out 0).trans rfl,(blk_cell BK739.out 1).trans rfl,HS5_,HS6_,HS7_⟩ (fun hHeld => ?_)
       clear hK K
       refine norm_ (a':=?_) ?_ ?_
       rotate_left
       ·show Act.put _ (some 48) _ = _
        simp only [Act.put,List.setIfInBounds_toArray,List.set_cons_zero,List.set_cons_succ,i64_w,i32_w]
        rfl
       refine pI 7 (some 49) ?_
       refine pI 8 (some 50) ?_
       refine pI 9 (some 51) ?_
       refine pI 10 (some 52) ?_
       refine pI 11 (some 53) ?_
       refine tI8 12 (some 54) hHeld ?_
       refine pI 13 (some 55) ?_
       refine pI 14 (some 56) ?_
       refine pI 15 (some 57) ?_
       refine pI 16 (some 58) ?_
       refine pI 17 (some 59) ?_
       refine pI 18 (some 60) ?_
       refine pI 19 (some 61) ?_
       refine tI8 20 (some 62) hHeld ?_
       refine pI 21 (some 63) ?_
       refine pI 22 (some 64) ?_
       refine pI 23 (some 65) ?_
       refine pI 24 (some 66) ?_
       refine pI 25 (some 67) ?_
       refine pI 26 (some 68) ?_
       refine pI 28 (some 70) ?_
       refine pI 29 (some 71) ?_
       refine pI 30 (some 72) ?_
       refine tI8 27 (some 69) hHeld ?_
       refine tI8 31 (some 73) hHeld ?_
       refine pI 32 (some 74) ?_
       refine pI 33 (some 75) ?_
       refine pI 34 (some 15) ?_
       refine done_ (done_of HT_.out (by kernel_rfl)) ?_
       try go_wp2
       go_meet
       case rel => exact ⟨_,(((rd t742 a2) == (rd t742 a3))),(by first|rfl|(simp;done)|(simp [*];done)),H',⟨by have:=HJ5.out;first|omega|exact Nat.le_refl _⟩,⟨by (with_reducible repeat (first|apply Kd.R_alloc|apply Kd.R_drewN|apply Kd.R_drew));exact Kd.R_mono HO749.out (fun _ hk => trivial)⟩,⟨blk_up BK738.out⟩,⟨blk_up BK739.out⟩,⟨hb_⟩⟩
      ·replace c36:=Bool.eq_false_iff.mpr c36
       subst c36
       have H1 : (hinterlandlaw06_WaterSailsLeast.j1 kj5 a2 a3 l4 t747 t750 false a0_0 a0_1 l0_2 l1_0 l1_1) = some r:=by rw [if_neg (show ¬ (false = true) by decide)] at H;exact H
       clear H
       have H:=H1
       clear H1
       have H':=Aside0.mk H
       clear H
       try go_wp2
       replace HO744:=Aside0.mk (Kd.R_drew HO744.out)
       replace HO749:=Aside0.mk (Kd.R_drew HO749.out)
       replace BK738:=Aside0.mk (blk_drew BK738.out)
       replace BK739:=Aside0.mk (blk_drew BK739.out)
       replace HB:=Aside0.mk (below_drew1 HB.out)
       refine start_ (n:=35) (S:=fun w' => w'.cell? ⟨gb738,0,none⟩ = some (.int .i64 a0_0) ∧ w'.cell? ⟨gb738,1,none⟩ = some (.int .i64 a0_1) ∧ w'.cell? ⟨gb738,2,none⟩ = some (.slice A0_2 l0_2.length c0_2)) (ds:=[]) #[false,false,false,false,false,false,false,false,false,false,false,false,false,false,false,false,false,false,false,false,false,false,false,false,false,false,false,false,false,false,false,false,false,false,false] (by kernel_rfl) rfl rfl ⟨(blk_cell BK738.out 0).trans rfl,(blk_cell BK738.out 1).trans rfl,(blk_cell BK738.out 2).trans rfl⟩ (fun hHeld => ?_);refine with_tabW hinterlandlaw06_WaterSailsLeast.tab7 hinterlandlaw06_WaterSailsLeast.bits7 (fun HT_ HW_ => ?_)
       generalize w32.drew = w55 at HO744 HO749 BK738 BK739 HB hHeld ⊢
       refine pI 1 (some 43) ?_
       refine tI3 0 (some 42) hHeld ?_
       refine oI 2 (some 44) (fun K hK => ?_)
       refine goes_ Try.func33 (by kernel_rfl) rfl #[.agg #[.int .i64 a0_0,.int .i64 a0_1,.slice A0_2 l0_2.length c0_2],.int .i64 a2] (by rfl) rfl rfl (by (try simp only [List.map_toArray,List.map_cons,List.map_nil]);first|done|rfl|(simp only [List.length_drop,List.length_take];rfl)) ?_
       with_reducible refine (hinterlandref02_Is.calls a0_0 a0_1 _ _ l0_2 a2 true _ ?side1 ?side2 A33.out).mono ?_
       (case side1 => exact Kd.C_up (Kd.C_below HR0_2.out HB.out))
       (case side2 => exact HC0_2.out)
       rintro e w56 ⟨rfl,hb⟩
       refine ⟨_,rfl,?_⟩
       have n0_:=rbw HO744 hb
       have n1_:=rbw HO749 hb
       have n2_:=bkb BK738 hb
       have n3_:=bkb BK739 hb
       have n4_:=Aside0.mk (below_step (hb_) hb)
       clear HO744
       clear HO749
       clear BK738
       clear BK739
       clear HB
       have HO744:=n0_
       have HO749:=n1_
       have BK738:=n2_
       have BK739:=n3_
       have HB:=n4_
       clear n0_ n1_ n2_ n3_ n4_
       (try clear hb)
       (try clear hb2)
       (try clear hk)
       (try clear hi)
       refine hK.out _ _ ⟨(blk_cell BK738.out 0).trans rfl,(blk_cell BK738.out 1).trans rfl,(blk_cell BK738.out 2).trans rfl⟩ (fun hHeld => ?_)
       clear hK K
       refine norm_ (a':=?_) ?_ ?_
       rotate_left
       ·show Act.put _ (some 44) _ = _
        simp only [Act.put,List.setIfInBounds_toArray,List.set_cons_zero,List.set_cons_succ,i64_w,i32_w]
        rfl
       refine pI 3 (some 45) ?_
       refine pI 5 (some 47) ?_
       refine tI3 4 (some 46) hHeld ?_
       refine oI 6 (some 48) (fun K hK => ?_)
       refine goes_ Try.func33 (by kernel_rfl) rfl #[.agg #[.int .i64 a0_0,.int .i64 a0_1,.slice A0_2 l0_2.length c0_2],.int .i64 a3] (by rfl) rfl rfl (by (try simp only [List.map_toArray,List.map_cons,List.map_nil]);first|done|rfl|(simp only [List.length_drop,List.length_take];rfl)) ?_
       with_reducible refine (hinterlandref02_Is.calls a0_0 a0_1 _ _ l0_2 a3 false _ ?side1 ?side2 A35.out).mono ?_
       (case side1 => exact Kd.C_up (Kd.C_below HR0_2.out HB.out))
       (case side2 => exact HC0_2.out)
       rintro e w57 ⟨rfl,hb⟩
       refine ⟨_,rfl,?_⟩
       have n0_:=rbw HO744 hb
       have n1_:=rbw HO749 hb
       have n2_:=bkb BK738 hb
       have n3_:=bkb BK739 hb
       have n4_:=Aside0.mk (below_step (hb_) hb)
       clear HO744
       clear HO749
       clear BK738
       clear BK739
       clear HB
       have HO744:=n0_
       have HO749:=n1_
       have BK738:=n2_
       have BK739:=n3_
       have HB:=n4_
       clear n0_ n1_ n2_ n3_ n4_
       (try clear hb)
       (try clear hb2)
       (try clear hk)
       (try clear hi)
       refine hK.out _ _ ⟨(blk_cell BK738.out 0).trans rfl,(blk_cell BK738.out 1).trans rfl,(blk_cell BK738.out 2).trans rfl⟩ (fun hHeld => ?_)
       clear hK K
       refine norm_ (a':=?_) ?_ ?_
       rotate_left
       ·show Act.put _ (some 48) _ = _
        simp only [Act.put,List.setIfInBounds_toArray,List.set_cons_zero,List.set_cons_succ,i64_w,i32_w]
        rfl
       refine pI 7 (some 49) ?_
       refine pI 8 (some 50) ?_
       refine pU 9 (some 51) ?_
       refine pU 10 (some 52) ?_
       refine pU 11 (some 53) ?_
       refine pU 12 (some 54) ?_
       refine pU 13 (some 55) ?_
       refine pU 14 (some 56) ?_
       refine pI 15 (some 57) ?_
       refine pI 16 (some 58) ?_
       refine pU 17 (some 59) ?_
       refine pU 18 (some 60) ?_
       refine pU 19 (some 61) ?_
       refine pU 20 (some 62) ?_
       refine pU 21 (some 63) ?_
       refine pI 22 (some 64) ?_
       refine pI 23 (some 65) ?_
       refine pU 24 (some 66) ?_
       refine pU 25 (some 67) ?_
       refine pU 26 (some 68) ?_
       refine pU 27 (some 69) ?_
       refine pU 28 (some 70) ?_
       refine pU 29 (some 71) ?_
       refine pU 30 (some 72) ?_
       refine pU 31 (some 73) ?_
       refine pU 32 (some 74) ?_
       refine pI 33 (some 75) ?_
       refine pI 34 (some 15) ?_
       refine done_ (done_of HT_.out (by kernel_rfl)) ?_
       try go_wp2
       go_meet
       case rel => exact ⟨_,(false),(by first|rfl|(simp;done)|(simp [*];done)),H',⟨by have:=HJ5.out;first|omega|exact Nat.le_refl _⟩,⟨by (with_reducible repeat (first|apply Kd.R_alloc|apply Kd.R_drewN|apply Kd.R_drew));exact Kd.R_mono HO749.out (fun _ hk => trivial)⟩,⟨blk_up BK738.out⟩,⟨blk_up BK739.out⟩,⟨hb_⟩⟩
     ·replace c34:=Bool.eq_false_iff.mpr c34
      subst c34
      have H1 : (hinterlandlaw06_WaterSailsLeast.j1 kj5 a2 a3 l4 t747 t750 false a0_0 a0_1 l0_2 l1_0 l1_1) = some r:=by rw [if_neg (show ¬ (false = true) by decide)] at H;exact H
      clear H
      have H:=H1
      clear H1
      have H':=Aside0.mk H
      clear H
      try go_wp2
      replace HO744:=Aside0.mk (Kd.R_drew HO744.out)
      replace HO749:=Aside0.mk (Kd.R_drew HO749.out)
      replace BK738:=Aside0.mk (blk_drew BK738.out)
      replace BK739:=Aside0.mk (blk_drew BK739.out)
      replace HB:=Aside0.mk (below_drew1 HB.out)
      refine start_ (n:=35) (S:=fun w' => w'.cell? ⟨gb738,0,none⟩ = some (.int .i64 a0_0) ∧ w'.cell? ⟨gb738,1,none⟩ = some (.int .i64 a0_1) ∧ w'.cell? ⟨gb738,2,none⟩ = some (.slice A0_2 l0_2.length c0_2)) (ds:=[]) #[false,false,false,false,false,false,false,false,false,false,false,false,false,false,false,false,false,false,false,false,false,false,false,false,false,false,false,false,false,false,false,false,false,false,false] (by kernel_rfl) rfl rfl ⟨(blk_cell BK738.out 0).trans rfl,(blk_cell BK738.out 1).trans rfl,(blk_cell BK738.out 2).trans rfl⟩ (fun hHeld => ?_);refine with_tabW hinterlandlaw06_WaterSailsLeast.tab7 hinterlandlaw06_WaterSailsLeast.bits7 (fun HT_ HW_ => ?_)
      generalize w32.drew = w58 at HO744 HO749 BK738 BK739 HB hHeld ⊢
      refine pI 1 (some 43) ?_
      refine tI3 0 (some 42) hHeld ?_
      refine oI 2 (some 44) (fun K hK => ?_)
      refine goes_ Try.func33 (by kernel_rfl) rfl #[.agg #[.int .i64 a0_0,.int .i64 a0_1,.slice A0_2 l0_2.length c0_2],.int .i64 a2] (by rfl) rfl rfl (by (try simp only [List.map_toArray,List.map_cons,List.map_nil]);first|done|rfl|(simp only [List.length_drop,List.length_take];rfl)) ?_
      with_reducible refine (hinterlandref02_Is.calls a0_0 a0_1 _ _ l0_2 a2 false _ ?side1 ?side2 A33.out).mono ?_
      (case side1 => exact Kd.C_up (Kd.C_below HR0_2.out HB.out))
      (case side2 => exact HC0_2.out)
      rintro e w59 ⟨rfl,hb⟩
      refine ⟨_,rfl,?_⟩
      have n0_:=rbw HO744 hb
      have n1_:=rbw HO749 hb
      have n2_:=bkb BK738 hb
      have n3_:=bkb BK739 hb
      have n4_:=Aside0.mk (below_step (hb_) hb)
      clear HO744
      clear HO749
      clear BK738
      clear BK739
      clear HB
      have HO744:=n0_
      have HO749:=n1_
      have BK738:=n2_
      have BK739:=n3_
      have HB:=n4_
      clear n0_ n1_ n2_ n3_ n4_
      (try clear hb)
      (try clear hb2)
      (try clear hk)
      (try clear hi)
      refine hK.out _ _ ⟨(blk_cell BK738.out 0).trans rfl,(blk_cell BK738.out 1).trans rfl,(blk_cell BK738.out 2).trans rfl⟩ (fun hHeld => ?_)
      clear hK K
      refine norm_ (a':=?_) ?_ ?_
      rotate_left
      ·show Act.put _ (some 44) _ = _
       simp only [Act.put,List.setIfInBounds_toArray,List.set_cons_zero,List.set_cons_succ,i64_w,i32_w]
       rfl
      refine pI 3 (some 45) ?_
      refine pU 4 (some 46) ?_
      refine pU 5 (some 47) ?_
      refine pU 6 (some 48) ?_
      refine pI 7 (some 49) ?_
      refine pI 8 (some 50) ?_
      refine pU 9 (some 51) ?_
      refine pU 10 (some 52) ?_
      refine pU 11 (some 53) ?_
      refine pU 12 (some 54) ?_
      refine pU 13 (some 55) ?_
      refine pU 14 (some 56) ?_
      refine pI 15 (some 57) ?_
      refine pI 16 (some 58) ?_
      refine pU 17 (some 59) ?_
      refine pU 18 (some 60) ?_
      refine pU 19 (some 61) ?_
      refine pU 20 (some 62) ?_
      refine pU 21 (some 63) ?_
      refine pI 22 (some 64) ?_
      refine pI 23 (some 65) ?_
      refine pU 24 (some 66) ?_
      refine pU 25 (some 67) ?_
      refine pU 26 (some 68) ?_
      refine pU 27 (some 69) ?_
      refine pU 28 (some 70) ?_
      refine pU 29 (some 71) ?_
      refine pU 30 (some 72) ?_
      refine pU 31 (some 73) ?_
      refine pU 32 (some 74) ?_
      refine pI 33 (some 75) ?_
      refine pI 34 (some 15) ?_
      refine done_ (done_of HT_.out (by kernel_rfl)) ?_
      try go_wp2
      go_meet
      case rel => exact ⟨_,(false),(by first|rfl|(simp;done)|(simp [*];done)),H',⟨by have:=HJ5.out;first|omega|exact Nat.le_refl _⟩,⟨by (with_reducible repeat (first|apply Kd.R_alloc|apply Kd.R_drewN|apply Kd.R_drew));exact Kd.R_mono HO749.out (fun _ hk => trivial)⟩,⟨blk_up BK738.out⟩,⟨blk_up BK739.out⟩,⟨hb_⟩⟩
    case rest =>
     clear HC25
     obtain ⟨kq,x15_24,rfl,HA,HJ24,HO_13,BK738,BK739,HB⟩:=hcut
     cases kq with
     | zero => exact absurd HA.out (by simp [hinterlandlaw06_WaterSailsLeast.j1])
     | succ kj24 =>
      have H:=HA.out
      clear HA
      simp only [hinterlandlaw06_WaterSailsLeast.j1] at H
      by_cases c60 : (x15_24 != (t750 == 0)) = true
      ·rw [if_pos c60] at H
       have c60b0 : (x15_24 != (t750 == 0)) = true:=c60
       (try (have c60b1 : decide (x15_24 = (t750 == 0)) = false:=by simpa using c60))
       (try (have c60b2 : (x15_24 == (t750 == 0)) = false:=by simpa using c60))
       (try (have c60b3 : ¬ (x15_24 = (t750 == 0)):=by simpa using c60))
       clear c60
       obtain rfl:=Option.some.inj H
       go_wp2
       go_ret
       exact ⟨by first|rfl|(simp [errW_none,errW_some] <;> rfl)|(simp [*,errW_none,errW_some] <;> rfl),hb_⟩
      rw [if_neg c60] at H
      have c60b0 : (x15_24 != (t750 == 0)) = false:=by simpa using c60
      (try (have c60b1 : decide (x15_24 = (t750 == 0)) = true:=by simpa using c60))
      (try (have c60b2 : (x15_24 == (t750 == 0)) = true:=by simpa using c60))
      clear c60
      by_cases c61 : x15_24 = true
      ·subst c61
       have H1 : (if (t747.length : Int) = 0 then (hinterlandlaw06_WaterSailsLeast.j3 kj24 a2 a3 l4 t747 true a0_0 a0_1 l0_2 l1_0 l1_1) else (if 0 < (t747.length : Int) then (if (rd t747 0) = a2 then (if 0 ≤ (wrap64 ((t747.length : Int) - 1)) then (if (wrap64 ((t747.length : Int) - 1)) < (t747.length : Int) then (if (rd t747 (wrap64 ((t747.length : Int) - 1))) = a3 then ((hinterlandlaw06_joins.f kj24 a0_0 a0_1 l0_2 l1_0 l1_1 t747).bind fun t759 => (hinterlandlaw06_WaterSailsLeast.j3 kj24 a2 a3 l4 t747 (!t759) a0_0 a0_1 l0_2 l1_0 l1_1)) else (hinterlandlaw06_WaterSailsLeast.j3 kj24 a2 a3 l4 t747 true a0_0 a0_1 l0_2 l1_0 l1_1)) else (none)) else (none)) else (hinterlandlaw06_WaterSailsLeast.j3 kj24 a2 a3 l4 t747 true a0_0 a0_1 l0_2 l1_0 l1_1)) else (none))) = some r:=by rw [if_pos rfl] at H;exact H
       clear H
       have H:=H1
       clear H1
       have HC62:=Aside0.mk H
       clear H
       go_upto_region 12 with (fail)
       go_cut [114] (fun v114 wc => ∃ (kq : Nat) (x114_61 : Bool),v114 = .bool x114_61 ∧ Aside0 (hinterlandlaw06_WaterSailsLeast.j3 kq a2 a3 l4 t747 x114_61 a0_0 a0_1 l0_2 l1_0 l1_1 = some r) ∧ Aside0 (kq ≤ kj24) ∧ Aside0 (Kd.R (Kd.int .i64) 3 wc w.heap.size (fun _ => True) v748 t747) ∧ Aside0 (wc.heap[gb738]? = some (.cells #[.int .i64 a0_0,.int .i64 a0_1,(.slice A0_2 l0_2.length c0_2)] 24 (0,0))) ∧ Aside0 (wc.heap[gb739]? = some (.cells #[(.slice A1_0 l1_0.length c1_0),(.slice A1_1 l1_1.length c1_1)] 26 (0,0))) ∧ Aside0 (Below w.heap.size w wc))
       case first =>
        have H:=HC62.out
        clear HC62
        by_cases c63 : (t747.length : Int) = 0
        ·rw [if_pos c63] at H
         have c63b0 : ((t747.length : Int) == 0) = true:=beq_iff_eq.mpr c63
         have c63b1 : ((t747.length : Int) != 0) = false:=bne_eq_false_iff_eq.mpr c63
         clear c63
         (first|rw [c63b0]|(simp only [i64_w,i32_w];rw [c63b0])|skip)
         have H':=Aside0.mk H
         clear H
         obtain ⟨Ao64,co64,eo64⟩:=Kd.R_slice HO_13.out
         subst eo64
         go_wp2
         go_meet
         case rel => exact ⟨_,(true),(by first|rfl|(simp;done)|(simp [*];done)),H',⟨by have:=HJ5.out;have:=HJ24.out;first|omega|exact Nat.le_refl _⟩,⟨Kd.R_up HO_13.out⟩,⟨blk_up BK738.out⟩,⟨blk_up BK739.out⟩,⟨hb_⟩⟩
        rw [if_neg c63] at H
        have c63b0 : ((t747.length : Int) == 0) = false:=beq_eq_false_iff_ne.mpr c63
        have c63b1 : ((t747.length : Int) != 0) = true:=bne_iff_ne.mpr c63
        have c63b2 : ¬ (t747 = []):=fun h_ => c63 (by rw [h_];rfl)
        (first|rw [c63b0]|(simp only [i64_w,i32_w];rw [c63b0])|skip)
        replace H:=ifp_ H;obtain ⟨c65,H⟩:=H
        have c65b0 : decide (0 < (t747.length : Int)) = true:=decide_eq_true c65
        have c65b1 : decide (0 < t747.length) = true:=decide_eq_true (by omega)
        clear c65
        by_cases c66 : (rd t747 0) = a2
        rotate_left
        ·rw [if_neg c66] at H
         have c66b0 : ((rd t747 0) == a2) = false:=beq_eq_false_iff_ne.mpr c66
         have c66b1 : ((rd t747 0) != a2) = true:=bne_iff_ne.mpr c66
         have H':=Aside0.mk H
         clear H
         obtain ⟨Ao78,co78,eo78⟩:=Kd.R_slice HO_13.out
         subst eo78
         have p757 : 0 ≤ (0 : Int):=(by omega)
         have q757 : 0 < (t747.length : Int):=of_decide_eq_true (by first|(with_reducible assumption)|assumption)
         obtain ⟨ad757,e757,hx757_0⟩:=Kd.at_int (Kd.R_reads' HO_13.out).2.2 0 p757 q757
         cases e757
         have qi757 : (0 < t747.length) = True:=eq_true (by omega)
         (try rw [show ((0 : Int)).toNat = 0 from rfl] at hx757_0)
         (try rw [Addr.add_zero'] at hx757_0)
         replace p757:=eq_true p757
         replace q757:=eq_true q757
         go_wp2
         go_meet
         case rel => exact ⟨_,(true),(by first|rfl|(simp;done)|(simp [*];done)),H',⟨by have:=HJ5.out;have:=HJ24.out;first|omega|exact Nat.le_refl _⟩,⟨Kd.R_up HO_13.out⟩,⟨blk_up BK738.out⟩,⟨blk_up BK739.out⟩,⟨hb_⟩⟩
        rw [if_pos c66] at H
        have c66b0 : ((rd t747 0) == a2) = true:=beq_iff_eq.mpr c66
        have c66b1 : ((rd t747 0) != a2) = false:=bne_eq_false_iff_eq.mpr c66
        clear c66
        obtain ⟨ji67,hji67⟩ : ∃ j_ : Int,(wrap64 ((t747.length : Int) - 1)) = j_:=⟨_,rfl⟩
        replace H : (if 0 ≤ (ji67) then (if (ji67) < (t747.length : Int) then (if (rd t747 (ji67)) = a3 then ((hinterlandlaw06_joins.f kj24 a0_0 a0_1 l0_2 l1_0 l1_1 t747).bind fun t759 => (hinterlandlaw06_WaterSailsLeast.j3 kj24 a2 a3 l4 t747 (!t759) a0_0 a0_1 l0_2 l1_0 l1_1)) else (hinterlandlaw06_WaterSailsLeast.j3 kj24 a2 a3 l4 t747 true a0_0 a0_1 l0_2 l1_0 l1_1)) else (none)) else (none)) = some r:=by first|(rw [hji67] at H;exact H)|(simp only [hji67] at H ⊢;exact H)
        have hji67w : (IntKind.i64.wrap ((t747.length : Int) - 1)) = ji67:=(i64_w _).trans hji67
        replace H:=ifp_ H;obtain ⟨c68,H⟩:=H
        have c68b0 : decide (0 ≤ (ji67)) = true:=decide_eq_true c68
        clear c68
        replace H:=ifp_ H;obtain ⟨c69,H⟩:=H
        have c69b0 : decide ((ji67) < (t747.length : Int)) = true:=decide_eq_true c69
        clear c69
        by_cases c70 : (rd t747 (ji67)) = a3
        ·rw [if_pos c70] at H
         have c70b0 : ((rd t747 (ji67)) == a3) = true:=beq_iff_eq.mpr c70
         have c70b1 : ((rd t747 (ji67)) != a3) = false:=bne_eq_false_iff_eq.mpr c70
         clear c70
         replace H:=Option.bind_eq_some_iff.mp H
         obtain ⟨t759,A710,H⟩:=H
         replace H : (hinterlandlaw06_WaterSailsLeast.j3 kj24 a2 a3 l4 t747 (!t759) a0_0 a0_1 l0_2 l1_0 l1_1) = some r:=H
         have A71:=Aside0.mk A710
         clear A710
         have H':=Aside0.mk H
         clear H
         obtain ⟨Ao72,co72,eo72⟩:=Kd.R_slice HO_13.out
         subst eo72
         have p757 : 0 ≤ (0 : Int):=(by omega)
         have q757 : 0 < (t747.length : Int):=of_decide_eq_true (by first|(with_reducible assumption)|assumption)
         obtain ⟨ad757,e757,hx757_0⟩:=Kd.at_int (Kd.R_reads' HO_13.out).2.2 0 p757 q757
         cases e757
         have qi757 : (0 < t747.length) = True:=eq_true (by omega)
         (try rw [show ((0 : Int)).toNat = 0 from rfl] at hx757_0)
         (try rw [Addr.add_zero'] at hx757_0)
         replace p757:=eq_true p757
         replace q757:=eq_true q757
         have p758 : 0 ≤ ((ji67) : Int):=of_decide_eq_true (by first|(with_reducible assumption)|assumption)
         have q758 : (ji67) < (t747.length : Int):=of_decide_eq_true (by first|(with_reducible assumption)|assumption)
         obtain ⟨ad758,e758,hx758_0⟩:=Kd.at_int (Kd.R_reads' HO_13.out).2.2 (ji67) p758 q758
         obtain rfl : ad757 = ad758:=(by injection e758)
         replace p758:=eq_true p758
         replace q758:=eq_true q758
         have hnb73:=NB738_739.out
         have hnc73:=NB739_738.out
         obtain ⟨hcz74_0,hcz74_1,hcz74_2,hfz74_0,hfz74_1,hfz74_2⟩:=cells3 BK738.out
         obtain ⟨hcz75_0,hcz75_1,hfz75_0,hfz75_1⟩:=cells2 BK739.out
         go_wp2_with (first|(go_at_call 34;(with_reducible refine (hinterlandlaw06_joins.calls kj24 a0_0 a0_1 _ _ l0_2 _ _ l1_0 _ _ l1_1 _ _ t747 t759 _ ?side1 ?side2 ?side3 ?side4 ?side5 ?side6 ?side7 ?side8 A71.out).mono ?_);(case side1 => exact Kd.C_up (Kd.C_below HR0_2.out HB.out));(case side2 => exact HC0_2.out);(case side3 => exact Kd.C_up (Kd.C_below HR1_0.out HB.out));(case side4 => exact HC1_0.out);(case side5 => exact Kd.C_up (Kd.C_below HR1_1.out HB.out));(case side6 => exact HC1_1.out);(case side7 => exact Kd.C_up (Kd.R_reads' HO_13.out).2.2);(case side8 => exact (Kd.R_reads' HO_13.out).2.1);rintro e w76 ⟨rfl,hb⟩;replace HO_13:=rbw HO_13 hb;replace BK738:=bkb BK738 hb;replace BK739:=bkb BK739 hb;replace HB:=Aside0.mk (below_step (hb_) hb)))
         go_meet
         case rel => exact ⟨_,(!t759),(by first|rfl|(simp;done)|(simp [*];done)),H',⟨by have:=HJ5.out;have:=HJ24.out;first|omega|exact Nat.le_refl _⟩,⟨Kd.R_up HO_13.out⟩,⟨blk_up BK738.out⟩,⟨blk_up BK739.out⟩,⟨hb_⟩⟩
        ·rw [if_neg c70] at H
         have c70b0 : ((rd t747 (ji67)) == a3) = false:=beq_eq_false_iff_ne.mpr c70
         have c70b1 : ((rd t747 (ji67)) != a3) = true:=bne_iff_ne.mpr c70
         have H':=Aside0.mk H
         clear H
         obtain ⟨Ao77,co77,eo77⟩:=Kd.R_slice HO_13.out
         subst eo77
         have p757 : 0 ≤ (0 : Int):=(by omega)
         have q757 : 0 < (t747.length : Int):=of_decide_eq_true (by first|(with_reducible assumption)|assumption)
         obtain ⟨ad757,e757,hx757_0⟩:=Kd.at_int (Kd.R_reads' HO_13.out).2.2 0 p757 q757
         cases e757
         have qi757 : (0 < t747.length) = True:=eq_true (by omega)
         (try rw [show ((0 : Int)).toNat = 0 from rfl] at hx757_0)
         (try rw [Addr.add_zero'] at hx757_0)
         replace p757:=eq_true p757
         replace q757:=eq_true q757
         have p758 : 0 ≤ ((ji67) : Int):=of_decide_eq_true (by first|(with_reducible assumption)|assumption)
         have q758 : (ji67) < (t747.length : Int):=of_decide_eq_true (by first|(with_reducible assumption)|assumption)
         obtain ⟨ad758,e758,hx758_0⟩:=Kd.at_int (Kd.R_reads' HO_13.out).2.2 (ji67) p758 q758
         obtain rfl : ad757 = ad758:=(by injection e758)
         replace p758:=eq_true p758
         replace q758:=eq_true q758
         go_wp2
         go_meet
         case rel => exact ⟨_,(true),(by first|rfl|(simp;done)|(simp [*];done)),H',⟨by have:=HJ5.out;have:=HJ24.out;first|omega|exact Nat.le_refl _⟩,⟨Kd.R_up HO_13.out⟩,⟨blk_up BK738.out⟩,⟨blk_up BK739.out⟩,⟨hb_⟩⟩
       case rest =>
        clear HC62
        obtain ⟨kq,x114_61,rfl,HA,HJ61,HO_13,BK738,BK739,HB⟩:=hcut
        cases kq with
        | zero => exact absurd HA.out (by simp [hinterlandlaw06_WaterSailsLeast.j3])
        | succ kj61 =>
         have H:=HA.out
         clear HA
         simp only [hinterlandlaw06_WaterSailsLeast.j3] at H
         by_cases c79 : x114_61 = true
         ·subst c79
          have H1 : (some false) = some r:=by rw [if_pos rfl] at H;exact H
          clear H
          have H:=H1
          clear H1
          obtain rfl:=Option.some.inj H
          go_wp2
          go_ret
          exact ⟨by first|rfl|(simp [errW_none,errW_some] <;> rfl)|(simp [*,errW_none,errW_some] <;> rfl),hb_⟩
         ·replace c79:=Bool.eq_false_iff.mpr c79
          subst c79
          have H1 : (if (l4.length : Int) > 0 then (if (l4.length : Int) < (t747.length : Int) then (if 0 < (l4.length : Int) then (if (rd l4 0) = a2 then (if 0 ≤ (wrap64 ((l4.length : Int) - 1)) then (if (wrap64 ((l4.length : Int) - 1)) < (l4.length : Int) then (if (rd l4 (wrap64 ((l4.length : Int) - 1))) = a3 then ((hinterlandlaw06_joins.f kj61 a0_0 a0_1 l0_2 l1_0 l1_1 l4).bind fun t762 => (if t762 = true then (hinterlandlaw06_WaterSailsLeast.j4 kj61 false) else ((hinterlandlaw06_known.f kj61).bind fun t763 => (hinterlandlaw06_WaterSailsLeast.j4 kj61 t763)))) else ((hinterlandlaw06_known.f kj61).bind fun t764 => (hinterlandlaw06_WaterSailsLeast.j4 kj61 t764))) else (none)) else (none)) else ((hinterlandlaw06_known.f kj61).bind fun t765 => (hinterlandlaw06_WaterSailsLeast.j4 kj61 t765))) else (none)) else ((hinterlandlaw06_known.f kj61).bind fun t766 => (hinterlandlaw06_WaterSailsLeast.j4 kj61 t766))) else ((hinterlandlaw06_known.f kj61).bind fun t767 => (hinterlandlaw06_WaterSailsLeast.j4 kj61 t767))) = some r:=by rw [if_neg (show ¬ (false = true) by decide)] at H;exact H
          clear H
          have H:=H1
          clear H1
          have HC80:=Aside0.mk H
          clear H
          go_upto_region 14 with (fail)
          go_cut [10] (fun v10 wc => ∃ (kq : Nat) (x10_79 : Bool),v10 = .bool x10_79 ∧ Aside0 (hinterlandlaw06_WaterSailsLeast.j4 kq x10_79 = some r) ∧ Aside0 (kq ≤ kj61) ∧ Aside0 (wc.heap[gb738]? = some (.cells #[.int .i64 a0_0,.int .i64 a0_1,(.slice A0_2 l0_2.length c0_2)] 24 (0,0))) ∧ Aside0 (wc.heap[gb739]? = some (.cells #[(.slice A1_0 l1_0.length c1_0),(.slice A1_1 l1_1.length c1_1)] 26 (0,0))) ∧ Aside0 (Below w.heap.size w wc))
          case first =>
           have H:=HC80.out
           clear HC80
           by_cases c81 : (l4.length : Int) > 0
           rotate_left
           ·rw [if_neg c81] at H
            have c81b0 : decide (0 < (l4.length : Int)) = false:=decide_eq_false c81
            have c81b1 : decide (0 < l4.length) = false:=decide_eq_false (by omega)
            clear c81
            (first|rw [c81b0]|(simp only [i64_w,i32_w];rw [c81b0])|skip)
            replace H:=Option.bind_eq_some_iff.mp H
            obtain ⟨t767,A1120,H⟩:=H
            replace H : (hinterlandlaw06_WaterSailsLeast.j4 kj61 t767) = some r:=H
            have A112:=Aside0.mk A1120
            clear A1120
            have H':=Aside0.mk H
            clear H
            go_wp2_with (first|(go_at_call 15;(with_reducible refine (hinterlandlaw06_known.calls kj61  t767 _ A112.out).mono ?_);rintro e w113 ⟨rfl,hb⟩;replace HO_13:=rbw HO_13 hb;replace BK738:=bkb BK738 hb;replace BK739:=bkb BK739 hb;replace HB:=Aside0.mk (below_step (hb_) hb)))
            go_meet
            case rel => exact ⟨_,(t767),(by first|rfl|(simp;done)|(simp [*];done)),H',⟨by have:=HJ5.out;have:=HJ24.out;have:=HJ61.out;first|omega|exact Nat.le_refl _⟩,⟨blk_up BK738.out⟩,⟨blk_up BK739.out⟩,⟨hb_⟩⟩
           rw [if_pos c81] at H
           have c81b0 : decide (0 < (l4.length : Int)) = true:=decide_eq_true c81
           have c81b1 : decide (0 < l4.length) = true:=decide_eq_true (by omega)
           clear c81
           (first|rw [c81b0]|(simp only [i64_w,i32_w];rw [c81b0])|skip)
           by_cases c82 : (l4.length : Int) < (t747.length : Int)
           rotate_left
           ·rw [if_neg c82] at H
            have c82b0 : decide ((l4.length : Int) < (t747.length : Int)) = false:=decide_eq_false c82
            have c82b1 : decide (l4.length < t747.length) = false:=decide_eq_false (fun h => c82 (Int.ofNat_lt.mpr h))
            clear c82
            replace H:=Option.bind_eq_some_iff.mp H
            obtain ⟨t766,A1090,H⟩:=H
            replace H : (hinterlandlaw06_WaterSailsLeast.j4 kj61 t766) = some r:=H
            have A109:=Aside0.mk A1090
            clear A1090
            have H':=Aside0.mk H
            clear H
            obtain ⟨Ao110,co110,eo110⟩:=Kd.R_slice HO_13.out
            subst eo110
            go_wp2_with (first|(go_at_call 15;(with_reducible refine (hinterlandlaw06_known.calls kj61  t766 _ A109.out).mono ?_);rintro e w111 ⟨rfl,hb⟩;replace HO_13:=rbw HO_13 hb;replace BK738:=bkb BK738 hb;replace BK739:=bkb BK739 hb;replace HB:=Aside0.mk (below_step (hb_) hb)))
            go_meet
            case rel => exact ⟨_,(t766),(by first|rfl|(simp;done)|(simp [*];done)),H',⟨by have:=HJ5.out;have:=HJ24.out;have:=HJ61.out;first|omega|exact Nat.le_refl _⟩,⟨blk_up BK738.out⟩,⟨blk_up BK739.out⟩,⟨hb_⟩⟩
           rw [if_pos c82] at H
           have c82b0 : decide ((l4.length : Int) < (t747.length : Int)) = true:=decide_eq_true c82
           have c82b1 : decide (l4.length < t747.length) = true:=decide_eq_true (Int.ofNat_lt.mp c82)
           clear c82
           replace H:=ifp_ H;obtain ⟨c83,H⟩:=H
           have c83b0 : decide (0 < (l4.length : Int)) = true:=decide_eq_true c83
           have c83b1 : decide (0 < l4.length) = true:=decide_eq_true (by omega)
           clear c83
           by_cases c84 : (rd l4 0) = a2
           rotate_left
           ·rw [if_neg c84] at H
            have c84b0 : ((rd l4 0) == a2) = false:=beq_eq_false_iff_ne.mpr c84
            have c84b1 : ((rd l4 0) != a2) = true:=bne_iff_ne.mpr c84
            replace H:=Option.bind_eq_some_iff.mp H
            obtain ⟨t765,A1060,H⟩:=H
            replace H : (hinterlandlaw06_WaterSailsLeast.j4 kj61 t765) = some r:=H
            have A106:=Aside0.mk A1060
            clear A1060
            have H':=Aside0.mk H
            clear H
            obtain ⟨Ao107,co107,eo107⟩:=Kd.R_slice HO_13.out
            subst eo107
            have p760 : 0 ≤ (0 : Int):=(by omega)
            have q760 : 0 < (l4.length : Int):=of_decide_eq_true (by first|(with_reducible assumption)|assumption)
            obtain ⟨ad760,e760,hx760_0⟩:=Kd.at_int HR4.out 0 p760 q760
            cases e760
            have qi760 : (0 < l4.length) = True:=eq_true (by omega)
            (try rw [show ((0 : Int)).toNat = 0 from rfl] at hx760_0)
            (try rw [Addr.add_zero'] at hx760_0)
            replace hx760_0:=(HB.out.cell (World.block_lt_of_cell? w _ hx760_0)).trans hx760_0
            replace p760:=eq_true p760
            replace q760:=eq_true q760
            go_wp2_with (first|(go_at_call 15;(with_reducible refine (hinterlandlaw06_known.calls kj61  t765 _ A106.out).mono ?_);rintro e w108 ⟨rfl,hb⟩;replace HO_13:=rbw HO_13 hb;replace BK738:=bkb BK738 hb;replace BK739:=bkb BK739 hb;replace HB:=Aside0.mk (below_step (hb_) hb)))
            go_meet
            case rel => exact ⟨_,(t765),(by first|rfl|(simp;done)|(simp [*];done)),H',⟨by have:=HJ5.out;have:=HJ24.out;have:=HJ61.out;first|omega|exact Nat.le_refl _⟩,⟨blk_up BK738.out⟩,⟨blk_up BK739.out⟩,⟨hb_⟩⟩
           rw [if_pos c84] at H
           have c84b0 : ((rd l4 0) == a2) = true:=beq_iff_eq.mpr c84
           have c84b1 : ((rd l4 0) != a2) = false:=bne_eq_false_iff_eq.mpr c84
           clear c84
           obtain ⟨ji85,hji85⟩ : ∃ j_ : Int,(wrap64 ((l4.length : Int) - 1)) = j_:=⟨_,rfl⟩
           replace H : (if 0 ≤ (ji85) then (if (ji85) < (l4.length : Int) then (if (rd l4 (ji85)) = a3 then ((hinterlandlaw06_joins.f kj61 a0_0 a0_1 l0_2 l1_0 l1_1 l4).bind fun t762 => (if t762 = true then (hinterlandlaw06_WaterSailsLeast.j4 kj61 false) else ((hinterlandlaw06_known.f kj61).bind fun t763 => (hinterlandlaw06_WaterSailsLeast.j4 kj61 t763)))) else ((hinterlandlaw06_known.f kj61).bind fun t764 => (hinterlandlaw06_WaterSailsLeast.j4 kj61 t764))) else (none)) else (none)) = some r:=by first|(rw [hji85] at H;exact H)|(simp only [hji85] at H ⊢;exact H)
           have hji85w : (IntKind.i64.wrap ((l4.length : Int) - 1)) = ji85:=(i64_w _).trans hji85
           replace H:=ifp_ H;obtain ⟨c86,H⟩:=H
           have c86b0 : decide (0 ≤ (ji85)) = true:=decide_eq_true c86
           clear c86
           replace H:=ifp_ H;obtain ⟨c87,H⟩:=H
           have c87b0 : decide ((ji85) < (l4.length : Int)) = true:=decide_eq_true c87
           clear c87
           by_cases c88 : (rd l4 (ji85)) = a3
           rotate_left
           ·rw [if_neg c88] at H
            have c88b0 : ((rd l4 (ji85)) == a3) = false:=beq_eq_false_iff_ne.mpr c88
            have c88b1 : ((rd l4 (ji85)) != a3) = true:=bne_iff_ne.mpr c88
            replace H:=Option.bind_eq_some_iff.mp H
            obtain ⟨t764,A1030,H⟩:=H
            replace H : (hinterlandlaw06_WaterSailsLeast.j4 kj61 t764) = some r:=H
            have A103:=Aside0.mk A1030
            clear A1030
            have H':=Aside0.mk H
            clear H
            obtain ⟨Ao104,co104,eo104⟩:=Kd.R_slice HO_13.out
            subst eo104
            have p760 : 0 ≤ (0 : Int):=(by omega)
            have q760 : 0 < (l4.length : Int):=of_decide_eq_true (by first|(with_reducible assumption)|assumption)
            obtain ⟨ad760,e760,hx760_0⟩:=Kd.at_int HR4.out 0 p760 q760
            cases e760
            have qi760 : (0 < l4.length) = True:=eq_true (by omega)
            (try rw [show ((0 : Int)).toNat = 0 from rfl] at hx760_0)
            (try rw [Addr.add_zero'] at hx760_0)
            replace hx760_0:=(HB.out.cell (World.block_lt_of_cell? w _ hx760_0)).trans hx760_0
            replace p760:=eq_true p760
            replace q760:=eq_true q760
            have p761 : 0 ≤ ((ji85) : Int):=of_decide_eq_true (by first|(with_reducible assumption)|assumption)
            have q761 : (ji85) < (l4.length : Int):=of_decide_eq_true (by first|(with_reducible assumption)|assumption)
            obtain ⟨ad761,e761,hx761_0⟩:=Kd.at_int HR4.out (ji85) p761 q761
            obtain rfl : ad760 = ad761:=(by injection e761)
            replace hx761_0:=(HB.out.cell (World.block_lt_of_cell? w _ hx761_0)).trans hx761_0
            replace p761:=eq_true p761
            replace q761:=eq_true q761
            go_wp2_with (first|(go_at_call 15;(with_reducible refine (hinterlandlaw06_known.calls kj61  t764 _ A103.out).mono ?_);rintro e w105 ⟨rfl,hb⟩;replace HO_13:=rbw HO_13 hb;replace BK738:=bkb BK738 hb;replace BK739:=bkb BK739 hb;replace HB:=Aside0.mk (below_step (hb_) hb)))
            go_meet
            case rel => exact ⟨_,(t764),(by first|rfl|(simp;done)|(simp [*];done)),H',⟨by have:=HJ5.out;have:=HJ24.out;have:=HJ61.out;first|omega|exact Nat.le_refl _⟩,⟨blk_up BK738.out⟩,⟨blk_up BK739.out⟩,⟨hb_⟩⟩
           rw [if_pos c88] at H
           have c88b0 : ((rd l4 (ji85)) == a3) = true:=beq_iff_eq.mpr c88
           have c88b1 : ((rd l4 (ji85)) != a3) = false:=bne_eq_false_iff_eq.mpr c88
           clear c88
           replace H:=Option.bind_eq_some_iff.mp H
           obtain ⟨t762,A890,H⟩:=H
           replace H : (if t762 = true then (hinterlandlaw06_WaterSailsLeast.j4 kj61 false) else ((hinterlandlaw06_known.f kj61).bind fun t763 => (hinterlandlaw06_WaterSailsLeast.j4 kj61 t763))) = some r:=H
           have A89:=Aside0.mk A890
           clear A890
           by_cases c90 : t762 = true
           ·subst c90
            have H1 : (hinterlandlaw06_WaterSailsLeast.j4 kj61 false) = some r:=by rw [if_pos rfl] at H;exact H
            clear H
            have H:=H1
            clear H1
            have H':=Aside0.mk H
            clear H
            obtain ⟨Ao91,co91,eo91⟩:=Kd.R_slice HO_13.out
            subst eo91
            have p760 : 0 ≤ (0 : Int):=(by omega)
            have q760 : 0 < (l4.length : Int):=of_decide_eq_true (by first|(with_reducible assumption)|assumption)
            obtain ⟨ad760,e760,hx760_0⟩:=Kd.at_int HR4.out 0 p760 q760
            cases e760
            have qi760 : (0 < l4.length) = True:=eq_true (by omega)
            (try rw [show ((0 : Int)).toNat = 0 from rfl] at hx760_0)
            (try rw [Addr.add_zero'] at hx760_0)
            replace hx760_0:=(HB.out.cell (World.block_lt_of_cell? w _ hx760_0)).trans hx760_0
            replace p760:=eq_true p760
            replace q760:=eq_true q760
            have p761 : 0 ≤ ((ji85) : Int):=of_decide_eq_true (by first|(with_reducible assumption)|assumption)
            have q761 : (ji85) < (l4.length : Int):=of_decide_eq_true (by first|(with_reducible assumption)|assumption)
            obtain ⟨ad761,e761,hx761_0⟩:=Kd.at_int HR4.out (ji85) p761 q761
            obtain rfl : ad760 = ad761:=(by injection e761)
            replace hx761_0:=(HB.out.cell (World.block_lt_of_cell? w _ hx761_0)).trans hx761_0
            replace p761:=eq_true p761
            replace q761:=eq_true q761
            have hnb92:=NB738_739.out
            have hnc92:=NB739_738.out
            obtain ⟨hcz93_0,hcz93_1,hcz93_2,hfz93_0,hfz93_1,hfz93_2⟩:=cells3 BK738.out
            obtain ⟨hcz94_0,hcz94_1,hfz94_0,hfz94_1⟩:=cells2 BK739.out
            go_wp2_with (first|(go_at_call 34;(with_reducible refine (hinterlandlaw06_joins.calls kj61 a0_0 a0_1 _ _ l0_2 _ _ l1_0 _ _ l1_1 _ _ l4 true _ ?side1 ?side2 ?side3 ?side4 ?side5 ?side6 ?side7 ?side8 A89.out).mono ?_);(case side1 => exact Kd.C_up (Kd.C_below HR0_2.out HB.out));(case side2 => exact HC0_2.out);(case side3 => exact Kd.C_up (Kd.C_below HR1_0.out HB.out));(case side4 => exact HC1_0.out);(case side5 => exact Kd.C_up (Kd.C_below HR1_1.out HB.out));(case side6 => exact HC1_1.out);(case side7 => exact Kd.C_up (Kd.C_below HR4.out HB.out));(case side8 => exact HC4.out);rintro e w95 ⟨rfl,hb⟩;replace HO_13:=rbw HO_13 hb;replace BK738:=bkb BK738 hb;replace BK739:=bkb BK739 hb;replace HB:=Aside0.mk (below_step (hb_) hb)))
            go_meet
            case rel => exact ⟨_,(false),(by first|rfl|(simp;done)|(simp [*];done)),H',⟨by have:=HJ5.out;have:=HJ24.out;have:=HJ61.out;first|omega|exact Nat.le_refl _⟩,⟨blk_up BK738.out⟩,⟨blk_up BK739.out⟩,⟨hb_⟩⟩
           ·replace c90:=Bool.eq_false_iff.mpr c90
            subst c90
            have H1 : ((hinterlandlaw06_known.f kj61).bind fun t763 => (hinterlandlaw06_WaterSailsLeast.j4 kj61 t763)) = some r:=by rw [if_neg (show ¬ (false = true) by decide)] at H;exact H
            clear H
            have H:=H1
            clear H1
            replace H:=Option.bind_eq_some_iff.mp H
            obtain ⟨t763,A960,H⟩:=H
            replace H : (hinterlandlaw06_WaterSailsLeast.j4 kj61 t763) = some r:=H
            have A96:=Aside0.mk A960
            clear A960
            have H':=Aside0.mk H
            clear H
            obtain ⟨Ao97,co97,eo97⟩:=Kd.R_slice HO_13.out
            subst eo97
            have p760 : 0 ≤ (0 : Int):=(by omega)
            have q760 : 0 < (l4.length : Int):=of_decide_eq_true (by first|(with_reducible assumption)|assumption)
            obtain ⟨ad760,e760,hx760_0⟩:=Kd.at_int HR4.out 0 p760 q760
            cases e760
            have qi760 : (0 < l4.length) = True:=eq_true (by omega)
            (try rw [show ((0 : Int)).toNat = 0 from rfl] at hx760_0)
            (try rw [Addr.add_zero'] at hx760_0)
            replace hx760_0:=(HB.out.cell (World.block_lt_of_cell? w _ hx760_0)).trans hx760_0
            replace p760:=eq_true p760
            replace q760:=eq_true q760
            have p761 : 0 ≤ ((ji85) : Int):=of_decide_eq_true (by first|(with_reducible assumption)|assumption)
            have q761 : (ji85) < (l4.length : Int):=of_decide_eq_true (by first|(with_reducible assumption)|assumption)
            obtain ⟨ad761,e761,hx761_0⟩:=Kd.at_int HR4.out (ji85) p761 q761
            obtain rfl : ad760 = ad761:=(by injection e761)
            replace hx761_0:=(HB.out.cell (World.block_lt_of_cell? w _ hx761_0)).trans hx761_0
            replace p761:=eq_true p761
            replace q761:=eq_true q761
            have hnb98:=NB738_739.out
            have hnc98:=NB739_738.out
            obtain ⟨hcz99_0,hcz99_1,hcz99_2,hfz99_0,hfz99_1,hfz99_2⟩:=cells3 BK738.out
            obtain ⟨hcz100_0,hcz100_1,hfz100_0,hfz100_1⟩:=cells2 BK739.out
            go_wp2_with (first|(go_at_call 34;(with_reducible refine (hinterlandlaw06_joins.calls kj61 a0_0 a0_1 _ _ l0_2 _ _ l1_0 _ _ l1_1 _ _ l4 false _ ?side1 ?side2 ?side3 ?side4 ?side5 ?side6 ?side7 ?side8 A89.out).mono ?_);(case side1 => exact Kd.C_up (Kd.C_below HR0_2.out HB.out));(case side2 => exact HC0_2.out);(case side3 => exact Kd.C_up (Kd.C_below HR1_0.out HB.out));(case side4 => exact HC1_0.out);(case side5 => exact Kd.C_up (Kd.C_below HR1_1.out HB.out));(case side6 => exact HC1_1.out);(case side7 => exact Kd.C_up (Kd.C_below HR4.out HB.out));(case side8 => exact HC4.out);rintro e w101 ⟨rfl,hb⟩;replace HO_13:=rbw HO_13 hb;replace BK738:=bkb BK738 hb;replace BK739:=bkb BK739 hb;replace HB:=Aside0.mk (below_step (hb_) hb))|(go_at_call 15;(with_reducible refine (hinterlandlaw06_known.calls kj61  t763 _ A96.out).mono ?_);rintro e w102 ⟨rfl,hb⟩;replace HO_13:=rbw HO_13 hb;replace BK738:=bkb BK738 hb;replace BK739:=bkb BK739 hb;replace HB:=Aside0.mk (below_step (hb_) hb)))
            go_meet
            case rel => exact ⟨_,(t763),(by first|rfl|(simp;done)|(simp [*];done)),H',⟨by have:=HJ5.out;have:=HJ24.out;have:=HJ61.out;first|omega|exact Nat.le_refl _⟩,⟨blk_up BK738.out⟩,⟨blk_up BK739.out⟩,⟨hb_⟩⟩
          case rest =>
           clear HC80
           obtain ⟨kq,x10_79,rfl,HA,HJ79,BK738,BK739,HB⟩:=hcut
           cases kq with
           | zero => exact absurd HA.out (by simp [hinterlandlaw06_WaterSailsLeast.j4])
           | succ kj79 =>
            have H:=HA.out
            clear HA
            simp only [hinterlandlaw06_WaterSailsLeast.j4] at H
            obtain rfl:=Option.some.inj H
            go_wp2
            go_ret
            exact ⟨by first|rfl|(simp [errW_none,errW_some] <;> rfl)|(simp [*,errW_none,errW_some] <;> rfl),hb_⟩
      ·replace c61:=Bool.eq_false_iff.mpr c61
       subst c61
       have H1 : (if (t747.length : Int) = 0 then ((hinterlandlaw06_known.f kj24).bind fun t756 => (hinterlandlaw06_WaterSailsLeast.j2 kj24 t756)) else (hinterlandlaw06_WaterSailsLeast.j2 kj24 false)) = some r:=by rw [if_neg (show ¬ (false = true) by decide)] at H;exact H
       clear H
       have H:=H1
       clear H1
       have HC114:=Aside0.mk H
       clear H
       go_upto_region 11 with (fail)
       go_cut [10] (fun v10 wc => ∃ (kq : Nat) (x10_113 : Bool),v10 = .bool x10_113 ∧ Aside0 (hinterlandlaw06_WaterSailsLeast.j2 kq x10_113 = some r) ∧ Aside0 (kq ≤ kj24) ∧ Aside0 (wc.heap[gb738]? = some (.cells #[.int .i64 a0_0,.int .i64 a0_1,(.slice A0_2 l0_2.length c0_2)] 24 (0,0))) ∧ Aside0 (wc.heap[gb739]? = some (.cells #[(.slice A1_0 l1_0.length c1_0),(.slice A1_1 l1_1.length c1_1)] 26 (0,0))) ∧ Aside0 (Below w.heap.size w wc))
       case first =>
        have H:=HC114.out
        clear HC114
        by_cases c115 : (t747.length : Int) = 0
        ·rw [if_pos c115] at H
         have c115b0 : ((t747.length : Int) == 0) = true:=beq_iff_eq.mpr c115
         have c115b1 : ((t747.length : Int) != 0) = false:=bne_eq_false_iff_eq.mpr c115
         clear c115
         (first|rw [c115b0]|(simp only [i64_w,i32_w];rw [c115b0])|skip)
         replace H:=Option.bind_eq_some_iff.mp H
         obtain ⟨t756,A1160,H⟩:=H
         replace H : (hinterlandlaw06_WaterSailsLeast.j2 kj24 t756) = some r:=H
         have A116:=Aside0.mk A1160
         clear A1160
         have H':=Aside0.mk H
         clear H
         obtain ⟨Ao117,co117,eo117⟩:=Kd.R_slice HO_13.out
         subst eo117
         go_wp2_with (first|(go_at_call 15;(with_reducible refine (hinterlandlaw06_known.calls kj24  t756 _ A116.out).mono ?_);rintro e w118 ⟨rfl,hb⟩;replace HO_13:=rbw HO_13 hb;replace BK738:=bkb BK738 hb;replace BK739:=bkb BK739 hb;replace HB:=Aside0.mk (below_step (hb_) hb)))
         go_meet
         case rel => exact ⟨_,(t756),(by first|rfl|(simp;done)|(simp [*];done)),H',⟨by have:=HJ5.out;have:=HJ24.out;first|omega|exact Nat.le_refl _⟩,⟨blk_up BK738.out⟩,⟨blk_up BK739.out⟩,⟨hb_⟩⟩
        ·rw [if_neg c115] at H
         have c115b0 : ((t747.length : Int) == 0) = false:=beq_eq_false_iff_ne.mpr c115
         have c115b1 : ((t747.length : Int) != 0) = true:=bne_iff_ne.mpr c115
         have c115b2 : ¬ (t747 = []):=fun h_ => c115 (by rw [h_];rfl)
         (first|rw [c115b0]|(simp only [i64_w,i32_w];rw [c115b0])|skip)
         have H':=Aside0.mk H
         clear H
         obtain ⟨Ao119,co119,eo119⟩:=Kd.R_slice HO_13.out
         subst eo119
         go_wp2
         go_meet
         case rel => exact ⟨_,(false),(by first|rfl|(simp;done)|(simp [*];done)),H',⟨by have:=HJ5.out;have:=HJ24.out;first|omega|exact Nat.le_refl _⟩,⟨blk_up BK738.out⟩,⟨blk_up BK739.out⟩,⟨hb_⟩⟩
       case rest =>
        clear HC114
        obtain ⟨kq,x10_113,rfl,HA,HJ113,BK738,BK739,HB⟩:=hcut
        cases kq with
        | zero => exact absurd HA.out (by simp [hinterlandlaw06_WaterSailsLeast.j2])
        | succ kj113 =>
         have H:=HA.out
         clear HA
         simp only [hinterlandlaw06_WaterSailsLeast.j2] at H
         obtain rfl:=Option.some.inj H
         go_wp2
         go_ret
         exact ⟨by first|rfl|(simp [errW_none,errW_some] <;> rfl)|(simp [*,errW_none,errW_some] <;> rfl),hb_⟩

end Go.Proofs.Ytiencnnkphipoaa.P

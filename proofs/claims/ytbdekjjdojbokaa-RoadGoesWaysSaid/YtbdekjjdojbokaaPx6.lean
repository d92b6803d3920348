/- Functions of this seat as plain Lean functions, with proofs that the Go code comes to just their answers, or what stands between them and a law's statement; no conditions. (Laid by a program of this session, out of the kit's print.) -/
import Derived.Test.YtbdekjjdojbokaaPx0
import Derived.Test.YtbdekjjdojbokaaPx1
import Derived.Test.YtbdekjjdojbokaaPx2
import Derived.Test.YtbdekjjdojbokaaPx4
import Derived.Test.YtbdekjjdojbokaaPx5
namespace Go.Proofs.Ytbdekjjdojbokaa.P
open Go.RowKit Go.Proofs.YtbdekjjdojbokaaW.PrintWords Go.Proofs.YtbdekjjdojbokaaW.PrintLast Go.Proofs.YtbdekjjdojbokaaW.PrintMore
attribute [local go_sem] max2_int min2_int max_two min_two max_three min_three max_four min_four   -- for this text's walks alone
set_option linter.unusedVariables false
set_option linter.unusedSimpArgs false

/-! ### hinterlandlaw04_RoadGoesWays: function 14 -/
mutual
def hinterlandlaw04_RoadGoesWays.j0 : Nat → Int → Int → List Int → Bool → Int → Int → List Int → List Int → Option (Bool)
 | 0,_,_,_,_,_,_,_,_ => none
 | k + 1,x1,x2,x3,x26,x187000,x187001,x187002,x187003 => if x26 = true then ((hinterlandlaw04_known.f k).bind fun t188 => (some t188)) else ((road_Go.f k x187000 x187001 x187002 x187003 x1 x2 x3).bind fun bt189 => (if bt189.2 = 0 then ((road_Parts.f k x187000 x187001 x187002 x187003).bind fun bt194 => (if (bt189.1.length : Int) = 0 then (hinterlandlaw04_RoadGoesWays.j1 k x1 bt189.1 bt194.1 true x187000 x187001 x187002 x187003) else (if 0 < (bt189.1.length : Int) then (if (rd bt189.1 0) = x1 then (if (bt189.1.length : Int) > (wrap64 ((x3.length : Int) + 1)) then (hinterlandlaw04_RoadGoesWays.j1 k x1 bt189.1 bt194.1 true x187000 x187001 x187002 x187003) else (hinterlandlaw04_RoadGoesWays.j1 k x1 bt189.1 bt194.1 ((bt194.1.length : Int) != (x187002.length : Int)) x187000 x187001 x187002 x187003)) else (hinterlandlaw04_RoadGoesWays.j1 k x1 bt189.1 bt194.1 true x187000 x187001 x187002 x187003)) else (none)))) else (if (bt189.1.length : Int) = 0 then ((hinterlandlaw04_known.f k).bind fun t193 => (some t193)) else (some false))))
def hinterlandlaw04_RoadGoesWays.j1 : Nat → Int → List Int → List Int → Bool → Int → Int → List Int → List Int → Option (Bool)
 | 0,_,_,_,_,_,_,_,_ => none
 | k + 1,x1,x9,x11,x74,x187000,x187001,x187002,x187003 => if x74 = true then (some false) else (hinterlandlaw04_RoadGoesWays.l0 k x1 x9 x11 1 x187000 x187001 x187002 x187003)
def hinterlandlaw04_RoadGoesWays.l0 : Nat → Int → List Int → List Int → Int → Int → Int → List Int → List Int → Option (Bool)
 | 0,_,_,_,_,_,_,_,_ => none
 | k + 1,x1,x9,x11,x13,x187000,x187001,x187002,x187003 => if x13 < (x9.length : Int) then (hinterlandlaw04_RoadGoesWays.l1 k x1 x9 x11 x13 false 0 x187000 x187001 x187002 x187003) else ((hinterlandlaw04_known.f k).bind fun t212 => (some t212))
def hinterlandlaw04_RoadGoesWays.l1 : Nat → Int → List Int → List Int → Int → Bool → Int → Int → Int → List Int → List Int → Option (Bool)
 | 0,_,_,_,_,_,_,_,_,_,_ => none
 | k + 1,x1,x9,x11,x13,x14,x81,x187000,x187001,x187002,x187003 => if x81 < 4 then (if 0 ≤ (wrap64 (x13 - 1)) then (if (wrap64 (x13 - 1)) < (x9.length : Int) then ((road_Joined.f k x187000 x187001 x187002 x187003 (rd x9 (wrap64 (x13 - 1))) x81).bind fun bt200 => (if bt200.2 = 0 then (if bt200.1 = true then ((hinterlandref02_Beyond.f x187000 x187001 (rd x9 (wrap64 (x13 - 1))) x81).bind fun t203 => (if 0 ≤ x13 then (if x13 < (x9.length : Int) then (hinterlandlaw04_RoadGoesWays.j4 k x1 x9 x11 x13 x14 x81 x81 (t203 == (rd x9 x13)) x187000 x187001 x187002 x187003) else (none)) else (none))) else (hinterlandlaw04_RoadGoesWays.j4 k x1 x9 x11 x13 x14 x81 x81 false x187000 x187001 x187002 x187003)) else (hinterlandlaw04_RoadGoesWays.j4 k x1 x9 x11 x13 x14 x81 x81 false x187000 x187001 x187002 x187003))) else (none)) else (none)) else (if x14 = true then (if 0 ≤ x13 then (if x13 < (x9.length : Int) then (if 0 ≤ (rd x9 x13) then (if (rd x9 x13) < (x11.length : Int) then (if 0 ≤ x1 then (if x1 < (x11.length : Int) then (hinterlandlaw04_RoadGoesWays.j5 k x1 x9 x11 x13 ((rd x11 (rd x9 x13)) != (rd x11 x1)) x187000 x187001 x187002 x187003) else (none)) else (none)) else (none)) else (none)) else (none)) else (none)) else (hinterlandlaw04_RoadGoesWays.j5 k x1 x9 x11 x13 true x187000 x187001 x187002 x187003))
def hinterlandlaw04_RoadGoesWays.j4 : Nat → Int → List Int → List Int → Int → Bool → Int → Int → Bool → Int → Int → List Int → List Int → Option (Bool)
 | 0,_,_,_,_,_,_,_,_,_,_,_,_ => none
 | k + 1,x1,x9,x11,x13,x14,x15,x81,x117,x187000,x187001,x187002,x187003 => if x117 = true then (if 0 ≤ (wrap64 (x13 - 1)) then (if (wrap64 (x13 - 1)) < (x9.length : Int) then (if 0 ≤ (rd x9 (wrap64 (x13 - 1))) then (if (rd x9 (wrap64 (x13 - 1))) < (x187003.length : Int) then (if 0 ≤ x13 then (if x13 < (x9.length : Int) then (if 0 ≤ (rd x9 x13) then (if (rd x9 x13) < (x187003.length : Int) then (if x14 = true then (hinterlandlaw04_RoadGoesWays.l1 k x1 x9 x11 x13 true (wrap64 (x81 + 1)) x187000 x187001 x187002 x187003) else (if (rd x187003 (rd x9 (wrap64 (x13 - 1)))) = 0 then (if (rd x187003 (rd x9 x13)) = 0 then (hinterlandlaw04_RoadGoesWays.l1 k x1 x9 x11 x13 true (wrap64 (x81 + 1)) x187000 x187001 x187002 x187003) else (hinterlandlaw04_RoadGoesWays.l1 k x1 x9 x11 x13 (((rd x187003 (rd x9 x13)) == 1) == (decide (x15 < 2))) (wrap64 (x81 + 1)) x187000 x187001 x187002 x187003)) else (if (((rd x187003 (rd x9 (wrap64 (x13 - 1)))) == 1) == (decide (x15 < 2))) = true then (if (rd x187003 (rd x9 x13)) = 0 then (hinterlandlaw04_RoadGoesWays.l1 k x1 x9 x11 x13 true (wrap64 (x81 + 1)) x187000 x187001 x187002 x187003) else (hinterlandlaw04_RoadGoesWays.l1 k x1 x9 x11 x13 (((rd x187003 (rd x9 x13)) == 1) == (decide (x15 < 2))) (wrap64 (x81 + 1)) x187000 x187001 x187002 x187003)) else (hinterlandlaw04_RoadGoesWays.l1 k x1 x9 x11 x13 false (wrap64 (x81 + 1)) x187000 x187001 x187002 x187003)))) else (none)) else (none)) else (none)) else (none)) else (none)) else (none)) else (none)) else (none)) else (hinterlandlaw04_RoadGoesWays.l1 k x1 x9 x11 x13 x14 (wrap64 (x81 + 1)) x187000 x187001 x187002 x187003)
def hinterlandlaw04_RoadGoesWays.j5 : Nat → Int → List Int → List Int → Int → Bool → Int → Int → List Int → List Int → Option (Bool)
 | 0,_,_,_,_,_,_,_,_,_ => none
 | k + 1,x1,x9,x11,x13,x174,x187000,x187001,x187002,x187003 => if x174 = true then (some false) else (hinterlandlaw04_RoadGoesWays.l0 k x1 x9 x11 (wrap64 (x13 + 1)) x187000 x187001 x187002 x187003)
end
def hinterlandlaw04_RoadGoesWays.f (k : Nat) (a0_0 : Int) (a0_1 : Int) (l0_2 : List Int) (l0_3 : List Int) (a1 : Int) (a2 : Int) (l3 : List Int) : Option (Bool) := (hinterlandlaw04_large.f a0_0 a0_1 l0_2 l0_3).bind fun t187 => (if t187 = true then (hinterlandlaw04_RoadGoesWays.j0 k a1 a2 l3 true a0_0 a0_1 l0_2 l0_3) else (hinterlandlaw04_RoadGoesWays.j0 k a1 a2 l3 (decide ((l3.length : Int) > 4000)) a0_0 a0_1 l0_2 l0_3))
theorem hinterlandlaw04_RoadGoesWays.mono_l : ∀ k, (∀ y0 y1 y2 y3 y4 y5 y6 y7, LeO (hinterlandlaw04_RoadGoesWays.j0 k y0 y1 y2 y3 y4 y5 y6 y7) (hinterlandlaw04_RoadGoesWays.j0 (k + 1) y0 y1 y2 y3 y4 y5 y6 y7)) ∧ (∀ y0 y1 y2 y3 y4 y5 y6 y7, LeO (hinterlandlaw04_RoadGoesWays.j1 k y0 y1 y2 y3 y4 y5 y6 y7) (hinterlandlaw04_RoadGoesWays.j1 (k + 1) y0 y1 y2 y3 y4 y5 y6 y7)) ∧ (∀ y0 y1 y2 y3 y4 y5 y6 y7, LeO (hinterlandlaw04_RoadGoesWays.l0 k y0 y1 y2 y3 y4 y5 y6 y7) (hinterlandlaw04_RoadGoesWays.l0 (k + 1) y0 y1 y2 y3 y4 y5 y6 y7)) ∧ (∀ y0 y1 y2 y3 y4 y5 y6 y7 y8 y9, LeO (hinterlandlaw04_RoadGoesWays.l1 k y0 y1 y2 y3 y4 y5 y6 y7 y8 y9) (hinterlandlaw04_RoadGoesWays.l1 (k + 1) y0 y1 y2 y3 y4 y5 y6 y7 y8 y9)) ∧ (∀ y0 y1 y2 y3 y4 y5 y6 y7 y8 y9 y10 y11, LeO (hinterlandlaw04_RoadGoesWays.j4 k y0 y1 y2 y3 y4 y5 y6 y7 y8 y9 y10 y11) (hinterlandlaw04_RoadGoesWays.j4 (k + 1) y0 y1 y2 y3 y4 y5 y6 y7 y8 y9 y10 y11)) ∧ (∀ y0 y1 y2 y3 y4 y5 y6 y7 y8, LeO (hinterlandlaw04_RoadGoesWays.j5 k y0 y1 y2 y3 y4 y5 y6 y7 y8) (hinterlandlaw04_RoadGoesWays.j5 (k + 1) y0 y1 y2 y3 y4 y5 y6 y7 y8))
 | 0 => ⟨fun _ _ _ _ _ _ _ _ r h => by simp [hinterlandlaw04_RoadGoesWays.j0] at h,fun _ _ _ _ _ _ _ _ r h => by simp [hinterlandlaw04_RoadGoesWays.j1] at h,fun _ _ _ _ _ _ _ _ r h => by simp [hinterlandlaw04_RoadGoesWays.l0] at h,fun _ _ _ _ _ _ _ _ _ _ r h => by simp [hinterlandlaw04_RoadGoesWays.l1] at h,fun _ _ _ _ _ _ _ _ _ _ _ _ r h => by simp [hinterlandlaw04_RoadGoesWays.j4] at h,fun _ _ _ _ _ _ _ _ _ r h => by simp [hinterlandlaw04_RoadGoesWays.j5] at h⟩
 | k + 1 => by
  obtain ⟨ih0,ih1,ih2,ih3,ih4,ih5⟩:=hinterlandlaw04_RoadGoesWays.mono_l k
  refine ⟨?_,?_,?_,?_,?_,?_⟩
  ·intro y0 y1 y2 y3 y4 y5 y6 y7
   unfold hinterlandlaw04_RoadGoesWays.j0
   repeat' first
   | (with_reducible exact ih0 _ _ _ _ _ _ _ _)
   | (with_reducible exact ih1 _ _ _ _ _ _ _ _)
   | (with_reducible exact ih2 _ _ _ _ _ _ _ _)
   | (with_reducible exact ih3 _ _ _ _ _ _ _ _ _ _)
   | (with_reducible exact ih4 _ _ _ _ _ _ _ _ _ _ _ _)
   | (with_reducible exact ih5 _ _ _ _ _ _ _ _ _)
   | (with_reducible exact hinterlandlaw04_known.mono _)
   | (with_reducible exact road_Go.mono _ _ _ _ _ _ _ _)
   | (with_reducible exact road_Joined.mono _ _ _ _ _ _ _)
   | (with_reducible exact road_Parts.mono _ _ _ _ _)
   | (with_reducible exact LeO.refl _)
   | (with_reducible exact LeO.none _)
   | (with_reducible refine LeO.ite ?_ ?_)
   | (with_reducible refine LeO.bind ?_ (fun _ => ?_))
   | exact ih0 _ _ _ _ _ _ _ _
   | exact ih1 _ _ _ _ _ _ _ _
   | exact ih2 _ _ _ _ _ _ _ _
   | exact ih3 _ _ _ _ _ _ _ _ _ _
   | exact ih4 _ _ _ _ _ _ _ _ _ _ _ _
   | exact ih5 _ _ _ _ _ _ _ _ _
   | exact hinterlandlaw04_known.mono _
   | exact road_Go.mono _ _ _ _ _ _ _ _
   | exact road_Joined.mono _ _ _ _ _ _ _
   | exact road_Parts.mono _ _ _ _ _
   | exact LeO.none _
   | refine LeO.ite ?_ ?_
   | refine LeO.bind ?_ (fun _ => ?_)
  ·intro y0 y1 y2 y3 y4 y5 y6 y7
   unfold hinterlandlaw04_RoadGoesWays.j1
   repeat' first
   | (with_reducible exact ih0 _ _ _ _ _ _ _ _)
   | (with_reducible exact ih1 _ _ _ _ _ _ _ _)
   | (with_reducible exact ih2 _ _ _ _ _ _ _ _)
   | (with_reducible exact ih3 _ _ _ _ _ _ _ _ _ _)
   | (with_reducible exact ih4 _ _ _ _ _ _ _ _ _ _ _ _)
   | (with_reducible exact ih5 _ _ _ _ _ _ _ _ _)
   | (with_reducible exact hinterlandlaw04_known.mono _)
   | (with_reducible exact road_Go.mono _ _ _ _ _ _ _ _)
   | (with_reducible exact road_Joined.mono _ _ _ _ _ _ _)
   | (with_reducible exact road_Parts.mono _ _ _ _ _)
   | (with_reducible exact LeO.refl _)
   | (with_reducible exact LeO.none _)
   | (with_reducible refine LeO.ite ?_ ?_)
   | (with_reducible refine LeO.bind ?_ (fun _ => ?_))
   | exact ih0 _ _ _ _ _ _ _ _
   | exact ih1 _ _ _ _ _ _ _ _
   | exact ih2 _ _ _ _ _ _ _ _
   | exact ih3 _ _ _ _ _ _ _ _ _ _
   | exact ih4 _ _ _ _ _ _ _ _ _ _ _ _
   | exact ih5 _ _ _ _ _ _ _ _ _
   | exact hinterlandlaw04_known.mono _
   | exact road_Go.mono _ _ _ _ _ _ _ _
   | exact road_Joined.mono _ _ _ _ _ _ _
   | exact road_Parts.mono _ _ _ _ _
   | exact LeO.none _
   | refine LeO.ite ?_ ?_
   | refine LeO.bind ?_ (fun _ => ?_)
  ·intro y0 y1 y2 y3 y4 y5 y6 y7
   unfold hinterlandlaw04_RoadGoesWays.l0
   repeat' first
   | (with_reducible exact ih0 _ _ _ _ _ _ _ _)
   | (with_reducible exact ih1 _ _ _ _ _ _ _ _)
   | (with_reducible exact ih2 _ _ _ _ _ _ _ _)
   | (with_reducible exact ih3 _ _ _ _ _ _ _ _ _ _)
   | (with_reducible exact ih4 _ _ _ _ _ _ _ _ _ _ _ _)
   | (with_reducible exact ih5 _ _ _ _ _ _ _ _ _)
   | (with_reducible exact hinterlandlaw04_known.mono _)
   | (with_reducible exact road_Go.mono _ _ _ _ _ _ _ _)
   | (with_reducible exact road_Joined.mono _ _ _ _ _ _ _)
   | (with_reducible exact road_Parts.mono _ _ _ _ _)
   | (with_reducible exact LeO.refl _)
   | (with_reducible exact LeO.none _)
   | (with_reducible refine LeO.ite ?_ ?_)
   | (with_reducible refine LeO.bind ?_ (fun _ => ?_))
   | exact ih0 _ _ _ _ _ _ _ _
   | exact ih1 _ _ _ _ _ _ _ _
   | exact ih2 _ _ _ _ _ _ _ _
   | exact ih3 _ _ _ _ _ _ _ _ _ _
   | exact ih4 _ _ _ _ _ _ _ _ _ _ _ _
   | exact ih5 _ _ _ _ _ _ _ _ _
   | exact hinterlandlaw04_known.mono _
   | exact road_Go.mono _ _ _ _ _ _ _ _
   | exact road_Joined.mono _ _ _ _ _ _ _
   | exact road_Parts.mono _ _ _ _ _
   | exact LeO.none _
   | refine LeO.ite ?_ ?_
   | refine LeO.bind ?_ (fun _ => ?_)
  ·intro y0 y1 y2 y3 y4 y5 y6 y7 y8 y9
   unfold hinterlandlaw04_RoadGoesWays.l1
   repeat' first
   | (with_reducible exact ih0 _ _ _ _ _ _ _ _)
   | (with_reducible exact ih1 _ _ _ _ _ _ _ _)
   | (with_reducible exact ih2 _ _ _ _ _ _ _ _)
   | (with_reducible exact ih3 _ _ _ _ _ _ _ _ _ _)
   | (with_reducible exact ih4 _ _ _ _ _ _ _ _ _ _ _ _)
   | (with_reducible exact ih5 _ _ _ _ _ _ _ _ _)
   | (with_reducible exact hinterlandlaw04_known.mono _)
   | (with_reducible exact road_Go.mono _ _ _ _ _ _ _ _)
   | (with_reducible exact road_Joined.mono _ _ _ _ _ _ _)
   | (with_reducible exact road_Parts.mono _ _ _ _ _)
   | (with_reducible exact LeO.refl _)
   | (with_reducible exact LeO.none _)
   | (with_reducible refine LeO.ite ?_ ?_)
   | (with_reducible refine LeO.bind ?_ (fun _ => ?_))
   | exact ih0 _ _ _ _ _ _ _ _
   | exact ih1 _ _ _ _ _ _ _ _
   | exact ih2 _ _ _ _ _ _ _ _
   | exact ih3 _ _ _ _ _ _ _ _ _ _
   | exact ih4 _ _ _ _ _ _ _ _ _ _ _ _
   | exact ih5 _ _ _ _ _ _ _ _ _
   | exact hinterlandlaw04_known.mono _
   | exact road_Go.mono _ _ _ _ _ _ _ _
   | exact road_Joined.mono _ _ _ _ _ _ _
   | exact road_Parts.mono _ _ _ _ _
   | exact LeO.none _
   | refine LeO.ite ?_ ?_
   | refine LeO.bind ?_ (fun _ => ?_)
  ·intro y0 y1 y2 y3 y4 y5 y6 y7 y8 y9 y10 y11
   unfold hinterlandlaw04_RoadGoesWays.j4
   repeat' first
   | (with_reducible exact ih0 _ _ _ _ _ _ _ _)
   | (with_reducible exact ih1 _ _ _ _ _ _ _ _)
   | (with_reducible exact ih2 _ _ _ _ _ _ _ _)
   | (with_reducible exact ih3 _ _ _ _ _ _ _ _ _ _)
   | (with_reducible exact ih4 _ _ _ _ _ _ _ _ _ _ _ _)
   | (with_reducible exact ih5 _ _ _ _ _ _ _ _ _)
   | (with_reducible exact hinterlandlaw04_known.mono _)
   | (with_reducible exact road_Go.mono _ _ _ _ _ _ _ _)
   | (with_reducible exact road_Joined.mono _ _ _ _ _ _ _)
   | (with_reducible exact road_Parts.mono _ _ _ _ _)
   | (with_reducible exact LeO.refl _)
   | (with_reducible exact LeO.none _)
   | (with_reducible refine LeO.ite ?_ ?_)
   | (with_reducible refine LeO.bind ?_ (fun _ => ?_))
   | exact ih0 _ _ _ _ _ _ _ _
   | exact ih1 _ _ _ _ _ _ _ _
   | exact ih2 _ _ _ _ _ _ _ _
   | exact ih3 _ _ _ _ _ _ _ _ _ _
   | exact ih4 _ _ _ _ _ _ _ _ _ _ _ _
   | exact ih5 _ _ _ _ _ _ _ _ _
   | exact hinterlandlaw04_known.mono _
   | exact road_Go.mono _ _ _ _ _ _ _ _
   | exact road_Joined.mono _ _ _ _ _ _ _
   | exact road_Parts.mono _ _ _ _ _
   | exact LeO.none _
   | refine LeO.ite ?_ ?_
   | refine LeO.bind ?_ (fun _ => ?_)
  ·intro y0 y1 y2 y3 y4 y5 y6 y7 y8
   unfold hinterlandlaw04_RoadGoesWays.j5
   repeat' first
   | (with_reducible exact ih0 _ _ _ _ _ _ _ _)
   | (with_reducible exact ih1 _ _ _ _ _ _ _ _)
   | (with_reducible exact ih2 _ _ _ _ _ _ _ _)
   | (with_reducible exact ih3 _ _ _ _ _ _ _ _ _ _)
   | (with_reducible exact ih4 _ _ _ _ _ _ _ _ _ _ _ _)
   | (with_reducible exact ih5 _ _ _ _ _ _ _ _ _)
   | (with_reducible exact hinterlandlaw04_known.mono _)
   | (with_reducible exact road_Go.mono _ _ _ _ _ _ _ _)
   | (with_reducible exact road_Joined.mono _ _ _ _ _ _ _)
   | (with_reducible exact road_Parts.mono _ _ _ _ _)
   | (with_reducible exact LeO.refl _)
   | (with_reducible exact LeO.none _)
   | (with_reducible refine LeO.ite ?_ ?_)
   | (with_reducible refine LeO.bind ?_ (fun _ => ?_))
   | exact ih0 _ _ _ _ _ _ _ _
   | exact ih1 _ _ _ _ _ _ _ _
   | exact ih2 _ _ _ _ _ _ _ _
   | exact ih3 _ _ _ _ _ _ _ _ _ _
   | exact ih4 _ _ _ _ _ _ _ _ _ _ _ _
   | exact ih5 _ _ _ _ _ _ _ _ _
   | exact hinterlandlaw04_known.mono _
   | exact road_Go.mono _ _ _ _ _ _ _ _
   | exact road_Joined.mono _ _ _ _ _ _ _
   | exact road_Parts.mono _ _ _ _ _
   | exact LeO.none _
   | refine LeO.ite ?_ ?_
   | refine LeO.bind ?_ (fun _ => ?_)
theorem hinterlandlaw04_RoadGoesWays.mono : ∀ a0 a1 a2 a3 a4 a5 a6 k, LeO (hinterlandlaw04_RoadGoesWays.f k a0 a1 a2 a3 a4 a5 a6) (hinterlandlaw04_RoadGoesWays.f (k + 1) a0 a1 a2 a3 a4 a5 a6) := by
 intro a0 a1 a2 a3 a4 a5 a6 k
 obtain ⟨ih0,ih1,ih2,ih3,ih4,ih5⟩:=hinterlandlaw04_RoadGoesWays.mono_l k
 unfold hinterlandlaw04_RoadGoesWays.f
 repeat' first
   | (with_reducible exact ih0 _ _ _ _ _ _ _ _)
   | (with_reducible exact ih1 _ _ _ _ _ _ _ _)
   | (with_reducible exact ih2 _ _ _ _ _ _ _ _)
   | (with_reducible exact ih3 _ _ _ _ _ _ _ _ _ _)
   | (with_reducible exact ih4 _ _ _ _ _ _ _ _ _ _ _ _)
   | (with_reducible exact ih5 _ _ _ _ _ _ _ _ _)
   | (with_reducible exact hinterlandlaw04_known.mono _)
   | (with_reducible exact road_Go.mono _ _ _ _ _ _ _ _)
   | (with_reducible exact road_Joined.mono _ _ _ _ _ _ _)
   | (with_reducible exact road_Parts.mono _ _ _ _ _)
   | (with_reducible exact LeO.refl _)
   | (with_reducible exact LeO.none _)
   | (with_reducible refine LeO.ite ?_ ?_)
   | (with_reducible refine LeO.bind ?_ (fun _ => ?_))
   | exact ih0 _ _ _ _ _ _ _ _
   | exact ih1 _ _ _ _ _ _ _ _
   | exact ih2 _ _ _ _ _ _ _ _
   | exact ih3 _ _ _ _ _ _ _ _ _ _
   | exact ih4 _ _ _ _ _ _ _ _ _ _ _ _
   | exact ih5 _ _ _ _ _ _ _ _ _
   | exact hinterlandlaw04_known.mono _
   | exact road_Go.mono _ _ _ _ _ _ _ _
   | exact road_Joined.mono _ _ _ _ _ _ _
   | exact road_Parts.mono _ _ _ _ _
   | exact LeO.none _
   | refine LeO.ite ?_ ?_
   | refine LeO.bind ?_ (fun _ => ?_)
def hinterlandlaw04_RoadGoesWays.T16 : Bool × List (List Nat × List Nat) := (true, [([], []), ([], []), ([], []), ([2], [2]), ([1, 3], [1, 3]), ([4], [4]), ([], []), ([0, 5, 6], [0, 5, 6]), ([7], [7]), ([8], [8]), ([8], [8]), ([9, 7, 0, 1, 2, 3, 4, 5, 6, 7, 8, 9], [9]), ([10, 11, 0, 1, 2, 3, 4, 5, 6, 7, 8, 9, 10, 11], [10])])
def hinterlandlaw04_RoadGoesWays.B16 : List Nat := [0, 0, 0, 4, 14, 30, 0, 127, 255, 511, 511, 1023, 4095]
theorem hinterlandlaw04_RoadGoesWays.tab16 : rtab .any (opsOf Try.f14 16) = hinterlandlaw04_RoadGoesWays.T16 := by kernel_rfl
theorem hinterlandlaw04_RoadGoesWays.bits16 : waitsOk hinterlandlaw04_RoadGoesWays.T16.2 hinterlandlaw04_RoadGoesWays.B16 = true := by kernel_rfl
def hinterlandlaw04_RoadGoesWays.T17 : Bool × List (List Nat × List Nat) := (true, [([], []), ([0], [0]), ([1], [1]), ([2], [2]), ([2, 3], [2, 3]), ([4, 2], [4]), ([5], [5]), ([6, 5], [5, 6]), ([5], [5]), ([8, 5], [5, 8]), ([5], [5]), ([5], [5]), ([11, 5], [5, 11]), ([10, 12, 5], [5, 10, 12]), ([13, 5], [5, 13]), ([5], [5]), ([7, 9, 14, 15, 5, 5], [5, 7, 9, 14, 15]), ([5], [5]), ([5], [5]), ([17, 18, 5], [5, 17, 18]), ([19, 5], [5, 19]), ([16, 20, 5], [5, 16, 20]), ([5, 21], [5, 21])])
def hinterlandlaw04_RoadGoesWays.B17 : List Nat := [0, 1, 3, 7, 15, 31, 63, 127, 63, 319, 63, 63, 2111, 7231, 15423, 63, 65535, 63, 63, 393279, 917567, 2097151, 4194303]
theorem hinterlandlaw04_RoadGoesWays.tab17 : rtab .any (opsOf Try.f14 17) = hinterlandlaw04_RoadGoesWays.T17 := by kernel_rfl
theorem hinterlandlaw04_RoadGoesWays.bits17 : waitsOk hinterlandlaw04_RoadGoesWays.T17.2 hinterlandlaw04_RoadGoesWays.B17 = true := by kernel_rfl
def hinterlandlaw04_RoadGoesWays.T18 : Bool × List (List Nat × List Nat) := (true, [([], []), ([0], [0]), ([], []), ([], []), ([3], [3]), ([2, 4], [2, 4]), ([5], [5]), ([1, 6], [1, 6]), ([7], [7]), ([], []), ([9], [9]), ([], []), ([], []), ([11, 12], [11, 12]), ([13], [13]), ([10, 14], [10, 14]), ([15], [15]), ([8, 0, 1, 2, 3, 4, 5, 6, 7, 8], [8]), ([16, 17, 0, 1, 2, 3, 4, 5, 6, 7, 8, 9, 10, 11, 12, 13, 14, 15, 16, 17], [16])])
def hinterlandlaw04_RoadGoesWays.B18 : List Nat := [0, 1, 0, 0, 8, 28, 60, 127, 255, 0, 512, 0, 0, 6144, 14336, 32256, 65024, 511, 262143]
theorem hinterlandlaw04_RoadGoesWays.tab18 : rtab .any (opsOf Try.f14 18) = hinterlandlaw04_RoadGoesWays.T18 := by kernel_rfl
theorem hinterlandlaw04_RoadGoesWays.bits18 : waitsOk hinterlandlaw04_RoadGoesWays.T18.2 hinterlandlaw04_RoadGoesWays.B18 = true := by kernel_rfl
def hinterlandlaw04_RoadGoesWays.T21 : Bool × List (List Nat × List Nat) := (true, [([], []), ([0], [0]), ([1], [1]), ([2], [2]), ([2], [2]), ([2], [2]), ([4, 5, 2], [2, 4, 5]), ([6, 2], [2, 6]), ([3, 7, 2], [2, 3, 7]), ([8, 2], [2, 8]), ([2], [2]), ([2], [2]), ([10, 11, 2], [2, 10, 11]), ([12, 2], [2, 12]), ([9, 13, 2], [2, 9, 13]), ([2, 14], [2, 14])])
def hinterlandlaw04_RoadGoesWays.B21 : List Nat := [0, 1, 3, 7, 7, 7, 55, 119, 255, 511, 7, 7, 3079, 7175, 16383, 32767]
theorem hinterlandlaw04_RoadGoesWays.tab21 : rtab .any (opsOf Try.f14 21) = hinterlandlaw04_RoadGoesWays.T21 := by kernel_rfl
theorem hinterlandlaw04_RoadGoesWays.bits21 : waitsOk hinterlandlaw04_RoadGoesWays.T21.2 hinterlandlaw04_RoadGoesWays.B21 = true := by kernel_rfl
set_option maxHeartbeats 8000000 in
set_option maxRecDepth 100000 in
theorem hinterlandlaw04_RoadGoesWays.calls (k : Nat) (a0_0 : Int) (a0_1 : Int) (A0_2 : Option Addr) (c0_2 : Nat) (l0_2 : List Int) (A0_3 : Option Addr) (c0_3 : Nat) (l0_3 : List Int) (a1 : Int) (a2 : Int) (A3 : Option Addr) (c3 : Nat) (l3 : List Int) (r : Bool) (w : World) (hr0_2 : Kd.C (Kd.int .i64) w A0_2 l0_2.length l0_2) (hc0_2 : l0_2.length ≤ c0_2) (hr0_3 : Kd.C (Kd.int .i64) w A0_3 l0_3.length l0_3) (hc0_3 : l0_3.length ≤ c0_3) (hr3 : Kd.C (Kd.int .i64) w A3 l3.length l3) (hc3 : l3.length ≤ c3) (h : hinterlandlaw04_RoadGoesWays.f k a0_0 a0_1 l0_2 l0_3 a1 a2 l3 = some r) :
  Calls Try.prog 14 #[.agg #[.int .i64 a0_0,.int .i64 a0_1,.slice A0_2 l0_2.length c0_2,.slice A0_3 l0_3.length c0_3],.int .i64 a1,.int .i64 a2,.slice A3 l3.length c3] w fun e w' => e = .returned (.bool r) ∧ Below w.heap.size w w':=by
 have hu24:=Try.underlying24
 have HR0_2:=Aside0.mk hr0_2
 have HC0_2:=Aside0.mk hc0_2
 clear hr0_2 hc0_2
 have HR0_3:=Aside0.mk hr0_3
 have HC0_3:=Aside0.mk hc0_3
 clear hr0_3 hc0_3
 have HR3:=Aside0.mk hr3
 have HC3:=Aside0.mk hc3
 clear hr3 hc3
 have HB:=Aside0.mk (Below.refl w.heap.size w)
 have H : ((hinterlandlaw04_large.f a0_0 a0_1 l0_2 l0_3).bind fun t187 => (if t187 = true then (hinterlandlaw04_RoadGoesWays.j0 k a1 a2 l3 true a0_0 a0_1 l0_2 l0_3) else (hinterlandlaw04_RoadGoesWays.j0 k a1 a2 l3 (decide ((l3.length : Int) > 4000)) a0_0 a0_1 l0_2 l0_3))) = some r:=h
 clear h
 have HC5:=Aside0.mk H
 clear H
 go_enter Try.func14,Try.ntmps14
 go_upto_region 1 with (first|((with_reducible refine gate_dst (N:=4) rfl ?_);(try (refine gate_guard (by rfl) ?_;dsimp only));refine box_ev (N:=4) (cs:=#[.int .i64 a0_0,.int .i64 a0_1,.slice A0_2 l0_2.length c0_2,.slice A0_3 l0_3.length c0_3]) (t:=24) ?_;intro gb186 hg w6 hbox hb;have BK186:=Aside0.mk (hbox);have GW186 : Aside0 (w.heap.size ≤ gb186):=gsz hg;have GE186:=GW186;replace HB:=Aside0.mk (below_step (hb_) hb);clear hb hbox hg))
 (try simp only [Act.put,List.setIfInBounds_toArray,List.set_cons_zero,List.set_cons_succ])
 go_cut [26] (fun v26 wc => ∃ (kq : Nat) (x26_4 : Bool),v26 = .bool x26_4 ∧ Aside0 (hinterlandlaw04_RoadGoesWays.j0 kq a1 a2 l3 x26_4 a0_0 a0_1 l0_2 l0_3 = some r) ∧ Aside0 (kq ≤ k) ∧ Aside0 (wc.heap[gb186]? = some (.cells #[.int .i64 a0_0,.int .i64 a0_1,(.slice A0_2 l0_2.length c0_2),(.slice A0_3 l0_3.length c0_3)] 24 (0,0))) ∧ Aside0 (Below w.heap.size w wc))
 case first => as_aux_lemma =>
  have H:=HC5.out
  clear HC5
  replace H:=Option.bind_eq_some_iff.mp H
  obtain ⟨t187,A70,H⟩:=H
  replace H : (if t187 = true then (hinterlandlaw04_RoadGoesWays.j0 k a1 a2 l3 true a0_0 a0_1 l0_2 l0_3) else (hinterlandlaw04_RoadGoesWays.j0 k a1 a2 l3 (decide ((l3.length : Int) > 4000)) a0_0 a0_1 l0_2 l0_3)) = some r:=H
  have A7:=Aside0.mk A70
  clear A70
  by_cases c8 : t187 = true
  ·subst c8
   have H1 : (hinterlandlaw04_RoadGoesWays.j0 k a1 a2 l3 true a0_0 a0_1 l0_2 l0_3) = some r:=by rw [if_pos rfl] at H;exact H
   clear H
   have H:=H1
   clear H1
   have H':=Aside0.mk H
   clear H
   obtain ⟨hcz9_0,hcz9_1,hcz9_2,hcz9_3,hfz9_0,hfz9_1,hfz9_2,hfz9_3⟩:=cells4 BK186.out
   go_wp2_with (first|((with_reducible refine gate_callee (f:=15) rfl ?_);refine goesL_ (some 21) rfl rfl Try.func15 (by kernel_rfl) rfl #[.agg #[.int .i64 a0_0,.int .i64 a0_1,.slice A0_2 l0_2.length c0_2,.slice A0_3 l0_3.length c0_3]] rfl (by (try simp only [List.map_toArray,List.map_cons,List.map_nil]);first|done|rfl|(simp only [List.length_drop,List.length_take];rfl)) ?_;(with_reducible refine (hinterlandlaw04_large.calls a0_0 a0_1 _ _ l0_2 _ _ l0_3 true _ ?side1 ?side2 ?side3 ?side4 A7.out).mono ?_);(case side1 => exact Kd.C_up (Kd.C_below HR0_2.out HB.out));(case side2 => exact HC0_2.out);(case side3 => exact Kd.C_up (Kd.C_below HR0_3.out HB.out));(case side4 => exact HC0_3.out);rintro e w10 ⟨rfl,hb⟩;refine ⟨_,rfl,?_⟩;replace BK186:=bkb BK186 hb;replace HB:=Aside0.mk (below_step (hb_) hb)))
   go_meet
   case rel => exact ⟨_,(true),(by first|rfl|(simp;done)|(simp [*];done)),H',⟨by first|omega|exact Nat.le_refl _⟩,⟨blk_up BK186.out⟩,⟨hb_⟩⟩
  ·replace c8:=Bool.eq_false_iff.mpr c8
   subst c8
   have H1 : (hinterlandlaw04_RoadGoesWays.j0 k a1 a2 l3 (decide ((l3.length : Int) > 4000)) a0_0 a0_1 l0_2 l0_3) = some r:=by rw [if_neg (show ¬ (false = true) by decide)] at H;exact H
   clear H
   have H:=H1
   clear H1
   have H':=Aside0.mk H
   clear H
   obtain ⟨hcz11_0,hcz11_1,hcz11_2,hcz11_3,hfz11_0,hfz11_1,hfz11_2,hfz11_3⟩:=cells4 BK186.out
   go_wp2_with (first|((with_reducible refine gate_callee (f:=15) rfl ?_);refine goesL_ (some 21) rfl rfl Try.func15 (by kernel_rfl) rfl #[.agg #[.int .i64 a0_0,.int .i64 a0_1,.slice A0_2 l0_2.length c0_2,.slice A0_3 l0_3.length c0_3]] rfl (by (try simp only [List.map_toArray,List.map_cons,List.map_nil]);first|done|rfl|(simp only [List.length_drop,List.length_take];rfl)) ?_;(with_reducible refine (hinterlandlaw04_large.calls a0_0 a0_1 _ _ l0_2 _ _ l0_3 false _ ?side1 ?side2 ?side3 ?side4 A7.out).mono ?_);(case side1 => exact Kd.C_up (Kd.C_below HR0_2.out HB.out));(case side2 => exact HC0_2.out);(case side3 => exact Kd.C_up (Kd.C_below HR0_3.out HB.out));(case side4 => exact HC0_3.out);rintro e w12 ⟨rfl,hb⟩;refine ⟨_,rfl,?_⟩;replace BK186:=bkb BK186 hb;replace HB:=Aside0.mk (below_step (hb_) hb)))
   go_meet
   case rel => exact ⟨_,(decide ((l3.length : Int) > 4000)),(by first|rfl|(simp;done)|(simp [*];done)),H',⟨by first|omega|exact Nat.le_refl _⟩,⟨blk_up BK186.out⟩,⟨hb_⟩⟩
 case rest => as_aux_lemma =>
  clear HC5
  obtain ⟨kq,x26_4,rfl,HA,HJ4,BK186,HB⟩:=hcut
  cases kq with
  | zero => exact absurd HA.out (by simp [hinterlandlaw04_RoadGoesWays.j0])
  | succ kj4 =>
   have H:=HA.out
   clear HA
   simp only [hinterlandlaw04_RoadGoesWays.j0] at H
   by_cases c13 : x26_4 = true
   ·subst c13
    have H1 : ((hinterlandlaw04_known.f kj4).bind fun t188 => (some t188)) = some r:=by rw [if_pos rfl] at H;exact H
    clear H
    have H:=H1
    clear H1
    replace H:=Option.bind_eq_some_iff.mp H
    obtain ⟨t188,A140,H⟩:=H
    replace H : (some t188) = some r:=H
    have A14:=Aside0.mk A140
    clear A140
    obtain rfl:=Option.some.inj H
    go_wp2_with (first|((with_reducible refine gate_callee (f:=16) rfl ?_);refine goesL_ (some 27) rfl rfl Try.func16 (by kernel_rfl) rfl #[] rfl (by (try simp only [List.map_toArray,List.map_cons,List.map_nil]);first|done|rfl|(simp only [List.length_drop,List.length_take];rfl)) ?_;(with_reducible refine (hinterlandlaw04_known.calls kj4  t188 _ A14.out).mono ?_);rintro e w15 ⟨rfl,hb⟩;refine ⟨_,rfl,?_⟩;replace BK186:=bkb BK186 hb;replace HB:=Aside0.mk (below_step (hb_) hb)))
    go_ret
    exact ⟨by first|rfl|(simp [errW_none,errW_some] <;> rfl)|(simp [*,errW_none,errW_some] <;> rfl),hb_⟩
   ·replace c13:=Bool.eq_false_iff.mpr c13
    subst c13
    have H1 : ((road_Go.f kj4 a0_0 a0_1 l0_2 l0_3 a1 a2 l3).bind fun bt189 => (if bt189.2 = 0 then ((road_Parts.f kj4 a0_0 a0_1 l0_2 l0_3).bind fun bt194 => (if (bt189.1.length : Int) = 0 then (hinterlandlaw04_RoadGoesWays.j1 kj4 a1 bt189.1 bt194.1 true a0_0 a0_1 l0_2 l0_3) else (if 0 < (bt189.1.length : Int) then (if (rd bt189.1 0) = a1 then (if (bt189.1.length : Int) > (wrap64 ((l3.length : Int) + 1)) then (hinterlandlaw04_RoadGoesWays.j1 kj4 a1 bt189.1 bt194.1 true a0_0 a0_1 l0_2 l0_3) else (hinterlandlaw04_RoadGoesWays.j1 kj4 a1 bt189.1 bt194.1 ((bt194.1.length : Int) != (l0_2.length : Int)) a0_0 a0_1 l0_2 l0_3)) else (hinterlandlaw04_RoadGoesWays.j1 kj4 a1 bt189.1 bt194.1 true a0_0 a0_1 l0_2 l0_3)) else (none)))) else (if (bt189.1.length : Int) = 0 then ((hinterlandlaw04_known.f kj4).bind fun t193 => (some t193)) else (some false)))) = some r:=by rw [if_neg (show ¬ (false = true) by decide)] at H;exact H
    clear H
    have H:=H1
    clear H1
    replace H:=Option.bind_eq_some_iff.mp H
    obtain ⟨⟨t189,t192⟩,A160,H⟩:=H
    replace H : (if t192 = 0 then ((road_Parts.f kj4 a0_0 a0_1 l0_2 l0_3).bind fun bt194 => (if (t189.length : Int) = 0 then (hinterlandlaw04_RoadGoesWays.j1 kj4 a1 t189 bt194.1 true a0_0 a0_1 l0_2 l0_3) else (if 0 < (t189.length : Int) then (if (rd t189 0) = a1 then (if (t189.length : Int) > (wrap64 ((l3.length : Int) + 1)) then (hinterlandlaw04_RoadGoesWays.j1 kj4 a1 t189 bt194.1 true a0_0 a0_1 l0_2 l0_3) else (hinterlandlaw04_RoadGoesWays.j1 kj4 a1 t189 bt194.1 ((bt194.1.length : Int) != (l0_2.length : Int)) a0_0 a0_1 l0_2 l0_3)) else (hinterlandlaw04_RoadGoesWays.j1 kj4 a1 t189 bt194.1 true a0_0 a0_1 l0_2 l0_3)) else (none)))) else (if (t189.length : Int) = 0 then ((hinterlandlaw04_known.f kj4).bind fun t193 => (some t193)) else (some false))) = some r:=H
    have A16:=Aside0.mk A160
    clear A160
    by_cases c17 : t192 = 0
    rotate_left
    ·rw [if_neg c17] at H
     have c17b0 : (t192 == 0) = false:=beq_eq_false_iff_ne.mpr c17
     have c17b1 : (t192 != 0) = true:=bne_iff_ne.mpr c17
     by_cases c89 : (t189.length : Int) = 0
     ·rw [if_pos c89] at H
      have c89b0 : ((t189.length : Int) == 0) = true:=beq_iff_eq.mpr c89
      have c89b1 : ((t189.length : Int) != 0) = false:=bne_eq_false_iff_eq.mpr c89
      clear c89
      replace H:=Option.bind_eq_some_iff.mp H
      obtain ⟨t193,A900,H⟩:=H
      replace H : (some t193) = some r:=H
      have A90:=Aside0.mk A900
      clear A900
      obtain rfl:=Option.some.inj H
      obtain ⟨hcz91_0,hcz91_1,hcz91_2,hcz91_3,hfz91_0,hfz91_1,hfz91_2,hfz91_3⟩:=cells4 BK186.out
      go_wp2_with (first|((with_reducible refine gate_callee (f:=34) rfl ?_);refine goesL_ (some 33) rfl rfl Try.func34 (by kernel_rfl) rfl #[.agg #[.int .i64 a0_0,.int .i64 a0_1,.slice A0_2 l0_2.length c0_2,.slice A0_3 l0_3.length c0_3],.int .i64 a1,.int .i64 a2,.slice A3 l3.length c3] rfl (by (try simp only [List.map_toArray,List.map_cons,List.map_nil]);first|done|rfl|(simp only [List.length_drop,List.length_take];rfl)) ?_;(with_reducible refine (road_Go.calls kj4 a0_0 a0_1 _ _ l0_2 _ _ l0_3 a1 a2 _ _ l3 t189 t192 _ ?side1 ?side2 ?side3 ?side4 ?side5 ?side6 A16.out).mono ?_);(case side1 => exact Kd.C_up (Kd.C_below HR0_2.out HB.out));(case side2 => exact HC0_2.out);(case side3 => exact Kd.C_up (Kd.C_below HR0_3.out HB.out));(case side4 => exact HC0_3.out);(case side5 => exact Kd.C_up (Kd.C_below HR3.out HB.out));(case side6 => exact HC3.out);rintro e w92 ⟨v190,rfl,ho0,hb⟩;refine ⟨_,rfl,?_⟩;have HO191:=rlo ho0;replace BK186:=bkb BK186 hb;replace HB:=Aside0.mk (below_step (hb_) hb);obtain ⟨Ao93,co93,eo93⟩:=Kd.R_slice HO191.out;subst eo93)|(go_at_call 16;(with_reducible refine (hinterlandlaw04_known.calls kj4  t193 _ A90.out).mono ?_);rintro e w94 ⟨rfl,hb⟩;replace HO191:=rbw HO191 hb;replace BK186:=bkb BK186 hb;replace HB:=Aside0.mk (below_step (hb_) hb)))
      go_ret
      exact ⟨by first|rfl|(simp [errW_none,errW_some] <;> rfl)|(simp [*,errW_none,errW_some] <;> rfl),hb_⟩
     ·rw [if_neg c89] at H
      have c89b0 : ((t189.length : Int) == 0) = false:=beq_eq_false_iff_ne.mpr c89
      have c89b1 : ((t189.length : Int) != 0) = true:=bne_iff_ne.mpr c89
      have c89b2 : ¬ (t189 = []):=fun h_ => c89 (by rw [h_];rfl)
      obtain rfl:=Option.some.inj H
      obtain ⟨hcz95_0,hcz95_1,hcz95_2,hcz95_3,hfz95_0,hfz95_1,hfz95_2,hfz95_3⟩:=cells4 BK186.out
      go_wp2_with (first|((with_reducible refine gate_callee (f:=34) rfl ?_);refine goesL_ (some 33) rfl rfl Try.func34 (by kernel_rfl) rfl #[.agg #[.int .i64 a0_0,.int .i64 a0_1,.slice A0_2 l0_2.length c0_2,.slice A0_3 l0_3.length c0_3],.int .i64 a1,.int .i64 a2,.slice A3 l3.length c3] rfl (by (try simp only [List.map_toArray,List.map_cons,List.map_nil]);first|done|rfl|(simp only [List.length_drop,List.length_take];rfl)) ?_;(with_reducible refine (road_Go.calls kj4 a0_0 a0_1 _ _ l0_2 _ _ l0_3 a1 a2 _ _ l3 t189 t192 _ ?side1 ?side2 ?side3 ?side4 ?side5 ?side6 A16.out).mono ?_);(case side1 => exact Kd.C_up (Kd.C_below HR0_2.out HB.out));(case side2 => exact HC0_2.out);(case side3 => exact Kd.C_up (Kd.C_below HR0_3.out HB.out));(case side4 => exact HC0_3.out);(case side5 => exact Kd.C_up (Kd.C_below HR3.out HB.out));(case side6 => exact HC3.out);rintro e w96 ⟨v190,rfl,ho0,hb⟩;refine ⟨_,rfl,?_⟩;have HO191:=rlo ho0;replace BK186:=bkb BK186 hb;replace HB:=Aside0.mk (below_step (hb_) hb);obtain ⟨Ao97,co97,eo97⟩:=Kd.R_slice HO191.out;subst eo97))
      go_ret
      exact ⟨by first|rfl|(simp [errW_none,errW_some] <;> rfl)|(simp [*,errW_none,errW_some] <;> rfl),hb_⟩
    rw [if_pos c17] at H
    have c17b0 : (t192 == 0) = true:=beq_iff_eq.mpr c17
    have c17b1 : (t192 != 0) = false:=bne_eq_false_iff_eq.mpr c17
    clear c17
    replace H:=Option.bind_eq_some_iff.mp H
    obtain ⟨⟨t194,t197⟩,A180,H⟩:=H
    replace H : (if (t189.length : Int) = 0 then (hinterlandlaw04_RoadGoesWays.j1 kj4 a1 t189 t194 true a0_0 a0_1 l0_2 l0_3) else (if 0 < (t189.length : Int) then (if (rd t189 0) = a1 then (if (t189.length : Int) > (wrap64 ((l3.length : Int) + 1)) then (hinterlandlaw04_RoadGoesWays.j1 kj4 a1 t189 t194 true a0_0 a0_1 l0_2 l0_3) else (hinterlandlaw04_RoadGoesWays.j1 kj4 a1 t189 t194 ((t194.length : Int) != (l0_2.length : Int)) a0_0 a0_1 l0_2 l0_3)) else (hinterlandlaw04_RoadGoesWays.j1 kj4 a1 t189 t194 true a0_0 a0_1 l0_2 l0_3)) else (none))) = some r:=H
    have A18:=Aside0.mk A180
    clear A180
    have HC19:=Aside0.mk H
    clear H
    obtain ⟨hcz20_0,hcz20_1,hcz20_2,hcz20_3,hfz20_0,hfz20_1,hfz20_2,hfz20_3⟩:=cells4 BK186.out
    go_upto_region 7 with (first|((with_reducible refine gate_callee (f:=34) rfl ?_);refine goesL_ (some 33) rfl rfl Try.func34 (by kernel_rfl) rfl #[.agg #[.int .i64 a0_0,.int .i64 a0_1,.slice A0_2 l0_2.length c0_2,.slice A0_3 l0_3.length c0_3],.int .i64 a1,.int .i64 a2,.slice A3 l3.length c3] rfl (by (try simp only [List.map_toArray,List.map_cons,List.map_nil]);first|done|rfl|(simp only [List.length_drop,List.length_take];rfl)) ?_;(with_reducible refine (road_Go.calls kj4 a0_0 a0_1 _ _ l0_2 _ _ l0_3 a1 a2 _ _ l3 t189 t192 _ ?side1 ?side2 ?side3 ?side4 ?side5 ?side6 A16.out).mono ?_);(case side1 => exact Kd.C_up (Kd.C_below HR0_2.out HB.out));(case side2 => exact HC0_2.out);(case side3 => exact Kd.C_up (Kd.C_below HR0_3.out HB.out));(case side4 => exact HC0_3.out);(case side5 => exact Kd.C_up (Kd.C_below HR3.out HB.out));(case side6 => exact HC3.out);rintro e w21 ⟨v190,rfl,ho0,hb⟩;refine ⟨_,rfl,?_⟩;have HO191:=rlo ho0;replace BK186:=bkb BK186 hb;replace HB:=Aside0.mk (below_step (hb_) hb);obtain ⟨hcz22_0,hcz22_1,hcz22_2,hcz22_3,hfz22_0,hfz22_1,hfz22_2,hfz22_3⟩:=cells4 BK186.out)|((with_reducible refine gate_callee (f:=36) rfl ?_);refine goesL_ (some 46) rfl rfl Try.func36 (by kernel_rfl) rfl #[.agg #[.int .i64 a0_0,.int .i64 a0_1,.slice A0_2 l0_2.length c0_2,.slice A0_3 l0_3.length c0_3]] rfl (by (try simp only [List.map_toArray,List.map_cons,List.map_nil]);first|done|rfl|(simp only [List.length_drop,List.length_take];rfl)) ?_;(with_reducible refine (road_Parts.calls kj4 a0_0 a0_1 _ _ l0_2 _ _ l0_3 t194 t197 _ ?side1 ?side2 ?side3 ?side4 A18.out).mono ?_);(case side1 => exact Kd.C_up (Kd.C_below HR0_2.out HB.out));(case side2 => exact HC0_2.out);(case side3 => exact Kd.C_up (Kd.C_below HR0_3.out HB.out));(case side4 => exact HC0_3.out);rintro e w23 ⟨v195,rfl,ho0,hb⟩;refine ⟨_,rfl,?_⟩;have HO196:=Aside0.mk (Kd.R_lower (Kd.R_new' ho0 (Kd.R_lt (Kd.R_up HO191.out))) (below_size (hb_)));replace HO191:=Aside0.mk (Kd.R_elder' (Kd.R_up HO191.out) (Kd.R_base ho0) hb);replace BK186:=bkb BK186 hb;replace HB:=Aside0.mk (below_step (hb_) hb)))
    (try simp only [Act.put,List.setIfInBounds_toArray,List.set_cons_zero,List.set_cons_succ])
    go_cut [74] (fun v74 wc => ∃ (kq : Nat) (x74_18 : Bool),v74 = .bool x74_18 ∧ Aside0 (hinterlandlaw04_RoadGoesWays.j1 kq a1 t189 t194 x74_18 a0_0 a0_1 l0_2 l0_3 = some r) ∧ Aside0 (kq ≤ kj4) ∧ Aside0 (Kd.R (Kd.int .i64) 3 wc w.heap.size (fun k_ => some k_ ≠ (v195 : Value).ownBlock) v190 t189) ∧ Aside0 (Kd.R (Kd.int .i64) 3 wc w.heap.size (fun k_ => some k_ ≠ (v190 : Value).ownBlock) v195 t194) ∧ Aside0 (wc.heap[gb186]? = some (.cells #[.int .i64 a0_0,.int .i64 a0_1,(.slice A0_2 l0_2.length c0_2),(.slice A0_3 l0_3.length c0_3)] 24 (0,0))) ∧ Aside0 (Below w.heap.size w wc))
    case first => as_aux_lemma =>
     have H:=HC19.out
     clear HC19
     by_cases c24 : (t189.length : Int) = 0
     ·rw [if_pos c24] at H
      have c24b0 : ((t189.length : Int) == 0) = true:=beq_iff_eq.mpr c24
      have c24b1 : ((t189.length : Int) != 0) = false:=bne_eq_false_iff_eq.mpr c24
      clear c24
      (first|rw [c24b0]|(simp only [i64_w,i32_w];rw [c24b0])|skip)
      have H':=Aside0.mk H
      clear H
      obtain ⟨Ao25,co25,eo25⟩:=Kd.R_slice HO191.out
      subst eo25
      go_wp2
      go_meet
      case rel => exact ⟨_,(true),(by first|rfl|(simp;done)|(simp [*];done)),H',⟨by have:=HJ4.out;first|omega|exact Nat.le_refl _⟩,⟨by (with_reducible repeat (first|apply Kd.R_alloc|apply Kd.R_drewN|apply Kd.R_drew));exact Kd.R_mono HO191.out (fun _ hk => hk.2)⟩,⟨by (with_reducible repeat (first|apply Kd.R_alloc|apply Kd.R_drewN|apply Kd.R_drew));exact Kd.R_mono HO196.out (fun _ hk => hk.2)⟩,⟨blk_up BK186.out⟩,⟨hb_⟩⟩
     rw [if_neg c24] at H
     have c24b0 : ((t189.length : Int) == 0) = false:=beq_eq_false_iff_ne.mpr c24
     have c24b1 : ((t189.length : Int) != 0) = true:=bne_iff_ne.mpr c24
     have c24b2 : ¬ (t189 = []):=fun h_ => c24 (by rw [h_];rfl)
     (first|rw [c24b0]|(simp only [i64_w,i32_w];rw [c24b0])|skip)
     replace H:=ifp_ H;obtain ⟨c26,H⟩:=H
     have c26b0 : decide (0 < (t189.length : Int)) = true:=decide_eq_true c26
     have c26b1 : decide (0 < t189.length) = true:=decide_eq_true (by omega)
     clear c26
     by_cases c27 : (rd t189 0) = a1
     rotate_left
     ·rw [if_neg c27] at H
      have c27b0 : ((rd t189 0) == a1) = false:=beq_eq_false_iff_ne.mpr c27
      have c27b1 : ((rd t189 0) != a1) = true:=bne_iff_ne.mpr c27
      have H':=Aside0.mk H
      clear H
      obtain ⟨Ao33,co33,eo33⟩:=Kd.R_slice HO191.out
      subst eo33
      have p198 : 0 ≤ (0 : Int):=(by omega)
      have q198 : 0 < (t189.length : Int):=of_decide_eq_true (by first|(with_reducible assumption)|assumption)
      obtain ⟨ad198,e198,hx198_0⟩:=Kd.at_int (Kd.R_reads' HO191.out).2.2 0 p198 q198
      cases e198
      have qi198 : (0 < t189.length) = True:=eq_true (by omega)
      (try rw [show ((0 : Int)).toNat = 0 from rfl] at hx198_0)
      (try rw [Addr.add_zero'] at hx198_0)
      replace p198:=eq_true p198
      replace q198:=eq_true q198
      go_wp2
      go_meet
      case rel => exact ⟨_,(true),(by first|rfl|(simp;done)|(simp [*];done)),H',⟨by have:=HJ4.out;first|omega|exact Nat.le_refl _⟩,⟨by (with_reducible repeat (first|apply Kd.R_alloc|apply Kd.R_drewN|apply Kd.R_drew));exact Kd.R_mono HO191.out (fun _ hk => hk.2)⟩,⟨by (with_reducible repeat (first|apply Kd.R_alloc|apply Kd.R_drewN|apply Kd.R_drew));exact Kd.R_mono HO196.out (fun _ hk => hk.2)⟩,⟨blk_up BK186.out⟩,⟨hb_⟩⟩
     rw [if_pos c27] at H
     have c27b0 : ((rd t189 0) == a1) = true:=beq_iff_eq.mpr c27
     have c27b1 : ((rd t189 0) != a1) = false:=bne_eq_false_iff_eq.mpr c27
     clear c27
     by_cases c28 : (t189.length : Int) > (wrap64 ((l3.length : Int) + 1))
     ·rw [if_pos c28] at H
      have c28b0 : decide ((wrap64 ((l3.length : Int) + 1)) < (t189.length : Int)) = true:=decide_eq_true c28
      clear c28
      have H':=Aside0.mk H
      clear H
      obtain ⟨Ao29,co29,eo29⟩:=Kd.R_slice HO191.out
      subst eo29
      have p198 : 0 ≤ (0 : Int):=(by omega)
      have q198 : 0 < (t189.length : Int):=of_decide_eq_true (by first|(with_reducible assumption)|assumption)
      obtain ⟨ad198,e198,hx198_0⟩:=Kd.at_int (Kd.R_reads' HO191.out).2.2 0 p198 q198
      cases e198
      have qi198 : (0 < t189.length) = True:=eq_true (by omega)
      (try rw [show ((0 : Int)).toNat = 0 from rfl] at hx198_0)
      (try rw [Addr.add_zero'] at hx198_0)
      replace p198:=eq_true p198
      replace q198:=eq_true q198
      go_wp2
      go_meet
      case rel => exact ⟨_,(true),(by first|rfl|(simp;done)|(simp [*];done)),H',⟨by have:=HJ4.out;first|omega|exact Nat.le_refl _⟩,⟨by (with_reducible repeat (first|apply Kd.R_alloc|apply Kd.R_drewN|apply Kd.R_drew));exact Kd.R_mono HO191.out (fun _ hk => hk.2)⟩,⟨by (with_reducible repeat (first|apply Kd.R_alloc|apply Kd.R_drewN|apply Kd.R_drew));exact Kd.R_mono HO196.out (fun _ hk => hk.2)⟩,⟨blk_up BK186.out⟩,⟨hb_⟩⟩
     ·rw [if_neg c28] at H
      have c28b0 : decide ((wrap64 ((l3.length : Int) + 1)) < (t189.length : Int)) = false:=decide_eq_false c28
      clear c28
      have H':=Aside0.mk H
      clear H
      obtain ⟨Ao30,co30,eo30⟩:=Kd.R_slice HO191.out
      subst eo30
      have p198 : 0 ≤ (0 : Int):=(by omega)
      have q198 : 0 < (t189.length : Int):=of_decide_eq_true (by first|(with_reducible assumption)|assumption)
      obtain ⟨ad198,e198,hx198_0⟩:=Kd.at_int (Kd.R_reads' HO191.out).2.2 0 p198 q198
      cases e198
      have qi198 : (0 < t189.length) = True:=eq_true (by omega)
      (try rw [show ((0 : Int)).toNat = 0 from rfl] at hx198_0)
      (try rw [Addr.add_zero'] at hx198_0)
      replace p198:=eq_true p198
      replace q198:=eq_true q198
      obtain ⟨Ao31,co31,eo31⟩:=Kd.R_slice HO196.out
      subst eo31
      obtain ⟨hcz32_0,hcz32_1,hcz32_2,hcz32_3,hfz32_0,hfz32_1,hfz32_2,hfz32_3⟩:=cells4 BK186.out
      go_wp2
      go_meet
      case rel => exact ⟨_,(((t194.length : Int) != (l0_2.length : Int))),(by first|rfl|(simp;done)|(simp [*];done)),H',⟨by have:=HJ4.out;first|omega|exact Nat.le_refl _⟩,⟨by (with_reducible repeat (first|apply Kd.R_alloc|apply Kd.R_drewN|apply Kd.R_drew));exact Kd.R_mono HO191.out (fun _ hk => hk.2)⟩,⟨by (with_reducible repeat (first|apply Kd.R_alloc|apply Kd.R_drewN|apply Kd.R_drew));exact Kd.R_mono HO196.out (fun _ hk => hk.2)⟩,⟨blk_up BK186.out⟩,⟨hb_⟩⟩
    case rest => as_aux_lemma =>
     clear HC19
     obtain ⟨kq,x74_18,rfl,HA,HJ18,HO_9,HO_11,BK186,HB⟩:=hcut
     cases kq with
     | zero => exact absurd HA.out (by simp [hinterlandlaw04_RoadGoesWays.j1])
     | succ kj18 =>
      have H:=HA.out
      clear HA
      simp only [hinterlandlaw04_RoadGoesWays.j1] at H
      by_cases c34 : x74_18 = true
      ·subst c34
       have H1 : (some false) = some r:=by rw [if_pos rfl] at H;exact H
       clear H
       have H:=H1
       clear H1
       obtain rfl:=Option.some.inj H
       go_wp2
       go_ret
       exact ⟨by first|rfl|(simp [errW_none,errW_some] <;> rfl)|(simp [*,errW_none,errW_some] <;> rfl),hb_⟩
      ·replace c34:=Bool.eq_false_iff.mpr c34
       subst c34
       have H1 : (hinterlandlaw04_RoadGoesWays.l0 kj18 a1 t189 t194 1 a0_0 a0_1 l0_2 l0_3) = some r:=by rw [if_neg (show ¬ (false = true) by decide)] at H;exact H
       clear H
       have H:=H1
       clear H1
       have H':=Aside0.mk H
       clear H
       go_wp2
       go_loopg [13] kj18 (fun kq v13 w' => ∃ (x13_3 : Int),v13 = .int .i64 x13_3 ∧ Aside0 (hinterlandlaw04_RoadGoesWays.l0 kq a1 t189 t194 x13_3 a0_0 a0_1 l0_2 l0_3 = some r) ∧ Aside0 (kq ≤ kj18) ∧ Aside0 (Kd.R (Kd.int .i64) 3 w' w.heap.size (fun k_ => some k_ ≠ (v195 : Value).ownBlock) v190 t189) ∧ Aside0 (Kd.R (Kd.int .i64) 3 w' w.heap.size (fun k_ => some k_ ≠ (v190 : Value).ownBlock) v195 t194) ∧ Aside0 (w'.heap[gb186]? = some (.cells #[.int .i64 a0_0,.int .i64 a0_1,(.slice A0_2 l0_2.length c0_2),(.slice A0_3 l0_3.length c0_3)] 24 (0,0))) ∧ Aside0 (Below w.heap.size w w'))
       case atStart => exact ⟨(1),(by first|rfl|(simp;done)|(simp [*];done)),H',⟨Nat.le_refl _⟩,⟨Kd.R_up HO_9.out⟩,⟨Kd.R_up HO_11.out⟩,⟨blk_up BK186.out⟩,⟨hb_⟩⟩
       case round =>
        clear H'
        obtain ⟨x13_3,rfl,HA,HK3,HO_9,HO_11,BK186,HB⟩:=hrel
        cases gk with
        | zero => exact absurd HA.out (by simp [hinterlandlaw04_RoadGoesWays.l0])
        | succ k3 =>
         have H:=HA.out
         clear HA
         simp only [hinterlandlaw04_RoadGoesWays.l0] at H
         by_cases c35 : x13_3 < (t189.length : Int)
         rotate_left
         ·rw [if_neg c35] at H
          have c35b0 : decide (x13_3 < (t189.length : Int)) = false:=decide_eq_false c35
          clear c35
          replace H:=Option.bind_eq_some_iff.mp H
          obtain ⟨t212,A860,H⟩:=H
          replace H : (some t212) = some r:=H
          have A86:=Aside0.mk A860
          clear A860
          obtain rfl:=Option.some.inj H
          obtain ⟨Ao87,co87,eo87⟩:=Kd.R_slice HO_9.out
          subst eo87
          go_wp2_with (first|((with_reducible refine gate_callee (f:=16) rfl ?_);refine goesL_ (some 175) rfl rfl Try.func16 (by kernel_rfl) rfl #[] rfl (by (try simp only [List.map_toArray,List.map_cons,List.map_nil]);first|done|rfl|(simp only [List.length_drop,List.length_take];rfl)) ?_;(with_reducible refine (hinterlandlaw04_known.calls k3  t212 _ A86.out).mono ?_);rintro e w88 ⟨rfl,hb⟩;refine ⟨_,rfl,?_⟩;replace HO_9:=rbw HO_9 hb;replace HO_11:=rbw HO_11 hb;replace BK186:=bkb BK186 hb;replace HB:=Aside0.mk (below_step (hb_) hb)))
          go_ret
          exact ⟨by first|rfl|(simp [errW_none,errW_some] <;> rfl)|(simp [*,errW_none,errW_some] <;> rfl),hb_⟩
         rw [if_pos c35] at H
         have c35b0 : decide (x13_3 < (t189.length : Int)) = true:=decide_eq_true c35
         clear c35
         have H':=Aside0.mk H
         clear H
         obtain ⟨Ao36,co36,eo36⟩:=Kd.R_slice HO_9.out
         subst eo36
         go_wp2
         go_loopg [14,81] k3 (fun kq v14 v81 w' => ∃ (x14_4 : Bool) (x81_4 : Int),v14 = .bool x14_4 ∧ v81 = .int .i64 x81_4 ∧ Aside0 (hinterlandlaw04_RoadGoesWays.l1 kq a1 t189 t194 x13_3 x14_4 x81_4 a0_0 a0_1 l0_2 l0_3 = some r) ∧ Aside0 (kq ≤ k3) ∧ Aside0 (Kd.R (Kd.int .i64) 3 w' w.heap.size (fun k_ => some k_ ≠ (v195 : Value).ownBlock) (.slice Ao36 t189.length co36) t189) ∧ Aside0 (Kd.R (Kd.int .i64) 3 w' w.heap.size (fun k_ => some k_ ≠ ((.slice Ao36 t189.length co36) : Value).ownBlock) v195 t194) ∧ Aside0 (w'.heap[gb186]? = some (.cells #[.int .i64 a0_0,.int .i64 a0_1,(.slice A0_2 l0_2.length c0_2),(.slice A0_3 l0_3.length c0_3)] 24 (0,0))) ∧ Aside0 (Below w.heap.size w w'))
         case atStart => exact ⟨(false),(0),(by first|rfl|(simp;done)|(simp [*];done)),(by first|rfl|(simp;done)|(simp [*];done)),H',⟨Nat.le_refl _⟩,⟨Kd.R_up HO_9.out⟩,⟨Kd.R_up HO_11.out⟩,⟨blk_up BK186.out⟩,⟨hb_⟩⟩
         case round =>
          clear H'
          obtain ⟨x14_4,x81_4,rfl,rfl,HA,HK4,HO_9,HO_11,BK186,HB⟩:=hrel
          cases gk with
          | zero => exact absurd HA.out (by simp [hinterlandlaw04_RoadGoesWays.l1])
          | succ k4 =>
           have H:=HA.out
           clear HA
           simp only [hinterlandlaw04_RoadGoesWays.l1] at H
           by_cases c37 : x81_4 < 4
           rotate_left
           ·rw [if_neg c37] at H
            have c37b0 : decide (x81_4 < 4) = false:=decide_eq_false c37
            clear c37
            have HC74:=Aside0.mk H
            clear H
            go_upto_region 21 with (fail)
            go_cut [174] (fun v174 wc => ∃ (kq : Nat) (x174_73 : Bool),v174 = .bool x174_73 ∧ Aside0 (hinterlandlaw04_RoadGoesWays.j5 kq a1 t189 t194 x13_3 x174_73 a0_0 a0_1 l0_2 l0_3 = some r) ∧ Aside0 (kq ≤ k4) ∧ Aside0 (Kd.R (Kd.int .i64) 3 wc w.heap.size (fun k_ => some k_ ≠ (v195 : Value).ownBlock) (.slice Ao36 t189.length co36) t189) ∧ Aside0 (Kd.R (Kd.int .i64) 3 wc w.heap.size (fun k_ => some k_ ≠ ((.slice Ao36 t189.length co36) : Value).ownBlock) v195 t194) ∧ Aside0 (wc.heap[gb186]? = some (.cells #[.int .i64 a0_0,.int .i64 a0_1,(.slice A0_2 l0_2.length c0_2),(.slice A0_3 l0_3.length c0_3)] 24 (0,0))) ∧ Aside0 (Below w.heap.size w wc))
            case first => as_aux_lemma =>
             have H:=HC74.out
             clear HC74
             by_cases c75 : x14_4 = true
             ·subst c75
              have H1 : (if 0 ≤ x13_3 then (if x13_3 < (t189.length : Int) then (if 0 ≤ (rd t189 x13_3) then (if (rd t189 x13_3) < (t194.length : Int) then (if 0 ≤ a1 then (if a1 < (t194.length : Int) then (hinterlandlaw04_RoadGoesWays.j5 k4 a1 t189 t194 x13_3 ((rd t194 (rd t189 x13_3)) != (rd t194 a1)) a0_0 a0_1 l0_2 l0_3) else (none)) else (none)) else (none)) else (none)) else (none)) else (none)) = some r:=by rw [if_pos rfl] at H;exact H
              clear H
              have H:=H1
              clear H1
              replace H:=ifp_ H;obtain ⟨c76,H⟩:=H
              have c76b0 : decide (0 ≤ x13_3) = true:=decide_eq_true c76
              clear c76
              (first|rw [c76b0]|(simp only [i64_w,i32_w];rw [c76b0])|skip)
              replace H:=ifp_ H;obtain ⟨c77,H⟩:=H
              have c77b0 : decide (x13_3 < (t189.length : Int)) = true:=decide_eq_true c77
              clear c77
              replace H:=ifp_ H;obtain ⟨c78,H⟩:=H
              have c78b0 : decide (0 ≤ (rd t189 x13_3)) = true:=decide_eq_true c78
              clear c78
              replace H:=ifp_ H;obtain ⟨c79,H⟩:=H
              have c79b0 : decide ((rd t189 x13_3) < (t194.length : Int)) = true:=decide_eq_true c79
              clear c79
              replace H:=ifp_ H;obtain ⟨c80,H⟩:=H
              have c80b0 : decide (0 ≤ a1) = true:=decide_eq_true c80
              clear c80
              replace H:=ifp_ H;obtain ⟨c81,H⟩:=H
              have c81b0 : decide (a1 < (t194.length : Int)) = true:=decide_eq_true c81
              clear c81
              have H':=Aside0.mk H
              clear H
              try go_wp2
              replace HO_9:=Aside0.mk (Kd.R_drew HO_9.out)
              replace HO_11:=Aside0.mk (Kd.R_drew HO_11.out)
              replace BK186:=Aside0.mk (blk_drew BK186.out)
              replace HB:=Aside0.mk (below_drew1 HB.out)
              have p209 : 0 ≤ (x13_3 : Int):=of_decide_eq_true (by first|(with_reducible assumption)|assumption)
              have q209 : x13_3 < (t189.length : Int):=of_decide_eq_true (by first|(with_reducible assumption)|assumption)
              obtain ⟨ad209,e209,hx209_0⟩:=Kd.at_int (Kd.R_reads' HO_9.out).2.2 x13_3 p209 q209
              cases e209
              replace p209:=eq_true p209
              replace q209:=eq_true q209
              obtain ⟨Ao83,co83,eo83⟩:=Kd.R_slice HO_11.out
              (first|subst eo83|(injection eo83 with f1_ f2_ f3_;have f4_:=f1_.symm;have f5_:=f3_.symm;clear f1_ f2_ f3_;subst f4_;subst f5_))
              have p210 : 0 ≤ ((rd t189 x13_3) : Int):=of_decide_eq_true (by first|(with_reducible assumption)|assumption)
              have q210 : (rd t189 x13_3) < (t194.length : Int):=of_decide_eq_true (by first|(with_reducible assumption)|assumption)
              obtain ⟨ad210,e210,hx210_0⟩:=Kd.at_int (Kd.R_reads' HO_11.out).2.2 (rd t189 x13_3) p210 q210
              cases e210
              replace p210:=eq_true p210
              replace q210:=eq_true q210
              have p211 : 0 ≤ (a1 : Int):=of_decide_eq_true (by first|(with_reducible assumption)|assumption)
              have q211 : a1 < (t194.length : Int):=of_decide_eq_true (by first|(with_reducible assumption)|assumption)
              obtain ⟨ad211,e211,hx211_0⟩:=Kd.at_int (Kd.R_reads' HO_11.out).2.2 a1 p211 q211
              obtain rfl : ad210 = ad211:=(by injection e211)
              replace p211:=eq_true p211
              replace q211:=eq_true q211
              refine start_ (n:=16) (S:=fun w' => w'.cell? (ad209.add (x13_3).toNat) = some (.int .i64 (rd t189 x13_3)) ∧ w'.cell? (ad210.add ((rd t189 x13_3)).toNat) = some (.int .i64 (rd t194 (rd t189 x13_3))) ∧ w'.cell? (ad210.add (a1).toNat) = some (.int .i64 (rd t194 a1))) (ds:=[]) #[false,false,false,false,false,false,false,false,false,false,false,false,false,false,false,false] (by kernel_rfl) rfl rfl ⟨hx209_0,hx210_0,hx211_0⟩ (fun hHeld => ?_);refine with_tabW hinterlandlaw04_RoadGoesWays.tab21 hinterlandlaw04_RoadGoesWays.bits21 (fun HT_ HW_ => ?_)
              generalize wr.drew = w82 at HO_9 HO_11 BK186 HB hx209_0 hx210_0 hx211_0 hHeld ⊢
              refine pI 0 (some 159) ?_
              refine pI 1 (some 160) ?_
              refine pI 2 (some 161) ?_
              refine pI 3 (some 162) ?_
              refine pI 4 (some 163) ?_
              refine pI 5 (some 164) ?_
              refine pI 6 (some 165) ?_
              refine pI 10 (some 169) ?_
              refine pI 11 (some 170) ?_
              refine pI 12 (some 171) ?_
              refine tI3 7 (some 166) hHeld ?_
              refine pI 8 (some 167) ?_
              refine tI3 9 (some 168) hHeld ?_
              refine tI3 13 (some 172) hHeld ?_
              refine pI 14 (some 173) ?_
              refine pI 15 (some 174) ?_
              refine done_ (done_of HT_.out (by kernel_rfl)) ?_
              try go_wp2
              go_meet
              case rel => exact ⟨_,(((rd t194 (rd t189 x13_3)) != (rd t194 a1))),(by first|rfl|(simp;done)|(simp [*];done)),H',⟨by have:=HJ4.out;have:=HJ18.out;have:=HK3.out;have:=HK4.out;first|omega|exact Nat.le_refl _⟩,⟨Kd.R_up HO_9.out⟩,⟨Kd.R_up HO_11.out⟩,⟨blk_up BK186.out⟩,⟨hb_⟩⟩
             ·replace c75:=Bool.eq_false_iff.mpr c75
              subst c75
              have H1 : (hinterlandlaw04_RoadGoesWays.j5 k4 a1 t189 t194 x13_3 true a0_0 a0_1 l0_2 l0_3) = some r:=by rw [if_neg (show ¬ (false = true) by decide)] at H;exact H
              clear H
              have H:=H1
              clear H1
              have H':=Aside0.mk H
              clear H
              try go_wp2
              replace HO_9:=Aside0.mk (Kd.R_drew HO_9.out)
              replace HO_11:=Aside0.mk (Kd.R_drew HO_11.out)
              replace BK186:=Aside0.mk (blk_drew BK186.out)
              replace HB:=Aside0.mk (below_drew1 HB.out)
              refine start_ (n:=16) (S:=fun w' => True) (ds:=[]) #[false,false,false,false,false,false,false,false,false,false,false,false,false,false,false,false] (by kernel_rfl) rfl rfl trivial (fun hHeld => ?_);refine with_tabW hinterlandlaw04_RoadGoesWays.tab21 hinterlandlaw04_RoadGoesWays.bits21 (fun HT_ HW_ => ?_)
              generalize wr.drew = w84 at HO_9 HO_11 BK186 HB hHeld ⊢
              refine pI 0 (some 159) ?_
              refine pI 1 (some 160) ?_
              refine pI 2 (some 161) ?_
              refine pU 3 (some 162) ?_
              refine pU 4 (some 163) ?_
              refine pU 5 (some 164) ?_
              refine pU 6 (some 165) ?_
              refine pU 7 (some 166) ?_
              refine pU 8 (some 167) ?_
              refine pU 9 (some 168) ?_
              refine pU 10 (some 169) ?_
              refine pU 11 (some 170) ?_
              refine pU 12 (some 171) ?_
              refine pU 13 (some 172) ?_
              refine pU 14 (some 173) ?_
              refine pI 15 (some 174) ?_
              refine done_ (done_of HT_.out (by kernel_rfl)) ?_
              try go_wp2
              go_meet
              case rel => exact ⟨_,(true),(by first|rfl|(simp;done)|(simp [*];done)),H',⟨by have:=HJ4.out;have:=HJ18.out;have:=HK3.out;have:=HK4.out;first|omega|exact Nat.le_refl _⟩,⟨Kd.R_up HO_9.out⟩,⟨Kd.R_up HO_11.out⟩,⟨blk_up BK186.out⟩,⟨hb_⟩⟩
            case rest => as_aux_lemma =>
             clear HC74
             obtain ⟨kq,x174_73,rfl,HA,HJ73,HO_9,HO_11,BK186,HB⟩:=hcut
             cases kq with
             | zero => exact absurd HA.out (by simp [hinterlandlaw04_RoadGoesWays.j5])
             | succ kj73 =>
              have H:=HA.out
              clear HA
              simp only [hinterlandlaw04_RoadGoesWays.j5] at H
              by_cases c85 : x174_73 = true
              ·subst c85
               have H1 : (some false) = some r:=by rw [if_pos rfl] at H;exact H
               clear H
               have H:=H1
               clear H1
               obtain rfl:=Option.some.inj H
               go_wp2
               go_ret
               exact ⟨by first|rfl|(simp [errW_none,errW_some] <;> rfl)|(simp [*,errW_none,errW_some] <;> rfl),hb_⟩
              ·replace c85:=Bool.eq_false_iff.mpr c85
               subst c85
               have H1 : (hinterlandlaw04_RoadGoesWays.l0 kj73 a1 t189 t194 (wrap64 (x13_3 + 1)) a0_0 a0_1 l0_2 l0_3) = some r:=by rw [if_neg (show ¬ (false = true) by decide)] at H;exact H
               clear H
               have H:=H1
               clear H1
               have H':=Aside0.mk H
               clear H
               go_wp2
               go_roundg kj73
               case measure => have:=HJ4.out;have:=HJ18.out;have:=HK3.out;have:=HK4.out;have:=HJ73.out;omega
               case rel => exact ⟨(wrap64 (x13_3 + 1)),(by first|rfl|(simp;done)|(simp [*];done)),H',⟨by have:=HJ4.out;have:=HJ18.out;have:=HK3.out;have:=HK4.out;have:=HJ73.out;omega⟩,⟨Kd.R_up HO_9.out⟩,⟨Kd.R_up HO_11.out⟩,⟨blk_up BK186.out⟩,⟨hb_⟩⟩
           rw [if_pos c37] at H
           have c37b0 : decide (x81_4 < 4) = true:=decide_eq_true c37
           clear c37
           obtain ⟨ji38,hji38⟩ : ∃ j_ : Int,(wrap64 (x13_3 - 1)) = j_:=⟨_,rfl⟩
           replace H : (if 0 ≤ (ji38) then (if (ji38) < (t189.length : Int) then ((road_Joined.f k4 a0_0 a0_1 l0_2 l0_3 (rd t189 (ji38)) x81_4).bind fun bt200 => (if bt200.2 = 0 then (if bt200.1 = true then ((hinterlandref02_Beyond.f a0_0 a0_1 (rd t189 (ji38)) x81_4).bind fun t203 => (if 0 ≤ x13_3 then (if x13_3 < (t189.length : Int) then (hinterlandlaw04_RoadGoesWays.j4 k4 a1 t189 t194 x13_3 x14_4 x81_4 x81_4 (t203 == (rd t189 x13_3)) a0_0 a0_1 l0_2 l0_3) else (none)) else (none))) else (hinterlandlaw04_RoadGoesWays.j4 k4 a1 t189 t194 x13_3 x14_4 x81_4 x81_4 false a0_0 a0_1 l0_2 l0_3)) else (hinterlandlaw04_RoadGoesWays.j4 k4 a1 t189 t194 x13_3 x14_4 x81_4 x81_4 false a0_0 a0_1 l0_2 l0_3))) else (none)) else (none)) = some r:=by first|(rw [hji38] at H;exact H)|(simp only [hji38] at H ⊢;exact H)
           have hji38w : (IntKind.i64.wrap (x13_3 - 1)) = ji38:=(i64_w _).trans hji38
           replace H:=ifp_ H;obtain ⟨c39,H⟩:=H
           have c39b0 : decide (0 ≤ (ji38)) = true:=decide_eq_true c39
           clear c39
           replace H:=ifp_ H;obtain ⟨c40,H⟩:=H
           have c40b0 : decide ((ji38) < (t189.length : Int)) = true:=decide_eq_true c40
           clear c40
           replace H:=Option.bind_eq_some_iff.mp H
           obtain ⟨⟨t200,t201⟩,A410,H⟩:=H
           replace H : (if t201 = 0 then (if t200 = true then ((hinterlandref02_Beyond.f a0_0 a0_1 (rd t189 (ji38)) x81_4).bind fun t203 => (if 0 ≤ x13_3 then (if x13_3 < (t189.length : Int) then (hinterlandlaw04_RoadGoesWays.j4 k4 a1 t189 t194 x13_3 x14_4 x81_4 x81_4 (t203 == (rd t189 x13_3)) a0_0 a0_1 l0_2 l0_3) else (none)) else (none))) else (hinterlandlaw04_RoadGoesWays.j4 k4 a1 t189 t194 x13_3 x14_4 x81_4 x81_4 false a0_0 a0_1 l0_2 l0_3)) else (hinterlandlaw04_RoadGoesWays.j4 k4 a1 t189 t194 x13_3 x14_4 x81_4 x81_4 false a0_0 a0_1 l0_2 l0_3)) = some r:=H
           have A41:=Aside0.mk A410
           clear A410
           have HC42:=Aside0.mk H
           clear H
           try go_wp2
           replace HO_9:=Aside0.mk (Kd.R_drew HO_9.out)
           replace HO_11:=Aside0.mk (Kd.R_drew HO_11.out)
           replace BK186:=Aside0.mk (blk_drew BK186.out)
           replace HB:=Aside0.mk (below_drew1 HB.out)
           have p199 : 0 ≤ ((ji38) : Int):=of_decide_eq_true (by first|(with_reducible assumption)|assumption)
           have q199 : (ji38) < (t189.length : Int):=of_decide_eq_true (by first|(with_reducible assumption)|assumption)
           obtain ⟨ad199,e199,hx199_0⟩:=Kd.at_int (Kd.R_reads' HO_9.out).2.2 (ji38) p199 q199
           cases e199
           replace p199:=eq_true p199
           replace q199:=eq_true q199
           refine start_ (n:=13) (S:=fun w' => w'.cell? ⟨gb186,0,none⟩ = some (.int .i64 a0_0) ∧ w'.cell? ⟨gb186,1,none⟩ = some (.int .i64 a0_1) ∧ w'.cell? ⟨gb186,2,none⟩ = some (.slice A0_2 l0_2.length c0_2) ∧ w'.cell? ⟨gb186,3,none⟩ = some (.slice A0_3 l0_3.length c0_3) ∧ w'.cell? (ad199.add ((ji38)).toNat) = some (.int .i64 (rd t189 (ji38)))) (ds:=[]) #[false,false,false,false,false,false,false,false,false,false,false,false,false] (by kernel_rfl) rfl rfl ⟨(blk_cell BK186.out 0).trans rfl,(blk_cell BK186.out 1).trans rfl,(blk_cell BK186.out 2).trans rfl,(blk_cell BK186.out 3).trans rfl,hx199_0⟩ (fun hHeld => ?_);refine with_tabW hinterlandlaw04_RoadGoesWays.tab16 hinterlandlaw04_RoadGoesWays.bits16 (fun HT_ HW_ => ?_)
           generalize wr.drew = w43 at HO_9 HO_11 BK186 HB hx199_0 hHeld ⊢
           refine pI 1 (some 86) ?_
           refine pI 2 (some 87) ?_
           refine pI 3 (some 88) ?_
           refine pI 4 (some 89) ?_
           refine pI 6 (some 91) ?_
           refine tI5 0 (some 85) hHeld ?_
           refine tI5 5 (some 90) hHeld ?_
           refine oI 7 (some 92) (fun K hK => ?_)
           refine goes_ Try.func19 (by kernel_rfl) rfl #[.agg #[.int .i64 a0_0,.int .i64 a0_1,.slice A0_2 l0_2.length c0_2,.slice A0_3 l0_3.length c0_3],.int .i64 (rd t189 (ji38)),.int .i64 x81_4] (by rfl) rfl rfl (by (try simp only [List.map_toArray,List.map_cons,List.map_nil]);first|done|(simp only [hji38];rfl)|rfl|(simp only [List.length_drop,List.length_take];rfl)) ?_
           with_reducible refine (road_Joined.calls k4 a0_0 a0_1 _ _ l0_2 _ _ l0_3 (rd t189 (ji38)) x81_4 t200 t201 _ ?side1 ?side2 ?side3 ?side4 A41.out).mono ?_
           (case side1 => exact Kd.C_up (Kd.C_below HR0_2.out HB.out))
           (case side2 => exact HC0_2.out)
           (case side3 => exact Kd.C_up (Kd.C_below HR0_3.out HB.out))
           (case side4 => exact HC0_3.out)
           rintro e w44 ⟨rfl,hb⟩
           have HS4_:=(hb.cell (World.block_lt_of_cell? _ _ (hHeld.2.2.2.2))).trans (hHeld.2.2.2.2)
           refine ⟨_,rfl,?_⟩
           have n0_:=rbw HO_9 hb
           have n1_:=rbw HO_11 hb
           have n2_:=bkb BK186 hb
           have n3_:=Aside0.mk (below_step (hb_) hb)
           clear HO_9
           clear HO_11
           clear BK186
           clear HB
           have HO_9:=n0_
           have HO_11:=n1_
           have BK186:=n2_
           have HB:=n3_
           clear n0_ n1_ n2_ n3_
           (try clear hb)
           (try clear hb2)
           (try clear hk)
           (try clear hi)
           refine hK.out _ _ ⟨(blk_cell BK186.out 0).trans rfl,(blk_cell BK186.out 1).trans rfl,(blk_cell BK186.out 2).trans rfl,(blk_cell BK186.out 3).trans rfl,HS4_⟩ (fun hHeld => ?_)
           clear hK K
           refine norm_ (a':=?_) ?_ ?_
           rotate_left
           ·show Act.put _ (some 92) _ = _
            simp only [Act.put,List.setIfInBounds_toArray,List.set_cons_zero,List.set_cons_succ,i64_w,i32_w]
            rfl
           refine pI 8 (some 84) ?_
           refine pI 9 (some 93) ?_
           refine pI 10 (some 94) ?_
           refine pI 11 (some 16) ?_
           refine pI 12 (some 17) ?_
           refine done_ (done_of HT_.out (by kernel_rfl)) ?_
           go_upto_region 17 with (fail)
           go_cut [117] (fun v117 wc => ∃ (kq : Nat) (x117_41 : Bool),v117 = .bool x117_41 ∧ Aside0 (hinterlandlaw04_RoadGoesWays.j4 kq a1 t189 t194 x13_3 x14_4 x81_4 x81_4 x117_41 a0_0 a0_1 l0_2 l0_3 = some r) ∧ Aside0 (kq ≤ k4) ∧ Aside0 (Kd.R (Kd.int .i64) 3 wc w.heap.size (fun k_ => some k_ ≠ (v195 : Value).ownBlock) (.slice (some ad199) t189.length co36) t189) ∧ Aside0 (Kd.R (Kd.int .i64) 3 wc w.heap.size (fun k_ => some k_ ≠ ((.slice (some ad199) t189.length co36) : Value).ownBlock) v195 t194) ∧ Aside0 (wc.heap[gb186]? = some (.cells #[.int .i64 a0_0,.int .i64 a0_1,(.slice A0_2 l0_2.length c0_2),(.slice A0_3 l0_3.length c0_3)] 24 (0,0))) ∧ Aside0 (Below w.heap.size w wc))
           case first => as_aux_lemma =>
            have H:=HC42.out
            clear HC42
            by_cases c45 : t201 = 0
            rotate_left
            ·rw [if_neg c45] at H
             have c45b0 : (t201 == 0) = false:=beq_eq_false_iff_ne.mpr c45
             have c45b1 : (t201 != 0) = true:=bne_iff_ne.mpr c45
             (first|rw [c45b0]|(simp only [i64_w,i32_w];rw [c45b0])|skip)
             have H':=Aside0.mk H
             clear H
             try go_wp2
             replace HO_9:=Aside0.mk (Kd.R_drew HO_9.out)
             replace HO_11:=Aside0.mk (Kd.R_drew HO_11.out)
             replace BK186:=Aside0.mk (blk_drew BK186.out)
             replace HB:=Aside0.mk (below_drew1 HB.out)
             refine start_ (n:=23) (S:=fun w' => True) (ds:=[]) #[false,false,false,false,false,false,false,false,false,false,false,false,false,false,false,false,false,false,false,false,false,false,false] (by kernel_rfl) rfl rfl trivial (fun hHeld => ?_);refine with_tabW hinterlandlaw04_RoadGoesWays.tab17 hinterlandlaw04_RoadGoesWays.bits17 (fun HT_ HW_ => ?_)
             generalize w44.drew = w52 at HO_9 HO_11 BK186 HB hHeld ⊢
             refine pI 0 (some 95) ?_
             refine pI 1 (some 96) ?_
             refine pI 2 (some 97) ?_
             refine pU 3 (some 98) ?_
             refine pI 4 (some 99) ?_
             refine pI 5 (some 100) ?_
             refine pU 6 (some 101) ?_
             refine pU 7 (some 102) ?_
             refine pU 8 (some 103) ?_
             refine pU 9 (some 104) ?_
             refine pU 10 (some 105) ?_
             refine pU 11 (some 106) ?_
             refine pU 12 (some 107) ?_
             refine pU 13 (some 108) ?_
             refine pU 14 (some 109) ?_
             refine pU 15 (some 110) ?_
             refine pU 16 (some 111) ?_
             refine pU 17 (some 112) ?_
             refine pU 18 (some 113) ?_
             refine pU 19 (some 114) ?_
             refine pU 20 (some 115) ?_
             refine pU 21 (some 116) ?_
             refine pI 22 (some 117) ?_
             refine done_ (done_of HT_.out (by kernel_rfl)) ?_
             try go_wp2
             go_meet
             case rel => exact ⟨_,(false),(by first|rfl|(simp;done)|(simp [*];done)),H',⟨by have:=HJ4.out;have:=HJ18.out;have:=HK3.out;have:=HK4.out;first|omega|exact Nat.le_refl _⟩,⟨Kd.R_up HO_9.out⟩,⟨Kd.R_up HO_11.out⟩,⟨blk_up BK186.out⟩,⟨hb_⟩⟩
            rw [if_pos c45] at H
            have c45b0 : (t201 == 0) = true:=beq_iff_eq.mpr c45
            have c45b1 : (t201 != 0) = false:=bne_eq_false_iff_eq.mpr c45
            clear c45
            (first|rw [c45b0]|(simp only [i64_w,i32_w];rw [c45b0])|skip)
            by_cases c46 : t200 = true
            ·subst c46
             have H1 : ((hinterlandref02_Beyond.f a0_0 a0_1 (rd t189 (ji38)) x81_4).bind fun t203 => (if 0 ≤ x13_3 then (if x13_3 < (t189.length : Int) then (hinterlandlaw04_RoadGoesWays.j4 k4 a1 t189 t194 x13_3 x14_4 x81_4 x81_4 (t203 == (rd t189 x13_3)) a0_0 a0_1 l0_2 l0_3) else (none)) else (none))) = some r:=by rw [if_pos rfl] at H;exact H
             clear H
             have H:=H1
             clear H1
             replace H:=Option.bind_eq_some_iff.mp H
             obtain ⟨t203,A470,H⟩:=H
             replace H : (if 0 ≤ x13_3 then (if x13_3 < (t189.length : Int) then (hinterlandlaw04_RoadGoesWays.j4 k4 a1 t189 t194 x13_3 x14_4 x81_4 x81_4 (t203 == (rd t189 x13_3)) a0_0 a0_1 l0_2 l0_3) else (none)) else (none)) = some r:=H
             have A47:=Aside0.mk A470
             clear A470
             replace H:=ifp_ H;obtain ⟨c48,H⟩:=H
             have c48b0 : decide (0 ≤ x13_3) = true:=decide_eq_true c48
             clear c48
             replace H:=ifp_ H;obtain ⟨c49,H⟩:=H
             have c49b0 : decide (x13_3 < (t189.length : Int)) = true:=decide_eq_true c49
             clear c49
             have H':=Aside0.mk H
             clear H
             try go_wp2
             replace HO_9:=Aside0.mk (Kd.R_drew HO_9.out)
             replace HO_11:=Aside0.mk (Kd.R_drew HO_11.out)
             replace BK186:=Aside0.mk (blk_drew BK186.out)
             replace HB:=Aside0.mk (below_drew1 HB.out)
             have p202 : 0 ≤ ((ji38) : Int):=of_decide_eq_true (by first|(with_reducible assumption)|assumption)
             have q202 : (ji38) < (t189.length : Int):=of_decide_eq_true (by first|(with_reducible assumption)|assumption)
             obtain ⟨ad202,e202,hx202_0⟩:=Kd.at_int (Kd.R_reads' HO_9.out).2.2 (ji38) p202 q202
             obtain rfl : ad199 = ad202:=(by injection e202)
             replace p202:=eq_true p202
             replace q202:=eq_true q202
             have p204 : 0 ≤ (x13_3 : Int):=of_decide_eq_true (by first|(with_reducible assumption)|assumption)
             have q204 : x13_3 < (t189.length : Int):=of_decide_eq_true (by first|(with_reducible assumption)|assumption)
             obtain ⟨ad204,e204,hx204_0⟩:=Kd.at_int (Kd.R_reads' HO_9.out).2.2 x13_3 p204 q204
             obtain rfl : ad199 = ad204:=(by injection e204)
             replace p204:=eq_true p204
             replace q204:=eq_true q204
             refine start_ (n:=23) (S:=fun w' => w'.cell? ⟨gb186,0,none⟩ = some (.int .i64 a0_0) ∧ w'.cell? ⟨gb186,1,none⟩ = some (.int .i64 a0_1) ∧ w'.cell? ⟨gb186,2,none⟩ = some (.slice A0_2 l0_2.length c0_2) ∧ w'.cell? ⟨gb186,3,none⟩ = some (.slice A0_3 l0_3.length c0_3) ∧ w'.cell? (ad199.add ((ji38)).toNat) = some (.int .i64 (rd t189 (ji38))) ∧ w'.cell? (ad199.add (x13_3).toNat) = some (.int .i64 (rd t189 x13_3))) (ds:=[]) #[false,false,false,false,false,false,false,false,false,false,false,false,false,false,false,false,false,false,false,false,false,false,false] (by kernel_rfl) rfl rfl ⟨(blk_cell BK186.out 0).trans rfl,(blk_cell BK186.out 1).trans rfl,(blk_cell BK186.out 2).trans rfl,(blk_cell BK186.out 3).trans rfl,hx202_0,hx204_0⟩ (fun hHeld => ?_);refine with_tabW hinterlandlaw04_RoadGoesWays.tab17 hinterlandlaw04_RoadGoesWays.bits17 (fun HT_ HW_ => ?_)
             generalize w44.drew = w50 at HO_9 HO_11 BK186 HB hx202_0 hx204_0 hHeld ⊢
             refine pI 0 (some 95) ?_
             refine pI 1 (some 96) ?_
             refine pI 2 (some 97) ?_
             refine pI 3 (some 98) ?_
             refine pI 4 (some 99) ?_
             refine pI 5 (some 100) ?_
             refine pI 6 (some 101) ?_
             refine pI 8 (some 103) ?_
             refine pI 10 (some 105) ?_
             refine pI 11 (some 106) ?_
             refine pI 12 (some 107) ?_
             refine pI 13 (some 108) ?_
             refine pI 15 (some 110) ?_
             refine pI 17 (some 112) ?_
             refine pI 18 (some 113) ?_
             refine pI 19 (some 114) ?_
             refine tI6 7 (some 102) hHeld ?_
             refine tI6 9 (some 104) hHeld ?_
             refine tI6 14 (some 109) hHeld ?_
             refine tI6 20 (some 115) hHeld ?_
             refine oI 16 (some 111) (fun K hK => ?_)
             refine goes_ Try.func21 (by kernel_rfl) rfl #[.int .i64 a0_0,.int .i64 a0_1,.int .i64 (rd t189 (ji38)),.int .i64 x81_4] (by rfl) rfl rfl (by (try simp only [List.map_toArray,List.map_cons,List.map_nil]);first|done|(simp only [hji38];rfl)|rfl|(simp only [List.length_drop,List.length_take];rfl)) ?_
             with_reducible refine (hinterlandref02_Beyond.calls a0_0 a0_1 (rd t189 (ji38)) x81_4 t203 _ A47.out).mono ?_
             rintro e w' ⟨rfl,⟨nd,rfl⟩⟩
             refine ⟨_,rfl,?_⟩
             refine hK.out _ _ ⟨(blk_cell BK186.out 0).trans rfl,(blk_cell BK186.out 1).trans rfl,(blk_cell BK186.out 2).trans rfl,(blk_cell BK186.out 3).trans rfl,hHeld.2.2.2.2.1,hHeld.2.2.2.2.2⟩ (fun hHeld => ?_)
             clear hK K
             refine norm_ (a':=?_) ?_ ?_
             rotate_left
             ·show Act.put _ (some 111) _ = _
              simp only [Act.put,List.setIfInBounds_toArray,List.set_cons_zero,List.set_cons_succ,i64_w,i32_w]
              rfl
             refine pI 21 (some 116) ?_
             refine pI 22 (some 117) ?_
             refine done_ (done_of HT_.out (by kernel_rfl)) ?_
             try go_wp2
             go_meet
             case rel => exact ⟨_,((t203 == (rd t189 x13_3))),(by first|rfl|(simp;done)|(simp [*];done)),H',⟨by have:=HJ4.out;have:=HJ18.out;have:=HK3.out;have:=HK4.out;first|omega|exact Nat.le_refl _⟩,⟨Kd.R_up HO_9.out⟩,⟨Kd.R_up HO_11.out⟩,⟨blk_up BK186.out⟩,⟨hb_⟩⟩
            ·replace c46:=Bool.eq_false_iff.mpr c46
             subst c46
             have H1 : (hinterlandlaw04_RoadGoesWays.j4 k4 a1 t189 t194 x13_3 x14_4 x81_4 x81_4 false a0_0 a0_1 l0_2 l0_3) = some r:=by rw [if_neg (show ¬ (false = true) by decide)] at H;exact H
             clear H
             have H:=H1
             clear H1
             have H':=Aside0.mk H
             clear H
             try go_wp2
             replace HO_9:=Aside0.mk (Kd.R_drew HO_9.out)
             replace HO_11:=Aside0.mk (Kd.R_drew HO_11.out)
             replace BK186:=Aside0.mk (blk_drew BK186.out)
             replace HB:=Aside0.mk (below_drew1 HB.out)
             refine start_ (n:=23) (S:=fun w' => True) (ds:=[]) #[false,false,false,false,false,false,false,false,false,false,false,false,false,false,false,false,false,false,false,false,false,false,false] (by kernel_rfl) rfl rfl trivial (fun hHeld => ?_);refine with_tabW hinterlandlaw04_RoadGoesWays.tab17 hinterlandlaw04_RoadGoesWays.bits17 (fun HT_ HW_ => ?_)
             generalize w44.drew = w51 at HO_9 HO_11 BK186 HB hHeld ⊢
             refine pI 0 (some 95) ?_
             refine pI 1 (some 96) ?_
             refine pI 2 (some 97) ?_
             refine pI 3 (some 98) ?_
             refine pI 4 (some 99) ?_
             refine pI 5 (some 100) ?_
             refine pU 6 (some 101) ?_
             refine pU 7 (some 102) ?_
             refine pU 8 (some 103) ?_
             refine pU 9 (some 104) ?_
             refine pU 10 (some 105) ?_
             refine pU 11 (some 106) ?_
             refine pU 12 (some 107) ?_
             refine pU 13 (some 108) ?_
             refine pU 14 (some 109) ?_
             refine pU 15 (some 110) ?_
             refine pU 16 (some 111) ?_
             refine pU 17 (some 112) ?_
             refine pU 18 (some 113) ?_
             refine pU 19 (some 114) ?_
             refine pU 20 (some 115) ?_
             refine pU 21 (some 116) ?_
             refine pI 22 (some 117) ?_
             refine done_ (done_of HT_.out (by kernel_rfl)) ?_
             try go_wp2
             go_meet
             case rel => exact ⟨_,(false),(by first|rfl|(simp;done)|(simp [*];done)),H',⟨by have:=HJ4.out;have:=HJ18.out;have:=HK3.out;have:=HK4.out;first|omega|exact Nat.le_refl _⟩,⟨Kd.R_up HO_9.out⟩,⟨Kd.R_up HO_11.out⟩,⟨blk_up BK186.out⟩,⟨hb_⟩⟩
           case rest => as_aux_lemma =>
            clear HC42
            obtain ⟨kq,x117_41,rfl,HA,HJ41,HO_9,HO_11,BK186,HB⟩:=hcut
            cases kq with
            | zero => exact absurd HA.out (by simp [hinterlandlaw04_RoadGoesWays.j4])
            | succ kj41 =>
             have H:=HA.out
             clear HA
             simp only [hinterlandlaw04_RoadGoesWays.j4] at H
             by_cases c53 : x117_41 = true
             ·subst c53
              have H1 : (if 0 ≤ (wrap64 (x13_3 - 1)) then (if (wrap64 (x13_3 - 1)) < (t189.length : Int) then (if 0 ≤ (rd t189 (wrap64 (x13_3 - 1))) then (if (rd t189 (wrap64 (x13_3 - 1))) < (l0_3.length : Int) then (if 0 ≤ x13_3 then (if x13_3 < (t189.length : Int) then (if 0 ≤ (rd t189 x13_3) then (if (rd t189 x13_3) < (l0_3.length : Int) then (if x14_4 = true then (hinterlandlaw04_RoadGoesWays.l1 kj41 a1 t189 t194 x13_3 true (wrap64 (x81_4 + 1)) a0_0 a0_1 l0_2 l0_3) else (if (rd l0_3 (rd t189 (wrap64 (x13_3 - 1)))) = 0 then (if (rd l0_3 (rd t189 x13_3)) = 0 then (hinterlandlaw04_RoadGoesWays.l1 kj41 a1 t189 t194 x13_3 true (wrap64 (x81_4 + 1)) a0_0 a0_1 l0_2 l0_3) else (hinterlandlaw04_RoadGoesWays.l1 kj41 a1 t189 t194 x13_3 (((rd l0_3 (rd t189 x13_3)) == 1) == (decide (x81_4 < 2))) (wrap64 (x81_4 + 1)) a0_0 a0_1 l0_2 l0_3)) else (if (((rd l0_3 (rd t189 (wrap64 (x13_3 - 1)))) == 1) == (decide (x81_4 < 2))) = true then (if (rd l0_3 (rd t189 x13_3)) = 0 then (hinterlandlaw04_RoadGoesWays.l1 kj41 a1 t189 t194 x13_3 true (wrap64 (x81_4 + 1)) a0_0 a0_1 l0_2 l0_3) else (hinterlandlaw04_RoadGoesWays.l1 kj41 a1 t189 t194 x13_3 (((rd l0_3 (rd t189 x13_3)) == 1) == (decide (x81_4 < 2))) (wrap64 (x81_4 + 1)) a0_0 a0_1 l0_2 l0_3)) else (hinterlandlaw04_RoadGoesWays.l1 kj41 a1 t189 t194 x13_3 false (wrap64 (x81_4 + 1)) a0_0 a0_1 l0_2 l0_3)))) else (none)) else (none)) else (none)) else (none)) else (none)) else (none)) else (none)) else (none)) = some r:=by rw [if_pos rfl] at H;exact H
              clear H
              have H:=H1
              clear H1
              replace H : (if 0 ≤ (ji38) then (if (ji38) < (t189.length : Int) then (if 0 ≤ (rd t189 (ji38)) then (if (rd t189 (ji38)) < (l0_3.length : Int) then (if 0 ≤ x13_3 then (if x13_3 < (t189.length : Int) then (if 0 ≤ (rd t189 x13_3) then (if (rd t189 x13_3) < (l0_3.length : Int) then (if x14_4 = true then (hinterlandlaw04_RoadGoesWays.l1 kj41 a1 t189 t194 x13_3 true (wrap64 (x81_4 + 1)) a0_0 a0_1 l0_2 l0_3) else (if (rd l0_3 (rd t189 (ji38))) = 0 then (if (rd l0_3 (rd t189 x13_3)) = 0 then (hinterlandlaw04_RoadGoesWays.l1 kj41 a1 t189 t194 x13_3 true (wrap64 (x81_4 + 1)) a0_0 a0_1 l0_2 l0_3) else (hinterlandlaw04_RoadGoesWays.l1 kj41 a1 t189 t194 x13_3 (((rd l0_3 (rd t189 x13_3)) == 1) == (decide (x81_4 < 2))) (wrap64 (x81_4 + 1)) a0_0 a0_1 l0_2 l0_3)) else (if (((rd l0_3 (rd t189 (ji38))) == 1) == (decide (x81_4 < 2))) = true then (if (rd l0_3 (rd t189 x13_3)) = 0 then (hinterlandlaw04_RoadGoesWays.l1 kj41 a1 t189 t194 x13_3 true (wrap64 (x81_4 + 1)) a0_0 a0_1 l0_2 l0_3) else (hinterlandlaw04_RoadGoesWays.l1 kj41 a1 t189 t194 x13_3 (((rd l0_3 (rd t189 x13_3)) == 1) == (decide (x81_4 < 2))) (wrap64 (x81_4 + 1)) a0_0 a0_1 l0_2 l0_3)) else (hinterlandlaw04_RoadGoesWays.l1 kj41 a1 t189 t194 x13_3 false (wrap64 (x81_4 + 1)) a0_0 a0_1 l0_2 l0_3)))) else (none)) else (none)) else (none)) else (none)) else (none)) else (none)) else (none)) else (none)) = some r:=by first|(rw [hji38] at H;exact H)|(simp only [hji38] at H ⊢;exact H)
              have hji38w : (IntKind.i64.wrap (x13_3 - 1)) = ji38:=(i64_w _).trans hji38
              replace H:=ifp_ H;obtain ⟨c55,H⟩:=H
              have c55b0 : decide (0 ≤ (ji38)) = true:=decide_eq_true c55
              clear c55
              replace H:=ifp_ H;obtain ⟨c56,H⟩:=H
              have c56b0 : decide ((ji38) < (t189.length : Int)) = true:=decide_eq_true c56
              clear c56
              replace H:=ifp_ H;obtain ⟨c57,H⟩:=H
              have c57b0 : decide (0 ≤ (rd t189 (ji38))) = true:=decide_eq_true c57
              clear c57
              replace H:=ifp_ H;obtain ⟨c58,H⟩:=H
              have c58b0 : decide ((rd t189 (ji38)) < (l0_3.length : Int)) = true:=decide_eq_true c58
              clear c58
              replace H:=ifp_ H;obtain ⟨c59,H⟩:=H
              have c59b0 : decide (0 ≤ x13_3) = true:=decide_eq_true c59
              clear c59
              replace H:=ifp_ H;obtain ⟨c60,H⟩:=H
              have c60b0 : decide (x13_3 < (t189.length : Int)) = true:=decide_eq_true c60
              clear c60
              replace H:=ifp_ H;obtain ⟨c61,H⟩:=H
              have c61b0 : decide (0 ≤ (rd t189 x13_3)) = true:=decide_eq_true c61
              clear c61
              replace H:=ifp_ H;obtain ⟨c62,H⟩:=H
              have c62b0 : decide ((rd t189 x13_3) < (l0_3.length : Int)) = true:=decide_eq_true c62
              clear c62
              by_cases c63 : x14_4 = true
              ·subst c63
               have H1 : (hinterlandlaw04_RoadGoesWays.l1 kj41 a1 t189 t194 x13_3 true (wrap64 (x81_4 + 1)) a0_0 a0_1 l0_2 l0_3) = some r:=by rw [if_pos rfl] at H;exact H
               clear H
               have H:=H1
               clear H1
               have H':=Aside0.mk H
               clear H
               try go_wp2
               replace HO_9:=Aside0.mk (Kd.R_drew HO_9.out)
               replace HO_11:=Aside0.mk (Kd.R_drew HO_11.out)
               replace BK186:=Aside0.mk (blk_drew BK186.out)
               replace HB:=Aside0.mk (below_drew1 HB.out)
               have p205 : 0 ≤ ((ji38) : Int):=of_decide_eq_true (by first|(with_reducible assumption)|assumption)
               have q205 : (ji38) < (t189.length : Int):=of_decide_eq_true (by first|(with_reducible assumption)|assumption)
               obtain ⟨ad205,e205,hx205_0⟩:=Kd.at_int (Kd.R_reads' HO_9.out).2.2 (ji38) p205 q205
               obtain rfl : ad199 = ad205:=(by injection e205)
               replace p205:=eq_true p205
               replace q205:=eq_true q205
               have p206 : 0 ≤ ((rd t189 (ji38)) : Int):=of_decide_eq_true (by first|(with_reducible assumption)|assumption)
               have q206 : (rd t189 (ji38)) < (l0_3.length : Int):=of_decide_eq_true (by first|(with_reducible assumption)|assumption)
               obtain ⟨ad206,e206,hx206_0⟩:=Kd.at_int HR0_3.out (rd t189 (ji38)) p206 q206
               have hw206_0:=hx206_0
               cases e206
               replace hx206_0:=(HB.out.cell (World.block_lt_of_cell? w _ hx206_0)).trans hx206_0
               replace p206:=eq_true p206
               replace q206:=eq_true q206
               have p207 : 0 ≤ (x13_3 : Int):=of_decide_eq_true (by first|(with_reducible assumption)|assumption)
               have q207 : x13_3 < (t189.length : Int):=of_decide_eq_true (by first|(with_reducible assumption)|assumption)
               obtain ⟨ad207,e207,hx207_0⟩:=Kd.at_int (Kd.R_reads' HO_9.out).2.2 x13_3 p207 q207
               obtain rfl : ad199 = ad207:=(by injection e207)
               replace p207:=eq_true p207
               replace q207:=eq_true q207
               have p208 : 0 ≤ ((rd t189 x13_3) : Int):=of_decide_eq_true (by first|(with_reducible assumption)|assumption)
               have q208 : (rd t189 x13_3) < (l0_3.length : Int):=of_decide_eq_true (by first|(with_reducible assumption)|assumption)
               obtain ⟨ad208,e208,hx208_0⟩:=Kd.at_int HR0_3.out (rd t189 x13_3) p208 q208
               have hw208_0:=hx208_0
               obtain rfl : ad206 = ad208:=(by injection e208)
               replace hx208_0:=(HB.out.cell (World.block_lt_of_cell? w _ hx208_0)).trans hx208_0
               replace p208:=eq_true p208
               replace q208:=eq_true q208
               refine start_ (n:=19) (S:=fun w' => w'.cell? ⟨gb186,0,none⟩ = some (.int .i64 a0_0) ∧ w'.cell? ⟨gb186,1,none⟩ = some (.int .i64 a0_1) ∧ w'.cell? ⟨gb186,2,none⟩ = some (.slice A0_2 l0_2.length c0_2) ∧ w'.cell? ⟨gb186,3,none⟩ = some (.slice (some ad206) l0_3.length c0_3) ∧ w'.cell? (ad199.add ((ji38)).toNat) = some (.int .i64 (rd t189 (ji38))) ∧ w'.cell? (ad206.add ((rd t189 (ji38))).toNat) = some (.int .i64 (rd l0_3 (rd t189 (ji38)))) ∧ w'.cell? (ad199.add (x13_3).toNat) = some (.int .i64 (rd t189 x13_3)) ∧ w'.cell? (ad206.add ((rd t189 x13_3)).toNat) = some (.int .i64 (rd l0_3 (rd t189 x13_3)))) (ds:=[]) #[false,false,false,false,false,false,false,false,false,false,false,false,false,false,false,false,false,false,false] (by kernel_rfl) rfl rfl ⟨(blk_cell BK186.out 0).trans rfl,(blk_cell BK186.out 1).trans rfl,(blk_cell BK186.out 2).trans rfl,(blk_cell BK186.out 3).trans rfl,hx205_0,((HB.out.cell (World.block_lt_of_cell? w _ hw206_0)).trans hw206_0),hx207_0,((HB.out.cell (World.block_lt_of_cell? w _ hw208_0)).trans hw208_0)⟩ (fun hHeld => ?_);refine with_tabW hinterlandlaw04_RoadGoesWays.tab18 hinterlandlaw04_RoadGoesWays.bits18 (fun HT_ HW_ => ?_)
               generalize wc.drew = w64 at HO_9 HO_11 BK186 HB hx205_0 hx206_0 hx207_0 hx208_0 hHeld ⊢
               refine pI 0 (some 118) ?_
               refine pI 2 (some 120) ?_
               refine pI 3 (some 121) ?_
               refine pI 4 (some 122) ?_
               refine pI 5 (some 123) ?_
               refine pI 9 (some 127) ?_
               refine pI 11 (some 129) ?_
               refine pI 12 (some 130) ?_
               refine pI 13 (some 131) ?_
               refine tI8 1 (some 119) hHeld ?_
               refine tI8 6 (some 124) hHeld ?_
               refine pI 7 (some 125) ?_
               refine tI8 8 (some 126) hHeld ?_
               refine pI 17 (some 18) ?_
               refine tI8 10 (some 128) hHeld ?_
               refine tI8 14 (some 132) hHeld ?_
               refine pI 15 (some 133) ?_
               refine tI8 16 (some 134) hHeld ?_
               refine pI 18 (some 19) ?_
               refine done_ (done_of HT_.out (by kernel_rfl)) ?_
               try go_wp2
               go_roundg kj41
               case measure => have:=HJ4.out;have:=HJ18.out;have:=HK3.out;have:=HK4.out;have:=HJ41.out;omega
               case rel => exact ⟨(true),(wrap64 (x81_4 + 1)),(by first|rfl|(simp;done)|(simp [*];done)),(by first|rfl|(simp;done)|(simp [*];done)),H',⟨by have:=HJ4.out;have:=HJ18.out;have:=HK3.out;have:=HK4.out;have:=HJ41.out;omega⟩,⟨Kd.R_up HO_9.out⟩,⟨Kd.R_up HO_11.out⟩,⟨blk_up BK186.out⟩,⟨hb_⟩⟩
              ·replace c63:=Bool.eq_false_iff.mpr c63
               subst c63
               have H1 : (if (rd l0_3 (rd t189 (ji38))) = 0 then (if (rd l0_3 (rd t189 x13_3)) = 0 then (hinterlandlaw04_RoadGoesWays.l1 kj41 a1 t189 t194 x13_3 true (wrap64 (x81_4 + 1)) a0_0 a0_1 l0_2 l0_3) else (hinterlandlaw04_RoadGoesWays.l1 kj41 a1 t189 t194 x13_3 (((rd l0_3 (rd t189 x13_3)) == 1) == (decide (x81_4 < 2))) (wrap64 (x81_4 + 1)) a0_0 a0_1 l0_2 l0_3)) else (if (((rd l0_3 (rd t189 (ji38))) == 1) == (decide (x81_4 < 2))) = true then (if (rd l0_3 (rd t189 x13_3)) = 0 then (hinterlandlaw04_RoadGoesWays.l1 kj41 a1 t189 t194 x13_3 true (wrap64 (x81_4 + 1)) a0_0 a0_1 l0_2 l0_3) else (hinterlandlaw04_RoadGoesWays.l1 kj41 a1 t189 t194 x13_3 (((rd l0_3 (rd t189 x13_3)) == 1) == (decide (x81_4 < 2))) (wrap64 (x81_4 + 1)) a0_0 a0_1 l0_2 l0_3)) else (hinterlandlaw04_RoadGoesWays.l1 kj41 a1 t189 t194 x13_3 false (wrap64 (x81_4 + 1)) a0_0 a0_1 l0_2 l0_3))) = some r:=by rw [if_neg (show ¬ (false = true) by decide)] at H;exact H
               clear H
               have H:=H1
               clear H1
               by_cases c65 : (rd l0_3 (rd t189 (ji38))) = 0
               ·rw [if_pos c65] at H
                have c65b0 : ((rd l0_3 (rd t189 (ji38))) == 0) = true:=beq_iff_eq.mpr c65
                have c65b1 : ((rd l0_3 (rd t189 (ji38))) != 0) = false:=bne_eq_false_iff_eq.mpr c65
                clear c65
                by_cases c66 : (rd l0_3 (rd t189 x13_3)) = 0
                ·rw [if_pos c66] at H
                 have c66b0 : ((rd l0_3 (rd t189 x13_3)) == 0) = true:=beq_iff_eq.mpr c66
                 have c66b1 : ((rd l0_3 (rd t189 x13_3)) != 0) = false:=bne_eq_false_iff_eq.mpr c66
                 clear c66
                 have H':=Aside0.mk H
                 clear H
                 try go_wp2
                 replace HO_9:=Aside0.mk (Kd.R_drew HO_9.out)
                 replace HO_11:=Aside0.mk (Kd.R_drew HO_11.out)
                 replace BK186:=Aside0.mk (blk_drew BK186.out)
                 replace HB:=Aside0.mk (below_drew1 HB.out)
                 have p205 : 0 ≤ ((ji38) : Int):=of_decide_eq_true (by first|(with_reducible assumption)|assumption)
                 have q205 : (ji38) < (t189.length : Int):=of_decide_eq_true (by first|(with_reducible assumption)|assumption)
                 obtain ⟨ad205,e205,hx205_0⟩:=Kd.at_int (Kd.R_reads' HO_9.out).2.2 (ji38) p205 q205
                 obtain rfl : ad199 = ad205:=(by injection e205)
                 replace p205:=eq_true p205
                 replace q205:=eq_true q205
                 have p206 : 0 ≤ ((rd t189 (ji38)) : Int):=of_decide_eq_true (by first|(with_reducible assumption)|assumption)
                 have q206 : (rd t189 (ji38)) < (l0_3.length : Int):=of_decide_eq_true (by first|(with_reducible assumption)|assumption)
                 obtain ⟨ad206,e206,hx206_0⟩:=Kd.at_int HR0_3.out (rd t189 (ji38)) p206 q206
                 have hw206_0:=hx206_0
                 cases e206
                 replace hx206_0:=(HB.out.cell (World.block_lt_of_cell? w _ hx206_0)).trans hx206_0
                 replace p206:=eq_true p206
                 replace q206:=eq_true q206
                 have p207 : 0 ≤ (x13_3 : Int):=of_decide_eq_true (by first|(with_reducible assumption)|assumption)
                 have q207 : x13_3 < (t189.length : Int):=of_decide_eq_true (by first|(with_reducible assumption)|assumption)
                 obtain ⟨ad207,e207,hx207_0⟩:=Kd.at_int (Kd.R_reads' HO_9.out).2.2 x13_3 p207 q207
                 obtain rfl : ad199 = ad207:=(by injection e207)
                 replace p207:=eq_true p207
                 replace q207:=eq_true q207
                 have p208 : 0 ≤ ((rd t189 x13_3) : Int):=of_decide_eq_true (by first|(with_reducible assumption)|assumption)
                 have q208 : (rd t189 x13_3) < (l0_3.length : Int):=of_decide_eq_true (by first|(with_reducible assumption)|assumption)
                 obtain ⟨ad208,e208,hx208_0⟩:=Kd.at_int HR0_3.out (rd t189 x13_3) p208 q208
                 have hw208_0:=hx208_0
                 obtain rfl : ad206 = ad208:=(by injection e208)
                 replace hx208_0:=(HB.out.cell (World.block_lt_of_cell? w _ hx208_0)).trans hx208_0
                 replace p208:=eq_true p208
                 replace q208:=eq_true q208
                 refine start_ (n:=19) (S:=fun w' => w'.cell? ⟨gb186,0,none⟩ = some (.int .i64 a0_0) ∧ w'.cell? ⟨gb186,1,none⟩ = some (.int .i64 a0_1) ∧ w'.cell? ⟨gb186,2,none⟩ = some (.slice A0_2 l0_2.length c0_2) ∧ w'.cell? ⟨gb186,3,none⟩ = some (.slice (some ad206) l0_3.length c0_3) ∧ w'.cell? (ad199.add ((ji38)).toNat) = some (.int .i64 (rd t189 (ji38))) ∧ w'.cell? (ad206.add ((rd t189 (ji38))).toNat) = some (.int .i64 (rd l0_3 (rd t189 (ji38)))) ∧ w'.cell? (ad199.add (x13_3).toNat) = some (.int .i64 (rd t189 x13_3)) ∧ w'.cell? (ad206.add ((rd t189 x13_3)).toNat) = some (.int .i64 (rd l0_3 (rd t189 x13_3)))) (ds:=[]) #[false,false,false,false,false,false,false,false,false,false,false,false,false,false,false,false,false,false,false] (by kernel_rfl) rfl rfl ⟨(blk_cell BK186.out 0).trans rfl,(blk_cell BK186.out 1).trans rfl,(blk_cell BK186.out 2).trans rfl,(blk_cell BK186.out 3).trans rfl,hx205_0,((HB.out.cell (World.block_lt_of_cell? w _ hw206_0)).trans hw206_0),hx207_0,((HB.out.cell (World.block_lt_of_cell? w _ hw208_0)).trans hw208_0)⟩ (fun hHeld => ?_);refine with_tabW hinterlandlaw04_RoadGoesWays.tab18 hinterlandlaw04_RoadGoesWays.bits18 (fun HT_ HW_ => ?_)
                 generalize wc.drew = w67 at HO_9 HO_11 BK186 HB hx205_0 hx206_0 hx207_0 hx208_0 hHeld ⊢
                 refine pI 0 (some 118) ?_
                 refine pI 2 (some 120) ?_
                 refine pI 3 (some 121) ?_
                 refine pI 4 (some 122) ?_
                 refine pI 5 (some 123) ?_
                 refine pI 9 (some 127) ?_
                 refine pI 11 (some 129) ?_
                 refine pI 12 (some 130) ?_
                 refine pI 13 (some 131) ?_
                 refine tI8 1 (some 119) hHeld ?_
                 refine tI8 6 (some 124) hHeld ?_
                 refine pI 7 (some 125) ?_
                 refine tI8 8 (some 126) hHeld ?_
                 refine pI 17 (some 18) ?_
                 refine tI8 10 (some 128) hHeld ?_
                 refine tI8 14 (some 132) hHeld ?_
                 refine pI 15 (some 133) ?_
                 refine tI8 16 (some 134) hHeld ?_
                 refine pI 18 (some 19) ?_
                 refine done_ (done_of HT_.out (by kernel_rfl)) ?_
                 try go_wp2
                 go_roundg kj41
                 case measure => have:=HJ4.out;have:=HJ18.out;have:=HK3.out;have:=HK4.out;have:=HJ41.out;omega
                 case rel => exact ⟨(true),(wrap64 (x81_4 + 1)),(by first|rfl|(simp;done)|(simp [*];done)),(by first|rfl|(simp;done)|(simp [*];done)),H',⟨by have:=HJ4.out;have:=HJ18.out;have:=HK3.out;have:=HK4.out;have:=HJ41.out;omega⟩,⟨Kd.R_up HO_9.out⟩,⟨Kd.R_up HO_11.out⟩,⟨blk_up BK186.out⟩,⟨hb_⟩⟩
                ·rw [if_neg c66] at H
                 have c66b0 : ((rd l0_3 (rd t189 x13_3)) == 0) = false:=beq_eq_false_iff_ne.mpr c66
                 have c66b1 : ((rd l0_3 (rd t189 x13_3)) != 0) = true:=bne_iff_ne.mpr c66
                 have H':=Aside0.mk H
                 clear H
                 try go_wp2
                 replace HO_9:=Aside0.mk (Kd.R_drew HO_9.out)
                 replace HO_11:=Aside0.mk (Kd.R_drew HO_11.out)
                 replace BK186:=Aside0.mk (blk_drew BK186.out)
                 replace HB:=Aside0.mk (below_drew1 HB.out)
                 have p205 : 0 ≤ ((ji38) : Int):=of_decide_eq_true (by first|(with_reducible assumption)|assumption)
                 have q205 : (ji38) < (t189.length : Int):=of_decide_eq_true (by first|(with_reducible assumption)|assumption)
                 obtain ⟨ad205,e205,hx205_0⟩:=Kd.at_int (Kd.R_reads' HO_9.out).2.2 (ji38) p205 q205
                 obtain rfl : ad199 = ad205:=(by injection e205)
                 replace p205:=eq_true p205
                 replace q205:=eq_true q205
                 have p206 : 0 ≤ ((rd t189 (ji38)) : Int):=of_decide_eq_true (by first|(with_reducible assumption)|assumption)
                 have q206 : (rd t189 (ji38)) < (l0_3.length : Int):=of_decide_eq_true (by first|(with_reducible assumption)|assumption)
                 obtain ⟨ad206,e206,hx206_0⟩:=Kd.at_int HR0_3.out (rd t189 (ji38)) p206 q206
                 have hw206_0:=hx206_0
                 cases e206
                 replace hx206_0:=(HB.out.cell (World.block_lt_of_cell? w _ hx206_0)).trans hx206_0
                 replace p206:=eq_true p206
                 replace q206:=eq_true q206
                 have p207 : 0 ≤ (x13_3 : Int):=of_decide_eq_true (by first|(with_reducible assumption)|assumption)
                 have q207 : x13_3 < (t189.length : Int):=of_decide_eq_true (by first|(with_reducible assumption)|assumption)
                 obtain ⟨ad207,e207,hx207_0⟩:=Kd.at_int (Kd.R_reads' HO_9.out).2.2 x13_3 p207 q207
                 obtain rfl : ad199 = ad207:=(by injection e207)
                 replace p207:=eq_true p207
                 replace q207:=eq_true q207
                 have p208 : 0 ≤ ((rd t189 x13_3) : Int):=of_decide_eq_true (by first|(with_reducible assumption)|assumption)
                 have q208 : (rd t189 x13_3) < (l0_3.length : Int):=of_decide_eq_true (by first|(with_reducible assumption)|assumption)
                 obtain ⟨ad208,e208,hx208_0⟩:=Kd.at_int HR0_3.out (rd t189 x13_3) p208 q208
                 have hw208_0:=hx208_0
                 obtain rfl : ad206 = ad208:=(by injection e208)
                 replace hx208_0:=(HB.out.cell (World.block_lt_of_cell? w _ hx208_0)).trans hx208_0
                 replace p208:=eq_true p208
                 replace q208:=eq_true q208
                 refine start_ (n:=19) (S:=fun w' => w'.cell? ⟨gb186,0,none⟩ = some (.int .i64 a0_0) ∧ w'.cell? ⟨gb186,1,none⟩ = some (.int .i64 a0_1) ∧ w'.cell? ⟨gb186,2,none⟩ = some (.slice A0_2 l0_2.length c0_2) ∧ w'.cell? ⟨gb186,3,none⟩ = some (.slice (some ad206) l0_3.length c0_3) ∧ w'.cell? (ad199.add ((ji38)).toNat) = some (.int .i64 (rd t189 (ji38))) ∧ w'.cell? (ad206.add ((rd t189 (ji38))).toNat) = some (.int .i64 (rd l0_3 (rd t189 (ji38)))) ∧ w'.cell? (ad199.add (x13_3).toNat) = some (.int .i64 (rd t189 x13_3)) ∧ w'.cell? (ad206.add ((rd t189 x13_3)).toNat) = some (.int .i64 (rd l0_3 (rd t189 x13_3)))) (ds:=[]) #[false,false,false,false,false,false,false,false,false,false,false,false,false,false,false,false,false,false,false] (by kernel_rfl) rfl rfl ⟨(blk_cell BK186.out 0).trans rfl,(blk_cell BK186.out 1).trans rfl,(blk_cell BK186.out 2).trans rfl,(blk_cell BK186.out 3).trans rfl,hx205_0,((HB.out.cell (World.block_lt_of_cell? w _ hw206_0)).trans hw206_0),hx207_0,((HB.out.cell (World.block_lt_of_cell? w _ hw208_0)).trans hw208_0)⟩ (fun hHeld => ?_);refine with_tabW hinterlandlaw04_RoadGoesWays.tab18 hinterlandlaw04_RoadGoesWays.bits18 (fun HT_ HW_ => ?_)
                 generalize wc.drew = w68 at HO_9 HO_11 BK186 HB hx205_0 hx206_0 hx207_0 hx208_0 hHeld ⊢
                 refine pI 0 (some 118) ?_
                 refine pI 2 (some 120) ?_
                 refine pI 3 (some 121) ?_
                 refine pI 4 (some 122) ?_
                 refine pI 5 (some 123) ?_
                 refine pI 9 (some 127) ?_
                 refine pI 11 (some 129) ?_
                 refine pI 12 (some 130) ?_
                 refine pI 13 (some 131) ?_
                 refine tI8 1 (some 119) hHeld ?_
                 refine tI8 6 (some 124) hHeld ?_
                 refine pI 7 (some 125) ?_
                 refine tI8 8 (some 126) hHeld ?_
                 refine pI 17 (some 18) ?_
                 refine tI8 10 (some 128) hHeld ?_
                 refine tI8 14 (some 132) hHeld ?_
                 refine pI 15 (some 133) ?_
                 refine tI8 16 (some 134) hHeld ?_
                 refine pI 18 (some 19) ?_
                 refine done_ (done_of HT_.out (by kernel_rfl)) ?_
                 try go_wp2
                 go_roundg kj41
                 case measure => have:=HJ4.out;have:=HJ18.out;have:=HK3.out;have:=HK4.out;have:=HJ41.out;omega
                 case rel => exact ⟨((((rd l0_3 (rd t189 x13_3)) == 1) == (decide (x81_4 < 2)))),(wrap64 (x81_4 + 1)),(by first|rfl|(simp;done)|(simp [*];done)),(by first|rfl|(simp;done)|(simp [*];done)),H',⟨by have:=HJ4.out;have:=HJ18.out;have:=HK3.out;have:=HK4.out;have:=HJ41.out;omega⟩,⟨Kd.R_up HO_9.out⟩,⟨Kd.R_up HO_11.out⟩,⟨blk_up BK186.out⟩,⟨hb_⟩⟩
               rw [if_neg c65] at H
               have c65b0 : ((rd l0_3 (rd t189 (ji38))) == 0) = false:=beq_eq_false_iff_ne.mpr c65
               have c65b1 : ((rd l0_3 (rd t189 (ji38))) != 0) = true:=bne_iff_ne.mpr c65
               by_cases c69 : (((rd l0_3 (rd t189 (ji38))) == 1) == (decide (x81_4 < 2))) = true
               rotate_left
               ·rw [if_neg c69] at H
                have c69b0 : (((rd l0_3 (rd t189 (ji38))) == 1) == (decide (x81_4 < 2))) = false:=by simpa using c69
                (try (have c69b1 : decide (((rd l0_3 (rd t189 (ji38))) == 1) = (decide (x81_4 < 2))) = false:=by simpa using c69))
                (try (have c69b2 : (((rd l0_3 (rd t189 (ji38))) == 1) == (decide (x81_4 < 2))) = false:=by simpa using c69))
                (try (have c69b3 : ¬ (((rd l0_3 (rd t189 (ji38))) == 1) = (decide (x81_4 < 2))):=by simpa using c69))
                clear c69
                have H':=Aside0.mk H
                clear H
                try go_wp2
                replace HO_9:=Aside0.mk (Kd.R_drew HO_9.out)
                replace HO_11:=Aside0.mk (Kd.R_drew HO_11.out)
                replace BK186:=Aside0.mk (blk_drew BK186.out)
                replace HB:=Aside0.mk (below_drew1 HB.out)
                have p205 : 0 ≤ ((ji38) : Int):=of_decide_eq_true (by first|(with_reducible assumption)|assumption)
                have q205 : (ji38) < (t189.length : Int):=of_decide_eq_true (by first|(with_reducible assumption)|assumption)
                obtain ⟨ad205,e205,hx205_0⟩:=Kd.at_int (Kd.R_reads' HO_9.out).2.2 (ji38) p205 q205
                obtain rfl : ad199 = ad205:=(by injection e205)
                replace p205:=eq_true p205
                replace q205:=eq_true q205
                have p206 : 0 ≤ ((rd t189 (ji38)) : Int):=of_decide_eq_true (by first|(with_reducible assumption)|assumption)
                have q206 : (rd t189 (ji38)) < (l0_3.length : Int):=of_decide_eq_true (by first|(with_reducible assumption)|assumption)
                obtain ⟨ad206,e206,hx206_0⟩:=Kd.at_int HR0_3.out (rd t189 (ji38)) p206 q206
                have hw206_0:=hx206_0
                cases e206
                replace hx206_0:=(HB.out.cell (World.block_lt_of_cell? w _ hx206_0)).trans hx206_0
                replace p206:=eq_true p206
                replace q206:=eq_true q206
                have p207 : 0 ≤ (x13_3 : Int):=of_decide_eq_true (by first|(with_reducible assumption)|assumption)
                have q207 : x13_3 < (t189.length : Int):=of_decide_eq_true (by first|(with_reducible assumption)|assumption)
                obtain ⟨ad207,e207,hx207_0⟩:=Kd.at_int (Kd.R_reads' HO_9.out).2.2 x13_3 p207 q207
                obtain rfl : ad199 = ad207:=(by injection e207)
                replace p207:=eq_true p207
                replace q207:=eq_true q207
                have p208 : 0 ≤ ((rd t189 x13_3) : Int):=of_decide_eq_true (by first|(with_reducible assumption)|assumption)
                have q208 : (rd t189 x13_3) < (l0_3.length : Int):=of_decide_eq_true (by first|(with_reducible assumption)|assumption)
                obtain ⟨ad208,e208,hx208_0⟩:=Kd.at_int HR0_3.out (rd t189 x13_3) p208 q208
                have hw208_0:=hx208_0
                obtain rfl : ad206 = ad208:=(by injection e208)
                replace hx208_0:=(HB.out.cell (World.block_lt_of_cell? w _ hx208_0)).trans hx208_0
                replace p208:=eq_true p208
                replace q208:=eq_true q208
                refine start_ (n:=19) (S:=fun w' => w'.cell? ⟨gb186,0,none⟩ = some (.int .i64 a0_0) ∧ w'.cell? ⟨gb186,1,none⟩ = some (.int .i64 a0_1) ∧ w'.cell? ⟨gb186,2,none⟩ = some (.slice A0_2 l0_2.length c0_2) ∧ w'.cell? ⟨gb186,3,none⟩ = some (.slice (some ad206) l0_3.length c0_3) ∧ w'.cell? (ad199.add ((ji38)).toNat) = some (.int .i64 (rd t189 (ji38))) ∧ w'.cell? (ad206.add ((rd t189 (ji38))).toNat) = some (.int .i64 (rd l0_3 (rd t189 (ji38)))) ∧ w'.cell? (ad199.add (x13_3).toNat) = some (.int .i64 (rd t189 x13_3)) ∧ w'.cell? (ad206.add ((rd t189 x13_3)).toNat) = some (.int .i64 (rd l0_3 (rd t189 x13_3)))) (ds:=[]) #[false,false,false,false,false,false,false,false,false,false,false,false,false,false,false,false,false,false,false] (by kernel_rfl) rfl rfl ⟨(blk_cell BK186.out 0).trans rfl,(blk_cell BK186.out 1).trans rfl,(blk_cell BK186.out 2).trans rfl,(blk_cell BK186.out 3).trans rfl,hx205_0,((HB.out.cell (World.block_lt_of_cell? w _ hw206_0)).trans hw206_0),hx207_0,((HB.out.cell (World.block_lt_of_cell? w _ hw208_0)).trans hw208_0)⟩ (fun hHeld => ?_);refine with_tabW hinterlandlaw04_RoadGoesWays.tab18 hinterlandlaw04_RoadGoesWays.bits18 (fun HT_ HW_ => ?_)
                generalize wc.drew = w73 at HO_9 HO_11 BK186 HB hx205_0 hx206_0 hx207_0 hx208_0 hHeld ⊢
                refine pI 0 (some 118) ?_
                refine pI 2 (some 120) ?_
                refine pI 3 (some 121) ?_
                refine pI 4 (some 122) ?_
                refine pI 5 (some 123) ?_
                refine pI 9 (some 127) ?_
                refine pI 11 (some 129) ?_
                refine pI 12 (some 130) ?_
                refine pI 13 (some 131) ?_
                refine tI8 1 (some 119) hHeld ?_
                refine tI8 6 (some 124) hHeld ?_
                refine pI 7 (some 125) ?_
                refine tI8 8 (some 126) hHeld ?_
                refine pI 17 (some 18) ?_
                refine tI8 10 (some 128) hHeld ?_
                refine tI8 14 (some 132) hHeld ?_
                refine pI 15 (some 133) ?_
                refine tI8 16 (some 134) hHeld ?_
                refine pI 18 (some 19) ?_
                refine done_ (done_of HT_.out (by kernel_rfl)) ?_
                try go_wp2
                go_roundg kj41
                case measure => have:=HJ4.out;have:=HJ18.out;have:=HK3.out;have:=HK4.out;have:=HJ41.out;omega
                case rel => exact ⟨(false),(wrap64 (x81_4 + 1)),(by first|rfl|(simp;done)|(simp [*];done)),(by first|rfl|(simp;done)|(simp [*];done)),H',⟨by have:=HJ4.out;have:=HJ18.out;have:=HK3.out;have:=HK4.out;have:=HJ41.out;omega⟩,⟨Kd.R_up HO_9.out⟩,⟨Kd.R_up HO_11.out⟩,⟨blk_up BK186.out⟩,⟨hb_⟩⟩
               rw [if_pos c69] at H
               have c69b0 : (((rd l0_3 (rd t189 (ji38))) == 1) == (decide (x81_4 < 2))) = true:=c69
               (try (have c69b1 : decide (((rd l0_3 (rd t189 (ji38))) == 1) = (decide (x81_4 < 2))) = true:=by simpa using c69))
               (try (have c69b2 : (((rd l0_3 (rd t189 (ji38))) == 1) == (decide (x81_4 < 2))) = true:=by simpa using c69))
               clear c69
               by_cases c70 : (rd l0_3 (rd t189 x13_3)) = 0
               ·rw [if_pos c70] at H
                have c70b0 : ((rd l0_3 (rd t189 x13_3)) == 0) = true:=beq_iff_eq.mpr c70
                have c70b1 : ((rd l0_3 (rd t189 x13_3)) != 0) = false:=bne_eq_false_iff_eq.mpr c70
                clear c70
                have H':=Aside0.mk H
                clear H
                try go_wp2
                replace HO_9:=Aside0.mk (Kd.R_drew HO_9.out)
                replace HO_11:=Aside0.mk (Kd.R_drew HO_11.out)
                replace BK186:=Aside0.mk (blk_drew BK186.out)
                replace HB:=Aside0.mk (below_drew1 HB.out)
                have p205 : 0 ≤ ((ji38) : Int):=of_decide_eq_true (by first|(with_reducible assumption)|assumption)
                have q205 : (ji38) < (t189.length : Int):=of_decide_eq_true (by first|(with_reducible assumption)|assumption)
                obtain ⟨ad205,e205,hx205_0⟩:=Kd.at_int (Kd.R_reads' HO_9.out).2.2 (ji38) p205 q205
                obtain rfl : ad199 = ad205:=(by injection e205)
                replace p205:=eq_true p205
                replace q205:=eq_true q205
                have p206 : 0 ≤ ((rd t189 (ji38)) : Int):=of_decide_eq_true (by first|(with_reducible assumption)|assumption)
                have q206 : (rd t189 (ji38)) < (l0_3.length : Int):=of_decide_eq_true (by first|(with_reducible assumption)|assumption)
                obtain ⟨ad206,e206,hx206_0⟩:=Kd.at_int HR0_3.out (rd t189 (ji38)) p206 q206
                have hw206_0:=hx206_0
                cases e206
                replace hx206_0:=(HB.out.cell (World.block_lt_of_cell? w _ hx206_0)).trans hx206_0
                replace p206:=eq_true p206
                replace q206:=eq_true q206
                have p207 : 0 ≤ (x13_3 : Int):=of_decide_eq_true (by first|(with_reducible assumption)|assumption)
                have q207 : x13_3 < (t189.length : Int):=of_decide_eq_true (by first|(with_reducible assumption)|assumption)
                obtain ⟨ad207,e207,hx207_0⟩:=Kd.at_int (Kd.R_reads' HO_9.out).2.2 x13_3 p207 q207
                obtain rfl : ad199 = ad207:=(by injection e207)
                replace p207:=eq_true p207
                replace q207:=eq_true q207
                have p208 : 0 ≤ ((rd t189 x13_3) : Int):=of_decide_eq_true (by first|(with_reducible assumption)|assumption)
                have q208 : (rd t189 x13_3) < (l0_3.length : Int):=of_decide_eq_true (by first|(with_reducible assumption)|assumption)
                obtain ⟨ad208,e208,hx208_0⟩:=Kd.at_int HR0_3.out (rd t189 x13_3) p208 q208
                have hw208_0:=hx208_0
                obtain rfl : ad206 = ad208:=(by injection e208)
                replace hx208_0:=(HB.out.cell (World.block_lt_of_cell? w _ hx208_0)).trans hx208_0
                replace p208:=eq_true p208
                replace q208:=eq_true q208
                refine start_ (n:=19) (S:=fun w' => w'.cell? ⟨gb186,0,none⟩ = some (.int .i64 a0_0) ∧ w'.cell? ⟨gb186,1,none⟩ = some (.int .i64 a0_1) ∧ w'.cell? ⟨gb186,2,none⟩ = some (.slice A0_2 l0_2.length c0_2) ∧ w'.cell? ⟨gb186,3,none⟩ = some (.slice (some ad206) l0_3.length c0_3) ∧ w'.cell? (ad199.add ((ji38)).toNat) = some (.int .i64 (rd t189 (ji38))) ∧ w'.cell? (ad206.add ((rd t189 (ji38))).toNat) = some (.int .i64 (rd l0_3 (rd t189 (ji38)))) ∧ w'.cell? (ad199.add (x13_3).toNat) = some (.int .i64 (rd t189 x13_3)) ∧ w'.cell? (ad206.add ((rd t189 x13_3)).toNat) = some (.int .i64 (rd l0_3 (rd t189 x13_3)))) (ds:=[]) #[false,false,false,false,false,false,false,false,false,false,false,false,false,false,false,false,false,false,false] (by kernel_rfl) rfl rfl ⟨(blk_cell BK186.out 0).trans rfl,(blk_cell BK186.out 1).trans rfl,(blk_cell BK186.out 2).trans rfl,(blk_cell BK186.out 3).trans rfl,hx205_0,((HB.out.cell (World.block_lt_of_cell? w _ hw206_0)).trans hw206_0),hx207_0,((HB.out.cell (World.block_lt_of_cell? w _ hw208_0)).trans hw208_0)⟩ (fun hHeld => ?_);refine with_tabW hinterlandlaw04_RoadGoesWays.tab18 hinterlandlaw04_RoadGoesWays.bits18 (fun HT_ HW_ => ?_)
                generalize wc.drew = w71 at HO_9 HO_11 BK186 HB hx205_0 hx206_0 hx207_0 hx208_0 hHeld ⊢
                refine pI 0 (some 118) ?_
                refine pI 2 (some 120) ?_
                refine pI 3 (some 121) ?_
                refine pI 4 (some 122) ?_
                refine pI 5 (some 123) ?_
                refine pI 9 (some 127) ?_
                refine pI 11 (some 129) ?_
                refine pI 12 (some 130) ?_
                refine pI 13 (some 131) ?_
                refine tI8 1 (some 119) hHeld ?_
                refine tI8 6 (some 124) hHeld ?_
                refine pI 7 (some 125) ?_
                refine tI8 8 (some 126) hHeld ?_
                refine pI 17 (some 18) ?_
                refine tI8 10 (some 128) hHeld ?_
                refine tI8 14 (some 132) hHeld ?_
                refine pI 15 (some 133) ?_
                refine tI8 16 (some 134) hHeld ?_
                refine pI 18 (some 19) ?_
                refine done_ (done_of HT_.out (by kernel_rfl)) ?_
                try go_wp2
                go_roundg kj41
                case measure => have:=HJ4.out;have:=HJ18.out;have:=HK3.out;have:=HK4.out;have:=HJ41.out;omega
                case rel => exact ⟨(true),(wrap64 (x81_4 + 1)),(by first|rfl|(simp;done)|(simp [*];done)),(by first|rfl|(simp;done)|(simp [*];done)),H',⟨by have:=HJ4.out;have:=HJ18.out;have:=HK3.out;have:=HK4.out;have:=HJ41.out;omega⟩,⟨Kd.R_up HO_9.out⟩,⟨Kd.R_up HO_11.out⟩,⟨blk_up BK186.out⟩,⟨hb_⟩⟩
               ·rw [if_neg c70] at H
                have c70b0 : ((rd l0_3 (rd t189 x13_3)) == 0) = false:=beq_eq_false_iff_ne.mpr c70
                have c70b1 : ((rd l0_3 (rd t189 x13_3)) != 0) = true:=bne_iff_ne.mpr c70
                have H':=Aside0.mk H
                clear H
                try go_wp2
                replace HO_9:=Aside0.mk (Kd.R_drew HO_9.out)
                replace HO_11:=Aside0.mk (Kd.R_drew HO_11.out)
                replace BK186:=Aside0.mk (blk_drew BK186.out)
                replace HB:=Aside0.mk (below_drew1 HB.out)
                have p205 : 0 ≤ ((ji38) : Int):=of_decide_eq_true (by first|(with_reducible assumption)|assumption)
                have q205 : (ji38) < (t189.length : Int):=of_decide_eq_true (by first|(with_reducible assumption)|assumption)
                obtain ⟨ad205,e205,hx205_0⟩:=Kd.at_int (Kd.R_reads' HO_9.out).2.2 (ji38) p205 q205
                obtain rfl : ad199 = ad205:=(by injection e205)
                replace p205:=eq_true p205
                replace q205:=eq_true q205
                have p206 : 0 ≤ ((rd t189 (ji38)) : Int):=of_decide_eq_true (by first|(with_reducible assumption)|assumption)
                have q206 : (rd t189 (ji38)) < (l0_3.length : Int):=of_decide_eq_true (by first|(with_reducible assumption)|assumption)
                obtain ⟨ad206,e206,hx206_0⟩:=Kd.at_int HR0_3.out (rd t189 (ji38)) p206 q206
                have hw206_0:=hx206_0
                cases e206
                replace hx206_0:=(HB.out.cell (World.block_lt_of_cell? w _ hx206_0)).trans hx206_0
                replace p206:=eq_true p206
                replace q206:=eq_true q206
                have p207 : 0 ≤ (x13_3 : Int):=of_decide_eq_true (by first|(with_reducible assumption)|assumption)
                have q207 : x13_3 < (t189.length : Int):=of_decide_eq_true (by first|(with_reducible assumption)|assumption)
                obtain ⟨ad207,e207,hx207_0⟩:=Kd.at_int (Kd.R_reads' HO_9.out).2.2 x13_3 p207 q207
                obtain rfl : ad199 = ad207:=(by injection e207)
                replace p207:=eq_true p207
                replace q207:=eq_true q207
                have p208 : 0 ≤ ((rd t189 x13_3) : Int):=of_decide_eq_true (by first|(with_reducible assumption)|assumption)
                have q208 : (rd t189 x13_3) < (l0_3.length : Int):=of_decide_eq_true (by first|(with_reducible assumption)|assumption)
                obtain ⟨ad208,e208,hx208_0⟩:=Kd.at_int HR0_3.out (rd t189 x13_3) p208 q208
                have hw208_0:=hx208_0
                obtain rfl : ad206 = ad208:=(by injection e208)
                replace hx208_0:=(HB.out.cell (World.block_lt_of_cell? w _ hx208_0)).trans hx208_0
                replace p208:=eq_true p208
                replace q208:=eq_true q208
                refine start_ (n:=19) (S:=fun w' => w'.cell? ⟨gb186,0,none⟩ = some (.int .i64 a0_0) ∧ w'.cell? ⟨gb186,1,none⟩ = some (.int .i64 a0_1) ∧ w'.cell? ⟨gb186,2,none⟩ = some (.slice A0_2 l0_2.length c0_2) ∧ w'.cell? ⟨gb186,3,none⟩ = some (.slice (some ad206) l0_3.length c0_3) ∧ w'.cell? (ad199.add ((ji38)).toNat) = some (.int .i64 (rd t189 (ji38))) ∧ w'.cell? (ad206.add ((rd t189 (ji38))).toNat) = some (.int .i64 (rd l0_3 (rd t189 (ji38)))) ∧ w'.cell? (ad199.add (x13_3).toNat) = some (.int .i64 (rd t189 x13_3)) ∧ w'.cell? (ad206.add ((rd t189 x13_3)).toNat) = some (.int .i64 (rd l0_3 (rd t189 x13_3)))) (ds:=[]) #[false,false,false,false,false,false,false,false,false,false,false,false,false,false,false,false,false,false,false] (by kernel_rfl) rfl rfl ⟨(blk_cell BK186.out 0).trans rfl,(blk_cell BK186.out 1).trans rfl,(blk_cell BK186.out 2).trans rfl,(blk_cell BK186.out 3).trans rfl,hx205_0,((HB.out.cell (World.block_lt_of_cell? w _ hw206_0)).trans hw206_0),hx207_0,((HB.out.cell (World.block_lt_of_cell? w _ hw208_0)).trans hw208_0)⟩ (fun hHeld => ?_);refine with_tabW hinterlandlaw04_RoadGoesWays.tab18 hinterlandlaw04_RoadGoesWays.bits18 (fun HT_ HW_ => ?_)
                generalize wc.drew = w72 at HO_9 HO_11 BK186 HB hx205_0 hx206_0 hx207_0 hx208_0 hHeld ⊢
                refine pI 0 (some 118) ?_
                refine pI 2 (some 120) ?_
                refine pI 3 (some 121) ?_
                refine pI 4 (some 122) ?_
                refine pI 5 (some 123) ?_
                refine pI 9 (some 127) ?_
                refine pI 11 (some 129) ?_
                refine pI 12 (some 130) ?_
                refine pI 13 (some 131) ?_
                refine tI8 1 (some 119) hHeld ?_
                refine tI8 6 (some 124) hHeld ?_
                refine pI 7 (some 125) ?_
                refine tI8 8 (some 126) hHeld ?_
                refine pI 17 (some 18) ?_
                refine tI8 10 (some 128) hHeld ?_
                refine tI8 14 (some 132) hHeld ?_
                refine pI 15 (some 133) ?_
                refine tI8 16 (some 134) hHeld ?_
                refine pI 18 (some 19) ?_
                refine done_ (done_of HT_.out (by kernel_rfl)) ?_
                try go_wp2
                go_roundg kj41
                case measure => have:=HJ4.out;have:=HJ18.out;have:=HK3.out;have:=HK4.out;have:=HJ41.out;omega
                case rel => exact ⟨((((rd l0_3 (rd t189 x13_3)) == 1) == (decide (x81_4 < 2)))),(wrap64 (x81_4 + 1)),(by first|rfl|(simp;done)|(simp [*];done)),(by first|rfl|(simp;done)|(simp [*];done)),H',⟨by have:=HJ4.out;have:=HJ18.out;have:=HK3.out;have:=HK4.out;have:=HJ41.out;omega⟩,⟨Kd.R_up HO_9.out⟩,⟨Kd.R_up HO_11.out⟩,⟨blk_up BK186.out⟩,⟨hb_⟩⟩
             ·replace c53:=Bool.eq_false_iff.mpr c53
              subst c53
              have H1 : (hinterlandlaw04_RoadGoesWays.l1 kj41 a1 t189 t194 x13_3 x14_4 (wrap64 (x81_4 + 1)) a0_0 a0_1 l0_2 l0_3) = some r:=by rw [if_neg (show ¬ (false = true) by decide)] at H;exact H
              clear H
              have H:=H1
              clear H1
              have H':=Aside0.mk H
              clear H
              go_wp2
              go_roundg kj41
              case measure => have:=HJ4.out;have:=HJ18.out;have:=HK3.out;have:=HK4.out;have:=HJ41.out;omega
              case rel => exact ⟨(x14_4),(wrap64 (x81_4 + 1)),(by first|rfl|(simp;done)|(simp [*];done)),(by first|rfl|(simp;done)|(simp [*];done)),H',⟨by have:=HJ4.out;have:=HJ18.out;have:=HK3.out;have:=HK4.out;have:=HJ41.out;omega⟩,⟨Kd.R_up HO_9.out⟩,⟨Kd.R_up HO_11.out⟩,⟨blk_up BK186.out⟩,⟨hb_⟩⟩

end Go.Proofs.Ytbdekjjdojbokaa.P

/- Functions of this seat as plain Lean functions, with proofs that the Go code comes to just their answers, or what stands between them and a law's statement; no conditions. (Laid by a program of this session, out of the kit's print.) -/
import Derived.Test.YtiencnnkphipoaaPx0
import Derived.Test.YtiencnnkphipoaaPx8
import Derived.Test.YtiencnnkphipoaaPx10
import Derived.Test.YtiencnnkphipoaaPx27
namespace Go.Proofs.Ytiencnnkphipoaa.P
open Go.RowKit Go.Proofs.YtiencnnkphipoaaW.PrintWords Go.Proofs.YtiencnnkphipoaaW.PrintLast Go.Proofs.YtiencnnkphipoaaW.PrintMore
attribute [local go_sem] max2_int min2_int max_two min_two max_three min_three max_four min_four   -- for this text's walks alone
set_option linter.unusedVariables false
set_option linter.unusedSimpArgs false

/-! ### hinterlandref06_Sail: function 20 -/
mutual
def hinterlandref06_Sail.j0 : Nat → Int → Int → Bool → Int → Int → List Int → List Int → List Int → Option (List Int × Int)
 | 0,_,_,_,_,_,_,_,_ => none
 | k + 1,x2,x3,x53,x680000,x680001,x680002,x681000,x681001 => if x53 = true then (some (([] : List Int),2)) else (if 0 ≤ (x681000.length : Int) then (if ((x681000.length : Int) : Int).toNat ≤ 35184372088832 then ((some (List.replicate ((x681000.length : Int) : Int).toNat 0 : List Int)).bind fun y686 => (hinterlandref06_Sail.l0 k x2 x3 y686 (y686.length : Int) 0 x680000 x680001 x680002 x681000 x681001)) else (none)) else (none))
def hinterlandref06_Sail.l0 : Nat → Int → Int → List Int → Int → Int → Int → Int → List Int → List Int → List Int → Option (List Int × Int)
 | 0,_,_,_,_,_,_,_,_,_,_ => none
 | k + 1,x2,x3,x11,x59,x60,x680000,x680001,x680002,x681000,x681001 => if x60 < x59 then (if 0 ≤ x60 then (if x60 < (x11.length : Int) then (hinterlandref06_Sail.l0 k x2 x3 (x11.set (x60 : Int).toNat (-1)) x59 (wrap64 (x60 + 1)) x680000 x680001 x680002 x681000 x681001) else (none)) else (none)) else (if 0 ≤ x3 then (if x3 < (x11.length : Int) then (hinterlandref06_Sail.l1 k x2 x3 (x11.set (x3 : Int).toNat 0) (([x3] : List Int)) 0 x680000 x680001 x680002 x681000 x681001) else (none)) else (none))
def hinterlandref06_Sail.l1 : Nat → Int → Int → List Int → List Int → Int → Int → Int → List Int → List Int → List Int → Option (List Int × Int)
 | 0,_,_,_,_,_,_,_,_,_,_ => none
 | k + 1,x2,x3,x11,x13,x14,x680000,x680001,x680002,x681000,x681001 => if x14 < (x13.length : Int) then (hinterlandref06_Sail.l2 k x2 x3 x11 x13 x14 0 x680000 x680001 x680002 x681000 x681001) else (if 0 ≤ x2 then (if x2 < (x11.length : Int) then (if (rd x11 x2) < 0 then (some (([] : List Int),2)) else (hinterlandref06_Sail.l3 k x3 x11 (([x2] : List Int)) x2 x680000 x680001 x680002 x681000 x681001)) else (none)) else (none))
def hinterlandref06_Sail.l2 : Nat → Int → Int → List Int → List Int → Int → Int → Int → Int → List Int → List Int → List Int → Option (List Int × Int)
 | 0,_,_,_,_,_,_,_,_,_,_,_ => none
 | k + 1,x2,x3,x11,x13,x14,x78,x680000,x680001,x680002,x681000,x681001 => if x78 < 4 then (if 0 ≤ x14 then (if x14 < (x13.length : Int) then ((hinterlandref06_Meets.f k x680000 x680001 x680002 x681000 x681001 (rd x13 x14) x78).bind fun t695 => (if t695 ≥ 0 then (if 0 ≤ t695 then (if t695 < (x11.length : Int) then (hinterlandref06_Sail.j4 k x2 x3 x11 x13 x14 t695 x78 (decide ((rd x11 t695) < 0)) x680000 x680001 x680002 x681000 x681001) else (none)) else (none)) else (hinterlandref06_Sail.j4 k x2 x3 x11 x13 x14 t695 x78 false x680000 x680001 x680002 x681000 x681001))) else (none)) else (none)) else (hinterlandref06_Sail.l1 k x2 x3 x11 x13 (wrap64 (x14 + 1)) x680000 x680001 x680002 x681000 x681001)
def hinterlandref06_Sail.j4 : Nat → Int → Int → List Int → List Int → Int → Int → Int → Bool → Int → Int → List Int → List Int → List Int → Option (List Int × Int)
 | 0,_,_,_,_,_,_,_,_,_,_,_,_,_ => none
 | k + 1,x2,x3,x11,x13,x14,x16,x78,x97,x680000,x680001,x680002,x681000,x681001 => if x97 = true then (if 0 ≤ x14 then (if x14 < (x13.length : Int) then (if 0 ≤ (rd x13 x14) then (if (rd x13 x14) < (x11.length : Int) then (if 0 ≤ x16 then (if x16 < (x11.length : Int) then (if x13.length < 17592186044416 then (hinterlandref06_Sail.l2 k x2 x3 (x11.set (x16 : Int).toNat (wrap64 ((rd x11 (rd x13 x14)) + 1))) (x13 ++ [x16]) x14 (wrap64 (x78 + 1)) x680000 x680001 x680002 x681000 x681001) else (none)) else (none)) else (none)) else (none)) else (none)) else (none)) else (none)) else (hinterlandref06_Sail.l2 k x2 x3 x11 x13 x14 (wrap64 (x78 + 1)) x680000 x680001 x680002 x681000 x681001)
def hinterlandref06_Sail.l3 : Nat → Int → List Int → List Int → Int → Int → Int → List Int → List Int → List Int → Option (List Int × Int)
 | 0,_,_,_,_,_,_,_,_,_ => none
 | k + 1,x3,x11,x17,x18,x680000,x680001,x680002,x681000,x681001 => if x18 = x3 then (some (x17,0)) else (hinterlandref06_Sail.l4 k x3 x11 x17 x18 (-1) 0 x680000 x680001 x680002 x681000 x681001)
def hinterlandref06_Sail.l4 : Nat → Int → List Int → List Int → Int → Int → Int → Int → Int → List Int → List Int → List Int → Option (List Int × Int)
 | 0,_,_,_,_,_,_,_,_,_,_,_ => none
 | k + 1,x3,x11,x17,x18,x19,x125,x680000,x680001,x680002,x681000,x681001 => if x125 < 4 then ((hinterlandref06_Meets.f k x680000 x680001 x680002 x681000 x681001 x18 x125).bind fun t710 => (if t710 ≥ 0 then (if 0 ≤ t710 then (if t710 < (x11.length : Int) then (if 0 ≤ x18 then (if x18 < (x11.length : Int) then (if (rd x11 t710) = (wrap64 ((rd x11 x18) - 1)) then (if x19 < 0 then (hinterlandref06_Sail.j7 k x3 x11 x17 x18 x19 t710 x125 true x680000 x680001 x680002 x681000 x681001) else (hinterlandref06_Sail.j7 k x3 x11 x17 x18 x19 t710 x125 (decide (t710 < x19)) x680000 x680001 x680002 x681000 x681001)) else (hinterlandref06_Sail.j7 k x3 x11 x17 x18 x19 t710 x125 false x680000 x680001 x680002 x681000 x681001)) else (none)) else (none)) else (none)) else (none)) else (hinterlandref06_Sail.j7 k x3 x11 x17 x18 x19 t710 x125 false x680000 x680001 x680002 x681000 x681001))) else (if x17.length < 17592186044416 then (hinterlandref06_Sail.l3 k x3 x11 (x17 ++ [x19]) x19 x680000 x680001 x680002 x681000 x681001) else (none))
def hinterlandref06_Sail.j7 : Nat → Int → List Int → List Int → Int → Int → Int → Int → Bool → Int → Int → List Int → List Int → List Int → Option (List Int × Int)
 | 0,_,_,_,_,_,_,_,_,_,_,_,_,_ => none
 | k + 1,x3,x11,x17,x18,x19,x21,x125,x155,x680000,x680001,x680002,x681000,x681001 => if x155 = true then (hinterlandref06_Sail.l4 k x3 x11 x17 x18 x21 (wrap64 (x125 + 1)) x680000 x680001 x680002 x681000 x681001) else (hinterlandref06_Sail.l4 k x3 x11 x17 x18 x19 (wrap64 (x125 + 1)) x680000 x680001 x680002 x681000 x681001)
end
def hinterlandref06_Sail.f (k : Nat) (a0_0 : Int) (a0_1 : Int) (l0_2 : List Int) (l1_0 : List Int) (l1_1 : List Int) (a2 : Int) (a3 : Int) : Option (List Int × Int) := (hinterlandref06_Validate.f k a0_0 a0_1 l0_2 l1_0 l1_1).bind fun t681 => (if t681 = 0 then ((hinterlandref02_Is.f a0_0 a0_1 l0_2 a2).bind fun t682 => (if t682 = true then ((hinterlandref02_Is.f a0_0 a0_1 l0_2 a3).bind fun t683 => (if t683 = true then ((hinterlandref06_Wet.f k a0_0 a0_1 l0_2 l1_0 a2).bind fun t684 => (if t684 = true then ((hinterlandref06_Wet.f k a0_0 a0_1 l0_2 l1_0 a3).bind fun t685 => (hinterlandref06_Sail.j0 k a2 a3 (!t685) a0_0 a0_1 l0_2 l1_0 l1_1)) else (hinterlandref06_Sail.j0 k a2 a3 true a0_0 a0_1 l0_2 l1_0 l1_1))) else (hinterlandref06_Sail.j0 k a2 a3 true a0_0 a0_1 l0_2 l1_0 l1_1))) else (hinterlandref06_Sail.j0 k a2 a3 true a0_0 a0_1 l0_2 l1_0 l1_1))) else (some (([] : List Int), t681)))
theorem hinterlandref06_Sail.mono_l : ∀ k, (∀ y0 y1 y2 y3 y4 y5 y6 y7, LeO (hinterlandref06_Sail.j0 k y0 y1 y2 y3 y4 y5 y6 y7) (hinterlandref06_Sail.j0 (k + 1) y0 y1 y2 y3 y4 y5 y6 y7)) ∧ (∀ y0 y1 y2 y3 y4 y5 y6 y7 y8 y9, LeO (hinterlandref06_Sail.l0 k y0 y1 y2 y3 y4 y5 y6 y7 y8 y9) (hinterlandref06_Sail.l0 (k + 1) y0 y1 y2 y3 y4 y5 y6 y7 y8 y9)) ∧ (∀ y0 y1 y2 y3 y4 y5 y6 y7 y8 y9, LeO (hinterlandref06_Sail.l1 k y0 y1 y2 y3 y4 y5 y6 y7 y8 y9) (hinterlandref06_Sail.l1 (k + 1) y0 y1 y2 y3 y4 y5 y6 y7 y8 y9)) ∧ (∀ y0 y1 y2 y3 y4 y5 y6 y7 y8 y9 y10, LeO (hinterlandref06_Sail.l2 k y0 y1 y2 y3 y4 y5 y6 y7 y8 y9 y10) (hinterlandref06_Sail.l2 (k + 1) y0 y1 y2 y3 y4 y5 y6 y7 y8 y9 y10)) ∧ (∀ y0 y1 y2 y3 y4 y5 y6 y7 y8 y9 y10 y11 y12, LeO (hinterlandref06_Sail.j4 k y0 y1 y2 y3 y4 y5 y6 y7 y8 y9 y10 y11 y12) (hinterlandref06_Sail.j4 (k + 1) y0 y1 y2 y3 y4 y5 y6 y7 y8 y9 y10 y11 y12)) ∧ (∀ y0 y1 y2 y3 y4 y5 y6 y7 y8, LeO (hinterlandref06_Sail.l3 k y0 y1 y2 y3 y4 y5 y6 y7 y8) (hinterlandref06_Sail.l3 (k + 1) y0 y1 y2 y3 y4 y5 y6 y7 y8)) ∧ (∀ y0 y1 y2 y3 y4 y5 y6 y7 y8 y9 y10, LeO (hinterlandref06_Sail.l4 k y0 y1 y2 y3 y4 y5 y6 y7 y8 y9 y10) (hinterlandref06_Sail.l4 (k + 1) y0 y1 y2 y3 y4 y5 y6 y7 y8 y9 y10)) ∧ (∀ y0 y1 y2 y3 y4 y5 y6 y7 y8 y9 y10 y11 y12, LeO (hinterlandref06_Sail.j7 k y0 y1 y2 y3 y4 y5 y6 y7 y8 y9 y10 y11 y12) (hinterlandref06_Sail.j7 (k + 1) y0 y1 y2 y3 y4 y5 y6 y7 y8 y9 y10 y11 y12))
 | 0 => ⟨fun _ _ _ _ _ _ _ _ r h => by simp [hinterlandref06_Sail.j0] at h,fun _ _ _ _ _ _ _ _ _ _ r h => by simp [hinterlandref06_Sail.l0] at h,fun _ _ _ _ _ _ _ _ _ _ r h => by simp [hinterlandref06_Sail.l1] at h,fun _ _ _ _ _ _ _ _ _ _ _ r h => by simp [hinterlandref06_Sail.l2] at h,fun _ _ _ _ _ _ _ _ _ _ _ _ _ r h => by simp [hinterlandref06_Sail.j4] at h,fun _ _ _ _ _ _ _ _ _ r h => by simp [hinterlandref06_Sail.l3] at h,fun _ _ _ _ _ _ _ _ _ _ _ r h => by simp [hinterlandref06_Sail.l4] at h,fun _ _ _ _ _ _ _ _ _ _ _ _ _ r h => by simp [hinterlandref06_Sail.j7] at h⟩
 | k + 1 => by
  obtain ⟨ih0,ih1,ih2,ih3,ih4,ih5,ih6,ih7⟩:=hinterlandref06_Sail.mono_l k
  refine ⟨?_,?_,?_,?_,?_,?_,?_,?_⟩
  ·intro y0 y1 y2 y3 y4 y5 y6 y7
   unfold hinterlandref06_Sail.j0
   repeat' first
   | (with_reducible exact ih0 _ _ _ _ _ _ _ _)
   | (with_reducible exact ih1 _ _ _ _ _ _ _ _ _ _)
   | (with_reducible exact ih2 _ _ _ _ _ _ _ _ _ _)
   | (with_reducible exact ih3 _ _ _ _ _ _ _ _ _ _ _)
   | (with_reducible exact ih4 _ _ _ _ _ _ _ _ _ _ _ _ _)
   | (with_reducible exact ih5 _ _ _ _ _ _ _ _ _)
   | (with_reducible exact ih6 _ _ _ _ _ _ _ _ _ _ _)
   | (with_reducible exact ih7 _ _ _ _ _ _ _ _ _ _ _ _ _)
   | (with_reducible exact hinterlandref06_Meets.mono _ _ _ _ _ _ _ _)
   | (with_reducible exact hinterlandref06_Validate.mono _ _ _ _ _ _)
   | (with_reducible exact hinterlandref06_Wet.mono _ _ _ _ _ _)
   | (with_reducible exact LeO.refl _)
   | (with_reducible exact LeO.none _)
   | (with_reducible refine LeO.ite ?_ ?_)
   | (with_reducible refine LeO.bind ?_ (fun _ => ?_))
   | exact ih0 _ _ _ _ _ _ _ _
   | exact ih1 _ _ _ _ _ _ _ _ _ _
   | exact ih2 _ _ _ _ _ _ _ _ _ _
   | exact ih3 _ _ _ _ _ _ _ _ _ _ _
   | exact ih4 _ _ _ _ _ _ _ _ _ _ _ _ _
   | exact ih5 _ _ _ _ _ _ _ _ _
   | exact ih6 _ _ _ _ _ _ _ _ _ _ _
   | exact ih7 _ _ _ _ _ _ _ _ _ _ _ _ _
   | exact hinterlandref06_Meets.mono _ _ _ _ _ _ _ _
   | exact hinterlandref06_Validate.mono _ _ _ _ _ _
   | exact hinterlandref06_Wet.mono _ _ _ _ _ _
   | exact LeO.none _
   | refine LeO.ite ?_ ?_
   | refine LeO.bind ?_ (fun _ => ?_)
  ·intro y0 y1 y2 y3 y4 y5 y6 y7 y8 y9
   unfold hinterlandref06_Sail.l0
   repeat' first
   | (with_reducible exact ih0 _ _ _ _ _ _ _ _)
   | (with_reducible exact ih1 _ _ _ _ _ _ _ _ _ _)
   | (with_reducible exact ih2 _ _ _ _ _ _ _ _ _ _)
   | (with_reducible exact ih3 _ _ _ _ _ _ _ _ _ _ _)
   | (with_reducible exact ih4 _ _ _ _ _ _ _ _ _ _ _ _ _)
   | (with_reducible exact ih5 _ _ _ _ _ _ _ _ _)
   | (with_reducible exact ih6 _ _ _ _ _ _ _ _ _ _ _)
   | (with_reducible exact ih7 _ _ _ _ _ _ _ _ _ _ _ _ _)
   | (with_reducible exact hinterlandref06_Meets.mono _ _ _ _ _ _ _ _)
   | (with_reducible exact hinterlandref06_Validate.mono _ _ _ _ _ _)
   | (with_reducible exact hinterlandref06_Wet.mono _ _ _ _ _ _)
   | (with_reducible exact LeO.refl _)
   | (with_reducible exact LeO.none _)
   | (with_reducible refine LeO.ite ?_ ?_)
   | (with_reducible refine LeO.bind ?_ (fun _ => ?_))
   | exact ih0 _ _ _ _ _ _ _ _
   | exact ih1 _ _ _ _ _ _ _ _ _ _
   | exact ih2 _ _ _ _ _ _ _ _ _ _
   | exact ih3 _ _ _ _ _ _ _ _ _ _ _
   | exact ih4 _ _ _ _ _ _ _ _ _ _ _ _ _
   | exact ih5 _ _ _ _ _ _ _ _ _
   | exact ih6 _ _ _ _ _ _ _ _ _ _ _
   | exact ih7 _ _ _ _ _ _ _ _ _ _ _ _ _
   | exact hinterlandref06_Meets.mono _ _ _ _ _ _ _ _
   | exact hinterlandref06_Validate.mono _ _ _ _ _ _
   | exact hinterlandref06_Wet.mono _ _ _ _ _ _
   | exact LeO.none _
   | refine LeO.ite ?_ ?_
   | refine LeO.bind ?_ (fun _ => ?_)
  ·intro y0 y1 y2 y3 y4 y5 y6 y7 y8 y9
   unfold hinterlandref06_Sail.l1
   repeat' first
   | (with_reducible exact ih0 _ _ _ _ _ _ _ _)
   | (with_reducible exact ih1 _ _ _ _ _ _ _ _ _ _)
   | (with_reducible exact ih2 _ _ _ _ _ _ _ _ _ _)
   | (with_reducible exact ih3 _ _ _ _ _ _ _ _ _ _ _)
   | (with_reducible exact ih4 _ _ _ _ _ _ _ _ _ _ _ _ _)
   | (with_reducible exact ih5 _ _ _ _ _ _ _ _ _)
   | (with_reducible exact ih6 _ _ _ _ _ _ _ _ _ _ _)
   | (with_reducible exact ih7 _ _ _ _ _ _ _ _ _ _ _ _ _)
   | (with_reducible exact hinterlandref06_Meets.mono _ _ _ _ _ _ _ _)
   | (with_reducible exact hinterlandref06_Validate.mono _ _ _ _ _ _)
   | (with_reducible exact hinterlandref06_Wet.mono _ _ _ _ _ _)
   | (with_reducible exact LeO.refl _)
   | (with_reducible exact LeO.none _)
   | (with_reducible refine LeO.ite ?_ ?_)
   | (with_reducible refine LeO.bind ?_ (fun _ => ?_))
   | exact ih0 _ _ _ _ _ _ _ _
   | exact ih1 _ _ _ _ _ _ _ _ _ _
   | exact ih2 _ _ _ _ _ _ _ _ _ _
   | exact ih3 _ _ _ _ _ _ _ _ _ _ _
   | exact ih4 _ _ _ _ _ _ _ _ _ _ _ _ _
   | exact ih5 _ _ _ _ _ _ _ _ _
   | exact ih6 _ _ _ _ _ _ _ _ _ _ _
   | exact ih7 _ _ _ _ _ _ _ _ _ _ _ _ _
   | exact hinterlandref06_Meets.mono _ _ _ _ _ _ _ _
   | exact hinterlandref06_Validate.mono _ _ _ _ _ _
   | exact hinterlandref06_Wet.mono _ _ _ _ _ _
   | exact LeO.none _
   | refine LeO.ite ?_ ?_
   | refine LeO.bind ?_ (fun _ => ?_)
  ·intro y0 y1 y2 y3 y4 y5 y6 y7 y8 y9 y10
   unfold hinterlandref06_Sail.l2
   repeat' first
   | (with_reducible exact ih0 _ _ _ _ _ _ _ _)
   | (with_reducible exact ih1 _ _ _ _ _ _ _ _ _ _)
   | (with_reducible exact ih2 _ _ _ _ _ _ _ _ _ _)
   | (with_reducible exact ih3 _ _ _ _ _ _ _ _ _ _ _)
   | (with_reducible exact ih4 _ _ _ _ _ _ _ _ _ _ _ _ _)
   | (with_reducible exact ih5 _ _ _ _ _ _ _ _ _)
   | (with_reducible exact ih6 _ _ _ _ _ _ _ _ _ _ _)
   | (with_reducible exact ih7 _ _ _ _ _ _ _ _ _ _ _ _ _)
   | (with_reducible exact hinterlandref06_Meets.mono _ _ _ _ _ _ _ _)
   | (with_reducible exact hinterlandref06_Validate.mono _ _ _ _ _ _)
   | (with_reducible exact hinterlandref06_Wet.mono _ _ _ _ _ _)
   | (with_reducible exact LeO.refl _)
   | (with_reducible exact LeO.none _)
   | (with_reducible refine LeO.ite ?_ ?_)
   | (with_reducible refine LeO.bind ?_ (fun _ => ?_))
   | exact ih0 _ _ _ _ _ _ _ _
   | exact ih1 _ _ _ _ _ _ _ _ _ _
   | exact ih2 _ _ _ _ _ _ _ _ _ _
   | exact ih3 _ _ _ _ _ _ _ _ _ _ _
   | exact ih4 _ _ _ _ _ _ _ _ _ _ _ _ _
   | exact ih5 _ _ _ _ _ _ _ _ _
   | exact ih6 _ _ _ _ _ _ _ _ _ _ _
   | exact ih7 _ _ _ _ _ _ _ _ _ _ _ _ _
   | exact hinterlandref06_Meets.mono _ _ _ _ _ _ _ _
   | exact hinterlandref06_Validate.mono _ _ _ _ _ _
   | exact hinterlandref06_Wet.mono _ _ _ _ _ _
   | exact LeO.none _
   | refine LeO.ite ?_ ?_
   | refine LeO.bind ?_ (fun _ => ?_)
  ·intro y0 y1 y2 y3 y4 y5 y6 y7 y8 y9 y10 y11 y12
   unfold hinterlandref06_Sail.j4
   repeat' first
   | (with_reducible exact ih0 _ _ _ _ _ _ _ _)
   | (with_reducible exact ih1 _ _ _ _ _ _ _ _ _ _)
   | (with_reducible exact ih2 _ _ _ _ _ _ _ _ _ _)
   | (with_reducible exact ih3 _ _ _ _ _ _ _ _ _ _ _)
   | (with_reducible exact ih4 _ _ _ _ _ _ _ _ _ _ _ _ _)
   | (with_reducible exact ih5 _ _ _ _ _ _ _ _ _)
   | (with_reducible exact ih6 _ _ _ _ _ _ _ _ _ _ _)
   | (with_reducible exact ih7 _ _ _ _ _ _ _ _ _ _ _ _ _)
   | (with_reducible exact hinterlandref06_Meets.mono _ _ _ _ _ _ _ _)
   | (with_reducible exact hinterlandref06_Validate.mono _ _ _ _ _ _)
   | (with_reducible exact hinterlandref06_Wet.mono _ _ _ _ _ _)
   | (with_reducible exact LeO.refl _)
   | (with_reducible exact LeO.none _)
   | (with_reducible refine LeO.ite ?_ ?_)
   | (with_reducible refine LeO.bind ?_ (fun _ => ?_))
   | exact ih0 _ _ _ _ _ _ _ _
   | exact ih1 _ _ _ _ _ _ _ _ _ _
   | exact ih2 _ _ _ _ _ _ _ _ _ _
   | exact ih3 _ _ _ _ _ _ _ _ _ _ _
   | exact ih4 _ _ _ _ _ _ _ _ _ _ _ _ _
   | exact ih5 _ _ _ _ _ _ _ _ _
   | exact ih6 _ _ _ _ _ _ _ _ _ _ _
   | exact ih7 _ _ _ _ _ _ _ _ _ _ _ _ _
   | exact hinterlandref06_Meets.mono _ _ _ _ _ _ _ _
   | exact hinterlandref06_Validate.mono _ _ _ _ _ _
   | exact hinterlandref06_Wet.mono _ _ _ _ _ _
   | exact LeO.none _
   | refine LeO.ite ?_ ?_
   | refine LeO.bind ?_ (fun _ => ?_)
  ·intro y0 y1 y2 y3 y4 y5 y6 y7 y8
   unfold hinterlandref06_Sail.l3
   repeat' first
   | (with_reducible exact ih0 _ _ _ _ _ _ _ _)
   | (with_reducible exact ih1 _ _ _ _ _ _ _ _ _ _)
   | (with_reducible exact ih2 _ _ _ _ _ _ _ _ _ _)
   | (with_reducible exact ih3 _ _ _ _ _ _ _ _ _ _ _)
   | (with_reducible exact ih4 _ _ _ _ _ _ _ _ _ _ _ _ _)
   | (with_reducible exact ih5 _ _ _ _ _ _ _ _ _)
   | (with_reducible exact ih6 _ _ _ _ _ _ _ _ _ _ _)
   | (with_reducible exact ih7 _ _ _ _ _ _ _ _ _ _ _ _ _)
   | (with_reducible exact hinterlandref06_Meets.mono _ _ _ _ _ _ _ _)
   | (with_reducible exact hinterlandref06_Validate.mono _ _ _ _ _ _)
   | (with_reducible exact hinterlandref06_Wet.mono _ _ _ _ _ _)
   | (with_reducible exact LeO.refl _)
   | (with_reducible exact LeO.none _)
   | (with_reducible refine LeO.ite ?_ ?_)
   | (with_reducible refine LeO.bind ?_ (fun _ => ?_))
   | exact ih0 _ _ _ _ _ _ _ _
   | exact ih1 _ _ _ _ _ _ _ _ _ _
   | exact ih2 _ _ _ _ _ _ _ _ _ _
   | exact ih3 _ _ _ _ _ _ _ _ _ _ _
   | exact ih4 _ _ _ _ _ _ _ _ _ _ _ _ _
   | exact ih5 _ _ _ _ _ _ _ _ _
   | exact ih6 _ _ _ _ _ _ _ _ _ _ _
   | exact ih7 _ _ _ _ _ _ _ _ _ _ _ _ _
   | exact hinterlandref06_Meets.mono _ _ _ _ _ _ _ _
   | exact hinterlandref06_Validate.mono _ _ _ _ _ _
   | exact hinterlandref06_Wet.mono _ _ _ _ _ _
   | exact LeO.none _
   | refine LeO.ite ?_ ?_
   | refine LeO.bind ?_ (fun _ => ?_)
  ·intro y0 y1 y2 y3 y4 y5 y6 y7 y8 y9 y10
   unfold hinterlandref06_Sail.l4
   repeat' first
   | (with_reducible exact ih0 _ _ _ _ _ _ _ _)
   | (with_reducible exact ih1 _ _ _ _ _ _ _ _ _ _)
   | (with_reducible exact ih2 _ _ _ _ _ _ _ _ _ _)
   | (with_reducible exact ih3 _ _ _ _ _ _ _ _ _ _ _)
   | (with_reducible exact ih4 _ _ _ _ _ _ _ _ _ _ _ _ _)
   | (with_reducible exact ih5 _ _ _ _ _ _ _ _ _)
   | (with_reducible exact ih6 _ _ _ _ _ _ _ _ _ _ _)
   | (with_reducible exact ih7 _ _ _ _ _ _ _ _ _ _ _ _ _)
   | (with_reducible exact hinterlandref06_Meets.mono _ _ _ _ _ _ _ _)
   | (with_reducible exact hinterlandref06_Validate.mono _ _ _ _ _ _)
   | (with_reducible exact hinterlandref06_Wet.mono _ _ _ _ _ _)
   | (with_reducible exact LeO.refl _)
   | (with_reducible exact LeO.none _)
   | (with_reducible refine LeO.ite ?_ ?_)
   | (with_reducible refine LeO.bind ?_ (fun _ => ?_))
   | exact ih0 _ _ _ _ _ _ _ _
   | exact ih1 _ _ _ _ _ _ _ _ _ _
   | exact ih2 _ _ _ _ _ _ _ _ _ _
   | exact ih3 _ _ _ _ _ _ _ _ _ _ _
   | exact ih4 _ _ _ _ _ _ _ _ _ _ _ _ _
   | exact ih5 _ _ _ _ _ _ _ _ _
   | exact ih6 _ _ _ _ _ _ _ _ _ _ _
   | exact ih7 _ _ _ _ _ _ _ _ _ _ _ _ _
   | exact hinterlandref06_Meets.mono _ _ _ _ _ _ _ _
   | exact hinterlandref06_Validate.mono _ _ _ _ _ _
   | exact hinterlandref06_Wet.mono _ _ _ _ _ _
   | exact LeO.none _
   | refine LeO.ite ?_ ?_
   | refine LeO.bind ?_ (fun _ => ?_)
  ·intro y0 y1 y2 y3 y4 y5 y6 y7 y8 y9 y10 y11 y12
   unfold hinterlandref06_Sail.j7
   repeat' first
   | (with_reducible exact ih0 _ _ _ _ _ _ _ _)
   | (with_reducible exact ih1 _ _ _ _ _ _ _ _ _ _)
   | (with_reducible exact ih2 _ _ _ _ _ _ _ _ _ _)
   | (with_reducible exact ih3 _ _ _ _ _ _ _ _ _ _ _)
   | (with_reducible exact ih4 _ _ _ _ _ _ _ _ _ _ _ _ _)
   | (with_reducible exact ih5 _ _ _ _ _ _ _ _ _)
   | (with_reducible exact ih6 _ _ _ _ _ _ _ _ _ _ _)
   | (with_reducible exact ih7 _ _ _ _ _ _ _ _ _ _ _ _ _)
   | (with_reducible exact hinterlandref06_Meets.mono _ _ _ _ _ _ _ _)
   | (with_reducible exact hinterlandref06_Validate.mono _ _ _ _ _ _)
   | (with_reducible exact hinterlandref06_Wet.mono _ _ _ _ _ _)
   | (with_reducible exact LeO.refl _)
   | (with_reducible exact LeO.none _)
   | (with_reducible refine LeO.ite ?_ ?_)
   | (with_reducible refine LeO.bind ?_ (fun _ => ?_))
   | exact ih0 _ _ _ _ _ _ _ _
   | exact ih1 _ _ _ _ _ _ _ _ _ _
   | exact ih2 _ _ _ _ _ _ _ _ _ _
   | exact ih3 _ _ _ _ _ _ _ _ _ _ _
   | exact ih4 _ _ _ _ _ _ _ _ _ _ _ _ _
   | exact ih5 _ _ _ _ _ _ _ _ _
   | exact ih6 _ _ _ _ _ _ _ _ _ _ _
   | exact ih7 _ _ _ _ _ _ _ _ _ _ _ _ _
   | exact hinterlandref06_Meets.mono _ _ _ _ _ _ _ _
   | exact hinterlandref06_Validate.mono _ _ _ _ _ _
   | exact hinterlandref06_Wet.mono _ _ _ _ _ _
   | exact LeO.none _
   | refine LeO.ite ?_ ?_
   | refine LeO.bind ?_ (fun _ => ?_)
theorem hinterlandref06_Sail.mono : ∀ a0 a1 a2 a3 a4 a5 a6 k, LeO (hinterlandref06_Sail.f k a0 a1 a2 a3 a4 a5 a6) (hinterlandref06_Sail.f (k + 1) a0 a1 a2 a3 a4 a5 a6) := by
 intro a0 a1 a2 a3 a4 a5 a6 k
 obtain ⟨ih0,ih1,ih2,ih3,ih4,ih5,ih6,ih7⟩:=hinterlandref06_Sail.mono_l k
 unfold hinterlandref06_Sail.f
 repeat' first
   | (with_reducible exact ih0 _ _ _ _ _ _ _ _)
   | (with_reducible exact ih1 _ _ _ _ _ _ _ _ _ _)
   | (with_reducible exact ih2 _ _ _ _ _ _ _ _ _ _)
   | (with_reducible exact ih3 _ _ _ _ _ _ _ _ _ _ _)
   | (with_reducible exact ih4 _ _ _ _ _ _ _ _ _ _ _ _ _)
   | (with_reducible exact ih5 _ _ _ _ _ _ _ _ _)
   | (with_reducible exact ih6 _ _ _ _ _ _ _ _ _ _ _)
   | (with_reducible exact ih7 _ _ _ _ _ _ _ _ _ _ _ _ _)
   | (with_reducible exact hinterlandref06_Meets.mono _ _ _ _ _ _ _ _)
   | (with_reducible exact hinterlandref06_Validate.mono _ _ _ _ _ _)
   | (with_reducible exact hinterlandref06_Wet.mono _ _ _ _ _ _)
   | (with_reducible exact LeO.refl _)
   | (with_reducible exact LeO.none _)
   | (with_reducible refine LeO.ite ?_ ?_)
   | (with_reducible refine LeO.bind ?_ (fun _ => ?_))
   | exact ih0 _ _ _ _ _ _ _ _
   | exact ih1 _ _ _ _ _ _ _ _ _ _
   | exact ih2 _ _ _ _ _ _ _ _ _ _
   | exact ih3 _ _ _ _ _ _ _ _ _ _ _
   | exact ih4 _ _ _ _ _ _ _ _ _ _ _ _ _
   | exact ih5 _ _ _ _ _ _ _ _ _
   | exact ih6 _ _ _ _ _ _ _ _ _ _ _
   | exact ih7 _ _ _ _ _ _ _ _ _ _ _ _ _
   | exact hinterlandref06_Meets.mono _ _ _ _ _ _ _ _
   | exact hinterlandref06_Validate.mono _ _ _ _ _ _
   | exact hinterlandref06_Wet.mono _ _ _ _ _ _
   | exact LeO.none _
   | refine LeO.ite ?_ ?_
   | refine LeO.bind ?_ (fun _ => ?_)
def hinterlandref06_Sail.T20 : Bool × List (List Nat × List Nat) := (true, [([], []), ([], []), ([], []), ([], []), ([2, 3], [2, 3]), ([4], [4]), ([], []), ([0, 1, 5, 6], [0, 1, 5, 6]), ([7, 7, 0, 1, 2, 3, 4, 5, 6, 7], [7])])
def hinterlandref06_Sail.B20 : List Nat := [0, 0, 0, 0, 12, 28, 0, 127, 255]
theorem hinterlandref06_Sail.tab20 : rtab .any (opsOf Try.f20 20) = hinterlandref06_Sail.T20 := by kernel_rfl
theorem hinterlandref06_Sail.bits20 : waitsOk hinterlandref06_Sail.T20.2 hinterlandref06_Sail.B20 = true := by kernel_rfl
def hinterlandref06_Sail.T35 : Bool × List (List Nat × List Nat) := (true, [([], []), ([0], [0]), ([1], [1]), ([2], [2]), ([2], [2]), ([3, 4, 2], [2, 3, 4]), ([5, 2], [2, 5]), ([2], [2]), ([2], [2]), ([7, 8, 2], [2, 7, 8]), ([9, 2], [2, 9]), ([10, 2], [2, 10]), ([6, 11, 2], [2, 6, 11]), ([2, 12], [2, 12]), ([13, 2], [13]), ([14], [14]), ([15, 14], [14, 15]), ([16, 14, 14], [14, 16]), ([17], [17]), ([17], [17]), ([18, 19, 17], [17, 18, 19]), ([17, 20, 14], [14, 17, 20]), ([14, 21], [14, 21])])
def hinterlandref06_Sail.B35 : List Nat := [0, 1, 3, 7, 7, 31, 63, 7, 7, 391, 903, 1927, 4095, 8191, 16383, 32767, 65535, 131071, 262143, 262143, 1048575, 2097151, 4194303]
theorem hinterlandref06_Sail.tab35 : rtab .any (opsOf Try.f20 35) = hinterlandref06_Sail.T35 := by kernel_rfl
theorem hinterlandref06_Sail.bits35 : waitsOk hinterlandref06_Sail.T35.2 hinterlandref06_Sail.B35 = true := by kernel_rfl
set_option maxHeartbeats 8000000 in
set_option maxRecDepth 100000 in
theorem hinterlandref06_Sail.calls (k : Nat) (a0_0 : Int) (a0_1 : Int) (A0_2 : Option Addr) (c0_2 : Nat) (l0_2 : List Int) (A1_0 : Option Addr) (c1_0 : Nat) (l1_0 : List Int) (A1_1 : Option Addr) (c1_1 : Nat) (l1_1 : List Int) (a2 : Int) (a3 : Int) (r1 : List Int) (r2 : Int) (w : World) (hr0_2 : Kd.C (Kd.int .i64) w A0_2 l0_2.length l0_2) (hc0_2 : l0_2.length ≤ c0_2) (hr1_0 : Kd.C (Kd.int .i64) w A1_0 l1_0.length l1_0) (hc1_0 : l1_0.length ≤ c1_0) (hr1_1 : Kd.C (Kd.int .i64) w A1_1 l1_1.length l1_1) (hc1_1 : l1_1.length ≤ c1_1) (h : hinterlandref06_Sail.f k a0_0 a0_1 l0_2 l1_0 l1_1 a2 a3 = some (r1, r2)) :
  Calls Try.prog 20 #[.agg #[.int .i64 a0_0,.int .i64 a0_1,.slice A0_2 l0_2.length c0_2],.agg #[.slice A1_0 l1_0.length c1_0,.slice A1_1 l1_1.length c1_1],.int .i64 a2,.int .i64 a3] w fun e w' => ∃ v0_ : Value,e = .returned (.tuple #[v0_,.int .i64 r2]) ∧ Kd.R (Kd.int .i64) 3 w' w.heap.size (fun _ => True) v0_ r1 ∧ Below w.heap.size w w':=by
 have hu24:=Try.underlying24
 have hu26:=Try.underlying26
 have HR0_2:=Aside0.mk hr0_2
 have HC0_2:=Aside0.mk hc0_2
 clear hr0_2 hc0_2
 have HR1_0:=Aside0.mk hr1_0
 have HC1_0:=Aside0.mk hc1_0
 clear hr1_0 hc1_0
 have HR1_1:=Aside0.mk hr1_1
 have HC1_1:=Aside0.mk hc1_1
 clear hr1_1 hc1_1
 have HB:=Aside0.mk (Below.refl w.heap.size w)
 have H : ((hinterlandref06_Validate.f k a0_0 a0_1 l0_2 l1_0 l1_1).bind fun t681 => (if t681 = 0 then ((hinterlandref02_Is.f a0_0 a0_1 l0_2 a2).bind fun t682 => (if t682 = true then ((hinterlandref02_Is.f a0_0 a0_1 l0_2 a3).bind fun t683 => (if t683 = true then ((hinterlandref06_Wet.f k a0_0 a0_1 l0_2 l1_0 a2).bind fun t684 => (if t684 = true then ((hinterlandref06_Wet.f k a0_0 a0_1 l0_2 l1_0 a3).bind fun t685 => (hinterlandref06_Sail.j0 k a2 a3 (!t685) a0_0 a0_1 l0_2 l1_0 l1_1)) else (hinterlandref06_Sail.j0 k a2 a3 true a0_0 a0_1 l0_2 l1_0 l1_1))) else (hinterlandref06_Sail.j0 k a2 a3 true a0_0 a0_1 l0_2 l1_0 l1_1))) else (hinterlandref06_Sail.j0 k a2 a3 true a0_0 a0_1 l0_2 l1_0 l1_1))) else (some (([] : List Int),t681)))) = some (r1,r2):=h
 clear h
 replace H:=Option.bind_eq_some_iff.mp H
 obtain ⟨t681,A50,H⟩:=H
 replace H : (if t681 = 0 then ((hinterlandref02_Is.f a0_0 a0_1 l0_2 a2).bind fun t682 => (if t682 = true then ((hinterlandref02_Is.f a0_0 a0_1 l0_2 a3).bind fun t683 => (if t683 = true then ((hinterlandref06_Wet.f k a0_0 a0_1 l0_2 l1_0 a2).bind fun t684 => (if t684 = true then ((hinterlandref06_Wet.f k a0_0 a0_1 l0_2 l1_0 a3).bind fun t685 => (hinterlandref06_Sail.j0 k a2 a3 (!t685) a0_0 a0_1 l0_2 l1_0 l1_1)) else (hinterlandref06_Sail.j0 k a2 a3 true a0_0 a0_1 l0_2 l1_0 l1_1))) else (hinterlandref06_Sail.j0 k a2 a3 true a0_0 a0_1 l0_2 l1_0 l1_1))) else (hinterlandref06_Sail.j0 k a2 a3 true a0_0 a0_1 l0_2 l1_0 l1_1))) else (some (([] : List Int),t681))) = some (r1,r2):=H
 have A5:=Aside0.mk A50
 clear A50
 by_cases c6 : t681 = 0
 rotate_left
 ·rw [if_neg c6] at H
  have c6b0 : (t681 == 0) = false:=beq_eq_false_iff_ne.mpr c6
  have c6b1 : (t681 != 0) = true:=bne_iff_ne.mpr c6
  simp only [Option.some.injEq,Prod.mk.injEq] at H
  obtain ⟨rfl,rfl⟩:=H
  go_enter Try.func20,Try.ntmps20
  go_wp2_with (first|((with_reducible refine gate_dst (N:=4) rfl ?_);refine box_ev (N:=4) (cs:=#[.int .i64 a0_0,.int .i64 a0_1,.slice A0_2 l0_2.length c0_2]) (t:=24) ?_;intro gb679 hg w123 hbox hb;have BK679:=Aside0.mk (hbox);have GW679 : Aside0 (w.heap.size ≤ gb679):=gsz hg;have GE679:=GW679;replace HB:=Aside0.mk (below_step (hb_) hb);clear hb hbox hg)|((with_reducible refine gate_dst (N:=5) rfl ?_);refine box_ev (N:=5) (cs:=#[.slice A1_0 l1_0.length c1_0,.slice A1_1 l1_1.length c1_1]) (t:=26) ?_;intro gb680 hg w124 hbox hb;have BK680:=Aside0.mk (hbox);have GW680 : Aside0 (w.heap.size ≤ gb680):=gsz hg;have GE680:=GW680;have NB679_680:=nbl BK679 hg;have NB680_679:=nbr BK679 hg;replace BK679:=bkb BK679 hb;replace HB:=Aside0.mk (below_step (hb_) hb);clear hb hbox hg;have hnb125:=NB679_680.out;have hnc125:=NB680_679.out;obtain ⟨hcz126_0,hcz126_1,hcz126_2,hfz126_0,hfz126_1,hfz126_2⟩:=cells3 BK679.out;obtain ⟨hcz127_0,hcz127_1,hfz127_0,hfz127_1⟩:=cells2 BK680.out)|((with_reducible refine gate_callee (f:=23) rfl ?_);refine goesL_ (some 24) rfl rfl Try.func23 (by kernel_rfl) rfl #[.agg #[.int .i64 a0_0,.int .i64 a0_1,.slice A0_2 l0_2.length c0_2],.agg #[.slice A1_0 l1_0.length c1_0,.slice A1_1 l1_1.length c1_1]] rfl (by (try simp only [List.map_toArray,List.map_cons,List.map_nil]);first|done|rfl|(simp only [List.length_drop,List.length_take];rfl)) ?_;(with_reducible refine (hinterlandref06_Validate.calls k a0_0 a0_1 _ _ l0_2 _ _ l1_0 _ _ l1_1 t681 _ ?side1 ?side2 ?side3 ?side4 ?side5 ?side6 A5.out).mono ?_);(case side1 => exact Kd.C_up (Kd.C_below HR0_2.out HB.out));(case side2 => exact HC0_2.out);(case side3 => exact Kd.C_up (Kd.C_below HR1_0.out HB.out));(case side4 => exact HC1_0.out);(case side5 => exact Kd.C_up (Kd.C_below HR1_1.out HB.out));(case side6 => exact HC1_1.out);rintro e w128 ⟨rfl,hb⟩;refine ⟨_,rfl,?_⟩;replace BK679:=bkb BK679 hb;replace BK680:=bkb BK680 hb;replace HB:=Aside0.mk (below_step (hb_) hb)))
  go_ret2
  exact ⟨_,by first|rfl|(simp [errW_none,errW_some] <;> rfl)|(simp [*,errW_none,errW_some] <;> rfl),by first|exact Kd.R_nil _ _ _ _ _|exact Kd.N_nil _ _ _ _ _|exact Kd.V_nil _ _ _ _ _|exact Kd.Q_nil _ _ _ _ _|exact Kd.S_nil _ _ _ _ _,hb_⟩
 rw [if_pos c6] at H
 have c6b0 : (t681 == 0) = true:=beq_iff_eq.mpr c6
 have c6b1 : (t681 != 0) = false:=bne_eq_false_iff_eq.mpr c6
 clear c6
 have HC7:=Aside0.mk H
 clear H
 go_enter Try.func20,Try.ntmps20
 go_upto_region 4 with (first|((with_reducible refine gate_dst (N:=4) rfl ?_);refine box_ev (N:=4) (cs:=#[.int .i64 a0_0,.int .i64 a0_1,.slice A0_2 l0_2.length c0_2]) (t:=24) ?_;intro gb679 hg w8 hbox hb;have BK679:=Aside0.mk (hbox);have GW679 : Aside0 (w.heap.size ≤ gb679):=gsz hg;have GE679:=GW679;replace HB:=Aside0.mk (below_step (hb_) hb);clear hb hbox hg)|((with_reducible refine gate_dst (N:=5) rfl ?_);refine box_ev (N:=5) (cs:=#[.slice A1_0 l1_0.length c1_0,.slice A1_1 l1_1.length c1_1]) (t:=26) ?_;intro gb680 hg w9 hbox hb;have BK680:=Aside0.mk (hbox);have GW680 : Aside0 (w.heap.size ≤ gb680):=gsz hg;have GE680:=GW680;have NB679_680:=nbl BK679 hg;have NB680_679:=nbr BK679 hg;replace BK679:=bkb BK679 hb;replace HB:=Aside0.mk (below_step (hb_) hb);clear hb hbox hg;have hnb10:=NB679_680.out;have hnc10:=NB680_679.out;obtain ⟨hcz11_0,hcz11_1,hcz11_2,hfz11_0,hfz11_1,hfz11_2⟩:=cells3 BK679.out;obtain ⟨hcz12_0,hcz12_1,hfz12_0,hfz12_1⟩:=cells2 BK680.out)|((with_reducible refine gate_callee (f:=23) rfl ?_);refine goesL_ (some 24) rfl rfl Try.func23 (by kernel_rfl) rfl #[.agg #[.int .i64 a0_0,.int .i64 a0_1,.slice A0_2 l0_2.length c0_2],.agg #[.slice A1_0 l1_0.length c1_0,.slice A1_1 l1_1.length c1_1]] rfl (by (try simp only [List.map_toArray,List.map_cons,List.map_nil]);first|done|rfl|(simp only [List.length_drop,List.length_take];rfl)) ?_;(with_reducible refine (hinterlandref06_Validate.calls k a0_0 a0_1 _ _ l0_2 _ _ l1_0 _ _ l1_1 t681 _ ?side1 ?side2 ?side3 ?side4 ?side5 ?side6 A5.out).mono ?_);(case side1 => exact Kd.C_up (Kd.C_below HR0_2.out HB.out));(case side2 => exact HC0_2.out);(case side3 => exact Kd.C_up (Kd.C_below HR1_0.out HB.out));(case side4 => exact HC1_0.out);(case side5 => exact Kd.C_up (Kd.C_below HR1_1.out HB.out));(case side6 => exact HC1_1.out);rintro e w13 ⟨rfl,hb⟩;refine ⟨_,rfl,?_⟩;replace BK679:=bkb BK679 hb;replace BK680:=bkb BK680 hb;replace HB:=Aside0.mk (below_step (hb_) hb)))
 (try simp only [Act.put,List.setIfInBounds_toArray,List.set_cons_zero,List.set_cons_succ])
 go_cut [53] (fun v53 wc => ∃ (kq : Nat) (x53_6 : Bool),v53 = .bool x53_6 ∧ Aside0 (hinterlandref06_Sail.j0 kq a2 a3 x53_6 a0_0 a0_1 l0_2 l1_0 l1_1 = some (r1,r2)) ∧ Aside0 (kq ≤ k) ∧ Aside0 (wc.heap[gb679]? = some (.cells #[.int .i64 a0_0,.int .i64 a0_1,(.slice A0_2 l0_2.length c0_2)] 24 (0,0))) ∧ Aside0 (wc.heap[gb680]? = some (.cells #[(.slice A1_0 l1_0.length c1_0),(.slice A1_1 l1_1.length c1_1)] 26 (0,0))) ∧ Aside0 (Below w.heap.size w wc))
 case first =>
  have H:=HC7.out
  clear HC7
  replace H:=Option.bind_eq_some_iff.mp H
  obtain ⟨t682,A140,H⟩:=H
  replace H : (if t682 = true then ((hinterlandref02_Is.f a0_0 a0_1 l0_2 a3).bind fun t683 => (if t683 = true then ((hinterlandref06_Wet.f k a0_0 a0_1 l0_2 l1_0 a2).bind fun t684 => (if t684 = true then ((hinterlandref06_Wet.f k a0_0 a0_1 l0_2 l1_0 a3).bind fun t685 => (hinterlandref06_Sail.j0 k a2 a3 (!t685) a0_0 a0_1 l0_2 l1_0 l1_1)) else (hinterlandref06_Sail.j0 k a2 a3 true a0_0 a0_1 l0_2 l1_0 l1_1))) else (hinterlandref06_Sail.j0 k a2 a3 true a0_0 a0_1 l0_2 l1_0 l1_1))) else (hinterlandref06_Sail.j0 k a2 a3 true a0_0 a0_1 l0_2 l1_0 l1_1)) = some (r1,r2):=H
  have A14:=Aside0.mk A140
  clear A140
  by_cases c15 : t682 = true
  ·subst c15
   have H1 : ((hinterlandref02_Is.f a0_0 a0_1 l0_2 a3).bind fun t683 => (if t683 = true then ((hinterlandref06_Wet.f k a0_0 a0_1 l0_2 l1_0 a2).bind fun t684 => (if t684 = true then ((hinterlandref06_Wet.f k a0_0 a0_1 l0_2 l1_0 a3).bind fun t685 => (hinterlandref06_Sail.j0 k a2 a3 (!t685) a0_0 a0_1 l0_2 l1_0 l1_1)) else (hinterlandref06_Sail.j0 k a2 a3 true a0_0 a0_1 l0_2 l1_0 l1_1))) else (hinterlandref06_Sail.j0 k a2 a3 true a0_0 a0_1 l0_2 l1_0 l1_1))) = some (r1,r2):=by rw [if_pos rfl] at H;exact H
   clear H
   have H:=H1
   clear H1
   replace H:=Option.bind_eq_some_iff.mp H
   obtain ⟨t683,A160,H⟩:=H
   replace H : (if t683 = true then ((hinterlandref06_Wet.f k a0_0 a0_1 l0_2 l1_0 a2).bind fun t684 => (if t684 = true then ((hinterlandref06_Wet.f k a0_0 a0_1 l0_2 l1_0 a3).bind fun t685 => (hinterlandref06_Sail.j0 k a2 a3 (!t685) a0_0 a0_1 l0_2 l1_0 l1_1)) else (hinterlandref06_Sail.j0 k a2 a3 true a0_0 a0_1 l0_2 l1_0 l1_1))) else (hinterlandref06_Sail.j0 k a2 a3 true a0_0 a0_1 l0_2 l1_0 l1_1)) = some (r1,r2):=H
   have A16:=Aside0.mk A160
   clear A160
   by_cases c17 : t683 = true
   ·subst c17
    have H1 : ((hinterlandref06_Wet.f k a0_0 a0_1 l0_2 l1_0 a2).bind fun t684 => (if t684 = true then ((hinterlandref06_Wet.f k a0_0 a0_1 l0_2 l1_0 a3).bind fun t685 => (hinterlandref06_Sail.j0 k a2 a3 (!t685) a0_0 a0_1 l0_2 l1_0 l1_1)) else (hinterlandref06_Sail.j0 k a2 a3 true a0_0 a0_1 l0_2 l1_0 l1_1))) = some (r1,r2):=by rw [if_pos rfl] at H;exact H
    clear H
    have H:=H1
    clear H1
    replace H:=Option.bind_eq_some_iff.mp H
    obtain ⟨t684,A180,H⟩:=H
    replace H : (if t684 = true then ((hinterlandref06_Wet.f k a0_0 a0_1 l0_2 l1_0 a3).bind fun t685 => (hinterlandref06_Sail.j0 k a2 a3 (!t685) a0_0 a0_1 l0_2 l1_0 l1_1)) else (hinterlandref06_Sail.j0 k a2 a3 true a0_0 a0_1 l0_2 l1_0 l1_1)) = some (r1,r2):=H
    have A18:=Aside0.mk A180
    clear A180
    by_cases c19 : t684 = true
    ·subst c19
     have H1 : ((hinterlandref06_Wet.f k a0_0 a0_1 l0_2 l1_0 a3).bind fun t685 => (hinterlandref06_Sail.j0 k a2 a3 (!t685) a0_0 a0_1 l0_2 l1_0 l1_1)) = some (r1,r2):=by rw [if_pos rfl] at H;exact H
     clear H
     have H:=H1
     clear H1
     replace H:=Option.bind_eq_some_iff.mp H
     obtain ⟨t685,A200,H⟩:=H
     replace H : (hinterlandref06_Sail.j0 k a2 a3 (!t685) a0_0 a0_1 l0_2 l1_0 l1_1) = some (r1,r2):=H
     have A20:=Aside0.mk A200
     clear A200
     have H':=Aside0.mk H
     clear H
     have hnb21:=NB679_680.out
     have hnc21:=NB680_679.out
     obtain ⟨hcz22_0,hcz22_1,hcz22_2,hfz22_0,hfz22_1,hfz22_2⟩:=cells3 BK679.out
     go_wp2_with (first|((with_reducible refine gate_callee (f:=33) rfl ?_);refine goesL_ (some 30) rfl rfl Try.func33 (by kernel_rfl) rfl #[.agg #[.int .i64 a0_0,.int .i64 a0_1,.slice A0_2 l0_2.length c0_2],.int .i64 a2] rfl (by (try simp only [List.map_toArray,List.map_cons,List.map_nil]);first|done|rfl|(simp only [List.length_drop,List.length_take];rfl)) ?_;(with_reducible refine (hinterlandref02_Is.calls a0_0 a0_1 _ _ l0_2 a2 true _ ?side1 ?side2 A14.out).mono ?_);(case side1 => exact Kd.C_up (Kd.C_below HR0_2.out HB.out));(case side2 => exact HC0_2.out);rintro e w23 ⟨rfl,hb⟩;refine ⟨_,rfl,?_⟩;replace BK679:=bkb BK679 hb;replace BK680:=bkb BK680 hb;replace HB:=Aside0.mk (below_step (hb_) hb);obtain ⟨hcz24_0,hcz24_1,hcz24_2,hfz24_0,hfz24_1,hfz24_2⟩:=cells3 BK679.out)|(go_at_call 33;(with_reducible refine (hinterlandref02_Is.calls a0_0 a0_1 _ _ l0_2 a3 true _ ?side1 ?side2 A16.out).mono ?_);(case side1 => exact Kd.C_up (Kd.C_below HR0_2.out HB.out));(case side2 => exact HC0_2.out);rintro e w25 ⟨rfl,hb⟩;replace BK679:=bkb BK679 hb;replace BK680:=bkb BK680 hb;replace HB:=Aside0.mk (below_step (hb_) hb);obtain ⟨hcz26_0,hcz26_1,hcz26_2,hfz26_0,hfz26_1,hfz26_2⟩:=cells3 BK679.out;obtain ⟨hcz27_0,hcz27_1,hfz27_0,hfz27_1⟩:=cells2 BK680.out)|(go_at_call 47;(with_reducible refine (hinterlandref06_Wet.calls k a0_0 a0_1 _ _ l0_2 _ _ l1_0 a2 true _ ?side1 ?side2 ?side3 ?side4 A18.out).mono ?_);(case side1 => exact Kd.C_up (Kd.C_below HR0_2.out HB.out));(case side2 => exact HC0_2.out);(case side3 => exact Kd.C_up (Kd.C_below HR1_0.out HB.out));(case side4 => exact HC1_0.out);rintro e w28 ⟨rfl,hb⟩;replace BK679:=bkb BK679 hb;replace BK680:=bkb BK680 hb;replace HB:=Aside0.mk (below_step (hb_) hb);obtain ⟨hcz29_0,hcz29_1,hcz29_2,hfz29_0,hfz29_1,hfz29_2⟩:=cells3 BK679.out;obtain ⟨hcz30_0,hcz30_1,hfz30_0,hfz30_1⟩:=cells2 BK680.out)|(go_at_call 47;(with_reducible refine (hinterlandref06_Wet.calls k a0_0 a0_1 _ _ l0_2 _ _ l1_0 a3 t685 _ ?side1 ?side2 ?side3 ?side4 A20.out).mono ?_);(case side1 => exact Kd.C_up (Kd.C_below HR0_2.out HB.out));(case side2 => exact HC0_2.out);(case side3 => exact Kd.C_up (Kd.C_below HR1_0.out HB.out));(case side4 => exact HC1_0.out);rintro e w31 ⟨rfl,hb⟩;replace BK679:=bkb BK679 hb;replace BK680:=bkb BK680 hb;replace HB:=Aside0.mk (below_step (hb_) hb)))
     go_meet
     case rel => exact ⟨_,(!t685),(by first|rfl|(simp;done)|(simp [*];done)),H',⟨by first|omega|exact Nat.le_refl _⟩,⟨blk_up BK679.out⟩,⟨blk_up BK680.out⟩,⟨hb_⟩⟩
    ·replace c19:=Bool.eq_false_iff.mpr c19
     subst c19
     have H1 : (hinterlandref06_Sail.j0 k a2 a3 true a0_0 a0_1 l0_2 l1_0 l1_1) = some (r1,r2):=by rw [if_neg (show ¬ (false = true) by decide)] at H;exact H
     clear H
     have H:=H1
     clear H1
     have H':=Aside0.mk H
     clear H
     have hnb32:=NB679_680.out
     have hnc32:=NB680_679.out
     obtain ⟨hcz33_0,hcz33_1,hcz33_2,hfz33_0,hfz33_1,hfz33_2⟩:=cells3 BK679.out
     go_wp2_with (first|((with_reducible refine gate_callee (f:=33) rfl ?_);refine goesL_ (some 30) rfl rfl Try.func33 (by kernel_rfl) rfl #[.agg #[.int .i64 a0_0,.int .i64 a0_1,.slice A0_2 l0_2.length c0_2],.int .i64 a2] rfl (by (try simp only [List.map_toArray,List.map_cons,List.map_nil]);first|done|rfl|(simp only [List.length_drop,List.length_take];rfl)) ?_;(with_reducible refine (hinterlandref02_Is.calls a0_0 a0_1 _ _ l0_2 a2 true _ ?side1 ?side2 A14.out).mono ?_);(case side1 => exact Kd.C_up (Kd.C_below HR0_2.out HB.out));(case side2 => exact HC0_2.out);rintro e w34 ⟨rfl,hb⟩;refine ⟨_,rfl,?_⟩;replace BK679:=bkb BK679 hb;replace BK680:=bkb BK680 hb;replace HB:=Aside0.mk (below_step (hb_) hb);obtain ⟨hcz35_0,hcz35_1,hcz35_2,hfz35_0,hfz35_1,hfz35_2⟩:=cells3 BK679.out)|(go_at_call 33;(with_reducible refine (hinterlandref02_Is.calls a0_0 a0_1 _ _ l0_2 a3 true _ ?side1 ?side2 A16.out).mono ?_);(case side1 => exact Kd.C_up (Kd.C_below HR0_2.out HB.out));(case side2 => exact HC0_2.out);rintro e w36 ⟨rfl,hb⟩;replace BK679:=bkb BK679 hb;replace BK680:=bkb BK680 hb;replace HB:=Aside0.mk (below_step (hb_) hb);obtain ⟨hcz37_0,hcz37_1,hcz37_2,hfz37_0,hfz37_1,hfz37_2⟩:=cells3 BK679.out;obtain ⟨hcz38_0,hcz38_1,hfz38_0,hfz38_1⟩:=cells2 BK680.out)|(go_at_call 47;(with_reducible refine (hinterlandref06_Wet.calls k a0_0 a0_1 _ _ l0_2 _ _ l1_0 a2 false _ ?side1 ?side2 ?side3 ?side4 A18.out).mono ?_);(case side1 => exact Kd.C_up (Kd.C_below HR0_2.out HB.out));(case side2 => exact HC0_2.out);(case side3 => exact Kd.C_up (Kd.C_below HR1_0.out HB.out));(case side4 => exact HC1_0.out);rintro e w39 ⟨rfl,hb⟩;replace BK679:=bkb BK679 hb;replace BK680:=bkb BK680 hb;replace HB:=Aside0.mk (below_step (hb_) hb)))
     go_meet
     case rel => exact ⟨_,(true),(by first|rfl|(simp;done)|(simp [*];done)),H',⟨by first|omega|exact Nat.le_refl _⟩,⟨blk_up BK679.out⟩,⟨blk_up BK680.out⟩,⟨hb_⟩⟩
   ·replace c17:=Bool.eq_false_iff.mpr c17
    subst c17
    have H1 : (hinterlandref06_Sail.j0 k a2 a3 true a0_0 a0_1 l0_2 l1_0 l1_1) = some (r1,r2):=by rw [if_neg (show ¬ (false = true) by decide)] at H;exact H
    clear H
    have H:=H1
    clear H1
    have H':=Aside0.mk H
    clear H
    have hnb40:=NB679_680.out
    have hnc40:=NB680_679.out
    obtain ⟨hcz41_0,hcz41_1,hcz41_2,hfz41_0,hfz41_1,hfz41_2⟩:=cells3 BK679.out
    go_wp2_with (first|((with_reducible refine gate_callee (f:=33) rfl ?_);refine goesL_ (some 30) rfl rfl Try.func33 (by kernel_rfl) rfl #[.agg #[.int .i64 a0_0,.int .i64 a0_1,.slice A0_2 l0_2.length c0_2],.int .i64 a2] rfl (by (try simp only [List.map_toArray,List.map_cons,List.map_nil]);first|done|rfl|(simp only [List.length_drop,List.length_take];rfl)) ?_;(with_reducible refine (hinterlandref02_Is.calls a0_0 a0_1 _ _ l0_2 a2 true _ ?side1 ?side2 A14.out).mono ?_);(case side1 => exact Kd.C_up (Kd.C_below HR0_2.out HB.out));(case side2 => exact HC0_2.out);rintro e w42 ⟨rfl,hb⟩;refine ⟨_,rfl,?_⟩;replace BK679:=bkb BK679 hb;replace BK680:=bkb BK680 hb;replace HB:=Aside0.mk (below_step (hb_) hb);obtain ⟨hcz43_0,hcz43_1,hcz43_2,hfz43_0,hfz43_1,hfz43_2⟩:=cells3 BK679.out)|(go_at_call 33;(with_reducible refine (hinterlandref02_Is.calls a0_0 a0_1 _ _ l0_2 a3 false _ ?side1 ?side2 A16.out).mono ?_);(case side1 => exact Kd.C_up (Kd.C_below HR0_2.out HB.out));(case side2 => exact HC0_2.out);rintro e w44 ⟨rfl,hb⟩;replace BK679:=bkb BK679 hb;replace BK680:=bkb BK680 hb;replace HB:=Aside0.mk (below_step (hb_) hb)))
    go_meet
    case rel => exact ⟨_,(true),(by first|rfl|(simp;done)|(simp [*];done)),H',⟨by first|omega|exact Nat.le_refl _⟩,⟨blk_up BK679.out⟩,⟨blk_up BK680.out⟩,⟨hb_⟩⟩
  ·replace c15:=Bool.eq_false_iff.mpr c15
   subst c15
   have H1 : (hinterlandref06_Sail.j0 k a2 a3 true a0_0 a0_1 l0_2 l1_0 l1_1) = some (r1,r2):=by rw [if_neg (show ¬ (false = true) by decide)] at H;exact H
   clear H
   have H:=H1
   clear H1
   have H':=Aside0.mk H
   clear H
   have hnb45:=NB679_680.out
   have hnc45:=NB680_679.out
   obtain ⟨hcz46_0,hcz46_1,hcz46_2,hfz46_0,hfz46_1,hfz46_2⟩:=cells3 BK679.out
   go_wp2_with (first|((with_reducible refine gate_callee (f:=33) rfl ?_);refine goesL_ (some 30) rfl rfl Try.func33 (by kernel_rfl) rfl #[.agg #[.int .i64 a0_0,.int .i64 a0_1,.slice A0_2 l0_2.length c0_2],.int .i64 a2] rfl (by (try simp only [List.map_toArray,List.map_cons,List.map_nil]);first|done|rfl|(simp only [List.length_drop,List.length_take];rfl)) ?_;(with_reducible refine (hinterlandref02_Is.calls a0_0 a0_1 _ _ l0_2 a2 false _ ?side1 ?side2 A14.out).mono ?_);(case side1 => exact Kd.C_up (Kd.C_below HR0_2.out HB.out));(case side2 => exact HC0_2.out);rintro e w47 ⟨rfl,hb⟩;refine ⟨_,rfl,?_⟩;replace BK679:=bkb BK679 hb;replace BK680:=bkb BK680 hb;replace HB:=Aside0.mk (below_step (hb_) hb)))
   go_meet
   case rel => exact ⟨_,(true),(by first|rfl|(simp;done)|(simp [*];done)),H',⟨by first|omega|exact Nat.le_refl _⟩,⟨blk_up BK679.out⟩,⟨blk_up BK680.out⟩,⟨hb_⟩⟩
 case rest =>
  clear HC7
  obtain ⟨kq,x53_6,rfl,HA,HJ6,BK679,BK680,HB⟩:=hcut
  cases kq with
  | zero => exact absurd HA.out (by simp [hinterlandref06_Sail.j0])
  | succ kj6 =>
   have H:=HA.out
   clear HA
   simp only [hinterlandref06_Sail.j0] at H
   by_cases c48 : x53_6 = true
   ·subst c48
    have H1 : (some (([] : List Int),2)) = some (r1,r2):=by rw [if_pos rfl] at H;exact H
    clear H
    have H:=H1
    clear H1
    simp only [Option.some.injEq,Prod.mk.injEq] at H
    obtain ⟨rfl,rfl⟩:=H
    go_wp2
    go_ret2
    exact ⟨_,by first|rfl|(simp [errW_none,errW_some] <;> rfl)|(simp [*,errW_none,errW_some] <;> rfl),by first|exact Kd.R_nil _ _ _ _ _|exact Kd.N_nil _ _ _ _ _|exact Kd.V_nil _ _ _ _ _|exact Kd.Q_nil _ _ _ _ _|exact Kd.S_nil _ _ _ _ _,hb_⟩
   ·replace c48:=Bool.eq_false_iff.mpr c48
    subst c48
    have H1 : (if 0 ≤ (l1_0.length : Int) then (if ((l1_0.length : Int) : Int).toNat ≤ 35184372088832 then ((some (List.replicate ((l1_0.length : Int) : Int).toNat 0 : List Int)).bind fun y686 => (hinterlandref06_Sail.l0 kj6 a2 a3 y686 (y686.length : Int) 0 a0_0 a0_1 l0_2 l1_0 l1_1)) else (none)) else (none)) = some (r1,r2):=by rw [if_neg (show ¬ (false = true) by decide)] at H;exact H
    clear H
    have H:=H1
    clear H1
    replace H:=ifp_ H;obtain ⟨c49,H⟩:=H
    have c49b0:=eq_true c49
    have c49b1 : decide (0 ≤ (l1_0.length : Int)) = true:=decide_eq_true c49
    clear c49
    replace H:=ifp_ H;obtain ⟨c50,H⟩:=H
    have c50b0:=eq_true c50
    have c50b1 : decide (((l1_0.length : Int) : Int).toNat ≤ 35184372088832) = true:=decide_eq_true c50
    clear c50
    obtain ⟨y686,hy686⟩ : ∃ y_ : List Int,y_ = (List.replicate ((l1_0.length : Int) : Int).toNat 0):=⟨_,rfl⟩
    replace H : (hinterlandref06_Sail.l0 kj6 a2 a3 y686 (y686.length : Int) 0 a0_0 a0_1 l0_2 l1_0 l1_1) = some (r1,r2):=by first|(rw [hy686];with_reducible exact H)|(have H2_:=(Option.bind_some _ _).symm.trans H;rw [hy686];with_reducible exact H2_)|(have H2_:=(Option.bind_some _ _).symm.trans H;with_reducible exact H2_)|with_reducible exact H|(rw [hy686];exact H)|exact H
    have Ny686:=Aside0.mk hy686
    clear hy686
    have H':=Aside0.mk H
    clear H
    have hnb51:=NB680_679.out
    have hnc51:=NB679_680.out
    obtain ⟨hcz52_0,hcz52_1,hfz52_0,hfz52_1⟩:=cells2 BK680.out
    go_wp2_with (first|((with_reducible refine gate_dst (N:=57) rfl ?_);refine Kd.R_make (Kd.int .i64) _ 3 rfl (N:=57) rfl 22 _ _ rfl (l1_0.length : Int) rfl rfl Try.underlying22 (.int .i64 0) 8 info3 rfl (by decide) (by omega) 0 (ok:=fun _ => True) (okp:=fun _ => True) rfl (fun _ hk => hk) trivial (of_decide_eq_true (by first|(with_reducible assumption)|assumption)) (Nat.le_trans (Nat.mul_le_mul_right _ (of_decide_eq_true (by first|(with_reducible assumption)|assumption) : (l1_0.length : Int).toNat ≤ 35184372088832)) (by omega)) (Below.refl _ _) (Nat.le_refl _) ?_;intro v687 w53 ho54 hb hg_ hnew_;clear hg_ hnew_;(first|rw [← Ny686.out] at ho54|(simp only [Int.reduceToNat] at ho54;rw [← Ny686.out] at ho54));have HO688:=rlo ho54;replace BK679:=bkb BK679 hb;replace BK680:=bkb BK680 hb;replace HB:=Aside0.mk (below_step (hb_) hb);clear hb ho54;obtain ⟨Ao55,co55,eo55⟩:=Kd.R_slice HO688.out;subst eo55))
    go_loopg [60] kj6 (fun kq v60 w' => ∃ (x11_2 : List Int) (x60_2 : Int),v60 = .int .i64 x60_2 ∧ Aside0 (hinterlandref06_Sail.l0 kq a2 a3 x11_2 (y686.length : Int) x60_2 a0_0 a0_1 l0_2 l1_0 l1_1 = some (r1,r2)) ∧ Aside0 (kq ≤ kj6) ∧ Aside0 (Kd.R (Kd.int .i64) 3 w' w.heap.size (fun _ => True) (.slice Ao55 y686.length co55) x11_2) ∧ Aside0 (w'.heap[gb679]? = some (.cells #[.int .i64 a0_0,.int .i64 a0_1,(.slice A0_2 l0_2.length c0_2)] 24 (0,0))) ∧ Aside0 (w'.heap[gb680]? = some (.cells #[(.slice A1_0 l1_0.length c1_0),(.slice A1_1 l1_1.length c1_1)] 26 (0,0))) ∧ Aside0 (Below w.heap.size w w'))
    case atStart => exact ⟨(y686),(0),(by first|rfl|(simp;done)|(simp [*];done)),H',⟨Nat.le_refl _⟩,⟨Kd.R_up HO688.out⟩,⟨blk_up BK679.out⟩,⟨blk_up BK680.out⟩,⟨hb_⟩⟩
    case round =>
     clear H'
     obtain ⟨x11_2,x60_2,rfl,HA,HK2,HO_11,BK679,BK680,HB⟩:=hrel
     have hl11_2:=(Kd.R_reads' HO_11.out).1
     rw [hl11_2] at HO_11
     (try simp only [hl11_2])
     (try simp only [hl11_2] at BK679)
     (try simp only [hl11_2] at BK680)
     cases gk with
     | zero => exact absurd HA.out (by simp [hinterlandref06_Sail.l0])
     | succ k2 =>
      have H:=HA.out
      clear HA
      simp only [hinterlandref06_Sail.l0] at H
      by_cases c56 : x60_2 < (y686.length : Int)
      ·rw [if_pos c56] at H
       have c56b0 : decide (x60_2 < (y686.length : Int)) = true:=decide_eq_true c56
       (try simp only [hl11_2] at c56b0)
       clear c56
       replace H:=ifp_ H;obtain ⟨c57,H⟩:=H
       have c57b0 : decide (0 ≤ x60_2) = true:=decide_eq_true c57
       clear c57
       replace H:=ifp_ H;obtain ⟨c58,H⟩:=H
       have c58b0 : decide (x60_2 < (x11_2.length : Int)) = true:=decide_eq_true c58
       (try simp only [hl11_2] at c58b0)
       clear c58
       obtain ⟨y689,hy689⟩ : ∃ y_ : List Int,y_ = (x11_2.set (x60_2 : Int).toNat (-1)):=⟨_,rfl⟩
       replace H : (hinterlandref06_Sail.l0 k2 a2 a3 y689 (y686.length : Int) (wrap64 (x60_2 + 1)) a0_0 a0_1 l0_2 l1_0 l1_1) = some (r1,r2):=by first|(rw [hy689];with_reducible exact H)|(have H2_:=(Option.bind_some _ _).symm.trans H;rw [hy689];with_reducible exact H2_)|(have H2_:=(Option.bind_some _ _).symm.trans H;with_reducible exact H2_)|with_reducible exact H|(rw [hy689];exact H)|exact H
       have Ny689:=Aside0.mk hy689
       clear hy689
       have H':=Aside0.mk H
       clear H
       have p59 : 0 ≤ (x60_2 : Int):=of_decide_eq_true (by first|(with_reducible assumption)|assumption)
       have q59 : (x60_2 : Int) < ((x11_2.length : Int) : Int):=of_decide_eq_true (by first|(with_reducible assumption)|assumption)
       obtain ⟨go59,co59,eo59,gb59,gl59,cl59,HG59⟩:=Kd.R_form HO_11.out (by omega)
       (first|cases eo59|(injection eo59 with ea_ en_ ec_;(first|subst ea_|(injection ea_ with ea_;subst ea_));subst ec_;clear en_))
       have GB59:=Aside0.mk gb59
       have GG59:=Aside0.mk HG59
       clear gb59 gl59 HG59
       obtain ⟨hx59_0,hf59_0⟩:=Kd.R_celln 0 HO_11.out (x60_2 : Int) p59 q59
       replace p59:=eq_true p59
       replace q59:=eq_true q59
       have HP60:=Kd.R_putg HO_11.out (x60_2 : Int) (-1)
       go_wp2_with (first|((with_reducible refine gate_store (t:=3) (p:=65) rfl ?_);refine store_event (t:=3) (p:=65) (v:=?vo_w61) (w1:=(wr.setCell ⟨go59,(x60_2 : Int).toNat,none⟩ (.int .i64 (-1)))) ?hg ?ho ?hn ?hr ?_;(case ho => rfl);(case hg => rfl);(case hn => rfl);(case hr => first|(go_simp;done)|(go_simp;rfl));intro w61 hw;have hg : wr.grownBy w61 (some go59):=(by rw [hw];exact HP60.2);have hp_ : Kd.R (Kd.int .i64) 3 w61 w.heap.size (fun _ => True) (.slice (some ⟨go59,0,none⟩) x11_2.length co55) y689:=(by rw [hw,Ny689.out];exact HP60.1);clear HP60;replace BK679:=Aside0.mk (blk_grown (blk_up BK679.out) hg (Kd.R_ne HO_11.out BK679.out (by decide)));replace BK680:=Aside0.mk (blk_grown (blk_up BK680.out) hg (Kd.R_ne HO_11.out BK680.out (by decide)));replace HO_11:=Aside0.mk (hp_);replace HB:=Aside0.mk ((by rw [hw];exact below_set (HB.out) GB59.out : Below w.heap.size w w61));clear hg hw hp_))
       (try simp only [← hl11_2])
       go_roundg k2
       case measure => have:=HJ6.out;have:=HK2.out;omega
       case rel => exact ⟨(y689),(wrap64 (x60_2 + 1)),(by first|rfl|(simp;done)|(simp [*];done)),H',⟨by have:=HJ6.out;have:=HK2.out;omega⟩,⟨by (try simp only [hl11_2]);(with_reducible repeat (first|apply Kd.R_alloc|apply Kd.R_drewN|apply Kd.R_drew));exact HO_11.out⟩,⟨by (try simp only [hl11_2]);(with_reducible repeat (first|refine blk_drewN ?_ _|refine blk_drew ?_|refine blk_alloc ?_ _));exact BK679.out⟩,⟨by (try simp only [hl11_2]);(with_reducible repeat (first|refine blk_drewN ?_ _|refine blk_drew ?_|refine blk_alloc ?_ _));exact BK680.out⟩,⟨hb_⟩⟩
      rw [if_neg c56] at H
      have c56b0 : decide (x60_2 < (y686.length : Int)) = false:=decide_eq_false c56
      (try simp only [hl11_2] at c56b0)
      clear c56
      replace H:=ifp_ H;obtain ⟨c62,H⟩:=H
      have c62b0 : decide (0 ≤ a3) = true:=decide_eq_true c62
      clear c62
      replace H:=ifp_ H;obtain ⟨c63,H⟩:=H
      have c63b0 : decide (a3 < (x11_2.length : Int)) = true:=decide_eq_true c63
      (try simp only [hl11_2] at c63b0)
      clear c63
      obtain ⟨y690,hy690⟩ : ∃ y_ : List Int,y_ = (x11_2.set (a3 : Int).toNat 0):=⟨_,rfl⟩
      replace H : (hinterlandref06_Sail.l1 k2 a2 a3 y690 (([a3] : List Int)) 0 a0_0 a0_1 l0_2 l1_0 l1_1) = some (r1,r2):=by first|(rw [hy690];with_reducible exact H)|(have H2_:=(Option.bind_some _ _).symm.trans H;rw [hy690];with_reducible exact H2_)|(have H2_:=(Option.bind_some _ _).symm.trans H;with_reducible exact H2_)|with_reducible exact H|(rw [hy690];exact H)|exact H
      have Ny690:=Aside0.mk hy690
      clear hy690
      obtain ⟨y691,hy691⟩ : ∃ y_ : List Int,y_ = (([a3] : List Int)):=⟨_,rfl⟩
      replace H : (hinterlandref06_Sail.l1 k2 a2 a3 y690 y691 0 a0_0 a0_1 l0_2 l1_0 l1_1) = some (r1,r2):=by first|(rw [hy691];with_reducible exact H)|(have H2_:=(Option.bind_some _ _).symm.trans H;rw [hy691];with_reducible exact H2_)|(have H2_:=(Option.bind_some _ _).symm.trans H;with_reducible exact H2_)|with_reducible exact H|(rw [hy691];exact H)|exact H
      have Ny691:=Aside0.mk hy691
      clear hy691
      have H':=Aside0.mk H
      clear H
      have p64 : 0 ≤ (a3 : Int):=of_decide_eq_true (by first|(with_reducible assumption)|assumption)
      have q64 : (a3 : Int) < ((x11_2.length : Int) : Int):=of_decide_eq_true (by first|(with_reducible assumption)|assumption)
      obtain ⟨go64,co64,eo64,gb64,gl64,cl64,HG64⟩:=Kd.R_form HO_11.out (by omega)
      (first|cases eo64|(injection eo64 with ea_ en_ ec_;(first|subst ea_|(injection ea_ with ea_;subst ea_));subst ec_;clear en_))
      have GB64:=Aside0.mk gb64
      have GG64:=Aside0.mk HG64
      clear gb64 gl64 HG64
      obtain ⟨hx64_0,hf64_0⟩:=Kd.R_celln 0 HO_11.out (a3 : Int) p64 q64
      replace p64:=eq_true p64
      replace q64:=eq_true q64
      have HP65:=Kd.R_putg HO_11.out (a3 : Int) 0
      go_wp2_with (first|((with_reducible refine gate_store (t:=3) (p:=69) rfl ?_);refine store_event (t:=3) (p:=69) (v:=?vo_w66) (w1:=(wr.setCell ⟨go64,(a3 : Int).toNat,none⟩ (.int .i64 0))) ?hg ?ho ?hn ?hr ?_;(case ho => rfl);(case hg => rfl);(case hn => rfl);(case hr => first|(go_simp;done)|(go_simp;rfl));intro w66 hw;have hg : wr.grownBy w66 (some go64):=(by rw [hw];exact HP65.2);have hp_ : Kd.R (Kd.int .i64) 3 w66 w.heap.size (fun _ => True) (.slice (some ⟨go64,0,none⟩) x11_2.length co55) y690:=(by rw [hw,Ny690.out];exact HP65.1);clear HP65;replace BK679:=Aside0.mk (blk_grown (blk_up BK679.out) hg (Kd.R_ne HO_11.out BK679.out (by decide)));replace BK680:=Aside0.mk (blk_grown (blk_up BK680.out) hg (Kd.R_ne HO_11.out BK680.out (by decide)));replace HO_11:=Aside0.mk (hp_);replace HB:=Aside0.mk ((by rw [hw];exact below_set (HB.out) GB64.out : Below w.heap.size w w66));clear hg hw hp_)|((with_reducible refine gate_dst (N:=71) rfl ?_);refine Kd.R_lit (Kd.int .i64) _ 3 ?hg (N:=71) ?hd (xs:=([a3] : List Int)) (inner:=[.int .i64 a3]) (ok:=fun _ => True) (okp:=fun _ => True) ?hr ?hp (fun _ hk => hk) trivial (Below.refl _ _) (Nat.le_refl _) (by simp) ?_;(case hd => rfl);(case hg => rfl);(case hr => first|(go_simp;done)|(go_simp;rfl));(case hp => exact (Reps.one (show Kd.M (Kd.int .i64) _ _ _ a3 [.int .i64 a3] from rfl) (Reps.none _ _)));intro v692 w67 ho68 hb hg_ hnew_;clear hg_ hnew_;(first|rw [← Ny691.out] at ho68|(simp only [Int.reduceToNat] at ho68;rw [← Ny691.out] at ho68));have HO693:=Aside0.mk (Kd.R_lower (Kd.R_new' ho68 (Kd.R_lt (Kd.R_up HO_11.out))) (below_size (hb_)));replace HO_11:=Aside0.mk (Kd.R_elder' (Kd.R_up HO_11.out) (Kd.R_base ho68) hb);replace BK679:=bkb BK679 hb;replace BK680:=bkb BK680 hb;replace HB:=Aside0.mk (below_step (hb_) hb);clear hb ho68))
      go_loopg [13,14] k2 (fun kq v13 v14 w' => ∃ (x11_3 : List Int) (x13_3 : List Int) (x14_3 : Int),v14 = .int .i64 x14_3 ∧ Aside0 (hinterlandref06_Sail.l1 kq a2 a3 x11_3 x13_3 x14_3 a0_0 a0_1 l0_2 l1_0 l1_1 = some (r1,r2)) ∧ Aside0 (kq ≤ k2) ∧ Aside0 (Kd.R (Kd.int .i64) 3 w' w.heap.size (fun k_ => some k_ ≠ (v13 : Value).ownBlock) (.slice (some ⟨go64,0,none⟩) x11_2.length co55) x11_3) ∧ Aside0 (Kd.R (Kd.int .i64) 3 w' w.heap.size (fun k_ => some k_ ≠ ((.slice (some ⟨go64,0,none⟩) x11_2.length co55) : Value).ownBlock) v13 x13_3) ∧ Aside0 (w'.heap[gb679]? = some (.cells #[.int .i64 a0_0,.int .i64 a0_1,(.slice A0_2 l0_2.length c0_2)] 24 (0,0))) ∧ Aside0 (w'.heap[gb680]? = some (.cells #[(.slice A1_0 l1_0.length c1_0),(.slice A1_1 l1_1.length c1_1)] 26 (0,0))) ∧ Aside0 (Below w.heap.size w w'))
      case atStart => exact ⟨(y690),(y691),(0),(by first|rfl|(simp;done)|(simp [*];done)),H',⟨Nat.le_refl _⟩,⟨by (try simp only [hl11_2]);(with_reducible repeat (first|apply Kd.R_alloc|apply Kd.R_drewN|apply Kd.R_drew));exact Kd.R_mono HO_11.out (fun _ hk => hk.2)⟩,⟨by (try simp only [hl11_2]);(with_reducible repeat (first|apply Kd.R_alloc|apply Kd.R_drewN|apply Kd.R_drew));exact Kd.R_mono HO693.out (fun _ hk => hk.2)⟩,⟨by (try simp only [hl11_2]);(with_reducible repeat (first|refine blk_drewN ?_ _|refine blk_drew ?_|refine blk_alloc ?_ _));exact BK679.out⟩,⟨by (try simp only [hl11_2]);(with_reducible repeat (first|refine blk_drewN ?_ _|refine blk_drew ?_|refine blk_alloc ?_ _));exact BK680.out⟩,⟨hb_⟩⟩
      case round =>
       clear H'
       obtain ⟨x11_3,x13_3,x14_3,rfl,HA,HK3,HO_11,HO_13,BK679,BK680,HB⟩:=hrel
       have hl11_3:=(Kd.R_reads' HO_11.out).1
       rw [hl11_3] at HO_11
       (try simp only [hl11_3])
       (try simp only [hl11_3] at BK679)
       (try simp only [hl11_3] at BK680)
       (try simp only [hl11_3] at HO_13)
       cases gk with
       | zero => exact absurd HA.out (by simp [hinterlandref06_Sail.l1])
       | succ k3 =>
        have H:=HA.out
        clear HA
        simp only [hinterlandref06_Sail.l1] at H
        by_cases c69 : x14_3 < (x13_3.length : Int)
        ·rw [if_pos c69] at H
         have c69b0 : decide (x14_3 < (x13_3.length : Int)) = true:=decide_eq_true c69
         (try simp only [hl11_2] at c69b0)
         (try simp only [hl11_3] at c69b0)
         clear c69
         have H':=Aside0.mk H
         clear H
         obtain ⟨Ao70,co70,eo70⟩:=Kd.R_slice HO_13.out
         subst eo70
         go_wp2
         go_loopg [13,78] k3 (fun kq v13 v78 w' => ∃ (x11_4 : List Int) (x13_4 : List Int) (x78_4 : Int),v78 = .int .i64 x78_4 ∧ Aside0 (hinterlandref06_Sail.l2 kq a2 a3 x11_4 x13_4 x14_3 x78_4 a0_0 a0_1 l0_2 l1_0 l1_1 = some (r1,r2)) ∧ Aside0 (kq ≤ k3) ∧ Aside0 (Kd.R (Kd.int .i64) 3 w' w.heap.size (fun k_ => some k_ ≠ (v13 : Value).ownBlock) (.slice (some ⟨go64,0,none⟩) x11_3.length co55) x11_4) ∧ Aside0 (Kd.R (Kd.int .i64) 3 w' w.heap.size (fun k_ => some k_ ≠ ((.slice (some ⟨go64,0,none⟩) x11_3.length co55) : Value).ownBlock) v13 x13_4) ∧ Aside0 (w'.heap[gb679]? = some (.cells #[.int .i64 a0_0,.int .i64 a0_1,(.slice A0_2 l0_2.length c0_2)] 24 (0,0))) ∧ Aside0 (w'.heap[gb680]? = some (.cells #[(.slice A1_0 l1_0.length c1_0),(.slice A1_1 l1_1.length c1_1)] 26 (0,0))) ∧ Aside0 (Below w.heap.size w w'))
         case atStart => exact ⟨(x11_3),(x13_3),(0),(by first|rfl|(simp;done)|(simp [*];done)),H',⟨Nat.le_refl _⟩,⟨by (try simp only [hl11_2]);(try simp only [hl11_3]);(with_reducible repeat (first|apply Kd.R_alloc|apply Kd.R_drewN|apply Kd.R_drew));exact HO_11.out⟩,⟨by (try simp only [hl11_2]);(try simp only [hl11_3]);(with_reducible repeat (first|apply Kd.R_alloc|apply Kd.R_drewN|apply Kd.R_drew));exact HO_13.out⟩,⟨by (try simp only [hl11_2]);(try simp only [hl11_3]);(with_reducible repeat (first|refine blk_drewN ?_ _|refine blk_drew ?_|refine blk_alloc ?_ _));exact BK679.out⟩,⟨by (try simp only [hl11_2]);(try simp only [hl11_3]);(with_reducible repeat (first|refine blk_drewN ?_ _|refine blk_drew ?_|refine blk_alloc ?_ _));exact BK680.out⟩,⟨hb_⟩⟩
         case round =>
          clear H'
          obtain ⟨x11_4,x13_4,x78_4,rfl,HA,HK4,HO_11,HO_13,BK679,BK680,HB⟩:=hrel
          have hl11_4:=(Kd.R_reads' HO_11.out).1
          rw [hl11_4] at HO_11
          (try simp only [hl11_4])
          (try simp only [hl11_4] at BK679)
          (try simp only [hl11_4] at BK680)
          (try simp only [hl11_4] at HO_13)
          cases gk with
          | zero => exact absurd HA.out (by simp [hinterlandref06_Sail.l2])
          | succ k4 =>
           have H:=HA.out
           clear HA
           simp only [hinterlandref06_Sail.l2] at H
           by_cases c71 : x78_4 < 4
           rotate_left
           ·rw [if_neg c71] at H
            have c71b0 : decide (x78_4 < 4) = false:=decide_eq_false c71
            clear c71
            have H':=Aside0.mk H
            clear H
            go_wp2
            (try simp only [← hl11_3,← hl11_4])
            go_roundg k4
            case measure => have:=HJ6.out;have:=HK2.out;have:=HK3.out;have:=HK4.out;omega
            case rel => exact ⟨(x11_4),(x13_4),(wrap64 (x14_3 + 1)),(by first|rfl|(simp;done)|(simp [*];done)),H',⟨by have:=HJ6.out;have:=HK2.out;have:=HK3.out;have:=HK4.out;omega⟩,⟨by (try simp only [hl11_2]);(try simp only [hl11_3]);(try simp only [hl11_4]);(with_reducible repeat (first|apply Kd.R_alloc|apply Kd.R_drewN|apply Kd.R_drew));exact HO_11.out⟩,⟨by (try simp only [hl11_2]);(try simp only [hl11_3]);(try simp only [hl11_4]);(with_reducible repeat (first|apply Kd.R_alloc|apply Kd.R_drewN|apply Kd.R_drew));exact HO_13.out⟩,⟨by (try simp only [hl11_2]);(try simp only [hl11_3]);(try simp only [hl11_4]);(with_reducible repeat (first|refine blk_drewN ?_ _|refine blk_drew ?_|refine blk_alloc ?_ _));exact BK679.out⟩,⟨by (try simp only [hl11_2]);(try simp only [hl11_3]);(try simp only [hl11_4]);(with_reducible repeat (first|refine blk_drewN ?_ _|refine blk_drew ?_|refine blk_alloc ?_ _));exact BK680.out⟩,⟨hb_⟩⟩
           rw [if_pos c71] at H
           have c71b0 : decide (x78_4 < 4) = true:=decide_eq_true c71
           clear c71
           replace H:=ifp_ H;obtain ⟨c72,H⟩:=H
           have c72b0 : decide (0 ≤ x14_3) = true:=decide_eq_true c72
           clear c72
           replace H:=ifp_ H;obtain ⟨c73,H⟩:=H
           have c73b0 : decide (x14_3 < (x13_4.length : Int)) = true:=decide_eq_true c73
           (try simp only [hl11_2] at c73b0)
           (try simp only [hl11_3] at c73b0)
           (try simp only [hl11_4] at c73b0)
           clear c73
           replace H:=Option.bind_eq_some_iff.mp H
           obtain ⟨t695,A740,H⟩:=H
           replace H : (if t695 ≥ 0 then (if 0 ≤ t695 then (if t695 < (x11_4.length : Int) then (hinterlandref06_Sail.j4 k4 a2 a3 x11_4 x13_4 x14_3 t695 x78_4 (decide ((rd x11_4 t695) < 0)) a0_0 a0_1 l0_2 l1_0 l1_1) else (none)) else (none)) else (hinterlandref06_Sail.j4 k4 a2 a3 x11_4 x13_4 x14_3 t695 x78_4 false a0_0 a0_1 l0_2 l1_0 l1_1)) = some (r1,r2):=H
           have A74:=Aside0.mk A740
           clear A740
           have HC75:=Aside0.mk H
           clear H
           try go_wp2
           replace HO_11:=Aside0.mk (Kd.R_drew HO_11.out)
           replace HO_13:=Aside0.mk (Kd.R_drew HO_13.out)
           replace BK679:=Aside0.mk (blk_drew BK679.out)
           replace BK680:=Aside0.mk (blk_drew BK680.out)
           replace HB:=Aside0.mk (below_drew1 HB.out)
           obtain ⟨Ao77,co77,eo77⟩:=Kd.R_slice HO_13.out
           (first|subst eo77|(injection eo77 with f1_ f2_ f3_;have f4_:=f1_.symm;have f5_:=f3_.symm;clear f1_ f2_ f3_;subst f4_;subst f5_))
           have p694 : 0 ≤ (x14_3 : Int):=of_decide_eq_true (by first|(with_reducible assumption)|assumption)
           have q694 : x14_3 < (x13_4.length : Int):=of_decide_eq_true (by first|(with_reducible assumption)|assumption)
           obtain ⟨ad694,e694,hx694_0⟩:=Kd.at_int (Kd.R_reads' HO_13.out).2.2 x14_3 p694 q694
           cases e694
           replace p694:=eq_true p694
           replace q694:=eq_true q694
           refine start_ (n:=9) (S:=fun w' => w'.cell? ⟨gb679,0,none⟩ = some (.int .i64 a0_0) ∧ w'.cell? ⟨gb679,1,none⟩ = some (.int .i64 a0_1) ∧ w'.cell? ⟨gb679,2,none⟩ = some (.slice A0_2 l0_2.length c0_2) ∧ w'.cell? ⟨gb680,0,none⟩ = some (.slice A1_0 l1_0.length c1_0) ∧ w'.cell? ⟨gb680,1,none⟩ = some (.slice A1_1 l1_1.length c1_1) ∧ w'.cell? (ad694.add (x14_3).toNat) = some (.int .i64 (rd x13_4 x14_3))) (ds:=[]) #[false,false,false,false,false,false,false,false,false] (by kernel_rfl) rfl rfl ⟨(blk_cell BK679.out 0).trans rfl,(blk_cell BK679.out 1).trans rfl,(blk_cell BK679.out 2).trans rfl,(blk_cell BK680.out 0).trans rfl,(blk_cell BK680.out 1).trans rfl,hx694_0⟩ (fun hHeld => ?_);refine with_tabW hinterlandref06_Sail.tab20 hinterlandref06_Sail.bits20 (fun HT_ HW_ => ?_)
           generalize wr.drew = w76 at HO_11 HO_13 BK679 BK680 HB hx694_0 hHeld ⊢
           refine pI 2 (some 83) ?_
           refine pI 3 (some 84) ?_
           refine pI 4 (some 85) ?_
           refine pI 6 (some 87) ?_
           refine tI6 0 (some 81) hHeld ?_
           refine tI6 1 (some 82) hHeld ?_
           refine tI6 5 (some 86) hHeld ?_
           refine oI 7 (some 88) (fun K hK => ?_)
           refine goes_ Try.func43 (by kernel_rfl) rfl #[.agg #[.int .i64 a0_0,.int .i64 a0_1,.slice A0_2 l0_2.length c0_2],.agg #[.slice A1_0 l1_0.length c1_0,.slice A1_1 l1_1.length c1_1],.int .i64 (rd x13_4 x14_3),.int .i64 x78_4] (by rfl) rfl rfl (by (try simp only [List.map_toArray,List.map_cons,List.map_nil]);first|done|rfl|(simp only [List.length_drop,List.length_take];rfl)) ?_
           with_reducible refine (hinterlandref06_Meets.calls k4 a0_0 a0_1 _ _ l0_2 _ _ l1_0 _ _ l1_1 (rd x13_4 x14_3) x78_4 t695 _ ?side1 ?side2 ?side3 ?side4 ?side5 ?side6 A74.out).mono ?_
           (case side1 => exact Kd.C_up (Kd.C_below HR0_2.out HB.out))
           (case side2 => exact HC0_2.out)
           (case side3 => exact Kd.C_up (Kd.C_below HR1_0.out HB.out))
           (case side4 => exact HC1_0.out)
           (case side5 => exact Kd.C_up (Kd.C_below HR1_1.out HB.out))
           (case side6 => exact HC1_1.out)
           rintro e w78 ⟨rfl,hb⟩
           have HS5_:=(hb.cell (World.block_lt_of_cell? _ _ (hHeld.2.2.2.2.2))).trans (hHeld.2.2.2.2.2)
           refine ⟨_,rfl,?_⟩
           have n0_:=rbw HO_11 hb
           have n1_:=rbw HO_13 hb
           have n2_:=bkb BK679 hb
           have n3_:=bkb BK680 hb
           have n4_:=Aside0.mk (below_step (hb_) hb)
           clear HO_11
           clear HO_13
           clear BK679
           clear BK680
           clear HB
           have HO_11:=n0_
           have HO_13:=n1_
           have BK679:=n2_
           have BK680:=n3_
           have HB:=n4_
           clear n0_ n1_ n2_ n3_ n4_
           (try clear hb)
           (try clear hb2)
           (try clear hk)
           (try clear hi)
           refine hK.out _ _ ⟨(blk_cell BK679.out 0).trans rfl,(blk_cell BK679.out 1).trans rfl,(blk_cell BK679.out 2).trans rfl,(blk_cell BK680.out 0).trans rfl,(blk_cell BK680.out 1).trans rfl,HS5_⟩ (fun hHeld => ?_)
           clear hK K
           refine norm_ (a':=?_) ?_ ?_
           rotate_left
           ·show Act.put _ (some 88) _ = _
            simp only [Act.put,List.setIfInBounds_toArray,List.set_cons_zero,List.set_cons_succ,i64_w,i32_w]
            rfl
           refine pI 8 (some 16) ?_
           refine done_ (done_of HT_.out (by kernel_rfl)) ?_
           go_upto_region 21 with (fail)
           go_cut [97] (fun v97 wc => ∃ (kq : Nat) (x97_74 : Bool),v97 = .bool x97_74 ∧ Aside0 (hinterlandref06_Sail.j4 kq a2 a3 x11_4 x13_4 x14_3 t695 x78_4 x97_74 a0_0 a0_1 l0_2 l1_0 l1_1 = some (r1,r2)) ∧ Aside0 (kq ≤ k4) ∧ Aside0 (Kd.R (Kd.int .i64) 3 wc w.heap.size (fun k_ => some k_ ≠ ((.slice (some ad694) x13_4.length co77) : Value).ownBlock) (.slice (some ⟨go64,0,none⟩) x11_4.length co55) x11_4) ∧ Aside0 (Kd.R (Kd.int .i64) 3 wc w.heap.size (fun k_ => some k_ ≠ ((.slice (some ⟨go64,0,none⟩) x11_4.length co55) : Value).ownBlock) (.slice (some ad694) x13_4.length co77) x13_4) ∧ Aside0 (wc.heap[gb679]? = some (.cells #[.int .i64 a0_0,.int .i64 a0_1,(.slice A0_2 l0_2.length c0_2)] 24 (0,0))) ∧ Aside0 (wc.heap[gb680]? = some (.cells #[(.slice A1_0 l1_0.length c1_0),(.slice A1_1 l1_1.length c1_1)] 26 (0,0))) ∧ Aside0 (Below w.heap.size w wc))
           case first =>
            have H:=HC75.out
            clear HC75
            by_cases c79 : t695 ≥ 0
            ·rw [if_pos c79] at H
             have c79b0 : decide (0 ≤ t695) = true:=decide_eq_true c79
             clear c79
             (first|rw [c79b0]|(simp only [i64_w,i32_w];rw [c79b0])|skip)
             replace H:=ifp_ H;obtain ⟨c80,H⟩:=H
             have c80b0 : decide (0 ≤ t695) = true:=decide_eq_true c80
             clear c80
             replace H:=ifp_ H;obtain ⟨c81,H⟩:=H
             have c81b0 : decide (t695 < (x11_4.length : Int)) = true:=decide_eq_true c81
             (try simp only [hl11_2] at c81b0)
             (try simp only [hl11_3] at c81b0)
             (try simp only [hl11_4] at c81b0)
             clear c81
             have H':=Aside0.mk H
             clear H
             have p696 : 0 ≤ (t695 : Int):=of_decide_eq_true (by first|(with_reducible assumption)|assumption)
             have q696 : t695 < (x11_4.length : Int):=of_decide_eq_true (by first|(with_reducible assumption)|assumption)
             obtain ⟨ad696,e696,hx696_0⟩:=Kd.at_int (Kd.R_reads' HO_11.out).2.2 t695 p696 q696
             obtain rfl : (⟨go64,0,none⟩ : Addr) = ad696:=(by injection e696)
             (first|simp only [add_plain] at hx696_0|simp only [add_at] at hx696_0|simp only [Addr.add,Nat.zero_add] at hx696_0|skip)
             replace p696:=eq_true p696
             replace q696:=eq_true q696
             go_wp2
             go_meet
             case rel => exact ⟨_,(decide ((rd x11_4 t695) < 0)),(by first|rfl|(simp;done)|(simp [*];done)),H',⟨by have:=HJ6.out;have:=HK2.out;have:=HK3.out;have:=HK4.out;first|omega|exact Nat.le_refl _⟩,⟨by (try simp only [hl11_2]);(try simp only [hl11_3]);(try simp only [hl11_4]);(with_reducible repeat (first|apply Kd.R_alloc|apply Kd.R_drewN|apply Kd.R_drew));exact HO_11.out⟩,⟨by (try simp only [hl11_2]);(try simp only [hl11_3]);(try simp only [hl11_4]);(with_reducible repeat (first|apply Kd.R_alloc|apply Kd.R_drewN|apply Kd.R_drew));exact HO_13.out⟩,⟨by (try simp only [hl11_2]);(try simp only [hl11_3]);(try simp only [hl11_4]);(with_reducible repeat (first|refine blk_drewN ?_ _|refine blk_drew ?_|refine blk_alloc ?_ _));exact BK679.out⟩,⟨by (try simp only [hl11_2]);(try simp only [hl11_3]);(try simp only [hl11_4]);(with_reducible repeat (first|refine blk_drewN ?_ _|refine blk_drew ?_|refine blk_alloc ?_ _));exact BK680.out⟩,⟨hb_⟩⟩
            ·rw [if_neg c79] at H
             have c79b0 : decide (0 ≤ t695) = false:=decide_eq_false c79
             clear c79
             (first|rw [c79b0]|(simp only [i64_w,i32_w];rw [c79b0])|skip)
             have H':=Aside0.mk H
             clear H
             go_wp2
             go_meet
             case rel => exact ⟨_,(false),(by first|rfl|(simp;done)|(simp [*];done)),H',⟨by have:=HJ6.out;have:=HK2.out;have:=HK3.out;have:=HK4.out;first|omega|exact Nat.le_refl _⟩,⟨by (try simp only [hl11_2]);(try simp only [hl11_3]);(try simp only [hl11_4]);(with_reducible repeat (first|apply Kd.R_alloc|apply Kd.R_drewN|apply Kd.R_drew));exact HO_11.out⟩,⟨by (try simp only [hl11_2]);(try simp only [hl11_3]);(try simp only [hl11_4]);(with_reducible repeat (first|apply Kd.R_alloc|apply Kd.R_drewN|apply Kd.R_drew));exact HO_13.out⟩,⟨by (try simp only [hl11_2]);(try simp only [hl11_3]);(try simp only [hl11_4]);(with_reducible repeat (first|refine blk_drewN ?_ _|refine blk_drew ?_|refine blk_alloc ?_ _));exact BK679.out⟩,⟨by (try simp only [hl11_2]);(try simp only [hl11_3]);(try simp only [hl11_4]);(with_reducible repeat (first|refine blk_drewN ?_ _|refine blk_drew ?_|refine blk_alloc ?_ _));exact BK680.out⟩,⟨hb_⟩⟩
           case rest =>
            clear HC75
            obtain ⟨kq,x97_74,rfl,HA,HJ74,HO_11,HO_13,BK679,BK680,HB⟩:=hcut
            cases kq with
            | zero => exact absurd HA.out (by simp [hinterlandref06_Sail.j4])
            | succ kj74 =>
             have H:=HA.out
             clear HA
             simp only [hinterlandref06_Sail.j4] at H
             by_cases c82 : x97_74 = true
             ·subst c82
              have H1 : (if 0 ≤ x14_3 then (if x14_3 < (x13_4.length : Int) then (if 0 ≤ (rd x13_4 x14_3) then (if (rd x13_4 x14_3) < (x11_4.length : Int) then (if 0 ≤ t695 then (if t695 < (x11_4.length : Int) then (if x13_4.length < 17592186044416 then (hinterlandref06_Sail.l2 kj74 a2 a3 (x11_4.set (t695 : Int).toNat (wrap64 ((rd x11_4 (rd x13_4 x14_3)) + 1))) (x13_4 ++ [t695]) x14_3 (wrap64 (x78_4 + 1)) a0_0 a0_1 l0_2 l1_0 l1_1) else (none)) else (none)) else (none)) else (none)) else (none)) else (none)) else (none)) = some (r1,r2):=by rw [if_pos rfl] at H;exact H
              clear H
              have H:=H1
              clear H1
              replace H:=ifp_ H;obtain ⟨c83,H⟩:=H
              have c83b0 : decide (0 ≤ x14_3) = true:=decide_eq_true c83
              clear c83
              replace H:=ifp_ H;obtain ⟨c84,H⟩:=H
              have c84b0 : decide (x14_3 < (x13_4.length : Int)) = true:=decide_eq_true c84
              (try simp only [hl11_2] at c84b0)
              (try simp only [hl11_3] at c84b0)
              (try simp only [hl11_4] at c84b0)
              clear c84
              replace H:=ifp_ H;obtain ⟨c85,H⟩:=H
              have c85b0 : decide (0 ≤ (rd x13_4 x14_3)) = true:=decide_eq_true c85
              clear c85
              replace H:=ifp_ H;obtain ⟨c86,H⟩:=H
              have c86b0 : decide ((rd x13_4 x14_3) < (x11_4.length : Int)) = true:=decide_eq_true c86
              (try simp only [hl11_2] at c86b0)
              (try simp only [hl11_3] at c86b0)
              (try simp only [hl11_4] at c86b0)
              clear c86
              replace H:=ifp_ H;obtain ⟨c87,H⟩:=H
              have c87b0 : decide (0 ≤ t695) = true:=decide_eq_true c87
              clear c87
              replace H:=ifp_ H;obtain ⟨c88,H⟩:=H
              have c88b0 : decide (t695 < (x11_4.length : Int)) = true:=decide_eq_true c88
              (try simp only [hl11_2] at c88b0)
              (try simp only [hl11_3] at c88b0)
              (try simp only [hl11_4] at c88b0)
              clear c88
              obtain ⟨y699,hy699⟩ : ∃ y_ : List Int,y_ = (x11_4.set (t695 : Int).toNat (wrap64 ((rd x11_4 (rd x13_4 x14_3)) + 1))):=⟨_,rfl⟩
              replace H : (if x13_4.length < 17592186044416 then (hinterlandref06_Sail.l2 kj74 a2 a3 y699 (x13_4 ++ [t695]) x14_3 (wrap64 (x78_4 + 1)) a0_0 a0_1 l0_2 l1_0 l1_1) else (none)) = some (r1,r2):=by first|(rw [hy699];with_reducible exact H)|(have H2_:=(Option.bind_some _ _).symm.trans H;rw [hy699];with_reducible exact H2_)|(have H2_:=(Option.bind_some _ _).symm.trans H;with_reducible exact H2_)|with_reducible exact H|(rw [hy699];exact H)|exact H
              have Ny699:=Aside0.mk hy699
              clear hy699
              replace H:=ifp_ H;obtain ⟨c90,H⟩:=H
              have LMc90:=Aside0.mk c90
              clear c90
              obtain ⟨y700,hy700⟩ : ∃ y_ : List Int,y_ = (x13_4 ++ [t695]):=⟨_,rfl⟩
              replace H : (hinterlandref06_Sail.l2 kj74 a2 a3 y699 y700 x14_3 (wrap64 (x78_4 + 1)) a0_0 a0_1 l0_2 l1_0 l1_1) = some (r1,r2):=by first|(rw [hy700];with_reducible exact H)|(have H2_:=(Option.bind_some _ _).symm.trans H;rw [hy700];with_reducible exact H2_)|(have H2_:=(Option.bind_some _ _).symm.trans H;with_reducible exact H2_)|with_reducible exact H|(rw [hy700];exact H)|exact H
              have Ny700:=Aside0.mk hy700
              clear hy700
              have H':=Aside0.mk H
              clear H
              have p697 : 0 ≤ (x14_3 : Int):=of_decide_eq_true (by first|(with_reducible assumption)|assumption)
              have q697 : x14_3 < (x13_4.length : Int):=of_decide_eq_true (by first|(with_reducible assumption)|assumption)
              obtain ⟨ad697,e697,hx697_0⟩:=Kd.at_int (Kd.R_reads' HO_13.out).2.2 x14_3 p697 q697
              obtain rfl : ad694 = ad697:=(by injection e697)
              replace p697:=eq_true p697
              replace q697:=eq_true q697
              have p698 : 0 ≤ ((rd x13_4 x14_3) : Int):=of_decide_eq_true (by first|(with_reducible assumption)|assumption)
              have q698 : (rd x13_4 x14_3) < (x11_4.length : Int):=of_decide_eq_true (by first|(with_reducible assumption)|assumption)
              obtain ⟨ad698,e698,hx698_0⟩:=Kd.at_int (Kd.R_reads' HO_11.out).2.2 (rd x13_4 x14_3) p698 q698
              obtain rfl : (⟨go64,0,none⟩ : Addr) = ad698:=(by injection e698)
              (first|simp only [add_plain] at hx698_0|simp only [add_at] at hx698_0|simp only [Addr.add,Nat.zero_add] at hx698_0|skip)
              replace p698:=eq_true p698
              replace q698:=eq_true q698
              have p89 : 0 ≤ (t695 : Int):=of_decide_eq_true (by first|(with_reducible assumption)|assumption)
              have q89 : (t695 : Int) < ((x11_4.length : Int) : Int):=of_decide_eq_true (by first|(with_reducible assumption)|assumption)
              obtain ⟨hx89_0,hf89_0⟩:=Kd.R_celln 0 HO_11.out (t695 : Int) p89 q89
              replace p89:=eq_true p89
              replace q89:=eq_true q89
              have HP91:=Kd.R_putg HO_11.out (t695 : Int) (wrap64 ((rd x11_4 (rd x13_4 x14_3)) + 1))
              go_wp2_with (first|((with_reducible refine gate_store (t:=3) (p:=108) rfl ?_);refine store_event (t:=3) (p:=108) (v:=?vo_w92) (w1:=(wc.setCell ⟨go64,(t695 : Int).toNat,none⟩ (.int .i64 (wrap64 ((rd x11_4 (rd x13_4 x14_3)) + 1))))) ?hg ?ho ?hn ?hr ?_;(case ho => rfl);(case hg => rfl);(case hn => rfl);(case hr => first|(go_simp;done)|(go_simp;rfl));intro w92 hw;have hg : wc.grownBy w92 (some go64):=(by rw [hw];exact HP91.2);have hp_ : Kd.R (Kd.int .i64) 3 w92 w.heap.size (fun k_ => some k_ ≠ (.slice (some ad694) x13_4.length co77 : Value).ownBlock) (.slice (some ⟨go64,0,none⟩) x11_4.length co55) y699:=(by rw [hw,Ny699.out];exact HP91.1);clear HP91;replace HO_13:=Aside0.mk (Kd.R_after (v:=(.slice (some ⟨go64,0,none⟩) x11_4.length co55)) (v1:=(.slice (some ⟨go64,0,none⟩) x11_4.length co55)) (ok:=(fun _ => True)) (by (with_reducible repeat (first|apply Kd.R_alloc|apply Kd.R_drewN|apply Kd.R_drew));exact Kd.R_mono HO_13.out (fun _ hk => ⟨trivial,hk⟩)) hg (.inl rfl));replace BK679:=Aside0.mk (blk_grown (blk_up BK679.out) hg (Kd.R_ne HO_11.out BK679.out (by decide)));replace BK680:=Aside0.mk (blk_grown (blk_up BK680.out) hg (Kd.R_ne HO_11.out BK680.out (by decide)));replace HO_11:=Aside0.mk (hp_);replace HB:=Aside0.mk ((by rw [hw];exact below_set (HB.out) GB64.out : Below w.heap.size w w92));clear hg hw hp_)|((with_reducible refine gate_builtin (b:=.append) (xs:=#[.tmp 109,.tmp 111]) rfl ?_);at_builtin;refine Kd.R_append (Kd.int .i64) (w0:=w) w.heap.size rfl (.tmp 109) (.tmp 111) 22 3 (.int .i64 0) 8 rfl Try.underlying22 info3 rfl (by decide) (by omega) (.slice (some ad694) x13_4.length co77) x13_4 t695 [.int .i64 t695] (fun k_ => some k_ ≠ (.slice (some ⟨go64,0,none⟩) x11_4.length co55 : Value).ownBlock) (fun _ => False) rfl rfl ?aP (fun _ hk => hk.elim) ?aF ?aO ?aB ?aS ?aL ?_;(case aP => exact rfl);(case aB => exact (hb_));(case aF => exact (fun k_ hk => Kd.fresh' (Kd.R_lt (Kd.R_up HO_11.out)) k_ hk));(case aO => exact (by (with_reducible repeat (first|apply Kd.R_alloc|apply Kd.R_drewN|apply Kd.R_drew));exact Kd.R_mono HO_13.out (fun _ hk => hk.2)));(case aS => exact (below_size (hb_)));(case aL => have:=LMc90.out;omega);intro v701 w93 ho hb hg hat;rw [← Ny700.out] at ho;have HO702:=Aside0.mk (ho);replace HO_11:=Aside0.mk (Kd.R_after (ok:=(fun _ => True)) (by (with_reducible repeat (first|apply Kd.R_alloc|apply Kd.R_drewN|apply Kd.R_drew));exact Kd.R_mono HO_11.out (fun _ hk => ⟨trivial,hk⟩)) hg hat);replace BK679:=Aside0.mk (blk_grown (blk_up BK679.out) hg (Kd.R_ne HO_13.out BK679.out (by decide)));replace BK680:=Aside0.mk (blk_grown (blk_up BK680.out) hg (Kd.R_ne HO_13.out BK680.out (by decide)));replace HB:=Aside0.mk (hb);clear HO_13;clear ho hb hg hat))
              (try simp only [← hl11_4])
              go_roundg kj74
              case measure => have:=HJ6.out;have:=HK2.out;have:=HK3.out;have:=HK4.out;have:=HJ74.out;omega
              case rel => exact ⟨(y699),(y700),(wrap64 (x78_4 + 1)),(by first|rfl|(simp;done)|(simp [*];done)),H',⟨by have:=HJ6.out;have:=HK2.out;have:=HK3.out;have:=HK4.out;have:=HJ74.out;omega⟩,⟨by (try simp only [hl11_2]);(try simp only [hl11_3]);(try simp only [hl11_4]);(with_reducible repeat (first|apply Kd.R_alloc|apply Kd.R_drewN|apply Kd.R_drew));exact Kd.R_mono HO_11.out (fun _ hk => hk.2)⟩,⟨by (try simp only [hl11_2]);(try simp only [hl11_3]);(try simp only [hl11_4]);(with_reducible repeat (first|apply Kd.R_alloc|apply Kd.R_drewN|apply Kd.R_drew));exact HO702.out⟩,⟨by (try simp only [hl11_2]);(try simp only [hl11_3]);(try simp only [hl11_4]);(with_reducible repeat (first|refine blk_drewN ?_ _|refine blk_drew ?_|refine blk_alloc ?_ _));exact BK679.out⟩,⟨by (try simp only [hl11_2]);(try simp only [hl11_3]);(try simp only [hl11_4]);(with_reducible repeat (first|refine blk_drewN ?_ _|refine blk_drew ?_|refine blk_alloc ?_ _));exact BK680.out⟩,⟨hb_⟩⟩
             ·replace c82:=Bool.eq_false_iff.mpr c82
              subst c82
              have H1 : (hinterlandref06_Sail.l2 kj74 a2 a3 x11_4 x13_4 x14_3 (wrap64 (x78_4 + 1)) a0_0 a0_1 l0_2 l1_0 l1_1) = some (r1,r2):=by rw [if_neg (show ¬ (false = true) by decide)] at H;exact H
              clear H
              have H:=H1
              clear H1
              have H':=Aside0.mk H
              clear H
              go_wp2
              (try simp only [← hl11_4])
              go_roundg kj74
              case measure => have:=HJ6.out;have:=HK2.out;have:=HK3.out;have:=HK4.out;have:=HJ74.out;omega
              case rel => exact ⟨(x11_4),(x13_4),(wrap64 (x78_4 + 1)),(by first|rfl|(simp;done)|(simp [*];done)),H',⟨by have:=HJ6.out;have:=HK2.out;have:=HK3.out;have:=HK4.out;have:=HJ74.out;omega⟩,⟨by (try simp only [hl11_2]);(try simp only [hl11_3]);(try simp only [hl11_4]);(with_reducible repeat (first|apply Kd.R_alloc|apply Kd.R_drewN|apply Kd.R_drew));exact HO_11.out⟩,⟨by (try simp only [hl11_2]);(try simp only [hl11_3]);(try simp only [hl11_4]);(with_reducible repeat (first|apply Kd.R_alloc|apply Kd.R_drewN|apply Kd.R_drew));exact HO_13.out⟩,⟨by (try simp only [hl11_2]);(try simp only [hl11_3]);(try simp only [hl11_4]);(with_reducible repeat (first|refine blk_drewN ?_ _|refine blk_drew ?_|refine blk_alloc ?_ _));exact BK679.out⟩,⟨by (try simp only [hl11_2]);(try simp only [hl11_3]);(try simp only [hl11_4]);(with_reducible repeat (first|refine blk_drewN ?_ _|refine blk_drew ?_|refine blk_alloc ?_ _));exact BK680.out⟩,⟨hb_⟩⟩
        rw [if_neg c69] at H
        have c69b0 : decide (x14_3 < (x13_3.length : Int)) = false:=decide_eq_false c69
        (try simp only [hl11_2] at c69b0)
        (try simp only [hl11_3] at c69b0)
        clear c69
        replace H:=ifp_ H;obtain ⟨c94,H⟩:=H
        have c94b0 : decide (0 ≤ a2) = true:=decide_eq_true c94
        clear c94
        replace H:=ifp_ H;obtain ⟨c95,H⟩:=H
        have c95b0 : decide (a2 < (x11_3.length : Int)) = true:=decide_eq_true c95
        (try simp only [hl11_2] at c95b0)
        (try simp only [hl11_3] at c95b0)
        clear c95
        by_cases c96 : (rd x11_3 a2) < 0
        ·rw [if_pos c96] at H
         have c96b0 : decide ((rd x11_3 a2) < 0) = true:=decide_eq_true c96
         clear c96
         simp only [Option.some.injEq,Prod.mk.injEq] at H
         obtain ⟨rfl,rfl⟩:=H
         obtain ⟨Ao97,co97,eo97⟩:=Kd.R_slice HO_13.out
         subst eo97
         have p703 : 0 ≤ (a2 : Int):=of_decide_eq_true (by first|(with_reducible assumption)|assumption)
         have q703 : a2 < (x11_3.length : Int):=of_decide_eq_true (by first|(with_reducible assumption)|assumption)
         obtain ⟨ad703,e703,hx703_0⟩:=Kd.at_int (Kd.R_reads' HO_11.out).2.2 a2 p703 q703
         obtain rfl : (⟨go64,0,none⟩ : Addr) = ad703:=(by injection e703)
         (first|simp only [add_plain] at hx703_0|simp only [add_at] at hx703_0|simp only [Addr.add,Nat.zero_add] at hx703_0|skip)
         replace p703:=eq_true p703
         replace q703:=eq_true q703
         go_wp2
         go_ret2
         exact ⟨_,by first|rfl|(simp [errW_none,errW_some] <;> rfl)|(simp [*,errW_none,errW_some] <;> rfl),by first|exact Kd.R_nil _ _ _ _ _|exact Kd.N_nil _ _ _ _ _|exact Kd.V_nil _ _ _ _ _|exact Kd.Q_nil _ _ _ _ _|exact Kd.S_nil _ _ _ _ _,hb_⟩
        rw [if_neg c96] at H
        have c96b0 : decide ((rd x11_3 a2) < 0) = false:=decide_eq_false c96
        clear c96
        obtain ⟨y704,hy704⟩ : ∃ y_ : List Int,y_ = (([a2] : List Int)):=⟨_,rfl⟩
        replace H : (hinterlandref06_Sail.l3 k3 a3 x11_3 y704 a2 a0_0 a0_1 l0_2 l1_0 l1_1) = some (r1,r2):=by first|(rw [hy704];with_reducible exact H)|(have H2_:=(Option.bind_some _ _).symm.trans H;rw [hy704];with_reducible exact H2_)|(have H2_:=(Option.bind_some _ _).symm.trans H;with_reducible exact H2_)|with_reducible exact H|(rw [hy704];exact H)|exact H
        have Ny704:=Aside0.mk hy704
        clear hy704
        have H':=Aside0.mk H
        clear H
        obtain ⟨Ao98,co98,eo98⟩:=Kd.R_slice HO_13.out
        subst eo98
        have p703 : 0 ≤ (a2 : Int):=of_decide_eq_true (by first|(with_reducible assumption)|assumption)
        have q703 : a2 < (x11_3.length : Int):=of_decide_eq_true (by first|(with_reducible assumption)|assumption)
        obtain ⟨ad703,e703,hx703_0⟩:=Kd.at_int (Kd.R_reads' HO_11.out).2.2 a2 p703 q703
        obtain rfl : (⟨go64,0,none⟩ : Addr) = ad703:=(by injection e703)
        (first|simp only [add_plain] at hx703_0|simp only [add_at] at hx703_0|simp only [Addr.add,Nat.zero_add] at hx703_0|skip)
        replace p703:=eq_true p703
        replace q703:=eq_true q703
        go_wp2_with (first|((with_reducible refine gate_dst (N:=120) rfl ?_);refine Kd.R_lit (Kd.int .i64) _ 3 ?hg (N:=120) ?hd (xs:=([a2] : List Int)) (inner:=[.int .i64 a2]) (ok:=fun _ => True) (okp:=fun _ => True) ?hr ?hp (fun _ hk => hk) trivial (Below.refl _ _) (Nat.le_refl _) (by simp) ?_;(case hd => rfl);(case hg => rfl);(case hr => first|(go_simp;done)|(go_simp;rfl));(case hp => exact (Reps.one (show Kd.M (Kd.int .i64) _ _ _ a2 [.int .i64 a2] from rfl) (Reps.none _ _)));intro v705 w99 ho100 hb hg_ hnew_;clear hg_ hnew_;(first|rw [← Ny704.out] at ho100|(simp only [Int.reduceToNat] at ho100;rw [← Ny704.out] at ho100));have HO706:=Aside0.mk (Kd.R_lower (Kd.R_new' (Kd.R_new' ho100 (Kd.R_lt (Kd.R_up HO_11.out))) (Kd.R_lt (Kd.R_up HO_13.out))) (below_size (hb_)));replace HO_11:=Aside0.mk (Kd.R_elder' (Kd.R_up HO_11.out) (Kd.R_base ho100) hb);replace HO_13:=Aside0.mk (Kd.R_elder' (Kd.R_up HO_13.out) (Kd.R_base ho100) hb);replace BK679:=bkb BK679 hb;replace BK680:=bkb BK680 hb;replace HB:=Aside0.mk (below_step (hb_) hb);clear hb ho100))
        go_loopg [17,18] k3 (fun kq v17 v18 w' => ∃ (x17_4 : List Int) (x18_4 : Int),v18 = .int .i64 x18_4 ∧ Aside0 (hinterlandref06_Sail.l3 kq a3 x11_3 x17_4 x18_4 a0_0 a0_1 l0_2 l1_0 l1_1 = some (r1,r2)) ∧ Aside0 (kq ≤ k3) ∧ Aside0 (Kd.R (Kd.int .i64) 3 w' w.heap.size (fun k_ => some k_ ≠ (v17 : Value).ownBlock) (.slice (some ⟨go64,0,none⟩) x11_3.length co55) x11_3) ∧ Aside0 (Kd.R (Kd.int .i64) 3 w' w.heap.size (fun k_ => some k_ ≠ ((.slice (some ⟨go64,0,none⟩) x11_3.length co55) : Value).ownBlock) v17 x17_4) ∧ Aside0 (w'.heap[gb679]? = some (.cells #[.int .i64 a0_0,.int .i64 a0_1,(.slice A0_2 l0_2.length c0_2)] 24 (0,0))) ∧ Aside0 (w'.heap[gb680]? = some (.cells #[(.slice A1_0 l1_0.length c1_0),(.slice A1_1 l1_1.length c1_1)] 26 (0,0))) ∧ Aside0 (Below w.heap.size w w'))
        case atStart => exact ⟨(y704),(a2),(by first|rfl|(simp;done)|(simp [*];done)),H',⟨Nat.le_refl _⟩,⟨by (try simp only [hl11_2]);(try simp only [hl11_3]);(with_reducible repeat (first|apply Kd.R_alloc|apply Kd.R_drewN|apply Kd.R_drew));exact Kd.R_mono HO_11.out (fun _ hk => hk.2)⟩,⟨by (try simp only [hl11_2]);(try simp only [hl11_3]);(with_reducible repeat (first|apply Kd.R_alloc|apply Kd.R_drewN|apply Kd.R_drew));exact Kd.R_mono HO706.out (fun _ hk => hk.1.2)⟩,⟨by (try simp only [hl11_2]);(try simp only [hl11_3]);(with_reducible repeat (first|refine blk_drewN ?_ _|refine blk_drew ?_|refine blk_alloc ?_ _));exact BK679.out⟩,⟨by (try simp only [hl11_2]);(try simp only [hl11_3]);(with_reducible repeat (first|refine blk_drewN ?_ _|refine blk_drew ?_|refine blk_alloc ?_ _));exact BK680.out⟩,⟨hb_⟩⟩
        case round =>
         clear H'
         obtain ⟨x17_4,x18_4,rfl,HA,HK4,HO_11,HO_17,BK679,BK680,HB⟩:=hrel
         cases gk with
         | zero => exact absurd HA.out (by simp [hinterlandref06_Sail.l3])
         | succ k4 =>
          have H:=HA.out
          clear HA
          simp only [hinterlandref06_Sail.l3] at H
          by_cases c101 : x18_4 = a3
          ·rw [if_pos c101] at H
           have c101b0 : (x18_4 == a3) = true:=beq_iff_eq.mpr c101
           have c101b1 : (x18_4 != a3) = false:=bne_eq_false_iff_eq.mpr c101
           clear c101
           simp only [Option.some.injEq,Prod.mk.injEq] at H
           obtain ⟨rfl,rfl⟩:=H
           go_wp2
           go_ret2
           exact ⟨_,by first|rfl|(simp [errW_none,errW_some] <;> rfl)|(simp [*,errW_none,errW_some] <;> rfl),by (with_reducible repeat (first|apply Kd.R_alloc|apply Kd.R_drewN|apply Kd.R_drew));exact Kd.R_mono HO_17.out (fun _ hk => trivial),hb_⟩
          rw [if_neg c101] at H
          have c101b0 : (x18_4 == a3) = false:=beq_eq_false_iff_ne.mpr c101
          have c101b1 : (x18_4 != a3) = true:=bne_iff_ne.mpr c101
          have H':=Aside0.mk H
          clear H
          go_wp2
          go_loopg [19,125] k4 (fun kq v19 v125 w' => ∃ (x19_5 : Int) (x125_5 : Int),v19 = .int .i64 x19_5 ∧ v125 = .int .i64 x125_5 ∧ Aside0 (hinterlandref06_Sail.l4 kq a3 x11_3 x17_4 x18_4 x19_5 x125_5 a0_0 a0_1 l0_2 l1_0 l1_1 = some (r1,r2)) ∧ Aside0 (kq ≤ k4) ∧ Aside0 (Kd.R (Kd.int .i64) 3 w' w.heap.size (fun k_ => some k_ ≠ (u17 : Value).ownBlock) (.slice (some ⟨go64,0,none⟩) x11_3.length co55) x11_3) ∧ Aside0 (Kd.R (Kd.int .i64) 3 w' w.heap.size (fun k_ => some k_ ≠ ((.slice (some ⟨go64,0,none⟩) x11_3.length co55) : Value).ownBlock) u17 x17_4) ∧ Aside0 (w'.heap[gb679]? = some (.cells #[.int .i64 a0_0,.int .i64 a0_1,(.slice A0_2 l0_2.length c0_2)] 24 (0,0))) ∧ Aside0 (w'.heap[gb680]? = some (.cells #[(.slice A1_0 l1_0.length c1_0),(.slice A1_1 l1_1.length c1_1)] 26 (0,0))) ∧ Aside0 (Below w.heap.size w w'))
          case atStart => exact ⟨((-1)),(0),(by first|rfl|(simp;done)|(simp [*];done)),(by first|rfl|(simp;done)|(simp [*];done)),H',⟨Nat.le_refl _⟩,⟨by (try simp only [hl11_2]);(try simp only [hl11_3]);(with_reducible repeat (first|apply Kd.R_alloc|apply Kd.R_drewN|apply Kd.R_drew));exact HO_11.out⟩,⟨by (try simp only [hl11_2]);(try simp only [hl11_3]);(with_reducible repeat (first|apply Kd.R_alloc|apply Kd.R_drewN|apply Kd.R_drew));exact HO_17.out⟩,⟨by (try simp only [hl11_2]);(try simp only [hl11_3]);(with_reducible repeat (first|refine blk_drewN ?_ _|refine blk_drew ?_|refine blk_alloc ?_ _));exact BK679.out⟩,⟨by (try simp only [hl11_2]);(try simp only [hl11_3]);(with_reducible repeat (first|refine blk_drewN ?_ _|refine blk_drew ?_|refine blk_alloc ?_ _));exact BK680.out⟩,⟨hb_⟩⟩
          case round =>
           clear H'
           obtain ⟨x19_5,x125_5,rfl,rfl,HA,HK5,HO_11,HO_17,BK679,BK680,HB⟩:=hrel
           cases gk with
           | zero => exact absurd HA.out (by simp [hinterlandref06_Sail.l4])
           | succ k5 =>
            have H:=HA.out
            clear HA
            simp only [hinterlandref06_Sail.l4] at H
            by_cases c102 : x125_5 < 4
            rotate_left
            ·rw [if_neg c102] at H
             have c102b0 : decide (x125_5 < 4) = false:=decide_eq_false c102
             clear c102
             replace H:=ifp_ H;obtain ⟨c121,H⟩:=H
             have LMc121:=Aside0.mk c121
             clear c121
             obtain ⟨y707,hy707⟩ : ∃ y_ : List Int,y_ = (x17_4 ++ [x19_5]):=⟨_,rfl⟩
             replace H : (hinterlandref06_Sail.l3 k5 a3 x11_3 y707 x19_5 a0_0 a0_1 l0_2 l1_0 l1_1) = some (r1,r2):=by first|(rw [hy707];with_reducible exact H)|(have H2_:=(Option.bind_some _ _).symm.trans H;rw [hy707];with_reducible exact H2_)|(have H2_:=(Option.bind_some _ _).symm.trans H;with_reducible exact H2_)|with_reducible exact H|(rw [hy707];exact H)|exact H
             have Ny707:=Aside0.mk hy707
             clear hy707
             have H':=Aside0.mk H
             clear H
             go_wp2_with (first|((with_reducible refine gate_builtin (b:=.append) (xs:=#[.tmp 158,.tmp 160]) rfl ?_);at_builtin;refine Kd.R_append (Kd.int .i64) (w0:=w) w.heap.size rfl (.tmp 158) (.tmp 160) 22 3 (.int .i64 0) 8 rfl Try.underlying22 info3 rfl (by decide) (by omega) u17 x17_4 x19_5 [.int .i64 x19_5] (fun k_ => some k_ ≠ (.slice (some ⟨go64,0,none⟩) x11_3.length co55 : Value).ownBlock) (fun _ => False) rfl rfl ?aP (fun _ hk => hk.elim) ?aF ?aO ?aB ?aS ?aL ?_;(case aP => exact rfl);(case aB => exact (hb_));(case aF => exact (fun k_ hk => Kd.fresh' (Kd.R_lt (Kd.R_up HO_11.out)) k_ hk));(case aO => exact (Kd.R_up HO_17.out));(case aS => exact (below_size (hb_)));(case aL => have:=LMc121.out;omega);intro v708 w122 ho hb hg hat;rw [← Ny707.out] at ho;have HO709:=Aside0.mk (ho);replace HO_11:=Aside0.mk (Kd.R_after (ok:=(fun _ => True)) (by (with_reducible repeat (first|apply Kd.R_alloc|apply Kd.R_drewN|apply Kd.R_drew));exact Kd.R_mono HO_11.out (fun _ hk => ⟨trivial,hk⟩)) hg hat);replace BK679:=Aside0.mk (blk_grown (blk_up BK679.out) hg (Kd.R_ne HO_17.out BK679.out (by decide)));replace BK680:=Aside0.mk (blk_grown (blk_up BK680.out) hg (Kd.R_ne HO_17.out BK680.out (by decide)));replace HB:=Aside0.mk (hb);clear HO_17;clear ho hb hg hat))
             go_roundg k5
             case measure => have:=HJ6.out;have:=HK2.out;have:=HK3.out;have:=HK4.out;have:=HK5.out;omega
             case rel => exact ⟨(y707),(x19_5),(by first|rfl|(simp;done)|(simp [*];done)),H',⟨by have:=HJ6.out;have:=HK2.out;have:=HK3.out;have:=HK4.out;have:=HK5.out;omega⟩,⟨by (try simp only [hl11_2]);(try simp only [hl11_3]);(with_reducible repeat (first|apply Kd.R_alloc|apply Kd.R_drewN|apply Kd.R_drew));exact Kd.R_mono HO_11.out (fun _ hk => hk.2)⟩,⟨by (try simp only [hl11_2]);(try simp only [hl11_3]);(with_reducible repeat (first|apply Kd.R_alloc|apply Kd.R_drewN|apply Kd.R_drew));exact HO709.out⟩,⟨by (try simp only [hl11_2]);(try simp only [hl11_3]);(with_reducible repeat (first|refine blk_drewN ?_ _|refine blk_drew ?_|refine blk_alloc ?_ _));exact BK679.out⟩,⟨by (try simp only [hl11_2]);(try simp only [hl11_3]);(with_reducible repeat (first|refine blk_drewN ?_ _|refine blk_drew ?_|refine blk_alloc ?_ _));exact BK680.out⟩,⟨hb_⟩⟩
            rw [if_pos c102] at H
            have c102b0 : decide (x125_5 < 4) = true:=decide_eq_true c102
            clear c102
            replace H:=Option.bind_eq_some_iff.mp H
            obtain ⟨t710,A1030,H⟩:=H
            replace H : (if t710 ≥ 0 then (if 0 ≤ t710 then (if t710 < (x11_3.length : Int) then (if 0 ≤ x18_4 then (if x18_4 < (x11_3.length : Int) then (if (rd x11_3 t710) = (wrap64 ((rd x11_3 x18_4) - 1)) then (if x19_5 < 0 then (hinterlandref06_Sail.j7 k5 a3 x11_3 x17_4 x18_4 x19_5 t710 x125_5 true a0_0 a0_1 l0_2 l1_0 l1_1) else (hinterlandref06_Sail.j7 k5 a3 x11_3 x17_4 x18_4 x19_5 t710 x125_5 (decide (t710 < x19_5)) a0_0 a0_1 l0_2 l1_0 l1_1)) else (hinterlandref06_Sail.j7 k5 a3 x11_3 x17_4 x18_4 x19_5 t710 x125_5 false a0_0 a0_1 l0_2 l1_0 l1_1)) else (none)) else (none)) else (none)) else (none)) else (hinterlandref06_Sail.j7 k5 a3 x11_3 x17_4 x18_4 x19_5 t710 x125_5 false a0_0 a0_1 l0_2 l1_0 l1_1)) = some (r1,r2):=H
            have A103:=Aside0.mk A1030
            clear A1030
            have HC104:=Aside0.mk H
            clear H
            have hnb105:=NB679_680.out
            have hnc105:=NB680_679.out
            obtain ⟨hcz106_0,hcz106_1,hcz106_2,hfz106_0,hfz106_1,hfz106_2⟩:=cells3 BK679.out
            obtain ⟨hcz107_0,hcz107_1,hfz107_0,hfz107_1⟩:=cells2 BK680.out
            go_upto_region 35 with (first|((with_reducible refine gate_callee (f:=43) rfl ?_);refine goesL_ (some 132) rfl rfl Try.func43 (by kernel_rfl) rfl #[.agg #[.int .i64 a0_0,.int .i64 a0_1,.slice A0_2 l0_2.length c0_2],.agg #[.slice A1_0 l1_0.length c1_0,.slice A1_1 l1_1.length c1_1],.int .i64 x18_4,.int .i64 x125_5] rfl (by (try simp only [List.map_toArray,List.map_cons,List.map_nil]);first|done|rfl|(simp only [List.length_drop,List.length_take];rfl)) ?_;(with_reducible refine (hinterlandref06_Meets.calls k5 a0_0 a0_1 _ _ l0_2 _ _ l1_0 _ _ l1_1 x18_4 x125_5 t710 _ ?side1 ?side2 ?side3 ?side4 ?side5 ?side6 A103.out).mono ?_);(case side1 => exact Kd.C_up (Kd.C_below HR0_2.out HB.out));(case side2 => exact HC0_2.out);(case side3 => exact Kd.C_up (Kd.C_below HR1_0.out HB.out));(case side4 => exact HC1_0.out);(case side5 => exact Kd.C_up (Kd.C_below HR1_1.out HB.out));(case side6 => exact HC1_1.out);rintro e w108 ⟨rfl,hb⟩;refine ⟨_,rfl,?_⟩;replace HO_11:=rbw HO_11 hb;replace HO_17:=rbw HO_17 hb;replace BK679:=bkb BK679 hb;replace BK680:=bkb BK680 hb;replace HB:=Aside0.mk (below_step (hb_) hb)))
            (try simp only [Act.put,List.setIfInBounds_toArray,List.set_cons_zero,List.set_cons_succ])
            go_cut [155] (fun v155 wc => ∃ (kq : Nat) (x155_103 : Bool),v155 = .bool x155_103 ∧ Aside0 (hinterlandref06_Sail.j7 kq a3 x11_3 x17_4 x18_4 x19_5 t710 x125_5 x155_103 a0_0 a0_1 l0_2 l1_0 l1_1 = some (r1,r2)) ∧ Aside0 (kq ≤ k5) ∧ Aside0 (Kd.R (Kd.int .i64) 3 wc w.heap.size (fun k_ => some k_ ≠ (u17 : Value).ownBlock) (.slice (some ⟨go64,0,none⟩) x11_3.length co55) x11_3) ∧ Aside0 (Kd.R (Kd.int .i64) 3 wc w.heap.size (fun k_ => some k_ ≠ ((.slice (some ⟨go64,0,none⟩) x11_3.length co55) : Value).ownBlock) u17 x17_4) ∧ Aside0 (wc.heap[gb679]? = some (.cells #[.int .i64 a0_0,.int .i64 a0_1,(.slice A0_2 l0_2.length c0_2)] 24 (0,0))) ∧ Aside0 (wc.heap[gb680]? = some (.cells #[(.slice A1_0 l1_0.length c1_0),(.slice A1_1 l1_1.length c1_1)] 26 (0,0))) ∧ Aside0 (Below w.heap.size w wc))
            case first =>
             have H:=HC104.out
             clear HC104
             by_cases c109 : t710 ≥ 0
             rotate_left
             ·rw [if_neg c109] at H
              have c109b0 : decide (0 ≤ t710) = false:=decide_eq_false c109
              clear c109
              (first|rw [c109b0]|(simp only [i64_w,i32_w];rw [c109b0])|skip)
              have H':=Aside0.mk H
              clear H
              try go_wp2
              replace HO_11:=Aside0.mk (Kd.R_drew HO_11.out)
              replace HO_17:=Aside0.mk (Kd.R_drew HO_17.out)
              replace BK679:=Aside0.mk (blk_drew BK679.out)
              replace BK680:=Aside0.mk (blk_drew BK680.out)
              replace HB:=Aside0.mk (below_drew1 HB.out)
              refine start_ (n:=23) (S:=fun w' => True) (ds:=[]) #[false,false,false,false,false,false,false,false,false,false,false,false,false,false,false,false,false,false,false,false,false,false,false] (by kernel_rfl) rfl rfl trivial (fun hHeld => ?_);refine with_tabW hinterlandref06_Sail.tab35 hinterlandref06_Sail.bits35 (fun HT_ HW_ => ?_)
              generalize w108.drew = w119 at HO_11 HO_17 BK679 BK680 HB hHeld ⊢
              refine pI 0 (some 133) ?_
              refine pI 1 (some 134) ?_
              refine pI 2 (some 135) ?_
              refine pU 3 (some 136) ?_
              refine pU 4 (some 137) ?_
              refine pU 5 (some 138) ?_
              refine pU 6 (some 139) ?_
              refine pU 7 (some 140) ?_
              refine pU 8 (some 141) ?_
              refine pU 9 (some 142) ?_
              refine pU 10 (some 143) ?_
              refine pU 11 (some 144) ?_
              refine pU 12 (some 145) ?_
              refine pI 13 (some 146) ?_
              refine pI 14 (some 147) ?_
              refine pU 15 (some 148) ?_
              refine pU 16 (some 149) ?_
              refine pU 17 (some 150) ?_
              refine pU 18 (some 151) ?_
              refine pU 19 (some 152) ?_
              refine pU 20 (some 153) ?_
              refine pU 21 (some 154) ?_
              refine pI 22 (some 155) ?_
              refine done_ (done_of HT_.out (by kernel_rfl)) ?_
              try go_wp2
              go_meet
              case rel => exact ⟨_,(false),(by first|rfl|(simp;done)|(simp [*];done)),H',⟨by have:=HJ6.out;have:=HK2.out;have:=HK3.out;have:=HK4.out;have:=HK5.out;first|omega|exact Nat.le_refl _⟩,⟨by (try simp only [hl11_2]);(try simp only [hl11_3]);(with_reducible repeat (first|apply Kd.R_alloc|apply Kd.R_drewN|apply Kd.R_drew));exact HO_11.out⟩,⟨by (try simp only [hl11_2]);(try simp only [hl11_3]);(with_reducible repeat (first|apply Kd.R_alloc|apply Kd.R_drewN|apply Kd.R_drew));exact HO_17.out⟩,⟨by (try simp only [hl11_2]);(try simp only [hl11_3]);(with_reducible repeat (first|refine blk_drewN ?_ _|refine blk_drew ?_|refine blk_alloc ?_ _));exact BK679.out⟩,⟨by (try simp only [hl11_2]);(try simp only [hl11_3]);(with_reducible repeat (first|refine blk_drewN ?_ _|refine blk_drew ?_|refine blk_alloc ?_ _));exact BK680.out⟩,⟨hb_⟩⟩
             rw [if_pos c109] at H
             have c109b0 : decide (0 ≤ t710) = true:=decide_eq_true c109
             clear c109
             (first|rw [c109b0]|(simp only [i64_w,i32_w];rw [c109b0])|skip)
             replace H:=ifp_ H;obtain ⟨c110,H⟩:=H
             have c110b0 : decide (0 ≤ t710) = true:=decide_eq_true c110
             clear c110
             replace H:=ifp_ H;obtain ⟨c111,H⟩:=H
             have c111b0 : decide (t710 < (x11_3.length : Int)) = true:=decide_eq_true c111
             (try simp only [hl11_2] at c111b0)
             (try simp only [hl11_3] at c111b0)
             clear c111
             replace H:=ifp_ H;obtain ⟨c112,H⟩:=H
             have c112b0 : decide (0 ≤ x18_4) = true:=decide_eq_true c112
             clear c112
             replace H:=ifp_ H;obtain ⟨c113,H⟩:=H
             have c113b0 : decide (x18_4 < (x11_3.length : Int)) = true:=decide_eq_true c113
             (try simp only [hl11_2] at c113b0)
             (try simp only [hl11_3] at c113b0)
             clear c113
             by_cases c114 : (rd x11_3 t710) = (wrap64 ((rd x11_3 x18_4) - 1))
             rotate_left
             ·rw [if_neg c114] at H
              have c114b0 : ((rd x11_3 t710) == (wrap64 ((rd x11_3 x18_4) - 1))) = false:=beq_eq_false_iff_ne.mpr c114
              have c114b1 : ((rd x11_3 t710) != (wrap64 ((rd x11_3 x18_4) - 1))) = true:=bne_iff_ne.mpr c114
              have H':=Aside0.mk H
              clear H
              try go_wp2
              replace HO_11:=Aside0.mk (Kd.R_drew HO_11.out)
              replace HO_17:=Aside0.mk (Kd.R_drew HO_17.out)
              replace BK679:=Aside0.mk (blk_drew BK679.out)
              replace BK680:=Aside0.mk (blk_drew BK680.out)
              replace HB:=Aside0.mk (below_drew1 HB.out)
              have p711 : 0 ≤ (t710 : Int):=of_decide_eq_true (by first|(with_reducible assumption)|assumption)
              have q711 : t710 < (x11_3.length : Int):=of_decide_eq_true (by first|(with_reducible assumption)|assumption)
              obtain ⟨ad711,e711,hx711_0⟩:=Kd.at_int (Kd.R_reads' HO_11.out).2.2 t710 p711 q711
              obtain rfl : (⟨go64,0,none⟩ : Addr) = ad711:=(by injection e711)
              (first|simp only [add_plain] at hx711_0|simp only [add_at] at hx711_0|simp only [Addr.add,Nat.zero_add] at hx711_0|skip)
              replace p711:=eq_true p711
              replace q711:=eq_true q711
              have p712 : 0 ≤ (x18_4 : Int):=of_decide_eq_true (by first|(with_reducible assumption)|assumption)
              have q712 : x18_4 < (x11_3.length : Int):=of_decide_eq_true (by first|(with_reducible assumption)|assumption)
              obtain ⟨ad712,e712,hx712_0⟩:=Kd.at_int (Kd.R_reads' HO_11.out).2.2 x18_4 p712 q712
              obtain rfl : (⟨go64,0,none⟩ : Addr) = ad712:=(by injection e712)
              (first|simp only [add_plain] at hx712_0|simp only [add_at] at hx712_0|simp only [Addr.add,Nat.zero_add] at hx712_0|skip)
              replace p712:=eq_true p712
              replace q712:=eq_true q712
              refine start_ (n:=23) (S:=fun w' => w'.cell? ⟨go64,(t710).toNat,none⟩ = some (.int .i64 (rd x11_3 t710)) ∧ w'.cell? ⟨go64,(x18_4).toNat,none⟩ = some (.int .i64 (rd x11_3 x18_4))) (ds:=[]) #[false,false,false,false,false,false,false,false,false,false,false,false,false,false,false,false,false,false,false,false,false,false,false] (by kernel_rfl) rfl rfl ⟨hx711_0,hx712_0⟩ (fun hHeld => ?_);refine with_tabW hinterlandref06_Sail.tab35 hinterlandref06_Sail.bits35 (fun HT_ HW_ => ?_)
              generalize w108.drew = w118 at HO_11 HO_17 BK679 BK680 HB hx711_0 hx712_0 hHeld ⊢
              refine pI 0 (some 133) ?_
              refine pI 1 (some 134) ?_
              refine pI 2 (some 135) ?_
              refine pI 3 (some 136) ?_
              refine pI 4 (some 137) ?_
              refine pI 5 (some 138) ?_
              refine pI 7 (some 140) ?_
              refine pI 8 (some 141) ?_
              refine pI 9 (some 142) ?_
              refine tI2 6 (some 139) hHeld ?_
              refine tI2 10 (some 143) hHeld ?_
              refine pI 11 (some 144) ?_
              refine pI 12 (some 145) ?_
              refine pI 13 (some 146) ?_
              refine pI 14 (some 147) ?_
              refine pU 15 (some 148) ?_
              refine pU 16 (some 149) ?_
              refine pU 17 (some 150) ?_
              refine pU 18 (some 151) ?_
              refine pU 19 (some 152) ?_
              refine pU 20 (some 153) ?_
              refine pU 21 (some 154) ?_
              refine pI 22 (some 155) ?_
              refine done_ (done_of HT_.out (by kernel_rfl)) ?_
              try go_wp2
              go_meet
              case rel => exact ⟨_,(false),(by first|rfl|(simp;done)|(simp [*];done)),H',⟨by have:=HJ6.out;have:=HK2.out;have:=HK3.out;have:=HK4.out;have:=HK5.out;first|omega|exact Nat.le_refl _⟩,⟨by (try simp only [hl11_2]);(try simp only [hl11_3]);(with_reducible repeat (first|apply Kd.R_alloc|apply Kd.R_drewN|apply Kd.R_drew));exact HO_11.out⟩,⟨by (try simp only [hl11_2]);(try simp only [hl11_3]);(with_reducible repeat (first|apply Kd.R_alloc|apply Kd.R_drewN|apply Kd.R_drew));exact HO_17.out⟩,⟨by (try simp only [hl11_2]);(try simp only [hl11_3]);(with_reducible repeat (first|refine blk_drewN ?_ _|refine blk_drew ?_|refine blk_alloc ?_ _));exact BK679.out⟩,⟨by (try simp only [hl11_2]);(try simp only [hl11_3]);(with_reducible repeat (first|refine blk_drewN ?_ _|refine blk_drew ?_|refine blk_alloc ?_ _));exact BK680.out⟩,⟨hb_⟩⟩
             rw [if_pos c114] at H
             have c114b0 : ((rd x11_3 t710) == (wrap64 ((rd x11_3 x18_4) - 1))) = true:=beq_iff_eq.mpr c114
             have c114b1 : ((rd x11_3 t710) != (wrap64 ((rd x11_3 x18_4) - 1))) = false:=bne_eq_false_iff_eq.mpr c114
             clear c114
             by_cases c115 : x19_5 < 0
             ·rw [if_pos c115] at H
              have c115b0 : decide (x19_5 < 0) = true:=decide_eq_true c115
              clear c115
              have H':=Aside0.mk H
              clear H
              try go_wp2
              replace HO_11:=Aside0.mk (Kd.R_drew HO_11.out)
              replace HO_17:=Aside0.mk (Kd.R_drew HO_17.out)
              replace BK679:=Aside0.mk (blk_drew BK679.out)
              replace BK680:=Aside0.mk (blk_drew BK680.out)
              replace HB:=Aside0.mk (below_drew1 HB.out)
              have p711 : 0 ≤ (t710 : Int):=of_decide_eq_true (by first|(with_reducible assumption)|assumption)
              have q711 : t710 < (x11_3.length : Int):=of_decide_eq_true (by first|(with_reducible assumption)|assumption)
              obtain ⟨ad711,e711,hx711_0⟩:=Kd.at_int (Kd.R_reads' HO_11.out).2.2 t710 p711 q711
              obtain rfl : (⟨go64,0,none⟩ : Addr) = ad711:=(by injection e711)
              (first|simp only [add_plain] at hx711_0|simp only [add_at] at hx711_0|simp only [Addr.add,Nat.zero_add] at hx711_0|skip)
              replace p711:=eq_true p711
              replace q711:=eq_true q711
              have p712 : 0 ≤ (x18_4 : Int):=of_decide_eq_true (by first|(with_reducible assumption)|assumption)
              have q712 : x18_4 < (x11_3.length : Int):=of_decide_eq_true (by first|(with_reducible assumption)|assumption)
              obtain ⟨ad712,e712,hx712_0⟩:=Kd.at_int (Kd.R_reads' HO_11.out).2.2 x18_4 p712 q712
              obtain rfl : (⟨go64,0,none⟩ : Addr) = ad712:=(by injection e712)
              (first|simp only [add_plain] at hx712_0|simp only [add_at] at hx712_0|simp only [Addr.add,Nat.zero_add] at hx712_0|skip)
              replace p712:=eq_true p712
              replace q712:=eq_true q712
              refine start_ (n:=23) (S:=fun w' => w'.cell? ⟨go64,(t710).toNat,none⟩ = some (.int .i64 (rd x11_3 t710)) ∧ w'.cell? ⟨go64,(x18_4).toNat,none⟩ = some (.int .i64 (rd x11_3 x18_4))) (ds:=[]) #[false,false,false,false,false,false,false,false,false,false,false,false,false,false,false,false,false,false,false,false,false,false,false] (by kernel_rfl) rfl rfl ⟨hx711_0,hx712_0⟩ (fun hHeld => ?_);refine with_tabW hinterlandref06_Sail.tab35 hinterlandref06_Sail.bits35 (fun HT_ HW_ => ?_)
              generalize w108.drew = w116 at HO_11 HO_17 BK679 BK680 HB hx711_0 hx712_0 hHeld ⊢
              refine pI 0 (some 133) ?_
              refine pI 1 (some 134) ?_
              refine pI 2 (some 135) ?_
              refine pI 3 (some 136) ?_
              refine pI 4 (some 137) ?_
              refine pI 5 (some 138) ?_
              refine pI 7 (some 140) ?_
              refine pI 8 (some 141) ?_
              refine pI 9 (some 142) ?_
              refine tI2 6 (some 139) hHeld ?_
              refine tI2 10 (some 143) hHeld ?_
              refine pI 11 (some 144) ?_
              refine pI 12 (some 145) ?_
              refine pI 13 (some 146) ?_
              refine pI 14 (some 147) ?_
              refine pI 15 (some 148) ?_
              refine pI 16 (some 149) ?_
              refine pI 17 (some 150) ?_
              refine pU 18 (some 151) ?_
              refine pU 19 (some 152) ?_
              refine pU 20 (some 153) ?_
              refine pI 21 (some 154) ?_
              refine pI 22 (some 155) ?_
              refine done_ (done_of HT_.out (by kernel_rfl)) ?_
              try go_wp2
              go_meet
              case rel => exact ⟨_,(true),(by first|rfl|(simp;done)|(simp [*];done)),H',⟨by have:=HJ6.out;have:=HK2.out;have:=HK3.out;have:=HK4.out;have:=HK5.out;first|omega|exact Nat.le_refl _⟩,⟨by (try simp only [hl11_2]);(try simp only [hl11_3]);(with_reducible repeat (first|apply Kd.R_alloc|apply Kd.R_drewN|apply Kd.R_drew));exact HO_11.out⟩,⟨by (try simp only [hl11_2]);(try simp only [hl11_3]);(with_reducible repeat (first|apply Kd.R_alloc|apply Kd.R_drewN|apply Kd.R_drew));exact HO_17.out⟩,⟨by (try simp only [hl11_2]);(try simp only [hl11_3]);(with_reducible repeat (first|refine blk_drewN ?_ _|refine blk_drew ?_|refine blk_alloc ?_ _));exact BK679.out⟩,⟨by (try simp only [hl11_2]);(try simp only [hl11_3]);(with_reducible repeat (first|refine blk_drewN ?_ _|refine blk_drew ?_|refine blk_alloc ?_ _));exact BK680.out⟩,⟨hb_⟩⟩
             ·rw [if_neg c115] at H
              have c115b0 : decide (x19_5 < 0) = false:=decide_eq_false c115
              clear c115
              have H':=Aside0.mk H
              clear H
              try go_wp2
              replace HO_11:=Aside0.mk (Kd.R_drew HO_11.out)
              replace HO_17:=Aside0.mk (Kd.R_drew HO_17.out)
              replace BK679:=Aside0.mk (blk_drew BK679.out)
              replace BK680:=Aside0.mk (blk_drew BK680.out)
              replace HB:=Aside0.mk (below_drew1 HB.out)
              have p711 : 0 ≤ (t710 : Int):=of_decide_eq_true (by first|(with_reducible assumption)|assumption)
              have q711 : t710 < (x11_3.length : Int):=of_decide_eq_true (by first|(with_reducible assumption)|assumption)
              obtain ⟨ad711,e711,hx711_0⟩:=Kd.at_int (Kd.R_reads' HO_11.out).2.2 t710 p711 q711
              obtain rfl : (⟨go64,0,none⟩ : Addr) = ad711:=(by injection e711)
              (first|simp only [add_plain] at hx711_0|simp only [add_at] at hx711_0|simp only [Addr.add,Nat.zero_add] at hx711_0|skip)
              replace p711:=eq_true p711
              replace q711:=eq_true q711
              have p712 : 0 ≤ (x18_4 : Int):=of_decide_eq_true (by first|(with_reducible assumption)|assumption)
              have q712 : x18_4 < (x11_3.length : Int):=of_decide_eq_true (by first|(with_reducible assumption)|assumption)
              obtain ⟨ad712,e712,hx712_0⟩:=Kd.at_int (Kd.R_reads' HO_11.out).2.2 x18_4 p712 q712
              obtain rfl : (⟨go64,0,none⟩ : Addr) = ad712:=(by injection e712)
              (first|simp only [add_plain] at hx712_0|simp only [add_at] at hx712_0|simp only [Addr.add,Nat.zero_add] at hx712_0|skip)
              replace p712:=eq_true p712
              replace q712:=eq_true q712
              refine start_ (n:=23) (S:=fun w' => w'.cell? ⟨go64,(t710).toNat,none⟩ = some (.int .i64 (rd x11_3 t710)) ∧ w'.cell? ⟨go64,(x18_4).toNat,none⟩ = some (.int .i64 (rd x11_3 x18_4))) (ds:=[]) #[false,false,false,false,false,false,false,false,false,false,false,false,false,false,false,false,false,false,false,false,false,false,false] (by kernel_rfl) rfl rfl ⟨hx711_0,hx712_0⟩ (fun hHeld => ?_);refine with_tabW hinterlandref06_Sail.tab35 hinterlandref06_Sail.bits35 (fun HT_ HW_ => ?_)
              generalize w108.drew = w117 at HO_11 HO_17 BK679 BK680 HB hx711_0 hx712_0 hHeld ⊢
              refine pI 0 (some 133) ?_
              refine pI 1 (some 134) ?_
              refine pI 2 (some 135) ?_
              refine pI 3 (some 136) ?_
              refine pI 4 (some 137) ?_
              refine pI 5 (some 138) ?_
              refine pI 7 (some 140) ?_
              refine pI 8 (some 141) ?_
              refine pI 9 (some 142) ?_
              refine tI2 6 (some 139) hHeld ?_
              refine tI2 10 (some 143) hHeld ?_
              refine pI 11 (some 144) ?_
              refine pI 12 (some 145) ?_
              refine pI 13 (some 146) ?_
              refine pI 14 (some 147) ?_
              refine pI 15 (some 148) ?_
              refine pI 16 (some 149) ?_
              refine pI 17 (some 150) ?_
              refine pI 18 (some 151) ?_
              refine pI 19 (some 152) ?_
              refine pI 20 (some 153) ?_
              refine pI 21 (some 154) ?_
              refine pI 22 (some 155) ?_
              refine done_ (done_of HT_.out (by kernel_rfl)) ?_
              try go_wp2
              go_meet
              case rel => exact ⟨_,(decide (t710 < x19_5)),(by first|rfl|(simp;done)|(simp [*];done)),H',⟨by have:=HJ6.out;have:=HK2.out;have:=HK3.out;have:=HK4.out;have:=HK5.out;first|omega|exact Nat.le_refl _⟩,⟨by (try simp only [hl11_2]);(try simp only [hl11_3]);(with_reducible repeat (first|apply Kd.R_alloc|apply Kd.R_drewN|apply Kd.R_drew));exact HO_11.out⟩,⟨by (try simp only [hl11_2]);(try simp only [hl11_3]);(with_reducible repeat (first|apply Kd.R_alloc|apply Kd.R_drewN|apply Kd.R_drew));exact HO_17.out⟩,⟨by (try simp only [hl11_2]);(try simp only [hl11_3]);(with_reducible repeat (first|refine blk_drewN ?_ _|refine blk_drew ?_|refine blk_alloc ?_ _));exact BK679.out⟩,⟨by (try simp only [hl11_2]);(try simp only [hl11_3]);(with_reducible repeat (first|refine blk_drewN ?_ _|refine blk_drew ?_|refine blk_alloc ?_ _));exact BK680.out⟩,⟨hb_⟩⟩
            case rest =>
             clear HC104
             obtain ⟨kq,x155_103,rfl,HA,HJ103,HO_11,HO_17,BK679,BK680,HB⟩:=hcut
             cases kq with
             | zero => exact absurd HA.out (by simp [hinterlandref06_Sail.j7])
             | succ kj103 =>
              have H:=HA.out
              clear HA
              simp only [hinterlandref06_Sail.j7] at H
              by_cases c120 : x155_103 = true
              ·subst c120
               have H1 : (hinterlandref06_Sail.l4 kj103 a3 x11_3 x17_4 x18_4 t710 (wrap64 (x125_5 + 1)) a0_0 a0_1 l0_2 l1_0 l1_1) = some (r1,r2):=by rw [if_pos rfl] at H;exact H
               clear H
               have H:=H1
               clear H1
               have H':=Aside0.mk H
               clear H
               go_wp2
               go_roundg kj103
               case measure => have:=HJ6.out;have:=HK2.out;have:=HK3.out;have:=HK4.out;have:=HK5.out;have:=HJ103.out;omega
               case rel => exact ⟨(t710),(wrap64 (x125_5 + 1)),(by first|rfl|(simp;done)|(simp [*];done)),(by first|rfl|(simp;done)|(simp [*];done)),H',⟨by have:=HJ6.out;have:=HK2.out;have:=HK3.out;have:=HK4.out;have:=HK5.out;have:=HJ103.out;omega⟩,⟨by (try simp only [hl11_2]);(try simp only [hl11_3]);(with_reducible repeat (first|apply Kd.R_alloc|apply Kd.R_drewN|apply Kd.R_drew));exact HO_11.out⟩,⟨by (try simp only [hl11_2]);(try simp only [hl11_3]);(with_reducible repeat (first|apply Kd.R_alloc|apply Kd.R_drewN|apply Kd.R_drew));exact HO_17.out⟩,⟨by (try simp only [hl11_2]);(try simp only [hl11_3]);(with_reducible repeat (first|refine blk_drewN ?_ _|refine blk_drew ?_|refine blk_alloc ?_ _));exact BK679.out⟩,⟨by (try simp only [hl11_2]);(try simp only [hl11_3]);(with_reducible repeat (first|refine blk_drewN ?_ _|refine blk_drew ?_|refine blk_alloc ?_ _));exact BK680.out⟩,⟨hb_⟩⟩
              ·replace c120:=Bool.eq_false_iff.mpr c120
               subst c120
               have H1 : (hinterlandref06_Sail.l4 kj103 a3 x11_3 x17_4 x18_4 x19_5 (wrap64 (x125_5 + 1)) a0_0 a0_1 l0_2 l1_0 l1_1) = some (r1,r2):=by rw [if_neg (show ¬ (false = true) by decide)] at H;exact H
               clear H
               have H:=H1
               clear H1
               have H':=Aside0.mk H
               clear H
               go_wp2
               go_roundg kj103
               case measure => have:=HJ6.out;have:=HK2.out;have:=HK3.out;have:=HK4.out;have:=HK5.out;have:=HJ103.out;omega
               case rel => exact ⟨(x19_5),(wrap64 (x125_5 + 1)),(by first|rfl|(simp;done)|(simp [*];done)),(by first|rfl|(simp;done)|(simp [*];done)),H',⟨by have:=HJ6.out;have:=HK2.out;have:=HK3.out;have:=HK4.out;have:=HK5.out;have:=HJ103.out;omega⟩,⟨by (try simp only [hl11_2]);(try simp only [hl11_3]);(with_reducible repeat (first|apply Kd.R_alloc|apply Kd.R_drewN|apply Kd.R_drew));exact HO_11.out⟩,⟨by (try simp only [hl11_2]);(try simp only [hl11_3]);(with_reducible repeat (first|apply Kd.R_alloc|apply Kd.R_drewN|apply Kd.R_drew));exact HO_17.out⟩,⟨by (try simp only [hl11_2]);(try simp only [hl11_3]);(with_reducible repeat (first|refine blk_drewN ?_ _|refine blk_drew ?_|refine blk_alloc ?_ _));exact BK679.out⟩,⟨by (try simp only [hl11_2]);(try simp only [hl11_3]);(with_reducible repeat (first|refine blk_drewN ?_ _|refine blk_drew ?_|refine blk_alloc ?_ _));exact BK680.out⟩,⟨hb_⟩⟩

end Go.Proofs.Ytiencnnkphipoaa.P

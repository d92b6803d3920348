/- Functions of this seat as plain Lean functions, with proofs that the Go code comes to just their answers, or what stands between them and a law's statement; no conditions. (Laid by a program of this session, out of the kit's print.) -/
import Derived.Test.YthjmdpekcleihaaPx0
import Derived.Test.YthjmdpekcleihaaPx4
import Derived.Test.YthjmdpekcleihaaPx5
import Derived.Test.YthjmdpekcleihaaPx6
namespace Go.Proofs.Ythjmdpekcleihaa.P
open Go.RowKit Go.Proofs.YthjmdpekcleihaaW.PrintWords Go.Proofs.YthjmdpekcleihaaW.PrintLast Go.Proofs.YthjmdpekcleihaaW.PrintMore
attribute [local go_sem] max2_int min2_int max_two min_two max_three min_three max_four min_four   -- for this text's walks alone
set_option linter.unusedVariables false
set_option linter.unusedSimpArgs false

/-! ### hinterlandref06_Sail: function 60 -/
mutual
def hinterlandref06_Sail.j0:Nat→Int→Int→Bool→Int→Int→List Int→List Int→List Int→Option (List Int × Int)
 | 0,_,_,_,_,_,_,_,_=>none
 | k+1,x2,x3,x53,x222000,x222001,x222002,x223000,x223001=>if x53=true then (some (([]:List Int),2)) else (if 0≤(x223000.length:Int) then (if ((x223000.length:Int):Int).toNat≤35184372088832 then ((some (List.replicate ((x223000.length:Int):Int).toNat 0:List Int)).bind fun y228=>(hinterlandref06_Sail.l0 k x2 x3 y228 (y228.length:Int) 0 x222000 x222001 x222002 x223000 x223001)) else (none)) else (none))
def hinterlandref06_Sail.l0:Nat→Int→Int→List Int→Int→Int→Int→Int→List Int→List Int→List Int→Option (List Int × Int)
 | 0,_,_,_,_,_,_,_,_,_,_=>none
 | k+1,x2,x3,x11,x59,x60,x222000,x222001,x222002,x223000,x223001=>if x60<x59 then (if 0≤x60 then (if x60<(x11.length:Int) then (hinterlandref06_Sail.l0 k x2 x3 (x11.set (x60:Int).toNat (-1)) x59 (wrap64 (x60+1)) x222000 x222001 x222002 x223000 x223001) else (none)) else (none)) else (if 0≤x3 then (if x3<(x11.length:Int) then (hinterlandref06_Sail.l1 k x2 x3 (x11.set (x3:Int).toNat 0) (([x3]:List Int)) 0 x222000 x222001 x222002 x223000 x223001) else (none)) else (none))
def hinterlandref06_Sail.l1:Nat→Int→Int→List Int→List Int→Int→Int→Int→List Int→List Int→List Int→Option (List Int × Int)
 | 0,_,_,_,_,_,_,_,_,_,_=>none
 | k+1,x2,x3,x11,x13,x14,x222000,x222001,x222002,x223000,x223001=>if x14<(x13.length:Int) then (hinterlandref06_Sail.l2 k x2 x3 x11 x13 x14 0 x222000 x222001 x222002 x223000 x223001) else (if 0≤x2 then (if x2<(x11.length:Int) then (if (rd x11 x2)<0 then (some (([]:List Int),2)) else (hinterlandref06_Sail.l3 k x3 x11 (([x2]:List Int)) x2 x222000 x222001 x222002 x223000 x223001)) else (none)) else (none))
def hinterlandref06_Sail.l2:Nat→Int→Int→List Int→List Int→Int→Int→Int→Int→List Int→List Int→List Int→Option (List Int × Int)
 | 0,_,_,_,_,_,_,_,_,_,_,_=>none
 | k+1,x2,x3,x11,x13,x14,x78,x222000,x222001,x222002,x223000,x223001=>if x78<4 then (if 0≤x14 then (if x14<(x13.length:Int) then ((hinterlandref06_Meets.f k x222000 x222001 x222002 x223000 x223001 (rd x13 x14) x78).bind fun t237=>(if t237≥0 then (if 0≤t237 then (if t237<(x11.length:Int) then (hinterlandref06_Sail.j4 k x2 x3 x11 x13 x14 t237 x78 (decide ((rd x11 t237)<0)) x222000 x222001 x222002 x223000 x223001) else (none)) else (none)) else (hinterlandref06_Sail.j4 k x2 x3 x11 x13 x14 t237 x78 false x222000 x222001 x222002 x223000 x223001))) else (none)) else (none)) else (hinterlandref06_Sail.l1 k x2 x3 x11 x13 (wrap64 (x14+1)) x222000 x222001 x222002 x223000 x223001)
def hinterlandref06_Sail.j4:Nat→Int→Int→List Int→List Int→Int→Int→Int→Bool→Int→Int→List Int→List Int→List Int→Option (List Int × Int)
 | 0,_,_,_,_,_,_,_,_,_,_,_,_,_=>none
 | k+1,x2,x3,x11,x13,x14,x16,x78,x97,x222000,x222001,x222002,x223000,x223001=>if x97=true then (if 0≤x14 then (if x14<(x13.length:Int) then (if 0≤(rd x13 x14) then (if (rd x13 x14)<(x11.length:Int) then (if 0≤x16 then (if x16<(x11.length:Int) then (if x13.length<17592186044416 then (hinterlandref06_Sail.l2 k x2 x3 (x11.set (x16:Int).toNat (wrap64 ((rd x11 (rd x13 x14))+1))) (x13 ++ [x16]) x14 (wrap64 (x78+1)) x222000 x222001 x222002 x223000 x223001) else (none)) else (none)) else (none)) else (none)) else (none)) else (none)) else (none)) else (hinterlandref06_Sail.l2 k x2 x3 x11 x13 x14 (wrap64 (x78+1)) x222000 x222001 x222002 x223000 x223001)
def hinterlandref06_Sail.l3:Nat→Int→List Int→List Int→Int→Int→Int→List Int→List Int→List Int→Option (List Int × Int)
 | 0,_,_,_,_,_,_,_,_,_=>none
 | k+1,x3,x11,x17,x18,x222000,x222001,x222002,x223000,x223001=>if x18=x3 then (some (x17,0)) else (hinterlandref06_Sail.l4 k x3 x11 x17 x18 (-1) 0 x222000 x222001 x222002 x223000 x223001)
def hinterlandref06_Sail.l4:Nat→Int→List Int→List Int→Int→Int→Int→Int→Int→List Int→List Int→List Int→Option (List Int × Int)
 | 0,_,_,_,_,_,_,_,_,_,_,_=>none
 | k+1,x3,x11,x17,x18,x19,x125,x222000,x222001,x222002,x223000,x223001=>if x125<4 then ((hinterlandref06_Meets.f k x222000 x222001 x222002 x223000 x223001 x18 x125).bind fun t252=>(if t252≥0 then (if 0≤t252 then (if t252<(x11.length:Int) then (if 0≤x18 then (if x18<(x11.length:Int) then (if (rd x11 t252)=(wrap64 ((rd x11 x18) - 1)) then (if x19<0 then (hinterlandref06_Sail.j7 k x3 x11 x17 x18 x19 t252 x125 true x222000 x222001 x222002 x223000 x223001) else (hinterlandref06_Sail.j7 k x3 x11 x17 x18 x19 t252 x125 (decide (t252<x19)) x222000 x222001 x222002 x223000 x223001)) else (hinterlandref06_Sail.j7 k x3 x11 x17 x18 x19 t252 x125 false x222000 x222001 x222002 x223000 x223001)) else (none)) else (none)) else (none)) else (none)) else (hinterlandref06_Sail.j7 k x3 x11 x17 x18 x19 t252 x125 false x222000 x222001 x222002 x223000 x223001))) else (if x17.length<17592186044416 then (hinterlandref06_Sail.l3 k x3 x11 (x17 ++ [x19]) x19 x222000 x222001 x222002 x223000 x223001) else (none))
def hinterlandref06_Sail.j7:Nat→Int→List Int→List Int→Int→Int→Int→Int→Bool→Int→Int→List Int→List Int→List Int→Option (List Int × Int)
 | 0,_,_,_,_,_,_,_,_,_,_,_,_,_=>none
 | k+1,x3,x11,x17,x18,x19,x21,x125,x155,x222000,x222001,x222002,x223000,x223001=>if x155=true then (hinterlandref06_Sail.l4 k x3 x11 x17 x18 x21 (wrap64 (x125+1)) x222000 x222001 x222002 x223000 x223001) else (hinterlandref06_Sail.l4 k x3 x11 x17 x18 x19 (wrap64 (x125+1)) x222000 x222001 x222002 x223000 x223001)
end
def hinterlandref06_Sail.f (k:Nat) (a0_0:Int) (a0_1:Int) (l0_2:List Int) (l1_0:List Int) (l1_1:List Int) (a2:Int) (a3:Int):Option (List Int × Int) := (hinterlandref06_Validate.f k a0_0 a0_1 l0_2 l1_0 l1_1).bind fun t223=>(if t223=0 then ((hinterlandref02_Is.f a0_0 a0_1 l0_2 a2).bind fun t224=>(if t224=true then ((hinterlandref02_Is.f a0_0 a0_1 l0_2 a3).bind fun t225=>(if t225=true then ((hinterlandref06_Wet.f k a0_0 a0_1 l0_2 l1_0 a2).bind fun t226=>(if t226=true then ((hinterlandref06_Wet.f k a0_0 a0_1 l0_2 l1_0 a3).bind fun t227=>(hinterlandref06_Sail.j0 k a2 a3 (!t227) a0_0 a0_1 l0_2 l1_0 l1_1)) else (hinterlandref06_Sail.j0 k a2 a3 true a0_0 a0_1 l0_2 l1_0 l1_1))) else (hinterlandref06_Sail.j0 k a2 a3 true a0_0 a0_1 l0_2 l1_0 l1_1))) else (hinterlandref06_Sail.j0 k a2 a3 true a0_0 a0_1 l0_2 l1_0 l1_1))) else (some (([]:List Int),t223)))
theorem hinterlandref06_Sail.mono_l:∀ k,(∀ y0 y1 y2 y3 y4 y5 y6 y7,LeO (hinterlandref06_Sail.j0 k y0 y1 y2 y3 y4 y5 y6 y7) (hinterlandref06_Sail.j0 (k+1) y0 y1 y2 y3 y4 y5 y6 y7))∧(∀ y0 y1 y2 y3 y4 y5 y6 y7 y8 y9,LeO (hinterlandref06_Sail.l0 k y0 y1 y2 y3 y4 y5 y6 y7 y8 y9) (hinterlandref06_Sail.l0 (k+1) y0 y1 y2 y3 y4 y5 y6 y7 y8 y9))∧(∀ y0 y1 y2 y3 y4 y5 y6 y7 y8 y9,LeO (hinterlandref06_Sail.l1 k y0 y1 y2 y3 y4 y5 y6 y7 y8 y9) (hinterlandref06_Sail.l1 (k+1) y0 y1 y2 y3 y4 y5 y6 y7 y8 y9))∧(∀ y0 y1 y2 y3 y4 y5 y6 y7 y8 y9 y10,LeO (hinterlandref06_Sail.l2 k y0 y1 y2 y3 y4 y5 y6 y7 y8 y9 y10) (hinterlandref06_Sail.l2 (k+1) y0 y1 y2 y3 y4 y5 y6 y7 y8 y9 y10))∧(∀ y0 y1 y2 y3 y4 y5 y6 y7 y8 y9 y10 y11 y12,LeO (hinterlandref06_Sail.j4 k y0 y1 y2 y3 y4 y5 y6 y7 y8 y9 y10 y11 y12) (hinterlandref06_Sail.j4 (k+1) y0 y1 y2 y3 y4 y5 y6 y7 y8 y9 y10 y11 y12))∧(∀ y0 y1 y2 y3 y4 y5 y6 y7 y8,LeO (hinterlandref06_Sail.l3 k y0 y1 y2 y3 y4 y5 y6 y7 y8) (hinterlandref06_Sail.l3 (k+1) y0 y1 y2 y3 y4 y5 y6 y7 y8))∧(∀ y0 y1 y2 y3 y4 y5 y6 y7 y8 y9 y10,LeO (hinterlandref06_Sail.l4 k y0 y1 y2 y3 y4 y5 y6 y7 y8 y9 y10) (hinterlandref06_Sail.l4 (k+1) y0 y1 y2 y3 y4 y5 y6 y7 y8 y9 y10))∧(∀ y0 y1 y2 y3 y4 y5 y6 y7 y8 y9 y10 y11 y12,LeO (hinterlandref06_Sail.j7 k y0 y1 y2 y3 y4 y5 y6 y7 y8 y9 y10 y11 y12) (hinterlandref06_Sail.j7 (k+1) y0 y1 y2 y3 y4 y5 y6 y7 y8 y9 y10 y11 y12))
 | 0=>⟨fun _ _ _ _ _ _ _ _ r h=>by simp [hinterlandref06_Sail.j0] at h,fun _ _ _ _ _ _ _ _ _ _ r h=>by simp [hinterlandref06_Sail.l0] at h,fun _ _ _ _ _ _ _ _ _ _ r h=>by simp [hinterlandref06_Sail.l1] at h,fun _ _ _ _ _ _ _ _ _ _ _ r h=>by simp [hinterlandref06_Sail.l2] at h,fun _ _ _ _ _ _ _ _ _ _ _ _ _ r h=>by simp [hinterlandref06_Sail.j4] at h,fun _ _ _ _ _ _ _ _ _ r h=>by simp [hinterlandref06_Sail.l3] at h,fun _ _ _ _ _ _ _ _ _ _ _ r h=>by simp [hinterlandref06_Sail.l4] at h,fun _ _ _ _ _ _ _ _ _ _ _ _ _ r h=>by simp [hinterlandref06_Sail.j7] at h⟩
 | k+1=>by
  obtain ⟨ih0,ih1,ih2,ih3,ih4,ih5,ih6,ih7⟩:=hinterlandref06_Sail.mono_l k;refine ⟨?_,?_,?_,?_,?_,?_,?_,?_⟩
  ·intro y0 y1 y2 y3 y4 y5 y6 y7;unfold hinterlandref06_Sail.j0;repeat' first
   | (with_reducible exact ih0 _ _ _ _ _ _ _ _)
   | (with_reducible exact ih1 _ _ _ _ _ _ _ _ _ _)
   | (with_reducible exact ih2 _ _ _ _ _ _ _ _ _ _)
   | (with_reducible exact ih3 _ _ _ _ _ _ _ _ _ _ _)
   | (with_reducible exact ih4 _ _ _ _ _ _ _ _ _ _ _ _ _)
   | (with_reducible exact ih5 _ _ _ _ _ _ _ _ _)
   | (with_reducible exact ih6 _ _ _ _ _ _ _ _ _ _ _)
   | (with_reducible exact ih7 _ _ _ _ _ _ _ _ _ _ _ _ _)
   | (with_reducible exact hinterlandref06_Meets.mono _ _ _ _ _ _ _ _)
   | (with_reducible exact hinterlandref06_Validate.mono _ _ _ _ _ _)
   | (with_reducible exact hinterlandref06_Wet.mono _ _ _ _ _ _)
   | (with_reducible exact LeO.refl _)
   | (with_reducible exact LeO.none _)
   | (with_reducible refine LeO.ite ?_ ?_)
   | (with_reducible refine LeO.bind ?_ (fun _=>?_))
  ·intro y0 y1 y2 y3 y4 y5 y6 y7 y8 y9;unfold hinterlandref06_Sail.l0;repeat' first
   | (with_reducible exact ih0 _ _ _ _ _ _ _ _)
   | (with_reducible exact ih1 _ _ _ _ _ _ _ _ _ _)
   | (with_reducible exact ih2 _ _ _ _ _ _ _ _ _ _)
   | (with_reducible exact ih3 _ _ _ _ _ _ _ _ _ _ _)
   | (with_reducible exact ih4 _ _ _ _ _ _ _ _ _ _ _ _ _)
   | (with_reducible exact ih5 _ _ _ _ _ _ _ _ _)
   | (with_reducible exact ih6 _ _ _ _ _ _ _ _ _ _ _)
   | (with_reducible exact ih7 _ _ _ _ _ _ _ _ _ _ _ _ _)
   | (with_reducible exact hinterlandref06_Meets.mono _ _ _ _ _ _ _ _)
   | (with_reducible exact hinterlandref06_Validate.mono _ _ _ _ _ _)
   | (with_reducible exact hinterlandref06_Wet.mono _ _ _ _ _ _)
   | (with_reducible exact LeO.refl _)
   | (with_reducible exact LeO.none _)
   | (with_reducible refine LeO.ite ?_ ?_)
   | (with_reducible refine LeO.bind ?_ (fun _=>?_))
  ·intro y0 y1 y2 y3 y4 y5 y6 y7 y8 y9;unfold hinterlandref06_Sail.l1;repeat' first
   | (with_reducible exact ih0 _ _ _ _ _ _ _ _)
   | (with_reducible exact ih1 _ _ _ _ _ _ _ _ _ _)
   | (with_reducible exact ih2 _ _ _ _ _ _ _ _ _ _)
   | (with_reducible exact ih3 _ _ _ _ _ _ _ _ _ _ _)
   | (with_reducible exact ih4 _ _ _ _ _ _ _ _ _ _ _ _ _)
   | (with_reducible exact ih5 _ _ _ _ _ _ _ _ _)
   | (with_reducible exact ih6 _ _ _ _ _ _ _ _ _ _ _)
   | (with_reducible exact ih7 _ _ _ _ _ _ _ _ _ _ _ _ _)
   | (with_reducible exact hinterlandref06_Meets.mono _ _ _ _ _ _ _ _)
   | (with_reducible exact hinterlandref06_Validate.mono _ _ _ _ _ _)
   | (with_reducible exact hinterlandref06_Wet.mono _ _ _ _ _ _)
   | (with_reducible exact LeO.refl _)
   | (with_reducible exact LeO.none _)
   | (with_reducible refine LeO.ite ?_ ?_)
   | (with_reducible refine LeO.bind ?_ (fun _=>?_))
  ·intro y0 y1 y2 y3 y4 y5 y6 y7 y8 y9 y10;unfold hinterlandref06_Sail.l2;repeat' first
   | (with_reducible exact ih0 _ _ _ _ _ _ _ _)
   | (with_reducible exact ih1 _ _ _ _ _ _ _ _ _ _)
   | (with_reducible exact ih2 _ _ _ _ _ _ _ _ _ _)
   | (with_reducible exact ih3 _ _ _ _ _ _ _ _ _ _ _)
   | (with_reducible exact ih4 _ _ _ _ _ _ _ _ _ _ _ _ _)
   | (with_reducible exact ih5 _ _ _ _ _ _ _ _ _)
   | (with_reducible exact ih6 _ _ _ _ _ _ _ _ _ _ _)
   | (with_reducible exact ih7 _ _ _ _ _ _ _ _ _ _ _ _ _)
   | (with_reducible exact hinterlandref06_Meets.mono _ _ _ _ _ _ _ _)
   | (with_reducible exact hinterlandref06_Validate.mono _ _ _ _ _ _)
   | (with_reducible exact hinterlandref06_Wet.mono _ _ _ _ _ _)
   | (with_reducible exact LeO.refl _)
   | (with_reducible exact LeO.none _)
   | (with_reducible refine LeO.ite ?_ ?_)
   | (with_reducible refine LeO.bind ?_ (fun _=>?_))
  ·intro y0 y1 y2 y3 y4 y5 y6 y7 y8 y9 y10 y11 y12;unfold hinterlandref06_Sail.j4;repeat' first
   | (with_reducible exact ih0 _ _ _ _ _ _ _ _)
   | (with_reducible exact ih1 _ _ _ _ _ _ _ _ _ _)
   | (with_reducible exact ih2 _ _ _ _ _ _ _ _ _ _)
   | (with_reducible exact ih3 _ _ _ _ _ _ _ _ _ _ _)
   | (with_reducible exact ih4 _ _ _ _ _ _ _ _ _ _ _ _ _)
   | (with_reducible exact ih5 _ _ _ _ _ _ _ _ _)
   | (with_reducible exact ih6 _ _ _ _ _ _ _ _ _ _ _)
   | (with_reducible exact ih7 _ _ _ _ _ _ _ _ _ _ _ _ _)
   | (with_reducible exact hinterlandref06_Meets.mono _ _ _ _ _ _ _ _)
   | (with_reducible exact hinterlandref06_Validate.mono _ _ _ _ _ _)
   | (with_reducible exact hinterlandref06_Wet.mono _ _ _ _ _ _)
   | (with_reducible exact LeO.refl _)
   | (with_reducible exact LeO.none _)
   | (with_reducible refine LeO.ite ?_ ?_)
   | (with_reducible refine LeO.bind ?_ (fun _=>?_))
  ·intro y0 y1 y2 y3 y4 y5 y6 y7 y8;unfold hinterlandref06_Sail.l3;repeat' first
   | (with_reducible exact ih0 _ _ _ _ _ _ _ _)
   | (with_reducible exact ih1 _ _ _ _ _ _ _ _ _ _)
   | (with_reducible exact ih2 _ _ _ _ _ _ _ _ _ _)
   | (with_reducible exact ih3 _ _ _ _ _ _ _ _ _ _ _)
   | (with_reducible exact ih4 _ _ _ _ _ _ _ _ _ _ _ _ _)
   | (with_reducible exact ih5 _ _ _ _ _ _ _ _ _)
   | (with_reducible exact ih6 _ _ _ _ _ _ _ _ _ _ _)
   | (with_reducible exact ih7 _ _ _ _ _ _ _ _ _ _ _ _ _)
   | (with_reducible exact hinterlandref06_Meets.mono _ _ _ _ _ _ _ _)
   | (with_reducible exact hinterlandref06_Validate.mono _ _ _ _ _ _)
   | (with_reducible exact hinterlandref06_Wet.mono _ _ _ _ _ _)
   | (with_reducible exact LeO.refl _)
   | (with_reducible exact LeO.none _)
   | (with_reducible refine LeO.ite ?_ ?_)
   | (with_reducible refine LeO.bind ?_ (fun _=>?_))
  ·intro y0 y1 y2 y3 y4 y5 y6 y7 y8 y9 y10;unfold hinterlandref06_Sail.l4;repeat' first
   | (with_reducible exact ih0 _ _ _ _ _ _ _ _)
   | (with_reducible exact ih1 _ _ _ _ _ _ _ _ _ _)
   | (with_reducible exact ih2 _ _ _ _ _ _ _ _ _ _)
   | (with_reducible exact ih3 _ _ _ _ _ _ _ _ _ _ _)
   | (with_reducible exact ih4 _ _ _ _ _ _ _ _ _ _ _ _ _)
   | (with_reducible exact ih5 _ _ _ _ _ _ _ _ _)
   | (with_reducible exact ih6 _ _ _ _ _ _ _ _ _ _ _)
   | (with_reducible exact ih7 _ _ _ _ _ _ _ _ _ _ _ _ _)
   | (with_reducible exact hinterlandref06_Meets.mono _ _ _ _ _ _ _ _)
   | (with_reducible exact hinterlandref06_Validate.mono _ _ _ _ _ _)
   | (with_reducible exact hinterlandref06_Wet.mono _ _ _ _ _ _)
   | (with_reducible exact LeO.refl _)
   | (with_reducible exact LeO.none _)
   | (with_reducible refine LeO.ite ?_ ?_)
   | (with_reducible refine LeO.bind ?_ (fun _=>?_))
  ·intro y0 y1 y2 y3 y4 y5 y6 y7 y8 y9 y10 y11 y12;unfold hinterlandref06_Sail.j7;repeat' first
   | (with_reducible exact ih0 _ _ _ _ _ _ _ _)
   | (with_reducible exact ih1 _ _ _ _ _ _ _ _ _ _)
   | (with_reducible exact ih2 _ _ _ _ _ _ _ _ _ _)
   | (with_reducible exact ih3 _ _ _ _ _ _ _ _ _ _ _)
   | (with_reducible exact ih4 _ _ _ _ _ _ _ _ _ _ _ _ _)
   | (with_reducible exact ih5 _ _ _ _ _ _ _ _ _)
   | (with_reducible exact ih6 _ _ _ _ _ _ _ _ _ _ _)
   | (with_reducible exact ih7 _ _ _ _ _ _ _ _ _ _ _ _ _)
   | (with_reducible exact hinterlandref06_Meets.mono _ _ _ _ _ _ _ _)
   | (with_reducible exact hinterlandref06_Validate.mono _ _ _ _ _ _)
   | (with_reducible exact hinterlandref06_Wet.mono _ _ _ _ _ _)
   | (with_reducible exact LeO.refl _)
   | (with_reducible exact LeO.none _)
   | (with_reducible refine LeO.ite ?_ ?_)
   | (with_reducible refine LeO.bind ?_ (fun _=>?_))
theorem hinterlandref06_Sail.mono:∀ a0 a1 a2 a3 a4 a5 a6 k,LeO (hinterlandref06_Sail.f k a0 a1 a2 a3 a4 a5 a6) (hinterlandref06_Sail.f (k+1) a0 a1 a2 a3 a4 a5 a6) := by
 intro a0 a1 a2 a3 a4 a5 a6 k;obtain ⟨ih0,ih1,ih2,ih3,ih4,ih5,ih6,ih7⟩:=hinterlandref06_Sail.mono_l k;unfold hinterlandref06_Sail.f;repeat' first
   | (with_reducible exact ih0 _ _ _ _ _ _ _ _)
   | (with_reducible exact ih1 _ _ _ _ _ _ _ _ _ _)
   | (with_reducible exact ih2 _ _ _ _ _ _ _ _ _ _)
   | (with_reducible exact ih3 _ _ _ _ _ _ _ _ _ _ _)
   | (with_reducible exact ih4 _ _ _ _ _ _ _ _ _ _ _ _ _)
   | (with_reducible exact ih5 _ _ _ _ _ _ _ _ _)
   | (with_reducible exact ih6 _ _ _ _ _ _ _ _ _ _ _)
   | (with_reducible exact ih7 _ _ _ _ _ _ _ _ _ _ _ _ _)
   | (with_reducible exact hinterlandref06_Meets.mono _ _ _ _ _ _ _ _)
   | (with_reducible exact hinterlandref06_Validate.mono _ _ _ _ _ _)
   | (with_reducible exact hinterlandref06_Wet.mono _ _ _ _ _ _)
   | (with_reducible exact LeO.refl _)
   | (with_reducible exact LeO.none _)
   | (with_reducible refine LeO.ite ?_ ?_)
   | (with_reducible refine LeO.bind ?_ (fun _=>?_))
def hinterlandref06_Sail.T20:Bool × List (List Nat × List Nat) := (true,[([],[]),([],[]),([],[]),([],[]),([2,3],[2,3]),([4],[4]),([],[]),([0,1,5,6],[0,1,5,6]),([7,7,0,1,2,3,4,5,6,7],[7])])
def hinterlandref06_Sail.B20:List Nat := [0,0,0,0,12,28,0,127,255]
theorem hinterlandref06_Sail.tab20:rtab .any (opsOf Try.f60 20)=hinterlandref06_Sail.T20 := by kernel_rfl
theorem hinterlandref06_Sail.bits20:waitsOk hinterlandref06_Sail.T20.2 hinterlandref06_Sail.B20=true := by kernel_rfl
def hinterlandref06_Sail.T35:Bool × List (List Nat × List Nat) := (true,[([],[]),([0],[0]),([1],[1]),([2],[2]),([2],[2]),([3,4,2],[2,3,4]),([5,2],[2,5]),([2],[2]),([2],[2]),([7,8,2],[2,7,8]),([9,2],[2,9]),([10,2],[2,10]),([6,11,2],[2,6,11]),([2,12],[2,12]),([13,2],[13]),([14],[14]),([15,14],[14,15]),([16,14,14],[14,16]),([17],[17]),([17],[17]),([18,19,17],[17,18,19]),([17,20,14],[14,17,20]),([14,21],[14,21])])
def hinterlandref06_Sail.B35:List Nat := [0,1,3,7,7,31,63,7,7,391,903,1927,4095,8191,16383,32767,65535,131071,262143,262143,1048575,2097151,4194303]
theorem hinterlandref06_Sail.tab35:rtab .any (opsOf Try.f60 35)=hinterlandref06_Sail.T35 := by kernel_rfl
theorem hinterlandref06_Sail.bits35:waitsOk hinterlandref06_Sail.T35.2 hinterlandref06_Sail.B35=true := by kernel_rfl
set_option maxHeartbeats 8000000 in
set_option maxRecDepth 100000 in
theorem hinterlandref06_Sail.calls (k:Nat) (a0_0:Int) (a0_1:Int) (A0_2:Option Addr) (c0_2:Nat) (l0_2:List Int) (A1_0:Option Addr) (c1_0:Nat) (l1_0:List Int) (A1_1:Option Addr) (c1_1:Nat) (l1_1:List Int) (a2:Int) (a3:Int) (r1:List Int) (r2:Int) (w:World) (hr0_2:Kd.C (Kd.int .i64) w A0_2 l0_2.length l0_2) (hc0_2:l0_2.length≤c0_2) (hr1_0:Kd.C (Kd.int .i64) w A1_0 l1_0.length l1_0) (hc1_0:l1_0.length≤c1_0) (hr1_1:Kd.C (Kd.int .i64) w A1_1 l1_1.length l1_1) (hc1_1:l1_1.length≤c1_1) (h:hinterlandref06_Sail.f k a0_0 a0_1 l0_2 l1_0 l1_1 a2 a3=some (r1,r2)) :
  Calls Try.prog 60 #[.agg #[.int .i64 a0_0,.int .i64 a0_1,.slice A0_2 l0_2.length c0_2],.agg #[.slice A1_0 l1_0.length c1_0,.slice A1_1 l1_1.length c1_1],.int .i64 a2,.int .i64 a3] w fun e w'=>∃ v0_:Value,e=.returned (.tuple #[v0_,.int .i64 r2])∧Kd.R (Kd.int .i64) 3 w' w.heap.size (fun _=>True) v0_ r1∧Below w.heap.size w w':=by
 have hu53:=Try.underlying53;have hu55:=Try.underlying55;have HR0_2:=Aside0.mk hr0_2;have HC0_2:=Aside0.mk hc0_2;clear hr0_2 hc0_2;have HR1_0:=Aside0.mk hr1_0;have HC1_0:=Aside0.mk hc1_0;clear hr1_0 hc1_0;have HR1_1:=Aside0.mk hr1_1;have HC1_1:=Aside0.mk hc1_1;clear hr1_1 hc1_1;have HB:=Aside0.mk (Below.refl w.heap.size w);have H:=h;clear h;unfold hinterlandref06_Sail.f at H;obtain ⟨t223,A5,H⟩:=bnd H;by_cases c6:t223=0;rotate_left
 ·rw [if_neg c6] at H;have c6b0:=bqf c6;have c6b1:=bnt c6;simp only [Option.some.injEq,Prod.mk.injEq] at H;obtain ⟨rfl,rfl⟩:=H;go_enter Try.func60,Try.ntmps60;go_wp2_with (first|((with_reducible refine gate_dst (N:=4) rfl ?_);refine box_ev (N:=4) (cs:=#[.int .i64 a0_0,.int .i64 a0_1,.slice A0_2 l0_2.length c0_2]) (t:=53) ?_;intro gb221 hg w123 hbox hb;have BK221:=Aside0.mk (hbox);have GW221:Aside0 (w.heap.size≤gb221):=gsz hg;have GE221:=GW221;replace HB:=hbs hb;clear hb hbox hg)|((with_reducible refine gate_dst (N:=5) rfl ?_);refine box_ev (N:=5) (cs:=#[.slice A1_0 l1_0.length c1_0,.slice A1_1 l1_1.length c1_1]) (t:=55) ?_;intro gb222 hg w124 hbox hb;have BK222:=Aside0.mk (hbox);have GW222:Aside0 (w.heap.size≤gb222):=gsz hg;have GE222:=GW222;have NB221_222:=nbl BK221 hg;have NB222_221:=nbr BK221 hg;replace BK221:=bkb BK221 hb;replace HB:=hbs hb;clear hb hbox hg;have hnb125:=NB221_222.out;have hnc125:=NB222_221.out;obtain ⟨_,_,_,_,_,_⟩:=cells3 BK221.out;obtain ⟨_,_,_,_⟩:=cells2 BK222.out)|((with_reducible refine gate_callee (f:=51) rfl ?_);refine goesL_ (some 24) rfl rfl Try.func51 (by kernel_rfl) rfl #[.agg #[.int .i64 a0_0,.int .i64 a0_1,.slice A0_2 l0_2.length c0_2],.agg #[.slice A1_0 l1_0.length c1_0,.slice A1_1 l1_1.length c1_1]] rfl ga_ ?_;(with_reducible refine (hinterlandref06_Validate.calls k a0_0 a0_1 _ _ l0_2 _ _ l1_0 _ _ l1_1 t223 _ ?_ ?_ ?_ ?_ ?_ ?_ A5.out).mono ?_);exact cq HR0_2;exact HC0_2.out;exact cq HR1_0;exact HC1_0.out;exact cq HR1_1;exact HC1_1.out;rintro e w128 ⟨rfl,hb⟩;refine ⟨_,rfl,?_⟩;replace BK221:=bkb BK221 hb;replace BK222:=bkb BK222 hb;replace HB:=hbs hb))
  go_ret2
  exact ⟨_,er_,nl_,hb_⟩
 rw [if_pos c6] at H;have c6b0:=bqt c6;have c6b1:=bnf c6;clear c6;have HC7:=Aside0.mk H;clear H;go_enter Try.func60,Try.ntmps60;go_upto_region 4 with (first|((with_reducible refine gate_dst (N:=4) rfl ?_);refine box_ev (N:=4) (cs:=#[.int .i64 a0_0,.int .i64 a0_1,.slice A0_2 l0_2.length c0_2]) (t:=53) ?_;intro gb221 hg w8 hbox hb;have BK221:=Aside0.mk (hbox);have GW221:Aside0 (w.heap.size≤gb221):=gsz hg;have GE221:=GW221;replace HB:=hbs hb;clear hb hbox hg)|((with_reducible refine gate_dst (N:=5) rfl ?_);refine box_ev (N:=5) (cs:=#[.slice A1_0 l1_0.length c1_0,.slice A1_1 l1_1.length c1_1]) (t:=55) ?_;intro gb222 hg w9 hbox hb;have BK222:=Aside0.mk (hbox);have GW222:Aside0 (w.heap.size≤gb222):=gsz hg;have GE222:=GW222;have NB221_222:=nbl BK221 hg;have NB222_221:=nbr BK221 hg;replace BK221:=bkb BK221 hb;replace HB:=hbs hb;clear hb hbox hg;have hnb10:=NB221_222.out;have hnc10:=NB222_221.out;obtain ⟨_,_,_,_,_,_⟩:=cells3 BK221.out;obtain ⟨_,_,_,_⟩:=cells2 BK222.out)|((with_reducible refine gate_callee (f:=51) rfl ?_);refine goesL_ (some 24) rfl rfl Try.func51 (by kernel_rfl) rfl #[.agg #[.int .i64 a0_0,.int .i64 a0_1,.slice A0_2 l0_2.length c0_2],.agg #[.slice A1_0 l1_0.length c1_0,.slice A1_1 l1_1.length c1_1]] rfl ga_ ?_;(with_reducible refine (hinterlandref06_Validate.calls k a0_0 a0_1 _ _ l0_2 _ _ l1_0 _ _ l1_1 t223 _ ?_ ?_ ?_ ?_ ?_ ?_ A5.out).mono ?_);exact cq HR0_2;exact HC0_2.out;exact cq HR1_0;exact HC1_0.out;exact cq HR1_1;exact HC1_1.out;rintro e w13 ⟨rfl,hb⟩;refine ⟨_,rfl,?_⟩;replace BK221:=bkb BK221 hb;replace BK222:=bkb BK222 hb;replace HB:=hbs hb))
 (try simp only [Act.put,List.setIfInBounds_toArray,List.set_cons_zero,List.set_cons_succ]);go_cut [53] (fun v53 wc=>∃ (kq:Nat) (x53_6:Bool),v53=.bool x53_6∧Aside0 (hinterlandref06_Sail.j0 kq a2 a3 x53_6 a0_0 a0_1 l0_2 l1_0 l1_1=some (r1,r2))∧Aside0 (kq≤k)∧Aside0 (wc.heap[gb221]?=some (.cells #[.int .i64 a0_0,.int .i64 a0_1,(.slice A0_2 l0_2.length c0_2)] 53 (0,0)))∧Aside0 (wc.heap[gb222]?=some (.cells #[(.slice A1_0 l1_0.length c1_0),(.slice A1_1 l1_1.length c1_1)] 55 (0,0)))∧Aside0 (Below w.heap.size w wc))
 case first =>
  have H:=HC7.out;clear HC7;obtain ⟨t224,A14,H⟩:=bnd H;by_cases c15:t224=true
  ·subst c15;rw [if_pos rfl] at H;obtain ⟨t225,A16,H⟩:=bnd H;by_cases c17:t225=true
   ·subst c17;rw [if_pos rfl] at H;obtain ⟨t226,A18,H⟩:=bnd H;by_cases c19:t226=true
    ·subst c19;rw [if_pos rfl] at H;obtain ⟨t227,A20,H⟩:=bnd H;have H':=Aside0.mk H;clear H;obtain ⟨_,_⟩:=nn NB221_222;obtain ⟨_,_,_,_,_,_⟩:=cells3 BK221.out;go_wp2_with (first|((with_reducible refine gate_callee (f:=75) rfl ?_);refine goesL_ (some 30) rfl rfl Try.func75 (by kernel_rfl) rfl #[.agg #[.int .i64 a0_0,.int .i64 a0_1,.slice A0_2 l0_2.length c0_2],.int .i64 a2] rfl ga_ ?_;(with_reducible refine (hinterlandref02_Is.calls a0_0 a0_1 _ _ l0_2 a2 true _ ?_ ?_ A14.out).mono ?_);exact cq HR0_2;exact HC0_2.out;rintro e w23 ⟨rfl,hb⟩;refine ⟨_,rfl,?_⟩;replace BK221:=bkb BK221 hb;replace BK222:=bkb BK222 hb;replace HB:=hbs hb;obtain ⟨_,_,_,_,_,_⟩:=cells3 BK221.out)|(go_at_call 75;(with_reducible refine (hinterlandref02_Is.calls a0_0 a0_1 _ _ l0_2 a3 true _ ?_ ?_ A16.out).mono ?_);exact cq HR0_2;exact HC0_2.out;rintro e w25 ⟨rfl,hb⟩;replace BK221:=bkb BK221 hb;replace BK222:=bkb BK222 hb;replace HB:=hbs hb;obtain ⟨_,_,_,_,_,_⟩:=cells3 BK221.out;obtain ⟨_,_,_,_⟩:=cells2 BK222.out)|(go_at_call 77;(with_reducible refine (hinterlandref06_Wet.calls k a0_0 a0_1 _ _ l0_2 _ _ l1_0 a2 true _ ?_ ?_ ?_ ?_ A18.out).mono ?_);exact cq HR0_2;exact HC0_2.out;exact cq HR1_0;exact HC1_0.out;rintro e w28 ⟨rfl,hb⟩;replace BK221:=bkb BK221 hb;replace BK222:=bkb BK222 hb;replace HB:=hbs hb;obtain ⟨_,_,_,_,_,_⟩:=cells3 BK221.out;obtain ⟨_,_,_,_⟩:=cells2 BK222.out)|(go_at_call 77;(with_reducible refine (hinterlandref06_Wet.calls k a0_0 a0_1 _ _ l0_2 _ _ l1_0 a3 t227 _ ?_ ?_ ?_ ?_ A20.out).mono ?_);exact cq HR0_2;exact HC0_2.out;exact cq HR1_0;exact HC1_0.out;rintro e w31 ⟨rfl,hb⟩;replace BK221:=bkb BK221 hb;replace BK222:=bkb BK222 hb;replace HB:=hbs hb))
     go_meet
     case rel=>exact ⟨_,(!t227),(by first|rfl|(simp;done)|(simp [*];done)),H',⟨by first|omega|exact Nat.le_refl _⟩,⟨blk_up BK221.out⟩,⟨blk_up BK222.out⟩,⟨hb_⟩⟩
    ·replace c19:=Bool.eq_false_iff.mpr c19;subst c19;rw [if_neg (show ¬ (false=true) by decide)] at H;have H':=Aside0.mk H;clear H;obtain ⟨_,_⟩:=nn NB221_222;obtain ⟨_,_,_,_,_,_⟩:=cells3 BK221.out;go_wp2_with (first|((with_reducible refine gate_callee (f:=75) rfl ?_);refine goesL_ (some 30) rfl rfl Try.func75 (by kernel_rfl) rfl #[.agg #[.int .i64 a0_0,.int .i64 a0_1,.slice A0_2 l0_2.length c0_2],.int .i64 a2] rfl ga_ ?_;(with_reducible refine (hinterlandref02_Is.calls a0_0 a0_1 _ _ l0_2 a2 true _ ?_ ?_ A14.out).mono ?_);exact cq HR0_2;exact HC0_2.out;rintro e w34 ⟨rfl,hb⟩;refine ⟨_,rfl,?_⟩;replace BK221:=bkb BK221 hb;replace BK222:=bkb BK222 hb;replace HB:=hbs hb;obtain ⟨_,_,_,_,_,_⟩:=cells3 BK221.out)|(go_at_call 75;(with_reducible refine (hinterlandref02_Is.calls a0_0 a0_1 _ _ l0_2 a3 true _ ?_ ?_ A16.out).mono ?_);exact cq HR0_2;exact HC0_2.out;rintro e w36 ⟨rfl,hb⟩;replace BK221:=bkb BK221 hb;replace BK222:=bkb BK222 hb;replace HB:=hbs hb;obtain ⟨_,_,_,_,_,_⟩:=cells3 BK221.out;obtain ⟨_,_,_,_⟩:=cells2 BK222.out)|(go_at_call 77;(with_reducible refine (hinterlandref06_Wet.calls k a0_0 a0_1 _ _ l0_2 _ _ l1_0 a2 false _ ?_ ?_ ?_ ?_ A18.out).mono ?_);exact cq HR0_2;exact HC0_2.out;exact cq HR1_0;exact HC1_0.out;rintro e w39 ⟨rfl,hb⟩;replace BK221:=bkb BK221 hb;replace BK222:=bkb BK222 hb;replace HB:=hbs hb))
     go_meet
     case rel=>exact ⟨_,(true),(by first|rfl|(simp;done)|(simp [*];done)),H',⟨by first|omega|exact Nat.le_refl _⟩,⟨blk_up BK221.out⟩,⟨blk_up BK222.out⟩,⟨hb_⟩⟩
   ·replace c17:=Bool.eq_false_iff.mpr c17;subst c17;rw [if_neg (show ¬ (false=true) by decide)] at H;have H':=Aside0.mk H;clear H;obtain ⟨_,_⟩:=nn NB221_222;obtain ⟨_,_,_,_,_,_⟩:=cells3 BK221.out;go_wp2_with (first|((with_reducible refine gate_callee (f:=75) rfl ?_);refine goesL_ (some 30) rfl rfl Try.func75 (by kernel_rfl) rfl #[.agg #[.int .i64 a0_0,.int .i64 a0_1,.slice A0_2 l0_2.length c0_2],.int .i64 a2] rfl ga_ ?_;(with_reducible refine (hinterlandref02_Is.calls a0_0 a0_1 _ _ l0_2 a2 true _ ?_ ?_ A14.out).mono ?_);exact cq HR0_2;exact HC0_2.out;rintro e w42 ⟨rfl,hb⟩;refine ⟨_,rfl,?_⟩;replace BK221:=bkb BK221 hb;replace BK222:=bkb BK222 hb;replace HB:=hbs hb;obtain ⟨_,_,_,_,_,_⟩:=cells3 BK221.out)|(go_at_call 75;(with_reducible refine (hinterlandref02_Is.calls a0_0 a0_1 _ _ l0_2 a3 false _ ?_ ?_ A16.out).mono ?_);exact cq HR0_2;exact HC0_2.out;rintro e w44 ⟨rfl,hb⟩;replace BK221:=bkb BK221 hb;replace BK222:=bkb BK222 hb;replace HB:=hbs hb))
    go_meet
    case rel=>exact ⟨_,(true),(by first|rfl|(simp;done)|(simp [*];done)),H',⟨by first|omega|exact Nat.le_refl _⟩,⟨blk_up BK221.out⟩,⟨blk_up BK222.out⟩,⟨hb_⟩⟩
  ·replace c15:=Bool.eq_false_iff.mpr c15;subst c15;rw [if_neg (show ¬ (false=true) by decide)] at H;have H':=Aside0.mk H;clear H;obtain ⟨_,_⟩:=nn NB221_222;obtain ⟨_,_,_,_,_,_⟩:=cells3 BK221.out;go_wp2_with (first|((with_reducible refine gate_callee (f:=75) rfl ?_);refine goesL_ (some 30) rfl rfl Try.func75 (by kernel_rfl) rfl #[.agg #[.int .i64 a0_0,.int .i64 a0_1,.slice A0_2 l0_2.length c0_2],.int .i64 a2] rfl ga_ ?_;(with_reducible refine (hinterlandref02_Is.calls a0_0 a0_1 _ _ l0_2 a2 false _ ?_ ?_ A14.out).mono ?_);exact cq HR0_2;exact HC0_2.out;rintro e w47 ⟨rfl,hb⟩;refine ⟨_,rfl,?_⟩;replace BK221:=bkb BK221 hb;replace BK222:=bkb BK222 hb;replace HB:=hbs hb))
   go_meet
   case rel=>exact ⟨_,(true),(by first|rfl|(simp;done)|(simp [*];done)),H',⟨by first|omega|exact Nat.le_refl _⟩,⟨blk_up BK221.out⟩,⟨blk_up BK222.out⟩,⟨hb_⟩⟩
 case rest =>
  clear HC7;obtain ⟨kq,x53_6,rfl,HA,HJ6,BK221,BK222,HB⟩:=hcut;cases kq with
  | zero=>exact absurd HA.out (by simp [hinterlandref06_Sail.j0])
  | succ kj6 =>
   have H:=HA.out;clear HA;simp only [hinterlandref06_Sail.j0] at H;by_cases c48:x53_6=true
   ·subst c48;rw [if_pos rfl] at H;simp only [Option.some.injEq,Prod.mk.injEq] at H;obtain ⟨rfl,rfl⟩:=H;go_wp2
    go_ret2
    exact ⟨_,er_,nl_,hb_⟩
   ·replace c48:=Bool.eq_false_iff.mpr c48;subst c48;rw [if_neg (show ¬ (false=true) by decide)] at H;obtain ⟨c49,H⟩:=ifp_ H;have c49b0:=eq_true c49;have c49b1:=decide_eq_true c49;clear c49;obtain ⟨c50,H⟩:=ifp_ H;have c50b0:=eq_true c50;have c50b1:=decide_eq_true c50;clear c50;obtain ⟨y228,hy228⟩:∃ y_:List Int,y_=(List.replicate ((l1_0.length:Int):Int).toNat 0):=⟨_,rfl⟩;replace H:(hinterlandref06_Sail.l0 kj6 a2 a3 y228 (y228.length:Int) 0 a0_0 a0_1 l0_2 l1_0 l1_1)=some (r1,r2):=by first|(rw [hy228];with_reducible exact H)|(have H2_:=(Option.bind_some _ _).symm.trans H;rw [hy228];with_reducible exact H2_)|(have H2_:=(Option.bind_some _ _).symm.trans H;with_reducible exact H2_)|with_reducible exact H|(rw [hy228];exact H)|exact H
    have Ny228:=Aside0.mk hy228;clear hy228;have H':=Aside0.mk H;clear H;obtain ⟨_,_⟩:=nn NB222_221;obtain ⟨_,_,_,_⟩:=cells2 BK222.out;go_wp2_with (first|((with_reducible refine gate_dst (N:=57) rfl ?_);refine Kd.R_make (Kd.int .i64) _ 3 rfl (N:=57) rfl 22 _ _ rfl (l1_0.length:Int) rfl rfl Try.underlying22 (.int .i64 0) 8 info3 rfl (by decide) (by omega) 0 (ok:=fun _=>True) (okp:=fun _=>True) rfl (fun _ hk=>hk) trivial (ofd) (Nat.le_trans (Nat.mul_le_mul_right _ (ofd:(l1_0.length:Int).toNat≤35184372088832)) (by omega)) (Below.refl _ _) (Nat.le_refl _) ?_;intro v229 w53 ho54 hb hg_ hnew_;clear hg_ hnew_;(first|rw [← Ny228.out] at ho54|(simp only [Int.reduceToNat] at ho54;rw [← Ny228.out] at ho54));have HO230:=rlo ho54;replace BK221:=bkb BK221 hb;replace BK222:=bkb BK222 hb;replace HB:=hbs hb;clear hb ho54;obtain ⟨Ao55,co55,eo55⟩:=Kd.R_slice HO230.out;subst eo55))
    go_loopg [60] kj6 (fun kq v60 w'=>∃ (x11_2:List Int) (x60_2:Int),v60=.int .i64 x60_2∧Aside0 (hinterlandref06_Sail.l0 kq a2 a3 x11_2 (y228.length:Int) x60_2 a0_0 a0_1 l0_2 l1_0 l1_1=some (r1,r2))∧Aside0 (kq≤kj6)∧Aside0 (Kd.R (Kd.int .i64) 3 w' w.heap.size (fun _=>True) (.slice Ao55 y228.length co55) x11_2)∧Aside0 (w'.heap[gb221]?=some (.cells #[.int .i64 a0_0,.int .i64 a0_1,(.slice A0_2 l0_2.length c0_2)] 53 (0,0)))∧Aside0 (w'.heap[gb222]?=some (.cells #[(.slice A1_0 l1_0.length c1_0),(.slice A1_1 l1_1.length c1_1)] 55 (0,0)))∧Aside0 (Below w.heap.size w w'))
    case atStart=>exact ⟨(y228),(0),(by first|rfl|(simp;done)|(simp [*];done)),H',⟨Nat.le_refl _⟩,⟨Kd.R_up HO230.out⟩,⟨blk_up BK221.out⟩,⟨blk_up BK222.out⟩,⟨hb_⟩⟩
    case round =>
     clear H';obtain ⟨x11_2,x60_2,rfl,HA,HK2,HO_11,BK221,BK222,HB⟩:=hrel;have hl11_2:=(Kd.R_reads' HO_11.out).1;rw [hl11_2] at HO_11;(try simp only [hl11_2]);(try simp only [hl11_2] at BK221);(try simp only [hl11_2] at BK222);cases gk with
     | zero=>exact absurd HA.out (by simp [hinterlandref06_Sail.l0])
     | succ k2 =>
      have H:=HA.out;clear HA;simp only [hinterlandref06_Sail.l0] at H;by_cases c56:x60_2<(y228.length:Int)
      ·rw [if_pos c56] at H;have c56b0:=decide_eq_true c56;(try simp only [hl11_2] at c56b0);clear c56;obtain ⟨c57,H⟩:=ifp_ H;have c57b0:=decide_eq_true c57;clear c57;obtain ⟨c58,H⟩:=ifp_ H;have c58b0:=decide_eq_true c58;(try simp only [hl11_2] at c58b0);clear c58;obtain ⟨y231,hy231⟩:∃ y_:List Int,y_=(x11_2.set (x60_2:Int).toNat (-1)):=⟨_,rfl⟩;replace H:(hinterlandref06_Sail.l0 k2 a2 a3 y231 (y228.length:Int) (wrap64 (x60_2+1)) a0_0 a0_1 l0_2 l1_0 l1_1)=some (r1,r2):=by first|(rw [hy231];with_reducible exact H)|(have H2_:=(Option.bind_some _ _).symm.trans H;rw [hy231];with_reducible exact H2_)|(have H2_:=(Option.bind_some _ _).symm.trans H;with_reducible exact H2_)|with_reducible exact H|(rw [hy231];exact H)|exact H
       have Ny231:=Aside0.mk hy231;clear hy231;have H':=Aside0.mk H;clear H;have p59:0≤(x60_2:Int):=ofd;have q59:(x60_2:Int)<((x11_2.length:Int):Int):=ofd;obtain ⟨go59,co59,eo59,gb59,gl59,cl59,HG59⟩:=Kd.R_form HO_11.out (by omega);(first|cases eo59|(injection eo59 with ea_ en_ ec_;(first|subst ea_|(injection ea_ with ea_;subst ea_));subst ec_;clear en_));have GB59:=Aside0.mk gb59;have GG59:=Aside0.mk HG59;clear gb59 gl59 HG59;obtain ⟨hx59_0,hf59_0⟩:=Kd.R_celln 0 HO_11.out (x60_2:Int) p59 q59;replace p59:=eq_true p59;replace q59:=eq_true q59;have HP60:=Kd.R_putg HO_11.out (x60_2:Int) (-1);go_wp2_with (first|((with_reducible refine gate_store (t:=3) (p:=65) rfl ?_);refine store_event (t:=3) (p:=65) (v:=?vo_w61) (w1:=(wr.setCell ⟨go59,(x60_2:Int).toNat,none⟩ (.int .i64 (-1)))) ?hg ?ho ?hn ?hr ?_;(case ho=>rfl);(case hg=>rfl);(case hn=>rfl);(case hr=>first|(go_simp;done)|(go_simp;rfl));intro w61 hw;have hg:wr.grownBy w61 (some go59):=(by rw [hw];exact HP60.2);have hp_:Kd.R (Kd.int .i64) 3 w61 w.heap.size (fun _=>True) (.slice (some ⟨go59,0,none⟩) x11_2.length co55) y231:=(by rw [hw,Ny231.out];exact HP60.1);clear HP60;replace BK221:=Aside0.mk (blk_grown (blk_up BK221.out) hg (Kd.R_ne HO_11.out BK221.out (by decide)));replace BK222:=Aside0.mk (blk_grown (blk_up BK222.out) hg (Kd.R_ne HO_11.out BK222.out (by decide)));replace HO_11:=Aside0.mk (hp_);replace HB:=Aside0.mk ((by rw [hw];exact below_set (HB.out) GB59.out:Below w.heap.size w w61));clear hg hw hp_))
       (try simp only [← hl11_2]);go_roundg k2
       case measure=>have:=HJ6.out;have:=HK2.out;omega
       case rel=>exact ⟨(y231),(wrap64 (x60_2+1)),(by first|rfl|(simp;done)|(simp [*];done)),H',⟨by have:=HJ6.out;have:=HK2.out;omega⟩,⟨by (try simp only [hl11_2]);(with_reducible repeat (first|apply Kd.R_alloc|apply Kd.R_drewN|apply Kd.R_drew));exact HO_11.out⟩,⟨by (try simp only [hl11_2]);(with_reducible repeat (first|refine blk_drewN ?_ _|refine blk_drew ?_|refine blk_alloc ?_ _));exact BK221.out⟩,⟨by (try simp only [hl11_2]);(with_reducible repeat (first|refine blk_drewN ?_ _|refine blk_drew ?_|refine blk_alloc ?_ _));exact BK222.out⟩,⟨hb_⟩⟩
      rw [if_neg c56] at H;have c56b0:=decide_eq_false c56;(try simp only [hl11_2] at c56b0);clear c56;obtain ⟨c62,H⟩:=ifp_ H;have c62b0:=decide_eq_true c62;clear c62;obtain ⟨c63,H⟩:=ifp_ H;have c63b0:=decide_eq_true c63;(try simp only [hl11_2] at c63b0);clear c63;obtain ⟨y232,hy232⟩:∃ y_:List Int,y_=(x11_2.set (a3:Int).toNat 0):=⟨_,rfl⟩;replace H:(hinterlandref06_Sail.l1 k2 a2 a3 y232 (([a3]:List Int)) 0 a0_0 a0_1 l0_2 l1_0 l1_1)=some (r1,r2):=by first|(rw [hy232];with_reducible exact H)|(have H2_:=(Option.bind_some _ _).symm.trans H;rw [hy232];with_reducible exact H2_)|(have H2_:=(Option.bind_some _ _).symm.trans H;with_reducible exact H2_)|with_reducible exact H|(rw [hy232];exact H)|exact H
      have Ny232:=Aside0.mk hy232;clear hy232;obtain ⟨y233,hy233⟩:∃ y_:List Int,y_=(([a3]:List Int)):=⟨_,rfl⟩;replace H:(hinterlandref06_Sail.l1 k2 a2 a3 y232 y233 0 a0_0 a0_1 l0_2 l1_0 l1_1)=some (r1,r2):=by first|(rw [hy233];with_reducible exact H)|(have H2_:=(Option.bind_some _ _).symm.trans H;rw [hy233];with_reducible exact H2_)|(have H2_:=(Option.bind_some _ _).symm.trans H;with_reducible exact H2_)|with_reducible exact H|(rw [hy233];exact H)|exact H
      have Ny233:=Aside0.mk hy233;clear hy233;have H':=Aside0.mk H;clear H;have p64:0≤(a3:Int):=ofd;have q64:(a3:Int)<((x11_2.length:Int):Int):=ofd;obtain ⟨go64,co64,eo64,gb64,gl64,cl64,HG64⟩:=Kd.R_form HO_11.out (by omega);(first|cases eo64|(injection eo64 with ea_ en_ ec_;(first|subst ea_|(injection ea_ with ea_;subst ea_));subst ec_;clear en_));have GB64:=Aside0.mk gb64;have GG64:=Aside0.mk HG64;clear gb64 gl64 HG64;obtain ⟨hx64_0,hf64_0⟩:=Kd.R_celln 0 HO_11.out (a3:Int) p64 q64;replace p64:=eq_true p64;replace q64:=eq_true q64;have HP65:=Kd.R_putg HO_11.out (a3:Int) 0;go_wp2_with (first|((with_reducible refine gate_store (t:=3) (p:=69) rfl ?_);refine store_event (t:=3) (p:=69) (v:=?vo_w66) (w1:=(wr.setCell ⟨go64,(a3:Int).toNat,none⟩ (.int .i64 0))) ?hg ?ho ?hn ?hr ?_;(case ho=>rfl);(case hg=>rfl);(case hn=>rfl);(case hr=>first|(go_simp;done)|(go_simp;rfl));intro w66 hw;have hg:wr.grownBy w66 (some go64):=(by rw [hw];exact HP65.2);have hp_:Kd.R (Kd.int .i64) 3 w66 w.heap.size (fun _=>True) (.slice (some ⟨go64,0,none⟩) x11_2.length co55) y232:=(by rw [hw,Ny232.out];exact HP65.1);clear HP65;replace BK221:=Aside0.mk (blk_grown (blk_up BK221.out) hg (Kd.R_ne HO_11.out BK221.out (by decide)));replace BK222:=Aside0.mk (blk_grown (blk_up BK222.out) hg (Kd.R_ne HO_11.out BK222.out (by decide)));replace HO_11:=Aside0.mk (hp_);replace HB:=Aside0.mk ((by rw [hw];exact below_set (HB.out) GB64.out:Below w.heap.size w w66));clear hg hw hp_)|((with_reducible refine gate_dst (N:=71) rfl ?_);refine Kd.R_lit (Kd.int .i64) _ 3 ?hg (N:=71) ?hd (xs:=([a3]:List Int)) (inner:=[.int .i64 a3]) (ok:=fun _=>True) (okp:=fun _=>True) ?hr ?hp (fun _ hk=>hk) trivial (Below.refl _ _) (Nat.le_refl _) (by simp) ?_;(case hd=>rfl);(case hg=>rfl);(case hr=>first|(go_simp;done)|(go_simp;rfl));(case hp=>exact (Reps.one (show Kd.M (Kd.int .i64) _ _ _ a3 [.int .i64 a3] from rfl) (Reps.none _ _)));intro v234 w67 ho68 hb hg_ hnew_;clear hg_ hnew_;(first|rw [← Ny233.out] at ho68|(simp only [Int.reduceToNat] at ho68;rw [← Ny233.out] at ho68));have HO235:=Aside0.mk (Kd.R_lower (Kd.R_new' ho68 (Kd.R_lt (Kd.R_up HO_11.out))) (below_size (hb_)));replace HO_11:=Aside0.mk (Kd.R_elder' (Kd.R_up HO_11.out) (Kd.R_base ho68) hb);replace BK221:=bkb BK221 hb;replace BK222:=bkb BK222 hb;replace HB:=hbs hb;clear hb ho68))
      go_loopg [13,14] k2 (fun kq v13 v14 w'=>∃ (x11_3:List Int) (x13_3:List Int) (x14_3:Int),v14=.int .i64 x14_3∧Aside0 (hinterlandref06_Sail.l1 kq a2 a3 x11_3 x13_3 x14_3 a0_0 a0_1 l0_2 l1_0 l1_1=some (r1,r2))∧Aside0 (kq≤k2)∧Aside0 (Kd.R (Kd.int .i64) 3 w' w.heap.size (fun k_=>some k_ ≠ (v13:Value).ownBlock) (.slice (some ⟨go64,0,none⟩) x11_2.length co55) x11_3)∧Aside0 (Kd.R (Kd.int .i64) 3 w' w.heap.size (fun k_=>some k_ ≠ ((.slice (some ⟨go64,0,none⟩) x11_2.length co55):Value).ownBlock) v13 x13_3)∧Aside0 (w'.heap[gb221]?=some (.cells #[.int .i64 a0_0,.int .i64 a0_1,(.slice A0_2 l0_2.length c0_2)] 53 (0,0)))∧Aside0 (w'.heap[gb222]?=some (.cells #[(.slice A1_0 l1_0.length c1_0),(.slice A1_1 l1_1.length c1_1)] 55 (0,0)))∧Aside0 (Below w.heap.size w w'))
      case atStart=>exact ⟨(y232),(y233),(0),(by first|rfl|(simp;done)|(simp [*];done)),H',⟨Nat.le_refl _⟩,⟨by (try simp only [hl11_2]);(with_reducible repeat (first|apply Kd.R_alloc|apply Kd.R_drewN|apply Kd.R_drew));exact Kd.R_mono HO_11.out (fun _ hk=>hk.2)⟩,⟨by (try simp only [hl11_2]);(with_reducible repeat (first|apply Kd.R_alloc|apply Kd.R_drewN|apply Kd.R_drew));exact Kd.R_mono HO235.out (fun _ hk=>hk.2)⟩,⟨by (try simp only [hl11_2]);(with_reducible repeat (first|refine blk_drewN ?_ _|refine blk_drew ?_|refine blk_alloc ?_ _));exact BK221.out⟩,⟨by (try simp only [hl11_2]);(with_reducible repeat (first|refine blk_drewN ?_ _|refine blk_drew ?_|refine blk_alloc ?_ _));exact BK222.out⟩,⟨hb_⟩⟩
      case round =>
       clear H';obtain ⟨x11_3,x13_3,x14_3,rfl,HA,HK3,HO_11,HO_13,BK221,BK222,HB⟩:=hrel;have hl11_3:=(Kd.R_reads' HO_11.out).1;rw [hl11_3] at HO_11;(try simp only [hl11_3]);(try simp only [hl11_3] at BK221);(try simp only [hl11_3] at BK222);(try simp only [hl11_3] at HO_13);cases gk with
       | zero=>exact absurd HA.out (by simp [hinterlandref06_Sail.l1])
       | succ k3 =>
        have H:=HA.out;clear HA;simp only [hinterlandref06_Sail.l1] at H;by_cases c69:x14_3<(x13_3.length:Int)
        ·rw [if_pos c69] at H;have c69b0:=decide_eq_true c69;(try simp only [hl11_2] at c69b0);(try simp only [hl11_3] at c69b0);clear c69;have H':=Aside0.mk H;clear H;obtain ⟨Ao70,co70,eo70⟩:=Kd.R_slice HO_13.out;subst eo70;go_wp2
         go_loopg [13,78] k3 (fun kq v13 v78 w'=>∃ (x11_4:List Int) (x13_4:List Int) (x78_4:Int),v78=.int .i64 x78_4∧Aside0 (hinterlandref06_Sail.l2 kq a2 a3 x11_4 x13_4 x14_3 x78_4 a0_0 a0_1 l0_2 l1_0 l1_1=some (r1,r2))∧Aside0 (kq≤k3)∧Aside0 (Kd.R (Kd.int .i64) 3 w' w.heap.size (fun k_=>some k_ ≠ (v13:Value).ownBlock) (.slice (some ⟨go64,0,none⟩) x11_3.length co55) x11_4)∧Aside0 (Kd.R (Kd.int .i64) 3 w' w.heap.size (fun k_=>some k_ ≠ ((.slice (some ⟨go64,0,none⟩) x11_3.length co55):Value).ownBlock) v13 x13_4)∧Aside0 (w'.heap[gb221]?=some (.cells #[.int .i64 a0_0,.int .i64 a0_1,(.slice A0_2 l0_2.length c0_2)] 53 (0,0)))∧Aside0 (w'.heap[gb222]?=some (.cells #[(.slice A1_0 l1_0.length c1_0),(.slice A1_1 l1_1.length c1_1)] 55 (0,0)))∧Aside0 (Below w.heap.size w w'))
         case atStart=>exact ⟨(x11_3),(x13_3),(0),(by first|rfl|(simp;done)|(simp [*];done)),H',⟨Nat.le_refl _⟩,⟨by (try simp only [hl11_2]);(try simp only [hl11_3]);(with_reducible repeat (first|apply Kd.R_alloc|apply Kd.R_drewN|apply Kd.R_drew));exact HO_11.out⟩,⟨by (try simp only [hl11_2]);(try simp only [hl11_3]);(with_reducible repeat (first|apply Kd.R_alloc|apply Kd.R_drewN|apply Kd.R_drew));exact HO_13.out⟩,⟨by (try simp only [hl11_2]);(try simp only [hl11_3]);(with_reducible repeat (first|refine blk_drewN ?_ _|refine blk_drew ?_|refine blk_alloc ?_ _));exact BK221.out⟩,⟨by (try simp only [hl11_2]);(try simp only [hl11_3]);(with_reducible repeat (first|refine blk_drewN ?_ _|refine blk_drew ?_|refine blk_alloc ?_ _));exact BK222.out⟩,⟨hb_⟩⟩
         case round =>
          clear H';obtain ⟨x11_4,x13_4,x78_4,rfl,HA,HK4,HO_11,HO_13,BK221,BK222,HB⟩:=hrel;have hl11_4:=(Kd.R_reads' HO_11.out).1;rw [hl11_4] at HO_11;(try simp only [hl11_4]);(try simp only [hl11_4] at BK221);(try simp only [hl11_4] at BK222);(try simp only [hl11_4] at HO_13);cases gk with
          | zero=>exact absurd HA.out (by simp [hinterlandref06_Sail.l2])
          | succ k4 =>
           have H:=HA.out;clear HA;simp only [hinterlandref06_Sail.l2] at H;by_cases c71:x78_4<4;rotate_left
           ·rw [if_neg c71] at H;have c71b0:=decide_eq_false c71;clear c71;have H':=Aside0.mk H;clear H;go_wp2
            (try simp only [← hl11_3,← hl11_4]);go_roundg k4
            case measure=>have:=HJ6.out;have:=HK2.out;have:=HK3.out;have:=HK4.out;omega
            case rel=>exact ⟨(x11_4),(x13_4),(wrap64 (x14_3+1)),(by first|rfl|(simp;done)|(simp [*];done)),H',⟨by have:=HJ6.out;have:=HK2.out;have:=HK3.out;have:=HK4.out;omega⟩,⟨by (try simp only [hl11_2]);(try simp only [hl11_3]);(try simp only [hl11_4]);(with_reducible repeat (first|apply Kd.R_alloc|apply Kd.R_drewN|apply Kd.R_drew));exact HO_11.out⟩,⟨by (try simp only [hl11_2]);(try simp only [hl11_3]);(try simp only [hl11_4]);(with_reducible repeat (first|apply Kd.R_alloc|apply Kd.R_drewN|apply Kd.R_drew));exact HO_13.out⟩,⟨by (try simp only [hl11_2]);(try simp only [hl11_3]);(try simp only [hl11_4]);(with_reducible repeat (first|refine blk_drewN ?_ _|refine blk_drew ?_|refine blk_alloc ?_ _));exact BK221.out⟩,⟨by (try simp only [hl11_2]);(try simp only [hl11_3]);(try simp only [hl11_4]);(with_reducible repeat (first|refine blk_drewN ?_ _|refine blk_drew ?_|refine blk_alloc ?_ _));exact BK222.out⟩,⟨hb_⟩⟩
           rw [if_pos c71] at H;have c71b0:=decide_eq_true c71;clear c71;obtain ⟨c72,H⟩:=ifp_ H;have c72b0:=decide_eq_true c72;clear c72;obtain ⟨c73,H⟩:=ifp_ H;have c73b0:=decide_eq_true c73;(try simp only [hl11_2] at c73b0);(try simp only [hl11_3] at c73b0);(try simp only [hl11_4] at c73b0);clear c73;obtain ⟨t237,A74,H⟩:=bnd H;have HC75:=Aside0.mk H;clear H;try go_wp2
           replace HO_11:=Aside0.mk (Kd.R_drew HO_11.out);replace HO_13:=Aside0.mk (Kd.R_drew HO_13.out);replace BK221:=bkd BK221;replace BK222:=bkd BK222;replace HB:=Aside0.mk (below_drew1 HB.out);obtain ⟨Ao77,co77,eo77⟩:=Kd.R_slice HO_13.out;(first|subst eo77|(injection eo77 with f1_ f2_ f3_;have f4_:=f1_.symm;have f5_:=f3_.symm;clear f1_ f2_ f3_;subst f4_;subst f5_));have p236:0≤(x14_3:Int):=ofd;have q236:x14_3<(x13_4.length:Int):=ofd;obtain ⟨ad236,e236,hx236_0⟩:=Kd.at_int (Kd.R_reads' HO_13.out).2.2 x14_3 p236 q236;cases e236;replace p236:=eq_true p236;replace q236:=eq_true q236;refine start_ (n:=9) (S:=fun w'=>w'.cell? ⟨gb221,0,none⟩=some (.int .i64 a0_0)∧w'.cell? ⟨gb221,1,none⟩=some (.int .i64 a0_1)∧w'.cell? ⟨gb221,2,none⟩=some (.slice A0_2 l0_2.length c0_2)∧w'.cell? ⟨gb222,0,none⟩=some (.slice A1_0 l1_0.length c1_0)∧w'.cell? ⟨gb222,1,none⟩=some (.slice A1_1 l1_1.length c1_1)∧w'.cell? (ad236.add (x14_3).toNat)=some (.int .i64 (rd x13_4 x14_3))) (ds:=[]) #[false,false,false,false,false,false,false,false,false] (by kernel_rfl) rfl rfl ⟨bc BK221 0,bc BK221 1,bc BK221 2,bc BK222 0,bc BK222 1,hx236_0⟩ (fun hHeld=>?_);refine with_tabW hinterlandref06_Sail.tab20 hinterlandref06_Sail.bits20 (fun HT_ HW_=>?_);generalize wr.drew=w76 at HO_11 HO_13 BK221 BK222 HB hx236_0 hHeld ⊢;refine pI 2 (some 83) ?_;refine pI 3 (some 84) ?_;refine pI 4 (some 85) ?_;refine pI 6 (some 87) ?_;refine tI6 0 (some 81) hHeld ?_;refine tI6 1 (some 82) hHeld ?_;refine tI6 5 (some 86) hHeld ?_;refine oI 7 (some 88) (fun K hK=>?_);refine goes_ Try.func83 (by kernel_rfl) rfl #[.agg #[.int .i64 a0_0,.int .i64 a0_1,.slice A0_2 l0_2.length c0_2],.agg #[.slice A1_0 l1_0.length c1_0,.slice A1_1 l1_1.length c1_1],.int .i64 (rd x13_4 x14_3),.int .i64 x78_4] (by rfl) rfl rfl ga_ ?_;with_reducible refine (hinterlandref06_Meets.calls k4 a0_0 a0_1 _ _ l0_2 _ _ l1_0 _ _ l1_1 (rd x13_4 x14_3) x78_4 t237 _ ?side1 ?side2 ?side3 ?side4 ?side5 ?side6 A74.out).mono ?_
           (case side1=>exact cq HR0_2);(case side2=>exact HC0_2.out);(case side3=>exact cq HR1_0);(case side4=>exact HC1_0.out);(case side5=>exact cq HR1_1);(case side6=>exact HC1_1.out);rintro e w78 ⟨rfl,hb⟩;have HS5_:=(hb.cell (World.block_lt_of_cell? _ _ (hHeld.2.2.2.2.2))).trans (hHeld.2.2.2.2.2);refine ⟨_,rfl,?_⟩;replace HO_11:=rbw HO_11 hb;replace HO_13:=rbw HO_13 hb;replace BK221:=bkb BK221 hb;replace BK222:=bkb BK222 hb;replace HB:=Aside0.mk (below_step (hb_) hb);(try clear hb);refine hK.out _ _ ⟨bc BK221 0,bc BK221 1,bc BK221 2,bc BK222 0,bc BK222 1,HS5_⟩ (fun hHeld=>?_);clear hK K;refine nrm 88 ?_;refine pI 8 (some 16) ?_;refine done_ (done_of HT_.out (by kernel_rfl)) ?_;go_upto_region 21 with (fail)
           go_cut [97] (fun v97 wc=>∃ (kq:Nat) (x97_74:Bool),v97=.bool x97_74∧Aside0 (hinterlandref06_Sail.j4 kq a2 a3 x11_4 x13_4 x14_3 t237 x78_4 x97_74 a0_0 a0_1 l0_2 l1_0 l1_1=some (r1,r2))∧Aside0 (kq≤k4)∧Aside0 (Kd.R (Kd.int .i64) 3 wc w.heap.size (fun k_=>some k_ ≠ ((.slice (some ad236) x13_4.length co77):Value).ownBlock) (.slice (some ⟨go64,0,none⟩) x11_4.length co55) x11_4)∧Aside0 (Kd.R (Kd.int .i64) 3 wc w.heap.size (fun k_=>some k_ ≠ ((.slice (some ⟨go64,0,none⟩) x11_4.length co55):Value).ownBlock) (.slice (some ad236) x13_4.length co77) x13_4)∧Aside0 (wc.heap[gb221]?=some (.cells #[.int .i64 a0_0,.int .i64 a0_1,(.slice A0_2 l0_2.length c0_2)] 53 (0,0)))∧Aside0 (wc.heap[gb222]?=some (.cells #[(.slice A1_0 l1_0.length c1_0),(.slice A1_1 l1_1.length c1_1)] 55 (0,0)))∧Aside0 (Below w.heap.size w wc))
           case first =>
            have H:=HC75.out;clear HC75;by_cases c79:t237≥0
            ·rw [if_pos c79] at H;have c79b0:=decide_eq_true c79;clear c79;(first|rw [c79b0]|(simp only [i64_w,i32_w];rw [c79b0])|skip);obtain ⟨c80,H⟩:=ifp_ H;have c80b0:=decide_eq_true c80;clear c80;obtain ⟨c81,H⟩:=ifp_ H;have c81b0:=decide_eq_true c81;(try simp only [hl11_2] at c81b0);(try simp only [hl11_3] at c81b0);(try simp only [hl11_4] at c81b0);clear c81;have H':=Aside0.mk H;clear H;have p238:0≤(t237:Int):=ofd;have q238:t237<(x11_4.length:Int):=ofd;obtain ⟨ad238,e238,hx238_0⟩:=Kd.at_int (Kd.R_reads' HO_11.out).2.2 t237 p238 q238;obtain rfl:(⟨go64,0,none⟩:Addr)=ad238:=(by injection e238);(first|simp only [add_plain] at hx238_0|simp only [add_at] at hx238_0|simp only [Addr.add,Nat.zero_add] at hx238_0|skip);replace p238:=eq_true p238;replace q238:=eq_true q238;go_wp2
             go_meet
             case rel=>exact ⟨_,(decide ((rd x11_4 t237)<0)),(by first|rfl|(simp;done)|(simp [*];done)),H',⟨by have:=HJ6.out;have:=HK2.out;have:=HK3.out;have:=HK4.out;first|omega|exact Nat.le_refl _⟩,⟨by (try simp only [hl11_2]);(try simp only [hl11_3]);(try simp only [hl11_4]);(with_reducible repeat (first|apply Kd.R_alloc|apply Kd.R_drewN|apply Kd.R_drew));exact HO_11.out⟩,⟨by (try simp only [hl11_2]);(try simp only [hl11_3]);(try simp only [hl11_4]);(with_reducible repeat (first|apply Kd.R_alloc|apply Kd.R_drewN|apply Kd.R_drew));exact HO_13.out⟩,⟨by (try simp only [hl11_2]);(try simp only [hl11_3]);(try simp only [hl11_4]);(with_reducible repeat (first|refine blk_drewN ?_ _|refine blk_drew ?_|refine blk_alloc ?_ _));exact BK221.out⟩,⟨by (try simp only [hl11_2]);(try simp only [hl11_3]);(try simp only [hl11_4]);(with_reducible repeat (first|refine blk_drewN ?_ _|refine blk_drew ?_|refine blk_alloc ?_ _));exact BK222.out⟩,⟨hb_⟩⟩
            ·rw [if_neg c79] at H;have c79b0:=decide_eq_false c79;clear c79;(first|rw [c79b0]|(simp only [i64_w,i32_w];rw [c79b0])|skip);have H':=Aside0.mk H;clear H;go_wp2
             go_meet
             case rel=>exact ⟨_,(false),(by first|rfl|(simp;done)|(simp [*];done)),H',⟨by have:=HJ6.out;have:=HK2.out;have:=HK3.out;have:=HK4.out;first|omega|exact Nat.le_refl _⟩,⟨by (try simp only [hl11_2]);(try simp only [hl11_3]);(try simp only [hl11_4]);(with_reducible repeat (first|apply Kd.R_alloc|apply Kd.R_drewN|apply Kd.R_drew));exact HO_11.out⟩,⟨by (try simp only [hl11_2]);(try simp only [hl11_3]);(try simp only [hl11_4]);(with_reducible repeat (first|apply Kd.R_alloc|apply Kd.R_drewN|apply Kd.R_drew));exact HO_13.out⟩,⟨by (try simp only [hl11_2]);(try simp only [hl11_3]);(try simp only [hl11_4]);(with_reducible repeat (first|refine blk_drewN ?_ _|refine blk_drew ?_|refine blk_alloc ?_ _));exact BK221.out⟩,⟨by (try simp only [hl11_2]);(try simp only [hl11_3]);(try simp only [hl11_4]);(with_reducible repeat (first|refine blk_drewN ?_ _|refine blk_drew ?_|refine blk_alloc ?_ _));exact BK222.out⟩,⟨hb_⟩⟩
           case rest =>
            clear HC75;obtain ⟨kq,x97_74,rfl,HA,HJ74,HO_11,HO_13,BK221,BK222,HB⟩:=hcut;cases kq with
            | zero=>exact absurd HA.out (by simp [hinterlandref06_Sail.j4])
            | succ kj74 =>
             have H:=HA.out;clear HA;simp only [hinterlandref06_Sail.j4] at H;by_cases c82:x97_74=true
             ·subst c82;rw [if_pos rfl] at H;obtain ⟨c83,H⟩:=ifp_ H;have c83b0:=decide_eq_true c83;clear c83;obtain ⟨c84,H⟩:=ifp_ H;have c84b0:=decide_eq_true c84;(try simp only [hl11_2] at c84b0);(try simp only [hl11_3] at c84b0);(try simp only [hl11_4] at c84b0);clear c84;obtain ⟨c85,H⟩:=ifp_ H;have c85b0:=decide_eq_true c85;clear c85;obtain ⟨c86,H⟩:=ifp_ H;have c86b0:=decide_eq_true c86;(try simp only [hl11_2] at c86b0);(try simp only [hl11_3] at c86b0);(try simp only [hl11_4] at c86b0);clear c86;obtain ⟨c87,H⟩:=ifp_ H;have c87b0:=decide_eq_true c87;clear c87;obtain ⟨c88,H⟩:=ifp_ H;have c88b0:=decide_eq_true c88;(try simp only [hl11_2] at c88b0);(try simp only [hl11_3] at c88b0);(try simp only [hl11_4] at c88b0);clear c88;obtain ⟨y241,hy241⟩:∃ y_:List Int,y_=(x11_4.set (t237:Int).toNat (wrap64 ((rd x11_4 (rd x13_4 x14_3))+1))):=⟨_,rfl⟩;replace H:(if x13_4.length<17592186044416 then (hinterlandref06_Sail.l2 kj74 a2 a3 y241 (x13_4 ++ [t237]) x14_3 (wrap64 (x78_4+1)) a0_0 a0_1 l0_2 l1_0 l1_1) else (none))=some (r1,r2):=by first|(rw [hy241];with_reducible exact H)|(have H2_:=(Option.bind_some _ _).symm.trans H;rw [hy241];with_reducible exact H2_)|(have H2_:=(Option.bind_some _ _).symm.trans H;with_reducible exact H2_)|with_reducible exact H|(rw [hy241];exact H)|exact H
              have Ny241:=Aside0.mk hy241;clear hy241;obtain ⟨c90,H⟩:=ifp_ H;have LMc90:=Aside0.mk c90;clear c90;obtain ⟨y242,hy242⟩:∃ y_:List Int,y_=(x13_4 ++ [t237]):=⟨_,rfl⟩;replace H:(hinterlandref06_Sail.l2 kj74 a2 a3 y241 y242 x14_3 (wrap64 (x78_4+1)) a0_0 a0_1 l0_2 l1_0 l1_1)=some (r1,r2):=by first|(rw [hy242];with_reducible exact H)|(have H2_:=(Option.bind_some _ _).symm.trans H;rw [hy242];with_reducible exact H2_)|(have H2_:=(Option.bind_some _ _).symm.trans H;with_reducible exact H2_)|with_reducible exact H|(rw [hy242];exact H)|exact H
              have Ny242:=Aside0.mk hy242;clear hy242;have H':=Aside0.mk H;clear H;have p239:0≤(x14_3:Int):=ofd;have q239:x14_3<(x13_4.length:Int):=ofd;obtain ⟨ad239,e239,hx239_0⟩:=Kd.at_int (Kd.R_reads' HO_13.out).2.2 x14_3 p239 q239;obtain rfl:ad236=ad239:=(by injection e239);replace p239:=eq_true p239;replace q239:=eq_true q239;have p240:0≤((rd x13_4 x14_3):Int):=ofd;have q240:(rd x13_4 x14_3)<(x11_4.length:Int):=ofd;obtain ⟨ad240,e240,hx240_0⟩:=Kd.at_int (Kd.R_reads' HO_11.out).2.2 (rd x13_4 x14_3) p240 q240;obtain rfl:(⟨go64,0,none⟩:Addr)=ad240:=(by injection e240);(first|simp only [add_plain] at hx240_0|simp only [add_at] at hx240_0|simp only [Addr.add,Nat.zero_add] at hx240_0|skip);replace p240:=eq_true p240;replace q240:=eq_true q240;have p89:0≤(t237:Int):=ofd;have q89:(t237:Int)<((x11_4.length:Int):Int):=ofd;obtain ⟨hx89_0,hf89_0⟩:=Kd.R_celln 0 HO_11.out (t237:Int) p89 q89;replace p89:=eq_true p89;replace q89:=eq_true q89;have HP91:=Kd.R_putg HO_11.out (t237:Int) (wrap64 ((rd x11_4 (rd x13_4 x14_3))+1));go_wp2_with (first|((with_reducible refine gate_store (t:=3) (p:=108) rfl ?_);refine store_event (t:=3) (p:=108) (v:=?vo_w92) (w1:=(wc.setCell ⟨go64,(t237:Int).toNat,none⟩ (.int .i64 (wrap64 ((rd x11_4 (rd x13_4 x14_3))+1))))) ?hg ?ho ?hn ?hr ?_;(case ho=>rfl);(case hg=>rfl);(case hn=>rfl);(case hr=>first|(go_simp;done)|(go_simp;rfl));intro w92 hw;have hg:wc.grownBy w92 (some go64):=(by rw [hw];exact HP91.2);have hp_:Kd.R (Kd.int .i64) 3 w92 w.heap.size (fun k_=>some k_ ≠ (.slice (some ad236) x13_4.length co77:Value).ownBlock) (.slice (some ⟨go64,0,none⟩) x11_4.length co55) y241:=(by rw [hw,Ny241.out];exact HP91.1);clear HP91;replace HO_13:=Aside0.mk (Kd.R_after (v:=(.slice (some ⟨go64,0,none⟩) x11_4.length co55)) (v1:=(.slice (some ⟨go64,0,none⟩) x11_4.length co55)) (ok:=(fun _=>True)) (by (with_reducible repeat (first|apply Kd.R_alloc|apply Kd.R_drewN|apply Kd.R_drew));exact Kd.R_mono HO_13.out (fun _ hk=>⟨trivial,hk⟩)) hg (.inl rfl));replace BK221:=Aside0.mk (blk_grown (blk_up BK221.out) hg (Kd.R_ne HO_11.out BK221.out (by decide)));replace BK222:=Aside0.mk (blk_grown (blk_up BK222.out) hg (Kd.R_ne HO_11.out BK222.out (by decide)));replace HO_11:=Aside0.mk (hp_);replace HB:=Aside0.mk ((by rw [hw];exact below_set (HB.out) GB64.out:Below w.heap.size w w92));clear hg hw hp_)|((with_reducible refine gate_builtin (b:=.append) (xs:=#[.tmp 109,.tmp 111]) rfl ?_);at_builtin;refine Kd.R_append (Kd.int .i64) (w0:=w) w.heap.size rfl (.tmp 109) (.tmp 111) 22 3 (.int .i64 0) 8 rfl Try.underlying22 info3 rfl (by decide) (by omega) (.slice (some ad236) x13_4.length co77) x13_4 t237 [.int .i64 t237] (fun k_=>some k_ ≠ (.slice (some ⟨go64,0,none⟩) x11_4.length co55:Value).ownBlock) (fun _=>False) rfl rfl ?aP (fun _ hk=>hk.elim) ?aF ?aO ?aB ?aS ?aL ?_;(case aP=>exact rfl);(case aB=>exact (hb_));(case aF=>exact (fun k_ hk=>Kd.fresh' (Kd.R_lt (Kd.R_up HO_11.out)) k_ hk));(case aO=>exact (by (with_reducible repeat (first|apply Kd.R_alloc|apply Kd.R_drewN|apply Kd.R_drew));exact Kd.R_mono HO_13.out (fun _ hk=>hk.2)));(case aS=>exact (below_size (hb_)));(case aL=>have:=LMc90.out;omega);intro v243 w93 ho hb hg hat;rw [← Ny242.out] at ho;have HO244:=Aside0.mk (ho);replace HO_11:=Aside0.mk (Kd.R_after (ok:=(fun _=>True)) (by (with_reducible repeat (first|apply Kd.R_alloc|apply Kd.R_drewN|apply Kd.R_drew));exact Kd.R_mono HO_11.out (fun _ hk=>⟨trivial,hk⟩)) hg hat);replace BK221:=Aside0.mk (blk_grown (blk_up BK221.out) hg (Kd.R_ne HO_13.out BK221.out (by decide)));replace BK222:=Aside0.mk (blk_grown (blk_up BK222.out) hg (Kd.R_ne HO_13.out BK222.out (by decide)));replace HB:=Aside0.mk (hb);clear HO_13;clear ho hb hg hat))
              (try simp only [← hl11_4]);go_roundg kj74
              case measure=>have:=HJ6.out;have:=HK2.out;have:=HK3.out;have:=HK4.out;have:=HJ74.out;omega
              case rel=>exact ⟨(y241),(y242),(wrap64 (x78_4+1)),(by first|rfl|(simp;done)|(simp [*];done)),H',⟨by have:=HJ6.out;have:=HK2.out;have:=HK3.out;have:=HK4.out;have:=HJ74.out;omega⟩,⟨by (try simp only [hl11_2]);(try simp only [hl11_3]);(try simp only [hl11_4]);(with_reducible repeat (first|apply Kd.R_alloc|apply Kd.R_drewN|apply Kd.R_drew));exact Kd.R_mono HO_11.out (fun _ hk=>hk.2)⟩,⟨by (try simp only [hl11_2]);(try simp only [hl11_3]);(try simp only [hl11_4]);(with_reducible repeat (first|apply Kd.R_alloc|apply Kd.R_drewN|apply Kd.R_drew));exact HO244.out⟩,⟨by (try simp only [hl11_2]);(try simp only [hl11_3]);(try simp only [hl11_4]);(with_reducible repeat (first|refine blk_drewN ?_ _|refine blk_drew ?_|refine blk_alloc ?_ _));exact BK221.out⟩,⟨by (try simp only [hl11_2]);(try simp only [hl11_3]);(try simp only [hl11_4]);(with_reducible repeat (first|refine blk_drewN ?_ _|refine blk_drew ?_|refine blk_alloc ?_ _));exact BK222.out⟩,⟨hb_⟩⟩
             ·replace c82:=Bool.eq_false_iff.mpr c82;subst c82;rw [if_neg (show ¬ (false=true) by decide)] at H;have H':=Aside0.mk H;clear H;go_wp2
              (try simp only [← hl11_4]);go_roundg kj74
              case measure=>have:=HJ6.out;have:=HK2.out;have:=HK3.out;have:=HK4.out;have:=HJ74.out;omega
              case rel=>exact ⟨(x11_4),(x13_4),(wrap64 (x78_4+1)),(by first|rfl|(simp;done)|(simp [*];done)),H',⟨by have:=HJ6.out;have:=HK2.out;have:=HK3.out;have:=HK4.out;have:=HJ74.out;omega⟩,⟨by (try simp only [hl11_2]);(try simp only [hl11_3]);(try simp only [hl11_4]);(with_reducible repeat (first|apply Kd.R_alloc|apply Kd.R_drewN|apply Kd.R_drew));exact HO_11.out⟩,⟨by (try simp only [hl11_2]);(try simp only [hl11_3]);(try simp only [hl11_4]);(with_reducible repeat (first|apply Kd.R_alloc|apply Kd.R_drewN|apply Kd.R_drew));exact HO_13.out⟩,⟨by (try simp only [hl11_2]);(try simp only [hl11_3]);(try simp only [hl11_4]);(with_reducible repeat (first|refine blk_drewN ?_ _|refine blk_drew ?_|refine blk_alloc ?_ _));exact BK221.out⟩,⟨by (try simp only [hl11_2]);(try simp only [hl11_3]);(try simp only [hl11_4]);(with_reducible repeat (first|refine blk_drewN ?_ _|refine blk_drew ?_|refine blk_alloc ?_ _));exact BK222.out⟩,⟨hb_⟩⟩
        rw [if_neg c69] at H;have c69b0:=decide_eq_false c69;(try simp only [hl11_2] at c69b0);(try simp only [hl11_3] at c69b0);clear c69;obtain ⟨c94,H⟩:=ifp_ H;have c94b0:=decide_eq_true c94;clear c94;obtain ⟨c95,H⟩:=ifp_ H;have c95b0:=decide_eq_true c95;(try simp only [hl11_2] at c95b0);(try simp only [hl11_3] at c95b0);clear c95;by_cases c96:(rd x11_3 a2)<0
        ·rw [if_pos c96] at H;have c96b0:=decide_eq_true c96;clear c96;simp only [Option.some.injEq,Prod.mk.injEq] at H;obtain ⟨rfl,rfl⟩:=H;obtain ⟨Ao97,co97,eo97⟩:=Kd.R_slice HO_13.out;subst eo97;have p245:0≤(a2:Int):=ofd;have q245:a2<(x11_3.length:Int):=ofd;obtain ⟨ad245,e245,hx245_0⟩:=Kd.at_int (Kd.R_reads' HO_11.out).2.2 a2 p245 q245;obtain rfl:(⟨go64,0,none⟩:Addr)=ad245:=(by injection e245);(first|simp only [add_plain] at hx245_0|simp only [add_at] at hx245_0|simp only [Addr.add,Nat.zero_add] at hx245_0|skip);replace p245:=eq_true p245;replace q245:=eq_true q245;go_wp2
         go_ret2
         exact ⟨_,er_,nl_,hb_⟩
        rw [if_neg c96] at H;have c96b0:=decide_eq_false c96;clear c96;obtain ⟨y246,hy246⟩:∃ y_:List Int,y_=(([a2]:List Int)):=⟨_,rfl⟩;replace H:(hinterlandref06_Sail.l3 k3 a3 x11_3 y246 a2 a0_0 a0_1 l0_2 l1_0 l1_1)=some (r1,r2):=by first|(rw [hy246];with_reducible exact H)|(have H2_:=(Option.bind_some _ _).symm.trans H;rw [hy246];with_reducible exact H2_)|(have H2_:=(Option.bind_some _ _).symm.trans H;with_reducible exact H2_)|with_reducible exact H|(rw [hy246];exact H)|exact H
        have Ny246:=Aside0.mk hy246;clear hy246;have H':=Aside0.mk H;clear H;obtain ⟨Ao98,co98,eo98⟩:=Kd.R_slice HO_13.out;subst eo98;have p245:0≤(a2:Int):=ofd;have q245:a2<(x11_3.length:Int):=ofd;obtain ⟨ad245,e245,hx245_0⟩:=Kd.at_int (Kd.R_reads' HO_11.out).2.2 a2 p245 q245;obtain rfl:(⟨go64,0,none⟩:Addr)=ad245:=(by injection e245);(first|simp only [add_plain] at hx245_0|simp only [add_at] at hx245_0|simp only [Addr.add,Nat.zero_add] at hx245_0|skip);replace p245:=eq_true p245;replace q245:=eq_true q245;go_wp2_with (first|((with_reducible refine gate_dst (N:=120) rfl ?_);refine Kd.R_lit (Kd.int .i64) _ 3 ?hg (N:=120) ?hd (xs:=([a2]:List Int)) (inner:=[.int .i64 a2]) (ok:=fun _=>True) (okp:=fun _=>True) ?hr ?hp (fun _ hk=>hk) trivial (Below.refl _ _) (Nat.le_refl _) (by simp) ?_;(case hd=>rfl);(case hg=>rfl);(case hr=>first|(go_simp;done)|(go_simp;rfl));(case hp=>exact (Reps.one (show Kd.M (Kd.int .i64) _ _ _ a2 [.int .i64 a2] from rfl) (Reps.none _ _)));intro v247 w99 ho100 hb hg_ hnew_;clear hg_ hnew_;(first|rw [← Ny246.out] at ho100|(simp only [Int.reduceToNat] at ho100;rw [← Ny246.out] at ho100));have HO248:=Aside0.mk (Kd.R_lower (Kd.R_new' (Kd.R_new' ho100 (Kd.R_lt (Kd.R_up HO_11.out))) (Kd.R_lt (Kd.R_up HO_13.out))) (below_size (hb_)));replace HO_11:=Aside0.mk (Kd.R_elder' (Kd.R_up HO_11.out) (Kd.R_base ho100) hb);replace HO_13:=Aside0.mk (Kd.R_elder' (Kd.R_up HO_13.out) (Kd.R_base ho100) hb);replace BK221:=bkb BK221 hb;replace BK222:=bkb BK222 hb;replace HB:=hbs hb;clear hb ho100))
        go_loopg [17,18] k3 (fun kq v17 v18 w'=>∃ (x17_4:List Int) (x18_4:Int),v18=.int .i64 x18_4∧Aside0 (hinterlandref06_Sail.l3 kq a3 x11_3 x17_4 x18_4 a0_0 a0_1 l0_2 l1_0 l1_1=some (r1,r2))∧Aside0 (kq≤k3)∧Aside0 (Kd.R (Kd.int .i64) 3 w' w.heap.size (fun k_=>some k_ ≠ (v17:Value).ownBlock) (.slice (some ⟨go64,0,none⟩) x11_3.length co55) x11_3)∧Aside0 (Kd.R (Kd.int .i64) 3 w' w.heap.size (fun k_=>some k_ ≠ ((.slice (some ⟨go64,0,none⟩) x11_3.length co55):Value).ownBlock) v17 x17_4)∧Aside0 (w'.heap[gb221]?=some (.cells #[.int .i64 a0_0,.int .i64 a0_1,(.slice A0_2 l0_2.length c0_2)] 53 (0,0)))∧Aside0 (w'.heap[gb222]?=some (.cells #[(.slice A1_0 l1_0.length c1_0),(.slice A1_1 l1_1.length c1_1)] 55 (0,0)))∧Aside0 (Below w.heap.size w w'))
        case atStart=>exact ⟨(y246),(a2),(by first|rfl|(simp;done)|(simp [*];done)),H',⟨Nat.le_refl _⟩,⟨by (try simp only [hl11_2]);(try simp only [hl11_3]);(with_reducible repeat (first|apply Kd.R_alloc|apply Kd.R_drewN|apply Kd.R_drew));exact Kd.R_mono HO_11.out (fun _ hk=>hk.2)⟩,⟨by (try simp only [hl11_2]);(try simp only [hl11_3]);(with_reducible repeat (first|apply Kd.R_alloc|apply Kd.R_drewN|apply Kd.R_drew));exact Kd.R_mono HO248.out (fun _ hk=>hk.1.2)⟩,⟨by (try simp only [hl11_2]);(try simp only [hl11_3]);(with_reducible repeat (first|refine blk_drewN ?_ _|refine blk_drew ?_|refine blk_alloc ?_ _));exact BK221.out⟩,⟨by (try simp only [hl11_2]);(try simp only [hl11_3]);(with_reducible repeat (first|refine blk_drewN ?_ _|refine blk_drew ?_|refine blk_alloc ?_ _));exact BK222.out⟩,⟨hb_⟩⟩
        case round =>
         clear H';obtain ⟨x17_4,x18_4,rfl,HA,HK4,HO_11,HO_17,BK221,BK222,HB⟩:=hrel;cases gk with
         | zero=>exact absurd HA.out (by simp [hinterlandref06_Sail.l3])
         | succ k4 =>
          have H:=HA.out;clear HA;simp only [hinterlandref06_Sail.l3] at H;by_cases c101:x18_4=a3
          ·rw [if_pos c101] at H;have c101b0:=bqt c101;have c101b1:=bnf c101;clear c101;simp only [Option.some.injEq,Prod.mk.injEq] at H;obtain ⟨rfl,rfl⟩:=H;go_wp2
           go_ret2
           exact ⟨_,er_,by (with_reducible repeat (first|apply Kd.R_alloc|apply Kd.R_drewN|apply Kd.R_drew));exact Kd.R_mono HO_17.out (fun _ hk=>trivial),hb_⟩
          rw [if_neg c101] at H;have c101b0:=bqf c101;have c101b1:=bnt c101;have H':=Aside0.mk H;clear H;go_wp2
          go_loopg [19,125] k4 (fun kq v19 v125 w'=>∃ (x19_5:Int) (x125_5:Int),v19=.int .i64 x19_5∧v125=.int .i64 x125_5∧Aside0 (hinterlandref06_Sail.l4 kq a3 x11_3 x17_4 x18_4 x19_5 x125_5 a0_0 a0_1 l0_2 l1_0 l1_1=some (r1,r2))∧Aside0 (kq≤k4)∧Aside0 (Kd.R (Kd.int .i64) 3 w' w.heap.size (fun k_=>some k_ ≠ (u17:Value).ownBlock) (.slice (some ⟨go64,0,none⟩) x11_3.length co55) x11_3)∧Aside0 (Kd.R (Kd.int .i64) 3 w' w.heap.size (fun k_=>some k_ ≠ ((.slice (some ⟨go64,0,none⟩) x11_3.length co55):Value).ownBlock) u17 x17_4)∧Aside0 (w'.heap[gb221]?=some (.cells #[.int .i64 a0_0,.int .i64 a0_1,(.slice A0_2 l0_2.length c0_2)] 53 (0,0)))∧Aside0 (w'.heap[gb222]?=some (.cells #[(.slice A1_0 l1_0.length c1_0),(.slice A1_1 l1_1.length c1_1)] 55 (0,0)))∧Aside0 (Below w.heap.size w w'))
          case atStart=>exact ⟨((-1)),(0),(by first|rfl|(simp;done)|(simp [*];done)),(by first|rfl|(simp;done)|(simp [*];done)),H',⟨Nat.le_refl _⟩,⟨by (try simp only [hl11_2]);(try simp only [hl11_3]);(with_reducible repeat (first|apply Kd.R_alloc|apply Kd.R_drewN|apply Kd.R_drew));exact HO_11.out⟩,⟨by (try simp only [hl11_2]);(try simp only [hl11_3]);(with_reducible repeat (first|apply Kd.R_alloc|apply Kd.R_drewN|apply Kd.R_drew));exact HO_17.out⟩,⟨by (try simp only [hl11_2]);(try simp only [hl11_3]);(with_reducible repeat (first|refine blk_drewN ?_ _|refine blk_drew ?_|refine blk_alloc ?_ _));exact BK221.out⟩,⟨by (try simp only [hl11_2]);(try simp only [hl11_3]);(with_reducible repeat (first|refine blk_drewN ?_ _|refine blk_drew ?_|refine blk_alloc ?_ _));exact BK222.out⟩,⟨hb_⟩⟩
          case round =>
           clear H';obtain ⟨x19_5,x125_5,rfl,rfl,HA,HK5,HO_11,HO_17,BK221,BK222,HB⟩:=hrel;cases gk with
           | zero=>exact absurd HA.out (by simp [hinterlandref06_Sail.l4])
           | succ k5 =>
            have H:=HA.out;clear HA;simp only [hinterlandref06_Sail.l4] at H;by_cases c102:x125_5<4;rotate_left
            ·rw [if_neg c102] at H;have c102b0:=decide_eq_false c102;clear c102;obtain ⟨c121,H⟩:=ifp_ H;have LMc121:=Aside0.mk c121;clear c121;obtain ⟨y249,hy249⟩:∃ y_:List Int,y_=(x17_4 ++ [x19_5]):=⟨_,rfl⟩;replace H:(hinterlandref06_Sail.l3 k5 a3 x11_3 y249 x19_5 a0_0 a0_1 l0_2 l1_0 l1_1)=some (r1,r2):=by first|(rw [hy249];with_reducible exact H)|(have H2_:=(Option.bind_some _ _).symm.trans H;rw [hy249];with_reducible exact H2_)|(have H2_:=(Option.bind_some _ _).symm.trans H;with_reducible exact H2_)|with_reducible exact H|(rw [hy249];exact H)|exact H
             have Ny249:=Aside0.mk hy249;clear hy249;have H':=Aside0.mk H;clear H;go_wp2_with (first|((with_reducible refine gate_builtin (b:=.append) (xs:=#[.tmp 158,.tmp 160]) rfl ?_);at_builtin;refine Kd.R_append (Kd.int .i64) (w0:=w) w.heap.size rfl (.tmp 158) (.tmp 160) 22 3 (.int .i64 0) 8 rfl Try.underlying22 info3 rfl (by decide) (by omega) u17 x17_4 x19_5 [.int .i64 x19_5] (fun k_=>some k_ ≠ (.slice (some ⟨go64,0,none⟩) x11_3.length co55:Value).ownBlock) (fun _=>False) rfl rfl ?aP (fun _ hk=>hk.elim) ?aF ?aO ?aB ?aS ?aL ?_;(case aP=>exact rfl);(case aB=>exact (hb_));(case aF=>exact (fun k_ hk=>Kd.fresh' (Kd.R_lt (Kd.R_up HO_11.out)) k_ hk));(case aO=>exact (Kd.R_up HO_17.out));(case aS=>exact (below_size (hb_)));(case aL=>have:=LMc121.out;omega);intro v250 w122 ho hb hg hat;rw [← Ny249.out] at ho;have HO251:=Aside0.mk (ho);replace HO_11:=Aside0.mk (Kd.R_after (ok:=(fun _=>True)) (by (with_reducible repeat (first|apply Kd.R_alloc|apply Kd.R_drewN|apply Kd.R_drew));exact Kd.R_mono HO_11.out (fun _ hk=>⟨trivial,hk⟩)) hg hat);replace BK221:=Aside0.mk (blk_grown (blk_up BK221.out) hg (Kd.R_ne HO_17.out BK221.out (by decide)));replace BK222:=Aside0.mk (blk_grown (blk_up BK222.out) hg (Kd.R_ne HO_17.out BK222.out (by decide)));replace HB:=Aside0.mk (hb);clear HO_17;clear ho hb hg hat))
             go_roundg k5
             case measure=>have:=HJ6.out;have:=HK2.out;have:=HK3.out;have:=HK4.out;have:=HK5.out;omega
             case rel=>exact ⟨(y249),(x19_5),(by first|rfl|(simp;done)|(simp [*];done)),H',⟨by have:=HJ6.out;have:=HK2.out;have:=HK3.out;have:=HK4.out;have:=HK5.out;omega⟩,⟨by (try simp only [hl11_2]);(try simp only [hl11_3]);(with_reducible repeat (first|apply Kd.R_alloc|apply Kd.R_drewN|apply Kd.R_drew));exact Kd.R_mono HO_11.out (fun _ hk=>hk.2)⟩,⟨by (try simp only [hl11_2]);(try simp only [hl11_3]);(with_reducible repeat (first|apply Kd.R_alloc|apply Kd.R_drewN|apply Kd.R_drew));exact HO251.out⟩,⟨by (try simp only [hl11_2]);(try simp only [hl11_3]);(with_reducible repeat (first|refine blk_drewN ?_ _|refine blk_drew ?_|refine blk_alloc ?_ _));exact BK221.out⟩,⟨by (try simp only [hl11_2]);(try simp only [hl11_3]);(with_reducible repeat (first|refine blk_drewN ?_ _|refine blk_drew ?_|refine blk_alloc ?_ _));exact BK222.out⟩,⟨hb_⟩⟩
            rw [if_pos c102] at H;have c102b0:=decide_eq_true c102;clear c102;obtain ⟨t252,A103,H⟩:=bnd H;have HC104:=Aside0.mk H;clear H;obtain ⟨_,_⟩:=nn NB221_222;obtain ⟨_,_,_,_,_,_⟩:=cells3 BK221.out;obtain ⟨_,_,_,_⟩:=cells2 BK222.out;go_upto_region 35 with (first|((with_reducible refine gate_callee (f:=83) rfl ?_);refine goesL_ (some 132) rfl rfl Try.func83 (by kernel_rfl) rfl #[.agg #[.int .i64 a0_0,.int .i64 a0_1,.slice A0_2 l0_2.length c0_2],.agg #[.slice A1_0 l1_0.length c1_0,.slice A1_1 l1_1.length c1_1],.int .i64 x18_4,.int .i64 x125_5] rfl ga_ ?_;(with_reducible refine (hinterlandref06_Meets.calls k5 a0_0 a0_1 _ _ l0_2 _ _ l1_0 _ _ l1_1 x18_4 x125_5 t252 _ ?_ ?_ ?_ ?_ ?_ ?_ A103.out).mono ?_);exact cq HR0_2;exact HC0_2.out;exact cq HR1_0;exact HC1_0.out;exact cq HR1_1;exact HC1_1.out;rintro e w108 ⟨rfl,hb⟩;refine ⟨_,rfl,?_⟩;replace HO_11:=rbw HO_11 hb;replace HO_17:=rbw HO_17 hb;replace BK221:=bkb BK221 hb;replace BK222:=bkb BK222 hb;replace HB:=hbs hb))
            (try simp only [Act.put,List.setIfInBounds_toArray,List.set_cons_zero,List.set_cons_succ]);go_cut [155] (fun v155 wc=>∃ (kq:Nat) (x155_103:Bool),v155=.bool x155_103∧Aside0 (hinterlandref06_Sail.j7 kq a3 x11_3 x17_4 x18_4 x19_5 t252 x125_5 x155_103 a0_0 a0_1 l0_2 l1_0 l1_1=some (r1,r2))∧Aside0 (kq≤k5)∧Aside0 (Kd.R (Kd.int .i64) 3 wc w.heap.size (fun k_=>some k_ ≠ (u17:Value).ownBlock) (.slice (some ⟨go64,0,none⟩) x11_3.length co55) x11_3)∧Aside0 (Kd.R (Kd.int .i64) 3 wc w.heap.size (fun k_=>some k_ ≠ ((.slice (some ⟨go64,0,none⟩) x11_3.length co55):Value).ownBlock) u17 x17_4)∧Aside0 (wc.heap[gb221]?=some (.cells #[.int .i64 a0_0,.int .i64 a0_1,(.slice A0_2 l0_2.length c0_2)] 53 (0,0)))∧Aside0 (wc.heap[gb222]?=some (.cells #[(.slice A1_0 l1_0.length c1_0),(.slice A1_1 l1_1.length c1_1)] 55 (0,0)))∧Aside0 (Below w.heap.size w wc))
            case first =>
             have H:=HC104.out;clear HC104;by_cases c109:t252≥0;rotate_left
             ·rw [if_neg c109] at H;have c109b0:=decide_eq_false c109;clear c109;(first|rw [c109b0]|(simp only [i64_w,i32_w];rw [c109b0])|skip);have H':=Aside0.mk H;clear H;try go_wp2
              replace HO_11:=Aside0.mk (Kd.R_drew HO_11.out);replace HO_17:=Aside0.mk (Kd.R_drew HO_17.out);replace BK221:=bkd BK221;replace BK222:=bkd BK222;replace HB:=Aside0.mk (below_drew1 HB.out);refine start_ (n:=23) (S:=fun w'=>True) (ds:=[]) #[false,false,false,false,false,false,false,false,false,false,false,false,false,false,false,false,false,false,false,false,false,false,false] (by kernel_rfl) rfl rfl trivial (fun hHeld=>?_);refine with_tabW hinterlandref06_Sail.tab35 hinterlandref06_Sail.bits35 (fun HT_ HW_=>?_);generalize w108.drew=w119 at HO_11 HO_17 BK221 BK222 HB hHeld ⊢;refine pI 0 (some 133) ?_;refine pI 1 (some 134) ?_;refine pI 2 (some 135) ?_;refine pU 3 (some 136) ?_;refine pU 4 (some 137) ?_;refine pU 5 (some 138) ?_;refine pU 6 (some 139) ?_;refine pU 7 (some 140) ?_;refine pU 8 (some 141) ?_;refine pU 9 (some 142) ?_;refine pU 10 (some 143) ?_;refine pU 11 (some 144) ?_;refine pU 12 (some 145) ?_;refine pI 13 (some 146) ?_;refine pI 14 (some 147) ?_;refine pU 15 (some 148) ?_;refine pU 16 (some 149) ?_;refine pU 17 (some 150) ?_;refine pU 18 (some 151) ?_;refine pU 19 (some 152) ?_;refine pU 20 (some 153) ?_;refine pU 21 (some 154) ?_;refine pI 22 (some 155) ?_;refine done_ (done_of HT_.out (by kernel_rfl)) ?_;try go_wp2
              go_meet
              case rel=>exact ⟨_,(false),(by first|rfl|(simp;done)|(simp [*];done)),H',⟨by have:=HJ6.out;have:=HK2.out;have:=HK3.out;have:=HK4.out;have:=HK5.out;first|omega|exact Nat.le_refl _⟩,⟨by (try simp only [hl11_2]);(try simp only [hl11_3]);(with_reducible repeat (first|apply Kd.R_alloc|apply Kd.R_drewN|apply Kd.R_drew));exact HO_11.out⟩,⟨by (try simp only [hl11_2]);(try simp only [hl11_3]);(with_reducible repeat (first|apply Kd.R_alloc|apply Kd.R_drewN|apply Kd.R_drew));exact HO_17.out⟩,⟨by (try simp only [hl11_2]);(try simp only [hl11_3]);(with_reducible repeat (first|refine blk_drewN ?_ _|refine blk_drew ?_|refine blk_alloc ?_ _));exact BK221.out⟩,⟨by (try simp only [hl11_2]);(try simp only [hl11_3]);(with_reducible repeat (first|refine blk_drewN ?_ _|refine blk_drew ?_|refine blk_alloc ?_ _));exact BK222.out⟩,⟨hb_⟩⟩
             rw [if_pos c109] at H;have c109b0:=decide_eq_true c109;clear c109;(first|rw [c109b0]|(simp only [i64_w,i32_w];rw [c109b0])|skip);obtain ⟨c110,H⟩:=ifp_ H;have c110b0:=decide_eq_true c110;clear c110;obtain ⟨c111,H⟩:=ifp_ H;have c111b0:=decide_eq_true c111;(try simp only [hl11_2] at c111b0);(try simp only [hl11_3] at c111b0);clear c111;obtain ⟨c112,H⟩:=ifp_ H;have c112b0:=decide_eq_true c112;clear c112;obtain ⟨c113,H⟩:=ifp_ H;have c113b0:=decide_eq_true c113;(try simp only [hl11_2] at c113b0);(try simp only [hl11_3] at c113b0);clear c113;by_cases c114:(rd x11_3 t252)=(wrap64 ((rd x11_3 x18_4) - 1));rotate_left
             ·rw [if_neg c114] at H;have c114b0:=bqf c114;have c114b1:=bnt c114;have H':=Aside0.mk H;clear H;try go_wp2
              replace HO_11:=Aside0.mk (Kd.R_drew HO_11.out);replace HO_17:=Aside0.mk (Kd.R_drew HO_17.out);replace BK221:=bkd BK221;replace BK222:=bkd BK222;replace HB:=Aside0.mk (below_drew1 HB.out);have p253:0≤(t252:Int):=ofd;have q253:t252<(x11_3.length:Int):=ofd;obtain ⟨ad253,e253,hx253_0⟩:=Kd.at_int (Kd.R_reads' HO_11.out).2.2 t252 p253 q253;obtain rfl:(⟨go64,0,none⟩:Addr)=ad253:=(by injection e253);(first|simp only [add_plain] at hx253_0|simp only [add_at] at hx253_0|simp only [Addr.add,Nat.zero_add] at hx253_0|skip);replace p253:=eq_true p253;replace q253:=eq_true q253;have p254:0≤(x18_4:Int):=ofd;have q254:x18_4<(x11_3.length:Int):=ofd;obtain ⟨ad254,e254,hx254_0⟩:=Kd.at_int (Kd.R_reads' HO_11.out).2.2 x18_4 p254 q254;obtain rfl:(⟨go64,0,none⟩:Addr)=ad254:=(by injection e254);(first|simp only [add_plain] at hx254_0|simp only [add_at] at hx254_0|simp only [Addr.add,Nat.zero_add] at hx254_0|skip);replace p254:=eq_true p254;replace q254:=eq_true q254;refine start_ (n:=23) (S:=fun w'=>w'.cell? ⟨go64,(t252).toNat,none⟩=some (.int .i64 (rd x11_3 t252))∧w'.cell? ⟨go64,(x18_4).toNat,none⟩=some (.int .i64 (rd x11_3 x18_4))) (ds:=[]) #[false,false,false,false,false,false,false,false,false,false,false,false,false,false,false,false,false,false,false,false,false,false,false] (by kernel_rfl) rfl rfl ⟨hx253_0,hx254_0⟩ (fun hHeld=>?_);refine with_tabW hinterlandref06_Sail.tab35 hinterlandref06_Sail.bits35 (fun HT_ HW_=>?_);generalize w108.drew=w118 at HO_11 HO_17 BK221 BK222 HB hx253_0 hx254_0 hHeld ⊢;refine pI 0 (some 133) ?_;refine pI 1 (some 134) ?_;refine pI 2 (some 135) ?_;refine pI 3 (some 136) ?_;refine pI 4 (some 137) ?_;refine pI 5 (some 138) ?_;refine pI 7 (some 140) ?_;refine pI 8 (some 141) ?_;refine pI 9 (some 142) ?_;refine tI2 6 (some 139) hHeld ?_;refine tI2 10 (some 143) hHeld ?_;refine pI 11 (some 144) ?_;refine pI 12 (some 145) ?_;refine pI 13 (some 146) ?_;refine pI 14 (some 147) ?_;refine pU 15 (some 148) ?_;refine pU 16 (some 149) ?_;refine pU 17 (some 150) ?_;refine pU 18 (some 151) ?_;refine pU 19 (some 152) ?_;refine pU 20 (some 153) ?_;refine pU 21 (some 154) ?_;refine pI 22 (some 155) ?_;refine done_ (done_of HT_.out (by kernel_rfl)) ?_;try go_wp2
              go_meet
              case rel=>exact ⟨_,(false),(by first|rfl|(simp;done)|(simp [*];done)),H',⟨by have:=HJ6.out;have:=HK2.out;have:=HK3.out;have:=HK4.out;have:=HK5.out;first|omega|exact Nat.le_refl _⟩,⟨by (try simp only [hl11_2]);(try simp only [hl11_3]);(with_reducible repeat (first|apply Kd.R_alloc|apply Kd.R_drewN|apply Kd.R_drew));exact HO_11.out⟩,⟨by (try simp only [hl11_2]);(try simp only [hl11_3]);(with_reducible repeat (first|apply Kd.R_alloc|apply Kd.R_drewN|apply Kd.R_drew));exact HO_17.out⟩,⟨by (try simp only [hl11_2]);(try simp only [hl11_3]);(with_reducible repeat (first|refine blk_drewN ?_ _|refine blk_drew ?_|refine blk_alloc ?_ _));exact BK221.out⟩,⟨by (try simp only [hl11_2]);(try simp only [hl11_3]);(with_reducible repeat (first|refine blk_drewN ?_ _|refine blk_drew ?_|refine blk_alloc ?_ _));exact BK222.out⟩,⟨hb_⟩⟩
             rw [if_pos c114] at H;have c114b0:=bqt c114;have c114b1:=bnf c114;clear c114;by_cases c115:x19_5<0
             ·rw [if_pos c115] at H;have c115b0:=decide_eq_true c115;clear c115;have H':=Aside0.mk H;clear H;try go_wp2
              replace HO_11:=Aside0.mk (Kd.R_drew HO_11.out);replace HO_17:=Aside0.mk (Kd.R_drew HO_17.out);replace BK221:=bkd BK221;replace BK222:=bkd BK222;replace HB:=Aside0.mk (below_drew1 HB.out);have p253:0≤(t252:Int):=ofd;have q253:t252<(x11_3.length:Int):=ofd;obtain ⟨ad253,e253,hx253_0⟩:=Kd.at_int (Kd.R_reads' HO_11.out).2.2 t252 p253 q253;obtain rfl:(⟨go64,0,none⟩:Addr)=ad253:=(by injection e253);(first|simp only [add_plain] at hx253_0|simp only [add_at] at hx253_0|simp only [Addr.add,Nat.zero_add] at hx253_0|skip);replace p253:=eq_true p253;replace q253:=eq_true q253;have p254:0≤(x18_4:Int):=ofd;have q254:x18_4<(x11_3.length:Int):=ofd;obtain ⟨ad254,e254,hx254_0⟩:=Kd.at_int (Kd.R_reads' HO_11.out).2.2 x18_4 p254 q254;obtain rfl:(⟨go64,0,none⟩:Addr)=ad254:=(by injection e254);(first|simp only [add_plain] at hx254_0|simp only [add_at] at hx254_0|simp only [Addr.add,Nat.zero_add] at hx254_0|skip);replace p254:=eq_true p254;replace q254:=eq_true q254;refine start_ (n:=23) (S:=fun w'=>w'.cell? ⟨go64,(t252).toNat,none⟩=some (.int .i64 (rd x11_3 t252))∧w'.cell? ⟨go64,(x18_4).toNat,none⟩=some (.int .i64 (rd x11_3 x18_4))) (ds:=[]) #[false,false,false,false,false,false,false,false,false,false,false,false,false,false,false,false,false,false,false,false,false,false,false] (by kernel_rfl) rfl rfl ⟨hx253_0,hx254_0⟩ (fun hHeld=>?_);refine with_tabW hinterlandref06_Sail.tab35 hinterlandref06_Sail.bits35 (fun HT_ HW_=>?_);generalize w108.drew=w116 at HO_11 HO_17 BK221 BK222 HB hx253_0 hx254_0 hHeld ⊢;refine pI 0 (some 133) ?_;refine pI 1 (some 134) ?_;refine pI 2 (some 135) ?_;refine pI 3 (some 136) ?_;refine pI 4 (some 137) ?_;refine pI 5 (some 138) ?_;refine pI 7 (some 140) ?_;refine pI 8 (some 141) ?_;refine pI 9 (some 142) ?_;refine tI2 6 (some 139) hHeld ?_;refine tI2 10 (some 143) hHeld ?_;refine pI 11 (some 144) ?_;refine pI 12 (some 145) ?_;refine pI 13 (some 146) ?_;refine pI 14 (some 147) ?_;refine pI 15 (some 148) ?_;refine pI 16 (some 149) ?_;refine pI 17 (some 150) ?_;refine pU 18 (some 151) ?_;refine pU 19 (some 152) ?_;refine pU 20 (some 153) ?_;refine pI 21 (some 154) ?_;refine pI 22 (some 155) ?_;refine done_ (done_of HT_.out (by kernel_rfl)) ?_;try go_wp2
              go_meet
              case rel=>exact ⟨_,(true),(by first|rfl|(simp;done)|(simp [*];done)),H',⟨by have:=HJ6.out;have:=HK2.out;have:=HK3.out;have:=HK4.out;have:=HK5.out;first|omega|exact Nat.le_refl _⟩,⟨by (try simp only [hl11_2]);(try simp only [hl11_3]);(with_reducible repeat (first|apply Kd.R_alloc|apply Kd.R_drewN|apply Kd.R_drew));exact HO_11.out⟩,⟨by (try simp only [hl11_2]);(try simp only [hl11_3]);(with_reducible repeat (first|apply Kd.R_alloc|apply Kd.R_drewN|apply Kd.R_drew));exact HO_17.out⟩,⟨by (try simp only [hl11_2]);(try simp only [hl11_3]);(with_reducible repeat (first|refine blk_drewN ?_ _|refine blk_drew ?_|refine blk_alloc ?_ _));exact BK221.out⟩,⟨by (try simp only [hl11_2]);(try simp only [hl11_3]);(with_reducible repeat (first|refine blk_drewN ?_ _|refine blk_drew ?_|refine blk_alloc ?_ _));exact BK222.out⟩,⟨hb_⟩⟩
             ·rw [if_neg c115] at H;have c115b0:=decide_eq_false c115;clear c115;have H':=Aside0.mk H;clear H;try go_wp2
              replace HO_11:=Aside0.mk (Kd.R_drew HO_11.out);replace HO_17:=Aside0.mk (Kd.R_drew HO_17.out);replace BK221:=bkd BK221;replace BK222:=bkd BK222;replace HB:=Aside0.mk (below_drew1 HB.out);have p253:0≤(t252:Int):=ofd;have q253:t252<(x11_3.length:Int):=ofd;obtain ⟨ad253,e253,hx253_0⟩:=Kd.at_int (Kd.R_reads' HO_11.out).2.2 t252 p253 q253;obtain rfl:(⟨go64,0,none⟩:Addr)=ad253:=(by injection e253);(first|simp only [add_plain] at hx253_0|simp only [add_at] at hx253_0|simp only [Addr.add,Nat.zero_add] at hx253_0|skip);replace p253:=eq_true p253;replace q253:=eq_true q253;have p254:0≤(x18_4:Int):=ofd;have q254:x18_4<(x11_3.length:Int):=ofd;obtain ⟨ad254,e254,hx254_0⟩:=Kd.at_int (Kd.R_reads' HO_11.out).2.2 x18_4 p254 q254;obtain rfl:(⟨go64,0,none⟩:Addr)=ad254:=(by injection e254);(first|simp only [add_plain] at hx254_0|simp only [add_at] at hx254_0|simp only [Addr.add,Nat.zero_add] at hx254_0|skip);replace p254:=eq_true p254;replace q254:=eq_true q254;refine start_ (n:=23) (S:=fun w'=>w'.cell? ⟨go64,(t252).toNat,none⟩=some (.int .i64 (rd x11_3 t252))∧w'.cell? ⟨go64,(x18_4).toNat,none⟩=some (.int .i64 (rd x11_3 x18_4))) (ds:=[]) #[false,false,false,false,false,false,false,false,false,false,false,false,false,false,false,false,false,false,false,false,false,false,false] (by kernel_rfl) rfl rfl ⟨hx253_0,hx254_0⟩ (fun hHeld=>?_);refine with_tabW hinterlandref06_Sail.tab35 hinterlandref06_Sail.bits35 (fun HT_ HW_=>?_);generalize w108.drew=w117 at HO_11 HO_17 BK221 BK222 HB hx253_0 hx254_0 hHeld ⊢;refine pI 0 (some 133) ?_;refine pI 1 (some 134) ?_;refine pI 2 (some 135) ?_;refine pI 3 (some 136) ?_;refine pI 4 (some 137) ?_;refine pI 5 (some 138) ?_;refine pI 7 (some 140) ?_;refine pI 8 (some 141) ?_;refine pI 9 (some 142) ?_;refine tI2 6 (some 139) hHeld ?_;refine tI2 10 (some 143) hHeld ?_;refine pI 11 (some 144) ?_;refine pI 12 (some 145) ?_;refine pI 13 (some 146) ?_;refine pI 14 (some 147) ?_;refine pI 15 (some 148) ?_;refine pI 16 (some 149) ?_;refine pI 17 (some 150) ?_;refine pI 18 (some 151) ?_;refine pI 19 (some 152) ?_;refine pI 20 (some 153) ?_;refine pI 21 (some 154) ?_;refine pI 22 (some 155) ?_;refine done_ (done_of HT_.out (by kernel_rfl)) ?_;try go_wp2
              go_meet
              case rel=>exact ⟨_,(decide (t252<x19_5)),(by first|rfl|(simp;done)|(simp [*];done)),H',⟨by have:=HJ6.out;have:=HK2.out;have:=HK3.out;have:=HK4.out;have:=HK5.out;first|omega|exact Nat.le_refl _⟩,⟨by (try simp only [hl11_2]);(try simp only [hl11_3]);(with_reducible repeat (first|apply Kd.R_alloc|apply Kd.R_drewN|apply Kd.R_drew));exact HO_11.out⟩,⟨by (try simp only [hl11_2]);(try simp only [hl11_3]);(with_reducible repeat (first|apply Kd.R_alloc|apply Kd.R_drewN|apply Kd.R_drew));exact HO_17.out⟩,⟨by (try simp only [hl11_2]);(try simp only [hl11_3]);(with_reducible repeat (first|refine blk_drewN ?_ _|refine blk_drew ?_|refine blk_alloc ?_ _));exact BK221.out⟩,⟨by (try simp only [hl11_2]);(try simp only [hl11_3]);(with_reducible repeat (first|refine blk_drewN ?_ _|refine blk_drew ?_|refine blk_alloc ?_ _));exact BK222.out⟩,⟨hb_⟩⟩
            case rest =>
             clear HC104;obtain ⟨kq,x155_103,rfl,HA,HJ103,HO_11,HO_17,BK221,BK222,HB⟩:=hcut;cases kq with
             | zero=>exact absurd HA.out (by simp [hinterlandref06_Sail.j7])
             | succ kj103 =>
              have H:=HA.out;clear HA;simp only [hinterlandref06_Sail.j7] at H;by_cases c120:x155_103=true
              ·subst c120;rw [if_pos rfl] at H;have H':=Aside0.mk H;clear H;go_wp2
               go_roundg kj103
               case measure=>have:=HJ6.out;have:=HK2.out;have:=HK3.out;have:=HK4.out;have:=HK5.out;have:=HJ103.out;omega
               case rel=>exact ⟨(t252),(wrap64 (x125_5+1)),(by first|rfl|(simp;done)|(simp [*];done)),(by first|rfl|(simp;done)|(simp [*];done)),H',⟨by have:=HJ6.out;have:=HK2.out;have:=HK3.out;have:=HK4.out;have:=HK5.out;have:=HJ103.out;omega⟩,⟨by (try simp only [hl11_2]);(try simp only [hl11_3]);(with_reducible repeat (first|apply Kd.R_alloc|apply Kd.R_drewN|apply Kd.R_drew));exact HO_11.out⟩,⟨by (try simp only [hl11_2]);(try simp only [hl11_3]);(with_reducible repeat (first|apply Kd.R_alloc|apply Kd.R_drewN|apply Kd.R_drew));exact HO_17.out⟩,⟨by (try simp only [hl11_2]);(try simp only [hl11_3]);(with_reducible repeat (first|refine blk_drewN ?_ _|refine blk_drew ?_|refine blk_alloc ?_ _));exact BK221.out⟩,⟨by (try simp only [hl11_2]);(try simp only [hl11_3]);(with_reducible repeat (first|refine blk_drewN ?_ _|refine blk_drew ?_|refine blk_alloc ?_ _));exact BK222.out⟩,⟨hb_⟩⟩
              ·replace c120:=Bool.eq_false_iff.mpr c120;subst c120;rw [if_neg (show ¬ (false=true) by decide)] at H;have H':=Aside0.mk H;clear H;go_wp2
               go_roundg kj103
               case measure=>have:=HJ6.out;have:=HK2.out;have:=HK3.out;have:=HK4.out;have:=HK5.out;have:=HJ103.out;omega
               case rel=>exact ⟨(x19_5),(wrap64 (x125_5+1)),(by first|rfl|(simp;done)|(simp [*];done)),(by first|rfl|(simp;done)|(simp [*];done)),H',⟨by have:=HJ6.out;have:=HK2.out;have:=HK3.out;have:=HK4.out;have:=HK5.out;have:=HJ103.out;omega⟩,⟨by (try simp only [hl11_2]);(try simp only [hl11_3]);(with_reducible repeat (first|apply Kd.R_alloc|apply Kd.R_drewN|apply Kd.R_drew));exact HO_11.out⟩,⟨by (try simp only [hl11_2]);(try simp only [hl11_3]);(with_reducible repeat (first|apply Kd.R_alloc|apply Kd.R_drewN|apply Kd.R_drew));exact HO_17.out⟩,⟨by (try simp only [hl11_2]);(try simp only [hl11_3]);(with_reducible repeat (first|refine blk_drewN ?_ _|refine blk_drew ?_|refine blk_alloc ?_ _));exact BK221.out⟩,⟨by (try simp only [hl11_2]);(try simp only [hl11_3]);(with_reducible repeat (first|refine blk_drewN ?_ _|refine blk_drew ?_|refine blk_alloc ?_ _));exact BK222.out⟩,⟨hb_⟩⟩

/-! ### hinterlandref17_wet: function 52 -/
def hinterlandref17_wet.f (k:Nat) (a0_0:Int) (a0_1:Int) (l0_2:List Int) (l1_0:List Int) (l1_1:List Int) (a2:Int):Option (Bool) := (hinterlandref06_Sail.f k a0_0 a0_1 l0_2 l1_0 l1_1 a2 a2).bind fun bt257=>(if bt257.2=0 then (some ((bt257.1.length:Int) == 1)) else (some false))
theorem hinterlandref17_wet.mono:∀ a0 a1 a2 a3 a4 a5 k,LeO (hinterlandref17_wet.f k a0 a1 a2 a3 a4 a5) (hinterlandref17_wet.f (k+1) a0 a1 a2 a3 a4 a5) := by
 intro a0 a1 a2 a3 a4 a5 k;unfold hinterlandref17_wet.f;repeat' first
   | (with_reducible exact hinterlandref06_Sail.mono _ _ _ _ _ _ _ _)
   | (with_reducible exact LeO.refl _)
   | (with_reducible exact LeO.none _)
   | (with_reducible refine LeO.ite ?_ ?_)
   | (with_reducible refine LeO.bind ?_ (fun _=>?_))
set_option maxHeartbeats 8000000 in
set_option maxRecDepth 100000 in
theorem hinterlandref17_wet.calls (k:Nat) (a0_0:Int) (a0_1:Int) (A0_2:Option Addr) (c0_2:Nat) (l0_2:List Int) (A1_0:Option Addr) (c1_0:Nat) (l1_0:List Int) (A1_1:Option Addr) (c1_1:Nat) (l1_1:List Int) (a2:Int) (r:Bool) (w:World) (hr0_2:Kd.C (Kd.int .i64) w A0_2 l0_2.length l0_2) (hc0_2:l0_2.length≤c0_2) (hr1_0:Kd.C (Kd.int .i64) w A1_0 l1_0.length l1_0) (hc1_0:l1_0.length≤c1_0) (hr1_1:Kd.C (Kd.int .i64) w A1_1 l1_1.length l1_1) (hc1_1:l1_1.length≤c1_1) (h:hinterlandref17_wet.f k a0_0 a0_1 l0_2 l1_0 l1_1 a2=some r) :
  Calls Try.prog 52 #[.agg #[.int .i64 a0_0,.int .i64 a0_1,.slice A0_2 l0_2.length c0_2],.agg #[.slice A1_0 l1_0.length c1_0,.slice A1_1 l1_1.length c1_1],.int .i64 a2] w fun e w'=>e=.returned (.bool r)∧Below w.heap.size w w':=by
 have hu53:=Try.underlying53;have hu55:=Try.underlying55;have HR0_2:=Aside0.mk hr0_2;have HC0_2:=Aside0.mk hc0_2;clear hr0_2 hc0_2;have HR1_0:=Aside0.mk hr1_0;have HC1_0:=Aside0.mk hc1_0;clear hr1_0 hc1_0;have HR1_1:=Aside0.mk hr1_1;have HC1_1:=Aside0.mk hc1_1;clear hr1_1 hc1_1;have HB:=Aside0.mk (Below.refl w.heap.size w);have H:=h;clear h;unfold hinterlandref17_wet.f at H;obtain ⟨⟨t257,t260⟩,A4,H⟩:=bnd H;(try dsimp only at H);by_cases c5:t260=0
 ·rw [if_pos c5] at H;have c5b0:=bqt c5;have c5b1:=bnf c5;clear c5;obtain rfl:=Option.some.inj H;go_enter Try.func52,Try.ntmps52;go_wp2_with (first|((with_reducible refine gate_dst (N:=3) rfl ?_);(try (refine gate_guard (by rfl) ?_;dsimp only));refine box_ev (N:=3) (cs:=#[.int .i64 a0_0,.int .i64 a0_1,.slice A0_2 l0_2.length c0_2]) (t:=53) ?_;intro gb255 hg w6 hbox hb;have BK255:=Aside0.mk (hbox);have GW255:Aside0 (w.heap.size≤gb255):=gsz hg;have GE255:=GW255;replace HB:=hbs hb;clear hb hbox hg)|((with_reducible refine gate_dst (N:=4) rfl ?_);(try (refine gate_guard (by rfl) ?_;dsimp only));refine box_ev (N:=4) (cs:=#[.slice A1_0 l1_0.length c1_0,.slice A1_1 l1_1.length c1_1]) (t:=55) ?_;intro gb256 hg w7 hbox hb;have BK256:=Aside0.mk (hbox);have GW256:Aside0 (w.heap.size≤gb256):=gsz hg;have GE256:=GW256;have NB255_256:=nbl BK255 hg;have NB256_255:=nbr BK255 hg;replace BK255:=bkb BK255 hb;replace HB:=hbs hb;clear hb hbox hg;have hnb8:=NB255_256.out;have hnc8:=NB256_255.out;obtain ⟨_,_,_,_,_,_⟩:=cells3 BK255.out;obtain ⟨_,_,_,_⟩:=cells2 BK256.out)|((with_reducible refine gate_callee (f:=60) rfl ?_);refine goesL_ (some 14) rfl rfl Try.func60 (by kernel_rfl) rfl #[.agg #[.int .i64 a0_0,.int .i64 a0_1,.slice A0_2 l0_2.length c0_2],.agg #[.slice A1_0 l1_0.length c1_0,.slice A1_1 l1_1.length c1_1],.int .i64 a2,.int .i64 a2] rfl ga_ ?_;(with_reducible refine (hinterlandref06_Sail.calls k a0_0 a0_1 _ _ l0_2 _ _ l1_0 _ _ l1_1 a2 a2 t257 t260 _ ?_ ?_ ?_ ?_ ?_ ?_ A4.out).mono ?_);exact cq HR0_2;exact HC0_2.out;exact cq HR1_0;exact HC1_0.out;exact cq HR1_1;exact HC1_1.out;rintro e w11 ⟨v258,rfl,ho0,hb⟩;refine ⟨_,rfl,?_⟩;have HO259:=rlo ho0;replace BK255:=bkb BK255 hb;replace BK256:=bkb BK256 hb;replace HB:=hbs hb;obtain ⟨Ao12,co12,eo12⟩:=Kd.R_slice HO259.out;subst eo12))
  go_ret
  exact ⟨er_,hb_⟩
 ·rw [if_neg c5] at H;have c5b0:=bqf c5;have c5b1:=bnt c5;obtain rfl:=Option.some.inj H;go_enter Try.func52,Try.ntmps52;go_wp2_with (first|((with_reducible refine gate_dst (N:=3) rfl ?_);(try (refine gate_guard (by rfl) ?_;dsimp only));refine box_ev (N:=3) (cs:=#[.int .i64 a0_0,.int .i64 a0_1,.slice A0_2 l0_2.length c0_2]) (t:=53) ?_;intro gb255 hg w13 hbox hb;have BK255:=Aside0.mk (hbox);have GW255:Aside0 (w.heap.size≤gb255):=gsz hg;have GE255:=GW255;replace HB:=hbs hb;clear hb hbox hg)|((with_reducible refine gate_dst (N:=4) rfl ?_);(try (refine gate_guard (by rfl) ?_;dsimp only));refine box_ev (N:=4) (cs:=#[.slice A1_0 l1_0.length c1_0,.slice A1_1 l1_1.length c1_1]) (t:=55) ?_;intro gb256 hg w14 hbox hb;have BK256:=Aside0.mk (hbox);have GW256:Aside0 (w.heap.size≤gb256):=gsz hg;have GE256:=GW256;have NB255_256:=nbl BK255 hg;have NB256_255:=nbr BK255 hg;replace BK255:=bkb BK255 hb;replace HB:=hbs hb;clear hb hbox hg;have hnb15:=NB255_256.out;have hnc15:=NB256_255.out;obtain ⟨_,_,_,_,_,_⟩:=cells3 BK255.out;obtain ⟨_,_,_,_⟩:=cells2 BK256.out)|((with_reducible refine gate_callee (f:=60) rfl ?_);refine goesL_ (some 14) rfl rfl Try.func60 (by kernel_rfl) rfl #[.agg #[.int .i64 a0_0,.int .i64 a0_1,.slice A0_2 l0_2.length c0_2],.agg #[.slice A1_0 l1_0.length c1_0,.slice A1_1 l1_1.length c1_1],.int .i64 a2,.int .i64 a2] rfl ga_ ?_;(with_reducible refine (hinterlandref06_Sail.calls k a0_0 a0_1 _ _ l0_2 _ _ l1_0 _ _ l1_1 a2 a2 t257 t260 _ ?_ ?_ ?_ ?_ ?_ ?_ A4.out).mono ?_);exact cq HR0_2;exact HC0_2.out;exact cq HR1_0;exact HC1_0.out;exact cq HR1_1;exact HC1_1.out;rintro e w18 ⟨v258,rfl,ho0,hb⟩;refine ⟨_,rfl,?_⟩;have HO259:=rlo ho0;replace BK255:=bkb BK255 hb;replace BK256:=bkb BK256 hb;replace HB:=hbs hb))
  go_ret
  exact ⟨er_,hb_⟩

/-! ### hinterlandref17_course: function 53 -/
def hinterlandref17_course.j0:Nat→List Int→Bool→Int→Int→List Int→Option (Int × Bool)
 | 0,_,_,_,_,_=>none
 | k+1,x10,x26,x262000,x262001,x262002=>if x26=true then (some (0,false)) else (if 1<(x10.length:Int) then (if 0<(x10.length:Int) then (if (wrap64 ((rd x10 1) - (rd x10 0)))=1 then (some (0,true)) else (if (wrap64 ((rd x10 1) - (rd x10 0)))=(-1) then (some (2,true)) else (if (wrap64 ((rd x10 1) - (rd x10 0)))=x262000 then (some (1,true)) else (some (3,true))))) else (none)) else (none))
def hinterlandref17_course.f (k:Nat) (a0_0:Int) (a0_1:Int) (l0_2:List Int) (l1_0:List Int) (l1_1:List Int) (a2:Int) (a3:Int):Option (Int × Bool) := (hinterlandref06_Sail.f k a0_0 a0_1 l0_2 l1_0 l1_1 a2 a3).bind fun bt263=>(if bt263.2=0 then (hinterlandref17_course.j0 k bt263.1 (decide ((bt263.1.length:Int)<2)) a0_0 a0_1 l0_2) else (hinterlandref17_course.j0 k bt263.1 true a0_0 a0_1 l0_2))
theorem hinterlandref17_course.mono_l:∀ k,(∀ y0 y1 y2 y3 y4,LeO (hinterlandref17_course.j0 k y0 y1 y2 y3 y4) (hinterlandref17_course.j0 (k+1) y0 y1 y2 y3 y4))
 | 0=>fun _ _ _ _ _ r h=>by simp [hinterlandref17_course.j0] at h
 | k+1=>by
  have ih0:=hinterlandref17_course.mono_l k
  ·intro y0 y1 y2 y3 y4;unfold hinterlandref17_course.j0;repeat' first
   | (with_reducible exact ih0 _ _ _ _ _)
   | (with_reducible exact hinterlandref06_Sail.mono _ _ _ _ _ _ _ _)
   | (with_reducible exact LeO.refl _)
   | (with_reducible exact LeO.none _)
   | (with_reducible refine LeO.ite ?_ ?_)
   | (with_reducible refine LeO.bind ?_ (fun _=>?_))
theorem hinterlandref17_course.mono:∀ a0 a1 a2 a3 a4 a5 a6 k,LeO (hinterlandref17_course.f k a0 a1 a2 a3 a4 a5 a6) (hinterlandref17_course.f (k+1) a0 a1 a2 a3 a4 a5 a6) := by
 intro a0 a1 a2 a3 a4 a5 a6 k;have ih0:=hinterlandref17_course.mono_l k;unfold hinterlandref17_course.f;repeat' first
   | (with_reducible exact ih0 _ _ _ _ _)
   | (with_reducible exact hinterlandref06_Sail.mono _ _ _ _ _ _ _ _)
   | (with_reducible exact LeO.refl _)
   | (with_reducible exact LeO.none _)
   | (with_reducible refine LeO.ite ?_ ?_)
   | (with_reducible refine LeO.bind ?_ (fun _=>?_))
set_option maxHeartbeats 8000000 in
set_option maxRecDepth 100000 in
theorem hinterlandref17_course.calls (k:Nat) (a0_0:Int) (a0_1:Int) (A0_2:Option Addr) (c0_2:Nat) (l0_2:List Int) (A1_0:Option Addr) (c1_0:Nat) (l1_0:List Int) (A1_1:Option Addr) (c1_1:Nat) (l1_1:List Int) (a2:Int) (a3:Int) (r1:Int) (r2:Bool) (w:World) (hr0_2:Kd.C (Kd.int .i64) w A0_2 l0_2.length l0_2) (hc0_2:l0_2.length≤c0_2) (hr1_0:Kd.C (Kd.int .i64) w A1_0 l1_0.length l1_0) (hc1_0:l1_0.length≤c1_0) (hr1_1:Kd.C (Kd.int .i64) w A1_1 l1_1.length l1_1) (hc1_1:l1_1.length≤c1_1) (h:hinterlandref17_course.f k a0_0 a0_1 l0_2 l1_0 l1_1 a2 a3=some (r1,r2)) :
  Calls Try.prog 53 #[.agg #[.int .i64 a0_0,.int .i64 a0_1,.slice A0_2 l0_2.length c0_2],.agg #[.slice A1_0 l1_0.length c1_0,.slice A1_1 l1_1.length c1_1],.int .i64 a2,.int .i64 a3] w fun e w'=>e=.returned (.tuple #[.int .i64 r1,.bool r2])∧Below w.heap.size w w':=by
 have hu53:=Try.underlying53;have hu55:=Try.underlying55;have HR0_2:=Aside0.mk hr0_2;have HC0_2:=Aside0.mk hc0_2;clear hr0_2 hc0_2;have HR1_0:=Aside0.mk hr1_0;have HC1_0:=Aside0.mk hc1_0;clear hr1_0 hc1_0;have HR1_1:=Aside0.mk hr1_1;have HC1_1:=Aside0.mk hc1_1;clear hr1_1 hc1_1;have HB:=Aside0.mk (Below.refl w.heap.size w);have H:=h;clear h;unfold hinterlandref17_course.f at H;obtain ⟨⟨t263,t266⟩,A5,H⟩:=bnd H;(try dsimp only at H);have HC6:=Aside0.mk H;clear H;go_enter Try.func53,Try.ntmps53;go_upto_region 2 with (first|((with_reducible refine gate_dst (N:=4) rfl ?_);(try (refine gate_guard (by rfl) ?_;dsimp only));refine box_ev (N:=4) (cs:=#[.int .i64 a0_0,.int .i64 a0_1,.slice A0_2 l0_2.length c0_2]) (t:=53) ?_;intro gb261 hg w7 hbox hb;have BK261:=Aside0.mk (hbox);have GW261:Aside0 (w.heap.size≤gb261):=gsz hg;have GE261:=GW261;replace HB:=hbs hb;clear hb hbox hg)|((with_reducible refine gate_dst (N:=5) rfl ?_);(try (refine gate_guard (by rfl) ?_;dsimp only));refine box_ev (N:=5) (cs:=#[.slice A1_0 l1_0.length c1_0,.slice A1_1 l1_1.length c1_1]) (t:=55) ?_;intro gb262 hg w8 hbox hb;have BK262:=Aside0.mk (hbox);have GW262:Aside0 (w.heap.size≤gb262):=gsz hg;have GE262:=GW262;have NB261_262:=nbl BK261 hg;have NB262_261:=nbr BK261 hg;replace BK261:=bkb BK261 hb;replace HB:=hbs hb;clear hb hbox hg;have hnb9:=NB261_262.out;have hnc9:=NB262_261.out;obtain ⟨_,_,_,_,_,_⟩:=cells3 BK261.out;obtain ⟨_,_,_,_⟩:=cells2 BK262.out)|(go_at_call 60;(with_reducible refine (hinterlandref06_Sail.calls k a0_0 a0_1 _ _ l0_2 _ _ l1_0 _ _ l1_1 a2 a3 t263 t266 _ ?_ ?_ ?_ ?_ ?_ ?_ A5.out).mono ?_);exact cq HR0_2;exact HC0_2.out;exact cq HR1_0;exact HC1_0.out;exact cq HR1_1;exact HC1_1.out;rintro e w12 ⟨v264,rfl,ho0,hb⟩;have HO265:=rlo ho0;replace BK261:=bkb BK261 hb;replace BK262:=bkb BK262 hb;replace HB:=hbs hb))
 (try simp only [Act.put,List.setIfInBounds_toArray,List.set_cons_zero,List.set_cons_succ]);go_cut [26] (fun v26 wc=>∃ (kq:Nat) (x26_5:Bool),v26=.bool x26_5∧Aside0 (hinterlandref17_course.j0 kq t263 x26_5 a0_0 a0_1 l0_2=some (r1,r2))∧Aside0 (kq≤k)∧Aside0 (Kd.R (Kd.int .i64) 3 wc w.heap.size (fun _=>True) v264 t263)∧Aside0 (wc.heap[gb261]?=some (.cells #[.int .i64 a0_0,.int .i64 a0_1,(.slice A0_2 l0_2.length c0_2)] 53 (0,0)))∧Aside0 (wc.heap[gb262]?=some (.cells #[(.slice A1_0 l1_0.length c1_0),(.slice A1_1 l1_1.length c1_1)] 55 (0,0)))∧Aside0 (Below w.heap.size w wc))
 case first =>
  have H:=HC6.out;clear HC6;by_cases c13:t266=0
  ·rw [if_pos c13] at H;have c13b0:=bqt c13;have c13b1:=bnf c13;clear c13;(first|rw [c13b0]|(simp only [i64_w,i32_w];rw [c13b0])|skip);have H':=Aside0.mk H;clear H;obtain ⟨Ao14,co14,eo14⟩:=Kd.R_slice HO265.out;subst eo14;go_wp2
   go_meet
   case rel=>exact ⟨_,(decide ((t263.length:Int)<2)),(by first|rfl|(simp;done)|(simp [*];done)),H',⟨by first|omega|exact Nat.le_refl _⟩,⟨Kd.R_up HO265.out⟩,⟨blk_up BK261.out⟩,⟨blk_up BK262.out⟩,⟨hb_⟩⟩
  ·rw [if_neg c13] at H;have c13b0:=bqf c13;have c13b1:=bnt c13;(first|rw [c13b0]|(simp only [i64_w,i32_w];rw [c13b0])|skip);have H':=Aside0.mk H;clear H;go_wp2
   go_meet
   case rel=>exact ⟨_,(true),(by first|rfl|(simp;done)|(simp [*];done)),H',⟨by first|omega|exact Nat.le_refl _⟩,⟨Kd.R_up HO265.out⟩,⟨blk_up BK261.out⟩,⟨blk_up BK262.out⟩,⟨hb_⟩⟩
 case rest =>
  clear HC6;obtain ⟨kq,x26_5,rfl,HA,HJ5,HO_10,BK261,BK262,HB⟩:=hcut;cases kq with
  | zero=>exact absurd HA.out (by simp [hinterlandref17_course.j0])
  | succ kj5 =>
   have H:=HA.out;clear HA;simp only [hinterlandref17_course.j0] at H;by_cases c15:x26_5=true
   ·subst c15;rw [if_pos rfl] at H;simp only [Option.some.injEq,Prod.mk.injEq] at H;obtain ⟨rfl,rfl⟩:=H;go_wp2
    go_ret2
    exact ⟨er_,hb_⟩
   ·replace c15:=Bool.eq_false_iff.mpr c15;subst c15;rw [if_neg (show ¬ (false=true) by decide)] at H;obtain ⟨c16,H⟩:=ifp_ H;have c16b0:=decide_eq_true c16;have c16b1:decide (1<t263.length)=true:=decide_eq_true (by omega);clear c16;obtain ⟨c17,H⟩:=ifp_ H;have c17b0:=decide_eq_true c17;have c17b1:decide (0<t263.length)=true:=decide_eq_true (by omega);clear c17;by_cases c18:(wrap64 ((rd t263 1) - (rd t263 0)))=1
    ·rw [if_pos c18] at H;have c18b0:=bqt c18;have c18b1:=bnf c18;clear c18;simp only [Option.some.injEq,Prod.mk.injEq] at H;obtain ⟨rfl,rfl⟩:=H;obtain ⟨Ao19,co19,eo19⟩:=Kd.R_slice HO_10.out;subst eo19;have p267:0≤(1:Int):=(by omega);have q267:1<(t263.length:Int):=ofd;obtain ⟨ad267,e267,hx267_0⟩:=Kd.at_int (Kd.R_reads' HO_10.out).2.2 1 p267 q267;cases e267;(try simp only [show (1:Int).toNat=1 from rfl,Nat.reduceMul,Nat.reduceEqDiff,Go.Addr.add,↓reduceIte] at hx267_0);have qi267:(1<t263.length)=True:=eq_true (by omega);(try rw [show ((1:Int)).toNat=1 from rfl] at hx267_0);replace p267:=eq_true p267;replace q267:=eq_true q267;have p268:0≤(0:Int):=(by omega);have q268:0<(t263.length:Int):=ofd;obtain ⟨ad268,e268,hx268_0⟩:=Kd.at_int (Kd.R_reads' HO_10.out).2.2 0 p268 q268;obtain rfl:ad267=ad268:=(by injection e268);have qi268:(0<t263.length)=True:=eq_true (by omega);(try rw [show ((0:Int)).toNat=0 from rfl] at hx268_0);(try rw [Addr.add_zero'] at hx268_0);replace p268:=eq_true p268;replace q268:=eq_true q268;go_wp2
     go_quiet (fail)
     go_wp2
     go_ret2
     exact ⟨er_,hb_⟩
    rw [if_neg c18] at H;have c18b0:=bqf c18;have c18b1:=bnt c18;by_cases c20:(wrap64 ((rd t263 1) - (rd t263 0)))=(-1)
    ·rw [if_pos c20] at H;have c20b0:=bqt c20;have c20b1:=bnf c20;clear c20;simp only [Option.some.injEq,Prod.mk.injEq] at H;obtain ⟨rfl,rfl⟩:=H;obtain ⟨Ao21,co21,eo21⟩:=Kd.R_slice HO_10.out;subst eo21;have p267:0≤(1:Int):=(by omega);have q267:1<(t263.length:Int):=ofd;obtain ⟨ad267,e267,hx267_0⟩:=Kd.at_int (Kd.R_reads' HO_10.out).2.2 1 p267 q267;cases e267;(try simp only [show (1:Int).toNat=1 from rfl,Nat.reduceMul,Nat.reduceEqDiff,Go.Addr.add,↓reduceIte] at hx267_0);have qi267:(1<t263.length)=True:=eq_true (by omega);(try rw [show ((1:Int)).toNat=1 from rfl] at hx267_0);replace p267:=eq_true p267;replace q267:=eq_true q267;have p268:0≤(0:Int):=(by omega);have q268:0<(t263.length:Int):=ofd;obtain ⟨ad268,e268,hx268_0⟩:=Kd.at_int (Kd.R_reads' HO_10.out).2.2 0 p268 q268;obtain rfl:ad267=ad268:=(by injection e268);have qi268:(0<t263.length)=True:=eq_true (by omega);(try rw [show ((0:Int)).toNat=0 from rfl] at hx268_0);(try rw [Addr.add_zero'] at hx268_0);replace p268:=eq_true p268;replace q268:=eq_true q268;go_wp2
     go_quiet (fail)
     go_wp2
     go_ret2
     exact ⟨er_,hb_⟩
    rw [if_neg c20] at H;have c20b0:=bqf c20;have c20b1:=bnt c20;by_cases c22:(wrap64 ((rd t263 1) - (rd t263 0)))=a0_0
    ·rw [if_pos c22] at H;have c22b0:=bqt c22;have c22b1:=bnf c22;clear c22;simp only [Option.some.injEq,Prod.mk.injEq] at H;obtain ⟨rfl,rfl⟩:=H;obtain ⟨Ao23,co23,eo23⟩:=Kd.R_slice HO_10.out;subst eo23;have p267:0≤(1:Int):=(by omega);have q267:1<(t263.length:Int):=ofd;obtain ⟨ad267,e267,hx267_0⟩:=Kd.at_int (Kd.R_reads' HO_10.out).2.2 1 p267 q267;cases e267;(try simp only [show (1:Int).toNat=1 from rfl,Nat.reduceMul,Nat.reduceEqDiff,Go.Addr.add,↓reduceIte] at hx267_0);have qi267:(1<t263.length)=True:=eq_true (by omega);(try rw [show ((1:Int)).toNat=1 from rfl] at hx267_0);replace p267:=eq_true p267;replace q267:=eq_true q267;have p268:0≤(0:Int):=(by omega);have q268:0<(t263.length:Int):=ofd;obtain ⟨ad268,e268,hx268_0⟩:=Kd.at_int (Kd.R_reads' HO_10.out).2.2 0 p268 q268;obtain rfl:ad267=ad268:=(by injection e268);have qi268:(0<t263.length)=True:=eq_true (by omega);(try rw [show ((0:Int)).toNat=0 from rfl] at hx268_0);(try rw [Addr.add_zero'] at hx268_0);replace p268:=eq_true p268;replace q268:=eq_true q268;obtain ⟨_,_⟩:=nn NB261_262;obtain ⟨_,_,_,_,_,_⟩:=cells3 BK261.out;go_wp2
     go_quiet (fail)
     go_wp2
     go_ret2
     exact ⟨er_,hb_⟩
    ·rw [if_neg c22] at H;have c22b0:=bqf c22;have c22b1:=bnt c22;simp only [Option.some.injEq,Prod.mk.injEq] at H;obtain ⟨rfl,rfl⟩:=H;obtain ⟨Ao26,co26,eo26⟩:=Kd.R_slice HO_10.out;subst eo26;have p267:0≤(1:Int):=(by omega);have q267:1<(t263.length:Int):=ofd;obtain ⟨ad267,e267,hx267_0⟩:=Kd.at_int (Kd.R_reads' HO_10.out).2.2 1 p267 q267;cases e267;(try simp only [show (1:Int).toNat=1 from rfl,Nat.reduceMul,Nat.reduceEqDiff,Go.Addr.add,↓reduceIte] at hx267_0);have qi267:(1<t263.length)=True:=eq_true (by omega);(try rw [show ((1:Int)).toNat=1 from rfl] at hx267_0);replace p267:=eq_true p267;replace q267:=eq_true q267;have p268:0≤(0:Int):=(by omega);have q268:0<(t263.length:Int):=ofd;obtain ⟨ad268,e268,hx268_0⟩:=Kd.at_int (Kd.R_reads' HO_10.out).2.2 0 p268 q268;obtain rfl:ad267=ad268:=(by injection e268);have qi268:(0<t263.length)=True:=eq_true (by omega);(try rw [show ((0:Int)).toNat=0 from rfl] at hx268_0);(try rw [Addr.add_zero'] at hx268_0);replace p268:=eq_true p268;replace q268:=eq_true q268;obtain ⟨_,_⟩:=nn NB261_262;obtain ⟨_,_,_,_,_,_⟩:=cells3 BK261.out;go_wp2
     go_quiet (fail)
     go_wp2
     go_ret2
     exact ⟨er_,hb_⟩

/-! ### api_Errno: function 54 -/
def api_Errno.l0:Nat→Int→List Int→Int→Int→Option (Int)
 | 0,_,_,_,_=>none
 | k+1,x3,x6,x7,x8=>if x8<x7 then (if 0≤x8 then (if x8<(x6.length:Int) then (if (rd x6 x8)=x3 then (api_Errno.l0 k x3 x6 x7 (wrap64 (x8+1))) else (some (rd x6 x8))) else (none)) else (none)) else (some x3)
def api_Errno.f (k:Nat) (l0:List Int):Option (Int) := api_Errno.l0 k 0 l0 (l0.length:Int) 0
theorem api_Errno.mono_l:∀ k,(∀ y0 y1 y2 y3,LeO (api_Errno.l0 k y0 y1 y2 y3) (api_Errno.l0 (k+1) y0 y1 y2 y3))
 | 0=>fun _ _ _ _ r h=>by simp [api_Errno.l0] at h
 | k+1=>by
  have ih0:=api_Errno.mono_l k
  ·intro y0 y1 y2 y3;unfold api_Errno.l0;repeat' first
   | (with_reducible exact ih0 _ _ _ _)
   | (with_reducible exact LeO.refl _)
   | (with_reducible exact LeO.none _)
   | (with_reducible refine LeO.ite ?_ ?_)
   | (with_reducible refine LeO.bind ?_ (fun _=>?_))
theorem api_Errno.mono:∀ a0 k,LeO (api_Errno.f k a0) (api_Errno.f (k+1) a0) := by
 intro a0 k;have ih0:=api_Errno.mono_l k;unfold api_Errno.f;repeat' first
   | (with_reducible exact ih0 _ _ _ _)
   | (with_reducible exact LeO.refl _)
   | (with_reducible exact LeO.none _)
   | (with_reducible refine LeO.ite ?_ ?_)
   | (with_reducible refine LeO.bind ?_ (fun _=>?_))
set_option maxHeartbeats 8000000 in
set_option maxRecDepth 100000 in
theorem api_Errno.calls (k:Nat) (A0:Option Addr) (c0:Nat) (l0:List Int) (r:Int) (w:World) (hr0:Kd.C (Kd.int .i64) w A0 l0.length l0) (hc0:l0.length≤c0) (h:api_Errno.f k l0=some r) :
  Calls Try.prog 54 #[.slice A0 l0.length c0] w fun e w'=>e=.returned (.int .i64 r)∧Drawn0 w w':=by
 have HR0:=Aside0.mk hr0;have HC0:=Aside0.mk hc0;clear hr0 hc0;have H:=h;clear h;unfold api_Errno.f at H;have H':=Aside0.mk H;clear H;go_enter Try.func54,Try.ntmps54;go_wp2
 go_loopg [8] k (fun kq v8 w'=>∃ (x8_1:Int),v8=.int .i64 x8_1∧Aside0 (api_Errno.l0 kq 0 l0 (l0.length:Int) x8_1=some r)∧Aside0 (kq≤k)∧Drawn0 w w')
 case atStart=>exact ⟨(0),(by first|rfl|(simp;done)|(simp [*];done)),H',⟨Nat.le_refl _⟩,by repeat (first|exact Drawn0.refl _|apply Drawn0.step)⟩
 case round =>
  clear H';obtain ⟨x8_1,rfl,HA,HK1,⟨m1,rfl⟩⟩:=hrel;cases gk with
  | zero=>exact absurd HA.out (by simp [api_Errno.l0])
  | succ k1 =>
   have H:=HA.out;clear HA;simp only [api_Errno.l0] at H;by_cases c2:x8_1<(l0.length:Int);rotate_left
   ·rw [if_neg c2] at H;have c2b0:=decide_eq_false c2;clear c2;obtain rfl:=Option.some.inj H;go_wp2
    go_ret
    exact ⟨by first|rfl|(simp;done)|(simp [*];done),by repeat (first|exact Drawn0.refl _|apply Drawn0.step)⟩
   rw [if_pos c2] at H;have c2b0:=decide_eq_true c2;clear c2;obtain ⟨c3,H⟩:=ifp_ H;have c3b0:=decide_eq_true c3;clear c3;obtain ⟨c4,H⟩:=ifp_ H;have c4b0:=decide_eq_true c4;clear c4;by_cases c5:(rd l0 x8_1)=0
   ·rw [if_pos c5] at H;have c5b0:=bqt c5;have c5b1:=bnf c5;clear c5;have H':=Aside0.mk H;clear H;have p276:0≤(x8_1:Int):=ofd;have q276:x8_1<(l0.length:Int):=ofd;obtain ⟨ad276,e276,hx276_0⟩:=Kd.at_int HR0.out x8_1 p276 q276;cases e276;replace p276:=eq_true p276;replace q276:=eq_true q276;go_wp2
    go_roundg k1
    case measure=>have:=HK1.out;omega
    case rel=>exact ⟨(wrap64 (x8_1+1)),(by first|rfl|(simp;done)|(simp [*];done)),H',⟨by have:=HK1.out;omega⟩,by repeat (first|exact Drawn0.refl _|apply Drawn0.step)⟩
   ·rw [if_neg c5] at H;have c5b0:=bqf c5;have c5b1:=bnt c5;obtain rfl:=Option.some.inj H;have p276:0≤(x8_1:Int):=ofd;have q276:x8_1<(l0.length:Int):=ofd;obtain ⟨ad276,e276,hx276_0⟩:=Kd.at_int HR0.out x8_1 p276 q276;cases e276;replace p276:=eq_true p276;replace q276:=eq_true q276;go_wp2
    go_ret
    exact ⟨by first|rfl|(simp;done)|(simp [*];done),by repeat (first|exact Drawn0.refl _|apply Drawn0.step)⟩

/-! ### land_apart: function 78 -/
def land_apart.f (a0:Int) (a1:Int):Option (Bool) := if (wrap64 (a0 - a1)) > 1 then (some true) else (some (decide ((wrap64 (a1 - a0)) > 1)))
set_option maxHeartbeats 8000000 in
set_option maxRecDepth 100000 in
theorem land_apart.calls (a0:Int) (a1:Int) (r:Bool) (w:World) (h:land_apart.f a0 a1=some r) :
  Calls Try.prog 78 #[.int .i64 a0,.int .i64 a1] w fun e w'=>e=.returned (.bool r)∧Drawn0 w w':=by
 have H:=h;clear h;unfold land_apart.f at H;by_cases c3:(wrap64 (a0 - a1)) > 1
 ·rw [if_pos c3] at H;have c3b0:=decide_eq_true c3;clear c3;obtain rfl:=Option.some.inj H;go_enter Try.func78,Try.ntmps78;go_wp2
  go_ret
  exact ⟨by first|rfl|(simp;done)|(simp [*];done),by repeat (first|exact Drawn0.refl _|apply Drawn0.step)⟩
 ·rw [if_neg c3] at H;have c3b0:=decide_eq_false c3;clear c3;obtain rfl:=Option.some.inj H;go_enter Try.func78,Try.ntmps78;go_wp2
  go_ret
  exact ⟨by first|rfl|(simp;done)|(simp [*];done),by repeat (first|exact Drawn0.refl _|apply Drawn0.step)⟩

/-! ### land_Validate: function 55 -/
mutual
def land_Validate.j0:Nat→Bool→Int→Int→List Int→Option (Int)
 | 0,_,_,_,_=>none
 | k+1,x38,x278000,x278001,x278002=>if x38=true then (some 1) else (land_Validate.l0 k x278002 (x278002.length:Int) 0 x278000 x278001 x278002)
def land_Validate.l0:Nat→List Int→Int→Int→Int→Int→List Int→Option (Int)
 | 0,_,_,_,_,_,_=>none
 | k+1,x40,x41,x42,x278000,x278001,x278002=>if x42<x41 then (if 0≤x42 then (if x42<(x40.length:Int) then (if (rd x40 x42)<0 then (some 1) else (if (rd x40 x42) > 15 then (some 1) else (land_Validate.l0 k x40 x41 (wrap64 (x42+1)) x278000 x278001 x278002))) else (none)) else (none)) else (land_Validate.l1 k 0 x278000 x278001 x278002)
def land_Validate.l1:Nat→Int→Int→Int→List Int→Option (Int)
 | 0,_,_,_,_=>none
 | k+1,x5,x278000,x278001,x278002=>if x5≤x278001 then (land_Validate.l2 k x5 0 x278000 x278001 x278002) else (some 0)
def land_Validate.l2:Nat→Int→Int→Int→Int→List Int→Option (Int)
 | 0,_,_,_,_,_=>none
 | k+1,x5,x6,x278000,x278001,x278002=>if x6≤x278000 then (if 0≤(wrap64 ((wrap64 (x5 * (wrap64 (x278000+1))))+x6)) then (if (wrap64 ((wrap64 (x5 * (wrap64 (x278000+1))))+x6))<(x278002.length:Int) then (if x6<x278000 then (if 0≤(wrap64 ((wrap64 ((wrap64 (x5 * (wrap64 (x278000+1))))+x6))+1)) then (if (wrap64 ((wrap64 ((wrap64 (x5 * (wrap64 (x278000+1))))+x6))+1))<(x278002.length:Int) then ((land_apart.f (rd x278002 (wrap64 ((wrap64 (x5 * (wrap64 (x278000+1))))+x6))) (rd x278002 (wrap64 ((wrap64 ((wrap64 (x5 * (wrap64 (x278000+1))))+x6))+1)))).bind fun t281=>(if t281=true then (some 5) else (if x5<x278001 then (if 0≤(wrap64 ((wrap64 ((wrap64 (x5+1)) * (wrap64 (x278000+1))))+x6)) then (if (wrap64 ((wrap64 ((wrap64 (x5+1)) * (wrap64 (x278000+1))))+x6))<(x278002.length:Int) then ((land_apart.f (rd x278002 (wrap64 ((wrap64 (x5 * (wrap64 (x278000+1))))+x6))) (rd x278002 (wrap64 ((wrap64 ((wrap64 (x5+1)) * (wrap64 (x278000+1))))+x6)))).bind fun t283=>(if t283=true then (some 5) else (land_Validate.l2 k x5 (wrap64 (x6+1)) x278000 x278001 x278002))) else (none)) else (none)) else (land_Validate.l2 k x5 (wrap64 (x6+1)) x278000 x278001 x278002)))) else (none)) else (none)) else (if x5<x278001 then (if 0≤(wrap64 ((wrap64 ((wrap64 (x5+1)) * (wrap64 (x278000+1))))+x6)) then (if (wrap64 ((wrap64 ((wrap64 (x5+1)) * (wrap64 (x278000+1))))+x6))<(x278002.length:Int) then ((land_apart.f (rd x278002 (wrap64 ((wrap64 (x5 * (wrap64 (x278000+1))))+x6))) (rd x278002 (wrap64 ((wrap64 ((wrap64 (x5+1)) * (wrap64 (x278000+1))))+x6)))).bind fun t285=>(if t285=true then (some 5) else (land_Validate.l2 k x5 (wrap64 (x6+1)) x278000 x278001 x278002))) else (none)) else (none)) else (land_Validate.l2 k x5 (wrap64 (x6+1)) x278000 x278001 x278002))) else (none)) else (none)) else (land_Validate.l1 k (wrap64 (x5+1)) x278000 x278001 x278002)
end
def land_Validate.f (k:Nat) (a0_0:Int) (a0_1:Int) (l0_2:List Int):Option (Int) := if a0_0<4 then (land_Validate.j0 k true a0_0 a0_1 l0_2) else (if a0_0 > 32 then (land_Validate.j0 k true a0_0 a0_1 l0_2) else (if a0_1<4 then (land_Validate.j0 k true a0_0 a0_1 l0_2) else (if a0_1 > 32 then (land_Validate.j0 k true a0_0 a0_1 l0_2) else (land_Validate.j0 k ((l0_2.length:Int) != (wrap64 ((wrap64 (a0_0+1)) * (wrap64 (a0_1+1))))) a0_0 a0_1 l0_2))))
theorem land_Validate.mono_l:∀ k,(∀ y0 y1 y2 y3,LeO (land_Validate.j0 k y0 y1 y2 y3) (land_Validate.j0 (k+1) y0 y1 y2 y3))∧(∀ y0 y1 y2 y3 y4 y5,LeO (land_Validate.l0 k y0 y1 y2 y3 y4 y5) (land_Validate.l0 (k+1) y0 y1 y2 y3 y4 y5))∧(∀ y0 y1 y2 y3,LeO (land_Validate.l1 k y0 y1 y2 y3) (land_Validate.l1 (k+1) y0 y1 y2 y3))∧(∀ y0 y1 y2 y3 y4,LeO (land_Validate.l2 k y0 y1 y2 y3 y4) (land_Validate.l2 (k+1) y0 y1 y2 y3 y4))
 | 0=>⟨fun _ _ _ _ r h=>by simp [land_Validate.j0] at h,fun _ _ _ _ _ _ r h=>by simp [land_Validate.l0] at h,fun _ _ _ _ r h=>by simp [land_Validate.l1] at h,fun _ _ _ _ _ r h=>by simp [land_Validate.l2] at h⟩
 | k+1=>by
  obtain ⟨ih0,ih1,ih2,ih3⟩:=land_Validate.mono_l k;refine ⟨?_,?_,?_,?_⟩
  ·intro y0 y1 y2 y3;unfold land_Validate.j0;repeat' first
   | (with_reducible exact ih0 _ _ _ _)
   | (with_reducible exact ih1 _ _ _ _ _ _)
   | (with_reducible exact ih2 _ _ _ _)
   | (with_reducible exact ih3 _ _ _ _ _)
   | (with_reducible exact LeO.refl _)
   | (with_reducible exact LeO.none _)
   | (with_reducible refine LeO.ite ?_ ?_)
   | (with_reducible refine LeO.bind ?_ (fun _=>?_))
  ·intro y0 y1 y2 y3 y4 y5;unfold land_Validate.l0;repeat' first
   | (with_reducible exact ih0 _ _ _ _)
   | (with_reducible exact ih1 _ _ _ _ _ _)
   | (with_reducible exact ih2 _ _ _ _)
   | (with_reducible exact ih3 _ _ _ _ _)
   | (with_reducible exact LeO.refl _)
   | (with_reducible exact LeO.none _)
   | (with_reducible refine LeO.ite ?_ ?_)
   | (with_reducible refine LeO.bind ?_ (fun _=>?_))
  ·intro y0 y1 y2 y3;unfold land_Validate.l1;repeat' first
   | (with_reducible exact ih0 _ _ _ _)
   | (with_reducible exact ih1 _ _ _ _ _ _)
   | (with_reducible exact ih2 _ _ _ _)
   | (with_reducible exact ih3 _ _ _ _ _)
   | (with_reducible exact LeO.refl _)
   | (with_reducible exact LeO.none _)
   | (with_reducible refine LeO.ite ?_ ?_)
   | (with_reducible refine LeO.bind ?_ (fun _=>?_))
  ·intro y0 y1 y2 y3 y4;unfold land_Validate.l2;repeat' first
   | (with_reducible exact ih0 _ _ _ _)
   | (with_reducible exact ih1 _ _ _ _ _ _)
   | (with_reducible exact ih2 _ _ _ _)
   | (with_reducible exact ih3 _ _ _ _ _)
   | (with_reducible exact LeO.refl _)
   | (with_reducible exact LeO.none _)
   | (with_reducible refine LeO.ite ?_ ?_)
   | (with_reducible refine LeO.bind ?_ (fun _=>?_))
theorem land_Validate.mono:∀ a0 a1 a2 k,LeO (land_Validate.f k a0 a1 a2) (land_Validate.f (k+1) a0 a1 a2) := by
 intro a0 a1 a2 k;obtain ⟨ih0,ih1,ih2,ih3⟩:=land_Validate.mono_l k;unfold land_Validate.f;repeat' first
   | (with_reducible exact ih0 _ _ _ _)
   | (with_reducible exact ih1 _ _ _ _ _ _)
   | (with_reducible exact ih2 _ _ _ _)
   | (with_reducible exact ih3 _ _ _ _ _)
   | (with_reducible exact LeO.refl _)
   | (with_reducible exact LeO.none _)
   | (with_reducible refine LeO.ite ?_ ?_)
   | (with_reducible refine LeO.bind ?_ (fun _=>?_))
set_option maxHeartbeats 8000000 in
set_option maxRecDepth 100000 in
theorem land_Validate.calls (k:Nat) (a0_0:Int) (a0_1:Int) (A0_2:Option Addr) (c0_2:Nat) (l0_2:List Int) (r:Int) (w:World) (hr0_2:Kd.C (Kd.int .i64) w A0_2 l0_2.length l0_2) (hc0_2:l0_2.length≤c0_2) (h:land_Validate.f k a0_0 a0_1 l0_2=some r) :
  Calls Try.prog 55 #[.agg #[.int .i64 a0_0,.int .i64 a0_1,.slice A0_2 l0_2.length c0_2]] w fun e w'=>e=.returned (.int .i64 r)∧Below w.heap.size w w':=by
 have hu53:=Try.underlying53;have HR0_2:=Aside0.mk hr0_2;have HC0_2:=Aside0.mk hc0_2;clear hr0_2 hc0_2;have HB:=Aside0.mk (Below.refl w.heap.size w);have H:=h;clear h;unfold land_Validate.f at H;have HC2:=Aside0.mk H;clear H;go_enter Try.func55,Try.ntmps55;go_upto_region 1 with (first|((with_reducible refine gate_dst (N:=1) rfl ?_);(try (refine gate_guard (by rfl) ?_;dsimp only));refine box_ev (N:=1) (cs:=#[.int .i64 a0_0,.int .i64 a0_1,.slice A0_2 l0_2.length c0_2]) (t:=53) ?_;intro gb277 hg w3 hbox hb;have BK277:=Aside0.mk (hbox);have GW277:Aside0 (w.heap.size≤gb277):=gsz hg;have GE277:=GW277;replace HB:=hbs hb;clear hb hbox hg))
 (try simp only [Act.put,List.setIfInBounds_toArray,List.set_cons_zero,List.set_cons_succ]);go_cut [38] (fun v38 wc=>∃ (kq:Nat) (x38_1:Bool),v38=.bool x38_1∧Aside0 (land_Validate.j0 kq x38_1 a0_0 a0_1 l0_2=some r)∧Aside0 (kq≤k)∧Aside0 (wc.heap[gb277]?=some (.cells #[.int .i64 a0_0,.int .i64 a0_1,(.slice A0_2 l0_2.length c0_2)] 53 (0,0)))∧Aside0 (Below w.heap.size w wc))
 case first =>
  have H:=HC2.out;clear HC2;by_cases c4:a0_0<4
  ·rw [if_pos c4] at H;have c4b0:=decide_eq_true c4;clear c4;(first|rw [c4b0]|(simp only [i64_w,i32_w];rw [c4b0])|skip);have H':=Aside0.mk H;clear H;obtain ⟨_,_,_,_,_,_⟩:=cells3 BK277.out;go_wp2
   go_meet
   case rel=>exact ⟨_,(true),(by first|rfl|(simp;done)|(simp [*];done)),H',⟨by first|omega|exact Nat.le_refl _⟩,⟨blk_up BK277.out⟩,⟨hb_⟩⟩
  rw [if_neg c4] at H;have c4b0:=decide_eq_false c4;clear c4;(first|rw [c4b0]|(simp only [i64_w,i32_w];rw [c4b0])|skip);by_cases c6:a0_0 > 32
  ·rw [if_pos c6] at H;have c6b0:=decide_eq_true c6;clear c6;have H':=Aside0.mk H;clear H;obtain ⟨_,_,_,_,_,_⟩:=cells3 BK277.out;go_wp2
   go_meet
   case rel=>exact ⟨_,(true),(by first|rfl|(simp;done)|(simp [*];done)),H',⟨by first|omega|exact Nat.le_refl _⟩,⟨blk_up BK277.out⟩,⟨hb_⟩⟩
  rw [if_neg c6] at H;have c6b0:=decide_eq_false c6;clear c6;by_cases c8:a0_1<4
  ·rw [if_pos c8] at H;have c8b0:=decide_eq_true c8;clear c8;have H':=Aside0.mk H;clear H;obtain ⟨_,_,_,_,_,_⟩:=cells3 BK277.out;go_wp2
   go_meet
   case rel=>exact ⟨_,(true),(by first|rfl|(simp;done)|(simp [*];done)),H',⟨by first|omega|exact Nat.le_refl _⟩,⟨blk_up BK277.out⟩,⟨hb_⟩⟩
  ·rw [if_neg c8] at H;have c8b0:=decide_eq_false c8;clear c8;by_cases c10:a0_1 > 32
   ·rw [if_pos c10] at H;have c10b0:=decide_eq_true c10;clear c10;have H':=Aside0.mk H;clear H;obtain ⟨_,_,_,_,_,_⟩:=cells3 BK277.out;go_wp2
    go_meet
    case rel=>exact ⟨_,(true),(by first|rfl|(simp;done)|(simp [*];done)),H',⟨by first|omega|exact Nat.le_refl _⟩,⟨blk_up BK277.out⟩,⟨hb_⟩⟩
   ·rw [if_neg c10] at H;have c10b0:=decide_eq_false c10;clear c10;have H':=Aside0.mk H;clear H;obtain ⟨_,_,_,_,_,_⟩:=cells3 BK277.out;go_wp2
    go_meet
    case rel=>exact ⟨_,(((l0_2.length:Int) != (wrap64 ((wrap64 (a0_0+1)) * (wrap64 (a0_1+1)))))),(by first|rfl|(simp;done)|(simp [*];done)),H',⟨by first|omega|exact Nat.le_refl _⟩,⟨blk_up BK277.out⟩,⟨hb_⟩⟩
 case rest =>
  clear HC2;obtain ⟨kq,x38_1,rfl,HA,HJ1,BK277,HB⟩:=hcut;cases kq with
  | zero=>exact absurd HA.out (by simp [land_Validate.j0])
  | succ kj1 =>
   have H:=HA.out;clear HA;simp only [land_Validate.j0] at H;by_cases c13:x38_1=true
   ·subst c13;rw [if_pos rfl] at H;obtain rfl:=Option.some.inj H;go_wp2
    go_ret
    exact ⟨er_,hb_⟩
   ·replace c13:=Bool.eq_false_iff.mpr c13;subst c13;rw [if_neg (show ¬ (false=true) by decide)] at H;have H':=Aside0.mk H;clear H;obtain ⟨_,_,_,_,_,_⟩:=cells3 BK277.out;go_wp2
    go_loopg [42] kj1 (fun kq v42 w'=>∃ (x42_2:Int),v42=.int .i64 x42_2∧Aside0 (land_Validate.l0 kq l0_2 (l0_2.length:Int) x42_2 a0_0 a0_1 l0_2=some r)∧Aside0 (kq≤kj1)∧Aside0 (w'.heap[gb277]?=some (.cells #[.int .i64 a0_0,.int .i64 a0_1,(.slice A0_2 l0_2.length c0_2)] 53 (0,0)))∧Aside0 (Below w.heap.size w w'))
    case atStart=>exact ⟨(0),(by first|rfl|(simp;done)|(simp [*];done)),H',⟨Nat.le_refl _⟩,⟨blk_up BK277.out⟩,⟨hb_⟩⟩
    case round =>
     clear H';obtain ⟨x42_2,rfl,HA,HK2,BK277,HB⟩:=hrel;cases gk with
     | zero=>exact absurd HA.out (by simp [land_Validate.l0])
     | succ k2 =>
      have H:=HA.out;clear HA;simp only [land_Validate.l0] at H;by_cases c15:x42_2<(l0_2.length:Int)
      ·rw [if_pos c15] at H;have c15b0:=decide_eq_true c15;clear c15;obtain ⟨c16,H⟩:=ifp_ H;have c16b0:=decide_eq_true c16;clear c16;obtain ⟨c17,H⟩:=ifp_ H;have c17b0:=decide_eq_true c17;clear c17;by_cases c18:(rd l0_2 x42_2)<0
       ·rw [if_pos c18] at H;have c18b0:=decide_eq_true c18;clear c18;obtain rfl:=Option.some.inj H;have p278:0≤(x42_2:Int):=ofd;have q278:x42_2<(l0_2.length:Int):=ofd;obtain ⟨ad278,e278,hx278_0⟩:=Kd.at_int HR0_2.out x42_2 p278 q278;cases e278;replace hx278_0:=hbc HB hx278_0;replace p278:=eq_true p278;replace q278:=eq_true q278;go_wp2
        go_ret
        exact ⟨er_,hb_⟩
       rw [if_neg c18] at H;have c18b0:=decide_eq_false c18;clear c18;by_cases c19:(rd l0_2 x42_2) > 15
       ·rw [if_pos c19] at H;have c19b0:=decide_eq_true c19;clear c19;obtain rfl:=Option.some.inj H;have p278:0≤(x42_2:Int):=ofd;have q278:x42_2<(l0_2.length:Int):=ofd;obtain ⟨ad278,e278,hx278_0⟩:=Kd.at_int HR0_2.out x42_2 p278 q278;cases e278;replace hx278_0:=hbc HB hx278_0;replace p278:=eq_true p278;replace q278:=eq_true q278;go_wp2
        go_ret
        exact ⟨er_,hb_⟩
       ·rw [if_neg c19] at H;have c19b0:=decide_eq_false c19;clear c19;have H':=Aside0.mk H;clear H;have p278:0≤(x42_2:Int):=ofd;have q278:x42_2<(l0_2.length:Int):=ofd;obtain ⟨ad278,e278,hx278_0⟩:=Kd.at_int HR0_2.out x42_2 p278 q278;cases e278;replace hx278_0:=hbc HB hx278_0;replace p278:=eq_true p278;replace q278:=eq_true q278;go_wp2
        go_roundg k2
        case measure=>have:=HJ1.out;have:=HK2.out;omega
        case rel=>exact ⟨(wrap64 (x42_2+1)),(by first|rfl|(simp;done)|(simp [*];done)),H',⟨by have:=HJ1.out;have:=HK2.out;omega⟩,⟨blk_up BK277.out⟩,⟨hb_⟩⟩
      rw [if_neg c15] at H;have c15b0:=decide_eq_false c15;clear c15;have H':=Aside0.mk H;clear H;go_wp2
      go_loopg [5] k2 (fun kq v5 w'=>∃ (x5_3:Int),v5=.int .i64 x5_3∧Aside0 (land_Validate.l1 kq x5_3 a0_0 a0_1 l0_2=some r)∧Aside0 (kq≤k2)∧Aside0 (w'.heap[gb277]?=some (.cells #[.int .i64 a0_0,.int .i64 a0_1,(.slice A0_2 l0_2.length c0_2)] 53 (0,0)))∧Aside0 (Below w.heap.size w w'))
      case atStart=>exact ⟨(0),(by first|rfl|(simp;done)|(simp [*];done)),H',⟨Nat.le_refl _⟩,⟨blk_up BK277.out⟩,⟨hb_⟩⟩
      case round =>
       clear H';obtain ⟨x5_3,rfl,HA,HK3,BK277,HB⟩:=hrel;cases gk with
       | zero=>exact absurd HA.out (by simp [land_Validate.l1])
       | succ k3 =>
        have H:=HA.out;clear HA;simp only [land_Validate.l1] at H;by_cases c20:x5_3≤a0_1;rotate_left
        ·rw [if_neg c20] at H;have c20b0:=decide_eq_false c20;clear c20;obtain rfl:=Option.some.inj H;obtain ⟨_,_,_,_,_,_⟩:=cells3 BK277.out;go_wp2
         go_ret
         exact ⟨er_,hb_⟩
        rw [if_pos c20] at H;have c20b0:=decide_eq_true c20;clear c20;have H':=Aside0.mk H;clear H;obtain ⟨_,_,_,_,_,_⟩:=cells3 BK277.out;go_wp2
        go_loopg [6] k3 (fun kq v6 w'=>∃ (x6_4:Int),v6=.int .i64 x6_4∧Aside0 (land_Validate.l2 kq x5_3 x6_4 a0_0 a0_1 l0_2=some r)∧Aside0 (kq≤k3)∧Aside0 (w'.heap[gb277]?=some (.cells #[.int .i64 a0_0,.int .i64 a0_1,(.slice A0_2 l0_2.length c0_2)] 53 (0,0)))∧Aside0 (Below w.heap.size w w'))
        case atStart=>exact ⟨(0),(by first|rfl|(simp;done)|(simp [*];done)),H',⟨Nat.le_refl _⟩,⟨blk_up BK277.out⟩,⟨hb_⟩⟩
        case round =>
         clear H';obtain ⟨x6_4,rfl,HA,HK4,BK277,HB⟩:=hrel;cases gk with
         | zero=>exact absurd HA.out (by simp [land_Validate.l2])
         | succ k4 =>
          have H:=HA.out;clear HA;simp only [land_Validate.l2] at H;by_cases c22:x6_4≤a0_0;rotate_left
          ·rw [if_neg c22] at H;have c22b0:=decide_eq_false c22;clear c22;have H':=Aside0.mk H;clear H;obtain ⟨_,_,_,_,_,_⟩:=cells3 BK277.out;go_wp2
           go_roundg k4
           case measure=>have:=HJ1.out;have:=HK2.out;have:=HK3.out;have:=HK4.out;omega
           case rel=>exact ⟨(wrap64 (x5_3+1)),(by first|rfl|(simp;done)|(simp [*];done)),H',⟨by have:=HJ1.out;have:=HK2.out;have:=HK3.out;have:=HK4.out;omega⟩,⟨blk_up BK277.out⟩,⟨hb_⟩⟩
          rw [if_pos c22] at H;have c22b0:=decide_eq_true c22;clear c22;obtain ⟨ji23,hji23⟩:∃ j_:Int,(wrap64 ((wrap64 (x5_3 * (wrap64 (a0_0+1))))+x6_4))=j_:=⟨_,rfl⟩;(first|rw [hji23] at H|simp only [hji23] at H);have hji23w:(IntKind.i64.wrap ((wrap64 (x5_3 * (wrap64 (a0_0+1))))+x6_4))=ji23:=(i64_w _).trans hji23;obtain ⟨c24,H⟩:=ifp_ H;have c24b0:=decide_eq_true c24;clear c24;obtain ⟨c25,H⟩:=ifp_ H;have c25b0:=decide_eq_true c25;clear c25;by_cases c26:x6_4<a0_0;rotate_left
          ·rw [if_neg c26] at H;have c26b0:=decide_eq_false c26;clear c26;by_cases c42:x5_3<a0_1;rotate_left
           ·rw [if_neg c42] at H;have c42b0:=decide_eq_false c42;clear c42;have H':=Aside0.mk H;clear H;obtain ⟨_,_,_,_,_,_⟩:=cells3 BK277.out;have p279:0≤((ji23):Int):=ofd;have q279:(ji23)<(l0_2.length:Int):=ofd;obtain ⟨ad279,e279,hx279_0⟩:=Kd.at_int HR0_2.out (ji23) p279 q279;cases e279;replace hx279_0:=hbc HB hx279_0;replace p279:=eq_true p279;replace q279:=eq_true q279;go_wp2
            go_roundg k4
            case measure=>have:=HJ1.out;have:=HK2.out;have:=HK3.out;have:=HK4.out;omega
            case rel=>exact ⟨(wrap64 (x6_4+1)),(by first|rfl|(simp;done)|(simp [*];done)),H',⟨by have:=HJ1.out;have:=HK2.out;have:=HK3.out;have:=HK4.out;omega⟩,⟨blk_up BK277.out⟩,⟨hb_⟩⟩
           rw [if_pos c42] at H;have c42b0:=decide_eq_true c42;clear c42;obtain ⟨ji43,hji43⟩:∃ j_:Int,(wrap64 ((wrap64 ((wrap64 (x5_3+1)) * (wrap64 (a0_0+1))))+x6_4))=j_:=⟨_,rfl⟩;(first|rw [hji43] at H|simp only [hji43] at H);have hji43w:(IntKind.i64.wrap ((wrap64 ((wrap64 (x5_3+1)) * (wrap64 (a0_0+1))))+x6_4))=ji43:=(i64_w _).trans hji43;obtain ⟨c44,H⟩:=ifp_ H;have c44b0:=decide_eq_true c44;clear c44;obtain ⟨c45,H⟩:=ifp_ H;have c45b0:=decide_eq_true c45;clear c45;obtain ⟨t285,A46,H⟩:=bnd H;by_cases c47:t285=true
           ·subst c47;rw [if_pos rfl] at H;obtain rfl:=Option.some.inj H;obtain ⟨_,_,_,_,_,_⟩:=cells3 BK277.out;have p279:0≤((ji23):Int):=ofd;have q279:(ji23)<(l0_2.length:Int):=ofd;obtain ⟨ad279,e279,hx279_0⟩:=Kd.at_int HR0_2.out (ji23) p279 q279;cases e279;replace hx279_0:=hbc HB hx279_0;replace p279:=eq_true p279;replace q279:=eq_true q279;have p284:0≤((ji43):Int):=ofd;have q284:(ji43)<(l0_2.length:Int):=ofd;obtain ⟨ad284,e284,hx284_0⟩:=Kd.at_int HR0_2.out (ji43) p284 q284;obtain rfl:ad279=ad284:=(by injection e284);replace hx284_0:=hbc HB hx284_0;replace p284:=eq_true p284;replace q284:=eq_true q284;go_wp2_with (first|(go_at_call 78;(with_reducible refine (land_apart.calls (rd l0_2 (ji23)) (rd l0_2 (ji43)) true _ A46.out).mono ?_);rintro e w' ⟨rfl,⟨nd,rfl⟩⟩))
            go_ret
            exact ⟨by first|rfl|(simp [errW_none,errW_some] <;> rfl)|(simp only [← hji23,← hji43];first|rfl|(simp [errW_none,errW_some] <;> rfl))|(simp [*,errW_none,errW_some] <;> rfl),hb_⟩
           ·replace c47:=Bool.eq_false_iff.mpr c47;subst c47;rw [if_neg (show ¬ (false=true) by decide)] at H;have H':=Aside0.mk H;clear H;obtain ⟨_,_,_,_,_,_⟩:=cells3 BK277.out;have p279:0≤((ji23):Int):=ofd;have q279:(ji23)<(l0_2.length:Int):=ofd;obtain ⟨ad279,e279,hx279_0⟩:=Kd.at_int HR0_2.out (ji23) p279 q279;cases e279;replace hx279_0:=hbc HB hx279_0;replace p279:=eq_true p279;replace q279:=eq_true q279;have p284:0≤((ji43):Int):=ofd;have q284:(ji43)<(l0_2.length:Int):=ofd;obtain ⟨ad284,e284,hx284_0⟩:=Kd.at_int HR0_2.out (ji43) p284 q284;obtain rfl:ad279=ad284:=(by injection e284);replace hx284_0:=hbc HB hx284_0;replace p284:=eq_true p284;replace q284:=eq_true q284;go_wp2_with (first|(go_at_call 78;(with_reducible refine (land_apart.calls (rd l0_2 (ji23)) (rd l0_2 (ji43)) false _ A46.out).mono ?_);rintro e w' ⟨rfl,⟨nd,rfl⟩⟩))
            go_roundg k4
            case measure=>have:=HJ1.out;have:=HK2.out;have:=HK3.out;have:=HK4.out;omega
            case rel=>exact ⟨(wrap64 (x6_4+1)),(by first|rfl|(simp;done)|(simp [*];done)),H',⟨by have:=HJ1.out;have:=HK2.out;have:=HK3.out;have:=HK4.out;omega⟩,⟨blk_up BK277.out⟩,⟨hb_⟩⟩
          rw [if_pos c26] at H;have c26b0:=decide_eq_true c26;clear c26;obtain ⟨ji27,hji27⟩:∃ j_:Int,(wrap64 ((ji23)+1))=j_:=⟨_,rfl⟩;(first|rw [hji27] at H|simp only [hji27] at H);have hji27w:(IntKind.i64.wrap ((ji23)+1))=ji27:=(i64_w _).trans hji27;obtain ⟨c28,H⟩:=ifp_ H;have c28b0:=decide_eq_true c28;clear c28;obtain ⟨c29,H⟩:=ifp_ H;have c29b0:=decide_eq_true c29;clear c29;obtain ⟨t281,A30,H⟩:=bnd H;by_cases c31:t281=true
          ·subst c31;rw [if_pos rfl] at H;obtain rfl:=Option.some.inj H;obtain ⟨_,_,_,_,_,_⟩:=cells3 BK277.out;have p279:0≤((ji23):Int):=ofd;have q279:(ji23)<(l0_2.length:Int):=ofd;obtain ⟨ad279,e279,hx279_0⟩:=Kd.at_int HR0_2.out (ji23) p279 q279;cases e279;replace hx279_0:=hbc HB hx279_0;replace p279:=eq_true p279;replace q279:=eq_true q279;have p280:0≤((ji27):Int):=ofd;have q280:(ji27)<(l0_2.length:Int):=ofd;obtain ⟨ad280,e280,hx280_0⟩:=Kd.at_int HR0_2.out (ji27) p280 q280;obtain rfl:ad279=ad280:=(by injection e280);replace hx280_0:=hbc HB hx280_0;replace p280:=eq_true p280;replace q280:=eq_true q280;go_wp2_with (first|(go_at_call 78;(with_reducible refine (land_apart.calls (rd l0_2 (ji23)) (rd l0_2 (ji27)) true _ A30.out).mono ?_);rintro e w' ⟨rfl,⟨nd,rfl⟩⟩))
           go_ret
           exact ⟨by first|rfl|(simp [errW_none,errW_some] <;> rfl)|(simp only [← hji23,← hji27];first|rfl|(simp [errW_none,errW_some] <;> rfl))|(simp [*,errW_none,errW_some] <;> rfl),hb_⟩
          ·replace c31:=Bool.eq_false_iff.mpr c31;subst c31;rw [if_neg (show ¬ (false=true) by decide)] at H;by_cases c33:x5_3<a0_1;rotate_left
           ·rw [if_neg c33] at H;have c33b0:=decide_eq_false c33;clear c33;have H':=Aside0.mk H;clear H;obtain ⟨_,_,_,_,_,_⟩:=cells3 BK277.out;have p279:0≤((ji23):Int):=ofd;have q279:(ji23)<(l0_2.length:Int):=ofd;obtain ⟨ad279,e279,hx279_0⟩:=Kd.at_int HR0_2.out (ji23) p279 q279;cases e279;replace hx279_0:=hbc HB hx279_0;replace p279:=eq_true p279;replace q279:=eq_true q279;have p280:0≤((ji27):Int):=ofd;have q280:(ji27)<(l0_2.length:Int):=ofd;obtain ⟨ad280,e280,hx280_0⟩:=Kd.at_int HR0_2.out (ji27) p280 q280;obtain rfl:ad279=ad280:=(by injection e280);replace hx280_0:=hbc HB hx280_0;replace p280:=eq_true p280;replace q280:=eq_true q280;go_wp2_with (first|(go_at_call 78;(with_reducible refine (land_apart.calls (rd l0_2 (ji23)) (rd l0_2 (ji27)) false _ A30.out).mono ?_);rintro e w' ⟨rfl,⟨nd,rfl⟩⟩))
            go_roundg k4
            case measure=>have:=HJ1.out;have:=HK2.out;have:=HK3.out;have:=HK4.out;omega
            case rel=>exact ⟨(wrap64 (x6_4+1)),(by first|rfl|(simp;done)|(simp [*];done)),H',⟨by have:=HJ1.out;have:=HK2.out;have:=HK3.out;have:=HK4.out;omega⟩,⟨blk_up BK277.out⟩,⟨hb_⟩⟩
           rw [if_pos c33] at H;have c33b0:=decide_eq_true c33;clear c33;obtain ⟨ji34,hji34⟩:∃ j_:Int,(wrap64 ((wrap64 ((wrap64 (x5_3+1)) * (wrap64 (a0_0+1))))+x6_4))=j_:=⟨_,rfl⟩;(first|rw [hji34] at H|simp only [hji34] at H);(try rw [hji34] at A30);have hji34w:(IntKind.i64.wrap ((wrap64 ((wrap64 (x5_3+1)) * (wrap64 (a0_0+1))))+x6_4))=ji34:=(i64_w _).trans hji34;obtain ⟨c35,H⟩:=ifp_ H;have c35b0:=decide_eq_true c35;clear c35;obtain ⟨c36,H⟩:=ifp_ H;have c36b0:=decide_eq_true c36;clear c36;obtain ⟨t283,A37,H⟩:=bnd H;by_cases c38:t283=true
           ·subst c38;rw [if_pos rfl] at H;obtain rfl:=Option.some.inj H;obtain ⟨_,_,_,_,_,_⟩:=cells3 BK277.out;have p279:0≤((ji23):Int):=ofd;have q279:(ji23)<(l0_2.length:Int):=ofd;obtain ⟨ad279,e279,hx279_0⟩:=Kd.at_int HR0_2.out (ji23) p279 q279;cases e279;replace hx279_0:=hbc HB hx279_0;replace p279:=eq_true p279;replace q279:=eq_true q279;have p280:0≤((ji27):Int):=ofd;have q280:(ji27)<(l0_2.length:Int):=ofd;obtain ⟨ad280,e280,hx280_0⟩:=Kd.at_int HR0_2.out (ji27) p280 q280;obtain rfl:ad279=ad280:=(by injection e280);replace hx280_0:=hbc HB hx280_0;replace p280:=eq_true p280;replace q280:=eq_true q280;go_wp2_with (first|(go_at_call 78;(with_reducible refine (land_apart.calls (rd l0_2 (ji23)) (rd l0_2 (ji27)) false _ A30.out).mono ?_);rintro e w' ⟨rfl,⟨nd,rfl⟩⟩;have p282:0≤((ji34):Int):=ofd;have q282:(ji34)<(l0_2.length:Int):=ofd;obtain ⟨ad282,e282,hx282_0⟩:=Kd.at_int HR0_2.out (ji34) p282 q282;obtain rfl:ad279=ad282:=(by injection e282);replace hx282_0:=hbc HB hx282_0;replace p282:=eq_true p282;replace q282:=eq_true q282)|(go_at_call 78;(with_reducible refine (land_apart.calls (rd l0_2 (ji23)) (rd l0_2 (ji34)) true _ A37.out).mono ?_);rintro e w' ⟨rfl,⟨nd,rfl⟩⟩))
            go_ret
            exact ⟨by first|rfl|(simp [errW_none,errW_some] <;> rfl)|(simp only [← hji23,← hji27,← hji34];first|rfl|(simp [errW_none,errW_some] <;> rfl))|(simp [*,errW_none,errW_some] <;> rfl),hb_⟩
           ·replace c38:=Bool.eq_false_iff.mpr c38;subst c38;rw [if_neg (show ¬ (false=true) by decide)] at H;have H':=Aside0.mk H;clear H;obtain ⟨_,_,_,_,_,_⟩:=cells3 BK277.out;have p279:0≤((ji23):Int):=ofd;have q279:(ji23)<(l0_2.length:Int):=ofd;obtain ⟨ad279,e279,hx279_0⟩:=Kd.at_int HR0_2.out (ji23) p279 q279;cases e279;replace hx279_0:=hbc HB hx279_0;replace p279:=eq_true p279;replace q279:=eq_true q279;have p280:0≤((ji27):Int):=ofd;have q280:(ji27)<(l0_2.length:Int):=ofd;obtain ⟨ad280,e280,hx280_0⟩:=Kd.at_int HR0_2.out (ji27) p280 q280;obtain rfl:ad279=ad280:=(by injection e280);replace hx280_0:=hbc HB hx280_0;replace p280:=eq_true p280;replace q280:=eq_true q280;go_wp2_with (first|(go_at_call 78;(with_reducible refine (land_apart.calls (rd l0_2 (ji23)) (rd l0_2 (ji27)) false _ A30.out).mono ?_);rintro e w' ⟨rfl,⟨nd,rfl⟩⟩;have p282:0≤((ji34):Int):=ofd;have q282:(ji34)<(l0_2.length:Int):=ofd;obtain ⟨ad282,e282,hx282_0⟩:=Kd.at_int HR0_2.out (ji34) p282 q282;obtain rfl:ad279=ad282:=(by injection e282);replace hx282_0:=hbc HB hx282_0;replace p282:=eq_true p282;replace q282:=eq_true q282)|(go_at_call 78;(with_reducible refine (land_apart.calls (rd l0_2 (ji23)) (rd l0_2 (ji34)) false _ A37.out).mono ?_);rintro e w' ⟨rfl,⟨nd,rfl⟩⟩))
            go_roundg k4
            case measure=>have:=HJ1.out;have:=HK2.out;have:=HK3.out;have:=HK4.out;omega
            case rel=>exact ⟨(wrap64 (x6_4+1)),(by first|rfl|(simp;done)|(simp [*];done)),H',⟨by have:=HJ1.out;have:=HK2.out;have:=HK3.out;have:=HK4.out;omega⟩,⟨blk_up BK277.out⟩,⟨hb_⟩⟩

/-! ### water_ground_wet: function 80 -/
def water_ground_wet.f (a0_0:Int) (a0_1:Int) (l0_2:List Int) (l0_3:List Int) (l0_4:List Bool) (l1_0:List Int) (l1_1:List Int) (a2:Int):Option (Bool) := if 0≤a2 then (if a2<(l0_4.length:Int) then (if rdOf false l0_4 a2=true then (some true) else (if a2<(l1_0.length:Int) then (some ((rd l1_0 a2) != 0)) else (none))) else (none)) else (none)
set_option maxHeartbeats 8000000 in
set_option maxRecDepth 100000 in
theorem water_ground_wet.calls (a0_0:Int) (a0_1:Int) (A0_2:Option Addr) (c0_2:Nat) (l0_2:List Int) (A0_3:Option Addr) (c0_3:Nat) (l0_3:List Int) (A0_4:Option Addr) (c0_4:Nat) (l0_4:List Bool) (A1_0:Option Addr) (c1_0:Nat) (l1_0:List Int) (A1_1:Option Addr) (c1_1:Nat) (l1_1:List Int) (a2:Int) (r:Bool) (w:World) (hr0_2:Kd.C (Kd.int .i64) w A0_2 l0_2.length l0_2) (hc0_2:l0_2.length≤c0_2) (hr0_3:Kd.C (Kd.int .i64) w A0_3 l0_3.length l0_3) (hc0_3:l0_3.length≤c0_3) (hr0_4:Kd.C Kd.bool w A0_4 l0_4.length l0_4) (hc0_4:l0_4.length≤c0_4) (hr1_0:Kd.C (Kd.int .i64) w A1_0 l1_0.length l1_0) (hc1_0:l1_0.length≤c1_0) (hr1_1:Kd.C (Kd.int .i64) w A1_1 l1_1.length l1_1) (hc1_1:l1_1.length≤c1_1) (h:water_ground_wet.f a0_0 a0_1 l0_2 l0_3 l0_4 l1_0 l1_1 a2=some r) :
  Calls Try.prog 80 #[.agg #[.int .i64 a0_0,.int .i64 a0_1,.slice A0_2 l0_2.length c0_2,.slice A0_3 l0_3.length c0_3,.slice A0_4 l0_4.length c0_4],.agg #[.slice A1_0 l1_0.length c1_0,.slice A1_1 l1_1.length c1_1],.int .i64 a2] w fun e w'=>e=.returned (.bool r)∧Below w.heap.size w w':=by
 have hu104:=Try.underlying104;have hu55:=Try.underlying55;have HR0_2:=Aside0.mk hr0_2;have HC0_2:=Aside0.mk hc0_2;clear hr0_2 hc0_2;have HR0_3:=Aside0.mk hr0_3;have HC0_3:=Aside0.mk hc0_3;clear hr0_3 hc0_3;have HR0_4:=Aside0.mk hr0_4;have HC0_4:=Aside0.mk hc0_4;clear hr0_4 hc0_4;have HR1_0:=Aside0.mk hr1_0;have HC1_0:=Aside0.mk hc1_0;clear hr1_0 hc1_0;have HR1_1:=Aside0.mk hr1_1;have HC1_1:=Aside0.mk hc1_1;clear hr1_1 hc1_1;have HB:=Aside0.mk (Below.refl w.heap.size w);have H:=h;clear h;unfold water_ground_wet.f at H;obtain ⟨c4,H⟩:=ifp_ H;have c4b0:=decide_eq_true c4;clear c4;obtain ⟨c5,H⟩:=ifp_ H;have c5b0:=decide_eq_true c5;clear c5;obtain ⟨bq6,hbq6⟩:∃ b_:Bool,b_=(rdOf false l0_4 a2):=⟨_,rfl⟩;rw [← hbq6] at H;have Nbq6:=Aside0.mk hbq6;clear hbq6;by_cases c7:bq6=true
 ·subst c7;rw [if_pos rfl] at H;obtain rfl:=Option.some.inj H;go_enter Try.func80,Try.ntmps80;go_wp2_with (first|((with_reducible refine gate_dst (N:=3) rfl ?_);refine box_ev (N:=3) (cs:=#[.int .i64 a0_0,.int .i64 a0_1,.slice A0_2 l0_2.length c0_2,.slice A0_3 l0_3.length c0_3,.slice A0_4 l0_4.length c0_4]) (t:=104) ?_;intro gb286 hg w8 hbox hb;have BK286:=Aside0.mk (hbox);have GW286:Aside0 (w.heap.size≤gb286):=gsz hg;have GE286:=GW286;replace HB:=hbs hb;clear hb hbox hg)|((with_reducible refine gate_dst (N:=4) rfl ?_);refine box_ev (N:=4) (cs:=#[.slice A1_0 l1_0.length c1_0,.slice A1_1 l1_1.length c1_1]) (t:=55) ?_;intro gb287 hg w9 hbox hb;have BK287:=Aside0.mk (hbox);have GW287:Aside0 (w.heap.size≤gb287):=gsz hg;have GE287:=GW287;have NB286_287:=nbl BK286 hg;have NB287_286:=nbr BK286 hg;replace BK286:=bkb BK286 hb;replace HB:=hbs hb;clear hb hbox hg;have hnb10:=NB286_287.out;have hnc10:=NB287_286.out;obtain ⟨_,_,_,_,_,_,_,_,_,_⟩:=cells5 BK286.out;have p288:0≤(a2:Int):=ofd;have q288:a2<(l0_4.length:Int):=ofd;obtain ⟨ad288,e288,hx288_0⟩:=Kd.at_bool HR0_4.out a2 p288 q288;(try rw [← Nbq6.out] at hx288_0);cases e288;replace hx288_0:=hbc HB hx288_0;replace p288:=eq_true p288;replace q288:=eq_true q288))
  go_ret
  exact ⟨er_,hb_⟩
 ·replace c7:=Bool.eq_false_iff.mpr c7;subst c7;rw [if_neg (show ¬ (false=true) by decide)] at H;obtain ⟨c12,H⟩:=ifp_ H;have c12b0:=decide_eq_true c12;clear c12;obtain rfl:=Option.some.inj H;go_enter Try.func80,Try.ntmps80;go_wp2_with (first|((with_reducible refine gate_dst (N:=3) rfl ?_);refine box_ev (N:=3) (cs:=#[.int .i64 a0_0,.int .i64 a0_1,.slice A0_2 l0_2.length c0_2,.slice A0_3 l0_3.length c0_3,.slice A0_4 l0_4.length c0_4]) (t:=104) ?_;intro gb286 hg w13 hbox hb;have BK286:=Aside0.mk (hbox);have GW286:Aside0 (w.heap.size≤gb286):=gsz hg;have GE286:=GW286;replace HB:=hbs hb;clear hb hbox hg)|((with_reducible refine gate_dst (N:=4) rfl ?_);refine box_ev (N:=4) (cs:=#[.slice A1_0 l1_0.length c1_0,.slice A1_1 l1_1.length c1_1]) (t:=55) ?_;intro gb287 hg w14 hbox hb;have BK287:=Aside0.mk (hbox);have GW287:Aside0 (w.heap.size≤gb287):=gsz hg;have GE287:=GW287;have NB286_287:=nbl BK286 hg;have NB287_286:=nbr BK286 hg;replace BK286:=bkb BK286 hb;replace HB:=hbs hb;clear hb hbox hg;have hnb15:=NB286_287.out;have hnc15:=NB287_286.out;obtain ⟨_,_,_,_,_,_,_,_,_,_⟩:=cells5 BK286.out;have p288:0≤(a2:Int):=ofd;have q288:a2<(l0_4.length:Int):=ofd;obtain ⟨ad288,e288,hx288_0⟩:=Kd.at_bool HR0_4.out a2 p288 q288;(try rw [← Nbq6.out] at hx288_0);cases e288;replace hx288_0:=hbc HB hx288_0;replace p288:=eq_true p288;replace q288:=eq_true q288;obtain ⟨_,_,_,_⟩:=cells2 BK287.out;have p289:0≤(a2:Int):=ofd;have q289:a2<(l1_0.length:Int):=ofd;obtain ⟨ad289,e289,hx289_0⟩:=Kd.at_int HR1_0.out a2 p289 q289;cases e289;replace hx289_0:=hbc HB hx289_0;replace p289:=eq_true p289;replace q289:=eq_true q289))
  go_ret
  exact ⟨er_,hb_⟩

end Go.Proofs.Ythjmdpekcleihaa.P

/- Functions of this seat as plain Lean functions, with proofs that the Go code comes to just their answers, or what stands between them and a law's statement; no conditions. (Laid by a program of this session, out of the kit's print.) -/
import Derived.Test.YthjmdpekcleihaaPx0
import Derived.Test.YthjmdpekcleihaaPx2
import Derived.Test.YthjmdpekcleihaaPx4
import Derived.Test.YthjmdpekcleihaaPx6
namespace Go.Proofs.Ythjmdpekcleihaa.P
open Go.RowKit Go.Proofs.YthjmdpekcleihaaW.PrintWords Go.Proofs.YthjmdpekcleihaaW.PrintLast Go.Proofs.YthjmdpekcleihaaW.PrintMore
attribute [local go_sem] max2_int min2_int max_two min_two max_three min_three max_four min_four   -- for this text's walks alone
set_option linter.unusedVariables false
set_option linter.unusedSimpArgs false

/-! ### water_Sail: function 58 -/
mutual
def water_Sail.l0 : Nat → Int → Int → S107 → Int → List Int → List Int → Int → Int → List Int → List Int → List Bool → Option (List Int × Int)
 | 0,_,_,_,_,_,_,_,_,_,_,_ => none
 | k + 1,x2,x3,x39,x40,x270000,x270001,x283000,x283001,x283002,x283003,x283004 => if x40 < 2 then (if 0 ≤ x40 then (if (ix107 x39 x40) < 0 then (some (([] : List Int),2)) else (if (ix107 x39 x40) ≥ (x270000.length : Int) then (some (([] : List Int),2)) else ((water_ground_wet.f x283000 x283001 x283002 x283003 x283004 x270000 x270001 (ix107 x39 x40)).bind fun t283 => (if t283 = true then (water_Sail.l0 k x2 x3 x39 (wrap64 (x40 + 1)) x270000 x270001 x283000 x283001 x283002 x283003 x283004) else (some (([] : List Int),2)))))) else (none)) else (water_Sail.l1 k x2 (([x3] : List Int)) x270000 x270001 x283000 x283001 x283002 x283003 x283004 (mpPut x3 0 ([] : List (Int × Int))))
def water_Sail.l1 : Nat → Int → List Int → List Int → List Int → Int → Int → List Int → List Int → List Bool → List (Int × Int) → Option (List Int × Int)
 | 0,_,_,_,_,_,_,_,_,_,_ => none
 | k + 1,x2,x15,x270000,x270001,x283000,x283001,x283002,x283003,x283004,x285000 => if (x15.length : Int) > 0 then (water_Sail.l2 k x2 x15 0 x270000 x270001 x283000 x283001 x283002 x283003 x283004 x285000) else (if mpHas x2 x285000 = true then (water_Sail.l3 k x2 (mpV x2 x285000) (([x2] : List Int)) x270000 x270001 x283000 x283001 x283002 x283003 x283004 x285000) else (some (([] : List Int),2)))
def water_Sail.l2 : Nat → Int → List Int → Int → List Int → List Int → Int → Int → List Int → List Int → List Bool → List (Int × Int) → Option (List Int × Int)
 | 0,_,_,_,_,_,_,_,_,_,_,_ => none
 | k + 1,x2,x15,x70,x270000,x270001,x283000,x283001,x283002,x283003,x283004,x285000 => if x70 < 4 then (if 0 < (x15.length : Int) then ((water_ground_joined.f k x283000 x283001 x283002 x283003 x283004 x270000 x270001 (rd x15 0) x70).bind fun t289 => (if t289 = true then ((water_ground_beyond.f k x283000 x283001 x283002 x283003 x283004 (rd x15 0) x70).bind fun t291 => (if mpHas t291 x285000 = true then (water_Sail.l2 k x2 x15 (wrap64 (x70 + 1)) x270000 x270001 x283000 x283001 x283002 x283003 x283004 x285000) else (if x15.length < 17592186044416 then (water_Sail.l2 k x2 (x15 ++ [t291]) (wrap64 (x70 + 1)) x270000 x270001 x283000 x283001 x283002 x283003 x283004 (mpPut t291 (wrap64 ((mpV (rd x15 0) x285000) + 1)) x285000)) else (none)))) else (water_Sail.l2 k x2 x15 (wrap64 (x70 + 1)) x270000 x270001 x283000 x283001 x283002 x283003 x283004 x285000))) else (none)) else (if 1 ≤ (x15.length : Int) then (water_Sail.l1 k x2 (x15.drop (1 : Int).toNat) x270000 x270001 x283000 x283001 x283002 x283003 x283004 x285000) else (none))
def water_Sail.l3 : Nat → Int → Int → List Int → List Int → List Int → Int → Int → List Int → List Int → List Bool → List (Int × Int) → Option (List Int × Int)
 | 0,_,_,_,_,_,_,_,_,_,_,_ => none
 | k + 1,x2,x20,x22,x270000,x270001,x283000,x283001,x283002,x283003,x283004,x285000 => if x20 > 0 then (water_Sail.l4 k x2 x20 x22 (-1) 0 x270000 x270001 x283000 x283001 x283002 x283003 x283004 x285000) else (some (x22,0))
def water_Sail.l4 : Nat → Int → Int → List Int → Int → Int → List Int → List Int → Int → Int → List Int → List Int → List Bool → List (Int × Int) → Option (List Int × Int)
 | 0,_,_,_,_,_,_,_,_,_,_,_,_,_ => none
 | k + 1,x2,x20,x22,x23,x121,x270000,x270001,x283000,x283001,x283002,x283003,x283004,x285000 => if x121 < 4 then ((water_ground_joined.f k x283000 x283001 x283002 x283003 x283004 x270000 x270001 x2 x121).bind fun t302 => (if t302 = true then ((water_ground_beyond.f k x283000 x283001 x283002 x283003 x283004 x2 x121).bind fun t303 => (if mpHas t303 x285000 = true then (if (mpV t303 x285000) = (wrap64 (x20 - 1)) then (if x23 < 0 then (water_Sail.l4 k x2 x20 x22 t303 (wrap64 (x121 + 1)) x270000 x270001 x283000 x283001 x283002 x283003 x283004 x285000) else (if t303 < x23 then (water_Sail.l4 k x2 x20 x22 t303 (wrap64 (x121 + 1)) x270000 x270001 x283000 x283001 x283002 x283003 x283004 x285000) else (water_Sail.l4 k x2 x20 x22 x23 (wrap64 (x121 + 1)) x270000 x270001 x283000 x283001 x283002 x283003 x283004 x285000))) else (water_Sail.l4 k x2 x20 x22 x23 (wrap64 (x121 + 1)) x270000 x270001 x283000 x283001 x283002 x283003 x283004 x285000)) else (water_Sail.l4 k x2 x20 x22 x23 (wrap64 (x121 + 1)) x270000 x270001 x283000 x283001 x283002 x283003 x283004 x285000))) else (water_Sail.l4 k x2 x20 x22 x23 (wrap64 (x121 + 1)) x270000 x270001 x283000 x283001 x283002 x283003 x283004 x285000))) else (if x22.length < 17592186044416 then (water_Sail.l3 k x23 (wrap64 (x20 - 1)) (x22 ++ [x23]) x270000 x270001 x283000 x283001 x283002 x283003 x283004 x285000) else (none))
end
def water_Sail.f (k : Nat) (a0_0 : Int) (a0_1 : Int) (l0_2 : List Int) (l1_0 : List Int) (l1_1 : List Int) (a2 : Int) (a3 : Int) : Option (List Int × Int) := (water_check.f k a0_0 a0_1 l0_2 l1_0 l1_1).bind fun bt270 => (if bt270.2.2.2.2.2 = 0 then (water_Sail.l0 k a2 a3 (⟨a2, a3⟩ : S107) 0 l1_0 l1_1 bt270.1 bt270.2.1 bt270.2.2.1 bt270.2.2.2.1 bt270.2.2.2.2.1) else (some (([] : List Int), bt270.2.2.2.2.2)))
theorem water_Sail.mono_l : ∀ k, (∀ y0 y1 y2 y3 y4 y5 y6 y7 y8 y9 y10, LeO (water_Sail.l0 k y0 y1 y2 y3 y4 y5 y6 y7 y8 y9 y10) (water_Sail.l0 (k + 1) y0 y1 y2 y3 y4 y5 y6 y7 y8 y9 y10)) ∧ (∀ y0 y1 y2 y3 y4 y5 y6 y7 y8 y9, LeO (water_Sail.l1 k y0 y1 y2 y3 y4 y5 y6 y7 y8 y9) (water_Sail.l1 (k + 1) y0 y1 y2 y3 y4 y5 y6 y7 y8 y9)) ∧ (∀ y0 y1 y2 y3 y4 y5 y6 y7 y8 y9 y10, LeO (water_Sail.l2 k y0 y1 y2 y3 y4 y5 y6 y7 y8 y9 y10) (water_Sail.l2 (k + 1) y0 y1 y2 y3 y4 y5 y6 y7 y8 y9 y10)) ∧ (∀ y0 y1 y2 y3 y4 y5 y6 y7 y8 y9 y10, LeO (water_Sail.l3 k y0 y1 y2 y3 y4 y5 y6 y7 y8 y9 y10) (water_Sail.l3 (k + 1) y0 y1 y2 y3 y4 y5 y6 y7 y8 y9 y10)) ∧ (∀ y0 y1 y2 y3 y4 y5 y6 y7 y8 y9 y10 y11 y12, LeO (water_Sail.l4 k y0 y1 y2 y3 y4 y5 y6 y7 y8 y9 y10 y11 y12) (water_Sail.l4 (k + 1) y0 y1 y2 y3 y4 y5 y6 y7 y8 y9 y10 y11 y12))
 | 0 => ⟨fun _ _ _ _ _ _ _ _ _ _ _ r h => by simp [water_Sail.l0] at h,fun _ _ _ _ _ _ _ _ _ _ r h => by simp [water_Sail.l1] at h,fun _ _ _ _ _ _ _ _ _ _ _ r h => by simp [water_Sail.l2] at h,fun _ _ _ _ _ _ _ _ _ _ _ r h => by simp [water_Sail.l3] at h,fun _ _ _ _ _ _ _ _ _ _ _ _ _ r h => by simp [water_Sail.l4] at h⟩
 | k + 1 => by
  obtain ⟨ih0,ih1,ih2,ih3,ih4⟩:=water_Sail.mono_l k
  refine ⟨?_,?_,?_,?_,?_⟩
  ·intro y0 y1 y2 y3 y4 y5 y6 y7 y8 y9 y10
   unfold water_Sail.l0
   repeat' first
   | (with_reducible exact ih0 _ _ _ _ _ _ _ _ _ _ _)
   | (with_reducible exact ih1 _ _ _ _ _ _ _ _ _ _)
   | (with_reducible exact ih2 _ _ _ _ _ _ _ _ _ _ _)
   | (with_reducible exact ih3 _ _ _ _ _ _ _ _ _ _ _)
   | (with_reducible exact ih4 _ _ _ _ _ _ _ _ _ _ _ _ _)
   | (with_reducible exact water_check.mono _ _ _ _ _ _)
   | (with_reducible exact water_ground_beyond.mono _ _ _ _ _ _ _ _)
   | (with_reducible exact water_ground_joined.mono _ _ _ _ _ _ _ _ _ _)
   | (with_reducible exact LeO.refl _)
   | (with_reducible exact LeO.none _)
   | (with_reducible refine LeO.ite ?_ ?_)
   | (with_reducible refine LeO.bind ?_ (fun _ => ?_))
   | exact ih0 _ _ _ _ _ _ _ _ _ _ _
   | exact ih1 _ _ _ _ _ _ _ _ _ _
   | exact ih2 _ _ _ _ _ _ _ _ _ _ _
   | exact ih3 _ _ _ _ _ _ _ _ _ _ _
   | exact ih4 _ _ _ _ _ _ _ _ _ _ _ _ _
   | exact water_check.mono _ _ _ _ _ _
   | exact water_ground_beyond.mono _ _ _ _ _ _ _ _
   | exact water_ground_joined.mono _ _ _ _ _ _ _ _ _ _
   | exact LeO.none _
   | refine LeO.ite ?_ ?_
   | refine LeO.bind ?_ (fun _ => ?_)
  ·intro y0 y1 y2 y3 y4 y5 y6 y7 y8 y9
   unfold water_Sail.l1
   repeat' first
   | (with_reducible exact ih0 _ _ _ _ _ _ _ _ _ _ _)
   | (with_reducible exact ih1 _ _ _ _ _ _ _ _ _ _)
   | (with_reducible exact ih2 _ _ _ _ _ _ _ _ _ _ _)
   | (with_reducible exact ih3 _ _ _ _ _ _ _ _ _ _ _)
   | (with_reducible exact ih4 _ _ _ _ _ _ _ _ _ _ _ _ _)
   | (with_reducible exact water_check.mono _ _ _ _ _ _)
   | (with_reducible exact water_ground_beyond.mono _ _ _ _ _ _ _ _)
   | (with_reducible exact water_ground_joined.mono _ _ _ _ _ _ _ _ _ _)
   | (with_reducible exact LeO.refl _)
   | (with_reducible exact LeO.none _)
   | (with_reducible refine LeO.ite ?_ ?_)
   | (with_reducible refine LeO.bind ?_ (fun _ => ?_))
   | exact ih0 _ _ _ _ _ _ _ _ _ _ _
   | exact ih1 _ _ _ _ _ _ _ _ _ _
   | exact ih2 _ _ _ _ _ _ _ _ _ _ _
   | exact ih3 _ _ _ _ _ _ _ _ _ _ _
   | exact ih4 _ _ _ _ _ _ _ _ _ _ _ _ _
   | exact water_check.mono _ _ _ _ _ _
   | exact water_ground_beyond.mono _ _ _ _ _ _ _ _
   | exact water_ground_joined.mono _ _ _ _ _ _ _ _ _ _
   | exact LeO.none _
   | refine LeO.ite ?_ ?_
   | refine LeO.bind ?_ (fun _ => ?_)
  ·intro y0 y1 y2 y3 y4 y5 y6 y7 y8 y9 y10
   unfold water_Sail.l2
   repeat' first
   | (with_reducible exact ih0 _ _ _ _ _ _ _ _ _ _ _)
   | (with_reducible exact ih1 _ _ _ _ _ _ _ _ _ _)
   | (with_reducible exact ih2 _ _ _ _ _ _ _ _ _ _ _)
   | (with_reducible exact ih3 _ _ _ _ _ _ _ _ _ _ _)
   | (with_reducible exact ih4 _ _ _ _ _ _ _ _ _ _ _ _ _)
   | (with_reducible exact water_check.mono _ _ _ _ _ _)
   | (with_reducible exact water_ground_beyond.mono _ _ _ _ _ _ _ _)
   | (with_reducible exact water_ground_joined.mono _ _ _ _ _ _ _ _ _ _)
   | (with_reducible exact LeO.refl _)
   | (with_reducible exact LeO.none _)
   | (with_reducible refine LeO.ite ?_ ?_)
   | (with_reducible refine LeO.bind ?_ (fun _ => ?_))
   | exact ih0 _ _ _ _ _ _ _ _ _ _ _
   | exact ih1 _ _ _ _ _ _ _ _ _ _
   | exact ih2 _ _ _ _ _ _ _ _ _ _ _
   | exact ih3 _ _ _ _ _ _ _ _ _ _ _
   | exact ih4 _ _ _ _ _ _ _ _ _ _ _ _ _
   | exact water_check.mono _ _ _ _ _ _
   | exact water_ground_beyond.mono _ _ _ _ _ _ _ _
   | exact water_ground_joined.mono _ _ _ _ _ _ _ _ _ _
   | exact LeO.none _
   | refine LeO.ite ?_ ?_
   | refine LeO.bind ?_ (fun _ => ?_)
  ·intro y0 y1 y2 y3 y4 y5 y6 y7 y8 y9 y10
   unfold water_Sail.l3
   repeat' first
   | (with_reducible exact ih0 _ _ _ _ _ _ _ _ _ _ _)
   | (with_reducible exact ih1 _ _ _ _ _ _ _ _ _ _)
   | (with_reducible exact ih2 _ _ _ _ _ _ _ _ _ _ _)
   | (with_reducible exact ih3 _ _ _ _ _ _ _ _ _ _ _)
   | (with_reducible exact ih4 _ _ _ _ _ _ _ _ _ _ _ _ _)
   | (with_reducible exact water_check.mono _ _ _ _ _ _)
   | (with_reducible exact water_ground_beyond.mono _ _ _ _ _ _ _ _)
   | (with_reducible exact water_ground_joined.mono _ _ _ _ _ _ _ _ _ _)
   | (with_reducible exact LeO.refl _)
   | (with_reducible exact LeO.none _)
   | (with_reducible refine LeO.ite ?_ ?_)
   | (with_reducible refine LeO.bind ?_ (fun _ => ?_))
   | exact ih0 _ _ _ _ _ _ _ _ _ _ _
   | exact ih1 _ _ _ _ _ _ _ _ _ _
   | exact ih2 _ _ _ _ _ _ _ _ _ _ _
   | exact ih3 _ _ _ _ _ _ _ _ _ _ _
   | exact ih4 _ _ _ _ _ _ _ _ _ _ _ _ _
   | exact water_check.mono _ _ _ _ _ _
   | exact water_ground_beyond.mono _ _ _ _ _ _ _ _
   | exact water_ground_joined.mono _ _ _ _ _ _ _ _ _ _
   | exact LeO.none _
   | refine LeO.ite ?_ ?_
   | refine LeO.bind ?_ (fun _ => ?_)
  ·intro y0 y1 y2 y3 y4 y5 y6 y7 y8 y9 y10 y11 y12
   unfold water_Sail.l4
   repeat' first
   | (with_reducible exact ih0 _ _ _ _ _ _ _ _ _ _ _)
   | (with_reducible exact ih1 _ _ _ _ _ _ _ _ _ _)
   | (with_reducible exact ih2 _ _ _ _ _ _ _ _ _ _ _)
   | (with_reducible exact ih3 _ _ _ _ _ _ _ _ _ _ _)
   | (with_reducible exact ih4 _ _ _ _ _ _ _ _ _ _ _ _ _)
   | (with_reducible exact water_check.mono _ _ _ _ _ _)
   | (with_reducible exact water_ground_beyond.mono _ _ _ _ _ _ _ _)
   | (with_reducible exact water_ground_joined.mono _ _ _ _ _ _ _ _ _ _)
   | (with_reducible exact LeO.refl _)
   | (with_reducible exact LeO.none _)
   | (with_reducible refine LeO.ite ?_ ?_)
   | (with_reducible refine LeO.bind ?_ (fun _ => ?_))
   | exact ih0 _ _ _ _ _ _ _ _ _ _ _
   | exact ih1 _ _ _ _ _ _ _ _ _ _
   | exact ih2 _ _ _ _ _ _ _ _ _ _ _
   | exact ih3 _ _ _ _ _ _ _ _ _ _ _
   | exact ih4 _ _ _ _ _ _ _ _ _ _ _ _ _
   | exact water_check.mono _ _ _ _ _ _
   | exact water_ground_beyond.mono _ _ _ _ _ _ _ _
   | exact water_ground_joined.mono _ _ _ _ _ _ _ _ _ _
   | exact LeO.none _
   | refine LeO.ite ?_ ?_
   | refine LeO.bind ?_ (fun _ => ?_)
theorem water_Sail.mono : ∀ a0 a1 a2 a3 a4 a5 a6 k, LeO (water_Sail.f k a0 a1 a2 a3 a4 a5 a6) (water_Sail.f (k + 1) a0 a1 a2 a3 a4 a5 a6) := by
 intro a0 a1 a2 a3 a4 a5 a6 k
 obtain ⟨ih0,ih1,ih2,ih3,ih4⟩:=water_Sail.mono_l k
 unfold water_Sail.f
 repeat' first
   | (with_reducible exact ih0 _ _ _ _ _ _ _ _ _ _ _)
   | (with_reducible exact ih1 _ _ _ _ _ _ _ _ _ _)
   | (with_reducible exact ih2 _ _ _ _ _ _ _ _ _ _ _)
   | (with_reducible exact ih3 _ _ _ _ _ _ _ _ _ _ _)
   | (with_reducible exact ih4 _ _ _ _ _ _ _ _ _ _ _ _ _)
   | (with_reducible exact water_check.mono _ _ _ _ _ _)
   | (with_reducible exact water_ground_beyond.mono _ _ _ _ _ _ _ _)
   | (with_reducible exact water_ground_joined.mono _ _ _ _ _ _ _ _ _ _)
   | (with_reducible exact LeO.refl _)
   | (with_reducible exact LeO.none _)
   | (with_reducible refine LeO.ite ?_ ?_)
   | (with_reducible refine LeO.bind ?_ (fun _ => ?_))
   | exact ih0 _ _ _ _ _ _ _ _ _ _ _
   | exact ih1 _ _ _ _ _ _ _ _ _ _
   | exact ih2 _ _ _ _ _ _ _ _ _ _ _
   | exact ih3 _ _ _ _ _ _ _ _ _ _ _
   | exact ih4 _ _ _ _ _ _ _ _ _ _ _ _ _
   | exact water_check.mono _ _ _ _ _ _
   | exact water_ground_beyond.mono _ _ _ _ _ _ _ _
   | exact water_ground_joined.mono _ _ _ _ _ _ _ _ _ _
   | exact LeO.none _
   | refine LeO.ite ?_ ?_
   | refine LeO.bind ?_ (fun _ => ?_)
set_option maxHeartbeats 8000000 in
set_option maxRecDepth 100000 in
theorem water_Sail.calls (k : Nat) (a0_0 : Int) (a0_1 : Int) (A0_2 : Option Addr) (c0_2 : Nat) (l0_2 : List Int) (A1_0 : Option Addr) (c1_0 : Nat) (l1_0 : List Int) (A1_1 : Option Addr) (c1_1 : Nat) (l1_1 : List Int) (a2 : Int) (a3 : Int) (r1 : List Int) (r2 : Int) (w : World) (hr0_2 : Kd.C (Kd.int .i64) w A0_2 l0_2.length l0_2) (hc0_2 : l0_2.length ≤ c0_2) (hr1_0 : Kd.C (Kd.int .i64) w A1_0 l1_0.length l1_0) (hc1_0 : l1_0.length ≤ c1_0) (hr1_1 : Kd.C (Kd.int .i64) w A1_1 l1_1.length l1_1) (hc1_1 : l1_1.length ≤ c1_1) (h : water_Sail.f k a0_0 a0_1 l0_2 l1_0 l1_1 a2 a3 = some (r1, r2)) :
  Calls Try.prog 58 #[.agg #[.int .i64 a0_0,.int .i64 a0_1,.slice A0_2 l0_2.length c0_2],.agg #[.slice A1_0 l1_0.length c1_0,.slice A1_1 l1_1.length c1_1],.int .i64 a2,.int .i64 a3] w fun e w' => ∃ v0_ : Value,e = .returned (.tuple #[v0_,.int .i64 r2]) ∧ Kd.R (Kd.int .i64) 3 w' w.heap.size (fun _ => True) v0_ r1 ∧ Below w.heap.size w w':=by
 have hu53:=Try.underlying53
 have hu55:=Try.underlying55
 have hu104:=Try.underlying104
 have hu107:=Try.underlying107
 have HR0_2:=Aside0.mk hr0_2
 have HC0_2:=Aside0.mk hc0_2
 clear hr0_2 hc0_2
 have HR1_0:=Aside0.mk hr1_0
 have HC1_0:=Aside0.mk hc1_0
 clear hr1_0 hc1_0
 have HR1_1:=Aside0.mk hr1_1
 have HC1_1:=Aside0.mk hc1_1
 clear hr1_1 hc1_1
 have HB:=Aside0.mk (Below.refl w.heap.size w)
 have H : ((water_check.f k a0_0 a0_1 l0_2 l1_0 l1_1).bind fun bt270 => (if bt270.2.2.2.2.2 = 0 then (water_Sail.l0 k a2 a3 (⟨a2,a3⟩ : S107) 0 l1_0 l1_1 bt270.1 bt270.2.1 bt270.2.2.1 bt270.2.2.2.1 bt270.2.2.2.2.1) else (some (([] : List Int),bt270.2.2.2.2.2)))) = some (r1,r2):=h
 clear h
 replace H:=Option.bind_eq_some_iff.mp H
 obtain ⟨⟨t270,t271,t272,t275,t278,t281⟩,A50,H⟩:=H
 replace H : (if t281 = 0 then (water_Sail.l0 k a2 a3 (⟨a2,a3⟩ : S107) 0 l1_0 l1_1 t270 t271 t272 t275 t278) else (some (([] : List Int),t281))) = some (r1,r2):=H
 have A5:=Aside0.mk A50
 clear A50
 by_cases c6 : t281 = 0
 rotate_left
 ·rw [if_neg c6] at H
  have c6b0:=bqf c6
  have c6b1:=bnt c6
  simp only [Option.some.injEq,Prod.mk.injEq] at H
  obtain ⟨rfl,rfl⟩:=H
  go_enter Try.func58,Try.ntmps58
  go_wp2_with (first|((with_reducible refine gate_dst (N:=4) rfl ?_);(try (refine gate_guard (by rfl) ?_;dsimp only));refine box_ev (N:=4) (cs:=#[.int .i64 a0_0,.int .i64 a0_1,.slice A0_2 l0_2.length c0_2]) (t:=53) ?_;intro gb268 hg w147 hbox hb;have BK268:=Aside0.mk (hbox);have GW268 : Aside0 (w.heap.size ≤ gb268):=gsz hg;have GE268:=GW268;replace HB:=hbs hb;clear hb hbox hg)|((with_reducible refine gate_dst (N:=5) rfl ?_);(try (refine gate_guard (by rfl) ?_;dsimp only));refine box_ev (N:=5) (cs:=#[.slice A1_0 l1_0.length c1_0,.slice A1_1 l1_1.length c1_1]) (t:=55) ?_;intro gb269 hg w148 hbox hb;have BK269:=Aside0.mk (hbox);have GW269 : Aside0 (w.heap.size ≤ gb269):=gsz hg;have GE269:=GW269;have NB268_269:=nbl BK268 hg;have NB269_268:=nbr BK268 hg;replace BK268:=bkb BK268 hb;replace HB:=hbs hb;clear hb hbox hg;have hnb149:=NB268_269.out;have hnc149:=NB269_268.out;obtain ⟨_,_,_,_,_,_⟩:=cells3 BK268.out;obtain ⟨_,_,_,_⟩:=cells2 BK269.out)|((with_reducible refine gate_callee (f:=79) rfl ?_);refine goesL_ (some 31) rfl rfl Try.func79 (by kernel_rfl) rfl #[.agg #[.int .i64 a0_0,.int .i64 a0_1,.slice A0_2 l0_2.length c0_2],.agg #[.slice A1_0 l1_0.length c1_0,.slice A1_1 l1_1.length c1_1]] rfl ga_ ?_;(with_reducible refine (water_check.calls k a0_0 a0_1 _ _ l0_2 _ _ l1_0 _ _ l1_1 t270 t271 t272 t275 t278 t281 _ ?_ ?_ ?_ ?_ ?_ ?_ A5.out).mono ?_);exact cq HR0_2;exact HC0_2.out;exact cq HR1_0;exact HC1_0.out;exact cq HR1_1;exact HC1_1.out;rintro e w152 ⟨v273,v276,v279,rfl,ho0,ho1,ho2,hb⟩;refine ⟨_,rfl,?_⟩;have HO274:=rlo ho0;have HO277:=rlo ho1;have HO280:=rlo ho2;replace BK268:=bkb BK268 hb;replace BK269:=bkb BK269 hb;replace HB:=hbs hb)|((with_reducible refine gate_dst (N:=10) rfl ?_);(try (refine gate_guard (by rfl) ?_;dsimp only));refine box_ev (N:=10) (cs:=#[.int .i64 0,.int .i64 0,.slice none 0 0,.slice none 0 0,.slice none 0 0]) (t:=104) ?_;intro gb282 hg w153 hbox hb;have BK282:=Aside0.mk (hbox);have GW282 : Aside0 (w.heap.size ≤ gb282):=gsz hg;have GE282:=GW282;have NB268_282:=nbl BK268 hg;have NB282_268:=nbr BK268 hg;have NB269_282:=nbl BK269 hg;have NB282_269:=nbr BK269 hg;replace HO274:=rbw HO274 hb;replace HO277:=rbw HO277 hb;replace HO280:=rbw HO280 hb;replace BK268:=bkb BK268 hb;replace BK269:=bkb BK269 hb;replace HB:=hbs hb;clear hb hbox hg;have hnb154:=NB282_268.out;have hnc154:=NB268_282.out;have hnb155:=NB282_269.out;have hnc155:=NB269_282.out;obtain ⟨_,_,_,_,_,_,_,_,_,_⟩:=cells5 BK282.out;obtain ⟨Ao157,co157,eo157⟩:=Kd.R_slice HO274.out;subst eo157;obtain ⟨Ao158,co158,eo158⟩:=Kd.R_slice HO277.out;subst eo158;obtain ⟨Ao159,co159,eo159⟩:=Kd.R_slice HO280.out;subst eo159))
  go_ret2
  exact ⟨_,er_,nl_,hb_⟩
 rw [if_pos c6] at H
 have c6b0:=bqt c6
 have c6b1:=bnf c6
 clear c6
 have H':=Aside0.mk H
 clear H
 go_enter Try.func58,Try.ntmps58
 go_wp2_with (first|((with_reducible refine gate_dst (N:=4) rfl ?_);(try (refine gate_guard (by rfl) ?_;dsimp only));refine box_ev (N:=4) (cs:=#[.int .i64 a0_0,.int .i64 a0_1,.slice A0_2 l0_2.length c0_2]) (t:=53) ?_;intro gb268 hg w7 hbox hb;have BK268:=Aside0.mk (hbox);have GW268 : Aside0 (w.heap.size ≤ gb268):=gsz hg;have GE268:=GW268;replace HB:=hbs hb;clear hb hbox hg)|((with_reducible refine gate_dst (N:=5) rfl ?_);(try (refine gate_guard (by rfl) ?_;dsimp only));refine box_ev (N:=5) (cs:=#[.slice A1_0 l1_0.length c1_0,.slice A1_1 l1_1.length c1_1]) (t:=55) ?_;intro gb269 hg w8 hbox hb;have BK269:=Aside0.mk (hbox);have GW269 : Aside0 (w.heap.size ≤ gb269):=gsz hg;have GE269:=GW269;have NB268_269:=nbl BK268 hg;have NB269_268:=nbr BK268 hg;replace BK268:=bkb BK268 hb;replace HB:=hbs hb;clear hb hbox hg;have hnb9:=NB268_269.out;have hnc9:=NB269_268.out;obtain ⟨_,_,_,_,_,_⟩:=cells3 BK268.out;obtain ⟨_,_,_,_⟩:=cells2 BK269.out)|((with_reducible refine gate_callee (f:=79) rfl ?_);refine goesL_ (some 31) rfl rfl Try.func79 (by kernel_rfl) rfl #[.agg #[.int .i64 a0_0,.int .i64 a0_1,.slice A0_2 l0_2.length c0_2],.agg #[.slice A1_0 l1_0.length c1_0,.slice A1_1 l1_1.length c1_1]] rfl ga_ ?_;(with_reducible refine (water_check.calls k a0_0 a0_1 _ _ l0_2 _ _ l1_0 _ _ l1_1 t270 t271 t272 t275 t278 t281 _ ?_ ?_ ?_ ?_ ?_ ?_ A5.out).mono ?_);exact cq HR0_2;exact HC0_2.out;exact cq HR1_0;exact HC1_0.out;exact cq HR1_1;exact HC1_1.out;rintro e w12 ⟨v273,v276,v279,rfl,ho0,ho1,ho2,hb⟩;refine ⟨_,rfl,?_⟩;have HO274:=rlo ho0;have HO277:=rlo ho1;have HO280:=rlo ho2;replace BK268:=bkb BK268 hb;replace BK269:=bkb BK269 hb;replace HB:=hbs hb)|((with_reducible refine gate_dst (N:=10) rfl ?_);(try (refine gate_guard (by rfl) ?_;dsimp only));refine box_ev (N:=10) (cs:=#[.int .i64 0,.int .i64 0,.slice none 0 0,.slice none 0 0,.slice none 0 0]) (t:=104) ?_;intro gb282 hg w13 hbox hb;have BK282:=Aside0.mk (hbox);have GW282 : Aside0 (w.heap.size ≤ gb282):=gsz hg;have GE282:=GW282;have NB268_282:=nbl BK268 hg;have NB282_268:=nbr BK268 hg;have NB269_282:=nbl BK269 hg;have NB282_269:=nbr BK269 hg;replace HO274:=rbw HO274 hb;replace HO277:=rbw HO277 hb;replace HO280:=rbw HO280 hb;replace BK268:=bkb BK268 hb;replace BK269:=bkb BK269 hb;replace HB:=hbs hb;clear hb hbox hg;have hnb14:=NB282_268.out;have hnc14:=NB268_282.out;have hnb15:=NB282_269.out;have hnc15:=NB269_282.out;obtain ⟨_,_,_,_,_,_,_,_,_,_⟩:=cells5 BK282.out;obtain ⟨Ao17,co17,eo17⟩:=Kd.R_slice HO274.out;subst eo17;obtain ⟨Ao18,co18,eo18⟩:=Kd.R_slice HO277.out;subst eo18;obtain ⟨Ao19,co19,eo19⟩:=Kd.R_slice HO280.out;subst eo19))
 go_loopg [40] k (fun kq v40 w' => ∃ (x40_1 : Int),v40 = .int .i64 x40_1 ∧ Aside0 (water_Sail.l0 kq a2 a3 (⟨a2,a3⟩ : S107) x40_1 l1_0 l1_1 t270 t271 t272 t275 t278 = some (r1,r2)) ∧ Aside0 (kq ≤ k) ∧ Aside0 (Kd.R (Kd.int .i64) 3 w' w.heap.size (fun k_ => some k_ ≠ ((.slice Ao18 t275.length co18) : Value).ownBlock) (.slice Ao17 t272.length co17) t272) ∧ Aside0 (Kd.R (Kd.int .i64) 3 w' w.heap.size (fun k_ => some k_ ≠ ((.slice Ao17 t272.length co17) : Value).ownBlock) (.slice Ao18 t275.length co18) t275) ∧ Aside0 (Kd.R Kd.bool 4 w' w.heap.size (fun _ => True) (.slice Ao19 t278.length co19) t278) ∧ Aside0 (w'.heap[gb268]? = some (.cells #[.int .i64 a0_0,.int .i64 a0_1,(.slice A0_2 l0_2.length c0_2)] 53 (0,0))) ∧ Aside0 (w'.heap[gb269]? = some (.cells #[(.slice A1_0 l1_0.length c1_0),(.slice A1_1 l1_1.length c1_1)] 55 (0,0))) ∧ Aside0 (w'.heap[gb282]? = some (.cells #[.int .i64 t270,.int .i64 t271,(.slice Ao17 t272.length co17),(.slice Ao18 t275.length co18),(.slice Ao19 t278.length co19)] 104 (0,0))) ∧ Aside0 (Below w.heap.size w w'))
 case atStart => exact ⟨(0),(by first|rfl|(simp;done)|(simp [*];done)),H',⟨Nat.le_refl _⟩,⟨by (with_reducible repeat (first|apply Kd.R_alloc|apply Kd.R_drewN|apply Kd.R_drew));exact Kd.R_mono (Kd.R_fars gb282 (Kd.R_types HO274.out BK282.out (by decide)) (fun _ hk => hk.2)) (fun _ hk => hk.1)⟩,⟨by (with_reducible repeat (first|apply Kd.R_alloc|apply Kd.R_drewN|apply Kd.R_drew));exact Kd.R_mono (Kd.R_fars gb282 (Kd.R_types HO277.out BK282.out (by decide)) (fun _ hk => hk.2)) (fun _ hk => hk.1)⟩,⟨by (with_reducible repeat (first|apply Kd.R_alloc|apply Kd.R_drewN|apply Kd.R_drew));exact Kd.R_mono (Kd.R_fars gb282 (Kd.R_types HO280.out BK282.out (by decide)) (fun _ hk => hk.2)) (fun _ hk => trivial)⟩,⟨by (with_reducible repeat (first|refine blk_drewN ?_ _|refine blk_drew ?_|refine blk_alloc ?_ _));refine blk_far ?_ NB268_282.out _;(with_reducible repeat (first|refine blk_drewN ?_ _|refine blk_drew ?_|refine blk_alloc ?_ _));refine blk_far ?_ NB268_282.out _;(with_reducible repeat (first|refine blk_drewN ?_ _|refine blk_drew ?_|refine blk_alloc ?_ _));refine blk_far ?_ NB268_282.out _;(with_reducible repeat (first|refine blk_drewN ?_ _|refine blk_drew ?_|refine blk_alloc ?_ _));refine blk_far ?_ NB268_282.out _;(with_reducible repeat (first|refine blk_drewN ?_ _|refine blk_drew ?_|refine blk_alloc ?_ _));refine blk_far ?_ NB268_282.out _;(with_reducible repeat (first|refine blk_drewN ?_ _|refine blk_drew ?_|refine blk_alloc ?_ _));exact BK268.out⟩,⟨by (with_reducible repeat (first|refine blk_drewN ?_ _|refine blk_drew ?_|refine blk_alloc ?_ _));refine blk_far ?_ NB269_282.out _;(with_reducible repeat (first|refine blk_drewN ?_ _|refine blk_drew ?_|refine blk_alloc ?_ _));refine blk_far ?_ NB269_282.out _;(with_reducible repeat (first|refine blk_drewN ?_ _|refine blk_drew ?_|refine blk_alloc ?_ _));refine blk_far ?_ NB269_282.out _;(with_reducible repeat (first|refine blk_drewN ?_ _|refine blk_drew ?_|refine blk_alloc ?_ _));refine blk_far ?_ NB269_282.out _;(with_reducible repeat (first|refine blk_drewN ?_ _|refine blk_drew ?_|refine blk_alloc ?_ _));refine blk_far ?_ NB269_282.out _;(with_reducible repeat (first|refine blk_drewN ?_ _|refine blk_drew ?_|refine blk_alloc ?_ _));exact BK269.out⟩,⟨by (with_reducible repeat (first|refine blk_drewN ?_ _|refine blk_drew ?_|refine blk_alloc ?_ _));exact blk_puts5 (blk_up BK282.out)⟩,⟨hb_⟩⟩
 case round =>
  clear H'
  obtain ⟨x40_1,rfl,HA,HK1,HO_283002,HO_283003,HO_283004,BK268,BK269,BK282,HB⟩:=hrel
  cases gk with
  | zero => exact absurd HA.out (by simp [water_Sail.l0])
  | succ k1 =>
   have H:=HA.out
   clear HA
   simp only [water_Sail.l0] at H
   by_cases c20 : x40_1 < 2
   ·rw [if_pos c20] at H
    have c20b0 : decide (x40_1 < 2) = true:=decide_eq_true c20
    clear c20
    replace H:=ifp_ H;obtain ⟨c21,H⟩:=H
    have c21b0 : decide (0 ≤ x40_1) = true:=decide_eq_true c21
    clear c21
    have hix22:=fun (W_ : World) => (ix107_run a2 a3 x40_1 (of_decide_eq_true (by first|(with_reducible assumption)|assumption)) (of_decide_eq_true (by first|(with_reducible assumption)|assumption)) W_ : (Instr.index 107 (.agg #[.int .i64 a2,.int .i64 a3]) (.int .i64 x40_1)).run Try.prog W_ = .ok (.int .i64 (ix107 (⟨a2,a3⟩ : S107) x40_1)) W_)
    by_cases c23 : (ix107 (⟨a2,a3⟩ : S107) x40_1) < 0
    ·rw [if_pos c23] at H
     have c23b0 : decide ((ix107 (⟨a2,a3⟩ : S107) x40_1) < 0) = true:=decide_eq_true c23
     clear c23
     simp only [Option.some.injEq,Prod.mk.injEq] at H
     obtain ⟨rfl,rfl⟩:=H
     go_wp2
     go_ret2
     exact ⟨_,er_,nl_,hb_⟩
    rw [if_neg c23] at H
    have c23b0 : decide ((ix107 (⟨a2,a3⟩ : S107) x40_1) < 0) = false:=decide_eq_false c23
    clear c23
    by_cases c24 : (ix107 (⟨a2,a3⟩ : S107) x40_1) ≥ (l1_0.length : Int)
    ·rw [if_pos c24] at H
     have c24b0 : decide ((l1_0.length : Int) ≤ (ix107 (⟨a2,a3⟩ : S107) x40_1)) = true:=decide_eq_true c24
     clear c24
     simp only [Option.some.injEq,Prod.mk.injEq] at H
     obtain ⟨rfl,rfl⟩:=H
     have hnb25:=NB269_268.out
     have hnc25:=NB268_269.out
     have hnb26:=NB269_282.out
     have hnc26:=NB282_269.out
     obtain ⟨_,_,_,_⟩:=cells2 BK269.out
     go_wp2
     go_ret2
     exact ⟨_,er_,nl_,hb_⟩
    rw [if_neg c24] at H
    have c24b0 : decide ((l1_0.length : Int) ≤ (ix107 (⟨a2,a3⟩ : S107) x40_1)) = false:=decide_eq_false c24
    clear c24
    replace H:=Option.bind_eq_some_iff.mp H
    obtain ⟨t283,A280,H⟩:=H
    replace H : (if t283 = true then (water_Sail.l0 k1 a2 a3 (⟨a2,a3⟩ : S107) (wrap64 (x40_1 + 1)) l1_0 l1_1 t270 t271 t272 t275 t278) else (some (([] : List Int),2))) = some (r1,r2):=H
    have A28:=Aside0.mk A280
    clear A280
    by_cases c29 : t283 = true
    ·subst c29
     have H1 : (water_Sail.l0 k1 a2 a3 (⟨a2,a3⟩ : S107) (wrap64 (x40_1 + 1)) l1_0 l1_1 t270 t271 t272 t275 t278) = some (r1,r2):=by rw [if_pos rfl] at H;exact H
     clear H
     have H:=H1
     clear H1
     have H':=Aside0.mk H
     clear H
     have hnb30:=NB269_268.out
     have hnc30:=NB268_269.out
     have hnb31:=NB269_282.out
     have hnc31:=NB282_269.out
     obtain ⟨_,_,_,_⟩:=cells2 BK269.out
     have hnb33:=NB282_268.out
     have hnc33:=NB268_282.out
     obtain ⟨_,_,_,_,_,_,_,_,_,_⟩:=cells5 BK282.out
     go_wp2_with (first|(go_at_call 80;(with_reducible refine (water_ground_wet.calls t270 t271 _ _ t272 _ _ t275 _ _ t278 _ _ l1_0 _ _ l1_1 (ix107 (⟨a2,a3⟩ : S107) x40_1) true _ ?_ ?_ ?_ ?_ ?_ ?_ ?_ ?_ ?_ ?_ A28.out).mono ?_);exact Kd.C_up (Kd.R_reads' HO_283002.out).2.2;exact (Kd.R_reads' HO_283002.out).2.1;exact Kd.C_up (Kd.R_reads' HO_283003.out).2.2;exact (Kd.R_reads' HO_283003.out).2.1;exact Kd.C_up (Kd.R_reads' HO_283004.out).2.2;exact (Kd.R_reads' HO_283004.out).2.1;exact cq HR1_0;exact HC1_0.out;exact cq HR1_1;exact HC1_1.out;rintro e w35 ⟨rfl,hb⟩;replace HO_283002:=rbw HO_283002 hb;replace HO_283003:=rbw HO_283003 hb;replace HO_283004:=rbw HO_283004 hb;replace BK268:=bkb BK268 hb;replace BK269:=bkb BK269 hb;replace BK282:=bkb BK282 hb;replace HB:=hbs hb))
     go_roundg k1
     case measure => have:=HK1.out;omega
     case rel => exact ⟨(wrap64 (x40_1 + 1)),(by first|rfl|(simp;done)|(simp [*];done)),H',⟨by have:=HK1.out;omega⟩,⟨Kd.R_up HO_283002.out⟩,⟨Kd.R_up HO_283003.out⟩,⟨Kd.R_up HO_283004.out⟩,⟨blk_up BK268.out⟩,⟨blk_up BK269.out⟩,⟨blk_up BK282.out⟩,⟨hb_⟩⟩
    ·replace c29:=Bool.eq_false_iff.mpr c29
     subst c29
     have H1 : (some (([] : List Int),2)) = some (r1,r2):=by rw [if_neg (show ¬ (false = true) by decide)] at H;exact H
     clear H
     have H:=H1
     clear H1
     simp only [Option.some.injEq,Prod.mk.injEq] at H
     obtain ⟨rfl,rfl⟩:=H
     have hnb36:=NB269_268.out
     have hnc36:=NB268_269.out
     have hnb37:=NB269_282.out
     have hnc37:=NB282_269.out
     obtain ⟨_,_,_,_⟩:=cells2 BK269.out
     have hnb39:=NB282_268.out
     have hnc39:=NB268_282.out
     obtain ⟨_,_,_,_,_,_,_,_,_,_⟩:=cells5 BK282.out
     go_wp2_with (first|(go_at_call 80;(with_reducible refine (water_ground_wet.calls t270 t271 _ _ t272 _ _ t275 _ _ t278 _ _ l1_0 _ _ l1_1 (ix107 (⟨a2,a3⟩ : S107) x40_1) false _ ?_ ?_ ?_ ?_ ?_ ?_ ?_ ?_ ?_ ?_ A28.out).mono ?_);exact Kd.C_up (Kd.R_reads' HO_283002.out).2.2;exact (Kd.R_reads' HO_283002.out).2.1;exact Kd.C_up (Kd.R_reads' HO_283003.out).2.2;exact (Kd.R_reads' HO_283003.out).2.1;exact Kd.C_up (Kd.R_reads' HO_283004.out).2.2;exact (Kd.R_reads' HO_283004.out).2.1;exact cq HR1_0;exact HC1_0.out;exact cq HR1_1;exact HC1_1.out;rintro e w41 ⟨rfl,hb⟩;replace HO_283002:=rbw HO_283002 hb;replace HO_283003:=rbw HO_283003 hb;replace HO_283004:=rbw HO_283004 hb;replace BK268:=bkb BK268 hb;replace BK269:=bkb BK269 hb;replace BK282:=bkb BK282 hb;replace HB:=hbs hb))
     go_ret2
     exact ⟨_,er_,nl_,hb_⟩
   rw [if_neg c20] at H
   have c20b0 : decide (x40_1 < 2) = false:=decide_eq_false c20
   clear c20
   obtain ⟨y285,hy285⟩ : ∃ y_ : List Int,y_ = (([a3] : List Int)):=⟨_,rfl⟩
   replace H : (water_Sail.l1 k1 a2 y285 l1_0 l1_1 t270 t271 t272 t275 t278 (mpPut a3 0 ([] : List (Int × Int)))) = some (r1,r2):=by first|(rw [hy285];with_reducible exact H)|(have H2_:=(Option.bind_some _ _).symm.trans H;rw [hy285];with_reducible exact H2_)|(have H2_:=(Option.bind_some _ _).symm.trans H;with_reducible exact H2_)|with_reducible exact H|(rw [hy285];exact H)|exact H
   have Ny285:=Aside0.mk hy285
   clear hy285
   have H':=Aside0.mk H
   clear H
   go_wp2_with (first|((with_reducible refine gate_dst (N:=60) rfl ?_);(try (refine gate_guard (by rfl) ?_;dsimp only));refine mp_make rfl (t:=109) rfl ?_;intro gb284 hg w42 hbox hb;have BK284:=Aside0.mk (hbox);have GW284 : Aside0 (w.heap.size ≤ gb284):=gsz hg;have GE284:=GW284;have NB268_284:=nbl BK268 hg;have NB284_268:=nbr BK268 hg;have NB269_284:=nbl BK269 hg;have NB284_269:=nbr BK269 hg;have NB282_284:=nbl BK282 hg;have NB284_282:=nbr BK282 hg;replace HO_283002:=rbw HO_283002 hb;replace HO_283003:=rbw HO_283003 hb;replace HO_283004:=rbw HO_283004 hb;replace BK268:=bkb BK268 hb;replace BK269:=bkb BK269 hb;replace BK282:=bkb BK282 hb;replace HB:=hbs hb;clear hb hbox hg)|((with_reducible refine mp_gatei (t:=109) rfl ?_);refine mp_puti rfl rfl (t:=109) rfl (b:=gb284) (x:=a3) (y:=0) (l:=([] : List (Int × Int))) ?hm_ ?hk_ ?hv_ mpT_109 mpK_109 ?hb_ ?_;(case hm_ => first|rfl|(go_simp;done));(case hk_ => first|rfl|(go_simp;done));(case hv_ => first|rfl|(go_simp;done));(case hb_ => exact (blk_up BK284.out));intro w43 hbox hg;replace HO_283002:=Aside0.mk (mp_R_over (Kd.R_up HO_283002.out) (blk_up BK284.out) ⟨_,rfl⟩ hg);replace HO_283003:=Aside0.mk (mp_R_over (Kd.R_up HO_283003.out) (blk_up BK284.out) ⟨_,rfl⟩ hg);replace HO_283004:=Aside0.mk (mp_R_over (Kd.R_up HO_283004.out) (blk_up BK284.out) ⟨_,rfl⟩ hg);replace BK268:=Aside0.mk (blk_grown (blk_up BK268.out) hg (fun e_ => NB268_284.out (Option.some.inj e_)));replace BK269:=Aside0.mk (blk_grown (blk_up BK269.out) hg (fun e_ => NB269_284.out (Option.some.inj e_)));replace BK282:=Aside0.mk (blk_grown (blk_up BK282.out) hg (fun e_ => NB282_284.out (Option.some.inj e_)));replace BK284:=Aside0.mk (hbox);replace HB:=Aside0.mk (Below.grown (hb_) hg (below_size (hb_)) (fun k_ hk_ => by injection hk_ with hk_;rw [← hk_];exact GE284.out));clear hbox hg)|((with_reducible refine gate_dst (N:=64) rfl ?_);(try (refine gate_guard (by rfl) ?_;dsimp only));refine Kd.R_lit (Kd.int .i64) _ 3 ?hg (N:=64) ?hd (xs:=([a3] : List Int)) (inner:=[.int .i64 a3]) (ok:=fun _ => True) (okp:=fun _ => True) ?hr ?hp (fun _ hk => hk) trivial (Below.refl _ _) (Nat.le_refl _) (by simp) ?_;(case hd => rfl);(case hg => rfl);(case hr => first|(go_simp;done)|(go_simp;rfl));(case hp => exact (Reps.one (show Kd.M (Kd.int .i64) _ _ _ a3 [.int .i64 a3] from rfl) (Reps.none _ _)));intro v286 w44 ho45 hb hg_ hnew_;clear hg_ hnew_;(first|rw [← Ny285.out] at ho45|(simp only [Int.reduceToNat] at ho45;rw [← Ny285.out] at ho45));have HO287:=Aside0.mk (Kd.R_lower (Kd.R_new' (Kd.R_new' ho45 (Kd.R_lt (Kd.R_up HO_283002.out))) (Kd.R_lt (Kd.R_up HO_283003.out))) (below_size (hb_)));replace HO_283002:=Aside0.mk (Kd.R_elder' (Kd.R_up HO_283002.out) (Kd.R_base ho45) hb);replace HO_283003:=Aside0.mk (Kd.R_elder' (Kd.R_up HO_283003.out) (Kd.R_base ho45) hb);replace HO_283004:=rbw HO_283004 hb;replace BK268:=bkb BK268 hb;replace BK269:=bkb BK269 hb;replace BK282:=bkb BK282 hb;replace BK284:=bkb BK284 hb;replace HB:=hbs hb;clear hb ho45))
   go_loopg [15] k1 (fun kq v15 w' => ∃ (x15_2 : List Int) (x285000_2 : List (Int × Int)),Aside0 (water_Sail.l1 kq a2 x15_2 l1_0 l1_1 t270 t271 t272 t275 t278 x285000_2 = some (r1,r2)) ∧ Aside0 (kq ≤ k1) ∧ Aside0 (Kd.Q (Kd.int .i64) 3 w' w.heap.size (fun k_ => some k_ ≠ ((.slice Ao17 t272.length co17) : Value).ownBlock ∧ some k_ ≠ ((.slice Ao18 t275.length co18) : Value).ownBlock) v15 x15_2) ∧ Aside0 (Kd.R (Kd.int .i64) 3 w' w.heap.size (fun k_ => some k_ ≠ (v15 : Value).ownBlock ∧ some k_ ≠ ((.slice Ao18 t275.length co18) : Value).ownBlock) (.slice Ao17 t272.length co17) t272) ∧ Aside0 (Kd.R (Kd.int .i64) 3 w' w.heap.size (fun k_ => some k_ ≠ (v15 : Value).ownBlock ∧ some k_ ≠ ((.slice Ao17 t272.length co17) : Value).ownBlock) (.slice Ao18 t275.length co18) t275) ∧ Aside0 (Kd.R Kd.bool 4 w' w.heap.size (fun _ => True) (.slice Ao19 t278.length co19) t278) ∧ Aside0 (w'.heap[gb268]? = some (.cells #[.int .i64 a0_0,.int .i64 a0_1,(.slice A0_2 l0_2.length c0_2)] 53 (0,0))) ∧ Aside0 (w'.heap[gb269]? = some (.cells #[(.slice A1_0 l1_0.length c1_0),(.slice A1_1 l1_1.length c1_1)] 55 (0,0))) ∧ Aside0 (w'.heap[gb282]? = some (.cells #[.int .i64 t270,.int .i64 t271,(.slice Ao17 t272.length co17),(.slice Ao18 t275.length co18),(.slice Ao19 t278.length co19)] 104 (0,0))) ∧ Aside0 (w'.heap[gb284]? = some (mpO x285000_2)) ∧ Aside0 (Below w.heap.size w w'))
   case atStart => exact ⟨(y285),(mpPut a3 0 ([] : List (Int × Int))),H',⟨Nat.le_refl _⟩,⟨Kd.Q_of_R (by (with_reducible repeat (first|apply Kd.R_alloc|apply Kd.R_drewN|apply Kd.R_drew));exact Kd.R_mono HO287.out (fun _ hk => ⟨hk.1.2,hk.2⟩))⟩,⟨by (with_reducible repeat (first|apply Kd.R_alloc|apply Kd.R_drewN|apply Kd.R_drew));exact Kd.R_mono HO_283002.out (fun _ hk => ⟨hk.2,hk.1⟩)⟩,⟨by (with_reducible repeat (first|apply Kd.R_alloc|apply Kd.R_drewN|apply Kd.R_drew));exact Kd.R_mono HO_283003.out (fun _ hk => ⟨hk.2,hk.1⟩)⟩,⟨Kd.R_up HO_283004.out⟩,⟨blk_up BK268.out⟩,⟨blk_up BK269.out⟩,⟨blk_up BK282.out⟩,⟨blk_up BK284.out⟩,⟨hb_⟩⟩
   case round =>
    clear H'
    obtain ⟨x15_2,x285000_2,HA,HK2,HO_15,HO_283002,HO_283003,HO_283004,BK268,BK269,BK282,BK284,HB⟩:=hrel
    cases gk with
    | zero => exact absurd HA.out (by simp [water_Sail.l1])
    | succ k2 =>
     have H:=HA.out
     clear HA
     simp only [water_Sail.l1] at H
     by_cases c46 : (x15_2.length : Int) > 0
     rotate_left
     ·rw [if_neg c46] at H
      have c46b0 : decide (0 < (x15_2.length : Int)) = false:=decide_eq_false c46
      have c46b1 : decide (0 < x15_2.length) = false:=decide_eq_false (by omega)
      clear c46
      by_cases c73 : mpHas a2 x285000_2 = true
      rotate_left
      ·rw [if_neg c73] at H
       have c73b0 : mpHas a2 x285000_2 = false:=by simpa using c73
       clear c73
       simp only [Option.some.injEq,Prod.mk.injEq] at H
       obtain ⟨rfl,rfl⟩:=H
       obtain ⟨Ao146,co146,eo146,_⟩:=Kd.Q_slice HO_15.out
       subst eo146
       go_wp2_with (first|((with_reducible refine gate_dst (N:=110) rfl ?_);(try (refine gate_guard (by rfl) ?_;dsimp only));refine mp_look_ok rfl (t:=109) rfl (b:=gb284) (x:=a2) (l:=x285000_2) ?hm_ ?hk_ mpT_109 mpK_109 mpZ_109 ?hb_ ?_;(case hm_ => first|rfl|(go_simp;done));(case hk_ => first|rfl|(go_simp;done));(case hb_ => exact (blk_up BK284.out))))
       go_ret2
       exact ⟨_,er_,nl_,hb_⟩
      rw [if_pos c73] at H
      have c73b0 : mpHas a2 x285000_2 = true:=c73
      clear c73
      obtain ⟨y299,hy299⟩ : ∃ y_ : List Int,y_ = (([a2] : List Int)):=⟨_,rfl⟩
      replace H : (water_Sail.l3 k2 a2 (mpV a2 x285000_2) y299 l1_0 l1_1 t270 t271 t272 t275 t278 x285000_2) = some (r1,r2):=by first|(rw [hy299];with_reducible exact H)|(have H2_:=(Option.bind_some _ _).symm.trans H;rw [hy299];with_reducible exact H2_)|(have H2_:=(Option.bind_some _ _).symm.trans H;with_reducible exact H2_)|with_reducible exact H|(rw [hy299];exact H)|exact H
      have Ny299:=Aside0.mk hy299
      clear hy299
      have H':=Aside0.mk H
      clear H
      obtain ⟨Ao74,co74,eo74,_⟩:=Kd.Q_slice HO_15.out
      subst eo74
      go_wp2_with (first|((with_reducible refine gate_dst (N:=110) rfl ?_);(try (refine gate_guard (by rfl) ?_;dsimp only));refine mp_look_ok rfl (t:=109) rfl (b:=gb284) (x:=a2) (l:=x285000_2) ?hm_ ?hk_ mpT_109 mpK_109 mpZ_109 ?hb_ ?_;(case hm_ => first|rfl|(go_simp;done));(case hk_ => first|rfl|(go_simp;done));(case hb_ => exact (blk_up BK284.out)))|((with_reducible refine gate_dst (N:=116) rfl ?_);(try (refine gate_guard (by rfl) ?_;dsimp only));refine Kd.R_lit (Kd.int .i64) _ 3 ?hg (N:=116) ?hd (xs:=([a2] : List Int)) (inner:=[.int .i64 a2]) (ok:=fun _ => True) (okp:=fun _ => True) ?hr ?hp (fun _ hk => hk) trivial (Below.refl _ _) (Nat.le_refl _) (by simp) ?_;(case hd => rfl);(case hg => rfl);(case hr => first|(go_simp;done)|(go_simp;rfl));(case hp => exact (Reps.one (show Kd.M (Kd.int .i64) _ _ _ a2 [.int .i64 a2] from rfl) (Reps.none _ _)));intro v300 w75 ho76 hb hg_ hnew_;clear hg_ hnew_;(first|rw [← Ny299.out] at ho76|(simp only [Int.reduceToNat] at ho76;rw [← Ny299.out] at ho76));have HO301:=Aside0.mk (Kd.R_lower (Kd.R_new' (Kd.R_new' (Kd.R_new' ho76 (Kd.Q_lt (Kd.Q_up HO_15.out))) (Kd.R_lt (Kd.R_up HO_283002.out))) (Kd.R_lt (Kd.R_up HO_283003.out))) (below_size (hb_)));replace HO_15:=Aside0.mk (Kd.Q_elder' (Kd.Q_up HO_15.out) (Kd.R_base ho76) hb);replace HO_283002:=Aside0.mk (Kd.R_elder' (Kd.R_up HO_283002.out) (Kd.R_base ho76) hb);replace HO_283003:=Aside0.mk (Kd.R_elder' (Kd.R_up HO_283003.out) (Kd.R_base ho76) hb);replace HO_283004:=rbw HO_283004 hb;replace BK268:=bkb BK268 hb;replace BK269:=bkb BK269 hb;replace BK282:=bkb BK282 hb;replace BK284:=bkb BK284 hb;replace HB:=hbs hb;clear hb ho76))
      go_loopg [2,20,22] k2 (fun kq v2 v20 v22 w' => ∃ (x2_3 : Int) (x20_3 : Int) (x22_3 : List Int),v2 = .int .i64 x2_3 ∧ v20 = .int .i64 x20_3 ∧ Aside0 (water_Sail.l3 kq x2_3 x20_3 x22_3 l1_0 l1_1 t270 t271 t272 t275 t278 x285000_2 = some (r1,r2)) ∧ Aside0 (kq ≤ k2) ∧ Aside0 (Kd.R (Kd.int .i64) 3 w' w.heap.size (fun k_ => some k_ ≠ ((.slice Ao17 t272.length co17) : Value).ownBlock ∧ some k_ ≠ ((.slice Ao18 t275.length co18) : Value).ownBlock) v22 x22_3) ∧ Aside0 (Kd.R (Kd.int .i64) 3 w' w.heap.size (fun k_ => some k_ ≠ (v22 : Value).ownBlock ∧ some k_ ≠ ((.slice Ao18 t275.length co18) : Value).ownBlock) (.slice Ao17 t272.length co17) t272) ∧ Aside0 (Kd.R (Kd.int .i64) 3 w' w.heap.size (fun k_ => some k_ ≠ (v22 : Value).ownBlock ∧ some k_ ≠ ((.slice Ao17 t272.length co17) : Value).ownBlock) (.slice Ao18 t275.length co18) t275) ∧ Aside0 (Kd.R Kd.bool 4 w' w.heap.size (fun _ => True) (.slice Ao19 t278.length co19) t278) ∧ Aside0 (w'.heap[gb268]? = some (.cells #[.int .i64 a0_0,.int .i64 a0_1,(.slice A0_2 l0_2.length c0_2)] 53 (0,0))) ∧ Aside0 (w'.heap[gb269]? = some (.cells #[(.slice A1_0 l1_0.length c1_0),(.slice A1_1 l1_1.length c1_1)] 55 (0,0))) ∧ Aside0 (w'.heap[gb282]? = some (.cells #[.int .i64 t270,.int .i64 t271,(.slice Ao17 t272.length co17),(.slice Ao18 t275.length co18),(.slice Ao19 t278.length co19)] 104 (0,0))) ∧ Aside0 (w'.heap[gb284]? = some (mpO x285000_2)) ∧ Aside0 (Below w.heap.size w w'))
      case atStart => exact ⟨(a2),(mpV a2 x285000_2),(y299),(by first|rfl|(simp;done)|(simp [*];done)),(by first|rfl|(simp;done)|(simp [*];done)),H',⟨Nat.le_refl _⟩,⟨by (with_reducible repeat (first|apply Kd.R_alloc|apply Kd.R_drewN|apply Kd.R_drew));exact Kd.R_mono HO301.out (fun _ hk => ⟨hk.1.2,hk.2⟩)⟩,⟨by (with_reducible repeat (first|apply Kd.R_alloc|apply Kd.R_drewN|apply Kd.R_drew));exact Kd.R_mono HO_283002.out (fun _ hk => ⟨hk.2,hk.1.2⟩)⟩,⟨by (with_reducible repeat (first|apply Kd.R_alloc|apply Kd.R_drewN|apply Kd.R_drew));exact Kd.R_mono HO_283003.out (fun _ hk => ⟨hk.2,hk.1.2⟩)⟩,⟨Kd.R_up HO_283004.out⟩,⟨blk_up BK268.out⟩,⟨blk_up BK269.out⟩,⟨blk_up BK282.out⟩,⟨blk_up BK284.out⟩,⟨hb_⟩⟩
      case round =>
       clear H'
       obtain ⟨x2_3,x20_3,x22_3,rfl,rfl,HA,HK3,HO_22,HO_283002,HO_283003,HO_283004,BK268,BK269,BK282,BK284,HB⟩:=hrel
       cases gk with
       | zero => exact absurd HA.out (by simp [water_Sail.l3])
       | succ k3 =>
        have H:=HA.out
        clear HA
        simp only [water_Sail.l3] at H
        by_cases c77 : x20_3 > 0
        rotate_left
        ·rw [if_neg c77] at H
         have c77b0 : decide (0 < x20_3) = false:=decide_eq_false c77
         clear c77
         simp only [Option.some.injEq,Prod.mk.injEq] at H
         obtain ⟨rfl,rfl⟩:=H
         go_wp2
         go_ret2
         exact ⟨_,er_,by (with_reducible repeat (first|apply Kd.R_alloc|apply Kd.R_drewN|apply Kd.R_drew));exact Kd.R_mono HO_22.out (fun _ hk => trivial),hb_⟩
        rw [if_pos c77] at H
        have c77b0 : decide (0 < x20_3) = true:=decide_eq_true c77
        clear c77
        have H':=Aside0.mk H
        clear H
        go_wp2
        go_loopg [23,121] k3 (fun kq v23 v121 w' => ∃ (x23_4 : Int) (x121_4 : Int),v23 = .int .i64 x23_4 ∧ v121 = .int .i64 x121_4 ∧ Aside0 (water_Sail.l4 kq x2_3 x20_3 x22_3 x23_4 x121_4 l1_0 l1_1 t270 t271 t272 t275 t278 x285000_2 = some (r1,r2)) ∧ Aside0 (kq ≤ k3) ∧ Aside0 (Kd.R (Kd.int .i64) 3 w' w.heap.size (fun k_ => some k_ ≠ ((.slice Ao17 t272.length co17) : Value).ownBlock ∧ some k_ ≠ ((.slice Ao18 t275.length co18) : Value).ownBlock) u22 x22_3) ∧ Aside0 (Kd.R (Kd.int .i64) 3 w' w.heap.size (fun k_ => some k_ ≠ (u22 : Value).ownBlock ∧ some k_ ≠ ((.slice Ao18 t275.length co18) : Value).ownBlock) (.slice Ao17 t272.length co17) t272) ∧ Aside0 (Kd.R (Kd.int .i64) 3 w' w.heap.size (fun k_ => some k_ ≠ (u22 : Value).ownBlock ∧ some k_ ≠ ((.slice Ao17 t272.length co17) : Value).ownBlock) (.slice Ao18 t275.length co18) t275) ∧ Aside0 (Kd.R Kd.bool 4 w' w.heap.size (fun _ => True) (.slice Ao19 t278.length co19) t278) ∧ Aside0 (w'.heap[gb268]? = some (.cells #[.int .i64 a0_0,.int .i64 a0_1,(.slice A0_2 l0_2.length c0_2)] 53 (0,0))) ∧ Aside0 (w'.heap[gb269]? = some (.cells #[(.slice A1_0 l1_0.length c1_0),(.slice A1_1 l1_1.length c1_1)] 55 (0,0))) ∧ Aside0 (w'.heap[gb282]? = some (.cells #[.int .i64 t270,.int .i64 t271,(.slice Ao17 t272.length co17),(.slice Ao18 t275.length co18),(.slice Ao19 t278.length co19)] 104 (0,0))) ∧ Aside0 (w'.heap[gb284]? = some (mpO x285000_2)) ∧ Aside0 (Below w.heap.size w w'))
        case atStart => exact ⟨((-1)),(0),(by first|rfl|(simp;done)|(simp [*];done)),(by first|rfl|(simp;done)|(simp [*];done)),H',⟨Nat.le_refl _⟩,⟨Kd.R_up HO_22.out⟩,⟨Kd.R_up HO_283002.out⟩,⟨Kd.R_up HO_283003.out⟩,⟨Kd.R_up HO_283004.out⟩,⟨blk_up BK268.out⟩,⟨blk_up BK269.out⟩,⟨blk_up BK282.out⟩,⟨blk_up BK284.out⟩,⟨hb_⟩⟩
        case round =>
         clear H'
         obtain ⟨x23_4,x121_4,rfl,rfl,HA,HK4,HO_22,HO_283002,HO_283003,HO_283004,BK268,BK269,BK282,BK284,HB⟩:=hrel
         cases gk with
         | zero => exact absurd HA.out (by simp [water_Sail.l4])
         | succ k4 =>
          have H:=HA.out
          clear HA
          simp only [water_Sail.l4] at H
          by_cases c78 : x121_4 < 4
          rotate_left
          ·rw [if_neg c78] at H
           have c78b0 : decide (x121_4 < 4) = false:=decide_eq_false c78
           clear c78
           replace H:=ifp_ H;obtain ⟨c144,H⟩:=H
           have LMc144:=Aside0.mk c144
           clear c144
           obtain ⟨y304,hy304⟩ : ∃ y_ : List Int,y_ = (x22_3 ++ [x23_4]):=⟨_,rfl⟩
           replace H : (water_Sail.l3 k4 x23_4 (wrap64 (x20_3 - 1)) y304 l1_0 l1_1 t270 t271 t272 t275 t278 x285000_2) = some (r1,r2):=by first|(rw [hy304];with_reducible exact H)|(have H2_:=(Option.bind_some _ _).symm.trans H;rw [hy304];with_reducible exact H2_)|(have H2_:=(Option.bind_some _ _).symm.trans H;with_reducible exact H2_)|with_reducible exact H|(rw [hy304];exact H)|exact H
           have Ny304:=Aside0.mk hy304
           clear hy304
           have H':=Aside0.mk H
           clear H
           go_wp2_with (first|((with_reducible refine gate_builtin (b:=.append) (xs:=#[.tmp 158,.tmp 160]) rfl ?_);(try (refine gate_guard (by rfl) ?_;dsimp only));at_builtin;refine Kd.R_append (Kd.int .i64) (w0:=w) w.heap.size rfl (.tmp 158) (.tmp 160) 22 3 (.int .i64 0) 8 rfl Try.underlying22 info3 rfl (by decide) (by omega) u22 x22_3 x23_4 [.int .i64 x23_4] (fun k_ => some k_ ≠ (.slice Ao17 t272.length co17 : Value).ownBlock ∧ some k_ ≠ (.slice Ao18 t275.length co18 : Value).ownBlock) (fun _ => False) rfl rfl ?aP (fun _ hk => hk.elim) ?aF ?aO ?aB ?aS ?aL ?_;(case aP => exact rfl);(case aB => exact (hb_));(case aF => exact (fun k_ hk => ⟨Kd.fresh' (Kd.R_lt (Kd.R_up HO_283002.out)) k_ hk,Kd.fresh' (Kd.R_lt (Kd.R_up HO_283003.out)) k_ hk⟩));(case aO => exact (Kd.R_up HO_22.out));(case aS => exact (below_size (hb_)));(case aL => have:=LMc144.out;omega);intro v305 w145 ho hb hg hat;rw [← Ny304.out] at ho;have HO306:=Aside0.mk (ho);replace HO_283002:=Aside0.mk (Kd.R_after (ok:=(fun k_ => some k_ ≠ (.slice Ao18 t275.length co18 : Value).ownBlock)) (by (with_reducible repeat (first|apply Kd.R_alloc|apply Kd.R_drewN|apply Kd.R_drew));exact Kd.R_mono HO_283002.out (fun _ hk => ⟨hk.2,hk.1⟩)) hg hat);replace HO_283003:=Aside0.mk (Kd.R_after (ok:=(fun k_ => some k_ ≠ (.slice Ao17 t272.length co17 : Value).ownBlock)) (by (with_reducible repeat (first|apply Kd.R_alloc|apply Kd.R_drewN|apply Kd.R_drew));exact Kd.R_mono HO_283003.out (fun _ hk => ⟨hk.2,hk.1⟩)) hg hat);replace HO_283004:=Aside0.mk (Kd.R_over' (Kd.R_up HO_283004.out) (Kd.R_typed (Kd.R_up HO_22.out)) (by decide) hg);replace BK268:=Aside0.mk (blk_grown (blk_up BK268.out) hg (Kd.R_ne HO_22.out BK268.out (by decide)));replace BK269:=Aside0.mk (blk_grown (blk_up BK269.out) hg (Kd.R_ne HO_22.out BK269.out (by decide)));replace BK282:=Aside0.mk (blk_grown (blk_up BK282.out) hg (Kd.R_ne HO_22.out BK282.out (by decide)));replace BK284:=Aside0.mk (blk_grown (blk_up BK284.out) hg (mp_R_ne HO_22.out BK284.out));replace HB:=Aside0.mk (hb);clear HO_22;clear ho hb hg hat))
           go_roundg k4
           case measure => have:=HK1.out;have:=HK2.out;have:=HK3.out;have:=HK4.out;omega
           case rel => exact ⟨(x23_4),(wrap64 (x20_3 - 1)),(y304),(by first|rfl|(simp;done)|(simp [*];done)),(by first|rfl|(simp;done)|(simp [*];done)),H',⟨by have:=HK1.out;have:=HK2.out;have:=HK3.out;have:=HK4.out;omega⟩,⟨Kd.R_up HO306.out⟩,⟨by (with_reducible repeat (first|apply Kd.R_alloc|apply Kd.R_drewN|apply Kd.R_drew));exact Kd.R_mono HO_283002.out (fun _ hk => ⟨hk.2,hk.1⟩)⟩,⟨by (with_reducible repeat (first|apply Kd.R_alloc|apply Kd.R_drewN|apply Kd.R_drew));exact Kd.R_mono HO_283003.out (fun _ hk => ⟨hk.2,hk.1⟩)⟩,⟨Kd.R_up HO_283004.out⟩,⟨blk_up BK268.out⟩,⟨blk_up BK269.out⟩,⟨blk_up BK282.out⟩,⟨blk_up BK284.out⟩,⟨hb_⟩⟩
          rw [if_pos c78] at H
          have c78b0 : decide (x121_4 < 4) = true:=decide_eq_true c78
          clear c78
          replace H:=Option.bind_eq_some_iff.mp H
          obtain ⟨t302,A790,H⟩:=H
          replace H : (if t302 = true then ((water_ground_beyond.f k4 t270 t271 t272 t275 t278 x2_3 x121_4).bind fun t303 => (if mpHas t303 x285000_2 = true then (if (mpV t303 x285000_2) = (wrap64 (x20_3 - 1)) then (if x23_4 < 0 then (water_Sail.l4 k4 x2_3 x20_3 x22_3 t303 (wrap64 (x121_4 + 1)) l1_0 l1_1 t270 t271 t272 t275 t278 x285000_2) else (if t303 < x23_4 then (water_Sail.l4 k4 x2_3 x20_3 x22_3 t303 (wrap64 (x121_4 + 1)) l1_0 l1_1 t270 t271 t272 t275 t278 x285000_2) else (water_Sail.l4 k4 x2_3 x20_3 x22_3 x23_4 (wrap64 (x121_4 + 1)) l1_0 l1_1 t270 t271 t272 t275 t278 x285000_2))) else (water_Sail.l4 k4 x2_3 x20_3 x22_3 x23_4 (wrap64 (x121_4 + 1)) l1_0 l1_1 t270 t271 t272 t275 t278 x285000_2)) else (water_Sail.l4 k4 x2_3 x20_3 x22_3 x23_4 (wrap64 (x121_4 + 1)) l1_0 l1_1 t270 t271 t272 t275 t278 x285000_2))) else (water_Sail.l4 k4 x2_3 x20_3 x22_3 x23_4 (wrap64 (x121_4 + 1)) l1_0 l1_1 t270 t271 t272 t275 t278 x285000_2)) = some (r1,r2):=H
          have A79:=Aside0.mk A790
          clear A790
          by_cases c80 : t302 = true
          ·subst c80
           have H1 : ((water_ground_beyond.f k4 t270 t271 t272 t275 t278 x2_3 x121_4).bind fun t303 => (if mpHas t303 x285000_2 = true then (if (mpV t303 x285000_2) = (wrap64 (x20_3 - 1)) then (if x23_4 < 0 then (water_Sail.l4 k4 x2_3 x20_3 x22_3 t303 (wrap64 (x121_4 + 1)) l1_0 l1_1 t270 t271 t272 t275 t278 x285000_2) else (if t303 < x23_4 then (water_Sail.l4 k4 x2_3 x20_3 x22_3 t303 (wrap64 (x121_4 + 1)) l1_0 l1_1 t270 t271 t272 t275 t278 x285000_2) else (water_Sail.l4 k4 x2_3 x20_3 x22_3 x23_4 (wrap64 (x121_4 + 1)) l1_0 l1_1 t270 t271 t272 t275 t278 x285000_2))) else (water_Sail.l4 k4 x2_3 x20_3 x22_3 x23_4 (wrap64 (x121_4 + 1)) l1_0 l1_1 t270 t271 t272 t275 t278 x285000_2)) else (water_Sail.l4 k4 x2_3 x20_3 x22_3 x23_4 (wrap64 (x121_4 + 1)) l1_0 l1_1 t270 t271 t272 t275 t278 x285000_2))) = some (r1,r2):=by rw [if_pos rfl] at H;exact H
           clear H
           have H:=H1
           clear H1
           replace H:=Option.bind_eq_some_iff.mp H
           obtain ⟨t303,A810,H⟩:=H
           replace H : (if mpHas t303 x285000_2 = true then (if (mpV t303 x285000_2) = (wrap64 (x20_3 - 1)) then (if x23_4 < 0 then (water_Sail.l4 k4 x2_3 x20_3 x22_3 t303 (wrap64 (x121_4 + 1)) l1_0 l1_1 t270 t271 t272 t275 t278 x285000_2) else (if t303 < x23_4 then (water_Sail.l4 k4 x2_3 x20_3 x22_3 t303 (wrap64 (x121_4 + 1)) l1_0 l1_1 t270 t271 t272 t275 t278 x285000_2) else (water_Sail.l4 k4 x2_3 x20_3 x22_3 x23_4 (wrap64 (x121_4 + 1)) l1_0 l1_1 t270 t271 t272 t275 t278 x285000_2))) else (water_Sail.l4 k4 x2_3 x20_3 x22_3 x23_4 (wrap64 (x121_4 + 1)) l1_0 l1_1 t270 t271 t272 t275 t278 x285000_2)) else (water_Sail.l4 k4 x2_3 x20_3 x22_3 x23_4 (wrap64 (x121_4 + 1)) l1_0 l1_1 t270 t271 t272 t275 t278 x285000_2)) = some (r1,r2):=H
           have A81:=Aside0.mk A810
           clear A810
           by_cases c82 : mpHas t303 x285000_2 = true
           rotate_left
           ·rw [if_neg c82] at H
            have c82b0 : mpHas t303 x285000_2 = false:=by simpa using c82
            clear c82
            have H':=Aside0.mk H
            clear H
            have hnb126:=NB282_268.out
            have hnc126:=NB268_282.out
            have hnb127:=NB282_269.out
            have hnc127:=NB269_282.out
            have hnb128:=NB282_284.out
            have hnc128:=NB284_282.out
            obtain ⟨_,_,_,_,_,_,_,_,_,_⟩:=cells5 BK282.out
            have hnb130:=NB269_268.out
            have hnc130:=NB268_269.out
            have hnb131:=NB269_284.out
            have hnc131:=NB284_269.out
            obtain ⟨_,_,_,_⟩:=cells2 BK269.out
            go_wp2_with (first|((with_reducible refine gate_callee (f:=81) rfl ?_);refine goesL_ (some 128) rfl rfl Try.func81 (by kernel_rfl) rfl #[.agg #[.int .i64 t270,.int .i64 t271,.slice Ao17 t272.length co17,.slice Ao18 t275.length co18,.slice Ao19 t278.length co19],.agg #[.slice A1_0 l1_0.length c1_0,.slice A1_1 l1_1.length c1_1],.int .i64 x2_3,.int .i64 x121_4] rfl ga_ ?_;(with_reducible refine (water_ground_joined.calls k4 t270 t271 _ _ t272 _ _ t275 _ _ t278 _ _ l1_0 _ _ l1_1 x2_3 x121_4 true _ ?_ ?_ ?_ ?_ ?_ ?_ ?_ ?_ ?_ ?_ A79.out).mono ?_);exact Kd.C_up (Kd.R_reads' HO_283002.out).2.2;exact (Kd.R_reads' HO_283002.out).2.1;exact Kd.C_up (Kd.R_reads' HO_283003.out).2.2;exact (Kd.R_reads' HO_283003.out).2.1;exact Kd.C_up (Kd.R_reads' HO_283004.out).2.2;exact (Kd.R_reads' HO_283004.out).2.1;exact cq HR1_0;exact HC1_0.out;exact cq HR1_1;exact HC1_1.out;rintro e w133 ⟨rfl,hb⟩;refine ⟨_,rfl,?_⟩;replace HO_22:=rbw HO_22 hb;replace HO_283002:=rbw HO_283002 hb;replace HO_283003:=rbw HO_283003 hb;replace HO_283004:=rbw HO_283004 hb;replace BK268:=bkb BK268 hb;replace BK269:=bkb BK269 hb;replace BK282:=bkb BK282 hb;replace BK284:=bkb BK284 hb;replace HB:=hbs hb;obtain ⟨_,_,_,_,_,_,_,_,_,_⟩:=cells5 BK282.out)|((with_reducible refine gate_callee (f:=82) rfl ?_);refine goesL_ (some 132) rfl rfl Try.func82 (by kernel_rfl) rfl #[.agg #[.int .i64 t270,.int .i64 t271,.slice Ao17 t272.length co17,.slice Ao18 t275.length co18,.slice Ao19 t278.length co19],.int .i64 x2_3,.int .i64 x121_4] rfl ga_ ?_;(with_reducible refine (water_ground_beyond.calls k4 t270 t271 _ _ t272 _ _ t275 _ _ t278 x2_3 x121_4 t303 _ ?_ ?_ ?_ ?_ ?_ ?_ A81.out).mono ?_);exact Kd.C_up (Kd.R_reads' HO_283002.out).2.2;exact (Kd.R_reads' HO_283002.out).2.1;exact Kd.C_up (Kd.R_reads' HO_283003.out).2.2;exact (Kd.R_reads' HO_283003.out).2.1;exact Kd.C_up (Kd.R_reads' HO_283004.out).2.2;exact (Kd.R_reads' HO_283004.out).2.1;rintro e w135 ⟨rfl,hb⟩;refine ⟨_,rfl,?_⟩;replace HO_22:=rbw HO_22 hb;replace HO_283002:=rbw HO_283002 hb;replace HO_283003:=rbw HO_283003 hb;replace HO_283004:=rbw HO_283004 hb;replace BK268:=bkb BK268 hb;replace BK269:=bkb BK269 hb;replace BK282:=bkb BK282 hb;replace BK284:=bkb BK284 hb;replace HB:=hbs hb)|((with_reducible refine gate_dst (N:=136) rfl ?_);(try (refine gate_guard (by rfl) ?_;dsimp only));refine mp_look_ok rfl (t:=109) rfl (b:=gb284) (x:=t303) (l:=x285000_2) ?hm_ ?hk_ mpT_109 mpK_109 mpZ_109 ?hb_ ?_;(case hm_ => first|rfl|(go_simp;done));(case hk_ => first|rfl|(go_simp;done));(case hb_ => exact (blk_up BK284.out))))
            go_roundg k4
            case measure => have:=HK1.out;have:=HK2.out;have:=HK3.out;have:=HK4.out;omega
            case rel => exact ⟨(x23_4),(wrap64 (x121_4 + 1)),(by first|rfl|(simp;done)|(simp [*];done)),(by first|rfl|(simp;done)|(simp [*];done)),H',⟨by have:=HK1.out;have:=HK2.out;have:=HK3.out;have:=HK4.out;omega⟩,⟨Kd.R_up HO_22.out⟩,⟨Kd.R_up HO_283002.out⟩,⟨Kd.R_up HO_283003.out⟩,⟨Kd.R_up HO_283004.out⟩,⟨blk_up BK268.out⟩,⟨blk_up BK269.out⟩,⟨blk_up BK282.out⟩,⟨blk_up BK284.out⟩,⟨hb_⟩⟩
           rw [if_pos c82] at H
           have c82b0 : mpHas t303 x285000_2 = true:=c82
           clear c82
           by_cases c83 : (mpV t303 x285000_2) = (wrap64 (x20_3 - 1))
           rotate_left
           ·rw [if_neg c83] at H
            have c83b0:=bqf c83
            have c83b1:=bnt c83
            have H':=Aside0.mk H
            clear H
            have hnb116:=NB282_268.out
            have hnc116:=NB268_282.out
            have hnb117:=NB282_269.out
            have hnc117:=NB269_282.out
            have hnb118:=NB282_284.out
            have hnc118:=NB284_282.out
            obtain ⟨_,_,_,_,_,_,_,_,_,_⟩:=cells5 BK282.out
            have hnb120:=NB269_268.out
            have hnc120:=NB268_269.out
            have hnb121:=NB269_284.out
            have hnc121:=NB284_269.out
            obtain ⟨_,_,_,_⟩:=cells2 BK269.out
            go_wp2_with (first|((with_reducible refine gate_callee (f:=81) rfl ?_);refine goesL_ (some 128) rfl rfl Try.func81 (by kernel_rfl) rfl #[.agg #[.int .i64 t270,.int .i64 t271,.slice Ao17 t272.length co17,.slice Ao18 t275.length co18,.slice Ao19 t278.length co19],.agg #[.slice A1_0 l1_0.length c1_0,.slice A1_1 l1_1.length c1_1],.int .i64 x2_3,.int .i64 x121_4] rfl ga_ ?_;(with_reducible refine (water_ground_joined.calls k4 t270 t271 _ _ t272 _ _ t275 _ _ t278 _ _ l1_0 _ _ l1_1 x2_3 x121_4 true _ ?_ ?_ ?_ ?_ ?_ ?_ ?_ ?_ ?_ ?_ A79.out).mono ?_);exact Kd.C_up (Kd.R_reads' HO_283002.out).2.2;exact (Kd.R_reads' HO_283002.out).2.1;exact Kd.C_up (Kd.R_reads' HO_283003.out).2.2;exact (Kd.R_reads' HO_283003.out).2.1;exact Kd.C_up (Kd.R_reads' HO_283004.out).2.2;exact (Kd.R_reads' HO_283004.out).2.1;exact cq HR1_0;exact HC1_0.out;exact cq HR1_1;exact HC1_1.out;rintro e w123 ⟨rfl,hb⟩;refine ⟨_,rfl,?_⟩;replace HO_22:=rbw HO_22 hb;replace HO_283002:=rbw HO_283002 hb;replace HO_283003:=rbw HO_283003 hb;replace HO_283004:=rbw HO_283004 hb;replace BK268:=bkb BK268 hb;replace BK269:=bkb BK269 hb;replace BK282:=bkb BK282 hb;replace BK284:=bkb BK284 hb;replace HB:=hbs hb;obtain ⟨_,_,_,_,_,_,_,_,_,_⟩:=cells5 BK282.out)|((with_reducible refine gate_callee (f:=82) rfl ?_);refine goesL_ (some 132) rfl rfl Try.func82 (by kernel_rfl) rfl #[.agg #[.int .i64 t270,.int .i64 t271,.slice Ao17 t272.length co17,.slice Ao18 t275.length co18,.slice Ao19 t278.length co19],.int .i64 x2_3,.int .i64 x121_4] rfl ga_ ?_;(with_reducible refine (water_ground_beyond.calls k4 t270 t271 _ _ t272 _ _ t275 _ _ t278 x2_3 x121_4 t303 _ ?_ ?_ ?_ ?_ ?_ ?_ A81.out).mono ?_);exact Kd.C_up (Kd.R_reads' HO_283002.out).2.2;exact (Kd.R_reads' HO_283002.out).2.1;exact Kd.C_up (Kd.R_reads' HO_283003.out).2.2;exact (Kd.R_reads' HO_283003.out).2.1;exact Kd.C_up (Kd.R_reads' HO_283004.out).2.2;exact (Kd.R_reads' HO_283004.out).2.1;rintro e w125 ⟨rfl,hb⟩;refine ⟨_,rfl,?_⟩;replace HO_22:=rbw HO_22 hb;replace HO_283002:=rbw HO_283002 hb;replace HO_283003:=rbw HO_283003 hb;replace HO_283004:=rbw HO_283004 hb;replace BK268:=bkb BK268 hb;replace BK269:=bkb BK269 hb;replace BK282:=bkb BK282 hb;replace BK284:=bkb BK284 hb;replace HB:=hbs hb)|((with_reducible refine gate_dst (N:=136) rfl ?_);(try (refine gate_guard (by rfl) ?_;dsimp only));refine mp_look_ok rfl (t:=109) rfl (b:=gb284) (x:=t303) (l:=x285000_2) ?hm_ ?hk_ mpT_109 mpK_109 mpZ_109 ?hb_ ?_;(case hm_ => first|rfl|(go_simp;done));(case hk_ => first|rfl|(go_simp;done));(case hb_ => exact (blk_up BK284.out))))
            go_roundg k4
            case measure => have:=HK1.out;have:=HK2.out;have:=HK3.out;have:=HK4.out;omega
            case rel => exact ⟨(x23_4),(wrap64 (x121_4 + 1)),(by first|rfl|(simp;done)|(simp [*];done)),(by first|rfl|(simp;done)|(simp [*];done)),H',⟨by have:=HK1.out;have:=HK2.out;have:=HK3.out;have:=HK4.out;omega⟩,⟨Kd.R_up HO_22.out⟩,⟨Kd.R_up HO_283002.out⟩,⟨Kd.R_up HO_283003.out⟩,⟨Kd.R_up HO_283004.out⟩,⟨blk_up BK268.out⟩,⟨blk_up BK269.out⟩,⟨blk_up BK282.out⟩,⟨blk_up BK284.out⟩,⟨hb_⟩⟩
           rw [if_pos c83] at H
           have c83b0:=bqt c83
           have c83b1:=bnf c83
           clear c83
           by_cases c84 : x23_4 < 0
           ·rw [if_pos c84] at H
            have c84b0 : decide (x23_4 < 0) = true:=decide_eq_true c84
            clear c84
            have H':=Aside0.mk H
            clear H
            have hnb85:=NB282_268.out
            have hnc85:=NB268_282.out
            have hnb86:=NB282_269.out
            have hnc86:=NB269_282.out
            have hnb87:=NB282_284.out
            have hnc87:=NB284_282.out
            obtain ⟨_,_,_,_,_,_,_,_,_,_⟩:=cells5 BK282.out
            have hnb89:=NB269_268.out
            have hnc89:=NB268_269.out
            have hnb90:=NB269_284.out
            have hnc90:=NB284_269.out
            obtain ⟨_,_,_,_⟩:=cells2 BK269.out
            go_wp2_with (first|((with_reducible refine gate_callee (f:=81) rfl ?_);refine goesL_ (some 128) rfl rfl Try.func81 (by kernel_rfl) rfl #[.agg #[.int .i64 t270,.int .i64 t271,.slice Ao17 t272.length co17,.slice Ao18 t275.length co18,.slice Ao19 t278.length co19],.agg #[.slice A1_0 l1_0.length c1_0,.slice A1_1 l1_1.length c1_1],.int .i64 x2_3,.int .i64 x121_4] rfl ga_ ?_;(with_reducible refine (water_ground_joined.calls k4 t270 t271 _ _ t272 _ _ t275 _ _ t278 _ _ l1_0 _ _ l1_1 x2_3 x121_4 true _ ?_ ?_ ?_ ?_ ?_ ?_ ?_ ?_ ?_ ?_ A79.out).mono ?_);exact Kd.C_up (Kd.R_reads' HO_283002.out).2.2;exact (Kd.R_reads' HO_283002.out).2.1;exact Kd.C_up (Kd.R_reads' HO_283003.out).2.2;exact (Kd.R_reads' HO_283003.out).2.1;exact Kd.C_up (Kd.R_reads' HO_283004.out).2.2;exact (Kd.R_reads' HO_283004.out).2.1;exact cq HR1_0;exact HC1_0.out;exact cq HR1_1;exact HC1_1.out;rintro e w92 ⟨rfl,hb⟩;refine ⟨_,rfl,?_⟩;replace HO_22:=rbw HO_22 hb;replace HO_283002:=rbw HO_283002 hb;replace HO_283003:=rbw HO_283003 hb;replace HO_283004:=rbw HO_283004 hb;replace BK268:=bkb BK268 hb;replace BK269:=bkb BK269 hb;replace BK282:=bkb BK282 hb;replace BK284:=bkb BK284 hb;replace HB:=hbs hb;obtain ⟨_,_,_,_,_,_,_,_,_,_⟩:=cells5 BK282.out)|((with_reducible refine gate_callee (f:=82) rfl ?_);refine goesL_ (some 132) rfl rfl Try.func82 (by kernel_rfl) rfl #[.agg #[.int .i64 t270,.int .i64 t271,.slice Ao17 t272.length co17,.slice Ao18 t275.length co18,.slice Ao19 t278.length co19],.int .i64 x2_3,.int .i64 x121_4] rfl ga_ ?_;(with_reducible refine (water_ground_beyond.calls k4 t270 t271 _ _ t272 _ _ t275 _ _ t278 x2_3 x121_4 t303 _ ?_ ?_ ?_ ?_ ?_ ?_ A81.out).mono ?_);exact Kd.C_up (Kd.R_reads' HO_283002.out).2.2;exact (Kd.R_reads' HO_283002.out).2.1;exact Kd.C_up (Kd.R_reads' HO_283003.out).2.2;exact (Kd.R_reads' HO_283003.out).2.1;exact Kd.C_up (Kd.R_reads' HO_283004.out).2.2;exact (Kd.R_reads' HO_283004.out).2.1;rintro e w94 ⟨rfl,hb⟩;refine ⟨_,rfl,?_⟩;replace HO_22:=rbw HO_22 hb;replace HO_283002:=rbw HO_283002 hb;replace HO_283003:=rbw HO_283003 hb;replace HO_283004:=rbw HO_283004 hb;replace BK268:=bkb BK268 hb;replace BK269:=bkb BK269 hb;replace BK282:=bkb BK282 hb;replace BK284:=bkb BK284 hb;replace HB:=hbs hb)|((with_reducible refine gate_dst (N:=136) rfl ?_);(try (refine gate_guard (by rfl) ?_;dsimp only));refine mp_look_ok rfl (t:=109) rfl (b:=gb284) (x:=t303) (l:=x285000_2) ?hm_ ?hk_ mpT_109 mpK_109 mpZ_109 ?hb_ ?_;(case hm_ => first|rfl|(go_simp;done));(case hk_ => first|rfl|(go_simp;done));(case hb_ => exact (blk_up BK284.out))))
            go_roundg k4
            case measure => have:=HK1.out;have:=HK2.out;have:=HK3.out;have:=HK4.out;omega
            case rel => exact ⟨(t303),(wrap64 (x121_4 + 1)),(by first|rfl|(simp;done)|(simp [*];done)),(by first|rfl|(simp;done)|(simp [*];done)),H',⟨by have:=HK1.out;have:=HK2.out;have:=HK3.out;have:=HK4.out;omega⟩,⟨Kd.R_up HO_22.out⟩,⟨Kd.R_up HO_283002.out⟩,⟨Kd.R_up HO_283003.out⟩,⟨Kd.R_up HO_283004.out⟩,⟨blk_up BK268.out⟩,⟨blk_up BK269.out⟩,⟨blk_up BK282.out⟩,⟨blk_up BK284.out⟩,⟨hb_⟩⟩
           rw [if_neg c84] at H
           have c84b0 : decide (x23_4 < 0) = false:=decide_eq_false c84
           clear c84
           by_cases c95 : t303 < x23_4
           ·rw [if_pos c95] at H
            have c95b0 : decide (t303 < x23_4) = true:=decide_eq_true c95
            clear c95
            have H':=Aside0.mk H
            clear H
            have hnb96:=NB282_268.out
            have hnc96:=NB268_282.out
            have hnb97:=NB282_269.out
            have hnc97:=NB269_282.out
            have hnb98:=NB282_284.out
            have hnc98:=NB284_282.out
            obtain ⟨_,_,_,_,_,_,_,_,_,_⟩:=cells5 BK282.out
            have hnb100:=NB269_268.out
            have hnc100:=NB268_269.out
            have hnb101:=NB269_284.out
            have hnc101:=NB284_269.out
            obtain ⟨_,_,_,_⟩:=cells2 BK269.out
            go_wp2_with (first|((with_reducible refine gate_callee (f:=81) rfl ?_);refine goesL_ (some 128) rfl rfl Try.func81 (by kernel_rfl) rfl #[.agg #[.int .i64 t270,.int .i64 t271,.slice Ao17 t272.length co17,.slice Ao18 t275.length co18,.slice Ao19 t278.length co19],.agg #[.slice A1_0 l1_0.length c1_0,.slice A1_1 l1_1.length c1_1],.int .i64 x2_3,.int .i64 x121_4] rfl ga_ ?_;(with_reducible refine (water_ground_joined.calls k4 t270 t271 _ _ t272 _ _ t275 _ _ t278 _ _ l1_0 _ _ l1_1 x2_3 x121_4 true _ ?_ ?_ ?_ ?_ ?_ ?_ ?_ ?_ ?_ ?_ A79.out).mono ?_);exact Kd.C_up (Kd.R_reads' HO_283002.out).2.2;exact (Kd.R_reads' HO_283002.out).2.1;exact Kd.C_up (Kd.R_reads' HO_283003.out).2.2;exact (Kd.R_reads' HO_283003.out).2.1;exact Kd.C_up (Kd.R_reads' HO_283004.out).2.2;exact (Kd.R_reads' HO_283004.out).2.1;exact cq HR1_0;exact HC1_0.out;exact cq HR1_1;exact HC1_1.out;rintro e w103 ⟨rfl,hb⟩;refine ⟨_,rfl,?_⟩;replace HO_22:=rbw HO_22 hb;replace HO_283002:=rbw HO_283002 hb;replace HO_283003:=rbw HO_283003 hb;replace HO_283004:=rbw HO_283004 hb;replace BK268:=bkb BK268 hb;replace BK269:=bkb BK269 hb;replace BK282:=bkb BK282 hb;replace BK284:=bkb BK284 hb;replace HB:=hbs hb;obtain ⟨_,_,_,_,_,_,_,_,_,_⟩:=cells5 BK282.out)|((with_reducible refine gate_callee (f:=82) rfl ?_);refine goesL_ (some 132) rfl rfl Try.func82 (by kernel_rfl) rfl #[.agg #[.int .i64 t270,.int .i64 t271,.slice Ao17 t272.length co17,.slice Ao18 t275.length co18,.slice Ao19 t278.length co19],.int .i64 x2_3,.int .i64 x121_4] rfl ga_ ?_;(with_reducible refine (water_ground_beyond.calls k4 t270 t271 _ _ t272 _ _ t275 _ _ t278 x2_3 x121_4 t303 _ ?_ ?_ ?_ ?_ ?_ ?_ A81.out).mono ?_);exact Kd.C_up (Kd.R_reads' HO_283002.out).2.2;exact (Kd.R_reads' HO_283002.out).2.1;exact Kd.C_up (Kd.R_reads' HO_283003.out).2.2;exact (Kd.R_reads' HO_283003.out).2.1;exact Kd.C_up (Kd.R_reads' HO_283004.out).2.2;exact (Kd.R_reads' HO_283004.out).2.1;rintro e w105 ⟨rfl,hb⟩;refine ⟨_,rfl,?_⟩;replace HO_22:=rbw HO_22 hb;replace HO_283002:=rbw HO_283002 hb;replace HO_283003:=rbw HO_283003 hb;replace HO_283004:=rbw HO_283004 hb;replace BK268:=bkb BK268 hb;replace BK269:=bkb BK269 hb;replace BK282:=bkb BK282 hb;replace BK284:=bkb BK284 hb;replace HB:=hbs hb)|((with_reducible refine gate_dst (N:=136) rfl ?_);(try (refine gate_guard (by rfl) ?_;dsimp only));refine mp_look_ok rfl (t:=109) rfl (b:=gb284) (x:=t303) (l:=x285000_2) ?hm_ ?hk_ mpT_109 mpK_109 mpZ_109 ?hb_ ?_;(case hm_ => first|rfl|(go_simp;done));(case hk_ => first|rfl|(go_simp;done));(case hb_ => exact (blk_up BK284.out))))
            go_roundg k4
            case measure => have:=HK1.out;have:=HK2.out;have:=HK3.out;have:=HK4.out;omega
            case rel => exact ⟨(t303),(wrap64 (x121_4 + 1)),(by first|rfl|(simp;done)|(simp [*];done)),(by first|rfl|(simp;done)|(simp [*];done)),H',⟨by have:=HK1.out;have:=HK2.out;have:=HK3.out;have:=HK4.out;omega⟩,⟨Kd.R_up HO_22.out⟩,⟨Kd.R_up HO_283002.out⟩,⟨Kd.R_up HO_283003.out⟩,⟨Kd.R_up HO_283004.out⟩,⟨blk_up BK268.out⟩,⟨blk_up BK269.out⟩,⟨blk_up BK282.out⟩,⟨blk_up BK284.out⟩,⟨hb_⟩⟩
           ·rw [if_neg c95] at H
            have c95b0 : decide (t303 < x23_4) = false:=decide_eq_false c95
            clear c95
            have H':=Aside0.mk H
            clear H
            have hnb106:=NB282_268.out
            have hnc106:=NB268_282.out
            have hnb107:=NB282_269.out
            have hnc107:=NB269_282.out
            have hnb108:=NB282_284.out
            have hnc108:=NB284_282.out
            obtain ⟨_,_,_,_,_,_,_,_,_,_⟩:=cells5 BK282.out
            have hnb110:=NB269_268.out
            have hnc110:=NB268_269.out
            have hnb111:=NB269_284.out
            have hnc111:=NB284_269.out
            obtain ⟨_,_,_,_⟩:=cells2 BK269.out
            go_wp2_with (first|((with_reducible refine gate_callee (f:=81) rfl ?_);refine goesL_ (some 128) rfl rfl Try.func81 (by kernel_rfl) rfl #[.agg #[.int .i64 t270,.int .i64 t271,.slice Ao17 t272.length co17,.slice Ao18 t275.length co18,.slice Ao19 t278.length co19],.agg #[.slice A1_0 l1_0.length c1_0,.slice A1_1 l1_1.length c1_1],.int .i64 x2_3,.int .i64 x121_4] rfl ga_ ?_;(with_reducible refine (water_ground_joined.calls k4 t270 t271 _ _ t272 _ _ t275 _ _ t278 _ _ l1_0 _ _ l1_1 x2_3 x121_4 true _ ?_ ?_ ?_ ?_ ?_ ?_ ?_ ?_ ?_ ?_ A79.out).mono ?_);exact Kd.C_up (Kd.R_reads' HO_283002.out).2.2;exact (Kd.R_reads' HO_283002.out).2.1;exact Kd.C_up (Kd.R_reads' HO_283003.out).2.2;exact (Kd.R_reads' HO_283003.out).2.1;exact Kd.C_up (Kd.R_reads' HO_283004.out).2.2;exact (Kd.R_reads' HO_283004.out).2.1;exact cq HR1_0;exact HC1_0.out;exact cq HR1_1;exact HC1_1.out;rintro e w113 ⟨rfl,hb⟩;refine ⟨_,rfl,?_⟩;replace HO_22:=rbw HO_22 hb;replace HO_283002:=rbw HO_283002 hb;replace HO_283003:=rbw HO_283003 hb;replace HO_283004:=rbw HO_283004 hb;replace BK268:=bkb BK268 hb;replace BK269:=bkb BK269 hb;replace BK282:=bkb BK282 hb;replace BK284:=bkb BK284 hb;replace HB:=hbs hb;obtain ⟨_,_,_,_,_,_,_,_,_,_⟩:=cells5 BK282.out)|((with_reducible refine gate_callee (f:=82) rfl ?_);refine goesL_ (some 132) rfl rfl Try.func82 (by kernel_rfl) rfl #[.agg #[.int .i64 t270,.int .i64 t271,.slice Ao17 t272.length co17,.slice Ao18 t275.length co18,.slice Ao19 t278.length co19],.int .i64 x2_3,.int .i64 x121_4] rfl ga_ ?_;(with_reducible refine (water_ground_beyond.calls k4 t270 t271 _ _ t272 _ _ t275 _ _ t278 x2_3 x121_4 t303 _ ?_ ?_ ?_ ?_ ?_ ?_ A81.out).mono ?_);exact Kd.C_up (Kd.R_reads' HO_283002.out).2.2;exact (Kd.R_reads' HO_283002.out).2.1;exact Kd.C_up (Kd.R_reads' HO_283003.out).2.2;exact (Kd.R_reads' HO_283003.out).2.1;exact Kd.C_up (Kd.R_reads' HO_283004.out).2.2;exact (Kd.R_reads' HO_283004.out).2.1;rintro e w115 ⟨rfl,hb⟩;refine ⟨_,rfl,?_⟩;replace HO_22:=rbw HO_22 hb;replace HO_283002:=rbw HO_283002 hb;replace HO_283003:=rbw HO_283003 hb;replace HO_283004:=rbw HO_283004 hb;replace BK268:=bkb BK268 hb;replace BK269:=bkb BK269 hb;replace BK282:=bkb BK282 hb;replace BK284:=bkb BK284 hb;replace HB:=hbs hb)|((with_reducible refine gate_dst (N:=136) rfl ?_);(try (refine gate_guard (by rfl) ?_;dsimp only));refine mp_look_ok rfl (t:=109) rfl (b:=gb284) (x:=t303) (l:=x285000_2) ?hm_ ?hk_ mpT_109 mpK_109 mpZ_109 ?hb_ ?_;(case hm_ => first|rfl|(go_simp;done));(case hk_ => first|rfl|(go_simp;done));(case hb_ => exact (blk_up BK284.out))))
            go_roundg k4
            case measure => have:=HK1.out;have:=HK2.out;have:=HK3.out;have:=HK4.out;omega
            case rel => exact ⟨(x23_4),(wrap64 (x121_4 + 1)),(by first|rfl|(simp;done)|(simp [*];done)),(by first|rfl|(simp;done)|(simp [*];done)),H',⟨by have:=HK1.out;have:=HK2.out;have:=HK3.out;have:=HK4.out;omega⟩,⟨Kd.R_up HO_22.out⟩,⟨Kd.R_up HO_283002.out⟩,⟨Kd.R_up HO_283003.out⟩,⟨Kd.R_up HO_283004.out⟩,⟨blk_up BK268.out⟩,⟨blk_up BK269.out⟩,⟨blk_up BK282.out⟩,⟨blk_up BK284.out⟩,⟨hb_⟩⟩
          ·replace c80:=Bool.eq_false_iff.mpr c80
           subst c80
           have H1 : (water_Sail.l4 k4 x2_3 x20_3 x22_3 x23_4 (wrap64 (x121_4 + 1)) l1_0 l1_1 t270 t271 t272 t275 t278 x285000_2) = some (r1,r2):=by rw [if_neg (show ¬ (false = true) by decide)] at H;exact H
           clear H
           have H:=H1
           clear H1
           have H':=Aside0.mk H
           clear H
           have hnb136:=NB282_268.out
           have hnc136:=NB268_282.out
           have hnb137:=NB282_269.out
           have hnc137:=NB269_282.out
           have hnb138:=NB282_284.out
           have hnc138:=NB284_282.out
           obtain ⟨_,_,_,_,_,_,_,_,_,_⟩:=cells5 BK282.out
           have hnb140:=NB269_268.out
           have hnc140:=NB268_269.out
           have hnb141:=NB269_284.out
           have hnc141:=NB284_269.out
           obtain ⟨_,_,_,_⟩:=cells2 BK269.out
           go_wp2_with (first|((with_reducible refine gate_callee (f:=81) rfl ?_);refine goesL_ (some 128) rfl rfl Try.func81 (by kernel_rfl) rfl #[.agg #[.int .i64 t270,.int .i64 t271,.slice Ao17 t272.length co17,.slice Ao18 t275.length co18,.slice Ao19 t278.length co19],.agg #[.slice A1_0 l1_0.length c1_0,.slice A1_1 l1_1.length c1_1],.int .i64 x2_3,.int .i64 x121_4] rfl ga_ ?_;(with_reducible refine (water_ground_joined.calls k4 t270 t271 _ _ t272 _ _ t275 _ _ t278 _ _ l1_0 _ _ l1_1 x2_3 x121_4 false _ ?_ ?_ ?_ ?_ ?_ ?_ ?_ ?_ ?_ ?_ A79.out).mono ?_);exact Kd.C_up (Kd.R_reads' HO_283002.out).2.2;exact (Kd.R_reads' HO_283002.out).2.1;exact Kd.C_up (Kd.R_reads' HO_283003.out).2.2;exact (Kd.R_reads' HO_283003.out).2.1;exact Kd.C_up (Kd.R_reads' HO_283004.out).2.2;exact (Kd.R_reads' HO_283004.out).2.1;exact cq HR1_0;exact HC1_0.out;exact cq HR1_1;exact HC1_1.out;rintro e w143 ⟨rfl,hb⟩;refine ⟨_,rfl,?_⟩;replace HO_22:=rbw HO_22 hb;replace HO_283002:=rbw HO_283002 hb;replace HO_283003:=rbw HO_283003 hb;replace HO_283004:=rbw HO_283004 hb;replace BK268:=bkb BK268 hb;replace BK269:=bkb BK269 hb;replace BK282:=bkb BK282 hb;replace BK284:=bkb BK284 hb;replace HB:=hbs hb))
           go_roundg k4
           case measure => have:=HK1.out;have:=HK2.out;have:=HK3.out;have:=HK4.out;omega
           case rel => exact ⟨(x23_4),(wrap64 (x121_4 + 1)),(by first|rfl|(simp;done)|(simp [*];done)),(by first|rfl|(simp;done)|(simp [*];done)),H',⟨by have:=HK1.out;have:=HK2.out;have:=HK3.out;have:=HK4.out;omega⟩,⟨Kd.R_up HO_22.out⟩,⟨Kd.R_up HO_283002.out⟩,⟨Kd.R_up HO_283003.out⟩,⟨Kd.R_up HO_283004.out⟩,⟨blk_up BK268.out⟩,⟨blk_up BK269.out⟩,⟨blk_up BK282.out⟩,⟨blk_up BK284.out⟩,⟨hb_⟩⟩
     rw [if_pos c46] at H
     have c46b0 : decide (0 < (x15_2.length : Int)) = true:=decide_eq_true c46
     have c46b1 : decide (0 < x15_2.length) = true:=decide_eq_true (by omega)
     clear c46
     have H':=Aside0.mk H
     clear H
     obtain ⟨Ao47,co47,eo47,_⟩:=Kd.Q_slice HO_15.out
     subst eo47
     go_wp2
     go_loopg [15,70] k2 (fun kq v15 v70 w' => ∃ (x15_3 : List Int) (x70_3 : Int) (x285000_3 : List (Int × Int)),v70 = .int .i64 x70_3 ∧ Aside0 (water_Sail.l2 kq a2 x15_3 x70_3 l1_0 l1_1 t270 t271 t272 t275 t278 x285000_3 = some (r1,r2)) ∧ Aside0 (kq ≤ k2) ∧ Aside0 (Kd.Q (Kd.int .i64) 3 w' w.heap.size (fun k_ => some k_ ≠ ((.slice Ao17 t272.length co17) : Value).ownBlock ∧ some k_ ≠ ((.slice Ao18 t275.length co18) : Value).ownBlock) v15 x15_3) ∧ Aside0 (Kd.R (Kd.int .i64) 3 w' w.heap.size (fun k_ => some k_ ≠ (v15 : Value).ownBlock ∧ some k_ ≠ ((.slice Ao18 t275.length co18) : Value).ownBlock) (.slice Ao17 t272.length co17) t272) ∧ Aside0 (Kd.R (Kd.int .i64) 3 w' w.heap.size (fun k_ => some k_ ≠ (v15 : Value).ownBlock ∧ some k_ ≠ ((.slice Ao17 t272.length co17) : Value).ownBlock) (.slice Ao18 t275.length co18) t275) ∧ Aside0 (Kd.R Kd.bool 4 w' w.heap.size (fun _ => True) (.slice Ao19 t278.length co19) t278) ∧ Aside0 (w'.heap[gb268]? = some (.cells #[.int .i64 a0_0,.int .i64 a0_1,(.slice A0_2 l0_2.length c0_2)] 53 (0,0))) ∧ Aside0 (w'.heap[gb269]? = some (.cells #[(.slice A1_0 l1_0.length c1_0),(.slice A1_1 l1_1.length c1_1)] 55 (0,0))) ∧ Aside0 (w'.heap[gb282]? = some (.cells #[.int .i64 t270,.int .i64 t271,(.slice Ao17 t272.length co17),(.slice Ao18 t275.length co18),(.slice Ao19 t278.length co19)] 104 (0,0))) ∧ Aside0 (w'.heap[gb284]? = some (mpO x285000_3)) ∧ Aside0 (Below w.heap.size w w'))
     case atStart => exact ⟨(x15_2),(0),(x285000_2),(by first|rfl|(simp;done)|(simp [*];done)),H',⟨Nat.le_refl _⟩,⟨Kd.Q_up HO_15.out⟩,⟨Kd.R_up HO_283002.out⟩,⟨Kd.R_up HO_283003.out⟩,⟨Kd.R_up HO_283004.out⟩,⟨blk_up BK268.out⟩,⟨blk_up BK269.out⟩,⟨blk_up BK282.out⟩,⟨blk_up BK284.out⟩,⟨hb_⟩⟩
     case round =>
      clear H'
      obtain ⟨x15_3,x70_3,x285000_3,rfl,HA,HK3,HO_15,HO_283002,HO_283003,HO_283004,BK268,BK269,BK282,BK284,HB⟩:=hrel
      cases gk with
      | zero => exact absurd HA.out (by simp [water_Sail.l2])
      | succ k3 =>
       have H:=HA.out
       clear HA
       simp only [water_Sail.l2] at H
       by_cases c48 : x70_3 < 4
       rotate_left
       ·rw [if_neg c48] at H
        have c48b0 : decide (x70_3 < 4) = false:=decide_eq_false c48
        clear c48
        replace H:=ifp_ H;obtain ⟨c70,H⟩:=H
        have c70b0:=eq_true c70
        have c70b1 : decide (1 ≤ (x15_3.length : Int)) = true:=decide_eq_true c70
        clear c70
        obtain ⟨y296,hy296⟩ : ∃ y_ : List Int,y_ = (x15_3.drop (1 : Int).toNat):=⟨_,rfl⟩
        replace H : (water_Sail.l1 k3 a2 y296 l1_0 l1_1 t270 t271 t272 t275 t278 x285000_3) = some (r1,r2):=by first|(rw [hy296];with_reducible exact H)|(have H2_:=(Option.bind_some _ _).symm.trans H;rw [hy296];with_reducible exact H2_)|(have H2_:=(Option.bind_some _ _).symm.trans H;with_reducible exact H2_)|with_reducible exact H|(rw [hy296];exact H)|exact H
        have Ny296:=Aside0.mk hy296
        clear hy296
        have H':=Aside0.mk H
        clear H
        obtain ⟨Ao71,co71,eo71,_⟩:=Kd.Q_slice HO_15.out
        subst eo71
        have q72 : (1 : Int) ≤ ((x15_3.length : Int) : Int):=of_decide_eq_true (by first|(with_reducible assumption)|assumption)
        obtain ⟨i072,hi072,_,hsz72,_⟩:=info_parts info3
        have hcut72:=cut_from (P:=Try.prog) 22 3 .i64 Try.underlying22 hi072 1 hsz72 Ao71 x15_3.length co71 1 (by omega) q72
        have hr72:=Kd.Q_drop (k:=(1 : Int).toNat) HO_15.out (by omega)
        obtain ⟨A72,hA72⟩ : ∃ A1,A1 = (if co71 = (1 : Int).toNat then Ao71 else (Ao71 : Option Addr).map (·.add ((1 : Int).toNat * 1))):=⟨_,rfl⟩
        obtain ⟨c72,hc72⟩ : ∃ c1,c1 = co71 - (1 : Int).toNat:=⟨_,rfl⟩
        have hy72 : y296.length = x15_3.length - (1 : Int).toNat:=(by rw [Ny296.out,List.length_drop])
        rw [← Ny296.out] at hr72
        rw [← hy72,← hA72,← hc72] at hcut72
        replace hr72 : Kd.Q (Kd.int .i64) 3 wr w.heap.size (fun k_ => some k_ ≠ (.slice Ao17 t272.length co17 : Value).ownBlock ∧ some k_ ≠ (.slice Ao18 t275.length co18 : Value).ownBlock) (.slice A72 y296.length c72) y296:=(by rw [hA72,hc72,hy72];exact hr72)
        have HE72 : Aside0 ((Value.slice A72 y296.length c72).ownBlock = (.slice Ao71 x15_3.length co71 : Value).ownBlock):=⟨by rw [hA72];split <;> (cases (Ao71 : Option Addr) <;> rfl)⟩
        clear hy72 hi072 hsz72 HO_15 hA72 hc72
        have HO298:=Aside0.mk hr72
        clear hr72
        replace q72:=eq_true q72
        have n_:=Aside0.mk (Kd.R_mono (ok':=fun k_ => (some k_ ≠ (.slice A72 y296.length c72 : Value).ownBlock ∧ some k_ ≠ (.slice Ao18 t275.length co18 : Value).ownBlock)) HO_283002.out (fun k_ hk => ⟨(by rw [HE72.out];exact hk.1),hk.2⟩))
        clear HO_283002
        have HO_283002:=n_
        clear n_
        have n_:=Aside0.mk (Kd.R_mono (ok':=fun k_ => (some k_ ≠ (.slice A72 y296.length c72 : Value).ownBlock ∧ some k_ ≠ (.slice Ao17 t272.length co17 : Value).ownBlock)) HO_283003.out (fun k_ hk => ⟨(by rw [HE72.out];exact hk.1),hk.2⟩))
        clear HO_283003
        have HO_283003:=n_
        clear n_
        go_wp2
        go_roundg k3
        case measure => have:=HK1.out;have:=HK2.out;have:=HK3.out;omega
        case rel => exact ⟨(y296),(x285000_3),H',⟨by have:=HK1.out;have:=HK2.out;have:=HK3.out;omega⟩,⟨Kd.Q_up HO298.out⟩,⟨Kd.R_up HO_283002.out⟩,⟨Kd.R_up HO_283003.out⟩,⟨Kd.R_up HO_283004.out⟩,⟨blk_up BK268.out⟩,⟨blk_up BK269.out⟩,⟨blk_up BK282.out⟩,⟨blk_up BK284.out⟩,⟨hb_⟩⟩
       rw [if_pos c48] at H
       have c48b0 : decide (x70_3 < 4) = true:=decide_eq_true c48
       clear c48
       replace H:=ifp_ H;obtain ⟨c49,H⟩:=H
       have c49b0 : decide (0 < (x15_3.length : Int)) = true:=decide_eq_true c49
       have c49b1 : decide (0 < x15_3.length) = true:=decide_eq_true (by omega)
       clear c49
       replace H:=Option.bind_eq_some_iff.mp H
       obtain ⟨t289,A500,H⟩:=H
       replace H : (if t289 = true then ((water_ground_beyond.f k3 t270 t271 t272 t275 t278 (rd x15_3 0) x70_3).bind fun t291 => (if mpHas t291 x285000_3 = true then (water_Sail.l2 k3 a2 x15_3 (wrap64 (x70_3 + 1)) l1_0 l1_1 t270 t271 t272 t275 t278 x285000_3) else (if x15_3.length < 17592186044416 then (water_Sail.l2 k3 a2 (x15_3 ++ [t291]) (wrap64 (x70_3 + 1)) l1_0 l1_1 t270 t271 t272 t275 t278 (mpPut t291 (wrap64 ((mpV (rd x15_3 0) x285000_3) + 1)) x285000_3)) else (none)))) else (water_Sail.l2 k3 a2 x15_3 (wrap64 (x70_3 + 1)) l1_0 l1_1 t270 t271 t272 t275 t278 x285000_3)) = some (r1,r2):=H
       have A50:=Aside0.mk A500
       clear A500
       by_cases c51 : t289 = true
       ·subst c51
        have H1 : ((water_ground_beyond.f k3 t270 t271 t272 t275 t278 (rd x15_3 0) x70_3).bind fun t291 => (if mpHas t291 x285000_3 = true then (water_Sail.l2 k3 a2 x15_3 (wrap64 (x70_3 + 1)) l1_0 l1_1 t270 t271 t272 t275 t278 x285000_3) else (if x15_3.length < 17592186044416 then (water_Sail.l2 k3 a2 (x15_3 ++ [t291]) (wrap64 (x70_3 + 1)) l1_0 l1_1 t270 t271 t272 t275 t278 (mpPut t291 (wrap64 ((mpV (rd x15_3 0) x285000_3) + 1)) x285000_3)) else (none)))) = some (r1,r2):=by rw [if_pos rfl] at H;exact H
        clear H
        have H:=H1
        clear H1
        replace H:=Option.bind_eq_some_iff.mp H
        obtain ⟨t291,A520,H⟩:=H
        replace H : (if mpHas t291 x285000_3 = true then (water_Sail.l2 k3 a2 x15_3 (wrap64 (x70_3 + 1)) l1_0 l1_1 t270 t271 t272 t275 t278 x285000_3) else (if x15_3.length < 17592186044416 then (water_Sail.l2 k3 a2 (x15_3 ++ [t291]) (wrap64 (x70_3 + 1)) l1_0 l1_1 t270 t271 t272 t275 t278 (mpPut t291 (wrap64 ((mpV (rd x15_3 0) x285000_3) + 1)) x285000_3)) else (none))) = some (r1,r2):=H
        have A52:=Aside0.mk A520
        clear A520
        by_cases c53 : mpHas t291 x285000_3 = true
        ·rw [if_pos c53] at H
         have c53b0 : mpHas t291 x285000_3 = true:=c53
         clear c53
         have H':=Aside0.mk H
         clear H
         try go_wp2
         replace HO_15:=Aside0.mk (Kd.Q_drew HO_15.out)
         replace HO_283002:=Aside0.mk (Kd.R_drew HO_283002.out)
         replace HO_283003:=Aside0.mk (Kd.R_drew HO_283003.out)
         replace HO_283004:=Aside0.mk (Kd.R_drew HO_283004.out)
         replace BK268:=Aside0.mk (blk_drew BK268.out)
         replace BK269:=Aside0.mk (blk_drew BK269.out)
         replace BK282:=Aside0.mk (blk_drew BK282.out)
         replace BK284:=Aside0.mk (blk_drew BK284.out)
         replace HB:=Aside0.mk (below_drew1 HB.out)
         obtain ⟨Ao55,co55,eo55,_⟩:=Kd.Q_slice HO_15.out
         (first|subst eo55|(injection eo55 with f1_ f2_ f3_;have f4_:=f1_.symm;have f5_:=f3_.symm;clear f1_ f2_ f3_;subst f4_;subst f5_))
         have p288 : 0 ≤ (0 : Int):=(by omega)
         have q288 : 0 < (x15_3.length : Int):=of_decide_eq_true (by first|(with_reducible assumption)|assumption)
         obtain ⟨ad288,e288,hx288_0⟩:=Kd.at_int (Kd.Q_reads' HO_15.out).2.2 0 p288 q288
         cases e288
         have qi288 : (0 < x15_3.length) = True:=eq_true (by omega)
         (try rw [show ((0 : Int)).toNat = 0 from rfl] at hx288_0)
         (try rw [Addr.add_zero'] at hx288_0)
         replace p288:=eq_true p288
         replace q288:=eq_true q288
         refine start_ (n:=7) (S:=fun w' => w'.cell? ⟨gb282,0,none⟩ = some (.int .i64 t270) ∧ w'.cell? ⟨gb282,1,none⟩ = some (.int .i64 t271) ∧ w'.cell? ⟨gb282,2,none⟩ = some (.slice Ao17 t272.length co17) ∧ w'.cell? ⟨gb282,3,none⟩ = some (.slice Ao18 t275.length co18) ∧ w'.cell? ⟨gb282,4,none⟩ = some (.slice Ao19 t278.length co19) ∧ w'.cell? ⟨gb269,0,none⟩ = some (.slice A1_0 l1_0.length c1_0) ∧ w'.cell? ⟨gb269,1,none⟩ = some (.slice A1_1 l1_1.length c1_1) ∧ w'.cell? ad288 = some (.int .i64 (rd x15_3 0))) (ds:=[]) #[false,false,false,false,false,false,false] (by kernel_rfl) rfl rfl ⟨(blk_cell BK282.out 0).trans rfl,(blk_cell BK282.out 1).trans rfl,(blk_cell BK282.out 2).trans rfl,(blk_cell BK282.out 3).trans rfl,(blk_cell BK282.out 4).trans rfl,(blk_cell BK269.out 0).trans rfl,(blk_cell BK269.out 1).trans rfl,hx288_0⟩ (fun hHeld => ?_)
         generalize wr.drew = w54 at HO_15 HO_283002 HO_283003 HO_283004 BK268 BK269 BK282 BK284 HB hx288_0 hHeld ⊢
         refine pI 2 (some 75) ?_
         refine pI 3 (some 76) ?_
         refine pI 5 (some 78) ?_
         refine tI8 0 (some 73) hHeld ?_
         refine tI8 1 (some 74) hHeld ?_
         refine tI8 4 (some 77) hHeld ?_
         refine oI 6 (some 79) (fun K hK => ?_)
         refine goes_ Try.func81 (by kernel_rfl) rfl #[.agg #[.int .i64 t270,.int .i64 t271,.slice Ao17 t272.length co17,.slice Ao18 t275.length co18,.slice Ao19 t278.length co19],.agg #[.slice A1_0 l1_0.length c1_0,.slice A1_1 l1_1.length c1_1],.int .i64 (rd x15_3 0),.int .i64 x70_3] (by rfl) rfl rfl ga_ ?_
         with_reducible refine (water_ground_joined.calls k3 t270 t271 _ _ t272 _ _ t275 _ _ t278 _ _ l1_0 _ _ l1_1 (rd x15_3 0) x70_3 true _ ?side1 ?side2 ?side3 ?side4 ?side5 ?side6 ?side7 ?side8 ?side9 ?side10 A50.out).mono ?_
         (case side1 => exact Kd.C_up (Kd.R_reads' HO_283002.out).2.2)
         (case side2 => exact (Kd.R_reads' HO_283002.out).2.1)
         (case side3 => exact Kd.C_up (Kd.R_reads' HO_283003.out).2.2)
         (case side4 => exact (Kd.R_reads' HO_283003.out).2.1)
         (case side5 => exact Kd.C_up (Kd.R_reads' HO_283004.out).2.2)
         (case side6 => exact (Kd.R_reads' HO_283004.out).2.1)
         (case side7 => exact cq HR1_0)
         (case side8 => exact HC1_0.out)
         (case side9 => exact cq HR1_1)
         (case side10 => exact HC1_1.out)
         rintro e w56 ⟨rfl,hb⟩
         have HS7_:=(hb.cell (World.block_lt_of_cell? _ _ (hHeld.2.2.2.2.2.2.2))).trans (hHeld.2.2.2.2.2.2.2)
         refine ⟨_,rfl,?_⟩
         have n0_:=Aside0.mk (Kd.Q_below (Kd.Q_up HO_15.out) hb)
         have n1_:=rbw HO_283002 hb
         have n2_:=rbw HO_283003 hb
         have n3_:=rbw HO_283004 hb
         have n4_:=bkb BK268 hb
         have n5_:=bkb BK269 hb
         have n6_:=bkb BK282 hb
         have n7_:=bkb BK284 hb
         have n8_:=Aside0.mk (below_step (hb_) hb)
         clear HO_15
         clear HO_283002
         clear HO_283003
         clear HO_283004
         clear BK268
         clear BK269
         clear BK282
         clear BK284
         clear HB
         have HO_15:=n0_
         have HO_283002:=n1_
         have HO_283003:=n2_
         have HO_283004:=n3_
         have BK268:=n4_
         have BK269:=n5_
         have BK282:=n6_
         have BK284:=n7_
         have HB:=n8_
         clear n0_ n1_ n2_ n3_ n4_ n5_ n6_ n7_ n8_
         (try clear hb)
         (try clear hb2)
         (try clear hk)
         (try clear hi)
         refine hK.out _ _ ⟨(blk_cell BK282.out 0).trans rfl,(blk_cell BK282.out 1).trans rfl,(blk_cell BK282.out 2).trans rfl,(blk_cell BK282.out 3).trans rfl,(blk_cell BK282.out 4).trans rfl,(blk_cell BK269.out 0).trans rfl,(blk_cell BK269.out 1).trans rfl,HS7_⟩ (fun hHeld => ?_)
         clear hK K
         refine norm_ (a':=?_) ?_ ?_
         rotate_left
         ·show Act.put _ (some 79) _ = _
          simp only [Act.put,List.setIfInBounds_toArray,List.set_cons_zero,List.set_cons_succ,i64_w,i32_w]
          rfl
         refine done_ (by kernel_rfl) ?_
         try go_wp2
         replace HO_15:=Aside0.mk (Kd.Q_drew HO_15.out)
         replace HO_283002:=Aside0.mk (Kd.R_drew HO_283002.out)
         replace HO_283003:=Aside0.mk (Kd.R_drew HO_283003.out)
         replace HO_283004:=Aside0.mk (Kd.R_drew HO_283004.out)
         replace BK268:=Aside0.mk (blk_drew BK268.out)
         replace BK269:=Aside0.mk (blk_drew BK269.out)
         replace BK282:=Aside0.mk (blk_drew BK282.out)
         replace BK284:=Aside0.mk (blk_drew BK284.out)
         replace HB:=Aside0.mk (below_drew1 HB.out)
         have p290 : 0 ≤ (0 : Int):=(by omega)
         have q290 : 0 < (x15_3.length : Int):=of_decide_eq_true (by first|(with_reducible assumption)|assumption)
         obtain ⟨ad290,e290,hx290_0⟩:=Kd.at_int (Kd.Q_reads' HO_15.out).2.2 0 p290 q290
         obtain rfl : ad288 = ad290:=(by injection e290)
         have qi290 : (0 < x15_3.length) = True:=eq_true (by omega)
         (try rw [show ((0 : Int)).toNat = 0 from rfl] at hx290_0)
         (try rw [Addr.add_zero'] at hx290_0)
         replace p290:=eq_true p290
         replace q290:=eq_true q290
         refine start_ (n:=7) (S:=fun w' => w'.cell? ⟨gb282,0,none⟩ = some (.int .i64 t270) ∧ w'.cell? ⟨gb282,1,none⟩ = some (.int .i64 t271) ∧ w'.cell? ⟨gb282,2,none⟩ = some (.slice Ao17 t272.length co17) ∧ w'.cell? ⟨gb282,3,none⟩ = some (.slice Ao18 t275.length co18) ∧ w'.cell? ⟨gb282,4,none⟩ = some (.slice Ao19 t278.length co19) ∧ w'.cell? ad288 = some (.int .i64 (rd x15_3 0))) (ds:=[]) #[false,false,false,false,false,false,false] (by kernel_rfl) rfl rfl ⟨(blk_cell BK282.out 0).trans rfl,(blk_cell BK282.out 1).trans rfl,(blk_cell BK282.out 2).trans rfl,(blk_cell BK282.out 3).trans rfl,(blk_cell BK282.out 4).trans rfl,hx290_0⟩ (fun hHeld => ?_)
         generalize w56.drew = w57 at HO_15 HO_283002 HO_283003 HO_283004 BK268 BK269 BK282 BK284 HB hx290_0 hHeld ⊢
         refine pI 1 (some 81) ?_
         refine pI 2 (some 82) ?_
         refine pI 4 (some 84) ?_
         refine tI6 0 (some 80) hHeld ?_
         refine tI6 3 (some 83) hHeld ?_
         refine oI 5 (some 85) (fun K hK => ?_)
         refine goes_ Try.func82 (by kernel_rfl) rfl #[.agg #[.int .i64 t270,.int .i64 t271,.slice Ao17 t272.length co17,.slice Ao18 t275.length co18,.slice Ao19 t278.length co19],.int .i64 (rd x15_3 0),.int .i64 x70_3] (by rfl) rfl rfl ga_ ?_
         with_reducible refine (water_ground_beyond.calls k3 t270 t271 _ _ t272 _ _ t275 _ _ t278 (rd x15_3 0) x70_3 t291 _ ?side1 ?side2 ?side3 ?side4 ?side5 ?side6 A52.out).mono ?_
         (case side1 => exact Kd.C_up (Kd.R_reads' HO_283002.out).2.2)
         (case side2 => exact (Kd.R_reads' HO_283002.out).2.1)
         (case side3 => exact Kd.C_up (Kd.R_reads' HO_283003.out).2.2)
         (case side4 => exact (Kd.R_reads' HO_283003.out).2.1)
         (case side5 => exact Kd.C_up (Kd.R_reads' HO_283004.out).2.2)
         (case side6 => exact (Kd.R_reads' HO_283004.out).2.1)
         rintro e w58 ⟨rfl,hb⟩
         have HS5_:=(hb.cell (World.block_lt_of_cell? _ _ (hHeld.2.2.2.2.2))).trans (hHeld.2.2.2.2.2)
         refine ⟨_,rfl,?_⟩
         have n0_:=Aside0.mk (Kd.Q_below (Kd.Q_up HO_15.out) hb)
         have n1_:=rbw HO_283002 hb
         have n2_:=rbw HO_283003 hb
         have n3_:=rbw HO_283004 hb
         have n4_:=bkb BK268 hb
         have n5_:=bkb BK269 hb
         have n6_:=bkb BK282 hb
         have n7_:=bkb BK284 hb
         have n8_:=Aside0.mk (below_step (hb_) hb)
         clear HO_15
         clear HO_283002
         clear HO_283003
         clear HO_283004
         clear BK268
         clear BK269
         clear BK282
         clear BK284
         clear HB
         have HO_15:=n0_
         have HO_283002:=n1_
         have HO_283003:=n2_
         have HO_283004:=n3_
         have BK268:=n4_
         have BK269:=n5_
         have BK282:=n6_
         have BK284:=n7_
         have HB:=n8_
         clear n0_ n1_ n2_ n3_ n4_ n5_ n6_ n7_ n8_
         (try clear hb)
         (try clear hb2)
         (try clear hk)
         (try clear hi)
         refine hK.out _ _ ⟨(blk_cell BK282.out 0).trans rfl,(blk_cell BK282.out 1).trans rfl,(blk_cell BK282.out 2).trans rfl,(blk_cell BK282.out 3).trans rfl,(blk_cell BK282.out 4).trans rfl,HS5_⟩ (fun hHeld => ?_)
         clear hK K
         refine norm_ (a':=?_) ?_ ?_
         rotate_left
         ·show Act.put _ (some 85) _ = _
          simp only [Act.put,List.setIfInBounds_toArray,List.set_cons_zero,List.set_cons_succ,i64_w,i32_w]
          rfl
         refine pI 6 (some 17) ?_
         refine done_ (by kernel_rfl) ?_
         try go_wp2_with (first|((with_reducible refine gate_dst (N:=89) rfl ?_);(try (refine gate_guard (by rfl) ?_;dsimp only));refine mp_look_ok rfl (t:=109) rfl (b:=gb284) (x:=t291) (l:=x285000_3) ?hm_ ?hk_ mpT_109 mpK_109 mpZ_109 ?hb_ ?_;(case hm_ => first|rfl|(go_simp;done));(case hk_ => first|rfl|(go_simp;done));(case hb_ => exact (blk_up BK284.out))))
         go_roundg k3
         case measure => have:=HK1.out;have:=HK2.out;have:=HK3.out;omega
         case rel => exact ⟨(x15_3),(wrap64 (x70_3 + 1)),(x285000_3),(by first|rfl|(simp;done)|(simp [*];done)),H',⟨by have:=HK1.out;have:=HK2.out;have:=HK3.out;omega⟩,⟨Kd.Q_up HO_15.out⟩,⟨Kd.R_up HO_283002.out⟩,⟨Kd.R_up HO_283003.out⟩,⟨Kd.R_up HO_283004.out⟩,⟨blk_up BK268.out⟩,⟨blk_up BK269.out⟩,⟨blk_up BK282.out⟩,⟨blk_up BK284.out⟩,⟨hb_⟩⟩
        rw [if_neg c53] at H
        have c53b0 : mpHas t291 x285000_3 = false:=by simpa using c53
        clear c53
        replace H:=ifp_ H;obtain ⟨c59,H⟩:=H
        have LMc59:=Aside0.mk c59
        clear c59
        obtain ⟨y293,hy293⟩ : ∃ y_ : List Int,y_ = (x15_3 ++ [t291]):=⟨_,rfl⟩
        replace H : (water_Sail.l2 k3 a2 y293 (wrap64 (x70_3 + 1)) l1_0 l1_1 t270 t271 t272 t275 t278 (mpPut t291 (wrap64 ((mpV (rd x15_3 0) x285000_3) + 1)) x285000_3)) = some (r1,r2):=by first|(rw [hy293];with_reducible exact H)|(have H2_:=(Option.bind_some _ _).symm.trans H;rw [hy293];with_reducible exact H2_)|(have H2_:=(Option.bind_some _ _).symm.trans H;with_reducible exact H2_)|with_reducible exact H|(rw [hy293];exact H)|exact H
        have Ny293:=Aside0.mk hy293
        clear hy293
        have H':=Aside0.mk H
        clear H
        try go_wp2
        replace HO_15:=Aside0.mk (Kd.Q_drew HO_15.out)
        replace HO_283002:=Aside0.mk (Kd.R_drew HO_283002.out)
        replace HO_283003:=Aside0.mk (Kd.R_drew HO_283003.out)
        replace HO_283004:=Aside0.mk (Kd.R_drew HO_283004.out)
        replace BK268:=Aside0.mk (blk_drew BK268.out)
        replace BK269:=Aside0.mk (blk_drew BK269.out)
        replace BK282:=Aside0.mk (blk_drew BK282.out)
        replace BK284:=Aside0.mk (blk_drew BK284.out)
        replace HB:=Aside0.mk (below_drew1 HB.out)
        obtain ⟨Ao61,co61,eo61,_⟩:=Kd.Q_slice HO_15.out
        (first|subst eo61|(injection eo61 with f1_ f2_ f3_;have f4_:=f1_.symm;have f5_:=f3_.symm;clear f1_ f2_ f3_;subst f4_;subst f5_))
        have p288 : 0 ≤ (0 : Int):=(by omega)
        have q288 : 0 < (x15_3.length : Int):=of_decide_eq_true (by first|(with_reducible assumption)|assumption)
        obtain ⟨ad288,e288,hx288_0⟩:=Kd.at_int (Kd.Q_reads' HO_15.out).2.2 0 p288 q288
        cases e288
        have qi288 : (0 < x15_3.length) = True:=eq_true (by omega)
        (try rw [show ((0 : Int)).toNat = 0 from rfl] at hx288_0)
        (try rw [Addr.add_zero'] at hx288_0)
        replace p288:=eq_true p288
        replace q288:=eq_true q288
        refine start_ (n:=7) (S:=fun w' => w'.cell? ⟨gb282,0,none⟩ = some (.int .i64 t270) ∧ w'.cell? ⟨gb282,1,none⟩ = some (.int .i64 t271) ∧ w'.cell? ⟨gb282,2,none⟩ = some (.slice Ao17 t272.length co17) ∧ w'.cell? ⟨gb282,3,none⟩ = some (.slice Ao18 t275.length co18) ∧ w'.cell? ⟨gb282,4,none⟩ = some (.slice Ao19 t278.length co19) ∧ w'.cell? ⟨gb269,0,none⟩ = some (.slice A1_0 l1_0.length c1_0) ∧ w'.cell? ⟨gb269,1,none⟩ = some (.slice A1_1 l1_1.length c1_1) ∧ w'.cell? ad288 = some (.int .i64 (rd x15_3 0))) (ds:=[]) #[false,false,false,false,false,false,false] (by kernel_rfl) rfl rfl ⟨(blk_cell BK282.out 0).trans rfl,(blk_cell BK282.out 1).trans rfl,(blk_cell BK282.out 2).trans rfl,(blk_cell BK282.out 3).trans rfl,(blk_cell BK282.out 4).trans rfl,(blk_cell BK269.out 0).trans rfl,(blk_cell BK269.out 1).trans rfl,hx288_0⟩ (fun hHeld => ?_)
        generalize wr.drew = w60 at HO_15 HO_283002 HO_283003 HO_283004 BK268 BK269 BK282 BK284 HB hx288_0 hHeld ⊢
        refine pI 2 (some 75) ?_
        refine pI 3 (some 76) ?_
        refine pI 5 (some 78) ?_
        refine tI8 0 (some 73) hHeld ?_
        refine tI8 1 (some 74) hHeld ?_
        refine tI8 4 (some 77) hHeld ?_
        refine oI 6 (some 79) (fun K hK => ?_)
        refine goes_ Try.func81 (by kernel_rfl) rfl #[.agg #[.int .i64 t270,.int .i64 t271,.slice Ao17 t272.length co17,.slice Ao18 t275.length co18,.slice Ao19 t278.length co19],.agg #[.slice A1_0 l1_0.length c1_0,.slice A1_1 l1_1.length c1_1],.int .i64 (rd x15_3 0),.int .i64 x70_3] (by rfl) rfl rfl ga_ ?_
        with_reducible refine (water_ground_joined.calls k3 t270 t271 _ _ t272 _ _ t275 _ _ t278 _ _ l1_0 _ _ l1_1 (rd x15_3 0) x70_3 true _ ?side1 ?side2 ?side3 ?side4 ?side5 ?side6 ?side7 ?side8 ?side9 ?side10 A50.out).mono ?_
        (case side1 => exact Kd.C_up (Kd.R_reads' HO_283002.out).2.2)
        (case side2 => exact (Kd.R_reads' HO_283002.out).2.1)
        (case side3 => exact Kd.C_up (Kd.R_reads' HO_283003.out).2.2)
        (case side4 => exact (Kd.R_reads' HO_283003.out).2.1)
        (case side5 => exact Kd.C_up (Kd.R_reads' HO_283004.out).2.2)
        (case side6 => exact (Kd.R_reads' HO_283004.out).2.1)
        (case side7 => exact cq HR1_0)
        (case side8 => exact HC1_0.out)
        (case side9 => exact cq HR1_1)
        (case side10 => exact HC1_1.out)
        rintro e w62 ⟨rfl,hb⟩
        have HS7_:=(hb.cell (World.block_lt_of_cell? _ _ (hHeld.2.2.2.2.2.2.2))).trans (hHeld.2.2.2.2.2.2.2)
        refine ⟨_,rfl,?_⟩
        have n0_:=Aside0.mk (Kd.Q_below (Kd.Q_up HO_15.out) hb)
        have n1_:=rbw HO_283002 hb
        have n2_:=rbw HO_283003 hb
        have n3_:=rbw HO_283004 hb
        have n4_:=bkb BK268 hb
        have n5_:=bkb BK269 hb
        have n6_:=bkb BK282 hb
        have n7_:=bkb BK284 hb
        have n8_:=Aside0.mk (below_step (hb_) hb)
        clear HO_15
        clear HO_283002
        clear HO_283003
        clear HO_283004
        clear BK268
        clear BK269
        clear BK282
        clear BK284
        clear HB
        have HO_15:=n0_
        have HO_283002:=n1_
        have HO_283003:=n2_
        have HO_283004:=n3_
        have BK268:=n4_
        have BK269:=n5_
        have BK282:=n6_
        have BK284:=n7_
        have HB:=n8_
        clear n0_ n1_ n2_ n3_ n4_ n5_ n6_ n7_ n8_
        (try clear hb)
        (try clear hb2)
        (try clear hk)
        (try clear hi)
        refine hK.out _ _ ⟨(blk_cell BK282.out 0).trans rfl,(blk_cell BK282.out 1).trans rfl,(blk_cell BK282.out 2).trans rfl,(blk_cell BK282.out 3).trans rfl,(blk_cell BK282.out 4).trans rfl,(blk_cell BK269.out 0).trans rfl,(blk_cell BK269.out 1).trans rfl,HS7_⟩ (fun hHeld => ?_)
        clear hK K
        refine norm_ (a':=?_) ?_ ?_
        rotate_left
        ·show Act.put _ (some 79) _ = _
         simp only [Act.put,List.setIfInBounds_toArray,List.set_cons_zero,List.set_cons_succ,i64_w,i32_w]
         rfl
        refine done_ (by kernel_rfl) ?_
        try go_wp2
        replace HO_15:=Aside0.mk (Kd.Q_drew HO_15.out)
        replace HO_283002:=Aside0.mk (Kd.R_drew HO_283002.out)
        replace HO_283003:=Aside0.mk (Kd.R_drew HO_283003.out)
        replace HO_283004:=Aside0.mk (Kd.R_drew HO_283004.out)
        replace BK268:=Aside0.mk (blk_drew BK268.out)
        replace BK269:=Aside0.mk (blk_drew BK269.out)
        replace BK282:=Aside0.mk (blk_drew BK282.out)
        replace BK284:=Aside0.mk (blk_drew BK284.out)
        replace HB:=Aside0.mk (below_drew1 HB.out)
        have p290 : 0 ≤ (0 : Int):=(by omega)
        have q290 : 0 < (x15_3.length : Int):=of_decide_eq_true (by first|(with_reducible assumption)|assumption)
        obtain ⟨ad290,e290,hx290_0⟩:=Kd.at_int (Kd.Q_reads' HO_15.out).2.2 0 p290 q290
        obtain rfl : ad288 = ad290:=(by injection e290)
        have qi290 : (0 < x15_3.length) = True:=eq_true (by omega)
        (try rw [show ((0 : Int)).toNat = 0 from rfl] at hx290_0)
        (try rw [Addr.add_zero'] at hx290_0)
        replace p290:=eq_true p290
        replace q290:=eq_true q290
        refine start_ (n:=7) (S:=fun w' => w'.cell? ⟨gb282,0,none⟩ = some (.int .i64 t270) ∧ w'.cell? ⟨gb282,1,none⟩ = some (.int .i64 t271) ∧ w'.cell? ⟨gb282,2,none⟩ = some (.slice Ao17 t272.length co17) ∧ w'.cell? ⟨gb282,3,none⟩ = some (.slice Ao18 t275.length co18) ∧ w'.cell? ⟨gb282,4,none⟩ = some (.slice Ao19 t278.length co19) ∧ w'.cell? ad288 = some (.int .i64 (rd x15_3 0))) (ds:=[]) #[false,false,false,false,false,false,false] (by kernel_rfl) rfl rfl ⟨(blk_cell BK282.out 0).trans rfl,(blk_cell BK282.out 1).trans rfl,(blk_cell BK282.out 2).trans rfl,(blk_cell BK282.out 3).trans rfl,(blk_cell BK282.out 4).trans rfl,hx290_0⟩ (fun hHeld => ?_)
        generalize w62.drew = w63 at HO_15 HO_283002 HO_283003 HO_283004 BK268 BK269 BK282 BK284 HB hx290_0 hHeld ⊢
        refine pI 1 (some 81) ?_
        refine pI 2 (some 82) ?_
        refine pI 4 (some 84) ?_
        refine tI6 0 (some 80) hHeld ?_
        refine tI6 3 (some 83) hHeld ?_
        refine oI 5 (some 85) (fun K hK => ?_)
        refine goes_ Try.func82 (by kernel_rfl) rfl #[.agg #[.int .i64 t270,.int .i64 t271,.slice Ao17 t272.length co17,.slice Ao18 t275.length co18,.slice Ao19 t278.length co19],.int .i64 (rd x15_3 0),.int .i64 x70_3] (by rfl) rfl rfl ga_ ?_
        with_reducible refine (water_ground_beyond.calls k3 t270 t271 _ _ t272 _ _ t275 _ _ t278 (rd x15_3 0) x70_3 t291 _ ?side1 ?side2 ?side3 ?side4 ?side5 ?side6 A52.out).mono ?_
        (case side1 => exact Kd.C_up (Kd.R_reads' HO_283002.out).2.2)
        (case side2 => exact (Kd.R_reads' HO_283002.out).2.1)
        (case side3 => exact Kd.C_up (Kd.R_reads' HO_283003.out).2.2)
        (case side4 => exact (Kd.R_reads' HO_283003.out).2.1)
        (case side5 => exact Kd.C_up (Kd.R_reads' HO_283004.out).2.2)
        (case side6 => exact (Kd.R_reads' HO_283004.out).2.1)
        rintro e w64 ⟨rfl,hb⟩
        have HS5_:=(hb.cell (World.block_lt_of_cell? _ _ (hHeld.2.2.2.2.2))).trans (hHeld.2.2.2.2.2)
        refine ⟨_,rfl,?_⟩
        have n0_:=Aside0.mk (Kd.Q_below (Kd.Q_up HO_15.out) hb)
        have n1_:=rbw HO_283002 hb
        have n2_:=rbw HO_283003 hb
        have n3_:=rbw HO_283004 hb
        have n4_:=bkb BK268 hb
        have n5_:=bkb BK269 hb
        have n6_:=bkb BK282 hb
        have n7_:=bkb BK284 hb
        have n8_:=Aside0.mk (below_step (hb_) hb)
        clear HO_15
        clear HO_283002
        clear HO_283003
        clear HO_283004
        clear BK268
        clear BK269
        clear BK282
        clear BK284
        clear HB
        have HO_15:=n0_
        have HO_283002:=n1_
        have HO_283003:=n2_
        have HO_283004:=n3_
        have BK268:=n4_
        have BK269:=n5_
        have BK282:=n6_
        have BK284:=n7_
        have HB:=n8_
        clear n0_ n1_ n2_ n3_ n4_ n5_ n6_ n7_ n8_
        (try clear hb)
        (try clear hb2)
        (try clear hk)
        (try clear hi)
        refine hK.out _ _ ⟨(blk_cell BK282.out 0).trans rfl,(blk_cell BK282.out 1).trans rfl,(blk_cell BK282.out 2).trans rfl,(blk_cell BK282.out 3).trans rfl,(blk_cell BK282.out 4).trans rfl,HS5_⟩ (fun hHeld => ?_)
        clear hK K
        refine norm_ (a':=?_) ?_ ?_
        rotate_left
        ·show Act.put _ (some 85) _ = _
         simp only [Act.put,List.setIfInBounds_toArray,List.set_cons_zero,List.set_cons_succ,i64_w,i32_w]
         rfl
        refine pI 6 (some 17) ?_
        refine done_ (by kernel_rfl) ?_
        try go_wp2_with (first|((with_reducible refine gate_dst (N:=89) rfl ?_);(try (refine gate_guard (by rfl) ?_;dsimp only));refine mp_look_ok rfl (t:=109) rfl (b:=gb284) (x:=t291) (l:=x285000_3) ?hm_ ?hk_ mpT_109 mpK_109 mpZ_109 ?hb_ ?_;(case hm_ => first|rfl|(go_simp;done));(case hk_ => first|rfl|(go_simp;done));(case hb_ => exact (blk_up BK284.out));have p292 : 0 ≤ (0 : Int):=(by omega);have q292 : 0 < (x15_3.length : Int):=of_decide_eq_true (by first|(with_reducible assumption)|assumption);obtain ⟨ad292,e292,hx292_0⟩:=Kd.at_int (Kd.Q_reads' HO_15.out).2.2 0 p292 q292;obtain rfl : ad288 = ad292:=(by injection e292);have qi292 : (0 < x15_3.length) = True:=eq_true (by omega);(try rw [show ((0 : Int)).toNat = 0 from rfl] at hx292_0);(try rw [Addr.add_zero'] at hx292_0);replace p292:=eq_true p292;replace q292:=eq_true q292)|((with_reducible refine gate_dst (N:=100) rfl ?_);(try (refine gate_guard (by rfl) ?_;dsimp only));refine mp_look_1 rfl (t:=109) rfl (b:=gb284) (x:=rd x15_3 0) (l:=x285000_3) ?hm_ ?hk_ mpT_109 mpK_109 mpZ_109 ?hb_ ?_;(case hm_ => first|rfl|(go_simp;done));(case hk_ => first|rfl|(go_simp;done));(case hb_ => exact (blk_up BK284.out)))|((with_reducible refine mp_gate (t:=109) rfl ?_);refine mp_put rfl rfl (t:=109) rfl (b:=gb284) (x:=t291) (y:=wrap64 ((mpV (rd x15_3 0) x285000_3) + 1)) (l:=x285000_3) ?hm_ ?hk_ ?hv_ mpT_109 mpK_109 ?hb_ ?_;(case hm_ => first|rfl|(go_simp;done));(case hk_ => first|rfl|(go_simp;done));(case hv_ => first|rfl|(go_simp;done));(case hb_ => exact (blk_up BK284.out));intro w65 hbox hg;replace HO_15:=Aside0.mk (mp_Q_over (Kd.Q_up HO_15.out) (blk_up BK284.out) ⟨_,rfl⟩ hg);replace HO_283002:=Aside0.mk (mp_R_over (Kd.R_up HO_283002.out) (blk_up BK284.out) ⟨_,rfl⟩ hg);replace HO_283003:=Aside0.mk (mp_R_over (Kd.R_up HO_283003.out) (blk_up BK284.out) ⟨_,rfl⟩ hg);replace HO_283004:=Aside0.mk (mp_R_over (Kd.R_up HO_283004.out) (blk_up BK284.out) ⟨_,rfl⟩ hg);replace BK268:=Aside0.mk (blk_grown (blk_up BK268.out) hg (fun e_ => NB268_284.out (Option.some.inj e_)));replace BK269:=Aside0.mk (blk_grown (blk_up BK269.out) hg (fun e_ => NB269_284.out (Option.some.inj e_)));replace BK282:=Aside0.mk (blk_grown (blk_up BK282.out) hg (fun e_ => NB282_284.out (Option.some.inj e_)));replace BK284:=Aside0.mk (hbox);replace HB:=Aside0.mk (Below.grown (hb_) hg (below_size (hb_)) (fun k_ hk_ => by injection hk_ with hk_;rw [← hk_];exact GE284.out));clear hbox hg)|((with_reducible refine gate_builtin (b:=.append) (xs:=#[.tmp 102,.tmp 104]) rfl ?_);(try (refine gate_guard (by rfl) ?_;dsimp only));at_builtin;refine Kd.Q_append (Kd.int .i64) (w0:=w) w.heap.size rfl (.tmp 102) (.tmp 104) 22 3 (.int .i64 0) 8 rfl Try.underlying22 info3 rfl (by decide) (by omega) (.slice (some ad288) x15_3.length co61) x15_3 t291 [.int .i64 t291] (fun k_ => some k_ ≠ (.slice Ao17 t272.length co17 : Value).ownBlock ∧ some k_ ≠ (.slice Ao18 t275.length co18 : Value).ownBlock) (fun _ => False) rfl rfl ?aP (fun _ hk => hk.elim) ?aF ?aO ?aB ?aS ?aL ?_;(case aP => exact rfl);(case aB => exact (hb_));(case aF => exact (fun k_ hk => ⟨Kd.fresh' (Kd.R_lt (Kd.R_up HO_283002.out)) k_ hk,Kd.fresh' (Kd.R_lt (Kd.R_up HO_283003.out)) k_ hk⟩));(case aO => exact (Kd.Q_up HO_15.out));(case aS => exact (below_size (hb_)));(case aL => have:=LMc59.out;omega);intro v294 w66 ho hb hg hat;rw [← Ny293.out] at ho;have HO295:=Aside0.mk (ho);replace HO_283002:=Aside0.mk (Kd.R_after (ok:=(fun k_ => some k_ ≠ (.slice Ao18 t275.length co18 : Value).ownBlock)) (by (with_reducible repeat (first|apply Kd.R_alloc|apply Kd.R_drewN|apply Kd.R_drew));exact Kd.R_mono HO_283002.out (fun _ hk => ⟨hk.2,hk.1⟩)) hg hat);replace HO_283003:=Aside0.mk (Kd.R_after (ok:=(fun k_ => some k_ ≠ (.slice Ao17 t272.length co17 : Value).ownBlock)) (by (with_reducible repeat (first|apply Kd.R_alloc|apply Kd.R_drewN|apply Kd.R_drew));exact Kd.R_mono HO_283003.out (fun _ hk => ⟨hk.2,hk.1⟩)) hg hat);replace HO_283004:=Aside0.mk (Kd.R_over' (Kd.R_up HO_283004.out) (Kd.Q_typed (Kd.Q_up HO_15.out)) (by decide) hg);replace BK268:=Aside0.mk (blk_grown (blk_up BK268.out) hg (Kd.Q_ne HO_15.out BK268.out (by decide)));replace BK269:=Aside0.mk (blk_grown (blk_up BK269.out) hg (Kd.Q_ne HO_15.out BK269.out (by decide)));replace BK282:=Aside0.mk (blk_grown (blk_up BK282.out) hg (Kd.Q_ne HO_15.out BK282.out (by decide)));replace BK284:=Aside0.mk (blk_grown (blk_up BK284.out) hg (mp_Q_ne HO_15.out BK284.out));replace HB:=Aside0.mk (hb);clear HO_15;clear ho hb hg hat))
        go_roundg k3
        case measure => have:=HK1.out;have:=HK2.out;have:=HK3.out;omega
        case rel => exact ⟨(y293),(wrap64 (x70_3 + 1)),(mpPut t291 (wrap64 ((mpV (rd x15_3 0) x285000_3) + 1)) x285000_3),(by first|rfl|(simp;done)|(simp [*];done)),H',⟨by have:=HK1.out;have:=HK2.out;have:=HK3.out;omega⟩,⟨Kd.Q_up HO295.out⟩,⟨by (with_reducible repeat (first|apply Kd.R_alloc|apply Kd.R_drewN|apply Kd.R_drew));exact Kd.R_mono HO_283002.out (fun _ hk => ⟨hk.2,hk.1⟩)⟩,⟨by (with_reducible repeat (first|apply Kd.R_alloc|apply Kd.R_drewN|apply Kd.R_drew));exact Kd.R_mono HO_283003.out (fun _ hk => ⟨hk.2,hk.1⟩)⟩,⟨Kd.R_up HO_283004.out⟩,⟨blk_up BK268.out⟩,⟨blk_up BK269.out⟩,⟨blk_up BK282.out⟩,⟨blk_up BK284.out⟩,⟨hb_⟩⟩
       ·replace c51:=Bool.eq_false_iff.mpr c51
        subst c51
        have H1 : (water_Sail.l2 k3 a2 x15_3 (wrap64 (x70_3 + 1)) l1_0 l1_1 t270 t271 t272 t275 t278 x285000_3) = some (r1,r2):=by rw [if_neg (show ¬ (false = true) by decide)] at H;exact H
        clear H
        have H:=H1
        clear H1
        have H':=Aside0.mk H
        clear H
        try go_wp2
        replace HO_15:=Aside0.mk (Kd.Q_drew HO_15.out)
        replace HO_283002:=Aside0.mk (Kd.R_drew HO_283002.out)
        replace HO_283003:=Aside0.mk (Kd.R_drew HO_283003.out)
        replace HO_283004:=Aside0.mk (Kd.R_drew HO_283004.out)
        replace BK268:=Aside0.mk (blk_drew BK268.out)
        replace BK269:=Aside0.mk (blk_drew BK269.out)
        replace BK282:=Aside0.mk (blk_drew BK282.out)
        replace BK284:=Aside0.mk (blk_drew BK284.out)
        replace HB:=Aside0.mk (below_drew1 HB.out)
        obtain ⟨Ao68,co68,eo68,_⟩:=Kd.Q_slice HO_15.out
        (first|subst eo68|(injection eo68 with f1_ f2_ f3_;have f4_:=f1_.symm;have f5_:=f3_.symm;clear f1_ f2_ f3_;subst f4_;subst f5_))
        have p288 : 0 ≤ (0 : Int):=(by omega)
        have q288 : 0 < (x15_3.length : Int):=of_decide_eq_true (by first|(with_reducible assumption)|assumption)
        obtain ⟨ad288,e288,hx288_0⟩:=Kd.at_int (Kd.Q_reads' HO_15.out).2.2 0 p288 q288
        cases e288
        have qi288 : (0 < x15_3.length) = True:=eq_true (by omega)
        (try rw [show ((0 : Int)).toNat = 0 from rfl] at hx288_0)
        (try rw [Addr.add_zero'] at hx288_0)
        replace p288:=eq_true p288
        replace q288:=eq_true q288
        refine start_ (n:=7) (S:=fun w' => w'.cell? ⟨gb282,0,none⟩ = some (.int .i64 t270) ∧ w'.cell? ⟨gb282,1,none⟩ = some (.int .i64 t271) ∧ w'.cell? ⟨gb282,2,none⟩ = some (.slice Ao17 t272.length co17) ∧ w'.cell? ⟨gb282,3,none⟩ = some (.slice Ao18 t275.length co18) ∧ w'.cell? ⟨gb282,4,none⟩ = some (.slice Ao19 t278.length co19) ∧ w'.cell? ⟨gb269,0,none⟩ = some (.slice A1_0 l1_0.length c1_0) ∧ w'.cell? ⟨gb269,1,none⟩ = some (.slice A1_1 l1_1.length c1_1) ∧ w'.cell? ad288 = some (.int .i64 (rd x15_3 0))) (ds:=[]) #[false,false,false,false,false,false,false] (by kernel_rfl) rfl rfl ⟨(blk_cell BK282.out 0).trans rfl,(blk_cell BK282.out 1).trans rfl,(blk_cell BK282.out 2).trans rfl,(blk_cell BK282.out 3).trans rfl,(blk_cell BK282.out 4).trans rfl,(blk_cell BK269.out 0).trans rfl,(blk_cell BK269.out 1).trans rfl,hx288_0⟩ (fun hHeld => ?_)
        generalize wr.drew = w67 at HO_15 HO_283002 HO_283003 HO_283004 BK268 BK269 BK282 BK284 HB hx288_0 hHeld ⊢
        refine pI 2 (some 75) ?_
        refine pI 3 (some 76) ?_
        refine pI 5 (some 78) ?_
        refine tI8 0 (some 73) hHeld ?_
        refine tI8 1 (some 74) hHeld ?_
        refine tI8 4 (some 77) hHeld ?_
        refine oI 6 (some 79) (fun K hK => ?_)
        refine goes_ Try.func81 (by kernel_rfl) rfl #[.agg #[.int .i64 t270,.int .i64 t271,.slice Ao17 t272.length co17,.slice Ao18 t275.length co18,.slice Ao19 t278.length co19],.agg #[.slice A1_0 l1_0.length c1_0,.slice A1_1 l1_1.length c1_1],.int .i64 (rd x15_3 0),.int .i64 x70_3] (by rfl) rfl rfl ga_ ?_
        with_reducible refine (water_ground_joined.calls k3 t270 t271 _ _ t272 _ _ t275 _ _ t278 _ _ l1_0 _ _ l1_1 (rd x15_3 0) x70_3 false _ ?side1 ?side2 ?side3 ?side4 ?side5 ?side6 ?side7 ?side8 ?side9 ?side10 A50.out).mono ?_
        (case side1 => exact Kd.C_up (Kd.R_reads' HO_283002.out).2.2)
        (case side2 => exact (Kd.R_reads' HO_283002.out).2.1)
        (case side3 => exact Kd.C_up (Kd.R_reads' HO_283003.out).2.2)
        (case side4 => exact (Kd.R_reads' HO_283003.out).2.1)
        (case side5 => exact Kd.C_up (Kd.R_reads' HO_283004.out).2.2)
        (case side6 => exact (Kd.R_reads' HO_283004.out).2.1)
        (case side7 => exact cq HR1_0)
        (case side8 => exact HC1_0.out)
        (case side9 => exact cq HR1_1)
        (case side10 => exact HC1_1.out)
        rintro e w69 ⟨rfl,hb⟩
        have HS7_:=(hb.cell (World.block_lt_of_cell? _ _ (hHeld.2.2.2.2.2.2.2))).trans (hHeld.2.2.2.2.2.2.2)
        refine ⟨_,rfl,?_⟩
        have n0_:=Aside0.mk (Kd.Q_below (Kd.Q_up HO_15.out) hb)
        have n1_:=rbw HO_283002 hb
        have n2_:=rbw HO_283003 hb
        have n3_:=rbw HO_283004 hb
        have n4_:=bkb BK268 hb
        have n5_:=bkb BK269 hb
        have n6_:=bkb BK282 hb
        have n7_:=bkb BK284 hb
        have n8_:=Aside0.mk (below_step (hb_) hb)
        clear HO_15
        clear HO_283002
        clear HO_283003
        clear HO_283004
        clear BK268
        clear BK269
        clear BK282
        clear BK284
        clear HB
        have HO_15:=n0_
        have HO_283002:=n1_
        have HO_283003:=n2_
        have HO_283004:=n3_
        have BK268:=n4_
        have BK269:=n5_
        have BK282:=n6_
        have BK284:=n7_
        have HB:=n8_
        clear n0_ n1_ n2_ n3_ n4_ n5_ n6_ n7_ n8_
        (try clear hb)
        (try clear hb2)
        (try clear hk)
        (try clear hi)
        refine hK.out _ _ ⟨(blk_cell BK282.out 0).trans rfl,(blk_cell BK282.out 1).trans rfl,(blk_cell BK282.out 2).trans rfl,(blk_cell BK282.out 3).trans rfl,(blk_cell BK282.out 4).trans rfl,(blk_cell BK269.out 0).trans rfl,(blk_cell BK269.out 1).trans rfl,HS7_⟩ (fun hHeld => ?_)
        clear hK K
        refine norm_ (a':=?_) ?_ ?_
        rotate_left
        ·show Act.put _ (some 79) _ = _
         simp only [Act.put,List.setIfInBounds_toArray,List.set_cons_zero,List.set_cons_succ,i64_w,i32_w]
         rfl
        refine done_ (by kernel_rfl) ?_
        try go_wp2
        go_roundg k3
        case measure => have:=HK1.out;have:=HK2.out;have:=HK3.out;omega
        case rel => exact ⟨(x15_3),(wrap64 (x70_3 + 1)),(x285000_3),(by first|rfl|(simp;done)|(simp [*];done)),H',⟨by have:=HK1.out;have:=HK2.out;have:=HK3.out;omega⟩,⟨Kd.Q_up HO_15.out⟩,⟨Kd.R_up HO_283002.out⟩,⟨Kd.R_up HO_283003.out⟩,⟨Kd.R_up HO_283004.out⟩,⟨blk_up BK268.out⟩,⟨blk_up BK269.out⟩,⟨blk_up BK282.out⟩,⟨blk_up BK284.out⟩,⟨hb_⟩⟩

/-! ### lane_wet: function 57 -/
def lane_wet.f (k : Nat) (a0_0 : Int) (a0_1 : Int) (l0_2 : List Int) (l1_0 : List Int) (l1_1 : List Int) (a2 : Int) : Option (Int) := (water_Sail.f k a0_0 a0_1 l0_2 l1_0 l1_1 a2 a2).bind fun bt309 => (some bt309.2)
theorem lane_wet.mono : ∀ a0 a1 a2 a3 a4 a5 k, LeO (lane_wet.f k a0 a1 a2 a3 a4 a5) (lane_wet.f (k + 1) a0 a1 a2 a3 a4 a5) := by
 intro a0 a1 a2 a3 a4 a5 k
 unfold lane_wet.f
 repeat' first
   | (with_reducible exact water_Sail.mono _ _ _ _ _ _ _ _)
   | (with_reducible exact LeO.refl _)
   | (with_reducible exact LeO.none _)
   | (with_reducible refine LeO.ite ?_ ?_)
   | (with_reducible refine LeO.bind ?_ (fun _ => ?_))
   | exact water_Sail.mono _ _ _ _ _ _ _ _
   | exact LeO.none _
   | refine LeO.ite ?_ ?_
   | refine LeO.bind ?_ (fun _ => ?_)
set_option maxHeartbeats 8000000 in
set_option maxRecDepth 100000 in
theorem lane_wet.calls (k : Nat) (a0_0 : Int) (a0_1 : Int) (A0_2 : Option Addr) (c0_2 : Nat) (l0_2 : List Int) (A1_0 : Option Addr) (c1_0 : Nat) (l1_0 : List Int) (A1_1 : Option Addr) (c1_1 : Nat) (l1_1 : List Int) (a2 : Int) (r : Int) (w : World) (hr0_2 : Kd.C (Kd.int .i64) w A0_2 l0_2.length l0_2) (hc0_2 : l0_2.length ≤ c0_2) (hr1_0 : Kd.C (Kd.int .i64) w A1_0 l1_0.length l1_0) (hc1_0 : l1_0.length ≤ c1_0) (hr1_1 : Kd.C (Kd.int .i64) w A1_1 l1_1.length l1_1) (hc1_1 : l1_1.length ≤ c1_1) (h : lane_wet.f k a0_0 a0_1 l0_2 l1_0 l1_1 a2 = some r) :
  Calls Try.prog 57 #[.agg #[.int .i64 a0_0,.int .i64 a0_1,.slice A0_2 l0_2.length c0_2],.agg #[.slice A1_0 l1_0.length c1_0,.slice A1_1 l1_1.length c1_1],.int .i64 a2] w fun e w' => e = .returned (.int .i64 r) ∧ Below w.heap.size w w':=by
 have hu53:=Try.underlying53
 have hu55:=Try.underlying55
 have HR0_2:=Aside0.mk hr0_2
 have HC0_2:=Aside0.mk hc0_2
 clear hr0_2 hc0_2
 have HR1_0:=Aside0.mk hr1_0
 have HC1_0:=Aside0.mk hc1_0
 clear hr1_0 hc1_0
 have HR1_1:=Aside0.mk hr1_1
 have HC1_1:=Aside0.mk hc1_1
 clear hr1_1 hc1_1
 have HB:=Aside0.mk (Below.refl w.heap.size w)
 have H : ((water_Sail.f k a0_0 a0_1 l0_2 l1_0 l1_1 a2 a2).bind fun bt309 => (some bt309.2)) = some r:=h
 clear h
 replace H:=Option.bind_eq_some_iff.mp H
 obtain ⟨⟨t309,t312⟩,A40,H⟩:=H
 replace H : (some t312) = some r:=H
 have A4:=Aside0.mk A40
 clear A40
 obtain rfl:=Option.some.inj H
 go_enter Try.func57,Try.ntmps57
 go_wp2_with (first|((with_reducible refine gate_dst (N:=3) rfl ?_);refine box_ev (N:=3) (cs:=#[.int .i64 a0_0,.int .i64 a0_1,.slice A0_2 l0_2.length c0_2]) (t:=53) ?_;intro gb307 hg w5 hbox hb;have BK307:=Aside0.mk (hbox);have GW307 : Aside0 (w.heap.size ≤ gb307):=gsz hg;have GE307:=GW307;replace HB:=hbs hb;clear hb hbox hg)|((with_reducible refine gate_dst (N:=4) rfl ?_);refine box_ev (N:=4) (cs:=#[.slice A1_0 l1_0.length c1_0,.slice A1_1 l1_1.length c1_1]) (t:=55) ?_;intro gb308 hg w6 hbox hb;have BK308:=Aside0.mk (hbox);have GW308 : Aside0 (w.heap.size ≤ gb308):=gsz hg;have GE308:=GW308;have NB307_308:=nbl BK307 hg;have NB308_307:=nbr BK307 hg;replace BK307:=bkb BK307 hb;replace HB:=hbs hb;clear hb hbox hg;have hnb7:=NB307_308.out;have hnc7:=NB308_307.out;obtain ⟨_,_,_,_,_,_⟩:=cells3 BK307.out;obtain ⟨_,_,_,_⟩:=cells2 BK308.out)|((with_reducible refine gate_callee (f:=58) rfl ?_);refine goesL_ (some 14) rfl rfl Try.func58 (by kernel_rfl) rfl #[.agg #[.int .i64 a0_0,.int .i64 a0_1,.slice A0_2 l0_2.length c0_2],.agg #[.slice A1_0 l1_0.length c1_0,.slice A1_1 l1_1.length c1_1],.int .i64 a2,.int .i64 a2] rfl ga_ ?_;(with_reducible refine (water_Sail.calls k a0_0 a0_1 _ _ l0_2 _ _ l1_0 _ _ l1_1 a2 a2 t309 t312 _ ?_ ?_ ?_ ?_ ?_ ?_ A4.out).mono ?_);exact cq HR0_2;exact HC0_2.out;exact cq HR1_0;exact HC1_0.out;exact cq HR1_1;exact HC1_1.out;rintro e w10 ⟨v310,rfl,ho0,hb⟩;refine ⟨_,rfl,?_⟩;have HO311:=rlo ho0;replace BK307:=bkb BK307 hb;replace BK308:=bkb BK308 hb;replace HB:=hbs hb))
 go_ret
 exact ⟨er_,hb_⟩

/-! ### lane_side: function 59 -/
def lane_side.l0 : Nat → Int → Int → Int → Int → Int → List Int → Option (Int)
 | 0,_,_,_,_,_,_ => none
 | k + 1,x1,x2,x10,x314000,x314001,x314002 => if x10 < 4 then ((lane_beside.f x314000 x314001 x1 x10).bind fun bt314 => (if bt314.2 = true then (if bt314.1 = x2 then (some x10) else (lane_side.l0 k x1 x2 (wrap64 (x10 + 1)) x314000 x314001 x314002)) else (lane_side.l0 k x1 x2 (wrap64 (x10 + 1)) x314000 x314001 x314002))) else (some 0)
def lane_side.f (k : Nat) (a0_0 : Int) (a0_1 : Int) (l0_2 : List Int) (a1 : Int) (a2 : Int) : Option (Int) := lane_side.l0 k a1 a2 0 a0_0 a0_1 l0_2
theorem lane_side.mono_l : ∀ k, (∀ y0 y1 y2 y3 y4 y5, LeO (lane_side.l0 k y0 y1 y2 y3 y4 y5) (lane_side.l0 (k + 1) y0 y1 y2 y3 y4 y5))
 | 0 => fun _ _ _ _ _ _ r h => by simp [lane_side.l0] at h
 | k + 1 => by
  have ih0:=lane_side.mono_l k
  ·intro y0 y1 y2 y3 y4 y5
   unfold lane_side.l0
   repeat' first
   | (with_reducible exact ih0 _ _ _ _ _ _)
   | (with_reducible exact LeO.refl _)
   | (with_reducible exact LeO.none _)
   | (with_reducible refine LeO.ite ?_ ?_)
   | (with_reducible refine LeO.bind ?_ (fun _ => ?_))
   | exact ih0 _ _ _ _ _ _
   | exact LeO.none _
   | refine LeO.ite ?_ ?_
   | refine LeO.bind ?_ (fun _ => ?_)
theorem lane_side.mono : ∀ a0 a1 a2 a3 a4 k, LeO (lane_side.f k a0 a1 a2 a3 a4) (lane_side.f (k + 1) a0 a1 a2 a3 a4) := by
 intro a0 a1 a2 a3 a4 k
 have ih0:=lane_side.mono_l k
 unfold lane_side.f
 repeat' first
   | (with_reducible exact ih0 _ _ _ _ _ _)
   | (with_reducible exact LeO.refl _)
   | (with_reducible exact LeO.none _)
   | (with_reducible refine LeO.ite ?_ ?_)
   | (with_reducible refine LeO.bind ?_ (fun _ => ?_))
   | exact ih0 _ _ _ _ _ _
   | exact LeO.none _
   | refine LeO.ite ?_ ?_
   | refine LeO.bind ?_ (fun _ => ?_)
set_option maxHeartbeats 8000000 in
set_option maxRecDepth 100000 in
theorem lane_side.calls (k : Nat) (a0_0 : Int) (a0_1 : Int) (A0_2 : Option Addr) (c0_2 : Nat) (l0_2 : List Int) (a1 : Int) (a2 : Int) (r : Int) (w : World) (hr0_2 : Kd.C (Kd.int .i64) w A0_2 l0_2.length l0_2) (hc0_2 : l0_2.length ≤ c0_2) (h : lane_side.f k a0_0 a0_1 l0_2 a1 a2 = some r) :
  Calls Try.prog 59 #[.agg #[.int .i64 a0_0,.int .i64 a0_1,.slice A0_2 l0_2.length c0_2],.int .i64 a1,.int .i64 a2] w fun e w' => e = .returned (.int .i64 r) ∧ Below w.heap.size w w':=by
 have hu53:=Try.underlying53
 have HR0_2:=Aside0.mk hr0_2
 have HC0_2:=Aside0.mk hc0_2
 clear hr0_2 hc0_2
 have HB:=Aside0.mk (Below.refl w.heap.size w)
 have H : (lane_side.l0 k a1 a2 0 a0_0 a0_1 l0_2) = some r:=h
 clear h
 have H':=Aside0.mk H
 clear H
 go_enter Try.func59,Try.ntmps59
 go_wp2_with (first|((with_reducible refine gate_dst (N:=3) rfl ?_);refine box_ev (N:=3) (cs:=#[.int .i64 a0_0,.int .i64 a0_1,.slice A0_2 l0_2.length c0_2]) (t:=53) ?_;intro gb313 hg w4 hbox hb;have BK313:=Aside0.mk (hbox);have GW313 : Aside0 (w.heap.size ≤ gb313):=gsz hg;have GE313:=GW313;replace HB:=hbs hb;clear hb hbox hg))
 go_loopg [10] k (fun kq v10 w' => ∃ (x10_1 : Int),v10 = .int .i64 x10_1 ∧ Aside0 (lane_side.l0 kq a1 a2 x10_1 a0_0 a0_1 l0_2 = some r) ∧ Aside0 (kq ≤ k) ∧ Aside0 (w'.heap[gb313]? = some (.cells #[.int .i64 a0_0,.int .i64 a0_1,(.slice A0_2 l0_2.length c0_2)] 53 (0,0))) ∧ Aside0 (Below w.heap.size w w'))
 case atStart => exact ⟨(0),(by first|rfl|(simp;done)|(simp [*];done)),H',⟨Nat.le_refl _⟩,⟨blk_up BK313.out⟩,⟨hb_⟩⟩
 case round =>
  clear H'
  obtain ⟨x10_1,rfl,HA,HK1,BK313,HB⟩:=hrel
  cases gk with
  | zero => exact absurd HA.out (by simp [lane_side.l0])
  | succ k1 =>
   have H:=HA.out
   clear HA
   simp only [lane_side.l0] at H
   by_cases c5 : x10_1 < 4
   rotate_left
   ·rw [if_neg c5] at H
    have c5b0 : decide (x10_1 < 4) = false:=decide_eq_false c5
    clear c5
    obtain rfl:=Option.some.inj H
    go_wp2
    go_ret
    exact ⟨er_,hb_⟩
   rw [if_pos c5] at H
   have c5b0 : decide (x10_1 < 4) = true:=decide_eq_true c5
   clear c5
   replace H:=Option.bind_eq_some_iff.mp H
   obtain ⟨⟨t314,t315⟩,A60,H⟩:=H
   replace H : (if t315 = true then (if t314 = a2 then (some x10_1) else (lane_side.l0 k1 a1 a2 (wrap64 (x10_1 + 1)) a0_0 a0_1 l0_2)) else (lane_side.l0 k1 a1 a2 (wrap64 (x10_1 + 1)) a0_0 a0_1 l0_2)) = some r:=H
   have A6:=Aside0.mk A60
   clear A60
   by_cases c7 : t315 = true
   ·subst c7
    have H1 : (if t314 = a2 then (some x10_1) else (lane_side.l0 k1 a1 a2 (wrap64 (x10_1 + 1)) a0_0 a0_1 l0_2)) = some r:=by rw [if_pos rfl] at H;exact H
    clear H
    have H:=H1
    clear H1
    by_cases c8 : t314 = a2
    ·rw [if_pos c8] at H
     have c8b0:=bqt c8
     have c8b1:=bnf c8
     clear c8
     obtain rfl:=Option.some.inj H
     obtain ⟨_,_,_,_,_,_⟩:=cells3 BK313.out
     go_wp2_with (first|((with_reducible refine gate_callee (f:=72) rfl ?_);refine goesL_ (some 20) rfl rfl Try.func72 (by kernel_rfl) rfl #[.int .i64 a0_0,.int .i64 a0_1,.int .i64 a1,.int .i64 x10_1] rfl ga_ ?_;(with_reducible refine (lane_beside.calls a0_0 a0_1 a1 x10_1 t314 true _ A6.out).mono ?_);rintro e w' ⟨rfl,⟨nd,rfl⟩⟩;refine ⟨_,rfl,?_⟩))
     go_ret
     exact ⟨er_,hb_⟩
    ·rw [if_neg c8] at H
     have c8b0:=bqf c8
     have c8b1:=bnt c8
     have H':=Aside0.mk H
     clear H
     obtain ⟨_,_,_,_,_,_⟩:=cells3 BK313.out
     go_wp2_with (first|((with_reducible refine gate_callee (f:=72) rfl ?_);refine goesL_ (some 20) rfl rfl Try.func72 (by kernel_rfl) rfl #[.int .i64 a0_0,.int .i64 a0_1,.int .i64 a1,.int .i64 x10_1] rfl ga_ ?_;(with_reducible refine (lane_beside.calls a0_0 a0_1 a1 x10_1 t314 true _ A6.out).mono ?_);rintro e w' ⟨rfl,⟨nd,rfl⟩⟩;refine ⟨_,rfl,?_⟩))
     go_roundg k1
     case measure => have:=HK1.out;omega
     case rel => exact ⟨(wrap64 (x10_1 + 1)),(by first|rfl|(simp;done)|(simp [*];done)),H',⟨by have:=HK1.out;omega⟩,⟨blk_up BK313.out⟩,⟨hb_⟩⟩
   ·replace c7:=Bool.eq_false_iff.mpr c7
    subst c7
    have H1 : (lane_side.l0 k1 a1 a2 (wrap64 (x10_1 + 1)) a0_0 a0_1 l0_2) = some r:=by rw [if_neg (show ¬ (false = true) by decide)] at H;exact H
    clear H
    have H:=H1
    clear H1
    have H':=Aside0.mk H
    clear H
    obtain ⟨_,_,_,_,_,_⟩:=cells3 BK313.out
    go_wp2_with (first|((with_reducible refine gate_callee (f:=72) rfl ?_);refine goesL_ (some 20) rfl rfl Try.func72 (by kernel_rfl) rfl #[.int .i64 a0_0,.int .i64 a0_1,.int .i64 a1,.int .i64 x10_1] rfl ga_ ?_;(with_reducible refine (lane_beside.calls a0_0 a0_1 a1 x10_1 t314 false _ A6.out).mono ?_);rintro e w' ⟨rfl,⟨nd,rfl⟩⟩;refine ⟨_,rfl,?_⟩))
    go_roundg k1
    case measure => have:=HK1.out;omega
    case rel => exact ⟨(wrap64 (x10_1 + 1)),(by first|rfl|(simp;done)|(simp [*];done)),H',⟨by have:=HK1.out;omega⟩,⟨blk_up BK313.out⟩,⟨hb_⟩⟩

end Go.Proofs.Ythjmdpekcleihaa.P

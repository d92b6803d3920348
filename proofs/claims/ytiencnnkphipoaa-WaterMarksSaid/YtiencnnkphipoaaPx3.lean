/- Functions of this seat as plain Lean functions, with proofs that the Go code comes to just their answers, or what stands between them and a law's statement; no conditions. (Laid by a program of this session, out of the kit's print.) -/
import Derived.Test.YtiencnnkphipoaaPx0
import Derived.Test.YtiencnnkphipoaaPx1
import Derived.Test.YtiencnnkphipoaaPx2
namespace Go.Proofs.Ytiencnnkphipoaa.P
open Go.RowKit Go.Proofs.YtiencnnkphipoaaW.PrintWords Go.Proofs.YtiencnnkphipoaaW.PrintLast Go.Proofs.YtiencnnkphipoaaW.PrintMore
attribute [local go_sem] max2_int min2_int max_two min_two max_three min_three max_four min_four   -- for this text's walks alone
set_option linter.unusedVariables false
set_option linter.unusedSimpArgs false

/-! ### water_Sail: function 19 -/
mutual
def water_Sail.l0 : Nat → Int → Int → S59 → Int → List Int → List Int → Int → Int → List Int → List Int → List Bool → Option (List Int × Int)
 | 0,_,_,_,_,_,_,_,_,_,_,_ => none
 | k + 1,x2,x3,x39,x40,x233000,x233001,x246000,x246001,x246002,x246003,x246004 => if x40 < 2 then (if 0 ≤ x40 then (if (ix59 x39 x40) < 0 then (some (([] : List Int),2)) else (if (ix59 x39 x40) ≥ (x233000.length : Int) then (some (([] : List Int),2)) else ((water_ground_wet.f x246000 x246001 x246002 x246003 x246004 x233000 x233001 (ix59 x39 x40)).bind fun t246 => (if t246 = true then (water_Sail.l0 k x2 x3 x39 (wrap64 (x40 + 1)) x233000 x233001 x246000 x246001 x246002 x246003 x246004) else (some (([] : List Int),2)))))) else (none)) else (water_Sail.l1 k x2 (([x3] : List Int)) x233000 x233001 x246000 x246001 x246002 x246003 x246004 (mpPut x3 0 ([] : List (Int × Int))))
def water_Sail.l1 : Nat → Int → List Int → List Int → List Int → Int → Int → List Int → List Int → List Bool → List (Int × Int) → Option (List Int × Int)
 | 0,_,_,_,_,_,_,_,_,_,_ => none
 | k + 1,x2,x15,x233000,x233001,x246000,x246001,x246002,x246003,x246004,x248000 => if (x15.length : Int) > 0 then (water_Sail.l2 k x2 x15 0 x233000 x233001 x246000 x246001 x246002 x246003 x246004 x248000) else (if mpHas x2 x248000 = true then (water_Sail.l3 k x2 (mpV x2 x248000) (([x2] : List Int)) x233000 x233001 x246000 x246001 x246002 x246003 x246004 x248000) else (some (([] : List Int),2)))
def water_Sail.l2 : Nat → Int → List Int → Int → List Int → List Int → Int → Int → List Int → List Int → List Bool → List (Int × Int) → Option (List Int × Int)
 | 0,_,_,_,_,_,_,_,_,_,_,_ => none
 | k + 1,x2,x15,x70,x233000,x233001,x246000,x246001,x246002,x246003,x246004,x248000 => if x70 < 4 then (if 0 < (x15.length : Int) then ((water_ground_joined.f k x246000 x246001 x246002 x246003 x246004 x233000 x233001 (rd x15 0) x70).bind fun t252 => (if t252 = true then ((water_ground_beyond.f k x246000 x246001 x246002 x246003 x246004 (rd x15 0) x70).bind fun t254 => (if mpHas t254 x248000 = true then (water_Sail.l2 k x2 x15 (wrap64 (x70 + 1)) x233000 x233001 x246000 x246001 x246002 x246003 x246004 x248000) else (if x15.length < 17592186044416 then (water_Sail.l2 k x2 (x15 ++ [t254]) (wrap64 (x70 + 1)) x233000 x233001 x246000 x246001 x246002 x246003 x246004 (mpPut t254 (wrap64 ((mpV (rd x15 0) x248000) + 1)) x248000)) else (none)))) else (water_Sail.l2 k x2 x15 (wrap64 (x70 + 1)) x233000 x233001 x246000 x246001 x246002 x246003 x246004 x248000))) else (none)) else (if 1 ≤ (x15.length : Int) then (water_Sail.l1 k x2 (x15.drop (1 : Int).toNat) x233000 x233001 x246000 x246001 x246002 x246003 x246004 x248000) else (none))
def water_Sail.l3 : Nat → Int → Int → List Int → List Int → List Int → Int → Int → List Int → List Int → List Bool → List (Int × Int) → Option (List Int × Int)
 | 0,_,_,_,_,_,_,_,_,_,_,_ => none
 | k + 1,x2,x20,x22,x233000,x233001,x246000,x246001,x246002,x246003,x246004,x248000 => if x20 > 0 then (water_Sail.l4 k x2 x20 x22 (-1) 0 x233000 x233001 x246000 x246001 x246002 x246003 x246004 x248000) else (some (x22,0))
def water_Sail.l4 : Nat → Int → Int → List Int → Int → Int → List Int → List Int → Int → Int → List Int → List Int → List Bool → List (Int × Int) → Option (List Int × Int)
 | 0,_,_,_,_,_,_,_,_,_,_,_,_,_ => none
 | k + 1,x2,x20,x22,x23,x121,x233000,x233001,x246000,x246001,x246002,x246003,x246004,x248000 => if x121 < 4 then ((water_ground_joined.f k x246000 x246001 x246002 x246003 x246004 x233000 x233001 x2 x121).bind fun t265 => (if t265 = true then ((water_ground_beyond.f k x246000 x246001 x246002 x246003 x246004 x2 x121).bind fun t266 => (if mpHas t266 x248000 = true then (if (mpV t266 x248000) = (wrap64 (x20 - 1)) then (if x23 < 0 then (water_Sail.l4 k x2 x20 x22 t266 (wrap64 (x121 + 1)) x233000 x233001 x246000 x246001 x246002 x246003 x246004 x248000) else (if t266 < x23 then (water_Sail.l4 k x2 x20 x22 t266 (wrap64 (x121 + 1)) x233000 x233001 x246000 x246001 x246002 x246003 x246004 x248000) else (water_Sail.l4 k x2 x20 x22 x23 (wrap64 (x121 + 1)) x233000 x233001 x246000 x246001 x246002 x246003 x246004 x248000))) else (water_Sail.l4 k x2 x20 x22 x23 (wrap64 (x121 + 1)) x233000 x233001 x246000 x246001 x246002 x246003 x246004 x248000)) else (water_Sail.l4 k x2 x20 x22 x23 (wrap64 (x121 + 1)) x233000 x233001 x246000 x246001 x246002 x246003 x246004 x248000))) else (water_Sail.l4 k x2 x20 x22 x23 (wrap64 (x121 + 1)) x233000 x233001 x246000 x246001 x246002 x246003 x246004 x248000))) else (if x22.length < 17592186044416 then (water_Sail.l3 k x23 (wrap64 (x20 - 1)) (x22 ++ [x23]) x233000 x233001 x246000 x246001 x246002 x246003 x246004 x248000) else (none))
end
def water_Sail.f (k : Nat) (a0_0 : Int) (a0_1 : Int) (l0_2 : List Int) (l1_0 : List Int) (l1_1 : List Int) (a2 : Int) (a3 : Int) : Option (List Int × Int) := (water_check.f k a0_0 a0_1 l0_2 l1_0 l1_1).bind fun bt233 => (if bt233.2.2.2.2.2 = 0 then (water_Sail.l0 k a2 a3 (⟨a2, a3⟩ : S59) 0 l1_0 l1_1 bt233.1 bt233.2.1 bt233.2.2.1 bt233.2.2.2.1 bt233.2.2.2.2.1) else (some (([] : List Int), bt233.2.2.2.2.2)))
theorem water_Sail.mono_l : ∀ k, (∀ y0 y1 y2 y3 y4 y5 y6 y7 y8 y9 y10, LeO (water_Sail.l0 k y0 y1 y2 y3 y4 y5 y6 y7 y8 y9 y10) (water_Sail.l0 (k + 1) y0 y1 y2 y3 y4 y5 y6 y7 y8 y9 y10)) ∧ (∀ y0 y1 y2 y3 y4 y5 y6 y7 y8 y9, LeO (water_Sail.l1 k y0 y1 y2 y3 y4 y5 y6 y7 y8 y9) (water_Sail.l1 (k + 1) y0 y1 y2 y3 y4 y5 y6 y7 y8 y9)) ∧ (∀ y0 y1 y2 y3 y4 y5 y6 y7 y8 y9 y10, LeO (water_Sail.l2 k y0 y1 y2 y3 y4 y5 y6 y7 y8 y9 y10) (water_Sail.l2 (k + 1) y0 y1 y2 y3 y4 y5 y6 y7 y8 y9 y10)) ∧ (∀ y0 y1 y2 y3 y4 y5 y6 y7 y8 y9 y10, LeO (water_Sail.l3 k y0 y1 y2 y3 y4 y5 y6 y7 y8 y9 y10) (water_Sail.l3 (k + 1) y0 y1 y2 y3 y4 y5 y6 y7 y8 y9 y10)) ∧ (∀ y0 y1 y2 y3 y4 y5 y6 y7 y8 y9 y10 y11 y12, LeO (water_Sail.l4 k y0 y1 y2 y3 y4 y5 y6 y7 y8 y9 y10 y11 y12) (water_Sail.l4 (k + 1) y0 y1 y2 y3 y4 y5 y6 y7 y8 y9 y10 y11 y12))
 | 0 => ⟨fun _ _ _ _ _ _ _ _ _ _ _ r h => by simp [water_Sail.l0] at h,fun _ _ _ _ _ _ _ _ _ _ r h => by simp [water_Sail.l1] at h,fun _ _ _ _ _ _ _ _ _ _ _ r h => by simp [water_Sail.l2] at h,fun _ _ _ _ _ _ _ _ _ _ _ r h => by simp [water_Sail.l3] at h,fun _ _ _ _ _ _ _ _ _ _ _ _ _ r h => by simp [water_Sail.l4] at h⟩
 | k + 1 => by
  obtain ⟨ih0,ih1,ih2,ih3,ih4⟩:=water_Sail.mono_l k
  refine ⟨?_,?_,?_,?_,?_⟩
  ·intro y0 y1 y2 y3 y4 y5 y6 y7 y8 y9 y10
   unfold water_Sail.l0
   repeat' first
   | (with_reducible exact ih0 _ _ _ _ _ _ _ _ _ _ _)
   | (with_reducible exact ih1 _ _ _ _ _ _ _ _ _ _)
   | (with_reducible exact ih2 _ _ _ _ _ _ _ _ _ _ _)
   | (with_reducible exact ih3 _ _ _ _ _ _ _ _ _ _ _)
   | (with_reducible exact ih4 _ _ _ _ _ _ _ _ _ _ _ _ _)
   | (with_reducible exact water_check.mono _ _ _ _ _ _)
   | (with_reducible exact water_ground_beyond.mono _ _ _ _ _ _ _ _)
   | (with_reducible exact water_ground_joined.mono _ _ _ _ _ _ _ _ _ _)
   | (with_reducible exact LeO.refl _)
   | (with_reducible exact LeO.none _)
   | (with_reducible refine LeO.ite ?_ ?_)
   | (with_reducible refine LeO.bind ?_ (fun _ => ?_))
   | exact ih0 _ _ _ _ _ _ _ _ _ _ _
   | exact ih1 _ _ _ _ _ _ _ _ _ _
   | exact ih2 _ _ _ _ _ _ _ _ _ _ _
   | exact ih3 _ _ _ _ _ _ _ _ _ _ _
   | exact ih4 _ _ _ _ _ _ _ _ _ _ _ _ _
   | exact water_check.mono _ _ _ _ _ _
   | exact water_ground_beyond.mono _ _ _ _ _ _ _ _
   | exact water_ground_joined.mono _ _ _ _ _ _ _ _ _ _
   | exact LeO.none _
   | refine LeO.ite ?_ ?_
   | refine LeO.bind ?_ (fun _ => ?_)
  ·intro y0 y1 y2 y3 y4 y5 y6 y7 y8 y9
   unfold water_Sail.l1
   repeat' first
   | (with_reducible exact ih0 _ _ _ _ _ _ _ _ _ _ _)
   | (with_reducible exact ih1 _ _ _ _ _ _ _ _ _ _)
   | (with_reducible exact ih2 _ _ _ _ _ _ _ _ _ _ _)
   | (with_reducible exact ih3 _ _ _ _ _ _ _ _ _ _ _)
   | (with_reducible exact ih4 _ _ _ _ _ _ _ _ _ _ _ _ _)
   | (with_reducible exact water_check.mono _ _ _ _ _ _)
   | (with_reducible exact water_ground_beyond.mono _ _ _ _ _ _ _ _)
   | (with_reducible exact water_ground_joined.mono _ _ _ _ _ _ _ _ _ _)
   | (with_reducible exact LeO.refl _)
   | (with_reducible exact LeO.none _)
   | (with_reducible refine LeO.ite ?_ ?_)
   | (with_reducible refine LeO.bind ?_ (fun _ => ?_))
   | exact ih0 _ _ _ _ _ _ _ _ _ _ _
   | exact ih1 _ _ _ _ _ _ _ _ _ _
   | exact ih2 _ _ _ _ _ _ _ _ _ _ _
   | exact ih3 _ _ _ _ _ _ _ _ _ _ _
   | exact ih4 _ _ _ _ _ _ _ _ _ _ _ _ _
   | exact water_check.mono _ _ _ _ _ _
   | exact water_ground_beyond.mono _ _ _ _ _ _ _ _
   | exact water_ground_joined.mono _ _ _ _ _ _ _ _ _ _
   | exact LeO.none _
   | refine LeO.ite ?_ ?_
   | refine LeO.bind ?_ (fun _ => ?_)
  ·intro y0 y1 y2 y3 y4 y5 y6 y7 y8 y9 y10
   unfold water_Sail.l2
   repeat' first
   | (with_reducible exact ih0 _ _ _ _ _ _ _ _ _ _ _)
   | (with_reducible exact ih1 _ _ _ _ _ _ _ _ _ _)
   | (with_reducible exact ih2 _ _ _ _ _ _ _ _ _ _ _)
   | (with_reducible exact ih3 _ _ _ _ _ _ _ _ _ _ _)
   | (with_reducible exact ih4 _ _ _ _ _ _ _ _ _ _ _ _ _)
   | (with_reducible exact water_check.mono _ _ _ _ _ _)
   | (with_reducible exact water_ground_beyond.mono _ _ _ _ _ _ _ _)
   | (with_reducible exact water_ground_joined.mono _ _ _ _ _ _ _ _ _ _)
   | (with_reducible exact LeO.refl _)
   | (with_reducible exact LeO.none _)
   | (with_reducible refine LeO.ite ?_ ?_)
   | (with_reducible refine LeO.bind ?_ (fun _ => ?_))
   | exact ih0 _ _ _ _ _ _ _ _ _ _ _
   | exact ih1 _ _ _ _ _ _ _ _ _ _
   | exact ih2 _ _ _ _ _ _ _ _ _ _ _
   | exact ih3 _ _ _ _ _ _ _ _ _ _ _
   | exact ih4 _ _ _ _ _ _ _ _ _ _ _ _ _
   | exact water_check.mono _ _ _ _ _ _
   | exact water_ground_beyond.mono _ _ _ _ _ _ _ _
   | exact water_ground_joined.mono _ _ _ _ _ _ _ _ _ _
   | exact LeO.none _
   | refine LeO.ite ?_ ?_
   | refine LeO.bind ?_ (fun _ => ?_)
  ·intro y0 y1 y2 y3 y4 y5 y6 y7 y8 y9 y10
   unfold water_Sail.l3
   repeat' first
   | (with_reducible exact ih0 _ _ _ _ _ _ _ _ _ _ _)
   | (with_reducible exact ih1 _ _ _ _ _ _ _ _ _ _)
   | (with_reducible exact ih2 _ _ _ _ _ _ _ _ _ _ _)
   | (with_reducible exact ih3 _ _ _ _ _ _ _ _ _ _ _)
   | (with_reducible exact ih4 _ _ _ _ _ _ _ _ _ _ _ _ _)
   | (with_reducible exact water_check.mono _ _ _ _ _ _)
   | (with_reducible exact water_ground_beyond.mono _ _ _ _ _ _ _ _)
   | (with_reducible exact water_ground_joined.mono _ _ _ _ _ _ _ _ _ _)
   | (with_reducible exact LeO.refl _)
   | (with_reducible exact LeO.none _)
   | (with_reducible refine LeO.ite ?_ ?_)
   | (with_reducible refine LeO.bind ?_ (fun _ => ?_))
   | exact ih0 _ _ _ _ _ _ _ _ _ _ _
   | exact ih1 _ _ _ _ _ _ _ _ _ _
   | exact ih2 _ _ _ _ _ _ _ _ _ _ _
   | exact ih3 _ _ _ _ _ _ _ _ _ _ _
   | exact ih4 _ _ _ _ _ _ _ _ _ _ _ _ _
   | exact water_check.mono _ _ _ _ _ _
   | exact water_ground_beyond.mono _ _ _ _ _ _ _ _
   | exact water_ground_joined.mono _ _ _ _ _ _ _ _ _ _
   | exact LeO.none _
   | refine LeO.ite ?_ ?_
   | refine LeO.bind ?_ (fun _ => ?_)
  ·intro y0 y1 y2 y3 y4 y5 y6 y7 y8 y9 y10 y11 y12
   unfold water_Sail.l4
   repeat' first
   | (with_reducible exact ih0 _ _ _ _ _ _ _ _ _ _ _)
   | (with_reducible exact ih1 _ _ _ _ _ _ _ _ _ _)
   | (with_reducible exact ih2 _ _ _ _ _ _ _ _ _ _ _)
   | (with_reducible exact ih3 _ _ _ _ _ _ _ _ _ _ _)
   | (with_reducible exact ih4 _ _ _ _ _ _ _ _ _ _ _ _ _)
   | (with_reducible exact water_check.mono _ _ _ _ _ _)
   | (with_reducible exact water_ground_beyond.mono _ _ _ _ _ _ _ _)
   | (with_reducible exact water_ground_joined.mono _ _ _ _ _ _ _ _ _ _)
   | (with_reducible exact LeO.refl _)
   | (with_reducible exact LeO.none _)
   | (with_reducible refine LeO.ite ?_ ?_)
   | (with_reducible refine LeO.bind ?_ (fun _ => ?_))
   | exact ih0 _ _ _ _ _ _ _ _ _ _ _
   | exact ih1 _ _ _ _ _ _ _ _ _ _
   | exact ih2 _ _ _ _ _ _ _ _ _ _ _
   | exact ih3 _ _ _ _ _ _ _ _ _ _ _
   | exact ih4 _ _ _ _ _ _ _ _ _ _ _ _ _
   | exact water_check.mono _ _ _ _ _ _
   | exact water_ground_beyond.mono _ _ _ _ _ _ _ _
   | exact water_ground_joined.mono _ _ _ _ _ _ _ _ _ _
   | exact LeO.none _
   | refine LeO.ite ?_ ?_
   | refine LeO.bind ?_ (fun _ => ?_)
theorem water_Sail.mono : ∀ a0 a1 a2 a3 a4 a5 a6 k, LeO (water_Sail.f k a0 a1 a2 a3 a4 a5 a6) (water_Sail.f (k + 1) a0 a1 a2 a3 a4 a5 a6) := by
 intro a0 a1 a2 a3 a4 a5 a6 k
 obtain ⟨ih0,ih1,ih2,ih3,ih4⟩:=water_Sail.mono_l k
 unfold water_Sail.f
 repeat' first
   | (with_reducible exact ih0 _ _ _ _ _ _ _ _ _ _ _)
   | (with_reducible exact ih1 _ _ _ _ _ _ _ _ _ _)
   | (with_reducible exact ih2 _ _ _ _ _ _ _ _ _ _ _)
   | (with_reducible exact ih3 _ _ _ _ _ _ _ _ _ _ _)
   | (with_reducible exact ih4 _ _ _ _ _ _ _ _ _ _ _ _ _)
   | (with_reducible exact water_check.mono _ _ _ _ _ _)
   | (with_reducible exact water_ground_beyond.mono _ _ _ _ _ _ _ _)
   | (with_reducible exact water_ground_joined.mono _ _ _ _ _ _ _ _ _ _)
   | (with_reducible exact LeO.refl _)
   | (with_reducible exact LeO.none _)
   | (with_reducible refine LeO.ite ?_ ?_)
   | (with_reducible refine LeO.bind ?_ (fun _ => ?_))
   | exact ih0 _ _ _ _ _ _ _ _ _ _ _
   | exact ih1 _ _ _ _ _ _ _ _ _ _
   | exact ih2 _ _ _ _ _ _ _ _ _ _ _
   | exact ih3 _ _ _ _ _ _ _ _ _ _ _
   | exact ih4 _ _ _ _ _ _ _ _ _ _ _ _ _
   | exact water_check.mono _ _ _ _ _ _
   | exact water_ground_beyond.mono _ _ _ _ _ _ _ _
   | exact water_ground_joined.mono _ _ _ _ _ _ _ _ _ _
   | exact LeO.none _
   | refine LeO.ite ?_ ?_
   | refine LeO.bind ?_ (fun _ => ?_)
set_option maxHeartbeats 8000000 in
set_option maxRecDepth 100000 in
theorem water_Sail.calls (k : Nat) (a0_0 : Int) (a0_1 : Int) (A0_2 : Option Addr) (c0_2 : Nat) (l0_2 : List Int) (A1_0 : Option Addr) (c1_0 : Nat) (l1_0 : List Int) (A1_1 : Option Addr) (c1_1 : Nat) (l1_1 : List Int) (a2 : Int) (a3 : Int) (r1 : List Int) (r2 : Int) (w : World) (hr0_2 : Kd.C (Kd.int .i64) w A0_2 l0_2.length l0_2) (hc0_2 : l0_2.length ≤ c0_2) (hr1_0 : Kd.C (Kd.int .i64) w A1_0 l1_0.length l1_0) (hc1_0 : l1_0.length ≤ c1_0) (hr1_1 : Kd.C (Kd.int .i64) w A1_1 l1_1.length l1_1) (hc1_1 : l1_1.length ≤ c1_1) (h : water_Sail.f k a0_0 a0_1 l0_2 l1_0 l1_1 a2 a3 = some (r1, r2)) :
  Calls Try.prog 19 #[.agg #[.int .i64 a0_0,.int .i64 a0_1,.slice A0_2 l0_2.length c0_2],.agg #[.slice A1_0 l1_0.length c1_0,.slice A1_1 l1_1.length c1_1],.int .i64 a2,.int .i64 a3] w fun e w' => ∃ v0_ : Value,e = .returned (.tuple #[v0_,.int .i64 r2]) ∧ Kd.R (Kd.int .i64) 3 w' w.heap.size (fun _ => True) v0_ r1 ∧ Below w.heap.size w w':=by
 have hu24:=Try.underlying24
 have hu26:=Try.underlying26
 have hu52:=Try.underlying52
 have hu59:=Try.underlying59
 have HR0_2:=Aside0.mk hr0_2
 have HC0_2:=Aside0.mk hc0_2
 clear hr0_2 hc0_2
 have HR1_0:=Aside0.mk hr1_0
 have HC1_0:=Aside0.mk hc1_0
 clear hr1_0 hc1_0
 have HR1_1:=Aside0.mk hr1_1
 have HC1_1:=Aside0.mk hc1_1
 clear hr1_1 hc1_1
 have HB:=Aside0.mk (Below.refl w.heap.size w)
 have H : ((water_check.f k a0_0 a0_1 l0_2 l1_0 l1_1).bind fun bt233 => (if bt233.2.2.2.2.2 = 0 then (water_Sail.l0 k a2 a3 (⟨a2,a3⟩ : S59) 0 l1_0 l1_1 bt233.1 bt233.2.1 bt233.2.2.1 bt233.2.2.2.1 bt233.2.2.2.2.1) else (some (([] : List Int),bt233.2.2.2.2.2)))) = some (r1,r2):=h
 clear h
 replace H:=Option.bind_eq_some_iff.mp H
 obtain ⟨⟨t233,t234,t235,t238,t241,t244⟩,A50,H⟩:=H
 replace H : (if t244 = 0 then (water_Sail.l0 k a2 a3 (⟨a2,a3⟩ : S59) 0 l1_0 l1_1 t233 t234 t235 t238 t241) else (some (([] : List Int),t244))) = some (r1,r2):=H
 have A5:=Aside0.mk A50
 clear A50
 by_cases c6 : t244 = 0
 rotate_left
 ·rw [if_neg c6] at H
  have c6b0:=bqf c6
  have c6b1:=bnt c6
  simp only [Option.some.injEq,Prod.mk.injEq] at H
  obtain ⟨rfl,rfl⟩:=H
  go_enter Try.func19,Try.ntmps19
  go_wp2_with (first|((with_reducible refine gate_dst (N:=4) rfl ?_);(try (refine gate_guard (by rfl) ?_;dsimp only));refine box_ev (N:=4) (cs:=#[.int .i64 a0_0,.int .i64 a0_1,.slice A0_2 l0_2.length c0_2]) (t:=24) ?_;intro gb231 hg w147 hbox hb;have BK231:=Aside0.mk (hbox);have GW231 : Aside0 (w.heap.size ≤ gb231):=gsz hg;have GE231:=GW231;replace HB:=hbs hb;clear hb hbox hg)|((with_reducible refine gate_dst (N:=5) rfl ?_);(try (refine gate_guard (by rfl) ?_;dsimp only));refine box_ev (N:=5) (cs:=#[.slice A1_0 l1_0.length c1_0,.slice A1_1 l1_1.length c1_1]) (t:=26) ?_;intro gb232 hg w148 hbox hb;have BK232:=Aside0.mk (hbox);have GW232 : Aside0 (w.heap.size ≤ gb232):=gsz hg;have GE232:=GW232;have NB231_232:=nbl BK231 hg;have NB232_231:=nbr BK231 hg;replace BK231:=bkb BK231 hb;replace HB:=hbs hb;clear hb hbox hg;have hnb149:=NB231_232.out;have hnc149:=NB232_231.out;obtain ⟨_,_,_,_,_,_⟩:=cells3 BK231.out;obtain ⟨_,_,_,_⟩:=cells2 BK232.out)|((with_reducible refine gate_callee (f:=44) rfl ?_);refine goesL_ (some 31) rfl rfl Try.func44 (by kernel_rfl) rfl #[.agg #[.int .i64 a0_0,.int .i64 a0_1,.slice A0_2 l0_2.length c0_2],.agg #[.slice A1_0 l1_0.length c1_0,.slice A1_1 l1_1.length c1_1]] rfl ga_ ?_;(with_reducible refine (water_check.calls k a0_0 a0_1 _ _ l0_2 _ _ l1_0 _ _ l1_1 t233 t234 t235 t238 t241 t244 _ ?_ ?_ ?_ ?_ ?_ ?_ A5.out).mono ?_);exact cq HR0_2;exact HC0_2.out;exact cq HR1_0;exact HC1_0.out;exact cq HR1_1;exact HC1_1.out;rintro e w152 ⟨v236,v239,v242,rfl,ho0,ho1,ho2,hb⟩;refine ⟨_,rfl,?_⟩;have HO237:=rlo ho0;have HO240:=rlo ho1;have HO243:=rlo ho2;replace BK231:=bkb BK231 hb;replace BK232:=bkb BK232 hb;replace HB:=hbs hb)|((with_reducible refine gate_dst (N:=10) rfl ?_);(try (refine gate_guard (by rfl) ?_;dsimp only));refine box_ev (N:=10) (cs:=#[.int .i64 0,.int .i64 0,.slice none 0 0,.slice none 0 0,.slice none 0 0]) (t:=52) ?_;intro gb245 hg w153 hbox hb;have BK245:=Aside0.mk (hbox);have GW245 : Aside0 (w.heap.size ≤ gb245):=gsz hg;have GE245:=GW245;have NB231_245:=nbl BK231 hg;have NB245_231:=nbr BK231 hg;have NB232_245:=nbl BK232 hg;have NB245_232:=nbr BK232 hg;replace HO237:=rbw HO237 hb;replace HO240:=rbw HO240 hb;replace HO243:=rbw HO243 hb;replace BK231:=bkb BK231 hb;replace BK232:=bkb BK232 hb;replace HB:=hbs hb;clear hb hbox hg;have hnb154:=NB245_231.out;have hnc154:=NB231_245.out;have hnb155:=NB245_232.out;have hnc155:=NB232_245.out;obtain ⟨_,_,_,_,_,_,_,_,_,_⟩:=cells5 BK245.out;obtain ⟨Ao157,co157,eo157⟩:=Kd.R_slice HO237.out;subst eo157;obtain ⟨Ao158,co158,eo158⟩:=Kd.R_slice HO240.out;subst eo158;obtain ⟨Ao159,co159,eo159⟩:=Kd.R_slice HO243.out;subst eo159))
  go_ret2
  exact ⟨_,er_,nl_,hb_⟩
 rw [if_pos c6] at H
 have c6b0:=bqt c6
 have c6b1:=bnf c6
 clear c6
 have H':=Aside0.mk H
 clear H
 go_enter Try.func19,Try.ntmps19
 go_wp2_with (first|((with_reducible refine gate_dst (N:=4) rfl ?_);(try (refine gate_guard (by rfl) ?_;dsimp only));refine box_ev (N:=4) (cs:=#[.int .i64 a0_0,.int .i64 a0_1,.slice A0_2 l0_2.length c0_2]) (t:=24) ?_;intro gb231 hg w7 hbox hb;have BK231:=Aside0.mk (hbox);have GW231 : Aside0 (w.heap.size ≤ gb231):=gsz hg;have GE231:=GW231;replace HB:=hbs hb;clear hb hbox hg)|((with_reducible refine gate_dst (N:=5) rfl ?_);(try (refine gate_guard (by rfl) ?_;dsimp only));refine box_ev (N:=5) (cs:=#[.slice A1_0 l1_0.length c1_0,.slice A1_1 l1_1.length c1_1]) (t:=26) ?_;intro gb232 hg w8 hbox hb;have BK232:=Aside0.mk (hbox);have GW232 : Aside0 (w.heap.size ≤ gb232):=gsz hg;have GE232:=GW232;have NB231_232:=nbl BK231 hg;have NB232_231:=nbr BK231 hg;replace BK231:=bkb BK231 hb;replace HB:=hbs hb;clear hb hbox hg;have hnb9:=NB231_232.out;have hnc9:=NB232_231.out;obtain ⟨_,_,_,_,_,_⟩:=cells3 BK231.out;obtain ⟨_,_,_,_⟩:=cells2 BK232.out)|((with_reducible refine gate_callee (f:=44) rfl ?_);refine goesL_ (some 31) rfl rfl Try.func44 (by kernel_rfl) rfl #[.agg #[.int .i64 a0_0,.int .i64 a0_1,.slice A0_2 l0_2.length c0_2],.agg #[.slice A1_0 l1_0.length c1_0,.slice A1_1 l1_1.length c1_1]] rfl ga_ ?_;(with_reducible refine (water_check.calls k a0_0 a0_1 _ _ l0_2 _ _ l1_0 _ _ l1_1 t233 t234 t235 t238 t241 t244 _ ?_ ?_ ?_ ?_ ?_ ?_ A5.out).mono ?_);exact cq HR0_2;exact HC0_2.out;exact cq HR1_0;exact HC1_0.out;exact cq HR1_1;exact HC1_1.out;rintro e w12 ⟨v236,v239,v242,rfl,ho0,ho1,ho2,hb⟩;refine ⟨_,rfl,?_⟩;have HO237:=rlo ho0;have HO240:=rlo ho1;have HO243:=rlo ho2;replace BK231:=bkb BK231 hb;replace BK232:=bkb BK232 hb;replace HB:=hbs hb)|((with_reducible refine gate_dst (N:=10) rfl ?_);(try (refine gate_guard (by rfl) ?_;dsimp only));refine box_ev (N:=10) (cs:=#[.int .i64 0,.int .i64 0,.slice none 0 0,.slice none 0 0,.slice none 0 0]) (t:=52) ?_;intro gb245 hg w13 hbox hb;have BK245:=Aside0.mk (hbox);have GW245 : Aside0 (w.heap.size ≤ gb245):=gsz hg;have GE245:=GW245;have NB231_245:=nbl BK231 hg;have NB245_231:=nbr BK231 hg;have NB232_245:=nbl BK232 hg;have NB245_232:=nbr BK232 hg;replace HO237:=rbw HO237 hb;replace HO240:=rbw HO240 hb;replace HO243:=rbw HO243 hb;replace BK231:=bkb BK231 hb;replace BK232:=bkb BK232 hb;replace HB:=hbs hb;clear hb hbox hg;have hnb14:=NB245_231.out;have hnc14:=NB231_245.out;have hnb15:=NB245_232.out;have hnc15:=NB232_245.out;obtain ⟨_,_,_,_,_,_,_,_,_,_⟩:=cells5 BK245.out;obtain ⟨Ao17,co17,eo17⟩:=Kd.R_slice HO237.out;subst eo17;obtain ⟨Ao18,co18,eo18⟩:=Kd.R_slice HO240.out;subst eo18;obtain ⟨Ao19,co19,eo19⟩:=Kd.R_slice HO243.out;subst eo19))
 go_loopg [40] k (fun kq v40 w' => ∃ (x40_1 : Int),v40 = .int .i64 x40_1 ∧ Aside0 (water_Sail.l0 kq a2 a3 (⟨a2,a3⟩ : S59) x40_1 l1_0 l1_1 t233 t234 t235 t238 t241 = some (r1,r2)) ∧ Aside0 (kq ≤ k) ∧ Aside0 (Kd.R (Kd.int .i64) 3 w' w.heap.size (fun k_ => some k_ ≠ ((.slice Ao18 t238.length co18) : Value).ownBlock) (.slice Ao17 t235.length co17) t235) ∧ Aside0 (Kd.R (Kd.int .i64) 3 w' w.heap.size (fun k_ => some k_ ≠ ((.slice Ao17 t235.length co17) : Value).ownBlock) (.slice Ao18 t238.length co18) t238) ∧ Aside0 (Kd.R Kd.bool 4 w' w.heap.size (fun _ => True) (.slice Ao19 t241.length co19) t241) ∧ Aside0 (w'.heap[gb231]? = some (.cells #[.int .i64 a0_0,.int .i64 a0_1,(.slice A0_2 l0_2.length c0_2)] 24 (0,0))) ∧ Aside0 (w'.heap[gb232]? = some (.cells #[(.slice A1_0 l1_0.length c1_0),(.slice A1_1 l1_1.length c1_1)] 26 (0,0))) ∧ Aside0 (w'.heap[gb245]? = some (.cells #[.int .i64 t233,.int .i64 t234,(.slice Ao17 t235.length co17),(.slice Ao18 t238.length co18),(.slice Ao19 t241.length co19)] 52 (0,0))) ∧ Aside0 (Below w.heap.size w w'))
 case atStart => exact ⟨(0),(by first|rfl|(simp;done)|(simp [*];done)),H',⟨Nat.le_refl _⟩,⟨by (with_reducible repeat (first|apply Kd.R_alloc|apply Kd.R_drewN|apply Kd.R_drew));exact Kd.R_mono (Kd.R_fars gb245 (Kd.R_types HO237.out BK245.out (by decide)) (fun _ hk => hk.2)) (fun _ hk => hk.1)⟩,⟨by (with_reducible repeat (first|apply Kd.R_alloc|apply Kd.R_drewN|apply Kd.R_drew));exact Kd.R_mono (Kd.R_fars gb245 (Kd.R_types HO240.out BK245.out (by decide)) (fun _ hk => hk.2)) (fun _ hk => hk.1)⟩,⟨by (with_reducible repeat (first|apply Kd.R_alloc|apply Kd.R_drewN|apply Kd.R_drew));exact Kd.R_mono (Kd.R_fars gb245 (Kd.R_types HO243.out BK245.out (by decide)) (fun _ hk => hk.2)) (fun _ hk => trivial)⟩,⟨by (with_reducible repeat (first|refine blk_drewN ?_ _|refine blk_drew ?_|refine blk_alloc ?_ _));refine blk_far ?_ NB231_245.out _;(with_reducible repeat (first|refine blk_drewN ?_ _|refine blk_drew ?_|refine blk_alloc ?_ _));refine blk_far ?_ NB231_245.out _;(with_reducible repeat (first|refine blk_drewN ?_ _|refine blk_drew ?_|refine blk_alloc ?_ _));refine blk_far ?_ NB231_245.out _;(with_reducible repeat (first|refine blk_drewN ?_ _|refine blk_drew ?_|refine blk_alloc ?_ _));refine blk_far ?_ NB231_245.out _;(with_reducible repeat (first|refine blk_drewN ?_ _|refine blk_drew ?_|refine blk_alloc ?_ _));refine blk_far ?_ NB231_245.out _;(with_reducible repeat (first|refine blk_drewN ?_ _|refine blk_drew ?_|refine blk_alloc ?_ _));exact BK231.out⟩,⟨by (with_reducible repeat (first|refine blk_drewN ?_ _|refine blk_drew ?_|refine blk_alloc ?_ _));refine blk_far ?_ NB232_245.out _;(with_reducible repeat (first|refine blk_drewN ?_ _|refine blk_drew ?_|refine blk_alloc ?_ _));refine blk_far ?_ NB232_245.out _;(with_reducible repeat (first|refine blk_drewN ?_ _|refine blk_drew ?_|refine blk_alloc ?_ _));refine blk_far ?_ NB232_245.out _;(with_reducible repeat (first|refine blk_drewN ?_ _|refine blk_drew ?_|refine blk_alloc ?_ _));refine blk_far ?_ NB232_245.out _;(with_reducible repeat (first|refine blk_drewN ?_ _|refine blk_drew ?_|refine blk_alloc ?_ _));refine blk_far ?_ NB232_245.out _;(with_reducible repeat (first|refine blk_drewN ?_ _|refine blk_drew ?_|refine blk_alloc ?_ _));exact BK232.out⟩,⟨by (with_reducible repeat (first|refine blk_drewN ?_ _|refine blk_drew ?_|refine blk_alloc ?_ _));exact blk_puts5 (blk_up BK245.out)⟩,⟨hb_⟩⟩
 case round =>
  clear H'
  obtain ⟨x40_1,rfl,HA,HK1,HO_246002,HO_246003,HO_246004,BK231,BK232,BK245,HB⟩:=hrel
  cases gk with
  | zero => exact absurd HA.out (by simp [water_Sail.l0])
  | succ k1 =>
   have H:=HA.out
   clear HA
   simp only [water_Sail.l0] at H
   by_cases c20 : x40_1 < 2
   ·rw [if_pos c20] at H
    have c20b0 : decide (x40_1 < 2) = true:=decide_eq_true c20
    clear c20
    replace H:=ifp_ H;obtain ⟨c21,H⟩:=H
    have c21b0 : decide (0 ≤ x40_1) = true:=decide_eq_true c21
    clear c21
    have hix22:=fun (W_ : World) => (ix59_run a2 a3 x40_1 (of_decide_eq_true (by first|(with_reducible assumption)|assumption)) (of_decide_eq_true (by first|(with_reducible assumption)|assumption)) W_ : (Instr.index 59 (.agg #[.int .i64 a2,.int .i64 a3]) (.int .i64 x40_1)).run Try.prog W_ = .ok (.int .i64 (ix59 (⟨a2,a3⟩ : S59) x40_1)) W_)
    by_cases c23 : (ix59 (⟨a2,a3⟩ : S59) x40_1) < 0
    ·rw [if_pos c23] at H
     have c23b0 : decide ((ix59 (⟨a2,a3⟩ : S59) x40_1) < 0) = true:=decide_eq_true c23
     clear c23
     simp only [Option.some.injEq,Prod.mk.injEq] at H
     obtain ⟨rfl,rfl⟩:=H
     go_wp2
     go_ret2
     exact ⟨_,er_,nl_,hb_⟩
    rw [if_neg c23] at H
    have c23b0 : decide ((ix59 (⟨a2,a3⟩ : S59) x40_1) < 0) = false:=decide_eq_false c23
    clear c23
    by_cases c24 : (ix59 (⟨a2,a3⟩ : S59) x40_1) ≥ (l1_0.length : Int)
    ·rw [if_pos c24] at H
     have c24b0 : decide ((l1_0.length : Int) ≤ (ix59 (⟨a2,a3⟩ : S59) x40_1)) = true:=decide_eq_true c24
     clear c24
     simp only [Option.some.injEq,Prod.mk.injEq] at H
     obtain ⟨rfl,rfl⟩:=H
     have hnb25:=NB232_231.out
     have hnc25:=NB231_232.out
     have hnb26:=NB232_245.out
     have hnc26:=NB245_232.out
     obtain ⟨_,_,_,_⟩:=cells2 BK232.out
     go_wp2
     go_ret2
     exact ⟨_,er_,nl_,hb_⟩
    rw [if_neg c24] at H
    have c24b0 : decide ((l1_0.length : Int) ≤ (ix59 (⟨a2,a3⟩ : S59) x40_1)) = false:=decide_eq_false c24
    clear c24
    replace H:=Option.bind_eq_some_iff.mp H
    obtain ⟨t246,A280,H⟩:=H
    replace H : (if t246 = true then (water_Sail.l0 k1 a2 a3 (⟨a2,a3⟩ : S59) (wrap64 (x40_1 + 1)) l1_0 l1_1 t233 t234 t235 t238 t241) else (some (([] : List Int),2))) = some (r1,r2):=H
    have A28:=Aside0.mk A280
    clear A280
    by_cases c29 : t246 = true
    ·subst c29
     have H1 : (water_Sail.l0 k1 a2 a3 (⟨a2,a3⟩ : S59) (wrap64 (x40_1 + 1)) l1_0 l1_1 t233 t234 t235 t238 t241) = some (r1,r2):=by rw [if_pos rfl] at H;exact H
     clear H
     have H:=H1
     clear H1
     have H':=Aside0.mk H
     clear H
     have hnb30:=NB232_231.out
     have hnc30:=NB231_232.out
     have hnb31:=NB232_245.out
     have hnc31:=NB245_232.out
     obtain ⟨_,_,_,_⟩:=cells2 BK232.out
     have hnb33:=NB245_231.out
     have hnc33:=NB231_245.out
     obtain ⟨_,_,_,_,_,_,_,_,_,_⟩:=cells5 BK245.out
     go_wp2_with (first|(go_at_call 45;(with_reducible refine (water_ground_wet.calls t233 t234 _ _ t235 _ _ t238 _ _ t241 _ _ l1_0 _ _ l1_1 (ix59 (⟨a2,a3⟩ : S59) x40_1) true _ ?_ ?_ ?_ ?_ ?_ ?_ ?_ ?_ ?_ ?_ A28.out).mono ?_);exact Kd.C_up (Kd.R_reads' HO_246002.out).2.2;exact (Kd.R_reads' HO_246002.out).2.1;exact Kd.C_up (Kd.R_reads' HO_246003.out).2.2;exact (Kd.R_reads' HO_246003.out).2.1;exact Kd.C_up (Kd.R_reads' HO_246004.out).2.2;exact (Kd.R_reads' HO_246004.out).2.1;exact cq HR1_0;exact HC1_0.out;exact cq HR1_1;exact HC1_1.out;rintro e w35 ⟨rfl,hb⟩;replace HO_246002:=rbw HO_246002 hb;replace HO_246003:=rbw HO_246003 hb;replace HO_246004:=rbw HO_246004 hb;replace BK231:=bkb BK231 hb;replace BK232:=bkb BK232 hb;replace BK245:=bkb BK245 hb;replace HB:=hbs hb))
     go_roundg k1
     case measure => have:=HK1.out;omega
     case rel => exact ⟨(wrap64 (x40_1 + 1)),(by first|rfl|(simp;done)|(simp [*];done)),H',⟨by have:=HK1.out;omega⟩,⟨Kd.R_up HO_246002.out⟩,⟨Kd.R_up HO_246003.out⟩,⟨Kd.R_up HO_246004.out⟩,⟨blk_up BK231.out⟩,⟨blk_up BK232.out⟩,⟨blk_up BK245.out⟩,⟨hb_⟩⟩
    ·replace c29:=Bool.eq_false_iff.mpr c29
     subst c29
     have H1 : (some (([] : List Int),2)) = some (r1,r2):=by rw [if_neg (show ¬ (false = true) by decide)] at H;exact H
     clear H
     have H:=H1
     clear H1
     simp only [Option.some.injEq,Prod.mk.injEq] at H
     obtain ⟨rfl,rfl⟩:=H
     have hnb36:=NB232_231.out
     have hnc36:=NB231_232.out
     have hnb37:=NB232_245.out
     have hnc37:=NB245_232.out
     obtain ⟨_,_,_,_⟩:=cells2 BK232.out
     have hnb39:=NB245_231.out
     have hnc39:=NB231_245.out
     obtain ⟨_,_,_,_,_,_,_,_,_,_⟩:=cells5 BK245.out
     go_wp2_with (first|(go_at_call 45;(with_reducible refine (water_ground_wet.calls t233 t234 _ _ t235 _ _ t238 _ _ t241 _ _ l1_0 _ _ l1_1 (ix59 (⟨a2,a3⟩ : S59) x40_1) false _ ?_ ?_ ?_ ?_ ?_ ?_ ?_ ?_ ?_ ?_ A28.out).mono ?_);exact Kd.C_up (Kd.R_reads' HO_246002.out).2.2;exact (Kd.R_reads' HO_246002.out).2.1;exact Kd.C_up (Kd.R_reads' HO_246003.out).2.2;exact (Kd.R_reads' HO_246003.out).2.1;exact Kd.C_up (Kd.R_reads' HO_246004.out).2.2;exact (Kd.R_reads' HO_246004.out).2.1;exact cq HR1_0;exact HC1_0.out;exact cq HR1_1;exact HC1_1.out;rintro e w41 ⟨rfl,hb⟩;replace HO_246002:=rbw HO_246002 hb;replace HO_246003:=rbw HO_246003 hb;replace HO_246004:=rbw HO_246004 hb;replace BK231:=bkb BK231 hb;replace BK232:=bkb BK232 hb;replace BK245:=bkb BK245 hb;replace HB:=hbs hb))
     go_ret2
     exact ⟨_,er_,nl_,hb_⟩
   rw [if_neg c20] at H
   have c20b0 : decide (x40_1 < 2) = false:=decide_eq_false c20
   clear c20
   obtain ⟨y248,hy248⟩ : ∃ y_ : List Int,y_ = (([a3] : List Int)):=⟨_,rfl⟩
   replace H : (water_Sail.l1 k1 a2 y248 l1_0 l1_1 t233 t234 t235 t238 t241 (mpPut a3 0 ([] : List (Int × Int)))) = some (r1,r2):=by first|(rw [hy248];with_reducible exact H)|(have H2_:=(Option.bind_some _ _).symm.trans H;rw [hy248];with_reducible exact H2_)|(have H2_:=(Option.bind_some _ _).symm.trans H;with_reducible exact H2_)|with_reducible exact H|(rw [hy248];exact H)|exact H
   have Ny248:=Aside0.mk hy248
   clear hy248
   have H':=Aside0.mk H
   clear H
   go_wp2_with (first|((with_reducible refine gate_dst (N:=60) rfl ?_);(try (refine gate_guard (by rfl) ?_;dsimp only));refine mp_make rfl (t:=61) rfl ?_;intro gb247 hg w42 hbox hb;have BK247:=Aside0.mk (hbox);have GW247 : Aside0 (w.heap.size ≤ gb247):=gsz hg;have GE247:=GW247;have NB231_247:=nbl BK231 hg;have NB247_231:=nbr BK231 hg;have NB232_247:=nbl BK232 hg;have NB247_232:=nbr BK232 hg;have NB245_247:=nbl BK245 hg;have NB247_245:=nbr BK245 hg;replace HO_246002:=rbw HO_246002 hb;replace HO_246003:=rbw HO_246003 hb;replace HO_246004:=rbw HO_246004 hb;replace BK231:=bkb BK231 hb;replace BK232:=bkb BK232 hb;replace BK245:=bkb BK245 hb;replace HB:=hbs hb;clear hb hbox hg)|((with_reducible refine mp_gatei (t:=61) rfl ?_);refine mp_puti rfl rfl (t:=61) rfl (b:=gb247) (x:=a3) (y:=0) (l:=([] : List (Int × Int))) ?hm_ ?hk_ ?hv_ mpT_61 mpK_61 ?hb_ ?_;(case hm_ => first|rfl|(go_simp;done));(case hk_ => first|rfl|(go_simp;done));(case hv_ => first|rfl|(go_simp;done));(case hb_ => exact (blk_up BK247.out));intro w43 hbox hg;replace HO_246002:=Aside0.mk (mp_R_over (Kd.R_up HO_246002.out) (blk_up BK247.out) ⟨_,rfl⟩ hg);replace HO_246003:=Aside0.mk (mp_R_over (Kd.R_up HO_246003.out) (blk_up BK247.out) ⟨_,rfl⟩ hg);replace HO_246004:=Aside0.mk (mp_R_over (Kd.R_up HO_246004.out) (blk_up BK247.out) ⟨_,rfl⟩ hg);replace BK231:=Aside0.mk (blk_grown (blk_up BK231.out) hg (fun e_ => NB231_247.out (Option.some.inj e_)));replace BK232:=Aside0.mk (blk_grown (blk_up BK232.out) hg (fun e_ => NB232_247.out (Option.some.inj e_)));replace BK245:=Aside0.mk (blk_grown (blk_up BK245.out) hg (fun e_ => NB245_247.out (Option.some.inj e_)));replace BK247:=Aside0.mk (hbox);replace HB:=Aside0.mk (Below.grown (hb_) hg (below_size (hb_)) (fun k_ hk_ => by injection hk_ with hk_;rw [← hk_];exact GE247.out));clear hbox hg)|((with_reducible refine gate_dst (N:=64) rfl ?_);(try (refine gate_guard (by rfl) ?_;dsimp only));refine Kd.R_lit (Kd.int .i64) _ 3 ?hg (N:=64) ?hd (xs:=([a3] : List Int)) (inner:=[.int .i64 a3]) (ok:=fun _ => True) (okp:=fun _ => True) ?hr ?hp (fun _ hk => hk) trivial (Below.refl _ _) (Nat.le_refl _) (by simp) ?_;(case hd => rfl);(case hg => rfl);(case hr => first|(go_simp;done)|(go_simp;rfl));(case hp => exact (Reps.one (show Kd.M (Kd.int .i64) _ _ _ a3 [.int .i64 a3] from rfl) (Reps.none _ _)));intro v249 w44 ho45 hb hg_ hnew_;clear hg_ hnew_;(first|rw [← Ny248.out] at ho45|(simp only [Int.reduceToNat] at ho45;rw [← Ny248.out] at ho45));have HO250:=Aside0.mk (Kd.R_lower (Kd.R_new' (Kd.R_new' ho45 (Kd.R_lt (Kd.R_up HO_246002.out))) (Kd.R_lt (Kd.R_up HO_246003.out))) (below_size (hb_)));replace HO_246002:=Aside0.mk (Kd.R_elder' (Kd.R_up HO_246002.out) (Kd.R_base ho45) hb);replace HO_246003:=Aside0.mk (Kd.R_elder' (Kd.R_up HO_246003.out) (Kd.R_base ho45) hb);replace HO_246004:=rbw HO_246004 hb;replace BK231:=bkb BK231 hb;replace BK232:=bkb BK232 hb;replace BK245:=bkb BK245 hb;replace BK247:=bkb BK247 hb;replace HB:=hbs hb;clear hb ho45))
   go_loopg [15] k1 (fun kq v15 w' => ∃ (x15_2 : List Int) (x248000_2 : List (Int × Int)),Aside0 (water_Sail.l1 kq a2 x15_2 l1_0 l1_1 t233 t234 t235 t238 t241 x248000_2 = some (r1,r2)) ∧ Aside0 (kq ≤ k1) ∧ Aside0 (Kd.Q (Kd.int .i64) 3 w' w.heap.size (fun k_ => some k_ ≠ ((.slice Ao17 t235.length co17) : Value).ownBlock ∧ some k_ ≠ ((.slice Ao18 t238.length co18) : Value).ownBlock) v15 x15_2) ∧ Aside0 (Kd.R (Kd.int .i64) 3 w' w.heap.size (fun k_ => some k_ ≠ (v15 : Value).ownBlock ∧ some k_ ≠ ((.slice Ao18 t238.length co18) : Value).ownBlock) (.slice Ao17 t235.length co17) t235) ∧ Aside0 (Kd.R (Kd.int .i64) 3 w' w.heap.size (fun k_ => some k_ ≠ (v15 : Value).ownBlock ∧ some k_ ≠ ((.slice Ao17 t235.length co17) : Value).ownBlock) (.slice Ao18 t238.length co18) t238) ∧ Aside0 (Kd.R Kd.bool 4 w' w.heap.size (fun _ => True) (.slice Ao19 t241.length co19) t241) ∧ Aside0 (w'.heap[gb231]? = some (.cells #[.int .i64 a0_0,.int .i64 a0_1,(.slice A0_2 l0_2.length c0_2)] 24 (0,0))) ∧ Aside0 (w'.heap[gb232]? = some (.cells #[(.slice A1_0 l1_0.length c1_0),(.slice A1_1 l1_1.length c1_1)] 26 (0,0))) ∧ Aside0 (w'.heap[gb245]? = some (.cells #[.int .i64 t233,.int .i64 t234,(.slice Ao17 t235.length co17),(.slice Ao18 t238.length co18),(.slice Ao19 t241.length co19)] 52 (0,0))) ∧ Aside0 (w'.heap[gb247]? = some (mpO x248000_2)) ∧ Aside0 (Below w.heap.size w w'))
   case atStart => exact ⟨(y248),(mpPut a3 0 ([] : List (Int × Int))),H',⟨Nat.le_refl _⟩,⟨Kd.Q_of_R (by (with_reducible repeat (first|apply Kd.R_alloc|apply Kd.R_drewN|apply Kd.R_drew));exact Kd.R_mono HO250.out (fun _ hk => ⟨hk.1.2,hk.2⟩))⟩,⟨by (with_reducible repeat (first|apply Kd.R_alloc|apply Kd.R_drewN|apply Kd.R_drew));exact Kd.R_mono HO_246002.out (fun _ hk => ⟨hk.2,hk.1⟩)⟩,⟨by (with_reducible repeat (first|apply Kd.R_alloc|apply Kd.R_drewN|apply Kd.R_drew));exact Kd.R_mono HO_246003.out (fun _ hk => ⟨hk.2,hk.1⟩)⟩,⟨Kd.R_up HO_246004.out⟩,⟨blk_up BK231.out⟩,⟨blk_up BK232.out⟩,⟨blk_up BK245.out⟩,⟨blk_up BK247.out⟩,⟨hb_⟩⟩
   case round =>
    clear H'
    obtain ⟨x15_2,x248000_2,HA,HK2,HO_15,HO_246002,HO_246003,HO_246004,BK231,BK232,BK245,BK247,HB⟩:=hrel
    cases gk with
    | zero => exact absurd HA.out (by simp [water_Sail.l1])
    | succ k2 =>
     have H:=HA.out
     clear HA
     simp only [water_Sail.l1] at H
     by_cases c46 : (x15_2.length : Int) > 0
     rotate_left
     ·rw [if_neg c46] at H
      have c46b0 : decide (0 < (x15_2.length : Int)) = false:=decide_eq_false c46
      have c46b1 : decide (0 < x15_2.length) = false:=decide_eq_false (by omega)
      clear c46
      by_cases c73 : mpHas a2 x248000_2 = true
      rotate_left
      ·rw [if_neg c73] at H
       have c73b0 : mpHas a2 x248000_2 = false:=by simpa using c73
       clear c73
       simp only [Option.some.injEq,Prod.mk.injEq] at H
       obtain ⟨rfl,rfl⟩:=H
       obtain ⟨Ao146,co146,eo146,_⟩:=Kd.Q_slice HO_15.out
       subst eo146
       go_wp2_with (first|((with_reducible refine gate_dst (N:=110) rfl ?_);(try (refine gate_guard (by rfl) ?_;dsimp only));refine mp_look_ok rfl (t:=61) rfl (b:=gb247) (x:=a2) (l:=x248000_2) ?hm_ ?hk_ mpT_61 mpK_61 mpZ_61 ?hb_ ?_;(case hm_ => first|rfl|(go_simp;done));(case hk_ => first|rfl|(go_simp;done));(case hb_ => exact (blk_up BK247.out))))
       go_ret2
       exact ⟨_,er_,nl_,hb_⟩
      rw [if_pos c73] at H
      have c73b0 : mpHas a2 x248000_2 = true:=c73
      clear c73
      obtain ⟨y262,hy262⟩ : ∃ y_ : List Int,y_ = (([a2] : List Int)):=⟨_,rfl⟩
      replace H : (water_Sail.l3 k2 a2 (mpV a2 x248000_2) y262 l1_0 l1_1 t233 t234 t235 t238 t241 x248000_2) = some (r1,r2):=by first|(rw [hy262];with_reducible exact H)|(have H2_:=(Option.bind_some _ _).symm.trans H;rw [hy262];with_reducible exact H2_)|(have H2_:=(Option.bind_some _ _).symm.trans H;with_reducible exact H2_)|with_reducible exact H|(rw [hy262];exact H)|exact H
      have Ny262:=Aside0.mk hy262
      clear hy262
      have H':=Aside0.mk H
      clear H
      obtain ⟨Ao74,co74,eo74,_⟩:=Kd.Q_slice HO_15.out
      subst eo74
      go_wp2_with (first|((with_reducible refine gate_dst (N:=110) rfl ?_);(try (refine gate_guard (by rfl) ?_;dsimp only));refine mp_look_ok rfl (t:=61) rfl (b:=gb247) (x:=a2) (l:=x248000_2) ?hm_ ?hk_ mpT_61 mpK_61 mpZ_61 ?hb_ ?_;(case hm_ => first|rfl|(go_simp;done));(case hk_ => first|rfl|(go_simp;done));(case hb_ => exact (blk_up BK247.out)))|((with_reducible refine gate_dst (N:=116) rfl ?_);(try (refine gate_guard (by rfl) ?_;dsimp only));refine Kd.R_lit (Kd.int .i64) _ 3 ?hg (N:=116) ?hd (xs:=([a2] : List Int)) (inner:=[.int .i64 a2]) (ok:=fun _ => True) (okp:=fun _ => True) ?hr ?hp (fun _ hk => hk) trivial (Below.refl _ _) (Nat.le_refl _) (by simp) ?_;(case hd => rfl);(case hg => rfl);(case hr => first|(go_simp;done)|(go_simp;rfl));(case hp => exact (Reps.one (show Kd.M (Kd.int .i64) _ _ _ a2 [.int .i64 a2] from rfl) (Reps.none _ _)));intro v263 w75 ho76 hb hg_ hnew_;clear hg_ hnew_;(first|rw [← Ny262.out] at ho76|(simp only [Int.reduceToNat] at ho76;rw [← Ny262.out] at ho76));have HO264:=Aside0.mk (Kd.R_lower (Kd.R_new' (Kd.R_new' (Kd.R_new' ho76 (Kd.Q_lt (Kd.Q_up HO_15.out))) (Kd.R_lt (Kd.R_up HO_246002.out))) (Kd.R_lt (Kd.R_up HO_246003.out))) (below_size (hb_)));replace HO_15:=Aside0.mk (Kd.Q_elder' (Kd.Q_up HO_15.out) (Kd.R_base ho76) hb);replace HO_246002:=Aside0.mk (Kd.R_elder' (Kd.R_up HO_246002.out) (Kd.R_base ho76) hb);replace HO_246003:=Aside0.mk (Kd.R_elder' (Kd.R_up HO_246003.out) (Kd.R_base ho76) hb);replace HO_246004:=rbw HO_246004 hb;replace BK231:=bkb BK231 hb;replace BK232:=bkb BK232 hb;replace BK245:=bkb BK245 hb;replace BK247:=bkb BK247 hb;replace HB:=hbs hb;clear hb ho76))
      go_loopg [2,20,22] k2 (fun kq v2 v20 v22 w' => ∃ (x2_3 : Int) (x20_3 : Int) (x22_3 : List Int),v2 = .int .i64 x2_3 ∧ v20 = .int .i64 x20_3 ∧ Aside0 (water_Sail.l3 kq x2_3 x20_3 x22_3 l1_0 l1_1 t233 t234 t235 t238 t241 x248000_2 = some (r1,r2)) ∧ Aside0 (kq ≤ k2) ∧ Aside0 (Kd.R (Kd.int .i64) 3 w' w.heap.size (fun k_ => some k_ ≠ ((.slice Ao17 t235.length co17) : Value).ownBlock ∧ some k_ ≠ ((.slice Ao18 t238.length co18) : Value).ownBlock) v22 x22_3) ∧ Aside0 (Kd.R (Kd.int .i64) 3 w' w.heap.size (fun k_ => some k_ ≠ (v22 : Value).ownBlock ∧ some k_ ≠ ((.slice Ao18 t238.length co18) : Value).ownBlock) (.slice Ao17 t235.length co17) t235) ∧ Aside0 (Kd.R (Kd.int .i64) 3 w' w.heap.size (fun k_ => some k_ ≠ (v22 : Value).ownBlock ∧ some k_ ≠ ((.slice Ao17 t235.length co17) : Value).ownBlock) (.slice Ao18 t238.length co18) t238) ∧ Aside0 (Kd.R Kd.bool 4 w' w.heap.size (fun _ => True) (.slice Ao19 t241.length co19) t241) ∧ Aside0 (w'.heap[gb231]? = some (.cells #[.int .i64 a0_0,.int .i64 a0_1,(.slice A0_2 l0_2.length c0_2)] 24 (0,0))) ∧ Aside0 (w'.heap[gb232]? = some (.cells #[(.slice A1_0 l1_0.length c1_0),(.slice A1_1 l1_1.length c1_1)] 26 (0,0))) ∧ Aside0 (w'.heap[gb245]? = some (.cells #[.int .i64 t233,.int .i64 t234,(.slice Ao17 t235.length co17),(.slice Ao18 t238.length co18),(.slice Ao19 t241.length co19)] 52 (0,0))) ∧ Aside0 (w'.heap[gb247]? = some (mpO x248000_2)) ∧ Aside0 (Below w.heap.size w w'))
      case atStart => exact ⟨(a2),(mpV a2 x248000_2),(y262),(by first|rfl|(simp;done)|(simp [*];done)),(by first|rfl|(simp;done)|(simp [*];done)),H',⟨Nat.le_refl _⟩,⟨by (with_reducible repeat (first|apply Kd.R_alloc|apply Kd.R_drewN|apply Kd.R_drew));exact Kd.R_mono HO264.out (fun _ hk => ⟨hk.1.2,hk.2⟩)⟩,⟨by (with_reducible repeat (first|apply Kd.R_alloc|apply Kd.R_drewN|apply Kd.R_drew));exact Kd.R_mono HO_246002.out (fun _ hk => ⟨hk.2,hk.1.2⟩)⟩,⟨by (with_reducible repeat (first|apply Kd.R_alloc|apply Kd.R_drewN|apply Kd.R_drew));exact Kd.R_mono HO_246003.out (fun _ hk => ⟨hk.2,hk.1.2⟩)⟩,⟨Kd.R_up HO_246004.out⟩,⟨blk_up BK231.out⟩,⟨blk_up BK232.out⟩,⟨blk_up BK245.out⟩,⟨blk_up BK247.out⟩,⟨hb_⟩⟩
      case round =>
       clear H'
       obtain ⟨x2_3,x20_3,x22_3,rfl,rfl,HA,HK3,HO_22,HO_246002,HO_246003,HO_246004,BK231,BK232,BK245,BK247,HB⟩:=hrel
       cases gk with
       | zero => exact absurd HA.out (by simp [water_Sail.l3])
       | succ k3 =>
        have H:=HA.out
        clear HA
        simp only [water_Sail.l3] at H
        by_cases c77 : x20_3 > 0
        rotate_left
        ·rw [if_neg c77] at H
         have c77b0 : decide (0 < x20_3) = false:=decide_eq_false c77
         clear c77
         simp only [Option.some.injEq,Prod.mk.injEq] at H
         obtain ⟨rfl,rfl⟩:=H
         go_wp2
         go_ret2
         exact ⟨_,er_,by (with_reducible repeat (first|apply Kd.R_alloc|apply Kd.R_drewN|apply Kd.R_drew));exact Kd.R_mono HO_22.out (fun _ hk => trivial),hb_⟩
        rw [if_pos c77] at H
        have c77b0 : decide (0 < x20_3) = true:=decide_eq_true c77
        clear c77
        have H':=Aside0.mk H
        clear H
        go_wp2
        go_loopg [23,121] k3 (fun kq v23 v121 w' => ∃ (x23_4 : Int) (x121_4 : Int),v23 = .int .i64 x23_4 ∧ v121 = .int .i64 x121_4 ∧ Aside0 (water_Sail.l4 kq x2_3 x20_3 x22_3 x23_4 x121_4 l1_0 l1_1 t233 t234 t235 t238 t241 x248000_2 = some (r1,r2)) ∧ Aside0 (kq ≤ k3) ∧ Aside0 (Kd.R (Kd.int .i64) 3 w' w.heap.size (fun k_ => some k_ ≠ ((.slice Ao17 t235.length co17) : Value).ownBlock ∧ some k_ ≠ ((.slice Ao18 t238.length co18) : Value).ownBlock) u22 x22_3) ∧ Aside0 (Kd.R (Kd.int .i64) 3 w' w.heap.size (fun k_ => some k_ ≠ (u22 : Value).ownBlock ∧ some k_ ≠ ((.slice Ao18 t238.length co18) : Value).ownBlock) (.slice Ao17 t235.length co17) t235) ∧ Aside0 (Kd.R (Kd.int .i64) 3 w' w.heap.size (fun k_ => some k_ ≠ (u22 : Value).ownBlock ∧ some k_ ≠ ((.slice Ao17 t235.length co17) : Value).ownBlock) (.slice Ao18 t238.length co18) t238) ∧ Aside0 (Kd.R Kd.bool 4 w' w.heap.size (fun _ => True) (.slice Ao19 t241.length co19) t241) ∧ Aside0 (w'.heap[gb231]? = some (.cells #[.int .i64 a0_0,.int .i64 a0_1,(.slice A0_2 l0_2.length c0_2)] 24 (0,0))) ∧ Aside0 (w'.heap[gb232]? = some (.cells #[(.slice A1_0 l1_0.length c1_0),(.slice A1_1 l1_1.length c1_1)] 26 (0,0))) ∧ Aside0 (w'.heap[gb245]? = some (.cells #[.int .i64 t233,.int .i64 t234,(.slice Ao17 t235.length co17),(.slice Ao18 t238.length co18),(.slice Ao19 t241.length co19)] 52 (0,0))) ∧ Aside0 (w'.heap[gb247]? = some (mpO x248000_2)) ∧ Aside0 (Below w.heap.size w w'))
        case atStart => exact ⟨((-1)),(0),(by first|rfl|(simp;done)|(simp [*];done)),(by first|rfl|(simp;done)|(simp [*];done)),H',⟨Nat.le_refl _⟩,⟨Kd.R_up HO_22.out⟩,⟨Kd.R_up HO_246002.out⟩,⟨Kd.R_up HO_246003.out⟩,⟨Kd.R_up HO_246004.out⟩,⟨blk_up BK231.out⟩,⟨blk_up BK232.out⟩,⟨blk_up BK245.out⟩,⟨blk_up BK247.out⟩,⟨hb_⟩⟩
        case round =>
         clear H'
         obtain ⟨x23_4,x121_4,rfl,rfl,HA,HK4,HO_22,HO_246002,HO_246003,HO_246004,BK231,BK232,BK245,BK247,HB⟩:=hrel
         cases gk with
         | zero => exact absurd HA.out (by simp [water_Sail.l4])
         | succ k4 =>
          have H:=HA.out
          clear HA
          simp only [water_Sail.l4] at H
          by_cases c78 : x121_4 < 4
          rotate_left
          ·rw [if_neg c78] at H
           have c78b0 : decide (x121_4 < 4) = false:=decide_eq_false c78
           clear c78
           replace H:=ifp_ H;obtain ⟨c144,H⟩:=H
           have LMc144:=Aside0.mk c144
           clear c144
           obtain ⟨y267,hy267⟩ : ∃ y_ : List Int,y_ = (x22_3 ++ [x23_4]):=⟨_,rfl⟩
           replace H : (water_Sail.l3 k4 x23_4 (wrap64 (x20_3 - 1)) y267 l1_0 l1_1 t233 t234 t235 t238 t241 x248000_2) = some (r1,r2):=by first|(rw [hy267];with_reducible exact H)|(have H2_:=(Option.bind_some _ _).symm.trans H;rw [hy267];with_reducible exact H2_)|(have H2_:=(Option.bind_some _ _).symm.trans H;with_reducible exact H2_)|with_reducible exact H|(rw [hy267];exact H)|exact H
           have Ny267:=Aside0.mk hy267
           clear hy267
           have H':=Aside0.mk H
           clear H
           go_wp2_with (first|((with_reducible refine gate_builtin (b:=.append) (xs:=#[.tmp 158,.tmp 160]) rfl ?_);(try (refine gate_guard (by rfl) ?_;dsimp only));at_builtin;refine Kd.R_append (Kd.int .i64) (w0:=w) w.heap.size rfl (.tmp 158) (.tmp 160) 22 3 (.int .i64 0) 8 rfl Try.underlying22 info3 rfl (by decide) (by omega) u22 x22_3 x23_4 [.int .i64 x23_4] (fun k_ => some k_ ≠ (.slice Ao17 t235.length co17 : Value).ownBlock ∧ some k_ ≠ (.slice Ao18 t238.length co18 : Value).ownBlock) (fun _ => False) rfl rfl ?aP (fun _ hk => hk.elim) ?aF ?aO ?aB ?aS ?aL ?_;(case aP => exact rfl);(case aB => exact (hb_));(case aF => exact (fun k_ hk => ⟨Kd.fresh' (Kd.R_lt (Kd.R_up HO_246002.out)) k_ hk,Kd.fresh' (Kd.R_lt (Kd.R_up HO_246003.out)) k_ hk⟩));(case aO => exact (Kd.R_up HO_22.out));(case aS => exact (below_size (hb_)));(case aL => have:=LMc144.out;omega);intro v268 w145 ho hb hg hat;rw [← Ny267.out] at ho;have HO269:=Aside0.mk (ho);replace HO_246002:=Aside0.mk (Kd.R_after (ok:=(fun k_ => some k_ ≠ (.slice Ao18 t238.length co18 : Value).ownBlock)) (by (with_reducible repeat (first|apply Kd.R_alloc|apply Kd.R_drewN|apply Kd.R_drew));exact Kd.R_mono HO_246002.out (fun _ hk => ⟨hk.2,hk.1⟩)) hg hat);replace HO_246003:=Aside0.mk (Kd.R_after (ok:=(fun k_ => some k_ ≠ (.slice Ao17 t235.length co17 : Value).ownBlock)) (by (with_reducible repeat (first|apply Kd.R_alloc|apply Kd.R_drewN|apply Kd.R_drew));exact Kd.R_mono HO_246003.out (fun _ hk => ⟨hk.2,hk.1⟩)) hg hat);replace HO_246004:=Aside0.mk (Kd.R_over' (Kd.R_up HO_246004.out) (Kd.R_typed (Kd.R_up HO_22.out)) (by decide) hg);replace BK231:=Aside0.mk (blk_grown (blk_up BK231.out) hg (Kd.R_ne HO_22.out BK231.out (by decide)));replace BK232:=Aside0.mk (blk_grown (blk_up BK232.out) hg (Kd.R_ne HO_22.out BK232.out (by decide)));replace BK245:=Aside0.mk (blk_grown (blk_up BK245.out) hg (Kd.R_ne HO_22.out BK245.out (by decide)));replace BK247:=Aside0.mk (blk_grown (blk_up BK247.out) hg (mp_R_ne HO_22.out BK247.out));replace HB:=Aside0.mk (hb);clear HO_22;clear ho hb hg hat))
           go_roundg k4
           case measure => have:=HK1.out;have:=HK2.out;have:=HK3.out;have:=HK4.out;omega
           case rel => exact ⟨(x23_4),(wrap64 (x20_3 - 1)),(y267),(by first|rfl|(simp;done)|(simp [*];done)),(by first|rfl|(simp;done)|(simp [*];done)),H',⟨by have:=HK1.out;have:=HK2.out;have:=HK3.out;have:=HK4.out;omega⟩,⟨Kd.R_up HO269.out⟩,⟨by (with_reducible repeat (first|apply Kd.R_alloc|apply Kd.R_drewN|apply Kd.R_drew));exact Kd.R_mono HO_246002.out (fun _ hk => ⟨hk.2,hk.1⟩)⟩,⟨by (with_reducible repeat (first|apply Kd.R_alloc|apply Kd.R_drewN|apply Kd.R_drew));exact Kd.R_mono HO_246003.out (fun _ hk => ⟨hk.2,hk.1⟩)⟩,⟨Kd.R_up HO_246004.out⟩,⟨blk_up BK231.out⟩,⟨blk_up BK232.out⟩,⟨blk_up BK245.out⟩,⟨blk_up BK247.out⟩,⟨hb_⟩⟩
          rw [if_pos c78] at H
          have c78b0 : decide (x121_4 < 4) = true:=decide_eq_true c78
          clear c78
          replace H:=Option.bind_eq_some_iff.mp H
          obtain ⟨t265,A790,H⟩:=H
          replace H : (if t265 = true then ((water_ground_beyond.f k4 t233 t234 t235 t238 t241 x2_3 x121_4).bind fun t266 => (if mpHas t266 x248000_2 = true then (if (mpV t266 x248000_2) = (wrap64 (x20_3 - 1)) then (if x23_4 < 0 then (water_Sail.l4 k4 x2_3 x20_3 x22_3 t266 (wrap64 (x121_4 + 1)) l1_0 l1_1 t233 t234 t235 t238 t241 x248000_2) else (if t266 < x23_4 then (water_Sail.l4 k4 x2_3 x20_3 x22_3 t266 (wrap64 (x121_4 + 1)) l1_0 l1_1 t233 t234 t235 t238 t241 x248000_2) else (water_Sail.l4 k4 x2_3 x20_3 x22_3 x23_4 (wrap64 (x121_4 + 1)) l1_0 l1_1 t233 t234 t235 t238 t241 x248000_2))) else (water_Sail.l4 k4 x2_3 x20_3 x22_3 x23_4 (wrap64 (x121_4 + 1)) l1_0 l1_1 t233 t234 t235 t238 t241 x248000_2)) else (water_Sail.l4 k4 x2_3 x20_3 x22_3 x23_4 (wrap64 (x121_4 + 1)) l1_0 l1_1 t233 t234 t235 t238 t241 x248000_2))) else (water_Sail.l4 k4 x2_3 x20_3 x22_3 x23_4 (wrap64 (x121_4 + 1)) l1_0 l1_1 t233 t234 t235 t238 t241 x248000_2)) = some (r1,r2):=H
          have A79:=Aside0.mk A790
          clear A790
          by_cases c80 : t265 = true
          ·subst c80
           have H1 : ((water_ground_beyond.f k4 t233 t234 t235 t238 t241 x2_3 x121_4).bind fun t266 => (if mpHas t266 x248000_2 = true then (if (mpV t266 x248000_2) = (wrap64 (x20_3 - 1)) then (if x23_4 < 0 then (water_Sail.l4 k4 x2_3 x20_3 x22_3 t266 (wrap64 (x121_4 + 1)) l1_0 l1_1 t233 t234 t235 t238 t241 x248000_2) else (if t266 < x23_4 then (water_Sail.l4 k4 x2_3 x20_3 x22_3 t266 (wrap64 (x121_4 + 1)) l1_0 l1_1 t233 t234 t235 t238 t241 x248000_2) else (water_Sail.l4 k4 x2_3 x20_3 x22_3 x23_4 (wrap64 (x121_4 + 1)) l1_0 l1_1 t233 t234 t235 t238 t241 x248000_2))) else (water_Sail.l4 k4 x2_3 x20_3 x22_3 x23_4 (wrap64 (x121_4 + 1)) l1_0 l1_1 t233 t234 t235 t238 t241 x248000_2)) else (water_Sail.l4 k4 x2_3 x20_3 x22_3 x23_4 (wrap64 (x121_4 + 1)) l1_0 l1_1 t233 t234 t235 t238 t241 x248000_2))) = some (r1,r2):=by rw [if_pos rfl] at H;exact H
           clear H
           have H:=H1
           clear H1
           replace H:=Option.bind_eq_some_iff.mp H
           obtain ⟨t266,A810,H⟩:=H
           replace H : (if mpHas t266 x248000_2 = true then (if (mpV t266 x248000_2) = (wrap64 (x20_3 - 1)) then (if x23_4 < 0 then (water_Sail.l4 k4 x2_3 x20_3 x22_3 t266 (wrap64 (x121_4 + 1)) l1_0 l1_1 t233 t234 t235 t238 t241 x248000_2) else (if t266 < x23_4 then (water_Sail.l4 k4 x2_3 x20_3 x22_3 t266 (wrap64 (x121_4 + 1)) l1_0 l1_1 t233 t234 t235 t238 t241 x248000_2) else (water_Sail.l4 k4 x2_3 x20_3 x22_3 x23_4 (wrap64 (x121_4 + 1)) l1_0 l1_1 t233 t234 t235 t238 t241 x248000_2))) else (water_Sail.l4 k4 x2_3 x20_3 x22_3 x23_4 (wrap64 (x121_4 + 1)) l1_0 l1_1 t233 t234 t235 t238 t241 x248000_2)) else (water_Sail.l4 k4 x2_3 x20_3 x22_3 x23_4 (wrap64 (x121_4 + 1)) l1_0 l1_1 t233 t234 t235 t238 t241 x248000_2)) = some (r1,r2):=H
           have A81:=Aside0.mk A810
           clear A810
           by_cases c82 : mpHas t266 x248000_2 = true
           rotate_left
           ·rw [if_neg c82] at H
            have c82b0 : mpHas t266 x248000_2 = false:=by simpa using c82
            clear c82
            have H':=Aside0.mk H
            clear H
            have hnb126:=NB245_231.out
            have hnc126:=NB231_245.out
            have hnb127:=NB245_232.out
            have hnc127:=NB232_245.out
            have hnb128:=NB245_247.out
            have hnc128:=NB247_245.out
            obtain ⟨_,_,_,_,_,_,_,_,_,_⟩:=cells5 BK245.out
            have hnb130:=NB232_231.out
            have hnc130:=NB231_232.out
            have hnb131:=NB232_247.out
            have hnc131:=NB247_232.out
            obtain ⟨_,_,_,_⟩:=cells2 BK232.out
            go_wp2_with (first|((with_reducible refine gate_callee (f:=41) rfl ?_);refine goesL_ (some 128) rfl rfl Try.func41 (by kernel_rfl) rfl #[.agg #[.int .i64 t233,.int .i64 t234,.slice Ao17 t235.length co17,.slice Ao18 t238.length co18,.slice Ao19 t241.length co19],.agg #[.slice A1_0 l1_0.length c1_0,.slice A1_1 l1_1.length c1_1],.int .i64 x2_3,.int .i64 x121_4] rfl ga_ ?_;(with_reducible refine (water_ground_joined.calls k4 t233 t234 _ _ t235 _ _ t238 _ _ t241 _ _ l1_0 _ _ l1_1 x2_3 x121_4 true _ ?_ ?_ ?_ ?_ ?_ ?_ ?_ ?_ ?_ ?_ A79.out).mono ?_);exact Kd.C_up (Kd.R_reads' HO_246002.out).2.2;exact (Kd.R_reads' HO_246002.out).2.1;exact Kd.C_up (Kd.R_reads' HO_246003.out).2.2;exact (Kd.R_reads' HO_246003.out).2.1;exact Kd.C_up (Kd.R_reads' HO_246004.out).2.2;exact (Kd.R_reads' HO_246004.out).2.1;exact cq HR1_0;exact HC1_0.out;exact cq HR1_1;exact HC1_1.out;rintro e w133 ⟨rfl,hb⟩;refine ⟨_,rfl,?_⟩;replace HO_22:=rbw HO_22 hb;replace HO_246002:=rbw HO_246002 hb;replace HO_246003:=rbw HO_246003 hb;replace HO_246004:=rbw HO_246004 hb;replace BK231:=bkb BK231 hb;replace BK232:=bkb BK232 hb;replace BK245:=bkb BK245 hb;replace BK247:=bkb BK247 hb;replace HB:=hbs hb;obtain ⟨_,_,_,_,_,_,_,_,_,_⟩:=cells5 BK245.out)|((with_reducible refine gate_callee (f:=46) rfl ?_);refine goesL_ (some 132) rfl rfl Try.func46 (by kernel_rfl) rfl #[.agg #[.int .i64 t233,.int .i64 t234,.slice Ao17 t235.length co17,.slice Ao18 t238.length co18,.slice Ao19 t241.length co19],.int .i64 x2_3,.int .i64 x121_4] rfl ga_ ?_;(with_reducible refine (water_ground_beyond.calls k4 t233 t234 _ _ t235 _ _ t238 _ _ t241 x2_3 x121_4 t266 _ ?_ ?_ ?_ ?_ ?_ ?_ A81.out).mono ?_);exact Kd.C_up (Kd.R_reads' HO_246002.out).2.2;exact (Kd.R_reads' HO_246002.out).2.1;exact Kd.C_up (Kd.R_reads' HO_246003.out).2.2;exact (Kd.R_reads' HO_246003.out).2.1;exact Kd.C_up (Kd.R_reads' HO_246004.out).2.2;exact (Kd.R_reads' HO_246004.out).2.1;rintro e w135 ⟨rfl,hb⟩;refine ⟨_,rfl,?_⟩;replace HO_22:=rbw HO_22 hb;replace HO_246002:=rbw HO_246002 hb;replace HO_246003:=rbw HO_246003 hb;replace HO_246004:=rbw HO_246004 hb;replace BK231:=bkb BK231 hb;replace BK232:=bkb BK232 hb;replace BK245:=bkb BK245 hb;replace BK247:=bkb BK247 hb;replace HB:=hbs hb)|((with_reducible refine gate_dst (N:=136) rfl ?_);(try (refine gate_guard (by rfl) ?_;dsimp only));refine mp_look_ok rfl (t:=61) rfl (b:=gb247) (x:=t266) (l:=x248000_2) ?hm_ ?hk_ mpT_61 mpK_61 mpZ_61 ?hb_ ?_;(case hm_ => first|rfl|(go_simp;done));(case hk_ => first|rfl|(go_simp;done));(case hb_ => exact (blk_up BK247.out))))
            go_roundg k4
            case measure => have:=HK1.out;have:=HK2.out;have:=HK3.out;have:=HK4.out;omega
            case rel => exact ⟨(x23_4),(wrap64 (x121_4 + 1)),(by first|rfl|(simp;done)|(simp [*];done)),(by first|rfl|(simp;done)|(simp [*];done)),H',⟨by have:=HK1.out;have:=HK2.out;have:=HK3.out;have:=HK4.out;omega⟩,⟨Kd.R_up HO_22.out⟩,⟨Kd.R_up HO_246002.out⟩,⟨Kd.R_up HO_246003.out⟩,⟨Kd.R_up HO_246004.out⟩,⟨blk_up BK231.out⟩,⟨blk_up BK232.out⟩,⟨blk_up BK245.out⟩,⟨blk_up BK247.out⟩,⟨hb_⟩⟩
           rw [if_pos c82] at H
           have c82b0 : mpHas t266 x248000_2 = true:=c82
           clear c82
           by_cases c83 : (mpV t266 x248000_2) = (wrap64 (x20_3 - 1))
           rotate_left
           ·rw [if_neg c83] at H
            have c83b0:=bqf c83
            have c83b1:=bnt c83
            have H':=Aside0.mk H
            clear H
            have hnb116:=NB245_231.out
            have hnc116:=NB231_245.out
            have hnb117:=NB245_232.out
            have hnc117:=NB232_245.out
            have hnb118:=NB245_247.out
            have hnc118:=NB247_245.out
            obtain ⟨_,_,_,_,_,_,_,_,_,_⟩:=cells5 BK245.out
            have hnb120:=NB232_231.out
            have hnc120:=NB231_232.out
            have hnb121:=NB232_247.out
            have hnc121:=NB247_232.out
            obtain ⟨_,_,_,_⟩:=cells2 BK232.out
            go_wp2_with (first|((with_reducible refine gate_callee (f:=41) rfl ?_);refine goesL_ (some 128) rfl rfl Try.func41 (by kernel_rfl) rfl #[.agg #[.int .i64 t233,.int .i64 t234,.slice Ao17 t235.length co17,.slice Ao18 t238.length co18,.slice Ao19 t241.length co19],.agg #[.slice A1_0 l1_0.length c1_0,.slice A1_1 l1_1.length c1_1],.int .i64 x2_3,.int .i64 x121_4] rfl ga_ ?_;(with_reducible refine (water_ground_joined.calls k4 t233 t234 _ _ t235 _ _ t238 _ _ t241 _ _ l1_0 _ _ l1_1 x2_3 x121_4 true _ ?_ ?_ ?_ ?_ ?_ ?_ ?_ ?_ ?_ ?_ A79.out).mono ?_);exact Kd.C_up (Kd.R_reads' HO_246002.out).2.2;exact (Kd.R_reads' HO_246002.out).2.1;exact Kd.C_up (Kd.R_reads' HO_246003.out).2.2;exact (Kd.R_reads' HO_246003.out).2.1;exact Kd.C_up (Kd.R_reads' HO_246004.out).2.2;exact (Kd.R_reads' HO_246004.out).2.1;exact cq HR1_0;exact HC1_0.out;exact cq HR1_1;exact HC1_1.out;rintro e w123 ⟨rfl,hb⟩;refine ⟨_,rfl,?_⟩;replace HO_22:=rbw HO_22 hb;replace HO_246002:=rbw HO_246002 hb;replace HO_246003:=rbw HO_246003 hb;replace HO_246004:=rbw HO_246004 hb;replace BK231:=bkb BK231 hb;replace BK232:=bkb BK232 hb;replace BK245:=bkb BK245 hb;replace BK247:=bkb BK247 hb;replace HB:=hbs hb;obtain ⟨_,_,_,_,_,_,_,_,_,_⟩:=cells5 BK245.out)|((with_reducible refine gate_callee (f:=46) rfl ?_);refine goesL_ (some 132) rfl rfl Try.func46 (by kernel_rfl) rfl #[.agg #[.int .i64 t233,.int .i64 t234,.slice Ao17 t235.length co17,.slice Ao18 t238.length co18,.slice Ao19 t241.length co19],.int .i64 x2_3,.int .i64 x121_4] rfl ga_ ?_;(with_reducible refine (water_ground_beyond.calls k4 t233 t234 _ _ t235 _ _ t238 _ _ t241 x2_3 x121_4 t266 _ ?_ ?_ ?_ ?_ ?_ ?_ A81.out).mono ?_);exact Kd.C_up (Kd.R_reads' HO_246002.out).2.2;exact (Kd.R_reads' HO_246002.out).2.1;exact Kd.C_up (Kd.R_reads' HO_246003.out).2.2;exact (Kd.R_reads' HO_246003.out).2.1;exact Kd.C_up (Kd.R_reads' HO_246004.out).2.2;exact (Kd.R_reads' HO_246004.out).2.1;rintro e w125 ⟨rfl,hb⟩;refine ⟨_,rfl,?_⟩;replace HO_22:=rbw HO_22 hb;replace HO_246002:=rbw HO_246002 hb;replace HO_246003:=rbw HO_246003 hb;replace HO_246004:=rbw HO_246004 hb;replace BK231:=bkb BK231 hb;replace BK232:=bkb BK232 hb;replace BK245:=bkb BK245 hb;replace BK247:=bkb BK247 hb;replace HB:=hbs hb)|((with_reducible refine gate_dst (N:=136) rfl ?_);(try (refine gate_guard (by rfl) ?_;dsimp only));refine mp_look_ok rfl (t:=61) rfl (b:=gb247) (x:=t266) (l:=x248000_2) ?hm_ ?hk_ mpT_61 mpK_61 mpZ_61 ?hb_ ?_;(case hm_ => first|rfl|(go_simp;done));(case hk_ => first|rfl|(go_simp;done));(case hb_ => exact (blk_up BK247.out))))
            go_roundg k4
            case measure => have:=HK1.out;have:=HK2.out;have:=HK3.out;have:=HK4.out;omega
            case rel => exact ⟨(x23_4),(wrap64 (x121_4 + 1)),(by first|rfl|(simp;done)|(simp [*];done)),(by first|rfl|(simp;done)|(simp [*];done)),H',⟨by have:=HK1.out;have:=HK2.out;have:=HK3.out;have:=HK4.out;omega⟩,⟨Kd.R_up HO_22.out⟩,⟨Kd.R_up HO_246002.out⟩,⟨Kd.R_up HO_246003.out⟩,⟨Kd.R_up HO_246004.out⟩,⟨blk_up BK231.out⟩,⟨blk_up BK232.out⟩,⟨blk_up BK245.out⟩,⟨blk_up BK247.out⟩,⟨hb_⟩⟩
           rw [if_pos c83] at H
           have c83b0:=bqt c83
           have c83b1:=bnf c83
           clear c83
           by_cases c84 : x23_4 < 0
           ·rw [if_pos c84] at H
            have c84b0 : decide (x23_4 < 0) = true:=decide_eq_true c84
            clear c84
            have H':=Aside0.mk H
            clear H
            have hnb85:=NB245_231.out
            have hnc85:=NB231_245.out
            have hnb86:=NB245_232.out
            have hnc86:=NB232_245.out
            have hnb87:=NB245_247.out
            have hnc87:=NB247_245.out
            obtain ⟨_,_,_,_,_,_,_,_,_,_⟩:=cells5 BK245.out
            have hnb89:=NB232_231.out
            have hnc89:=NB231_232.out
            have hnb90:=NB232_247.out
            have hnc90:=NB247_232.out
            obtain ⟨_,_,_,_⟩:=cells2 BK232.out
            go_wp2_with (first|((with_reducible refine gate_callee (f:=41) rfl ?_);refine goesL_ (some 128) rfl rfl Try.func41 (by kernel_rfl) rfl #[.agg #[.int .i64 t233,.int .i64 t234,.slice Ao17 t235.length co17,.slice Ao18 t238.length co18,.slice Ao19 t241.length co19],.agg #[.slice A1_0 l1_0.length c1_0,.slice A1_1 l1_1.length c1_1],.int .i64 x2_3,.int .i64 x121_4] rfl ga_ ?_;(with_reducible refine (water_ground_joined.calls k4 t233 t234 _ _ t235 _ _ t238 _ _ t241 _ _ l1_0 _ _ l1_1 x2_3 x121_4 true _ ?_ ?_ ?_ ?_ ?_ ?_ ?_ ?_ ?_ ?_ A79.out).mono ?_);exact Kd.C_up (Kd.R_reads' HO_246002.out).2.2;exact (Kd.R_reads' HO_246002.out).2.1;exact Kd.C_up (Kd.R_reads' HO_246003.out).2.2;exact (Kd.R_reads' HO_246003.out).2.1;exact Kd.C_up (Kd.R_reads' HO_246004.out).2.2;exact (Kd.R_reads' HO_246004.out).2.1;exact cq HR1_0;exact HC1_0.out;exact cq HR1_1;exact HC1_1.out;rintro e w92 ⟨rfl,hb⟩;refine ⟨_,rfl,?_⟩;replace HO_22:=rbw HO_22 hb;replace HO_246002:=rbw HO_246002 hb;replace HO_246003:=rbw HO_246003 hb;replace HO_246004:=rbw HO_246004 hb;replace BK231:=bkb BK231 hb;replace BK232:=bkb BK232 hb;replace BK245:=bkb BK245 hb;replace BK247:=bkb BK247 hb;replace HB:=hbs hb;obtain ⟨_,_,_,_,_,_,_,_,_,_⟩:=cells5 BK245.out)|((with_reducible refine gate_callee (f:=46) rfl ?_);refine goesL_ (some 132) rfl rfl Try.func46 (by kernel_rfl) rfl #[.agg #[.int .i64 t233,.int .i64 t234,.slice Ao17 t235.length co17,.slice Ao18 t238.length co18,.slice Ao19 t241.length co19],.int .i64 x2_3,.int .i64 x121_4] rfl ga_ ?_;(with_reducible refine (water_ground_beyond.calls k4 t233 t234 _ _ t235 _ _ t238 _ _ t241 x2_3 x121_4 t266 _ ?_ ?_ ?_ ?_ ?_ ?_ A81.out).mono ?_);exact Kd.C_up (Kd.R_reads' HO_246002.out).2.2;exact (Kd.R_reads' HO_246002.out).2.1;exact Kd.C_up (Kd.R_reads' HO_246003.out).2.2;exact (Kd.R_reads' HO_246003.out).2.1;exact Kd.C_up (Kd.R_reads' HO_246004.out).2.2;exact (Kd.R_reads' HO_246004.out).2.1;rintro e w94 ⟨rfl,hb⟩;refine ⟨_,rfl,?_⟩;replace HO_22:=rbw HO_22 hb;replace HO_246002:=rbw HO_246002 hb;replace HO_246003:=rbw HO_246003 hb;replace HO_246004:=rbw HO_246004 hb;replace BK231:=bkb BK231 hb;replace BK232:=bkb BK232 hb;replace BK245:=bkb BK245 hb;replace BK247:=bkb BK247 hb;replace HB:=hbs hb)|((with_reducible refine gate_dst (N:=136) rfl ?_);(try (refine gate_guard (by rfl) ?_;dsimp only));refine mp_look_ok rfl (t:=61) rfl (b:=gb247) (x:=t266) (l:=x248000_2) ?hm_ ?hk_ mpT_61 mpK_61 mpZ_61 ?hb_ ?_;(case hm_ => first|rfl|(go_simp;done));(case hk_ => first|rfl|(go_simp;done));(case hb_ => exact (blk_up BK247.out))))
            go_roundg k4
            case measure => have:=HK1.out;have:=HK2.out;have:=HK3.out;have:=HK4.out;omega
            case rel => exact ⟨(t266),(wrap64 (x121_4 + 1)),(by first|rfl|(simp;done)|(simp [*];done)),(by first|rfl|(simp;done)|(simp [*];done)),H',⟨by have:=HK1.out;have:=HK2.out;have:=HK3.out;have:=HK4.out;omega⟩,⟨Kd.R_up HO_22.out⟩,⟨Kd.R_up HO_246002.out⟩,⟨Kd.R_up HO_246003.out⟩,⟨Kd.R_up HO_246004.out⟩,⟨blk_up BK231.out⟩,⟨blk_up BK232.out⟩,⟨blk_up BK245.out⟩,⟨blk_up BK247.out⟩,⟨hb_⟩⟩
           rw [if_neg c84] at H
           have c84b0 : decide (x23_4 < 0) = false:=decide_eq_false c84
           clear c84
           by_cases c95 : t266 < x23_4
           ·rw [if_pos c95] at H
            have c95b0 : decide (t266 < x23_4) = true:=decide_eq_true c95
            clear c95
            have H':=Aside0.mk H
            clear H
            have hnb96:=NB245_231.out
            have hnc96:=NB231_245.out
            have hnb97:=NB245_232.out
            have hnc97:=NB232_245.out
            have hnb98:=NB245_247.out
            have hnc98:=NB247_245.out
            obtain ⟨_,_,_,_,_,_,_,_,_,_⟩:=cells5 BK245.out
            have hnb100:=NB232_231.out
            have hnc100:=NB231_232.out
            have hnb101:=NB232_247.out
            have hnc101:=NB247_232.out
            obtain ⟨_,_,_,_⟩:=cells2 BK232.out
            go_wp2_with (first|((with_reducible refine gate_callee (f:=41) rfl ?_);refine goesL_ (some 128) rfl rfl Try.func41 (by kernel_rfl) rfl #[.agg #[.int .i64 t233,.int .i64 t234,.slice Ao17 t235.length co17,.slice Ao18 t238.length co18,.slice Ao19 t241.length co19],.agg #[.slice A1_0 l1_0.length c1_0,.slice A1_1 l1_1.length c1_1],.int .i64 x2_3,.int .i64 x121_4] rfl ga_ ?_;(with_reducible refine (water_ground_joined.calls k4 t233 t234 _ _ t235 _ _ t238 _ _ t241 _ _ l1_0 _ _ l1_1 x2_3 x121_4 true _ ?_ ?_ ?_ ?_ ?_ ?_ ?_ ?_ ?_ ?_ A79.out).mono ?_);exact Kd.C_up (Kd.R_reads' HO_246002.out).2.2;exact (Kd.R_reads' HO_246002.out).2.1;exact Kd.C_up (Kd.R_reads' HO_246003.out).2.2;exact (Kd.R_reads' HO_246003.out).2.1;exact Kd.C_up (Kd.R_reads' HO_246004.out).2.2;exact (Kd.R_reads' HO_246004.out).2.1;exact cq HR1_0;exact HC1_0.out;exact cq HR1_1;exact HC1_1.out;rintro e w103 ⟨rfl,hb⟩;refine ⟨_,rfl,?_⟩;replace HO_22:=rbw HO_22 hb;replace HO_246002:=rbw HO_246002 hb;replace HO_246003:=rbw HO_246003 hb;replace HO_246004:=rbw HO_246004 hb;replace BK231:=bkb BK231 hb;replace BK232:=bkb BK232 hb;replace BK245:=bkb BK245 hb;replace BK247:=bkb BK247 hb;replace HB:=hbs hb;obtain ⟨_,_,_,_,_,_,_,_,_,_⟩:=cells5 BK245.out)|((with_reducible refine gate_callee (f:=46) rfl ?_);refine goesL_ (some 132) rfl rfl Try.func46 (by kernel_rfl) rfl #[.agg #[.int .i64 t233,.int .i64 t234,.slice Ao17 t235.length co17,.slice Ao18 t238.length co18,.slice Ao19 t241.length co19],.int .i64 x2_3,.int .i64 x121_4] rfl ga_ ?_;(with_reducible refine (water_ground_beyond.calls k4 t233 t234 _ _ t235 _ _ t238 _ _ t241 x2_3 x121_4 t266 _ ?_ ?_ ?_ ?_ ?_ ?_ A81.out).mono ?_);exact Kd.C_up (Kd.R_reads' HO_246002.out).2.2;exact (Kd.R_reads' HO_246002.out).2.1;exact Kd.C_up (Kd.R_reads' HO_246003.out).2.2;exact (Kd.R_reads' HO_246003.out).2.1;exact Kd.C_up (Kd.R_reads' HO_246004.out).2.2;exact (Kd.R_reads' HO_246004.out).2.1;rintro e w105 ⟨rfl,hb⟩;refine ⟨_,rfl,?_⟩;replace HO_22:=rbw HO_22 hb;replace HO_246002:=rbw HO_246002 hb;replace HO_246003:=rbw HO_246003 hb;replace HO_246004:=rbw HO_246004 hb;replace BK231:=bkb BK231 hb;replace BK232:=bkb BK232 hb;replace BK245:=bkb BK245 hb;replace BK247:=bkb BK247 hb;replace HB:=hbs hb)|((with_reducible refine gate_dst (N:=136) rfl ?_);(try (refine gate_guard (by rfl) ?_;dsimp only));refine mp_look_ok rfl (t:=61) rfl (b:=gb247) (x:=t266) (l:=x248000_2) ?hm_ ?hk_ mpT_61 mpK_61 mpZ_61 ?hb_ ?_;(case hm_ => first|rfl|(go_simp;done));(case hk_ => first|rfl|(go_simp;done));(case hb_ => exact (blk_up BK247.out))))
            go_roundg k4
            case measure => have:=HK1.out;have:=HK2.out;have:=HK3.out;have:=HK4.out;omega
            case rel => exact ⟨(t266),(wrap64 (x121_4 + 1)),(by first|rfl|(simp;done)|(simp [*];done)),(by first|rfl|(simp;done)|(simp [*];done)),H',⟨by have:=HK1.out;have:=HK2.out;have:=HK3.out;have:=HK4.out;omega⟩,⟨Kd.R_up HO_22.out⟩,⟨Kd.R_up HO_246002.out⟩,⟨Kd.R_up HO_246003.out⟩,⟨Kd.R_up HO_246004.out⟩,⟨blk_up BK231.out⟩,⟨blk_up BK232.out⟩,⟨blk_up BK245.out⟩,⟨blk_up BK247.out⟩,⟨hb_⟩⟩
           ·rw [if_neg c95] at H
            have c95b0 : decide (t266 < x23_4) = false:=decide_eq_false c95
            clear c95
            have H':=Aside0.mk H
            clear H
            have hnb106:=NB245_231.out
            have hnc106:=NB231_245.out
            have hnb107:=NB245_232.out
            have hnc107:=NB232_245.out
            have hnb108:=NB245_247.out
            have hnc108:=NB247_245.out
            obtain ⟨_,_,_,_,_,_,_,_,_,_⟩:=cells5 BK245.out
            have hnb110:=NB232_231.out
            have hnc110:=NB231_232.out
            have hnb111:=NB232_247.out
            have hnc111:=NB247_232.out
            obtain ⟨_,_,_,_⟩:=cells2 BK232.out
            go_wp2_with (first|((with_reducible refine gate_callee (f:=41) rfl ?_);refine goesL_ (some 128) rfl rfl Try.func41 (by kernel_rfl) rfl #[.agg #[.int .i64 t233,.int .i64 t234,.slice Ao17 t235.length co17,.slice Ao18 t238.length co18,.slice Ao19 t241.length co19],.agg #[.slice A1_0 l1_0.length c1_0,.slice A1_1 l1_1.length c1_1],.int .i64 x2_3,.int .i64 x121_4] rfl ga_ ?_;(with_reducible refine (water_ground_joined.calls k4 t233 t234 _ _ t235 _ _ t238 _ _ t241 _ _ l1_0 _ _ l1_1 x2_3 x121_4 true _ ?_ ?_ ?_ ?_ ?_ ?_ ?_ ?_ ?_ ?_ A79.out).mono ?_);exact Kd.C_up (Kd.R_reads' HO_246002.out).2.2;exact (Kd.R_reads' HO_246002.out).2.1;exact Kd.C_up (Kd.R_reads' HO_246003.out).2.2;exact (Kd.R_reads' HO_246003.out).2.1;exact Kd.C_up (Kd.R_reads' HO_246004.out).2.2;exact (Kd.R_reads' HO_246004.out).2.1;exact cq HR1_0;exact HC1_0.out;exact cq HR1_1;exact HC1_1.out;rintro e w113 ⟨rfl,hb⟩;refine ⟨_,rfl,?_⟩;replace HO_22:=rbw HO_22 hb;replace HO_246002:=rbw HO_246002 hb;replace HO_246003:=rbw HO_246003 hb;replace HO_246004:=rbw HO_246004 hb;replace BK231:=bkb BK231 hb;replace BK232:=bkb BK232 hb;replace BK245:=bkb BK245 hb;replace BK247:=bkb BK247 hb;replace HB:=hbs hb;obtain ⟨_,_,_,_,_,_,_,_,_,_⟩:=cells5 BK245.out)|((with_reducible refine gate_callee (f:=46) rfl ?_);refine goesL_ (some 132) rfl rfl Try.func46 (by kernel_rfl) rfl #[.agg #[.int .i64 t233,.int .i64 t234,.slice Ao17 t235.length co17,.slice Ao18 t238.length co18,.slice Ao19 t241.length co19],.int .i64 x2_3,.int .i64 x121_4] rfl ga_ ?_;(with_reducible refine (water_ground_beyond.calls k4 t233 t234 _ _ t235 _ _ t238 _ _ t241 x2_3 x121_4 t266 _ ?_ ?_ ?_ ?_ ?_ ?_ A81.out).mono ?_);exact Kd.C_up (Kd.R_reads' HO_246002.out).2.2;exact (Kd.R_reads' HO_246002.out).2.1;exact Kd.C_up (Kd.R_reads' HO_246003.out).2.2;exact (Kd.R_reads' HO_246003.out).2.1;exact Kd.C_up (Kd.R_reads' HO_246004.out).2.2;exact (Kd.R_reads' HO_246004.out).2.1;rintro e w115 ⟨rfl,hb⟩;refine ⟨_,rfl,?_⟩;replace HO_22:=rbw HO_22 hb;replace HO_246002:=rbw HO_246002 hb;replace HO_246003:=rbw HO_246003 hb;replace HO_246004:=rbw HO_246004 hb;replace BK231:=bkb BK231 hb;replace BK232:=bkb BK232 hb;replace BK245:=bkb BK245 hb;replace BK247:=bkb BK247 hb;replace HB:=hbs hb)|((with_reducible refine gate_dst (N:=136) rfl ?_);(try (refine gate_guard (by rfl) ?_;dsimp only));refine mp_look_ok rfl (t:=61) rfl (b:=gb247) (x:=t266) (l:=x248000_2) ?hm_ ?hk_ mpT_61 mpK_61 mpZ_61 ?hb_ ?_;(case hm_ => first|rfl|(go_simp;done));(case hk_ => first|rfl|(go_simp;done));(case hb_ => exact (blk_up BK247.out))))
            go_roundg k4
            case measure => have:=HK1.out;have:=HK2.out;have:=HK3.out;have:=HK4.out;omega
            case rel => exact ⟨(x23_4),(wrap64 (x121_4 + 1)),(by first|rfl|(simp;done)|(simp [*];done)),(by first|rfl|(simp;done)|(simp [*];done)),H',⟨by have:=HK1.out;have:=HK2.out;have:=HK3.out;have:=HK4.out;omega⟩,⟨Kd.R_up HO_22.out⟩,⟨Kd.R_up HO_246002.out⟩,⟨Kd.R_up HO_246003.out⟩,⟨Kd.R_up HO_246004.out⟩,⟨blk_up BK231.out⟩,⟨blk_up BK232.out⟩,⟨blk_up BK245.out⟩,⟨blk_up BK247.out⟩,⟨hb_⟩⟩
          ·replace c80:=Bool.eq_false_iff.mpr c80
           subst c80
           have H1 : (water_Sail.l4 k4 x2_3 x20_3 x22_3 x23_4 (wrap64 (x121_4 + 1)) l1_0 l1_1 t233 t234 t235 t238 t241 x248000_2) = some (r1,r2):=by rw [if_neg (show ¬ (false = true) by decide)] at H;exact H
           clear H
           have H:=H1
           clear H1
           have H':=Aside0.mk H
           clear H
           have hnb136:=NB245_231.out
           have hnc136:=NB231_245.out
           have hnb137:=NB245_232.out
           have hnc137:=NB232_245.out
           have hnb138:=NB245_247.out
           have hnc138:=NB247_245.out
           obtain ⟨_,_,_,_,_,_,_,_,_,_⟩:=cells5 BK245.out
           have hnb140:=NB232_231.out
           have hnc140:=NB231_232.out
           have hnb141:=NB232_247.out
           have hnc141:=NB247_232.out
           obtain ⟨_,_,_,_⟩:=cells2 BK232.out
           go_wp2_with (first|((with_reducible refine gate_callee (f:=41) rfl ?_);refine goesL_ (some 128) rfl rfl Try.func41 (by kernel_rfl) rfl #[.agg #[.int .i64 t233,.int .i64 t234,.slice Ao17 t235.length co17,.slice Ao18 t238.length co18,.slice Ao19 t241.length co19],.agg #[.slice A1_0 l1_0.length c1_0,.slice A1_1 l1_1.length c1_1],.int .i64 x2_3,.int .i64 x121_4] rfl ga_ ?_;(with_reducible refine (water_ground_joined.calls k4 t233 t234 _ _ t235 _ _ t238 _ _ t241 _ _ l1_0 _ _ l1_1 x2_3 x121_4 false _ ?_ ?_ ?_ ?_ ?_ ?_ ?_ ?_ ?_ ?_ A79.out).mono ?_);exact Kd.C_up (Kd.R_reads' HO_246002.out).2.2;exact (Kd.R_reads' HO_246002.out).2.1;exact Kd.C_up (Kd.R_reads' HO_246003.out).2.2;exact (Kd.R_reads' HO_246003.out).2.1;exact Kd.C_up (Kd.R_reads' HO_246004.out).2.2;exact (Kd.R_reads' HO_246004.out).2.1;exact cq HR1_0;exact HC1_0.out;exact cq HR1_1;exact HC1_1.out;rintro e w143 ⟨rfl,hb⟩;refine ⟨_,rfl,?_⟩;replace HO_22:=rbw HO_22 hb;replace HO_246002:=rbw HO_246002 hb;replace HO_246003:=rbw HO_246003 hb;replace HO_246004:=rbw HO_246004 hb;replace BK231:=bkb BK231 hb;replace BK232:=bkb BK232 hb;replace BK245:=bkb BK245 hb;replace BK247:=bkb BK247 hb;replace HB:=hbs hb))
           go_roundg k4
           case measure => have:=HK1.out;have:=HK2.out;have:=HK3.out;have:=HK4.out;omega
           case rel => exact ⟨(x23_4),(wrap64 (x121_4 + 1)),(by first|rfl|(simp;done)|(simp [*];done)),(by first|rfl|(simp;done)|(simp [*];done)),H',⟨by have:=HK1.out;have:=HK2.out;have:=HK3.out;have:=HK4.out;omega⟩,⟨Kd.R_up HO_22.out⟩,⟨Kd.R_up HO_246002.out⟩,⟨Kd.R_up HO_246003.out⟩,⟨Kd.R_up HO_246004.out⟩,⟨blk_up BK231.out⟩,⟨blk_up BK232.out⟩,⟨blk_up BK245.out⟩,⟨blk_up BK247.out⟩,⟨hb_⟩⟩
     rw [if_pos c46] at H
     have c46b0 : decide (0 < (x15_2.length : Int)) = true:=decide_eq_true c46
     have c46b1 : decide (0 < x15_2.length) = true:=decide_eq_true (by omega)
     clear c46
     have H':=Aside0.mk H
     clear H
     obtain ⟨Ao47,co47,eo47,_⟩:=Kd.Q_slice HO_15.out
     subst eo47
     go_wp2
     go_loopg [15,70] k2 (fun kq v15 v70 w' => ∃ (x15_3 : List Int) (x70_3 : Int) (x248000_3 : List (Int × Int)),v70 = .int .i64 x70_3 ∧ Aside0 (water_Sail.l2 kq a2 x15_3 x70_3 l1_0 l1_1 t233 t234 t235 t238 t241 x248000_3 = some (r1,r2)) ∧ Aside0 (kq ≤ k2) ∧ Aside0 (Kd.Q (Kd.int .i64) 3 w' w.heap.size (fun k_ => some k_ ≠ ((.slice Ao17 t235.length co17) : Value).ownBlock ∧ some k_ ≠ ((.slice Ao18 t238.length co18) : Value).ownBlock) v15 x15_3) ∧ Aside0 (Kd.R (Kd.int .i64) 3 w' w.heap.size (fun k_ => some k_ ≠ (v15 : Value).ownBlock ∧ some k_ ≠ ((.slice Ao18 t238.length co18) : Value).ownBlock) (.slice Ao17 t235.length co17) t235) ∧ Aside0 (Kd.R (Kd.int .i64) 3 w' w.heap.size (fun k_ => some k_ ≠ (v15 : Value).ownBlock ∧ some k_ ≠ ((.slice Ao17 t235.length co17) : Value).ownBlock) (.slice Ao18 t238.length co18) t238) ∧ Aside0 (Kd.R Kd.bool 4 w' w.heap.size (fun _ => True) (.slice Ao19 t241.length co19) t241) ∧ Aside0 (w'.heap[gb231]? = some (.cells #[.int .i64 a0_0,.int .i64 a0_1,(.slice A0_2 l0_2.length c0_2)] 24 (0,0))) ∧ Aside0 (w'.heap[gb232]? = some (.cells #[(.slice A1_0 l1_0.length c1_0),(.slice A1_1 l1_1.length c1_1)] 26 (0,0))) ∧ Aside0 (w'.heap[gb245]? = some (.cells #[.int .i64 t233,.int .i64 t234,(.slice Ao17 t235.length co17),(.slice Ao18 t238.length co18),(.slice Ao19 t241.length co19)] 52 (0,0))) ∧ Aside0 (w'.heap[gb247]? = some (mpO x248000_3)) ∧ Aside0 (Below w.heap.size w w'))
     case atStart => exact ⟨(x15_2),(0),(x248000_2),(by first|rfl|(simp;done)|(simp [*];done)),H',⟨Nat.le_refl _⟩,⟨Kd.Q_up HO_15.out⟩,⟨Kd.R_up HO_246002.out⟩,⟨Kd.R_up HO_246003.out⟩,⟨Kd.R_up HO_246004.out⟩,⟨blk_up BK231.out⟩,⟨blk_up BK232.out⟩,⟨blk_up BK245.out⟩,⟨blk_up BK247.out⟩,⟨hb_⟩⟩
     case round =>
      clear H'
      obtain ⟨x15_3,x70_3,x248000_3,rfl,HA,HK3,HO_15,HO_246002,HO_246003,HO_246004,BK231,BK232,BK245,BK247,HB⟩:=hrel
      cases gk with
      | zero => exact absurd HA.out (by simp [water_Sail.l2])
      | succ k3 =>
       have H:=HA.out
       clear HA
       simp only [water_Sail.l2] at H
       by_cases c48 : x70_3 < 4
       rotate_left
       ·rw [if_neg c48] at H
        have c48b0 : decide (x70_3 < 4) = false:=decide_eq_false c48
        clear c48
        replace H:=ifp_ H;obtain ⟨c70,H⟩:=H
        have c70b0:=eq_true c70
        have c70b1 : decide (1 ≤ (x15_3.length : Int)) = true:=decide_eq_true c70
        clear c70
        obtain ⟨y259,hy259⟩ : ∃ y_ : List Int,y_ = (x15_3.drop (1 : Int).toNat):=⟨_,rfl⟩
        replace H : (water_Sail.l1 k3 a2 y259 l1_0 l1_1 t233 t234 t235 t238 t241 x248000_3) = some (r1,r2):=by first|(rw [hy259];with_reducible exact H)|(have H2_:=(Option.bind_some _ _).symm.trans H;rw [hy259];with_reducible exact H2_)|(have H2_:=(Option.bind_some _ _).symm.trans H;with_reducible exact H2_)|with_reducible exact H|(rw [hy259];exact H)|exact H
        have Ny259:=Aside0.mk hy259
        clear hy259
        have H':=Aside0.mk H
        clear H
        obtain ⟨Ao71,co71,eo71,_⟩:=Kd.Q_slice HO_15.out
        subst eo71
        have q72 : (1 : Int) ≤ ((x15_3.length : Int) : Int):=of_decide_eq_true (by first|(with_reducible assumption)|assumption)
        obtain ⟨i072,hi072,_,hsz72,_⟩:=info_parts info3
        have hcut72:=cut_from (P:=Try.prog) 22 3 .i64 Try.underlying22 hi072 1 hsz72 Ao71 x15_3.length co71 1 (by omega) q72
        have hr72:=Kd.Q_drop (k:=(1 : Int).toNat) HO_15.out (by omega)
        obtain ⟨A72,hA72⟩ : ∃ A1,A1 = (if co71 = (1 : Int).toNat then Ao71 else (Ao71 : Option Addr).map (·.add ((1 : Int).toNat * 1))):=⟨_,rfl⟩
        obtain ⟨c72,hc72⟩ : ∃ c1,c1 = co71 - (1 : Int).toNat:=⟨_,rfl⟩
        have hy72 : y259.length = x15_3.length - (1 : Int).toNat:=(by rw [Ny259.out,List.length_drop])
        rw [← Ny259.out] at hr72
        rw [← hy72,← hA72,← hc72] at hcut72
        replace hr72 : Kd.Q (Kd.int .i64) 3 wr w.heap.size (fun k_ => some k_ ≠ (.slice Ao17 t235.length co17 : Value).ownBlock ∧ some k_ ≠ (.slice Ao18 t238.length co18 : Value).ownBlock) (.slice A72 y259.length c72) y259:=(by rw [hA72,hc72,hy72];exact hr72)
        have HE72 : Aside0 ((Value.slice A72 y259.length c72).ownBlock = (.slice Ao71 x15_3.length co71 : Value).ownBlock):=⟨by rw [hA72];split <;> (cases (Ao71 : Option Addr) <;> rfl)⟩
        clear hy72 hi072 hsz72 HO_15 hA72 hc72
        have HO261:=Aside0.mk hr72
        clear hr72
        replace q72:=eq_true q72
        have n_:=Aside0.mk (Kd.R_mono (ok':=fun k_ => (some k_ ≠ (.slice A72 y259.length c72 : Value).ownBlock ∧ some k_ ≠ (.slice Ao18 t238.length co18 : Value).ownBlock)) HO_246002.out (fun k_ hk => ⟨(by rw [HE72.out];exact hk.1),hk.2⟩))
        clear HO_246002
        have HO_246002:=n_
        clear n_
        have n_:=Aside0.mk (Kd.R_mono (ok':=fun k_ => (some k_ ≠ (.slice A72 y259.length c72 : Value).ownBlock ∧ some k_ ≠ (.slice Ao17 t235.length co17 : Value).ownBlock)) HO_246003.out (fun k_ hk => ⟨(by rw [HE72.out];exact hk.1),hk.2⟩))
        clear HO_246003
        have HO_246003:=n_
        clear n_
        go_wp2
        go_roundg k3
        case measure => have:=HK1.out;have:=HK2.out;have:=HK3.out;omega
        case rel => exact ⟨(y259),(x248000_3),H',⟨by have:=HK1.out;have:=HK2.out;have:=HK3.out;omega⟩,⟨Kd.Q_up HO261.out⟩,⟨Kd.R_up HO_246002.out⟩,⟨Kd.R_up HO_246003.out⟩,⟨Kd.R_up HO_246004.out⟩,⟨blk_up BK231.out⟩,⟨blk_up BK232.out⟩,⟨blk_up BK245.out⟩,⟨blk_up BK247.out⟩,⟨hb_⟩⟩
       rw [if_pos c48] at H
       have c48b0 : decide (x70_3 < 4) = true:=decide_eq_true c48
       clear c48
       replace H:=ifp_ H;obtain ⟨c49,H⟩:=H
       have c49b0 : decide (0 < (x15_3.length : Int)) = true:=decide_eq_true c49
       have c49b1 : decide (0 < x15_3.length) = true:=decide_eq_true (by omega)
       clear c49
       replace H:=Option.bind_eq_some_iff.mp H
       obtain ⟨t252,A500,H⟩:=H
       replace H : (if t252 = true then ((water_ground_beyond.f k3 t233 t234 t235 t238 t241 (rd x15_3 0) x70_3).bind fun t254 => (if mpHas t254 x248000_3 = true then (water_Sail.l2 k3 a2 x15_3 (wrap64 (x70_3 + 1)) l1_0 l1_1 t233 t234 t235 t238 t241 x248000_3) else (if x15_3.length < 17592186044416 then (water_Sail.l2 k3 a2 (x15_3 ++ [t254]) (wrap64 (x70_3 + 1)) l1_0 l1_1 t233 t234 t235 t238 t241 (mpPut t254 (wrap64 ((mpV (rd x15_3 0) x248000_3) + 1)) x248000_3)) else (none)))) else (water_Sail.l2 k3 a2 x15_3 (wrap64 (x70_3 + 1)) l1_0 l1_1 t233 t234 t235 t238 t241 x248000_3)) = some (r1,r2):=H
       have A50:=Aside0.mk A500
       clear A500
       by_cases c51 : t252 = true
       ·subst c51
        have H1 : ((water_ground_beyond.f k3 t233 t234 t235 t238 t241 (rd x15_3 0) x70_3).bind fun t254 => (if mpHas t254 x248000_3 = true then (water_Sail.l2 k3 a2 x15_3 (wrap64 (x70_3 + 1)) l1_0 l1_1 t233 t234 t235 t238 t241 x248000_3) else (if x15_3.length < 17592186044416 then (water_Sail.l2 k3 a2 (x15_3 ++ [t254]) (wrap64 (x70_3 + 1)) l1_0 l1_1 t233 t234 t235 t238 t241 (mpPut t254 (wrap64 ((mpV (rd x15_3 0) x248000_3) + 1)) x248000_3)) else (none)))) = some (r1,r2):=by rw [if_pos rfl] at H;exact H
        clear H
        have H:=H1
        clear H1
        replace H:=Option.bind_eq_some_iff.mp H
        obtain ⟨t254,A520,H⟩:=H
        replace H : (if mpHas t254 x248000_3 = true then (water_Sail.l2 k3 a2 x15_3 (wrap64 (x70_3 + 1)) l1_0 l1_1 t233 t234 t235 t238 t241 x248000_3) else (if x15_3.length < 17592186044416 then (water_Sail.l2 k3 a2 (x15_3 ++ [t254]) (wrap64 (x70_3 + 1)) l1_0 l1_1 t233 t234 t235 t238 t241 (mpPut t254 (wrap64 ((mpV (rd x15_3 0) x248000_3) + 1)) x248000_3)) else (none))) = some (r1,r2):=H
        have A52:=Aside0.mk A520
        clear A520
        by_cases c53 : mpHas t254 x248000_3 = true
        ·rw [if_pos c53] at H
         have c53b0 : mpHas t254 x248000_3 = true:=c53
         clear c53
         have H':=Aside0.mk H
         clear H
         try go_wp2
         replace HO_15:=Aside0.mk (Kd.Q_drew HO_15.out)
         replace HO_246002:=Aside0.mk (Kd.R_drew HO_246002.out)
         replace HO_246003:=Aside0.mk (Kd.R_drew HO_246003.out)
         replace HO_246004:=Aside0.mk (Kd.R_drew HO_246004.out)
         replace BK231:=Aside0.mk (blk_drew BK231.out)
         replace BK232:=Aside0.mk (blk_drew BK232.out)
         replace BK245:=Aside0.mk (blk_drew BK245.out)
         replace BK247:=Aside0.mk (blk_drew BK247.out)
         replace HB:=Aside0.mk (below_drew1 HB.out)
         obtain ⟨Ao55,co55,eo55,_⟩:=Kd.Q_slice HO_15.out
         (first|subst eo55|(injection eo55 with f1_ f2_ f3_;have f4_:=f1_.symm;have f5_:=f3_.symm;clear f1_ f2_ f3_;subst f4_;subst f5_))
         have p251 : 0 ≤ (0 : Int):=(by omega)
         have q251 : 0 < (x15_3.length : Int):=of_decide_eq_true (by first|(with_reducible assumption)|assumption)
         obtain ⟨ad251,e251,hx251_0⟩:=Kd.at_int (Kd.Q_reads' HO_15.out).2.2 0 p251 q251
         cases e251
         have qi251 : (0 < x15_3.length) = True:=eq_true (by omega)
         (try rw [show ((0 : Int)).toNat = 0 from rfl] at hx251_0)
         (try rw [Addr.add_zero'] at hx251_0)
         replace p251:=eq_true p251
         replace q251:=eq_true q251
         refine start_ (n:=7) (S:=fun w' => w'.cell? ⟨gb245,0,none⟩ = some (.int .i64 t233) ∧ w'.cell? ⟨gb245,1,none⟩ = some (.int .i64 t234) ∧ w'.cell? ⟨gb245,2,none⟩ = some (.slice Ao17 t235.length co17) ∧ w'.cell? ⟨gb245,3,none⟩ = some (.slice Ao18 t238.length co18) ∧ w'.cell? ⟨gb245,4,none⟩ = some (.slice Ao19 t241.length co19) ∧ w'.cell? ⟨gb232,0,none⟩ = some (.slice A1_0 l1_0.length c1_0) ∧ w'.cell? ⟨gb232,1,none⟩ = some (.slice A1_1 l1_1.length c1_1) ∧ w'.cell? ad251 = some (.int .i64 (rd x15_3 0))) (ds:=[]) #[false,false,false,false,false,false,false] (by kernel_rfl) rfl rfl ⟨(blk_cell BK245.out 0).trans rfl,(blk_cell BK245.out 1).trans rfl,(blk_cell BK245.out 2).trans rfl,(blk_cell BK245.out 3).trans rfl,(blk_cell BK245.out 4).trans rfl,(blk_cell BK232.out 0).trans rfl,(blk_cell BK232.out 1).trans rfl,hx251_0⟩ (fun hHeld => ?_)
         generalize wr.drew = w54 at HO_15 HO_246002 HO_246003 HO_246004 BK231 BK232 BK245 BK247 HB hx251_0 hHeld ⊢
         refine pI 2 (some 75) ?_
         refine pI 3 (some 76) ?_
         refine pI 5 (some 78) ?_
         refine tI8 0 (some 73) hHeld ?_
         refine tI8 1 (some 74) hHeld ?_
         refine tI8 4 (some 77) hHeld ?_
         refine oI 6 (some 79) (fun K hK => ?_)
         refine goes_ Try.func41 (by kernel_rfl) rfl #[.agg #[.int .i64 t233,.int .i64 t234,.slice Ao17 t235.length co17,.slice Ao18 t238.length co18,.slice Ao19 t241.length co19],.agg #[.slice A1_0 l1_0.length c1_0,.slice A1_1 l1_1.length c1_1],.int .i64 (rd x15_3 0),.int .i64 x70_3] (by rfl) rfl rfl ga_ ?_
         with_reducible refine (water_ground_joined.calls k3 t233 t234 _ _ t235 _ _ t238 _ _ t241 _ _ l1_0 _ _ l1_1 (rd x15_3 0) x70_3 true _ ?side1 ?side2 ?side3 ?side4 ?side5 ?side6 ?side7 ?side8 ?side9 ?side10 A50.out).mono ?_
         (case side1 => exact Kd.C_up (Kd.R_reads' HO_246002.out).2.2)
         (case side2 => exact (Kd.R_reads' HO_246002.out).2.1)
         (case side3 => exact Kd.C_up (Kd.R_reads' HO_246003.out).2.2)
         (case side4 => exact (Kd.R_reads' HO_246003.out).2.1)
         (case side5 => exact Kd.C_up (Kd.R_reads' HO_246004.out).2.2)
         (case side6 => exact (Kd.R_reads' HO_246004.out).2.1)
         (case side7 => exact cq HR1_0)
         (case side8 => exact HC1_0.out)
         (case side9 => exact cq HR1_1)
         (case side10 => exact HC1_1.out)
         rintro e w56 ⟨rfl,hb⟩
         have HS7_:=(hb.cell (World.block_lt_of_cell? _ _ (hHeld.2.2.2.2.2.2.2))).trans (hHeld.2.2.2.2.2.2.2)
         refine ⟨_,rfl,?_⟩
         have n0_:=Aside0.mk (Kd.Q_below (Kd.Q_up HO_15.out) hb)
         have n1_:=rbw HO_246002 hb
         have n2_:=rbw HO_246003 hb
         have n3_:=rbw HO_246004 hb
         have n4_:=bkb BK231 hb
         have n5_:=bkb BK232 hb
         have n6_:=bkb BK245 hb
         have n7_:=bkb BK247 hb
         have n8_:=Aside0.mk (below_step (hb_) hb)
         clear HO_15
         clear HO_246002
         clear HO_246003
         clear HO_246004
         clear BK231
         clear BK232
         clear BK245
         clear BK247
         clear HB
         have HO_15:=n0_
         have HO_246002:=n1_
         have HO_246003:=n2_
         have HO_246004:=n3_
         have BK231:=n4_
         have BK232:=n5_
         have BK245:=n6_
         have BK247:=n7_
         have HB:=n8_
         clear n0_ n1_ n2_ n3_ n4_ n5_ n6_ n7_ n8_
         (try clear hb)
         (try clear hb2)
         (try clear hk)
         (try clear hi)
         refine hK.out _ _ ⟨(blk_cell BK245.out 0).trans rfl,(blk_cell BK245.out 1).trans rfl,(blk_cell BK245.out 2).trans rfl,(blk_cell BK245.out 3).trans rfl,(blk_cell BK245.out 4).trans rfl,(blk_cell BK232.out 0).trans rfl,(blk_cell BK232.out 1).trans rfl,HS7_⟩ (fun hHeld => ?_)
         clear hK K
         refine norm_ (a':=?_) ?_ ?_
         rotate_left
         ·show Act.put _ (some 79) _ = _
          simp only [Act.put,List.setIfInBounds_toArray,List.set_cons_zero,List.set_cons_succ,i64_w,i32_w]
          rfl
         refine done_ (by kernel_rfl) ?_
         try go_wp2
         replace HO_15:=Aside0.mk (Kd.Q_drew HO_15.out)
         replace HO_246002:=Aside0.mk (Kd.R_drew HO_246002.out)
         replace HO_246003:=Aside0.mk (Kd.R_drew HO_246003.out)
         replace HO_246004:=Aside0.mk (Kd.R_drew HO_246004.out)
         replace BK231:=Aside0.mk (blk_drew BK231.out)
         replace BK232:=Aside0.mk (blk_drew BK232.out)
         replace BK245:=Aside0.mk (blk_drew BK245.out)
         replace BK247:=Aside0.mk (blk_drew BK247.out)
         replace HB:=Aside0.mk (below_drew1 HB.out)
         have p253 : 0 ≤ (0 : Int):=(by omega)
         have q253 : 0 < (x15_3.length : Int):=of_decide_eq_true (by first|(with_reducible assumption)|assumption)
         obtain ⟨ad253,e253,hx253_0⟩:=Kd.at_int (Kd.Q_reads' HO_15.out).2.2 0 p253 q253
         obtain rfl : ad251 = ad253:=(by injection e253)
         have qi253 : (0 < x15_3.length) = True:=eq_true (by omega)
         (try rw [show ((0 : Int)).toNat = 0 from rfl] at hx253_0)
         (try rw [Addr.add_zero'] at hx253_0)
         replace p253:=eq_true p253
         replace q253:=eq_true q253
         refine start_ (n:=7) (S:=fun w' => w'.cell? ⟨gb245,0,none⟩ = some (.int .i64 t233) ∧ w'.cell? ⟨gb245,1,none⟩ = some (.int .i64 t234) ∧ w'.cell? ⟨gb245,2,none⟩ = some (.slice Ao17 t235.length co17) ∧ w'.cell? ⟨gb245,3,none⟩ = some (.slice Ao18 t238.length co18) ∧ w'.cell? ⟨gb245,4,none⟩ = some (.slice Ao19 t241.length co19) ∧ w'.cell? ad251 = some (.int .i64 (rd x15_3 0))) (ds:=[]) #[false,false,false,false,false,false,false] (by kernel_rfl) rfl rfl ⟨(blk_cell BK245.out 0).trans rfl,(blk_cell BK245.out 1).trans rfl,(blk_cell BK245.out 2).trans rfl,(blk_cell BK245.out 3).trans rfl,(blk_cell BK245.out 4).trans rfl,hx253_0⟩ (fun hHeld => ?_)
         generalize w56.drew = w57 at HO_15 HO_246002 HO_246003 HO_246004 BK231 BK232 BK245 BK247 HB hx253_0 hHeld ⊢
         refine pI 1 (some 81) ?_
         refine pI 2 (some 82) ?_
         refine pI 4 (some 84) ?_
         refine tI6 0 (some 80) hHeld ?_
         refine tI6 3 (some 83) hHeld ?_
         refine oI 5 (some 85) (fun K hK => ?_)
         refine goes_ Try.func46 (by kernel_rfl) rfl #[.agg #[.int .i64 t233,.int .i64 t234,.slice Ao17 t235.length co17,.slice Ao18 t238.length co18,.slice Ao19 t241.length co19],.int .i64 (rd x15_3 0),.int .i64 x70_3] (by rfl) rfl rfl ga_ ?_
         with_reducible refine (water_ground_beyond.calls k3 t233 t234 _ _ t235 _ _ t238 _ _ t241 (rd x15_3 0) x70_3 t254 _ ?side1 ?side2 ?side3 ?side4 ?side5 ?side6 A52.out).mono ?_
         (case side1 => exact Kd.C_up (Kd.R_reads' HO_246002.out).2.2)
         (case side2 => exact (Kd.R_reads' HO_246002.out).2.1)
         (case side3 => exact Kd.C_up (Kd.R_reads' HO_246003.out).2.2)
         (case side4 => exact (Kd.R_reads' HO_246003.out).2.1)
         (case side5 => exact Kd.C_up (Kd.R_reads' HO_246004.out).2.2)
         (case side6 => exact (Kd.R_reads' HO_246004.out).2.1)
         rintro e w58 ⟨rfl,hb⟩
         have HS5_:=(hb.cell (World.block_lt_of_cell? _ _ (hHeld.2.2.2.2.2))).trans (hHeld.2.2.2.2.2)
         refine ⟨_,rfl,?_⟩
         have n0_:=Aside0.mk (Kd.Q_below (Kd.Q_up HO_15.out) hb)
         have n1_:=rbw HO_246002 hb
         have n2_:=rbw HO_246003 hb
         have n3_:=rbw HO_246004 hb
         have n4_:=bkb BK231 hb
         have n5_:=bkb BK232 hb
         have n6_:=bkb BK245 hb
         have n7_:=bkb BK247 hb
         have n8_:=Aside0.mk (below_step (hb_) hb)
         clear HO_15
         clear HO_246002
         clear HO_246003
         clear HO_246004
         clear BK231
         clear BK232
         clear BK245
         clear BK247
         clear HB
         have HO_15:=n0_
         have HO_246002:=n1_
         have HO_246003:=n2_
         have HO_246004:=n3_
         have BK231:=n4_
         have BK232:=n5_
         have BK245:=n6_
         have BK247:=n7_
         have HB:=n8_
         clear n0_ n1_ n2_ n3_ n4_ n5_ n6_ n7_ n8_
         (try clear hb)
         (try clear hb2)
         (try clear hk)
         (try clear hi)
         refine hK.out _ _ ⟨(blk_cell BK245.out 0).trans rfl,(blk_cell BK245.out 1).trans rfl,(blk_cell BK245.out 2).trans rfl,(blk_cell BK245.out 3).trans rfl,(blk_cell BK245.out 4).trans rfl,HS5_⟩ (fun hHeld => ?_)
         clear hK K
         refine norm_ (a':=?_) ?_ ?_
         rotate_left
         ·show Act.put _ (some 85) _ = _
          simp only [Act.put,List.setIfInBounds_toArray,List.set_cons_zero,List.set_cons_succ,i64_w,i32_w]
          rfl
         refine pI 6 (some 17) ?_
         refine done_ (by kernel_rfl) ?_
         try go_wp2_with (first|((with_reducible refine gate_dst (N:=89) rfl ?_);(try (refine gate_guard (by rfl) ?_;dsimp only));refine mp_look_ok rfl (t:=61) rfl (b:=gb247) (x:=t254) (l:=x248000_3) ?hm_ ?hk_ mpT_61 mpK_61 mpZ_61 ?hb_ ?_;(case hm_ => first|rfl|(go_simp;done));(case hk_ => first|rfl|(go_simp;done));(case hb_ => exact (blk_up BK247.out))))
         go_roundg k3
         case measure => have:=HK1.out;have:=HK2.out;have:=HK3.out;omega
         case rel => exact ⟨(x15_3),(wrap64 (x70_3 + 1)),(x248000_3),(by first|rfl|(simp;done)|(simp [*];done)),H',⟨by have:=HK1.out;have:=HK2.out;have:=HK3.out;omega⟩,⟨Kd.Q_up HO_15.out⟩,⟨Kd.R_up HO_246002.out⟩,⟨Kd.R_up HO_246003.out⟩,⟨Kd.R_up HO_246004.out⟩,⟨blk_up BK231.out⟩,⟨blk_up BK232.out⟩,⟨blk_up BK245.out⟩,⟨blk_up BK247.out⟩,⟨hb_⟩⟩
        rw [if_neg c53] at H
        have c53b0 : mpHas t254 x248000_3 = false:=by simpa using c53
        clear c53
        replace H:=ifp_ H;obtain ⟨c59,H⟩:=H
        have LMc59:=Aside0.mk c59
        clear c59
        obtain ⟨y256,hy256⟩ : ∃ y_ : List Int,y_ = (x15_3 ++ [t254]):=⟨_,rfl⟩
        replace H : (water_Sail.l2 k3 a2 y256 (wrap64 (x70_3 + 1)) l1_0 l1_1 t233 t234 t235 t238 t241 (mpPut t254 (wrap64 ((mpV (rd x15_3 0) x248000_3) + 1)) x248000_3)) = some (r1,r2):=by first|(rw [hy256];with_reducible exact H)|(have H2_:=(Option.bind_some _ _).symm.trans H;rw [hy256];with_reducible exact H2_)|(have H2_:=(Option.bind_some _ _).symm.trans H;with_reducible exact H2_)|with_reducible exact H|(rw [hy256];exact H)|exact H
        have Ny256:=Aside0.mk hy256
        clear hy256
        have H':=Aside0.mk H
        clear H
        try go_wp2
        replace HO_15:=Aside0.mk (Kd.Q_drew HO_15.out)
        replace HO_246002:=Aside0.mk (Kd.R_drew HO_246002.out)
        replace HO_246003:=Aside0.mk (Kd.R_drew HO_246003.out)
        replace HO_246004:=Aside0.mk (Kd.R_drew HO_246004.out)
        replace BK231:=Aside0.mk (blk_drew BK231.out)
        replace BK232:=Aside0.mk (blk_drew BK232.out)
        replace BK245:=Aside0.mk (blk_drew BK245.out)
        replace BK247:=Aside0.mk (blk_drew BK247.out)
        replace HB:=Aside0.mk (below_drew1 HB.out)
        obtain ⟨Ao61,co61,eo61,_⟩:=Kd.Q_slice HO_15.out
        (first|subst eo61|(injection eo61 with f1_ f2_ f3_;have f4_:=f1_.symm;have f5_:=f3_.symm;clear f1_ f2_ f3_;subst f4_;subst f5_))
        have p251 : 0 ≤ (0 : Int):=(by omega)
        have q251 : 0 < (x15_3.length : Int):=of_decide_eq_true (by first|(with_reducible assumption)|assumption)
        obtain ⟨ad251,e251,hx251_0⟩:=Kd.at_int (Kd.Q_reads' HO_15.out).2.2 0 p251 q251
        cases e251
        have qi251 : (0 < x15_3.length) = True:=eq_true (by omega)
        (try rw [show ((0 : Int)).toNat = 0 from rfl] at hx251_0)
        (try rw [Addr.add_zero'] at hx251_0)
        replace p251:=eq_true p251
        replace q251:=eq_true q251
        refine start_ (n:=7) (S:=fun w' => w'.cell? ⟨gb245,0,none⟩ = some (.int .i64 t233) ∧ w'.cell? ⟨gb245,1,none⟩ = some (.int .i64 t234) ∧ w'.cell? ⟨gb245,2,none⟩ = some (.slice Ao17 t235.length co17) ∧ w'.cell? ⟨gb245,3,none⟩ = some (.slice Ao18 t238.length co18) ∧ w'.cell? ⟨gb245,4,none⟩ = some (.slice Ao19 t241.length co19) ∧ w'.cell? ⟨gb232,0,none⟩ = some (.slice A1_0 l1_0.length c1_0) ∧ w'.cell? ⟨gb232,1,none⟩ = some (.slice A1_1 l1_1.length c1_1) ∧ w'.cell? ad251 = some (.int .i64 (rd x15_3 0))) (ds:=[]) #[false,false,false,false,false,false,false] (by kernel_rfl) rfl rfl ⟨(blk_cell BK245.out 0).trans rfl,(blk_cell BK245.out 1).trans rfl,(blk_cell BK245.out 2).trans rfl,(blk_cell BK245.out 3).trans rfl,(blk_cell BK245.out 4).trans rfl,(blk_cell BK232.out 0).trans rfl,(blk_cell BK232.out 1).trans rfl,hx251_0⟩ (fun hHeld => ?_)
        generalize wr.drew = w60 at HO_15 HO_246002 HO_246003 HO_246004 BK231 BK232 BK245 BK247 HB hx251_0 hHeld ⊢
        refine pI 2 (some 75) ?_
        refine pI 3 (some 76) ?_
        refine pI 5 (some 78) ?_
        refine tI8 0 (some 73) hHeld ?_
        refine tI8 1 (some 74) hHeld ?_
        refine tI8 4 (some 77) hHeld ?_
        refine oI 6 (some 79) (fun K hK => ?_)
        refine goes_ Try.func41 (by kernel_rfl) rfl #[.agg #[.int .i64 t233,.int .i64 t234,.slice Ao17 t235.length co17,.slice Ao18 t238.length co18,.slice Ao19 t241.length co19],.agg #[.slice A1_0 l1_0.length c1_0,.slice A1_1 l1_1.length c1_1],.int .i64 (rd x15_3 0),.int .i64 x70_3] (by rfl) rfl rfl ga_ ?_
        with_reducible refine (water_ground_joined.calls k3 t233 t234 _ _ t235 _ _ t238 _ _ t241 _ _ l1_0 _ _ l1_1 (rd x15_3 0) x70_3 true _ ?side1 ?side2 ?side3 ?side4 ?side5 ?side6 ?side7 ?side8 ?side9 ?side10 A50.out).mono ?_
        (case side1 => exact Kd.C_up (Kd.R_reads' HO_246002.out).2.2)
        (case side2 => exact (Kd.R_reads' HO_246002.out).2.1)
        (case side3 => exact Kd.C_up (Kd.R_reads' HO_246003.out).2.2)
        (case side4 => exact (Kd.R_reads' HO_246003.out).2.1)
        (case side5 => exact Kd.C_up (Kd.R_reads' HO_246004.out).2.2)
        (case side6 => exact (Kd.R_reads' HO_246004.out).2.1)
        (case side7 => exact cq HR1_0)
        (case side8 => exact HC1_0.out)
        (case side9 => exact cq HR1_1)
        (case side10 => exact HC1_1.out)
        rintro e w62 ⟨rfl,hb⟩
        have HS7_:=(hb.cell (World.block_lt_of_cell? _ _ (hHeld.2.2.2.2.2.2.2))).trans (hHeld.2.2.2.2.2.2.2)
        refine ⟨_,rfl,?_⟩
        have n0_:=Aside0.mk (Kd.Q_below (Kd.Q_up HO_15.out) hb)
        have n1_:=rbw HO_246002 hb
        have n2_:=rbw HO_246003 hb
        have n3_:=rbw HO_246004 hb
        have n4_:=bkb BK231 hb
        have n5_:=bkb BK232 hb
        have n6_:=bkb BK245 hb
        have n7_:=bkb BK247 hb
        have n8_:=Aside0.mk (below_step (hb_) hb)
        clear HO_15
        clear HO_246002
        clear HO_246003
        clear HO_246004
        clear BK231
        clear BK232
        clear BK245
        clear BK247
        clear HB
        have HO_15:=n0_
        have HO_246002:=n1_
        have HO_246003:=n2_
        have HO_246004:=n3_
        have BK231:=n4_
        have BK232:=n5_
        have BK245:=n6_
        have BK247:=n7_
        have HB:=n8_
        clear n0_ n1_ n2_ n3_ n4_ n5_ n6_ n7_ n8_
        (try clear hb)
        (try clear hb2)
        (try clear hk)
        (try clear hi)
        refine hK.out _ _ ⟨(blk_cell BK245.out 0).trans rfl,(blk_cell BK245.out 1).trans rfl,(blk_cell BK245.out 2).trans rfl,(blk_cell BK245.out 3).trans rfl,(blk_cell BK245.out 4).trans rfl,(blk_cell BK232.out 0).trans rfl,(blk_cell BK232.out 1).trans rfl,HS7_⟩ (fun hHeld => ?_)
        clear hK K
        refine norm_ (a':=?_) ?_ ?_
        rotate_left
        ·show Act.put _ (some 79) _ = _
         simp only [Act.put,List.setIfInBounds_toArray,List.set_cons_zero,List.set_cons_succ,i64_w,i32_w]
         rfl
        refine done_ (by kernel_rfl) ?_
        try go_wp2
        replace HO_15:=Aside0.mk (Kd.Q_drew HO_15.out)
        replace HO_246002:=Aside0.mk (Kd.R_drew HO_246002.out)
        replace HO_246003:=Aside0.mk (Kd.R_drew HO_246003.out)
        replace HO_246004:=Aside0.mk (Kd.R_drew HO_246004.out)
        replace BK231:=Aside0.mk (blk_drew BK231.out)
        replace BK232:=Aside0.mk (blk_drew BK232.out)
        replace BK245:=Aside0.mk (blk_drew BK245.out)
        replace BK247:=Aside0.mk (blk_drew BK247.out)
        replace HB:=Aside0.mk (below_drew1 HB.out)
        have p253 : 0 ≤ (0 : Int):=(by omega)
        have q253 : 0 < (x15_3.length : Int):=of_decide_eq_true (by first|(with_reducible assumption)|assumption)
        obtain ⟨ad253,e253,hx253_0⟩:=Kd.at_int (Kd.Q_reads' HO_15.out).2.2 0 p253 q253
        obtain rfl : ad251 = ad253:=(by injection e253)
        have qi253 : (0 < x15_3.length) = True:=eq_true (by omega)
        (try rw [show ((0 : Int)).toNat = 0 from rfl] at hx253_0)
        (try rw [Addr.add_zero'] at hx253_0)
        replace p253:=eq_true p253
        replace q253:=eq_true q253
        refine start_ (n:=7) (S:=fun w' => w'.cell? ⟨gb245,0,none⟩ = some (.int .i64 t233) ∧ w'.cell? ⟨gb245,1,none⟩ = some (.int .i64 t234) ∧ w'.cell? ⟨gb245,2,none⟩ = some (.slice Ao17 t235.length co17) ∧ w'.cell? ⟨gb245,3,none⟩ = some (.slice Ao18 t238.length co18) ∧ w'.cell? ⟨gb245,4,none⟩ = some (.slice Ao19 t241.length co19) ∧ w'.cell? ad251 = some (.int .i64 (rd x15_3 0))) (ds:=[]) #[false,false,false,false,false,false,false] (by kernel_rfl) rfl rfl ⟨(blk_cell BK245.out 0).trans rfl,(blk_cell BK245.out 1).trans rfl,(blk_cell BK245.out 2).trans rfl,(blk_cell BK245.out 3).trans rfl,(blk_cell BK245.out 4).trans rfl,hx253_0⟩ (fun hHeld => ?_)
        generalize w62.drew = w63 at HO_15 HO_246002 HO_246003 HO_246004 BK231 BK232 BK245 BK247 HB hx253_0 hHeld ⊢
        refine pI 1 (some 81) ?_
        refine pI 2 (some 82) ?_
        refine pI 4 (some 84) ?_
        refine tI6 0 (some 80) hHeld ?_
        refine tI6 3 (some 83) hHeld ?_
        refine oI 5 (some 85) (fun K hK => ?_)
        refine goes_ Try.func46 (by kernel_rfl) rfl #[.agg #[.int .i64 t233,.int .i64 t234,.slice Ao17 t235.length co17,.slice Ao18 t238.length co18,.slice Ao19 t241.length co19],.int .i64 (rd x15_3 0),.int .i64 x70_3] (by rfl) rfl rfl ga_ ?_
        with_reducible refine (water_ground_beyond.calls k3 t233 t234 _ _ t235 _ _ t238 _ _ t241 (rd x15_3 0) x70_3 t254 _ ?side1 ?side2 ?side3 ?side4 ?side5 ?side6 A52.out).mono ?_
        (case side1 => exact Kd.C_up (Kd.R_reads' HO_246002.out).2.2)
        (case side2 => exact (Kd.R_reads' HO_246002.out).2.1)
        (case side3 => exact Kd.C_up (Kd.R_reads' HO_246003.out).2.2)
        (case side4 => exact (Kd.R_reads' HO_246003.out).2.1)
        (case side5 => exact Kd.C_up (Kd.R_reads' HO_246004.out).2.2)
        (case side6 => exact (Kd.R_reads' HO_246004.out).2.1)
        rintro e w64 ⟨rfl,hb⟩
        have HS5_:=(hb.cell (World.block_lt_of_cell? _ _ (hHeld.2.2.2.2.2))).trans (hHeld.2.2.2.2.2)
        refine ⟨_,rfl,?_⟩
        have n0_:=Aside0.mk (Kd.Q_below (Kd.Q_up HO_15.out) hb)
        have n1_:=rbw HO_246002 hb
        have n2_:=rbw HO_246003 hb
        have n3_:=rbw HO_246004 hb
        have n4_:=bkb BK231 hb
        have n5_:=bkb BK232 hb
        have n6_:=bkb BK245 hb
        have n7_:=bkb BK247 hb
        have n8_:=Aside0.mk (below_step (hb_) hb)
        clear HO_15
        clear HO_246002
        clear HO_246003
        clear HO_246004
        clear BK231
        clear BK232
        clear BK245
        clear BK247
        clear HB
        have HO_15:=n0_
        have HO_246002:=n1_
        have HO_246003:=n2_
        have HO_246004:=n3_
        have BK231:=n4_
        have BK232:=n5_
        have BK245:=n6_
        have BK247:=n7_
        have HB:=n8_
        clear n0_ n1_ n2_ n3_ n4_ n5_ n6_ n7_ n8_
        (try clear hb)
        (try clear hb2)
        (try clear hk)
        (try clear hi)
        refine hK.out _ _ ⟨(blk_cell BK245.out 0).trans rfl,(blk_cell BK245.out 1).trans rfl,(blk_cell BK245.out 2).trans rfl,(blk_cell BK245.out 3).trans rfl,(blk_cell BK245.out 4).trans rfl,HS5_⟩ (fun hHeld => ?_)
        clear hK K
        refine norm_ (a':=?_) ?_ ?_
        rotate_left
        ·show Act.put _ (some 85) _ = _
         simp only [Act.put,List.setIfInBounds_toArray,List.set_cons_zero,List.set_cons_succ,i64_w,i32_w]
         rfl
        refine pI 6 (some 17) ?_
        refine done_ (by kernel_rfl) ?_
        try go_wp2_with (first|((with_reducible refine gate_dst (N:=89) rfl ?_);(try (refine gate_guard (by rfl) ?_;dsimp only));refine mp_look_ok rfl (t:=61) rfl (b:=gb247) (x:=t254) (l:=x248000_3) ?hm_ ?hk_ mpT_61 mpK_61 mpZ_61 ?hb_ ?_;(case hm_ => first|rfl|(go_simp;done));(case hk_ => first|rfl|(go_simp;done));(case hb_ => exact (blk_up BK247.out));have p255 : 0 ≤ (0 : Int):=(by omega);have q255 : 0 < (x15_3.length : Int):=of_decide_eq_true (by first|(with_reducible assumption)|assumption);obtain ⟨ad255,e255,hx255_0⟩:=Kd.at_int (Kd.Q_reads' HO_15.out).2.2 0 p255 q255;obtain rfl : ad251 = ad255:=(by injection e255);have qi255 : (0 < x15_3.length) = True:=eq_true (by omega);(try rw [show ((0 : Int)).toNat = 0 from rfl] at hx255_0);(try rw [Addr.add_zero'] at hx255_0);replace p255:=eq_true p255;replace q255:=eq_true q255)|((with_reducible refine gate_dst (N:=100) rfl ?_);(try (refine gate_guard (by rfl) ?_;dsimp only));refine mp_look_1 rfl (t:=61) rfl (b:=gb247) (x:=rd x15_3 0) (l:=x248000_3) ?hm_ ?hk_ mpT_61 mpK_61 mpZ_61 ?hb_ ?_;(case hm_ => first|rfl|(go_simp;done));(case hk_ => first|rfl|(go_simp;done));(case hb_ => exact (blk_up BK247.out)))|((with_reducible refine mp_gate (t:=61) rfl ?_);refine mp_put rfl rfl (t:=61) rfl (b:=gb247) (x:=t254) (y:=wrap64 ((mpV (rd x15_3 0) x248000_3) + 1)) (l:=x248000_3) ?hm_ ?hk_ ?hv_ mpT_61 mpK_61 ?hb_ ?_;(case hm_ => first|rfl|(go_simp;done));(case hk_ => first|rfl|(go_simp;done));(case hv_ => first|rfl|(go_simp;done));(case hb_ => exact (blk_up BK247.out));intro w65 hbox hg;replace HO_15:=Aside0.mk (mp_Q_over (Kd.Q_up HO_15.out) (blk_up BK247.out) ⟨_,rfl⟩ hg);replace HO_246002:=Aside0.mk (mp_R_over (Kd.R_up HO_246002.out) (blk_up BK247.out) ⟨_,rfl⟩ hg);replace HO_246003:=Aside0.mk (mp_R_over (Kd.R_up HO_246003.out) (blk_up BK247.out) ⟨_,rfl⟩ hg);replace HO_246004:=Aside0.mk (mp_R_over (Kd.R_up HO_246004.out) (blk_up BK247.out) ⟨_,rfl⟩ hg);replace BK231:=Aside0.mk (blk_grown (blk_up BK231.out) hg (fun e_ => NB231_247.out (Option.some.inj e_)));replace BK232:=Aside0.mk (blk_grown (blk_up BK232.out) hg (fun e_ => NB232_247.out (Option.some.inj e_)));replace BK245:=Aside0.mk (blk_grown (blk_up BK245.out) hg (fun e_ => NB245_247.out (Option.some.inj e_)));replace BK247:=Aside0.mk (hbox);replace HB:=Aside0.mk (Below.grown (hb_) hg (below_size (hb_)) (fun k_ hk_ => by injection hk_ with hk_;rw [← hk_];exact GE247.out));clear hbox hg)|((with_reducible refine gate_builtin (b:=.append) (xs:=#[.tmp 102,.tmp 104]) rfl ?_);(try (refine gate_guard (by rfl) ?_;dsimp only));at_builtin;refine Kd.Q_append (Kd.int .i64) (w0:=w) w.heap.size rfl (.tmp 102) (.tmp 104) 22 3 (.int .i64 0) 8 rfl Try.underlying22 info3 rfl (by decide) (by omega) (.slice (some ad251) x15_3.length co61) x15_3 t254 [.int .i64 t254] (fun k_ => some k_ ≠ (.slice Ao17 t235.length co17 : Value).ownBlock ∧ some k_ ≠ (.slice Ao18 t238.length co18 : Value).ownBlock) (fun _ => False) rfl rfl ?aP (fun _ hk => hk.elim) ?aF ?aO ?aB ?aS ?aL ?_;(case aP => exact rfl);(case aB => exact (hb_));(case aF => exact (fun k_ hk => ⟨Kd.fresh' (Kd.R_lt (Kd.R_up HO_246002.out)) k_ hk,Kd.fresh' (Kd.R_lt (Kd.R_up HO_246003.out)) k_ hk⟩));(case aO => exact (Kd.Q_up HO_15.out));(case aS => exact (below_size (hb_)));(case aL => have:=LMc59.out;omega);intro v257 w66 ho hb hg hat;rw [← Ny256.out] at ho;have HO258:=Aside0.mk (ho);replace HO_246002:=Aside0.mk (Kd.R_after (ok:=(fun k_ => some k_ ≠ (.slice Ao18 t238.length co18 : Value).ownBlock)) (by (with_reducible repeat (first|apply Kd.R_alloc|apply Kd.R_drewN|apply Kd.R_drew));exact Kd.R_mono HO_246002.out (fun _ hk => ⟨hk.2,hk.1⟩)) hg hat);replace HO_246003:=Aside0.mk (Kd.R_after (ok:=(fun k_ => some k_ ≠ (.slice Ao17 t235.length co17 : Value).ownBlock)) (by (with_reducible repeat (first|apply Kd.R_alloc|apply Kd.R_drewN|apply Kd.R_drew));exact Kd.R_mono HO_246003.out (fun _ hk => ⟨hk.2,hk.1⟩)) hg hat);replace HO_246004:=Aside0.mk (Kd.R_over' (Kd.R_up HO_246004.out) (Kd.Q_typed (Kd.Q_up HO_15.out)) (by decide) hg);replace BK231:=Aside0.mk (blk_grown (blk_up BK231.out) hg (Kd.Q_ne HO_15.out BK231.out (by decide)));replace BK232:=Aside0.mk (blk_grown (blk_up BK232.out) hg (Kd.Q_ne HO_15.out BK232.out (by decide)));replace BK245:=Aside0.mk (blk_grown (blk_up BK245.out) hg (Kd.Q_ne HO_15.out BK245.out (by decide)));replace BK247:=Aside0.mk (blk_grown (blk_up BK247.out) hg (mp_Q_ne HO_15.out BK247.out));replace HB:=Aside0.mk (hb);clear HO_15;clear ho hb hg hat))
        go_roundg k3
        case measure => have:=HK1.out;have:=HK2.out;have:=HK3.out;omega
        case rel => exact ⟨(y256),(wrap64 (x70_3 + 1)),(mpPut t254 (wrap64 ((mpV (rd x15_3 0) x248000_3) + 1)) x248000_3),(by first|rfl|(simp;done)|(simp [*];done)),H',⟨by have:=HK1.out;have:=HK2.out;have:=HK3.out;omega⟩,⟨Kd.Q_up HO258.out⟩,⟨by (with_reducible repeat (first|apply Kd.R_alloc|apply Kd.R_drewN|apply Kd.R_drew));exact Kd.R_mono HO_246002.out (fun _ hk => ⟨hk.2,hk.1⟩)⟩,⟨by (with_reducible repeat (first|apply Kd.R_alloc|apply Kd.R_drewN|apply Kd.R_drew));exact Kd.R_mono HO_246003.out (fun _ hk => ⟨hk.2,hk.1⟩)⟩,⟨Kd.R_up HO_246004.out⟩,⟨blk_up BK231.out⟩,⟨blk_up BK232.out⟩,⟨blk_up BK245.out⟩,⟨blk_up BK247.out⟩,⟨hb_⟩⟩
       ·replace c51:=Bool.eq_false_iff.mpr c51
        subst c51
        have H1 : (water_Sail.l2 k3 a2 x15_3 (wrap64 (x70_3 + 1)) l1_0 l1_1 t233 t234 t235 t238 t241 x248000_3) = some (r1,r2):=by rw [if_neg (show ¬ (false = true) by decide)] at H;exact H
        clear H
        have H:=H1
        clear H1
        have H':=Aside0.mk H
        clear H
        try go_wp2
        replace HO_15:=Aside0.mk (Kd.Q_drew HO_15.out)
        replace HO_246002:=Aside0.mk (Kd.R_drew HO_246002.out)
        replace HO_246003:=Aside0.mk (Kd.R_drew HO_246003.out)
        replace HO_246004:=Aside0.mk (Kd.R_drew HO_246004.out)
        replace BK231:=Aside0.mk (blk_drew BK231.out)
        replace BK232:=Aside0.mk (blk_drew BK232.out)
        replace BK245:=Aside0.mk (blk_drew BK245.out)
        replace BK247:=Aside0.mk (blk_drew BK247.out)
        replace HB:=Aside0.mk (below_drew1 HB.out)
        obtain ⟨Ao68,co68,eo68,_⟩:=Kd.Q_slice HO_15.out
        (first|subst eo68|(injection eo68 with f1_ f2_ f3_;have f4_:=f1_.symm;have f5_:=f3_.symm;clear f1_ f2_ f3_;subst f4_;subst f5_))
        have p251 : 0 ≤ (0 : Int):=(by omega)
        have q251 : 0 < (x15_3.length : Int):=of_decide_eq_true (by first|(with_reducible assumption)|assumption)
        obtain ⟨ad251,e251,hx251_0⟩:=Kd.at_int (Kd.Q_reads' HO_15.out).2.2 0 p251 q251
        cases e251
        have qi251 : (0 < x15_3.length) = True:=eq_true (by omega)
        (try rw [show ((0 : Int)).toNat = 0 from rfl] at hx251_0)
        (try rw [Addr.add_zero'] at hx251_0)
        replace p251:=eq_true p251
        replace q251:=eq_true q251
        refine start_ (n:=7) (S:=fun w' => w'.cell? ⟨gb245,0,none⟩ = some (.int .i64 t233) ∧ w'.cell? ⟨gb245,1,none⟩ = some (.int .i64 t234) ∧ w'.cell? ⟨gb245,2,none⟩ = some (.slice Ao17 t235.length co17) ∧ w'.cell? ⟨gb245,3,none⟩ = some (.slice Ao18 t238.length co18) ∧ w'.cell? ⟨gb245,4,none⟩ = some (.slice Ao19 t241.length co19) ∧ w'.cell? ⟨gb232,0,none⟩ = some (.slice A1_0 l1_0.length c1_0) ∧ w'.cell? ⟨gb232,1,none⟩ = some (.slice A1_1 l1_1.length c1_1) ∧ w'.cell? ad251 = some (.int .i64 (rd x15_3 0))) (ds:=[]) #[false,false,false,false,false,false,false] (by kernel_rfl) rfl rfl ⟨(blk_cell BK245.out 0).trans rfl,(blk_cell BK245.out 1).trans rfl,(blk_cell BK245.out 2).trans rfl,(blk_cell BK245.out 3).trans rfl,(blk_cell BK245.out 4).trans rfl,(blk_cell BK232.out 0).trans rfl,(blk_cell BK232.out 1).trans rfl,hx251_0⟩ (fun hHeld => ?_)
        generalize wr.drew = w67 at HO_15 HO_246002 HO_246003 HO_246004 BK231 BK232 BK245 BK247 HB hx251_0 hHeld ⊢
        refine pI 2 (some 75) ?_
        refine pI 3 (some 76) ?_
        refine pI 5 (some 78) ?_
        refine tI8 0 (some 73) hHeld ?_
        refine tI8 1 (some 74) hHeld ?_
        refine tI8 4 (some 77) hHeld ?_
        refine oI 6 (some 79) (fun K hK => ?_)
        refine goes_ Try.func41 (by kernel_rfl) rfl #[.agg #[.int .i64 t233,.int .i64 t234,.slice Ao17 t235.length co17,.slice Ao18 t238.length co18,.slice Ao19 t241.length co19],.agg #[.slice A1_0 l1_0.length c1_0,.slice A1_1 l1_1.length c1_1],.int .i64 (rd x15_3 0),.int .i64 x70_3] (by rfl) rfl rfl ga_ ?_
        with_reducible refine (water_ground_joined.calls k3 t233 t234 _ _ t235 _ _ t238 _ _ t241 _ _ l1_0 _ _ l1_1 (rd x15_3 0) x70_3 false _ ?side1 ?side2 ?side3 ?side4 ?side5 ?side6 ?side7 ?side8 ?side9 ?side10 A50.out).mono ?_
        (case side1 => exact Kd.C_up (Kd.R_reads' HO_246002.out).2.2)
        (case side2 => exact (Kd.R_reads' HO_246002.out).2.1)
        (case side3 => exact Kd.C_up (Kd.R_reads' HO_246003.out).2.2)
        (case side4 => exact (Kd.R_reads' HO_246003.out).2.1)
        (case side5 => exact Kd.C_up (Kd.R_reads' HO_246004.out).2.2)
        (case side6 => exact (Kd.R_reads' HO_246004.out).2.1)
        (case side7 => exact cq HR1_0)
        (case side8 => exact HC1_0.out)
        (case side9 => exact cq HR1_1)
        (case side10 => exact HC1_1.out)
        rintro e w69 ⟨rfl,hb⟩
        have HS7_:=(hb.cell (World.block_lt_of_cell? _ _ (hHeld.2.2.2.2.2.2.2))).trans (hHeld.2.2.2.2.2.2.2)
        refine ⟨_,rfl,?_⟩
        have n0_:=Aside0.mk (Kd.Q_below (Kd.Q_up HO_15.out) hb)
        have n1_:=rbw HO_246002 hb
        have n2_:=rbw HO_246003 hb
        have n3_:=rbw HO_246004 hb
        have n4_:=bkb BK231 hb
        have n5_:=bkb BK232 hb
        have n6_:=bkb BK245 hb
        have n7_:=bkb BK247 hb
        have n8_:=Aside0.mk (below_step (hb_) hb)
        clear HO_15
        clear HO_246002
        clear HO_246003
        clear HO_246004
        clear BK231
        clear BK232
        clear BK245
        clear BK247
        clear HB
        have HO_15:=n0_
        have HO_246002:=n1_
        have HO_246003:=n2_
        have HO_246004:=n3_
        have BK231:=n4_
        have BK232:=n5_
        have BK245:=n6_
        have BK247:=n7_
        have HB:=n8_
        clear n0_ n1_ n2_ n3_ n4_ n5_ n6_ n7_ n8_
        (try clear hb)
        (try clear hb2)
        (try clear hk)
        (try clear hi)
        refine hK.out _ _ ⟨(blk_cell BK245.out 0).trans rfl,(blk_cell BK245.out 1).trans rfl,(blk_cell BK245.out 2).trans rfl,(blk_cell BK245.out 3).trans rfl,(blk_cell BK245.out 4).trans rfl,(blk_cell BK232.out 0).trans rfl,(blk_cell BK232.out 1).trans rfl,HS7_⟩ (fun hHeld => ?_)
        clear hK K
        refine norm_ (a':=?_) ?_ ?_
        rotate_left
        ·show Act.put _ (some 79) _ = _
         simp only [Act.put,List.setIfInBounds_toArray,List.set_cons_zero,List.set_cons_succ,i64_w,i32_w]
         rfl
        refine done_ (by kernel_rfl) ?_
        try go_wp2
        go_roundg k3
        case measure => have:=HK1.out;have:=HK2.out;have:=HK3.out;omega
        case rel => exact ⟨(x15_3),(wrap64 (x70_3 + 1)),(x248000_3),(by first|rfl|(simp;done)|(simp [*];done)),H',⟨by have:=HK1.out;have:=HK2.out;have:=HK3.out;omega⟩,⟨Kd.Q_up HO_15.out⟩,⟨Kd.R_up HO_246002.out⟩,⟨Kd.R_up HO_246003.out⟩,⟨Kd.R_up HO_246004.out⟩,⟨blk_up BK231.out⟩,⟨blk_up BK232.out⟩,⟨blk_up BK245.out⟩,⟨blk_up BK247.out⟩,⟨hb_⟩⟩

/-! ### hinterlandlaw06_sea: function 39 -/
def hinterlandlaw06_sea.f  : Option (Int × Int × List Int) := if 25 ≤ 35184372088832 then (some (4, 4, (List.replicate 25 0))) else (none)
set_option maxHeartbeats 8000000 in
set_option maxRecDepth 100000 in
theorem hinterlandlaw06_sea.calls  (r1 : Int) (r2 : Int) (r3 : List Int) (w : World) (h : hinterlandlaw06_sea.f  = some (r1, r2, r3)) :
  Calls Try.prog 39 #[] w fun e w' => ∃ v2_ : Value,e = .returned (.agg #[.int .i64 r1,.int .i64 r2,v2_]) ∧ Kd.R (Kd.int .i64) 3 w' w.heap.size (fun _ => True) v2_ r3 ∧ Below w.heap.size w w':=by
 have hu24:=Try.underlying24
 have HB:=Aside0.mk (Below.refl w.heap.size w)
 have H : (if 25 ≤ 35184372088832 then (some (4,4,(List.replicate 25 0))) else (none)) = some (r1,r2,r3):=h
 clear h
 replace H:=ifp_ H;obtain ⟨c1,H⟩:=H
 have c1b0:=eq_true c1
 have c1b1 : decide (25 ≤ 35184372088832) = true:=decide_eq_true c1
 clear c1
 obtain ⟨y271,hy271⟩ : ∃ y_ : List Int,y_ = (List.replicate 25 0):=⟨_,rfl⟩
 replace H : (some (4,4,y271)) = some (r1,r2,r3):=by first|(rw [hy271];with_reducible exact H)|(have H2_:=(Option.bind_some _ _).symm.trans H;rw [hy271];with_reducible exact H2_)|(have H2_:=(Option.bind_some _ _).symm.trans H;with_reducible exact H2_)|with_reducible exact H|(rw [hy271];exact H)|exact H
 have Ny271:=Aside0.mk hy271
 clear hy271
 simp only [Option.some.injEq,Prod.mk.injEq] at H
 obtain ⟨rfl,rfl,rfl⟩:=H
 go_enter Try.func39,Try.ntmps39
 go_wp2_with (first|((with_reducible refine gate_dst (N:=0) rfl ?_);refine box_ev (N:=0) (cs:=#[.int .i64 0,.int .i64 0,.slice none 0 0]) (t:=24) ?_;intro gb270 hg w2 hbox hb;have BK270:=Aside0.mk (hbox);have GW270 : Aside0 (w.heap.size ≤ gb270):=gsz hg;have GE270:=GW270;replace HB:=hbs hb;clear hb hbox hg)|((with_reducible refine gate_dst (N:=1) rfl ?_);refine Kd.R_make (Kd.int .i64) _ 3 rfl (N:=1) rfl 22 _ _ rfl 25 rfl rfl Try.underlying22 (.int .i64 0) 8 info3 rfl (by decide) (by omega) 0 (ok:=fun _ => True) (okp:=fun _ => True) rfl (fun _ hk => hk) trivial (by omega) (by omega) (Below.refl _ _) (Nat.le_refl _) ?_;intro v272 w3 ho4 hb hg_ hnew_;clear hg_ hnew_;(first|rw [← Ny271.out] at ho4|(simp only [Int.reduceToNat] at ho4;rw [← Ny271.out] at ho4));have HO273:=rlo ho4;replace BK270:=bkb BK270 hb;replace HB:=hbs hb;clear hb ho4;obtain ⟨Ao5,co5,eo5⟩:=Kd.R_slice HO273.out;subst eo5;obtain ⟨_,_,_,_,_,_⟩:=cells3 BK270.out))
 refine bodyPost_ret (results_cell_row rfl _ _ gb270 24 #[.int .i64 4,.int .i64 4,.slice Ao5 y271.length co5] (0,0) _ rfl (by (with_reducible repeat (first|refine blk_drewN ?_ _|refine blk_drew ?_|refine blk_alloc ?_ _));exact blk_puts3 (blk_up BK270.out)) Try.underlying24 rfl (by kernel_rfl)) rfl ?_
 exact ⟨_,er_,by (with_reducible repeat (first|apply Kd.R_alloc|apply Kd.R_drewN|apply Kd.R_drew));exact Kd.R_mono (Kd.R_fars gb270 (Kd.R_types HO273.out BK270.out (by decide)) (fun _ hk => hk.2)) (fun _ hk => trivial),hb_⟩

/-! ### hinterlandlaw06_known: function 15 -/
def hinterlandlaw06_known.j0 : Nat → Bool → Option (Bool)
 | 0,_ => none
 | k + 1,x0 => some x0
def hinterlandlaw06_known.f (k : Nat)  : Option (Bool) := if 16 ≤ 35184372088832 then ((some (List.replicate 16 0 : List Int)).bind fun y274 => ((hinterlandlaw06_sea.f).bind fun bt278 => ((water_Joined.f k bt278.1 bt278.2.1 bt278.2.2 y274 ([] : List Int) 0 0).bind fun bt283 => ((hinterlandlaw06_sea.f).bind fun bt285 => ((water_Sail.f k bt285.1 bt285.2.1 bt285.2.2 y274 ([] : List Int) 5 5).bind fun bt290 => (if bt283.1 = true then (if bt283.2 = 0 then (if bt290.2 = 0 then (if (bt290.1.length : Int) = 1 then (if 0 < (bt290.1.length : Int) then (hinterlandlaw06_known.j0 k ((rd bt290.1 0) == 5)) else (none)) else (hinterlandlaw06_known.j0 k false)) else (hinterlandlaw06_known.j0 k false)) else (hinterlandlaw06_known.j0 k false)) else (hinterlandlaw06_known.j0 k false))))))) else (none)
theorem hinterlandlaw06_known.mono_l : ∀ k, (∀ y0, LeO (hinterlandlaw06_known.j0 k y0) (hinterlandlaw06_known.j0 (k + 1) y0))
 | 0 => fun _ r h => by simp [hinterlandlaw06_known.j0] at h
 | k + 1 => by
  have ih0:=hinterlandlaw06_known.mono_l k
  ·intro y0
   unfold hinterlandlaw06_known.j0
   repeat' first
   | (with_reducible exact ih0 _)
   | (with_reducible exact water_Joined.mono _ _ _ _ _ _ _ _)
   | (with_reducible exact water_Sail.mono _ _ _ _ _ _ _ _)
   | (with_reducible exact LeO.refl _)
   | (with_reducible exact LeO.none _)
   | (with_reducible refine LeO.ite ?_ ?_)
   | (with_reducible refine LeO.bind ?_ (fun _ => ?_))
   | exact ih0 _
   | exact water_Joined.mono _ _ _ _ _ _ _ _
   | exact water_Sail.mono _ _ _ _ _ _ _ _
   | exact LeO.none _
   | refine LeO.ite ?_ ?_
   | refine LeO.bind ?_ (fun _ => ?_)
theorem hinterlandlaw06_known.mono : ∀ k, LeO (hinterlandlaw06_known.f k ) (hinterlandlaw06_known.f (k + 1) ) := by
 intro  k
 have ih0:=hinterlandlaw06_known.mono_l k
 unfold hinterlandlaw06_known.f
 repeat' first
   | (with_reducible exact ih0 _)
   | (with_reducible exact water_Joined.mono _ _ _ _ _ _ _ _)
   | (with_reducible exact water_Sail.mono _ _ _ _ _ _ _ _)
   | (with_reducible exact LeO.refl _)
   | (with_reducible exact LeO.none _)
   | (with_reducible refine LeO.ite ?_ ?_)
   | (with_reducible refine LeO.bind ?_ (fun _ => ?_))
   | exact ih0 _
   | exact water_Joined.mono _ _ _ _ _ _ _ _
   | exact water_Sail.mono _ _ _ _ _ _ _ _
   | exact LeO.none _
   | refine LeO.ite ?_ ?_
   | refine LeO.bind ?_ (fun _ => ?_)
def hinterlandlaw06_known.T2 : Bool × List (List Nat × List Nat) := (true, [([], []), ([], []), ([0, 1, 0], [0, 1]), ([2], [2]), ([3], [3]), ([3], [3]), ([4, 2, 0, 1, 2, 3, 4], [4]), ([5, 6, 0, 1, 2, 3, 4, 5, 6], [5])])
def hinterlandlaw06_known.B2 : List Nat := [0, 0, 3, 7, 15, 15, 31, 127]
theorem hinterlandlaw06_known.tab2 : rtab .any (opsOf Try.f15 2) = hinterlandlaw06_known.T2 := by kernel_rfl
theorem hinterlandlaw06_known.bits2 : waitsOk hinterlandlaw06_known.T2.2 hinterlandlaw06_known.B2 = true := by kernel_rfl
def hinterlandlaw06_known.T3 : Bool × List (List Nat × List Nat) := (true, [([], []), ([], []), ([0, 1, 0], [0, 1]), ([2], [2]), ([3], [3]), ([3], [3]), ([4, 2, 0, 1, 2, 3, 4], [4]), ([5, 6, 0, 1, 2, 3, 4, 5, 6], [5])])
def hinterlandlaw06_known.B3 : List Nat := [0, 0, 3, 7, 15, 15, 31, 127]
theorem hinterlandlaw06_known.tab3 : rtab .any (opsOf Try.f15 3) = hinterlandlaw06_known.T3 := by kernel_rfl
theorem hinterlandlaw06_known.bits3 : waitsOk hinterlandlaw06_known.T3.2 hinterlandlaw06_known.B3 = true := by kernel_rfl
set_option maxHeartbeats 8000000 in
set_option maxRecDepth 100000 in
theorem hinterlandlaw06_known.calls (k : Nat)  (r : Bool) (w : World) (h : hinterlandlaw06_known.f k  = some r) :
  Calls Try.prog 15 #[] w fun e w' => e = .returned (.bool r) ∧ Below w.heap.size w w':=by
 have hu26:=Try.underlying26
 have HB:=Aside0.mk (Below.refl w.heap.size w)
 have H : (if 16 ≤ 35184372088832 then ((some (List.replicate 16 0 : List Int)).bind fun y274 => ((hinterlandlaw06_sea.f).bind fun bt278 => ((water_Joined.f k bt278.1 bt278.2.1 bt278.2.2 y274 ([] : List Int) 0 0).bind fun bt283 => ((hinterlandlaw06_sea.f).bind fun bt285 => ((water_Sail.f k bt285.1 bt285.2.1 bt285.2.2 y274 ([] : List Int) 5 5).bind fun bt290 => (if bt283.1 = true then (if bt283.2 = 0 then (if bt290.2 = 0 then (if (bt290.1.length : Int) = 1 then (if 0 < (bt290.1.length : Int) then (hinterlandlaw06_known.j0 k ((rd bt290.1 0) == 5)) else (none)) else (hinterlandlaw06_known.j0 k false)) else (hinterlandlaw06_known.j0 k false)) else (hinterlandlaw06_known.j0 k false)) else (hinterlandlaw06_known.j0 k false))))))) else (none)) = some r:=h
 clear h
 replace H:=ifp_ H;obtain ⟨c1,H⟩:=H
 have c1b0:=eq_true c1
 have c1b1 : decide (16 ≤ 35184372088832) = true:=decide_eq_true c1
 clear c1
 obtain ⟨y274,hy274⟩ : ∃ y_ : List Int,y_ = (List.replicate 16 0):=⟨_,rfl⟩
 replace H : ((hinterlandlaw06_sea.f).bind fun bt278 => ((water_Joined.f k bt278.1 bt278.2.1 bt278.2.2 y274 ([] : List Int) 0 0).bind fun bt283 => ((hinterlandlaw06_sea.f).bind fun bt285 => ((water_Sail.f k bt285.1 bt285.2.1 bt285.2.2 y274 ([] : List Int) 5 5).bind fun bt290 => (if bt283.1 = true then (if bt283.2 = 0 then (if bt290.2 = 0 then (if (bt290.1.length : Int) = 1 then (if 0 < (bt290.1.length : Int) then (hinterlandlaw06_known.j0 k ((rd bt290.1 0) == 5)) else (none)) else (hinterlandlaw06_known.j0 k false)) else (hinterlandlaw06_known.j0 k false)) else (hinterlandlaw06_known.j0 k false)) else (hinterlandlaw06_known.j0 k false)))))) = some r:=by first|(rw [hy274];with_reducible exact H)|(have H2_:=(Option.bind_some _ _).symm.trans H;rw [hy274];with_reducible exact H2_)|(have H2_:=(Option.bind_some _ _).symm.trans H;with_reducible exact H2_)|with_reducible exact H|(rw [hy274];exact H)|exact H
 have Ny274:=Aside0.mk hy274
 clear hy274
 replace H:=Option.bind_eq_some_iff.mp H
 obtain ⟨⟨t278,t279,t280⟩,A20,H⟩:=H
 replace H : ((water_Joined.f k t278 t279 t280 y274 ([] : List Int) 0 0).bind fun bt283 => ((hinterlandlaw06_sea.f).bind fun bt285 => ((water_Sail.f k bt285.1 bt285.2.1 bt285.2.2 y274 ([] : List Int) 5 5).bind fun bt290 => (if bt283.1 = true then (if bt283.2 = 0 then (if bt290.2 = 0 then (if (bt290.1.length : Int) = 1 then (if 0 < (bt290.1.length : Int) then (hinterlandlaw06_known.j0 k ((rd bt290.1 0) == 5)) else (none)) else (hinterlandlaw06_known.j0 k false)) else (hinterlandlaw06_known.j0 k false)) else (hinterlandlaw06_known.j0 k false)) else (hinterlandlaw06_known.j0 k false))))) = some r:=H
 have A2:=Aside0.mk A20
 clear A20
 replace H:=Option.bind_eq_some_iff.mp H
 obtain ⟨⟨t283,t284⟩,A30,H⟩:=H
 replace H : ((hinterlandlaw06_sea.f).bind fun bt285 => ((water_Sail.f k bt285.1 bt285.2.1 bt285.2.2 y274 ([] : List Int) 5 5).bind fun bt290 => (if t283 = true then (if t284 = 0 then (if bt290.2 = 0 then (if (bt290.1.length : Int) = 1 then (if 0 < (bt290.1.length : Int) then (hinterlandlaw06_known.j0 k ((rd bt290.1 0) == 5)) else (none)) else (hinterlandlaw06_known.j0 k false)) else (hinterlandlaw06_known.j0 k false)) else (hinterlandlaw06_known.j0 k false)) else (hinterlandlaw06_known.j0 k false)))) = some r:=H
 have A3:=Aside0.mk A30
 clear A30
 replace H:=Option.bind_eq_some_iff.mp H
 obtain ⟨⟨t285,t286,t287⟩,A40,H⟩:=H
 replace H : ((water_Sail.f k t285 t286 t287 y274 ([] : List Int) 5 5).bind fun bt290 => (if t283 = true then (if t284 = 0 then (if bt290.2 = 0 then (if (bt290.1.length : Int) = 1 then (if 0 < (bt290.1.length : Int) then (hinterlandlaw06_known.j0 k ((rd bt290.1 0) == 5)) else (none)) else (hinterlandlaw06_known.j0 k false)) else (hinterlandlaw06_known.j0 k false)) else (hinterlandlaw06_known.j0 k false)) else (hinterlandlaw06_known.j0 k false))) = some r:=H
 have A4:=Aside0.mk A40
 clear A40
 replace H:=Option.bind_eq_some_iff.mp H
 obtain ⟨⟨t290,t293⟩,A50,H⟩:=H
 replace H : (if t283 = true then (if t284 = 0 then (if t293 = 0 then (if (t290.length : Int) = 1 then (if 0 < (t290.length : Int) then (hinterlandlaw06_known.j0 k ((rd t290 0) == 5)) else (none)) else (hinterlandlaw06_known.j0 k false)) else (hinterlandlaw06_known.j0 k false)) else (hinterlandlaw06_known.j0 k false)) else (hinterlandlaw06_known.j0 k false)) = some r:=H
 have A5:=Aside0.mk A50
 clear A50
 have HC6:=Aside0.mk H
 clear H
 go_enter Try.func15,Try.ntmps15
 try go_wp2_with (first|((with_reducible refine gate_dst (N:=6) rfl ?_);(try (refine gate_guard (by rfl) ?_;dsimp only));refine Kd.R_make (Kd.int .i64) _ 3 rfl (N:=6) rfl 22 _ _ rfl 16 rfl rfl Try.underlying22 (.int .i64 0) 8 info3 rfl (by decide) (by omega) 0 (ok:=fun _ => True) (okp:=fun _ => True) rfl (fun _ hk => hk) trivial (by omega) (by omega) (Below.refl _ _) (Nat.le_refl _) ?_;intro v275 w7 ho8 hb hg_ hnew_;clear hg_ hnew_;(first|rw [← Ny274.out] at ho8|(simp only [Int.reduceToNat] at ho8;rw [← Ny274.out] at ho8));have HO276:=rlo ho8;replace HB:=hbs hb;clear hb ho8;obtain ⟨Ao9,co9,eo9⟩:=Kd.R_slice HO276.out;subst eo9)|((with_reducible refine gate_dst (N:=1) rfl ?_);(try (refine gate_guard (by rfl) ?_;dsimp only));refine box_ev (N:=1) (cs:=#[.slice none 0 0,.slice none 0 0]) (t:=26) ?_;intro gb277 hg w10 hbox hb;have BK277:=Aside0.mk (hbox);have GW277 : Aside0 (w.heap.size ≤ gb277):=gsz hg;have GE277:=GW277;replace HO276:=rbw HO276 hb;replace HB:=hbs hb;clear hb hbox hg;obtain ⟨_,_,_,_⟩:=cells2 BK277.out))
 have n0_ : Aside0 (Kd.R (Kd.int .i64) 3 ((w10.setCell ⟨gb277,0,none⟩ (.slice Ao9 y274.length co9)).setCell ⟨gb277,1,none⟩ (.slice none 0 0)) w.heap.size (fun _ => True) (.slice Ao9 y274.length co9) y274):=⟨by (with_reducible repeat (first|apply Kd.R_alloc|apply Kd.R_drewN|apply Kd.R_drew));exact Kd.R_mono (Kd.R_fars gb277 (Kd.R_types HO276.out BK277.out (by decide)) (fun _ hk => hk.2)) (fun _ hk => trivial)⟩
 have n1_ : Aside0 (((w10.setCell ⟨gb277,0,none⟩ (.slice Ao9 y274.length co9)).setCell ⟨gb277,1,none⟩ (.slice none 0 0)).heap[gb277]? = some (.cells #[.slice Ao9 y274.length co9,.slice none 0 0] 26 (0,0))):=⟨by (with_reducible repeat (first|refine blk_drewN ?_ _|refine blk_drew ?_|refine blk_alloc ?_ _));exact blk_puts2 (blk_up BK277.out)⟩
 have n2_ : Aside0 (Below w.heap.size w ((w10.setCell ⟨gb277,0,none⟩ (.slice Ao9 y274.length co9)).setCell ⟨gb277,1,none⟩ (.slice none 0 0))):=⟨hb_⟩
 (try clear HO276)
 (try clear BK277)
 (try clear HB)
 generalize ((w10.setCell ⟨gb277,0,none⟩ (.slice Ao9 y274.length co9)).setCell ⟨gb277,1,none⟩ (.slice none 0 0)) = w12 at n0_ n1_ n2_ ⊢
 have HO276:=n0_
 have BK277:=n1_
 have HB:=n2_
 clear n0_ n1_ n2_
 replace HO276:=Aside0.mk (Kd.R_drew HO276.out)
 replace BK277:=Aside0.mk (blk_drew BK277.out)
 replace HB:=Aside0.mk (below_drew1 HB.out)
 refine start_ (n:=8) (S:=fun w' => w'.cell? ⟨gb277,0,none⟩ = some (.slice Ao9 y274.length co9) ∧ w'.cell? ⟨gb277,1,none⟩ = some (.slice none 0 0)) (ds:=[]) #[false,false,false,false,false,false,false,false] (by kernel_rfl) rfl rfl ⟨(blk_cell BK277.out 0).trans rfl,(blk_cell BK277.out 1).trans rfl⟩ (fun hHeld => ?_);refine with_tabW hinterlandlaw06_known.tab2 hinterlandlaw06_known.bits2 (fun HT_ HW_ => ?_)
 generalize w12.drew = w13 at HO276 BK277 HB HO276 hHeld ⊢
 refine tI2 1 (some 10) hHeld ?_
 refine oI 0 (some 9) (fun K hK => ?_)
 refine goes_ Try.func39 (by kernel_rfl) rfl #[] (by rfl) rfl rfl ga_ ?_
 with_reducible refine (hinterlandlaw06_sea.calls  t278 t279 t280 _ A2.out).mono ?_
 rintro e w14 ⟨v281,rfl,ho0,hb⟩
 refine ⟨_,rfl,?_⟩
 have n0_:=Aside0.mk (Kd.R_elder' (Kd.R_up HO276.out) (Kd.R_base ho0) hb)
 have n1_:=Aside0.mk (Kd.R_lower (Kd.R_new' ho0 (Kd.R_lt (Kd.R_up HO276.out))) (below_size (hb_)))
 have n2_:=bkb BK277 hb
 have n3_:=Aside0.mk (below_step (hb_) hb)
 clear HO276
 clear BK277
 clear HB
 have HO276:=n0_
 have HO282:=n1_
 have BK277:=n2_
 have HB:=n3_
 clear n0_ n1_ n2_ n3_
 (try clear hb)
 (try clear hb2)
 (try clear hk)
 (try clear hi)
 (try clear ho0)
 obtain ⟨Ao15,co15,eo15⟩:=Kd.R_slice HO282.out
 (first|subst eo15|(injection eo15 with f1_ f2_ f3_;have f4_:=f1_.symm;have f5_:=f3_.symm;clear f1_ f2_ f3_;subst f4_;subst f5_))
 refine hK.out _ _ ⟨(blk_cell BK277.out 0).trans rfl,(blk_cell BK277.out 1).trans rfl⟩ (fun hHeld => ?_)
 clear hK K
 refine norm_ (a':=?_) ?_ ?_
 rotate_left
 ·show Act.put _ (some 9) _ = _
  simp only [Act.put,List.setIfInBounds_toArray,List.set_cons_zero,List.set_cons_succ,i64_w,i32_w]
  rfl
 refine oI 2 (some 11) (fun K hK => ?_)
 refine goes_ Try.func16 (by kernel_rfl) rfl #[.agg #[.int .i64 t278,.int .i64 t279,.slice Ao15 t280.length co15],.agg #[.slice Ao9 y274.length co9,.slice none 0 0],.int .i64 0,.int .i64 0] (by rfl) rfl rfl ga_ ?_
 refine (water_Joined.calls k t278 t279 _ _ t280 _ _ y274 _ _ ([] : List Int) 0 0 t283 t284 _ ?side1 ?side2 ?side3 ?side4 ?side5 ?side6 A3.out).mono ?_
 (case side1 => exact Kd.C_up (Kd.R_reads' HO282.out).2.2)
 (case side2 => exact (Kd.R_reads' HO282.out).2.1)
 (case side3 => exact Kd.C_up (Kd.R_reads' HO276.out).2.2)
 (case side4 => exact (Kd.R_reads' HO276.out).2.1)
 (case side5 => exact Kd.C_nil _ _)
 (case side6 => exact Nat.le_refl _)
 rintro e w16 ⟨rfl,hb⟩
 refine ⟨_,rfl,?_⟩
 have n0_:=rbw HO276 hb
 have n1_:=rbw HO282 hb
 have n2_:=bkb BK277 hb
 have n3_:=Aside0.mk (below_step (hb_) hb)
 clear HO276
 clear HO282
 clear BK277
 clear HB
 have HO276:=n0_
 have HO282:=n1_
 have BK277:=n2_
 have HB:=n3_
 clear n0_ n1_ n2_ n3_
 (try clear hb)
 (try clear hb2)
 (try clear hk)
 (try clear hi)
 refine hK.out _ _ ⟨(blk_cell BK277.out 0).trans rfl,(blk_cell BK277.out 1).trans rfl⟩ (fun hHeld => ?_)
 clear hK K
 refine norm_ (a':=?_) ?_ ?_
 rotate_left
 ·show Act.put _ (some 11) _ = _
  simp only [Act.put,List.setIfInBounds_toArray,List.set_cons_zero,List.set_cons_succ,i64_w,i32_w]
  rfl
 refine pI 3 (some 8) ?_
 refine pI 4 (some 12) ?_
 refine pI 5 (some 13) ?_
 refine pI 6 (some 2) ?_
 refine pI 7 (some 3) ?_
 refine done_ (done_of HT_.out (by kernel_rfl)) ?_
 try go_wp2
 replace HO276:=Aside0.mk (Kd.R_drew HO276.out)
 replace HO282:=Aside0.mk (Kd.R_drew HO282.out)
 replace BK277:=Aside0.mk (blk_drew BK277.out)
 replace HB:=Aside0.mk (below_drew1 HB.out)
 refine start_ (n:=8) (S:=fun w' => w'.cell? ⟨gb277,0,none⟩ = some (.slice Ao9 y274.length co9) ∧ w'.cell? ⟨gb277,1,none⟩ = some (.slice none 0 0)) (ds:=[]) #[false,false,false,false,false,false,false,false] (by kernel_rfl) rfl rfl ⟨(blk_cell BK277.out 0).trans rfl,(blk_cell BK277.out 1).trans rfl⟩ (fun hHeld => ?_);refine with_tabW hinterlandlaw06_known.tab3 hinterlandlaw06_known.bits3 (fun HT_ HW_ => ?_)
 generalize w16.drew = w17 at HO276 HO282 BK277 HB hHeld ⊢
 refine tI2 1 (some 16) hHeld ?_
 refine oI 0 (some 15) (fun K hK => ?_)
 refine goes_ Try.func39 (by kernel_rfl) rfl #[] (by rfl) rfl rfl ga_ ?_
 with_reducible refine (hinterlandlaw06_sea.calls  t285 t286 t287 _ A4.out).mono ?_
 rintro e w18 ⟨v288,rfl,ho0,hb⟩
 refine ⟨_,rfl,?_⟩
 have n0_:=Aside0.mk (Kd.R_elder' (Kd.R_up HO276.out) (Kd.R_base ho0) hb)
 have n1_:=Aside0.mk (Kd.R_elder' (Kd.R_up HO282.out) (Kd.R_base ho0) hb)
 have n2_:=Aside0.mk (Kd.R_lower (Kd.R_new' (Kd.R_new' ho0 (Kd.R_lt (Kd.R_up HO276.out))) (Kd.R_lt (Kd.R_up HO282.out))) (below_size (hb_)))
 have n3_:=bkb BK277 hb
 have n4_:=Aside0.mk (below_step (hb_) hb)
 clear HO276
 clear HO282
 clear BK277
 clear HB
 have HO276:=n0_
 have HO282:=n1_
 have HO289:=n2_
 have BK277:=n3_
 have HB:=n4_
 clear n0_ n1_ n2_ n3_ n4_
 (try clear hb)
 (try clear hb2)
 (try clear hk)
 (try clear hi)
 (try clear ho0)
 obtain ⟨Ao19,co19,eo19⟩:=Kd.R_slice HO289.out
 (first|subst eo19|(injection eo19 with f1_ f2_ f3_;have f4_:=f1_.symm;have f5_:=f3_.symm;clear f1_ f2_ f3_;subst f4_;subst f5_))
 refine hK.out _ _ ⟨(blk_cell BK277.out 0).trans rfl,(blk_cell BK277.out 1).trans rfl⟩ (fun hHeld => ?_)
 clear hK K
 refine norm_ (a':=?_) ?_ ?_
 rotate_left
 ·show Act.put _ (some 15) _ = _
  simp only [Act.put,List.setIfInBounds_toArray,List.set_cons_zero,List.set_cons_succ,i64_w,i32_w]
  rfl
 refine oI 2 (some 17) (fun K hK => ?_)
 refine goes_ Try.func19 (by kernel_rfl) rfl #[.agg #[.int .i64 t285,.int .i64 t286,.slice Ao19 t287.length co19],.agg #[.slice Ao9 y274.length co9,.slice none 0 0],.int .i64 5,.int .i64 5] (by rfl) rfl rfl ga_ ?_
 refine (water_Sail.calls k t285 t286 _ _ t287 _ _ y274 _ _ ([] : List Int) 5 5 t290 t293 _ ?side1 ?side2 ?side3 ?side4 ?side5 ?side6 A5.out).mono ?_
 (case side1 => exact Kd.C_up (Kd.R_reads' HO289.out).2.2)
 (case side2 => exact (Kd.R_reads' HO289.out).2.1)
 (case side3 => exact Kd.C_up (Kd.R_reads' HO276.out).2.2)
 (case side4 => exact (Kd.R_reads' HO276.out).2.1)
 (case side5 => exact Kd.C_nil _ _)
 (case side6 => exact Nat.le_refl _)
 rintro e w20 ⟨v291,rfl,ho0,hb⟩
 refine ⟨_,rfl,?_⟩
 have n0_:=Aside0.mk (Kd.R_elder' (Kd.R_up HO276.out) (Kd.R_base ho0) hb)
 have n1_:=Aside0.mk (Kd.R_elder' (Kd.R_up HO282.out) (Kd.R_base ho0) hb)
 have n2_:=Aside0.mk (Kd.R_elder' (Kd.R_up HO289.out) (Kd.R_base ho0) hb)
 have n3_:=Aside0.mk (Kd.R_lower (Kd.R_new' (Kd.R_new' (Kd.R_new' ho0 (Kd.R_lt (Kd.R_up HO276.out))) (Kd.R_lt (Kd.R_up HO282.out))) (Kd.R_lt (Kd.R_up HO289.out))) (below_size (hb_)))
 have n4_:=bkb BK277 hb
 have n5_:=Aside0.mk (below_step (hb_) hb)
 clear HO276
 clear HO282
 clear HO289
 clear BK277
 clear HB
 have HO276:=n0_
 have HO282:=n1_
 have HO289:=n2_
 have HO292:=n3_
 have BK277:=n4_
 have HB:=n5_
 clear n0_ n1_ n2_ n3_ n4_ n5_
 (try clear hb)
 (try clear hb2)
 (try clear hk)
 (try clear hi)
 (try clear ho0)
 refine hK.out _ _ ⟨(blk_cell BK277.out 0).trans rfl,(blk_cell BK277.out 1).trans rfl⟩ (fun hHeld => ?_)
 clear hK K
 refine norm_ (a':=?_) ?_ ?_
 rotate_left
 ·show Act.put _ (some 17) _ = _
  simp only [Act.put,List.setIfInBounds_toArray,List.set_cons_zero,List.set_cons_succ,i64_w,i32_w]
  rfl
 refine pI 3 (some 14) ?_
 refine pI 4 (some 18) ?_
 refine pI 5 (some 19) ?_
 refine pI 6 (some 4) ?_
 refine pI 7 (some 5) ?_
 refine done_ (done_of HT_.out (by kernel_rfl)) ?_
 go_upto_region 4 with (fail)
 go_cut [0] (fun v0 wc => ∃ (kq : Nat) (x0_5 : Bool),v0 = .bool x0_5 ∧ Aside0 (hinterlandlaw06_known.j0 kq x0_5 = some r) ∧ Aside0 (kq ≤ k) ∧ Aside0 (Kd.R (Kd.int .i64) 3 wc w.heap.size (fun _ => True) (.slice Ao9 y274.length co9) y274) ∧ Aside0 (wc.heap[gb277]? = some (.cells #[(.slice Ao9 y274.length co9),(.slice none 0 0)] 26 (0,0))) ∧ Aside0 (Below w.heap.size w wc))
 case first =>
  have H:=HC6.out
  clear HC6
  by_cases c21 : t283 = true
  ·subst c21
   have H1 : (if t284 = 0 then (if t293 = 0 then (if (t290.length : Int) = 1 then (if 0 < (t290.length : Int) then (hinterlandlaw06_known.j0 k ((rd t290 0) == 5)) else (none)) else (hinterlandlaw06_known.j0 k false)) else (hinterlandlaw06_known.j0 k false)) else (hinterlandlaw06_known.j0 k false)) = some r:=by rw [if_pos rfl] at H;exact H
   clear H
   have H:=H1
   clear H1
   by_cases c22 : t284 = 0
   rotate_left
   ·rw [if_neg c22] at H
    have c22b0:=bqf c22
    have c22b1:=bnt c22
    (first|rw [c22b0]|(simp only [i64_w,i32_w];rw [c22b0])|skip)
    have H':=Aside0.mk H
    clear H
    go_wp2
    go_meet
    case rel => exact ⟨_,(false),(by first|rfl|(simp;done)|(simp [*];done)),H',⟨by first|omega|exact Nat.le_refl _⟩,⟨by (with_reducible repeat (first|apply Kd.R_alloc|apply Kd.R_drewN|apply Kd.R_drew));exact Kd.R_mono HO276.out (fun _ hk => trivial)⟩,⟨blk_up BK277.out⟩,⟨hb_⟩⟩
   rw [if_pos c22] at H
   have c22b0:=bqt c22
   have c22b1:=bnf c22
   clear c22
   (first|rw [c22b0]|(simp only [i64_w,i32_w];rw [c22b0])|skip)
   by_cases c23 : t293 = 0
   ·rw [if_pos c23] at H
    have c23b0:=bqt c23
    have c23b1:=bnf c23
    clear c23
    by_cases c24 : (t290.length : Int) = 1
    ·rw [if_pos c24] at H
     have c24b0:=bqt c24
     have c24b1:=bnf c24
     clear c24
     replace H:=ifp_ H;obtain ⟨c25,H⟩:=H
     have c25b0 : decide (0 < (t290.length : Int)) = true:=decide_eq_true c25
     have c25b1 : decide (0 < t290.length) = true:=decide_eq_true (by omega)
     clear c25
     have H':=Aside0.mk H
     clear H
     obtain ⟨Ao26,co26,eo26⟩:=Kd.R_slice HO292.out
     subst eo26
     have p294 : 0 ≤ (0 : Int):=(by omega)
     have q294 : 0 < (t290.length : Int):=of_decide_eq_true (by first|(with_reducible assumption)|assumption)
     obtain ⟨ad294,e294,hx294_0⟩:=Kd.at_int (Kd.R_reads' HO292.out).2.2 0 p294 q294
     cases e294
     have qi294 : (0 < t290.length) = True:=eq_true (by omega)
     (try rw [show ((0 : Int)).toNat = 0 from rfl] at hx294_0)
     (try rw [Addr.add_zero'] at hx294_0)
     replace p294:=eq_true p294
     replace q294:=eq_true q294
     go_wp2
     go_meet
     case rel => exact ⟨_,(((rd t290 0) == 5)),(by first|rfl|(simp;done)|(simp [*];done)),H',⟨by first|omega|exact Nat.le_refl _⟩,⟨by (with_reducible repeat (first|apply Kd.R_alloc|apply Kd.R_drewN|apply Kd.R_drew));exact Kd.R_mono HO276.out (fun _ hk => trivial)⟩,⟨blk_up BK277.out⟩,⟨hb_⟩⟩
    ·rw [if_neg c24] at H
     have c24b0:=bqf c24
     have c24b1:=bnt c24
     have H':=Aside0.mk H
     clear H
     obtain ⟨Ao27,co27,eo27⟩:=Kd.R_slice HO292.out
     subst eo27
     go_wp2
     go_meet
     case rel => exact ⟨_,(false),(by first|rfl|(simp;done)|(simp [*];done)),H',⟨by first|omega|exact Nat.le_refl _⟩,⟨by (with_reducible repeat (first|apply Kd.R_alloc|apply Kd.R_drewN|apply Kd.R_drew));exact Kd.R_mono HO276.out (fun _ hk => trivial)⟩,⟨blk_up BK277.out⟩,⟨hb_⟩⟩
   ·rw [if_neg c23] at H
    have c23b0:=bqf c23
    have c23b1:=bnt c23
    have H':=Aside0.mk H
    clear H
    go_wp2
    go_meet
    case rel => exact ⟨_,(false),(by first|rfl|(simp;done)|(simp [*];done)),H',⟨by first|omega|exact Nat.le_refl _⟩,⟨by (with_reducible repeat (first|apply Kd.R_alloc|apply Kd.R_drewN|apply Kd.R_drew));exact Kd.R_mono HO276.out (fun _ hk => trivial)⟩,⟨blk_up BK277.out⟩,⟨hb_⟩⟩
  ·replace c21:=Bool.eq_false_iff.mpr c21
   subst c21
   have H1 : (hinterlandlaw06_known.j0 k false) = some r:=by rw [if_neg (show ¬ (false = true) by decide)] at H;exact H
   clear H
   have H:=H1
   clear H1
   have H':=Aside0.mk H
   clear H
   go_wp2
   go_meet
   case rel => exact ⟨_,(false),(by first|rfl|(simp;done)|(simp [*];done)),H',⟨by first|omega|exact Nat.le_refl _⟩,⟨by (with_reducible repeat (first|apply Kd.R_alloc|apply Kd.R_drewN|apply Kd.R_drew));exact Kd.R_mono HO276.out (fun _ hk => trivial)⟩,⟨blk_up BK277.out⟩,⟨hb_⟩⟩
 case rest =>
  clear HC6
  obtain ⟨kq,x0_5,rfl,HA,HJ5,HO_278000,BK277,HB⟩:=hcut
  cases kq with
  | zero => exact absurd HA.out (by simp [hinterlandlaw06_known.j0])
  | succ kj5 =>
   have H:=HA.out
   clear HA
   simp only [hinterlandlaw06_known.j0] at H
   obtain rfl:=Option.some.inj H
   go_wp2
   go_ret
   exact ⟨er_,hb_⟩

/-! ### hinterlandsame_List_int: function 21 -/
def hinterlandsame_List_int.l0 : Nat → List Int → List Int → Int → Option (Bool)
 | 0,_,_,_ => none
 | k + 1,x0,x1,x5 => if x5 < (x0.length : Int) then (if 0 ≤ x5 then (if x5 < (x1.length : Int) then (if (rd x0 x5) = (rd x1 x5) then (hinterlandsame_List_int.l0 k x0 x1 (wrap64 (x5 + 1))) else (some false)) else (none)) else (none)) else (some true)
def hinterlandsame_List_int.f (k : Nat) (l0 : List Int) (l1 : List Int) : Option (Bool) := if (l0.length : Int) = (l1.length : Int) then (hinterlandsame_List_int.l0 k l0 l1 0) else (some false)
theorem hinterlandsame_List_int.mono_l : ∀ k, (∀ y0 y1 y2, LeO (hinterlandsame_List_int.l0 k y0 y1 y2) (hinterlandsame_List_int.l0 (k + 1) y0 y1 y2))
 | 0 => fun _ _ _ r h => by simp [hinterlandsame_List_int.l0] at h
 | k + 1 => by
  have ih0:=hinterlandsame_List_int.mono_l k
  ·intro y0 y1 y2
   unfold hinterlandsame_List_int.l0
   repeat' first
   | (with_reducible exact ih0 _ _ _)
   | (with_reducible exact LeO.refl _)
   | (with_reducible exact LeO.none _)
   | (with_reducible refine LeO.ite ?_ ?_)
   | (with_reducible refine LeO.bind ?_ (fun _ => ?_))
   | exact ih0 _ _ _
   | exact LeO.none _
   | refine LeO.ite ?_ ?_
   | refine LeO.bind ?_ (fun _ => ?_)
theorem hinterlandsame_List_int.mono : ∀ a0 a1 k, LeO (hinterlandsame_List_int.f k a0 a1) (hinterlandsame_List_int.f (k + 1) a0 a1) := by
 intro a0 a1 k
 have ih0:=hinterlandsame_List_int.mono_l k
 unfold hinterlandsame_List_int.f
 repeat' first
   | (with_reducible exact ih0 _ _ _)
   | (with_reducible exact LeO.refl _)
   | (with_reducible exact LeO.none _)
   | (with_reducible refine LeO.ite ?_ ?_)
   | (with_reducible refine LeO.bind ?_ (fun _ => ?_))
   | exact ih0 _ _ _
   | exact LeO.none _
   | refine LeO.ite ?_ ?_
   | refine LeO.bind ?_ (fun _ => ?_)
set_option maxHeartbeats 8000000 in
set_option maxRecDepth 100000 in
theorem hinterlandsame_List_int.calls (k : Nat) (A0 : Option Addr) (c0 : Nat) (l0 : List Int) (A1 : Option Addr) (c1 : Nat) (l1 : List Int) (r : Bool) (w : World) (hr0 : Kd.C (Kd.int .i64) w A0 l0.length l0) (hc0 : l0.length ≤ c0) (hr1 : Kd.C (Kd.int .i64) w A1 l1.length l1) (hc1 : l1.length ≤ c1) (h : hinterlandsame_List_int.f k l0 l1 = some r) :
  Calls Try.prog 21 #[.slice A0 l0.length c0,.slice A1 l1.length c1] w fun e w' => e = .returned (.bool r) ∧ Drawn0 w w':=by
 have HR0:=Aside0.mk hr0
 have HC0:=Aside0.mk hc0
 clear hr0 hc0
 have HR1:=Aside0.mk hr1
 have HC1:=Aside0.mk hc1
 clear hr1 hc1
 have H : (if (l0.length : Int) = (l1.length : Int) then (hinterlandsame_List_int.l0 k l0 l1 0) else (some false)) = some r:=h
 clear h
 by_cases c3 : (l0.length : Int) = (l1.length : Int)
 rotate_left
 ·rw [if_neg c3] at H
  have c3b0:=bqf c3
  have c3b1:=bnt c3
  have c3b2 : (l0.length == l1.length) = false:=by first|simpa using c3|(simp at c3 ⊢;omega)
  obtain rfl:=Option.some.inj H
  go_enter Try.func21,Try.ntmps21
  go_wp2
  go_ret
  exact ⟨by first|rfl|(simp;done)|(simp [*];done),by repeat (first|exact Drawn0.refl _|apply Drawn0.step)⟩
 rw [if_pos c3] at H
 have c3b0:=bqt c3
 have c3b1:=bnf c3
 have c3b2 : (l0.length == l1.length) = true:=by first|simpa using c3|(simp at c3 ⊢;omega)
 clear c3
 have H':=Aside0.mk H
 clear H
 go_enter Try.func21,Try.ntmps21
 go_wp2
 go_loopg [5] k (fun kq v5 w' => ∃ (x5_1 : Int),v5 = .int .i64 x5_1 ∧ Aside0 (hinterlandsame_List_int.l0 kq l0 l1 x5_1 = some r) ∧ Aside0 (kq ≤ k) ∧ Drawn0 w w')
 case atStart => exact ⟨(0),(by first|rfl|(simp;done)|(simp [*];done)),H',⟨Nat.le_refl _⟩,by repeat (first|exact Drawn0.refl _|apply Drawn0.step)⟩
 case round =>
  clear H'
  obtain ⟨x5_1,rfl,HA,HK1,⟨m1,rfl⟩⟩:=hrel
  cases gk with
  | zero => exact absurd HA.out (by simp [hinterlandsame_List_int.l0])
  | succ k1 =>
   have H:=HA.out
   clear HA
   simp only [hinterlandsame_List_int.l0] at H
   by_cases c4 : x5_1 < (l0.length : Int)
   rotate_left
   ·rw [if_neg c4] at H
    have c4b0 : decide (x5_1 < (l0.length : Int)) = false:=decide_eq_false c4
    clear c4
    obtain rfl:=Option.some.inj H
    go_wp2
    go_ret
    exact ⟨by first|rfl|(simp;done)|(simp [*];done),by repeat (first|exact Drawn0.refl _|apply Drawn0.step)⟩
   rw [if_pos c4] at H
   have c4b0 : decide (x5_1 < (l0.length : Int)) = true:=decide_eq_true c4
   clear c4
   replace H:=ifp_ H;obtain ⟨c5,H⟩:=H
   have c5b0 : decide (0 ≤ x5_1) = true:=decide_eq_true c5
   clear c5
   replace H:=ifp_ H;obtain ⟨c6,H⟩:=H
   have c6b0 : decide (x5_1 < (l1.length : Int)) = true:=decide_eq_true c6
   clear c6
   by_cases c7 : (rd l0 x5_1) = (rd l1 x5_1)
   ·rw [if_pos c7] at H
    have c7b0:=bqt c7
    have c7b1:=bnf c7
    clear c7
    have H':=Aside0.mk H
    clear H
    have p295 : 0 ≤ (x5_1 : Int):=of_decide_eq_true (by first|(with_reducible assumption)|assumption)
    have q295 : x5_1 < (l0.length : Int):=of_decide_eq_true (by first|(with_reducible assumption)|assumption)
    obtain ⟨ad295,e295,hx295_0⟩:=Kd.at_int HR0.out x5_1 p295 q295
    cases e295
    replace p295:=eq_true p295
    replace q295:=eq_true q295
    have p296 : 0 ≤ (x5_1 : Int):=of_decide_eq_true (by first|(with_reducible assumption)|assumption)
    have q296 : x5_1 < (l1.length : Int):=of_decide_eq_true (by first|(with_reducible assumption)|assumption)
    obtain ⟨ad296,e296,hx296_0⟩:=Kd.at_int HR1.out x5_1 p296 q296
    cases e296
    replace p296:=eq_true p296
    replace q296:=eq_true q296
    go_wp2
    go_quiet (fail)
    go_wp2
    go_roundg k1
    case measure => have:=HK1.out;omega
    case rel => exact ⟨(wrap64 (x5_1 + 1)),(by first|rfl|(simp;done)|(simp [*];done)),H',⟨by have:=HK1.out;omega⟩,by repeat (first|exact Drawn0.refl _|apply Drawn0.step)⟩
   ·rw [if_neg c7] at H
    have c7b0:=bqf c7
    have c7b1:=bnt c7
    obtain rfl:=Option.some.inj H
    have p295 : 0 ≤ (x5_1 : Int):=of_decide_eq_true (by first|(with_reducible assumption)|assumption)
    have q295 : x5_1 < (l0.length : Int):=of_decide_eq_true (by first|(with_reducible assumption)|assumption)
    obtain ⟨ad295,e295,hx295_0⟩:=Kd.at_int HR0.out x5_1 p295 q295
    cases e295
    replace p295:=eq_true p295
    replace q295:=eq_true q295
    have p296 : 0 ≤ (x5_1 : Int):=of_decide_eq_true (by first|(with_reducible assumption)|assumption)
    have q296 : x5_1 < (l1.length : Int):=of_decide_eq_true (by first|(with_reducible assumption)|assumption)
    obtain ⟨ad296,e296,hx296_0⟩:=Kd.at_int HR1.out x5_1 p296 q296
    cases e296
    replace p296:=eq_true p296
    replace q296:=eq_true q296
    go_wp2
    go_quiet (fail)
    go_wp2
    go_ret
    exact ⟨by first|rfl|(simp;done)|(simp [*];done),by repeat (first|exact Drawn0.refl _|apply Drawn0.step)⟩

/-! ### hinterlandsame_Waters: function 30 -/
def hinterlandsame_Waters.f (k : Nat) (l0_0 : List Int) (l0_1 : List Int) (l1_0 : List Int) (l1_1 : List Int) : Option (Bool) := (hinterlandsame_List_int.f k l0_0 l1_0).bind fun t299 => (if t299 = true then ((hinterlandsame_List_int.f k l0_1 l1_1).bind fun t300 => (some t300)) else (some false))
theorem hinterlandsame_Waters.mono : ∀ a0 a1 a2 a3 k, LeO (hinterlandsame_Waters.f k a0 a1 a2 a3) (hinterlandsame_Waters.f (k + 1) a0 a1 a2 a3) := by
 intro a0 a1 a2 a3 k
 unfold hinterlandsame_Waters.f
 repeat' first
   | (with_reducible exact hinterlandsame_List_int.mono _ _ _)
   | (with_reducible exact LeO.refl _)
   | (with_reducible exact LeO.none _)
   | (with_reducible refine LeO.ite ?_ ?_)
   | (with_reducible refine LeO.bind ?_ (fun _ => ?_))
   | exact hinterlandsame_List_int.mono _ _ _
   | exact LeO.none _
   | refine LeO.ite ?_ ?_
   | refine LeO.bind ?_ (fun _ => ?_)
set_option maxHeartbeats 8000000 in
set_option maxRecDepth 100000 in
theorem hinterlandsame_Waters.calls (k : Nat) (A0_0 : Option Addr) (c0_0 : Nat) (l0_0 : List Int) (A0_1 : Option Addr) (c0_1 : Nat) (l0_1 : List Int) (A1_0 : Option Addr) (c1_0 : Nat) (l1_0 : List Int) (A1_1 : Option Addr) (c1_1 : Nat) (l1_1 : List Int) (r : Bool) (w : World) (hr0_0 : Kd.C (Kd.int .i64) w A0_0 l0_0.length l0_0) (hc0_0 : l0_0.length ≤ c0_0) (hr0_1 : Kd.C (Kd.int .i64) w A0_1 l0_1.length l0_1) (hc0_1 : l0_1.length ≤ c0_1) (hr1_0 : Kd.C (Kd.int .i64) w A1_0 l1_0.length l1_0) (hc1_0 : l1_0.length ≤ c1_0) (hr1_1 : Kd.C (Kd.int .i64) w A1_1 l1_1.length l1_1) (hc1_1 : l1_1.length ≤ c1_1) (h : hinterlandsame_Waters.f k l0_0 l0_1 l1_0 l1_1 = some r) :
  Calls Try.prog 30 #[.agg #[.slice A0_0 l0_0.length c0_0,.slice A0_1 l0_1.length c0_1],.agg #[.slice A1_0 l1_0.length c1_0,.slice A1_1 l1_1.length c1_1]] w fun e w' => e = .returned (.bool r) ∧ Below w.heap.size w w':=by
 have hu26:=Try.underlying26
 have HR0_0:=Aside0.mk hr0_0
 have HC0_0:=Aside0.mk hc0_0
 clear hr0_0 hc0_0
 have HR0_1:=Aside0.mk hr0_1
 have HC0_1:=Aside0.mk hc0_1
 clear hr0_1 hc0_1
 have HR1_0:=Aside0.mk hr1_0
 have HC1_0:=Aside0.mk hc1_0
 clear hr1_0 hc1_0
 have HR1_1:=Aside0.mk hr1_1
 have HC1_1:=Aside0.mk hc1_1
 clear hr1_1 hc1_1
 have HB:=Aside0.mk (Below.refl w.heap.size w)
 have H : ((hinterlandsame_List_int.f k l0_0 l1_0).bind fun t299 => (if t299 = true then ((hinterlandsame_List_int.f k l0_1 l1_1).bind fun t300 => (some t300)) else (some false))) = some r:=h
 clear h
 replace H:=Option.bind_eq_some_iff.mp H
 obtain ⟨t299,A30,H⟩:=H
 replace H : (if t299 = true then ((hinterlandsame_List_int.f k l0_1 l1_1).bind fun t300 => (some t300)) else (some false)) = some r:=H
 have A3:=Aside0.mk A30
 clear A30
 by_cases c4 : t299 = true
 ·subst c4
  have H1 : ((hinterlandsame_List_int.f k l0_1 l1_1).bind fun t300 => (some t300)) = some r:=by rw [if_pos rfl] at H;exact H
  clear H
  have H:=H1
  clear H1
  replace H:=Option.bind_eq_some_iff.mp H
  obtain ⟨t300,A50,H⟩:=H
  replace H : (some t300) = some r:=H
  have A5:=Aside0.mk A50
  clear A50
  obtain rfl:=Option.some.inj H
  go_enter Try.func30,Try.ntmps30
  go_wp2_with (first|((with_reducible refine gate_dst (N:=2) rfl ?_);refine box_ev (N:=2) (cs:=#[.slice A0_0 l0_0.length c0_0,.slice A0_1 l0_1.length c0_1]) (t:=26) ?_;intro gb297 hg w6 hbox hb;have BK297:=Aside0.mk (hbox);have GW297 : Aside0 (w.heap.size ≤ gb297):=gsz hg;have GE297:=GW297;replace HB:=hbs hb;clear hb hbox hg)|((with_reducible refine gate_dst (N:=3) rfl ?_);refine box_ev (N:=3) (cs:=#[.slice A1_0 l1_0.length c1_0,.slice A1_1 l1_1.length c1_1]) (t:=26) ?_;intro gb298 hg w7 hbox hb;have BK298:=Aside0.mk (hbox);have GW298 : Aside0 (w.heap.size ≤ gb298):=gsz hg;have GE298:=GW298;have NB297_298:=nbl BK297 hg;have NB298_297:=nbr BK297 hg;replace BK297:=bkb BK297 hb;replace HB:=hbs hb;clear hb hbox hg;have hnb8:=NB297_298.out;have hnc8:=NB298_297.out;obtain ⟨_,_,_,_⟩:=cells2 BK297.out;obtain ⟨_,_,_,_⟩:=cells2 BK298.out)|((with_reducible refine gate_callee (f:=21) rfl ?_);refine goesL_ (some 9) rfl rfl Try.func21 (by kernel_rfl) rfl #[.slice A0_0 l0_0.length c0_0,.slice A1_0 l1_0.length c1_0] rfl ga_ ?_;(with_reducible refine (hinterlandsame_List_int.calls k _ _ l0_0 _ _ l1_0 true _ ?_ ?_ ?_ ?_ A3.out).mono ?_);exact cq HR0_0;exact HC0_0.out;exact cq HR1_0;exact HC1_0.out;rintro e w' ⟨rfl,⟨nd,rfl⟩⟩;refine ⟨_,rfl,?_⟩)|(go_at_call 21;(with_reducible refine (hinterlandsame_List_int.calls k _ _ l0_1 _ _ l1_1 t300 _ ?_ ?_ ?_ ?_ A5.out).mono ?_);(focus (repeat (first|exact (Kd.C_below HR0_1.out (hb_))|(with_reducible refine Kd.C_alloc ?_ _)|(with_reducible refine Kd.C_drewN ?_ _)|(with_reducible refine Kd.C_drew ?_))));exact HC0_1.out;(focus (repeat (first|exact (Kd.C_below HR1_1.out (hb_))|(with_reducible refine Kd.C_alloc ?_ _)|(with_reducible refine Kd.C_drewN ?_ _)|(with_reducible refine Kd.C_drew ?_))));exact HC1_1.out;rintro e w' ⟨rfl,⟨nd,rfl⟩⟩))
  go_ret
  exact ⟨er_,hb_⟩
 ·replace c4:=Bool.eq_false_iff.mpr c4
  subst c4
  have H1 : (some false) = some r:=by rw [if_neg (show ¬ (false = true) by decide)] at H;exact H
  clear H
  have H:=H1
  clear H1
  obtain rfl:=Option.some.inj H
  go_enter Try.func30,Try.ntmps30
  go_wp2_with (first|((with_reducible refine gate_dst (N:=2) rfl ?_);refine box_ev (N:=2) (cs:=#[.slice A0_0 l0_0.length c0_0,.slice A0_1 l0_1.length c0_1]) (t:=26) ?_;intro gb297 hg w11 hbox hb;have BK297:=Aside0.mk (hbox);have GW297 : Aside0 (w.heap.size ≤ gb297):=gsz hg;have GE297:=GW297;replace HB:=hbs hb;clear hb hbox hg)|((with_reducible refine gate_dst (N:=3) rfl ?_);refine box_ev (N:=3) (cs:=#[.slice A1_0 l1_0.length c1_0,.slice A1_1 l1_1.length c1_1]) (t:=26) ?_;intro gb298 hg w12 hbox hb;have BK298:=Aside0.mk (hbox);have GW298 : Aside0 (w.heap.size ≤ gb298):=gsz hg;have GE298:=GW298;have NB297_298:=nbl BK297 hg;have NB298_297:=nbr BK297 hg;replace BK297:=bkb BK297 hb;replace HB:=hbs hb;clear hb hbox hg;have hnb13:=NB297_298.out;have hnc13:=NB298_297.out;obtain ⟨_,_,_,_⟩:=cells2 BK297.out;obtain ⟨_,_,_,_⟩:=cells2 BK298.out)|((with_reducible refine gate_callee (f:=21) rfl ?_);refine goesL_ (some 9) rfl rfl Try.func21 (by kernel_rfl) rfl #[.slice A0_0 l0_0.length c0_0,.slice A1_0 l1_0.length c1_0] rfl ga_ ?_;(with_reducible refine (hinterlandsame_List_int.calls k _ _ l0_0 _ _ l1_0 false _ ?_ ?_ ?_ ?_ A3.out).mono ?_);exact cq HR0_0;exact HC0_0.out;exact cq HR1_0;exact HC1_0.out;rintro e w' ⟨rfl,⟨nd,rfl⟩⟩;refine ⟨_,rfl,?_⟩))
  go_ret
  exact ⟨er_,hb_⟩

end Go.Proofs.Ytiencnnkphipoaa.P

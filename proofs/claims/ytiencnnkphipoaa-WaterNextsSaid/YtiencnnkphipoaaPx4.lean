/- Functions of this seat as plain Lean functions, with proofs that the Go code comes to just their answers, or what stands between them and a law's statement; no conditions. (Laid by a program of this session, out of the kit's print.) -/
import Derived.Test.YtiencnnkphipoaaPx0
import Derived.Test.YtiencnnkphipoaaPx1
import Derived.Test.YtiencnnkphipoaaPx3
namespace Go.Proofs.Ytiencnnkphipoaa.P
open Go.RowKit Go.Proofs.YtiencnnkphipoaaW.PrintWords Go.Proofs.YtiencnnkphipoaaW.PrintLast Go.Proofs.YtiencnnkphipoaaW.PrintMore
attribute [local go_sem] max2_int min2_int max_two min_two max_three min_three max_four min_four   -- for this text's walks alone
set_option linter.unusedVariables false
set_option linter.unusedSimpArgs false

/-! ### water_check: function 44 -/
mutual
def water_check.l0 : Nat → List Int → Int → Int → Int → Int → List Int → List Int → List Int → Int → Int → List Int → List Int → List Bool → Option (Int × Int × List Int × List Int × List Bool × Int)
 | 0,_,_,_,_,_,_,_,_,_,_,_,_,_ => none
 | k + 1,x37,x38,x39,x154000,x154001,x154002,x155000,x155001,x169000,x169001,x169002,x169003,x169004 => if x39 < x38 then (if 0 ≤ x39 then (if x39 < (x37.length : Int) then (if (rd x37 x39) < 0 then (some (x169000,x169001,x169002,x169003,x169004,1)) else (if (rd x37 x39) > 3 then (some (x169000,x169001,x169002,x169003,x169004,1)) else (water_check.l0 k x37 x38 (wrap64 (x39 + 1)) x154000 x154001 x154002 x155000 x155001 x169000 x169001 x169002 x169003 x169004))) else (none)) else (none)) else (water_check.l1 k 1 x154000 x154001 x154002 x155000 x155001 x169000 x169001 x169002 x169003 x169004)
def water_check.l1 : Nat → Int → Int → Int → List Int → List Int → List Int → Int → Int → List Int → List Int → List Bool → Option (Int × Int × List Int × List Int × List Bool × Int)
 | 0,_,_,_,_,_,_,_,_,_,_,_ => none
 | k + 1,x10,x154000,x154001,x154002,x155000,x155001,x169000,x169001,x169002,x169003,x169004 => if x10 < (x155001.length : Int) then (if 0 ≤ x10 then (if 0 ≤ (wrap64 (x10 - 1)) then (if (wrap64 (x10 - 1)) < (x155001.length : Int) then (if (rd x155001 x10) ≤ (rd x155001 (wrap64 (x10 - 1))) then (some (x169000,x169001,x169002,x169003,x169004,1)) else (water_check.l1 k (wrap64 (x10 + 1)) x154000 x154001 x154002 x155000 x155001 x169000 x169001 x169002 x169003 x169004)) else (none)) else (none)) else (none)) else (water_check.l2 k x155001 (x155001.length : Int) 0 x154000 x154001 x154002 x155000 x155001 x169000 x169001 x169002 x169003 x169004)
def water_check.l2 : Nat → List Int → Int → Int → Int → Int → List Int → List Int → List Int → Int → Int → List Int → List Int → List Bool → Option (Int × Int × List Int × List Int × List Bool × Int)
 | 0,_,_,_,_,_,_,_,_,_,_,_,_,_ => none
 | k + 1,x72,x73,x74,x154000,x154001,x154002,x155000,x155001,x169000,x169001,x169002,x169003,x169004 => if x74 < x73 then (if 0 ≤ x74 then (if x74 < (x72.length : Int) then (if (rd x72 x74) < 0 then (some (x169000,x169001,x169002,x169003,x169004,2)) else (if (rd x72 x74) ≥ (wrap64 (x154000 * x154001)) then (some (x169000,x169001,x169002,x169003,x169004,2)) else (water_check.l2 k x72 x73 (wrap64 (x74 + 1)) x154000 x154001 x154002 x155000 x155001 x169000 x169001 x169002 x169003 x169004))) else (none)) else (none)) else (water_check.l3 k x155000 (x155000.length : Int) 0 x155000 x155001 x169000 x169001 x169002 x169003 x169004)
def water_check.l3 : Nat → List Int → Int → Int → List Int → List Int → Int → Int → List Int → List Int → List Bool → Option (Int × Int × List Int × List Int × List Bool × Int)
 | 0,_,_,_,_,_,_,_,_,_,_ => none
 | k + 1,x92,x93,x94,x155000,x155001,x169000,x169001,x169002,x169003,x169004 => if x94 < x93 then (if 0 ≤ x94 then (if x94 < (x92.length : Int) then ((water_ground_may.f k x169000 x169001 x169002 x169003 x169004 x94 (rd x92 x94)).bind fun t174 => (if t174 = 0 then (water_check.l3 k x92 x93 (wrap64 (x94 + 1)) x155000 x155001 x169000 x169001 x169002 x169003 x169004) else (some (x169000,x169001,x169002,x169003,x169004,9)))) else (none)) else (none)) else (water_check.l4 k x155001 (x155001.length : Int) 0 x155000 x155001 x169000 x169001 x169002 x169003 x169004)
def water_check.l4 : Nat → List Int → Int → Int → List Int → List Int → Int → Int → List Int → List Int → List Bool → Option (Int × Int × List Int × List Int × List Bool × Int)
 | 0,_,_,_,_,_,_,_,_,_,_ => none
 | k + 1,x107,x108,x109,x155000,x155001,x169000,x169001,x169002,x169003,x169004 => if x109 < x108 then (if 0 ≤ x109 then (if x109 < (x107.length : Int) then ((water_ground_wet.f x169000 x169001 x169002 x169003 x169004 x155000 x155001 (rd x107 x109)).bind fun t176 => (if t176 = true then (water_check.l4 k x107 x108 (wrap64 (x109 + 1)) x155000 x155001 x169000 x169001 x169002 x169003 x169004) else (some (x169000,x169001,x169002,x169003,x169004,9)))) else (none)) else (none)) else (some (x169000,x169001,x169002,x169003,x169004,0))
end
def water_check.f (k : Nat) (a0_0 : Int) (a0_1 : Int) (l0_2 : List Int) (l1_0 : List Int) (l1_1 : List Int) : Option (Int × Int × List Int × List Int × List Bool × Int) := (water_groundOf.f k a0_0 a0_1 l0_2).bind fun bt156 => (if bt156.2.2.2.2.2 = 0 then (if (l1_0.length : Int) = (wrap64 (a0_0 * a0_1)) then (water_check.l0 k l1_0 (l1_0.length : Int) 0 a0_0 a0_1 l0_2 l1_0 l1_1 bt156.1 bt156.2.1 bt156.2.2.1 bt156.2.2.2.1 bt156.2.2.2.2.1) else (some (bt156.1, bt156.2.1, bt156.2.2.1, bt156.2.2.2.1, bt156.2.2.2.2.1, 1))) else (some (bt156.1, bt156.2.1, bt156.2.2.1, bt156.2.2.2.1, bt156.2.2.2.2.1, bt156.2.2.2.2.2)))
theorem water_check.mono_l : ∀ k, (∀ y0 y1 y2 y3 y4 y5 y6 y7 y8 y9 y10 y11 y12, LeO (water_check.l0 k y0 y1 y2 y3 y4 y5 y6 y7 y8 y9 y10 y11 y12) (water_check.l0 (k + 1) y0 y1 y2 y3 y4 y5 y6 y7 y8 y9 y10 y11 y12)) ∧ (∀ y0 y1 y2 y3 y4 y5 y6 y7 y8 y9 y10, LeO (water_check.l1 k y0 y1 y2 y3 y4 y5 y6 y7 y8 y9 y10) (water_check.l1 (k + 1) y0 y1 y2 y3 y4 y5 y6 y7 y8 y9 y10)) ∧ (∀ y0 y1 y2 y3 y4 y5 y6 y7 y8 y9 y10 y11 y12, LeO (water_check.l2 k y0 y1 y2 y3 y4 y5 y6 y7 y8 y9 y10 y11 y12) (water_check.l2 (k + 1) y0 y1 y2 y3 y4 y5 y6 y7 y8 y9 y10 y11 y12)) ∧ (∀ y0 y1 y2 y3 y4 y5 y6 y7 y8 y9, LeO (water_check.l3 k y0 y1 y2 y3 y4 y5 y6 y7 y8 y9) (water_check.l3 (k + 1) y0 y1 y2 y3 y4 y5 y6 y7 y8 y9)) ∧ (∀ y0 y1 y2 y3 y4 y5 y6 y7 y8 y9, LeO (water_check.l4 k y0 y1 y2 y3 y4 y5 y6 y7 y8 y9) (water_check.l4 (k + 1) y0 y1 y2 y3 y4 y5 y6 y7 y8 y9))
 | 0 => ⟨fun _ _ _ _ _ _ _ _ _ _ _ _ _ r h => by simp [water_check.l0] at h,fun _ _ _ _ _ _ _ _ _ _ _ r h => by simp [water_check.l1] at h,fun _ _ _ _ _ _ _ _ _ _ _ _ _ r h => by simp [water_check.l2] at h,fun _ _ _ _ _ _ _ _ _ _ r h => by simp [water_check.l3] at h,fun _ _ _ _ _ _ _ _ _ _ r h => by simp [water_check.l4] at h⟩
 | k + 1 => by
  obtain ⟨ih0,ih1,ih2,ih3,ih4⟩:=water_check.mono_l k
  refine ⟨?_,?_,?_,?_,?_⟩
  ·intro y0 y1 y2 y3 y4 y5 y6 y7 y8 y9 y10 y11 y12
   unfold water_check.l0
   repeat' first
   | (with_reducible exact ih0 _ _ _ _ _ _ _ _ _ _ _ _ _)
   | (with_reducible exact ih1 _ _ _ _ _ _ _ _ _ _ _)
   | (with_reducible exact ih2 _ _ _ _ _ _ _ _ _ _ _ _ _)
   | (with_reducible exact ih3 _ _ _ _ _ _ _ _ _ _)
   | (with_reducible exact ih4 _ _ _ _ _ _ _ _ _ _)
   | (with_reducible exact water_groundOf.mono _ _ _ _)
   | (with_reducible exact water_ground_may.mono _ _ _ _ _ _ _ _)
   | (with_reducible exact LeO.refl _)
   | (with_reducible exact LeO.none _)
   | (with_reducible refine LeO.ite ?_ ?_)
   | (with_reducible refine LeO.bind ?_ (fun _ => ?_))
   | exact ih0 _ _ _ _ _ _ _ _ _ _ _ _ _
   | exact ih1 _ _ _ _ _ _ _ _ _ _ _
   | exact ih2 _ _ _ _ _ _ _ _ _ _ _ _ _
   | exact ih3 _ _ _ _ _ _ _ _ _ _
   | exact ih4 _ _ _ _ _ _ _ _ _ _
   | exact water_groundOf.mono _ _ _ _
   | exact water_ground_may.mono _ _ _ _ _ _ _ _
   | exact LeO.none _
   | refine LeO.ite ?_ ?_
   | refine LeO.bind ?_ (fun _ => ?_)
  ·intro y0 y1 y2 y3 y4 y5 y6 y7 y8 y9 y10
   unfold water_check.l1
   repeat' first
   | (with_reducible exact ih0 _ _ _ _ _ _ _ _ _ _ _ _ _)
   | (with_reducible exact ih1 _ _ _ _ _ _ _ _ _ _ _)
   | (with_reducible exact ih2 _ _ _ _ _ _ _ _ _ _ _ _ _)
   | (with_reducible exact ih3 _ _ _ _ _ _ _ _ _ _)
   | (with_reducible exact ih4 _ _ _ _ _ _ _ _ _ _)
   | (with_reducible exact water_groundOf.mono _ _ _ _)
   | (with_reducible exact water_ground_may.mono _ _ _ _ _ _ _ _)
   | (with_reducible exact LeO.refl _)
   | (with_reducible exact LeO.none _)
   | (with_reducible refine LeO.ite ?_ ?_)
   | (with_reducible refine LeO.bind ?_ (fun _ => ?_))
   | exact ih0 _ _ _ _ _ _ _ _ _ _ _ _ _
   | exact ih1 _ _ _ _ _ _ _ _ _ _ _
   | exact ih2 _ _ _ _ _ _ _ _ _ _ _ _ _
   | exact ih3 _ _ _ _ _ _ _ _ _ _
   | exact ih4 _ _ _ _ _ _ _ _ _ _
   | exact water_groundOf.mono _ _ _ _
   | exact water_ground_may.mono _ _ _ _ _ _ _ _
   | exact LeO.none _
   | refine LeO.ite ?_ ?_
   | refine LeO.bind ?_ (fun _ => ?_)
  ·intro y0 y1 y2 y3 y4 y5 y6 y7 y8 y9 y10 y11 y12
   unfold water_check.l2
   repeat' first
   | (with_reducible exact ih0 _ _ _ _ _ _ _ _ _ _ _ _ _)
   | (with_reducible exact ih1 _ _ _ _ _ _ _ _ _ _ _)
   | (with_reducible exact ih2 _ _ _ _ _ _ _ _ _ _ _ _ _)
   | (with_reducible exact ih3 _ _ _ _ _ _ _ _ _ _)
   | (with_reducible exact ih4 _ _ _ _ _ _ _ _ _ _)
   | (with_reducible exact water_groundOf.mono _ _ _ _)
   | (with_reducible exact water_ground_may.mono _ _ _ _ _ _ _ _)
   | (with_reducible exact LeO.refl _)
   | (with_reducible exact LeO.none _)
   | (with_reducible refine LeO.ite ?_ ?_)
   | (with_reducible refine LeO.bind ?_ (fun _ => ?_))
   | exact ih0 _ _ _ _ _ _ _ _ _ _ _ _ _
   | exact ih1 _ _ _ _ _ _ _ _ _ _ _
   | exact ih2 _ _ _ _ _ _ _ _ _ _ _ _ _
   | exact ih3 _ _ _ _ _ _ _ _ _ _
   | exact ih4 _ _ _ _ _ _ _ _ _ _
   | exact water_groundOf.mono _ _ _ _
   | exact water_ground_may.mono _ _ _ _ _ _ _ _
   | exact LeO.none _
   | refine LeO.ite ?_ ?_
   | refine LeO.bind ?_ (fun _ => ?_)
  ·intro y0 y1 y2 y3 y4 y5 y6 y7 y8 y9
   unfold water_check.l3
   repeat' first
   | (with_reducible exact ih0 _ _ _ _ _ _ _ _ _ _ _ _ _)
   | (with_reducible exact ih1 _ _ _ _ _ _ _ _ _ _ _)
   | (with_reducible exact ih2 _ _ _ _ _ _ _ _ _ _ _ _ _)
   | (with_reducible exact ih3 _ _ _ _ _ _ _ _ _ _)
   | (with_reducible exact ih4 _ _ _ _ _ _ _ _ _ _)
   | (with_reducible exact water_groundOf.mono _ _ _ _)
   | (with_reducible exact water_ground_may.mono _ _ _ _ _ _ _ _)
   | (with_reducible exact LeO.refl _)
   | (with_reducible exact LeO.none _)
   | (with_reducible refine LeO.ite ?_ ?_)
   | (with_reducible refine LeO.bind ?_ (fun _ => ?_))
   | exact ih0 _ _ _ _ _ _ _ _ _ _ _ _ _
   | exact ih1 _ _ _ _ _ _ _ _ _ _ _
   | exact ih2 _ _ _ _ _ _ _ _ _ _ _ _ _
   | exact ih3 _ _ _ _ _ _ _ _ _ _
   | exact ih4 _ _ _ _ _ _ _ _ _ _
   | exact water_groundOf.mono _ _ _ _
   | exact water_ground_may.mono _ _ _ _ _ _ _ _
   | exact LeO.none _
   | refine LeO.ite ?_ ?_
   | refine LeO.bind ?_ (fun _ => ?_)
  ·intro y0 y1 y2 y3 y4 y5 y6 y7 y8 y9
   unfold water_check.l4
   repeat' first
   | (with_reducible exact ih0 _ _ _ _ _ _ _ _ _ _ _ _ _)
   | (with_reducible exact ih1 _ _ _ _ _ _ _ _ _ _ _)
   | (with_reducible exact ih2 _ _ _ _ _ _ _ _ _ _ _ _ _)
   | (with_reducible exact ih3 _ _ _ _ _ _ _ _ _ _)
   | (with_reducible exact ih4 _ _ _ _ _ _ _ _ _ _)
   | (with_reducible exact water_groundOf.mono _ _ _ _)
   | (with_reducible exact water_ground_may.mono _ _ _ _ _ _ _ _)
   | (with_reducible exact LeO.refl _)
   | (with_reducible exact LeO.none _)
   | (with_reducible refine LeO.ite ?_ ?_)
   | (with_reducible refine LeO.bind ?_ (fun _ => ?_))
   | exact ih0 _ _ _ _ _ _ _ _ _ _ _ _ _
   | exact ih1 _ _ _ _ _ _ _ _ _ _ _
   | exact ih2 _ _ _ _ _ _ _ _ _ _ _ _ _
   | exact ih3 _ _ _ _ _ _ _ _ _ _
   | exact ih4 _ _ _ _ _ _ _ _ _ _
   | exact water_groundOf.mono _ _ _ _
   | exact water_ground_may.mono _ _ _ _ _ _ _ _
   | exact LeO.none _
   | refine LeO.ite ?_ ?_
   | refine LeO.bind ?_ (fun _ => ?_)
theorem water_check.mono : ∀ a0 a1 a2 a3 a4 k, LeO (water_check.f k a0 a1 a2 a3 a4) (water_check.f (k + 1) a0 a1 a2 a3 a4) := by
 intro a0 a1 a2 a3 a4 k
 obtain ⟨ih0,ih1,ih2,ih3,ih4⟩:=water_check.mono_l k
 unfold water_check.f
 repeat' first
   | (with_reducible exact ih0 _ _ _ _ _ _ _ _ _ _ _ _ _)
   | (with_reducible exact ih1 _ _ _ _ _ _ _ _ _ _ _)
   | (with_reducible exact ih2 _ _ _ _ _ _ _ _ _ _ _ _ _)
   | (with_reducible exact ih3 _ _ _ _ _ _ _ _ _ _)
   | (with_reducible exact ih4 _ _ _ _ _ _ _ _ _ _)
   | (with_reducible exact water_groundOf.mono _ _ _ _)
   | (with_reducible exact water_ground_may.mono _ _ _ _ _ _ _ _)
   | (with_reducible exact LeO.refl _)
   | (with_reducible exact LeO.none _)
   | (with_reducible refine LeO.ite ?_ ?_)
   | (with_reducible refine LeO.bind ?_ (fun _ => ?_))
   | exact ih0 _ _ _ _ _ _ _ _ _ _ _ _ _
   | exact ih1 _ _ _ _ _ _ _ _ _ _ _
   | exact ih2 _ _ _ _ _ _ _ _ _ _ _ _ _
   | exact ih3 _ _ _ _ _ _ _ _ _ _
   | exact ih4 _ _ _ _ _ _ _ _ _ _
   | exact water_groundOf.mono _ _ _ _
   | exact water_ground_may.mono _ _ _ _ _ _ _ _
   | exact LeO.none _
   | refine LeO.ite ?_ ?_
   | refine LeO.bind ?_ (fun _ => ?_)
set_option maxHeartbeats 8000000 in
set_option maxRecDepth 100000 in
theorem water_check.calls (k : Nat) (a0_0 : Int) (a0_1 : Int) (A0_2 : Option Addr) (c0_2 : Nat) (l0_2 : List Int) (A1_0 : Option Addr) (c1_0 : Nat) (l1_0 : List Int) (A1_1 : Option Addr) (c1_1 : Nat) (l1_1 : List Int) (r1 : Int) (r2 : Int) (r3 : List Int) (r4 : List Int) (r5 : List Bool) (r6 : Int) (w : World) (hr0_2 : Kd.C (Kd.int .i64) w A0_2 l0_2.length l0_2) (hc0_2 : l0_2.length ≤ c0_2) (hr1_0 : Kd.C (Kd.int .i64) w A1_0 l1_0.length l1_0) (hc1_0 : l1_0.length ≤ c1_0) (hr1_1 : Kd.C (Kd.int .i64) w A1_1 l1_1.length l1_1) (hc1_1 : l1_1.length ≤ c1_1) (h : water_check.f k a0_0 a0_1 l0_2 l1_0 l1_1 = some (r1, r2, r3, r4, r5, r6)) :
  Calls Try.prog 44 #[.agg #[.int .i64 a0_0,.int .i64 a0_1,.slice A0_2 l0_2.length c0_2],.agg #[.slice A1_0 l1_0.length c1_0,.slice A1_1 l1_1.length c1_1]] w fun e w' => ∃ v2_ v3_ v4_ : Value,e = .returned (.tuple #[.agg #[.int .i64 r1,.int .i64 r2,v2_,v3_,v4_],.int .i64 r6]) ∧ Kd.R (Kd.int .i64) 3 w' w.heap.size (fun k_ => some k_ ≠ (v3_ : Value).ownBlock) v2_ r3 ∧ Kd.R (Kd.int .i64) 3 w' w.heap.size (fun k_ => some k_ ≠ (v2_ : Value).ownBlock) v3_ r4 ∧ Kd.R Kd.bool 4 w' w.heap.size (fun _ => True) v4_ r5 ∧ Below w.heap.size w w':=by
 have hu24:=Try.underlying24
 have hu26:=Try.underlying26
 have hu52:=Try.underlying52
 have HR0_2:=Aside0.mk hr0_2
 have HC0_2:=Aside0.mk hc0_2
 clear hr0_2 hc0_2
 have HR1_0:=Aside0.mk hr1_0
 have HC1_0:=Aside0.mk hc1_0
 clear hr1_0 hc1_0
 have HR1_1:=Aside0.mk hr1_1
 have HC1_1:=Aside0.mk hc1_1
 clear hr1_1 hc1_1
 have HB:=Aside0.mk (Below.refl w.heap.size w)
 have H : ((water_groundOf.f k a0_0 a0_1 l0_2).bind fun bt156 => (if bt156.2.2.2.2.2 = 0 then (if (l1_0.length : Int) = (wrap64 (a0_0 * a0_1)) then (water_check.l0 k l1_0 (l1_0.length : Int) 0 a0_0 a0_1 l0_2 l1_0 l1_1 bt156.1 bt156.2.1 bt156.2.2.1 bt156.2.2.2.1 bt156.2.2.2.2.1) else (some (bt156.1,bt156.2.1,bt156.2.2.1,bt156.2.2.2.1,bt156.2.2.2.2.1,1))) else (some (bt156.1,bt156.2.1,bt156.2.2.1,bt156.2.2.2.1,bt156.2.2.2.2.1,bt156.2.2.2.2.2)))) = some (r1,r2,r3,r4,r5,r6):=h
 clear h
 replace H:=Option.bind_eq_some_iff.mp H
 obtain ⟨⟨t156,t157,t158,t161,t164,t167⟩,A30,H⟩:=H
 replace H : (if t167 = 0 then (if (l1_0.length : Int) = (wrap64 (a0_0 * a0_1)) then (water_check.l0 k l1_0 (l1_0.length : Int) 0 a0_0 a0_1 l0_2 l1_0 l1_1 t156 t157 t158 t161 t164) else (some (t156,t157,t158,t161,t164,1))) else (some (t156,t157,t158,t161,t164,t167))) = some (r1,r2,r3,r4,r5,r6):=H
 have A3:=Aside0.mk A30
 clear A30
 by_cases c4 : t167 = 0
 rotate_left
 ·rw [if_neg c4] at H
  have c4b0 : (t167 == 0) = false:=beq_eq_false_iff_ne.mpr c4
  have c4b1 : (t167 != 0) = true:=bne_iff_ne.mpr c4
  simp only [Option.some.injEq,Prod.mk.injEq] at H
  obtain ⟨rfl,rfl,rfl,rfl,rfl,rfl⟩:=H
  go_enter Try.func44,Try.ntmps44
  go_wp2_with (first|((with_reducible refine gate_dst (N:=2) rfl ?_);refine box_ev (N:=2) (cs:=#[.int .i64 a0_0,.int .i64 a0_1,.slice A0_2 l0_2.length c0_2]) (t:=24) ?_;intro gb153 hg w168 hbox hb;have BK153:=Aside0.mk (hbox);have GW153 : Aside0 (w.heap.size ≤ gb153):=gsz hg;have GE153:=GW153;replace HB:=Aside0.mk (below_step (hb_) hb);clear hb hbox hg)|((with_reducible refine gate_dst (N:=3) rfl ?_);refine box_ev (N:=3) (cs:=#[.slice A1_0 l1_0.length c1_0,.slice A1_1 l1_1.length c1_1]) (t:=26) ?_;intro gb154 hg w169 hbox hb;have BK154:=Aside0.mk (hbox);have GW154 : Aside0 (w.heap.size ≤ gb154):=gsz hg;have GE154:=GW154;have NB153_154:=nbl BK153 hg;have NB154_153:=nbr BK153 hg;replace BK153:=bkb BK153 hb;replace HB:=Aside0.mk (below_step (hb_) hb);clear hb hbox hg)|((with_reducible refine gate_dst (N:=4) rfl ?_);refine box_ev (N:=4) (cs:=#[.int .i64 0,.int .i64 0,.slice none 0 0,.slice none 0 0,.slice none 0 0]) (t:=52) ?_;intro gb155 hg w170 hbox hb;have BK155:=Aside0.mk (hbox);have GW155 : Aside0 (w.heap.size ≤ gb155):=gsz hg;have GE155:=GW155;have NB153_155:=nbl BK153 hg;have NB155_153:=nbr BK153 hg;have NB154_155:=nbl BK154 hg;have NB155_154:=nbr BK154 hg;replace BK153:=bkb BK153 hb;replace BK154:=bkb BK154 hb;replace HB:=Aside0.mk (below_step (hb_) hb);clear hb hbox hg;have hnb171:=NB153_154.out;have hnc171:=NB154_153.out;have hnb172:=NB153_155.out;have hnc172:=NB155_153.out;obtain ⟨hcz173_0,hcz173_1,hcz173_2,hfz173_0,hfz173_1,hfz173_2⟩:=cells3 BK153.out)|(go_at_call 65;(with_reducible refine (water_groundOf.calls k a0_0 a0_1 _ _ l0_2 t156 t157 t158 t161 t164 t167 _ ?side1 ?side2 A3.out).mono ?_);(case side1 => exact Kd.C_up (Kd.C_below HR0_2.out HB.out));(case side2 => exact HC0_2.out);rintro e w174 ⟨v159,v162,v165,rfl,ho0,ho1,ho2,hb⟩;have HO160:=rlo ho0;have HO163:=rlo ho1;have HO166:=rlo ho2;replace BK153:=bkb BK153 hb;replace BK154:=bkb BK154 hb;replace BK155:=bkb BK155 hb;replace HB:=Aside0.mk (below_step (hb_) hb))|((with_reducible refine gate_dst (N:=6) rfl ?_);refine box_ev (N:=6) (cs:=#[.int .i64 0,.int .i64 0,.slice none 0 0,.slice none 0 0,.slice none 0 0]) (t:=52) ?_;intro gb168 hg w175 hbox hb;have BK168:=Aside0.mk (hbox);have GW168 : Aside0 (w.heap.size ≤ gb168):=gsz hg;have GE168:=GW168;have NB153_168:=nbl BK153 hg;have NB168_153:=nbr BK153 hg;have NB154_168:=nbl BK154 hg;have NB168_154:=nbr BK154 hg;have NB155_168:=nbl BK155 hg;have NB168_155:=nbr BK155 hg;replace HO160:=rbw HO160 hb;replace HO163:=rbw HO163 hb;replace HO166:=rbw HO166 hb;replace BK153:=bkb BK153 hb;replace BK154:=bkb BK154 hb;replace BK155:=bkb BK155 hb;replace HB:=Aside0.mk (below_step (hb_) hb);clear hb hbox hg;have hnb176:=NB168_153.out;have hnc176:=NB153_168.out;have hnb177:=NB168_154.out;have hnc177:=NB154_168.out;have hnb178:=NB168_155.out;have hnc178:=NB155_168.out;obtain ⟨hcz179_0,hcz179_1,hcz179_2,hcz179_3,hcz179_4,hfz179_0,hfz179_1,hfz179_2,hfz179_3,hfz179_4⟩:=cells5 BK168.out;obtain ⟨Ao180,co180,eo180⟩:=Kd.R_slice HO160.out;subst eo180;obtain ⟨Ao181,co181,eo181⟩:=Kd.R_slice HO163.out;subst eo181;obtain ⟨Ao182,co182,eo182⟩:=Kd.R_slice HO166.out;subst eo182;have hnb183:=NB155_154.out;have hnc183:=NB154_155.out;obtain ⟨hcz184_0,hcz184_1,hcz184_2,hcz184_3,hcz184_4,hfz184_0,hfz184_1,hfz184_2,hfz184_3,hfz184_4⟩:=cells5 BK155.out))
  refine bodyPost_ret (results_ct rfl _ _ gb155 52 #[.int .i64 t156,.int .i64 t157,.slice Ao180 t158.length co180,.slice Ao181 t161.length co181,.slice Ao182 t164.length co182] (0,0) _ rfl (by (with_reducible repeat (first|refine blk_drewN ?_ _|refine blk_drew ?_|refine blk_alloc ?_ _));refine blk_put (cs:=#[.int .i64 t156,.int .i64 t157,.slice Ao180 t158.length co180,.slice Ao181 t161.length co181,.slice none 0 0]) ?_ 4 _ rfl;(with_reducible repeat (first|refine blk_drewN ?_ _|refine blk_drew ?_|refine blk_alloc ?_ _));refine blk_put (cs:=#[.int .i64 t156,.int .i64 t157,.slice Ao180 t158.length co180,.slice none 0 0,.slice none 0 0]) ?_ 3 _ rfl;(with_reducible repeat (first|refine blk_drewN ?_ _|refine blk_drew ?_|refine blk_alloc ?_ _));refine blk_put (cs:=#[.int .i64 t156,.int .i64 t157,.slice none 0 0,.slice none 0 0,.slice none 0 0]) ?_ 2 _ rfl;(with_reducible repeat (first|refine blk_drewN ?_ _|refine blk_drew ?_|refine blk_alloc ?_ _));refine blk_put (cs:=#[.int .i64 t156,.int .i64 0,.slice none 0 0,.slice none 0 0,.slice none 0 0]) ?_ 1 _ rfl;(with_reducible repeat (first|refine blk_drewN ?_ _|refine blk_drew ?_|refine blk_alloc ?_ _));refine blk_put (cs:=#[.int .i64 0,.int .i64 0,.slice none 0 0,.slice none 0 0,.slice none 0 0]) ?_ 0 _ rfl;(with_reducible repeat (first|refine blk_drewN ?_ _|refine blk_drew ?_|refine blk_alloc ?_ _));refine blk_far ?_ NB155_168.out _;(with_reducible repeat (first|refine blk_drewN ?_ _|refine blk_drew ?_|refine blk_alloc ?_ _));refine blk_far ?_ NB155_168.out _;(with_reducible repeat (first|refine blk_drewN ?_ _|refine blk_drew ?_|refine blk_alloc ?_ _));refine blk_far ?_ NB155_168.out _;(with_reducible repeat (first|refine blk_drewN ?_ _|refine blk_drew ?_|refine blk_alloc ?_ _));refine blk_far ?_ NB155_168.out _;(with_reducible repeat (first|refine blk_drewN ?_ _|refine blk_drew ?_|refine blk_alloc ?_ _));refine blk_far ?_ NB155_168.out _;(with_reducible repeat (first|refine blk_drewN ?_ _|refine blk_drew ?_|refine blk_alloc ?_ _));exact BK155.out) Try.underlying52 rfl (by kernel_rfl)) rfl ?_
  exact ⟨_,_,_,by first|rfl|(simp [errW_none,errW_some] <;> rfl)|(simp [*,errW_none,errW_some] <;> rfl),by (with_reducible repeat (first|apply Kd.R_alloc|apply Kd.R_drewN|apply Kd.R_drew));exact Kd.R_mono (Kd.R_fars gb155 (Kd.R_far (p:=⟨gb168,4,none⟩) (Kd.R_far (p:=⟨gb168,3,none⟩) (Kd.R_far (p:=⟨gb168,2,none⟩) (Kd.R_far (p:=⟨gb168,1,none⟩) (Kd.R_far (p:=⟨gb168,0,none⟩) (Kd.R_types (Kd.R_types HO160.out BK168.out (by decide)) BK155.out (by decide)) (fun _ hk => hk.1.2) (.int .i64 t156)) (fun _ hk => hk.1.2) (.int .i64 t157)) (fun _ hk => hk.1.2) (.slice Ao180 t158.length co180)) (fun _ hk => hk.1.2) (.slice Ao181 t161.length co181)) (fun _ hk => hk.1.2) (.slice Ao182 t164.length co182)) (fun _ hk => hk.2)) (fun _ hk => hk.1.1),by (with_reducible repeat (first|apply Kd.R_alloc|apply Kd.R_drewN|apply Kd.R_drew));exact Kd.R_mono (Kd.R_fars gb155 (Kd.R_far (p:=⟨gb168,4,none⟩) (Kd.R_far (p:=⟨gb168,3,none⟩) (Kd.R_far (p:=⟨gb168,2,none⟩) (Kd.R_far (p:=⟨gb168,1,none⟩) (Kd.R_far (p:=⟨gb168,0,none⟩) (Kd.R_types (Kd.R_types HO163.out BK168.out (by decide)) BK155.out (by decide)) (fun _ hk => hk.1.2) (.int .i64 t156)) (fun _ hk => hk.1.2) (.int .i64 t157)) (fun _ hk => hk.1.2) (.slice Ao180 t158.length co180)) (fun _ hk => hk.1.2) (.slice Ao181 t161.length co181)) (fun _ hk => hk.1.2) (.slice Ao182 t164.length co182)) (fun _ hk => hk.2)) (fun _ hk => hk.1.1),by (with_reducible repeat (first|apply Kd.R_alloc|apply Kd.R_drewN|apply Kd.R_drew));exact Kd.R_mono (Kd.R_fars gb155 (Kd.R_far (p:=⟨gb168,4,none⟩) (Kd.R_far (p:=⟨gb168,3,none⟩) (Kd.R_far (p:=⟨gb168,2,none⟩) (Kd.R_far (p:=⟨gb168,1,none⟩) (Kd.R_far (p:=⟨gb168,0,none⟩) (Kd.R_types (Kd.R_types HO166.out BK168.out (by decide)) BK155.out (by decide)) (fun _ hk => hk.1.2) (.int .i64 t156)) (fun _ hk => hk.1.2) (.int .i64 t157)) (fun _ hk => hk.1.2) (.slice Ao180 t158.length co180)) (fun _ hk => hk.1.2) (.slice Ao181 t161.length co181)) (fun _ hk => hk.1.2) (.slice Ao182 t164.length co182)) (fun _ hk => hk.2)) (fun _ hk => trivial),hb_⟩
 rw [if_pos c4] at H
 have c4b0 : (t167 == 0) = true:=beq_iff_eq.mpr c4
 have c4b1 : (t167 != 0) = false:=bne_eq_false_iff_eq.mpr c4
 clear c4
 by_cases c5 : (l1_0.length : Int) = (wrap64 (a0_0 * a0_1))
 rotate_left
 ·rw [if_neg c5] at H
  have c5b0 : ((l1_0.length : Int) == (wrap64 (a0_0 * a0_1))) = false:=beq_eq_false_iff_ne.mpr c5
  have c5b1 : ((l1_0.length : Int) != (wrap64 (a0_0 * a0_1))) = true:=bne_iff_ne.mpr c5
  simp only [Option.some.injEq,Prod.mk.injEq] at H
  obtain ⟨rfl,rfl,rfl,rfl,rfl,rfl⟩:=H
  go_enter Try.func44,Try.ntmps44
  go_wp2_with (first|((with_reducible refine gate_dst (N:=2) rfl ?_);refine box_ev (N:=2) (cs:=#[.int .i64 a0_0,.int .i64 a0_1,.slice A0_2 l0_2.length c0_2]) (t:=24) ?_;intro gb153 hg w149 hbox hb;have BK153:=Aside0.mk (hbox);have GW153 : Aside0 (w.heap.size ≤ gb153):=gsz hg;have GE153:=GW153;replace HB:=Aside0.mk (below_step (hb_) hb);clear hb hbox hg)|((with_reducible refine gate_dst (N:=3) rfl ?_);refine box_ev (N:=3) (cs:=#[.slice A1_0 l1_0.length c1_0,.slice A1_1 l1_1.length c1_1]) (t:=26) ?_;intro gb154 hg w150 hbox hb;have BK154:=Aside0.mk (hbox);have GW154 : Aside0 (w.heap.size ≤ gb154):=gsz hg;have GE154:=GW154;have NB153_154:=nbl BK153 hg;have NB154_153:=nbr BK153 hg;replace BK153:=bkb BK153 hb;replace HB:=Aside0.mk (below_step (hb_) hb);clear hb hbox hg)|((with_reducible refine gate_dst (N:=4) rfl ?_);refine box_ev (N:=4) (cs:=#[.int .i64 0,.int .i64 0,.slice none 0 0,.slice none 0 0,.slice none 0 0]) (t:=52) ?_;intro gb155 hg w151 hbox hb;have BK155:=Aside0.mk (hbox);have GW155 : Aside0 (w.heap.size ≤ gb155):=gsz hg;have GE155:=GW155;have NB153_155:=nbl BK153 hg;have NB155_153:=nbr BK153 hg;have NB154_155:=nbl BK154 hg;have NB155_154:=nbr BK154 hg;replace BK153:=bkb BK153 hb;replace BK154:=bkb BK154 hb;replace HB:=Aside0.mk (below_step (hb_) hb);clear hb hbox hg;have hnb152:=NB153_154.out;have hnc152:=NB154_153.out;have hnb153:=NB153_155.out;have hnc153:=NB155_153.out;obtain ⟨hcz154_0,hcz154_1,hcz154_2,hfz154_0,hfz154_1,hfz154_2⟩:=cells3 BK153.out)|(go_at_call 65;(with_reducible refine (water_groundOf.calls k a0_0 a0_1 _ _ l0_2 t156 t157 t158 t161 t164 t167 _ ?side1 ?side2 A3.out).mono ?_);(case side1 => exact Kd.C_up (Kd.C_below HR0_2.out HB.out));(case side2 => exact HC0_2.out);rintro e w155 ⟨v159,v162,v165,rfl,ho0,ho1,ho2,hb⟩;have HO160:=rlo ho0;have HO163:=rlo ho1;have HO166:=rlo ho2;replace BK153:=bkb BK153 hb;replace BK154:=bkb BK154 hb;replace BK155:=bkb BK155 hb;replace HB:=Aside0.mk (below_step (hb_) hb))|((with_reducible refine gate_dst (N:=6) rfl ?_);refine box_ev (N:=6) (cs:=#[.int .i64 0,.int .i64 0,.slice none 0 0,.slice none 0 0,.slice none 0 0]) (t:=52) ?_;intro gb168 hg w156 hbox hb;have BK168:=Aside0.mk (hbox);have GW168 : Aside0 (w.heap.size ≤ gb168):=gsz hg;have GE168:=GW168;have NB153_168:=nbl BK153 hg;have NB168_153:=nbr BK153 hg;have NB154_168:=nbl BK154 hg;have NB168_154:=nbr BK154 hg;have NB155_168:=nbl BK155 hg;have NB168_155:=nbr BK155 hg;replace HO160:=rbw HO160 hb;replace HO163:=rbw HO163 hb;replace HO166:=rbw HO166 hb;replace BK153:=bkb BK153 hb;replace BK154:=bkb BK154 hb;replace BK155:=bkb BK155 hb;replace HB:=Aside0.mk (below_step (hb_) hb);clear hb hbox hg;have hnb157:=NB168_153.out;have hnc157:=NB153_168.out;have hnb158:=NB168_154.out;have hnc158:=NB154_168.out;have hnb159:=NB168_155.out;have hnc159:=NB155_168.out;obtain ⟨hcz160_0,hcz160_1,hcz160_2,hcz160_3,hcz160_4,hfz160_0,hfz160_1,hfz160_2,hfz160_3,hfz160_4⟩:=cells5 BK168.out;obtain ⟨Ao161,co161,eo161⟩:=Kd.R_slice HO160.out;subst eo161;obtain ⟨Ao162,co162,eo162⟩:=Kd.R_slice HO163.out;subst eo162;obtain ⟨Ao163,co163,eo163⟩:=Kd.R_slice HO166.out;subst eo163;have hnb164:=NB154_155.out;have hnc164:=NB155_154.out;obtain ⟨hcz165_0,hcz165_1,hfz165_0,hfz165_1⟩:=cells2 BK154.out;obtain ⟨hcz166_0,hcz166_1,hcz166_2,hfz166_0,hfz166_1,hfz166_2⟩:=cells3 BK153.out;obtain ⟨hcz167_0,hcz167_1,hcz167_2,hcz167_3,hcz167_4,hfz167_0,hfz167_1,hfz167_2,hfz167_3,hfz167_4⟩:=cells5 BK155.out))
  refine bodyPost_ret (results_ct rfl _ _ gb155 52 #[.int .i64 t156,.int .i64 t157,.slice Ao161 t158.length co161,.slice Ao162 t161.length co162,.slice Ao163 t164.length co163] (0,0) _ rfl (by (with_reducible repeat (first|refine blk_drewN ?_ _|refine blk_drew ?_|refine blk_alloc ?_ _));refine blk_put (cs:=#[.int .i64 t156,.int .i64 t157,.slice Ao161 t158.length co161,.slice Ao162 t161.length co162,.slice none 0 0]) ?_ 4 _ rfl;(with_reducible repeat (first|refine blk_drewN ?_ _|refine blk_drew ?_|refine blk_alloc ?_ _));refine blk_put (cs:=#[.int .i64 t156,.int .i64 t157,.slice Ao161 t158.length co161,.slice none 0 0,.slice none 0 0]) ?_ 3 _ rfl;(with_reducible repeat (first|refine blk_drewN ?_ _|refine blk_drew ?_|refine blk_alloc ?_ _));refine blk_put (cs:=#[.int .i64 t156,.int .i64 t157,.slice none 0 0,.slice none 0 0,.slice none 0 0]) ?_ 2 _ rfl;(with_reducible repeat (first|refine blk_drewN ?_ _|refine blk_drew ?_|refine blk_alloc ?_ _));refine blk_put (cs:=#[.int .i64 t156,.int .i64 0,.slice none 0 0,.slice none 0 0,.slice none 0 0]) ?_ 1 _ rfl;(with_reducible repeat (first|refine blk_drewN ?_ _|refine blk_drew ?_|refine blk_alloc ?_ _));refine blk_put (cs:=#[.int .i64 0,.int .i64 0,.slice none 0 0,.slice none 0 0,.slice none 0 0]) ?_ 0 _ rfl;(with_reducible repeat (first|refine blk_drewN ?_ _|refine blk_drew ?_|refine blk_alloc ?_ _));refine blk_far ?_ NB155_168.out _;(with_reducible repeat (first|refine blk_drewN ?_ _|refine blk_drew ?_|refine blk_alloc ?_ _));refine blk_far ?_ NB155_168.out _;(with_reducible repeat (first|refine blk_drewN ?_ _|refine blk_drew ?_|refine blk_alloc ?_ _));refine blk_far ?_ NB155_168.out _;(with_reducible repeat (first|refine blk_drewN ?_ _|refine blk_drew ?_|refine blk_alloc ?_ _));refine blk_far ?_ NB155_168.out _;(with_reducible repeat (first|refine blk_drewN ?_ _|refine blk_drew ?_|refine blk_alloc ?_ _));refine blk_far ?_ NB155_168.out _;(with_reducible repeat (first|refine blk_drewN ?_ _|refine blk_drew ?_|refine blk_alloc ?_ _));exact BK155.out) Try.underlying52 rfl (by kernel_rfl)) rfl ?_
  exact ⟨_,_,_,by first|rfl|(simp [errW_none,errW_some] <;> rfl)|(simp [*,errW_none,errW_some] <;> rfl),by (with_reducible repeat (first|apply Kd.R_alloc|apply Kd.R_drewN|apply Kd.R_drew));exact Kd.R_mono (Kd.R_fars gb155 (Kd.R_far (p:=⟨gb168,4,none⟩) (Kd.R_far (p:=⟨gb168,3,none⟩) (Kd.R_far (p:=⟨gb168,2,none⟩) (Kd.R_far (p:=⟨gb168,1,none⟩) (Kd.R_far (p:=⟨gb168,0,none⟩) (Kd.R_types (Kd.R_types HO160.out BK168.out (by decide)) BK155.out (by decide)) (fun _ hk => hk.1.2) (.int .i64 t156)) (fun _ hk => hk.1.2) (.int .i64 t157)) (fun _ hk => hk.1.2) (.slice Ao161 t158.length co161)) (fun _ hk => hk.1.2) (.slice Ao162 t161.length co162)) (fun _ hk => hk.1.2) (.slice Ao163 t164.length co163)) (fun _ hk => hk.2)) (fun _ hk => hk.1.1),by (with_reducible repeat (first|apply Kd.R_alloc|apply Kd.R_drewN|apply Kd.R_drew));exact Kd.R_mono (Kd.R_fars gb155 (Kd.R_far (p:=⟨gb168,4,none⟩) (Kd.R_far (p:=⟨gb168,3,none⟩) (Kd.R_far (p:=⟨gb168,2,none⟩) (Kd.R_far (p:=⟨gb168,1,none⟩) (Kd.R_far (p:=⟨gb168,0,none⟩) (Kd.R_types (Kd.R_types HO163.out BK168.out (by decide)) BK155.out (by decide)) (fun _ hk => hk.1.2) (.int .i64 t156)) (fun _ hk => hk.1.2) (.int .i64 t157)) (fun _ hk => hk.1.2) (.slice Ao161 t158.length co161)) (fun _ hk => hk.1.2) (.slice Ao162 t161.length co162)) (fun _ hk => hk.1.2) (.slice Ao163 t164.length co163)) (fun _ hk => hk.2)) (fun _ hk => hk.1.1),by (with_reducible repeat (first|apply Kd.R_alloc|apply Kd.R_drewN|apply Kd.R_drew));exact Kd.R_mono (Kd.R_fars gb155 (Kd.R_far (p:=⟨gb168,4,none⟩) (Kd.R_far (p:=⟨gb168,3,none⟩) (Kd.R_far (p:=⟨gb168,2,none⟩) (Kd.R_far (p:=⟨gb168,1,none⟩) (Kd.R_far (p:=⟨gb168,0,none⟩) (Kd.R_types (Kd.R_types HO166.out BK168.out (by decide)) BK155.out (by decide)) (fun _ hk => hk.1.2) (.int .i64 t156)) (fun _ hk => hk.1.2) (.int .i64 t157)) (fun _ hk => hk.1.2) (.slice Ao161 t158.length co161)) (fun _ hk => hk.1.2) (.slice Ao162 t161.length co162)) (fun _ hk => hk.1.2) (.slice Ao163 t164.length co163)) (fun _ hk => hk.2)) (fun _ hk => trivial),hb_⟩
 rw [if_pos c5] at H
 have c5b0 : ((l1_0.length : Int) == (wrap64 (a0_0 * a0_1))) = true:=beq_iff_eq.mpr c5
 have c5b1 : ((l1_0.length : Int) != (wrap64 (a0_0 * a0_1))) = false:=bne_eq_false_iff_eq.mpr c5
 clear c5
 have H':=Aside0.mk H
 clear H
 go_enter Try.func44,Try.ntmps44
 go_wp2_with (first|((with_reducible refine gate_dst (N:=2) rfl ?_);refine box_ev (N:=2) (cs:=#[.int .i64 a0_0,.int .i64 a0_1,.slice A0_2 l0_2.length c0_2]) (t:=24) ?_;intro gb153 hg w6 hbox hb;have BK153:=Aside0.mk (hbox);have GW153 : Aside0 (w.heap.size ≤ gb153):=gsz hg;have GE153:=GW153;replace HB:=Aside0.mk (below_step (hb_) hb);clear hb hbox hg)|((with_reducible refine gate_dst (N:=3) rfl ?_);refine box_ev (N:=3) (cs:=#[.slice A1_0 l1_0.length c1_0,.slice A1_1 l1_1.length c1_1]) (t:=26) ?_;intro gb154 hg w7 hbox hb;have BK154:=Aside0.mk (hbox);have GW154 : Aside0 (w.heap.size ≤ gb154):=gsz hg;have GE154:=GW154;have NB153_154:=nbl BK153 hg;have NB154_153:=nbr BK153 hg;replace BK153:=bkb BK153 hb;replace HB:=Aside0.mk (below_step (hb_) hb);clear hb hbox hg)|((with_reducible refine gate_dst (N:=4) rfl ?_);refine box_ev (N:=4) (cs:=#[.int .i64 0,.int .i64 0,.slice none 0 0,.slice none 0 0,.slice none 0 0]) (t:=52) ?_;intro gb155 hg w8 hbox hb;have BK155:=Aside0.mk (hbox);have GW155 : Aside0 (w.heap.size ≤ gb155):=gsz hg;have GE155:=GW155;have NB153_155:=nbl BK153 hg;have NB155_153:=nbr BK153 hg;have NB154_155:=nbl BK154 hg;have NB155_154:=nbr BK154 hg;replace BK153:=bkb BK153 hb;replace BK154:=bkb BK154 hb;replace HB:=Aside0.mk (below_step (hb_) hb);clear hb hbox hg;have hnb9:=NB153_154.out;have hnc9:=NB154_153.out;have hnb10:=NB153_155.out;have hnc10:=NB155_153.out;obtain ⟨hcz11_0,hcz11_1,hcz11_2,hfz11_0,hfz11_1,hfz11_2⟩:=cells3 BK153.out)|(go_at_call 65;(with_reducible refine (water_groundOf.calls k a0_0 a0_1 _ _ l0_2 t156 t157 t158 t161 t164 t167 _ ?side1 ?side2 A3.out).mono ?_);(case side1 => exact Kd.C_up (Kd.C_below HR0_2.out HB.out));(case side2 => exact HC0_2.out);rintro e w12 ⟨v159,v162,v165,rfl,ho0,ho1,ho2,hb⟩;have HO160:=rlo ho0;have HO163:=rlo ho1;have HO166:=rlo ho2;replace BK153:=bkb BK153 hb;replace BK154:=bkb BK154 hb;replace BK155:=bkb BK155 hb;replace HB:=Aside0.mk (below_step (hb_) hb))|((with_reducible refine gate_dst (N:=6) rfl ?_);refine box_ev (N:=6) (cs:=#[.int .i64 0,.int .i64 0,.slice none 0 0,.slice none 0 0,.slice none 0 0]) (t:=52) ?_;intro gb168 hg w13 hbox hb;have BK168:=Aside0.mk (hbox);have GW168 : Aside0 (w.heap.size ≤ gb168):=gsz hg;have GE168:=GW168;have NB153_168:=nbl BK153 hg;have NB168_153:=nbr BK153 hg;have NB154_168:=nbl BK154 hg;have NB168_154:=nbr BK154 hg;have NB155_168:=nbl BK155 hg;have NB168_155:=nbr BK155 hg;replace HO160:=rbw HO160 hb;replace HO163:=rbw HO163 hb;replace HO166:=rbw HO166 hb;replace BK153:=bkb BK153 hb;replace BK154:=bkb BK154 hb;replace BK155:=bkb BK155 hb;replace HB:=Aside0.mk (below_step (hb_) hb);clear hb hbox hg;have hnb14:=NB168_153.out;have hnc14:=NB153_168.out;have hnb15:=NB168_154.out;have hnc15:=NB154_168.out;have hnb16:=NB168_155.out;have hnc16:=NB155_168.out;obtain ⟨hcz17_0,hcz17_1,hcz17_2,hcz17_3,hcz17_4,hfz17_0,hfz17_1,hfz17_2,hfz17_3,hfz17_4⟩:=cells5 BK168.out;obtain ⟨Ao18,co18,eo18⟩:=Kd.R_slice HO160.out;subst eo18;obtain ⟨Ao19,co19,eo19⟩:=Kd.R_slice HO163.out;subst eo19;obtain ⟨Ao20,co20,eo20⟩:=Kd.R_slice HO166.out;subst eo20;have hnb21:=NB154_155.out;have hnc21:=NB155_154.out;obtain ⟨hcz22_0,hcz22_1,hfz22_0,hfz22_1⟩:=cells2 BK154.out;obtain ⟨hcz23_0,hcz23_1,hcz23_2,hfz23_0,hfz23_1,hfz23_2⟩:=cells3 BK153.out))
 go_loopg [39] k (fun kq v39 w' => ∃ (x39_1 : Int) (x156000_1 : Int) (x156001_1 : Int),v39 = .int .i64 x39_1 ∧ Aside0 (water_check.l0 kq l1_0 (l1_0.length : Int) x39_1 a0_0 a0_1 l0_2 l1_0 l1_1 t156 t157 t158 t161 t164 = some (r1,r2,r3,r4,r5,r6)) ∧ Aside0 (kq ≤ k) ∧ Aside0 (Kd.R (Kd.int .i64) 3 w' w.heap.size (fun k_ => some k_ ≠ ((.slice Ao19 t161.length co19) : Value).ownBlock) (.slice Ao18 t158.length co18) t158) ∧ Aside0 (Kd.R (Kd.int .i64) 3 w' w.heap.size (fun k_ => some k_ ≠ ((.slice Ao18 t158.length co18) : Value).ownBlock) (.slice Ao19 t161.length co19) t161) ∧ Aside0 (Kd.R Kd.bool 4 w' w.heap.size (fun _ => True) (.slice Ao20 t164.length co20) t164) ∧ Aside0 (w'.heap[gb153]? = some (.cells #[.int .i64 a0_0,.int .i64 a0_1,(.slice A0_2 l0_2.length c0_2)] 24 (0,0))) ∧ Aside0 (w'.heap[gb154]? = some (.cells #[(.slice A1_0 l1_0.length c1_0),(.slice A1_1 l1_1.length c1_1)] 26 (0,0))) ∧ Aside0 (w'.heap[gb155]? = some (.cells #[.int .i64 x156000_1,.int .i64 x156001_1,(.slice none 0 0),(.slice none 0 0),(.slice none 0 0)] 52 (0,0))) ∧ Aside0 (w'.heap[gb168]? = some (.cells #[.int .i64 t156,.int .i64 t157,(.slice Ao18 t158.length co18),(.slice Ao19 t161.length co19),(.slice Ao20 t164.length co20)] 52 (0,0))) ∧ Aside0 (Below w.heap.size w w'))
 case atStart => exact ⟨(0),(0),(0),(by first|rfl|(simp;done)|(simp [*];done)),H',⟨Nat.le_refl _⟩,⟨by (with_reducible repeat (first|apply Kd.R_alloc|apply Kd.R_drewN|apply Kd.R_drew));exact Kd.R_mono (Kd.R_fars gb168 (Kd.R_types HO160.out BK168.out (by decide)) (fun _ hk => hk.2)) (fun _ hk => hk.1)⟩,⟨by (with_reducible repeat (first|apply Kd.R_alloc|apply Kd.R_drewN|apply Kd.R_drew));exact Kd.R_mono (Kd.R_fars gb168 (Kd.R_types HO163.out BK168.out (by decide)) (fun _ hk => hk.2)) (fun _ hk => hk.1)⟩,⟨by (with_reducible repeat (first|apply Kd.R_alloc|apply Kd.R_drewN|apply Kd.R_drew));exact Kd.R_mono (Kd.R_fars gb168 (Kd.R_types HO166.out BK168.out (by decide)) (fun _ hk => hk.2)) (fun _ hk => trivial)⟩,⟨by (with_reducible repeat (first|refine blk_drewN ?_ _|refine blk_drew ?_|refine blk_alloc ?_ _));refine blk_far ?_ NB153_168.out _;(with_reducible repeat (first|refine blk_drewN ?_ _|refine blk_drew ?_|refine blk_alloc ?_ _));refine blk_far ?_ NB153_168.out _;(with_reducible repeat (first|refine blk_drewN ?_ _|refine blk_drew ?_|refine blk_alloc ?_ _));refine blk_far ?_ NB153_168.out _;(with_reducible repeat (first|refine blk_drewN ?_ _|refine blk_drew ?_|refine blk_alloc ?_ _));refine blk_far ?_ NB153_168.out _;(with_reducible repeat (first|refine blk_drewN ?_ _|refine blk_drew ?_|refine blk_alloc ?_ _));refine blk_far ?_ NB153_168.out _;(with_reducible repeat (first|refine blk_drewN ?_ _|refine blk_drew ?_|refine blk_alloc ?_ _));exact BK153.out⟩,⟨by (with_reducible repeat (first|refine blk_drewN ?_ _|refine blk_drew ?_|refine blk_alloc ?_ _));refine blk_far ?_ NB154_168.out _;(with_reducible repeat (first|refine blk_drewN ?_ _|refine blk_drew ?_|refine blk_alloc ?_ _));refine blk_far ?_ NB154_168.out _;(with_reducible repeat (first|refine blk_drewN ?_ _|refine blk_drew ?_|refine blk_alloc ?_ _));refine blk_far ?_ NB154_168.out _;(with_reducible repeat (first|refine blk_drewN ?_ _|refine blk_drew ?_|refine blk_alloc ?_ _));refine blk_far ?_ NB154_168.out _;(with_reducible repeat (first|refine blk_drewN ?_ _|refine blk_drew ?_|refine blk_alloc ?_ _));refine blk_far ?_ NB154_168.out _;(with_reducible repeat (first|refine blk_drewN ?_ _|refine blk_drew ?_|refine blk_alloc ?_ _));exact BK154.out⟩,⟨by (with_reducible repeat (first|refine blk_drewN ?_ _|refine blk_drew ?_|refine blk_alloc ?_ _));refine blk_far ?_ NB155_168.out _;(with_reducible repeat (first|refine blk_drewN ?_ _|refine blk_drew ?_|refine blk_alloc ?_ _));refine blk_far ?_ NB155_168.out _;(with_reducible repeat (first|refine blk_drewN ?_ _|refine blk_drew ?_|refine blk_alloc ?_ _));refine blk_far ?_ NB155_168.out _;(with_reducible repeat (first|refine blk_drewN ?_ _|refine blk_drew ?_|refine blk_alloc ?_ _));refine blk_far ?_ NB155_168.out _;(with_reducible repeat (first|refine blk_drewN ?_ _|refine blk_drew ?_|refine blk_alloc ?_ _));refine blk_far ?_ NB155_168.out _;(with_reducible repeat (first|refine blk_drewN ?_ _|refine blk_drew ?_|refine blk_alloc ?_ _));exact BK155.out⟩,⟨by (with_reducible repeat (first|refine blk_drewN ?_ _|refine blk_drew ?_|refine blk_alloc ?_ _));exact blk_puts5 (blk_up BK168.out)⟩,⟨hb_⟩⟩
 case round =>
  clear H'
  obtain ⟨x39_1,x156000_1,x156001_1,rfl,HA,HK1,HO_169002,HO_169003,HO_169004,BK153,BK154,BK155,BK168,HB⟩:=hrel
  cases gk with
  | zero => exact absurd HA.out (by simp [water_check.l0])
  | succ k1 =>
   have H:=HA.out
   clear HA
   simp only [water_check.l0] at H
   by_cases c24 : x39_1 < (l1_0.length : Int)
   ·rw [if_pos c24] at H
    have c24b0 : decide (x39_1 < (l1_0.length : Int)) = true:=decide_eq_true c24
    clear c24
    replace H:=ifp_ H;obtain ⟨c25,H⟩:=H
    have c25b0 : decide (0 ≤ x39_1) = true:=decide_eq_true c25
    clear c25
    replace H:=ifp_ H;obtain ⟨c26,H⟩:=H
    have c26b0 : decide (x39_1 < (l1_0.length : Int)) = true:=decide_eq_true c26
    clear c26
    by_cases c27 : (rd l1_0 x39_1) < 0
    ·rw [if_pos c27] at H
     have c27b0 : decide ((rd l1_0 x39_1) < 0) = true:=decide_eq_true c27
     clear c27
     simp only [Option.some.injEq,Prod.mk.injEq] at H
     obtain ⟨rfl,rfl,rfl,rfl,rfl,rfl⟩:=H
     have p169 : 0 ≤ (x39_1 : Int):=of_decide_eq_true (by first|(with_reducible assumption)|assumption)
     have q169 : x39_1 < (l1_0.length : Int):=of_decide_eq_true (by first|(with_reducible assumption)|assumption)
     obtain ⟨ad169,e169,hx169_0⟩:=Kd.at_int HR1_0.out x39_1 p169 q169
     cases e169
     replace hx169_0:=(HB.out.cell (World.block_lt_of_cell? w _ hx169_0)).trans hx169_0
     replace p169:=eq_true p169
     replace q169:=eq_true q169
     have hnb28:=NB168_153.out
     have hnc28:=NB153_168.out
     have hnb29:=NB168_154.out
     have hnc29:=NB154_168.out
     have hnb30:=NB168_155.out
     have hnc30:=NB155_168.out
     obtain ⟨hcz31_0,hcz31_1,hcz31_2,hcz31_3,hcz31_4,hfz31_0,hfz31_1,hfz31_2,hfz31_3,hfz31_4⟩:=cells5 BK168.out
     have hnb32:=NB155_153.out
     have hnc32:=NB153_155.out
     have hnb33:=NB155_154.out
     have hnc33:=NB154_155.out
     obtain ⟨hcz34_0,hcz34_1,hcz34_2,hcz34_3,hcz34_4,hfz34_0,hfz34_1,hfz34_2,hfz34_3,hfz34_4⟩:=cells5 BK155.out
     go_wp2
     refine bodyPost_ret (results_ct rfl _ _ gb155 52 #[.int .i64 t156,.int .i64 t157,.slice Ao18 t158.length co18,.slice Ao19 t161.length co19,.slice Ao20 t164.length co20] (0,0) _ rfl (by (with_reducible repeat (first|refine blk_drewN ?_ _|refine blk_drew ?_|refine blk_alloc ?_ _));exact blk_puts5 (blk_up BK155.out)) Try.underlying52 rfl (by kernel_rfl)) rfl ?_
     exact ⟨_,_,_,by first|rfl|(simp [errW_none,errW_some] <;> rfl)|(simp [*,errW_none,errW_some] <;> rfl),by (with_reducible repeat (first|apply Kd.R_alloc|apply Kd.R_drewN|apply Kd.R_drew));exact Kd.R_mono (Kd.R_fars gb155 (Kd.R_types HO_169002.out BK155.out (by decide)) (fun _ hk => hk.2)) (fun _ hk => hk.1),by (with_reducible repeat (first|apply Kd.R_alloc|apply Kd.R_drewN|apply Kd.R_drew));exact Kd.R_mono (Kd.R_fars gb155 (Kd.R_types HO_169003.out BK155.out (by decide)) (fun _ hk => hk.2)) (fun _ hk => hk.1),by (with_reducible repeat (first|apply Kd.R_alloc|apply Kd.R_drewN|apply Kd.R_drew));exact Kd.R_mono (Kd.R_fars gb155 (Kd.R_types HO_169004.out BK155.out (by decide)) (fun _ hk => hk.2)) (fun _ hk => trivial),hb_⟩
    rw [if_neg c27] at H
    have c27b0 : decide ((rd l1_0 x39_1) < 0) = false:=decide_eq_false c27
    clear c27
    by_cases c35 : (rd l1_0 x39_1) > 3
    ·rw [if_pos c35] at H
     have c35b0 : decide (3 < (rd l1_0 x39_1)) = true:=decide_eq_true c35
     clear c35
     simp only [Option.some.injEq,Prod.mk.injEq] at H
     obtain ⟨rfl,rfl,rfl,rfl,rfl,rfl⟩:=H
     have p169 : 0 ≤ (x39_1 : Int):=of_decide_eq_true (by first|(with_reducible assumption)|assumption)
     have q169 : x39_1 < (l1_0.length : Int):=of_decide_eq_true (by first|(with_reducible assumption)|assumption)
     obtain ⟨ad169,e169,hx169_0⟩:=Kd.at_int HR1_0.out x39_1 p169 q169
     cases e169
     replace hx169_0:=(HB.out.cell (World.block_lt_of_cell? w _ hx169_0)).trans hx169_0
     replace p169:=eq_true p169
     replace q169:=eq_true q169
     have hnb36:=NB168_153.out
     have hnc36:=NB153_168.out
     have hnb37:=NB168_154.out
     have hnc37:=NB154_168.out
     have hnb38:=NB168_155.out
     have hnc38:=NB155_168.out
     obtain ⟨hcz39_0,hcz39_1,hcz39_2,hcz39_3,hcz39_4,hfz39_0,hfz39_1,hfz39_2,hfz39_3,hfz39_4⟩:=cells5 BK168.out
     have hnb40:=NB155_153.out
     have hnc40:=NB153_155.out
     have hnb41:=NB155_154.out
     have hnc41:=NB154_155.out
     obtain ⟨hcz42_0,hcz42_1,hcz42_2,hcz42_3,hcz42_4,hfz42_0,hfz42_1,hfz42_2,hfz42_3,hfz42_4⟩:=cells5 BK155.out
     go_wp2
     refine bodyPost_ret (results_ct rfl _ _ gb155 52 #[.int .i64 t156,.int .i64 t157,.slice Ao18 t158.length co18,.slice Ao19 t161.length co19,.slice Ao20 t164.length co20] (0,0) _ rfl (by (with_reducible repeat (first|refine blk_drewN ?_ _|refine blk_drew ?_|refine blk_alloc ?_ _));exact blk_puts5 (blk_up BK155.out)) Try.underlying52 rfl (by kernel_rfl)) rfl ?_
     exact ⟨_,_,_,by first|rfl|(simp [errW_none,errW_some] <;> rfl)|(simp [*,errW_none,errW_some] <;> rfl),by (with_reducible repeat (first|apply Kd.R_alloc|apply Kd.R_drewN|apply Kd.R_drew));exact Kd.R_mono (Kd.R_fars gb155 (Kd.R_types HO_169002.out BK155.out (by decide)) (fun _ hk => hk.2)) (fun _ hk => hk.1),by (with_reducible repeat (first|apply Kd.R_alloc|apply Kd.R_drewN|apply Kd.R_drew));exact Kd.R_mono (Kd.R_fars gb155 (Kd.R_types HO_169003.out BK155.out (by decide)) (fun _ hk => hk.2)) (fun _ hk => hk.1),by (with_reducible repeat (first|apply Kd.R_alloc|apply Kd.R_drewN|apply Kd.R_drew));exact Kd.R_mono (Kd.R_fars gb155 (Kd.R_types HO_169004.out BK155.out (by decide)) (fun _ hk => hk.2)) (fun _ hk => trivial),hb_⟩
    ·rw [if_neg c35] at H
     have c35b0 : decide (3 < (rd l1_0 x39_1)) = false:=decide_eq_false c35
     clear c35
     have H':=Aside0.mk H
     clear H
     have p169 : 0 ≤ (x39_1 : Int):=of_decide_eq_true (by first|(with_reducible assumption)|assumption)
     have q169 : x39_1 < (l1_0.length : Int):=of_decide_eq_true (by first|(with_reducible assumption)|assumption)
     obtain ⟨ad169,e169,hx169_0⟩:=Kd.at_int HR1_0.out x39_1 p169 q169
     cases e169
     replace hx169_0:=(HB.out.cell (World.block_lt_of_cell? w _ hx169_0)).trans hx169_0
     replace p169:=eq_true p169
     replace q169:=eq_true q169
     go_wp2
     go_roundg k1
     case measure => have:=HK1.out;omega
     case rel => exact ⟨(wrap64 (x39_1 + 1)),(x156000_1),(x156001_1),(by first|rfl|(simp;done)|(simp [*];done)),H',⟨by have:=HK1.out;omega⟩,⟨Kd.R_up HO_169002.out⟩,⟨Kd.R_up HO_169003.out⟩,⟨Kd.R_up HO_169004.out⟩,⟨blk_up BK153.out⟩,⟨blk_up BK154.out⟩,⟨blk_up BK155.out⟩,⟨blk_up BK168.out⟩,⟨hb_⟩⟩
   rw [if_neg c24] at H
   have c24b0 : decide (x39_1 < (l1_0.length : Int)) = false:=decide_eq_false c24
   clear c24
   have H':=Aside0.mk H
   clear H
   go_wp2
   go_loopg [10] k1 (fun kq v10 w' => ∃ (x10_2 : Int) (x156000_2 : Int) (x156001_2 : Int),v10 = .int .i64 x10_2 ∧ Aside0 (water_check.l1 kq x10_2 a0_0 a0_1 l0_2 l1_0 l1_1 t156 t157 t158 t161 t164 = some (r1,r2,r3,r4,r5,r6)) ∧ Aside0 (kq ≤ k1) ∧ Aside0 (Kd.R (Kd.int .i64) 3 w' w.heap.size (fun k_ => some k_ ≠ ((.slice Ao19 t161.length co19) : Value).ownBlock) (.slice Ao18 t158.length co18) t158) ∧ Aside0 (Kd.R (Kd.int .i64) 3 w' w.heap.size (fun k_ => some k_ ≠ ((.slice Ao18 t158.length co18) : Value).ownBlock) (.slice Ao19 t161.length co19) t161) ∧ Aside0 (Kd.R Kd.bool 4 w' w.heap.size (fun _ => True) (.slice Ao20 t164.length co20) t164) ∧ Aside0 (w'.heap[gb153]? = some (.cells #[.int .i64 a0_0,.int .i64 a0_1,(.slice A0_2 l0_2.length c0_2)] 24 (0,0))) ∧ Aside0 (w'.heap[gb154]? = some (.cells #[(.slice A1_0 l1_0.length c1_0),(.slice A1_1 l1_1.length c1_1)] 26 (0,0))) ∧ Aside0 (w'.heap[gb155]? = some (.cells #[.int .i64 x156000_2,.int .i64 x156001_2,(.slice none 0 0),(.slice none 0 0),(.slice none 0 0)] 52 (0,0))) ∧ Aside0 (w'.heap[gb168]? = some (.cells #[.int .i64 t156,.int .i64 t157,(.slice Ao18 t158.length co18),(.slice Ao19 t161.length co19),(.slice Ao20 t164.length co20)] 52 (0,0))) ∧ Aside0 (Below w.heap.size w w'))
   case atStart => exact ⟨(1),(x156000_1),(x156001_1),(by first|rfl|(simp;done)|(simp [*];done)),H',⟨Nat.le_refl _⟩,⟨Kd.R_up HO_169002.out⟩,⟨Kd.R_up HO_169003.out⟩,⟨Kd.R_up HO_169004.out⟩,⟨blk_up BK153.out⟩,⟨blk_up BK154.out⟩,⟨blk_up BK155.out⟩,⟨blk_up BK168.out⟩,⟨hb_⟩⟩
   case round =>
    clear H'
    obtain ⟨x10_2,x156000_2,x156001_2,rfl,HA,HK2,HO_169002,HO_169003,HO_169004,BK153,BK154,BK155,BK168,HB⟩:=hrel
    cases gk with
    | zero => exact absurd HA.out (by simp [water_check.l1])
    | succ k2 =>
     have H:=HA.out
     clear HA
     simp only [water_check.l1] at H
     by_cases c43 : x10_2 < (l1_1.length : Int)
     ·rw [if_pos c43] at H
      have c43b0 : decide (x10_2 < (l1_1.length : Int)) = true:=decide_eq_true c43
      clear c43
      replace H:=ifp_ H;obtain ⟨c44,H⟩:=H
      have c44b0 : decide (0 ≤ x10_2) = true:=decide_eq_true c44
      clear c44
      obtain ⟨ji45,hji45⟩ : ∃ j_ : Int,(wrap64 (x10_2 - 1)) = j_:=⟨_,rfl⟩
      replace H : (if 0 ≤ (ji45) then (if (ji45) < (l1_1.length : Int) then (if (rd l1_1 x10_2) ≤ (rd l1_1 (ji45)) then (some (t156,t157,t158,t161,t164,1)) else (water_check.l1 k2 (wrap64 (x10_2 + 1)) a0_0 a0_1 l0_2 l1_0 l1_1 t156 t157 t158 t161 t164)) else (none)) else (none)) = some (r1,r2,r3,r4,r5,r6):=by first|(rw [hji45] at H;exact H)|(simp only [hji45] at H ⊢;exact H)
      have hji45w : (IntKind.i64.wrap (x10_2 - 1)) = ji45:=(i64_w _).trans hji45
      replace H:=ifp_ H;obtain ⟨c46,H⟩:=H
      have c46b0 : decide (0 ≤ (ji45)) = true:=decide_eq_true c46
      clear c46
      replace H:=ifp_ H;obtain ⟨c47,H⟩:=H
      have c47b0 : decide ((ji45) < (l1_1.length : Int)) = true:=decide_eq_true c47
      clear c47
      by_cases c48 : (rd l1_1 x10_2) ≤ (rd l1_1 (ji45))
      ·rw [if_pos c48] at H
       have c48b0 : decide ((rd l1_1 x10_2) ≤ (rd l1_1 (ji45))) = true:=decide_eq_true c48
       clear c48
       simp only [Option.some.injEq,Prod.mk.injEq] at H
       obtain ⟨rfl,rfl,rfl,rfl,rfl,rfl⟩:=H
       have hnb49:=NB154_153.out
       have hnc49:=NB153_154.out
       have hnb50:=NB154_155.out
       have hnc50:=NB155_154.out
       have hnb51:=NB154_168.out
       have hnc51:=NB168_154.out
       obtain ⟨hcz52_0,hcz52_1,hfz52_0,hfz52_1⟩:=cells2 BK154.out
       have p170 : 0 ≤ (x10_2 : Int):=of_decide_eq_true (by first|(with_reducible assumption)|assumption)
       have q170 : x10_2 < (l1_1.length : Int):=of_decide_eq_true (by first|(with_reducible assumption)|assumption)
       obtain ⟨ad170,e170,hx170_0⟩:=Kd.at_int HR1_1.out x10_2 p170 q170
       cases e170
       replace hx170_0:=(HB.out.cell (World.block_lt_of_cell? w _ hx170_0)).trans hx170_0
       replace p170:=eq_true p170
       replace q170:=eq_true q170
       have p171 : 0 ≤ ((ji45) : Int):=of_decide_eq_true (by first|(with_reducible assumption)|assumption)
       have q171 : (ji45) < (l1_1.length : Int):=of_decide_eq_true (by first|(with_reducible assumption)|assumption)
       obtain ⟨ad171,e171,hx171_0⟩:=Kd.at_int HR1_1.out (ji45) p171 q171
       obtain rfl : ad170 = ad171:=(by injection e171)
       replace hx171_0:=(HB.out.cell (World.block_lt_of_cell? w _ hx171_0)).trans hx171_0
       replace p171:=eq_true p171
       replace q171:=eq_true q171
       have hnb53:=NB168_153.out
       have hnc53:=NB153_168.out
       have hnb54:=NB168_155.out
       have hnc54:=NB155_168.out
       obtain ⟨hcz55_0,hcz55_1,hcz55_2,hcz55_3,hcz55_4,hfz55_0,hfz55_1,hfz55_2,hfz55_3,hfz55_4⟩:=cells5 BK168.out
       have hnb56:=NB155_153.out
       have hnc56:=NB153_155.out
       obtain ⟨hcz57_0,hcz57_1,hcz57_2,hcz57_3,hcz57_4,hfz57_0,hfz57_1,hfz57_2,hfz57_3,hfz57_4⟩:=cells5 BK155.out
       go_wp2
       go_quiet (fail)
       go_wp2
       refine bodyPost_ret (results_ct rfl _ _ gb155 52 #[.int .i64 t156,.int .i64 t157,.slice Ao18 t158.length co18,.slice Ao19 t161.length co19,.slice Ao20 t164.length co20] (0,0) _ rfl (by (with_reducible repeat (first|refine blk_drewN ?_ _|refine blk_drew ?_|refine blk_alloc ?_ _));exact blk_puts5 (blk_up BK155.out)) Try.underlying52 rfl (by kernel_rfl)) rfl ?_
       exact ⟨_,_,_,by first|rfl|(simp [errW_none,errW_some] <;> rfl)|(simp only [← hji45];first|rfl|(simp [errW_none,errW_some] <;> rfl))|(simp [*,errW_none,errW_some] <;> rfl),by (with_reducible repeat (first|apply Kd.R_alloc|apply Kd.R_drewN|apply Kd.R_drew));exact Kd.R_mono (Kd.R_fars gb155 (Kd.R_types HO_169002.out BK155.out (by decide)) (fun _ hk => hk.2)) (fun _ hk => hk.1),by (with_reducible repeat (first|apply Kd.R_alloc|apply Kd.R_drewN|apply Kd.R_drew));exact Kd.R_mono (Kd.R_fars gb155 (Kd.R_types HO_169003.out BK155.out (by decide)) (fun _ hk => hk.2)) (fun _ hk => hk.1),by (with_reducible repeat (first|apply Kd.R_alloc|apply Kd.R_drewN|apply Kd.R_drew));exact Kd.R_mono (Kd.R_fars gb155 (Kd.R_types HO_169004.out BK155.out (by decide)) (fun _ hk => hk.2)) (fun _ hk => trivial),hb_⟩
      ·rw [if_neg c48] at H
       have c48b0 : decide ((rd l1_1 x10_2) ≤ (rd l1_1 (ji45))) = false:=decide_eq_false c48
       clear c48
       have H':=Aside0.mk H
       clear H
       have hnb58:=NB154_153.out
       have hnc58:=NB153_154.out
       have hnb59:=NB154_155.out
       have hnc59:=NB155_154.out
       have hnb60:=NB154_168.out
       have hnc60:=NB168_154.out
       obtain ⟨hcz61_0,hcz61_1,hfz61_0,hfz61_1⟩:=cells2 BK154.out
       have p170 : 0 ≤ (x10_2 : Int):=of_decide_eq_true (by first|(with_reducible assumption)|assumption)
       have q170 : x10_2 < (l1_1.length : Int):=of_decide_eq_true (by first|(with_reducible assumption)|assumption)
       obtain ⟨ad170,e170,hx170_0⟩:=Kd.at_int HR1_1.out x10_2 p170 q170
       cases e170
       replace hx170_0:=(HB.out.cell (World.block_lt_of_cell? w _ hx170_0)).trans hx170_0
       replace p170:=eq_true p170
       replace q170:=eq_true q170
       have p171 : 0 ≤ ((ji45) : Int):=of_decide_eq_true (by first|(with_reducible assumption)|assumption)
       have q171 : (ji45) < (l1_1.length : Int):=of_decide_eq_true (by first|(with_reducible assumption)|assumption)
       obtain ⟨ad171,e171,hx171_0⟩:=Kd.at_int HR1_1.out (ji45) p171 q171
       obtain rfl : ad170 = ad171:=(by injection e171)
       replace hx171_0:=(HB.out.cell (World.block_lt_of_cell? w _ hx171_0)).trans hx171_0
       replace p171:=eq_true p171
       replace q171:=eq_true q171
       go_wp2
       go_quiet (fail)
       go_wp2
       go_roundg k2
       case measure => have:=HK1.out;have:=HK2.out;omega
       case rel => exact ⟨(wrap64 (x10_2 + 1)),(x156000_2),(x156001_2),(by first|rfl|(simp;done)|(simp [*];done)),H',⟨by have:=HK1.out;have:=HK2.out;omega⟩,⟨Kd.R_up HO_169002.out⟩,⟨Kd.R_up HO_169003.out⟩,⟨Kd.R_up HO_169004.out⟩,⟨blk_up BK153.out⟩,⟨blk_up BK154.out⟩,⟨blk_up BK155.out⟩,⟨blk_up BK168.out⟩,⟨hb_⟩⟩
     rw [if_neg c43] at H
     have c43b0 : decide (x10_2 < (l1_1.length : Int)) = false:=decide_eq_false c43
     clear c43
     have H':=Aside0.mk H
     clear H
     have hnb62:=NB154_153.out
     have hnc62:=NB153_154.out
     have hnb63:=NB154_155.out
     have hnc63:=NB155_154.out
     have hnb64:=NB154_168.out
     have hnc64:=NB168_154.out
     obtain ⟨hcz65_0,hcz65_1,hfz65_0,hfz65_1⟩:=cells2 BK154.out
     go_wp2
     go_loopg [74] k2 (fun kq v74 w' => ∃ (x74_3 : Int) (x156000_3 : Int) (x156001_3 : Int),v74 = .int .i64 x74_3 ∧ Aside0 (water_check.l2 kq l1_1 (l1_1.length : Int) x74_3 a0_0 a0_1 l0_2 l1_0 l1_1 t156 t157 t158 t161 t164 = some (r1,r2,r3,r4,r5,r6)) ∧ Aside0 (kq ≤ k2) ∧ Aside0 (Kd.R (Kd.int .i64) 3 w' w.heap.size (fun k_ => some k_ ≠ ((.slice Ao19 t161.length co19) : Value).ownBlock) (.slice Ao18 t158.length co18) t158) ∧ Aside0 (Kd.R (Kd.int .i64) 3 w' w.heap.size (fun k_ => some k_ ≠ ((.slice Ao18 t158.length co18) : Value).ownBlock) (.slice Ao19 t161.length co19) t161) ∧ Aside0 (Kd.R Kd.bool 4 w' w.heap.size (fun _ => True) (.slice Ao20 t164.length co20) t164) ∧ Aside0 (w'.heap[gb153]? = some (.cells #[.int .i64 a0_0,.int .i64 a0_1,(.slice A0_2 l0_2.length c0_2)] 24 (0,0))) ∧ Aside0 (w'.heap[gb154]? = some (.cells #[(.slice A1_0 l1_0.length c1_0),(.slice A1_1 l1_1.length c1_1)] 26 (0,0))) ∧ Aside0 (w'.heap[gb155]? = some (.cells #[.int .i64 x156000_3,.int .i64 x156001_3,(.slice none 0 0),(.slice none 0 0),(.slice none 0 0)] 52 (0,0))) ∧ Aside0 (w'.heap[gb168]? = some (.cells #[.int .i64 t156,.int .i64 t157,(.slice Ao18 t158.length co18),(.slice Ao19 t161.length co19),(.slice Ao20 t164.length co20)] 52 (0,0))) ∧ Aside0 (Below w.heap.size w w'))
     case atStart => exact ⟨(0),(x156000_2),(x156001_2),(by first|rfl|(simp;done)|(simp [*];done)),H',⟨Nat.le_refl _⟩,⟨Kd.R_up HO_169002.out⟩,⟨Kd.R_up HO_169003.out⟩,⟨Kd.R_up HO_169004.out⟩,⟨blk_up BK153.out⟩,⟨blk_up BK154.out⟩,⟨blk_up BK155.out⟩,⟨blk_up BK168.out⟩,⟨hb_⟩⟩
     case round =>
      clear H'
      obtain ⟨x74_3,x156000_3,x156001_3,rfl,HA,HK3,HO_169002,HO_169003,HO_169004,BK153,BK154,BK155,BK168,HB⟩:=hrel
      cases gk with
      | zero => exact absurd HA.out (by simp [water_check.l2])
      | succ k3 =>
       have H:=HA.out
       clear HA
       simp only [water_check.l2] at H
       by_cases c66 : x74_3 < (l1_1.length : Int)
       ·rw [if_pos c66] at H
        have c66b0 : decide (x74_3 < (l1_1.length : Int)) = true:=decide_eq_true c66
        clear c66
        replace H:=ifp_ H;obtain ⟨c67,H⟩:=H
        have c67b0 : decide (0 ≤ x74_3) = true:=decide_eq_true c67
        clear c67
        replace H:=ifp_ H;obtain ⟨c68,H⟩:=H
        have c68b0 : decide (x74_3 < (l1_1.length : Int)) = true:=decide_eq_true c68
        clear c68
        by_cases c69 : (rd l1_1 x74_3) < 0
        ·rw [if_pos c69] at H
         have c69b0 : decide ((rd l1_1 x74_3) < 0) = true:=decide_eq_true c69
         clear c69
         simp only [Option.some.injEq,Prod.mk.injEq] at H
         obtain ⟨rfl,rfl,rfl,rfl,rfl,rfl⟩:=H
         have p172 : 0 ≤ (x74_3 : Int):=of_decide_eq_true (by first|(with_reducible assumption)|assumption)
         have q172 : x74_3 < (l1_1.length : Int):=of_decide_eq_true (by first|(with_reducible assumption)|assumption)
         obtain ⟨ad172,e172,hx172_0⟩:=Kd.at_int HR1_1.out x74_3 p172 q172
         cases e172
         replace hx172_0:=(HB.out.cell (World.block_lt_of_cell? w _ hx172_0)).trans hx172_0
         replace p172:=eq_true p172
         replace q172:=eq_true q172
         have hnb70:=NB168_153.out
         have hnc70:=NB153_168.out
         have hnb71:=NB168_154.out
         have hnc71:=NB154_168.out
         have hnb72:=NB168_155.out
         have hnc72:=NB155_168.out
         obtain ⟨hcz73_0,hcz73_1,hcz73_2,hcz73_3,hcz73_4,hfz73_0,hfz73_1,hfz73_2,hfz73_3,hfz73_4⟩:=cells5 BK168.out
         have hnb74:=NB155_153.out
         have hnc74:=NB153_155.out
         have hnb75:=NB155_154.out
         have hnc75:=NB154_155.out
         obtain ⟨hcz76_0,hcz76_1,hcz76_2,hcz76_3,hcz76_4,hfz76_0,hfz76_1,hfz76_2,hfz76_3,hfz76_4⟩:=cells5 BK155.out
         go_wp2
         refine bodyPost_ret (results_ct rfl _ _ gb155 52 #[.int .i64 t156,.int .i64 t157,.slice Ao18 t158.length co18,.slice Ao19 t161.length co19,.slice Ao20 t164.length co20] (0,0) _ rfl (by (with_reducible repeat (first|refine blk_drewN ?_ _|refine blk_drew ?_|refine blk_alloc ?_ _));exact blk_puts5 (blk_up BK155.out)) Try.underlying52 rfl (by kernel_rfl)) rfl ?_
         exact ⟨_,_,_,by first|rfl|(simp [errW_none,errW_some] <;> rfl)|(simp [*,errW_none,errW_some] <;> rfl),by (with_reducible repeat (first|apply Kd.R_alloc|apply Kd.R_drewN|apply Kd.R_drew));exact Kd.R_mono (Kd.R_fars gb155 (Kd.R_types HO_169002.out BK155.out (by decide)) (fun _ hk => hk.2)) (fun _ hk => hk.1),by (with_reducible repeat (first|apply Kd.R_alloc|apply Kd.R_drewN|apply Kd.R_drew));exact Kd.R_mono (Kd.R_fars gb155 (Kd.R_types HO_169003.out BK155.out (by decide)) (fun _ hk => hk.2)) (fun _ hk => hk.1),by (with_reducible repeat (first|apply Kd.R_alloc|apply Kd.R_drewN|apply Kd.R_drew));exact Kd.R_mono (Kd.R_fars gb155 (Kd.R_types HO_169004.out BK155.out (by decide)) (fun _ hk => hk.2)) (fun _ hk => trivial),hb_⟩
        rw [if_neg c69] at H
        have c69b0 : decide ((rd l1_1 x74_3) < 0) = false:=decide_eq_false c69
        clear c69
        by_cases c77 : (rd l1_1 x74_3) ≥ (wrap64 (a0_0 * a0_1))
        ·rw [if_pos c77] at H
         have c77b0 : decide ((wrap64 (a0_0 * a0_1)) ≤ (rd l1_1 x74_3)) = true:=decide_eq_true c77
         clear c77
         simp only [Option.some.injEq,Prod.mk.injEq] at H
         obtain ⟨rfl,rfl,rfl,rfl,rfl,rfl⟩:=H
         have p172 : 0 ≤ (x74_3 : Int):=of_decide_eq_true (by first|(with_reducible assumption)|assumption)
         have q172 : x74_3 < (l1_1.length : Int):=of_decide_eq_true (by first|(with_reducible assumption)|assumption)
         obtain ⟨ad172,e172,hx172_0⟩:=Kd.at_int HR1_1.out x74_3 p172 q172
         cases e172
         replace hx172_0:=(HB.out.cell (World.block_lt_of_cell? w _ hx172_0)).trans hx172_0
         replace p172:=eq_true p172
         replace q172:=eq_true q172
         have hnb78:=NB153_154.out
         have hnc78:=NB154_153.out
         have hnb79:=NB153_155.out
         have hnc79:=NB155_153.out
         have hnb80:=NB153_168.out
         have hnc80:=NB168_153.out
         obtain ⟨hcz81_0,hcz81_1,hcz81_2,hfz81_0,hfz81_1,hfz81_2⟩:=cells3 BK153.out
         have hnb82:=NB168_154.out
         have hnc82:=NB154_168.out
         have hnb83:=NB168_155.out
         have hnc83:=NB155_168.out
         obtain ⟨hcz84_0,hcz84_1,hcz84_2,hcz84_3,hcz84_4,hfz84_0,hfz84_1,hfz84_2,hfz84_3,hfz84_4⟩:=cells5 BK168.out
         have hnb85:=NB155_154.out
         have hnc85:=NB154_155.out
         obtain ⟨hcz86_0,hcz86_1,hcz86_2,hcz86_3,hcz86_4,hfz86_0,hfz86_1,hfz86_2,hfz86_3,hfz86_4⟩:=cells5 BK155.out
         go_wp2
         refine bodyPost_ret (results_ct rfl _ _ gb155 52 #[.int .i64 t156,.int .i64 t157,.slice Ao18 t158.length co18,.slice Ao19 t161.length co19,.slice Ao20 t164.length co20] (0,0) _ rfl (by (with_reducible repeat (first|refine blk_drewN ?_ _|refine blk_drew ?_|refine blk_alloc ?_ _));exact blk_puts5 (blk_up BK155.out)) Try.underlying52 rfl (by kernel_rfl)) rfl ?_
         exact ⟨_,_,_,by first|rfl|(simp [errW_none,errW_some] <;> rfl)|(simp [*,errW_none,errW_some] <;> rfl),by (with_reducible repeat (first|apply Kd.R_alloc|apply Kd.R_drewN|apply Kd.R_drew));exact Kd.R_mono (Kd.R_fars gb155 (Kd.R_types HO_169002.out BK155.out (by decide)) (fun _ hk => hk.2)) (fun _ hk => hk.1),by (with_reducible repeat (first|apply Kd.R_alloc|apply Kd.R_drewN|apply Kd.R_drew));exact Kd.R_mono (Kd.R_fars gb155 (Kd.R_types HO_169003.out BK155.out (by decide)) (fun _ hk => hk.2)) (fun _ hk => hk.1),by (with_reducible repeat (first|apply Kd.R_alloc|apply Kd.R_drewN|apply Kd.R_drew));exact Kd.R_mono (Kd.R_fars gb155 (Kd.R_types HO_169004.out BK155.out (by decide)) (fun _ hk => hk.2)) (fun _ hk => trivial),hb_⟩
        ·rw [if_neg c77] at H
         have c77b0 : decide ((wrap64 (a0_0 * a0_1)) ≤ (rd l1_1 x74_3)) = false:=decide_eq_false c77
         clear c77
         have H':=Aside0.mk H
         clear H
         have p172 : 0 ≤ (x74_3 : Int):=of_decide_eq_true (by first|(with_reducible assumption)|assumption)
         have q172 : x74_3 < (l1_1.length : Int):=of_decide_eq_true (by first|(with_reducible assumption)|assumption)
         obtain ⟨ad172,e172,hx172_0⟩:=Kd.at_int HR1_1.out x74_3 p172 q172
         cases e172
         replace hx172_0:=(HB.out.cell (World.block_lt_of_cell? w _ hx172_0)).trans hx172_0
         replace p172:=eq_true p172
         replace q172:=eq_true q172
         have hnb87:=NB153_154.out
         have hnc87:=NB154_153.out
         have hnb88:=NB153_155.out
         have hnc88:=NB155_153.out
         have hnb89:=NB153_168.out
         have hnc89:=NB168_153.out
         obtain ⟨hcz90_0,hcz90_1,hcz90_2,hfz90_0,hfz90_1,hfz90_2⟩:=cells3 BK153.out
         go_wp2
         go_roundg k3
         case measure => have:=HK1.out;have:=HK2.out;have:=HK3.out;omega
         case rel => exact ⟨(wrap64 (x74_3 + 1)),(x156000_3),(x156001_3),(by first|rfl|(simp;done)|(simp [*];done)),H',⟨by have:=HK1.out;have:=HK2.out;have:=HK3.out;omega⟩,⟨Kd.R_up HO_169002.out⟩,⟨Kd.R_up HO_169003.out⟩,⟨Kd.R_up HO_169004.out⟩,⟨blk_up BK153.out⟩,⟨blk_up BK154.out⟩,⟨blk_up BK155.out⟩,⟨blk_up BK168.out⟩,⟨hb_⟩⟩
       rw [if_neg c66] at H
       have c66b0 : decide (x74_3 < (l1_1.length : Int)) = false:=decide_eq_false c66
       clear c66
       have H':=Aside0.mk H
       clear H
       have hnb91:=NB154_153.out
       have hnc91:=NB153_154.out
       have hnb92:=NB154_155.out
       have hnc92:=NB155_154.out
       have hnb93:=NB154_168.out
       have hnc93:=NB168_154.out
       obtain ⟨hcz94_0,hcz94_1,hfz94_0,hfz94_1⟩:=cells2 BK154.out
       go_wp2
       go_loopg [94] k3 (fun kq v94 w' => ∃ (x94_4 : Int) (x156000_4 : Int) (x156001_4 : Int),v94 = .int .i64 x94_4 ∧ Aside0 (water_check.l3 kq l1_0 (l1_0.length : Int) x94_4 l1_0 l1_1 t156 t157 t158 t161 t164 = some (r1,r2,r3,r4,r5,r6)) ∧ Aside0 (kq ≤ k3) ∧ Aside0 (Kd.R (Kd.int .i64) 3 w' w.heap.size (fun k_ => some k_ ≠ ((.slice Ao19 t161.length co19) : Value).ownBlock) (.slice Ao18 t158.length co18) t158) ∧ Aside0 (Kd.R (Kd.int .i64) 3 w' w.heap.size (fun k_ => some k_ ≠ ((.slice Ao18 t158.length co18) : Value).ownBlock) (.slice Ao19 t161.length co19) t161) ∧ Aside0 (Kd.R Kd.bool 4 w' w.heap.size (fun _ => True) (.slice Ao20 t164.length co20) t164) ∧ Aside0 (w'.heap[gb153]? = some (.cells #[.int .i64 a0_0,.int .i64 a0_1,(.slice A0_2 l0_2.length c0_2)] 24 (0,0))) ∧ Aside0 (w'.heap[gb154]? = some (.cells #[(.slice A1_0 l1_0.length c1_0),(.slice A1_1 l1_1.length c1_1)] 26 (0,0))) ∧ Aside0 (w'.heap[gb155]? = some (.cells #[.int .i64 x156000_4,.int .i64 x156001_4,(.slice none 0 0),(.slice none 0 0),(.slice none 0 0)] 52 (0,0))) ∧ Aside0 (w'.heap[gb168]? = some (.cells #[.int .i64 t156,.int .i64 t157,(.slice Ao18 t158.length co18),(.slice Ao19 t161.length co19),(.slice Ao20 t164.length co20)] 52 (0,0))) ∧ Aside0 (Below w.heap.size w w'))
       case atStart => exact ⟨(0),(x156000_3),(x156001_3),(by first|rfl|(simp;done)|(simp [*];done)),H',⟨Nat.le_refl _⟩,⟨Kd.R_up HO_169002.out⟩,⟨Kd.R_up HO_169003.out⟩,⟨Kd.R_up HO_169004.out⟩,⟨blk_up BK153.out⟩,⟨blk_up BK154.out⟩,⟨blk_up BK155.out⟩,⟨blk_up BK168.out⟩,⟨hb_⟩⟩
       case round =>
        clear H'
        obtain ⟨x94_4,x156000_4,x156001_4,rfl,HA,HK4,HO_169002,HO_169003,HO_169004,BK153,BK154,BK155,BK168,HB⟩:=hrel
        cases gk with
        | zero => exact absurd HA.out (by simp [water_check.l3])
        | succ k4 =>
         have H:=HA.out
         clear HA
         simp only [water_check.l3] at H
         by_cases c95 : x94_4 < (l1_0.length : Int)
         ·rw [if_pos c95] at H
          have c95b0 : decide (x94_4 < (l1_0.length : Int)) = true:=decide_eq_true c95
          clear c95
          replace H:=ifp_ H;obtain ⟨c96,H⟩:=H
          have c96b0 : decide (0 ≤ x94_4) = true:=decide_eq_true c96
          clear c96
          replace H:=ifp_ H;obtain ⟨c97,H⟩:=H
          have c97b0 : decide (x94_4 < (l1_0.length : Int)) = true:=decide_eq_true c97
          clear c97
          replace H:=Option.bind_eq_some_iff.mp H
          obtain ⟨t174,A980,H⟩:=H
          replace H : (if t174 = 0 then (water_check.l3 k4 l1_0 (l1_0.length : Int) (wrap64 (x94_4 + 1)) l1_0 l1_1 t156 t157 t158 t161 t164) else (some (t156,t157,t158,t161,t164,9))) = some (r1,r2,r3,r4,r5,r6):=H
          have A98:=Aside0.mk A980
          clear A980
          by_cases c99 : t174 = 0
          ·rw [if_pos c99] at H
           have c99b0 : (t174 == 0) = true:=beq_iff_eq.mpr c99
           have c99b1 : (t174 != 0) = false:=bne_eq_false_iff_eq.mpr c99
           clear c99
           have H':=Aside0.mk H
           clear H
           have p173 : 0 ≤ (x94_4 : Int):=of_decide_eq_true (by first|(with_reducible assumption)|assumption)
           have q173 : x94_4 < (l1_0.length : Int):=of_decide_eq_true (by first|(with_reducible assumption)|assumption)
           obtain ⟨ad173,e173,hx173_0⟩:=Kd.at_int HR1_0.out x94_4 p173 q173
           cases e173
           replace hx173_0:=(HB.out.cell (World.block_lt_of_cell? w _ hx173_0)).trans hx173_0
           replace p173:=eq_true p173
           replace q173:=eq_true q173
           have hnb100:=NB168_153.out
           have hnc100:=NB153_168.out
           have hnb101:=NB168_154.out
           have hnc101:=NB154_168.out
           have hnb102:=NB168_155.out
           have hnc102:=NB155_168.out
           obtain ⟨hcz103_0,hcz103_1,hcz103_2,hcz103_3,hcz103_4,hfz103_0,hfz103_1,hfz103_2,hfz103_3,hfz103_4⟩:=cells5 BK168.out
           go_wp2_with (first|(go_at_call 52;(with_reducible refine (water_ground_may.calls k4 t156 t157 _ _ t158 _ _ t161 _ _ t164 x94_4 (rd l1_0 x94_4) t174 _ ?side1 ?side2 ?side3 ?side4 ?side5 ?side6 A98.out).mono ?_);(case side1 => exact Kd.C_up (Kd.R_reads' HO_169002.out).2.2);(case side2 => exact (Kd.R_reads' HO_169002.out).2.1);(case side3 => exact Kd.C_up (Kd.R_reads' HO_169003.out).2.2);(case side4 => exact (Kd.R_reads' HO_169003.out).2.1);(case side5 => exact Kd.C_up (Kd.R_reads' HO_169004.out).2.2);(case side6 => exact (Kd.R_reads' HO_169004.out).2.1);rintro e w104 ⟨rfl,hb⟩;replace HO_169002:=rbw HO_169002 hb;replace HO_169003:=rbw HO_169003 hb;replace HO_169004:=rbw HO_169004 hb;replace BK153:=bkb BK153 hb;replace BK154:=bkb BK154 hb;replace BK155:=bkb BK155 hb;replace BK168:=bkb BK168 hb;replace HB:=Aside0.mk (below_step (hb_) hb)))
           go_roundg k4
           case measure => have:=HK1.out;have:=HK2.out;have:=HK3.out;have:=HK4.out;omega
           case rel => exact ⟨(wrap64 (x94_4 + 1)),(x156000_4),(x156001_4),(by first|rfl|(simp;done)|(simp [*];done)),H',⟨by have:=HK1.out;have:=HK2.out;have:=HK3.out;have:=HK4.out;omega⟩,⟨Kd.R_up HO_169002.out⟩,⟨Kd.R_up HO_169003.out⟩,⟨Kd.R_up HO_169004.out⟩,⟨blk_up BK153.out⟩,⟨blk_up BK154.out⟩,⟨blk_up BK155.out⟩,⟨blk_up BK168.out⟩,⟨hb_⟩⟩
          ·rw [if_neg c99] at H
           have c99b0 : (t174 == 0) = false:=beq_eq_false_iff_ne.mpr c99
           have c99b1 : (t174 != 0) = true:=bne_iff_ne.mpr c99
           simp only [Option.some.injEq,Prod.mk.injEq] at H
           obtain ⟨rfl,rfl,rfl,rfl,rfl,rfl⟩:=H
           have p173 : 0 ≤ (x94_4 : Int):=of_decide_eq_true (by first|(with_reducible assumption)|assumption)
           have q173 : x94_4 < (l1_0.length : Int):=of_decide_eq_true (by first|(with_reducible assumption)|assumption)
           obtain ⟨ad173,e173,hx173_0⟩:=Kd.at_int HR1_0.out x94_4 p173 q173
           cases e173
           replace hx173_0:=(HB.out.cell (World.block_lt_of_cell? w _ hx173_0)).trans hx173_0
           replace p173:=eq_true p173
           replace q173:=eq_true q173
           have hnb105:=NB168_153.out
           have hnc105:=NB153_168.out
           have hnb106:=NB168_154.out
           have hnc106:=NB154_168.out
           have hnb107:=NB168_155.out
           have hnc107:=NB155_168.out
           obtain ⟨hcz108_0,hcz108_1,hcz108_2,hcz108_3,hcz108_4,hfz108_0,hfz108_1,hfz108_2,hfz108_3,hfz108_4⟩:=cells5 BK168.out
           go_wp2_with (first|(go_at_call 52;(with_reducible refine (water_ground_may.calls k4 t156 t157 _ _ t158 _ _ t161 _ _ t164 x94_4 (rd l1_0 x94_4) t174 _ ?side1 ?side2 ?side3 ?side4 ?side5 ?side6 A98.out).mono ?_);(case side1 => exact Kd.C_up (Kd.R_reads' HO_169002.out).2.2);(case side2 => exact (Kd.R_reads' HO_169002.out).2.1);(case side3 => exact Kd.C_up (Kd.R_reads' HO_169003.out).2.2);(case side4 => exact (Kd.R_reads' HO_169003.out).2.1);(case side5 => exact Kd.C_up (Kd.R_reads' HO_169004.out).2.2);(case side6 => exact (Kd.R_reads' HO_169004.out).2.1);rintro e w109 ⟨rfl,hb⟩;replace HO_169002:=rbw HO_169002 hb;replace HO_169003:=rbw HO_169003 hb;replace HO_169004:=rbw HO_169004 hb;replace BK153:=bkb BK153 hb;replace BK154:=bkb BK154 hb;replace BK155:=bkb BK155 hb;replace BK168:=bkb BK168 hb;replace HB:=Aside0.mk (below_step (hb_) hb);obtain ⟨hcz110_0,hcz110_1,hcz110_2,hcz110_3,hcz110_4,hfz110_0,hfz110_1,hfz110_2,hfz110_3,hfz110_4⟩:=cells5 BK168.out;have hnb111:=NB155_153.out;have hnc111:=NB153_155.out;have hnb112:=NB155_154.out;have hnc112:=NB154_155.out;obtain ⟨hcz113_0,hcz113_1,hcz113_2,hcz113_3,hcz113_4,hfz113_0,hfz113_1,hfz113_2,hfz113_3,hfz113_4⟩:=cells5 BK155.out))
           refine bodyPost_ret (results_ct rfl _ _ gb155 52 #[.int .i64 t156,.int .i64 t157,.slice Ao18 t158.length co18,.slice Ao19 t161.length co19,.slice Ao20 t164.length co20] (0,0) _ rfl (by (with_reducible repeat (first|refine blk_drewN ?_ _|refine blk_drew ?_|refine blk_alloc ?_ _));exact blk_puts5 (blk_up BK155.out)) Try.underlying52 rfl (by kernel_rfl)) rfl ?_
           exact ⟨_,_,_,by first|rfl|(simp [errW_none,errW_some] <;> rfl)|(simp [*,errW_none,errW_some] <;> rfl),by (with_reducible repeat (first|apply Kd.R_alloc|apply Kd.R_drewN|apply Kd.R_drew));exact Kd.R_mono (Kd.R_fars gb155 (Kd.R_types HO_169002.out BK155.out (by decide)) (fun _ hk => hk.2)) (fun _ hk => hk.1),by (with_reducible repeat (first|apply Kd.R_alloc|apply Kd.R_drewN|apply Kd.R_drew));exact Kd.R_mono (Kd.R_fars gb155 (Kd.R_types HO_169003.out BK155.out (by decide)) (fun _ hk => hk.2)) (fun _ hk => hk.1),by (with_reducible repeat (first|apply Kd.R_alloc|apply Kd.R_drewN|apply Kd.R_drew));exact Kd.R_mono (Kd.R_fars gb155 (Kd.R_types HO_169004.out BK155.out (by decide)) (fun _ hk => hk.2)) (fun _ hk => trivial),hb_⟩
         rw [if_neg c95] at H
         have c95b0 : decide (x94_4 < (l1_0.length : Int)) = false:=decide_eq_false c95
         clear c95
         have H':=Aside0.mk H
         clear H
         have hnb114:=NB154_153.out
         have hnc114:=NB153_154.out
         have hnb115:=NB154_155.out
         have hnc115:=NB155_154.out
         have hnb116:=NB154_168.out
         have hnc116:=NB168_154.out
         obtain ⟨hcz117_0,hcz117_1,hfz117_0,hfz117_1⟩:=cells2 BK154.out
         go_wp2
         go_loopg [109] k4 (fun kq v109 w' => ∃ (x109_5 : Int) (x156000_5 : Int) (x156001_5 : Int),v109 = .int .i64 x109_5 ∧ Aside0 (water_check.l4 kq l1_1 (l1_1.length : Int) x109_5 l1_0 l1_1 t156 t157 t158 t161 t164 = some (r1,r2,r3,r4,r5,r6)) ∧ Aside0 (kq ≤ k4) ∧ Aside0 (Kd.R (Kd.int .i64) 3 w' w.heap.size (fun k_ => some k_ ≠ ((.slice Ao19 t161.length co19) : Value).ownBlock) (.slice Ao18 t158.length co18) t158) ∧ Aside0 (Kd.R (Kd.int .i64) 3 w' w.heap.size (fun k_ => some k_ ≠ ((.slice Ao18 t158.length co18) : Value).ownBlock) (.slice Ao19 t161.length co19) t161) ∧ Aside0 (Kd.R Kd.bool 4 w' w.heap.size (fun _ => True) (.slice Ao20 t164.length co20) t164) ∧ Aside0 (w'.heap[gb153]? = some (.cells #[.int .i64 a0_0,.int .i64 a0_1,(.slice A0_2 l0_2.length c0_2)] 24 (0,0))) ∧ Aside0 (w'.heap[gb154]? = some (.cells #[(.slice A1_0 l1_0.length c1_0),(.slice A1_1 l1_1.length c1_1)] 26 (0,0))) ∧ Aside0 (w'.heap[gb155]? = some (.cells #[.int .i64 x156000_5,.int .i64 x156001_5,(.slice none 0 0),(.slice none 0 0),(.slice none 0 0)] 52 (0,0))) ∧ Aside0 (w'.heap[gb168]? = some (.cells #[.int .i64 t156,.int .i64 t157,(.slice Ao18 t158.length co18),(.slice Ao19 t161.length co19),(.slice Ao20 t164.length co20)] 52 (0,0))) ∧ Aside0 (Below w.heap.size w w'))
         case atStart => exact ⟨(0),(x156000_4),(x156001_4),(by first|rfl|(simp;done)|(simp [*];done)),H',⟨Nat.le_refl _⟩,⟨Kd.R_up HO_169002.out⟩,⟨Kd.R_up HO_169003.out⟩,⟨Kd.R_up HO_169004.out⟩,⟨blk_up BK153.out⟩,⟨blk_up BK154.out⟩,⟨blk_up BK155.out⟩,⟨blk_up BK168.out⟩,⟨hb_⟩⟩
         case round =>
          clear H'
          obtain ⟨x109_5,x156000_5,x156001_5,rfl,HA,HK5,HO_169002,HO_169003,HO_169004,BK153,BK154,BK155,BK168,HB⟩:=hrel
          cases gk with
          | zero => exact absurd HA.out (by simp [water_check.l4])
          | succ k5 =>
           have H:=HA.out
           clear HA
           simp only [water_check.l4] at H
           by_cases c118 : x109_5 < (l1_1.length : Int)
           rotate_left
           ·rw [if_neg c118] at H
            have c118b0 : decide (x109_5 < (l1_1.length : Int)) = false:=decide_eq_false c118
            clear c118
            simp only [Option.some.injEq,Prod.mk.injEq] at H
            obtain ⟨rfl,rfl,rfl,rfl,rfl,rfl⟩:=H
            have hnb142:=NB168_153.out
            have hnc142:=NB153_168.out
            have hnb143:=NB168_154.out
            have hnc143:=NB154_168.out
            have hnb144:=NB168_155.out
            have hnc144:=NB155_168.out
            obtain ⟨hcz145_0,hcz145_1,hcz145_2,hcz145_3,hcz145_4,hfz145_0,hfz145_1,hfz145_2,hfz145_3,hfz145_4⟩:=cells5 BK168.out
            have hnb146:=NB155_153.out
            have hnc146:=NB153_155.out
            have hnb147:=NB155_154.out
            have hnc147:=NB154_155.out
            obtain ⟨hcz148_0,hcz148_1,hcz148_2,hcz148_3,hcz148_4,hfz148_0,hfz148_1,hfz148_2,hfz148_3,hfz148_4⟩:=cells5 BK155.out
            go_wp2
            refine bodyPost_ret (results_ct rfl _ _ gb155 52 #[.int .i64 t156,.int .i64 t157,.slice Ao18 t158.length co18,.slice Ao19 t161.length co19,.slice Ao20 t164.length co20] (0,0) _ rfl (by (with_reducible repeat (first|refine blk_drewN ?_ _|refine blk_drew ?_|refine blk_alloc ?_ _));exact blk_puts5 (blk_up BK155.out)) Try.underlying52 rfl (by kernel_rfl)) rfl ?_
            exact ⟨_,_,_,by first|rfl|(simp [errW_none,errW_some] <;> rfl)|(simp [*,errW_none,errW_some] <;> rfl),by (with_reducible repeat (first|apply Kd.R_alloc|apply Kd.R_drewN|apply Kd.R_drew));exact Kd.R_mono (Kd.R_fars gb155 (Kd.R_types HO_169002.out BK155.out (by decide)) (fun _ hk => hk.2)) (fun _ hk => hk.1),by (with_reducible repeat (first|apply Kd.R_alloc|apply Kd.R_drewN|apply Kd.R_drew));exact Kd.R_mono (Kd.R_fars gb155 (Kd.R_types HO_169003.out BK155.out (by decide)) (fun _ hk => hk.2)) (fun _ hk => hk.1),by (with_reducible repeat (first|apply Kd.R_alloc|apply Kd.R_drewN|apply Kd.R_drew));exact Kd.R_mono (Kd.R_fars gb155 (Kd.R_types HO_169004.out BK155.out (by decide)) (fun _ hk => hk.2)) (fun _ hk => trivial),hb_⟩
           rw [if_pos c118] at H
           have c118b0 : decide (x109_5 < (l1_1.length : Int)) = true:=decide_eq_true c118
           clear c118
           replace H:=ifp_ H;obtain ⟨c119,H⟩:=H
           have c119b0 : decide (0 ≤ x109_5) = true:=decide_eq_true c119
           clear c119
           replace H:=ifp_ H;obtain ⟨c120,H⟩:=H
           have c120b0 : decide (x109_5 < (l1_1.length : Int)) = true:=decide_eq_true c120
           clear c120
           replace H:=Option.bind_eq_some_iff.mp H
           obtain ⟨t176,A1210,H⟩:=H
           replace H : (if t176 = true then (water_check.l4 k5 l1_1 (l1_1.length : Int) (wrap64 (x109_5 + 1)) l1_0 l1_1 t156 t157 t158 t161 t164) else (some (t156,t157,t158,t161,t164,9))) = some (r1,r2,r3,r4,r5,r6):=H
           have A121:=Aside0.mk A1210
           clear A1210
           by_cases c122 : t176 = true
           ·subst c122
            have H1 : (water_check.l4 k5 l1_1 (l1_1.length : Int) (wrap64 (x109_5 + 1)) l1_0 l1_1 t156 t157 t158 t161 t164) = some (r1,r2,r3,r4,r5,r6):=by rw [if_pos rfl] at H;exact H
            clear H
            have H:=H1
            clear H1
            have H':=Aside0.mk H
            clear H
            have p175 : 0 ≤ (x109_5 : Int):=of_decide_eq_true (by first|(with_reducible assumption)|assumption)
            have q175 : x109_5 < (l1_1.length : Int):=of_decide_eq_true (by first|(with_reducible assumption)|assumption)
            obtain ⟨ad175,e175,hx175_0⟩:=Kd.at_int HR1_1.out x109_5 p175 q175
            cases e175
            replace hx175_0:=(HB.out.cell (World.block_lt_of_cell? w _ hx175_0)).trans hx175_0
            replace p175:=eq_true p175
            replace q175:=eq_true q175
            have hnb123:=NB168_153.out
            have hnc123:=NB153_168.out
            have hnb124:=NB168_154.out
            have hnc124:=NB154_168.out
            have hnb125:=NB168_155.out
            have hnc125:=NB155_168.out
            obtain ⟨hcz126_0,hcz126_1,hcz126_2,hcz126_3,hcz126_4,hfz126_0,hfz126_1,hfz126_2,hfz126_3,hfz126_4⟩:=cells5 BK168.out
            have hnb127:=NB154_153.out
            have hnc127:=NB153_154.out
            have hnb128:=NB154_155.out
            have hnc128:=NB155_154.out
            obtain ⟨hcz129_0,hcz129_1,hfz129_0,hfz129_1⟩:=cells2 BK154.out
            go_wp2_with (first|(go_at_call 45;(with_reducible refine (water_ground_wet.calls t156 t157 _ _ t158 _ _ t161 _ _ t164 _ _ l1_0 _ _ l1_1 (rd l1_1 x109_5) true _ ?side1 ?side2 ?side3 ?side4 ?side5 ?side6 ?side7 ?side8 ?side9 ?side10 A121.out).mono ?_);(case side1 => exact Kd.C_up (Kd.R_reads' HO_169002.out).2.2);(case side2 => exact (Kd.R_reads' HO_169002.out).2.1);(case side3 => exact Kd.C_up (Kd.R_reads' HO_169003.out).2.2);(case side4 => exact (Kd.R_reads' HO_169003.out).2.1);(case side5 => exact Kd.C_up (Kd.R_reads' HO_169004.out).2.2);(case side6 => exact (Kd.R_reads' HO_169004.out).2.1);(case side7 => exact Kd.C_up (Kd.C_below HR1_0.out HB.out));(case side8 => exact HC1_0.out);(case side9 => exact Kd.C_up (Kd.C_below HR1_1.out HB.out));(case side10 => exact HC1_1.out);rintro e w130 ⟨rfl,hb⟩;replace HO_169002:=rbw HO_169002 hb;replace HO_169003:=rbw HO_169003 hb;replace HO_169004:=rbw HO_169004 hb;replace BK153:=bkb BK153 hb;replace BK154:=bkb BK154 hb;replace BK155:=bkb BK155 hb;replace BK168:=bkb BK168 hb;replace HB:=Aside0.mk (below_step (hb_) hb)))
            go_roundg k5
            case measure => have:=HK1.out;have:=HK2.out;have:=HK3.out;have:=HK4.out;have:=HK5.out;omega
            case rel => exact ⟨(wrap64 (x109_5 + 1)),(x156000_5),(x156001_5),(by first|rfl|(simp;done)|(simp [*];done)),H',⟨by have:=HK1.out;have:=HK2.out;have:=HK3.out;have:=HK4.out;have:=HK5.out;omega⟩,⟨Kd.R_up HO_169002.out⟩,⟨Kd.R_up HO_169003.out⟩,⟨Kd.R_up HO_169004.out⟩,⟨blk_up BK153.out⟩,⟨blk_up BK154.out⟩,⟨blk_up BK155.out⟩,⟨blk_up BK168.out⟩,⟨hb_⟩⟩
           ·replace c122:=Bool.eq_false_iff.mpr c122
            subst c122
            have H1 : (some (t156,t157,t158,t161,t164,9)) = some (r1,r2,r3,r4,r5,r6):=by rw [if_neg (show ¬ (false = true) by decide)] at H;exact H
            clear H
            have H:=H1
            clear H1
            simp only [Option.some.injEq,Prod.mk.injEq] at H
            obtain ⟨rfl,rfl,rfl,rfl,rfl,rfl⟩:=H
            have p175 : 0 ≤ (x109_5 : Int):=of_decide_eq_true (by first|(with_reducible assumption)|assumption)
            have q175 : x109_5 < (l1_1.length : Int):=of_decide_eq_true (by first|(with_reducible assumption)|assumption)
            obtain ⟨ad175,e175,hx175_0⟩:=Kd.at_int HR1_1.out x109_5 p175 q175
            cases e175
            replace hx175_0:=(HB.out.cell (World.block_lt_of_cell? w _ hx175_0)).trans hx175_0
            replace p175:=eq_true p175
            replace q175:=eq_true q175
            have hnb131:=NB168_153.out
            have hnc131:=NB153_168.out
            have hnb132:=NB168_154.out
            have hnc132:=NB154_168.out
            have hnb133:=NB168_155.out
            have hnc133:=NB155_168.out
            obtain ⟨hcz134_0,hcz134_1,hcz134_2,hcz134_3,hcz134_4,hfz134_0,hfz134_1,hfz134_2,hfz134_3,hfz134_4⟩:=cells5 BK168.out
            have hnb135:=NB154_153.out
            have hnc135:=NB153_154.out
            have hnb136:=NB154_155.out
            have hnc136:=NB155_154.out
            obtain ⟨hcz137_0,hcz137_1,hfz137_0,hfz137_1⟩:=cells2 BK154.out
            go_wp2_with (first|(go_at_call 45;(with_reducible refine (water_ground_wet.calls t156 t157 _ _ t158 _ _ t161 _ _ t164 _ _ l1_0 _ _ l1_1 (rd l1_1 x109_5) false _ ?side1 ?side2 ?side3 ?side4 ?side5 ?side6 ?side7 ?side8 ?side9 ?side10 A121.out).mono ?_);(case side1 => exact Kd.C_up (Kd.R_reads' HO_169002.out).2.2);(case side2 => exact (Kd.R_reads' HO_169002.out).2.1);(case side3 => exact Kd.C_up (Kd.R_reads' HO_169003.out).2.2);(case side4 => exact (Kd.R_reads' HO_169003.out).2.1);(case side5 => exact Kd.C_up (Kd.R_reads' HO_169004.out).2.2);(case side6 => exact (Kd.R_reads' HO_169004.out).2.1);(case side7 => exact Kd.C_up (Kd.C_below HR1_0.out HB.out));(case side8 => exact HC1_0.out);(case side9 => exact Kd.C_up (Kd.C_below HR1_1.out HB.out));(case side10 => exact HC1_1.out);rintro e w138 ⟨rfl,hb⟩;replace HO_169002:=rbw HO_169002 hb;replace HO_169003:=rbw HO_169003 hb;replace HO_169004:=rbw HO_169004 hb;replace BK153:=bkb BK153 hb;replace BK154:=bkb BK154 hb;replace BK155:=bkb BK155 hb;replace BK168:=bkb BK168 hb;replace HB:=Aside0.mk (below_step (hb_) hb);obtain ⟨hcz139_0,hcz139_1,hcz139_2,hcz139_3,hcz139_4,hfz139_0,hfz139_1,hfz139_2,hfz139_3,hfz139_4⟩:=cells5 BK168.out;have hnb140:=NB155_153.out;have hnc140:=NB153_155.out;obtain ⟨hcz141_0,hcz141_1,hcz141_2,hcz141_3,hcz141_4,hfz141_0,hfz141_1,hfz141_2,hfz141_3,hfz141_4⟩:=cells5 BK155.out))
            refine bodyPost_ret (results_ct rfl _ _ gb155 52 #[.int .i64 t156,.int .i64 t157,.slice Ao18 t158.length co18,.slice Ao19 t161.length co19,.slice Ao20 t164.length co20] (0,0) _ rfl (by (with_reducible repeat (first|refine blk_drewN ?_ _|refine blk_drew ?_|refine blk_alloc ?_ _));exact blk_puts5 (blk_up BK155.out)) Try.underlying52 rfl (by kernel_rfl)) rfl ?_
            exact ⟨_,_,_,by first|rfl|(simp [errW_none,errW_some] <;> rfl)|(simp [*,errW_none,errW_some] <;> rfl),by (with_reducible repeat (first|apply Kd.R_alloc|apply Kd.R_drewN|apply Kd.R_drew));exact Kd.R_mono (Kd.R_fars gb155 (Kd.R_types HO_169002.out BK155.out (by decide)) (fun _ hk => hk.2)) (fun _ hk => hk.1),by (with_reducible repeat (first|apply Kd.R_alloc|apply Kd.R_drewN|apply Kd.R_drew));exact Kd.R_mono (Kd.R_fars gb155 (Kd.R_types HO_169003.out BK155.out (by decide)) (fun _ hk => hk.2)) (fun _ hk => hk.1),by (with_reducible repeat (first|apply Kd.R_alloc|apply Kd.R_drewN|apply Kd.R_drew));exact Kd.R_mono (Kd.R_fars gb155 (Kd.R_types HO_169004.out BK155.out (by decide)) (fun _ hk => hk.2)) (fun _ hk => trivial),hb_⟩

end Go.Proofs.Ytiencnnkphipoaa.P

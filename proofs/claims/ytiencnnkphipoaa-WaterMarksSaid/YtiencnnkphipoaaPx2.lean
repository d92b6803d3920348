/- Functions of this seat as plain Lean functions, with proofs that the Go code comes to just their answers, or what stands between them and a law's statement; no conditions. (Laid by a program of this session, out of the kit's print.) -/
import Derived.Test.YtiencnnkphipoaaPx0
import Derived.Test.YtiencnnkphipoaaPx1
namespace Go.Proofs.Ytiencnnkphipoaa.P
open Go.RowKit Go.Proofs.YtiencnnkphipoaaW.PrintWords Go.Proofs.YtiencnnkphipoaaW.PrintLast Go.Proofs.YtiencnnkphipoaaW.PrintMore
attribute [local go_sem] max2_int min2_int max_two min_two max_three min_three max_four min_four   -- for this text's walks alone
set_option linter.unusedVariables false
set_option linter.unusedSimpArgs false

/-! ### water_check: function 44 -/
mutual
def water_check.l0 : Nat → List Int → Int → Int → Int → Int → List Int → List Int → List Int → Int → Int → List Int → List Int → List Bool → Option (Int × Int × List Int × List Int × List Bool × Int)
 | 0,_,_,_,_,_,_,_,_,_,_,_,_,_ => none
 | k + 1,x37,x38,x39,x154000,x154001,x154002,x155000,x155001,x169000,x169001,x169002,x169003,x169004 => if x39 < x38 then (if 0 ≤ x39 then (if x39 < (x37.length : Int) then (if (rd x37 x39) < 0 then (some (x169000,x169001,x169002,x169003,x169004,1)) else (if (rd x37 x39) > 3 then (some (x169000,x169001,x169002,x169003,x169004,1)) else (water_check.l0 k x37 x38 (wrap64 (x39 + 1)) x154000 x154001 x154002 x155000 x155001 x169000 x169001 x169002 x169003 x169004))) else (none)) else (none)) else (water_check.l1 k 1 x154000 x154001 x154002 x155000 x155001 x169000 x169001 x169002 x169003 x169004)
def water_check.l1 : Nat → Int → Int → Int → List Int → List Int → List Int → Int → Int → List Int → List Int → List Bool → Option (Int × Int × List Int × List Int × List Bool × Int)
 | 0,_,_,_,_,_,_,_,_,_,_,_ => none
 | k + 1,x10,x154000,x154001,x154002,x155000,x155001,x169000,x169001,x169002,x169003,x169004 => if x10 < (x155001.length : Int) then (if 0 ≤ x10 then (if 0 ≤ (wrap64 (x10 - 1)) then (if (wrap64 (x10 - 1)) < (x155001.length : Int) then (if (rd x155001 x10) ≤ (rd x155001 (wrap64 (x10 - 1))) then (some (x169000,x169001,x169002,x169003,x169004,1)) else (water_check.l1 k (wrap64 (x10 + 1)) x154000 x154001 x154002 x155000 x155001 x169000 x169001 x169002 x169003 x169004)) else (none)) else (none)) else (none)) else (water_check.l2 k x155001 (x155001.length : Int) 0 x154000 x154001 x154002 x155000 x155001 x169000 x169001 x169002 x169003 x169004)
def water_check.l2 : Nat → List Int → Int → Int → Int → Int → List Int → List Int → List Int → Int → Int → List Int → List Int → List Bool → Option (Int × Int × List Int × List Int × List Bool × Int)
 | 0,_,_,_,_,_,_,_,_,_,_,_,_,_ => none
 | k + 1,x72,x73,x74,x154000,x154001,x154002,x155000,x155001,x169000,x169001,x169002,x169003,x169004 => if x74 < x73 then (if 0 ≤ x74 then (if x74 < (x72.length : Int) then (if (rd x72 x74) < 0 then (some (x169000,x169001,x169002,x169003,x169004,2)) else (if (rd x72 x74) ≥ (wrap64 (x154000 * x154001)) then (some (x169000,x169001,x169002,x169003,x169004,2)) else (water_check.l2 k x72 x73 (wrap64 (x74 + 1)) x154000 x154001 x154002 x155000 x155001 x169000 x169001 x169002 x169003 x169004))) else (none)) else (none)) else (water_check.l3 k x155000 (x155000.length : Int) 0 x155000 x155001 x169000 x169001 x169002 x169003 x169004)
def water_check.l3 : Nat → List Int → Int → Int → List Int → List Int → Int → Int → List Int → List Int → List Bool → Option (Int × Int × List Int × List Int × List Bool × Int)
 | 0,_,_,_,_,_,_,_,_,_,_ => none
 | k + 1,x92,x93,x94,x155000,x155001,x169000,x169001,x169002,x169003,x169004 => if x94 < x93 then (if 0 ≤ x94 then (if x94 < (x92.length : Int) then ((water_ground_may.f k x169000 x169001 x169002 x169003 x169004 x94 (rd x92 x94)).bind fun t174 => (if t174 = 0 then (water_check.l3 k x92 x93 (wrap64 (x94 + 1)) x155000 x155001 x169000 x169001 x169002 x169003 x169004) else (some (x169000,x169001,x169002,x169003,x169004,9)))) else (none)) else (none)) else (water_check.l4 k x155001 (x155001.length : Int) 0 x155000 x155001 x169000 x169001 x169002 x169003 x169004)
def water_check.l4 : Nat → List Int → Int → Int → List Int → List Int → Int → Int → List Int → List Int → List Bool → Option (Int × Int × List Int × List Int × List Bool × Int)
 | 0,_,_,_,_,_,_,_,_,_,_ => none
 | k + 1,x107,x108,x109,x155000,x155001,x169000,x169001,x169002,x169003,x169004 => if x109 < x108 then (if 0 ≤ x109 then (if x109 < (x107.length : Int) then ((water_ground_wet.f x169000 x169001 x169002 x169003 x169004 x155000 x155001 (rd x107 x109)).bind fun t176 => (if t176 = true then (water_check.l4 k x107 x108 (wrap64 (x109 + 1)) x155000 x155001 x169000 x169001 x169002 x169003 x169004) else (some (x169000,x169001,x169002,x169003,x169004,9)))) else (none)) else (none)) else (some (x169000,x169001,x169002,x169003,x169004,0))
end
def water_check.f (k : Nat) (a0_0 : Int) (a0_1 : Int) (l0_2 : List Int) (l1_0 : List Int) (l1_1 : List Int) : Option (Int × Int × List Int × List Int × List Bool × Int) := (water_groundOf.f k a0_0 a0_1 l0_2).bind fun bt156 => (if bt156.2.2.2.2.2 = 0 then (if (l1_0.length : Int) = (wrap64 (a0_0 * a0_1)) then (water_check.l0 k l1_0 (l1_0.length : Int) 0 a0_0 a0_1 l0_2 l1_0 l1_1 bt156.1 bt156.2.1 bt156.2.2.1 bt156.2.2.2.1 bt156.2.2.2.2.1) else (some (bt156.1, bt156.2.1, bt156.2.2.1, bt156.2.2.2.1, bt156.2.2.2.2.1, 1))) else (some (bt156.1, bt156.2.1, bt156.2.2.1, bt156.2.2.2.1, bt156.2.2.2.2.1, bt156.2.2.2.2.2)))
theorem water_check.mono_l : ∀ k, (∀ y0 y1 y2 y3 y4 y5 y6 y7 y8 y9 y10 y11 y12, LeO (water_check.l0 k y0 y1 y2 y3 y4 y5 y6 y7 y8 y9 y10 y11 y12) (water_check.l0 (k + 1) y0 y1 y2 y3 y4 y5 y6 y7 y8 y9 y10 y11 y12)) ∧ (∀ y0 y1 y2 y3 y4 y5 y6 y7 y8 y9 y10, LeO (water_check.l1 k y0 y1 y2 y3 y4 y5 y6 y7 y8 y9 y10) (water_check.l1 (k + 1) y0 y1 y2 y3 y4 y5 y6 y7 y8 y9 y10)) ∧ (∀ y0 y1 y2 y3 y4 y5 y6 y7 y8 y9 y10 y11 y12, LeO (water_check.l2 k y0 y1 y2 y3 y4 y5 y6 y7 y8 y9 y10 y11 y12) (water_check.l2 (k + 1) y0 y1 y2 y3 y4 y5 y6 y7 y8 y9 y10 y11 y12)) ∧ (∀ y0 y1 y2 y3 y4 y5 y6 y7 y8 y9, LeO (water_check.l3 k y0 y1 y2 y3 y4 y5 y6 y7 y8 y9) (water_check.l3 (k + 1) y0 y1 y2 y3 y4 y5 y6 y7 y8 y9)) ∧ (∀ y0 y1 y2 y3 y4 y5 y6 y7 y8 y9, LeO (water_check.l4 k y0 y1 y2 y3 y4 y5 y6 y7 y8 y9) (water_check.l4 (k + 1) y0 y1 y2 y3 y4 y5 y6 y7 y8 y9))
 | 0 => ⟨fun _ _ _ _ _ _ _ _ _ _ _ _ _ r h => by simp [water_check.l0] at h,fun _ _ _ _ _ _ _ _ _ _ _ r h => by simp [water_check.l1] at h,fun _ _ _ _ _ _ _ _ _ _ _ _ _ r h => by simp [water_check.l2] at h,fun _ _ _ _ _ _ _ _ _ _ r h => by simp [water_check.l3] at h,fun _ _ _ _ _ _ _ _ _ _ r h => by simp [water_check.l4] at h⟩
 | k + 1 => by
  obtain ⟨ih0,ih1,ih2,ih3,ih4⟩:=water_check.mono_l k
  refine ⟨?_,?_,?_,?_,?_⟩
  ·intro y0 y1 y2 y3 y4 y5 y6 y7 y8 y9 y10 y11 y12
   unfold water_check.l0
   repeat' first
   | (with_reducible exact ih0 _ _ _ _ _ _ _ _ _ _ _ _ _)
   | (with_reducible exact ih1 _ _ _ _ _ _ _ _ _ _ _)
   | (with_reducible exact ih2 _ _ _ _ _ _ _ _ _ _ _ _ _)
   | (with_reducible exact ih3 _ _ _ _ _ _ _ _ _ _)
   | (with_reducible exact ih4 _ _ _ _ _ _ _ _ _ _)
   | (with_reducible exact water_groundOf.mono _ _ _ _)
   | (with_reducible exact water_ground_may.mono _ _ _ _ _ _ _ _)
   | (with_reducible exact LeO.refl _)
   | (with_reducible exact LeO.none _)
   | (with_reducible refine LeO.ite ?_ ?_)
   | (with_reducible refine LeO.bind ?_ (fun _ => ?_))
   | exact ih0 _ _ _ _ _ _ _ _ _ _ _ _ _
   | exact ih1 _ _ _ _ _ _ _ _ _ _ _
   | exact ih2 _ _ _ _ _ _ _ _ _ _ _ _ _
   | exact ih3 _ _ _ _ _ _ _ _ _ _
   | exact ih4 _ _ _ _ _ _ _ _ _ _
   | exact water_groundOf.mono _ _ _ _
   | exact water_ground_may.mono _ _ _ _ _ _ _ _
   | exact LeO.none _
   | refine LeO.ite ?_ ?_
   | refine LeO.bind ?_ (fun _ => ?_)
  ·intro y0 y1 y2 y3 y4 y5 y6 y7 y8 y9 y10
   unfold water_check.l1
   repeat' first
   | (with_reducible exact ih0 _ _ _ _ _ _ _ _ _ _ _ _ _)
   | (with_reducible exact ih1 _ _ _ _ _ _ _ _ _ _ _)
   | (with_reducible exact ih2 _ _ _ _ _ _ _ _ _ _ _ _ _)
   | (with_reducible exact ih3 _ _ _ _ _ _ _ _ _ _)
   | (with_reducible exact ih4 _ _ _ _ _ _ _ _ _ _)
   | (with_reducible exact water_groundOf.mono _ _ _ _)
   | (with_reducible exact water_ground_may.mono _ _ _ _ _ _ _ _)
   | (with_reducible exact LeO.refl _)
   | (with_reducible exact LeO.none _)
   | (with_reducible refine LeO.ite ?_ ?_)
   | (with_reducible refine LeO.bind ?_ (fun _ => ?_))
   | exact ih0 _ _ _ _ _ _ _ _ _ _ _ _ _
   | exact ih1 _ _ _ _ _ _ _ _ _ _ _
   | exact ih2 _ _ _ _ _ _ _ _ _ _ _ _ _
   | exact ih3 _ _ _ _ _ _ _ _ _ _
   | exact ih4 _ _ _ _ _ _ _ _ _ _
   | exact water_groundOf.mono _ _ _ _
   | exact water_ground_may.mono _ _ _ _ _ _ _ _
   | exact LeO.none _
   | refine LeO.ite ?_ ?_
   | refine LeO.bind ?_ (fun _ => ?_)
  ·intro y0 y1 y2 y3 y4 y5 y6 y7 y8 y9 y10 y11 y12
   unfold water_check.l2
   repeat' first
   | (with_reducible exact ih0 _ _ _ _ _ _ _ _ _ _ _ _ _)
   | (with_reducible exact ih1 _ _ _ _ _ _ _ _ _ _ _)
   | (with_reducible exact ih2 _ _ _ _ _ _ _ _ _ _ _ _ _)
   | (with_reducible exact ih3 _ _ _ _ _ _ _ _ _ _)
   | (with_reducible exact ih4 _ _ _ _ _ _ _ _ _ _)
   | (with_reducible exact water_groundOf.mono _ _ _ _)
   | (with_reducible exact water_ground_may.mono _ _ _ _ _ _ _ _)
   | (with_reducible exact LeO.refl _)
   | (with_reducible exact LeO.none _)
   | (with_reducible refine LeO.ite ?_ ?_)
   | (with_reducible refine LeO.bind ?_ (fun _ => ?_))
   | exact ih0 _ _ _ _ _ _ _ _ _ _ _ _ _
   | exact ih1 _ _ _ _ _ _ _ _ _ _ _
   | exact ih2 _ _ _ _ _ _ _ _ _ _ _ _ _
   | exact ih3 _ _ _ _ _ _ _ _ _ _
   | exact ih4 _ _ _ _ _ _ _ _ _ _
   | exact water_groundOf.mono _ _ _ _
   | exact water_ground_may.mono _ _ _ _ _ _ _ _
   | exact LeO.none _
   | refine LeO.ite ?_ ?_
   | refine LeO.bind ?_ (fun _ => ?_)
  ·intro y0 y1 y2 y3 y4 y5 y6 y7 y8 y9
   unfold water_check.l3
   repeat' first
   | (with_reducible exact ih0 _ _ _ _ _ _ _ _ _ _ _ _ _)
   | (with_reducible exact ih1 _ _ _ _ _ _ _ _ _ _ _)
   | (with_reducible exact ih2 _ _ _ _ _ _ _ _ _ _ _ _ _)
   | (with_reducible exact ih3 _ _ _ _ _ _ _ _ _ _)
   | (with_reducible exact ih4 _ _ _ _ _ _ _ _ _ _)
   | (with_reducible exact water_groundOf.mono _ _ _ _)
   | (with_reducible exact water_ground_may.mono _ _ _ _ _ _ _ _)
   | (with_reducible exact LeO.refl _)
   | (with_reducible exact LeO.none _)
   | (with_reducible refine LeO.ite ?_ ?_)
   | (with_reducible refine LeO.bind ?_ (fun _ => ?_))
   | exact ih0 _ _ _ _ _ _ _ _ _ _ _ _ _
   | exact ih1 _ _ _ _ _ _ _ _ _ _ _
   | exact ih2 _ _ _ _ _ _ _ _ _ _ _ _ _
   | exact ih3 _ _ _ _ _ _ _ _ _ _
   | exact ih4 _ _ _ _ _ _ _ _ _ _
   | exact water_groundOf.mono _ _ _ _
   | exact water_ground_may.mono _ _ _ _ _ _ _ _
   | exact LeO.none _
   | refine LeO.ite ?_ ?_
   | refine LeO.bind ?_ (fun _ => ?_)
  ·intro y0 y1 y2 y3 y4 y5 y6 y7 y8 y9
   unfold water_check.l4
   repeat' first
   | (with_reducible exact ih0 _ _ _ _ _ _ _ _ _ _ _ _ _)
   | (with_reducible exact ih1 _ _ _ _ _ _ _ _ _ _ _)
   | (with_reducible exact ih2 _ _ _ _ _ _ _ _ _ _ _ _ _)
   | (with_reducible exact ih3 _ _ _ _ _ _ _ _ _ _)
   | (with_reducible exact ih4 _ _ _ _ _ _ _ _ _ _)
   | (with_reducible exact water_groundOf.mono _ _ _ _)
   | (with_reducible exact water_ground_may.mono _ _ _ _ _ _ _ _)
   | (with_reducible exact LeO.refl _)
   | (with_reducible exact LeO.none _)
   | (with_reducible refine LeO.ite ?_ ?_)
   | (with_reducible refine LeO.bind ?_ (fun _ => ?_))
   | exact ih0 _ _ _ _ _ _ _ _ _ _ _ _ _
   | exact ih1 _ _ _ _ _ _ _ _ _ _ _
   | exact ih2 _ _ _ _ _ _ _ _ _ _ _ _ _
   | exact ih3 _ _ _ _ _ _ _ _ _ _
   | exact ih4 _ _ _ _ _ _ _ _ _ _
   | exact water_groundOf.mono _ _ _ _
   | exact water_ground_may.mono _ _ _ _ _ _ _ _
   | exact LeO.none _
   | refine LeO.ite ?_ ?_
   | refine LeO.bind ?_ (fun _ => ?_)
theorem water_check.mono : ∀ a0 a1 a2 a3 a4 k, LeO (water_check.f k a0 a1 a2 a3 a4) (water_check.f (k + 1) a0 a1 a2 a3 a4) := by
 intro a0 a1 a2 a3 a4 k
 obtain ⟨ih0,ih1,ih2,ih3,ih4⟩:=water_check.mono_l k
 unfold water_check.f
 repeat' first
   | (with_reducible exact ih0 _ _ _ _ _ _ _ _ _ _ _ _ _)
   | (with_reducible exact ih1 _ _ _ _ _ _ _ _ _ _ _)
   | (with_reducible exact ih2 _ _ _ _ _ _ _ _ _ _ _ _ _)
   | (with_reducible exact ih3 _ _ _ _ _ _ _ _ _ _)
   | (with_reducible exact ih4 _ _ _ _ _ _ _ _ _ _)
   | (with_reducible exact water_groundOf.mono _ _ _ _)
   | (with_reducible exact water_ground_may.mono _ _ _ _ _ _ _ _)
   | (with_reducible exact LeO.refl _)
   | (with_reducible exact LeO.none _)
   | (with_reducible refine LeO.ite ?_ ?_)
   | (with_reducible refine LeO.bind ?_ (fun _ => ?_))
   | exact ih0 _ _ _ _ _ _ _ _ _ _ _ _ _
   | exact ih1 _ _ _ _ _ _ _ _ _ _ _
   | exact ih2 _ _ _ _ _ _ _ _ _ _ _ _ _
   | exact ih3 _ _ _ _ _ _ _ _ _ _
   | exact ih4 _ _ _ _ _ _ _ _ _ _
   | exact water_groundOf.mono _ _ _ _
   | exact water_ground_may.mono _ _ _ _ _ _ _ _
   | exact LeO.none _
   | refine LeO.ite ?_ ?_
   | refine LeO.bind ?_ (fun _ => ?_)
set_option maxHeartbeats 8000000 in
set_option maxRecDepth 100000 in
theorem water_check.calls (k : Nat) (a0_0 : Int) (a0_1 : Int) (A0_2 : Option Addr) (c0_2 : Nat) (l0_2 : List Int) (A1_0 : Option Addr) (c1_0 : Nat) (l1_0 : List Int) (A1_1 : Option Addr) (c1_1 : Nat) (l1_1 : List Int) (r1 : Int) (r2 : Int) (r3 : List Int) (r4 : List Int) (r5 : List Bool) (r6 : Int) (w : World) (hr0_2 : Kd.C (Kd.int .i64) w A0_2 l0_2.length l0_2) (hc0_2 : l0_2.length ≤ c0_2) (hr1_0 : Kd.C (Kd.int .i64) w A1_0 l1_0.length l1_0) (hc1_0 : l1_0.length ≤ c1_0) (hr1_1 : Kd.C (Kd.int .i64) w A1_1 l1_1.length l1_1) (hc1_1 : l1_1.length ≤ c1_1) (h : water_check.f k a0_0 a0_1 l0_2 l1_0 l1_1 = some (r1, r2, r3, r4, r5, r6)) :
  Calls Try.prog 44 #[.agg #[.int .i64 a0_0,.int .i64 a0_1,.slice A0_2 l0_2.length c0_2],.agg #[.slice A1_0 l1_0.length c1_0,.slice A1_1 l1_1.length c1_1]] w fun e w' => ∃ v2_ v3_ v4_ : Value,e = .returned (.tuple #[.agg #[.int .i64 r1,.int .i64 r2,v2_,v3_,v4_],.int .i64 r6]) ∧ Kd.R (Kd.int .i64) 3 w' w.heap.size (fun k_ => some k_ ≠ (v3_ : Value).ownBlock) v2_ r3 ∧ Kd.R (Kd.int .i64) 3 w' w.heap.size (fun k_ => some k_ ≠ (v2_ : Value).ownBlock) v3_ r4 ∧ Kd.R Kd.bool 4 w' w.heap.size (fun _ => True) v4_ r5 ∧ Below w.heap.size w w':=by
 have hu24:=Try.underlying24
 have hu26:=Try.underlying26
 have hu52:=Try.underlying52
 have HR0_2:=Aside0.mk hr0_2
 have HC0_2:=Aside0.mk hc0_2
 clear hr0_2 hc0_2
 have HR1_0:=Aside0.mk hr1_0
 have HC1_0:=Aside0.mk hc1_0
 clear hr1_0 hc1_0
 have HR1_1:=Aside0.mk hr1_1
 have HC1_1:=Aside0.mk hc1_1
 clear hr1_1 hc1_1
 have HB:=Aside0.mk (Below.refl w.heap.size w)
 have H : ((water_groundOf.f k a0_0 a0_1 l0_2).bind fun bt156 => (if bt156.2.2.2.2.2 = 0 then (if (l1_0.length : Int) = (wrap64 (a0_0 * a0_1)) then (water_check.l0 k l1_0 (l1_0.length : Int) 0 a0_0 a0_1 l0_2 l1_0 l1_1 bt156.1 bt156.2.1 bt156.2.2.1 bt156.2.2.2.1 bt156.2.2.2.2.1) else (some (bt156.1,bt156.2.1,bt156.2.2.1,bt156.2.2.2.1,bt156.2.2.2.2.1,1))) else (some (bt156.1,bt156.2.1,bt156.2.2.1,bt156.2.2.2.1,bt156.2.2.2.2.1,bt156.2.2.2.2.2)))) = some (r1,r2,r3,r4,r5,r6):=h
 clear h
 replace H:=Option.bind_eq_some_iff.mp H
 obtain ⟨⟨t156,t157,t158,t161,t164,t167⟩,A30,H⟩:=H
 replace H : (if t167 = 0 then (if (l1_0.length : Int) = (wrap64 (a0_0 * a0_1)) then (water_check.l0 k l1_0 (l1_0.length : Int) 0 a0_0 a0_1 l0_2 l1_0 l1_1 t156 t157 t158 t161 t164) else (some (t156,t157,t158,t161,t164,1))) else (some (t156,t157,t158,t161,t164,t167))) = some (r1,r2,r3,r4,r5,r6):=H
 have A3:=Aside0.mk A30
 clear A30
 by_cases c4 : t167 = 0
 rotate_left
 ·rw [if_neg c4] at H
  have c4b0:=bqf c4
  have c4b1:=bnt c4
  simp only [Option.some.injEq,Prod.mk.injEq] at H
  obtain ⟨rfl,rfl,rfl,rfl,rfl,rfl⟩:=H
  go_enter Try.func44,Try.ntmps44
  go_wp2_with (first|((with_reducible refine gate_dst (N:=2) rfl ?_);refine box_ev (N:=2) (cs:=#[.int .i64 a0_0,.int .i64 a0_1,.slice A0_2 l0_2.length c0_2]) (t:=24) ?_;intro gb153 hg w168 hbox hb;have BK153:=Aside0.mk (hbox);have GW153 : Aside0 (w.heap.size ≤ gb153):=gsz hg;have GE153:=GW153;replace HB:=hbs hb;clear hb hbox hg)|((with_reducible refine gate_dst (N:=3) rfl ?_);refine box_ev (N:=3) (cs:=#[.slice A1_0 l1_0.length c1_0,.slice A1_1 l1_1.length c1_1]) (t:=26) ?_;intro gb154 hg w169 hbox hb;have BK154:=Aside0.mk (hbox);have GW154 : Aside0 (w.heap.size ≤ gb154):=gsz hg;have GE154:=GW154;have NB153_154:=nbl BK153 hg;have NB154_153:=nbr BK153 hg;replace BK153:=bkb BK153 hb;replace HB:=hbs hb;clear hb hbox hg)|((with_reducible refine gate_dst (N:=4) rfl ?_);refine box_ev (N:=4) (cs:=#[.int .i64 0,.int .i64 0,.slice none 0 0,.slice none 0 0,.slice none 0 0]) (t:=52) ?_;intro gb155 hg w170 hbox hb;have BK155:=Aside0.mk (hbox);have GW155 : Aside0 (w.heap.size ≤ gb155):=gsz hg;have GE155:=GW155;have NB153_155:=nbl BK153 hg;have NB155_153:=nbr BK153 hg;have NB154_155:=nbl BK154 hg;have NB155_154:=nbr BK154 hg;replace BK153:=bkb BK153 hb;replace BK154:=bkb BK154 hb;replace HB:=hbs hb;clear hb hbox hg;have hnb171:=NB153_154.out;have hnc171:=NB154_153.out;have hnb172:=NB153_155.out;have hnc172:=NB155_153.out;obtain ⟨_,_,_,_,_,_⟩:=cells3 BK153.out)|(go_at_call 65;(with_reducible refine (water_groundOf.calls k a0_0 a0_1 _ _ l0_2 t156 t157 t158 t161 t164 t167 _ ?_ ?_ A3.out).mono ?_);exact cq HR0_2;exact HC0_2.out;rintro e w174 ⟨v159,v162,v165,rfl,ho0,ho1,ho2,hb⟩;have HO160:=rlo ho0;have HO163:=rlo ho1;have HO166:=rlo ho2;replace BK153:=bkb BK153 hb;replace BK154:=bkb BK154 hb;replace BK155:=bkb BK155 hb;replace HB:=hbs hb)|((with_reducible refine gate_dst (N:=6) rfl ?_);refine box_ev (N:=6) (cs:=#[.int .i64 0,.int .i64 0,.slice none 0 0,.slice none 0 0,.slice none 0 0]) (t:=52) ?_;intro gb168 hg w175 hbox hb;have BK168:=Aside0.mk (hbox);have GW168 : Aside0 (w.heap.size ≤ gb168):=gsz hg;have GE168:=GW168;have NB153_168:=nbl BK153 hg;have NB168_153:=nbr BK153 hg;have NB154_168:=nbl BK154 hg;have NB168_154:=nbr BK154 hg;have NB155_168:=nbl BK155 hg;have NB168_155:=nbr BK155 hg;replace HO160:=rbw HO160 hb;replace HO163:=rbw HO163 hb;replace HO166:=rbw HO166 hb;replace BK153:=bkb BK153 hb;replace BK154:=bkb BK154 hb;replace BK155:=bkb BK155 hb;replace HB:=hbs hb;clear hb hbox hg;have hnb176:=NB168_153.out;have hnc176:=NB153_168.out;have hnb177:=NB168_154.out;have hnc177:=NB154_168.out;have hnb178:=NB168_155.out;have hnc178:=NB155_168.out;obtain ⟨_,_,_,_,_,_,_,_,_,_⟩:=cells5 BK168.out;obtain ⟨Ao180,co180,eo180⟩:=Kd.R_slice HO160.out;subst eo180;obtain ⟨Ao181,co181,eo181⟩:=Kd.R_slice HO163.out;subst eo181;obtain ⟨Ao182,co182,eo182⟩:=Kd.R_slice HO166.out;subst eo182;have hnb183:=NB155_154.out;have hnc183:=NB154_155.out;obtain ⟨_,_,_,_,_,_,_,_,_,_⟩:=cells5 BK155.out))
  refine bodyPost_ret (results_ct rfl _ _ gb155 52 #[.int .i64 t156,.int .i64 t157,.slice Ao180 t158.length co180,.slice Ao181 t161.length co181,.slice Ao182 t164.length co182] (0,0) _ rfl (by (with_reducible repeat (first|refine blk_drewN ?_ _|refine blk_drew ?_|refine blk_alloc ?_ _));refine blk_put (cs:=#[.int .i64 t156,.int .i64 t157,.slice Ao180 t158.length co180,.slice Ao181 t161.length co181,.slice none 0 0]) ?_ 4 _ rfl;(with_reducible repeat (first|refine blk_drewN ?_ _|refine blk_drew ?_|refine blk_alloc ?_ _));refine blk_put (cs:=#[.int .i64 t156,.int .i64 t157,.slice Ao180 t158.length co180,.slice none 0 0,.slice none 0 0]) ?_ 3 _ rfl;(with_reducible repeat (first|refine blk_drewN ?_ _|refine blk_drew ?_|refine blk_alloc ?_ _));refine blk_put (cs:=#[.int .i64 t156,.int .i64 t157,.slice none 0 0,.slice none 0 0,.slice none 0 0]) ?_ 2 _ rfl;(with_reducible repeat (first|refine blk_drewN ?_ _|refine blk_drew ?_|refine blk_alloc ?_ _));refine blk_put (cs:=#[.int .i64 t156,.int .i64 0,.slice none 0 0,.slice none 0 0,.slice none 0 0]) ?_ 1 _ rfl;(with_reducible repeat (first|refine blk_drewN ?_ _|refine blk_drew ?_|refine blk_alloc ?_ _));refine blk_put (cs:=#[.int .i64 0,.int .i64 0,.slice none 0 0,.slice none 0 0,.slice none 0 0]) ?_ 0 _ rfl;(with_reducible repeat (first|refine blk_drewN ?_ _|refine blk_drew ?_|refine blk_alloc ?_ _));refine blk_far ?_ NB155_168.out _;(with_reducible repeat (first|refine blk_drewN ?_ _|refine blk_drew ?_|refine blk_alloc ?_ _));refine blk_far ?_ NB155_168.out _;(with_reducible repeat (first|refine blk_drewN ?_ _|refine blk_drew ?_|refine blk_alloc ?_ _));refine blk_far ?_ NB155_168.out _;(with_reducible repeat (first|refine blk_drewN ?_ _|refine blk_drew ?_|refine blk_alloc ?_ _));refine blk_far ?_ NB155_168.out _;(with_reducible repeat (first|refine blk_drewN ?_ _|refine blk_drew ?_|refine blk_alloc ?_ _));refine blk_far ?_ NB155_168.out _;(with_reducible repeat (first|refine blk_drewN ?_ _|refine blk_drew ?_|refine blk_alloc ?_ _));exact BK155.out) Try.underlying52 rfl (by kernel_rfl)) rfl ?_
  exact ⟨_,_,_,er_,by (with_reducible repeat (first|apply Kd.R_alloc|apply Kd.R_drewN|apply Kd.R_drew));exact Kd.R_mono (Kd.R_fars gb155 (Kd.R_far (p:=⟨gb168,4,none⟩) (Kd.R_far (p:=⟨gb168,3,none⟩) (Kd.R_far (p:=⟨gb168,2,none⟩) (Kd.R_far (p:=⟨gb168,1,none⟩) (Kd.R_far (p:=⟨gb168,0,none⟩) (Kd.R_types (Kd.R_types HO160.out BK168.out (by decide)) BK155.out (by decide)) (fun _ hk => hk.1.2) (.int .i64 t156)) (fun _ hk => hk.1.2) (.int .i64 t157)) (fun _ hk => hk.1.2) (.slice Ao180 t158.length co180)) (fun _ hk => hk.1.2) (.slice Ao181 t161.length co181)) (fun _ hk => hk.1.2) (.slice Ao182 t164.length co182)) (fun _ hk => hk.2)) (fun _ hk => hk.1.1),by (with_reducible repeat (first|apply Kd.R_alloc|apply Kd.R_drewN|apply Kd.R_drew));exact Kd.R_mono (Kd.R_fars gb155 (Kd.R_far (p:=⟨gb168,4,none⟩) (Kd.R_far (p:=⟨gb168,3,none⟩) (Kd.R_far (p:=⟨gb168,2,none⟩) (Kd.R_far (p:=⟨gb168,1,none⟩) (Kd.R_far (p:=⟨gb168,0,none⟩) (Kd.R_types (Kd.R_types HO163.out BK168.out (by decide)) BK155.out (by decide)) (fun _ hk => hk.1.2) (.int .i64 t156)) (fun _ hk => hk.1.2) (.int .i64 t157)) (fun _ hk => hk.1.2) (.slice Ao180 t158.length co180)) (fun _ hk => hk.1.2) (.slice Ao181 t161.length co181)) (fun _ hk => hk.1.2) (.slice Ao182 t164.length co182)) (fun _ hk => hk.2)) (fun _ hk => hk.1.1),by (with_reducible repeat (first|apply Kd.R_alloc|apply Kd.R_drewN|apply Kd.R_drew));exact Kd.R_mono (Kd.R_fars gb155 (Kd.R_far (p:=⟨gb168,4,none⟩) (Kd.R_far (p:=⟨gb168,3,none⟩) (Kd.R_far (p:=⟨gb168,2,none⟩) (Kd.R_far (p:=⟨gb168,1,none⟩) (Kd.R_far (p:=⟨gb168,0,none⟩) (Kd.R_types (Kd.R_types HO166.out BK168.out (by decide)) BK155.out (by decide)) (fun _ hk => hk.1.2) (.int .i64 t156)) (fun _ hk => hk.1.2) (.int .i64 t157)) (fun _ hk => hk.1.2) (.slice Ao180 t158.length co180)) (fun _ hk => hk.1.2) (.slice Ao181 t161.length co181)) (fun _ hk => hk.1.2) (.slice Ao182 t164.length co182)) (fun _ hk => hk.2)) (fun _ hk => trivial),hb_⟩
 rw [if_pos c4] at H
 have c4b0:=bqt c4
 have c4b1:=bnf c4
 clear c4
 by_cases c5 : (l1_0.length : Int) = (wrap64 (a0_0 * a0_1))
 rotate_left
 ·rw [if_neg c5] at H
  have c5b0:=bqf c5
  have c5b1:=bnt c5
  simp only [Option.some.injEq,Prod.mk.injEq] at H
  obtain ⟨rfl,rfl,rfl,rfl,rfl,rfl⟩:=H
  go_enter Try.func44,Try.ntmps44
  go_wp2_with (first|((with_reducible refine gate_dst (N:=2) rfl ?_);refine box_ev (N:=2) (cs:=#[.int .i64 a0_0,.int .i64 a0_1,.slice A0_2 l0_2.length c0_2]) (t:=24) ?_;intro gb153 hg w149 hbox hb;have BK153:=Aside0.mk (hbox);have GW153 : Aside0 (w.heap.size ≤ gb153):=gsz hg;have GE153:=GW153;replace HB:=hbs hb;clear hb hbox hg)|((with_reducible refine gate_dst (N:=3) rfl ?_);refine box_ev (N:=3) (cs:=#[.slice A1_0 l1_0.length c1_0,.slice A1_1 l1_1.length c1_1]) (t:=26) ?_;intro gb154 hg w150 hbox hb;have BK154:=Aside0.mk (hbox);have GW154 : Aside0 (w.heap.size ≤ gb154):=gsz hg;have GE154:=GW154;have NB153_154:=nbl BK153 hg;have NB154_153:=nbr BK153 hg;replace BK153:=bkb BK153 hb;replace HB:=hbs hb;clear hb hbox hg)|((with_reducible refine gate_dst (N:=4) rfl ?_);refine box_ev (N:=4) (cs:=#[.int .i64 0,.int .i64 0,.slice none 0 0,.slice none 0 0,.slice none 0 0]) (t:=52) ?_;intro gb155 hg w151 hbox hb;have BK155:=Aside0.mk (hbox);have GW155 : Aside0 (w.heap.size ≤ gb155):=gsz hg;have GE155:=GW155;have NB153_155:=nbl BK153 hg;have NB155_153:=nbr BK153 hg;have NB154_155:=nbl BK154 hg;have NB155_154:=nbr BK154 hg;replace BK153:=bkb BK153 hb;replace BK154:=bkb BK154 hb;replace HB:=hbs hb;clear hb hbox hg;have hnb152:=NB153_154.out;have hnc152:=NB154_153.out;have hnb153:=NB153_155.out;have hnc153:=NB155_153.out;obtain ⟨_,_,_,_,_,_⟩:=cells3 BK153.out)|(go_at_call 65;(with_reducible refine (water_groundOf.calls k a0_0 a0_1 _ _ l0_2 t156 t157 t158 t161 t164 t167 _ ?_ ?_ A3.out).mono ?_);exact cq HR0_2;exact HC0_2.out;rintro e w155 ⟨v159,v162,v165,rfl,ho0,ho1,ho2,hb⟩;have HO160:=rlo ho0;have HO163:=rlo ho1;have HO166:=rlo ho2;replace BK153:=bkb BK153 hb;replace BK154:=bkb BK154 hb;replace BK155:=bkb BK155 hb;replace HB:=hbs hb)|((with_reducible refine gate_dst (N:=6) rfl ?_);refine box_ev (N:=6) (cs:=#[.int .i64 0,.int .i64 0,.slice none 0 0,.slice none 0 0,.slice none 0 0]) (t:=52) ?_;intro gb168 hg w156 hbox hb;have BK168:=Aside0.mk (hbox);have GW168 : Aside0 (w.heap.size ≤ gb168):=gsz hg;have GE168:=GW168;have NB153_168:=nbl BK153 hg;have NB168_153:=nbr BK153 hg;have NB154_168:=nbl BK154 hg;have NB168_154:=nbr BK154 hg;have NB155_168:=nbl BK155 hg;have NB168_155:=nbr BK155 hg;replace HO160:=rbw HO160 hb;replace HO163:=rbw HO163 hb;replace HO166:=rbw HO166 hb;replace BK153:=bkb BK153 hb;replace BK154:=bkb BK154 hb;replace BK155:=bkb BK155 hb;replace HB:=hbs hb;clear hb hbox hg;have hnb157:=NB168_153.out;have hnc157:=NB153_168.out;have hnb158:=NB168_154.out;have hnc158:=NB154_168.out;have hnb159:=NB168_155.out;have hnc159:=NB155_168.out;obtain ⟨_,_,_,_,_,_,_,_,_,_⟩:=cells5 BK168.out;obtain ⟨Ao161,co161,eo161⟩:=Kd.R_slice HO160.out;subst eo161;obtain ⟨Ao162,co162,eo162⟩:=Kd.R_slice HO163.out;subst eo162;obtain ⟨Ao163,co163,eo163⟩:=Kd.R_slice HO166.out;subst eo163;have hnb164:=NB154_155.out;have hnc164:=NB155_154.out;obtain ⟨_,_,_,_⟩:=cells2 BK154.out;obtain ⟨_,_,_,_,_,_⟩:=cells3 BK153.out;obtain ⟨_,_,_,_,_,_,_,_,_,_⟩:=cells5 BK155.out))
  refine bodyPost_ret (results_ct rfl _ _ gb155 52 #[.int .i64 t156,.int .i64 t157,.slice Ao161 t158.length co161,.slice Ao162 t161.length co162,.slice Ao163 t164.length co163] (0,0) _ rfl (by (with_reducible repeat (first|refine blk_drewN ?_ _|refine blk_drew ?_|refine blk_alloc ?_ _));refine blk_put (cs:=#[.int .i64 t156,.int .i64 t157,.slice Ao161 t158.length co161,.slice Ao162 t161.length co162,.slice none 0 0]) ?_ 4 _ rfl;(with_reducible repeat (first|refine blk_drewN ?_ _|refine blk_drew ?_|refine blk_alloc ?_ _));refine blk_put (cs:=#[.int .i64 t156,.int .i64 t157,.slice Ao161 t158.length co161,.slice none 0 0,.slice none 0 0]) ?_ 3 _ rfl;(with_reducible repeat (first|refine blk_drewN ?_ _|refine blk_drew ?_|refine blk_alloc ?_ _));refine blk_put (cs:=#[.int .i64 t156,.int .i64 t157,.slice none 0 0,.slice none 0 0,.slice none 0 0]) ?_ 2 _ rfl;(with_reducible repeat (first|refine blk_drewN ?_ _|refine blk_drew ?_|refine blk_alloc ?_ _));refine blk_put (cs:=#[.int .i64 t156,.int .i64 0,.slice none 0 0,.slice none 0 0,.slice none 0 0]) ?_ 1 _ rfl;(with_reducible repeat (first|refine blk_drewN ?_ _|refine blk_drew ?_|refine blk_alloc ?_ _));refine blk_put (cs:=#[.int .i64 0,.int .i64 0,.slice none 0 0,.slice none 0 0,.slice none 0 0]) ?_ 0 _ rfl;(with_reducible repeat (first|refine blk_drewN ?_ _|refine blk_drew ?_|refine blk_alloc ?_ _));refine blk_far ?_ NB155_168.out _;(with_reducible repeat (first|refine blk_drewN ?_ _|refine blk_drew ?_|refine blk_alloc ?_ _));refine blk_far ?_ NB155_168.out _;(with_reducible repeat (first|refine blk_drewN ?_ _|refine blk_drew ?_|refine blk_alloc ?_ _));refine blk_far ?_ NB155_168.out _;(with_reducible repeat (first|refine blk_drewN ?_ _|refine blk_drew ?_|refine blk_alloc ?_ _));refine blk_far ?_ NB155_168.out _;(with_reducible repeat (first|refine blk_drewN ?_ _|refine blk_drew ?_|refine blk_alloc ?_ _));refine blk_far ?_ NB155_168.out _;(with_reducible repeat (first|refine blk_drewN ?_ _|refine blk_drew ?_|refine blk_alloc ?_ _));exact BK155.out) Try.underlying52 rfl (by kernel_rfl)) rfl ?_
  exact ⟨_,_,_,er_,by (with_reducible repeat (first|apply Kd.R_alloc|apply Kd.R_drewN|apply Kd.R_drew));exact Kd.R_mono (Kd.R_fars gb155 (Kd.R_far (p:=⟨gb168,4,none⟩) (Kd.R_far (p:=⟨gb168,3,none⟩) (Kd.R_far (p:=⟨gb168,2,none⟩) (Kd.R_far (p:=⟨gb168,1,none⟩) (Kd.R_far (p:=⟨gb168,0,none⟩) (Kd.R_types (Kd.R_types HO160.out BK168.out (by decide)) BK155.out (by decide)) (fun _ hk => hk.1.2) (.int .i64 t156)) (fun _ hk => hk.1.2) (.int .i64 t157)) (fun _ hk => hk.1.2) (.slice Ao161 t158.length co161)) (fun _ hk => hk.1.2) (.slice Ao162 t161.length co162)) (fun _ hk => hk.1.2) (.slice Ao163 t164.length co163)) (fun _ hk => hk.2)) (fun _ hk => hk.1.1),by (with_reducible repeat (first|apply Kd.R_alloc|apply Kd.R_drewN|apply Kd.R_drew));exact Kd.R_mono (Kd.R_fars gb155 (Kd.R_far (p:=⟨gb168,4,none⟩) (Kd.R_far (p:=⟨gb168,3,none⟩) (Kd.R_far (p:=⟨gb168,2,none⟩) (Kd.R_far (p:=⟨gb168,1,none⟩) (Kd.R_far (p:=⟨gb168,0,none⟩) (Kd.R_types (Kd.R_types HO163.out BK168.out (by decide)) BK155.out (by decide)) (fun _ hk => hk.1.2) (.int .i64 t156)) (fun _ hk => hk.1.2) (.int .i64 t157)) (fun _ hk => hk.1.2) (.slice Ao161 t158.length co161)) (fun _ hk => hk.1.2) (.slice Ao162 t161.length co162)) (fun _ hk => hk.1.2) (.slice Ao163 t164.length co163)) (fun _ hk => hk.2)) (fun _ hk => hk.1.1),by (with_reducible repeat (first|apply Kd.R_alloc|apply Kd.R_drewN|apply Kd.R_drew));exact Kd.R_mono (Kd.R_fars gb155 (Kd.R_far (p:=⟨gb168,4,none⟩) (Kd.R_far (p:=⟨gb168,3,none⟩) (Kd.R_far (p:=⟨gb168,2,none⟩) (Kd.R_far (p:=⟨gb168,1,none⟩) (Kd.R_far (p:=⟨gb168,0,none⟩) (Kd.R_types (Kd.R_types HO166.out BK168.out (by decide)) BK155.out (by decide)) (fun _ hk => hk.1.2) (.int .i64 t156)) (fun _ hk => hk.1.2) (.int .i64 t157)) (fun _ hk => hk.1.2) (.slice Ao161 t158.length co161)) (fun _ hk => hk.1.2) (.slice Ao162 t161.length co162)) (fun _ hk => hk.1.2) (.slice Ao163 t164.length co163)) (fun _ hk => hk.2)) (fun _ hk => trivial),hb_⟩
 rw [if_pos c5] at H
 have c5b0:=bqt c5
 have c5b1:=bnf c5
 clear c5
 have H':=Aside0.mk H
 clear H
 go_enter Try.func44,Try.ntmps44
 go_wp2_with (first|((with_reducible refine gate_dst (N:=2) rfl ?_);refine box_ev (N:=2) (cs:=#[.int .i64 a0_0,.int .i64 a0_1,.slice A0_2 l0_2.length c0_2]) (t:=24) ?_;intro gb153 hg w6 hbox hb;have BK153:=Aside0.mk (hbox);have GW153 : Aside0 (w.heap.size ≤ gb153):=gsz hg;have GE153:=GW153;replace HB:=hbs hb;clear hb hbox hg)|((with_reducible refine gate_dst (N:=3) rfl ?_);refine box_ev (N:=3) (cs:=#[.slice A1_0 l1_0.length c1_0,.slice A1_1 l1_1.length c1_1]) (t:=26) ?_;intro gb154 hg w7 hbox hb;have BK154:=Aside0.mk (hbox);have GW154 : Aside0 (w.heap.size ≤ gb154):=gsz hg;have GE154:=GW154;have NB153_154:=nbl BK153 hg;have NB154_153:=nbr BK153 hg;replace BK153:=bkb BK153 hb;replace HB:=hbs hb;clear hb hbox hg)|((with_reducible refine gate_dst (N:=4) rfl ?_);refine box_ev (N:=4) (cs:=#[.int .i64 0,.int .i64 0,.slice none 0 0,.slice none 0 0,.slice none 0 0]) (t:=52) ?_;intro gb155 hg w8 hbox hb;have BK155:=Aside0.mk (hbox);have GW155 : Aside0 (w.heap.size ≤ gb155):=gsz hg;have GE155:=GW155;have NB153_155:=nbl BK153 hg;have NB155_153:=nbr BK153 hg;have NB154_155:=nbl BK154 hg;have NB155_154:=nbr BK154 hg;replace BK153:=bkb BK153 hb;replace BK154:=bkb BK154 hb;replace HB:=hbs hb;clear hb hbox hg;have hnb9:=NB153_154.out;have hnc9:=NB154_153.out;have hnb10:=NB153_155.out;have hnc10:=NB155_153.out;obtain ⟨_,_,_,_,_,_⟩:=cells3 BK153.out)|(go_at_call 65;(with_reducible refine (water_groundOf.calls k a0_0 a0_1 _ _ l0_2 t156 t157 t158 t161 t164 t167 _ ?_ ?_ A3.out).mono ?_);exact cq HR0_2;exact HC0_2.out;rintro e w12 ⟨v159,v162,v165,rfl,ho0,ho1,ho2,hb⟩;have HO160:=rlo ho0;have HO163:=rlo ho1;have HO166:=rlo ho2;replace BK153:=bkb BK153 hb;replace BK154:=bkb BK154 hb;replace BK155:=bkb BK155 hb;replace HB:=hbs hb)|((with_reducible refine gate_dst (N:=6) rfl ?_);refine box_ev (N:=6) (cs:=#[.int .i64 0,.int .i64 0,.slice none 0 0,.slice none 0 0,.slice none 0 0]) (t:=52) ?_;intro gb168 hg w13 hbox hb;have BK168:=Aside0.mk (hbox);have GW168 : Aside0 (w.heap.size ≤ gb168):=gsz hg;have GE168:=GW168;have NB153_168:=nbl BK153 hg;have NB168_153:=nbr BK153 hg;have NB154_168:=nbl BK154 hg;have NB168_154:=nbr BK154 hg;have NB155_168:=nbl BK155 hg;have NB168_155:=nbr BK155 hg;replace HO160:=rbw HO160 hb;replace HO163:=rbw HO163 hb;replace HO166:=rbw HO166 hb;replace BK153:=bkb BK153 hb;replace BK154:=bkb BK154 hb;replace BK155:=bkb BK155 hb;replace HB:=hbs hb;clear hb hbox hg;have hnb14:=NB168_153.out;have hnc14:=NB153_168.out;have hnb15:=NB168_154.out;have hnc15:=NB154_168.out;have hnb16:=NB168_155.out;have hnc16:=NB155_168.out;obtain ⟨_,_,_,_,_,_,_,_,_,_⟩:=cells5 BK168.out;obtain ⟨Ao18,co18,eo18⟩:=Kd.R_slice HO160.out;subst eo18;obtain ⟨Ao19,co19,eo19⟩:=Kd.R_slice HO163.out;subst eo19;obtain ⟨Ao20,co20,eo20⟩:=Kd.R_slice HO166.out;subst eo20;have hnb21:=NB154_155.out;have hnc21:=NB155_154.out;obtain ⟨_,_,_,_⟩:=cells2 BK154.out;obtain ⟨_,_,_,_,_,_⟩:=cells3 BK153.out))
 go_loopg [39] k (fun kq v39 w' => ∃ (x39_1 : Int) (x156000_1 : Int) (x156001_1 : Int),v39 = .int .i64 x39_1 ∧ Aside0 (water_check.l0 kq l1_0 (l1_0.length : Int) x39_1 a0_0 a0_1 l0_2 l1_0 l1_1 t156 t157 t158 t161 t164 = some (r1,r2,r3,r4,r5,r6)) ∧ Aside0 (kq ≤ k) ∧ Aside0 (Kd.R (Kd.int .i64) 3 w' w.heap.size (fun k_ => some k_ ≠ ((.slice Ao19 t161.length co19) : Value).ownBlock) (.slice Ao18 t158.length co18) t158) ∧ Aside0 (Kd.R (Kd.int .i64) 3 w' w.heap.size (fun k_ => some k_ ≠ ((.slice Ao18 t158.length co18) : Value).ownBlock) (.slice Ao19 t161.length co19) t161) ∧ Aside0 (Kd.R Kd.bool 4 w' w.heap.size (fun _ => True) (.slice Ao20 t164.length co20) t164) ∧ Aside0 (w'.heap[gb153]? = some (.cells #[.int .i64 a0_0,.int .i64 a0_1,(.slice A0_2 l0_2.length c0_2)] 24 (0,0))) ∧ Aside0 (w'.heap[gb154]? = some (.cells #[(.slice A1_0 l1_0.length c1_0),(.slice A1_1 l1_1.length c1_1)] 26 (0,0))) ∧ Aside0 (w'.heap[gb155]? = some (.cells #[.int .i64 x156000_1,.int .i64 x156001_1,(.slice none 0 0),(.slice none 0 0),(.slice none 0 0)] 52 (0,0))) ∧ Aside0 (w'.heap[gb168]? = some (.cells #[.int .i64 t156,.int .i64 t157,(.slice Ao18 t158.length co18),(.slice Ao19 t161.length co19),(.slice Ao20 t164.length co20)] 52 (0,0))) ∧ Aside0 (Below w.heap.size w w'))
 case atStart => exact ⟨(0),(0),(0),(by first|rfl|(simp;done)|(simp [*];done)),H',⟨Nat.le_refl _⟩,⟨by (with_reducible repeat (first|apply Kd.R_alloc|apply Kd.R_drewN|apply Kd.R_drew));exact Kd.R_mono (Kd.R_fars gb168 (Kd.R_types HO160.out BK168.out (by decide)) (fun _ hk => hk.2)) (fun _ hk => hk.1)⟩,⟨by (with_reducible repeat (first|apply Kd.R_alloc|apply Kd.R_drewN|apply Kd.R_drew));exact Kd.R_mono (Kd.R_fars gb168 (Kd.R_types HO163.out BK168.out (by decide)) (fun _ hk => hk.2)) (fun _ hk => hk.1)⟩,⟨by (with_reducible repeat (first|apply Kd.R_alloc|apply Kd.R_drewN|apply Kd.R_drew));exact Kd.R_mono (Kd.R_fars gb168 (Kd.R_types HO166.out BK168.out (by decide)) (fun _ hk => hk.2)) (fun _ hk => trivial)⟩,⟨by (with_reducible repeat (first|refine blk_drewN ?_ _|refine blk_drew ?_|refine blk_alloc ?_ _));refine blk_far ?_ NB153_168.out _;(with_reducible repeat (first|refine blk_drewN ?_ _|refine blk_drew ?_|refine blk_alloc ?_ _));refine blk_far ?_ NB153_168.out _;(with_reducible repeat (first|refine blk_drewN ?_ _|refine blk_drew ?_|refine blk_alloc ?_ _));refine blk_far ?_ NB153_168.out _;(with_reducible repeat (first|refine blk_drewN ?_ _|refine blk_drew ?_|refine blk_alloc ?_ _));refine blk_far ?_ NB153_168.out _;(with_reducible repeat (first|refine blk_drewN ?_ _|refine blk_drew ?_|refine blk_alloc ?_ _));refine blk_far ?_ NB153_168.out _;(with_reducible repeat (first|refine blk_drewN ?_ _|refine blk_drew ?_|refine blk_alloc ?_ _));exact BK153.out⟩,⟨by (with_reducible repeat (first|refine blk_drewN ?_ _|refine blk_drew ?_|refine blk_alloc ?_ _));refine blk_far ?_ NB154_168.out _;(with_reducible repeat (first|refine blk_drewN ?_ _|refine blk_drew ?_|refine blk_alloc ?_ _));refine blk_far ?_ NB154_168.out _;(with_reducible repeat (first|refine blk_drewN ?_ _|refine blk_drew ?_|refine blk_alloc ?_ _));refine blk_far ?_ NB154_168.out _;(with_reducible repeat (first|refine blk_drewN ?_ _|refine blk_drew ?_|refine blk_alloc ?_ _));refine blk_far ?_ NB154_168.out _;(with_reducible repeat (first|refine blk_drewN ?_ _|refine blk_drew ?_|refine blk_alloc ?_ _));refine blk_far ?_ NB154_168.out _;(with_reducible repeat (first|refine blk_drewN ?_ _|refine blk_drew ?_|refine blk_alloc ?_ _));exact BK154.out⟩,⟨by (with_reducible repeat (first|refine blk_drewN ?_ _|refine blk_drew ?_|refine blk_alloc ?_ _));refine blk_far ?_ NB155_168.out _;(with_reducible repeat (first|refine blk_drewN ?_ _|refine blk_drew ?_|refine blk_alloc ?_ _));refine blk_far ?_ NB155_168.out _;(with_reducible repeat (first|refine blk_drewN ?_ _|refine blk_drew ?_|refine blk_alloc ?_ _));refine blk_far ?_ NB155_168.out _;(with_reducible repeat (first|refine blk_drewN ?_ _|refine blk_drew ?_|refine blk_alloc ?_ _));refine blk_far ?_ NB155_168.out _;(with_reducible repeat (first|refine blk_drewN ?_ _|refine blk_drew ?_|refine blk_alloc ?_ _));refine blk_far ?_ NB155_168.out _;(with_reducible repeat (first|refine blk_drewN ?_ _|refine blk_drew ?_|refine blk_alloc ?_ _));exact BK155.out⟩,⟨by (with_reducible repeat (first|refine blk_drewN ?_ _|refine blk_drew ?_|refine blk_alloc ?_ _));exact blk_puts5 (blk_up BK168.out)⟩,⟨hb_⟩⟩
 case round =>
  clear H'
  obtain ⟨x39_1,x156000_1,x156001_1,rfl,HA,HK1,HO_169002,HO_169003,HO_169004,BK153,BK154,BK155,BK168,HB⟩:=hrel
  cases gk with
  | zero => exact absurd HA.out (by simp [water_check.l0])
  | succ k1 =>
   have H:=HA.out
   clear HA
   simp only [water_check.l0] at H
   by_cases c24 : x39_1 < (l1_0.length : Int)
   ·rw [if_pos c24] at H
    have c24b0 : decide (x39_1 < (l1_0.length : Int)) = true:=decide_eq_true c24
    clear c24
    replace H:=ifp_ H;obtain ⟨c25,H⟩:=H
    have c25b0 : decide (0 ≤ x39_1) = true:=decide_eq_true c25
    clear c25
    replace H:=ifp_ H;obtain ⟨c26,H⟩:=H
    have c26b0 : decide (x39_1 < (l1_0.length : Int)) = true:=decide_eq_true c26
    clear c26
    by_cases c27 : (rd l1_0 x39_1) < 0
    ·rw [if_pos c27] at H
     have c27b0 : decide ((rd l1_0 x39_1) < 0) = true:=decide_eq_true c27
     clear c27
     simp only [Option.some.injEq,Prod.mk.injEq] at H
     obtain ⟨rfl,rfl,rfl,rfl,rfl,rfl⟩:=H
     have p169 : 0 ≤ (x39_1 : Int):=of_decide_eq_true (by first|(with_reducible assumption)|assumption)
     have q169 : x39_1 < (l1_0.length : Int):=of_decide_eq_true (by first|(with_reducible assumption)|assumption)
     obtain ⟨ad169,e169,hx169_0⟩:=Kd.at_int HR1_0.out x39_1 p169 q169
     cases e169
     replace hx169_0:=(HB.out.cell (World.block_lt_of_cell? w _ hx169_0)).trans hx169_0
     replace p169:=eq_true p169
     replace q169:=eq_true q169
     have hnb28:=NB168_153.out
     have hnc28:=NB153_168.out
     have hnb29:=NB168_154.out
     have hnc29:=NB154_168.out
     have hnb30:=NB168_155.out
     have hnc30:=NB155_168.out
     obtain ⟨_,_,_,_,_,_,_,_,_,_⟩:=cells5 BK168.out
     have hnb32:=NB155_153.out
     have hnc32:=NB153_155.out
     have hnb33:=NB155_154.out
     have hnc33:=NB154_155.out
     obtain ⟨_,_,_,_,_,_,_,_,_,_⟩:=cells5 BK155.out
     go_wp2
     refine bodyPost_ret (results_ct rfl _ _ gb155 52 #[.int .i64 t156,.int .i64 t157,.slice Ao18 t158.length co18,.slice Ao19 t161.length co19,.slice Ao20 t164.length co20] (0,0) _ rfl (by (with_reducible repeat (first|refine blk_drewN ?_ _|refine blk_drew ?_|refine blk_alloc ?_ _));exact blk_puts5 (blk_up BK155.out)) Try.underlying52 rfl (by kernel_rfl)) rfl ?_
     exact ⟨_,_,_,er_,by (with_reducible repeat (first|apply Kd.R_alloc|apply Kd.R_drewN|apply Kd.R_drew));exact Kd.R_mono (Kd.R_fars gb155 (Kd.R_types HO_169002.out BK155.out (by decide)) (fun _ hk => hk.2)) (fun _ hk => hk.1),by (with_reducible repeat (first|apply Kd.R_alloc|apply Kd.R_drewN|apply Kd.R_drew));exact Kd.R_mono (Kd.R_fars gb155 (Kd.R_types HO_169003.out BK155.out (by decide)) (fun _ hk => hk.2)) (fun _ hk => hk.1),by (with_reducible repeat (first|apply Kd.R_alloc|apply Kd.R_drewN|apply Kd.R_drew));exact Kd.R_mono (Kd.R_fars gb155 (Kd.R_types HO_169004.out BK155.out (by decide)) (fun _ hk => hk.2)) (fun _ hk => trivial),hb_⟩
    rw [if_neg c27] at H
    have c27b0 : decide ((rd l1_0 x39_1) < 0) = false:=decide_eq_false c27
    clear c27
    by_cases c35 : (rd l1_0 x39_1) > 3
    ·rw [if_pos c35] at H
     have c35b0 : decide (3 < (rd l1_0 x39_1)) = true:=decide_eq_true c35
     clear c35
     simp only [Option.some.injEq,Prod.mk.injEq] at H
     obtain ⟨rfl,rfl,rfl,rfl,rfl,rfl⟩:=H
     have p169 : 0 ≤ (x39_1 : Int):=of_decide_eq_true (by first|(with_reducible assumption)|assumption)
     have q169 : x39_1 < (l1_0.length : Int):=of_decide_eq_true (by first|(with_reducible assumption)|assumption)
     obtain ⟨ad169,e169,hx169_0⟩:=Kd.at_int HR1_0.out x39_1 p169 q169
     cases e169
     replace hx169_0:=(HB.out.cell (World.block_lt_of_cell? w _ hx169_0)).trans hx169_0
     replace p169:=eq_true p169
     replace q169:=eq_true q169
     have hnb36:=NB168_153.out
     have hnc36:=NB153_168.out
     have hnb37:=NB168_154.out
     have hnc37:=NB154_168.out
     have hnb38:=NB168_155.out
     have hnc38:=NB155_168.out
     obtain ⟨_,_,_,_,_,_,_,_,_,_⟩:=cells5 BK168.out
     have hnb40:=NB155_153.out
     have hnc40:=NB153_155.out
     have hnb41:=NB155_154.out
     have hnc41:=NB154_155.out
     obtain ⟨_,_,_,_,_,_,_,_,_,_⟩:=cells5 BK155.out
     go_wp2
     refine bodyPost_ret (results_ct rfl _ _ gb155 52 #[.int .i64 t156,.int .i64 t157,.slice Ao18 t158.length co18,.slice Ao19 t161.length co19,.slice Ao20 t164.length co20] (0,0) _ rfl (by (with_reducible repeat (first|refine blk_drewN ?_ _|refine blk_drew ?_|refine blk_alloc ?_ _));exact blk_puts5 (blk_up BK155.out)) Try.underlying52 rfl (by kernel_rfl)) rfl ?_
     exact ⟨_,_,_,er_,by (with_reducible repeat (first|apply Kd.R_alloc|apply Kd.R_drewN|apply Kd.R_drew));exact Kd.R_mono (Kd.R_fars gb155 (Kd.R_types HO_169002.out BK155.out (by decide)) (fun _ hk => hk.2)) (fun _ hk => hk.1),by (with_reducible repeat (first|apply Kd.R_alloc|apply Kd.R_drewN|apply Kd.R_drew));exact Kd.R_mono (Kd.R_fars gb155 (Kd.R_types HO_169003.out BK155.out (by decide)) (fun _ hk => hk.2)) (fun _ hk => hk.1),by (with_reducible repeat (first|apply Kd.R_alloc|apply Kd.R_drewN|apply Kd.R_drew));exact Kd.R_mono (Kd.R_fars gb155 (Kd.R_types HO_169004.out BK155.out (by decide)) (fun _ hk => hk.2)) (fun _ hk => trivial),hb_⟩
    ·rw [if_neg c35] at H
     have c35b0 : decide (3 < (rd l1_0 x39_1)) = false:=decide_eq_false c35
     clear c35
     have H':=Aside0.mk H
     clear H
     have p169 : 0 ≤ (x39_1 : Int):=of_decide_eq_true (by first|(with_reducible assumption)|assumption)
     have q169 : x39_1 < (l1_0.length : Int):=of_decide_eq_true (by first|(with_reducible assumption)|assumption)
     obtain ⟨ad169,e169,hx169_0⟩:=Kd.at_int HR1_0.out x39_1 p169 q169
     cases e169
     replace hx169_0:=(HB.out.cell (World.block_lt_of_cell? w _ hx169_0)).trans hx169_0
     replace p169:=eq_true p169
     replace q169:=eq_true q169
     go_wp2
     go_roundg k1
     case measure => have:=HK1.out;omega
     case rel => exact ⟨(wrap64 (x39_1 + 1)),(x156000_1),(x156001_1),(by first|rfl|(simp;done)|(simp [*];done)),H',⟨by have:=HK1.out;omega⟩,⟨Kd.R_up HO_169002.out⟩,⟨Kd.R_up HO_169003.out⟩,⟨Kd.R_up HO_169004.out⟩,⟨blk_up BK153.out⟩,⟨blk_up BK154.out⟩,⟨blk_up BK155.out⟩,⟨blk_up BK168.out⟩,⟨hb_⟩⟩
   rw [if_neg c24] at H
   have c24b0 : decide (x39_1 < (l1_0.length : Int)) = false:=decide_eq_false c24
   clear c24
   have H':=Aside0.mk H
   clear H
   go_wp2
   go_loopg [10] k1 (fun kq v10 w' => ∃ (x10_2 : Int) (x156000_2 : Int) (x156001_2 : Int),v10 = .int .i64 x10_2 ∧ Aside0 (water_check.l1 kq x10_2 a0_0 a0_1 l0_2 l1_0 l1_1 t156 t157 t158 t161 t164 = some (r1,r2,r3,r4,r5,r6)) ∧ Aside0 (kq ≤ k1) ∧ Aside0 (Kd.R (Kd.int .i64) 3 w' w.heap.size (fun k_ => some k_ ≠ ((.slice Ao19 t161.length co19) : Value).ownBlock) (.slice Ao18 t158.length co18) t158) ∧ Aside0 (Kd.R (Kd.int .i64) 3 w' w.heap.size (fun k_ => some k_ ≠ ((.slice Ao18 t158.length co18) : Value).ownBlock) (.slice Ao19 t161.length co19) t161) ∧ Aside0 (Kd.R Kd.bool 4 w' w.heap.size (fun _ => True) (.slice Ao20 t164.length co20) t164) ∧ Aside0 (w'.heap[gb153]? = some (.cells #[.int .i64 a0_0,.int .i64 a0_1,(.slice A0_2 l0_2.length c0_2)] 24 (0,0))) ∧ Aside0 (w'.heap[gb154]? = some (.cells #[(.slice A1_0 l1_0.length c1_0),(.slice A1_1 l1_1.length c1_1)] 26 (0,0))) ∧ Aside0 (w'.heap[gb155]? = some (.cells #[.int .i64 x156000_2,.int .i64 x156001_2,(.slice none 0 0),(.slice none 0 0),(.slice none 0 0)] 52 (0,0))) ∧ Aside0 (w'.heap[gb168]? = some (.cells #[.int .i64 t156,.int .i64 t157,(.slice Ao18 t158.length co18),(.slice Ao19 t161.length co19),(.slice Ao20 t164.length co20)] 52 (0,0))) ∧ Aside0 (Below w.heap.size w w'))
   case atStart => exact ⟨(1),(x156000_1),(x156001_1),(by first|rfl|(simp;done)|(simp [*];done)),H',⟨Nat.le_refl _⟩,⟨Kd.R_up HO_169002.out⟩,⟨Kd.R_up HO_169003.out⟩,⟨Kd.R_up HO_169004.out⟩,⟨blk_up BK153.out⟩,⟨blk_up BK154.out⟩,⟨blk_up BK155.out⟩,⟨blk_up BK168.out⟩,⟨hb_⟩⟩
   case round =>
    clear H'
    obtain ⟨x10_2,x156000_2,x156001_2,rfl,HA,HK2,HO_169002,HO_169003,HO_169004,BK153,BK154,BK155,BK168,HB⟩:=hrel
    cases gk with
    | zero => exact absurd HA.out (by simp [water_check.l1])
    | succ k2 =>
     have H:=HA.out
     clear HA
     simp only [water_check.l1] at H
     by_cases c43 : x10_2 < (l1_1.length : Int)
     ·rw [if_pos c43] at H
      have c43b0 : decide (x10_2 < (l1_1.length : Int)) = true:=decide_eq_true c43
      clear c43
      replace H:=ifp_ H;obtain ⟨c44,H⟩:=H
      have c44b0 : decide (0 ≤ x10_2) = true:=decide_eq_true c44
      clear c44
      obtain ⟨ji45,hji45⟩ : ∃ j_ : Int,(wrap64 (x10_2 - 1)) = j_:=⟨_,rfl⟩
      replace H : (if 0 ≤ (ji45) then (if (ji45) < (l1_1.length : Int) then (if (rd l1_1 x10_2) ≤ (rd l1_1 (ji45)) then (some (t156,t157,t158,t161,t164,1)) else (water_check.l1 k2 (wrap64 (x10_2 + 1)) a0_0 a0_1 l0_2 l1_0 l1_1 t156 t157 t158 t161 t164)) else (none)) else (none)) = some (r1,r2,r3,r4,r5,r6):=by first|(rw [hji45] at H;exact H)|(simp only [hji45] at H ⊢;exact H)
      have hji45w : (IntKind.i64.wrap (x10_2 - 1)) = ji45:=(i64_w _).trans hji45
      replace H:=ifp_ H;obtain ⟨c46,H⟩:=H
      have c46b0 : decide (0 ≤ (ji45)) = true:=decide_eq_true c46
      clear c46
      replace H:=ifp_ H;obtain ⟨c47,H⟩:=H
      have c47b0 : decide ((ji45) < (l1_1.length : Int)) = true:=decide_eq_true c47
      clear c47
      by_cases c48 : (rd l1_1 x10_2) ≤ (rd l1_1 (ji45))
      ·rw [if_pos c48] at H
       have c48b0 : decide ((rd l1_1 x10_2) ≤ (rd l1_1 (ji45))) = true:=decide_eq_true c48
       clear c48
       simp only [Option.some.injEq,Prod.mk.injEq] at H
       obtain ⟨rfl,rfl,rfl,rfl,rfl,rfl⟩:=H
       have hnb49:=NB154_153.out
       have hnc49:=NB153_154.out
       have hnb50:=NB154_155.out
       have hnc50:=NB155_154.out
       have hnb51:=NB154_168.out
       have hnc51:=NB168_154.out
       obtain ⟨_,_,_,_⟩:=cells2 BK154.out
       have p170 : 0 ≤ (x10_2 : Int):=of_decide_eq_true (by first|(with_reducible assumption)|assumption)
       have q170 : x10_2 < (l1_1.length : Int):=of_decide_eq_true (by first|(with_reducible assumption)|assumption)
       obtain ⟨ad170,e170,hx170_0⟩:=Kd.at_int HR1_1.out x10_2 p170 q170
       cases e170
       replace hx170_0:=(HB.out.cell (World.block_lt_of_cell? w _ hx170_0)).trans hx170_0
       replace p170:=eq_true p170
       replace q170:=eq_true q170
       have p171 : 0 ≤ ((ji45) : Int):=of_decide_eq_true (by first|(with_reducible assumption)|assumption)
       have q171 : (ji45) < (l1_1.length : Int):=of_decide_eq_true (by first|(with_reducible assumption)|assumption)
       obtain ⟨ad171,e171,hx171_0⟩:=Kd.at_int HR1_1.out (ji45) p171 q171
       obtain rfl : ad170 = ad171:=(by injection e171)
       replace hx171_0:=(HB.out.cell (World.block_lt_of_cell? w _ hx171_0)).trans hx171_0
       replace p171:=eq_true p171
       replace q171:=eq_true q171
       have hnb53:=NB168_153.out
       have hnc53:=NB153_168.out
       have hnb54:=NB168_155.out
       have hnc54:=NB155_168.out
       obtain ⟨_,_,_,_,_,_,_,_,_,_⟩:=cells5 BK168.out
       have hnb56:=NB155_153.out
       have hnc56:=NB153_155.out
       obtain ⟨_,_,_,_,_,_,_,_,_,_⟩:=cells5 BK155.out
       go_wp2
       go_quiet (fail)
       go_wp2
       refine bodyPost_ret (results_ct rfl _ _ gb155 52 #[.int .i64 t156,.int .i64 t157,.slice Ao18 t158.length co18,.slice Ao19 t161.length co19,.slice Ao20 t164.length co20] (0,0) _ rfl (by (with_reducible repeat (first|refine blk_drewN ?_ _|refine blk_drew ?_|refine blk_alloc ?_ _));exact blk_puts5 (blk_up BK155.out)) Try.underlying52 rfl (by kernel_rfl)) rfl ?_
       exact ⟨_,_,_,by first|rfl|(simp [errW_none,errW_some] <;> rfl)|(simp only [← hji45];first|rfl|(simp [errW_none,errW_some] <;> rfl))|(simp [*,errW_none,errW_some] <;> rfl),by (with_reducible repeat (first|apply Kd.R_alloc|apply Kd.R_drewN|apply Kd.R_drew));exact Kd.R_mono (Kd.R_fars gb155 (Kd.R_types HO_169002.out BK155.out (by decide)) (fun _ hk => hk.2)) (fun _ hk => hk.1),by (with_reducible repeat (first|apply Kd.R_alloc|apply Kd.R_drewN|apply Kd.R_drew));exact Kd.R_mono (Kd.R_fars gb155 (Kd.R_types HO_169003.out BK155.out (by decide)) (fun _ hk => hk.2)) (fun _ hk => hk.1),by (with_reducible repeat (first|apply Kd.R_alloc|apply Kd.R_drewN|apply Kd.R_drew));exact Kd.R_mono (Kd.R_fars gb155 (Kd.R_types HO_169004.out BK155.out (by decide)) (fun _ hk => hk.2)) (fun _ hk => trivial),hb_⟩
      ·rw [if_neg c48] at H
       have c48b0 : decide ((rd l1_1 x10_2) ≤ (rd l1_1 (ji45))) = false:=decide_eq_false c48
       clear c48
       have H':=Aside0.mk H
       clear H
       have hnb58:=NB154_153.out
       have hnc58:=NB153_154.out
       have hnb59:=NB154_155.out
       have hnc59:=NB155_154.out
       have hnb60:=NB154_168.out
       have hnc60:=NB168_154.out
       obtain ⟨_,_,_,_⟩:=cells2 BK154.out
       have p170 : 0 ≤ (x10_2 : Int):=of_decide_eq_true (by first|(with_reducible assumption)|assumption)
       have q170 : x10_2 < (l1_1.length : Int):=of_decide_eq_true (by first|(with_reducible assumption)|assumption)
       obtain ⟨ad170,e170,hx170_0⟩:=Kd.at_int HR1_1.out x10_2 p170 q170
       cases e170
       replace hx170_0:=(HB.out.cell (World.block_lt_of_cell? w _ hx170_0)).trans hx170_0
       replace p170:=eq_true p170
       replace q170:=eq_true q170
       have p171 : 0 ≤ ((ji45) : Int):=of_decide_eq_true (by first|(with_reducible assumption)|assumption)
       have q171 : (ji45) < (l1_1.length : Int):=of_decide_eq_true (by first|(with_reducible assumption)|assumption)
       obtain ⟨ad171,e171,hx171_0⟩:=Kd.at_int HR1_1.out (ji45) p171 q171
       obtain rfl : ad170 = ad171:=(by injection e171)
       replace hx171_0:=(HB.out.cell (World.block_lt_of_cell? w _ hx171_0)).trans hx171_0
       replace p171:=eq_true p171
       replace q171:=eq_true q171
       go_wp2
       go_quiet (fail)
       go_wp2
       go_roundg k2
       case measure => have:=HK1.out;have:=HK2.out;omega
       case rel => exact ⟨(wrap64 (x10_2 + 1)),(x156000_2),(x156001_2),(by first|rfl|(simp;done)|(simp [*];done)),H',⟨by have:=HK1.out;have:=HK2.out;omega⟩,⟨Kd.R_up HO_169002.out⟩,⟨Kd.R_up HO_169003.out⟩,⟨Kd.R_up HO_169004.out⟩,⟨blk_up BK153.out⟩,⟨blk_up BK154.out⟩,⟨blk_up BK155.out⟩,⟨blk_up BK168.out⟩,⟨hb_⟩⟩
     rw [if_neg c43] at H
     have c43b0 : decide (x10_2 < (l1_1.length : Int)) = false:=decide_eq_false c43
     clear c43
     have H':=Aside0.mk H
     clear H
     have hnb62:=NB154_153.out
     have hnc62:=NB153_154.out
     have hnb63:=NB154_155.out
     have hnc63:=NB155_154.out
     have hnb64:=NB154_168.out
     have hnc64:=NB168_154.out
     obtain ⟨_,_,_,_⟩:=cells2 BK154.out
     go_wp2
     go_loopg [74] k2 (fun kq v74 w' => ∃ (x74_3 : Int) (x156000_3 : Int) (x156001_3 : Int),v74 = .int .i64 x74_3 ∧ Aside0 (water_check.l2 kq l1_1 (l1_1.length : Int) x74_3 a0_0 a0_1 l0_2 l1_0 l1_1 t156 t157 t158 t161 t164 = some (r1,r2,r3,r4,r5,r6)) ∧ Aside0 (kq ≤ k2) ∧ Aside0 (Kd.R (Kd.int .i64) 3 w' w.heap.size (fun k_ => some k_ ≠ ((.slice Ao19 t161.length co19) : Value).ownBlock) (.slice Ao18 t158.length co18) t158) ∧ Aside0 (Kd.R (Kd.int .i64) 3 w' w.heap.size (fun k_ => some k_ ≠ ((.slice Ao18 t158.length co18) : Value).ownBlock) (.slice Ao19 t161.length co19) t161) ∧ Aside0 (Kd.R Kd.bool 4 w' w.heap.size (fun _ => True) (.slice Ao20 t164.length co20) t164) ∧ Aside0 (w'.heap[gb153]? = some (.cells #[.int .i64 a0_0,.int .i64 a0_1,(.slice A0_2 l0_2.length c0_2)] 24 (0,0))) ∧ Aside0 (w'.heap[gb154]? = some (.cells #[(.slice A1_0 l1_0.length c1_0),(.slice A1_1 l1_1.length c1_1)] 26 (0,0))) ∧ Aside0 (w'.heap[gb155]? = some (.cells #[.int .i64 x156000_3,.int .i64 x156001_3,(.slice none 0 0),(.slice none 0 0),(.slice none 0 0)] 52 (0,0))) ∧ Aside0 (w'.heap[gb168]? = some (.cells #[.int .i64 t156,.int .i64 t157,(.slice Ao18 t158.length co18),(.slice Ao19 t161.length co19),(.slice Ao20 t164.length co20)] 52 (0,0))) ∧ Aside0 (Below w.heap.size w w'))
     case atStart => exact ⟨(0),(x156000_2),(x156001_2),(by first|rfl|(simp;done)|(simp [*];done)),H',⟨Nat.le_refl _⟩,⟨Kd.R_up HO_169002.out⟩,⟨Kd.R_up HO_169003.out⟩,⟨Kd.R_up HO_169004.out⟩,⟨blk_up BK153.out⟩,⟨blk_up BK154.out⟩,⟨blk_up BK155.out⟩,⟨blk_up BK168.out⟩,⟨hb_⟩⟩
     case round =>
      clear H'
      obtain ⟨x74_3,x156000_3,x156001_3,rfl,HA,HK3,HO_169002,HO_169003,HO_169004,BK153,BK154,BK155,BK168,HB⟩:=hrel
      cases gk with
      | zero => exact absurd HA.out (by simp [water_check.l2])
      | succ k3 =>
       have H:=HA.out
       clear HA
       simp only [water_check.l2] at H
       by_cases c66 : x74_3 < (l1_1.length : Int)
       ·rw [if_pos c66] at H
        have c66b0 : decide (x74_3 < (l1_1.length : Int)) = true:=decide_eq_true c66
        clear c66
        replace H:=ifp_ H;obtain ⟨c67,H⟩:=H
        have c67b0 : decide (0 ≤ x74_3) = true:=decide_eq_true c67
        clear c67
        replace H:=ifp_ H;obtain ⟨c68,H⟩:=H
        have c68b0 : decide (x74_3 < (l1_1.length : Int)) = true:=decide_eq_true c68
        clear c68
        by_cases c69 : (rd l1_1 x74_3) < 0
        ·rw [if_pos c69] at H
         have c69b0 : decide ((rd l1_1 x74_3) < 0) = true:=decide_eq_true c69
         clear c69
         simp only [Option.some.injEq,Prod.mk.injEq] at H
         obtain ⟨rfl,rfl,rfl,rfl,rfl,rfl⟩:=H
         have p172 : 0 ≤ (x74_3 : Int):=of_decide_eq_true (by first|(with_reducible assumption)|assumption)
         have q172 : x74_3 < (l1_1.length : Int):=of_decide_eq_true (by first|(with_reducible assumption)|assumption)
         obtain ⟨ad172,e172,hx172_0⟩:=Kd.at_int HR1_1.out x74_3 p172 q172
         cases e172
         replace hx172_0:=(HB.out.cell (World.block_lt_of_cell? w _ hx172_0)).trans hx172_0
         replace p172:=eq_true p172
         replace q172:=eq_true q172
         have hnb70:=NB168_153.out
         have hnc70:=NB153_168.out
         have hnb71:=NB168_154.out
         have hnc71:=NB154_168.out
         have hnb72:=NB168_155.out
         have hnc72:=NB155_168.out
         obtain ⟨_,_,_,_,_,_,_,_,_,_⟩:=cells5 BK168.out
         have hnb74:=NB155_153.out
         have hnc74:=NB153_155.out
         have hnb75:=NB155_154.out
         have hnc75:=NB154_155.out
         obtain ⟨_,_,_,_,_,_,_,_,_,_⟩:=cells5 BK155.out
         go_wp2
         refine bodyPost_ret (results_ct rfl _ _ gb155 52 #[.int .i64 t156,.int .i64 t157,.slice Ao18 t158.length co18,.slice Ao19 t161.length co19,.slice Ao20 t164.length co20] (0,0) _ rfl (by (with_reducible repeat (first|refine blk_drewN ?_ _|refine blk_drew ?_|refine blk_alloc ?_ _));exact blk_puts5 (blk_up BK155.out)) Try.underlying52 rfl (by kernel_rfl)) rfl ?_
         exact ⟨_,_,_,er_,by (with_reducible repeat (first|apply Kd.R_alloc|apply Kd.R_drewN|apply Kd.R_drew));exact Kd.R_mono (Kd.R_fars gb155 (Kd.R_types HO_169002.out BK155.out (by decide)) (fun _ hk => hk.2)) (fun _ hk => hk.1),by (with_reducible repeat (first|apply Kd.R_alloc|apply Kd.R_drewN|apply Kd.R_drew));exact Kd.R_mono (Kd.R_fars gb155 (Kd.R_types HO_169003.out BK155.out (by decide)) (fun _ hk => hk.2)) (fun _ hk => hk.1),by (with_reducible repeat (first|apply Kd.R_alloc|apply Kd.R_drewN|apply Kd.R_drew));exact Kd.R_mono (Kd.R_fars gb155 (Kd.R_types HO_169004.out BK155.out (by decide)) (fun _ hk => hk.2)) (fun _ hk => trivial),hb_⟩
        rw [if_neg c69] at H
        have c69b0 : decide ((rd l1_1 x74_3) < 0) = false:=decide_eq_false c69
        clear c69
        by_cases c77 : (rd l1_1 x74_3) ≥ (wrap64 (a0_0 * a0_1))
        ·rw [if_pos c77] at H
         have c77b0 : decide ((wrap64 (a0_0 * a0_1)) ≤ (rd l1_1 x74_3)) = true:=decide_eq_true c77
         clear c77
         simp only [Option.some.injEq,Prod.mk.injEq] at H
         obtain ⟨rfl,rfl,rfl,rfl,rfl,rfl⟩:=H
         have p172 : 0 ≤ (x74_3 : Int):=of_decide_eq_true (by first|(with_reducible assumption)|assumption)
         have q172 : x74_3 < (l1_1.length : Int):=of_decide_eq_true (by first|(with_reducible assumption)|assumption)
         obtain ⟨ad172,e172,hx172_0⟩:=Kd.at_int HR1_1.out x74_3 p172 q172
         cases e172
         replace hx172_0:=(HB.out.cell (World.block_lt_of_cell? w _ hx172_0)).trans hx172_0
         replace p172:=eq_true p172
         replace q172:=eq_true q172
         have hnb78:=NB153_154.out
         have hnc78:=NB154_153.out
         have hnb79:=NB153_155.out
         have hnc79:=NB155_153.out
         have hnb80:=NB153_168.out
         have hnc80:=NB168_153.out
         obtain ⟨_,_,_,_,_,_⟩:=cells3 BK153.out
         have hnb82:=NB168_154.out
         have hnc82:=NB154_168.out
         have hnb83:=NB168_155.out
         have hnc83:=NB155_168.out
         obtain ⟨_,_,_,_,_,_,_,_,_,_⟩:=cells5 BK168.out
         have hnb85:=NB155_154.out
         have hnc85:=NB154_155.out
         obtain ⟨_,_,_,_,_,_,_,_,_,_⟩:=cells5 BK155.out
         go_wp2
         refine bodyPost_ret (results_ct rfl _ _ gb155 52 #[.int .i64 t156,.int .i64 t157,.slice Ao18 t158.length co18,.slice Ao19 t161.length co19,.slice Ao20 t164.length co20] (0,0) _ rfl (by (with_reducible repeat (first|refine blk_drewN ?_ _|refine blk_drew ?_|refine blk_alloc ?_ _));exact blk_puts5 (blk_up BK155.out)) Try.underlying52 rfl (by kernel_rfl)) rfl ?_
         exact ⟨_,_,_,er_,by (with_reducible repeat (first|apply Kd.R_alloc|apply Kd.R_drewN|apply Kd.R_drew));exact Kd.R_mono (Kd.R_fars gb155 (Kd.R_types HO_169002.out BK155.out (by decide)) (fun _ hk => hk.2)) (fun _ hk => hk.1),by (with_reducible repeat (first|apply Kd.R_alloc|apply Kd.R_drewN|apply Kd.R_drew));exact Kd.R_mono (Kd.R_fars gb155 (Kd.R_types HO_169003.out BK155.out (by decide)) (fun _ hk => hk.2)) (fun _ hk => hk.1),by (with_reducible repeat (first|apply Kd.R_alloc|apply Kd.R_drewN|apply Kd.R_drew));exact Kd.R_mono (Kd.R_fars gb155 (Kd.R_types HO_169004.out BK155.out (by decide)) (fun _ hk => hk.2)) (fun _ hk => trivial),hb_⟩
        ·rw [if_neg c77] at H
         have c77b0 : decide ((wrap64 (a0_0 * a0_1)) ≤ (rd l1_1 x74_3)) = false:=decide_eq_false c77
         clear c77
         have H':=Aside0.mk H
         clear H
         have p172 : 0 ≤ (x74_3 : Int):=of_decide_eq_true (by first|(with_reducible assumption)|assumption)
         have q172 : x74_3 < (l1_1.length : Int):=of_decide_eq_true (by first|(with_reducible assumption)|assumption)
         obtain ⟨ad172,e172,hx172_0⟩:=Kd.at_int HR1_1.out x74_3 p172 q172
         cases e172
         replace hx172_0:=(HB.out.cell (World.block_lt_of_cell? w _ hx172_0)).trans hx172_0
         replace p172:=eq_true p172
         replace q172:=eq_true q172
         have hnb87:=NB153_154.out
         have hnc87:=NB154_153.out
         have hnb88:=NB153_155.out
         have hnc88:=NB155_153.out
         have hnb89:=NB153_168.out
         have hnc89:=NB168_153.out
         obtain ⟨_,_,_,_,_,_⟩:=cells3 BK153.out
         go_wp2
         go_roundg k3
         case measure => have:=HK1.out;have:=HK2.out;have:=HK3.out;omega
         case rel => exact ⟨(wrap64 (x74_3 + 1)),(x156000_3),(x156001_3),(by first|rfl|(simp;done)|(simp [*];done)),H',⟨by have:=HK1.out;have:=HK2.out;have:=HK3.out;omega⟩,⟨Kd.R_up HO_169002.out⟩,⟨Kd.R_up HO_169003.out⟩,⟨Kd.R_up HO_169004.out⟩,⟨blk_up BK153.out⟩,⟨blk_up BK154.out⟩,⟨blk_up BK155.out⟩,⟨blk_up BK168.out⟩,⟨hb_⟩⟩
       rw [if_neg c66] at H
       have c66b0 : decide (x74_3 < (l1_1.length : Int)) = false:=decide_eq_false c66
       clear c66
       have H':=Aside0.mk H
       clear H
       have hnb91:=NB154_153.out
       have hnc91:=NB153_154.out
       have hnb92:=NB154_155.out
       have hnc92:=NB155_154.out
       have hnb93:=NB154_168.out
       have hnc93:=NB168_154.out
       obtain ⟨_,_,_,_⟩:=cells2 BK154.out
       go_wp2
       go_loopg [94] k3 (fun kq v94 w' => ∃ (x94_4 : Int) (x156000_4 : Int) (x156001_4 : Int),v94 = .int .i64 x94_4 ∧ Aside0 (water_check.l3 kq l1_0 (l1_0.length : Int) x94_4 l1_0 l1_1 t156 t157 t158 t161 t164 = some (r1,r2,r3,r4,r5,r6)) ∧ Aside0 (kq ≤ k3) ∧ Aside0 (Kd.R (Kd.int .i64) 3 w' w.heap.size (fun k_ => some k_ ≠ ((.slice Ao19 t161.length co19) : Value).ownBlock) (.slice Ao18 t158.length co18) t158) ∧ Aside0 (Kd.R (Kd.int .i64) 3 w' w.heap.size (fun k_ => some k_ ≠ ((.slice Ao18 t158.length co18) : Value).ownBlock) (.slice Ao19 t161.length co19) t161) ∧ Aside0 (Kd.R Kd.bool 4 w' w.heap.size (fun _ => True) (.slice Ao20 t164.length co20) t164) ∧ Aside0 (w'.heap[gb153]? = some (.cells #[.int .i64 a0_0,.int .i64 a0_1,(.slice A0_2 l0_2.length c0_2)] 24 (0,0))) ∧ Aside0 (w'.heap[gb154]? = some (.cells #[(.slice A1_0 l1_0.length c1_0),(.slice A1_1 l1_1.length c1_1)] 26 (0,0))) ∧ Aside0 (w'.heap[gb155]? = some (.cells #[.int .i64 x156000_4,.int .i64 x156001_4,(.slice none 0 0),(.slice none 0 0),(.slice none 0 0)] 52 (0,0))) ∧ Aside0 (w'.heap[gb168]? = some (.cells #[.int .i64 t156,.int .i64 t157,(.slice Ao18 t158.length co18),(.slice Ao19 t161.length co19),(.slice Ao20 t164.length co20)] 52 (0,0))) ∧ Aside0 (Below w.heap.size w w'))
       case atStart => exact ⟨(0),(x156000_3),(x156001_3),(by first|rfl|(simp;done)|(simp [*];done)),H',⟨Nat.le_refl _⟩,⟨Kd.R_up HO_169002.out⟩,⟨Kd.R_up HO_169003.out⟩,⟨Kd.R_up HO_169004.out⟩,⟨blk_up BK153.out⟩,⟨blk_up BK154.out⟩,⟨blk_up BK155.out⟩,⟨blk_up BK168.out⟩,⟨hb_⟩⟩
       case round =>
        clear H'
        obtain ⟨x94_4,x156000_4,x156001_4,rfl,HA,HK4,HO_169002,HO_169003,HO_169004,BK153,BK154,BK155,BK168,HB⟩:=hrel
        cases gk with
        | zero => exact absurd HA.out (by simp [water_check.l3])
        | succ k4 =>
         have H:=HA.out
         clear HA
         simp only [water_check.l3] at H
         by_cases c95 : x94_4 < (l1_0.length : Int)
         ·rw [if_pos c95] at H
          have c95b0 : decide (x94_4 < (l1_0.length : Int)) = true:=decide_eq_true c95
          clear c95
          replace H:=ifp_ H;obtain ⟨c96,H⟩:=H
          have c96b0 : decide (0 ≤ x94_4) = true:=decide_eq_true c96
          clear c96
          replace H:=ifp_ H;obtain ⟨c97,H⟩:=H
          have c97b0 : decide (x94_4 < (l1_0.length : Int)) = true:=decide_eq_true c97
          clear c97
          replace H:=Option.bind_eq_some_iff.mp H
          obtain ⟨t174,A980,H⟩:=H
          replace H : (if t174 = 0 then (water_check.l3 k4 l1_0 (l1_0.length : Int) (wrap64 (x94_4 + 1)) l1_0 l1_1 t156 t157 t158 t161 t164) else (some (t156,t157,t158,t161,t164,9))) = some (r1,r2,r3,r4,r5,r6):=H
          have A98:=Aside0.mk A980
          clear A980
          by_cases c99 : t174 = 0
          ·rw [if_pos c99] at H
           have c99b0:=bqt c99
           have c99b1:=bnf c99
           clear c99
           have H':=Aside0.mk H
           clear H
           have p173 : 0 ≤ (x94_4 : Int):=of_decide_eq_true (by first|(with_reducible assumption)|assumption)
           have q173 : x94_4 < (l1_0.length : Int):=of_decide_eq_true (by first|(with_reducible assumption)|assumption)
           obtain ⟨ad173,e173,hx173_0⟩:=Kd.at_int HR1_0.out x94_4 p173 q173
           cases e173
           replace hx173_0:=(HB.out.cell (World.block_lt_of_cell? w _ hx173_0)).trans hx173_0
           replace p173:=eq_true p173
           replace q173:=eq_true q173
           have hnb100:=NB168_153.out
           have hnc100:=NB153_168.out
           have hnb101:=NB168_154.out
           have hnc101:=NB154_168.out
           have hnb102:=NB168_155.out
           have hnc102:=NB155_168.out
           obtain ⟨_,_,_,_,_,_,_,_,_,_⟩:=cells5 BK168.out
           go_wp2_with (first|(go_at_call 52;(with_reducible refine (water_ground_may.calls k4 t156 t157 _ _ t158 _ _ t161 _ _ t164 x94_4 (rd l1_0 x94_4) t174 _ ?_ ?_ ?_ ?_ ?_ ?_ A98.out).mono ?_);exact Kd.C_up (Kd.R_reads' HO_169002.out).2.2;exact (Kd.R_reads' HO_169002.out).2.1;exact Kd.C_up (Kd.R_reads' HO_169003.out).2.2;exact (Kd.R_reads' HO_169003.out).2.1;exact Kd.C_up (Kd.R_reads' HO_169004.out).2.2;exact (Kd.R_reads' HO_169004.out).2.1;rintro e w104 ⟨rfl,hb⟩;replace HO_169002:=rbw HO_169002 hb;replace HO_169003:=rbw HO_169003 hb;replace HO_169004:=rbw HO_169004 hb;replace BK153:=bkb BK153 hb;replace BK154:=bkb BK154 hb;replace BK155:=bkb BK155 hb;replace BK168:=bkb BK168 hb;replace HB:=hbs hb))
           go_roundg k4
           case measure => have:=HK1.out;have:=HK2.out;have:=HK3.out;have:=HK4.out;omega
           case rel => exact ⟨(wrap64 (x94_4 + 1)),(x156000_4),(x156001_4),(by first|rfl|(simp;done)|(simp [*];done)),H',⟨by have:=HK1.out;have:=HK2.out;have:=HK3.out;have:=HK4.out;omega⟩,⟨Kd.R_up HO_169002.out⟩,⟨Kd.R_up HO_169003.out⟩,⟨Kd.R_up HO_169004.out⟩,⟨blk_up BK153.out⟩,⟨blk_up BK154.out⟩,⟨blk_up BK155.out⟩,⟨blk_up BK168.out⟩,⟨hb_⟩⟩
          ·rw [if_neg c99] at H
           have c99b0:=bqf c99
           have c99b1:=bnt c99
           simp only [Option.some.injEq,Prod.mk.injEq] at H
           obtain ⟨rfl,rfl,rfl,rfl,rfl,rfl⟩:=H
           have p173 : 0 ≤ (x94_4 : Int):=of_decide_eq_true (by first|(with_reducible assumption)|assumption)
           have q173 : x94_4 < (l1_0.length : Int):=of_decide_eq_true (by first|(with_reducible assumption)|assumption)
           obtain ⟨ad173,e173,hx173_0⟩:=Kd.at_int HR1_0.out x94_4 p173 q173
           cases e173
           replace hx173_0:=(HB.out.cell (World.block_lt_of_cell? w _ hx173_0)).trans hx173_0
           replace p173:=eq_true p173
           replace q173:=eq_true q173
           have hnb105:=NB168_153.out
           have hnc105:=NB153_168.out
           have hnb106:=NB168_154.out
           have hnc106:=NB154_168.out
           have hnb107:=NB168_155.out
           have hnc107:=NB155_168.out
           obtain ⟨_,_,_,_,_,_,_,_,_,_⟩:=cells5 BK168.out
           go_wp2_with (first|(go_at_call 52;(with_reducible refine (water_ground_may.calls k4 t156 t157 _ _ t158 _ _ t161 _ _ t164 x94_4 (rd l1_0 x94_4) t174 _ ?_ ?_ ?_ ?_ ?_ ?_ A98.out).mono ?_);exact Kd.C_up (Kd.R_reads' HO_169002.out).2.2;exact (Kd.R_reads' HO_169002.out).2.1;exact Kd.C_up (Kd.R_reads' HO_169003.out).2.2;exact (Kd.R_reads' HO_169003.out).2.1;exact Kd.C_up (Kd.R_reads' HO_169004.out).2.2;exact (Kd.R_reads' HO_169004.out).2.1;rintro e w109 ⟨rfl,hb⟩;replace HO_169002:=rbw HO_169002 hb;replace HO_169003:=rbw HO_169003 hb;replace HO_169004:=rbw HO_169004 hb;replace BK153:=bkb BK153 hb;replace BK154:=bkb BK154 hb;replace BK155:=bkb BK155 hb;replace BK168:=bkb BK168 hb;replace HB:=hbs hb;obtain ⟨_,_,_,_,_,_,_,_,_,_⟩:=cells5 BK168.out;have hnb111:=NB155_153.out;have hnc111:=NB153_155.out;have hnb112:=NB155_154.out;have hnc112:=NB154_155.out;obtain ⟨_,_,_,_,_,_,_,_,_,_⟩:=cells5 BK155.out))
           refine bodyPost_ret (results_ct rfl _ _ gb155 52 #[.int .i64 t156,.int .i64 t157,.slice Ao18 t158.length co18,.slice Ao19 t161.length co19,.slice Ao20 t164.length co20] (0,0) _ rfl (by (with_reducible repeat (first|refine blk_drewN ?_ _|refine blk_drew ?_|refine blk_alloc ?_ _));exact blk_puts5 (blk_up BK155.out)) Try.underlying52 rfl (by kernel_rfl)) rfl ?_
           exact ⟨_,_,_,er_,by (with_reducible repeat (first|apply Kd.R_alloc|apply Kd.R_drewN|apply Kd.R_drew));exact Kd.R_mono (Kd.R_fars gb155 (Kd.R_types HO_169002.out BK155.out (by decide)) (fun _ hk => hk.2)) (fun _ hk => hk.1),by (with_reducible repeat (first|apply Kd.R_alloc|apply Kd.R_drewN|apply Kd.R_drew));exact Kd.R_mono (Kd.R_fars gb155 (Kd.R_types HO_169003.out BK155.out (by decide)) (fun _ hk => hk.2)) (fun _ hk => hk.1),by (with_reducible repeat (first|apply Kd.R_alloc|apply Kd.R_drewN|apply Kd.R_drew));exact Kd.R_mono (Kd.R_fars gb155 (Kd.R_types HO_169004.out BK155.out (by decide)) (fun _ hk => hk.2)) (fun _ hk => trivial),hb_⟩
         rw [if_neg c95] at H
         have c95b0 : decide (x94_4 < (l1_0.length : Int)) = false:=decide_eq_false c95
         clear c95
         have H':=Aside0.mk H
         clear H
         have hnb114:=NB154_153.out
         have hnc114:=NB153_154.out
         have hnb115:=NB154_155.out
         have hnc115:=NB155_154.out
         have hnb116:=NB154_168.out
         have hnc116:=NB168_154.out
         obtain ⟨_,_,_,_⟩:=cells2 BK154.out
         go_wp2
         go_loopg [109] k4 (fun kq v109 w' => ∃ (x109_5 : Int) (x156000_5 : Int) (x156001_5 : Int),v109 = .int .i64 x109_5 ∧ Aside0 (water_check.l4 kq l1_1 (l1_1.length : Int) x109_5 l1_0 l1_1 t156 t157 t158 t161 t164 = some (r1,r2,r3,r4,r5,r6)) ∧ Aside0 (kq ≤ k4) ∧ Aside0 (Kd.R (Kd.int .i64) 3 w' w.heap.size (fun k_ => some k_ ≠ ((.slice Ao19 t161.length co19) : Value).ownBlock) (.slice Ao18 t158.length co18) t158) ∧ Aside0 (Kd.R (Kd.int .i64) 3 w' w.heap.size (fun k_ => some k_ ≠ ((.slice Ao18 t158.length co18) : Value).ownBlock) (.slice Ao19 t161.length co19) t161) ∧ Aside0 (Kd.R Kd.bool 4 w' w.heap.size (fun _ => True) (.slice Ao20 t164.length co20) t164) ∧ Aside0 (w'.heap[gb153]? = some (.cells #[.int .i64 a0_0,.int .i64 a0_1,(.slice A0_2 l0_2.length c0_2)] 24 (0,0))) ∧ Aside0 (w'.heap[gb154]? = some (.cells #[(.slice A1_0 l1_0.length c1_0),(.slice A1_1 l1_1.length c1_1)] 26 (0,0))) ∧ Aside0 (w'.heap[gb155]? = some (.cells #[.int .i64 x156000_5,.int .i64 x156001_5,(.slice none 0 0),(.slice none 0 0),(.slice none 0 0)] 52 (0,0))) ∧ Aside0 (w'.heap[gb168]? = some (.cells #[.int .i64 t156,.int .i64 t157,(.slice Ao18 t158.length co18),(.slice Ao19 t161.length co19),(.slice Ao20 t164.length co20)] 52 (0,0))) ∧ Aside0 (Below w.heap.size w w'))
         case atStart => exact ⟨(0),(x156000_4),(x156001_4),(by first|rfl|(simp;done)|(simp [*];done)),H',⟨Nat.le_refl _⟩,⟨Kd.R_up HO_169002.out⟩,⟨Kd.R_up HO_169003.out⟩,⟨Kd.R_up HO_169004.out⟩,⟨blk_up BK153.out⟩,⟨blk_up BK154.out⟩,⟨blk_up BK155.out⟩,⟨blk_up BK168.out⟩,⟨hb_⟩⟩
         case round =>
          clear H'
          obtain ⟨x109_5,x156000_5,x156001_5,rfl,HA,HK5,HO_169002,HO_169003,HO_169004,BK153,BK154,BK155,BK168,HB⟩:=hrel
          cases gk with
          | zero => exact absurd HA.out (by simp [water_check.l4])
          | succ k5 =>
           have H:=HA.out
           clear HA
           simp only [water_check.l4] at H
           by_cases c118 : x109_5 < (l1_1.length : Int)
           rotate_left
           ·rw [if_neg c118] at H
            have c118b0 : decide (x109_5 < (l1_1.length : Int)) = false:=decide_eq_false c118
            clear c118
            simp only [Option.some.injEq,Prod.mk.injEq] at H
            obtain ⟨rfl,rfl,rfl,rfl,rfl,rfl⟩:=H
            have hnb142:=NB168_153.out
            have hnc142:=NB153_168.out
            have hnb143:=NB168_154.out
            have hnc143:=NB154_168.out
            have hnb144:=NB168_155.out
            have hnc144:=NB155_168.out
            obtain ⟨_,_,_,_,_,_,_,_,_,_⟩:=cells5 BK168.out
            have hnb146:=NB155_153.out
            have hnc146:=NB153_155.out
            have hnb147:=NB155_154.out
            have hnc147:=NB154_155.out
            obtain ⟨_,_,_,_,_,_,_,_,_,_⟩:=cells5 BK155.out
            go_wp2
            refine bodyPost_ret (results_ct rfl _ _ gb155 52 #[.int .i64 t156,.int .i64 t157,.slice Ao18 t158.length co18,.slice Ao19 t161.length co19,.slice Ao20 t164.length co20] (0,0) _ rfl (by (with_reducible repeat (first|refine blk_drewN ?_ _|refine blk_drew ?_|refine blk_alloc ?_ _));exact blk_puts5 (blk_up BK155.out)) Try.underlying52 rfl (by kernel_rfl)) rfl ?_
            exact ⟨_,_,_,er_,by (with_reducible repeat (first|apply Kd.R_alloc|apply Kd.R_drewN|apply Kd.R_drew));exact Kd.R_mono (Kd.R_fars gb155 (Kd.R_types HO_169002.out BK155.out (by decide)) (fun _ hk => hk.2)) (fun _ hk => hk.1),by (with_reducible repeat (first|apply Kd.R_alloc|apply Kd.R_drewN|apply Kd.R_drew));exact Kd.R_mono (Kd.R_fars gb155 (Kd.R_types HO_169003.out BK155.out (by decide)) (fun _ hk => hk.2)) (fun _ hk => hk.1),by (with_reducible repeat (first|apply Kd.R_alloc|apply Kd.R_drewN|apply Kd.R_drew));exact Kd.R_mono (Kd.R_fars gb155 (Kd.R_types HO_169004.out BK155.out (by decide)) (fun _ hk => hk.2)) (fun _ hk => trivial),hb_⟩
           rw [if_pos c118] at H
           have c118b0 : decide (x109_5 < (l1_1.length : Int)) = true:=decide_eq_true c118
           clear c118
           replace H:=ifp_ H;obtain ⟨c119,H⟩:=H
           have c119b0 : decide (0 ≤ x109_5) = true:=decide_eq_true c119
           clear c119
           replace H:=ifp_ H;obtain ⟨c120,H⟩:=H
           have c120b0 : decide (x109_5 < (l1_1.length : Int)) = true:=decide_eq_true c120
           clear c120
           replace H:=Option.bind_eq_some_iff.mp H
           obtain ⟨t176,A1210,H⟩:=H
           replace H : (if t176 = true then (water_check.l4 k5 l1_1 (l1_1.length : Int) (wrap64 (x109_5 + 1)) l1_0 l1_1 t156 t157 t158 t161 t164) else (some (t156,t157,t158,t161,t164,9))) = some (r1,r2,r3,r4,r5,r6):=H
           have A121:=Aside0.mk A1210
           clear A1210
           by_cases c122 : t176 = true
           ·subst c122
            have H1 : (water_check.l4 k5 l1_1 (l1_1.length : Int) (wrap64 (x109_5 + 1)) l1_0 l1_1 t156 t157 t158 t161 t164) = some (r1,r2,r3,r4,r5,r6):=by rw [if_pos rfl] at H;exact H
            clear H
            have H:=H1
            clear H1
            have H':=Aside0.mk H
            clear H
            have p175 : 0 ≤ (x109_5 : Int):=of_decide_eq_true (by first|(with_reducible assumption)|assumption)
            have q175 : x109_5 < (l1_1.length : Int):=of_decide_eq_true (by first|(with_reducible assumption)|assumption)
            obtain ⟨ad175,e175,hx175_0⟩:=Kd.at_int HR1_1.out x109_5 p175 q175
            cases e175
            replace hx175_0:=(HB.out.cell (World.block_lt_of_cell? w _ hx175_0)).trans hx175_0
            replace p175:=eq_true p175
            replace q175:=eq_true q175
            have hnb123:=NB168_153.out
            have hnc123:=NB153_168.out
            have hnb124:=NB168_154.out
            have hnc124:=NB154_168.out
            have hnb125:=NB168_155.out
            have hnc125:=NB155_168.out
            obtain ⟨_,_,_,_,_,_,_,_,_,_⟩:=cells5 BK168.out
            have hnb127:=NB154_153.out
            have hnc127:=NB153_154.out
            have hnb128:=NB154_155.out
            have hnc128:=NB155_154.out
            obtain ⟨_,_,_,_⟩:=cells2 BK154.out
            go_wp2_with (first|(go_at_call 45;(with_reducible refine (water_ground_wet.calls t156 t157 _ _ t158 _ _ t161 _ _ t164 _ _ l1_0 _ _ l1_1 (rd l1_1 x109_5) true _ ?_ ?_ ?_ ?_ ?_ ?_ ?_ ?_ ?_ ?_ A121.out).mono ?_);exact Kd.C_up (Kd.R_reads' HO_169002.out).2.2;exact (Kd.R_reads' HO_169002.out).2.1;exact Kd.C_up (Kd.R_reads' HO_169003.out).2.2;exact (Kd.R_reads' HO_169003.out).2.1;exact Kd.C_up (Kd.R_reads' HO_169004.out).2.2;exact (Kd.R_reads' HO_169004.out).2.1;exact cq HR1_0;exact HC1_0.out;exact cq HR1_1;exact HC1_1.out;rintro e w130 ⟨rfl,hb⟩;replace HO_169002:=rbw HO_169002 hb;replace HO_169003:=rbw HO_169003 hb;replace HO_169004:=rbw HO_169004 hb;replace BK153:=bkb BK153 hb;replace BK154:=bkb BK154 hb;replace BK155:=bkb BK155 hb;replace BK168:=bkb BK168 hb;replace HB:=hbs hb))
            go_roundg k5
            case measure => have:=HK1.out;have:=HK2.out;have:=HK3.out;have:=HK4.out;have:=HK5.out;omega
            case rel => exact ⟨(wrap64 (x109_5 + 1)),(x156000_5),(x156001_5),(by first|rfl|(simp;done)|(simp [*];done)),H',⟨by have:=HK1.out;have:=HK2.out;have:=HK3.out;have:=HK4.out;have:=HK5.out;omega⟩,⟨Kd.R_up HO_169002.out⟩,⟨Kd.R_up HO_169003.out⟩,⟨Kd.R_up HO_169004.out⟩,⟨blk_up BK153.out⟩,⟨blk_up BK154.out⟩,⟨blk_up BK155.out⟩,⟨blk_up BK168.out⟩,⟨hb_⟩⟩
           ·replace c122:=Bool.eq_false_iff.mpr c122
            subst c122
            have H1 : (some (t156,t157,t158,t161,t164,9)) = some (r1,r2,r3,r4,r5,r6):=by rw [if_neg (show ¬ (false = true) by decide)] at H;exact H
            clear H
            have H:=H1
            clear H1
            simp only [Option.some.injEq,Prod.mk.injEq] at H
            obtain ⟨rfl,rfl,rfl,rfl,rfl,rfl⟩:=H
            have p175 : 0 ≤ (x109_5 : Int):=of_decide_eq_true (by first|(with_reducible assumption)|assumption)
            have q175 : x109_5 < (l1_1.length : Int):=of_decide_eq_true (by first|(with_reducible assumption)|assumption)
            obtain ⟨ad175,e175,hx175_0⟩:=Kd.at_int HR1_1.out x109_5 p175 q175
            cases e175
            replace hx175_0:=(HB.out.cell (World.block_lt_of_cell? w _ hx175_0)).trans hx175_0
            replace p175:=eq_true p175
            replace q175:=eq_true q175
            have hnb131:=NB168_153.out
            have hnc131:=NB153_168.out
            have hnb132:=NB168_154.out
            have hnc132:=NB154_168.out
            have hnb133:=NB168_155.out
            have hnc133:=NB155_168.out
            obtain ⟨_,_,_,_,_,_,_,_,_,_⟩:=cells5 BK168.out
            have hnb135:=NB154_153.out
            have hnc135:=NB153_154.out
            have hnb136:=NB154_155.out
            have hnc136:=NB155_154.out
            obtain ⟨_,_,_,_⟩:=cells2 BK154.out
            go_wp2_with (first|(go_at_call 45;(with_reducible refine (water_ground_wet.calls t156 t157 _ _ t158 _ _ t161 _ _ t164 _ _ l1_0 _ _ l1_1 (rd l1_1 x109_5) false _ ?_ ?_ ?_ ?_ ?_ ?_ ?_ ?_ ?_ ?_ A121.out).mono ?_);exact Kd.C_up (Kd.R_reads' HO_169002.out).2.2;exact (Kd.R_reads' HO_169002.out).2.1;exact Kd.C_up (Kd.R_reads' HO_169003.out).2.2;exact (Kd.R_reads' HO_169003.out).2.1;exact Kd.C_up (Kd.R_reads' HO_169004.out).2.2;exact (Kd.R_reads' HO_169004.out).2.1;exact cq HR1_0;exact HC1_0.out;exact cq HR1_1;exact HC1_1.out;rintro e w138 ⟨rfl,hb⟩;replace HO_169002:=rbw HO_169002 hb;replace HO_169003:=rbw HO_169003 hb;replace HO_169004:=rbw HO_169004 hb;replace BK153:=bkb BK153 hb;replace BK154:=bkb BK154 hb;replace BK155:=bkb BK155 hb;replace BK168:=bkb BK168 hb;replace HB:=hbs hb;obtain ⟨_,_,_,_,_,_,_,_,_,_⟩:=cells5 BK168.out;have hnb140:=NB155_153.out;have hnc140:=NB153_155.out;obtain ⟨_,_,_,_,_,_,_,_,_,_⟩:=cells5 BK155.out))
            refine bodyPost_ret (results_ct rfl _ _ gb155 52 #[.int .i64 t156,.int .i64 t157,.slice Ao18 t158.length co18,.slice Ao19 t161.length co19,.slice Ao20 t164.length co20] (0,0) _ rfl (by (with_reducible repeat (first|refine blk_drewN ?_ _|refine blk_drew ?_|refine blk_alloc ?_ _));exact blk_puts5 (blk_up BK155.out)) Try.underlying52 rfl (by kernel_rfl)) rfl ?_
            exact ⟨_,_,_,er_,by (with_reducible repeat (first|apply Kd.R_alloc|apply Kd.R_drewN|apply Kd.R_drew));exact Kd.R_mono (Kd.R_fars gb155 (Kd.R_types HO_169002.out BK155.out (by decide)) (fun _ hk => hk.2)) (fun _ hk => hk.1),by (with_reducible repeat (first|apply Kd.R_alloc|apply Kd.R_drewN|apply Kd.R_drew));exact Kd.R_mono (Kd.R_fars gb155 (Kd.R_types HO_169003.out BK155.out (by decide)) (fun _ hk => hk.2)) (fun _ hk => hk.1),by (with_reducible repeat (first|apply Kd.R_alloc|apply Kd.R_drewN|apply Kd.R_drew));exact Kd.R_mono (Kd.R_fars gb155 (Kd.R_types HO_169004.out BK155.out (by decide)) (fun _ hk => hk.2)) (fun _ hk => trivial),hb_⟩

/-! ### water_at: function 40 -/
def water_at.j0 : Nat → Int → Bool → Int → Int → List Int → List Int → List Bool → Option (Int × Int × List Int × List Int × List Bool × Int)
 | 0,_,_,_,_,_,_,_ => none
 | k + 1,x9,x30,x193000,x193001,x193002,x193003,x193004 => if x30 = true then (some (x193000,x193001,x193002,x193003,x193004,2)) else (some (x193000,x193001,x193002,x193003,x193004,x9))
def water_at.f (k : Nat) (a0_0 : Int) (a0_1 : Int) (l0_2 : List Int) (l1_0 : List Int) (l1_1 : List Int) (a2 : Int) : Option (Int × Int × List Int × List Int × List Bool × Int) := (water_check.f k a0_0 a0_1 l0_2 l1_0 l1_1).bind fun bt180 => (if bt180.2.2.2.2.2 = 0 then (if a2 < 0 then (water_at.j0 k bt180.2.2.2.2.2 true bt180.1 bt180.2.1 bt180.2.2.1 bt180.2.2.2.1 bt180.2.2.2.2.1) else (water_at.j0 k bt180.2.2.2.2.2 (decide (a2 ≥ (wrap64 (a0_0 * a0_1)))) bt180.1 bt180.2.1 bt180.2.2.1 bt180.2.2.2.1 bt180.2.2.2.2.1)) else (water_at.j0 k bt180.2.2.2.2.2 false bt180.1 bt180.2.1 bt180.2.2.1 bt180.2.2.2.1 bt180.2.2.2.2.1))
theorem water_at.mono_l : ∀ k, (∀ y0 y1 y2 y3 y4 y5 y6, LeO (water_at.j0 k y0 y1 y2 y3 y4 y5 y6) (water_at.j0 (k + 1) y0 y1 y2 y3 y4 y5 y6))
 | 0 => fun _ _ _ _ _ _ _ r h => by simp [water_at.j0] at h
 | k + 1 => by
  have ih0:=water_at.mono_l k
  ·intro y0 y1 y2 y3 y4 y5 y6
   unfold water_at.j0
   repeat' first
   | (with_reducible exact ih0 _ _ _ _ _ _ _)
   | (with_reducible exact water_check.mono _ _ _ _ _ _)
   | (with_reducible exact LeO.refl _)
   | (with_reducible exact LeO.none _)
   | (with_reducible refine LeO.ite ?_ ?_)
   | (with_reducible refine LeO.bind ?_ (fun _ => ?_))
   | exact ih0 _ _ _ _ _ _ _
   | exact water_check.mono _ _ _ _ _ _
   | exact LeO.none _
   | refine LeO.ite ?_ ?_
   | refine LeO.bind ?_ (fun _ => ?_)
theorem water_at.mono : ∀ a0 a1 a2 a3 a4 a5 k, LeO (water_at.f k a0 a1 a2 a3 a4 a5) (water_at.f (k + 1) a0 a1 a2 a3 a4 a5) := by
 intro a0 a1 a2 a3 a4 a5 k
 have ih0:=water_at.mono_l k
 unfold water_at.f
 repeat' first
   | (with_reducible exact ih0 _ _ _ _ _ _ _)
   | (with_reducible exact water_check.mono _ _ _ _ _ _)
   | (with_reducible exact LeO.refl _)
   | (with_reducible exact LeO.none _)
   | (with_reducible refine LeO.ite ?_ ?_)
   | (with_reducible refine LeO.bind ?_ (fun _ => ?_))
   | exact ih0 _ _ _ _ _ _ _
   | exact water_check.mono _ _ _ _ _ _
   | exact LeO.none _
   | refine LeO.ite ?_ ?_
   | refine LeO.bind ?_ (fun _ => ?_)
set_option maxHeartbeats 8000000 in
set_option maxRecDepth 100000 in
theorem water_at.calls (k : Nat) (a0_0 : Int) (a0_1 : Int) (A0_2 : Option Addr) (c0_2 : Nat) (l0_2 : List Int) (A1_0 : Option Addr) (c1_0 : Nat) (l1_0 : List Int) (A1_1 : Option Addr) (c1_1 : Nat) (l1_1 : List Int) (a2 : Int) (r1 : Int) (r2 : Int) (r3 : List Int) (r4 : List Int) (r5 : List Bool) (r6 : Int) (w : World) (hr0_2 : Kd.C (Kd.int .i64) w A0_2 l0_2.length l0_2) (hc0_2 : l0_2.length ≤ c0_2) (hr1_0 : Kd.C (Kd.int .i64) w A1_0 l1_0.length l1_0) (hc1_0 : l1_0.length ≤ c1_0) (hr1_1 : Kd.C (Kd.int .i64) w A1_1 l1_1.length l1_1) (hc1_1 : l1_1.length ≤ c1_1) (h : water_at.f k a0_0 a0_1 l0_2 l1_0 l1_1 a2 = some (r1, r2, r3, r4, r5, r6)) :
  Calls Try.prog 40 #[.agg #[.int .i64 a0_0,.int .i64 a0_1,.slice A0_2 l0_2.length c0_2],.agg #[.slice A1_0 l1_0.length c1_0,.slice A1_1 l1_1.length c1_1],.int .i64 a2] w fun e w' => ∃ v2_ v3_ v4_ : Value,e = .returned (.tuple #[.agg #[.int .i64 r1,.int .i64 r2,v2_,v3_,v4_],.int .i64 r6]) ∧ Kd.R (Kd.int .i64) 3 w' w.heap.size (fun k_ => some k_ ≠ (v3_ : Value).ownBlock) v2_ r3 ∧ Kd.R (Kd.int .i64) 3 w' w.heap.size (fun k_ => some k_ ≠ (v2_ : Value).ownBlock) v3_ r4 ∧ Kd.R Kd.bool 4 w' w.heap.size (fun _ => True) v4_ r5 ∧ Below w.heap.size w w':=by
 have hu24:=Try.underlying24
 have hu26:=Try.underlying26
 have hu52:=Try.underlying52
 have HR0_2:=Aside0.mk hr0_2
 have HC0_2:=Aside0.mk hc0_2
 clear hr0_2 hc0_2
 have HR1_0:=Aside0.mk hr1_0
 have HC1_0:=Aside0.mk hc1_0
 clear hr1_0 hc1_0
 have HR1_1:=Aside0.mk hr1_1
 have HC1_1:=Aside0.mk hc1_1
 clear hr1_1 hc1_1
 have HB:=Aside0.mk (Below.refl w.heap.size w)
 have H : ((water_check.f k a0_0 a0_1 l0_2 l1_0 l1_1).bind fun bt180 => (if bt180.2.2.2.2.2 = 0 then (if a2 < 0 then (water_at.j0 k bt180.2.2.2.2.2 true bt180.1 bt180.2.1 bt180.2.2.1 bt180.2.2.2.1 bt180.2.2.2.2.1) else (water_at.j0 k bt180.2.2.2.2.2 (decide (a2 ≥ (wrap64 (a0_0 * a0_1)))) bt180.1 bt180.2.1 bt180.2.2.1 bt180.2.2.2.1 bt180.2.2.2.2.1)) else (water_at.j0 k bt180.2.2.2.2.2 false bt180.1 bt180.2.1 bt180.2.2.1 bt180.2.2.2.1 bt180.2.2.2.2.1))) = some (r1,r2,r3,r4,r5,r6):=h
 clear h
 replace H:=Option.bind_eq_some_iff.mp H
 obtain ⟨⟨t180,t181,t182,t185,t188,t191⟩,A40,H⟩:=H
 replace H : (if t191 = 0 then (if a2 < 0 then (water_at.j0 k t191 true t180 t181 t182 t185 t188) else (water_at.j0 k t191 (decide (a2 ≥ (wrap64 (a0_0 * a0_1)))) t180 t181 t182 t185 t188)) else (water_at.j0 k t191 false t180 t181 t182 t185 t188)) = some (r1,r2,r3,r4,r5,r6):=H
 have A4:=Aside0.mk A40
 clear A40
 have HC5:=Aside0.mk H
 clear H
 go_enter Try.func40,Try.ntmps40
 go_upto_region 2 with (first|((with_reducible refine gate_dst (N:=3) rfl ?_);refine box_ev (N:=3) (cs:=#[.int .i64 a0_0,.int .i64 a0_1,.slice A0_2 l0_2.length c0_2]) (t:=24) ?_;intro gb177 hg w6 hbox hb;have BK177:=Aside0.mk (hbox);have GW177 : Aside0 (w.heap.size ≤ gb177):=gsz hg;have GE177:=GW177;replace HB:=hbs hb;clear hb hbox hg)|((with_reducible refine gate_dst (N:=4) rfl ?_);refine box_ev (N:=4) (cs:=#[.slice A1_0 l1_0.length c1_0,.slice A1_1 l1_1.length c1_1]) (t:=26) ?_;intro gb178 hg w7 hbox hb;have BK178:=Aside0.mk (hbox);have GW178 : Aside0 (w.heap.size ≤ gb178):=gsz hg;have GE178:=GW178;have NB177_178:=nbl BK177 hg;have NB178_177:=nbr BK177 hg;replace BK177:=bkb BK177 hb;replace HB:=hbs hb;clear hb hbox hg)|((with_reducible refine gate_dst (N:=6) rfl ?_);refine box_ev (N:=6) (cs:=#[.int .i64 0,.int .i64 0,.slice none 0 0,.slice none 0 0,.slice none 0 0]) (t:=52) ?_;intro gb179 hg w8 hbox hb;have BK179:=Aside0.mk (hbox);have GW179 : Aside0 (w.heap.size ≤ gb179):=gsz hg;have GE179:=GW179;have NB177_179:=nbl BK177 hg;have NB179_177:=nbr BK177 hg;have NB178_179:=nbl BK178 hg;have NB179_178:=nbr BK178 hg;replace BK177:=bkb BK177 hb;replace BK178:=bkb BK178 hb;replace HB:=hbs hb;clear hb hbox hg;have hnb9:=NB177_178.out;have hnc9:=NB178_177.out;have hnb10:=NB177_179.out;have hnc10:=NB179_177.out;obtain ⟨_,_,_,_,_,_⟩:=cells3 BK177.out;have hnb12:=NB178_179.out;have hnc12:=NB179_178.out;obtain ⟨_,_,_,_⟩:=cells2 BK178.out)|((with_reducible refine gate_callee (f:=44) rfl ?_);refine goesL_ (some 13) rfl rfl Try.func44 (by kernel_rfl) rfl #[.agg #[.int .i64 a0_0,.int .i64 a0_1,.slice A0_2 l0_2.length c0_2],.agg #[.slice A1_0 l1_0.length c1_0,.slice A1_1 l1_1.length c1_1]] rfl ga_ ?_;(with_reducible refine (water_check.calls k a0_0 a0_1 _ _ l0_2 _ _ l1_0 _ _ l1_1 t180 t181 t182 t185 t188 t191 _ ?_ ?_ ?_ ?_ ?_ ?_ A4.out).mono ?_);exact cq HR0_2;exact HC0_2.out;exact cq HR1_0;exact HC1_0.out;exact cq HR1_1;exact HC1_1.out;rintro e w14 ⟨v183,v186,v189,rfl,ho0,ho1,ho2,hb⟩;refine ⟨_,rfl,?_⟩;have HO184:=rlo ho0;have HO187:=rlo ho1;have HO190:=rlo ho2;replace BK177:=bkb BK177 hb;replace BK178:=bkb BK178 hb;replace BK179:=bkb BK179 hb;replace HB:=hbs hb)|((with_reducible refine gate_dst (N:=8) rfl ?_);refine box_ev (N:=8) (cs:=#[.int .i64 0,.int .i64 0,.slice none 0 0,.slice none 0 0,.slice none 0 0]) (t:=52) ?_;intro gb192 hg w15 hbox hb;have BK192:=Aside0.mk (hbox);have GW192 : Aside0 (w.heap.size ≤ gb192):=gsz hg;have GE192:=GW192;have NB177_192:=nbl BK177 hg;have NB192_177:=nbr BK177 hg;have NB178_192:=nbl BK178 hg;have NB192_178:=nbr BK178 hg;have NB179_192:=nbl BK179 hg;have NB192_179:=nbr BK179 hg;replace HO184:=rbw HO184 hb;replace HO187:=rbw HO187 hb;replace HO190:=rbw HO190 hb;replace BK177:=bkb BK177 hb;replace BK178:=bkb BK178 hb;replace BK179:=bkb BK179 hb;replace HB:=hbs hb;clear hb hbox hg;have hnb16:=NB192_177.out;have hnc16:=NB177_192.out;have hnb17:=NB192_178.out;have hnc17:=NB178_192.out;have hnb18:=NB192_179.out;have hnc18:=NB179_192.out;obtain ⟨_,_,_,_,_,_,_,_,_,_⟩:=cells5 BK192.out;obtain ⟨Ao20,co20,eo20⟩:=Kd.R_slice HO184.out;subst eo20;obtain ⟨Ao21,co21,eo21⟩:=Kd.R_slice HO187.out;subst eo21;obtain ⟨Ao22,co22,eo22⟩:=Kd.R_slice HO190.out;subst eo22))
 (try simp only [Act.put,List.setIfInBounds_toArray,List.set_cons_zero,List.set_cons_succ])
 go_cut [30] (fun v30 wc => ∃ (kq : Nat) (x30_4 : Bool),v30 = .bool x30_4 ∧ Aside0 (water_at.j0 kq t191 x30_4 t180 t181 t182 t185 t188 = some (r1,r2,r3,r4,r5,r6)) ∧ Aside0 (kq ≤ k) ∧ Aside0 (Kd.R (Kd.int .i64) 3 wc w.heap.size (fun k_ => some k_ ≠ ((.slice Ao21 t185.length co21) : Value).ownBlock) (.slice Ao20 t182.length co20) t182) ∧ Aside0 (Kd.R (Kd.int .i64) 3 wc w.heap.size (fun k_ => some k_ ≠ ((.slice Ao20 t182.length co20) : Value).ownBlock) (.slice Ao21 t185.length co21) t185) ∧ Aside0 (Kd.R Kd.bool 4 wc w.heap.size (fun _ => True) (.slice Ao22 t188.length co22) t188) ∧ Aside0 (wc.heap[gb177]? = some (.cells #[.int .i64 a0_0,.int .i64 a0_1,(.slice A0_2 l0_2.length c0_2)] 24 (0,0))) ∧ Aside0 (wc.heap[gb178]? = some (.cells #[(.slice A1_0 l1_0.length c1_0),(.slice A1_1 l1_1.length c1_1)] 26 (0,0))) ∧ Aside0 (wc.heap[gb179]? = some (.cells #[.int .i64 0,.int .i64 0,(.slice none 0 0),(.slice none 0 0),(.slice none 0 0)] 52 (0,0))) ∧ Aside0 (wc.heap[gb192]? = some (.cells #[.int .i64 t180,.int .i64 t181,(.slice Ao20 t182.length co20),(.slice Ao21 t185.length co21),(.slice Ao22 t188.length co22)] 52 (0,0))) ∧ Aside0 (Below w.heap.size w wc))
 case first =>
  have H:=HC5.out
  clear HC5
  by_cases c23 : t191 = 0
  ·rw [if_pos c23] at H
   have c23b0:=bqt c23
   have c23b1:=bnf c23
   clear c23
   (first|rw [c23b0]|(simp only [i64_w,i32_w];rw [c23b0])|skip)
   by_cases c24 : a2 < 0
   ·rw [if_pos c24] at H
    have c24b0 : decide (a2 < 0) = true:=decide_eq_true c24
    clear c24
    have H':=Aside0.mk H
    clear H
    go_wp2
    go_meet
    case rel => exact ⟨_,(true),(by first|rfl|(simp;done)|(simp [*];done)),H',⟨by first|omega|exact Nat.le_refl _⟩,⟨by (with_reducible repeat (first|apply Kd.R_alloc|apply Kd.R_drewN|apply Kd.R_drew));exact Kd.R_mono (Kd.R_fars gb192 (Kd.R_types HO184.out BK192.out (by decide)) (fun _ hk => hk.2)) (fun _ hk => hk.1)⟩,⟨by (with_reducible repeat (first|apply Kd.R_alloc|apply Kd.R_drewN|apply Kd.R_drew));exact Kd.R_mono (Kd.R_fars gb192 (Kd.R_types HO187.out BK192.out (by decide)) (fun _ hk => hk.2)) (fun _ hk => hk.1)⟩,⟨by (with_reducible repeat (first|apply Kd.R_alloc|apply Kd.R_drewN|apply Kd.R_drew));exact Kd.R_mono (Kd.R_fars gb192 (Kd.R_types HO190.out BK192.out (by decide)) (fun _ hk => hk.2)) (fun _ hk => trivial)⟩,⟨by (with_reducible repeat (first|refine blk_drewN ?_ _|refine blk_drew ?_|refine blk_alloc ?_ _));refine blk_far ?_ NB177_192.out _;(with_reducible repeat (first|refine blk_drewN ?_ _|refine blk_drew ?_|refine blk_alloc ?_ _));refine blk_far ?_ NB177_192.out _;(with_reducible repeat (first|refine blk_drewN ?_ _|refine blk_drew ?_|refine blk_alloc ?_ _));refine blk_far ?_ NB177_192.out _;(with_reducible repeat (first|refine blk_drewN ?_ _|refine blk_drew ?_|refine blk_alloc ?_ _));refine blk_far ?_ NB177_192.out _;(with_reducible repeat (first|refine blk_drewN ?_ _|refine blk_drew ?_|refine blk_alloc ?_ _));refine blk_far ?_ NB177_192.out _;(with_reducible repeat (first|refine blk_drewN ?_ _|refine blk_drew ?_|refine blk_alloc ?_ _));exact BK177.out⟩,⟨by (with_reducible repeat (first|refine blk_drewN ?_ _|refine blk_drew ?_|refine blk_alloc ?_ _));refine blk_far ?_ NB178_192.out _;(with_reducible repeat (first|refine blk_drewN ?_ _|refine blk_drew ?_|refine blk_alloc ?_ _));refine blk_far ?_ NB178_192.out _;(with_reducible repeat (first|refine blk_drewN ?_ _|refine blk_drew ?_|refine blk_alloc ?_ _));refine blk_far ?_ NB178_192.out _;(with_reducible repeat (first|refine blk_drewN ?_ _|refine blk_drew ?_|refine blk_alloc ?_ _));refine blk_far ?_ NB178_192.out _;(with_reducible repeat (first|refine blk_drewN ?_ _|refine blk_drew ?_|refine blk_alloc ?_ _));refine blk_far ?_ NB178_192.out _;(with_reducible repeat (first|refine blk_drewN ?_ _|refine blk_drew ?_|refine blk_alloc ?_ _));exact BK178.out⟩,⟨by (with_reducible repeat (first|refine blk_drewN ?_ _|refine blk_drew ?_|refine blk_alloc ?_ _));refine blk_far ?_ NB179_192.out _;(with_reducible repeat (first|refine blk_drewN ?_ _|refine blk_drew ?_|refine blk_alloc ?_ _));refine blk_far ?_ NB179_192.out _;(with_reducible repeat (first|refine blk_drewN ?_ _|refine blk_drew ?_|refine blk_alloc ?_ _));refine blk_far ?_ NB179_192.out _;(with_reducible repeat (first|refine blk_drewN ?_ _|refine blk_drew ?_|refine blk_alloc ?_ _));refine blk_far ?_ NB179_192.out _;(with_reducible repeat (first|refine blk_drewN ?_ _|refine blk_drew ?_|refine blk_alloc ?_ _));refine blk_far ?_ NB179_192.out _;(with_reducible repeat (first|refine blk_drewN ?_ _|refine blk_drew ?_|refine blk_alloc ?_ _));exact BK179.out⟩,⟨by (with_reducible repeat (first|refine blk_drewN ?_ _|refine blk_drew ?_|refine blk_alloc ?_ _));exact blk_puts5 (blk_up BK192.out)⟩,⟨hb_⟩⟩
   ·rw [if_neg c24] at H
    have c24b0 : decide (a2 < 0) = false:=decide_eq_false c24
    clear c24
    have H':=Aside0.mk H
    clear H
    have hnb25:=NB177_178.out
    have hnc25:=NB178_177.out
    have hnb26:=NB177_179.out
    have hnc26:=NB179_177.out
    have hnb27:=NB177_192.out
    have hnc27:=NB192_177.out
    obtain ⟨_,_,_,_,_,_⟩:=cells3 BK177.out
    go_wp2
    go_meet
    case rel => exact ⟨_,(decide (a2 ≥ (wrap64 (a0_0 * a0_1)))),(by first|rfl|(simp;done)|(simp [*];done)),H',⟨by first|omega|exact Nat.le_refl _⟩,⟨by (with_reducible repeat (first|apply Kd.R_alloc|apply Kd.R_drewN|apply Kd.R_drew));exact Kd.R_mono (Kd.R_fars gb192 (Kd.R_types HO184.out BK192.out (by decide)) (fun _ hk => hk.2)) (fun _ hk => hk.1)⟩,⟨by (with_reducible repeat (first|apply Kd.R_alloc|apply Kd.R_drewN|apply Kd.R_drew));exact Kd.R_mono (Kd.R_fars gb192 (Kd.R_types HO187.out BK192.out (by decide)) (fun _ hk => hk.2)) (fun _ hk => hk.1)⟩,⟨by (with_reducible repeat (first|apply Kd.R_alloc|apply Kd.R_drewN|apply Kd.R_drew));exact Kd.R_mono (Kd.R_fars gb192 (Kd.R_types HO190.out BK192.out (by decide)) (fun _ hk => hk.2)) (fun _ hk => trivial)⟩,⟨by (with_reducible repeat (first|refine blk_drewN ?_ _|refine blk_drew ?_|refine blk_alloc ?_ _));refine blk_far ?_ NB177_192.out _;(with_reducible repeat (first|refine blk_drewN ?_ _|refine blk_drew ?_|refine blk_alloc ?_ _));refine blk_far ?_ NB177_192.out _;(with_reducible repeat (first|refine blk_drewN ?_ _|refine blk_drew ?_|refine blk_alloc ?_ _));refine blk_far ?_ NB177_192.out _;(with_reducible repeat (first|refine blk_drewN ?_ _|refine blk_drew ?_|refine blk_alloc ?_ _));refine blk_far ?_ NB177_192.out _;(with_reducible repeat (first|refine blk_drewN ?_ _|refine blk_drew ?_|refine blk_alloc ?_ _));refine blk_far ?_ NB177_192.out _;(with_reducible repeat (first|refine blk_drewN ?_ _|refine blk_drew ?_|refine blk_alloc ?_ _));exact BK177.out⟩,⟨by (with_reducible repeat (first|refine blk_drewN ?_ _|refine blk_drew ?_|refine blk_alloc ?_ _));refine blk_far ?_ NB178_192.out _;(with_reducible repeat (first|refine blk_drewN ?_ _|refine blk_drew ?_|refine blk_alloc ?_ _));refine blk_far ?_ NB178_192.out _;(with_reducible repeat (first|refine blk_drewN ?_ _|refine blk_drew ?_|refine blk_alloc ?_ _));refine blk_far ?_ NB178_192.out _;(with_reducible repeat (first|refine blk_drewN ?_ _|refine blk_drew ?_|refine blk_alloc ?_ _));refine blk_far ?_ NB178_192.out _;(with_reducible repeat (first|refine blk_drewN ?_ _|refine blk_drew ?_|refine blk_alloc ?_ _));refine blk_far ?_ NB178_192.out _;(with_reducible repeat (first|refine blk_drewN ?_ _|refine blk_drew ?_|refine blk_alloc ?_ _));exact BK178.out⟩,⟨by (with_reducible repeat (first|refine blk_drewN ?_ _|refine blk_drew ?_|refine blk_alloc ?_ _));refine blk_far ?_ NB179_192.out _;(with_reducible repeat (first|refine blk_drewN ?_ _|refine blk_drew ?_|refine blk_alloc ?_ _));refine blk_far ?_ NB179_192.out _;(with_reducible repeat (first|refine blk_drewN ?_ _|refine blk_drew ?_|refine blk_alloc ?_ _));refine blk_far ?_ NB179_192.out _;(with_reducible repeat (first|refine blk_drewN ?_ _|refine blk_drew ?_|refine blk_alloc ?_ _));refine blk_far ?_ NB179_192.out _;(with_reducible repeat (first|refine blk_drewN ?_ _|refine blk_drew ?_|refine blk_alloc ?_ _));refine blk_far ?_ NB179_192.out _;(with_reducible repeat (first|refine blk_drewN ?_ _|refine blk_drew ?_|refine blk_alloc ?_ _));exact BK179.out⟩,⟨by (with_reducible repeat (first|refine blk_drewN ?_ _|refine blk_drew ?_|refine blk_alloc ?_ _));exact blk_puts5 (blk_up BK192.out)⟩,⟨hb_⟩⟩
  ·rw [if_neg c23] at H
   have c23b0:=bqf c23
   have c23b1:=bnt c23
   (first|rw [c23b0]|(simp only [i64_w,i32_w];rw [c23b0])|skip)
   have H':=Aside0.mk H
   clear H
   go_wp2
   go_meet
   case rel => exact ⟨_,(false),(by first|rfl|(simp;done)|(simp [*];done)),H',⟨by first|omega|exact Nat.le_refl _⟩,⟨by (with_reducible repeat (first|apply Kd.R_alloc|apply Kd.R_drewN|apply Kd.R_drew));exact Kd.R_mono (Kd.R_fars gb192 (Kd.R_types HO184.out BK192.out (by decide)) (fun _ hk => hk.2)) (fun _ hk => hk.1)⟩,⟨by (with_reducible repeat (first|apply Kd.R_alloc|apply Kd.R_drewN|apply Kd.R_drew));exact Kd.R_mono (Kd.R_fars gb192 (Kd.R_types HO187.out BK192.out (by decide)) (fun _ hk => hk.2)) (fun _ hk => hk.1)⟩,⟨by (with_reducible repeat (first|apply Kd.R_alloc|apply Kd.R_drewN|apply Kd.R_drew));exact Kd.R_mono (Kd.R_fars gb192 (Kd.R_types HO190.out BK192.out (by decide)) (fun _ hk => hk.2)) (fun _ hk => trivial)⟩,⟨by (with_reducible repeat (first|refine blk_drewN ?_ _|refine blk_drew ?_|refine blk_alloc ?_ _));refine blk_far ?_ NB177_192.out _;(with_reducible repeat (first|refine blk_drewN ?_ _|refine blk_drew ?_|refine blk_alloc ?_ _));refine blk_far ?_ NB177_192.out _;(with_reducible repeat (first|refine blk_drewN ?_ _|refine blk_drew ?_|refine blk_alloc ?_ _));refine blk_far ?_ NB177_192.out _;(with_reducible repeat (first|refine blk_drewN ?_ _|refine blk_drew ?_|refine blk_alloc ?_ _));refine blk_far ?_ NB177_192.out _;(with_reducible repeat (first|refine blk_drewN ?_ _|refine blk_drew ?_|refine blk_alloc ?_ _));refine blk_far ?_ NB177_192.out _;(with_reducible repeat (first|refine blk_drewN ?_ _|refine blk_drew ?_|refine blk_alloc ?_ _));exact BK177.out⟩,⟨by (with_reducible repeat (first|refine blk_drewN ?_ _|refine blk_drew ?_|refine blk_alloc ?_ _));refine blk_far ?_ NB178_192.out _;(with_reducible repeat (first|refine blk_drewN ?_ _|refine blk_drew ?_|refine blk_alloc ?_ _));refine blk_far ?_ NB178_192.out _;(with_reducible repeat (first|refine blk_drewN ?_ _|refine blk_drew ?_|refine blk_alloc ?_ _));refine blk_far ?_ NB178_192.out _;(with_reducible repeat (first|refine blk_drewN ?_ _|refine blk_drew ?_|refine blk_alloc ?_ _));refine blk_far ?_ NB178_192.out _;(with_reducible repeat (first|refine blk_drewN ?_ _|refine blk_drew ?_|refine blk_alloc ?_ _));refine blk_far ?_ NB178_192.out _;(with_reducible repeat (first|refine blk_drewN ?_ _|refine blk_drew ?_|refine blk_alloc ?_ _));exact BK178.out⟩,⟨by (with_reducible repeat (first|refine blk_drewN ?_ _|refine blk_drew ?_|refine blk_alloc ?_ _));refine blk_far ?_ NB179_192.out _;(with_reducible repeat (first|refine blk_drewN ?_ _|refine blk_drew ?_|refine blk_alloc ?_ _));refine blk_far ?_ NB179_192.out _;(with_reducible repeat (first|refine blk_drewN ?_ _|refine blk_drew ?_|refine blk_alloc ?_ _));refine blk_far ?_ NB179_192.out _;(with_reducible repeat (first|refine blk_drewN ?_ _|refine blk_drew ?_|refine blk_alloc ?_ _));refine blk_far ?_ NB179_192.out _;(with_reducible repeat (first|refine blk_drewN ?_ _|refine blk_drew ?_|refine blk_alloc ?_ _));refine blk_far ?_ NB179_192.out _;(with_reducible repeat (first|refine blk_drewN ?_ _|refine blk_drew ?_|refine blk_alloc ?_ _));exact BK179.out⟩,⟨by (with_reducible repeat (first|refine blk_drewN ?_ _|refine blk_drew ?_|refine blk_alloc ?_ _));exact blk_puts5 (blk_up BK192.out)⟩,⟨hb_⟩⟩
 case rest =>
  clear HC5
  obtain ⟨kq,x30_4,rfl,HA,HJ4,HO_193002,HO_193003,HO_193004,BK177,BK178,BK179,BK192,HB⟩:=hcut
  cases kq with
  | zero => exact absurd HA.out (by simp [water_at.j0])
  | succ kj4 =>
   have H:=HA.out
   clear HA
   simp only [water_at.j0] at H
   by_cases c29 : x30_4 = true
   ·subst c29
    have H1 : (some (t180,t181,t182,t185,t188,2)) = some (r1,r2,r3,r4,r5,r6):=by rw [if_pos rfl] at H;exact H
    clear H
    have H:=H1
    clear H1
    simp only [Option.some.injEq,Prod.mk.injEq] at H
    obtain ⟨rfl,rfl,rfl,rfl,rfl,rfl⟩:=H
    have hnb30:=NB192_177.out
    have hnc30:=NB177_192.out
    have hnb31:=NB192_178.out
    have hnc31:=NB178_192.out
    have hnb32:=NB192_179.out
    have hnc32:=NB179_192.out
    obtain ⟨_,_,_,_,_,_,_,_,_,_⟩:=cells5 BK192.out
    have hnb34:=NB179_177.out
    have hnc34:=NB177_179.out
    have hnb35:=NB179_178.out
    have hnc35:=NB178_179.out
    obtain ⟨_,_,_,_,_,_,_,_,_,_⟩:=cells5 BK179.out
    go_wp2
    refine bodyPost_ret (results_ct rfl _ _ gb179 52 #[.int .i64 t180,.int .i64 t181,.slice Ao20 t182.length co20,.slice Ao21 t185.length co21,.slice Ao22 t188.length co22] (0,0) _ rfl (by (with_reducible repeat (first|refine blk_drewN ?_ _|refine blk_drew ?_|refine blk_alloc ?_ _));exact blk_puts5 (blk_up BK179.out)) Try.underlying52 rfl (by kernel_rfl)) rfl ?_
    exact ⟨_,_,_,er_,by (with_reducible repeat (first|apply Kd.R_alloc|apply Kd.R_drewN|apply Kd.R_drew));exact Kd.R_mono (Kd.R_fars gb179 (Kd.R_types HO_193002.out BK179.out (by decide)) (fun _ hk => hk.2)) (fun _ hk => hk.1),by (with_reducible repeat (first|apply Kd.R_alloc|apply Kd.R_drewN|apply Kd.R_drew));exact Kd.R_mono (Kd.R_fars gb179 (Kd.R_types HO_193003.out BK179.out (by decide)) (fun _ hk => hk.2)) (fun _ hk => hk.1),by (with_reducible repeat (first|apply Kd.R_alloc|apply Kd.R_drewN|apply Kd.R_drew));exact Kd.R_mono (Kd.R_fars gb179 (Kd.R_types HO_193004.out BK179.out (by decide)) (fun _ hk => hk.2)) (fun _ hk => trivial),hb_⟩
   ·replace c29:=Bool.eq_false_iff.mpr c29
    subst c29
    have H1 : (some (t180,t181,t182,t185,t188,t191)) = some (r1,r2,r3,r4,r5,r6):=by rw [if_neg (show ¬ (false = true) by decide)] at H;exact H
    clear H
    have H:=H1
    clear H1
    simp only [Option.some.injEq,Prod.mk.injEq] at H
    obtain ⟨rfl,rfl,rfl,rfl,rfl,rfl⟩:=H
    have hnb37:=NB192_177.out
    have hnc37:=NB177_192.out
    have hnb38:=NB192_178.out
    have hnc38:=NB178_192.out
    have hnb39:=NB192_179.out
    have hnc39:=NB179_192.out
    obtain ⟨_,_,_,_,_,_,_,_,_,_⟩:=cells5 BK192.out
    have hnb41:=NB179_177.out
    have hnc41:=NB177_179.out
    have hnb42:=NB179_178.out
    have hnc42:=NB178_179.out
    obtain ⟨_,_,_,_,_,_,_,_,_,_⟩:=cells5 BK179.out
    go_wp2
    refine bodyPost_ret (results_ct rfl _ _ gb179 52 #[.int .i64 t180,.int .i64 t181,.slice Ao20 t182.length co20,.slice Ao21 t185.length co21,.slice Ao22 t188.length co22] (0,0) _ rfl (by (with_reducible repeat (first|refine blk_drewN ?_ _|refine blk_drew ?_|refine blk_alloc ?_ _));exact blk_puts5 (blk_up BK179.out)) Try.underlying52 rfl (by kernel_rfl)) rfl ?_
    exact ⟨_,_,_,er_,by (with_reducible repeat (first|apply Kd.R_alloc|apply Kd.R_drewN|apply Kd.R_drew));exact Kd.R_mono (Kd.R_fars gb179 (Kd.R_types HO_193002.out BK179.out (by decide)) (fun _ hk => hk.2)) (fun _ hk => hk.1),by (with_reducible repeat (first|apply Kd.R_alloc|apply Kd.R_drewN|apply Kd.R_drew));exact Kd.R_mono (Kd.R_fars gb179 (Kd.R_types HO_193003.out BK179.out (by decide)) (fun _ hk => hk.2)) (fun _ hk => hk.1),by (with_reducible repeat (first|apply Kd.R_alloc|apply Kd.R_drewN|apply Kd.R_drew));exact Kd.R_mono (Kd.R_fars gb179 (Kd.R_types HO_193004.out BK179.out (by decide)) (fun _ hk => hk.2)) (fun _ hk => trivial),hb_⟩

/-! ### water_ground_beyond: function 46 -/
mutual
def water_ground_beyond.j0 : Nat → Int → Int → Int → Int → List Int → List Int → List Bool → Option (Int)
 | 0,_,_,_,_,_,_,_ => none
 | k + 1,x7,x8,x194000,x194001,x194002,x194003,x194004 => if x7 < 0 then (water_ground_beyond.j1 k x7 x8 true x194000 x194001 x194002 x194003 x194004) else (if x7 ≥ x194000 then (water_ground_beyond.j1 k x7 x8 true x194000 x194001 x194002 x194003 x194004) else (if x8 < 0 then (water_ground_beyond.j1 k x7 x8 true x194000 x194001 x194002 x194003 x194004) else (water_ground_beyond.j1 k x7 x8 (decide (x8 ≥ x194001)) x194000 x194001 x194002 x194003 x194004)))
def water_ground_beyond.j1 : Nat → Int → Int → Bool → Int → Int → List Int → List Int → List Bool → Option (Int)
 | 0,_,_,_,_,_,_,_,_ => none
 | k + 1,x7,x8,x49,x194000,x194001,x194002,x194003,x194004 => if x49 = true then (some (-1)) else (some (wrap64 ((wrap64 (x8 * x194000)) + x7)))
end
def water_ground_beyond.f (k : Nat) (a0_0 : Int) (a0_1 : Int) (l0_2 : List Int) (l0_3 : List Int) (l0_4 : List Bool) (a1 : Int) (a2 : Int) : Option (Int) := if a0_0 = 0 then (none) else (if a2 = 0 then (water_ground_beyond.j0 k (wrap64 ((Int.tmod a1 a0_0) + 1)) (wrap64 (Int.tdiv a1 a0_0)) a0_0 a0_1 l0_2 l0_3 l0_4) else (if a2 = 1 then (water_ground_beyond.j0 k (Int.tmod a1 a0_0) (wrap64 ((wrap64 (Int.tdiv a1 a0_0)) + 1)) a0_0 a0_1 l0_2 l0_3 l0_4) else (if a2 = 2 then (water_ground_beyond.j0 k (wrap64 ((Int.tmod a1 a0_0) - 1)) (wrap64 (Int.tdiv a1 a0_0)) a0_0 a0_1 l0_2 l0_3 l0_4) else (water_ground_beyond.j0 k (Int.tmod a1 a0_0) (wrap64 ((wrap64 (Int.tdiv a1 a0_0)) - 1)) a0_0 a0_1 l0_2 l0_3 l0_4))))
theorem water_ground_beyond.mono_l : ∀ k, (∀ y0 y1 y2 y3 y4 y5 y6, LeO (water_ground_beyond.j0 k y0 y1 y2 y3 y4 y5 y6) (water_ground_beyond.j0 (k + 1) y0 y1 y2 y3 y4 y5 y6)) ∧ (∀ y0 y1 y2 y3 y4 y5 y6 y7, LeO (water_ground_beyond.j1 k y0 y1 y2 y3 y4 y5 y6 y7) (water_ground_beyond.j1 (k + 1) y0 y1 y2 y3 y4 y5 y6 y7))
 | 0 => ⟨fun _ _ _ _ _ _ _ r h => by simp [water_ground_beyond.j0] at h,fun _ _ _ _ _ _ _ _ r h => by simp [water_ground_beyond.j1] at h⟩
 | k + 1 => by
  obtain ⟨ih0,ih1⟩:=water_ground_beyond.mono_l k
  refine ⟨?_,?_⟩
  ·intro y0 y1 y2 y3 y4 y5 y6
   unfold water_ground_beyond.j0
   repeat' first
   | (with_reducible exact ih0 _ _ _ _ _ _ _)
   | (with_reducible exact ih1 _ _ _ _ _ _ _ _)
   | (with_reducible exact LeO.refl _)
   | (with_reducible exact LeO.none _)
   | (with_reducible refine LeO.ite ?_ ?_)
   | (with_reducible refine LeO.bind ?_ (fun _ => ?_))
   | exact ih0 _ _ _ _ _ _ _
   | exact ih1 _ _ _ _ _ _ _ _
   | exact LeO.none _
   | refine LeO.ite ?_ ?_
   | refine LeO.bind ?_ (fun _ => ?_)
  ·intro y0 y1 y2 y3 y4 y5 y6 y7
   unfold water_ground_beyond.j1
   repeat' first
   | (with_reducible exact ih0 _ _ _ _ _ _ _)
   | (with_reducible exact ih1 _ _ _ _ _ _ _ _)
   | (with_reducible exact LeO.refl _)
   | (with_reducible exact LeO.none _)
   | (with_reducible refine LeO.ite ?_ ?_)
   | (with_reducible refine LeO.bind ?_ (fun _ => ?_))
   | exact ih0 _ _ _ _ _ _ _
   | exact ih1 _ _ _ _ _ _ _ _
   | exact LeO.none _
   | refine LeO.ite ?_ ?_
   | refine LeO.bind ?_ (fun _ => ?_)
theorem water_ground_beyond.mono : ∀ a0 a1 a2 a3 a4 a5 a6 k, LeO (water_ground_beyond.f k a0 a1 a2 a3 a4 a5 a6) (water_ground_beyond.f (k + 1) a0 a1 a2 a3 a4 a5 a6) := by
 intro a0 a1 a2 a3 a4 a5 a6 k
 obtain ⟨ih0,ih1⟩:=water_ground_beyond.mono_l k
 unfold water_ground_beyond.f
 repeat' first
   | (with_reducible exact ih0 _ _ _ _ _ _ _)
   | (with_reducible exact ih1 _ _ _ _ _ _ _ _)
   | (with_reducible exact LeO.refl _)
   | (with_reducible exact LeO.none _)
   | (with_reducible refine LeO.ite ?_ ?_)
   | (with_reducible refine LeO.bind ?_ (fun _ => ?_))
   | exact ih0 _ _ _ _ _ _ _
   | exact ih1 _ _ _ _ _ _ _ _
   | exact LeO.none _
   | refine LeO.ite ?_ ?_
   | refine LeO.bind ?_ (fun _ => ?_)
set_option maxHeartbeats 8000000 in
set_option maxRecDepth 100000 in
theorem water_ground_beyond.calls (k : Nat) (a0_0 : Int) (a0_1 : Int) (A0_2 : Option Addr) (c0_2 : Nat) (l0_2 : List Int) (A0_3 : Option Addr) (c0_3 : Nat) (l0_3 : List Int) (A0_4 : Option Addr) (c0_4 : Nat) (l0_4 : List Bool) (a1 : Int) (a2 : Int) (r : Int) (w : World) (hr0_2 : Kd.C (Kd.int .i64) w A0_2 l0_2.length l0_2) (hc0_2 : l0_2.length ≤ c0_2) (hr0_3 : Kd.C (Kd.int .i64) w A0_3 l0_3.length l0_3) (hc0_3 : l0_3.length ≤ c0_3) (hr0_4 : Kd.C Kd.bool w A0_4 l0_4.length l0_4) (hc0_4 : l0_4.length ≤ c0_4) (h : water_ground_beyond.f k a0_0 a0_1 l0_2 l0_3 l0_4 a1 a2 = some r) :
  Calls Try.prog 46 #[.agg #[.int .i64 a0_0,.int .i64 a0_1,.slice A0_2 l0_2.length c0_2,.slice A0_3 l0_3.length c0_3,.slice A0_4 l0_4.length c0_4],.int .i64 a1,.int .i64 a2] w fun e w' => e = .returned (.int .i64 r) ∧ Below w.heap.size w w':=by
 have hu52:=Try.underlying52
 have HR0_2:=Aside0.mk hr0_2
 have HC0_2:=Aside0.mk hc0_2
 clear hr0_2 hc0_2
 have HR0_3:=Aside0.mk hr0_3
 have HC0_3:=Aside0.mk hc0_3
 clear hr0_3 hc0_3
 have HR0_4:=Aside0.mk hr0_4
 have HC0_4:=Aside0.mk hc0_4
 clear hr0_4 hc0_4
 have HB:=Aside0.mk (Below.refl w.heap.size w)
 have H : (if a0_0 = 0 then (none) else (if a2 = 0 then (water_ground_beyond.j0 k (wrap64 ((Int.tmod a1 a0_0) + 1)) (wrap64 (Int.tdiv a1 a0_0)) a0_0 a0_1 l0_2 l0_3 l0_4) else (if a2 = 1 then (water_ground_beyond.j0 k (Int.tmod a1 a0_0) (wrap64 ((wrap64 (Int.tdiv a1 a0_0)) + 1)) a0_0 a0_1 l0_2 l0_3 l0_4) else (if a2 = 2 then (water_ground_beyond.j0 k (wrap64 ((Int.tmod a1 a0_0) - 1)) (wrap64 (Int.tdiv a1 a0_0)) a0_0 a0_1 l0_2 l0_3 l0_4) else (water_ground_beyond.j0 k (Int.tmod a1 a0_0) (wrap64 ((wrap64 (Int.tdiv a1 a0_0)) - 1)) a0_0 a0_1 l0_2 l0_3 l0_4))))) = some r:=h
 clear h
 replace H:=ifn_ H;obtain ⟨c4,H⟩:=H
 have c4b0 : (a0_0 == 0) = false:=beq_eq_false_iff_ne.mpr c4
 have c4b1 : (a0_0 != 0) = true:=bne_iff_ne.mpr c4
 have HC5:=Aside0.mk H
 clear H
 go_enter Try.func46,Try.ntmps46
 go_wp2_with (first|((with_reducible refine gate_dst (N:=3) rfl ?_);refine box_ev (N:=3) (cs:=#[.int .i64 a0_0,.int .i64 a0_1,.slice A0_2 l0_2.length c0_2,.slice A0_3 l0_3.length c0_3,.slice A0_4 l0_4.length c0_4]) (t:=52) ?_;intro gb193 hg w6 hbox hb;have BK193:=Aside0.mk (hbox);have GW193 : Aside0 (w.heap.size ≤ gb193):=gsz hg;have GE193:=GW193;replace HB:=hbs hb;clear hb hbox hg;obtain ⟨_,_,_,_,_,_,_,_,_,_⟩:=cells5 BK193.out))
 go_quiet (fail)
 go_upto_block 0 with (fail)
 (try simp only [Act.put,List.setIfInBounds_toArray,List.set_cons_zero,List.set_cons_succ])
 go_cut [7,8] (fun v7 v8 wc => ∃ (kq : Nat) (x7_4 : Int) (x8_4 : Int),v7 = .int .i64 x7_4 ∧ v8 = .int .i64 x8_4 ∧ Aside0 (water_ground_beyond.j0 kq x7_4 x8_4 a0_0 a0_1 l0_2 l0_3 l0_4 = some r) ∧ Aside0 (kq ≤ k) ∧ Aside0 (wc.heap[gb193]? = some (.cells #[.int .i64 a0_0,.int .i64 a0_1,(.slice A0_2 l0_2.length c0_2),(.slice A0_3 l0_3.length c0_3),(.slice A0_4 l0_4.length c0_4)] 52 (0,0))) ∧ Aside0 (Below w.heap.size w wc))
 case first =>
  have H:=HC5.out
  clear HC5
  by_cases c8 : a2 = 0
  ·rw [if_pos c8] at H
   have c8b0:=bqt c8
   have c8b1:=bnf c8
   clear c8
   (first|rw [c8b0]|(simp only [i64_w,i32_w];rw [c8b0])|skip)
   have H':=Aside0.mk H
   clear H
   go_wp2
   go_meet
   case rel => exact ⟨_,(wrap64 ((Int.tmod a1 a0_0) + 1)),(wrap64 (Int.tdiv a1 a0_0)),(by first|rfl|(simp;done)|(simp [*];done)),(by first|rfl|(simp;done)|(simp [*];done)),H',⟨by first|omega|exact Nat.le_refl _⟩,⟨blk_up BK193.out⟩,⟨hb_⟩⟩
  rw [if_neg c8] at H
  have c8b0:=bqf c8
  have c8b1:=bnt c8
  (first|rw [c8b0]|(simp only [i64_w,i32_w];rw [c8b0])|skip)
  by_cases c9 : a2 = 1
  ·rw [if_pos c9] at H
   have c9b0:=bqt c9
   have c9b1:=bnf c9
   clear c9
   have H':=Aside0.mk H
   clear H
   go_wp2
   go_meet
   case rel => exact ⟨_,(Int.tmod a1 a0_0),(wrap64 ((wrap64 (Int.tdiv a1 a0_0)) + 1)),(by first|rfl|(simp;done)|(simp [*];done)),(by first|rfl|(simp;done)|(simp [*];done)),H',⟨by first|omega|exact Nat.le_refl _⟩,⟨blk_up BK193.out⟩,⟨hb_⟩⟩
  ·rw [if_neg c9] at H
   have c9b0:=bqf c9
   have c9b1:=bnt c9
   by_cases c10 : a2 = 2
   ·rw [if_pos c10] at H
    have c10b0:=bqt c10
    have c10b1:=bnf c10
    clear c10
    have H':=Aside0.mk H
    clear H
    go_wp2
    go_meet
    case rel => exact ⟨_,(wrap64 ((Int.tmod a1 a0_0) - 1)),(wrap64 (Int.tdiv a1 a0_0)),(by first|rfl|(simp;done)|(simp [*];done)),(by first|rfl|(simp;done)|(simp [*];done)),H',⟨by first|omega|exact Nat.le_refl _⟩,⟨blk_up BK193.out⟩,⟨hb_⟩⟩
   ·rw [if_neg c10] at H
    have c10b0:=bqf c10
    have c10b1:=bnt c10
    have H':=Aside0.mk H
    clear H
    go_wp2
    go_meet
    case rel => exact ⟨_,(Int.tmod a1 a0_0),(wrap64 ((wrap64 (Int.tdiv a1 a0_0)) - 1)),(by first|rfl|(simp;done)|(simp [*];done)),(by first|rfl|(simp;done)|(simp [*];done)),H',⟨by first|omega|exact Nat.le_refl _⟩,⟨blk_up BK193.out⟩,⟨hb_⟩⟩
 case rest =>
  clear HC5
  obtain ⟨kq,x7_4,x8_4,rfl,rfl,HA,HJ4,BK193,HB⟩:=hcut
  cases kq with
  | zero => exact absurd HA.out (by simp [water_ground_beyond.j0])
  | succ kj4 =>
   have H:=HA.out
   clear HA
   simp only [water_ground_beyond.j0] at H
   have HC11:=Aside0.mk H
   clear H
   go_upto_region 10 with (fail)
   go_cut [49] (fun v49 wc => ∃ (kq : Nat) (x49_10 : Bool),v49 = .bool x49_10 ∧ Aside0 (water_ground_beyond.j1 kq x7_4 x8_4 x49_10 a0_0 a0_1 l0_2 l0_3 l0_4 = some r) ∧ Aside0 (kq ≤ kj4) ∧ Aside0 (wc.heap[gb193]? = some (.cells #[.int .i64 a0_0,.int .i64 a0_1,(.slice A0_2 l0_2.length c0_2),(.slice A0_3 l0_3.length c0_3),(.slice A0_4 l0_4.length c0_4)] 52 (0,0))) ∧ Aside0 (Below w.heap.size w wc))
   case first =>
    have H:=HC11.out
    clear HC11
    by_cases c12 : x7_4 < 0
    ·rw [if_pos c12] at H
     have c12b0 : decide (x7_4 < 0) = true:=decide_eq_true c12
     clear c12
     (first|rw [c12b0]|(simp only [i64_w,i32_w];rw [c12b0])|skip)
     have H':=Aside0.mk H
     clear H
     go_wp2
     go_meet
     case rel => exact ⟨_,(true),(by first|rfl|(simp;done)|(simp [*];done)),H',⟨by have:=HJ4.out;first|omega|exact Nat.le_refl _⟩,⟨blk_up BK193.out⟩,⟨hb_⟩⟩
    rw [if_neg c12] at H
    have c12b0 : decide (x7_4 < 0) = false:=decide_eq_false c12
    clear c12
    (first|rw [c12b0]|(simp only [i64_w,i32_w];rw [c12b0])|skip)
    by_cases c13 : x7_4 ≥ a0_0
    ·rw [if_pos c13] at H
     have c13b0 : decide (a0_0 ≤ x7_4) = true:=decide_eq_true c13
     clear c13
     have H':=Aside0.mk H
     clear H
     obtain ⟨_,_,_,_,_,_,_,_,_,_⟩:=cells5 BK193.out
     go_wp2
     go_meet
     case rel => exact ⟨_,(true),(by first|rfl|(simp;done)|(simp [*];done)),H',⟨by have:=HJ4.out;first|omega|exact Nat.le_refl _⟩,⟨blk_up BK193.out⟩,⟨hb_⟩⟩
    ·rw [if_neg c13] at H
     have c13b0 : decide (a0_0 ≤ x7_4) = false:=decide_eq_false c13
     clear c13
     by_cases c15 : x8_4 < 0
     ·rw [if_pos c15] at H
      have c15b0 : decide (x8_4 < 0) = true:=decide_eq_true c15
      clear c15
      have H':=Aside0.mk H
      clear H
      obtain ⟨_,_,_,_,_,_,_,_,_,_⟩:=cells5 BK193.out
      go_wp2
      go_meet
      case rel => exact ⟨_,(true),(by first|rfl|(simp;done)|(simp [*];done)),H',⟨by have:=HJ4.out;first|omega|exact Nat.le_refl _⟩,⟨blk_up BK193.out⟩,⟨hb_⟩⟩
     ·rw [if_neg c15] at H
      have c15b0 : decide (x8_4 < 0) = false:=decide_eq_false c15
      clear c15
      have H':=Aside0.mk H
      clear H
      obtain ⟨_,_,_,_,_,_,_,_,_,_⟩:=cells5 BK193.out
      go_wp2
      go_meet
      case rel => exact ⟨_,(decide (x8_4 ≥ a0_1)),(by first|rfl|(simp;done)|(simp [*];done)),H',⟨by have:=HJ4.out;first|omega|exact Nat.le_refl _⟩,⟨blk_up BK193.out⟩,⟨hb_⟩⟩
   case rest =>
    clear HC11
    obtain ⟨kq,x49_10,rfl,HA,HJ10,BK193,HB⟩:=hcut
    cases kq with
    | zero => exact absurd HA.out (by simp [water_ground_beyond.j1])
    | succ kj10 =>
     have H:=HA.out
     clear HA
     simp only [water_ground_beyond.j1] at H
     by_cases c18 : x49_10 = true
     ·subst c18
      have H1 : (some (-1)) = some r:=by rw [if_pos rfl] at H;exact H
      clear H
      have H:=H1
      clear H1
      obtain rfl:=Option.some.inj H
      go_wp2
      go_ret
      exact ⟨er_,hb_⟩
     ·replace c18:=Bool.eq_false_iff.mpr c18
      subst c18
      have H1 : (some (wrap64 ((wrap64 (x8_4 * a0_0)) + x7_4))) = some r:=by rw [if_neg (show ¬ (false = true) by decide)] at H;exact H
      clear H
      have H:=H1
      clear H1
      obtain rfl:=Option.some.inj H
      obtain ⟨_,_,_,_,_,_,_,_,_,_⟩:=cells5 BK193.out
      go_wp2
      go_ret
      exact ⟨er_,hb_⟩

/-! ### water_ground_level: function 62 -/
def water_ground_level.f (a0_0 : Int) (a0_1 : Int) (l0_2 : List Int) (l0_3 : List Int) (l0_4 : List Bool) (a1 : Int) : Option (Int) := if 0 ≤ a1 then (if a1 < (l0_4.length : Int) then (if rdOf false l0_4 a1 = true then (some 2) else (if a1 < (l0_3.length : Int) then (some (rd l0_3 a1)) else (none))) else (none)) else (none)
set_option maxHeartbeats 8000000 in
set_option maxRecDepth 100000 in
theorem water_ground_level.calls (a0_0 : Int) (a0_1 : Int) (A0_2 : Option Addr) (c0_2 : Nat) (l0_2 : List Int) (A0_3 : Option Addr) (c0_3 : Nat) (l0_3 : List Int) (A0_4 : Option Addr) (c0_4 : Nat) (l0_4 : List Bool) (a1 : Int) (r : Int) (w : World) (hr0_2 : Kd.C (Kd.int .i64) w A0_2 l0_2.length l0_2) (hc0_2 : l0_2.length ≤ c0_2) (hr0_3 : Kd.C (Kd.int .i64) w A0_3 l0_3.length l0_3) (hc0_3 : l0_3.length ≤ c0_3) (hr0_4 : Kd.C Kd.bool w A0_4 l0_4.length l0_4) (hc0_4 : l0_4.length ≤ c0_4) (h : water_ground_level.f a0_0 a0_1 l0_2 l0_3 l0_4 a1 = some r) :
  Calls Try.prog 62 #[.agg #[.int .i64 a0_0,.int .i64 a0_1,.slice A0_2 l0_2.length c0_2,.slice A0_3 l0_3.length c0_3,.slice A0_4 l0_4.length c0_4],.int .i64 a1] w fun e w' => e = .returned (.int .i64 r) ∧ Below w.heap.size w w':=by
 have hu52:=Try.underlying52
 have HR0_2:=Aside0.mk hr0_2
 have HC0_2:=Aside0.mk hc0_2
 clear hr0_2 hc0_2
 have HR0_3:=Aside0.mk hr0_3
 have HC0_3:=Aside0.mk hc0_3
 clear hr0_3 hc0_3
 have HR0_4:=Aside0.mk hr0_4
 have HC0_4:=Aside0.mk hc0_4
 clear hr0_4 hc0_4
 have HB:=Aside0.mk (Below.refl w.heap.size w)
 have H : (if 0 ≤ a1 then (if a1 < (l0_4.length : Int) then (if rdOf false l0_4 a1 = true then (some 2) else (if a1 < (l0_3.length : Int) then (some (rd l0_3 a1)) else (none))) else (none)) else (none)) = some r:=h
 clear h
 replace H:=ifp_ H;obtain ⟨c3,H⟩:=H
 have c3b0 : decide (0 ≤ a1) = true:=decide_eq_true c3
 clear c3
 replace H:=ifp_ H;obtain ⟨c4,H⟩:=H
 have c4b0 : decide (a1 < (l0_4.length : Int)) = true:=decide_eq_true c4
 clear c4
 obtain ⟨bq5,hbq5⟩ : ∃ b_ : Bool,b_ = (rdOf false l0_4 a1):=⟨_,rfl⟩
 replace H : (if bq5 = true then (some 2) else (if a1 < (l0_3.length : Int) then (some (rd l0_3 a1)) else (none))) = some r:=by rw [← hbq5] at H;exact H
 have Nbq5:=Aside0.mk hbq5
 clear hbq5
 by_cases c6 : bq5 = true
 ·subst c6
  have H1 : (some 2) = some r:=by rw [if_pos rfl] at H;exact H
  clear H
  have H:=H1
  clear H1
  obtain rfl:=Option.some.inj H
  go_enter Try.func62,Try.ntmps62
  go_wp2_with (first|((with_reducible refine gate_dst (N:=2) rfl ?_);refine box_ev (N:=2) (cs:=#[.int .i64 a0_0,.int .i64 a0_1,.slice A0_2 l0_2.length c0_2,.slice A0_3 l0_3.length c0_3,.slice A0_4 l0_4.length c0_4]) (t:=52) ?_;intro gb194 hg w7 hbox hb;have BK194:=Aside0.mk (hbox);have GW194 : Aside0 (w.heap.size ≤ gb194):=gsz hg;have GE194:=GW194;replace HB:=hbs hb;clear hb hbox hg;obtain ⟨_,_,_,_,_,_,_,_,_,_⟩:=cells5 BK194.out;have p195 : 0 ≤ (a1 : Int):=of_decide_eq_true (by first|(with_reducible assumption)|assumption);have q195 : a1 < (l0_4.length : Int):=of_decide_eq_true (by first|(with_reducible assumption)|assumption);obtain ⟨ad195,e195,hx195_0⟩:=Kd.at_bool HR0_4.out a1 p195 q195;(try rw [← Nbq5.out] at hx195_0);cases e195;replace hx195_0:=(HB.out.cell (World.block_lt_of_cell? w _ hx195_0)).trans hx195_0;replace p195:=eq_true p195;replace q195:=eq_true q195))
  go_ret
  exact ⟨er_,hb_⟩
 ·replace c6:=Bool.eq_false_iff.mpr c6
  subst c6
  have H1 : (if a1 < (l0_3.length : Int) then (some (rd l0_3 a1)) else (none)) = some r:=by rw [if_neg (show ¬ (false = true) by decide)] at H;exact H
  clear H
  have H:=H1
  clear H1
  replace H:=ifp_ H;obtain ⟨c9,H⟩:=H
  have c9b0 : decide (a1 < (l0_3.length : Int)) = true:=decide_eq_true c9
  clear c9
  obtain rfl:=Option.some.inj H
  go_enter Try.func62,Try.ntmps62
  go_wp2_with (first|((with_reducible refine gate_dst (N:=2) rfl ?_);refine box_ev (N:=2) (cs:=#[.int .i64 a0_0,.int .i64 a0_1,.slice A0_2 l0_2.length c0_2,.slice A0_3 l0_3.length c0_3,.slice A0_4 l0_4.length c0_4]) (t:=52) ?_;intro gb194 hg w10 hbox hb;have BK194:=Aside0.mk (hbox);have GW194 : Aside0 (w.heap.size ≤ gb194):=gsz hg;have GE194:=GW194;replace HB:=hbs hb;clear hb hbox hg;obtain ⟨_,_,_,_,_,_,_,_,_,_⟩:=cells5 BK194.out;have p195 : 0 ≤ (a1 : Int):=of_decide_eq_true (by first|(with_reducible assumption)|assumption);have q195 : a1 < (l0_4.length : Int):=of_decide_eq_true (by first|(with_reducible assumption)|assumption);obtain ⟨ad195,e195,hx195_0⟩:=Kd.at_bool HR0_4.out a1 p195 q195;(try rw [← Nbq5.out] at hx195_0);cases e195;replace hx195_0:=(HB.out.cell (World.block_lt_of_cell? w _ hx195_0)).trans hx195_0;replace p195:=eq_true p195;replace q195:=eq_true q195;have p196 : 0 ≤ (a1 : Int):=of_decide_eq_true (by first|(with_reducible assumption)|assumption);have q196 : a1 < (l0_3.length : Int):=of_decide_eq_true (by first|(with_reducible assumption)|assumption);obtain ⟨ad196,e196,hx196_0⟩:=Kd.at_int HR0_3.out a1 p196 q196;cases e196;replace hx196_0:=(HB.out.cell (World.block_lt_of_cell? w _ hx196_0)).trans hx196_0;replace p196:=eq_true p196;replace q196:=eq_true q196))
  go_ret
  exact ⟨er_,hb_⟩

/-! ### water_upper: function 75 -/
def water_upper.f (a0 : Int) : Option (Int) := if a0 = 6 then (some 0) else (if a0 = 12 then (some 1) else (if a0 = 9 then (some 2) else (some 3)))
set_option maxHeartbeats 8000000 in
set_option maxRecDepth 100000 in
theorem water_upper.calls (a0 : Int) (r : Int) (w : World) (h : water_upper.f a0 = some r) :
  Calls Try.prog 75 #[.int .i64 a0] w fun e w' => e = .returned (.int .i64 r) ∧ Drawn0 w w':=by
 have H : (if a0 = 6 then (some 0) else (if a0 = 12 then (some 1) else (if a0 = 9 then (some 2) else (some 3)))) = some r:=h
 clear h
 by_cases c2 : a0 = 6
 ·rw [if_pos c2] at H
  have c2b0:=bqt c2
  have c2b1:=bnf c2
  clear c2
  obtain rfl:=Option.some.inj H
  go_enter Try.func75,Try.ntmps75
  go_wp2
  go_ret
  exact ⟨by first|rfl|(simp;done)|(simp [*];done),by repeat (first|exact Drawn0.refl _|apply Drawn0.step)⟩
 rw [if_neg c2] at H
 have c2b0:=bqf c2
 have c2b1:=bnt c2
 by_cases c3 : a0 = 12
 ·rw [if_pos c3] at H
  have c3b0:=bqt c3
  have c3b1:=bnf c3
  clear c3
  obtain rfl:=Option.some.inj H
  go_enter Try.func75,Try.ntmps75
  go_wp2
  go_ret
  exact ⟨by first|rfl|(simp;done)|(simp [*];done),by repeat (first|exact Drawn0.refl _|apply Drawn0.step)⟩
 ·rw [if_neg c3] at H
  have c3b0:=bqf c3
  have c3b1:=bnt c3
  by_cases c4 : a0 = 9
  ·rw [if_pos c4] at H
   have c4b0:=bqt c4
   have c4b1:=bnf c4
   clear c4
   obtain rfl:=Option.some.inj H
   go_enter Try.func75,Try.ntmps75
   go_wp2
   go_ret
   exact ⟨by first|rfl|(simp;done)|(simp [*];done),by repeat (first|exact Drawn0.refl _|apply Drawn0.step)⟩
  ·rw [if_neg c4] at H
   have c4b0:=bqf c4
   have c4b1:=bnt c4
   obtain rfl:=Option.some.inj H
   go_enter Try.func75,Try.ntmps75
   go_wp2
   go_ret
   exact ⟨by first|rfl|(simp;done)|(simp [*];done),by repeat (first|exact Drawn0.refl _|apply Drawn0.step)⟩

/-! ### water_ground_through: function 61 -/
def water_ground_through.f (a0_0 : Int) (a0_1 : Int) (l0_2 : List Int) (l0_3 : List Int) (l0_4 : List Bool) (a1 : Int) (a2 : Int) (a3 : Int) : Option (Bool) := if 0 ≤ a1 then (if a1 < (l0_2.length : Int) then ((water_upper.f (rd l0_2 a1)).bind fun t199 => (if a2 = t199 then ((water_ground_level.f a0_0 a0_1 l0_2 l0_3 l0_4 a1).bind fun t200 => (some (a3 == (wrap64 (t200 + 1))))) else (if a2 = (Int.tmod (wrap64 (t199 + 2)) 4) then ((water_ground_level.f a0_0 a0_1 l0_2 l0_3 l0_4 a1).bind fun t201 => (some (a3 == t201))) else (some false)))) else (none)) else (none)
set_option maxHeartbeats 8000000 in
set_option maxRecDepth 100000 in
theorem water_ground_through.calls (a0_0 : Int) (a0_1 : Int) (A0_2 : Option Addr) (c0_2 : Nat) (l0_2 : List Int) (A0_3 : Option Addr) (c0_3 : Nat) (l0_3 : List Int) (A0_4 : Option Addr) (c0_4 : Nat) (l0_4 : List Bool) (a1 : Int) (a2 : Int) (a3 : Int) (r : Bool) (w : World) (hr0_2 : Kd.C (Kd.int .i64) w A0_2 l0_2.length l0_2) (hc0_2 : l0_2.length ≤ c0_2) (hr0_3 : Kd.C (Kd.int .i64) w A0_3 l0_3.length l0_3) (hc0_3 : l0_3.length ≤ c0_3) (hr0_4 : Kd.C Kd.bool w A0_4 l0_4.length l0_4) (hc0_4 : l0_4.length ≤ c0_4) (h : water_ground_through.f a0_0 a0_1 l0_2 l0_3 l0_4 a1 a2 a3 = some r) :
  Calls Try.prog 61 #[.agg #[.int .i64 a0_0,.int .i64 a0_1,.slice A0_2 l0_2.length c0_2,.slice A0_3 l0_3.length c0_3,.slice A0_4 l0_4.length c0_4],.int .i64 a1,.int .i64 a2,.int .i64 a3] w fun e w' => e = .returned (.bool r) ∧ Below w.heap.size w w':=by
 have hu52:=Try.underlying52
 have HR0_2:=Aside0.mk hr0_2
 have HC0_2:=Aside0.mk hc0_2
 clear hr0_2 hc0_2
 have HR0_3:=Aside0.mk hr0_3
 have HC0_3:=Aside0.mk hc0_3
 clear hr0_3 hc0_3
 have HR0_4:=Aside0.mk hr0_4
 have HC0_4:=Aside0.mk hc0_4
 clear hr0_4 hc0_4
 have HB:=Aside0.mk (Below.refl w.heap.size w)
 have H : (if 0 ≤ a1 then (if a1 < (l0_2.length : Int) then ((water_upper.f (rd l0_2 a1)).bind fun t199 => (if a2 = t199 then ((water_ground_level.f a0_0 a0_1 l0_2 l0_3 l0_4 a1).bind fun t200 => (some (a3 == (wrap64 (t200 + 1))))) else (if a2 = (Int.tmod (wrap64 (t199 + 2)) 4) then ((water_ground_level.f a0_0 a0_1 l0_2 l0_3 l0_4 a1).bind fun t201 => (some (a3 == t201))) else (some false)))) else (none)) else (none)) = some r:=h
 clear h
 replace H:=ifp_ H;obtain ⟨c5,H⟩:=H
 have c5b0 : decide (0 ≤ a1) = true:=decide_eq_true c5
 clear c5
 replace H:=ifp_ H;obtain ⟨c6,H⟩:=H
 have c6b0 : decide (a1 < (l0_2.length : Int)) = true:=decide_eq_true c6
 clear c6
 replace H:=Option.bind_eq_some_iff.mp H
 obtain ⟨t199,A70,H⟩:=H
 replace H : (if a2 = t199 then ((water_ground_level.f a0_0 a0_1 l0_2 l0_3 l0_4 a1).bind fun t200 => (some (a3 == (wrap64 (t200 + 1))))) else (if a2 = (Int.tmod (wrap64 (t199 + 2)) 4) then ((water_ground_level.f a0_0 a0_1 l0_2 l0_3 l0_4 a1).bind fun t201 => (some (a3 == t201))) else (some false))) = some r:=H
 have A7:=Aside0.mk A70
 clear A70
 by_cases c8 : a2 = t199
 ·rw [if_pos c8] at H
  have c8b0:=bqt c8
  have c8b1:=bnf c8
  clear c8
  replace H:=Option.bind_eq_some_iff.mp H
  obtain ⟨t200,A90,H⟩:=H
  replace H : (some (a3 == (wrap64 (t200 + 1)))) = some r:=H
  have A9:=Aside0.mk A90
  clear A90
  obtain rfl:=Option.some.inj H
  go_enter Try.func61,Try.ntmps61
  go_wp2_with (first|((with_reducible refine gate_dst (N:=4) rfl ?_);refine box_ev (N:=4) (cs:=#[.int .i64 a0_0,.int .i64 a0_1,.slice A0_2 l0_2.length c0_2,.slice A0_3 l0_3.length c0_3,.slice A0_4 l0_4.length c0_4]) (t:=52) ?_;intro gb197 hg w10 hbox hb;have BK197:=Aside0.mk (hbox);have GW197 : Aside0 (w.heap.size ≤ gb197):=gsz hg;have GE197:=GW197;replace HB:=hbs hb;clear hb hbox hg;obtain ⟨_,_,_,_,_,_,_,_,_,_⟩:=cells5 BK197.out;have p198 : 0 ≤ (a1 : Int):=of_decide_eq_true (by first|(with_reducible assumption)|assumption);have q198 : a1 < (l0_2.length : Int):=of_decide_eq_true (by first|(with_reducible assumption)|assumption);obtain ⟨ad198,e198,hx198_0⟩:=Kd.at_int HR0_2.out a1 p198 q198;cases e198;replace hx198_0:=(HB.out.cell (World.block_lt_of_cell? w _ hx198_0)).trans hx198_0;replace p198:=eq_true p198;replace q198:=eq_true q198)|((with_reducible refine gate_callee (f:=75) rfl ?_);refine goesL_ (some 15) rfl rfl Try.func75 (by kernel_rfl) rfl #[.int .i64 (rd l0_2 a1)] rfl ga_ ?_;(with_reducible refine (water_upper.calls (rd l0_2 a1) t199 _ A7.out).mono ?_);rintro e w' ⟨rfl,⟨nd,rfl⟩⟩;refine ⟨_,rfl,?_⟩)|((with_reducible refine gate_callee (f:=62) rfl ?_);refine goesL_ (some 23) rfl rfl Try.func62 (by kernel_rfl) rfl #[.agg #[.int .i64 a0_0,.int .i64 a0_1,.slice (some ad198) l0_2.length c0_2,.slice A0_3 l0_3.length c0_3,.slice A0_4 l0_4.length c0_4],.int .i64 a1] rfl ga_ ?_;(with_reducible refine (water_ground_level.calls a0_0 a0_1 _ _ l0_2 _ _ l0_3 _ _ l0_4 a1 t200 _ ?_ ?_ ?_ ?_ ?_ ?_ A9.out).mono ?_);(focus (repeat (first|exact (Kd.C_below HR0_2.out (hb_))|(with_reducible refine Kd.C_alloc ?_ _)|(with_reducible refine Kd.C_drewN ?_ _)|(with_reducible refine Kd.C_drew ?_))));exact HC0_2.out;(focus (repeat (first|exact (Kd.C_below HR0_3.out (hb_))|(with_reducible refine Kd.C_alloc ?_ _)|(with_reducible refine Kd.C_drewN ?_ _)|(with_reducible refine Kd.C_drew ?_))));exact HC0_3.out;(focus (repeat (first|exact (Kd.C_below HR0_4.out (hb_))|(with_reducible refine Kd.C_alloc ?_ _)|(with_reducible refine Kd.C_drewN ?_ _)|(with_reducible refine Kd.C_drew ?_))));exact HC0_4.out;rintro e w12 ⟨rfl,hb⟩;refine ⟨_,rfl,?_⟩;replace BK197:=bkb BK197 hb;replace HB:=hbs hb))
  go_ret
  exact ⟨er_,hb_⟩
 ·rw [if_neg c8] at H
  have c8b0:=bqf c8
  have c8b1:=bnt c8
  by_cases c13 : a2 = (Int.tmod (wrap64 (t199 + 2)) 4)
  ·rw [if_pos c13] at H
   have c13b0:=bqt c13
   have c13b1:=bnf c13
   clear c13
   replace H:=Option.bind_eq_some_iff.mp H
   obtain ⟨t201,A140,H⟩:=H
   replace H : (some (a3 == t201)) = some r:=H
   have A14:=Aside0.mk A140
   clear A140
   obtain rfl:=Option.some.inj H
   go_enter Try.func61,Try.ntmps61
   go_wp2_with (first|((with_reducible refine gate_dst (N:=4) rfl ?_);refine box_ev (N:=4) (cs:=#[.int .i64 a0_0,.int .i64 a0_1,.slice A0_2 l0_2.length c0_2,.slice A0_3 l0_3.length c0_3,.slice A0_4 l0_4.length c0_4]) (t:=52) ?_;intro gb197 hg w15 hbox hb;have BK197:=Aside0.mk (hbox);have GW197 : Aside0 (w.heap.size ≤ gb197):=gsz hg;have GE197:=GW197;replace HB:=hbs hb;clear hb hbox hg;obtain ⟨_,_,_,_,_,_,_,_,_,_⟩:=cells5 BK197.out;have p198 : 0 ≤ (a1 : Int):=of_decide_eq_true (by first|(with_reducible assumption)|assumption);have q198 : a1 < (l0_2.length : Int):=of_decide_eq_true (by first|(with_reducible assumption)|assumption);obtain ⟨ad198,e198,hx198_0⟩:=Kd.at_int HR0_2.out a1 p198 q198;cases e198;replace hx198_0:=(HB.out.cell (World.block_lt_of_cell? w _ hx198_0)).trans hx198_0;replace p198:=eq_true p198;replace q198:=eq_true q198)|((with_reducible refine gate_callee (f:=75) rfl ?_);refine goesL_ (some 15) rfl rfl Try.func75 (by kernel_rfl) rfl #[.int .i64 (rd l0_2 a1)] rfl ga_ ?_;(with_reducible refine (water_upper.calls (rd l0_2 a1) t199 _ A7.out).mono ?_);rintro e w' ⟨rfl,⟨nd,rfl⟩⟩;refine ⟨_,rfl,?_⟩)|((with_reducible refine gate_callee (f:=62) rfl ?_);refine goesL_ (some 34) rfl rfl Try.func62 (by kernel_rfl) rfl #[.agg #[.int .i64 a0_0,.int .i64 a0_1,.slice (some ad198) l0_2.length c0_2,.slice A0_3 l0_3.length c0_3,.slice A0_4 l0_4.length c0_4],.int .i64 a1] rfl ga_ ?_;(with_reducible refine (water_ground_level.calls a0_0 a0_1 _ _ l0_2 _ _ l0_3 _ _ l0_4 a1 t201 _ ?_ ?_ ?_ ?_ ?_ ?_ A14.out).mono ?_);(focus (repeat (first|exact (Kd.C_below HR0_2.out (hb_))|(with_reducible refine Kd.C_alloc ?_ _)|(with_reducible refine Kd.C_drewN ?_ _)|(with_reducible refine Kd.C_drew ?_))));exact HC0_2.out;(focus (repeat (first|exact (Kd.C_below HR0_3.out (hb_))|(with_reducible refine Kd.C_alloc ?_ _)|(with_reducible refine Kd.C_drewN ?_ _)|(with_reducible refine Kd.C_drew ?_))));exact HC0_3.out;(focus (repeat (first|exact (Kd.C_below HR0_4.out (hb_))|(with_reducible refine Kd.C_alloc ?_ _)|(with_reducible refine Kd.C_drewN ?_ _)|(with_reducible refine Kd.C_drew ?_))));exact HC0_4.out;rintro e w17 ⟨rfl,hb⟩;refine ⟨_,rfl,?_⟩;replace BK197:=bkb BK197 hb;replace HB:=hbs hb))
   go_ret
   exact ⟨er_,hb_⟩
  ·rw [if_neg c13] at H
   have c13b0:=bqf c13
   have c13b1:=bnt c13
   obtain rfl:=Option.some.inj H
   go_enter Try.func61,Try.ntmps61
   go_wp2_with (first|((with_reducible refine gate_dst (N:=4) rfl ?_);refine box_ev (N:=4) (cs:=#[.int .i64 a0_0,.int .i64 a0_1,.slice A0_2 l0_2.length c0_2,.slice A0_3 l0_3.length c0_3,.slice A0_4 l0_4.length c0_4]) (t:=52) ?_;intro gb197 hg w18 hbox hb;have BK197:=Aside0.mk (hbox);have GW197 : Aside0 (w.heap.size ≤ gb197):=gsz hg;have GE197:=GW197;replace HB:=hbs hb;clear hb hbox hg;obtain ⟨_,_,_,_,_,_,_,_,_,_⟩:=cells5 BK197.out;have p198 : 0 ≤ (a1 : Int):=of_decide_eq_true (by first|(with_reducible assumption)|assumption);have q198 : a1 < (l0_2.length : Int):=of_decide_eq_true (by first|(with_reducible assumption)|assumption);obtain ⟨ad198,e198,hx198_0⟩:=Kd.at_int HR0_2.out a1 p198 q198;cases e198;replace hx198_0:=(HB.out.cell (World.block_lt_of_cell? w _ hx198_0)).trans hx198_0;replace p198:=eq_true p198;replace q198:=eq_true q198)|((with_reducible refine gate_callee (f:=75) rfl ?_);refine goesL_ (some 15) rfl rfl Try.func75 (by kernel_rfl) rfl #[.int .i64 (rd l0_2 a1)] rfl ga_ ?_;(with_reducible refine (water_upper.calls (rd l0_2 a1) t199 _ A7.out).mono ?_);rintro e w' ⟨rfl,⟨nd,rfl⟩⟩;refine ⟨_,rfl,?_⟩))
   go_ret
   exact ⟨er_,hb_⟩

/-! ### water_ground_joined: function 41 -/
def water_ground_joined.f (k : Nat) (a0_0 : Int) (a0_1 : Int) (l0_2 : List Int) (l0_3 : List Int) (l0_4 : List Bool) (l1_0 : List Int) (l1_1 : List Int) (a2 : Int) (a3 : Int) : Option (Bool) := (water_ground_beyond.f k a0_0 a0_1 l0_2 l0_3 l0_4 a2 a3).bind fun t204 => (if t204 < 0 then (some false) else ((water_ground_wet.f a0_0 a0_1 l0_2 l0_3 l0_4 l1_0 l1_1 a2).bind fun t205 => (if t205 = true then ((water_ground_wet.f a0_0 a0_1 l0_2 l0_3 l0_4 l1_0 l1_1 t204).bind fun t206 => (if t206 = true then (if 0 ≤ a2 then (if a2 < (l1_0.length : Int) then (if 0 ≤ t204 then (if t204 < (l1_0.length : Int) then (if (rd l1_0 a2) = 2 then (if (rd l1_0 t204) = 2 then (some false) else ((water_ground_level.f a0_0 a0_1 l0_2 l0_3 l0_4 t204).bind fun t209 => ((water_ground_through.f a0_0 a0_1 l0_2 l0_3 l0_4 a2 a3 t209).bind fun t210 => (some t210)))) else (if (rd l1_0 t204) = 2 then ((water_ground_level.f a0_0 a0_1 l0_2 l0_3 l0_4 a2).bind fun t211 => ((water_ground_through.f a0_0 a0_1 l0_2 l0_3 l0_4 t204 (Int.tmod (wrap64 (a3 + 2)) 4) t211).bind fun t212 => (some t212))) else ((water_ground_level.f a0_0 a0_1 l0_2 l0_3 l0_4 a2).bind fun t213 => ((water_ground_level.f a0_0 a0_1 l0_2 l0_3 l0_4 t204).bind fun t214 => (some (t213 == t214)))))) else (none)) else (none)) else (none)) else (none)) else (some false))) else (some false))))
theorem water_ground_joined.mono : ∀ a0 a1 a2 a3 a4 a5 a6 a7 a8 k, LeO (water_ground_joined.f k a0 a1 a2 a3 a4 a5 a6 a7 a8) (water_ground_joined.f (k + 1) a0 a1 a2 a3 a4 a5 a6 a7 a8) := by
 intro a0 a1 a2 a3 a4 a5 a6 a7 a8 k
 unfold water_ground_joined.f
 repeat' first
   | (with_reducible exact water_ground_beyond.mono _ _ _ _ _ _ _ _)
   | (with_reducible exact LeO.refl _)
   | (with_reducible exact LeO.none _)
   | (with_reducible refine LeO.ite ?_ ?_)
   | (with_reducible refine LeO.bind ?_ (fun _ => ?_))
   | exact water_ground_beyond.mono _ _ _ _ _ _ _ _
   | exact LeO.none _
   | refine LeO.ite ?_ ?_
   | refine LeO.bind ?_ (fun _ => ?_)
def water_ground_joined.T4 : Bool × List (List Nat × List Nat) := (true, [([], []), ([0], [0]), ([], []), ([1, 2], [1, 2]), ([3], [3]), ([4], [4]), ([], []), ([6], [6]), ([], []), ([7, 8], [7, 8]), ([9], [9]), ([10], [10]), ([5, 0, 1, 2, 3, 4, 5], [5]), ([11, 12, 0, 1, 2, 3, 4, 5, 6, 7, 8, 9, 10, 11, 12], [11])])
def water_ground_joined.B4 : List Nat := [0, 1, 0, 7, 15, 31, 0, 64, 0, 448, 960, 1984, 63, 8191]
theorem water_ground_joined.tab4 : rtab .any (opsOf Try.f41 4) = water_ground_joined.T4 := by kernel_rfl
theorem water_ground_joined.bits4 : waitsOk water_ground_joined.T4.2 water_ground_joined.B4 = true := by kernel_rfl
def water_ground_joined.T8 : Bool × List (List Nat × List Nat) := (true, [([], []), ([], []), ([], []), ([], []), ([], []), ([3, 4], [3, 4]), ([0, 1, 2, 5, 5], [0, 1, 2, 5]), ([6, 6, 0, 1, 2, 3, 4, 5, 6], [6])])
def water_ground_joined.B8 : List Nat := [0, 0, 0, 0, 0, 24, 63, 127]
theorem water_ground_joined.tab8 : rtab .any (opsOf Try.f41 8) = water_ground_joined.T8 := by kernel_rfl
theorem water_ground_joined.bits8 : waitsOk water_ground_joined.T8.2 water_ground_joined.B8 = true := by kernel_rfl
def water_ground_joined.T10 : Bool × List (List Nat × List Nat) := (true, [([], []), ([], []), ([], []), ([2], [2]), ([3], [3]), ([], []), ([], []), ([5, 6], [5, 6]), ([0, 1, 4, 7, 7], [0, 1, 4, 7]), ([8, 8, 0, 1, 2, 3, 4, 5, 6, 7, 8], [8])])
def water_ground_joined.B10 : List Nat := [0, 0, 0, 4, 12, 0, 0, 96, 255, 511]
theorem water_ground_joined.tab10 : rtab .any (opsOf Try.f41 10) = water_ground_joined.T10 := by kernel_rfl
theorem water_ground_joined.bits10 : waitsOk water_ground_joined.T10.2 water_ground_joined.B10 = true := by kernel_rfl
def water_ground_joined.T11 : Bool × List (List Nat × List Nat) := (true, [([], []), ([], []), ([0, 1], [0, 1]), ([], []), ([], []), ([3, 4, 2], [3, 4]), ([2, 5], [2, 5]), ([6, 5, 0, 1, 2, 3, 4, 5, 6], [6])])
def water_ground_joined.B11 : List Nat := [0, 0, 3, 0, 0, 31, 63, 127]
theorem water_ground_joined.tab11 : rtab .any (opsOf Try.f41 11) = water_ground_joined.T11 := by kernel_rfl
theorem water_ground_joined.bits11 : waitsOk water_ground_joined.T11.2 water_ground_joined.B11 = true := by kernel_rfl
set_option maxHeartbeats 8000000 in
set_option maxRecDepth 100000 in
theorem water_ground_joined.calls (k : Nat) (a0_0 : Int) (a0_1 : Int) (A0_2 : Option Addr) (c0_2 : Nat) (l0_2 : List Int) (A0_3 : Option Addr) (c0_3 : Nat) (l0_3 : List Int) (A0_4 : Option Addr) (c0_4 : Nat) (l0_4 : List Bool) (A1_0 : Option Addr) (c1_0 : Nat) (l1_0 : List Int) (A1_1 : Option Addr) (c1_1 : Nat) (l1_1 : List Int) (a2 : Int) (a3 : Int) (r : Bool) (w : World) (hr0_2 : Kd.C (Kd.int .i64) w A0_2 l0_2.length l0_2) (hc0_2 : l0_2.length ≤ c0_2) (hr0_3 : Kd.C (Kd.int .i64) w A0_3 l0_3.length l0_3) (hc0_3 : l0_3.length ≤ c0_3) (hr0_4 : Kd.C Kd.bool w A0_4 l0_4.length l0_4) (hc0_4 : l0_4.length ≤ c0_4) (hr1_0 : Kd.C (Kd.int .i64) w A1_0 l1_0.length l1_0) (hc1_0 : l1_0.length ≤ c1_0) (hr1_1 : Kd.C (Kd.int .i64) w A1_1 l1_1.length l1_1) (hc1_1 : l1_1.length ≤ c1_1) (h : water_ground_joined.f k a0_0 a0_1 l0_2 l0_3 l0_4 l1_0 l1_1 a2 a3 = some r) :
  Calls Try.prog 41 #[.agg #[.int .i64 a0_0,.int .i64 a0_1,.slice A0_2 l0_2.length c0_2,.slice A0_3 l0_3.length c0_3,.slice A0_4 l0_4.length c0_4],.agg #[.slice A1_0 l1_0.length c1_0,.slice A1_1 l1_1.length c1_1],.int .i64 a2,.int .i64 a3] w fun e w' => e = .returned (.bool r) ∧ Below w.heap.size w w':=by
 have hu52:=Try.underlying52
 have hu26:=Try.underlying26
 have HR0_2:=Aside0.mk hr0_2
 have HC0_2:=Aside0.mk hc0_2
 clear hr0_2 hc0_2
 have HR0_3:=Aside0.mk hr0_3
 have HC0_3:=Aside0.mk hc0_3
 clear hr0_3 hc0_3
 have HR0_4:=Aside0.mk hr0_4
 have HC0_4:=Aside0.mk hc0_4
 clear hr0_4 hc0_4
 have HR1_0:=Aside0.mk hr1_0
 have HC1_0:=Aside0.mk hc1_0
 clear hr1_0 hc1_0
 have HR1_1:=Aside0.mk hr1_1
 have HC1_1:=Aside0.mk hc1_1
 clear hr1_1 hc1_1
 have HB:=Aside0.mk (Below.refl w.heap.size w)
 have H : ((water_ground_beyond.f k a0_0 a0_1 l0_2 l0_3 l0_4 a2 a3).bind fun t204 => (if t204 < 0 then (some false) else ((water_ground_wet.f a0_0 a0_1 l0_2 l0_3 l0_4 l1_0 l1_1 a2).bind fun t205 => (if t205 = true then ((water_ground_wet.f a0_0 a0_1 l0_2 l0_3 l0_4 l1_0 l1_1 t204).bind fun t206 => (if t206 = true then (if 0 ≤ a2 then (if a2 < (l1_0.length : Int) then (if 0 ≤ t204 then (if t204 < (l1_0.length : Int) then (if (rd l1_0 a2) = 2 then (if (rd l1_0 t204) = 2 then (some false) else ((water_ground_level.f a0_0 a0_1 l0_2 l0_3 l0_4 t204).bind fun t209 => ((water_ground_through.f a0_0 a0_1 l0_2 l0_3 l0_4 a2 a3 t209).bind fun t210 => (some t210)))) else (if (rd l1_0 t204) = 2 then ((water_ground_level.f a0_0 a0_1 l0_2 l0_3 l0_4 a2).bind fun t211 => ((water_ground_through.f a0_0 a0_1 l0_2 l0_3 l0_4 t204 (Int.tmod (wrap64 (a3 + 2)) 4) t211).bind fun t212 => (some t212))) else ((water_ground_level.f a0_0 a0_1 l0_2 l0_3 l0_4 a2).bind fun t213 => ((water_ground_level.f a0_0 a0_1 l0_2 l0_3 l0_4 t204).bind fun t214 => (some (t213 == t214)))))) else (none)) else (none)) else (none)) else (none)) else (some false))) else (some false))))) = some r:=h
 clear h
 replace H:=Option.bind_eq_some_iff.mp H
 obtain ⟨t204,A50,H⟩:=H
 replace H : (if t204 < 0 then (some false) else ((water_ground_wet.f a0_0 a0_1 l0_2 l0_3 l0_4 l1_0 l1_1 a2).bind fun t205 => (if t205 = true then ((water_ground_wet.f a0_0 a0_1 l0_2 l0_3 l0_4 l1_0 l1_1 t204).bind fun t206 => (if t206 = true then (if 0 ≤ a2 then (if a2 < (l1_0.length : Int) then (if 0 ≤ t204 then (if t204 < (l1_0.length : Int) then (if (rd l1_0 a2) = 2 then (if (rd l1_0 t204) = 2 then (some false) else ((water_ground_level.f a0_0 a0_1 l0_2 l0_3 l0_4 t204).bind fun t209 => ((water_ground_through.f a0_0 a0_1 l0_2 l0_3 l0_4 a2 a3 t209).bind fun t210 => (some t210)))) else (if (rd l1_0 t204) = 2 then ((water_ground_level.f a0_0 a0_1 l0_2 l0_3 l0_4 a2).bind fun t211 => ((water_ground_through.f a0_0 a0_1 l0_2 l0_3 l0_4 t204 (Int.tmod (wrap64 (a3 + 2)) 4) t211).bind fun t212 => (some t212))) else ((water_ground_level.f a0_0 a0_1 l0_2 l0_3 l0_4 a2).bind fun t213 => ((water_ground_level.f a0_0 a0_1 l0_2 l0_3 l0_4 t204).bind fun t214 => (some (t213 == t214)))))) else (none)) else (none)) else (none)) else (none)) else (some false))) else (some false)))) = some r:=H
 have A5:=Aside0.mk A50
 clear A50
 by_cases c6 : t204 < 0
 ·rw [if_pos c6] at H
  have c6b0 : decide (t204 < 0) = true:=decide_eq_true c6
  clear c6
  obtain rfl:=Option.some.inj H
  go_enter Try.func41,Try.ntmps41
  go_wp2_with (first|((with_reducible refine gate_dst (N:=4) rfl ?_);refine box_ev (N:=4) (cs:=#[.int .i64 a0_0,.int .i64 a0_1,.slice A0_2 l0_2.length c0_2,.slice A0_3 l0_3.length c0_3,.slice A0_4 l0_4.length c0_4]) (t:=52) ?_;intro gb202 hg w7 hbox hb;have BK202:=Aside0.mk (hbox);have GW202 : Aside0 (w.heap.size ≤ gb202):=gsz hg;have GE202:=GW202;replace HB:=hbs hb;clear hb hbox hg)|((with_reducible refine gate_dst (N:=5) rfl ?_);refine box_ev (N:=5) (cs:=#[.slice A1_0 l1_0.length c1_0,.slice A1_1 l1_1.length c1_1]) (t:=26) ?_;intro gb203 hg w8 hbox hb;have BK203:=Aside0.mk (hbox);have GW203 : Aside0 (w.heap.size ≤ gb203):=gsz hg;have GE203:=GW203;have NB202_203:=nbl BK202 hg;have NB203_202:=nbr BK202 hg;replace BK202:=bkb BK202 hb;replace HB:=hbs hb;clear hb hbox hg;have hnb9:=NB202_203.out;have hnc9:=NB203_202.out;obtain ⟨_,_,_,_,_,_,_,_,_,_⟩:=cells5 BK202.out)|((with_reducible refine gate_callee (f:=46) rfl ?_);refine goesL_ (some 15) rfl rfl Try.func46 (by kernel_rfl) rfl #[.agg #[.int .i64 a0_0,.int .i64 a0_1,.slice A0_2 l0_2.length c0_2,.slice A0_3 l0_3.length c0_3,.slice A0_4 l0_4.length c0_4],.int .i64 a2,.int .i64 a3] rfl ga_ ?_;(with_reducible refine (water_ground_beyond.calls k a0_0 a0_1 _ _ l0_2 _ _ l0_3 _ _ l0_4 a2 a3 t204 _ ?_ ?_ ?_ ?_ ?_ ?_ A5.out).mono ?_);exact cq HR0_2;exact HC0_2.out;exact cq HR0_3;exact HC0_3.out;exact cq HR0_4;exact HC0_4.out;rintro e w11 ⟨rfl,hb⟩;refine ⟨_,rfl,?_⟩;replace BK202:=bkb BK202 hb;replace BK203:=bkb BK203 hb;replace HB:=hbs hb))
  go_ret
  exact ⟨er_,hb_⟩
 rw [if_neg c6] at H
 have c6b0 : decide (t204 < 0) = false:=decide_eq_false c6
 clear c6
 replace H:=Option.bind_eq_some_iff.mp H
 obtain ⟨t205,A120,H⟩:=H
 replace H : (if t205 = true then ((water_ground_wet.f a0_0 a0_1 l0_2 l0_3 l0_4 l1_0 l1_1 t204).bind fun t206 => (if t206 = true then (if 0 ≤ a2 then (if a2 < (l1_0.length : Int) then (if 0 ≤ t204 then (if t204 < (l1_0.length : Int) then (if (rd l1_0 a2) = 2 then (if (rd l1_0 t204) = 2 then (some false) else ((water_ground_level.f a0_0 a0_1 l0_2 l0_3 l0_4 t204).bind fun t209 => ((water_ground_through.f a0_0 a0_1 l0_2 l0_3 l0_4 a2 a3 t209).bind fun t210 => (some t210)))) else (if (rd l1_0 t204) = 2 then ((water_ground_level.f a0_0 a0_1 l0_2 l0_3 l0_4 a2).bind fun t211 => ((water_ground_through.f a0_0 a0_1 l0_2 l0_3 l0_4 t204 (Int.tmod (wrap64 (a3 + 2)) 4) t211).bind fun t212 => (some t212))) else ((water_ground_level.f a0_0 a0_1 l0_2 l0_3 l0_4 a2).bind fun t213 => ((water_ground_level.f a0_0 a0_1 l0_2 l0_3 l0_4 t204).bind fun t214 => (some (t213 == t214)))))) else (none)) else (none)) else (none)) else (none)) else (some false))) else (some false)) = some r:=H
 have A12:=Aside0.mk A120
 clear A120
 by_cases c13 : t205 = true
 ·subst c13
  have H1 : ((water_ground_wet.f a0_0 a0_1 l0_2 l0_3 l0_4 l1_0 l1_1 t204).bind fun t206 => (if t206 = true then (if 0 ≤ a2 then (if a2 < (l1_0.length : Int) then (if 0 ≤ t204 then (if t204 < (l1_0.length : Int) then (if (rd l1_0 a2) = 2 then (if (rd l1_0 t204) = 2 then (some false) else ((water_ground_level.f a0_0 a0_1 l0_2 l0_3 l0_4 t204).bind fun t209 => ((water_ground_through.f a0_0 a0_1 l0_2 l0_3 l0_4 a2 a3 t209).bind fun t210 => (some t210)))) else (if (rd l1_0 t204) = 2 then ((water_ground_level.f a0_0 a0_1 l0_2 l0_3 l0_4 a2).bind fun t211 => ((water_ground_through.f a0_0 a0_1 l0_2 l0_3 l0_4 t204 (Int.tmod (wrap64 (a3 + 2)) 4) t211).bind fun t212 => (some t212))) else ((water_ground_level.f a0_0 a0_1 l0_2 l0_3 l0_4 a2).bind fun t213 => ((water_ground_level.f a0_0 a0_1 l0_2 l0_3 l0_4 t204).bind fun t214 => (some (t213 == t214)))))) else (none)) else (none)) else (none)) else (none)) else (some false))) = some r:=by rw [if_pos rfl] at H;exact H
  clear H
  have H:=H1
  clear H1
  replace H:=Option.bind_eq_some_iff.mp H
  obtain ⟨t206,A140,H⟩:=H
  replace H : (if t206 = true then (if 0 ≤ a2 then (if a2 < (l1_0.length : Int) then (if 0 ≤ t204 then (if t204 < (l1_0.length : Int) then (if (rd l1_0 a2) = 2 then (if (rd l1_0 t204) = 2 then (some false) else ((water_ground_level.f a0_0 a0_1 l0_2 l0_3 l0_4 t204).bind fun t209 => ((water_ground_through.f a0_0 a0_1 l0_2 l0_3 l0_4 a2 a3 t209).bind fun t210 => (some t210)))) else (if (rd l1_0 t204) = 2 then ((water_ground_level.f a0_0 a0_1 l0_2 l0_3 l0_4 a2).bind fun t211 => ((water_ground_through.f a0_0 a0_1 l0_2 l0_3 l0_4 t204 (Int.tmod (wrap64 (a3 + 2)) 4) t211).bind fun t212 => (some t212))) else ((water_ground_level.f a0_0 a0_1 l0_2 l0_3 l0_4 a2).bind fun t213 => ((water_ground_level.f a0_0 a0_1 l0_2 l0_3 l0_4 t204).bind fun t214 => (some (t213 == t214)))))) else (none)) else (none)) else (none)) else (none)) else (some false)) = some r:=H
  have A14:=Aside0.mk A140
  clear A140
  by_cases c15 : t206 = true
  ·subst c15
   have H1 : (if 0 ≤ a2 then (if a2 < (l1_0.length : Int) then (if 0 ≤ t204 then (if t204 < (l1_0.length : Int) then (if (rd l1_0 a2) = 2 then (if (rd l1_0 t204) = 2 then (some false) else ((water_ground_level.f a0_0 a0_1 l0_2 l0_3 l0_4 t204).bind fun t209 => ((water_ground_through.f a0_0 a0_1 l0_2 l0_3 l0_4 a2 a3 t209).bind fun t210 => (some t210)))) else (if (rd l1_0 t204) = 2 then ((water_ground_level.f a0_0 a0_1 l0_2 l0_3 l0_4 a2).bind fun t211 => ((water_ground_through.f a0_0 a0_1 l0_2 l0_3 l0_4 t204 (Int.tmod (wrap64 (a3 + 2)) 4) t211).bind fun t212 => (some t212))) else ((water_ground_level.f a0_0 a0_1 l0_2 l0_3 l0_4 a2).bind fun t213 => ((water_ground_level.f a0_0 a0_1 l0_2 l0_3 l0_4 t204).bind fun t214 => (some (t213 == t214)))))) else (none)) else (none)) else (none)) else (none)) = some r:=by rw [if_pos rfl] at H;exact H
   clear H
   have H:=H1
   clear H1
   replace H:=ifp_ H;obtain ⟨c16,H⟩:=H
   have c16b0 : decide (0 ≤ a2) = true:=decide_eq_true c16
   clear c16
   replace H:=ifp_ H;obtain ⟨c17,H⟩:=H
   have c17b0 : decide (a2 < (l1_0.length : Int)) = true:=decide_eq_true c17
   clear c17
   replace H:=ifp_ H;obtain ⟨c18,H⟩:=H
   have c18b0 : decide (0 ≤ t204) = true:=decide_eq_true c18
   clear c18
   replace H:=ifp_ H;obtain ⟨c19,H⟩:=H
   have c19b0 : decide (t204 < (l1_0.length : Int)) = true:=decide_eq_true c19
   clear c19
   by_cases c20 : (rd l1_0 a2) = 2
   ·rw [if_pos c20] at H
    have c20b0:=bqt c20
    have c20b1:=bnf c20
    clear c20
    by_cases c21 : (rd l1_0 t204) = 2
    ·rw [if_pos c21] at H
     have c21b0:=bqt c21
     have c21b1:=bnf c21
     clear c21
     obtain rfl:=Option.some.inj H
     go_enter Try.func41,Try.ntmps41
     try go_wp2_with (first|((with_reducible refine gate_dst (N:=4) rfl ?_);refine box_ev (N:=4) (cs:=#[.int .i64 a0_0,.int .i64 a0_1,.slice A0_2 l0_2.length c0_2,.slice A0_3 l0_3.length c0_3,.slice A0_4 l0_4.length c0_4]) (t:=52) ?_;intro gb202 hg w22 hbox hb;have BK202:=Aside0.mk (hbox);have GW202 : Aside0 (w.heap.size ≤ gb202):=gsz hg;have GE202:=GW202;replace HB:=hbs hb;clear hb hbox hg)|((with_reducible refine gate_dst (N:=5) rfl ?_);refine box_ev (N:=5) (cs:=#[.slice A1_0 l1_0.length c1_0,.slice A1_1 l1_1.length c1_1]) (t:=26) ?_;intro gb203 hg w23 hbox hb;have BK203:=Aside0.mk (hbox);have GW203 : Aside0 (w.heap.size ≤ gb203):=gsz hg;have GE203:=GW203;have NB202_203:=nbl BK202 hg;have NB203_202:=nbr BK202 hg;replace BK202:=bkb BK202 hb;replace HB:=hbs hb;clear hb hbox hg;have hnb24:=NB202_203.out;have hnc24:=NB203_202.out;obtain ⟨_,_,_,_,_,_,_,_,_,_⟩:=cells5 BK202.out)|((with_reducible refine gate_callee (f:=46) rfl ?_);refine goesL_ (some 15) rfl rfl Try.func46 (by kernel_rfl) rfl #[.agg #[.int .i64 a0_0,.int .i64 a0_1,.slice A0_2 l0_2.length c0_2,.slice A0_3 l0_3.length c0_3,.slice A0_4 l0_4.length c0_4],.int .i64 a2,.int .i64 a3] rfl ga_ ?_;(with_reducible refine (water_ground_beyond.calls k a0_0 a0_1 _ _ l0_2 _ _ l0_3 _ _ l0_4 a2 a3 t204 _ ?_ ?_ ?_ ?_ ?_ ?_ A5.out).mono ?_);exact cq HR0_2;exact HC0_2.out;exact cq HR0_3;exact HC0_3.out;exact cq HR0_4;exact HC0_4.out;rintro e w26 ⟨rfl,hb⟩;refine ⟨_,rfl,?_⟩;replace BK202:=bkb BK202 hb;replace BK203:=bkb BK203 hb;replace HB:=hbs hb;obtain ⟨_,_,_,_,_,_,_,_,_,_⟩:=cells5 BK202.out;obtain ⟨_,_,_,_⟩:=cells2 BK203.out)|(go_at_call 45;(with_reducible refine (water_ground_wet.calls a0_0 a0_1 _ _ l0_2 _ _ l0_3 _ _ l0_4 _ _ l1_0 _ _ l1_1 a2 true _ ?_ ?_ ?_ ?_ ?_ ?_ ?_ ?_ ?_ ?_ A12.out).mono ?_);exact cq HR0_2;exact HC0_2.out;exact cq HR0_3;exact HC0_3.out;exact cq HR0_4;exact HC0_4.out;exact cq HR1_0;exact HC1_0.out;exact cq HR1_1;exact HC1_1.out;rintro e w29 ⟨rfl,hb⟩;replace BK202:=bkb BK202 hb;replace BK203:=bkb BK203 hb;replace HB:=hbs hb;obtain ⟨_,_,_,_,_,_,_,_,_,_⟩:=cells5 BK202.out;obtain ⟨_,_,_,_⟩:=cells2 BK203.out)|(go_at_call 45;(with_reducible refine (water_ground_wet.calls a0_0 a0_1 _ _ l0_2 _ _ l0_3 _ _ l0_4 _ _ l1_0 _ _ l1_1 t204 true _ ?_ ?_ ?_ ?_ ?_ ?_ ?_ ?_ ?_ ?_ A14.out).mono ?_);exact cq HR0_2;exact HC0_2.out;exact cq HR0_3;exact HC0_3.out;exact cq HR0_4;exact HC0_4.out;exact cq HR1_0;exact HC1_0.out;exact cq HR1_1;exact HC1_1.out;rintro e w32 ⟨rfl,hb⟩;replace BK202:=bkb BK202 hb;replace BK203:=bkb BK203 hb;replace HB:=hbs hb))
     replace BK202:=Aside0.mk (blk_drew BK202.out)
     replace BK203:=Aside0.mk (blk_drew BK203.out)
     replace HB:=Aside0.mk (below_drew1 HB.out)
     have p207 : 0 ≤ (a2 : Int):=of_decide_eq_true (by first|(with_reducible assumption)|assumption)
     have q207 : a2 < (l1_0.length : Int):=of_decide_eq_true (by first|(with_reducible assumption)|assumption)
     obtain ⟨ad207,e207,hx207_0⟩:=Kd.at_int HR1_0.out a2 p207 q207
     have hw207_0:=hx207_0
     cases e207
     replace hx207_0:=(HB.out.cell (World.block_lt_of_cell? w _ hx207_0)).trans hx207_0
     replace p207:=eq_true p207
     replace q207:=eq_true q207
     have p208 : 0 ≤ (t204 : Int):=of_decide_eq_true (by first|(with_reducible assumption)|assumption)
     have q208 : t204 < (l1_0.length : Int):=of_decide_eq_true (by first|(with_reducible assumption)|assumption)
     obtain ⟨ad208,e208,hx208_0⟩:=Kd.at_int HR1_0.out t204 p208 q208
     have hw208_0:=hx208_0
     obtain rfl : ad207 = ad208:=(by injection e208)
     replace hx208_0:=(HB.out.cell (World.block_lt_of_cell? w _ hx208_0)).trans hx208_0
     replace p208:=eq_true p208
     replace q208:=eq_true q208
     refine start_ (n:=14) (S:=fun w' => w'.cell? ⟨gb203,0,none⟩ = some (.slice (some ad207) l1_0.length c1_0) ∧ w'.cell? ⟨gb203,1,none⟩ = some (.slice A1_1 l1_1.length c1_1) ∧ w'.cell? (ad207.add (a2).toNat) = some (.int .i64 (rd l1_0 a2)) ∧ w'.cell? (ad207.add (t204).toNat) = some (.int .i64 (rd l1_0 t204))) (ds:=[]) #[false,false,false,false,false,false,false,false,false,false,false,false,false,false] (by kernel_rfl) rfl rfl ⟨(blk_cell BK203.out 0).trans rfl,(blk_cell BK203.out 1).trans rfl,((HB.out.cell (World.block_lt_of_cell? w _ hw207_0)).trans hw207_0),((HB.out.cell (World.block_lt_of_cell? w _ hw208_0)).trans hw208_0)⟩ (fun hHeld => ?_);refine with_tabW water_ground_joined.tab4 water_ground_joined.bits4 (fun HT_ HW_ => ?_)
     generalize w32.drew = w33 at BK202 BK203 HB hx207_0 hx208_0 hHeld ⊢
     refine pI 0 (some 32) ?_
     refine pI 2 (some 34) ?_
     refine pI 6 (some 38) ?_
     refine pI 8 (some 40) ?_
     refine tI4 1 (some 33) hHeld ?_
     refine pI 3 (some 35) ?_
     refine tI4 4 (some 36) hHeld ?_
     refine pI 5 (some 37) ?_
     refine pI 12 (some 10) ?_
     refine tI4 7 (some 39) hHeld ?_
     refine pI 9 (some 41) ?_
     refine tI4 10 (some 42) hHeld ?_
     refine pI 11 (some 43) ?_
     refine pI 13 (some 11) ?_
     refine done_ (done_of HT_.out (by kernel_rfl)) ?_
     try go_wp2
     go_ret
     exact ⟨er_,hb_⟩
    rw [if_neg c21] at H
    have c21b0:=bqf c21
    have c21b1:=bnt c21
    replace H:=Option.bind_eq_some_iff.mp H
    obtain ⟨t209,A340,H⟩:=H
    replace H : ((water_ground_through.f a0_0 a0_1 l0_2 l0_3 l0_4 a2 a3 t209).bind fun t210 => (some t210)) = some r:=H
    have A34:=Aside0.mk A340
    clear A340
    replace H:=Option.bind_eq_some_iff.mp H
    obtain ⟨t210,A350,H⟩:=H
    replace H : (some t210) = some r:=H
    have A35:=Aside0.mk A350
    clear A350
    obtain rfl:=Option.some.inj H
    go_enter Try.func41,Try.ntmps41
    try go_wp2_with (first|((with_reducible refine gate_dst (N:=4) rfl ?_);refine box_ev (N:=4) (cs:=#[.int .i64 a0_0,.int .i64 a0_1,.slice A0_2 l0_2.length c0_2,.slice A0_3 l0_3.length c0_3,.slice A0_4 l0_4.length c0_4]) (t:=52) ?_;intro gb202 hg w36 hbox hb;have BK202:=Aside0.mk (hbox);have GW202 : Aside0 (w.heap.size ≤ gb202):=gsz hg;have GE202:=GW202;replace HB:=hbs hb;clear hb hbox hg)|((with_reducible refine gate_dst (N:=5) rfl ?_);refine box_ev (N:=5) (cs:=#[.slice A1_0 l1_0.length c1_0,.slice A1_1 l1_1.length c1_1]) (t:=26) ?_;intro gb203 hg w37 hbox hb;have BK203:=Aside0.mk (hbox);have GW203 : Aside0 (w.heap.size ≤ gb203):=gsz hg;have GE203:=GW203;have NB202_203:=nbl BK202 hg;have NB203_202:=nbr BK202 hg;replace BK202:=bkb BK202 hb;replace HB:=hbs hb;clear hb hbox hg;have hnb38:=NB202_203.out;have hnc38:=NB203_202.out;obtain ⟨_,_,_,_,_,_,_,_,_,_⟩:=cells5 BK202.out)|((with_reducible refine gate_callee (f:=46) rfl ?_);refine goesL_ (some 15) rfl rfl Try.func46 (by kernel_rfl) rfl #[.agg #[.int .i64 a0_0,.int .i64 a0_1,.slice A0_2 l0_2.length c0_2,.slice A0_3 l0_3.length c0_3,.slice A0_4 l0_4.length c0_4],.int .i64 a2,.int .i64 a3] rfl ga_ ?_;(with_reducible refine (water_ground_beyond.calls k a0_0 a0_1 _ _ l0_2 _ _ l0_3 _ _ l0_4 a2 a3 t204 _ ?_ ?_ ?_ ?_ ?_ ?_ A5.out).mono ?_);exact cq HR0_2;exact HC0_2.out;exact cq HR0_3;exact HC0_3.out;exact cq HR0_4;exact HC0_4.out;rintro e w40 ⟨rfl,hb⟩;refine ⟨_,rfl,?_⟩;replace BK202:=bkb BK202 hb;replace BK203:=bkb BK203 hb;replace HB:=hbs hb;obtain ⟨_,_,_,_,_,_,_,_,_,_⟩:=cells5 BK202.out;obtain ⟨_,_,_,_⟩:=cells2 BK203.out)|(go_at_call 45;(with_reducible refine (water_ground_wet.calls a0_0 a0_1 _ _ l0_2 _ _ l0_3 _ _ l0_4 _ _ l1_0 _ _ l1_1 a2 true _ ?_ ?_ ?_ ?_ ?_ ?_ ?_ ?_ ?_ ?_ A12.out).mono ?_);exact cq HR0_2;exact HC0_2.out;exact cq HR0_3;exact HC0_3.out;exact cq HR0_4;exact HC0_4.out;exact cq HR1_0;exact HC1_0.out;exact cq HR1_1;exact HC1_1.out;rintro e w43 ⟨rfl,hb⟩;replace BK202:=bkb BK202 hb;replace BK203:=bkb BK203 hb;replace HB:=hbs hb;obtain ⟨_,_,_,_,_,_,_,_,_,_⟩:=cells5 BK202.out;obtain ⟨_,_,_,_⟩:=cells2 BK203.out)|(go_at_call 45;(with_reducible refine (water_ground_wet.calls a0_0 a0_1 _ _ l0_2 _ _ l0_3 _ _ l0_4 _ _ l1_0 _ _ l1_1 t204 true _ ?_ ?_ ?_ ?_ ?_ ?_ ?_ ?_ ?_ ?_ A14.out).mono ?_);exact cq HR0_2;exact HC0_2.out;exact cq HR0_3;exact HC0_3.out;exact cq HR0_4;exact HC0_4.out;exact cq HR1_0;exact HC1_0.out;exact cq HR1_1;exact HC1_1.out;rintro e w46 ⟨rfl,hb⟩;replace BK202:=bkb BK202 hb;replace BK203:=bkb BK203 hb;replace HB:=hbs hb))
    replace BK202:=Aside0.mk (blk_drew BK202.out)
    replace BK203:=Aside0.mk (blk_drew BK203.out)
    replace HB:=Aside0.mk (below_drew1 HB.out)
    have p207 : 0 ≤ (a2 : Int):=of_decide_eq_true (by first|(with_reducible assumption)|assumption)
    have q207 : a2 < (l1_0.length : Int):=of_decide_eq_true (by first|(with_reducible assumption)|assumption)
    obtain ⟨ad207,e207,hx207_0⟩:=Kd.at_int HR1_0.out a2 p207 q207
    have hw207_0:=hx207_0
    cases e207
    replace hx207_0:=(HB.out.cell (World.block_lt_of_cell? w _ hx207_0)).trans hx207_0
    replace p207:=eq_true p207
    replace q207:=eq_true q207
    have p208 : 0 ≤ (t204 : Int):=of_decide_eq_true (by first|(with_reducible assumption)|assumption)
    have q208 : t204 < (l1_0.length : Int):=of_decide_eq_true (by first|(with_reducible assumption)|assumption)
    obtain ⟨ad208,e208,hx208_0⟩:=Kd.at_int HR1_0.out t204 p208 q208
    have hw208_0:=hx208_0
    obtain rfl : ad207 = ad208:=(by injection e208)
    replace hx208_0:=(HB.out.cell (World.block_lt_of_cell? w _ hx208_0)).trans hx208_0
    replace p208:=eq_true p208
    replace q208:=eq_true q208
    refine start_ (n:=14) (S:=fun w' => w'.cell? ⟨gb203,0,none⟩ = some (.slice (some ad207) l1_0.length c1_0) ∧ w'.cell? ⟨gb203,1,none⟩ = some (.slice A1_1 l1_1.length c1_1) ∧ w'.cell? (ad207.add (a2).toNat) = some (.int .i64 (rd l1_0 a2)) ∧ w'.cell? (ad207.add (t204).toNat) = some (.int .i64 (rd l1_0 t204))) (ds:=[]) #[false,false,false,false,false,false,false,false,false,false,false,false,false,false] (by kernel_rfl) rfl rfl ⟨(blk_cell BK203.out 0).trans rfl,(blk_cell BK203.out 1).trans rfl,((HB.out.cell (World.block_lt_of_cell? w _ hw207_0)).trans hw207_0),((HB.out.cell (World.block_lt_of_cell? w _ hw208_0)).trans hw208_0)⟩ (fun hHeld => ?_);refine with_tabW water_ground_joined.tab4 water_ground_joined.bits4 (fun HT_ HW_ => ?_)
    generalize w46.drew = w47 at BK202 BK203 HB hx207_0 hx208_0 hHeld ⊢
    refine pI 0 (some 32) ?_
    refine pI 2 (some 34) ?_
    refine pI 6 (some 38) ?_
    refine pI 8 (some 40) ?_
    refine tI4 1 (some 33) hHeld ?_
    refine pI 3 (some 35) ?_
    refine tI4 4 (some 36) hHeld ?_
    refine pI 5 (some 37) ?_
    refine pI 12 (some 10) ?_
    refine tI4 7 (some 39) hHeld ?_
    refine pI 9 (some 41) ?_
    refine tI4 10 (some 42) hHeld ?_
    refine pI 11 (some 43) ?_
    refine pI 13 (some 11) ?_
    refine done_ (done_of HT_.out (by kernel_rfl)) ?_
    try go_wp2
    replace BK202:=Aside0.mk (blk_drew BK202.out)
    replace BK203:=Aside0.mk (blk_drew BK203.out)
    replace HB:=Aside0.mk (below_drew1 HB.out)
    refine start_ (n:=8) (S:=fun w' => w'.cell? ⟨gb202,0,none⟩ = some (.int .i64 a0_0) ∧ w'.cell? ⟨gb202,1,none⟩ = some (.int .i64 a0_1) ∧ w'.cell? ⟨gb202,2,none⟩ = some (.slice A0_2 l0_2.length c0_2) ∧ w'.cell? ⟨gb202,3,none⟩ = some (.slice A0_3 l0_3.length c0_3) ∧ w'.cell? ⟨gb202,4,none⟩ = some (.slice A0_4 l0_4.length c0_4)) (ds:=[]) #[false,false,false,false,false,false,false,false] (by kernel_rfl) rfl rfl ⟨(blk_cell BK202.out 0).trans rfl,(blk_cell BK202.out 1).trans rfl,(blk_cell BK202.out 2).trans rfl,(blk_cell BK202.out 3).trans rfl,(blk_cell BK202.out 4).trans rfl⟩ (fun hHeld => ?_);refine with_tabW water_ground_joined.tab8 water_ground_joined.bits8 (fun HT_ HW_ => ?_)
    generalize w47.drew = w48 at BK202 BK203 HB hHeld ⊢
    refine pI 1 (some 52) ?_
    refine pI 2 (some 53) ?_
    refine pI 4 (some 55) ?_
    refine tI5 0 (some 51) hHeld ?_
    refine tI5 3 (some 54) hHeld ?_
    refine oI 5 (some 56) (fun K hK => ?_)
    refine goes_ Try.func62 (by kernel_rfl) rfl #[.agg #[.int .i64 a0_0,.int .i64 a0_1,.slice A0_2 l0_2.length c0_2,.slice A0_3 l0_3.length c0_3,.slice A0_4 l0_4.length c0_4],.int .i64 t204] (by rfl) rfl rfl ga_ ?_
    with_reducible refine (water_ground_level.calls a0_0 a0_1 _ _ l0_2 _ _ l0_3 _ _ l0_4 t204 t209 _ ?side1 ?side2 ?side3 ?side4 ?side5 ?side6 A34.out).mono ?_
    (case side1 => exact cq HR0_2)
    (case side2 => exact HC0_2.out)
    (case side3 => exact cq HR0_3)
    (case side4 => exact HC0_3.out)
    (case side5 => exact cq HR0_4)
    (case side6 => exact HC0_4.out)
    rintro e w49 ⟨rfl,hb⟩
    refine ⟨_,rfl,?_⟩
    have n0_:=bkb BK202 hb
    have n1_:=bkb BK203 hb
    have n2_:=Aside0.mk (below_step (hb_) hb)
    clear BK202
    clear BK203
    clear HB
    have BK202:=n0_
    have BK203:=n1_
    have HB:=n2_
    clear n0_ n1_ n2_
    (try clear hb)
    (try clear hb2)
    (try clear hk)
    (try clear hi)
    refine hK.out _ _ ⟨(blk_cell BK202.out 0).trans rfl,(blk_cell BK202.out 1).trans rfl,(blk_cell BK202.out 2).trans rfl,(blk_cell BK202.out 3).trans rfl,(blk_cell BK202.out 4).trans rfl⟩ (fun hHeld => ?_)
    clear hK K
    refine norm_ (a':=?_) ?_ ?_
    rotate_left
    ·show Act.put _ (some 56) _ = _
     simp only [Act.put,List.setIfInBounds_toArray,List.set_cons_zero,List.set_cons_succ,i64_w,i32_w]
     rfl
    refine oI 6 (some 57) (fun K hK => ?_)
    refine goes_ Try.func61 (by kernel_rfl) rfl #[.agg #[.int .i64 a0_0,.int .i64 a0_1,.slice A0_2 l0_2.length c0_2,.slice A0_3 l0_3.length c0_3,.slice A0_4 l0_4.length c0_4],.int .i64 a2,.int .i64 a3,.int .i64 t209] (by rfl) rfl rfl ga_ ?_
    with_reducible refine (water_ground_through.calls a0_0 a0_1 _ _ l0_2 _ _ l0_3 _ _ l0_4 a2 a3 t209 t210 _ ?side1 ?side2 ?side3 ?side4 ?side5 ?side6 A35.out).mono ?_
    (case side1 => exact cq HR0_2)
    (case side2 => exact HC0_2.out)
    (case side3 => exact cq HR0_3)
    (case side4 => exact HC0_3.out)
    (case side5 => exact cq HR0_4)
    (case side6 => exact HC0_4.out)
    rintro e w50 ⟨rfl,hb⟩
    refine ⟨_,rfl,?_⟩
    have n0_:=bkb BK202 hb
    have n1_:=bkb BK203 hb
    have n2_:=Aside0.mk (below_step (hb_) hb)
    clear BK202
    clear BK203
    clear HB
    have BK202:=n0_
    have BK203:=n1_
    have HB:=n2_
    clear n0_ n1_ n2_
    (try clear hb)
    (try clear hb2)
    (try clear hk)
    (try clear hi)
    refine hK.out _ _ ⟨(blk_cell BK202.out 0).trans rfl,(blk_cell BK202.out 1).trans rfl,(blk_cell BK202.out 2).trans rfl,(blk_cell BK202.out 3).trans rfl,(blk_cell BK202.out 4).trans rfl⟩ (fun hHeld => ?_)
    clear hK K
    refine norm_ (a':=?_) ?_ ?_
    rotate_left
    ·show Act.put _ (some 57) _ = _
     simp only [Act.put,List.setIfInBounds_toArray,List.set_cons_zero,List.set_cons_succ,i64_w,i32_w]
     rfl
    refine pI 7 (some 8) ?_
    refine done_ (done_of HT_.out (by kernel_rfl)) ?_
    try go_wp2
    go_ret
    exact ⟨er_,hb_⟩
   rw [if_neg c20] at H
   have c20b0:=bqf c20
   have c20b1:=bnt c20
   by_cases c51 : (rd l1_0 t204) = 2
   rotate_left
   ·rw [if_neg c51] at H
    have c51b0:=bqf c51
    have c51b1:=bnt c51
    replace H:=Option.bind_eq_some_iff.mp H
    obtain ⟨t213,A690,H⟩:=H
    replace H : ((water_ground_level.f a0_0 a0_1 l0_2 l0_3 l0_4 t204).bind fun t214 => (some (t213 == t214))) = some r:=H
    have A69:=Aside0.mk A690
    clear A690
    replace H:=Option.bind_eq_some_iff.mp H
    obtain ⟨t214,A700,H⟩:=H
    replace H : (some (t213 == t214)) = some r:=H
    have A70:=Aside0.mk A700
    clear A700
    obtain rfl:=Option.some.inj H
    go_enter Try.func41,Try.ntmps41
    try go_wp2_with (first|((with_reducible refine gate_dst (N:=4) rfl ?_);refine box_ev (N:=4) (cs:=#[.int .i64 a0_0,.int .i64 a0_1,.slice A0_2 l0_2.length c0_2,.slice A0_3 l0_3.length c0_3,.slice A0_4 l0_4.length c0_4]) (t:=52) ?_;intro gb202 hg w71 hbox hb;have BK202:=Aside0.mk (hbox);have GW202 : Aside0 (w.heap.size ≤ gb202):=gsz hg;have GE202:=GW202;replace HB:=hbs hb;clear hb hbox hg)|((with_reducible refine gate_dst (N:=5) rfl ?_);refine box_ev (N:=5) (cs:=#[.slice A1_0 l1_0.length c1_0,.slice A1_1 l1_1.length c1_1]) (t:=26) ?_;intro gb203 hg w72 hbox hb;have BK203:=Aside0.mk (hbox);have GW203 : Aside0 (w.heap.size ≤ gb203):=gsz hg;have GE203:=GW203;have NB202_203:=nbl BK202 hg;have NB203_202:=nbr BK202 hg;replace BK202:=bkb BK202 hb;replace HB:=hbs hb;clear hb hbox hg;have hnb73:=NB202_203.out;have hnc73:=NB203_202.out;obtain ⟨_,_,_,_,_,_,_,_,_,_⟩:=cells5 BK202.out)|((with_reducible refine gate_callee (f:=46) rfl ?_);refine goesL_ (some 15) rfl rfl Try.func46 (by kernel_rfl) rfl #[.agg #[.int .i64 a0_0,.int .i64 a0_1,.slice A0_2 l0_2.length c0_2,.slice A0_3 l0_3.length c0_3,.slice A0_4 l0_4.length c0_4],.int .i64 a2,.int .i64 a3] rfl ga_ ?_;(with_reducible refine (water_ground_beyond.calls k a0_0 a0_1 _ _ l0_2 _ _ l0_3 _ _ l0_4 a2 a3 t204 _ ?_ ?_ ?_ ?_ ?_ ?_ A5.out).mono ?_);exact cq HR0_2;exact HC0_2.out;exact cq HR0_3;exact HC0_3.out;exact cq HR0_4;exact HC0_4.out;rintro e w75 ⟨rfl,hb⟩;refine ⟨_,rfl,?_⟩;replace BK202:=bkb BK202 hb;replace BK203:=bkb BK203 hb;replace HB:=hbs hb;obtain ⟨_,_,_,_,_,_,_,_,_,_⟩:=cells5 BK202.out;obtain ⟨_,_,_,_⟩:=cells2 BK203.out)|(go_at_call 45;(with_reducible refine (water_ground_wet.calls a0_0 a0_1 _ _ l0_2 _ _ l0_3 _ _ l0_4 _ _ l1_0 _ _ l1_1 a2 true _ ?_ ?_ ?_ ?_ ?_ ?_ ?_ ?_ ?_ ?_ A12.out).mono ?_);exact cq HR0_2;exact HC0_2.out;exact cq HR0_3;exact HC0_3.out;exact cq HR0_4;exact HC0_4.out;exact cq HR1_0;exact HC1_0.out;exact cq HR1_1;exact HC1_1.out;rintro e w78 ⟨rfl,hb⟩;replace BK202:=bkb BK202 hb;replace BK203:=bkb BK203 hb;replace HB:=hbs hb;obtain ⟨_,_,_,_,_,_,_,_,_,_⟩:=cells5 BK202.out;obtain ⟨_,_,_,_⟩:=cells2 BK203.out)|(go_at_call 45;(with_reducible refine (water_ground_wet.calls a0_0 a0_1 _ _ l0_2 _ _ l0_3 _ _ l0_4 _ _ l1_0 _ _ l1_1 t204 true _ ?_ ?_ ?_ ?_ ?_ ?_ ?_ ?_ ?_ ?_ A14.out).mono ?_);exact cq HR0_2;exact HC0_2.out;exact cq HR0_3;exact HC0_3.out;exact cq HR0_4;exact HC0_4.out;exact cq HR1_0;exact HC1_0.out;exact cq HR1_1;exact HC1_1.out;rintro e w81 ⟨rfl,hb⟩;replace BK202:=bkb BK202 hb;replace BK203:=bkb BK203 hb;replace HB:=hbs hb))
    replace BK202:=Aside0.mk (blk_drew BK202.out)
    replace BK203:=Aside0.mk (blk_drew BK203.out)
    replace HB:=Aside0.mk (below_drew1 HB.out)
    have p207 : 0 ≤ (a2 : Int):=of_decide_eq_true (by first|(with_reducible assumption)|assumption)
    have q207 : a2 < (l1_0.length : Int):=of_decide_eq_true (by first|(with_reducible assumption)|assumption)
    obtain ⟨ad207,e207,hx207_0⟩:=Kd.at_int HR1_0.out a2 p207 q207
    have hw207_0:=hx207_0
    cases e207
    replace hx207_0:=(HB.out.cell (World.block_lt_of_cell? w _ hx207_0)).trans hx207_0
    replace p207:=eq_true p207
    replace q207:=eq_true q207
    have p208 : 0 ≤ (t204 : Int):=of_decide_eq_true (by first|(with_reducible assumption)|assumption)
    have q208 : t204 < (l1_0.length : Int):=of_decide_eq_true (by first|(with_reducible assumption)|assumption)
    obtain ⟨ad208,e208,hx208_0⟩:=Kd.at_int HR1_0.out t204 p208 q208
    have hw208_0:=hx208_0
    obtain rfl : ad207 = ad208:=(by injection e208)
    replace hx208_0:=(HB.out.cell (World.block_lt_of_cell? w _ hx208_0)).trans hx208_0
    replace p208:=eq_true p208
    replace q208:=eq_true q208
    refine start_ (n:=14) (S:=fun w' => w'.cell? ⟨gb203,0,none⟩ = some (.slice (some ad207) l1_0.length c1_0) ∧ w'.cell? ⟨gb203,1,none⟩ = some (.slice A1_1 l1_1.length c1_1) ∧ w'.cell? (ad207.add (a2).toNat) = some (.int .i64 (rd l1_0 a2)) ∧ w'.cell? (ad207.add (t204).toNat) = some (.int .i64 (rd l1_0 t204))) (ds:=[]) #[false,false,false,false,false,false,false,false,false,false,false,false,false,false] (by kernel_rfl) rfl rfl ⟨(blk_cell BK203.out 0).trans rfl,(blk_cell BK203.out 1).trans rfl,((HB.out.cell (World.block_lt_of_cell? w _ hw207_0)).trans hw207_0),((HB.out.cell (World.block_lt_of_cell? w _ hw208_0)).trans hw208_0)⟩ (fun hHeld => ?_);refine with_tabW water_ground_joined.tab4 water_ground_joined.bits4 (fun HT_ HW_ => ?_)
    generalize w81.drew = w82 at BK202 BK203 HB hx207_0 hx208_0 hHeld ⊢
    refine pI 0 (some 32) ?_
    refine pI 2 (some 34) ?_
    refine pI 6 (some 38) ?_
    refine pI 8 (some 40) ?_
    refine tI4 1 (some 33) hHeld ?_
    refine pI 3 (some 35) ?_
    refine tI4 4 (some 36) hHeld ?_
    refine pI 5 (some 37) ?_
    refine pI 12 (some 10) ?_
    refine tI4 7 (some 39) hHeld ?_
    refine pI 9 (some 41) ?_
    refine tI4 10 (some 42) hHeld ?_
    refine pI 11 (some 43) ?_
    refine pI 13 (some 11) ?_
    refine done_ (done_of HT_.out (by kernel_rfl)) ?_
    try go_wp2
    replace BK202:=Aside0.mk (blk_drew BK202.out)
    replace BK203:=Aside0.mk (blk_drew BK203.out)
    replace HB:=Aside0.mk (below_drew1 HB.out)
    refine start_ (n:=8) (S:=fun w' => w'.cell? ⟨gb202,0,none⟩ = some (.int .i64 a0_0) ∧ w'.cell? ⟨gb202,1,none⟩ = some (.int .i64 a0_1) ∧ w'.cell? ⟨gb202,2,none⟩ = some (.slice A0_2 l0_2.length c0_2) ∧ w'.cell? ⟨gb202,3,none⟩ = some (.slice A0_3 l0_3.length c0_3) ∧ w'.cell? ⟨gb202,4,none⟩ = some (.slice A0_4 l0_4.length c0_4)) (ds:=[]) #[false,false,false,false,false,false,false,false] (by kernel_rfl) rfl rfl ⟨(blk_cell BK202.out 0).trans rfl,(blk_cell BK202.out 1).trans rfl,(blk_cell BK202.out 2).trans rfl,(blk_cell BK202.out 3).trans rfl,(blk_cell BK202.out 4).trans rfl⟩ (fun hHeld => ?_);refine with_tabW water_ground_joined.tab11 water_ground_joined.bits11 (fun HT_ HW_ => ?_)
    generalize w82.drew = w83 at BK202 BK203 HB hHeld ⊢
    refine pI 1 (some 70) ?_
    refine pI 4 (some 73) ?_
    refine tI5 0 (some 69) hHeld ?_
    refine tI5 3 (some 72) hHeld ?_
    refine oI 2 (some 71) (fun K hK => ?_)
    refine goes_ Try.func62 (by kernel_rfl) rfl #[.agg #[.int .i64 a0_0,.int .i64 a0_1,.slice A0_2 l0_2.length c0_2,.slice A0_3 l0_3.length c0_3,.slice A0_4 l0_4.length c0_4],.int .i64 a2] (by rfl) rfl rfl ga_ ?_
    with_reducible refine (water_ground_level.calls a0_0 a0_1 _ _ l0_2 _ _ l0_3 _ _ l0_4 a2 t213 _ ?side1 ?side2 ?side3 ?side4 ?side5 ?side6 A69.out).mono ?_
    (case side1 => exact cq HR0_2)
    (case side2 => exact HC0_2.out)
    (case side3 => exact cq HR0_3)
    (case side4 => exact HC0_3.out)
    (case side5 => exact cq HR0_4)
    (case side6 => exact HC0_4.out)
    rintro e w84 ⟨rfl,hb⟩
    refine ⟨_,rfl,?_⟩
    have n0_:=bkb BK202 hb
    have n1_:=bkb BK203 hb
    have n2_:=Aside0.mk (below_step (hb_) hb)
    clear BK202
    clear BK203
    clear HB
    have BK202:=n0_
    have BK203:=n1_
    have HB:=n2_
    clear n0_ n1_ n2_
    (try clear hb)
    (try clear hb2)
    (try clear hk)
    (try clear hi)
    refine hK.out _ _ ⟨(blk_cell BK202.out 0).trans rfl,(blk_cell BK202.out 1).trans rfl,(blk_cell BK202.out 2).trans rfl,(blk_cell BK202.out 3).trans rfl,(blk_cell BK202.out 4).trans rfl⟩ (fun hHeld => ?_)
    clear hK K
    refine norm_ (a':=?_) ?_ ?_
    rotate_left
    ·show Act.put _ (some 71) _ = _
     simp only [Act.put,List.setIfInBounds_toArray,List.set_cons_zero,List.set_cons_succ,i64_w,i32_w]
     rfl
    refine oI 5 (some 74) (fun K hK => ?_)
    refine goes_ Try.func62 (by kernel_rfl) rfl #[.agg #[.int .i64 a0_0,.int .i64 a0_1,.slice A0_2 l0_2.length c0_2,.slice A0_3 l0_3.length c0_3,.slice A0_4 l0_4.length c0_4],.int .i64 t204] (by rfl) rfl rfl ga_ ?_
    with_reducible refine (water_ground_level.calls a0_0 a0_1 _ _ l0_2 _ _ l0_3 _ _ l0_4 t204 t214 _ ?side1 ?side2 ?side3 ?side4 ?side5 ?side6 A70.out).mono ?_
    (case side1 => exact cq HR0_2)
    (case side2 => exact HC0_2.out)
    (case side3 => exact cq HR0_3)
    (case side4 => exact HC0_3.out)
    (case side5 => exact cq HR0_4)
    (case side6 => exact HC0_4.out)
    rintro e w85 ⟨rfl,hb⟩
    refine ⟨_,rfl,?_⟩
    have n0_:=bkb BK202 hb
    have n1_:=bkb BK203 hb
    have n2_:=Aside0.mk (below_step (hb_) hb)
    clear BK202
    clear BK203
    clear HB
    have BK202:=n0_
    have BK203:=n1_
    have HB:=n2_
    clear n0_ n1_ n2_
    (try clear hb)
    (try clear hb2)
    (try clear hk)
    (try clear hi)
    refine hK.out _ _ ⟨(blk_cell BK202.out 0).trans rfl,(blk_cell BK202.out 1).trans rfl,(blk_cell BK202.out 2).trans rfl,(blk_cell BK202.out 3).trans rfl,(blk_cell BK202.out 4).trans rfl⟩ (fun hHeld => ?_)
    clear hK K
    refine norm_ (a':=?_) ?_ ?_
    rotate_left
    ·show Act.put _ (some 74) _ = _
     simp only [Act.put,List.setIfInBounds_toArray,List.set_cons_zero,List.set_cons_succ,i64_w,i32_w]
     rfl
    refine pI 6 (some 75) ?_
    refine pI 7 (some 8) ?_
    refine done_ (done_of HT_.out (by kernel_rfl)) ?_
    try go_wp2
    go_ret
    exact ⟨er_,hb_⟩
   rw [if_pos c51] at H
   have c51b0:=bqt c51
   have c51b1:=bnf c51
   clear c51
   replace H:=Option.bind_eq_some_iff.mp H
   obtain ⟨t211,A520,H⟩:=H
   replace H : ((water_ground_through.f a0_0 a0_1 l0_2 l0_3 l0_4 t204 (Int.tmod (wrap64 (a3 + 2)) 4) t211).bind fun t212 => (some t212)) = some r:=H
   have A52:=Aside0.mk A520
   clear A520
   replace H:=Option.bind_eq_some_iff.mp H
   obtain ⟨t212,A530,H⟩:=H
   replace H : (some t212) = some r:=H
   have A53:=Aside0.mk A530
   clear A530
   obtain rfl:=Option.some.inj H
   go_enter Try.func41,Try.ntmps41
   try go_wp2_with (first|((with_reducible refine gate_dst (N:=4) rfl ?_);refine box_ev (N:=4) (cs:=#[.int .i64 a0_0,.int .i64 a0_1,.slice A0_2 l0_2.length c0_2,.slice A0_3 l0_3.length c0_3,.slice A0_4 l0_4.length c0_4]) (t:=52) ?_;intro gb202 hg w54 hbox hb;have BK202:=Aside0.mk (hbox);have GW202 : Aside0 (w.heap.size ≤ gb202):=gsz hg;have GE202:=GW202;replace HB:=hbs hb;clear hb hbox hg)|((with_reducible refine gate_dst (N:=5) rfl ?_);refine box_ev (N:=5) (cs:=#[.slice A1_0 l1_0.length c1_0,.slice A1_1 l1_1.length c1_1]) (t:=26) ?_;intro gb203 hg w55 hbox hb;have BK203:=Aside0.mk (hbox);have GW203 : Aside0 (w.heap.size ≤ gb203):=gsz hg;have GE203:=GW203;have NB202_203:=nbl BK202 hg;have NB203_202:=nbr BK202 hg;replace BK202:=bkb BK202 hb;replace HB:=hbs hb;clear hb hbox hg;have hnb56:=NB202_203.out;have hnc56:=NB203_202.out;obtain ⟨_,_,_,_,_,_,_,_,_,_⟩:=cells5 BK202.out)|((with_reducible refine gate_callee (f:=46) rfl ?_);refine goesL_ (some 15) rfl rfl Try.func46 (by kernel_rfl) rfl #[.agg #[.int .i64 a0_0,.int .i64 a0_1,.slice A0_2 l0_2.length c0_2,.slice A0_3 l0_3.length c0_3,.slice A0_4 l0_4.length c0_4],.int .i64 a2,.int .i64 a3] rfl ga_ ?_;(with_reducible refine (water_ground_beyond.calls k a0_0 a0_1 _ _ l0_2 _ _ l0_3 _ _ l0_4 a2 a3 t204 _ ?_ ?_ ?_ ?_ ?_ ?_ A5.out).mono ?_);exact cq HR0_2;exact HC0_2.out;exact cq HR0_3;exact HC0_3.out;exact cq HR0_4;exact HC0_4.out;rintro e w58 ⟨rfl,hb⟩;refine ⟨_,rfl,?_⟩;replace BK202:=bkb BK202 hb;replace BK203:=bkb BK203 hb;replace HB:=hbs hb;obtain ⟨_,_,_,_,_,_,_,_,_,_⟩:=cells5 BK202.out;obtain ⟨_,_,_,_⟩:=cells2 BK203.out)|(go_at_call 45;(with_reducible refine (water_ground_wet.calls a0_0 a0_1 _ _ l0_2 _ _ l0_3 _ _ l0_4 _ _ l1_0 _ _ l1_1 a2 true _ ?_ ?_ ?_ ?_ ?_ ?_ ?_ ?_ ?_ ?_ A12.out).mono ?_);exact cq HR0_2;exact HC0_2.out;exact cq HR0_3;exact HC0_3.out;exact cq HR0_4;exact HC0_4.out;exact cq HR1_0;exact HC1_0.out;exact cq HR1_1;exact HC1_1.out;rintro e w61 ⟨rfl,hb⟩;replace BK202:=bkb BK202 hb;replace BK203:=bkb BK203 hb;replace HB:=hbs hb;obtain ⟨_,_,_,_,_,_,_,_,_,_⟩:=cells5 BK202.out;obtain ⟨_,_,_,_⟩:=cells2 BK203.out)|(go_at_call 45;(with_reducible refine (water_ground_wet.calls a0_0 a0_1 _ _ l0_2 _ _ l0_3 _ _ l0_4 _ _ l1_0 _ _ l1_1 t204 true _ ?_ ?_ ?_ ?_ ?_ ?_ ?_ ?_ ?_ ?_ A14.out).mono ?_);exact cq HR0_2;exact HC0_2.out;exact cq HR0_3;exact HC0_3.out;exact cq HR0_4;exact HC0_4.out;exact cq HR1_0;exact HC1_0.out;exact cq HR1_1;exact HC1_1.out;rintro e w64 ⟨rfl,hb⟩;replace BK202:=bkb BK202 hb;replace BK203:=bkb BK203 hb;replace HB:=hbs hb))
   replace BK202:=Aside0.mk (blk_drew BK202.out)
   replace BK203:=Aside0.mk (blk_drew BK203.out)
   replace HB:=Aside0.mk (below_drew1 HB.out)
   have p207 : 0 ≤ (a2 : Int):=of_decide_eq_true (by first|(with_reducible assumption)|assumption)
   have q207 : a2 < (l1_0.length : Int):=of_decide_eq_true (by first|(with_reducible assumption)|assumption)
   obtain ⟨ad207,e207,hx207_0⟩:=Kd.at_int HR1_0.out a2 p207 q207
   have hw207_0:=hx207_0
   cases e207
   replace hx207_0:=(HB.out.cell (World.block_lt_of_cell? w _ hx207_0)).trans hx207_0
   replace p207:=eq_true p207
   replace q207:=eq_true q207
   have p208 : 0 ≤ (t204 : Int):=of_decide_eq_true (by first|(with_reducible assumption)|assumption)
   have q208 : t204 < (l1_0.length : Int):=of_decide_eq_true (by first|(with_reducible assumption)|assumption)
   obtain ⟨ad208,e208,hx208_0⟩:=Kd.at_int HR1_0.out t204 p208 q208
   have hw208_0:=hx208_0
   obtain rfl : ad207 = ad208:=(by injection e208)
   replace hx208_0:=(HB.out.cell (World.block_lt_of_cell? w _ hx208_0)).trans hx208_0
   replace p208:=eq_true p208
   replace q208:=eq_true q208
   refine start_ (n:=14) (S:=fun w' => w'.cell? ⟨gb203,0,none⟩ = some (.slice (some ad207) l1_0.length c1_0) ∧ w'.cell? ⟨gb203,1,none⟩ = some (.slice A1_1 l1_1.length c1_1) ∧ w'.cell? (ad207.add (a2).toNat) = some (.int .i64 (rd l1_0 a2)) ∧ w'.cell? (ad207.add (t204).toNat) = some (.int .i64 (rd l1_0 t204))) (ds:=[]) #[false,false,false,false,false,false,false,false,false,false,false,false,false,false] (by kernel_rfl) rfl rfl ⟨(blk_cell BK203.out 0).trans rfl,(blk_cell BK203.out 1).trans rfl,((HB.out.cell (World.block_lt_of_cell? w _ hw207_0)).trans hw207_0),((HB.out.cell (World.block_lt_of_cell? w _ hw208_0)).trans hw208_0)⟩ (fun hHeld => ?_);refine with_tabW water_ground_joined.tab4 water_ground_joined.bits4 (fun HT_ HW_ => ?_)
   generalize w64.drew = w65 at BK202 BK203 HB hx207_0 hx208_0 hHeld ⊢
   refine pI 0 (some 32) ?_
   refine pI 2 (some 34) ?_
   refine pI 6 (some 38) ?_
   refine pI 8 (some 40) ?_
   refine tI4 1 (some 33) hHeld ?_
   refine pI 3 (some 35) ?_
   refine tI4 4 (some 36) hHeld ?_
   refine pI 5 (some 37) ?_
   refine pI 12 (some 10) ?_
   refine tI4 7 (some 39) hHeld ?_
   refine pI 9 (some 41) ?_
   refine tI4 10 (some 42) hHeld ?_
   refine pI 11 (some 43) ?_
   refine pI 13 (some 11) ?_
   refine done_ (done_of HT_.out (by kernel_rfl)) ?_
   try go_wp2
   replace BK202:=Aside0.mk (blk_drew BK202.out)
   replace BK203:=Aside0.mk (blk_drew BK203.out)
   replace HB:=Aside0.mk (below_drew1 HB.out)
   refine start_ (n:=10) (S:=fun w' => w'.cell? ⟨gb202,0,none⟩ = some (.int .i64 a0_0) ∧ w'.cell? ⟨gb202,1,none⟩ = some (.int .i64 a0_1) ∧ w'.cell? ⟨gb202,2,none⟩ = some (.slice A0_2 l0_2.length c0_2) ∧ w'.cell? ⟨gb202,3,none⟩ = some (.slice A0_3 l0_3.length c0_3) ∧ w'.cell? ⟨gb202,4,none⟩ = some (.slice A0_4 l0_4.length c0_4)) (ds:=[]) #[false,false,false,false,false,false,false,false,false,false] (by kernel_rfl) rfl rfl ⟨(blk_cell BK202.out 0).trans rfl,(blk_cell BK202.out 1).trans rfl,(blk_cell BK202.out 2).trans rfl,(blk_cell BK202.out 3).trans rfl,(blk_cell BK202.out 4).trans rfl⟩ (fun hHeld => ?_);refine with_tabW water_ground_joined.tab10 water_ground_joined.bits10 (fun HT_ HW_ => ?_)
   generalize w65.drew = w66 at BK202 BK203 HB hHeld ⊢
   refine pI 1 (some 61) ?_
   refine pI 2 (some 62) ?_
   refine pI 3 (some 63) ?_
   refine pI 4 (some 64) ?_
   refine pI 6 (some 66) ?_
   refine tI5 0 (some 60) hHeld ?_
   refine tI5 5 (some 65) hHeld ?_
   refine oI 7 (some 67) (fun K hK => ?_)
   refine goes_ Try.func62 (by kernel_rfl) rfl #[.agg #[.int .i64 a0_0,.int .i64 a0_1,.slice A0_2 l0_2.length c0_2,.slice A0_3 l0_3.length c0_3,.slice A0_4 l0_4.length c0_4],.int .i64 a2] (by rfl) rfl rfl ga_ ?_
   with_reducible refine (water_ground_level.calls a0_0 a0_1 _ _ l0_2 _ _ l0_3 _ _ l0_4 a2 t211 _ ?side1 ?side2 ?side3 ?side4 ?side5 ?side6 A52.out).mono ?_
   (case side1 => exact cq HR0_2)
   (case side2 => exact HC0_2.out)
   (case side3 => exact cq HR0_3)
   (case side4 => exact HC0_3.out)
   (case side5 => exact cq HR0_4)
   (case side6 => exact HC0_4.out)
   rintro e w67 ⟨rfl,hb⟩
   refine ⟨_,rfl,?_⟩
   have n0_:=bkb BK202 hb
   have n1_:=bkb BK203 hb
   have n2_:=Aside0.mk (below_step (hb_) hb)
   clear BK202
   clear BK203
   clear HB
   have BK202:=n0_
   have BK203:=n1_
   have HB:=n2_
   clear n0_ n1_ n2_
   (try clear hb)
   (try clear hb2)
   (try clear hk)
   (try clear hi)
   refine hK.out _ _ ⟨(blk_cell BK202.out 0).trans rfl,(blk_cell BK202.out 1).trans rfl,(blk_cell BK202.out 2).trans rfl,(blk_cell BK202.out 3).trans rfl,(blk_cell BK202.out 4).trans rfl⟩ (fun hHeld => ?_)
   clear hK K
   refine norm_ (a':=?_) ?_ ?_
   rotate_left
   ·show Act.put _ (some 67) _ = _
    simp only [Act.put,List.setIfInBounds_toArray,List.set_cons_zero,List.set_cons_succ,i64_w,i32_w]
    rfl
   refine oI 8 (some 68) (fun K hK => ?_)
   refine goes_ Try.func61 (by kernel_rfl) rfl #[.agg #[.int .i64 a0_0,.int .i64 a0_1,.slice A0_2 l0_2.length c0_2,.slice A0_3 l0_3.length c0_3,.slice A0_4 l0_4.length c0_4],.int .i64 t204,.int .i64 (Int.tmod (wrap64 (a3 + 2)) 4),.int .i64 t211] (by rfl) rfl rfl ga_ ?_
   with_reducible refine (water_ground_through.calls a0_0 a0_1 _ _ l0_2 _ _ l0_3 _ _ l0_4 t204 (Int.tmod (wrap64 (a3 + 2)) 4) t211 t212 _ ?side1 ?side2 ?side3 ?side4 ?side5 ?side6 A53.out).mono ?_
   (case side1 => exact cq HR0_2)
   (case side2 => exact HC0_2.out)
   (case side3 => exact cq HR0_3)
   (case side4 => exact HC0_3.out)
   (case side5 => exact cq HR0_4)
   (case side6 => exact HC0_4.out)
   rintro e w68 ⟨rfl,hb⟩
   refine ⟨_,rfl,?_⟩
   have n0_:=bkb BK202 hb
   have n1_:=bkb BK203 hb
   have n2_:=Aside0.mk (below_step (hb_) hb)
   clear BK202
   clear BK203
   clear HB
   have BK202:=n0_
   have BK203:=n1_
   have HB:=n2_
   clear n0_ n1_ n2_
   (try clear hb)
   (try clear hb2)
   (try clear hk)
   (try clear hi)
   refine hK.out _ _ ⟨(blk_cell BK202.out 0).trans rfl,(blk_cell BK202.out 1).trans rfl,(blk_cell BK202.out 2).trans rfl,(blk_cell BK202.out 3).trans rfl,(blk_cell BK202.out 4).trans rfl⟩ (fun hHeld => ?_)
   clear hK K
   refine norm_ (a':=?_) ?_ ?_
   rotate_left
   ·show Act.put _ (some 68) _ = _
    simp only [Act.put,List.setIfInBounds_toArray,List.set_cons_zero,List.set_cons_succ,i64_w,i32_w]
    rfl
   refine pI 9 (some 8) ?_
   refine done_ (done_of HT_.out (by kernel_rfl)) ?_
   try go_wp2
   go_ret
   exact ⟨er_,hb_⟩
  ·replace c15:=Bool.eq_false_iff.mpr c15
   subst c15
   have H1 : (some false) = some r:=by rw [if_neg (show ¬ (false = true) by decide)] at H;exact H
   clear H
   have H:=H1
   clear H1
   obtain rfl:=Option.some.inj H
   go_enter Try.func41,Try.ntmps41
   go_wp2_with (first|((with_reducible refine gate_dst (N:=4) rfl ?_);refine box_ev (N:=4) (cs:=#[.int .i64 a0_0,.int .i64 a0_1,.slice A0_2 l0_2.length c0_2,.slice A0_3 l0_3.length c0_3,.slice A0_4 l0_4.length c0_4]) (t:=52) ?_;intro gb202 hg w86 hbox hb;have BK202:=Aside0.mk (hbox);have GW202 : Aside0 (w.heap.size ≤ gb202):=gsz hg;have GE202:=GW202;replace HB:=hbs hb;clear hb hbox hg)|((with_reducible refine gate_dst (N:=5) rfl ?_);refine box_ev (N:=5) (cs:=#[.slice A1_0 l1_0.length c1_0,.slice A1_1 l1_1.length c1_1]) (t:=26) ?_;intro gb203 hg w87 hbox hb;have BK203:=Aside0.mk (hbox);have GW203 : Aside0 (w.heap.size ≤ gb203):=gsz hg;have GE203:=GW203;have NB202_203:=nbl BK202 hg;have NB203_202:=nbr BK202 hg;replace BK202:=bkb BK202 hb;replace HB:=hbs hb;clear hb hbox hg;have hnb88:=NB202_203.out;have hnc88:=NB203_202.out;obtain ⟨_,_,_,_,_,_,_,_,_,_⟩:=cells5 BK202.out)|((with_reducible refine gate_callee (f:=46) rfl ?_);refine goesL_ (some 15) rfl rfl Try.func46 (by kernel_rfl) rfl #[.agg #[.int .i64 a0_0,.int .i64 a0_1,.slice A0_2 l0_2.length c0_2,.slice A0_3 l0_3.length c0_3,.slice A0_4 l0_4.length c0_4],.int .i64 a2,.int .i64 a3] rfl ga_ ?_;(with_reducible refine (water_ground_beyond.calls k a0_0 a0_1 _ _ l0_2 _ _ l0_3 _ _ l0_4 a2 a3 t204 _ ?_ ?_ ?_ ?_ ?_ ?_ A5.out).mono ?_);exact cq HR0_2;exact HC0_2.out;exact cq HR0_3;exact HC0_3.out;exact cq HR0_4;exact HC0_4.out;rintro e w90 ⟨rfl,hb⟩;refine ⟨_,rfl,?_⟩;replace BK202:=bkb BK202 hb;replace BK203:=bkb BK203 hb;replace HB:=hbs hb;obtain ⟨_,_,_,_,_,_,_,_,_,_⟩:=cells5 BK202.out;obtain ⟨_,_,_,_⟩:=cells2 BK203.out)|(go_at_call 45;(with_reducible refine (water_ground_wet.calls a0_0 a0_1 _ _ l0_2 _ _ l0_3 _ _ l0_4 _ _ l1_0 _ _ l1_1 a2 true _ ?_ ?_ ?_ ?_ ?_ ?_ ?_ ?_ ?_ ?_ A12.out).mono ?_);exact cq HR0_2;exact HC0_2.out;exact cq HR0_3;exact HC0_3.out;exact cq HR0_4;exact HC0_4.out;exact cq HR1_0;exact HC1_0.out;exact cq HR1_1;exact HC1_1.out;rintro e w93 ⟨rfl,hb⟩;replace BK202:=bkb BK202 hb;replace BK203:=bkb BK203 hb;replace HB:=hbs hb;obtain ⟨_,_,_,_,_,_,_,_,_,_⟩:=cells5 BK202.out;obtain ⟨_,_,_,_⟩:=cells2 BK203.out)|(go_at_call 45;(with_reducible refine (water_ground_wet.calls a0_0 a0_1 _ _ l0_2 _ _ l0_3 _ _ l0_4 _ _ l1_0 _ _ l1_1 t204 false _ ?_ ?_ ?_ ?_ ?_ ?_ ?_ ?_ ?_ ?_ A14.out).mono ?_);exact cq HR0_2;exact HC0_2.out;exact cq HR0_3;exact HC0_3.out;exact cq HR0_4;exact HC0_4.out;exact cq HR1_0;exact HC1_0.out;exact cq HR1_1;exact HC1_1.out;rintro e w96 ⟨rfl,hb⟩;replace BK202:=bkb BK202 hb;replace BK203:=bkb BK203 hb;replace HB:=hbs hb))
   go_ret
   exact ⟨er_,hb_⟩
 ·replace c13:=Bool.eq_false_iff.mpr c13
  subst c13
  have H1 : (some false) = some r:=by rw [if_neg (show ¬ (false = true) by decide)] at H;exact H
  clear H
  have H:=H1
  clear H1
  obtain rfl:=Option.some.inj H
  go_enter Try.func41,Try.ntmps41
  go_wp2_with (first|((with_reducible refine gate_dst (N:=4) rfl ?_);refine box_ev (N:=4) (cs:=#[.int .i64 a0_0,.int .i64 a0_1,.slice A0_2 l0_2.length c0_2,.slice A0_3 l0_3.length c0_3,.slice A0_4 l0_4.length c0_4]) (t:=52) ?_;intro gb202 hg w97 hbox hb;have BK202:=Aside0.mk (hbox);have GW202 : Aside0 (w.heap.size ≤ gb202):=gsz hg;have GE202:=GW202;replace HB:=hbs hb;clear hb hbox hg)|((with_reducible refine gate_dst (N:=5) rfl ?_);refine box_ev (N:=5) (cs:=#[.slice A1_0 l1_0.length c1_0,.slice A1_1 l1_1.length c1_1]) (t:=26) ?_;intro gb203 hg w98 hbox hb;have BK203:=Aside0.mk (hbox);have GW203 : Aside0 (w.heap.size ≤ gb203):=gsz hg;have GE203:=GW203;have NB202_203:=nbl BK202 hg;have NB203_202:=nbr BK202 hg;replace BK202:=bkb BK202 hb;replace HB:=hbs hb;clear hb hbox hg;have hnb99:=NB202_203.out;have hnc99:=NB203_202.out;obtain ⟨_,_,_,_,_,_,_,_,_,_⟩:=cells5 BK202.out)|((with_reducible refine gate_callee (f:=46) rfl ?_);refine goesL_ (some 15) rfl rfl Try.func46 (by kernel_rfl) rfl #[.agg #[.int .i64 a0_0,.int .i64 a0_1,.slice A0_2 l0_2.length c0_2,.slice A0_3 l0_3.length c0_3,.slice A0_4 l0_4.length c0_4],.int .i64 a2,.int .i64 a3] rfl ga_ ?_;(with_reducible refine (water_ground_beyond.calls k a0_0 a0_1 _ _ l0_2 _ _ l0_3 _ _ l0_4 a2 a3 t204 _ ?_ ?_ ?_ ?_ ?_ ?_ A5.out).mono ?_);exact cq HR0_2;exact HC0_2.out;exact cq HR0_3;exact HC0_3.out;exact cq HR0_4;exact HC0_4.out;rintro e w101 ⟨rfl,hb⟩;refine ⟨_,rfl,?_⟩;replace BK202:=bkb BK202 hb;replace BK203:=bkb BK203 hb;replace HB:=hbs hb;obtain ⟨_,_,_,_,_,_,_,_,_,_⟩:=cells5 BK202.out;obtain ⟨_,_,_,_⟩:=cells2 BK203.out)|(go_at_call 45;(with_reducible refine (water_ground_wet.calls a0_0 a0_1 _ _ l0_2 _ _ l0_3 _ _ l0_4 _ _ l1_0 _ _ l1_1 a2 false _ ?_ ?_ ?_ ?_ ?_ ?_ ?_ ?_ ?_ ?_ A12.out).mono ?_);exact cq HR0_2;exact HC0_2.out;exact cq HR0_3;exact HC0_3.out;exact cq HR0_4;exact HC0_4.out;exact cq HR1_0;exact HC1_0.out;exact cq HR1_1;exact HC1_1.out;rintro e w104 ⟨rfl,hb⟩;replace BK202:=bkb BK202 hb;replace BK203:=bkb BK203 hb;replace HB:=hbs hb))
  go_ret
  exact ⟨er_,hb_⟩

/-! ### water_Joined: function 16 -/
def water_Joined.f (k : Nat) (a0_0 : Int) (a0_1 : Int) (l0_2 : List Int) (l1_0 : List Int) (l1_1 : List Int) (a2 : Int) (a3 : Int) : Option (Bool × Int) := (water_at.f k a0_0 a0_1 l0_2 l1_0 l1_1 a2).bind fun bt217 => (if bt217.2.2.2.2.2 = 0 then (if a3 < 0 then (some (false, 1)) else (if a3 > 3 then (some (false, 1)) else ((water_ground_joined.f k bt217.1 bt217.2.1 bt217.2.2.1 bt217.2.2.2.1 bt217.2.2.2.2.1 l1_0 l1_1 a2 a3).bind fun t230 => (some (t230, 0))))) else (some (false, bt217.2.2.2.2.2)))
theorem water_Joined.mono : ∀ a0 a1 a2 a3 a4 a5 a6 k, LeO (water_Joined.f k a0 a1 a2 a3 a4 a5 a6) (water_Joined.f (k + 1) a0 a1 a2 a3 a4 a5 a6) := by
 intro a0 a1 a2 a3 a4 a5 a6 k
 unfold water_Joined.f
 repeat' first
   | (with_reducible exact water_at.mono _ _ _ _ _ _ _)
   | (with_reducible exact water_ground_joined.mono _ _ _ _ _ _ _ _ _ _)
   | (with_reducible exact LeO.refl _)
   | (with_reducible exact LeO.none _)
   | (with_reducible refine LeO.ite ?_ ?_)
   | (with_reducible refine LeO.bind ?_ (fun _ => ?_))
   | exact water_at.mono _ _ _ _ _ _ _
   | exact water_ground_joined.mono _ _ _ _ _ _ _ _ _ _
   | exact LeO.none _
   | refine LeO.ite ?_ ?_
   | refine LeO.bind ?_ (fun _ => ?_)
set_option maxHeartbeats 8000000 in
set_option maxRecDepth 100000 in
theorem water_Joined.calls (k : Nat) (a0_0 : Int) (a0_1 : Int) (A0_2 : Option Addr) (c0_2 : Nat) (l0_2 : List Int) (A1_0 : Option Addr) (c1_0 : Nat) (l1_0 : List Int) (A1_1 : Option Addr) (c1_1 : Nat) (l1_1 : List Int) (a2 : Int) (a3 : Int) (r1 : Bool) (r2 : Int) (w : World) (hr0_2 : Kd.C (Kd.int .i64) w A0_2 l0_2.length l0_2) (hc0_2 : l0_2.length ≤ c0_2) (hr1_0 : Kd.C (Kd.int .i64) w A1_0 l1_0.length l1_0) (hc1_0 : l1_0.length ≤ c1_0) (hr1_1 : Kd.C (Kd.int .i64) w A1_1 l1_1.length l1_1) (hc1_1 : l1_1.length ≤ c1_1) (h : water_Joined.f k a0_0 a0_1 l0_2 l1_0 l1_1 a2 a3 = some (r1, r2)) :
  Calls Try.prog 16 #[.agg #[.int .i64 a0_0,.int .i64 a0_1,.slice A0_2 l0_2.length c0_2],.agg #[.slice A1_0 l1_0.length c1_0,.slice A1_1 l1_1.length c1_1],.int .i64 a2,.int .i64 a3] w fun e w' => e = .returned (.tuple #[.bool r1,.int .i64 r2]) ∧ Below w.heap.size w w':=by
 have hu24:=Try.underlying24
 have hu26:=Try.underlying26
 have hu52:=Try.underlying52
 have HR0_2:=Aside0.mk hr0_2
 have HC0_2:=Aside0.mk hc0_2
 clear hr0_2 hc0_2
 have HR1_0:=Aside0.mk hr1_0
 have HC1_0:=Aside0.mk hc1_0
 clear hr1_0 hc1_0
 have HR1_1:=Aside0.mk hr1_1
 have HC1_1:=Aside0.mk hc1_1
 clear hr1_1 hc1_1
 have HB:=Aside0.mk (Below.refl w.heap.size w)
 have H : ((water_at.f k a0_0 a0_1 l0_2 l1_0 l1_1 a2).bind fun bt217 => (if bt217.2.2.2.2.2 = 0 then (if a3 < 0 then (some (false,1)) else (if a3 > 3 then (some (false,1)) else ((water_ground_joined.f k bt217.1 bt217.2.1 bt217.2.2.1 bt217.2.2.2.1 bt217.2.2.2.2.1 l1_0 l1_1 a2 a3).bind fun t230 => (some (t230,0))))) else (some (false,bt217.2.2.2.2.2)))) = some (r1,r2):=h
 clear h
 replace H:=Option.bind_eq_some_iff.mp H
 obtain ⟨⟨t217,t218,t219,t222,t225,t228⟩,A50,H⟩:=H
 replace H : (if t228 = 0 then (if a3 < 0 then (some (false,1)) else (if a3 > 3 then (some (false,1)) else ((water_ground_joined.f k t217 t218 t219 t222 t225 l1_0 l1_1 a2 a3).bind fun t230 => (some (t230,0))))) else (some (false,t228))) = some (r1,r2):=H
 have A5:=Aside0.mk A50
 clear A50
 by_cases c6 : t228 = 0
 rotate_left
 ·rw [if_neg c6] at H
  have c6b0:=bqf c6
  have c6b1:=bnt c6
  simp only [Option.some.injEq,Prod.mk.injEq] at H
  obtain ⟨rfl,rfl⟩:=H
  go_enter Try.func16,Try.ntmps16
  go_wp2_with (first|((with_reducible refine gate_dst (N:=4) rfl ?_);refine box_ev (N:=4) (cs:=#[.int .i64 a0_0,.int .i64 a0_1,.slice A0_2 l0_2.length c0_2]) (t:=24) ?_;intro gb215 hg w51 hbox hb;have BK215:=Aside0.mk (hbox);have GW215 : Aside0 (w.heap.size ≤ gb215):=gsz hg;have GE215:=GW215;replace HB:=hbs hb;clear hb hbox hg)|((with_reducible refine gate_dst (N:=5) rfl ?_);refine box_ev (N:=5) (cs:=#[.slice A1_0 l1_0.length c1_0,.slice A1_1 l1_1.length c1_1]) (t:=26) ?_;intro gb216 hg w52 hbox hb;have BK216:=Aside0.mk (hbox);have GW216 : Aside0 (w.heap.size ≤ gb216):=gsz hg;have GE216:=GW216;have NB215_216:=nbl BK215 hg;have NB216_215:=nbr BK215 hg;replace BK215:=bkb BK215 hb;replace HB:=hbs hb;clear hb hbox hg;have hnb53:=NB215_216.out;have hnc53:=NB216_215.out;obtain ⟨_,_,_,_,_,_⟩:=cells3 BK215.out;obtain ⟨_,_,_,_⟩:=cells2 BK216.out)|((with_reducible refine gate_callee (f:=40) rfl ?_);refine goesL_ (some 16) rfl rfl Try.func40 (by kernel_rfl) rfl #[.agg #[.int .i64 a0_0,.int .i64 a0_1,.slice A0_2 l0_2.length c0_2],.agg #[.slice A1_0 l1_0.length c1_0,.slice A1_1 l1_1.length c1_1],.int .i64 a2] rfl ga_ ?_;(with_reducible refine (water_at.calls k a0_0 a0_1 _ _ l0_2 _ _ l1_0 _ _ l1_1 a2 t217 t218 t219 t222 t225 t228 _ ?_ ?_ ?_ ?_ ?_ ?_ A5.out).mono ?_);exact cq HR0_2;exact HC0_2.out;exact cq HR1_0;exact HC1_0.out;exact cq HR1_1;exact HC1_1.out;rintro e w56 ⟨v220,v223,v226,rfl,ho0,ho1,ho2,hb⟩;refine ⟨_,rfl,?_⟩;have HO221:=rlo ho0;have HO224:=rlo ho1;have HO227:=rlo ho2;replace BK215:=bkb BK215 hb;replace BK216:=bkb BK216 hb;replace HB:=hbs hb)|((with_reducible refine gate_dst (N:=10) rfl ?_);refine box_ev (N:=10) (cs:=#[.int .i64 0,.int .i64 0,.slice none 0 0,.slice none 0 0,.slice none 0 0]) (t:=52) ?_;intro gb229 hg w57 hbox hb;have BK229:=Aside0.mk (hbox);have GW229 : Aside0 (w.heap.size ≤ gb229):=gsz hg;have GE229:=GW229;have NB215_229:=nbl BK215 hg;have NB229_215:=nbr BK215 hg;have NB216_229:=nbl BK216 hg;have NB229_216:=nbr BK216 hg;replace HO221:=rbw HO221 hb;replace HO224:=rbw HO224 hb;replace HO227:=rbw HO227 hb;replace BK215:=bkb BK215 hb;replace BK216:=bkb BK216 hb;replace HB:=hbs hb;clear hb hbox hg;have hnb58:=NB229_215.out;have hnc58:=NB215_229.out;have hnb59:=NB229_216.out;have hnc59:=NB216_229.out;obtain ⟨_,_,_,_,_,_,_,_,_,_⟩:=cells5 BK229.out;obtain ⟨Ao61,co61,eo61⟩:=Kd.R_slice HO221.out;subst eo61;obtain ⟨Ao62,co62,eo62⟩:=Kd.R_slice HO224.out;subst eo62;obtain ⟨Ao63,co63,eo63⟩:=Kd.R_slice HO227.out;subst eo63))
  go_ret2
  exact ⟨er_,hb_⟩
 rw [if_pos c6] at H
 have c6b0:=bqt c6
 have c6b1:=bnf c6
 clear c6
 by_cases c7 : a3 < 0
 ·rw [if_pos c7] at H
  have c7b0 : decide (a3 < 0) = true:=decide_eq_true c7
  clear c7
  simp only [Option.some.injEq,Prod.mk.injEq] at H
  obtain ⟨rfl,rfl⟩:=H
  go_enter Try.func16,Try.ntmps16
  go_wp2_with (first|((with_reducible refine gate_dst (N:=4) rfl ?_);refine box_ev (N:=4) (cs:=#[.int .i64 a0_0,.int .i64 a0_1,.slice A0_2 l0_2.length c0_2]) (t:=24) ?_;intro gb215 hg w8 hbox hb;have BK215:=Aside0.mk (hbox);have GW215 : Aside0 (w.heap.size ≤ gb215):=gsz hg;have GE215:=GW215;replace HB:=hbs hb;clear hb hbox hg)|((with_reducible refine gate_dst (N:=5) rfl ?_);refine box_ev (N:=5) (cs:=#[.slice A1_0 l1_0.length c1_0,.slice A1_1 l1_1.length c1_1]) (t:=26) ?_;intro gb216 hg w9 hbox hb;have BK216:=Aside0.mk (hbox);have GW216 : Aside0 (w.heap.size ≤ gb216):=gsz hg;have GE216:=GW216;have NB215_216:=nbl BK215 hg;have NB216_215:=nbr BK215 hg;replace BK215:=bkb BK215 hb;replace HB:=hbs hb;clear hb hbox hg;have hnb10:=NB215_216.out;have hnc10:=NB216_215.out;obtain ⟨_,_,_,_,_,_⟩:=cells3 BK215.out;obtain ⟨_,_,_,_⟩:=cells2 BK216.out)|((with_reducible refine gate_callee (f:=40) rfl ?_);refine goesL_ (some 16) rfl rfl Try.func40 (by kernel_rfl) rfl #[.agg #[.int .i64 a0_0,.int .i64 a0_1,.slice A0_2 l0_2.length c0_2],.agg #[.slice A1_0 l1_0.length c1_0,.slice A1_1 l1_1.length c1_1],.int .i64 a2] rfl ga_ ?_;(with_reducible refine (water_at.calls k a0_0 a0_1 _ _ l0_2 _ _ l1_0 _ _ l1_1 a2 t217 t218 t219 t222 t225 t228 _ ?_ ?_ ?_ ?_ ?_ ?_ A5.out).mono ?_);exact cq HR0_2;exact HC0_2.out;exact cq HR1_0;exact HC1_0.out;exact cq HR1_1;exact HC1_1.out;rintro e w13 ⟨v220,v223,v226,rfl,ho0,ho1,ho2,hb⟩;refine ⟨_,rfl,?_⟩;have HO221:=rlo ho0;have HO224:=rlo ho1;have HO227:=rlo ho2;replace BK215:=bkb BK215 hb;replace BK216:=bkb BK216 hb;replace HB:=hbs hb)|((with_reducible refine gate_dst (N:=10) rfl ?_);refine box_ev (N:=10) (cs:=#[.int .i64 0,.int .i64 0,.slice none 0 0,.slice none 0 0,.slice none 0 0]) (t:=52) ?_;intro gb229 hg w14 hbox hb;have BK229:=Aside0.mk (hbox);have GW229 : Aside0 (w.heap.size ≤ gb229):=gsz hg;have GE229:=GW229;have NB215_229:=nbl BK215 hg;have NB229_215:=nbr BK215 hg;have NB216_229:=nbl BK216 hg;have NB229_216:=nbr BK216 hg;replace HO221:=rbw HO221 hb;replace HO224:=rbw HO224 hb;replace HO227:=rbw HO227 hb;replace BK215:=bkb BK215 hb;replace BK216:=bkb BK216 hb;replace HB:=hbs hb;clear hb hbox hg;have hnb15:=NB229_215.out;have hnc15:=NB215_229.out;have hnb16:=NB229_216.out;have hnc16:=NB216_229.out;obtain ⟨_,_,_,_,_,_,_,_,_,_⟩:=cells5 BK229.out;obtain ⟨Ao18,co18,eo18⟩:=Kd.R_slice HO221.out;subst eo18;obtain ⟨Ao19,co19,eo19⟩:=Kd.R_slice HO224.out;subst eo19;obtain ⟨Ao20,co20,eo20⟩:=Kd.R_slice HO227.out;subst eo20))
  go_ret2
  exact ⟨er_,hb_⟩
 ·rw [if_neg c7] at H
  have c7b0 : decide (a3 < 0) = false:=decide_eq_false c7
  clear c7
  by_cases c21 : a3 > 3
  ·rw [if_pos c21] at H
   have c21b0 : decide (3 < a3) = true:=decide_eq_true c21
   clear c21
   simp only [Option.some.injEq,Prod.mk.injEq] at H
   obtain ⟨rfl,rfl⟩:=H
   go_enter Try.func16,Try.ntmps16
   go_wp2_with (first|((with_reducible refine gate_dst (N:=4) rfl ?_);refine box_ev (N:=4) (cs:=#[.int .i64 a0_0,.int .i64 a0_1,.slice A0_2 l0_2.length c0_2]) (t:=24) ?_;intro gb215 hg w22 hbox hb;have BK215:=Aside0.mk (hbox);have GW215 : Aside0 (w.heap.size ≤ gb215):=gsz hg;have GE215:=GW215;replace HB:=hbs hb;clear hb hbox hg)|((with_reducible refine gate_dst (N:=5) rfl ?_);refine box_ev (N:=5) (cs:=#[.slice A1_0 l1_0.length c1_0,.slice A1_1 l1_1.length c1_1]) (t:=26) ?_;intro gb216 hg w23 hbox hb;have BK216:=Aside0.mk (hbox);have GW216 : Aside0 (w.heap.size ≤ gb216):=gsz hg;have GE216:=GW216;have NB215_216:=nbl BK215 hg;have NB216_215:=nbr BK215 hg;replace BK215:=bkb BK215 hb;replace HB:=hbs hb;clear hb hbox hg;have hnb24:=NB215_216.out;have hnc24:=NB216_215.out;obtain ⟨_,_,_,_,_,_⟩:=cells3 BK215.out;obtain ⟨_,_,_,_⟩:=cells2 BK216.out)|((with_reducible refine gate_callee (f:=40) rfl ?_);refine goesL_ (some 16) rfl rfl Try.func40 (by kernel_rfl) rfl #[.agg #[.int .i64 a0_0,.int .i64 a0_1,.slice A0_2 l0_2.length c0_2],.agg #[.slice A1_0 l1_0.length c1_0,.slice A1_1 l1_1.length c1_1],.int .i64 a2] rfl ga_ ?_;(with_reducible refine (water_at.calls k a0_0 a0_1 _ _ l0_2 _ _ l1_0 _ _ l1_1 a2 t217 t218 t219 t222 t225 t228 _ ?_ ?_ ?_ ?_ ?_ ?_ A5.out).mono ?_);exact cq HR0_2;exact HC0_2.out;exact cq HR1_0;exact HC1_0.out;exact cq HR1_1;exact HC1_1.out;rintro e w27 ⟨v220,v223,v226,rfl,ho0,ho1,ho2,hb⟩;refine ⟨_,rfl,?_⟩;have HO221:=rlo ho0;have HO224:=rlo ho1;have HO227:=rlo ho2;replace BK215:=bkb BK215 hb;replace BK216:=bkb BK216 hb;replace HB:=hbs hb)|((with_reducible refine gate_dst (N:=10) rfl ?_);refine box_ev (N:=10) (cs:=#[.int .i64 0,.int .i64 0,.slice none 0 0,.slice none 0 0,.slice none 0 0]) (t:=52) ?_;intro gb229 hg w28 hbox hb;have BK229:=Aside0.mk (hbox);have GW229 : Aside0 (w.heap.size ≤ gb229):=gsz hg;have GE229:=GW229;have NB215_229:=nbl BK215 hg;have NB229_215:=nbr BK215 hg;have NB216_229:=nbl BK216 hg;have NB229_216:=nbr BK216 hg;replace HO221:=rbw HO221 hb;replace HO224:=rbw HO224 hb;replace HO227:=rbw HO227 hb;replace BK215:=bkb BK215 hb;replace BK216:=bkb BK216 hb;replace HB:=hbs hb;clear hb hbox hg;have hnb29:=NB229_215.out;have hnc29:=NB215_229.out;have hnb30:=NB229_216.out;have hnc30:=NB216_229.out;obtain ⟨_,_,_,_,_,_,_,_,_,_⟩:=cells5 BK229.out;obtain ⟨Ao32,co32,eo32⟩:=Kd.R_slice HO221.out;subst eo32;obtain ⟨Ao33,co33,eo33⟩:=Kd.R_slice HO224.out;subst eo33;obtain ⟨Ao34,co34,eo34⟩:=Kd.R_slice HO227.out;subst eo34))
   go_ret2
   exact ⟨er_,hb_⟩
  ·rw [if_neg c21] at H
   have c21b0 : decide (3 < a3) = false:=decide_eq_false c21
   clear c21
   replace H:=Option.bind_eq_some_iff.mp H
   obtain ⟨t230,A350,H⟩:=H
   replace H : (some (t230,0)) = some (r1,r2):=H
   have A35:=Aside0.mk A350
   clear A350
   simp only [Option.some.injEq,Prod.mk.injEq] at H
   obtain ⟨rfl,rfl⟩:=H
   go_enter Try.func16,Try.ntmps16
   go_wp2_with (first|((with_reducible refine gate_dst (N:=4) rfl ?_);refine box_ev (N:=4) (cs:=#[.int .i64 a0_0,.int .i64 a0_1,.slice A0_2 l0_2.length c0_2]) (t:=24) ?_;intro gb215 hg w36 hbox hb;have BK215:=Aside0.mk (hbox);have GW215 : Aside0 (w.heap.size ≤ gb215):=gsz hg;have GE215:=GW215;replace HB:=hbs hb;clear hb hbox hg)|((with_reducible refine gate_dst (N:=5) rfl ?_);refine box_ev (N:=5) (cs:=#[.slice A1_0 l1_0.length c1_0,.slice A1_1 l1_1.length c1_1]) (t:=26) ?_;intro gb216 hg w37 hbox hb;have BK216:=Aside0.mk (hbox);have GW216 : Aside0 (w.heap.size ≤ gb216):=gsz hg;have GE216:=GW216;have NB215_216:=nbl BK215 hg;have NB216_215:=nbr BK215 hg;replace BK215:=bkb BK215 hb;replace HB:=hbs hb;clear hb hbox hg;have hnb38:=NB215_216.out;have hnc38:=NB216_215.out;obtain ⟨_,_,_,_,_,_⟩:=cells3 BK215.out;obtain ⟨_,_,_,_⟩:=cells2 BK216.out)|((with_reducible refine gate_callee (f:=40) rfl ?_);refine goesL_ (some 16) rfl rfl Try.func40 (by kernel_rfl) rfl #[.agg #[.int .i64 a0_0,.int .i64 a0_1,.slice A0_2 l0_2.length c0_2],.agg #[.slice A1_0 l1_0.length c1_0,.slice A1_1 l1_1.length c1_1],.int .i64 a2] rfl ga_ ?_;(with_reducible refine (water_at.calls k a0_0 a0_1 _ _ l0_2 _ _ l1_0 _ _ l1_1 a2 t217 t218 t219 t222 t225 t228 _ ?_ ?_ ?_ ?_ ?_ ?_ A5.out).mono ?_);exact cq HR0_2;exact HC0_2.out;exact cq HR1_0;exact HC1_0.out;exact cq HR1_1;exact HC1_1.out;rintro e w41 ⟨v220,v223,v226,rfl,ho0,ho1,ho2,hb⟩;refine ⟨_,rfl,?_⟩;have HO221:=rlo ho0;have HO224:=rlo ho1;have HO227:=rlo ho2;replace BK215:=bkb BK215 hb;replace BK216:=bkb BK216 hb;replace HB:=hbs hb)|((with_reducible refine gate_dst (N:=10) rfl ?_);refine box_ev (N:=10) (cs:=#[.int .i64 0,.int .i64 0,.slice none 0 0,.slice none 0 0,.slice none 0 0]) (t:=52) ?_;intro gb229 hg w42 hbox hb;have BK229:=Aside0.mk (hbox);have GW229 : Aside0 (w.heap.size ≤ gb229):=gsz hg;have GE229:=GW229;have NB215_229:=nbl BK215 hg;have NB229_215:=nbr BK215 hg;have NB216_229:=nbl BK216 hg;have NB229_216:=nbr BK216 hg;replace HO221:=rbw HO221 hb;replace HO224:=rbw HO224 hb;replace HO227:=rbw HO227 hb;replace BK215:=bkb BK215 hb;replace BK216:=bkb BK216 hb;replace HB:=hbs hb;clear hb hbox hg;have hnb43:=NB229_215.out;have hnc43:=NB215_229.out;have hnb44:=NB229_216.out;have hnc44:=NB216_229.out;obtain ⟨_,_,_,_,_,_,_,_,_,_⟩:=cells5 BK229.out;obtain ⟨Ao46,co46,eo46⟩:=Kd.R_slice HO221.out;subst eo46;obtain ⟨Ao47,co47,eo47⟩:=Kd.R_slice HO224.out;subst eo47;obtain ⟨Ao48,co48,eo48⟩:=Kd.R_slice HO227.out;subst eo48;obtain ⟨_,_,_,_⟩:=cells2 BK216.out)|((with_reducible refine gate_callee (f:=41) rfl ?_);refine goesL_ (some 32) rfl rfl Try.func41 (by kernel_rfl) rfl #[.agg #[.int .i64 t217,.int .i64 t218,.slice Ao46 t219.length co46,.slice Ao47 t222.length co47,.slice Ao48 t225.length co48],.agg #[.slice A1_0 l1_0.length c1_0,.slice A1_1 l1_1.length c1_1],.int .i64 a2,.int .i64 a3] rfl ga_ ?_;(with_reducible refine (water_ground_joined.calls k t217 t218 _ _ t219 _ _ t222 _ _ t225 _ _ l1_0 _ _ l1_1 a2 a3 t230 _ ?_ ?_ ?_ ?_ ?_ ?_ ?_ ?_ ?_ ?_ A35.out).mono ?_);exact rqs gb229 HO221 BK229;exact (Kd.R_reads' HO221.out).2.1;exact rqs gb229 HO224 BK229;exact (Kd.R_reads' HO224.out).2.1;exact rqs gb229 HO227 BK229;exact (Kd.R_reads' HO227.out).2.1;exact Kd.C_below HR1_0.out (hb_);exact HC1_0.out;exact Kd.C_below HR1_1.out (hb_);exact HC1_1.out;rintro e w50 ⟨rfl,hb⟩;refine ⟨_,rfl,?_⟩;replace HO221:=Aside0.mk (Kd.R_below (by (with_reducible repeat (first|apply Kd.R_alloc|apply Kd.R_drewN|apply Kd.R_drew));exact (Kd.R_mono (Kd.R_fars gb229 (Kd.R_types HO221.out BK229.out (by decide)) (fun _ hk => hk.2)) (fun _ h_ => h_.1))) hb);replace HO224:=Aside0.mk (Kd.R_below (by (with_reducible repeat (first|apply Kd.R_alloc|apply Kd.R_drewN|apply Kd.R_drew));exact (Kd.R_mono (Kd.R_fars gb229 (Kd.R_types HO224.out BK229.out (by decide)) (fun _ hk => hk.2)) (fun _ h_ => h_.1))) hb);replace HO227:=Aside0.mk (Kd.R_below (by (with_reducible repeat (first|apply Kd.R_alloc|apply Kd.R_drewN|apply Kd.R_drew));exact (Kd.R_mono (Kd.R_fars gb229 (Kd.R_types HO227.out BK229.out (by decide)) (fun _ hk => hk.2)) (fun _ h_ => h_.1))) hb);replace BK215:=Aside0.mk (blk_below (g:=gb215) (o:=.cells #[.int .i64 a0_0,.int .i64 a0_1,.slice A0_2 l0_2.length c0_2] 24 (0,0)) (by (with_reducible repeat (first|refine blk_drewN ?_ _|refine blk_drew ?_|refine blk_alloc ?_ _));refine blk_far ?_ NB215_229.out _;(with_reducible repeat (first|refine blk_drewN ?_ _|refine blk_drew ?_|refine blk_alloc ?_ _));refine blk_far ?_ NB215_229.out _;(with_reducible repeat (first|refine blk_drewN ?_ _|refine blk_drew ?_|refine blk_alloc ?_ _));refine blk_far ?_ NB215_229.out _;(with_reducible repeat (first|refine blk_drewN ?_ _|refine blk_drew ?_|refine blk_alloc ?_ _));refine blk_far ?_ NB215_229.out _;(with_reducible repeat (first|refine blk_drewN ?_ _|refine blk_drew ?_|refine blk_alloc ?_ _));refine blk_far ?_ NB215_229.out _;(with_reducible repeat (first|refine blk_drewN ?_ _|refine blk_drew ?_|refine blk_alloc ?_ _));exact BK215.out) hb);replace BK216:=Aside0.mk (blk_below (g:=gb216) (o:=.cells #[.slice A1_0 l1_0.length c1_0,.slice A1_1 l1_1.length c1_1] 26 (0,0)) (by (with_reducible repeat (first|refine blk_drewN ?_ _|refine blk_drew ?_|refine blk_alloc ?_ _));refine blk_far ?_ NB216_229.out _;(with_reducible repeat (first|refine blk_drewN ?_ _|refine blk_drew ?_|refine blk_alloc ?_ _));refine blk_far ?_ NB216_229.out _;(with_reducible repeat (first|refine blk_drewN ?_ _|refine blk_drew ?_|refine blk_alloc ?_ _));refine blk_far ?_ NB216_229.out _;(with_reducible repeat (first|refine blk_drewN ?_ _|refine blk_drew ?_|refine blk_alloc ?_ _));refine blk_far ?_ NB216_229.out _;(with_reducible repeat (first|refine blk_drewN ?_ _|refine blk_drew ?_|refine blk_alloc ?_ _));refine blk_far ?_ NB216_229.out _;(with_reducible repeat (first|refine blk_drewN ?_ _|refine blk_drew ?_|refine blk_alloc ?_ _));exact BK216.out) hb);replace BK229:=Aside0.mk (blk_below (g:=gb229) (o:=.cells #[.int .i64 t217,.int .i64 t218,.slice Ao46 t219.length co46,.slice Ao47 t222.length co47,.slice Ao48 t225.length co48] 52 (0,0)) (by (with_reducible repeat (first|refine blk_drewN ?_ _|refine blk_drew ?_|refine blk_alloc ?_ _));exact blk_puts5 (blk_up BK229.out)) hb);replace HB:=hbs hb))
   go_ret2
   exact ⟨er_,hb_⟩

end Go.Proofs.Ytiencnnkphipoaa.P

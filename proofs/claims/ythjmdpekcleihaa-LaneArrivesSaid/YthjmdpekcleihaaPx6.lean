/- Functions of this seat as plain Lean functions, with proofs that the Go code comes to just their answers, or what stands between them and a law's statement; no conditions. (Laid by a program of this session, out of the kit's print.) -/
import Derived.Test.YthjmdpekcleihaaPx0
import Derived.Test.YthjmdpekcleihaaPx4
import Derived.Test.YthjmdpekcleihaaPx5
namespace Go.Proofs.Ythjmdpekcleihaa.P
open Go.RowKit Go.Proofs.YthjmdpekcleihaaW.PrintWords Go.Proofs.YthjmdpekcleihaaW.PrintLast Go.Proofs.YthjmdpekcleihaaW.PrintMore
attribute [local go_sem] max2_int min2_int max_two min_two max_three min_three max_four min_four   -- for this text's walks alone
set_option linter.unusedVariables false
set_option linter.unusedSimpArgs false

/-! ### water_check: function 79 -/
mutual
def water_check.l0 : Nat → List Int → Int → Int → Int → Int → List Int → List Int → List Int → Int → Int → List Int → List Int → List Bool → Option (Int × Int × List Int × List Int × List Bool × Int)
 | 0,_,_,_,_,_,_,_,_,_,_,_,_,_ => none
 | k + 1,x37,x38,x39,x208000,x208001,x208002,x209000,x209001,x223000,x223001,x223002,x223003,x223004 => if x39 < x38 then (if 0 ≤ x39 then (if x39 < (x37.length : Int) then (if (rd x37 x39) < 0 then (some (x223000,x223001,x223002,x223003,x223004,1)) else (if (rd x37 x39) > 3 then (some (x223000,x223001,x223002,x223003,x223004,1)) else (water_check.l0 k x37 x38 (wrap64 (x39 + 1)) x208000 x208001 x208002 x209000 x209001 x223000 x223001 x223002 x223003 x223004))) else (none)) else (none)) else (water_check.l1 k 1 x208000 x208001 x208002 x209000 x209001 x223000 x223001 x223002 x223003 x223004)
def water_check.l1 : Nat → Int → Int → Int → List Int → List Int → List Int → Int → Int → List Int → List Int → List Bool → Option (Int × Int × List Int × List Int × List Bool × Int)
 | 0,_,_,_,_,_,_,_,_,_,_,_ => none
 | k + 1,x10,x208000,x208001,x208002,x209000,x209001,x223000,x223001,x223002,x223003,x223004 => if x10 < (x209001.length : Int) then (if 0 ≤ x10 then (if 0 ≤ (wrap64 (x10 - 1)) then (if (wrap64 (x10 - 1)) < (x209001.length : Int) then (if (rd x209001 x10) ≤ (rd x209001 (wrap64 (x10 - 1))) then (some (x223000,x223001,x223002,x223003,x223004,1)) else (water_check.l1 k (wrap64 (x10 + 1)) x208000 x208001 x208002 x209000 x209001 x223000 x223001 x223002 x223003 x223004)) else (none)) else (none)) else (none)) else (water_check.l2 k x209001 (x209001.length : Int) 0 x208000 x208001 x208002 x209000 x209001 x223000 x223001 x223002 x223003 x223004)
def water_check.l2 : Nat → List Int → Int → Int → Int → Int → List Int → List Int → List Int → Int → Int → List Int → List Int → List Bool → Option (Int × Int × List Int × List Int × List Bool × Int)
 | 0,_,_,_,_,_,_,_,_,_,_,_,_,_ => none
 | k + 1,x72,x73,x74,x208000,x208001,x208002,x209000,x209001,x223000,x223001,x223002,x223003,x223004 => if x74 < x73 then (if 0 ≤ x74 then (if x74 < (x72.length : Int) then (if (rd x72 x74) < 0 then (some (x223000,x223001,x223002,x223003,x223004,2)) else (if (rd x72 x74) ≥ (wrap64 (x208000 * x208001)) then (some (x223000,x223001,x223002,x223003,x223004,2)) else (water_check.l2 k x72 x73 (wrap64 (x74 + 1)) x208000 x208001 x208002 x209000 x209001 x223000 x223001 x223002 x223003 x223004))) else (none)) else (none)) else (water_check.l3 k x209000 (x209000.length : Int) 0 x209000 x209001 x223000 x223001 x223002 x223003 x223004)
def water_check.l3 : Nat → List Int → Int → Int → List Int → List Int → Int → Int → List Int → List Int → List Bool → Option (Int × Int × List Int × List Int × List Bool × Int)
 | 0,_,_,_,_,_,_,_,_,_,_ => none
 | k + 1,x92,x93,x94,x209000,x209001,x223000,x223001,x223002,x223003,x223004 => if x94 < x93 then (if 0 ≤ x94 then (if x94 < (x92.length : Int) then ((water_ground_may.f k x223000 x223001 x223002 x223003 x223004 x94 (rd x92 x94)).bind fun t228 => (if t228 = 0 then (water_check.l3 k x92 x93 (wrap64 (x94 + 1)) x209000 x209001 x223000 x223001 x223002 x223003 x223004) else (some (x223000,x223001,x223002,x223003,x223004,9)))) else (none)) else (none)) else (water_check.l4 k x209001 (x209001.length : Int) 0 x209000 x209001 x223000 x223001 x223002 x223003 x223004)
def water_check.l4 : Nat → List Int → Int → Int → List Int → List Int → Int → Int → List Int → List Int → List Bool → Option (Int × Int × List Int × List Int × List Bool × Int)
 | 0,_,_,_,_,_,_,_,_,_,_ => none
 | k + 1,x107,x108,x109,x209000,x209001,x223000,x223001,x223002,x223003,x223004 => if x109 < x108 then (if 0 ≤ x109 then (if x109 < (x107.length : Int) then ((water_ground_wet.f x223000 x223001 x223002 x223003 x223004 x209000 x209001 (rd x107 x109)).bind fun t230 => (if t230 = true then (water_check.l4 k x107 x108 (wrap64 (x109 + 1)) x209000 x209001 x223000 x223001 x223002 x223003 x223004) else (some (x223000,x223001,x223002,x223003,x223004,9)))) else (none)) else (none)) else (some (x223000,x223001,x223002,x223003,x223004,0))
end
def water_check.f (k : Nat) (a0_0 : Int) (a0_1 : Int) (l0_2 : List Int) (l1_0 : List Int) (l1_1 : List Int) : Option (Int × Int × List Int × List Int × List Bool × Int) := (water_groundOf.f k a0_0 a0_1 l0_2).bind fun bt210 => (if bt210.2.2.2.2.2 = 0 then (if (l1_0.length : Int) = (wrap64 (a0_0 * a0_1)) then (water_check.l0 k l1_0 (l1_0.length : Int) 0 a0_0 a0_1 l0_2 l1_0 l1_1 bt210.1 bt210.2.1 bt210.2.2.1 bt210.2.2.2.1 bt210.2.2.2.2.1) else (some (bt210.1, bt210.2.1, bt210.2.2.1, bt210.2.2.2.1, bt210.2.2.2.2.1, 1))) else (some (bt210.1, bt210.2.1, bt210.2.2.1, bt210.2.2.2.1, bt210.2.2.2.2.1, bt210.2.2.2.2.2)))
theorem water_check.mono_l : ∀ k, (∀ y0 y1 y2 y3 y4 y5 y6 y7 y8 y9 y10 y11 y12, LeO (water_check.l0 k y0 y1 y2 y3 y4 y5 y6 y7 y8 y9 y10 y11 y12) (water_check.l0 (k + 1) y0 y1 y2 y3 y4 y5 y6 y7 y8 y9 y10 y11 y12)) ∧ (∀ y0 y1 y2 y3 y4 y5 y6 y7 y8 y9 y10, LeO (water_check.l1 k y0 y1 y2 y3 y4 y5 y6 y7 y8 y9 y10) (water_check.l1 (k + 1) y0 y1 y2 y3 y4 y5 y6 y7 y8 y9 y10)) ∧ (∀ y0 y1 y2 y3 y4 y5 y6 y7 y8 y9 y10 y11 y12, LeO (water_check.l2 k y0 y1 y2 y3 y4 y5 y6 y7 y8 y9 y10 y11 y12) (water_check.l2 (k + 1) y0 y1 y2 y3 y4 y5 y6 y7 y8 y9 y10 y11 y12)) ∧ (∀ y0 y1 y2 y3 y4 y5 y6 y7 y8 y9, LeO (water_check.l3 k y0 y1 y2 y3 y4 y5 y6 y7 y8 y9) (water_check.l3 (k + 1) y0 y1 y2 y3 y4 y5 y6 y7 y8 y9)) ∧ (∀ y0 y1 y2 y3 y4 y5 y6 y7 y8 y9, LeO (water_check.l4 k y0 y1 y2 y3 y4 y5 y6 y7 y8 y9) (water_check.l4 (k + 1) y0 y1 y2 y3 y4 y5 y6 y7 y8 y9))
 | 0 => ⟨fun _ _ _ _ _ _ _ _ _ _ _ _ _ r h => by simp [water_check.l0] at h,fun _ _ _ _ _ _ _ _ _ _ _ r h => by simp [water_check.l1] at h,fun _ _ _ _ _ _ _ _ _ _ _ _ _ r h => by simp [water_check.l2] at h,fun _ _ _ _ _ _ _ _ _ _ r h => by simp [water_check.l3] at h,fun _ _ _ _ _ _ _ _ _ _ r h => by simp [water_check.l4] at h⟩
 | k + 1 => by
  obtain ⟨ih0,ih1,ih2,ih3,ih4⟩:=water_check.mono_l k
  refine ⟨?_,?_,?_,?_,?_⟩
  ·intro y0 y1 y2 y3 y4 y5 y6 y7 y8 y9 y10 y11 y12
   unfold water_check.l0
   repeat' first
   | (with_reducible exact ih0 _ _ _ _ _ _ _ _ _ _ _ _ _)
   | (with_reducible exact ih1 _ _ _ _ _ _ _ _ _ _ _)
   | (with_reducible exact ih2 _ _ _ _ _ _ _ _ _ _ _ _ _)
   | (with_reducible exact ih3 _ _ _ _ _ _ _ _ _ _)
   | (with_reducible exact ih4 _ _ _ _ _ _ _ _ _ _)
   | (with_reducible exact water_groundOf.mono _ _ _ _)
   | (with_reducible exact water_ground_may.mono _ _ _ _ _ _ _ _)
   | (with_reducible exact LeO.refl _)
   | (with_reducible exact LeO.none _)
   | (with_reducible refine LeO.ite ?_ ?_)
   | (with_reducible refine LeO.bind ?_ (fun _ => ?_))
   | exact ih0 _ _ _ _ _ _ _ _ _ _ _ _ _
   | exact ih1 _ _ _ _ _ _ _ _ _ _ _
   | exact ih2 _ _ _ _ _ _ _ _ _ _ _ _ _
   | exact ih3 _ _ _ _ _ _ _ _ _ _
   | exact ih4 _ _ _ _ _ _ _ _ _ _
   | exact water_groundOf.mono _ _ _ _
   | exact water_ground_may.mono _ _ _ _ _ _ _ _
   | exact LeO.none _
   | refine LeO.ite ?_ ?_
   | refine LeO.bind ?_ (fun _ => ?_)
  ·intro y0 y1 y2 y3 y4 y5 y6 y7 y8 y9 y10
   unfold water_check.l1
   repeat' first
   | (with_reducible exact ih0 _ _ _ _ _ _ _ _ _ _ _ _ _)
   | (with_reducible exact ih1 _ _ _ _ _ _ _ _ _ _ _)
   | (with_reducible exact ih2 _ _ _ _ _ _ _ _ _ _ _ _ _)
   | (with_reducible exact ih3 _ _ _ _ _ _ _ _ _ _)
   | (with_reducible exact ih4 _ _ _ _ _ _ _ _ _ _)
   | (with_reducible exact water_groundOf.mono _ _ _ _)
   | (with_reducible exact water_ground_may.mono _ _ _ _ _ _ _ _)
   | (with_reducible exact LeO.refl _)
   | (with_reducible exact LeO.none _)
   | (with_reducible refine LeO.ite ?_ ?_)
   | (with_reducible refine LeO.bind ?_ (fun _ => ?_))
   | exact ih0 _ _ _ _ _ _ _ _ _ _ _ _ _
   | exact ih1 _ _ _ _ _ _ _ _ _ _ _
   | exact ih2 _ _ _ _ _ _ _ _ _ _ _ _ _
   | exact ih3 _ _ _ _ _ _ _ _ _ _
   | exact ih4 _ _ _ _ _ _ _ _ _ _
   | exact water_groundOf.mono _ _ _ _
   | exact water_ground_may.mono _ _ _ _ _ _ _ _
   | exact LeO.none _
   | refine LeO.ite ?_ ?_
   | refine LeO.bind ?_ (fun _ => ?_)
  ·intro y0 y1 y2 y3 y4 y5 y6 y7 y8 y9 y10 y11 y12
   unfold water_check.l2
   repeat' first
   | (with_reducible exact ih0 _ _ _ _ _ _ _ _ _ _ _ _ _)
   | (with_reducible exact ih1 _ _ _ _ _ _ _ _ _ _ _)
   | (with_reducible exact ih2 _ _ _ _ _ _ _ _ _ _ _ _ _)
   | (with_reducible exact ih3 _ _ _ _ _ _ _ _ _ _)
   | (with_reducible exact ih4 _ _ _ _ _ _ _ _ _ _)
   | (with_reducible exact water_groundOf.mono _ _ _ _)
   | (with_reducible exact water_ground_may.mono _ _ _ _ _ _ _ _)
   | (with_reducible exact LeO.refl _)
   | (with_reducible exact LeO.none _)
   | (with_reducible refine LeO.ite ?_ ?_)
   | (with_reducible refine LeO.bind ?_ (fun _ => ?_))
   | exact ih0 _ _ _ _ _ _ _ _ _ _ _ _ _
   | exact ih1 _ _ _ _ _ _ _ _ _ _ _
   | exact ih2 _ _ _ _ _ _ _ _ _ _ _ _ _
   | exact ih3 _ _ _ _ _ _ _ _ _ _
   | exact ih4 _ _ _ _ _ _ _ _ _ _
   | exact water_groundOf.mono _ _ _ _
   | exact water_ground_may.mono _ _ _ _ _ _ _ _
   | exact LeO.none _
   | refine LeO.ite ?_ ?_
   | refine LeO.bind ?_ (fun _ => ?_)
  ·intro y0 y1 y2 y3 y4 y5 y6 y7 y8 y9
   unfold water_check.l3
   repeat' first
   | (with_reducible exact ih0 _ _ _ _ _ _ _ _ _ _ _ _ _)
   | (with_reducible exact ih1 _ _ _ _ _ _ _ _ _ _ _)
   | (with_reducible exact ih2 _ _ _ _ _ _ _ _ _ _ _ _ _)
   | (with_reducible exact ih3 _ _ _ _ _ _ _ _ _ _)
   | (with_reducible exact ih4 _ _ _ _ _ _ _ _ _ _)
   | (with_reducible exact water_groundOf.mono _ _ _ _)
   | (with_reducible exact water_ground_may.mono _ _ _ _ _ _ _ _)
   | (with_reducible exact LeO.refl _)
   | (with_reducible exact LeO.none _)
   | (with_reducible refine LeO.ite ?_ ?_)
   | (with_reducible refine LeO.bind ?_ (fun _ => ?_))
   | exact ih0 _ _ _ _ _ _ _ _ _ _ _ _ _
   | exact ih1 _ _ _ _ _ _ _ _ _ _ _
   | exact ih2 _ _ _ _ _ _ _ _ _ _ _ _ _
   | exact ih3 _ _ _ _ _ _ _ _ _ _
   | exact ih4 _ _ _ _ _ _ _ _ _ _
   | exact water_groundOf.mono _ _ _ _
   | exact water_ground_may.mono _ _ _ _ _ _ _ _
   | exact LeO.none _
   | refine LeO.ite ?_ ?_
   | refine LeO.bind ?_ (fun _ => ?_)
  ·intro y0 y1 y2 y3 y4 y5 y6 y7 y8 y9
   unfold water_check.l4
   repeat' first
   | (with_reducible exact ih0 _ _ _ _ _ _ _ _ _ _ _ _ _)
   | (with_reducible exact ih1 _ _ _ _ _ _ _ _ _ _ _)
   | (with_reducible exact ih2 _ _ _ _ _ _ _ _ _ _ _ _ _)
   | (with_reducible exact ih3 _ _ _ _ _ _ _ _ _ _)
   | (with_reducible exact ih4 _ _ _ _ _ _ _ _ _ _)
   | (with_reducible exact water_groundOf.mono _ _ _ _)
   | (with_reducible exact water_ground_may.mono _ _ _ _ _ _ _ _)
   | (with_reducible exact LeO.refl _)
   | (with_reducible exact LeO.none _)
   | (with_reducible refine LeO.ite ?_ ?_)
   | (with_reducible refine LeO.bind ?_ (fun _ => ?_))
   | exact ih0 _ _ _ _ _ _ _ _ _ _ _ _ _
   | exact ih1 _ _ _ _ _ _ _ _ _ _ _
   | exact ih2 _ _ _ _ _ _ _ _ _ _ _ _ _
   | exact ih3 _ _ _ _ _ _ _ _ _ _
   | exact ih4 _ _ _ _ _ _ _ _ _ _
   | exact water_groundOf.mono _ _ _ _
   | exact water_ground_may.mono _ _ _ _ _ _ _ _
   | exact LeO.none _
   | refine LeO.ite ?_ ?_
   | refine LeO.bind ?_ (fun _ => ?_)
theorem water_check.mono : ∀ a0 a1 a2 a3 a4 k, LeO (water_check.f k a0 a1 a2 a3 a4) (water_check.f (k + 1) a0 a1 a2 a3 a4) := by
 intro a0 a1 a2 a3 a4 k
 obtain ⟨ih0,ih1,ih2,ih3,ih4⟩:=water_check.mono_l k
 unfold water_check.f
 repeat' first
   | (with_reducible exact ih0 _ _ _ _ _ _ _ _ _ _ _ _ _)
   | (with_reducible exact ih1 _ _ _ _ _ _ _ _ _ _ _)
   | (with_reducible exact ih2 _ _ _ _ _ _ _ _ _ _ _ _ _)
   | (with_reducible exact ih3 _ _ _ _ _ _ _ _ _ _)
   | (with_reducible exact ih4 _ _ _ _ _ _ _ _ _ _)
   | (with_reducible exact water_groundOf.mono _ _ _ _)
   | (with_reducible exact water_ground_may.mono _ _ _ _ _ _ _ _)
   | (with_reducible exact LeO.refl _)
   | (with_reducible exact LeO.none _)
   | (with_reducible refine LeO.ite ?_ ?_)
   | (with_reducible refine LeO.bind ?_ (fun _ => ?_))
   | exact ih0 _ _ _ _ _ _ _ _ _ _ _ _ _
   | exact ih1 _ _ _ _ _ _ _ _ _ _ _
   | exact ih2 _ _ _ _ _ _ _ _ _ _ _ _ _
   | exact ih3 _ _ _ _ _ _ _ _ _ _
   | exact ih4 _ _ _ _ _ _ _ _ _ _
   | exact water_groundOf.mono _ _ _ _
   | exact water_ground_may.mono _ _ _ _ _ _ _ _
   | exact LeO.none _
   | refine LeO.ite ?_ ?_
   | refine LeO.bind ?_ (fun _ => ?_)
set_option maxHeartbeats 8000000 in
set_option maxRecDepth 100000 in
theorem water_check.calls (k : Nat) (a0_0 : Int) (a0_1 : Int) (A0_2 : Option Addr) (c0_2 : Nat) (l0_2 : List Int) (A1_0 : Option Addr) (c1_0 : Nat) (l1_0 : List Int) (A1_1 : Option Addr) (c1_1 : Nat) (l1_1 : List Int) (r1 : Int) (r2 : Int) (r3 : List Int) (r4 : List Int) (r5 : List Bool) (r6 : Int) (w : World) (hr0_2 : Kd.C (Kd.int .i64) w A0_2 l0_2.length l0_2) (hc0_2 : l0_2.length ≤ c0_2) (hr1_0 : Kd.C (Kd.int .i64) w A1_0 l1_0.length l1_0) (hc1_0 : l1_0.length ≤ c1_0) (hr1_1 : Kd.C (Kd.int .i64) w A1_1 l1_1.length l1_1) (hc1_1 : l1_1.length ≤ c1_1) (h : water_check.f k a0_0 a0_1 l0_2 l1_0 l1_1 = some (r1, r2, r3, r4, r5, r6)) :
  Calls Try.prog 79 #[.agg #[.int .i64 a0_0,.int .i64 a0_1,.slice A0_2 l0_2.length c0_2],.agg #[.slice A1_0 l1_0.length c1_0,.slice A1_1 l1_1.length c1_1]] w fun e w' => ∃ v2_ v3_ v4_ : Value,e = .returned (.tuple #[.agg #[.int .i64 r1,.int .i64 r2,v2_,v3_,v4_],.int .i64 r6]) ∧ Kd.R (Kd.int .i64) 3 w' w.heap.size (fun k_ => some k_ ≠ (v3_ : Value).ownBlock) v2_ r3 ∧ Kd.R (Kd.int .i64) 3 w' w.heap.size (fun k_ => some k_ ≠ (v2_ : Value).ownBlock) v3_ r4 ∧ Kd.R Kd.bool 4 w' w.heap.size (fun _ => True) v4_ r5 ∧ Below w.heap.size w w':=by
 have hu53:=Try.underlying53
 have hu55:=Try.underlying55
 have hu104:=Try.underlying104
 have HR0_2:=Aside0.mk hr0_2
 have HC0_2:=Aside0.mk hc0_2
 clear hr0_2 hc0_2
 have HR1_0:=Aside0.mk hr1_0
 have HC1_0:=Aside0.mk hc1_0
 clear hr1_0 hc1_0
 have HR1_1:=Aside0.mk hr1_1
 have HC1_1:=Aside0.mk hc1_1
 clear hr1_1 hc1_1
 have HB:=Aside0.mk (Below.refl w.heap.size w)
 have H : ((water_groundOf.f k a0_0 a0_1 l0_2).bind fun bt210 => (if bt210.2.2.2.2.2 = 0 then (if (l1_0.length : Int) = (wrap64 (a0_0 * a0_1)) then (water_check.l0 k l1_0 (l1_0.length : Int) 0 a0_0 a0_1 l0_2 l1_0 l1_1 bt210.1 bt210.2.1 bt210.2.2.1 bt210.2.2.2.1 bt210.2.2.2.2.1) else (some (bt210.1,bt210.2.1,bt210.2.2.1,bt210.2.2.2.1,bt210.2.2.2.2.1,1))) else (some (bt210.1,bt210.2.1,bt210.2.2.1,bt210.2.2.2.1,bt210.2.2.2.2.1,bt210.2.2.2.2.2)))) = some (r1,r2,r3,r4,r5,r6):=h
 clear h
 replace H:=Option.bind_eq_some_iff.mp H
 obtain ⟨⟨t210,t211,t212,t215,t218,t221⟩,A30,H⟩:=H
 replace H : (if t221 = 0 then (if (l1_0.length : Int) = (wrap64 (a0_0 * a0_1)) then (water_check.l0 k l1_0 (l1_0.length : Int) 0 a0_0 a0_1 l0_2 l1_0 l1_1 t210 t211 t212 t215 t218) else (some (t210,t211,t212,t215,t218,1))) else (some (t210,t211,t212,t215,t218,t221))) = some (r1,r2,r3,r4,r5,r6):=H
 have A3:=Aside0.mk A30
 clear A30
 by_cases c4 : t221 = 0
 rotate_left
 ·rw [if_neg c4] at H
  have c4b0:=bqf c4
  have c4b1:=bnt c4
  simp only [Option.some.injEq,Prod.mk.injEq] at H
  obtain ⟨rfl,rfl,rfl,rfl,rfl,rfl⟩:=H
  go_enter Try.func79,Try.ntmps79
  go_wp2_with (first|((with_reducible refine gate_dst (N:=2) rfl ?_);refine box_ev (N:=2) (cs:=#[.int .i64 a0_0,.int .i64 a0_1,.slice A0_2 l0_2.length c0_2]) (t:=53) ?_;intro gb207 hg w168 hbox hb;have BK207:=Aside0.mk (hbox);have GW207 : Aside0 (w.heap.size ≤ gb207):=gsz hg;have GE207:=GW207;replace HB:=hbs hb;clear hb hbox hg)|((with_reducible refine gate_dst (N:=3) rfl ?_);refine box_ev (N:=3) (cs:=#[.slice A1_0 l1_0.length c1_0,.slice A1_1 l1_1.length c1_1]) (t:=55) ?_;intro gb208 hg w169 hbox hb;have BK208:=Aside0.mk (hbox);have GW208 : Aside0 (w.heap.size ≤ gb208):=gsz hg;have GE208:=GW208;have NB207_208:=nbl BK207 hg;have NB208_207:=nbr BK207 hg;replace BK207:=bkb BK207 hb;replace HB:=hbs hb;clear hb hbox hg)|((with_reducible refine gate_dst (N:=4) rfl ?_);refine box_ev (N:=4) (cs:=#[.int .i64 0,.int .i64 0,.slice none 0 0,.slice none 0 0,.slice none 0 0]) (t:=104) ?_;intro gb209 hg w170 hbox hb;have BK209:=Aside0.mk (hbox);have GW209 : Aside0 (w.heap.size ≤ gb209):=gsz hg;have GE209:=GW209;have NB207_209:=nbl BK207 hg;have NB209_207:=nbr BK207 hg;have NB208_209:=nbl BK208 hg;have NB209_208:=nbr BK208 hg;replace BK207:=bkb BK207 hb;replace BK208:=bkb BK208 hb;replace HB:=hbs hb;clear hb hbox hg;have hnb171:=NB207_208.out;have hnc171:=NB208_207.out;have hnb172:=NB207_209.out;have hnc172:=NB209_207.out;obtain ⟨_,_,_,_,_,_⟩:=cells3 BK207.out)|(go_at_call 94;(with_reducible refine (water_groundOf.calls k a0_0 a0_1 _ _ l0_2 t210 t211 t212 t215 t218 t221 _ ?_ ?_ A3.out).mono ?_);exact cq HR0_2;exact HC0_2.out;rintro e w174 ⟨v213,v216,v219,rfl,ho0,ho1,ho2,hb⟩;have HO214:=rlo ho0;have HO217:=rlo ho1;have HO220:=rlo ho2;replace BK207:=bkb BK207 hb;replace BK208:=bkb BK208 hb;replace BK209:=bkb BK209 hb;replace HB:=hbs hb)|((with_reducible refine gate_dst (N:=6) rfl ?_);refine box_ev (N:=6) (cs:=#[.int .i64 0,.int .i64 0,.slice none 0 0,.slice none 0 0,.slice none 0 0]) (t:=104) ?_;intro gb222 hg w175 hbox hb;have BK222:=Aside0.mk (hbox);have GW222 : Aside0 (w.heap.size ≤ gb222):=gsz hg;have GE222:=GW222;have NB207_222:=nbl BK207 hg;have NB222_207:=nbr BK207 hg;have NB208_222:=nbl BK208 hg;have NB222_208:=nbr BK208 hg;have NB209_222:=nbl BK209 hg;have NB222_209:=nbr BK209 hg;replace HO214:=rbw HO214 hb;replace HO217:=rbw HO217 hb;replace HO220:=rbw HO220 hb;replace BK207:=bkb BK207 hb;replace BK208:=bkb BK208 hb;replace BK209:=bkb BK209 hb;replace HB:=hbs hb;clear hb hbox hg;have hnb176:=NB222_207.out;have hnc176:=NB207_222.out;have hnb177:=NB222_208.out;have hnc177:=NB208_222.out;have hnb178:=NB222_209.out;have hnc178:=NB209_222.out;obtain ⟨_,_,_,_,_,_,_,_,_,_⟩:=cells5 BK222.out;obtain ⟨Ao180,co180,eo180⟩:=Kd.R_slice HO214.out;subst eo180;obtain ⟨Ao181,co181,eo181⟩:=Kd.R_slice HO217.out;subst eo181;obtain ⟨Ao182,co182,eo182⟩:=Kd.R_slice HO220.out;subst eo182;have hnb183:=NB209_208.out;have hnc183:=NB208_209.out;obtain ⟨_,_,_,_,_,_,_,_,_,_⟩:=cells5 BK209.out))
  refine bodyPost_ret (results_ct rfl _ _ gb209 104 #[.int .i64 t210,.int .i64 t211,.slice Ao180 t212.length co180,.slice Ao181 t215.length co181,.slice Ao182 t218.length co182] (0,0) _ rfl (by (with_reducible repeat (first|refine blk_drewN ?_ _|refine blk_drew ?_|refine blk_alloc ?_ _));refine blk_put (cs:=#[.int .i64 t210,.int .i64 t211,.slice Ao180 t212.length co180,.slice Ao181 t215.length co181,.slice none 0 0]) ?_ 4 _ rfl;(with_reducible repeat (first|refine blk_drewN ?_ _|refine blk_drew ?_|refine blk_alloc ?_ _));refine blk_put (cs:=#[.int .i64 t210,.int .i64 t211,.slice Ao180 t212.length co180,.slice none 0 0,.slice none 0 0]) ?_ 3 _ rfl;(with_reducible repeat (first|refine blk_drewN ?_ _|refine blk_drew ?_|refine blk_alloc ?_ _));refine blk_put (cs:=#[.int .i64 t210,.int .i64 t211,.slice none 0 0,.slice none 0 0,.slice none 0 0]) ?_ 2 _ rfl;(with_reducible repeat (first|refine blk_drewN ?_ _|refine blk_drew ?_|refine blk_alloc ?_ _));refine blk_put (cs:=#[.int .i64 t210,.int .i64 0,.slice none 0 0,.slice none 0 0,.slice none 0 0]) ?_ 1 _ rfl;(with_reducible repeat (first|refine blk_drewN ?_ _|refine blk_drew ?_|refine blk_alloc ?_ _));refine blk_put (cs:=#[.int .i64 0,.int .i64 0,.slice none 0 0,.slice none 0 0,.slice none 0 0]) ?_ 0 _ rfl;(with_reducible repeat (first|refine blk_drewN ?_ _|refine blk_drew ?_|refine blk_alloc ?_ _));refine blk_far ?_ NB209_222.out _;(with_reducible repeat (first|refine blk_drewN ?_ _|refine blk_drew ?_|refine blk_alloc ?_ _));refine blk_far ?_ NB209_222.out _;(with_reducible repeat (first|refine blk_drewN ?_ _|refine blk_drew ?_|refine blk_alloc ?_ _));refine blk_far ?_ NB209_222.out _;(with_reducible repeat (first|refine blk_drewN ?_ _|refine blk_drew ?_|refine blk_alloc ?_ _));refine blk_far ?_ NB209_222.out _;(with_reducible repeat (first|refine blk_drewN ?_ _|refine blk_drew ?_|refine blk_alloc ?_ _));refine blk_far ?_ NB209_222.out _;(with_reducible repeat (first|refine blk_drewN ?_ _|refine blk_drew ?_|refine blk_alloc ?_ _));exact BK209.out) Try.underlying104 rfl (by kernel_rfl)) rfl ?_
  exact ⟨_,_,_,er_,by (with_reducible repeat (first|apply Kd.R_alloc|apply Kd.R_drewN|apply Kd.R_drew));exact Kd.R_mono (Kd.R_fars gb209 (Kd.R_far (p:=⟨gb222,4,none⟩) (Kd.R_far (p:=⟨gb222,3,none⟩) (Kd.R_far (p:=⟨gb222,2,none⟩) (Kd.R_far (p:=⟨gb222,1,none⟩) (Kd.R_far (p:=⟨gb222,0,none⟩) (Kd.R_types (Kd.R_types HO214.out BK222.out (by decide)) BK209.out (by decide)) (fun _ hk => hk.1.2) (.int .i64 t210)) (fun _ hk => hk.1.2) (.int .i64 t211)) (fun _ hk => hk.1.2) (.slice Ao180 t212.length co180)) (fun _ hk => hk.1.2) (.slice Ao181 t215.length co181)) (fun _ hk => hk.1.2) (.slice Ao182 t218.length co182)) (fun _ hk => hk.2)) (fun _ hk => hk.1.1),by (with_reducible repeat (first|apply Kd.R_alloc|apply Kd.R_drewN|apply Kd.R_drew));exact Kd.R_mono (Kd.R_fars gb209 (Kd.R_far (p:=⟨gb222,4,none⟩) (Kd.R_far (p:=⟨gb222,3,none⟩) (Kd.R_far (p:=⟨gb222,2,none⟩) (Kd.R_far (p:=⟨gb222,1,none⟩) (Kd.R_far (p:=⟨gb222,0,none⟩) (Kd.R_types (Kd.R_types HO217.out BK222.out (by decide)) BK209.out (by decide)) (fun _ hk => hk.1.2) (.int .i64 t210)) (fun _ hk => hk.1.2) (.int .i64 t211)) (fun _ hk => hk.1.2) (.slice Ao180 t212.length co180)) (fun _ hk => hk.1.2) (.slice Ao181 t215.length co181)) (fun _ hk => hk.1.2) (.slice Ao182 t218.length co182)) (fun _ hk => hk.2)) (fun _ hk => hk.1.1),by (with_reducible repeat (first|apply Kd.R_alloc|apply Kd.R_drewN|apply Kd.R_drew));exact Kd.R_mono (Kd.R_fars gb209 (Kd.R_far (p:=⟨gb222,4,none⟩) (Kd.R_far (p:=⟨gb222,3,none⟩) (Kd.R_far (p:=⟨gb222,2,none⟩) (Kd.R_far (p:=⟨gb222,1,none⟩) (Kd.R_far (p:=⟨gb222,0,none⟩) (Kd.R_types (Kd.R_types HO220.out BK222.out (by decide)) BK209.out (by decide)) (fun _ hk => hk.1.2) (.int .i64 t210)) (fun _ hk => hk.1.2) (.int .i64 t211)) (fun _ hk => hk.1.2) (.slice Ao180 t212.length co180)) (fun _ hk => hk.1.2) (.slice Ao181 t215.length co181)) (fun _ hk => hk.1.2) (.slice Ao182 t218.length co182)) (fun _ hk => hk.2)) (fun _ hk => trivial),hb_⟩
 rw [if_pos c4] at H
 have c4b0:=bqt c4
 have c4b1:=bnf c4
 clear c4
 by_cases c5 : (l1_0.length : Int) = (wrap64 (a0_0 * a0_1))
 rotate_left
 ·rw [if_neg c5] at H
  have c5b0:=bqf c5
  have c5b1:=bnt c5
  simp only [Option.some.injEq,Prod.mk.injEq] at H
  obtain ⟨rfl,rfl,rfl,rfl,rfl,rfl⟩:=H
  go_enter Try.func79,Try.ntmps79
  go_wp2_with (first|((with_reducible refine gate_dst (N:=2) rfl ?_);refine box_ev (N:=2) (cs:=#[.int .i64 a0_0,.int .i64 a0_1,.slice A0_2 l0_2.length c0_2]) (t:=53) ?_;intro gb207 hg w149 hbox hb;have BK207:=Aside0.mk (hbox);have GW207 : Aside0 (w.heap.size ≤ gb207):=gsz hg;have GE207:=GW207;replace HB:=hbs hb;clear hb hbox hg)|((with_reducible refine gate_dst (N:=3) rfl ?_);refine box_ev (N:=3) (cs:=#[.slice A1_0 l1_0.length c1_0,.slice A1_1 l1_1.length c1_1]) (t:=55) ?_;intro gb208 hg w150 hbox hb;have BK208:=Aside0.mk (hbox);have GW208 : Aside0 (w.heap.size ≤ gb208):=gsz hg;have GE208:=GW208;have NB207_208:=nbl BK207 hg;have NB208_207:=nbr BK207 hg;replace BK207:=bkb BK207 hb;replace HB:=hbs hb;clear hb hbox hg)|((with_reducible refine gate_dst (N:=4) rfl ?_);refine box_ev (N:=4) (cs:=#[.int .i64 0,.int .i64 0,.slice none 0 0,.slice none 0 0,.slice none 0 0]) (t:=104) ?_;intro gb209 hg w151 hbox hb;have BK209:=Aside0.mk (hbox);have GW209 : Aside0 (w.heap.size ≤ gb209):=gsz hg;have GE209:=GW209;have NB207_209:=nbl BK207 hg;have NB209_207:=nbr BK207 hg;have NB208_209:=nbl BK208 hg;have NB209_208:=nbr BK208 hg;replace BK207:=bkb BK207 hb;replace BK208:=bkb BK208 hb;replace HB:=hbs hb;clear hb hbox hg;have hnb152:=NB207_208.out;have hnc152:=NB208_207.out;have hnb153:=NB207_209.out;have hnc153:=NB209_207.out;obtain ⟨_,_,_,_,_,_⟩:=cells3 BK207.out)|(go_at_call 94;(with_reducible refine (water_groundOf.calls k a0_0 a0_1 _ _ l0_2 t210 t211 t212 t215 t218 t221 _ ?_ ?_ A3.out).mono ?_);exact cq HR0_2;exact HC0_2.out;rintro e w155 ⟨v213,v216,v219,rfl,ho0,ho1,ho2,hb⟩;have HO214:=rlo ho0;have HO217:=rlo ho1;have HO220:=rlo ho2;replace BK207:=bkb BK207 hb;replace BK208:=bkb BK208 hb;replace BK209:=bkb BK209 hb;replace HB:=hbs hb)|((with_reducible refine gate_dst (N:=6) rfl ?_);refine box_ev (N:=6) (cs:=#[.int .i64 0,.int .i64 0,.slice none 0 0,.slice none 0 0,.slice none 0 0]) (t:=104) ?_;intro gb222 hg w156 hbox hb;have BK222:=Aside0.mk (hbox);have GW222 : Aside0 (w.heap.size ≤ gb222):=gsz hg;have GE222:=GW222;have NB207_222:=nbl BK207 hg;have NB222_207:=nbr BK207 hg;have NB208_222:=nbl BK208 hg;have NB222_208:=nbr BK208 hg;have NB209_222:=nbl BK209 hg;have NB222_209:=nbr BK209 hg;replace HO214:=rbw HO214 hb;replace HO217:=rbw HO217 hb;replace HO220:=rbw HO220 hb;replace BK207:=bkb BK207 hb;replace BK208:=bkb BK208 hb;replace BK209:=bkb BK209 hb;replace HB:=hbs hb;clear hb hbox hg;have hnb157:=NB222_207.out;have hnc157:=NB207_222.out;have hnb158:=NB222_208.out;have hnc158:=NB208_222.out;have hnb159:=NB222_209.out;have hnc159:=NB209_222.out;obtain ⟨_,_,_,_,_,_,_,_,_,_⟩:=cells5 BK222.out;obtain ⟨Ao161,co161,eo161⟩:=Kd.R_slice HO214.out;subst eo161;obtain ⟨Ao162,co162,eo162⟩:=Kd.R_slice HO217.out;subst eo162;obtain ⟨Ao163,co163,eo163⟩:=Kd.R_slice HO220.out;subst eo163;have hnb164:=NB208_209.out;have hnc164:=NB209_208.out;obtain ⟨_,_,_,_⟩:=cells2 BK208.out;obtain ⟨_,_,_,_,_,_⟩:=cells3 BK207.out;obtain ⟨_,_,_,_,_,_,_,_,_,_⟩:=cells5 BK209.out))
  refine bodyPost_ret (results_ct rfl _ _ gb209 104 #[.int .i64 t210,.int .i64 t211,.slice Ao161 t212.length co161,.slice Ao162 t215.length co162,.slice Ao163 t218.length co163] (0,0) _ rfl (by (with_reducible repeat (first|refine blk_drewN ?_ _|refine blk_drew ?_|refine blk_alloc ?_ _));refine blk_put (cs:=#[.int .i64 t210,.int .i64 t211,.slice Ao161 t212.length co161,.slice Ao162 t215.length co162,.slice none 0 0]) ?_ 4 _ rfl;(with_reducible repeat (first|refine blk_drewN ?_ _|refine blk_drew ?_|refine blk_alloc ?_ _));refine blk_put (cs:=#[.int .i64 t210,.int .i64 t211,.slice Ao161 t212.length co161,.slice none 0 0,.slice none 0 0]) ?_ 3 _ rfl;(with_reducible repeat (first|refine blk_drewN ?_ _|refine blk_drew ?_|refine blk_alloc ?_ _));refine blk_put (cs:=#[.int .i64 t210,.int .i64 t211,.slice none 0 0,.slice none 0 0,.slice none 0 0]) ?_ 2 _ rfl;(with_reducible repeat (first|refine blk_drewN ?_ _|refine blk_drew ?_|refine blk_alloc ?_ _));refine blk_put (cs:=#[.int .i64 t210,.int .i64 0,.slice none 0 0,.slice none 0 0,.slice none 0 0]) ?_ 1 _ rfl;(with_reducible repeat (first|refine blk_drewN ?_ _|refine blk_drew ?_|refine blk_alloc ?_ _));refine blk_put (cs:=#[.int .i64 0,.int .i64 0,.slice none 0 0,.slice none 0 0,.slice none 0 0]) ?_ 0 _ rfl;(with_reducible repeat (first|refine blk_drewN ?_ _|refine blk_drew ?_|refine blk_alloc ?_ _));refine blk_far ?_ NB209_222.out _;(with_reducible repeat (first|refine blk_drewN ?_ _|refine blk_drew ?_|refine blk_alloc ?_ _));refine blk_far ?_ NB209_222.out _;(with_reducible repeat (first|refine blk_drewN ?_ _|refine blk_drew ?_|refine blk_alloc ?_ _));refine blk_far ?_ NB209_222.out _;(with_reducible repeat (first|refine blk_drewN ?_ _|refine blk_drew ?_|refine blk_alloc ?_ _));refine blk_far ?_ NB209_222.out _;(with_reducible repeat (first|refine blk_drewN ?_ _|refine blk_drew ?_|refine blk_alloc ?_ _));refine blk_far ?_ NB209_222.out _;(with_reducible repeat (first|refine blk_drewN ?_ _|refine blk_drew ?_|refine blk_alloc ?_ _));exact BK209.out) Try.underlying104 rfl (by kernel_rfl)) rfl ?_
  exact ⟨_,_,_,er_,by (with_reducible repeat (first|apply Kd.R_alloc|apply Kd.R_drewN|apply Kd.R_drew));exact Kd.R_mono (Kd.R_fars gb209 (Kd.R_far (p:=⟨gb222,4,none⟩) (Kd.R_far (p:=⟨gb222,3,none⟩) (Kd.R_far (p:=⟨gb222,2,none⟩) (Kd.R_far (p:=⟨gb222,1,none⟩) (Kd.R_far (p:=⟨gb222,0,none⟩) (Kd.R_types (Kd.R_types HO214.out BK222.out (by decide)) BK209.out (by decide)) (fun _ hk => hk.1.2) (.int .i64 t210)) (fun _ hk => hk.1.2) (.int .i64 t211)) (fun _ hk => hk.1.2) (.slice Ao161 t212.length co161)) (fun _ hk => hk.1.2) (.slice Ao162 t215.length co162)) (fun _ hk => hk.1.2) (.slice Ao163 t218.length co163)) (fun _ hk => hk.2)) (fun _ hk => hk.1.1),by (with_reducible repeat (first|apply Kd.R_alloc|apply Kd.R_drewN|apply Kd.R_drew));exact Kd.R_mono (Kd.R_fars gb209 (Kd.R_far (p:=⟨gb222,4,none⟩) (Kd.R_far (p:=⟨gb222,3,none⟩) (Kd.R_far (p:=⟨gb222,2,none⟩) (Kd.R_far (p:=⟨gb222,1,none⟩) (Kd.R_far (p:=⟨gb222,0,none⟩) (Kd.R_types (Kd.R_types HO217.out BK222.out (by decide)) BK209.out (by decide)) (fun _ hk => hk.1.2) (.int .i64 t210)) (fun _ hk => hk.1.2) (.int .i64 t211)) (fun _ hk => hk.1.2) (.slice Ao161 t212.length co161)) (fun _ hk => hk.1.2) (.slice Ao162 t215.length co162)) (fun _ hk => hk.1.2) (.slice Ao163 t218.length co163)) (fun _ hk => hk.2)) (fun _ hk => hk.1.1),by (with_reducible repeat (first|apply Kd.R_alloc|apply Kd.R_drewN|apply Kd.R_drew));exact Kd.R_mono (Kd.R_fars gb209 (Kd.R_far (p:=⟨gb222,4,none⟩) (Kd.R_far (p:=⟨gb222,3,none⟩) (Kd.R_far (p:=⟨gb222,2,none⟩) (Kd.R_far (p:=⟨gb222,1,none⟩) (Kd.R_far (p:=⟨gb222,0,none⟩) (Kd.R_types (Kd.R_types HO220.out BK222.out (by decide)) BK209.out (by decide)) (fun _ hk => hk.1.2) (.int .i64 t210)) (fun _ hk => hk.1.2) (.int .i64 t211)) (fun _ hk => hk.1.2) (.slice Ao161 t212.length co161)) (fun _ hk => hk.1.2) (.slice Ao162 t215.length co162)) (fun _ hk => hk.1.2) (.slice Ao163 t218.length co163)) (fun _ hk => hk.2)) (fun _ hk => trivial),hb_⟩
 rw [if_pos c5] at H
 have c5b0:=bqt c5
 have c5b1:=bnf c5
 clear c5
 have H':=Aside0.mk H
 clear H
 go_enter Try.func79,Try.ntmps79
 go_wp2_with (first|((with_reducible refine gate_dst (N:=2) rfl ?_);refine box_ev (N:=2) (cs:=#[.int .i64 a0_0,.int .i64 a0_1,.slice A0_2 l0_2.length c0_2]) (t:=53) ?_;intro gb207 hg w6 hbox hb;have BK207:=Aside0.mk (hbox);have GW207 : Aside0 (w.heap.size ≤ gb207):=gsz hg;have GE207:=GW207;replace HB:=hbs hb;clear hb hbox hg)|((with_reducible refine gate_dst (N:=3) rfl ?_);refine box_ev (N:=3) (cs:=#[.slice A1_0 l1_0.length c1_0,.slice A1_1 l1_1.length c1_1]) (t:=55) ?_;intro gb208 hg w7 hbox hb;have BK208:=Aside0.mk (hbox);have GW208 : Aside0 (w.heap.size ≤ gb208):=gsz hg;have GE208:=GW208;have NB207_208:=nbl BK207 hg;have NB208_207:=nbr BK207 hg;replace BK207:=bkb BK207 hb;replace HB:=hbs hb;clear hb hbox hg)|((with_reducible refine gate_dst (N:=4) rfl ?_);refine box_ev (N:=4) (cs:=#[.int .i64 0,.int .i64 0,.slice none 0 0,.slice none 0 0,.slice none 0 0]) (t:=104) ?_;intro gb209 hg w8 hbox hb;have BK209:=Aside0.mk (hbox);have GW209 : Aside0 (w.heap.size ≤ gb209):=gsz hg;have GE209:=GW209;have NB207_209:=nbl BK207 hg;have NB209_207:=nbr BK207 hg;have NB208_209:=nbl BK208 hg;have NB209_208:=nbr BK208 hg;replace BK207:=bkb BK207 hb;replace BK208:=bkb BK208 hb;replace HB:=hbs hb;clear hb hbox hg;have hnb9:=NB207_208.out;have hnc9:=NB208_207.out;have hnb10:=NB207_209.out;have hnc10:=NB209_207.out;obtain ⟨_,_,_,_,_,_⟩:=cells3 BK207.out)|(go_at_call 94;(with_reducible refine (water_groundOf.calls k a0_0 a0_1 _ _ l0_2 t210 t211 t212 t215 t218 t221 _ ?_ ?_ A3.out).mono ?_);exact cq HR0_2;exact HC0_2.out;rintro e w12 ⟨v213,v216,v219,rfl,ho0,ho1,ho2,hb⟩;have HO214:=rlo ho0;have HO217:=rlo ho1;have HO220:=rlo ho2;replace BK207:=bkb BK207 hb;replace BK208:=bkb BK208 hb;replace BK209:=bkb BK209 hb;replace HB:=hbs hb)|((with_reducible refine gate_dst (N:=6) rfl ?_);refine box_ev (N:=6) (cs:=#[.int .i64 0,.int .i64 0,.slice none 0 0,.slice none 0 0,.slice none 0 0]) (t:=104) ?_;intro gb222 hg w13 hbox hb;have BK222:=Aside0.mk (hbox);have GW222 : Aside0 (w.heap.size ≤ gb222):=gsz hg;have GE222:=GW222;have NB207_222:=nbl BK207 hg;have NB222_207:=nbr BK207 hg;have NB208_222:=nbl BK208 hg;have NB222_208:=nbr BK208 hg;have NB209_222:=nbl BK209 hg;have NB222_209:=nbr BK209 hg;replace HO214:=rbw HO214 hb;replace HO217:=rbw HO217 hb;replace HO220:=rbw HO220 hb;replace BK207:=bkb BK207 hb;replace BK208:=bkb BK208 hb;replace BK209:=bkb BK209 hb;replace HB:=hbs hb;clear hb hbox hg;have hnb14:=NB222_207.out;have hnc14:=NB207_222.out;have hnb15:=NB222_208.out;have hnc15:=NB208_222.out;have hnb16:=NB222_209.out;have hnc16:=NB209_222.out;obtain ⟨_,_,_,_,_,_,_,_,_,_⟩:=cells5 BK222.out;obtain ⟨Ao18,co18,eo18⟩:=Kd.R_slice HO214.out;subst eo18;obtain ⟨Ao19,co19,eo19⟩:=Kd.R_slice HO217.out;subst eo19;obtain ⟨Ao20,co20,eo20⟩:=Kd.R_slice HO220.out;subst eo20;have hnb21:=NB208_209.out;have hnc21:=NB209_208.out;obtain ⟨_,_,_,_⟩:=cells2 BK208.out;obtain ⟨_,_,_,_,_,_⟩:=cells3 BK207.out))
 go_loopg [39] k (fun kq v39 w' => ∃ (x39_1 : Int) (x210000_1 : Int) (x210001_1 : Int),v39 = .int .i64 x39_1 ∧ Aside0 (water_check.l0 kq l1_0 (l1_0.length : Int) x39_1 a0_0 a0_1 l0_2 l1_0 l1_1 t210 t211 t212 t215 t218 = some (r1,r2,r3,r4,r5,r6)) ∧ Aside0 (kq ≤ k) ∧ Aside0 (Kd.R (Kd.int .i64) 3 w' w.heap.size (fun k_ => some k_ ≠ ((.slice Ao19 t215.length co19) : Value).ownBlock) (.slice Ao18 t212.length co18) t212) ∧ Aside0 (Kd.R (Kd.int .i64) 3 w' w.heap.size (fun k_ => some k_ ≠ ((.slice Ao18 t212.length co18) : Value).ownBlock) (.slice Ao19 t215.length co19) t215) ∧ Aside0 (Kd.R Kd.bool 4 w' w.heap.size (fun _ => True) (.slice Ao20 t218.length co20) t218) ∧ Aside0 (w'.heap[gb207]? = some (.cells #[.int .i64 a0_0,.int .i64 a0_1,(.slice A0_2 l0_2.length c0_2)] 53 (0,0))) ∧ Aside0 (w'.heap[gb208]? = some (.cells #[(.slice A1_0 l1_0.length c1_0),(.slice A1_1 l1_1.length c1_1)] 55 (0,0))) ∧ Aside0 (w'.heap[gb209]? = some (.cells #[.int .i64 x210000_1,.int .i64 x210001_1,(.slice none 0 0),(.slice none 0 0),(.slice none 0 0)] 104 (0,0))) ∧ Aside0 (w'.heap[gb222]? = some (.cells #[.int .i64 t210,.int .i64 t211,(.slice Ao18 t212.length co18),(.slice Ao19 t215.length co19),(.slice Ao20 t218.length co20)] 104 (0,0))) ∧ Aside0 (Below w.heap.size w w'))
 case atStart => exact ⟨(0),(0),(0),(by first|rfl|(simp;done)|(simp [*];done)),H',⟨Nat.le_refl _⟩,⟨by (with_reducible repeat (first|apply Kd.R_alloc|apply Kd.R_drewN|apply Kd.R_drew));exact Kd.R_mono (Kd.R_fars gb222 (Kd.R_types HO214.out BK222.out (by decide)) (fun _ hk => hk.2)) (fun _ hk => hk.1)⟩,⟨by (with_reducible repeat (first|apply Kd.R_alloc|apply Kd.R_drewN|apply Kd.R_drew));exact Kd.R_mono (Kd.R_fars gb222 (Kd.R_types HO217.out BK222.out (by decide)) (fun _ hk => hk.2)) (fun _ hk => hk.1)⟩,⟨by (with_reducible repeat (first|apply Kd.R_alloc|apply Kd.R_drewN|apply Kd.R_drew));exact Kd.R_mono (Kd.R_fars gb222 (Kd.R_types HO220.out BK222.out (by decide)) (fun _ hk => hk.2)) (fun _ hk => trivial)⟩,⟨by (with_reducible repeat (first|refine blk_drewN ?_ _|refine blk_drew ?_|refine blk_alloc ?_ _));refine blk_far ?_ NB207_222.out _;(with_reducible repeat (first|refine blk_drewN ?_ _|refine blk_drew ?_|refine blk_alloc ?_ _));refine blk_far ?_ NB207_222.out _;(with_reducible repeat (first|refine blk_drewN ?_ _|refine blk_drew ?_|refine blk_alloc ?_ _));refine blk_far ?_ NB207_222.out _;(with_reducible repeat (first|refine blk_drewN ?_ _|refine blk_drew ?_|refine blk_alloc ?_ _));refine blk_far ?_ NB207_222.out _;(with_reducible repeat (first|refine blk_drewN ?_ _|refine blk_drew ?_|refine blk_alloc ?_ _));refine blk_far ?_ NB207_222.out _;(with_reducible repeat (first|refine blk_drewN ?_ _|refine blk_drew ?_|refine blk_alloc ?_ _));exact BK207.out⟩,⟨by (with_reducible repeat (first|refine blk_drewN ?_ _|refine blk_drew ?_|refine blk_alloc ?_ _));refine blk_far ?_ NB208_222.out _;(with_reducible repeat (first|refine blk_drewN ?_ _|refine blk_drew ?_|refine blk_alloc ?_ _));refine blk_far ?_ NB208_222.out _;(with_reducible repeat (first|refine blk_drewN ?_ _|refine blk_drew ?_|refine blk_alloc ?_ _));refine blk_far ?_ NB208_222.out _;(with_reducible repeat (first|refine blk_drewN ?_ _|refine blk_drew ?_|refine blk_alloc ?_ _));refine blk_far ?_ NB208_222.out _;(with_reducible repeat (first|refine blk_drewN ?_ _|refine blk_drew ?_|refine blk_alloc ?_ _));refine blk_far ?_ NB208_222.out _;(with_reducible repeat (first|refine blk_drewN ?_ _|refine blk_drew ?_|refine blk_alloc ?_ _));exact BK208.out⟩,⟨by (with_reducible repeat (first|refine blk_drewN ?_ _|refine blk_drew ?_|refine blk_alloc ?_ _));refine blk_far ?_ NB209_222.out _;(with_reducible repeat (first|refine blk_drewN ?_ _|refine blk_drew ?_|refine blk_alloc ?_ _));refine blk_far ?_ NB209_222.out _;(with_reducible repeat (first|refine blk_drewN ?_ _|refine blk_drew ?_|refine blk_alloc ?_ _));refine blk_far ?_ NB209_222.out _;(with_reducible repeat (first|refine blk_drewN ?_ _|refine blk_drew ?_|refine blk_alloc ?_ _));refine blk_far ?_ NB209_222.out _;(with_reducible repeat (first|refine blk_drewN ?_ _|refine blk_drew ?_|refine blk_alloc ?_ _));refine blk_far ?_ NB209_222.out _;(with_reducible repeat (first|refine blk_drewN ?_ _|refine blk_drew ?_|refine blk_alloc ?_ _));exact BK209.out⟩,⟨by (with_reducible repeat (first|refine blk_drewN ?_ _|refine blk_drew ?_|refine blk_alloc ?_ _));exact blk_puts5 (blk_up BK222.out)⟩,⟨hb_⟩⟩
 case round =>
  clear H'
  obtain ⟨x39_1,x210000_1,x210001_1,rfl,HA,HK1,HO_223002,HO_223003,HO_223004,BK207,BK208,BK209,BK222,HB⟩:=hrel
  cases gk with
  | zero => exact absurd HA.out (by simp [water_check.l0])
  | succ k1 =>
   have H:=HA.out
   clear HA
   simp only [water_check.l0] at H
   by_cases c24 : x39_1 < (l1_0.length : Int)
   ·rw [if_pos c24] at H
    have c24b0 : decide (x39_1 < (l1_0.length : Int)) = true:=decide_eq_true c24
    clear c24
    replace H:=ifp_ H;obtain ⟨c25,H⟩:=H
    have c25b0 : decide (0 ≤ x39_1) = true:=decide_eq_true c25
    clear c25
    replace H:=ifp_ H;obtain ⟨c26,H⟩:=H
    have c26b0 : decide (x39_1 < (l1_0.length : Int)) = true:=decide_eq_true c26
    clear c26
    by_cases c27 : (rd l1_0 x39_1) < 0
    ·rw [if_pos c27] at H
     have c27b0 : decide ((rd l1_0 x39_1) < 0) = true:=decide_eq_true c27
     clear c27
     simp only [Option.some.injEq,Prod.mk.injEq] at H
     obtain ⟨rfl,rfl,rfl,rfl,rfl,rfl⟩:=H
     have p223 : 0 ≤ (x39_1 : Int):=of_decide_eq_true (by first|(with_reducible assumption)|assumption)
     have q223 : x39_1 < (l1_0.length : Int):=of_decide_eq_true (by first|(with_reducible assumption)|assumption)
     obtain ⟨ad223,e223,hx223_0⟩:=Kd.at_int HR1_0.out x39_1 p223 q223
     cases e223
     replace hx223_0:=(HB.out.cell (World.block_lt_of_cell? w _ hx223_0)).trans hx223_0
     replace p223:=eq_true p223
     replace q223:=eq_true q223
     have hnb28:=NB222_207.out
     have hnc28:=NB207_222.out
     have hnb29:=NB222_208.out
     have hnc29:=NB208_222.out
     have hnb30:=NB222_209.out
     have hnc30:=NB209_222.out
     obtain ⟨_,_,_,_,_,_,_,_,_,_⟩:=cells5 BK222.out
     have hnb32:=NB209_207.out
     have hnc32:=NB207_209.out
     have hnb33:=NB209_208.out
     have hnc33:=NB208_209.out
     obtain ⟨_,_,_,_,_,_,_,_,_,_⟩:=cells5 BK209.out
     go_wp2
     refine bodyPost_ret (results_ct rfl _ _ gb209 104 #[.int .i64 t210,.int .i64 t211,.slice Ao18 t212.length co18,.slice Ao19 t215.length co19,.slice Ao20 t218.length co20] (0,0) _ rfl (by (with_reducible repeat (first|refine blk_drewN ?_ _|refine blk_drew ?_|refine blk_alloc ?_ _));exact blk_puts5 (blk_up BK209.out)) Try.underlying104 rfl (by kernel_rfl)) rfl ?_
     exact ⟨_,_,_,er_,by (with_reducible repeat (first|apply Kd.R_alloc|apply Kd.R_drewN|apply Kd.R_drew));exact Kd.R_mono (Kd.R_fars gb209 (Kd.R_types HO_223002.out BK209.out (by decide)) (fun _ hk => hk.2)) (fun _ hk => hk.1),by (with_reducible repeat (first|apply Kd.R_alloc|apply Kd.R_drewN|apply Kd.R_drew));exact Kd.R_mono (Kd.R_fars gb209 (Kd.R_types HO_223003.out BK209.out (by decide)) (fun _ hk => hk.2)) (fun _ hk => hk.1),by (with_reducible repeat (first|apply Kd.R_alloc|apply Kd.R_drewN|apply Kd.R_drew));exact Kd.R_mono (Kd.R_fars gb209 (Kd.R_types HO_223004.out BK209.out (by decide)) (fun _ hk => hk.2)) (fun _ hk => trivial),hb_⟩
    rw [if_neg c27] at H
    have c27b0 : decide ((rd l1_0 x39_1) < 0) = false:=decide_eq_false c27
    clear c27
    by_cases c35 : (rd l1_0 x39_1) > 3
    ·rw [if_pos c35] at H
     have c35b0 : decide (3 < (rd l1_0 x39_1)) = true:=decide_eq_true c35
     clear c35
     simp only [Option.some.injEq,Prod.mk.injEq] at H
     obtain ⟨rfl,rfl,rfl,rfl,rfl,rfl⟩:=H
     have p223 : 0 ≤ (x39_1 : Int):=of_decide_eq_true (by first|(with_reducible assumption)|assumption)
     have q223 : x39_1 < (l1_0.length : Int):=of_decide_eq_true (by first|(with_reducible assumption)|assumption)
     obtain ⟨ad223,e223,hx223_0⟩:=Kd.at_int HR1_0.out x39_1 p223 q223
     cases e223
     replace hx223_0:=(HB.out.cell (World.block_lt_of_cell? w _ hx223_0)).trans hx223_0
     replace p223:=eq_true p223
     replace q223:=eq_true q223
     have hnb36:=NB222_207.out
     have hnc36:=NB207_222.out
     have hnb37:=NB222_208.out
     have hnc37:=NB208_222.out
     have hnb38:=NB222_209.out
     have hnc38:=NB209_222.out
     obtain ⟨_,_,_,_,_,_,_,_,_,_⟩:=cells5 BK222.out
     have hnb40:=NB209_207.out
     have hnc40:=NB207_209.out
     have hnb41:=NB209_208.out
     have hnc41:=NB208_209.out
     obtain ⟨_,_,_,_,_,_,_,_,_,_⟩:=cells5 BK209.out
     go_wp2
     refine bodyPost_ret (results_ct rfl _ _ gb209 104 #[.int .i64 t210,.int .i64 t211,.slice Ao18 t212.length co18,.slice Ao19 t215.length co19,.slice Ao20 t218.length co20] (0,0) _ rfl (by (with_reducible repeat (first|refine blk_drewN ?_ _|refine blk_drew ?_|refine blk_alloc ?_ _));exact blk_puts5 (blk_up BK209.out)) Try.underlying104 rfl (by kernel_rfl)) rfl ?_
     exact ⟨_,_,_,er_,by (with_reducible repeat (first|apply Kd.R_alloc|apply Kd.R_drewN|apply Kd.R_drew));exact Kd.R_mono (Kd.R_fars gb209 (Kd.R_types HO_223002.out BK209.out (by decide)) (fun _ hk => hk.2)) (fun _ hk => hk.1),by (with_reducible repeat (first|apply Kd.R_alloc|apply Kd.R_drewN|apply Kd.R_drew));exact Kd.R_mono (Kd.R_fars gb209 (Kd.R_types HO_223003.out BK209.out (by decide)) (fun _ hk => hk.2)) (fun _ hk => hk.1),by (with_reducible repeat (first|apply Kd.R_alloc|apply Kd.R_drewN|apply Kd.R_drew));exact Kd.R_mono (Kd.R_fars gb209 (Kd.R_types HO_223004.out BK209.out (by decide)) (fun _ hk => hk.2)) (fun _ hk => trivial),hb_⟩
    ·rw [if_neg c35] at H
     have c35b0 : decide (3 < (rd l1_0 x39_1)) = false:=decide_eq_false c35
     clear c35
     have H':=Aside0.mk H
     clear H
     have p223 : 0 ≤ (x39_1 : Int):=of_decide_eq_true (by first|(with_reducible assumption)|assumption)
     have q223 : x39_1 < (l1_0.length : Int):=of_decide_eq_true (by first|(with_reducible assumption)|assumption)
     obtain ⟨ad223,e223,hx223_0⟩:=Kd.at_int HR1_0.out x39_1 p223 q223
     cases e223
     replace hx223_0:=(HB.out.cell (World.block_lt_of_cell? w _ hx223_0)).trans hx223_0
     replace p223:=eq_true p223
     replace q223:=eq_true q223
     go_wp2
     go_roundg k1
     case measure => have:=HK1.out;omega
     case rel => exact ⟨(wrap64 (x39_1 + 1)),(x210000_1),(x210001_1),(by first|rfl|(simp;done)|(simp [*];done)),H',⟨by have:=HK1.out;omega⟩,⟨Kd.R_up HO_223002.out⟩,⟨Kd.R_up HO_223003.out⟩,⟨Kd.R_up HO_223004.out⟩,⟨blk_up BK207.out⟩,⟨blk_up BK208.out⟩,⟨blk_up BK209.out⟩,⟨blk_up BK222.out⟩,⟨hb_⟩⟩
   rw [if_neg c24] at H
   have c24b0 : decide (x39_1 < (l1_0.length : Int)) = false:=decide_eq_false c24
   clear c24
   have H':=Aside0.mk H
   clear H
   go_wp2
   go_loopg [10] k1 (fun kq v10 w' => ∃ (x10_2 : Int) (x210000_2 : Int) (x210001_2 : Int),v10 = .int .i64 x10_2 ∧ Aside0 (water_check.l1 kq x10_2 a0_0 a0_1 l0_2 l1_0 l1_1 t210 t211 t212 t215 t218 = some (r1,r2,r3,r4,r5,r6)) ∧ Aside0 (kq ≤ k1) ∧ Aside0 (Kd.R (Kd.int .i64) 3 w' w.heap.size (fun k_ => some k_ ≠ ((.slice Ao19 t215.length co19) : Value).ownBlock) (.slice Ao18 t212.length co18) t212) ∧ Aside0 (Kd.R (Kd.int .i64) 3 w' w.heap.size (fun k_ => some k_ ≠ ((.slice Ao18 t212.length co18) : Value).ownBlock) (.slice Ao19 t215.length co19) t215) ∧ Aside0 (Kd.R Kd.bool 4 w' w.heap.size (fun _ => True) (.slice Ao20 t218.length co20) t218) ∧ Aside0 (w'.heap[gb207]? = some (.cells #[.int .i64 a0_0,.int .i64 a0_1,(.slice A0_2 l0_2.length c0_2)] 53 (0,0))) ∧ Aside0 (w'.heap[gb208]? = some (.cells #[(.slice A1_0 l1_0.length c1_0),(.slice A1_1 l1_1.length c1_1)] 55 (0,0))) ∧ Aside0 (w'.heap[gb209]? = some (.cells #[.int .i64 x210000_2,.int .i64 x210001_2,(.slice none 0 0),(.slice none 0 0),(.slice none 0 0)] 104 (0,0))) ∧ Aside0 (w'.heap[gb222]? = some (.cells #[.int .i64 t210,.int .i64 t211,(.slice Ao18 t212.length co18),(.slice Ao19 t215.length co19),(.slice Ao20 t218.length co20)] 104 (0,0))) ∧ Aside0 (Below w.heap.size w w'))
   case atStart => exact ⟨(1),(x210000_1),(x210001_1),(by first|rfl|(simp;done)|(simp [*];done)),H',⟨Nat.le_refl _⟩,⟨Kd.R_up HO_223002.out⟩,⟨Kd.R_up HO_223003.out⟩,⟨Kd.R_up HO_223004.out⟩,⟨blk_up BK207.out⟩,⟨blk_up BK208.out⟩,⟨blk_up BK209.out⟩,⟨blk_up BK222.out⟩,⟨hb_⟩⟩
   case round =>
    clear H'
    obtain ⟨x10_2,x210000_2,x210001_2,rfl,HA,HK2,HO_223002,HO_223003,HO_223004,BK207,BK208,BK209,BK222,HB⟩:=hrel
    cases gk with
    | zero => exact absurd HA.out (by simp [water_check.l1])
    | succ k2 =>
     have H:=HA.out
     clear HA
     simp only [water_check.l1] at H
     by_cases c43 : x10_2 < (l1_1.length : Int)
     ·rw [if_pos c43] at H
      have c43b0 : decide (x10_2 < (l1_1.length : Int)) = true:=decide_eq_true c43
      clear c43
      replace H:=ifp_ H;obtain ⟨c44,H⟩:=H
      have c44b0 : decide (0 ≤ x10_2) = true:=decide_eq_true c44
      clear c44
      obtain ⟨ji45,hji45⟩ : ∃ j_ : Int,(wrap64 (x10_2 - 1)) = j_:=⟨_,rfl⟩
      replace H : (if 0 ≤ (ji45) then (if (ji45) < (l1_1.length : Int) then (if (rd l1_1 x10_2) ≤ (rd l1_1 (ji45)) then (some (t210,t211,t212,t215,t218,1)) else (water_check.l1 k2 (wrap64 (x10_2 + 1)) a0_0 a0_1 l0_2 l1_0 l1_1 t210 t211 t212 t215 t218)) else (none)) else (none)) = some (r1,r2,r3,r4,r5,r6):=by first|(rw [hji45] at H;exact H)|(simp only [hji45] at H ⊢;exact H)
      have hji45w : (IntKind.i64.wrap (x10_2 - 1)) = ji45:=(i64_w _).trans hji45
      replace H:=ifp_ H;obtain ⟨c46,H⟩:=H
      have c46b0 : decide (0 ≤ (ji45)) = true:=decide_eq_true c46
      clear c46
      replace H:=ifp_ H;obtain ⟨c47,H⟩:=H
      have c47b0 : decide ((ji45) < (l1_1.length : Int)) = true:=decide_eq_true c47
      clear c47
      by_cases c48 : (rd l1_1 x10_2) ≤ (rd l1_1 (ji45))
      ·rw [if_pos c48] at H
       have c48b0 : decide ((rd l1_1 x10_2) ≤ (rd l1_1 (ji45))) = true:=decide_eq_true c48
       clear c48
       simp only [Option.some.injEq,Prod.mk.injEq] at H
       obtain ⟨rfl,rfl,rfl,rfl,rfl,rfl⟩:=H
       have hnb49:=NB208_207.out
       have hnc49:=NB207_208.out
       have hnb50:=NB208_209.out
       have hnc50:=NB209_208.out
       have hnb51:=NB208_222.out
       have hnc51:=NB222_208.out
       obtain ⟨_,_,_,_⟩:=cells2 BK208.out
       have p224 : 0 ≤ (x10_2 : Int):=of_decide_eq_true (by first|(with_reducible assumption)|assumption)
       have q224 : x10_2 < (l1_1.length : Int):=of_decide_eq_true (by first|(with_reducible assumption)|assumption)
       obtain ⟨ad224,e224,hx224_0⟩:=Kd.at_int HR1_1.out x10_2 p224 q224
       cases e224
       replace hx224_0:=(HB.out.cell (World.block_lt_of_cell? w _ hx224_0)).trans hx224_0
       replace p224:=eq_true p224
       replace q224:=eq_true q224
       have p225 : 0 ≤ ((ji45) : Int):=of_decide_eq_true (by first|(with_reducible assumption)|assumption)
       have q225 : (ji45) < (l1_1.length : Int):=of_decide_eq_true (by first|(with_reducible assumption)|assumption)
       obtain ⟨ad225,e225,hx225_0⟩:=Kd.at_int HR1_1.out (ji45) p225 q225
       obtain rfl : ad224 = ad225:=(by injection e225)
       replace hx225_0:=(HB.out.cell (World.block_lt_of_cell? w _ hx225_0)).trans hx225_0
       replace p225:=eq_true p225
       replace q225:=eq_true q225
       have hnb53:=NB222_207.out
       have hnc53:=NB207_222.out
       have hnb54:=NB222_209.out
       have hnc54:=NB209_222.out
       obtain ⟨_,_,_,_,_,_,_,_,_,_⟩:=cells5 BK222.out
       have hnb56:=NB209_207.out
       have hnc56:=NB207_209.out
       obtain ⟨_,_,_,_,_,_,_,_,_,_⟩:=cells5 BK209.out
       go_wp2
       go_quiet (fail)
       go_wp2
       refine bodyPost_ret (results_ct rfl _ _ gb209 104 #[.int .i64 t210,.int .i64 t211,.slice Ao18 t212.length co18,.slice Ao19 t215.length co19,.slice Ao20 t218.length co20] (0,0) _ rfl (by (with_reducible repeat (first|refine blk_drewN ?_ _|refine blk_drew ?_|refine blk_alloc ?_ _));exact blk_puts5 (blk_up BK209.out)) Try.underlying104 rfl (by kernel_rfl)) rfl ?_
       exact ⟨_,_,_,by first|rfl|(simp [errW_none,errW_some] <;> rfl)|(simp only [← hji45];first|rfl|(simp [errW_none,errW_some] <;> rfl))|(simp [*,errW_none,errW_some] <;> rfl),by (with_reducible repeat (first|apply Kd.R_alloc|apply Kd.R_drewN|apply Kd.R_drew));exact Kd.R_mono (Kd.R_fars gb209 (Kd.R_types HO_223002.out BK209.out (by decide)) (fun _ hk => hk.2)) (fun _ hk => hk.1),by (with_reducible repeat (first|apply Kd.R_alloc|apply Kd.R_drewN|apply Kd.R_drew));exact Kd.R_mono (Kd.R_fars gb209 (Kd.R_types HO_223003.out BK209.out (by decide)) (fun _ hk => hk.2)) (fun _ hk => hk.1),by (with_reducible repeat (first|apply Kd.R_alloc|apply Kd.R_drewN|apply Kd.R_drew));exact Kd.R_mono (Kd.R_fars gb209 (Kd.R_types HO_223004.out BK209.out (by decide)) (fun _ hk => hk.2)) (fun _ hk => trivial),hb_⟩
      ·rw [if_neg c48] at H
       have c48b0 : decide ((rd l1_1 x10_2) ≤ (rd l1_1 (ji45))) = false:=decide_eq_false c48
       clear c48
       have H':=Aside0.mk H
       clear H
       have hnb58:=NB208_207.out
       have hnc58:=NB207_208.out
       have hnb59:=NB208_209.out
       have hnc59:=NB209_208.out
       have hnb60:=NB208_222.out
       have hnc60:=NB222_208.out
       obtain ⟨_,_,_,_⟩:=cells2 BK208.out
       have p224 : 0 ≤ (x10_2 : Int):=of_decide_eq_true (by first|(with_reducible assumption)|assumption)
       have q224 : x10_2 < (l1_1.length : Int):=of_decide_eq_true (by first|(with_reducible assumption)|assumption)
       obtain ⟨ad224,e224,hx224_0⟩:=Kd.at_int HR1_1.out x10_2 p224 q224
       cases e224
       replace hx224_0:=(HB.out.cell (World.block_lt_of_cell? w _ hx224_0)).trans hx224_0
       replace p224:=eq_true p224
       replace q224:=eq_true q224
       have p225 : 0 ≤ ((ji45) : Int):=of_decide_eq_true (by first|(with_reducible assumption)|assumption)
       have q225 : (ji45) < (l1_1.length : Int):=of_decide_eq_true (by first|(with_reducible assumption)|assumption)
       obtain ⟨ad225,e225,hx225_0⟩:=Kd.at_int HR1_1.out (ji45) p225 q225
       obtain rfl : ad224 = ad225:=(by injection e225)
       replace hx225_0:=(HB.out.cell (World.block_lt_of_cell? w _ hx225_0)).trans hx225_0
       replace p225:=eq_true p225
       replace q225:=eq_true q225
       go_wp2
       go_quiet (fail)
       go_wp2
       go_roundg k2
       case measure => have:=HK1.out;have:=HK2.out;omega
       case rel => exact ⟨(wrap64 (x10_2 + 1)),(x210000_2),(x210001_2),(by first|rfl|(simp;done)|(simp [*];done)),H',⟨by have:=HK1.out;have:=HK2.out;omega⟩,⟨Kd.R_up HO_223002.out⟩,⟨Kd.R_up HO_223003.out⟩,⟨Kd.R_up HO_223004.out⟩,⟨blk_up BK207.out⟩,⟨blk_up BK208.out⟩,⟨blk_up BK209.out⟩,⟨blk_up BK222.out⟩,⟨hb_⟩⟩
     rw [if_neg c43] at H
     have c43b0 : decide (x10_2 < (l1_1.length : Int)) = false:=decide_eq_false c43
     clear c43
     have H':=Aside0.mk H
     clear H
     have hnb62:=NB208_207.out
     have hnc62:=NB207_208.out
     have hnb63:=NB208_209.out
     have hnc63:=NB209_208.out
     have hnb64:=NB208_222.out
     have hnc64:=NB222_208.out
     obtain ⟨_,_,_,_⟩:=cells2 BK208.out
     go_wp2
     go_loopg [74] k2 (fun kq v74 w' => ∃ (x74_3 : Int) (x210000_3 : Int) (x210001_3 : Int),v74 = .int .i64 x74_3 ∧ Aside0 (water_check.l2 kq l1_1 (l1_1.length : Int) x74_3 a0_0 a0_1 l0_2 l1_0 l1_1 t210 t211 t212 t215 t218 = some (r1,r2,r3,r4,r5,r6)) ∧ Aside0 (kq ≤ k2) ∧ Aside0 (Kd.R (Kd.int .i64) 3 w' w.heap.size (fun k_ => some k_ ≠ ((.slice Ao19 t215.length co19) : Value).ownBlock) (.slice Ao18 t212.length co18) t212) ∧ Aside0 (Kd.R (Kd.int .i64) 3 w' w.heap.size (fun k_ => some k_ ≠ ((.slice Ao18 t212.length co18) : Value).ownBlock) (.slice Ao19 t215.length co19) t215) ∧ Aside0 (Kd.R Kd.bool 4 w' w.heap.size (fun _ => True) (.slice Ao20 t218.length co20) t218) ∧ Aside0 (w'.heap[gb207]? = some (.cells #[.int .i64 a0_0,.int .i64 a0_1,(.slice A0_2 l0_2.length c0_2)] 53 (0,0))) ∧ Aside0 (w'.heap[gb208]? = some (.cells #[(.slice A1_0 l1_0.length c1_0),(.slice A1_1 l1_1.length c1_1)] 55 (0,0))) ∧ Aside0 (w'.heap[gb209]? = some (.cells #[.int .i64 x210000_3,.int .i64 x210001_3,(.slice none 0 0),(.slice none 0 0),(.slice none 0 0)] 104 (0,0))) ∧ Aside0 (w'.heap[gb222]? = some (.cells #[.int .i64 t210,.int .i64 t211,(.slice Ao18 t212.length co18),(.slice Ao19 t215.length co19),(.slice Ao20 t218.length co20)] 104 (0,0))) ∧ Aside0 (Below w.heap.size w w'))
     case atStart => exact ⟨(0),(x210000_2),(x210001_2),(by first|rfl|(simp;done)|(simp [*];done)),H',⟨Nat.le_refl _⟩,⟨Kd.R_up HO_223002.out⟩,⟨Kd.R_up HO_223003.out⟩,⟨Kd.R_up HO_223004.out⟩,⟨blk_up BK207.out⟩,⟨blk_up BK208.out⟩,⟨blk_up BK209.out⟩,⟨blk_up BK222.out⟩,⟨hb_⟩⟩
     case round =>
      clear H'
      obtain ⟨x74_3,x210000_3,x210001_3,rfl,HA,HK3,HO_223002,HO_223003,HO_223004,BK207,BK208,BK209,BK222,HB⟩:=hrel
      cases gk with
      | zero => exact absurd HA.out (by simp [water_check.l2])
      | succ k3 =>
       have H:=HA.out
       clear HA
       simp only [water_check.l2] at H
       by_cases c66 : x74_3 < (l1_1.length : Int)
       ·rw [if_pos c66] at H
        have c66b0 : decide (x74_3 < (l1_1.length : Int)) = true:=decide_eq_true c66
        clear c66
        replace H:=ifp_ H;obtain ⟨c67,H⟩:=H
        have c67b0 : decide (0 ≤ x74_3) = true:=decide_eq_true c67
        clear c67
        replace H:=ifp_ H;obtain ⟨c68,H⟩:=H
        have c68b0 : decide (x74_3 < (l1_1.length : Int)) = true:=decide_eq_true c68
        clear c68
        by_cases c69 : (rd l1_1 x74_3) < 0
        ·rw [if_pos c69] at H
         have c69b0 : decide ((rd l1_1 x74_3) < 0) = true:=decide_eq_true c69
         clear c69
         simp only [Option.some.injEq,Prod.mk.injEq] at H
         obtain ⟨rfl,rfl,rfl,rfl,rfl,rfl⟩:=H
         have p226 : 0 ≤ (x74_3 : Int):=of_decide_eq_true (by first|(with_reducible assumption)|assumption)
         have q226 : x74_3 < (l1_1.length : Int):=of_decide_eq_true (by first|(with_reducible assumption)|assumption)
         obtain ⟨ad226,e226,hx226_0⟩:=Kd.at_int HR1_1.out x74_3 p226 q226
         cases e226
         replace hx226_0:=(HB.out.cell (World.block_lt_of_cell? w _ hx226_0)).trans hx226_0
         replace p226:=eq_true p226
         replace q226:=eq_true q226
         have hnb70:=NB222_207.out
         have hnc70:=NB207_222.out
         have hnb71:=NB222_208.out
         have hnc71:=NB208_222.out
         have hnb72:=NB222_209.out
         have hnc72:=NB209_222.out
         obtain ⟨_,_,_,_,_,_,_,_,_,_⟩:=cells5 BK222.out
         have hnb74:=NB209_207.out
         have hnc74:=NB207_209.out
         have hnb75:=NB209_208.out
         have hnc75:=NB208_209.out
         obtain ⟨_,_,_,_,_,_,_,_,_,_⟩:=cells5 BK209.out
         go_wp2
         refine bodyPost_ret (results_ct rfl _ _ gb209 104 #[.int .i64 t210,.int .i64 t211,.slice Ao18 t212.length co18,.slice Ao19 t215.length co19,.slice Ao20 t218.length co20] (0,0) _ rfl (by (with_reducible repeat (first|refine blk_drewN ?_ _|refine blk_drew ?_|refine blk_alloc ?_ _));exact blk_puts5 (blk_up BK209.out)) Try.underlying104 rfl (by kernel_rfl)) rfl ?_
         exact ⟨_,_,_,er_,by (with_reducible repeat (first|apply Kd.R_alloc|apply Kd.R_drewN|apply Kd.R_drew));exact Kd.R_mono (Kd.R_fars gb209 (Kd.R_types HO_223002.out BK209.out (by decide)) (fun _ hk => hk.2)) (fun _ hk => hk.1),by (with_reducible repeat (first|apply Kd.R_alloc|apply Kd.R_drewN|apply Kd.R_drew));exact Kd.R_mono (Kd.R_fars gb209 (Kd.R_types HO_223003.out BK209.out (by decide)) (fun _ hk => hk.2)) (fun _ hk => hk.1),by (with_reducible repeat (first|apply Kd.R_alloc|apply Kd.R_drewN|apply Kd.R_drew));exact Kd.R_mono (Kd.R_fars gb209 (Kd.R_types HO_223004.out BK209.out (by decide)) (fun _ hk => hk.2)) (fun _ hk => trivial),hb_⟩
        rw [if_neg c69] at H
        have c69b0 : decide ((rd l1_1 x74_3) < 0) = false:=decide_eq_false c69
        clear c69
        by_cases c77 : (rd l1_1 x74_3) ≥ (wrap64 (a0_0 * a0_1))
        ·rw [if_pos c77] at H
         have c77b0 : decide ((wrap64 (a0_0 * a0_1)) ≤ (rd l1_1 x74_3)) = true:=decide_eq_true c77
         clear c77
         simp only [Option.some.injEq,Prod.mk.injEq] at H
         obtain ⟨rfl,rfl,rfl,rfl,rfl,rfl⟩:=H
         have p226 : 0 ≤ (x74_3 : Int):=of_decide_eq_true (by first|(with_reducible assumption)|assumption)
         have q226 : x74_3 < (l1_1.length : Int):=of_decide_eq_true (by first|(with_reducible assumption)|assumption)
         obtain ⟨ad226,e226,hx226_0⟩:=Kd.at_int HR1_1.out x74_3 p226 q226
         cases e226
         replace hx226_0:=(HB.out.cell (World.block_lt_of_cell? w _ hx226_0)).trans hx226_0
         replace p226:=eq_true p226
         replace q226:=eq_true q226
         have hnb78:=NB207_208.out
         have hnc78:=NB208_207.out
         have hnb79:=NB207_209.out
         have hnc79:=NB209_207.out
         have hnb80:=NB207_222.out
         have hnc80:=NB222_207.out
         obtain ⟨_,_,_,_,_,_⟩:=cells3 BK207.out
         have hnb82:=NB222_208.out
         have hnc82:=NB208_222.out
         have hnb83:=NB222_209.out
         have hnc83:=NB209_222.out
         obtain ⟨_,_,_,_,_,_,_,_,_,_⟩:=cells5 BK222.out
         have hnb85:=NB209_208.out
         have hnc85:=NB208_209.out
         obtain ⟨_,_,_,_,_,_,_,_,_,_⟩:=cells5 BK209.out
         go_wp2
         refine bodyPost_ret (results_ct rfl _ _ gb209 104 #[.int .i64 t210,.int .i64 t211,.slice Ao18 t212.length co18,.slice Ao19 t215.length co19,.slice Ao20 t218.length co20] (0,0) _ rfl (by (with_reducible repeat (first|refine blk_drewN ?_ _|refine blk_drew ?_|refine blk_alloc ?_ _));exact blk_puts5 (blk_up BK209.out)) Try.underlying104 rfl (by kernel_rfl)) rfl ?_
         exact ⟨_,_,_,er_,by (with_reducible repeat (first|apply Kd.R_alloc|apply Kd.R_drewN|apply Kd.R_drew));exact Kd.R_mono (Kd.R_fars gb209 (Kd.R_types HO_223002.out BK209.out (by decide)) (fun _ hk => hk.2)) (fun _ hk => hk.1),by (with_reducible repeat (first|apply Kd.R_alloc|apply Kd.R_drewN|apply Kd.R_drew));exact Kd.R_mono (Kd.R_fars gb209 (Kd.R_types HO_223003.out BK209.out (by decide)) (fun _ hk => hk.2)) (fun _ hk => hk.1),by (with_reducible repeat (first|apply Kd.R_alloc|apply Kd.R_drewN|apply Kd.R_drew));exact Kd.R_mono (Kd.R_fars gb209 (Kd.R_types HO_223004.out BK209.out (by decide)) (fun _ hk => hk.2)) (fun _ hk => trivial),hb_⟩
        ·rw [if_neg c77] at H
         have c77b0 : decide ((wrap64 (a0_0 * a0_1)) ≤ (rd l1_1 x74_3)) = false:=decide_eq_false c77
         clear c77
         have H':=Aside0.mk H
         clear H
         have p226 : 0 ≤ (x74_3 : Int):=of_decide_eq_true (by first|(with_reducible assumption)|assumption)
         have q226 : x74_3 < (l1_1.length : Int):=of_decide_eq_true (by first|(with_reducible assumption)|assumption)
         obtain ⟨ad226,e226,hx226_0⟩:=Kd.at_int HR1_1.out x74_3 p226 q226
         cases e226
         replace hx226_0:=(HB.out.cell (World.block_lt_of_cell? w _ hx226_0)).trans hx226_0
         replace p226:=eq_true p226
         replace q226:=eq_true q226
         have hnb87:=NB207_208.out
         have hnc87:=NB208_207.out
         have hnb88:=NB207_209.out
         have hnc88:=NB209_207.out
         have hnb89:=NB207_222.out
         have hnc89:=NB222_207.out
         obtain ⟨_,_,_,_,_,_⟩:=cells3 BK207.out
         go_wp2
         go_roundg k3
         case measure => have:=HK1.out;have:=HK2.out;have:=HK3.out;omega
         case rel => exact ⟨(wrap64 (x74_3 + 1)),(x210000_3),(x210001_3),(by first|rfl|(simp;done)|(simp [*];done)),H',⟨by have:=HK1.out;have:=HK2.out;have:=HK3.out;omega⟩,⟨Kd.R_up HO_223002.out⟩,⟨Kd.R_up HO_223003.out⟩,⟨Kd.R_up HO_223004.out⟩,⟨blk_up BK207.out⟩,⟨blk_up BK208.out⟩,⟨blk_up BK209.out⟩,⟨blk_up BK222.out⟩,⟨hb_⟩⟩
       rw [if_neg c66] at H
       have c66b0 : decide (x74_3 < (l1_1.length : Int)) = false:=decide_eq_false c66
       clear c66
       have H':=Aside0.mk H
       clear H
       have hnb91:=NB208_207.out
       have hnc91:=NB207_208.out
       have hnb92:=NB208_209.out
       have hnc92:=NB209_208.out
       have hnb93:=NB208_222.out
       have hnc93:=NB222_208.out
       obtain ⟨_,_,_,_⟩:=cells2 BK208.out
       go_wp2
       go_loopg [94] k3 (fun kq v94 w' => ∃ (x94_4 : Int) (x210000_4 : Int) (x210001_4 : Int),v94 = .int .i64 x94_4 ∧ Aside0 (water_check.l3 kq l1_0 (l1_0.length : Int) x94_4 l1_0 l1_1 t210 t211 t212 t215 t218 = some (r1,r2,r3,r4,r5,r6)) ∧ Aside0 (kq ≤ k3) ∧ Aside0 (Kd.R (Kd.int .i64) 3 w' w.heap.size (fun k_ => some k_ ≠ ((.slice Ao19 t215.length co19) : Value).ownBlock) (.slice Ao18 t212.length co18) t212) ∧ Aside0 (Kd.R (Kd.int .i64) 3 w' w.heap.size (fun k_ => some k_ ≠ ((.slice Ao18 t212.length co18) : Value).ownBlock) (.slice Ao19 t215.length co19) t215) ∧ Aside0 (Kd.R Kd.bool 4 w' w.heap.size (fun _ => True) (.slice Ao20 t218.length co20) t218) ∧ Aside0 (w'.heap[gb207]? = some (.cells #[.int .i64 a0_0,.int .i64 a0_1,(.slice A0_2 l0_2.length c0_2)] 53 (0,0))) ∧ Aside0 (w'.heap[gb208]? = some (.cells #[(.slice A1_0 l1_0.length c1_0),(.slice A1_1 l1_1.length c1_1)] 55 (0,0))) ∧ Aside0 (w'.heap[gb209]? = some (.cells #[.int .i64 x210000_4,.int .i64 x210001_4,(.slice none 0 0),(.slice none 0 0),(.slice none 0 0)] 104 (0,0))) ∧ Aside0 (w'.heap[gb222]? = some (.cells #[.int .i64 t210,.int .i64 t211,(.slice Ao18 t212.length co18),(.slice Ao19 t215.length co19),(.slice Ao20 t218.length co20)] 104 (0,0))) ∧ Aside0 (Below w.heap.size w w'))
       case atStart => exact ⟨(0),(x210000_3),(x210001_3),(by first|rfl|(simp;done)|(simp [*];done)),H',⟨Nat.le_refl _⟩,⟨Kd.R_up HO_223002.out⟩,⟨Kd.R_up HO_223003.out⟩,⟨Kd.R_up HO_223004.out⟩,⟨blk_up BK207.out⟩,⟨blk_up BK208.out⟩,⟨blk_up BK209.out⟩,⟨blk_up BK222.out⟩,⟨hb_⟩⟩
       case round =>
        clear H'
        obtain ⟨x94_4,x210000_4,x210001_4,rfl,HA,HK4,HO_223002,HO_223003,HO_223004,BK207,BK208,BK209,BK222,HB⟩:=hrel
        cases gk with
        | zero => exact absurd HA.out (by simp [water_check.l3])
        | succ k4 =>
         have H:=HA.out
         clear HA
         simp only [water_check.l3] at H
         by_cases c95 : x94_4 < (l1_0.length : Int)
         ·rw [if_pos c95] at H
          have c95b0 : decide (x94_4 < (l1_0.length : Int)) = true:=decide_eq_true c95
          clear c95
          replace H:=ifp_ H;obtain ⟨c96,H⟩:=H
          have c96b0 : decide (0 ≤ x94_4) = true:=decide_eq_true c96
          clear c96
          replace H:=ifp_ H;obtain ⟨c97,H⟩:=H
          have c97b0 : decide (x94_4 < (l1_0.length : Int)) = true:=decide_eq_true c97
          clear c97
          replace H:=Option.bind_eq_some_iff.mp H
          obtain ⟨t228,A980,H⟩:=H
          replace H : (if t228 = 0 then (water_check.l3 k4 l1_0 (l1_0.length : Int) (wrap64 (x94_4 + 1)) l1_0 l1_1 t210 t211 t212 t215 t218) else (some (t210,t211,t212,t215,t218,9))) = some (r1,r2,r3,r4,r5,r6):=H
          have A98:=Aside0.mk A980
          clear A980
          by_cases c99 : t228 = 0
          ·rw [if_pos c99] at H
           have c99b0:=bqt c99
           have c99b1:=bnf c99
           clear c99
           have H':=Aside0.mk H
           clear H
           have p227 : 0 ≤ (x94_4 : Int):=of_decide_eq_true (by first|(with_reducible assumption)|assumption)
           have q227 : x94_4 < (l1_0.length : Int):=of_decide_eq_true (by first|(with_reducible assumption)|assumption)
           obtain ⟨ad227,e227,hx227_0⟩:=Kd.at_int HR1_0.out x94_4 p227 q227
           cases e227
           replace hx227_0:=(HB.out.cell (World.block_lt_of_cell? w _ hx227_0)).trans hx227_0
           replace p227:=eq_true p227
           replace q227:=eq_true q227
           have hnb100:=NB222_207.out
           have hnc100:=NB207_222.out
           have hnb101:=NB222_208.out
           have hnc101:=NB208_222.out
           have hnb102:=NB222_209.out
           have hnc102:=NB209_222.out
           obtain ⟨_,_,_,_,_,_,_,_,_,_⟩:=cells5 BK222.out
           go_wp2_with (first|(go_at_call 95;(with_reducible refine (water_ground_may.calls k4 t210 t211 _ _ t212 _ _ t215 _ _ t218 x94_4 (rd l1_0 x94_4) t228 _ ?_ ?_ ?_ ?_ ?_ ?_ A98.out).mono ?_);exact Kd.C_up (Kd.R_reads' HO_223002.out).2.2;exact (Kd.R_reads' HO_223002.out).2.1;exact Kd.C_up (Kd.R_reads' HO_223003.out).2.2;exact (Kd.R_reads' HO_223003.out).2.1;exact Kd.C_up (Kd.R_reads' HO_223004.out).2.2;exact (Kd.R_reads' HO_223004.out).2.1;rintro e w104 ⟨rfl,hb⟩;replace HO_223002:=rbw HO_223002 hb;replace HO_223003:=rbw HO_223003 hb;replace HO_223004:=rbw HO_223004 hb;replace BK207:=bkb BK207 hb;replace BK208:=bkb BK208 hb;replace BK209:=bkb BK209 hb;replace BK222:=bkb BK222 hb;replace HB:=hbs hb))
           go_roundg k4
           case measure => have:=HK1.out;have:=HK2.out;have:=HK3.out;have:=HK4.out;omega
           case rel => exact ⟨(wrap64 (x94_4 + 1)),(x210000_4),(x210001_4),(by first|rfl|(simp;done)|(simp [*];done)),H',⟨by have:=HK1.out;have:=HK2.out;have:=HK3.out;have:=HK4.out;omega⟩,⟨Kd.R_up HO_223002.out⟩,⟨Kd.R_up HO_223003.out⟩,⟨Kd.R_up HO_223004.out⟩,⟨blk_up BK207.out⟩,⟨blk_up BK208.out⟩,⟨blk_up BK209.out⟩,⟨blk_up BK222.out⟩,⟨hb_⟩⟩
          ·rw [if_neg c99] at H
           have c99b0:=bqf c99
           have c99b1:=bnt c99
           simp only [Option.some.injEq,Prod.mk.injEq] at H
           obtain ⟨rfl,rfl,rfl,rfl,rfl,rfl⟩:=H
           have p227 : 0 ≤ (x94_4 : Int):=of_decide_eq_true (by first|(with_reducible assumption)|assumption)
           have q227 : x94_4 < (l1_0.length : Int):=of_decide_eq_true (by first|(with_reducible assumption)|assumption)
           obtain ⟨ad227,e227,hx227_0⟩:=Kd.at_int HR1_0.out x94_4 p227 q227
           cases e227
           replace hx227_0:=(HB.out.cell (World.block_lt_of_cell? w _ hx227_0)).trans hx227_0
           replace p227:=eq_true p227
           replace q227:=eq_true q227
           have hnb105:=NB222_207.out
           have hnc105:=NB207_222.out
           have hnb106:=NB222_208.out
           have hnc106:=NB208_222.out
           have hnb107:=NB222_209.out
           have hnc107:=NB209_222.out
           obtain ⟨_,_,_,_,_,_,_,_,_,_⟩:=cells5 BK222.out
           go_wp2_with (first|(go_at_call 95;(with_reducible refine (water_ground_may.calls k4 t210 t211 _ _ t212 _ _ t215 _ _ t218 x94_4 (rd l1_0 x94_4) t228 _ ?_ ?_ ?_ ?_ ?_ ?_ A98.out).mono ?_);exact Kd.C_up (Kd.R_reads' HO_223002.out).2.2;exact (Kd.R_reads' HO_223002.out).2.1;exact Kd.C_up (Kd.R_reads' HO_223003.out).2.2;exact (Kd.R_reads' HO_223003.out).2.1;exact Kd.C_up (Kd.R_reads' HO_223004.out).2.2;exact (Kd.R_reads' HO_223004.out).2.1;rintro e w109 ⟨rfl,hb⟩;replace HO_223002:=rbw HO_223002 hb;replace HO_223003:=rbw HO_223003 hb;replace HO_223004:=rbw HO_223004 hb;replace BK207:=bkb BK207 hb;replace BK208:=bkb BK208 hb;replace BK209:=bkb BK209 hb;replace BK222:=bkb BK222 hb;replace HB:=hbs hb;obtain ⟨_,_,_,_,_,_,_,_,_,_⟩:=cells5 BK222.out;have hnb111:=NB209_207.out;have hnc111:=NB207_209.out;have hnb112:=NB209_208.out;have hnc112:=NB208_209.out;obtain ⟨_,_,_,_,_,_,_,_,_,_⟩:=cells5 BK209.out))
           refine bodyPost_ret (results_ct rfl _ _ gb209 104 #[.int .i64 t210,.int .i64 t211,.slice Ao18 t212.length co18,.slice Ao19 t215.length co19,.slice Ao20 t218.length co20] (0,0) _ rfl (by (with_reducible repeat (first|refine blk_drewN ?_ _|refine blk_drew ?_|refine blk_alloc ?_ _));exact blk_puts5 (blk_up BK209.out)) Try.underlying104 rfl (by kernel_rfl)) rfl ?_
           exact ⟨_,_,_,er_,by (with_reducible repeat (first|apply Kd.R_alloc|apply Kd.R_drewN|apply Kd.R_drew));exact Kd.R_mono (Kd.R_fars gb209 (Kd.R_types HO_223002.out BK209.out (by decide)) (fun _ hk => hk.2)) (fun _ hk => hk.1),by (with_reducible repeat (first|apply Kd.R_alloc|apply Kd.R_drewN|apply Kd.R_drew));exact Kd.R_mono (Kd.R_fars gb209 (Kd.R_types HO_223003.out BK209.out (by decide)) (fun _ hk => hk.2)) (fun _ hk => hk.1),by (with_reducible repeat (first|apply Kd.R_alloc|apply Kd.R_drewN|apply Kd.R_drew));exact Kd.R_mono (Kd.R_fars gb209 (Kd.R_types HO_223004.out BK209.out (by decide)) (fun _ hk => hk.2)) (fun _ hk => trivial),hb_⟩
         rw [if_neg c95] at H
         have c95b0 : decide (x94_4 < (l1_0.length : Int)) = false:=decide_eq_false c95
         clear c95
         have H':=Aside0.mk H
         clear H
         have hnb114:=NB208_207.out
         have hnc114:=NB207_208.out
         have hnb115:=NB208_209.out
         have hnc115:=NB209_208.out
         have hnb116:=NB208_222.out
         have hnc116:=NB222_208.out
         obtain ⟨_,_,_,_⟩:=cells2 BK208.out
         go_wp2
         go_loopg [109] k4 (fun kq v109 w' => ∃ (x109_5 : Int) (x210000_5 : Int) (x210001_5 : Int),v109 = .int .i64 x109_5 ∧ Aside0 (water_check.l4 kq l1_1 (l1_1.length : Int) x109_5 l1_0 l1_1 t210 t211 t212 t215 t218 = some (r1,r2,r3,r4,r5,r6)) ∧ Aside0 (kq ≤ k4) ∧ Aside0 (Kd.R (Kd.int .i64) 3 w' w.heap.size (fun k_ => some k_ ≠ ((.slice Ao19 t215.length co19) : Value).ownBlock) (.slice Ao18 t212.length co18) t212) ∧ Aside0 (Kd.R (Kd.int .i64) 3 w' w.heap.size (fun k_ => some k_ ≠ ((.slice Ao18 t212.length co18) : Value).ownBlock) (.slice Ao19 t215.length co19) t215) ∧ Aside0 (Kd.R Kd.bool 4 w' w.heap.size (fun _ => True) (.slice Ao20 t218.length co20) t218) ∧ Aside0 (w'.heap[gb207]? = some (.cells #[.int .i64 a0_0,.int .i64 a0_1,(.slice A0_2 l0_2.length c0_2)] 53 (0,0))) ∧ Aside0 (w'.heap[gb208]? = some (.cells #[(.slice A1_0 l1_0.length c1_0),(.slice A1_1 l1_1.length c1_1)] 55 (0,0))) ∧ Aside0 (w'.heap[gb209]? = some (.cells #[.int .i64 x210000_5,.int .i64 x210001_5,(.slice none 0 0),(.slice none 0 0),(.slice none 0 0)] 104 (0,0))) ∧ Aside0 (w'.heap[gb222]? = some (.cells #[.int .i64 t210,.int .i64 t211,(.slice Ao18 t212.length co18),(.slice Ao19 t215.length co19),(.slice Ao20 t218.length co20)] 104 (0,0))) ∧ Aside0 (Below w.heap.size w w'))
         case atStart => exact ⟨(0),(x210000_4),(x210001_4),(by first|rfl|(simp;done)|(simp [*];done)),H',⟨Nat.le_refl _⟩,⟨Kd.R_up HO_223002.out⟩,⟨Kd.R_up HO_223003.out⟩,⟨Kd.R_up HO_223004.out⟩,⟨blk_up BK207.out⟩,⟨blk_up BK208.out⟩,⟨blk_up BK209.out⟩,⟨blk_up BK222.out⟩,⟨hb_⟩⟩
         case round =>
          clear H'
          obtain ⟨x109_5,x210000_5,x210001_5,rfl,HA,HK5,HO_223002,HO_223003,HO_223004,BK207,BK208,BK209,BK222,HB⟩:=hrel
          cases gk with
          | zero => exact absurd HA.out (by simp [water_check.l4])
          | succ k5 =>
           have H:=HA.out
           clear HA
           simp only [water_check.l4] at H
           by_cases c118 : x109_5 < (l1_1.length : Int)
           rotate_left
           ·rw [if_neg c118] at H
            have c118b0 : decide (x109_5 < (l1_1.length : Int)) = false:=decide_eq_false c118
            clear c118
            simp only [Option.some.injEq,Prod.mk.injEq] at H
            obtain ⟨rfl,rfl,rfl,rfl,rfl,rfl⟩:=H
            have hnb142:=NB222_207.out
            have hnc142:=NB207_222.out
            have hnb143:=NB222_208.out
            have hnc143:=NB208_222.out
            have hnb144:=NB222_209.out
            have hnc144:=NB209_222.out
            obtain ⟨_,_,_,_,_,_,_,_,_,_⟩:=cells5 BK222.out
            have hnb146:=NB209_207.out
            have hnc146:=NB207_209.out
            have hnb147:=NB209_208.out
            have hnc147:=NB208_209.out
            obtain ⟨_,_,_,_,_,_,_,_,_,_⟩:=cells5 BK209.out
            go_wp2
            refine bodyPost_ret (results_ct rfl _ _ gb209 104 #[.int .i64 t210,.int .i64 t211,.slice Ao18 t212.length co18,.slice Ao19 t215.length co19,.slice Ao20 t218.length co20] (0,0) _ rfl (by (with_reducible repeat (first|refine blk_drewN ?_ _|refine blk_drew ?_|refine blk_alloc ?_ _));exact blk_puts5 (blk_up BK209.out)) Try.underlying104 rfl (by kernel_rfl)) rfl ?_
            exact ⟨_,_,_,er_,by (with_reducible repeat (first|apply Kd.R_alloc|apply Kd.R_drewN|apply Kd.R_drew));exact Kd.R_mono (Kd.R_fars gb209 (Kd.R_types HO_223002.out BK209.out (by decide)) (fun _ hk => hk.2)) (fun _ hk => hk.1),by (with_reducible repeat (first|apply Kd.R_alloc|apply Kd.R_drewN|apply Kd.R_drew));exact Kd.R_mono (Kd.R_fars gb209 (Kd.R_types HO_223003.out BK209.out (by decide)) (fun _ hk => hk.2)) (fun _ hk => hk.1),by (with_reducible repeat (first|apply Kd.R_alloc|apply Kd.R_drewN|apply Kd.R_drew));exact Kd.R_mono (Kd.R_fars gb209 (Kd.R_types HO_223004.out BK209.out (by decide)) (fun _ hk => hk.2)) (fun _ hk => trivial),hb_⟩
           rw [if_pos c118] at H
           have c118b0 : decide (x109_5 < (l1_1.length : Int)) = true:=decide_eq_true c118
           clear c118
           replace H:=ifp_ H;obtain ⟨c119,H⟩:=H
           have c119b0 : decide (0 ≤ x109_5) = true:=decide_eq_true c119
           clear c119
           replace H:=ifp_ H;obtain ⟨c120,H⟩:=H
           have c120b0 : decide (x109_5 < (l1_1.length : Int)) = true:=decide_eq_true c120
           clear c120
           replace H:=Option.bind_eq_some_iff.mp H
           obtain ⟨t230,A1210,H⟩:=H
           replace H : (if t230 = true then (water_check.l4 k5 l1_1 (l1_1.length : Int) (wrap64 (x109_5 + 1)) l1_0 l1_1 t210 t211 t212 t215 t218) else (some (t210,t211,t212,t215,t218,9))) = some (r1,r2,r3,r4,r5,r6):=H
           have A121:=Aside0.mk A1210
           clear A1210
           by_cases c122 : t230 = true
           ·subst c122
            have H1 : (water_check.l4 k5 l1_1 (l1_1.length : Int) (wrap64 (x109_5 + 1)) l1_0 l1_1 t210 t211 t212 t215 t218) = some (r1,r2,r3,r4,r5,r6):=by rw [if_pos rfl] at H;exact H
            clear H
            have H:=H1
            clear H1
            have H':=Aside0.mk H
            clear H
            have p229 : 0 ≤ (x109_5 : Int):=of_decide_eq_true (by first|(with_reducible assumption)|assumption)
            have q229 : x109_5 < (l1_1.length : Int):=of_decide_eq_true (by first|(with_reducible assumption)|assumption)
            obtain ⟨ad229,e229,hx229_0⟩:=Kd.at_int HR1_1.out x109_5 p229 q229
            cases e229
            replace hx229_0:=(HB.out.cell (World.block_lt_of_cell? w _ hx229_0)).trans hx229_0
            replace p229:=eq_true p229
            replace q229:=eq_true q229
            have hnb123:=NB222_207.out
            have hnc123:=NB207_222.out
            have hnb124:=NB222_208.out
            have hnc124:=NB208_222.out
            have hnb125:=NB222_209.out
            have hnc125:=NB209_222.out
            obtain ⟨_,_,_,_,_,_,_,_,_,_⟩:=cells5 BK222.out
            have hnb127:=NB208_207.out
            have hnc127:=NB207_208.out
            have hnb128:=NB208_209.out
            have hnc128:=NB209_208.out
            obtain ⟨_,_,_,_⟩:=cells2 BK208.out
            go_wp2_with (first|(go_at_call 80;(with_reducible refine (water_ground_wet.calls t210 t211 _ _ t212 _ _ t215 _ _ t218 _ _ l1_0 _ _ l1_1 (rd l1_1 x109_5) true _ ?_ ?_ ?_ ?_ ?_ ?_ ?_ ?_ ?_ ?_ A121.out).mono ?_);exact Kd.C_up (Kd.R_reads' HO_223002.out).2.2;exact (Kd.R_reads' HO_223002.out).2.1;exact Kd.C_up (Kd.R_reads' HO_223003.out).2.2;exact (Kd.R_reads' HO_223003.out).2.1;exact Kd.C_up (Kd.R_reads' HO_223004.out).2.2;exact (Kd.R_reads' HO_223004.out).2.1;exact cq HR1_0;exact HC1_0.out;exact cq HR1_1;exact HC1_1.out;rintro e w130 ⟨rfl,hb⟩;replace HO_223002:=rbw HO_223002 hb;replace HO_223003:=rbw HO_223003 hb;replace HO_223004:=rbw HO_223004 hb;replace BK207:=bkb BK207 hb;replace BK208:=bkb BK208 hb;replace BK209:=bkb BK209 hb;replace BK222:=bkb BK222 hb;replace HB:=hbs hb))
            go_roundg k5
            case measure => have:=HK1.out;have:=HK2.out;have:=HK3.out;have:=HK4.out;have:=HK5.out;omega
            case rel => exact ⟨(wrap64 (x109_5 + 1)),(x210000_5),(x210001_5),(by first|rfl|(simp;done)|(simp [*];done)),H',⟨by have:=HK1.out;have:=HK2.out;have:=HK3.out;have:=HK4.out;have:=HK5.out;omega⟩,⟨Kd.R_up HO_223002.out⟩,⟨Kd.R_up HO_223003.out⟩,⟨Kd.R_up HO_223004.out⟩,⟨blk_up BK207.out⟩,⟨blk_up BK208.out⟩,⟨blk_up BK209.out⟩,⟨blk_up BK222.out⟩,⟨hb_⟩⟩
           ·replace c122:=Bool.eq_false_iff.mpr c122
            subst c122
            have H1 : (some (t210,t211,t212,t215,t218,9)) = some (r1,r2,r3,r4,r5,r6):=by rw [if_neg (show ¬ (false = true) by decide)] at H;exact H
            clear H
            have H:=H1
            clear H1
            simp only [Option.some.injEq,Prod.mk.injEq] at H
            obtain ⟨rfl,rfl,rfl,rfl,rfl,rfl⟩:=H
            have p229 : 0 ≤ (x109_5 : Int):=of_decide_eq_true (by first|(with_reducible assumption)|assumption)
            have q229 : x109_5 < (l1_1.length : Int):=of_decide_eq_true (by first|(with_reducible assumption)|assumption)
            obtain ⟨ad229,e229,hx229_0⟩:=Kd.at_int HR1_1.out x109_5 p229 q229
            cases e229
            replace hx229_0:=(HB.out.cell (World.block_lt_of_cell? w _ hx229_0)).trans hx229_0
            replace p229:=eq_true p229
            replace q229:=eq_true q229
            have hnb131:=NB222_207.out
            have hnc131:=NB207_222.out
            have hnb132:=NB222_208.out
            have hnc132:=NB208_222.out
            have hnb133:=NB222_209.out
            have hnc133:=NB209_222.out
            obtain ⟨_,_,_,_,_,_,_,_,_,_⟩:=cells5 BK222.out
            have hnb135:=NB208_207.out
            have hnc135:=NB207_208.out
            have hnb136:=NB208_209.out
            have hnc136:=NB209_208.out
            obtain ⟨_,_,_,_⟩:=cells2 BK208.out
            go_wp2_with (first|(go_at_call 80;(with_reducible refine (water_ground_wet.calls t210 t211 _ _ t212 _ _ t215 _ _ t218 _ _ l1_0 _ _ l1_1 (rd l1_1 x109_5) false _ ?_ ?_ ?_ ?_ ?_ ?_ ?_ ?_ ?_ ?_ A121.out).mono ?_);exact Kd.C_up (Kd.R_reads' HO_223002.out).2.2;exact (Kd.R_reads' HO_223002.out).2.1;exact Kd.C_up (Kd.R_reads' HO_223003.out).2.2;exact (Kd.R_reads' HO_223003.out).2.1;exact Kd.C_up (Kd.R_reads' HO_223004.out).2.2;exact (Kd.R_reads' HO_223004.out).2.1;exact cq HR1_0;exact HC1_0.out;exact cq HR1_1;exact HC1_1.out;rintro e w138 ⟨rfl,hb⟩;replace HO_223002:=rbw HO_223002 hb;replace HO_223003:=rbw HO_223003 hb;replace HO_223004:=rbw HO_223004 hb;replace BK207:=bkb BK207 hb;replace BK208:=bkb BK208 hb;replace BK209:=bkb BK209 hb;replace BK222:=bkb BK222 hb;replace HB:=hbs hb;obtain ⟨_,_,_,_,_,_,_,_,_,_⟩:=cells5 BK222.out;have hnb140:=NB209_207.out;have hnc140:=NB207_209.out;obtain ⟨_,_,_,_,_,_,_,_,_,_⟩:=cells5 BK209.out))
            refine bodyPost_ret (results_ct rfl _ _ gb209 104 #[.int .i64 t210,.int .i64 t211,.slice Ao18 t212.length co18,.slice Ao19 t215.length co19,.slice Ao20 t218.length co20] (0,0) _ rfl (by (with_reducible repeat (first|refine blk_drewN ?_ _|refine blk_drew ?_|refine blk_alloc ?_ _));exact blk_puts5 (blk_up BK209.out)) Try.underlying104 rfl (by kernel_rfl)) rfl ?_
            exact ⟨_,_,_,er_,by (with_reducible repeat (first|apply Kd.R_alloc|apply Kd.R_drewN|apply Kd.R_drew));exact Kd.R_mono (Kd.R_fars gb209 (Kd.R_types HO_223002.out BK209.out (by decide)) (fun _ hk => hk.2)) (fun _ hk => hk.1),by (with_reducible repeat (first|apply Kd.R_alloc|apply Kd.R_drewN|apply Kd.R_drew));exact Kd.R_mono (Kd.R_fars gb209 (Kd.R_types HO_223003.out BK209.out (by decide)) (fun _ hk => hk.2)) (fun _ hk => hk.1),by (with_reducible repeat (first|apply Kd.R_alloc|apply Kd.R_drewN|apply Kd.R_drew));exact Kd.R_mono (Kd.R_fars gb209 (Kd.R_types HO_223004.out BK209.out (by decide)) (fun _ hk => hk.2)) (fun _ hk => trivial),hb_⟩

/-! ### water_Validate: function 56 -/
def water_Validate.f (k : Nat) (a0_0 : Int) (a0_1 : Int) (l0_2 : List Int) (l1_0 : List Int) (l1_1 : List Int) : Option (Int) := (water_check.f k a0_0 a0_1 l0_2 l1_0 l1_1).bind fun bt233 => (some bt233.2.2.2.2.2)
theorem water_Validate.mono : ∀ a0 a1 a2 a3 a4 k, LeO (water_Validate.f k a0 a1 a2 a3 a4) (water_Validate.f (k + 1) a0 a1 a2 a3 a4) := by
 intro a0 a1 a2 a3 a4 k
 unfold water_Validate.f
 repeat' first
   | (with_reducible exact water_check.mono _ _ _ _ _ _)
   | (with_reducible exact LeO.refl _)
   | (with_reducible exact LeO.none _)
   | (with_reducible refine LeO.ite ?_ ?_)
   | (with_reducible refine LeO.bind ?_ (fun _ => ?_))
   | exact water_check.mono _ _ _ _ _ _
   | exact LeO.none _
   | refine LeO.ite ?_ ?_
   | refine LeO.bind ?_ (fun _ => ?_)
set_option maxHeartbeats 8000000 in
set_option maxRecDepth 100000 in
theorem water_Validate.calls (k : Nat) (a0_0 : Int) (a0_1 : Int) (A0_2 : Option Addr) (c0_2 : Nat) (l0_2 : List Int) (A1_0 : Option Addr) (c1_0 : Nat) (l1_0 : List Int) (A1_1 : Option Addr) (c1_1 : Nat) (l1_1 : List Int) (r : Int) (w : World) (hr0_2 : Kd.C (Kd.int .i64) w A0_2 l0_2.length l0_2) (hc0_2 : l0_2.length ≤ c0_2) (hr1_0 : Kd.C (Kd.int .i64) w A1_0 l1_0.length l1_0) (hc1_0 : l1_0.length ≤ c1_0) (hr1_1 : Kd.C (Kd.int .i64) w A1_1 l1_1.length l1_1) (hc1_1 : l1_1.length ≤ c1_1) (h : water_Validate.f k a0_0 a0_1 l0_2 l1_0 l1_1 = some r) :
  Calls Try.prog 56 #[.agg #[.int .i64 a0_0,.int .i64 a0_1,.slice A0_2 l0_2.length c0_2],.agg #[.slice A1_0 l1_0.length c1_0,.slice A1_1 l1_1.length c1_1]] w fun e w' => e = .returned (.int .i64 r) ∧ Below w.heap.size w w':=by
 have hu53:=Try.underlying53
 have hu55:=Try.underlying55
 have hu104:=Try.underlying104
 have HR0_2:=Aside0.mk hr0_2
 have HC0_2:=Aside0.mk hc0_2
 clear hr0_2 hc0_2
 have HR1_0:=Aside0.mk hr1_0
 have HC1_0:=Aside0.mk hc1_0
 clear hr1_0 hc1_0
 have HR1_1:=Aside0.mk hr1_1
 have HC1_1:=Aside0.mk hc1_1
 clear hr1_1 hc1_1
 have HB:=Aside0.mk (Below.refl w.heap.size w)
 have H : ((water_check.f k a0_0 a0_1 l0_2 l1_0 l1_1).bind fun bt233 => (some bt233.2.2.2.2.2)) = some r:=h
 clear h
 replace H:=Option.bind_eq_some_iff.mp H
 obtain ⟨⟨t233,t234,t235,t238,t241,t244⟩,A30,H⟩:=H
 replace H : (some t244) = some r:=H
 have A3:=Aside0.mk A30
 clear A30
 obtain rfl:=Option.some.inj H
 go_enter Try.func56,Try.ntmps56
 go_wp2_with (first|((with_reducible refine gate_dst (N:=2) rfl ?_);refine box_ev (N:=2) (cs:=#[.int .i64 a0_0,.int .i64 a0_1,.slice A0_2 l0_2.length c0_2]) (t:=53) ?_;intro gb231 hg w4 hbox hb;have BK231:=Aside0.mk (hbox);have GW231 : Aside0 (w.heap.size ≤ gb231):=gsz hg;have GE231:=GW231;replace HB:=hbs hb;clear hb hbox hg)|((with_reducible refine gate_dst (N:=3) rfl ?_);refine box_ev (N:=3) (cs:=#[.slice A1_0 l1_0.length c1_0,.slice A1_1 l1_1.length c1_1]) (t:=55) ?_;intro gb232 hg w5 hbox hb;have BK232:=Aside0.mk (hbox);have GW232 : Aside0 (w.heap.size ≤ gb232):=gsz hg;have GE232:=GW232;have NB231_232:=nbl BK231 hg;have NB232_231:=nbr BK231 hg;replace BK231:=bkb BK231 hb;replace HB:=hbs hb;clear hb hbox hg;have hnb6:=NB231_232.out;have hnc6:=NB232_231.out;obtain ⟨_,_,_,_,_,_⟩:=cells3 BK231.out;obtain ⟨_,_,_,_⟩:=cells2 BK232.out)|((with_reducible refine gate_callee (f:=79) rfl ?_);refine goesL_ (some 10) rfl rfl Try.func79 (by kernel_rfl) rfl #[.agg #[.int .i64 a0_0,.int .i64 a0_1,.slice A0_2 l0_2.length c0_2],.agg #[.slice A1_0 l1_0.length c1_0,.slice A1_1 l1_1.length c1_1]] rfl ga_ ?_;(with_reducible refine (water_check.calls k a0_0 a0_1 _ _ l0_2 _ _ l1_0 _ _ l1_1 t233 t234 t235 t238 t241 t244 _ ?_ ?_ ?_ ?_ ?_ ?_ A3.out).mono ?_);exact cq HR0_2;exact HC0_2.out;exact cq HR1_0;exact HC1_0.out;exact cq HR1_1;exact HC1_1.out;rintro e w9 ⟨v236,v239,v242,rfl,ho0,ho1,ho2,hb⟩;refine ⟨_,rfl,?_⟩;have HO237:=rlo ho0;have HO240:=rlo ho1;have HO243:=rlo ho2;replace BK231:=bkb BK231 hb;replace BK232:=bkb BK232 hb;replace HB:=hbs hb)|((with_reducible refine gate_dst (N:=5) rfl ?_);refine box_ev (N:=5) (cs:=#[.int .i64 0,.int .i64 0,.slice none 0 0,.slice none 0 0,.slice none 0 0]) (t:=104) ?_;intro gb245 hg w10 hbox hb;have BK245:=Aside0.mk (hbox);have GW245 : Aside0 (w.heap.size ≤ gb245):=gsz hg;have GE245:=GW245;have NB231_245:=nbl BK231 hg;have NB245_231:=nbr BK231 hg;have NB232_245:=nbl BK232 hg;have NB245_232:=nbr BK232 hg;replace HO237:=rbw HO237 hb;replace HO240:=rbw HO240 hb;replace HO243:=rbw HO243 hb;replace BK231:=bkb BK231 hb;replace BK232:=bkb BK232 hb;replace HB:=hbs hb;clear hb hbox hg;have hnb11:=NB245_231.out;have hnc11:=NB231_245.out;have hnb12:=NB245_232.out;have hnc12:=NB232_245.out;obtain ⟨_,_,_,_,_,_,_,_,_,_⟩:=cells5 BK245.out;obtain ⟨Ao14,co14,eo14⟩:=Kd.R_slice HO237.out;subst eo14;obtain ⟨Ao15,co15,eo15⟩:=Kd.R_slice HO240.out;subst eo15;obtain ⟨Ao16,co16,eo16⟩:=Kd.R_slice HO243.out;subst eo16))
 go_ret
 exact ⟨er_,hb_⟩

/-! ### water_ground_beyond: function 82 -/
mutual
def water_ground_beyond.j0 : Nat → Int → Int → Int → Int → List Int → List Int → List Bool → Option (Int)
 | 0,_,_,_,_,_,_,_ => none
 | k + 1,x7,x8,x247000,x247001,x247002,x247003,x247004 => if x7 < 0 then (water_ground_beyond.j1 k x7 x8 true x247000 x247001 x247002 x247003 x247004) else (if x7 ≥ x247000 then (water_ground_beyond.j1 k x7 x8 true x247000 x247001 x247002 x247003 x247004) else (if x8 < 0 then (water_ground_beyond.j1 k x7 x8 true x247000 x247001 x247002 x247003 x247004) else (water_ground_beyond.j1 k x7 x8 (decide (x8 ≥ x247001)) x247000 x247001 x247002 x247003 x247004)))
def water_ground_beyond.j1 : Nat → Int → Int → Bool → Int → Int → List Int → List Int → List Bool → Option (Int)
 | 0,_,_,_,_,_,_,_,_ => none
 | k + 1,x7,x8,x49,x247000,x247001,x247002,x247003,x247004 => if x49 = true then (some (-1)) else (some (wrap64 ((wrap64 (x8 * x247000)) + x7)))
end
def water_ground_beyond.f (k : Nat) (a0_0 : Int) (a0_1 : Int) (l0_2 : List Int) (l0_3 : List Int) (l0_4 : List Bool) (a1 : Int) (a2 : Int) : Option (Int) := if a0_0 = 0 then (none) else (if a2 = 0 then (water_ground_beyond.j0 k (wrap64 ((Int.tmod a1 a0_0) + 1)) (wrap64 (Int.tdiv a1 a0_0)) a0_0 a0_1 l0_2 l0_3 l0_4) else (if a2 = 1 then (water_ground_beyond.j0 k (Int.tmod a1 a0_0) (wrap64 ((wrap64 (Int.tdiv a1 a0_0)) + 1)) a0_0 a0_1 l0_2 l0_3 l0_4) else (if a2 = 2 then (water_ground_beyond.j0 k (wrap64 ((Int.tmod a1 a0_0) - 1)) (wrap64 (Int.tdiv a1 a0_0)) a0_0 a0_1 l0_2 l0_3 l0_4) else (water_ground_beyond.j0 k (Int.tmod a1 a0_0) (wrap64 ((wrap64 (Int.tdiv a1 a0_0)) - 1)) a0_0 a0_1 l0_2 l0_3 l0_4))))
theorem water_ground_beyond.mono_l : ∀ k, (∀ y0 y1 y2 y3 y4 y5 y6, LeO (water_ground_beyond.j0 k y0 y1 y2 y3 y4 y5 y6) (water_ground_beyond.j0 (k + 1) y0 y1 y2 y3 y4 y5 y6)) ∧ (∀ y0 y1 y2 y3 y4 y5 y6 y7, LeO (water_ground_beyond.j1 k y0 y1 y2 y3 y4 y5 y6 y7) (water_ground_beyond.j1 (k + 1) y0 y1 y2 y3 y4 y5 y6 y7))
 | 0 => ⟨fun _ _ _ _ _ _ _ r h => by simp [water_ground_beyond.j0] at h,fun _ _ _ _ _ _ _ _ r h => by simp [water_ground_beyond.j1] at h⟩
 | k + 1 => by
  obtain ⟨ih0,ih1⟩:=water_ground_beyond.mono_l k
  refine ⟨?_,?_⟩
  ·intro y0 y1 y2 y3 y4 y5 y6
   unfold water_ground_beyond.j0
   repeat' first
   | (with_reducible exact ih0 _ _ _ _ _ _ _)
   | (with_reducible exact ih1 _ _ _ _ _ _ _ _)
   | (with_reducible exact LeO.refl _)
   | (with_reducible exact LeO.none _)
   | (with_reducible refine LeO.ite ?_ ?_)
   | (with_reducible refine LeO.bind ?_ (fun _ => ?_))
   | exact ih0 _ _ _ _ _ _ _
   | exact ih1 _ _ _ _ _ _ _ _
   | exact LeO.none _
   | refine LeO.ite ?_ ?_
   | refine LeO.bind ?_ (fun _ => ?_)
  ·intro y0 y1 y2 y3 y4 y5 y6 y7
   unfold water_ground_beyond.j1
   repeat' first
   | (with_reducible exact ih0 _ _ _ _ _ _ _)
   | (with_reducible exact ih1 _ _ _ _ _ _ _ _)
   | (with_reducible exact LeO.refl _)
   | (with_reducible exact LeO.none _)
   | (with_reducible refine LeO.ite ?_ ?_)
   | (with_reducible refine LeO.bind ?_ (fun _ => ?_))
   | exact ih0 _ _ _ _ _ _ _
   | exact ih1 _ _ _ _ _ _ _ _
   | exact LeO.none _
   | refine LeO.ite ?_ ?_
   | refine LeO.bind ?_ (fun _ => ?_)
theorem water_ground_beyond.mono : ∀ a0 a1 a2 a3 a4 a5 a6 k, LeO (water_ground_beyond.f k a0 a1 a2 a3 a4 a5 a6) (water_ground_beyond.f (k + 1) a0 a1 a2 a3 a4 a5 a6) := by
 intro a0 a1 a2 a3 a4 a5 a6 k
 obtain ⟨ih0,ih1⟩:=water_ground_beyond.mono_l k
 unfold water_ground_beyond.f
 repeat' first
   | (with_reducible exact ih0 _ _ _ _ _ _ _)
   | (with_reducible exact ih1 _ _ _ _ _ _ _ _)
   | (with_reducible exact LeO.refl _)
   | (with_reducible exact LeO.none _)
   | (with_reducible refine LeO.ite ?_ ?_)
   | (with_reducible refine LeO.bind ?_ (fun _ => ?_))
   | exact ih0 _ _ _ _ _ _ _
   | exact ih1 _ _ _ _ _ _ _ _
   | exact LeO.none _
   | refine LeO.ite ?_ ?_
   | refine LeO.bind ?_ (fun _ => ?_)
set_option maxHeartbeats 8000000 in
set_option maxRecDepth 100000 in
theorem water_ground_beyond.calls (k : Nat) (a0_0 : Int) (a0_1 : Int) (A0_2 : Option Addr) (c0_2 : Nat) (l0_2 : List Int) (A0_3 : Option Addr) (c0_3 : Nat) (l0_3 : List Int) (A0_4 : Option Addr) (c0_4 : Nat) (l0_4 : List Bool) (a1 : Int) (a2 : Int) (r : Int) (w : World) (hr0_2 : Kd.C (Kd.int .i64) w A0_2 l0_2.length l0_2) (hc0_2 : l0_2.length ≤ c0_2) (hr0_3 : Kd.C (Kd.int .i64) w A0_3 l0_3.length l0_3) (hc0_3 : l0_3.length ≤ c0_3) (hr0_4 : Kd.C Kd.bool w A0_4 l0_4.length l0_4) (hc0_4 : l0_4.length ≤ c0_4) (h : water_ground_beyond.f k a0_0 a0_1 l0_2 l0_3 l0_4 a1 a2 = some r) :
  Calls Try.prog 82 #[.agg #[.int .i64 a0_0,.int .i64 a0_1,.slice A0_2 l0_2.length c0_2,.slice A0_3 l0_3.length c0_3,.slice A0_4 l0_4.length c0_4],.int .i64 a1,.int .i64 a2] w fun e w' => e = .returned (.int .i64 r) ∧ Below w.heap.size w w':=by
 have hu104:=Try.underlying104
 have HR0_2:=Aside0.mk hr0_2
 have HC0_2:=Aside0.mk hc0_2
 clear hr0_2 hc0_2
 have HR0_3:=Aside0.mk hr0_3
 have HC0_3:=Aside0.mk hc0_3
 clear hr0_3 hc0_3
 have HR0_4:=Aside0.mk hr0_4
 have HC0_4:=Aside0.mk hc0_4
 clear hr0_4 hc0_4
 have HB:=Aside0.mk (Below.refl w.heap.size w)
 have H : (if a0_0 = 0 then (none) else (if a2 = 0 then (water_ground_beyond.j0 k (wrap64 ((Int.tmod a1 a0_0) + 1)) (wrap64 (Int.tdiv a1 a0_0)) a0_0 a0_1 l0_2 l0_3 l0_4) else (if a2 = 1 then (water_ground_beyond.j0 k (Int.tmod a1 a0_0) (wrap64 ((wrap64 (Int.tdiv a1 a0_0)) + 1)) a0_0 a0_1 l0_2 l0_3 l0_4) else (if a2 = 2 then (water_ground_beyond.j0 k (wrap64 ((Int.tmod a1 a0_0) - 1)) (wrap64 (Int.tdiv a1 a0_0)) a0_0 a0_1 l0_2 l0_3 l0_4) else (water_ground_beyond.j0 k (Int.tmod a1 a0_0) (wrap64 ((wrap64 (Int.tdiv a1 a0_0)) - 1)) a0_0 a0_1 l0_2 l0_3 l0_4))))) = some r:=h
 clear h
 replace H:=ifn_ H;obtain ⟨c4,H⟩:=H
 have c4b0 : (a0_0 == 0) = false:=beq_eq_false_iff_ne.mpr c4
 have c4b1 : (a0_0 != 0) = true:=bne_iff_ne.mpr c4
 have HC5:=Aside0.mk H
 clear H
 go_enter Try.func82,Try.ntmps82
 go_wp2_with (first|((with_reducible refine gate_dst (N:=3) rfl ?_);refine box_ev (N:=3) (cs:=#[.int .i64 a0_0,.int .i64 a0_1,.slice A0_2 l0_2.length c0_2,.slice A0_3 l0_3.length c0_3,.slice A0_4 l0_4.length c0_4]) (t:=104) ?_;intro gb246 hg w6 hbox hb;have BK246:=Aside0.mk (hbox);have GW246 : Aside0 (w.heap.size ≤ gb246):=gsz hg;have GE246:=GW246;replace HB:=hbs hb;clear hb hbox hg;obtain ⟨_,_,_,_,_,_,_,_,_,_⟩:=cells5 BK246.out))
 go_quiet (fail)
 go_upto_block 0 with (fail)
 (try simp only [Act.put,List.setIfInBounds_toArray,List.set_cons_zero,List.set_cons_succ])
 go_cut [7,8] (fun v7 v8 wc => ∃ (kq : Nat) (x7_4 : Int) (x8_4 : Int),v7 = .int .i64 x7_4 ∧ v8 = .int .i64 x8_4 ∧ Aside0 (water_ground_beyond.j0 kq x7_4 x8_4 a0_0 a0_1 l0_2 l0_3 l0_4 = some r) ∧ Aside0 (kq ≤ k) ∧ Aside0 (wc.heap[gb246]? = some (.cells #[.int .i64 a0_0,.int .i64 a0_1,(.slice A0_2 l0_2.length c0_2),(.slice A0_3 l0_3.length c0_3),(.slice A0_4 l0_4.length c0_4)] 104 (0,0))) ∧ Aside0 (Below w.heap.size w wc))
 case first =>
  have H:=HC5.out
  clear HC5
  by_cases c8 : a2 = 0
  ·rw [if_pos c8] at H
   have c8b0:=bqt c8
   have c8b1:=bnf c8
   clear c8
   (first|rw [c8b0]|(simp only [i64_w,i32_w];rw [c8b0])|skip)
   have H':=Aside0.mk H
   clear H
   go_wp2
   go_meet
   case rel => exact ⟨_,(wrap64 ((Int.tmod a1 a0_0) + 1)),(wrap64 (Int.tdiv a1 a0_0)),(by first|rfl|(simp;done)|(simp [*];done)),(by first|rfl|(simp;done)|(simp [*];done)),H',⟨by first|omega|exact Nat.le_refl _⟩,⟨blk_up BK246.out⟩,⟨hb_⟩⟩
  rw [if_neg c8] at H
  have c8b0:=bqf c8
  have c8b1:=bnt c8
  (first|rw [c8b0]|(simp only [i64_w,i32_w];rw [c8b0])|skip)
  by_cases c9 : a2 = 1
  ·rw [if_pos c9] at H
   have c9b0:=bqt c9
   have c9b1:=bnf c9
   clear c9
   have H':=Aside0.mk H
   clear H
   go_wp2
   go_meet
   case rel => exact ⟨_,(Int.tmod a1 a0_0),(wrap64 ((wrap64 (Int.tdiv a1 a0_0)) + 1)),(by first|rfl|(simp;done)|(simp [*];done)),(by first|rfl|(simp;done)|(simp [*];done)),H',⟨by first|omega|exact Nat.le_refl _⟩,⟨blk_up BK246.out⟩,⟨hb_⟩⟩
  ·rw [if_neg c9] at H
   have c9b0:=bqf c9
   have c9b1:=bnt c9
   by_cases c10 : a2 = 2
   ·rw [if_pos c10] at H
    have c10b0:=bqt c10
    have c10b1:=bnf c10
    clear c10
    have H':=Aside0.mk H
    clear H
    go_wp2
    go_meet
    case rel => exact ⟨_,(wrap64 ((Int.tmod a1 a0_0) - 1)),(wrap64 (Int.tdiv a1 a0_0)),(by first|rfl|(simp;done)|(simp [*];done)),(by first|rfl|(simp;done)|(simp [*];done)),H',⟨by first|omega|exact Nat.le_refl _⟩,⟨blk_up BK246.out⟩,⟨hb_⟩⟩
   ·rw [if_neg c10] at H
    have c10b0:=bqf c10
    have c10b1:=bnt c10
    have H':=Aside0.mk H
    clear H
    go_wp2
    go_meet
    case rel => exact ⟨_,(Int.tmod a1 a0_0),(wrap64 ((wrap64 (Int.tdiv a1 a0_0)) - 1)),(by first|rfl|(simp;done)|(simp [*];done)),(by first|rfl|(simp;done)|(simp [*];done)),H',⟨by first|omega|exact Nat.le_refl _⟩,⟨blk_up BK246.out⟩,⟨hb_⟩⟩
 case rest =>
  clear HC5
  obtain ⟨kq,x7_4,x8_4,rfl,rfl,HA,HJ4,BK246,HB⟩:=hcut
  cases kq with
  | zero => exact absurd HA.out (by simp [water_ground_beyond.j0])
  | succ kj4 =>
   have H:=HA.out
   clear HA
   simp only [water_ground_beyond.j0] at H
   have HC11:=Aside0.mk H
   clear H
   go_upto_region 10 with (fail)
   go_cut [49] (fun v49 wc => ∃ (kq : Nat) (x49_10 : Bool),v49 = .bool x49_10 ∧ Aside0 (water_ground_beyond.j1 kq x7_4 x8_4 x49_10 a0_0 a0_1 l0_2 l0_3 l0_4 = some r) ∧ Aside0 (kq ≤ kj4) ∧ Aside0 (wc.heap[gb246]? = some (.cells #[.int .i64 a0_0,.int .i64 a0_1,(.slice A0_2 l0_2.length c0_2),(.slice A0_3 l0_3.length c0_3),(.slice A0_4 l0_4.length c0_4)] 104 (0,0))) ∧ Aside0 (Below w.heap.size w wc))
   case first =>
    have H:=HC11.out
    clear HC11
    by_cases c12 : x7_4 < 0
    ·rw [if_pos c12] at H
     have c12b0 : decide (x7_4 < 0) = true:=decide_eq_true c12
     clear c12
     (first|rw [c12b0]|(simp only [i64_w,i32_w];rw [c12b0])|skip)
     have H':=Aside0.mk H
     clear H
     go_wp2
     go_meet
     case rel => exact ⟨_,(true),(by first|rfl|(simp;done)|(simp [*];done)),H',⟨by have:=HJ4.out;first|omega|exact Nat.le_refl _⟩,⟨blk_up BK246.out⟩,⟨hb_⟩⟩
    rw [if_neg c12] at H
    have c12b0 : decide (x7_4 < 0) = false:=decide_eq_false c12
    clear c12
    (first|rw [c12b0]|(simp only [i64_w,i32_w];rw [c12b0])|skip)
    by_cases c13 : x7_4 ≥ a0_0
    ·rw [if_pos c13] at H
     have c13b0 : decide (a0_0 ≤ x7_4) = true:=decide_eq_true c13
     clear c13
     have H':=Aside0.mk H
     clear H
     obtain ⟨_,_,_,_,_,_,_,_,_,_⟩:=cells5 BK246.out
     go_wp2
     go_meet
     case rel => exact ⟨_,(true),(by first|rfl|(simp;done)|(simp [*];done)),H',⟨by have:=HJ4.out;first|omega|exact Nat.le_refl _⟩,⟨blk_up BK246.out⟩,⟨hb_⟩⟩
    ·rw [if_neg c13] at H
     have c13b0 : decide (a0_0 ≤ x7_4) = false:=decide_eq_false c13
     clear c13
     by_cases c15 : x8_4 < 0
     ·rw [if_pos c15] at H
      have c15b0 : decide (x8_4 < 0) = true:=decide_eq_true c15
      clear c15
      have H':=Aside0.mk H
      clear H
      obtain ⟨_,_,_,_,_,_,_,_,_,_⟩:=cells5 BK246.out
      go_wp2
      go_meet
      case rel => exact ⟨_,(true),(by first|rfl|(simp;done)|(simp [*];done)),H',⟨by have:=HJ4.out;first|omega|exact Nat.le_refl _⟩,⟨blk_up BK246.out⟩,⟨hb_⟩⟩
     ·rw [if_neg c15] at H
      have c15b0 : decide (x8_4 < 0) = false:=decide_eq_false c15
      clear c15
      have H':=Aside0.mk H
      clear H
      obtain ⟨_,_,_,_,_,_,_,_,_,_⟩:=cells5 BK246.out
      go_wp2
      go_meet
      case rel => exact ⟨_,(decide (x8_4 ≥ a0_1)),(by first|rfl|(simp;done)|(simp [*];done)),H',⟨by have:=HJ4.out;first|omega|exact Nat.le_refl _⟩,⟨blk_up BK246.out⟩,⟨hb_⟩⟩
   case rest =>
    clear HC11
    obtain ⟨kq,x49_10,rfl,HA,HJ10,BK246,HB⟩:=hcut
    cases kq with
    | zero => exact absurd HA.out (by simp [water_ground_beyond.j1])
    | succ kj10 =>
     have H:=HA.out
     clear HA
     simp only [water_ground_beyond.j1] at H
     by_cases c18 : x49_10 = true
     ·subst c18
      have H1 : (some (-1)) = some r:=by rw [if_pos rfl] at H;exact H
      clear H
      have H:=H1
      clear H1
      obtain rfl:=Option.some.inj H
      go_wp2
      go_ret
      exact ⟨er_,hb_⟩
     ·replace c18:=Bool.eq_false_iff.mpr c18
      subst c18
      have H1 : (some (wrap64 ((wrap64 (x8_4 * a0_0)) + x7_4))) = some r:=by rw [if_neg (show ¬ (false = true) by decide)] at H;exact H
      clear H
      have H:=H1
      clear H1
      obtain rfl:=Option.some.inj H
      obtain ⟨_,_,_,_,_,_,_,_,_,_⟩:=cells5 BK246.out
      go_wp2
      go_ret
      exact ⟨er_,hb_⟩

/-! ### water_ground_level: function 97 -/
def water_ground_level.f (a0_0 : Int) (a0_1 : Int) (l0_2 : List Int) (l0_3 : List Int) (l0_4 : List Bool) (a1 : Int) : Option (Int) := if 0 ≤ a1 then (if a1 < (l0_4.length : Int) then (if rdOf false l0_4 a1 = true then (some 2) else (if a1 < (l0_3.length : Int) then (some (rd l0_3 a1)) else (none))) else (none)) else (none)
set_option maxHeartbeats 8000000 in
set_option maxRecDepth 100000 in
theorem water_ground_level.calls (a0_0 : Int) (a0_1 : Int) (A0_2 : Option Addr) (c0_2 : Nat) (l0_2 : List Int) (A0_3 : Option Addr) (c0_3 : Nat) (l0_3 : List Int) (A0_4 : Option Addr) (c0_4 : Nat) (l0_4 : List Bool) (a1 : Int) (r : Int) (w : World) (hr0_2 : Kd.C (Kd.int .i64) w A0_2 l0_2.length l0_2) (hc0_2 : l0_2.length ≤ c0_2) (hr0_3 : Kd.C (Kd.int .i64) w A0_3 l0_3.length l0_3) (hc0_3 : l0_3.length ≤ c0_3) (hr0_4 : Kd.C Kd.bool w A0_4 l0_4.length l0_4) (hc0_4 : l0_4.length ≤ c0_4) (h : water_ground_level.f a0_0 a0_1 l0_2 l0_3 l0_4 a1 = some r) :
  Calls Try.prog 97 #[.agg #[.int .i64 a0_0,.int .i64 a0_1,.slice A0_2 l0_2.length c0_2,.slice A0_3 l0_3.length c0_3,.slice A0_4 l0_4.length c0_4],.int .i64 a1] w fun e w' => e = .returned (.int .i64 r) ∧ Below w.heap.size w w':=by
 have hu104:=Try.underlying104
 have HR0_2:=Aside0.mk hr0_2
 have HC0_2:=Aside0.mk hc0_2
 clear hr0_2 hc0_2
 have HR0_3:=Aside0.mk hr0_3
 have HC0_3:=Aside0.mk hc0_3
 clear hr0_3 hc0_3
 have HR0_4:=Aside0.mk hr0_4
 have HC0_4:=Aside0.mk hc0_4
 clear hr0_4 hc0_4
 have HB:=Aside0.mk (Below.refl w.heap.size w)
 have H : (if 0 ≤ a1 then (if a1 < (l0_4.length : Int) then (if rdOf false l0_4 a1 = true then (some 2) else (if a1 < (l0_3.length : Int) then (some (rd l0_3 a1)) else (none))) else (none)) else (none)) = some r:=h
 clear h
 replace H:=ifp_ H;obtain ⟨c3,H⟩:=H
 have c3b0 : decide (0 ≤ a1) = true:=decide_eq_true c3
 clear c3
 replace H:=ifp_ H;obtain ⟨c4,H⟩:=H
 have c4b0 : decide (a1 < (l0_4.length : Int)) = true:=decide_eq_true c4
 clear c4
 obtain ⟨bq5,hbq5⟩ : ∃ b_ : Bool,b_ = (rdOf false l0_4 a1):=⟨_,rfl⟩
 replace H : (if bq5 = true then (some 2) else (if a1 < (l0_3.length : Int) then (some (rd l0_3 a1)) else (none))) = some r:=by rw [← hbq5] at H;exact H
 have Nbq5:=Aside0.mk hbq5
 clear hbq5
 by_cases c6 : bq5 = true
 ·subst c6
  have H1 : (some 2) = some r:=by rw [if_pos rfl] at H;exact H
  clear H
  have H:=H1
  clear H1
  obtain rfl:=Option.some.inj H
  go_enter Try.func97,Try.ntmps97
  go_wp2_with (first|((with_reducible refine gate_dst (N:=2) rfl ?_);refine box_ev (N:=2) (cs:=#[.int .i64 a0_0,.int .i64 a0_1,.slice A0_2 l0_2.length c0_2,.slice A0_3 l0_3.length c0_3,.slice A0_4 l0_4.length c0_4]) (t:=104) ?_;intro gb247 hg w7 hbox hb;have BK247:=Aside0.mk (hbox);have GW247 : Aside0 (w.heap.size ≤ gb247):=gsz hg;have GE247:=GW247;replace HB:=hbs hb;clear hb hbox hg;obtain ⟨_,_,_,_,_,_,_,_,_,_⟩:=cells5 BK247.out;have p248 : 0 ≤ (a1 : Int):=of_decide_eq_true (by first|(with_reducible assumption)|assumption);have q248 : a1 < (l0_4.length : Int):=of_decide_eq_true (by first|(with_reducible assumption)|assumption);obtain ⟨ad248,e248,hx248_0⟩:=Kd.at_bool HR0_4.out a1 p248 q248;(try rw [← Nbq5.out] at hx248_0);cases e248;replace hx248_0:=(HB.out.cell (World.block_lt_of_cell? w _ hx248_0)).trans hx248_0;replace p248:=eq_true p248;replace q248:=eq_true q248))
  go_ret
  exact ⟨er_,hb_⟩
 ·replace c6:=Bool.eq_false_iff.mpr c6
  subst c6
  have H1 : (if a1 < (l0_3.length : Int) then (some (rd l0_3 a1)) else (none)) = some r:=by rw [if_neg (show ¬ (false = true) by decide)] at H;exact H
  clear H
  have H:=H1
  clear H1
  replace H:=ifp_ H;obtain ⟨c9,H⟩:=H
  have c9b0 : decide (a1 < (l0_3.length : Int)) = true:=decide_eq_true c9
  clear c9
  obtain rfl:=Option.some.inj H
  go_enter Try.func97,Try.ntmps97
  go_wp2_with (first|((with_reducible refine gate_dst (N:=2) rfl ?_);refine box_ev (N:=2) (cs:=#[.int .i64 a0_0,.int .i64 a0_1,.slice A0_2 l0_2.length c0_2,.slice A0_3 l0_3.length c0_3,.slice A0_4 l0_4.length c0_4]) (t:=104) ?_;intro gb247 hg w10 hbox hb;have BK247:=Aside0.mk (hbox);have GW247 : Aside0 (w.heap.size ≤ gb247):=gsz hg;have GE247:=GW247;replace HB:=hbs hb;clear hb hbox hg;obtain ⟨_,_,_,_,_,_,_,_,_,_⟩:=cells5 BK247.out;have p248 : 0 ≤ (a1 : Int):=of_decide_eq_true (by first|(with_reducible assumption)|assumption);have q248 : a1 < (l0_4.length : Int):=of_decide_eq_true (by first|(with_reducible assumption)|assumption);obtain ⟨ad248,e248,hx248_0⟩:=Kd.at_bool HR0_4.out a1 p248 q248;(try rw [← Nbq5.out] at hx248_0);cases e248;replace hx248_0:=(HB.out.cell (World.block_lt_of_cell? w _ hx248_0)).trans hx248_0;replace p248:=eq_true p248;replace q248:=eq_true q248;have p249 : 0 ≤ (a1 : Int):=of_decide_eq_true (by first|(with_reducible assumption)|assumption);have q249 : a1 < (l0_3.length : Int):=of_decide_eq_true (by first|(with_reducible assumption)|assumption);obtain ⟨ad249,e249,hx249_0⟩:=Kd.at_int HR0_3.out a1 p249 q249;cases e249;replace hx249_0:=(HB.out.cell (World.block_lt_of_cell? w _ hx249_0)).trans hx249_0;replace p249:=eq_true p249;replace q249:=eq_true q249))
  go_ret
  exact ⟨er_,hb_⟩

/-! ### water_upper: function 105 -/
def water_upper.f (a0 : Int) : Option (Int) := if a0 = 6 then (some 0) else (if a0 = 12 then (some 1) else (if a0 = 9 then (some 2) else (some 3)))
set_option maxHeartbeats 8000000 in
set_option maxRecDepth 100000 in
theorem water_upper.calls (a0 : Int) (r : Int) (w : World) (h : water_upper.f a0 = some r) :
  Calls Try.prog 105 #[.int .i64 a0] w fun e w' => e = .returned (.int .i64 r) ∧ Drawn0 w w':=by
 have H : (if a0 = 6 then (some 0) else (if a0 = 12 then (some 1) else (if a0 = 9 then (some 2) else (some 3)))) = some r:=h
 clear h
 by_cases c2 : a0 = 6
 ·rw [if_pos c2] at H
  have c2b0:=bqt c2
  have c2b1:=bnf c2
  clear c2
  obtain rfl:=Option.some.inj H
  go_enter Try.func105,Try.ntmps105
  go_wp2
  go_ret
  exact ⟨by first|rfl|(simp;done)|(simp [*];done),by repeat (first|exact Drawn0.refl _|apply Drawn0.step)⟩
 rw [if_neg c2] at H
 have c2b0:=bqf c2
 have c2b1:=bnt c2
 by_cases c3 : a0 = 12
 ·rw [if_pos c3] at H
  have c3b0:=bqt c3
  have c3b1:=bnf c3
  clear c3
  obtain rfl:=Option.some.inj H
  go_enter Try.func105,Try.ntmps105
  go_wp2
  go_ret
  exact ⟨by first|rfl|(simp;done)|(simp [*];done),by repeat (first|exact Drawn0.refl _|apply Drawn0.step)⟩
 ·rw [if_neg c3] at H
  have c3b0:=bqf c3
  have c3b1:=bnt c3
  by_cases c4 : a0 = 9
  ·rw [if_pos c4] at H
   have c4b0:=bqt c4
   have c4b1:=bnf c4
   clear c4
   obtain rfl:=Option.some.inj H
   go_enter Try.func105,Try.ntmps105
   go_wp2
   go_ret
   exact ⟨by first|rfl|(simp;done)|(simp [*];done),by repeat (first|exact Drawn0.refl _|apply Drawn0.step)⟩
  ·rw [if_neg c4] at H
   have c4b0:=bqf c4
   have c4b1:=bnt c4
   obtain rfl:=Option.some.inj H
   go_enter Try.func105,Try.ntmps105
   go_wp2
   go_ret
   exact ⟨by first|rfl|(simp;done)|(simp [*];done),by repeat (first|exact Drawn0.refl _|apply Drawn0.step)⟩

/-! ### water_ground_through: function 96 -/
def water_ground_through.f (a0_0 : Int) (a0_1 : Int) (l0_2 : List Int) (l0_3 : List Int) (l0_4 : List Bool) (a1 : Int) (a2 : Int) (a3 : Int) : Option (Bool) := if 0 ≤ a1 then (if a1 < (l0_2.length : Int) then ((water_upper.f (rd l0_2 a1)).bind fun t252 => (if a2 = t252 then ((water_ground_level.f a0_0 a0_1 l0_2 l0_3 l0_4 a1).bind fun t253 => (some (a3 == (wrap64 (t253 + 1))))) else (if a2 = (Int.tmod (wrap64 (t252 + 2)) 4) then ((water_ground_level.f a0_0 a0_1 l0_2 l0_3 l0_4 a1).bind fun t254 => (some (a3 == t254))) else (some false)))) else (none)) else (none)
set_option maxHeartbeats 8000000 in
set_option maxRecDepth 100000 in
theorem water_ground_through.calls (a0_0 : Int) (a0_1 : Int) (A0_2 : Option Addr) (c0_2 : Nat) (l0_2 : List Int) (A0_3 : Option Addr) (c0_3 : Nat) (l0_3 : List Int) (A0_4 : Option Addr) (c0_4 : Nat) (l0_4 : List Bool) (a1 : Int) (a2 : Int) (a3 : Int) (r : Bool) (w : World) (hr0_2 : Kd.C (Kd.int .i64) w A0_2 l0_2.length l0_2) (hc0_2 : l0_2.length ≤ c0_2) (hr0_3 : Kd.C (Kd.int .i64) w A0_3 l0_3.length l0_3) (hc0_3 : l0_3.length ≤ c0_3) (hr0_4 : Kd.C Kd.bool w A0_4 l0_4.length l0_4) (hc0_4 : l0_4.length ≤ c0_4) (h : water_ground_through.f a0_0 a0_1 l0_2 l0_3 l0_4 a1 a2 a3 = some r) :
  Calls Try.prog 96 #[.agg #[.int .i64 a0_0,.int .i64 a0_1,.slice A0_2 l0_2.length c0_2,.slice A0_3 l0_3.length c0_3,.slice A0_4 l0_4.length c0_4],.int .i64 a1,.int .i64 a2,.int .i64 a3] w fun e w' => e = .returned (.bool r) ∧ Below w.heap.size w w':=by
 have hu104:=Try.underlying104
 have HR0_2:=Aside0.mk hr0_2
 have HC0_2:=Aside0.mk hc0_2
 clear hr0_2 hc0_2
 have HR0_3:=Aside0.mk hr0_3
 have HC0_3:=Aside0.mk hc0_3
 clear hr0_3 hc0_3
 have HR0_4:=Aside0.mk hr0_4
 have HC0_4:=Aside0.mk hc0_4
 clear hr0_4 hc0_4
 have HB:=Aside0.mk (Below.refl w.heap.size w)
 have H : (if 0 ≤ a1 then (if a1 < (l0_2.length : Int) then ((water_upper.f (rd l0_2 a1)).bind fun t252 => (if a2 = t252 then ((water_ground_level.f a0_0 a0_1 l0_2 l0_3 l0_4 a1).bind fun t253 => (some (a3 == (wrap64 (t253 + 1))))) else (if a2 = (Int.tmod (wrap64 (t252 + 2)) 4) then ((water_ground_level.f a0_0 a0_1 l0_2 l0_3 l0_4 a1).bind fun t254 => (some (a3 == t254))) else (some false)))) else (none)) else (none)) = some r:=h
 clear h
 replace H:=ifp_ H;obtain ⟨c5,H⟩:=H
 have c5b0 : decide (0 ≤ a1) = true:=decide_eq_true c5
 clear c5
 replace H:=ifp_ H;obtain ⟨c6,H⟩:=H
 have c6b0 : decide (a1 < (l0_2.length : Int)) = true:=decide_eq_true c6
 clear c6
 replace H:=Option.bind_eq_some_iff.mp H
 obtain ⟨t252,A70,H⟩:=H
 replace H : (if a2 = t252 then ((water_ground_level.f a0_0 a0_1 l0_2 l0_3 l0_4 a1).bind fun t253 => (some (a3 == (wrap64 (t253 + 1))))) else (if a2 = (Int.tmod (wrap64 (t252 + 2)) 4) then ((water_ground_level.f a0_0 a0_1 l0_2 l0_3 l0_4 a1).bind fun t254 => (some (a3 == t254))) else (some false))) = some r:=H
 have A7:=Aside0.mk A70
 clear A70
 by_cases c8 : a2 = t252
 ·rw [if_pos c8] at H
  have c8b0:=bqt c8
  have c8b1:=bnf c8
  clear c8
  replace H:=Option.bind_eq_some_iff.mp H
  obtain ⟨t253,A90,H⟩:=H
  replace H : (some (a3 == (wrap64 (t253 + 1)))) = some r:=H
  have A9:=Aside0.mk A90
  clear A90
  obtain rfl:=Option.some.inj H
  go_enter Try.func96,Try.ntmps96
  go_wp2_with (first|((with_reducible refine gate_dst (N:=4) rfl ?_);refine box_ev (N:=4) (cs:=#[.int .i64 a0_0,.int .i64 a0_1,.slice A0_2 l0_2.length c0_2,.slice A0_3 l0_3.length c0_3,.slice A0_4 l0_4.length c0_4]) (t:=104) ?_;intro gb250 hg w10 hbox hb;have BK250:=Aside0.mk (hbox);have GW250 : Aside0 (w.heap.size ≤ gb250):=gsz hg;have GE250:=GW250;replace HB:=hbs hb;clear hb hbox hg;obtain ⟨_,_,_,_,_,_,_,_,_,_⟩:=cells5 BK250.out;have p251 : 0 ≤ (a1 : Int):=of_decide_eq_true (by first|(with_reducible assumption)|assumption);have q251 : a1 < (l0_2.length : Int):=of_decide_eq_true (by first|(with_reducible assumption)|assumption);obtain ⟨ad251,e251,hx251_0⟩:=Kd.at_int HR0_2.out a1 p251 q251;cases e251;replace hx251_0:=(HB.out.cell (World.block_lt_of_cell? w _ hx251_0)).trans hx251_0;replace p251:=eq_true p251;replace q251:=eq_true q251)|((with_reducible refine gate_callee (f:=105) rfl ?_);refine goesL_ (some 15) rfl rfl Try.func105 (by kernel_rfl) rfl #[.int .i64 (rd l0_2 a1)] rfl ga_ ?_;(with_reducible refine (water_upper.calls (rd l0_2 a1) t252 _ A7.out).mono ?_);rintro e w' ⟨rfl,⟨nd,rfl⟩⟩;refine ⟨_,rfl,?_⟩)|((with_reducible refine gate_callee (f:=97) rfl ?_);refine goesL_ (some 23) rfl rfl Try.func97 (by kernel_rfl) rfl #[.agg #[.int .i64 a0_0,.int .i64 a0_1,.slice (some ad251) l0_2.length c0_2,.slice A0_3 l0_3.length c0_3,.slice A0_4 l0_4.length c0_4],.int .i64 a1] rfl ga_ ?_;(with_reducible refine (water_ground_level.calls a0_0 a0_1 _ _ l0_2 _ _ l0_3 _ _ l0_4 a1 t253 _ ?_ ?_ ?_ ?_ ?_ ?_ A9.out).mono ?_);(focus (repeat (first|exact (Kd.C_below HR0_2.out (hb_))|(with_reducible refine Kd.C_alloc ?_ _)|(with_reducible refine Kd.C_drewN ?_ _)|(with_reducible refine Kd.C_drew ?_))));exact HC0_2.out;(focus (repeat (first|exact (Kd.C_below HR0_3.out (hb_))|(with_reducible refine Kd.C_alloc ?_ _)|(with_reducible refine Kd.C_drewN ?_ _)|(with_reducible refine Kd.C_drew ?_))));exact HC0_3.out;(focus (repeat (first|exact (Kd.C_below HR0_4.out (hb_))|(with_reducible refine Kd.C_alloc ?_ _)|(with_reducible refine Kd.C_drewN ?_ _)|(with_reducible refine Kd.C_drew ?_))));exact HC0_4.out;rintro e w12 ⟨rfl,hb⟩;refine ⟨_,rfl,?_⟩;replace BK250:=bkb BK250 hb;replace HB:=hbs hb))
  go_ret
  exact ⟨er_,hb_⟩
 ·rw [if_neg c8] at H
  have c8b0:=bqf c8
  have c8b1:=bnt c8
  by_cases c13 : a2 = (Int.tmod (wrap64 (t252 + 2)) 4)
  ·rw [if_pos c13] at H
   have c13b0:=bqt c13
   have c13b1:=bnf c13
   clear c13
   replace H:=Option.bind_eq_some_iff.mp H
   obtain ⟨t254,A140,H⟩:=H
   replace H : (some (a3 == t254)) = some r:=H
   have A14:=Aside0.mk A140
   clear A140
   obtain rfl:=Option.some.inj H
   go_enter Try.func96,Try.ntmps96
   go_wp2_with (first|((with_reducible refine gate_dst (N:=4) rfl ?_);refine box_ev (N:=4) (cs:=#[.int .i64 a0_0,.int .i64 a0_1,.slice A0_2 l0_2.length c0_2,.slice A0_3 l0_3.length c0_3,.slice A0_4 l0_4.length c0_4]) (t:=104) ?_;intro gb250 hg w15 hbox hb;have BK250:=Aside0.mk (hbox);have GW250 : Aside0 (w.heap.size ≤ gb250):=gsz hg;have GE250:=GW250;replace HB:=hbs hb;clear hb hbox hg;obtain ⟨_,_,_,_,_,_,_,_,_,_⟩:=cells5 BK250.out;have p251 : 0 ≤ (a1 : Int):=of_decide_eq_true (by first|(with_reducible assumption)|assumption);have q251 : a1 < (l0_2.length : Int):=of_decide_eq_true (by first|(with_reducible assumption)|assumption);obtain ⟨ad251,e251,hx251_0⟩:=Kd.at_int HR0_2.out a1 p251 q251;cases e251;replace hx251_0:=(HB.out.cell (World.block_lt_of_cell? w _ hx251_0)).trans hx251_0;replace p251:=eq_true p251;replace q251:=eq_true q251)|((with_reducible refine gate_callee (f:=105) rfl ?_);refine goesL_ (some 15) rfl rfl Try.func105 (by kernel_rfl) rfl #[.int .i64 (rd l0_2 a1)] rfl ga_ ?_;(with_reducible refine (water_upper.calls (rd l0_2 a1) t252 _ A7.out).mono ?_);rintro e w' ⟨rfl,⟨nd,rfl⟩⟩;refine ⟨_,rfl,?_⟩)|((with_reducible refine gate_callee (f:=97) rfl ?_);refine goesL_ (some 34) rfl rfl Try.func97 (by kernel_rfl) rfl #[.agg #[.int .i64 a0_0,.int .i64 a0_1,.slice (some ad251) l0_2.length c0_2,.slice A0_3 l0_3.length c0_3,.slice A0_4 l0_4.length c0_4],.int .i64 a1] rfl ga_ ?_;(with_reducible refine (water_ground_level.calls a0_0 a0_1 _ _ l0_2 _ _ l0_3 _ _ l0_4 a1 t254 _ ?_ ?_ ?_ ?_ ?_ ?_ A14.out).mono ?_);(focus (repeat (first|exact (Kd.C_below HR0_2.out (hb_))|(with_reducible refine Kd.C_alloc ?_ _)|(with_reducible refine Kd.C_drewN ?_ _)|(with_reducible refine Kd.C_drew ?_))));exact HC0_2.out;(focus (repeat (first|exact (Kd.C_below HR0_3.out (hb_))|(with_reducible refine Kd.C_alloc ?_ _)|(with_reducible refine Kd.C_drewN ?_ _)|(with_reducible refine Kd.C_drew ?_))));exact HC0_3.out;(focus (repeat (first|exact (Kd.C_below HR0_4.out (hb_))|(with_reducible refine Kd.C_alloc ?_ _)|(with_reducible refine Kd.C_drewN ?_ _)|(with_reducible refine Kd.C_drew ?_))));exact HC0_4.out;rintro e w17 ⟨rfl,hb⟩;refine ⟨_,rfl,?_⟩;replace BK250:=bkb BK250 hb;replace HB:=hbs hb))
   go_ret
   exact ⟨er_,hb_⟩
  ·rw [if_neg c13] at H
   have c13b0:=bqf c13
   have c13b1:=bnt c13
   obtain rfl:=Option.some.inj H
   go_enter Try.func96,Try.ntmps96
   go_wp2_with (first|((with_reducible refine gate_dst (N:=4) rfl ?_);refine box_ev (N:=4) (cs:=#[.int .i64 a0_0,.int .i64 a0_1,.slice A0_2 l0_2.length c0_2,.slice A0_3 l0_3.length c0_3,.slice A0_4 l0_4.length c0_4]) (t:=104) ?_;intro gb250 hg w18 hbox hb;have BK250:=Aside0.mk (hbox);have GW250 : Aside0 (w.heap.size ≤ gb250):=gsz hg;have GE250:=GW250;replace HB:=hbs hb;clear hb hbox hg;obtain ⟨_,_,_,_,_,_,_,_,_,_⟩:=cells5 BK250.out;have p251 : 0 ≤ (a1 : Int):=of_decide_eq_true (by first|(with_reducible assumption)|assumption);have q251 : a1 < (l0_2.length : Int):=of_decide_eq_true (by first|(with_reducible assumption)|assumption);obtain ⟨ad251,e251,hx251_0⟩:=Kd.at_int HR0_2.out a1 p251 q251;cases e251;replace hx251_0:=(HB.out.cell (World.block_lt_of_cell? w _ hx251_0)).trans hx251_0;replace p251:=eq_true p251;replace q251:=eq_true q251)|((with_reducible refine gate_callee (f:=105) rfl ?_);refine goesL_ (some 15) rfl rfl Try.func105 (by kernel_rfl) rfl #[.int .i64 (rd l0_2 a1)] rfl ga_ ?_;(with_reducible refine (water_upper.calls (rd l0_2 a1) t252 _ A7.out).mono ?_);rintro e w' ⟨rfl,⟨nd,rfl⟩⟩;refine ⟨_,rfl,?_⟩))
   go_ret
   exact ⟨er_,hb_⟩

/-! ### water_ground_joined: function 81 -/
def water_ground_joined.f (k : Nat) (a0_0 : Int) (a0_1 : Int) (l0_2 : List Int) (l0_3 : List Int) (l0_4 : List Bool) (l1_0 : List Int) (l1_1 : List Int) (a2 : Int) (a3 : Int) : Option (Bool) := (water_ground_beyond.f k a0_0 a0_1 l0_2 l0_3 l0_4 a2 a3).bind fun t257 => (if t257 < 0 then (some false) else ((water_ground_wet.f a0_0 a0_1 l0_2 l0_3 l0_4 l1_0 l1_1 a2).bind fun t258 => (if t258 = true then ((water_ground_wet.f a0_0 a0_1 l0_2 l0_3 l0_4 l1_0 l1_1 t257).bind fun t259 => (if t259 = true then (if 0 ≤ a2 then (if a2 < (l1_0.length : Int) then (if 0 ≤ t257 then (if t257 < (l1_0.length : Int) then (if (rd l1_0 a2) = 2 then (if (rd l1_0 t257) = 2 then (some false) else ((water_ground_level.f a0_0 a0_1 l0_2 l0_3 l0_4 t257).bind fun t262 => ((water_ground_through.f a0_0 a0_1 l0_2 l0_3 l0_4 a2 a3 t262).bind fun t263 => (some t263)))) else (if (rd l1_0 t257) = 2 then ((water_ground_level.f a0_0 a0_1 l0_2 l0_3 l0_4 a2).bind fun t264 => ((water_ground_through.f a0_0 a0_1 l0_2 l0_3 l0_4 t257 (Int.tmod (wrap64 (a3 + 2)) 4) t264).bind fun t265 => (some t265))) else ((water_ground_level.f a0_0 a0_1 l0_2 l0_3 l0_4 a2).bind fun t266 => ((water_ground_level.f a0_0 a0_1 l0_2 l0_3 l0_4 t257).bind fun t267 => (some (t266 == t267)))))) else (none)) else (none)) else (none)) else (none)) else (some false))) else (some false))))
theorem water_ground_joined.mono : ∀ a0 a1 a2 a3 a4 a5 a6 a7 a8 k, LeO (water_ground_joined.f k a0 a1 a2 a3 a4 a5 a6 a7 a8) (water_ground_joined.f (k + 1) a0 a1 a2 a3 a4 a5 a6 a7 a8) := by
 intro a0 a1 a2 a3 a4 a5 a6 a7 a8 k
 unfold water_ground_joined.f
 repeat' first
   | (with_reducible exact water_ground_beyond.mono _ _ _ _ _ _ _ _)
   | (with_reducible exact LeO.refl _)
   | (with_reducible exact LeO.none _)
   | (with_reducible refine LeO.ite ?_ ?_)
   | (with_reducible refine LeO.bind ?_ (fun _ => ?_))
   | exact water_ground_beyond.mono _ _ _ _ _ _ _ _
   | exact LeO.none _
   | refine LeO.ite ?_ ?_
   | refine LeO.bind ?_ (fun _ => ?_)
def water_ground_joined.T4 : Bool × List (List Nat × List Nat) := (true, [([], []), ([0], [0]), ([], []), ([1, 2], [1, 2]), ([3], [3]), ([4], [4]), ([], []), ([6], [6]), ([], []), ([7, 8], [7, 8]), ([9], [9]), ([10], [10]), ([5, 0, 1, 2, 3, 4, 5], [5]), ([11, 12, 0, 1, 2, 3, 4, 5, 6, 7, 8, 9, 10, 11, 12], [11])])
def water_ground_joined.B4 : List Nat := [0, 1, 0, 7, 15, 31, 0, 64, 0, 448, 960, 1984, 63, 8191]
theorem water_ground_joined.tab4 : rtab .any (opsOf Try.f81 4) = water_ground_joined.T4 := by kernel_rfl
theorem water_ground_joined.bits4 : waitsOk water_ground_joined.T4.2 water_ground_joined.B4 = true := by kernel_rfl
def water_ground_joined.T8 : Bool × List (List Nat × List Nat) := (true, [([], []), ([], []), ([], []), ([], []), ([], []), ([3, 4], [3, 4]), ([0, 1, 2, 5, 5], [0, 1, 2, 5]), ([6, 6, 0, 1, 2, 3, 4, 5, 6], [6])])
def water_ground_joined.B8 : List Nat := [0, 0, 0, 0, 0, 24, 63, 127]
theorem water_ground_joined.tab8 : rtab .any (opsOf Try.f81 8) = water_ground_joined.T8 := by kernel_rfl
theorem water_ground_joined.bits8 : waitsOk water_ground_joined.T8.2 water_ground_joined.B8 = true := by kernel_rfl
def water_ground_joined.T10 : Bool × List (List Nat × List Nat) := (true, [([], []), ([], []), ([], []), ([2], [2]), ([3], [3]), ([], []), ([], []), ([5, 6], [5, 6]), ([0, 1, 4, 7, 7], [0, 1, 4, 7]), ([8, 8, 0, 1, 2, 3, 4, 5, 6, 7, 8], [8])])
def water_ground_joined.B10 : List Nat := [0, 0, 0, 4, 12, 0, 0, 96, 255, 511]
theorem water_ground_joined.tab10 : rtab .any (opsOf Try.f81 10) = water_ground_joined.T10 := by kernel_rfl
theorem water_ground_joined.bits10 : waitsOk water_ground_joined.T10.2 water_ground_joined.B10 = true := by kernel_rfl
def water_ground_joined.T11 : Bool × List (List Nat × List Nat) := (true, [([], []), ([], []), ([0, 1], [0, 1]), ([], []), ([], []), ([3, 4, 2], [3, 4]), ([2, 5], [2, 5]), ([6, 5, 0, 1, 2, 3, 4, 5, 6], [6])])
def water_ground_joined.B11 : List Nat := [0, 0, 3, 0, 0, 31, 63, 127]
theorem water_ground_joined.tab11 : rtab .any (opsOf Try.f81 11) = water_ground_joined.T11 := by kernel_rfl
theorem water_ground_joined.bits11 : waitsOk water_ground_joined.T11.2 water_ground_joined.B11 = true := by kernel_rfl
set_option maxHeartbeats 8000000 in
set_option maxRecDepth 100000 in
theorem water_ground_joined.calls (k : Nat) (a0_0 : Int) (a0_1 : Int) (A0_2 : Option Addr) (c0_2 : Nat) (l0_2 : List Int) (A0_3 : Option Addr) (c0_3 : Nat) (l0_3 : List Int) (A0_4 : Option Addr) (c0_4 : Nat) (l0_4 : List Bool) (A1_0 : Option Addr) (c1_0 : Nat) (l1_0 : List Int) (A1_1 : Option Addr) (c1_1 : Nat) (l1_1 : List Int) (a2 : Int) (a3 : Int) (r : Bool) (w : World) (hr0_2 : Kd.C (Kd.int .i64) w A0_2 l0_2.length l0_2) (hc0_2 : l0_2.length ≤ c0_2) (hr0_3 : Kd.C (Kd.int .i64) w A0_3 l0_3.length l0_3) (hc0_3 : l0_3.length ≤ c0_3) (hr0_4 : Kd.C Kd.bool w A0_4 l0_4.length l0_4) (hc0_4 : l0_4.length ≤ c0_4) (hr1_0 : Kd.C (Kd.int .i64) w A1_0 l1_0.length l1_0) (hc1_0 : l1_0.length ≤ c1_0) (hr1_1 : Kd.C (Kd.int .i64) w A1_1 l1_1.length l1_1) (hc1_1 : l1_1.length ≤ c1_1) (h : water_ground_joined.f k a0_0 a0_1 l0_2 l0_3 l0_4 l1_0 l1_1 a2 a3 = some r) :
  Calls Try.prog 81 #[.agg #[.int .i64 a0_0,.int .i64 a0_1,.slice A0_2 l0_2.length c0_2,.slice A0_3 l0_3.length c0_3,.slice A0_4 l0_4.length c0_4],.agg #[.slice A1_0 l1_0.length c1_0,.slice A1_1 l1_1.length c1_1],.int .i64 a2,.int .i64 a3] w fun e w' => e = .returned (.bool r) ∧ Below w.heap.size w w':=by
 have hu104:=Try.underlying104
 have hu55:=Try.underlying55
 have HR0_2:=Aside0.mk hr0_2
 have HC0_2:=Aside0.mk hc0_2
 clear hr0_2 hc0_2
 have HR0_3:=Aside0.mk hr0_3
 have HC0_3:=Aside0.mk hc0_3
 clear hr0_3 hc0_3
 have HR0_4:=Aside0.mk hr0_4
 have HC0_4:=Aside0.mk hc0_4
 clear hr0_4 hc0_4
 have HR1_0:=Aside0.mk hr1_0
 have HC1_0:=Aside0.mk hc1_0
 clear hr1_0 hc1_0
 have HR1_1:=Aside0.mk hr1_1
 have HC1_1:=Aside0.mk hc1_1
 clear hr1_1 hc1_1
 have HB:=Aside0.mk (Below.refl w.heap.size w)
 have H : ((water_ground_beyond.f k a0_0 a0_1 l0_2 l0_3 l0_4 a2 a3).bind fun t257 => (if t257 < 0 then (some false) else ((water_ground_wet.f a0_0 a0_1 l0_2 l0_3 l0_4 l1_0 l1_1 a2).bind fun t258 => (if t258 = true then ((water_ground_wet.f a0_0 a0_1 l0_2 l0_3 l0_4 l1_0 l1_1 t257).bind fun t259 => (if t259 = true then (if 0 ≤ a2 then (if a2 < (l1_0.length : Int) then (if 0 ≤ t257 then (if t257 < (l1_0.length : Int) then (if (rd l1_0 a2) = 2 then (if (rd l1_0 t257) = 2 then (some false) else ((water_ground_level.f a0_0 a0_1 l0_2 l0_3 l0_4 t257).bind fun t262 => ((water_ground_through.f a0_0 a0_1 l0_2 l0_3 l0_4 a2 a3 t262).bind fun t263 => (some t263)))) else (if (rd l1_0 t257) = 2 then ((water_ground_level.f a0_0 a0_1 l0_2 l0_3 l0_4 a2).bind fun t264 => ((water_ground_through.f a0_0 a0_1 l0_2 l0_3 l0_4 t257 (Int.tmod (wrap64 (a3 + 2)) 4) t264).bind fun t265 => (some t265))) else ((water_ground_level.f a0_0 a0_1 l0_2 l0_3 l0_4 a2).bind fun t266 => ((water_ground_level.f a0_0 a0_1 l0_2 l0_3 l0_4 t257).bind fun t267 => (some (t266 == t267)))))) else (none)) else (none)) else (none)) else (none)) else (some false))) else (some false))))) = some r:=h
 clear h
 replace H:=Option.bind_eq_some_iff.mp H
 obtain ⟨t257,A50,H⟩:=H
 replace H : (if t257 < 0 then (some false) else ((water_ground_wet.f a0_0 a0_1 l0_2 l0_3 l0_4 l1_0 l1_1 a2).bind fun t258 => (if t258 = true then ((water_ground_wet.f a0_0 a0_1 l0_2 l0_3 l0_4 l1_0 l1_1 t257).bind fun t259 => (if t259 = true then (if 0 ≤ a2 then (if a2 < (l1_0.length : Int) then (if 0 ≤ t257 then (if t257 < (l1_0.length : Int) then (if (rd l1_0 a2) = 2 then (if (rd l1_0 t257) = 2 then (some false) else ((water_ground_level.f a0_0 a0_1 l0_2 l0_3 l0_4 t257).bind fun t262 => ((water_ground_through.f a0_0 a0_1 l0_2 l0_3 l0_4 a2 a3 t262).bind fun t263 => (some t263)))) else (if (rd l1_0 t257) = 2 then ((water_ground_level.f a0_0 a0_1 l0_2 l0_3 l0_4 a2).bind fun t264 => ((water_ground_through.f a0_0 a0_1 l0_2 l0_3 l0_4 t257 (Int.tmod (wrap64 (a3 + 2)) 4) t264).bind fun t265 => (some t265))) else ((water_ground_level.f a0_0 a0_1 l0_2 l0_3 l0_4 a2).bind fun t266 => ((water_ground_level.f a0_0 a0_1 l0_2 l0_3 l0_4 t257).bind fun t267 => (some (t266 == t267)))))) else (none)) else (none)) else (none)) else (none)) else (some false))) else (some false)))) = some r:=H
 have A5:=Aside0.mk A50
 clear A50
 by_cases c6 : t257 < 0
 ·rw [if_pos c6] at H
  have c6b0 : decide (t257 < 0) = true:=decide_eq_true c6
  clear c6
  obtain rfl:=Option.some.inj H
  go_enter Try.func81,Try.ntmps81
  go_wp2_with (first|((with_reducible refine gate_dst (N:=4) rfl ?_);refine box_ev (N:=4) (cs:=#[.int .i64 a0_0,.int .i64 a0_1,.slice A0_2 l0_2.length c0_2,.slice A0_3 l0_3.length c0_3,.slice A0_4 l0_4.length c0_4]) (t:=104) ?_;intro gb255 hg w7 hbox hb;have BK255:=Aside0.mk (hbox);have GW255 : Aside0 (w.heap.size ≤ gb255):=gsz hg;have GE255:=GW255;replace HB:=hbs hb;clear hb hbox hg)|((with_reducible refine gate_dst (N:=5) rfl ?_);refine box_ev (N:=5) (cs:=#[.slice A1_0 l1_0.length c1_0,.slice A1_1 l1_1.length c1_1]) (t:=55) ?_;intro gb256 hg w8 hbox hb;have BK256:=Aside0.mk (hbox);have GW256 : Aside0 (w.heap.size ≤ gb256):=gsz hg;have GE256:=GW256;have NB255_256:=nbl BK255 hg;have NB256_255:=nbr BK255 hg;replace BK255:=bkb BK255 hb;replace HB:=hbs hb;clear hb hbox hg;have hnb9:=NB255_256.out;have hnc9:=NB256_255.out;obtain ⟨_,_,_,_,_,_,_,_,_,_⟩:=cells5 BK255.out)|((with_reducible refine gate_callee (f:=82) rfl ?_);refine goesL_ (some 15) rfl rfl Try.func82 (by kernel_rfl) rfl #[.agg #[.int .i64 a0_0,.int .i64 a0_1,.slice A0_2 l0_2.length c0_2,.slice A0_3 l0_3.length c0_3,.slice A0_4 l0_4.length c0_4],.int .i64 a2,.int .i64 a3] rfl ga_ ?_;(with_reducible refine (water_ground_beyond.calls k a0_0 a0_1 _ _ l0_2 _ _ l0_3 _ _ l0_4 a2 a3 t257 _ ?_ ?_ ?_ ?_ ?_ ?_ A5.out).mono ?_);exact cq HR0_2;exact HC0_2.out;exact cq HR0_3;exact HC0_3.out;exact cq HR0_4;exact HC0_4.out;rintro e w11 ⟨rfl,hb⟩;refine ⟨_,rfl,?_⟩;replace BK255:=bkb BK255 hb;replace BK256:=bkb BK256 hb;replace HB:=hbs hb))
  go_ret
  exact ⟨er_,hb_⟩
 rw [if_neg c6] at H
 have c6b0 : decide (t257 < 0) = false:=decide_eq_false c6
 clear c6
 replace H:=Option.bind_eq_some_iff.mp H
 obtain ⟨t258,A120,H⟩:=H
 replace H : (if t258 = true then ((water_ground_wet.f a0_0 a0_1 l0_2 l0_3 l0_4 l1_0 l1_1 t257).bind fun t259 => (if t259 = true then (if 0 ≤ a2 then (if a2 < (l1_0.length : Int) then (if 0 ≤ t257 then (if t257 < (l1_0.length : Int) then (if (rd l1_0 a2) = 2 then (if (rd l1_0 t257) = 2 then (some false) else ((water_ground_level.f a0_0 a0_1 l0_2 l0_3 l0_4 t257).bind fun t262 => ((water_ground_through.f a0_0 a0_1 l0_2 l0_3 l0_4 a2 a3 t262).bind fun t263 => (some t263)))) else (if (rd l1_0 t257) = 2 then ((water_ground_level.f a0_0 a0_1 l0_2 l0_3 l0_4 a2).bind fun t264 => ((water_ground_through.f a0_0 a0_1 l0_2 l0_3 l0_4 t257 (Int.tmod (wrap64 (a3 + 2)) 4) t264).bind fun t265 => (some t265))) else ((water_ground_level.f a0_0 a0_1 l0_2 l0_3 l0_4 a2).bind fun t266 => ((water_ground_level.f a0_0 a0_1 l0_2 l0_3 l0_4 t257).bind fun t267 => (some (t266 == t267)))))) else (none)) else (none)) else (none)) else (none)) else (some false))) else (some false)) = some r:=H
 have A12:=Aside0.mk A120
 clear A120
 by_cases c13 : t258 = true
 ·subst c13
  have H1 : ((water_ground_wet.f a0_0 a0_1 l0_2 l0_3 l0_4 l1_0 l1_1 t257).bind fun t259 => (if t259 = true then (if 0 ≤ a2 then (if a2 < (l1_0.length : Int) then (if 0 ≤ t257 then (if t257 < (l1_0.length : Int) then (if (rd l1_0 a2) = 2 then (if (rd l1_0 t257) = 2 then (some false) else ((water_ground_level.f a0_0 a0_1 l0_2 l0_3 l0_4 t257).bind fun t262 => ((water_ground_through.f a0_0 a0_1 l0_2 l0_3 l0_4 a2 a3 t262).bind fun t263 => (some t263)))) else (if (rd l1_0 t257) = 2 then ((water_ground_level.f a0_0 a0_1 l0_2 l0_3 l0_4 a2).bind fun t264 => ((water_ground_through.f a0_0 a0_1 l0_2 l0_3 l0_4 t257 (Int.tmod (wrap64 (a3 + 2)) 4) t264).bind fun t265 => (some t265))) else ((water_ground_level.f a0_0 a0_1 l0_2 l0_3 l0_4 a2).bind fun t266 => ((water_ground_level.f a0_0 a0_1 l0_2 l0_3 l0_4 t257).bind fun t267 => (some (t266 == t267)))))) else (none)) else (none)) else (none)) else (none)) else (some false))) = some r:=by rw [if_pos rfl] at H;exact H
  clear H
  have H:=H1
  clear H1
  replace H:=Option.bind_eq_some_iff.mp H
  obtain ⟨t259,A140,H⟩:=H
  replace H : (if t259 = true then (if 0 ≤ a2 then (if a2 < (l1_0.length : Int) then (if 0 ≤ t257 then (if t257 < (l1_0.length : Int) then (if (rd l1_0 a2) = 2 then (if (rd l1_0 t257) = 2 then (some false) else ((water_ground_level.f a0_0 a0_1 l0_2 l0_3 l0_4 t257).bind fun t262 => ((water_ground_through.f a0_0 a0_1 l0_2 l0_3 l0_4 a2 a3 t262).bind fun t263 => (some t263)))) else (if (rd l1_0 t257) = 2 then ((water_ground_level.f a0_0 a0_1 l0_2 l0_3 l0_4 a2).bind fun t264 => ((water_ground_through.f a0_0 a0_1 l0_2 l0_3 l0_4 t257 (Int.tmod (wrap64 (a3 + 2)) 4) t264).bind fun t265 => (some t265))) else ((water_ground_level.f a0_0 a0_1 l0_2 l0_3 l0_4 a2).bind fun t266 => ((water_ground_level.f a0_0 a0_1 l0_2 l0_3 l0_4 t257).bind fun t267 => (some (t266 == t267)))))) else (none)) else (none)) else (none)) else (none)) else (some false)) = some r:=H
  have A14:=Aside0.mk A140
  clear A140
  by_cases c15 : t259 = true
  ·subst c15
   have H1 : (if 0 ≤ a2 then (if a2 < (l1_0.length : Int) then (if 0 ≤ t257 then (if t257 < (l1_0.length : Int) then (if (rd l1_0 a2) = 2 then (if (rd l1_0 t257) = 2 then (some false) else ((water_ground_level.f a0_0 a0_1 l0_2 l0_3 l0_4 t257).bind fun t262 => ((water_ground_through.f a0_0 a0_1 l0_2 l0_3 l0_4 a2 a3 t262).bind fun t263 => (some t263)))) else (if (rd l1_0 t257) = 2 then ((water_ground_level.f a0_0 a0_1 l0_2 l0_3 l0_4 a2).bind fun t264 => ((water_ground_through.f a0_0 a0_1 l0_2 l0_3 l0_4 t257 (Int.tmod (wrap64 (a3 + 2)) 4) t264).bind fun t265 => (some t265))) else ((water_ground_level.f a0_0 a0_1 l0_2 l0_3 l0_4 a2).bind fun t266 => ((water_ground_level.f a0_0 a0_1 l0_2 l0_3 l0_4 t257).bind fun t267 => (some (t266 == t267)))))) else (none)) else (none)) else (none)) else (none)) = some r:=by rw [if_pos rfl] at H;exact H
   clear H
   have H:=H1
   clear H1
   replace H:=ifp_ H;obtain ⟨c16,H⟩:=H
   have c16b0 : decide (0 ≤ a2) = true:=decide_eq_true c16
   clear c16
   replace H:=ifp_ H;obtain ⟨c17,H⟩:=H
   have c17b0 : decide (a2 < (l1_0.length : Int)) = true:=decide_eq_true c17
   clear c17
   replace H:=ifp_ H;obtain ⟨c18,H⟩:=H
   have c18b0 : decide (0 ≤ t257) = true:=decide_eq_true c18
   clear c18
   replace H:=ifp_ H;obtain ⟨c19,H⟩:=H
   have c19b0 : decide (t257 < (l1_0.length : Int)) = true:=decide_eq_true c19
   clear c19
   by_cases c20 : (rd l1_0 a2) = 2
   ·rw [if_pos c20] at H
    have c20b0:=bqt c20
    have c20b1:=bnf c20
    clear c20
    by_cases c21 : (rd l1_0 t257) = 2
    ·rw [if_pos c21] at H
     have c21b0:=bqt c21
     have c21b1:=bnf c21
     clear c21
     obtain rfl:=Option.some.inj H
     go_enter Try.func81,Try.ntmps81
     try go_wp2_with (first|((with_reducible refine gate_dst (N:=4) rfl ?_);refine box_ev (N:=4) (cs:=#[.int .i64 a0_0,.int .i64 a0_1,.slice A0_2 l0_2.length c0_2,.slice A0_3 l0_3.length c0_3,.slice A0_4 l0_4.length c0_4]) (t:=104) ?_;intro gb255 hg w22 hbox hb;have BK255:=Aside0.mk (hbox);have GW255 : Aside0 (w.heap.size ≤ gb255):=gsz hg;have GE255:=GW255;replace HB:=hbs hb;clear hb hbox hg)|((with_reducible refine gate_dst (N:=5) rfl ?_);refine box_ev (N:=5) (cs:=#[.slice A1_0 l1_0.length c1_0,.slice A1_1 l1_1.length c1_1]) (t:=55) ?_;intro gb256 hg w23 hbox hb;have BK256:=Aside0.mk (hbox);have GW256 : Aside0 (w.heap.size ≤ gb256):=gsz hg;have GE256:=GW256;have NB255_256:=nbl BK255 hg;have NB256_255:=nbr BK255 hg;replace BK255:=bkb BK255 hb;replace HB:=hbs hb;clear hb hbox hg;have hnb24:=NB255_256.out;have hnc24:=NB256_255.out;obtain ⟨_,_,_,_,_,_,_,_,_,_⟩:=cells5 BK255.out)|((with_reducible refine gate_callee (f:=82) rfl ?_);refine goesL_ (some 15) rfl rfl Try.func82 (by kernel_rfl) rfl #[.agg #[.int .i64 a0_0,.int .i64 a0_1,.slice A0_2 l0_2.length c0_2,.slice A0_3 l0_3.length c0_3,.slice A0_4 l0_4.length c0_4],.int .i64 a2,.int .i64 a3] rfl ga_ ?_;(with_reducible refine (water_ground_beyond.calls k a0_0 a0_1 _ _ l0_2 _ _ l0_3 _ _ l0_4 a2 a3 t257 _ ?_ ?_ ?_ ?_ ?_ ?_ A5.out).mono ?_);exact cq HR0_2;exact HC0_2.out;exact cq HR0_3;exact HC0_3.out;exact cq HR0_4;exact HC0_4.out;rintro e w26 ⟨rfl,hb⟩;refine ⟨_,rfl,?_⟩;replace BK255:=bkb BK255 hb;replace BK256:=bkb BK256 hb;replace HB:=hbs hb;obtain ⟨_,_,_,_,_,_,_,_,_,_⟩:=cells5 BK255.out;obtain ⟨_,_,_,_⟩:=cells2 BK256.out)|(go_at_call 80;(with_reducible refine (water_ground_wet.calls a0_0 a0_1 _ _ l0_2 _ _ l0_3 _ _ l0_4 _ _ l1_0 _ _ l1_1 a2 true _ ?_ ?_ ?_ ?_ ?_ ?_ ?_ ?_ ?_ ?_ A12.out).mono ?_);exact cq HR0_2;exact HC0_2.out;exact cq HR0_3;exact HC0_3.out;exact cq HR0_4;exact HC0_4.out;exact cq HR1_0;exact HC1_0.out;exact cq HR1_1;exact HC1_1.out;rintro e w29 ⟨rfl,hb⟩;replace BK255:=bkb BK255 hb;replace BK256:=bkb BK256 hb;replace HB:=hbs hb;obtain ⟨_,_,_,_,_,_,_,_,_,_⟩:=cells5 BK255.out;obtain ⟨_,_,_,_⟩:=cells2 BK256.out)|(go_at_call 80;(with_reducible refine (water_ground_wet.calls a0_0 a0_1 _ _ l0_2 _ _ l0_3 _ _ l0_4 _ _ l1_0 _ _ l1_1 t257 true _ ?_ ?_ ?_ ?_ ?_ ?_ ?_ ?_ ?_ ?_ A14.out).mono ?_);exact cq HR0_2;exact HC0_2.out;exact cq HR0_3;exact HC0_3.out;exact cq HR0_4;exact HC0_4.out;exact cq HR1_0;exact HC1_0.out;exact cq HR1_1;exact HC1_1.out;rintro e w32 ⟨rfl,hb⟩;replace BK255:=bkb BK255 hb;replace BK256:=bkb BK256 hb;replace HB:=hbs hb))
     replace BK255:=Aside0.mk (blk_drew BK255.out)
     replace BK256:=Aside0.mk (blk_drew BK256.out)
     replace HB:=Aside0.mk (below_drew1 HB.out)
     have p260 : 0 ≤ (a2 : Int):=of_decide_eq_true (by first|(with_reducible assumption)|assumption)
     have q260 : a2 < (l1_0.length : Int):=of_decide_eq_true (by first|(with_reducible assumption)|assumption)
     obtain ⟨ad260,e260,hx260_0⟩:=Kd.at_int HR1_0.out a2 p260 q260
     have hw260_0:=hx260_0
     cases e260
     replace hx260_0:=(HB.out.cell (World.block_lt_of_cell? w _ hx260_0)).trans hx260_0
     replace p260:=eq_true p260
     replace q260:=eq_true q260
     have p261 : 0 ≤ (t257 : Int):=of_decide_eq_true (by first|(with_reducible assumption)|assumption)
     have q261 : t257 < (l1_0.length : Int):=of_decide_eq_true (by first|(with_reducible assumption)|assumption)
     obtain ⟨ad261,e261,hx261_0⟩:=Kd.at_int HR1_0.out t257 p261 q261
     have hw261_0:=hx261_0
     obtain rfl : ad260 = ad261:=(by injection e261)
     replace hx261_0:=(HB.out.cell (World.block_lt_of_cell? w _ hx261_0)).trans hx261_0
     replace p261:=eq_true p261
     replace q261:=eq_true q261
     refine start_ (n:=14) (S:=fun w' => w'.cell? ⟨gb256,0,none⟩ = some (.slice (some ad260) l1_0.length c1_0) ∧ w'.cell? ⟨gb256,1,none⟩ = some (.slice A1_1 l1_1.length c1_1) ∧ w'.cell? (ad260.add (a2).toNat) = some (.int .i64 (rd l1_0 a2)) ∧ w'.cell? (ad260.add (t257).toNat) = some (.int .i64 (rd l1_0 t257))) (ds:=[]) #[false,false,false,false,false,false,false,false,false,false,false,false,false,false] (by kernel_rfl) rfl rfl ⟨(blk_cell BK256.out 0).trans rfl,(blk_cell BK256.out 1).trans rfl,((HB.out.cell (World.block_lt_of_cell? w _ hw260_0)).trans hw260_0),((HB.out.cell (World.block_lt_of_cell? w _ hw261_0)).trans hw261_0)⟩ (fun hHeld => ?_);refine with_tabW water_ground_joined.tab4 water_ground_joined.bits4 (fun HT_ HW_ => ?_)
     generalize w32.drew = w33 at BK255 BK256 HB hx260_0 hx261_0 hHeld ⊢
     refine pI 0 (some 32) ?_
     refine pI 2 (some 34) ?_
     refine pI 6 (some 38) ?_
     refine pI 8 (some 40) ?_
     refine tI4 1 (some 33) hHeld ?_
     refine pI 3 (some 35) ?_
     refine tI4 4 (some 36) hHeld ?_
     refine pI 5 (some 37) ?_
     refine pI 12 (some 10) ?_
     refine tI4 7 (some 39) hHeld ?_
     refine pI 9 (some 41) ?_
     refine tI4 10 (some 42) hHeld ?_
     refine pI 11 (some 43) ?_
     refine pI 13 (some 11) ?_
     refine done_ (done_of HT_.out (by kernel_rfl)) ?_
     try go_wp2
     go_ret
     exact ⟨er_,hb_⟩
    rw [if_neg c21] at H
    have c21b0:=bqf c21
    have c21b1:=bnt c21
    replace H:=Option.bind_eq_some_iff.mp H
    obtain ⟨t262,A340,H⟩:=H
    replace H : ((water_ground_through.f a0_0 a0_1 l0_2 l0_3 l0_4 a2 a3 t262).bind fun t263 => (some t263)) = some r:=H
    have A34:=Aside0.mk A340
    clear A340
    replace H:=Option.bind_eq_some_iff.mp H
    obtain ⟨t263,A350,H⟩:=H
    replace H : (some t263) = some r:=H
    have A35:=Aside0.mk A350
    clear A350
    obtain rfl:=Option.some.inj H
    go_enter Try.func81,Try.ntmps81
    try go_wp2_with (first|((with_reducible refine gate_dst (N:=4) rfl ?_);refine box_ev (N:=4) (cs:=#[.int .i64 a0_0,.int .i64 a0_1,.slice A0_2 l0_2.length c0_2,.slice A0_3 l0_3.length c0_3,.slice A0_4 l0_4.length c0_4]) (t:=104) ?_;intro gb255 hg w36 hbox hb;have BK255:=Aside0.mk (hbox);have GW255 : Aside0 (w.heap.size ≤ gb255):=gsz hg;have GE255:=GW255;replace HB:=hbs hb;clear hb hbox hg)|((with_reducible refine gate_dst (N:=5) rfl ?_);refine box_ev (N:=5) (cs:=#[.slice A1_0 l1_0.length c1_0,.slice A1_1 l1_1.length c1_1]) (t:=55) ?_;intro gb256 hg w37 hbox hb;have BK256:=Aside0.mk (hbox);have GW256 : Aside0 (w.heap.size ≤ gb256):=gsz hg;have GE256:=GW256;have NB255_256:=nbl BK255 hg;have NB256_255:=nbr BK255 hg;replace BK255:=bkb BK255 hb;replace HB:=hbs hb;clear hb hbox hg;have hnb38:=NB255_256.out;have hnc38:=NB256_255.out;obtain ⟨_,_,_,_,_,_,_,_,_,_⟩:=cells5 BK255.out)|((with_reducible refine gate_callee (f:=82) rfl ?_);refine goesL_ (some 15) rfl rfl Try.func82 (by kernel_rfl) rfl #[.agg #[.int .i64 a0_0,.int .i64 a0_1,.slice A0_2 l0_2.length c0_2,.slice A0_3 l0_3.length c0_3,.slice A0_4 l0_4.length c0_4],.int .i64 a2,.int .i64 a3] rfl ga_ ?_;(with_reducible refine (water_ground_beyond.calls k a0_0 a0_1 _ _ l0_2 _ _ l0_3 _ _ l0_4 a2 a3 t257 _ ?_ ?_ ?_ ?_ ?_ ?_ A5.out).mono ?_);exact cq HR0_2;exact HC0_2.out;exact cq HR0_3;exact HC0_3.out;exact cq HR0_4;exact HC0_4.out;rintro e w40 ⟨rfl,hb⟩;refine ⟨_,rfl,?_⟩;replace BK255:=bkb BK255 hb;replace BK256:=bkb BK256 hb;replace HB:=hbs hb;obtain ⟨_,_,_,_,_,_,_,_,_,_⟩:=cells5 BK255.out;obtain ⟨_,_,_,_⟩:=cells2 BK256.out)|(go_at_call 80;(with_reducible refine (water_ground_wet.calls a0_0 a0_1 _ _ l0_2 _ _ l0_3 _ _ l0_4 _ _ l1_0 _ _ l1_1 a2 true _ ?_ ?_ ?_ ?_ ?_ ?_ ?_ ?_ ?_ ?_ A12.out).mono ?_);exact cq HR0_2;exact HC0_2.out;exact cq HR0_3;exact HC0_3.out;exact cq HR0_4;exact HC0_4.out;exact cq HR1_0;exact HC1_0.out;exact cq HR1_1;exact HC1_1.out;rintro e w43 ⟨rfl,hb⟩;replace BK255:=bkb BK255 hb;replace BK256:=bkb BK256 hb;replace HB:=hbs hb;obtain ⟨_,_,_,_,_,_,_,_,_,_⟩:=cells5 BK255.out;obtain ⟨_,_,_,_⟩:=cells2 BK256.out)|(go_at_call 80;(with_reducible refine (water_ground_wet.calls a0_0 a0_1 _ _ l0_2 _ _ l0_3 _ _ l0_4 _ _ l1_0 _ _ l1_1 t257 true _ ?_ ?_ ?_ ?_ ?_ ?_ ?_ ?_ ?_ ?_ A14.out).mono ?_);exact cq HR0_2;exact HC0_2.out;exact cq HR0_3;exact HC0_3.out;exact cq HR0_4;exact HC0_4.out;exact cq HR1_0;exact HC1_0.out;exact cq HR1_1;exact HC1_1.out;rintro e w46 ⟨rfl,hb⟩;replace BK255:=bkb BK255 hb;replace BK256:=bkb BK256 hb;replace HB:=hbs hb))
    replace BK255:=Aside0.mk (blk_drew BK255.out)
    replace BK256:=Aside0.mk (blk_drew BK256.out)
    replace HB:=Aside0.mk (below_drew1 HB.out)
    have p260 : 0 ≤ (a2 : Int):=of_decide_eq_true (by first|(with_reducible assumption)|assumption)
    have q260 : a2 < (l1_0.length : Int):=of_decide_eq_true (by first|(with_reducible assumption)|assumption)
    obtain ⟨ad260,e260,hx260_0⟩:=Kd.at_int HR1_0.out a2 p260 q260
    have hw260_0:=hx260_0
    cases e260
    replace hx260_0:=(HB.out.cell (World.block_lt_of_cell? w _ hx260_0)).trans hx260_0
    replace p260:=eq_true p260
    replace q260:=eq_true q260
    have p261 : 0 ≤ (t257 : Int):=of_decide_eq_true (by first|(with_reducible assumption)|assumption)
    have q261 : t257 < (l1_0.length : Int):=of_decide_eq_true (by first|(with_reducible assumption)|assumption)
    obtain ⟨ad261,e261,hx261_0⟩:=Kd.at_int HR1_0.out t257 p261 q261
    have hw261_0:=hx261_0
    obtain rfl : ad260 = ad261:=(by injection e261)
    replace hx261_0:=(HB.out.cell (World.block_lt_of_cell? w _ hx261_0)).trans hx261_0
    replace p261:=eq_true p261
    replace q261:=eq_true q261
    refine start_ (n:=14) (S:=fun w' => w'.cell? ⟨gb256,0,none⟩ = some (.slice (some ad260) l1_0.length c1_0) ∧ w'.cell? ⟨gb256,1,none⟩ = some (.slice A1_1 l1_1.length c1_1) ∧ w'.cell? (ad260.add (a2).toNat) = some (.int .i64 (rd l1_0 a2)) ∧ w'.cell? (ad260.add (t257).toNat) = some (.int .i64 (rd l1_0 t257))) (ds:=[]) #[false,false,false,false,false,false,false,false,false,false,false,false,false,false] (by kernel_rfl) rfl rfl ⟨(blk_cell BK256.out 0).trans rfl,(blk_cell BK256.out 1).trans rfl,((HB.out.cell (World.block_lt_of_cell? w _ hw260_0)).trans hw260_0),((HB.out.cell (World.block_lt_of_cell? w _ hw261_0)).trans hw261_0)⟩ (fun hHeld => ?_);refine with_tabW water_ground_joined.tab4 water_ground_joined.bits4 (fun HT_ HW_ => ?_)
    generalize w46.drew = w47 at BK255 BK256 HB hx260_0 hx261_0 hHeld ⊢
    refine pI 0 (some 32) ?_
    refine pI 2 (some 34) ?_
    refine pI 6 (some 38) ?_
    refine pI 8 (some 40) ?_
    refine tI4 1 (some 33) hHeld ?_
    refine pI 3 (some 35) ?_
    refine tI4 4 (some 36) hHeld ?_
    refine pI 5 (some 37) ?_
    refine pI 12 (some 10) ?_
    refine tI4 7 (some 39) hHeld ?_
    refine pI 9 (some 41) ?_
    refine tI4 10 (some 42) hHeld ?_
    refine pI 11 (some 43) ?_
    refine pI 13 (some 11) ?_
    refine done_ (done_of HT_.out (by kernel_rfl)) ?_
    try go_wp2
    replace BK255:=Aside0.mk (blk_drew BK255.out)
    replace BK256:=Aside0.mk (blk_drew BK256.out)
    replace HB:=Aside0.mk (below_drew1 HB.out)
    refine start_ (n:=8) (S:=fun w' => w'.cell? ⟨gb255,0,none⟩ = some (.int .i64 a0_0) ∧ w'.cell? ⟨gb255,1,none⟩ = some (.int .i64 a0_1) ∧ w'.cell? ⟨gb255,2,none⟩ = some (.slice A0_2 l0_2.length c0_2) ∧ w'.cell? ⟨gb255,3,none⟩ = some (.slice A0_3 l0_3.length c0_3) ∧ w'.cell? ⟨gb255,4,none⟩ = some (.slice A0_4 l0_4.length c0_4)) (ds:=[]) #[false,false,false,false,false,false,false,false] (by kernel_rfl) rfl rfl ⟨(blk_cell BK255.out 0).trans rfl,(blk_cell BK255.out 1).trans rfl,(blk_cell BK255.out 2).trans rfl,(blk_cell BK255.out 3).trans rfl,(blk_cell BK255.out 4).trans rfl⟩ (fun hHeld => ?_);refine with_tabW water_ground_joined.tab8 water_ground_joined.bits8 (fun HT_ HW_ => ?_)
    generalize w47.drew = w48 at BK255 BK256 HB hHeld ⊢
    refine pI 1 (some 52) ?_
    refine pI 2 (some 53) ?_
    refine pI 4 (some 55) ?_
    refine tI5 0 (some 51) hHeld ?_
    refine tI5 3 (some 54) hHeld ?_
    refine oI 5 (some 56) (fun K hK => ?_)
    refine goes_ Try.func97 (by kernel_rfl) rfl #[.agg #[.int .i64 a0_0,.int .i64 a0_1,.slice A0_2 l0_2.length c0_2,.slice A0_3 l0_3.length c0_3,.slice A0_4 l0_4.length c0_4],.int .i64 t257] (by rfl) rfl rfl ga_ ?_
    with_reducible refine (water_ground_level.calls a0_0 a0_1 _ _ l0_2 _ _ l0_3 _ _ l0_4 t257 t262 _ ?side1 ?side2 ?side3 ?side4 ?side5 ?side6 A34.out).mono ?_
    (case side1 => exact cq HR0_2)
    (case side2 => exact HC0_2.out)
    (case side3 => exact cq HR0_3)
    (case side4 => exact HC0_3.out)
    (case side5 => exact cq HR0_4)
    (case side6 => exact HC0_4.out)
    rintro e w49 ⟨rfl,hb⟩
    refine ⟨_,rfl,?_⟩
    have n0_:=bkb BK255 hb
    have n1_:=bkb BK256 hb
    have n2_:=Aside0.mk (below_step (hb_) hb)
    clear BK255
    clear BK256
    clear HB
    have BK255:=n0_
    have BK256:=n1_
    have HB:=n2_
    clear n0_ n1_ n2_
    (try clear hb)
    (try clear hb2)
    (try clear hk)
    (try clear hi)
    refine hK.out _ _ ⟨(blk_cell BK255.out 0).trans rfl,(blk_cell BK255.out 1).trans rfl,(blk_cell BK255.out 2).trans rfl,(blk_cell BK255.out 3).trans rfl,(blk_cell BK255.out 4).trans rfl⟩ (fun hHeld => ?_)
    clear hK K
    refine norm_ (a':=?_) ?_ ?_
    rotate_left
    ·show Act.put _ (some 56) _ = _
     simp only [Act.put,List.setIfInBounds_toArray,List.set_cons_zero,List.set_cons_succ,i64_w,i32_w]
     rfl
    refine oI 6 (some 57) (fun K hK => ?_)
    refine goes_ Try.func96 (by kernel_rfl) rfl #[.agg #[.int .i64 a0_0,.int .i64 a0_1,.slice A0_2 l0_2.length c0_2,.slice A0_3 l0_3.length c0_3,.slice A0_4 l0_4.length c0_4],.int .i64 a2,.int .i64 a3,.int .i64 t262] (by rfl) rfl rfl ga_ ?_
    with_reducible refine (water_ground_through.calls a0_0 a0_1 _ _ l0_2 _ _ l0_3 _ _ l0_4 a2 a3 t262 t263 _ ?side1 ?side2 ?side3 ?side4 ?side5 ?side6 A35.out).mono ?_
    (case side1 => exact cq HR0_2)
    (case side2 => exact HC0_2.out)
    (case side3 => exact cq HR0_3)
    (case side4 => exact HC0_3.out)
    (case side5 => exact cq HR0_4)
    (case side6 => exact HC0_4.out)
    rintro e w50 ⟨rfl,hb⟩
    refine ⟨_,rfl,?_⟩
    have n0_:=bkb BK255 hb
    have n1_:=bkb BK256 hb
    have n2_:=Aside0.mk (below_step (hb_) hb)
    clear BK255
    clear BK256
    clear HB
    have BK255:=n0_
    have BK256:=n1_
    have HB:=n2_
    clear n0_ n1_ n2_
    (try clear hb)
    (try clear hb2)
    (try clear hk)
    (try clear hi)
    refine hK.out _ _ ⟨(blk_cell BK255.out 0).trans rfl,(blk_cell BK255.out 1).trans rfl,(blk_cell BK255.out 2).trans rfl,(blk_cell BK255.out 3).trans rfl,(blk_cell BK255.out 4).trans rfl⟩ (fun hHeld => ?_)
    clear hK K
    refine norm_ (a':=?_) ?_ ?_
    rotate_left
    ·show Act.put _ (some 57) _ = _
     simp only [Act.put,List.setIfInBounds_toArray,List.set_cons_zero,List.set_cons_succ,i64_w,i32_w]
     rfl
    refine pI 7 (some 8) ?_
    refine done_ (done_of HT_.out (by kernel_rfl)) ?_
    try go_wp2
    go_ret
    exact ⟨er_,hb_⟩
   rw [if_neg c20] at H
   have c20b0:=bqf c20
   have c20b1:=bnt c20
   by_cases c51 : (rd l1_0 t257) = 2
   rotate_left
   ·rw [if_neg c51] at H
    have c51b0:=bqf c51
    have c51b1:=bnt c51
    replace H:=Option.bind_eq_some_iff.mp H
    obtain ⟨t266,A690,H⟩:=H
    replace H : ((water_ground_level.f a0_0 a0_1 l0_2 l0_3 l0_4 t257).bind fun t267 => (some (t266 == t267))) = some r:=H
    have A69:=Aside0.mk A690
    clear A690
    replace H:=Option.bind_eq_some_iff.mp H
    obtain ⟨t267,A700,H⟩:=H
    replace H : (some (t266 == t267)) = some r:=H
    have A70:=Aside0.mk A700
    clear A700
    obtain rfl:=Option.some.inj H
    go_enter Try.func81,Try.ntmps81
    try go_wp2_with (first|((with_reducible refine gate_dst (N:=4) rfl ?_);refine box_ev (N:=4) (cs:=#[.int .i64 a0_0,.int .i64 a0_1,.slice A0_2 l0_2.length c0_2,.slice A0_3 l0_3.length c0_3,.slice A0_4 l0_4.length c0_4]) (t:=104) ?_;intro gb255 hg w71 hbox hb;have BK255:=Aside0.mk (hbox);have GW255 : Aside0 (w.heap.size ≤ gb255):=gsz hg;have GE255:=GW255;replace HB:=hbs hb;clear hb hbox hg)|((with_reducible refine gate_dst (N:=5) rfl ?_);refine box_ev (N:=5) (cs:=#[.slice A1_0 l1_0.length c1_0,.slice A1_1 l1_1.length c1_1]) (t:=55) ?_;intro gb256 hg w72 hbox hb;have BK256:=Aside0.mk (hbox);have GW256 : Aside0 (w.heap.size ≤ gb256):=gsz hg;have GE256:=GW256;have NB255_256:=nbl BK255 hg;have NB256_255:=nbr BK255 hg;replace BK255:=bkb BK255 hb;replace HB:=hbs hb;clear hb hbox hg;have hnb73:=NB255_256.out;have hnc73:=NB256_255.out;obtain ⟨_,_,_,_,_,_,_,_,_,_⟩:=cells5 BK255.out)|((with_reducible refine gate_callee (f:=82) rfl ?_);refine goesL_ (some 15) rfl rfl Try.func82 (by kernel_rfl) rfl #[.agg #[.int .i64 a0_0,.int .i64 a0_1,.slice A0_2 l0_2.length c0_2,.slice A0_3 l0_3.length c0_3,.slice A0_4 l0_4.length c0_4],.int .i64 a2,.int .i64 a3] rfl ga_ ?_;(with_reducible refine (water_ground_beyond.calls k a0_0 a0_1 _ _ l0_2 _ _ l0_3 _ _ l0_4 a2 a3 t257 _ ?_ ?_ ?_ ?_ ?_ ?_ A5.out).mono ?_);exact cq HR0_2;exact HC0_2.out;exact cq HR0_3;exact HC0_3.out;exact cq HR0_4;exact HC0_4.out;rintro e w75 ⟨rfl,hb⟩;refine ⟨_,rfl,?_⟩;replace BK255:=bkb BK255 hb;replace BK256:=bkb BK256 hb;replace HB:=hbs hb;obtain ⟨_,_,_,_,_,_,_,_,_,_⟩:=cells5 BK255.out;obtain ⟨_,_,_,_⟩:=cells2 BK256.out)|(go_at_call 80;(with_reducible refine (water_ground_wet.calls a0_0 a0_1 _ _ l0_2 _ _ l0_3 _ _ l0_4 _ _ l1_0 _ _ l1_1 a2 true _ ?_ ?_ ?_ ?_ ?_ ?_ ?_ ?_ ?_ ?_ A12.out).mono ?_);exact cq HR0_2;exact HC0_2.out;exact cq HR0_3;exact HC0_3.out;exact cq HR0_4;exact HC0_4.out;exact cq HR1_0;exact HC1_0.out;exact cq HR1_1;exact HC1_1.out;rintro e w78 ⟨rfl,hb⟩;replace BK255:=bkb BK255 hb;replace BK256:=bkb BK256 hb;replace HB:=hbs hb;obtain ⟨_,_,_,_,_,_,_,_,_,_⟩:=cells5 BK255.out;obtain ⟨_,_,_,_⟩:=cells2 BK256.out)|(go_at_call 80;(with_reducible refine (water_ground_wet.calls a0_0 a0_1 _ _ l0_2 _ _ l0_3 _ _ l0_4 _ _ l1_0 _ _ l1_1 t257 true _ ?_ ?_ ?_ ?_ ?_ ?_ ?_ ?_ ?_ ?_ A14.out).mono ?_);exact cq HR0_2;exact HC0_2.out;exact cq HR0_3;exact HC0_3.out;exact cq HR0_4;exact HC0_4.out;exact cq HR1_0;exact HC1_0.out;exact cq HR1_1;exact HC1_1.out;rintro e w81 ⟨rfl,hb⟩;replace BK255:=bkb BK255 hb;replace BK256:=bkb BK256 hb;replace HB:=hbs hb))
    replace BK255:=Aside0.mk (blk_drew BK255.out)
    replace BK256:=Aside0.mk (blk_drew BK256.out)
    replace HB:=Aside0.mk (below_drew1 HB.out)
    have p260 : 0 ≤ (a2 : Int):=of_decide_eq_true (by first|(with_reducible assumption)|assumption)
    have q260 : a2 < (l1_0.length : Int):=of_decide_eq_true (by first|(with_reducible assumption)|assumption)
    obtain ⟨ad260,e260,hx260_0⟩:=Kd.at_int HR1_0.out a2 p260 q260
    have hw260_0:=hx260_0
    cases e260
    replace hx260_0:=(HB.out.cell (World.block_lt_of_cell? w _ hx260_0)).trans hx260_0
    replace p260:=eq_true p260
    replace q260:=eq_true q260
    have p261 : 0 ≤ (t257 : Int):=of_decide_eq_true (by first|(with_reducible assumption)|assumption)
    have q261 : t257 < (l1_0.length : Int):=of_decide_eq_true (by first|(with_reducible assumption)|assumption)
    obtain ⟨ad261,e261,hx261_0⟩:=Kd.at_int HR1_0.out t257 p261 q261
    have hw261_0:=hx261_0
    obtain rfl : ad260 = ad261:=(by injection e261)
    replace hx261_0:=(HB.out.cell (World.block_lt_of_cell? w _ hx261_0)).trans hx261_0
    replace p261:=eq_true p261
    replace q261:=eq_true q261
    refine start_ (n:=14) (S:=fun w' => w'.cell? ⟨gb256,0,none⟩ = some (.slice (some ad260) l1_0.length c1_0) ∧ w'.cell? ⟨gb256,1,none⟩ = some (.slice A1_1 l1_1.length c1_1) ∧ w'.cell? (ad260.add (a2).toNat) = some (.int .i64 (rd l1_0 a2)) ∧ w'.cell? (ad260.add (t257).toNat) = some (.int .i64 (rd l1_0 t257))) (ds:=[]) #[false,false,false,false,false,false,false,false,false,false,false,false,false,false] (by kernel_rfl) rfl rfl ⟨(blk_cell BK256.out 0).trans rfl,(blk_cell BK256.out 1).trans rfl,((HB.out.cell (World.block_lt_of_cell? w _ hw260_0)).trans hw260_0),((HB.out.cell (World.block_lt_of_cell? w _ hw261_0)).trans hw261_0)⟩ (fun hHeld => ?_);refine with_tabW water_ground_joined.tab4 water_ground_joined.bits4 (fun HT_ HW_ => ?_)
    generalize w81.drew = w82 at BK255 BK256 HB hx260_0 hx261_0 hHeld ⊢
    refine pI 0 (some 32) ?_
    refine pI 2 (some 34) ?_
    refine pI 6 (some 38) ?_
    refine pI 8 (some 40) ?_
    refine tI4 1 (some 33) hHeld ?_
    refine pI 3 (some 35) ?_
    refine tI4 4 (some 36) hHeld ?_
    refine pI 5 (some 37) ?_
    refine pI 12 (some 10) ?_
    refine tI4 7 (some 39) hHeld ?_
    refine pI 9 (some 41) ?_
    refine tI4 10 (some 42) hHeld ?_
    refine pI 11 (some 43) ?_
    refine pI 13 (some 11) ?_
    refine done_ (done_of HT_.out (by kernel_rfl)) ?_
    try go_wp2
    replace BK255:=Aside0.mk (blk_drew BK255.out)
    replace BK256:=Aside0.mk (blk_drew BK256.out)
    replace HB:=Aside0.mk (below_drew1 HB.out)
    refine start_ (n:=8) (S:=fun w' => w'.cell? ⟨gb255,0,none⟩ = some (.int .i64 a0_0) ∧ w'.cell? ⟨gb255,1,none⟩ = some (.int .i64 a0_1) ∧ w'.cell? ⟨gb255,2,none⟩ = some (.slice A0_2 l0_2.length c0_2) ∧ w'.cell? ⟨gb255,3,none⟩ = some (.slice A0_3 l0_3.length c0_3) ∧ w'.cell? ⟨gb255,4,none⟩ = some (.slice A0_4 l0_4.length c0_4)) (ds:=[]) #[false,false,false,false,false,false,false,false] (by kernel_rfl) rfl rfl ⟨(blk_cell BK255.out 0).trans rfl,(blk_cell BK255.out 1).trans rfl,(blk_cell BK255.out 2).trans rfl,(blk_cell BK255.out 3).trans rfl,(blk_cell BK255.out 4).trans rfl⟩ (fun hHeld => ?_);refine with_tabW water_ground_joined.tab11 water_ground_joined.bits11 (fun HT_ HW_ => ?_)
    generalize w82.drew = w83 at BK255 BK256 HB hHeld ⊢
    refine pI 1 (some 70) ?_
    refine pI 4 (some 73) ?_
    refine tI5 0 (some 69) hHeld ?_
    refine tI5 3 (some 72) hHeld ?_
    refine oI 2 (some 71) (fun K hK => ?_)
    refine goes_ Try.func97 (by kernel_rfl) rfl #[.agg #[.int .i64 a0_0,.int .i64 a0_1,.slice A0_2 l0_2.length c0_2,.slice A0_3 l0_3.length c0_3,.slice A0_4 l0_4.length c0_4],.int .i64 a2] (by rfl) rfl rfl ga_ ?_
    with_reducible refine (water_ground_level.calls a0_0 a0_1 _ _ l0_2 _ _ l0_3 _ _ l0_4 a2 t266 _ ?side1 ?side2 ?side3 ?side4 ?side5 ?side6 A69.out).mono ?_
    (case side1 => exact cq HR0_2)
    (case side2 => exact HC0_2.out)
    (case side3 => exact cq HR0_3)
    (case side4 => exact HC0_3.out)
    (case side5 => exact cq HR0_4)
    (case side6 => exact HC0_4.out)
    rintro e w84 ⟨rfl,hb⟩
    refine ⟨_,rfl,?_⟩
    have n0_:=bkb BK255 hb
    have n1_:=bkb BK256 hb
    have n2_:=Aside0.mk (below_step (hb_) hb)
    clear BK255
    clear BK256
    clear HB
    have BK255:=n0_
    have BK256:=n1_
    have HB:=n2_
    clear n0_ n1_ n2_
    (try clear hb)
    (try clear hb2)
    (try clear hk)
    (try clear hi)
    refine hK.out _ _ ⟨(blk_cell BK255.out 0).trans rfl,(blk_cell BK255.out 1).trans rfl,(blk_cell BK255.out 2).trans rfl,(blk_cell BK255.out 3).trans rfl,(blk_cell BK255.out 4).trans rfl⟩ (fun hHeld => ?_)
    clear hK K
    refine norm_ (a':=?_) ?_ ?_
    rotate_left
    ·show Act.put _ (some 71) _ = _
     simp only [Act.put,List.setIfInBounds_toArray,List.set_cons_zero,List.set_cons_succ,i64_w,i32_w]
     rfl
    refine oI 5 (some 74) (fun K hK => ?_)
    refine goes_ Try.func97 (by kernel_rfl) rfl #[.agg #[.int .i64 a0_0,.int .i64 a0_1,.slice A0_2 l0_2.length c0_2,.slice A0_3 l0_3.length c0_3,.slice A0_4 l0_4.length c0_4],.int .i64 t257] (by rfl) rfl rfl ga_ ?_
    with_reducible refine (water_ground_level.calls a0_0 a0_1 _ _ l0_2 _ _ l0_3 _ _ l0_4 t257 t267 _ ?side1 ?side2 ?side3 ?side4 ?side5 ?side6 A70.out).mono ?_
    (case side1 => exact cq HR0_2)
    (case side2 => exact HC0_2.out)
    (case side3 => exact cq HR0_3)
    (case side4 => exact HC0_3.out)
    (case side5 => exact cq HR0_4)
    (case side6 => exact HC0_4.out)
    rintro e w85 ⟨rfl,hb⟩
    refine ⟨_,rfl,?_⟩
    have n0_:=bkb BK255 hb
    have n1_:=bkb BK256 hb
    have n2_:=Aside0.mk (below_step (hb_) hb)
    clear BK255
    clear BK256
    clear HB
    have BK255:=n0_
    have BK256:=n1_
    have HB:=n2_
    clear n0_ n1_ n2_
    (try clear hb)
    (try clear hb2)
    (try clear hk)
    (try clear hi)
    refine hK.out _ _ ⟨(blk_cell BK255.out 0).trans rfl,(blk_cell BK255.out 1).trans rfl,(blk_cell BK255.out 2).trans rfl,(blk_cell BK255.out 3).trans rfl,(blk_cell BK255.out 4).trans rfl⟩ (fun hHeld => ?_)
    clear hK K
    refine norm_ (a':=?_) ?_ ?_
    rotate_left
    ·show Act.put _ (some 74) _ = _
     simp only [Act.put,List.setIfInBounds_toArray,List.set_cons_zero,List.set_cons_succ,i64_w,i32_w]
     rfl
    refine pI 6 (some 75) ?_
    refine pI 7 (some 8) ?_
    refine done_ (done_of HT_.out (by kernel_rfl)) ?_
    try go_wp2
    go_ret
    exact ⟨er_,hb_⟩
   rw [if_pos c51] at H
   have c51b0:=bqt c51
   have c51b1:=bnf c51
   clear c51
   replace H:=Option.bind_eq_some_iff.mp H
   obtain ⟨t264,A520,H⟩:=H
   replace H : ((water_ground_through.f a0_0 a0_1 l0_2 l0_3 l0_4 t257 (Int.tmod (wrap64 (a3 + 2)) 4) t264).bind fun t265 => (some t265)) = some r:=H
   have A52:=Aside0.mk A520
   clear A520
   replace H:=Option.bind_eq_some_iff.mp H
   obtain ⟨t265,A530,H⟩:=H
   replace H : (some t265) = some r:=H
   have A53:=Aside0.mk A530
   clear A530
   obtain rfl:=Option.some.inj H
   go_enter Try.func81,Try.ntmps81
   try go_wp2_with (first|((with_reducible refine gate_dst (N:=4) rfl ?_);refine box_ev (N:=4) (cs:=#[.int .i64 a0_0,.int .i64 a0_1,.slice A0_2 l0_2.length c0_2,.slice A0_3 l0_3.length c0_3,.slice A0_4 l0_4.length c0_4]) (t:=104) ?_;intro gb255 hg w54 hbox hb;have BK255:=Aside0.mk (hbox);have GW255 : Aside0 (w.heap.size ≤ gb255):=gsz hg;have GE255:=GW255;replace HB:=hbs hb;clear hb hbox hg)|((with_reducible refine gate_dst (N:=5) rfl ?_);refine box_ev (N:=5) (cs:=#[.slice A1_0 l1_0.length c1_0,.slice A1_1 l1_1.length c1_1]) (t:=55) ?_;intro gb256 hg w55 hbox hb;have BK256:=Aside0.mk (hbox);have GW256 : Aside0 (w.heap.size ≤ gb256):=gsz hg;have GE256:=GW256;have NB255_256:=nbl BK255 hg;have NB256_255:=nbr BK255 hg;replace BK255:=bkb BK255 hb;replace HB:=hbs hb;clear hb hbox hg;have hnb56:=NB255_256.out;have hnc56:=NB256_255.out;obtain ⟨_,_,_,_,_,_,_,_,_,_⟩:=cells5 BK255.out)|((with_reducible refine gate_callee (f:=82) rfl ?_);refine goesL_ (some 15) rfl rfl Try.func82 (by kernel_rfl) rfl #[.agg #[.int .i64 a0_0,.int .i64 a0_1,.slice A0_2 l0_2.length c0_2,.slice A0_3 l0_3.length c0_3,.slice A0_4 l0_4.length c0_4],.int .i64 a2,.int .i64 a3] rfl ga_ ?_;(with_reducible refine (water_ground_beyond.calls k a0_0 a0_1 _ _ l0_2 _ _ l0_3 _ _ l0_4 a2 a3 t257 _ ?_ ?_ ?_ ?_ ?_ ?_ A5.out).mono ?_);exact cq HR0_2;exact HC0_2.out;exact cq HR0_3;exact HC0_3.out;exact cq HR0_4;exact HC0_4.out;rintro e w58 ⟨rfl,hb⟩;refine ⟨_,rfl,?_⟩;replace BK255:=bkb BK255 hb;replace BK256:=bkb BK256 hb;replace HB:=hbs hb;obtain ⟨_,_,_,_,_,_,_,_,_,_⟩:=cells5 BK255.out;obtain ⟨_,_,_,_⟩:=cells2 BK256.out)|(go_at_call 80;(with_reducible refine (water_ground_wet.calls a0_0 a0_1 _ _ l0_2 _ _ l0_3 _ _ l0_4 _ _ l1_0 _ _ l1_1 a2 true _ ?_ ?_ ?_ ?_ ?_ ?_ ?_ ?_ ?_ ?_ A12.out).mono ?_);exact cq HR0_2;exact HC0_2.out;exact cq HR0_3;exact HC0_3.out;exact cq HR0_4;exact HC0_4.out;exact cq HR1_0;exact HC1_0.out;exact cq HR1_1;exact HC1_1.out;rintro e w61 ⟨rfl,hb⟩;replace BK255:=bkb BK255 hb;replace BK256:=bkb BK256 hb;replace HB:=hbs hb;obtain ⟨_,_,_,_,_,_,_,_,_,_⟩:=cells5 BK255.out;obtain ⟨_,_,_,_⟩:=cells2 BK256.out)|(go_at_call 80;(with_reducible refine (water_ground_wet.calls a0_0 a0_1 _ _ l0_2 _ _ l0_3 _ _ l0_4 _ _ l1_0 _ _ l1_1 t257 true _ ?_ ?_ ?_ ?_ ?_ ?_ ?_ ?_ ?_ ?_ A14.out).mono ?_);exact cq HR0_2;exact HC0_2.out;exact cq HR0_3;exact HC0_3.out;exact cq HR0_4;exact HC0_4.out;exact cq HR1_0;exact HC1_0.out;exact cq HR1_1;exact HC1_1.out;rintro e w64 ⟨rfl,hb⟩;replace BK255:=bkb BK255 hb;replace BK256:=bkb BK256 hb;replace HB:=hbs hb))
   replace BK255:=Aside0.mk (blk_drew BK255.out)
   replace BK256:=Aside0.mk (blk_drew BK256.out)
   replace HB:=Aside0.mk (below_drew1 HB.out)
   have p260 : 0 ≤ (a2 : Int):=of_decide_eq_true (by first|(with_reducible assumption)|assumption)
   have q260 : a2 < (l1_0.length : Int):=of_decide_eq_true (by first|(with_reducible assumption)|assumption)
   obtain ⟨ad260,e260,hx260_0⟩:=Kd.at_int HR1_0.out a2 p260 q260
   have hw260_0:=hx260_0
   cases e260
   replace hx260_0:=(HB.out.cell (World.block_lt_of_cell? w _ hx260_0)).trans hx260_0
   replace p260:=eq_true p260
   replace q260:=eq_true q260
   have p261 : 0 ≤ (t257 : Int):=of_decide_eq_true (by first|(with_reducible assumption)|assumption)
   have q261 : t257 < (l1_0.length : Int):=of_decide_eq_true (by first|(with_reducible assumption)|assumption)
   obtain ⟨ad261,e261,hx261_0⟩:=Kd.at_int HR1_0.out t257 p261 q261
   have hw261_0:=hx261_0
   obtain rfl : ad260 = ad261:=(by injection e261)
   replace hx261_0:=(HB.out.cell (World.block_lt_of_cell? w _ hx261_0)).trans hx261_0
   replace p261:=eq_true p261
   replace q261:=eq_true q261
   refine start_ (n:=14) (S:=fun w' => w'.cell? ⟨gb256,0,none⟩ = some (.slice (some ad260) l1_0.length c1_0) ∧ w'.cell? ⟨gb256,1,none⟩ = some (.slice A1_1 l1_1.length c1_1) ∧ w'.cell? (ad260.add (a2).toNat) = some (.int .i64 (rd l1_0 a2)) ∧ w'.cell? (ad260.add (t257).toNat) = some (.int .i64 (rd l1_0 t257))) (ds:=[]) #[false,false,false,false,false,false,false,false,false,false,false,false,false,false] (by kernel_rfl) rfl rfl ⟨(blk_cell BK256.out 0).trans rfl,(blk_cell BK256.out 1).trans rfl,((HB.out.cell (World.block_lt_of_cell? w _ hw260_0)).trans hw260_0),((HB.out.cell (World.block_lt_of_cell? w _ hw261_0)).trans hw261_0)⟩ (fun hHeld => ?_);refine with_tabW water_ground_joined.tab4 water_ground_joined.bits4 (fun HT_ HW_ => ?_)
   generalize w64.drew = w65 at BK255 BK256 HB hx260_0 hx261_0 hHeld ⊢
   refine pI 0 (some 32) ?_
   refine pI 2 (some 34) ?_
   refine pI 6 (some 38) ?_
   refine pI 8 (some 40) ?_
   refine tI4 1 (some 33) hHeld ?_
   refine pI 3 (some 35) ?_
   refine tI4 4 (some 36) hHeld ?_
   refine pI 5 (some 37) ?_
   refine pI 12 (some 10) ?_
   refine tI4 7 (some 39) hHeld ?_
   refine pI 9 (some 41) ?_
   refine tI4 10 (some 42) hHeld ?_
   refine pI 11 (some 43) ?_
   refine pI 13 (some 11) ?_
   refine done_ (done_of HT_.out (by kernel_rfl)) ?_
   try go_wp2
   replace BK255:=Aside0.mk (blk_drew BK255.out)
   replace BK256:=Aside0.mk (blk_drew BK256.out)
   replace HB:=Aside0.mk (below_drew1 HB.out)
   refine start_ (n:=10) (S:=fun w' => w'.cell? ⟨gb255,0,none⟩ = some (.int .i64 a0_0) ∧ w'.cell? ⟨gb255,1,none⟩ = some (.int .i64 a0_1) ∧ w'.cell? ⟨gb255,2,none⟩ = some (.slice A0_2 l0_2.length c0_2) ∧ w'.cell? ⟨gb255,3,none⟩ = some (.slice A0_3 l0_3.length c0_3) ∧ w'.cell? ⟨gb255,4,none⟩ = some (.slice A0_4 l0_4.length c0_4)) (ds:=[]) #[false,false,false,false,false,false,false,false,false,false] (by kernel_rfl) rfl rfl ⟨(blk_cell BK255.out 0).trans rfl,(blk_cell BK255.out 1).trans rfl,(blk_cell BK255.out 2).trans rfl,(blk_cell BK255.out 3).trans rfl,(blk_cell BK255.out 4).trans rfl⟩ (fun hHeld => ?_);refine with_tabW water_ground_joined.tab10 water_ground_joined.bits10 (fun HT_ HW_ => ?_)
   generalize w65.drew = w66 at BK255 BK256 HB hHeld ⊢
   refine pI 1 (some 61) ?_
   refine pI 2 (some 62) ?_
   refine pI 3 (some 63) ?_
   refine pI 4 (some 64) ?_
   refine pI 6 (some 66) ?_
   refine tI5 0 (some 60) hHeld ?_
   refine tI5 5 (some 65) hHeld ?_
   refine oI 7 (some 67) (fun K hK => ?_)
   refine goes_ Try.func97 (by kernel_rfl) rfl #[.agg #[.int .i64 a0_0,.int .i64 a0_1,.slice A0_2 l0_2.length c0_2,.slice A0_3 l0_3.length c0_3,.slice A0_4 l0_4.length c0_4],.int .i64 a2] (by rfl) rfl rfl ga_ ?_
   with_reducible refine (water_ground_level.calls a0_0 a0_1 _ _ l0_2 _ _ l0_3 _ _ l0_4 a2 t264 _ ?side1 ?side2 ?side3 ?side4 ?side5 ?side6 A52.out).mono ?_
   (case side1 => exact cq HR0_2)
   (case side2 => exact HC0_2.out)
   (case side3 => exact cq HR0_3)
   (case side4 => exact HC0_3.out)
   (case side5 => exact cq HR0_4)
   (case side6 => exact HC0_4.out)
   rintro e w67 ⟨rfl,hb⟩
   refine ⟨_,rfl,?_⟩
   have n0_:=bkb BK255 hb
   have n1_:=bkb BK256 hb
   have n2_:=Aside0.mk (below_step (hb_) hb)
   clear BK255
   clear BK256
   clear HB
   have BK255:=n0_
   have BK256:=n1_
   have HB:=n2_
   clear n0_ n1_ n2_
   (try clear hb)
   (try clear hb2)
   (try clear hk)
   (try clear hi)
   refine hK.out _ _ ⟨(blk_cell BK255.out 0).trans rfl,(blk_cell BK255.out 1).trans rfl,(blk_cell BK255.out 2).trans rfl,(blk_cell BK255.out 3).trans rfl,(blk_cell BK255.out 4).trans rfl⟩ (fun hHeld => ?_)
   clear hK K
   refine norm_ (a':=?_) ?_ ?_
   rotate_left
   ·show Act.put _ (some 67) _ = _
    simp only [Act.put,List.setIfInBounds_toArray,List.set_cons_zero,List.set_cons_succ,i64_w,i32_w]
    rfl
   refine oI 8 (some 68) (fun K hK => ?_)
   refine goes_ Try.func96 (by kernel_rfl) rfl #[.agg #[.int .i64 a0_0,.int .i64 a0_1,.slice A0_2 l0_2.length c0_2,.slice A0_3 l0_3.length c0_3,.slice A0_4 l0_4.length c0_4],.int .i64 t257,.int .i64 (Int.tmod (wrap64 (a3 + 2)) 4),.int .i64 t264] (by rfl) rfl rfl ga_ ?_
   with_reducible refine (water_ground_through.calls a0_0 a0_1 _ _ l0_2 _ _ l0_3 _ _ l0_4 t257 (Int.tmod (wrap64 (a3 + 2)) 4) t264 t265 _ ?side1 ?side2 ?side3 ?side4 ?side5 ?side6 A53.out).mono ?_
   (case side1 => exact cq HR0_2)
   (case side2 => exact HC0_2.out)
   (case side3 => exact cq HR0_3)
   (case side4 => exact HC0_3.out)
   (case side5 => exact cq HR0_4)
   (case side6 => exact HC0_4.out)
   rintro e w68 ⟨rfl,hb⟩
   refine ⟨_,rfl,?_⟩
   have n0_:=bkb BK255 hb
   have n1_:=bkb BK256 hb
   have n2_:=Aside0.mk (below_step (hb_) hb)
   clear BK255
   clear BK256
   clear HB
   have BK255:=n0_
   have BK256:=n1_
   have HB:=n2_
   clear n0_ n1_ n2_
   (try clear hb)
   (try clear hb2)
   (try clear hk)
   (try clear hi)
   refine hK.out _ _ ⟨(blk_cell BK255.out 0).trans rfl,(blk_cell BK255.out 1).trans rfl,(blk_cell BK255.out 2).trans rfl,(blk_cell BK255.out 3).trans rfl,(blk_cell BK255.out 4).trans rfl⟩ (fun hHeld => ?_)
   clear hK K
   refine norm_ (a':=?_) ?_ ?_
   rotate_left
   ·show Act.put _ (some 68) _ = _
    simp only [Act.put,List.setIfInBounds_toArray,List.set_cons_zero,List.set_cons_succ,i64_w,i32_w]
    rfl
   refine pI 9 (some 8) ?_
   refine done_ (done_of HT_.out (by kernel_rfl)) ?_
   try go_wp2
   go_ret
   exact ⟨er_,hb_⟩
  ·replace c15:=Bool.eq_false_iff.mpr c15
   subst c15
   have H1 : (some false) = some r:=by rw [if_neg (show ¬ (false = true) by decide)] at H;exact H
   clear H
   have H:=H1
   clear H1
   obtain rfl:=Option.some.inj H
   go_enter Try.func81,Try.ntmps81
   go_wp2_with (first|((with_reducible refine gate_dst (N:=4) rfl ?_);refine box_ev (N:=4) (cs:=#[.int .i64 a0_0,.int .i64 a0_1,.slice A0_2 l0_2.length c0_2,.slice A0_3 l0_3.length c0_3,.slice A0_4 l0_4.length c0_4]) (t:=104) ?_;intro gb255 hg w86 hbox hb;have BK255:=Aside0.mk (hbox);have GW255 : Aside0 (w.heap.size ≤ gb255):=gsz hg;have GE255:=GW255;replace HB:=hbs hb;clear hb hbox hg)|((with_reducible refine gate_dst (N:=5) rfl ?_);refine box_ev (N:=5) (cs:=#[.slice A1_0 l1_0.length c1_0,.slice A1_1 l1_1.length c1_1]) (t:=55) ?_;intro gb256 hg w87 hbox hb;have BK256:=Aside0.mk (hbox);have GW256 : Aside0 (w.heap.size ≤ gb256):=gsz hg;have GE256:=GW256;have NB255_256:=nbl BK255 hg;have NB256_255:=nbr BK255 hg;replace BK255:=bkb BK255 hb;replace HB:=hbs hb;clear hb hbox hg;have hnb88:=NB255_256.out;have hnc88:=NB256_255.out;obtain ⟨_,_,_,_,_,_,_,_,_,_⟩:=cells5 BK255.out)|((with_reducible refine gate_callee (f:=82) rfl ?_);refine goesL_ (some 15) rfl rfl Try.func82 (by kernel_rfl) rfl #[.agg #[.int .i64 a0_0,.int .i64 a0_1,.slice A0_2 l0_2.length c0_2,.slice A0_3 l0_3.length c0_3,.slice A0_4 l0_4.length c0_4],.int .i64 a2,.int .i64 a3] rfl ga_ ?_;(with_reducible refine (water_ground_beyond.calls k a0_0 a0_1 _ _ l0_2 _ _ l0_3 _ _ l0_4 a2 a3 t257 _ ?_ ?_ ?_ ?_ ?_ ?_ A5.out).mono ?_);exact cq HR0_2;exact HC0_2.out;exact cq HR0_3;exact HC0_3.out;exact cq HR0_4;exact HC0_4.out;rintro e w90 ⟨rfl,hb⟩;refine ⟨_,rfl,?_⟩;replace BK255:=bkb BK255 hb;replace BK256:=bkb BK256 hb;replace HB:=hbs hb;obtain ⟨_,_,_,_,_,_,_,_,_,_⟩:=cells5 BK255.out;obtain ⟨_,_,_,_⟩:=cells2 BK256.out)|(go_at_call 80;(with_reducible refine (water_ground_wet.calls a0_0 a0_1 _ _ l0_2 _ _ l0_3 _ _ l0_4 _ _ l1_0 _ _ l1_1 a2 true _ ?_ ?_ ?_ ?_ ?_ ?_ ?_ ?_ ?_ ?_ A12.out).mono ?_);exact cq HR0_2;exact HC0_2.out;exact cq HR0_3;exact HC0_3.out;exact cq HR0_4;exact HC0_4.out;exact cq HR1_0;exact HC1_0.out;exact cq HR1_1;exact HC1_1.out;rintro e w93 ⟨rfl,hb⟩;replace BK255:=bkb BK255 hb;replace BK256:=bkb BK256 hb;replace HB:=hbs hb;obtain ⟨_,_,_,_,_,_,_,_,_,_⟩:=cells5 BK255.out;obtain ⟨_,_,_,_⟩:=cells2 BK256.out)|(go_at_call 80;(with_reducible refine (water_ground_wet.calls a0_0 a0_1 _ _ l0_2 _ _ l0_3 _ _ l0_4 _ _ l1_0 _ _ l1_1 t257 false _ ?_ ?_ ?_ ?_ ?_ ?_ ?_ ?_ ?_ ?_ A14.out).mono ?_);exact cq HR0_2;exact HC0_2.out;exact cq HR0_3;exact HC0_3.out;exact cq HR0_4;exact HC0_4.out;exact cq HR1_0;exact HC1_0.out;exact cq HR1_1;exact HC1_1.out;rintro e w96 ⟨rfl,hb⟩;replace BK255:=bkb BK255 hb;replace BK256:=bkb BK256 hb;replace HB:=hbs hb))
   go_ret
   exact ⟨er_,hb_⟩
 ·replace c13:=Bool.eq_false_iff.mpr c13
  subst c13
  have H1 : (some false) = some r:=by rw [if_neg (show ¬ (false = true) by decide)] at H;exact H
  clear H
  have H:=H1
  clear H1
  obtain rfl:=Option.some.inj H
  go_enter Try.func81,Try.ntmps81
  go_wp2_with (first|((with_reducible refine gate_dst (N:=4) rfl ?_);refine box_ev (N:=4) (cs:=#[.int .i64 a0_0,.int .i64 a0_1,.slice A0_2 l0_2.length c0_2,.slice A0_3 l0_3.length c0_3,.slice A0_4 l0_4.length c0_4]) (t:=104) ?_;intro gb255 hg w97 hbox hb;have BK255:=Aside0.mk (hbox);have GW255 : Aside0 (w.heap.size ≤ gb255):=gsz hg;have GE255:=GW255;replace HB:=hbs hb;clear hb hbox hg)|((with_reducible refine gate_dst (N:=5) rfl ?_);refine box_ev (N:=5) (cs:=#[.slice A1_0 l1_0.length c1_0,.slice A1_1 l1_1.length c1_1]) (t:=55) ?_;intro gb256 hg w98 hbox hb;have BK256:=Aside0.mk (hbox);have GW256 : Aside0 (w.heap.size ≤ gb256):=gsz hg;have GE256:=GW256;have NB255_256:=nbl BK255 hg;have NB256_255:=nbr BK255 hg;replace BK255:=bkb BK255 hb;replace HB:=hbs hb;clear hb hbox hg;have hnb99:=NB255_256.out;have hnc99:=NB256_255.out;obtain ⟨_,_,_,_,_,_,_,_,_,_⟩:=cells5 BK255.out)|((with_reducible refine gate_callee (f:=82) rfl ?_);refine goesL_ (some 15) rfl rfl Try.func82 (by kernel_rfl) rfl #[.agg #[.int .i64 a0_0,.int .i64 a0_1,.slice A0_2 l0_2.length c0_2,.slice A0_3 l0_3.length c0_3,.slice A0_4 l0_4.length c0_4],.int .i64 a2,.int .i64 a3] rfl ga_ ?_;(with_reducible refine (water_ground_beyond.calls k a0_0 a0_1 _ _ l0_2 _ _ l0_3 _ _ l0_4 a2 a3 t257 _ ?_ ?_ ?_ ?_ ?_ ?_ A5.out).mono ?_);exact cq HR0_2;exact HC0_2.out;exact cq HR0_3;exact HC0_3.out;exact cq HR0_4;exact HC0_4.out;rintro e w101 ⟨rfl,hb⟩;refine ⟨_,rfl,?_⟩;replace BK255:=bkb BK255 hb;replace BK256:=bkb BK256 hb;replace HB:=hbs hb;obtain ⟨_,_,_,_,_,_,_,_,_,_⟩:=cells5 BK255.out;obtain ⟨_,_,_,_⟩:=cells2 BK256.out)|(go_at_call 80;(with_reducible refine (water_ground_wet.calls a0_0 a0_1 _ _ l0_2 _ _ l0_3 _ _ l0_4 _ _ l1_0 _ _ l1_1 a2 false _ ?_ ?_ ?_ ?_ ?_ ?_ ?_ ?_ ?_ ?_ A12.out).mono ?_);exact cq HR0_2;exact HC0_2.out;exact cq HR0_3;exact HC0_3.out;exact cq HR0_4;exact HC0_4.out;exact cq HR1_0;exact HC1_0.out;exact cq HR1_1;exact HC1_1.out;rintro e w104 ⟨rfl,hb⟩;replace BK255:=bkb BK255 hb;replace BK256:=bkb BK256 hb;replace HB:=hbs hb))
  go_ret
  exact ⟨er_,hb_⟩

end Go.Proofs.Ythjmdpekcleihaa.P

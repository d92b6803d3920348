/- Functions of this seat as plain Lean functions, with proofs that the Go code comes to just their answers, or what stands between them and a law's statement; no conditions. (Laid by a program of this session, out of the kit's print.) -/
import Derived.Test.YtiencnnkphipoaaPx0
import Derived.Test.YtiencnnkphipoaaPx1
import Derived.Test.YtiencnnkphipoaaPx5
namespace Go.Proofs.Ytiencnnkphipoaa.P
open Go.RowKit Go.Proofs.YtiencnnkphipoaaW.PrintWords Go.Proofs.YtiencnnkphipoaaW.PrintLast Go.Proofs.YtiencnnkphipoaaW.PrintMore
attribute [local go_sem] max2_int min2_int max_two min_two max_three min_three max_four min_four   -- for this text's walks alone
set_option linter.unusedVariables false
set_option linter.unusedSimpArgs false

/-! ### water_ground_joined: function 41 -/
def water_ground_joined.f (k : Nat) (a0_0 : Int) (a0_1 : Int) (l0_2 : List Int) (l0_3 : List Int) (l0_4 : List Bool) (l1_0 : List Int) (l1_1 : List Int) (a2 : Int) (a3 : Int) : Option (Bool) := (water_ground_beyond.f k a0_0 a0_1 l0_2 l0_3 l0_4 a2 a3).bind fun t204 => (if t204 < 0 then (some false) else ((water_ground_wet.f a0_0 a0_1 l0_2 l0_3 l0_4 l1_0 l1_1 a2).bind fun t205 => (if t205 = true then ((water_ground_wet.f a0_0 a0_1 l0_2 l0_3 l0_4 l1_0 l1_1 t204).bind fun t206 => (if t206 = true then (if 0 ≤ a2 then (if a2 < (l1_0.length : Int) then (if 0 ≤ t204 then (if t204 < (l1_0.length : Int) then (if (rd l1_0 a2) = 2 then (if (rd l1_0 t204) = 2 then (some false) else ((water_ground_level.f a0_0 a0_1 l0_2 l0_3 l0_4 t204).bind fun t209 => ((water_ground_through.f a0_0 a0_1 l0_2 l0_3 l0_4 a2 a3 t209).bind fun t210 => (some t210)))) else (if (rd l1_0 t204) = 2 then ((water_ground_level.f a0_0 a0_1 l0_2 l0_3 l0_4 a2).bind fun t211 => ((water_ground_through.f a0_0 a0_1 l0_2 l0_3 l0_4 t204 (Int.tmod (wrap64 (a3 + 2)) 4) t211).bind fun t212 => (some t212))) else ((water_ground_level.f a0_0 a0_1 l0_2 l0_3 l0_4 a2).bind fun t213 => ((water_ground_level.f a0_0 a0_1 l0_2 l0_3 l0_4 t204).bind fun t214 => (some (t213 == t214)))))) else (none)) else (none)) else (none)) else (none)) else (some false))) else (some false))))
theorem water_ground_joined.mono : ∀ a0 a1 a2 a3 a4 a5 a6 a7 a8 k, LeO (water_ground_joined.f k a0 a1 a2 a3 a4 a5 a6 a7 a8) (water_ground_joined.f (k + 1) a0 a1 a2 a3 a4 a5 a6 a7 a8) := by
 intro a0 a1 a2 a3 a4 a5 a6 a7 a8 k
 unfold water_ground_joined.f
 repeat' first
   | (with_reducible exact water_ground_beyond.mono _ _ _ _ _ _ _ _)
   | (with_reducible exact LeO.refl _)
   | (with_reducible exact LeO.none _)
   | (with_reducible refine LeO.ite ?_ ?_)
   | (with_reducible refine LeO.bind ?_ (fun _ => ?_))
   | exact water_ground_beyond.mono _ _ _ _ _ _ _ _
   | exact LeO.none _
   | refine LeO.ite ?_ ?_
   | refine LeO.bind ?_ (fun _ => ?_)
def water_ground_joined.T4 : Bool × List (List Nat × List Nat) := (true, [([], []), ([0], [0]), ([], []), ([1, 2], [1, 2]), ([3], [3]), ([4], [4]), ([], []), ([6], [6]), ([], []), ([7, 8], [7, 8]), ([9], [9]), ([10], [10]), ([5, 0, 1, 2, 3, 4, 5], [5]), ([11, 12, 0, 1, 2, 3, 4, 5, 6, 7, 8, 9, 10, 11, 12], [11])])
def water_ground_joined.B4 : List Nat := [0, 1, 0, 7, 15, 31, 0, 64, 0, 448, 960, 1984, 63, 8191]
theorem water_ground_joined.tab4 : rtab .any (opsOf Try.f41 4) = water_ground_joined.T4 := by kernel_rfl
theorem water_ground_joined.bits4 : waitsOk water_ground_joined.T4.2 water_ground_joined.B4 = true := by kernel_rfl
def water_ground_joined.T8 : Bool × List (List Nat × List Nat) := (true, [([], []), ([], []), ([], []), ([], []), ([], []), ([3, 4], [3, 4]), ([0, 1, 2, 5, 5], [0, 1, 2, 5]), ([6, 6, 0, 1, 2, 3, 4, 5, 6], [6])])
def water_ground_joined.B8 : List Nat := [0, 0, 0, 0, 0, 24, 63, 127]
theorem water_ground_joined.tab8 : rtab .any (opsOf Try.f41 8) = water_ground_joined.T8 := by kernel_rfl
theorem water_ground_joined.bits8 : waitsOk water_ground_joined.T8.2 water_ground_joined.B8 = true := by kernel_rfl
def water_ground_joined.T10 : Bool × List (List Nat × List Nat) := (true, [([], []), ([], []), ([], []), ([2], [2]), ([3], [3]), ([], []), ([], []), ([5, 6], [5, 6]), ([0, 1, 4, 7, 7], [0, 1, 4, 7]), ([8, 8, 0, 1, 2, 3, 4, 5, 6, 7, 8], [8])])
def water_ground_joined.B10 : List Nat := [0, 0, 0, 4, 12, 0, 0, 96, 255, 511]
theorem water_ground_joined.tab10 : rtab .any (opsOf Try.f41 10) = water_ground_joined.T10 := by kernel_rfl
theorem water_ground_joined.bits10 : waitsOk water_ground_joined.T10.2 water_ground_joined.B10 = true := by kernel_rfl
def water_ground_joined.T11 : Bool × List (List Nat × List Nat) := (true, [([], []), ([], []), ([0, 1], [0, 1]), ([], []), ([], []), ([3, 4, 2], [3, 4]), ([2, 5], [2, 5]), ([6, 5, 0, 1, 2, 3, 4, 5, 6], [6])])
def water_ground_joined.B11 : List Nat := [0, 0, 3, 0, 0, 31, 63, 127]
theorem water_ground_joined.tab11 : rtab .any (opsOf Try.f41 11) = water_ground_joined.T11 := by kernel_rfl
theorem water_ground_joined.bits11 : waitsOk water_ground_joined.T11.2 water_ground_joined.B11 = true := by kernel_rfl
set_option maxHeartbeats 8000000 in
set_option maxRecDepth 100000 in
theorem water_ground_joined.calls (k : Nat) (a0_0 : Int) (a0_1 : Int) (A0_2 : Option Addr) (c0_2 : Nat) (l0_2 : List Int) (A0_3 : Option Addr) (c0_3 : Nat) (l0_3 : List Int) (A0_4 : Option Addr) (c0_4 : Nat) (l0_4 : List Bool) (A1_0 : Option Addr) (c1_0 : Nat) (l1_0 : List Int) (A1_1 : Option Addr) (c1_1 : Nat) (l1_1 : List Int) (a2 : Int) (a3 : Int) (r : Bool) (w : World) (hr0_2 : Kd.C (Kd.int .i64) w A0_2 l0_2.length l0_2) (hc0_2 : l0_2.length ≤ c0_2) (hr0_3 : Kd.C (Kd.int .i64) w A0_3 l0_3.length l0_3) (hc0_3 : l0_3.length ≤ c0_3) (hr0_4 : Kd.C Kd.bool w A0_4 l0_4.length l0_4) (hc0_4 : l0_4.length ≤ c0_4) (hr1_0 : Kd.C (Kd.int .i64) w A1_0 l1_0.length l1_0) (hc1_0 : l1_0.length ≤ c1_0) (hr1_1 : Kd.C (Kd.int .i64) w A1_1 l1_1.length l1_1) (hc1_1 : l1_1.length ≤ c1_1) (h : water_ground_joined.f k a0_0 a0_1 l0_2 l0_3 l0_4 l1_0 l1_1 a2 a3 = some r) :
  Calls Try.prog 41 #[.agg #[.int .i64 a0_0,.int .i64 a0_1,.slice A0_2 l0_2.length c0_2,.slice A0_3 l0_3.length c0_3,.slice A0_4 l0_4.length c0_4],.agg #[.slice A1_0 l1_0.length c1_0,.slice A1_1 l1_1.length c1_1],.int .i64 a2,.int .i64 a3] w fun e w' => e = .returned (.bool r) ∧ Below w.heap.size w w':=by
 have hu52:=Try.underlying52
 have hu26:=Try.underlying26
 have HR0_2:=Aside0.mk hr0_2
 have HC0_2:=Aside0.mk hc0_2
 clear hr0_2 hc0_2
 have HR0_3:=Aside0.mk hr0_3
 have HC0_3:=Aside0.mk hc0_3
 clear hr0_3 hc0_3
 have HR0_4:=Aside0.mk hr0_4
 have HC0_4:=Aside0.mk hc0_4
 clear hr0_4 hc0_4
 have HR1_0:=Aside0.mk hr1_0
 have HC1_0:=Aside0.mk hc1_0
 clear hr1_0 hc1_0
 have HR1_1:=Aside0.mk hr1_1
 have HC1_1:=Aside0.mk hc1_1
 clear hr1_1 hc1_1
 have HB:=Aside0.mk (Below.refl w.heap.size w)
 have H : ((water_ground_beyond.f k a0_0 a0_1 l0_2 l0_3 l0_4 a2 a3).bind fun t204 => (if t204 < 0 then (some false) else ((water_ground_wet.f a0_0 a0_1 l0_2 l0_3 l0_4 l1_0 l1_1 a2).bind fun t205 => (if t205 = true then ((water_ground_wet.f a0_0 a0_1 l0_2 l0_3 l0_4 l1_0 l1_1 t204).bind fun t206 => (if t206 = true then (if 0 ≤ a2 then (if a2 < (l1_0.length : Int) then (if 0 ≤ t204 then (if t204 < (l1_0.length : Int) then (if (rd l1_0 a2) = 2 then (if (rd l1_0 t204) = 2 then (some false) else ((water_ground_level.f a0_0 a0_1 l0_2 l0_3 l0_4 t204).bind fun t209 => ((water_ground_through.f a0_0 a0_1 l0_2 l0_3 l0_4 a2 a3 t209).bind fun t210 => (some t210)))) else (if (rd l1_0 t204) = 2 then ((water_ground_level.f a0_0 a0_1 l0_2 l0_3 l0_4 a2).bind fun t211 => ((water_ground_through.f a0_0 a0_1 l0_2 l0_3 l0_4 t204 (Int.tmod (wrap64 (a3 + 2)) 4) t211).bind fun t212 => (some t212))) else ((water_ground_level.f a0_0 a0_1 l0_2 l0_3 l0_4 a2).bind fun t213 => ((water_ground_level.f a0_0 a0_1 l0_2 l0_3 l0_4 t204).bind fun t214 => (some (t213 == t214)))))) else (none)) else (none)) else (none)) else (none)) else (some false))) else (some false))))) = some r:=h
 clear h
 replace H:=Option.bind_eq_some_iff.mp H
 obtain ⟨t204,A50,H⟩:=H
 replace H : (if t204 < 0 then (some false) else ((water_ground_wet.f a0_0 a0_1 l0_2 l0_3 l0_4 l1_0 l1_1 a2).bind fun t205 => (if t205 = true then ((water_ground_wet.f a0_0 a0_1 l0_2 l0_3 l0_4 l1_0 l1_1 t204).bind fun t206 => (if t206 = true then (if 0 ≤ a2 then (if a2 < (l1_0.length : Int) then (if 0 ≤ t204 then (if t204 < (l1_0.length : Int) then (if (rd l1_0 a2) = 2 then (if (rd l1_0 t204) = 2 then (some false) else ((water_ground_level.f a0_0 a0_1 l0_2 l0_3 l0_4 t204).bind fun t209 => ((water_ground_through.f a0_0 a0_1 l0_2 l0_3 l0_4 a2 a3 t209).bind fun t210 => (some t210)))) else (if (rd l1_0 t204) = 2 then ((water_ground_level.f a0_0 a0_1 l0_2 l0_3 l0_4 a2).bind fun t211 => ((water_ground_through.f a0_0 a0_1 l0_2 l0_3 l0_4 t204 (Int.tmod (wrap64 (a3 + 2)) 4) t211).bind fun t212 => (some t212))) else ((water_ground_level.f a0_0 a0_1 l0_2 l0_3 l0_4 a2).bind fun t213 => ((water_ground_level.f a0_0 a0_1 l0_2 l0_3 l0_4 t204).bind fun t214 => (some (t213 == t214)))))) else (none)) else (none)) else (none)) else (none)) else (some false))) else (some false)))) = some r:=H
 have A5:=Aside0.mk A50
 clear A50
 by_cases c6 : t204 < 0
 ·rw [if_pos c6] at H
  have c6b0 : decide (t204 < 0) = true:=decide_eq_true c6
  clear c6
  obtain rfl:=Option.some.inj H
  go_enter Try.func41,Try.ntmps41
  go_wp2_with (first|((with_reducible refine gate_dst (N:=4) rfl ?_);refine box_ev (N:=4) (cs:=#[.int .i64 a0_0,.int .i64 a0_1,.slice A0_2 l0_2.length c0_2,.slice A0_3 l0_3.length c0_3,.slice A0_4 l0_4.length c0_4]) (t:=52) ?_;intro gb202 hg w7 hbox hb;have BK202:=Aside0.mk (hbox);have GW202 : Aside0 (w.heap.size ≤ gb202):=gsz hg;have GE202:=GW202;replace HB:=Aside0.mk (below_step (hb_) hb);clear hb hbox hg)|((with_reducible refine gate_dst (N:=5) rfl ?_);refine box_ev (N:=5) (cs:=#[.slice A1_0 l1_0.length c1_0,.slice A1_1 l1_1.length c1_1]) (t:=26) ?_;intro gb203 hg w8 hbox hb;have BK203:=Aside0.mk (hbox);have GW203 : Aside0 (w.heap.size ≤ gb203):=gsz hg;have GE203:=GW203;have NB202_203:=nbl BK202 hg;have NB203_202:=nbr BK202 hg;replace BK202:=bkb BK202 hb;replace HB:=Aside0.mk (below_step (hb_) hb);clear hb hbox hg;have hnb9:=NB202_203.out;have hnc9:=NB203_202.out;obtain ⟨hcz10_0,hcz10_1,hcz10_2,hcz10_3,hcz10_4,hfz10_0,hfz10_1,hfz10_2,hfz10_3,hfz10_4⟩:=cells5 BK202.out)|((with_reducible refine gate_callee (f:=46) rfl ?_);refine goesL_ (some 15) rfl rfl Try.func46 (by kernel_rfl) rfl #[.agg #[.int .i64 a0_0,.int .i64 a0_1,.slice A0_2 l0_2.length c0_2,.slice A0_3 l0_3.length c0_3,.slice A0_4 l0_4.length c0_4],.int .i64 a2,.int .i64 a3] rfl (by (try simp only [List.map_toArray,List.map_cons,List.map_nil]);first|done|rfl|(simp only [List.length_drop,List.length_take];rfl)) ?_;(with_reducible refine (water_ground_beyond.calls k a0_0 a0_1 _ _ l0_2 _ _ l0_3 _ _ l0_4 a2 a3 t204 _ ?side1 ?side2 ?side3 ?side4 ?side5 ?side6 A5.out).mono ?_);(case side1 => exact Kd.C_up (Kd.C_below HR0_2.out HB.out));(case side2 => exact HC0_2.out);(case side3 => exact Kd.C_up (Kd.C_below HR0_3.out HB.out));(case side4 => exact HC0_3.out);(case side5 => exact Kd.C_up (Kd.C_below HR0_4.out HB.out));(case side6 => exact HC0_4.out);rintro e w11 ⟨rfl,hb⟩;refine ⟨_,rfl,?_⟩;replace BK202:=bkb BK202 hb;replace BK203:=bkb BK203 hb;replace HB:=Aside0.mk (below_step (hb_) hb)))
  go_ret
  exact ⟨by first|rfl|(simp [errW_none,errW_some] <;> rfl)|(simp [*,errW_none,errW_some] <;> rfl),hb_⟩
 rw [if_neg c6] at H
 have c6b0 : decide (t204 < 0) = false:=decide_eq_false c6
 clear c6
 replace H:=Option.bind_eq_some_iff.mp H
 obtain ⟨t205,A120,H⟩:=H
 replace H : (if t205 = true then ((water_ground_wet.f a0_0 a0_1 l0_2 l0_3 l0_4 l1_0 l1_1 t204).bind fun t206 => (if t206 = true then (if 0 ≤ a2 then (if a2 < (l1_0.length : Int) then (if 0 ≤ t204 then (if t204 < (l1_0.length : Int) then (if (rd l1_0 a2) = 2 then (if (rd l1_0 t204) = 2 then (some false) else ((water_ground_level.f a0_0 a0_1 l0_2 l0_3 l0_4 t204).bind fun t209 => ((water_ground_through.f a0_0 a0_1 l0_2 l0_3 l0_4 a2 a3 t209).bind fun t210 => (some t210)))) else (if (rd l1_0 t204) = 2 then ((water_ground_level.f a0_0 a0_1 l0_2 l0_3 l0_4 a2).bind fun t211 => ((water_ground_through.f a0_0 a0_1 l0_2 l0_3 l0_4 t204 (Int.tmod (wrap64 (a3 + 2)) 4) t211).bind fun t212 => (some t212))) else ((water_ground_level.f a0_0 a0_1 l0_2 l0_3 l0_4 a2).bind fun t213 => ((water_ground_level.f a0_0 a0_1 l0_2 l0_3 l0_4 t204).bind fun t214 => (some (t213 == t214)))))) else (none)) else (none)) else (none)) else (none)) else (some false))) else (some false)) = some r:=H
 have A12:=Aside0.mk A120
 clear A120
 by_cases c13 : t205 = true
 ·subst c13
  have H1 : ((water_ground_wet.f a0_0 a0_1 l0_2 l0_3 l0_4 l1_0 l1_1 t204).bind fun t206 => (if t206 = true then (if 0 ≤ a2 then (if a2 < (l1_0.length : Int) then (if 0 ≤ t204 then (if t204 < (l1_0.length : Int) then (if (rd l1_0 a2) = 2 then (if (rd l1_0 t204) = 2 then (some false) else ((water_ground_level.f a0_0 a0_1 l0_2 l0_3 l0_4 t204).bind fun t209 => ((water_ground_through.f a0_0 a0_1 l0_2 l0_3 l0_4 a2 a3 t209).bind fun t210 => (some t210)))) else (if (rd l1_0 t204) = 2 then ((water_ground_level.f a0_0 a0_1 l0_2 l0_3 l0_4 a2).bind fun t211 => ((water_ground_through.f a0_0 a0_1 l0_2 l0_3 l0_4 t204 (Int.tmod (wrap64 (a3 + 2)) 4) t211).bind fun t212 => (some t212))) else ((water_ground_level.f a0_0 a0_1 l0_2 l0_3 l0_4 a2).bind fun t213 => ((water_ground_level.f a0_0 a0_1 l0_2 l0_3 l0_4 t204).bind fun t214 => (some (t213 == t214)))))) else (none)) else (none)) else (none)) else (none)) else (some false))) = some r:=by rw [if_pos rfl] at H;exact H
  clear H
  have H:=H1
  clear H1
  replace H:=Option.bind_eq_some_iff.mp H
  obtain ⟨t206,A140,H⟩:=H
  replace H : (if t206 = true then (if 0 ≤ a2 then (if a2 < (l1_0.length : Int) then (if 0 ≤ t204 then (if t204 < (l1_0.length : Int) then (if (rd l1_0 a2) = 2 then (if (rd l1_0 t204) = 2 then (some false) else ((water_ground_level.f a0_0 a0_1 l0_2 l0_3 l0_4 t204).bind fun t209 => ((water_ground_through.f a0_0 a0_1 l0_2 l0_3 l0_4 a2 a3 t209).bind fun t210 => (some t210)))) else (if (rd l1_0 t204) = 2 then ((water_ground_level.f a0_0 a0_1 l0_2 l0_3 l0_4 a2).bind fun t211 => ((water_ground_through.f a0_0 a0_1 l0_2 l0_3 l0_4 t204 (Int.tmod (wrap64 (a3 + 2)) 4) t211).bind fun t212 => (some t212))) else ((water_ground_level.f a0_0 a0_1 l0_2 l0_3 l0_4 a2).bind fun t213 => ((water_ground_level.f a0_0 a0_1 l0_2 l0_3 l0_4 t204).bind fun t214 => (some (t213 == t214)))))) else (none)) else (none)) else (none)) else (none)) else (some false)) = some r:=H
  have A14:=Aside0.mk A140
  clear A140
  by_cases c15 : t206 = true
  ·subst c15
   have H1 : (if 0 ≤ a2 then (if a2 < (l1_0.length : Int) then (if 0 ≤ t204 then (if t204 < (l1_0.length : Int) then (if (rd l1_0 a2) = 2 then (if (rd l1_0 t204) = 2 then (some false) else ((water_ground_level.f a0_0 a0_1 l0_2 l0_3 l0_4 t204).bind fun t209 => ((water_ground_through.f a0_0 a0_1 l0_2 l0_3 l0_4 a2 a3 t209).bind fun t210 => (some t210)))) else (if (rd l1_0 t204) = 2 then ((water_ground_level.f a0_0 a0_1 l0_2 l0_3 l0_4 a2).bind fun t211 => ((water_ground_through.f a0_0 a0_1 l0_2 l0_3 l0_4 t204 (Int.tmod (wrap64 (a3 + 2)) 4) t211).bind fun t212 => (some t212))) else ((water_ground_level.f a0_0 a0_1 l0_2 l0_3 l0_4 a2).bind fun t213 => ((water_ground_level.f a0_0 a0_1 l0_2 l0_3 l0_4 t204).bind fun t214 => (some (t213 == t214)))))) else (none)) else (none)) else (none)) else (none)) = some r:=by rw [if_pos rfl] at H;exact H
   clear H
   have H:=H1
   clear H1
   replace H:=ifp_ H;obtain ⟨c16,H⟩:=H
   have c16b0 : decide (0 ≤ a2) = true:=decide_eq_true c16
   clear c16
   replace H:=ifp_ H;obtain ⟨c17,H⟩:=H
   have c17b0 : decide (a2 < (l1_0.length : Int)) = true:=decide_eq_true c17
   clear c17
   replace H:=ifp_ H;obtain ⟨c18,H⟩:=H
   have c18b0 : decide (0 ≤ t204) = true:=decide_eq_true c18
   clear c18
   replace H:=ifp_ H;obtain ⟨c19,H⟩:=H
   have c19b0 : decide (t204 < (l1_0.length : Int)) = true:=decide_eq_true c19
   clear c19
   by_cases c20 : (rd l1_0 a2) = 2
   ·rw [if_pos c20] at H
    have c20b0 : ((rd l1_0 a2) == 2) = true:=beq_iff_eq.mpr c20
    have c20b1 : ((rd l1_0 a2) != 2) = false:=bne_eq_false_iff_eq.mpr c20
    clear c20
    by_cases c21 : (rd l1_0 t204) = 2
    ·rw [if_pos c21] at H
     have c21b0 : ((rd l1_0 t204) == 2) = true:=beq_iff_eq.mpr c21
     have c21b1 : ((rd l1_0 t204) != 2) = false:=bne_eq_false_iff_eq.mpr c21
     clear c21
     obtain rfl:=Option.some.inj H
     go_enter Try.func41,Try.ntmps41
     try go_wp2_with (first|((with_reducible refine gate_dst (N:=4) rfl ?_);refine box_ev (N:=4) (cs:=#[.int .i64 a0_0,.int .i64 a0_1,.slice A0_2 l0_2.length c0_2,.slice A0_3 l0_3.length c0_3,.slice A0_4 l0_4.length c0_4]) (t:=52) ?_;intro gb202 hg w22 hbox hb;have BK202:=Aside0.mk (hbox);have GW202 : Aside0 (w.heap.size ≤ gb202):=gsz hg;have GE202:=GW202;replace HB:=Aside0.mk (below_step (hb_) hb);clear hb hbox hg)|((with_reducible refine gate_dst (N:=5) rfl ?_);refine box_ev (N:=5) (cs:=#[.slice A1_0 l1_0.length c1_0,.slice A1_1 l1_1.length c1_1]) (t:=26) ?_;intro gb203 hg w23 hbox hb;have BK203:=Aside0.mk (hbox);have GW203 : Aside0 (w.heap.size ≤ gb203):=gsz hg;have GE203:=GW203;have NB202_203:=nbl BK202 hg;have NB203_202:=nbr BK202 hg;replace BK202:=bkb BK202 hb;replace HB:=Aside0.mk (below_step (hb_) hb);clear hb hbox hg;have hnb24:=NB202_203.out;have hnc24:=NB203_202.out;obtain ⟨hcz25_0,hcz25_1,hcz25_2,hcz25_3,hcz25_4,hfz25_0,hfz25_1,hfz25_2,hfz25_3,hfz25_4⟩:=cells5 BK202.out)|((with_reducible refine gate_callee (f:=46) rfl ?_);refine goesL_ (some 15) rfl rfl Try.func46 (by kernel_rfl) rfl #[.agg #[.int .i64 a0_0,.int .i64 a0_1,.slice A0_2 l0_2.length c0_2,.slice A0_3 l0_3.length c0_3,.slice A0_4 l0_4.length c0_4],.int .i64 a2,.int .i64 a3] rfl (by (try simp only [List.map_toArray,List.map_cons,List.map_nil]);first|done|rfl|(simp only [List.length_drop,List.length_take];rfl)) ?_;(with_reducible refine (water_ground_beyond.calls k a0_0 a0_1 _ _ l0_2 _ _ l0_3 _ _ l0_4 a2 a3 t204 _ ?side1 ?side2 ?side3 ?side4 ?side5 ?side6 A5.out).mono ?_);(case side1 => exact Kd.C_up (Kd.C_below HR0_2.out HB.out));(case side2 => exact HC0_2.out);(case side3 => exact Kd.C_up (Kd.C_below HR0_3.out HB.out));(case side4 => exact HC0_3.out);(case side5 => exact Kd.C_up (Kd.C_below HR0_4.out HB.out));(case side6 => exact HC0_4.out);rintro e w26 ⟨rfl,hb⟩;refine ⟨_,rfl,?_⟩;replace BK202:=bkb BK202 hb;replace BK203:=bkb BK203 hb;replace HB:=Aside0.mk (below_step (hb_) hb);obtain ⟨hcz27_0,hcz27_1,hcz27_2,hcz27_3,hcz27_4,hfz27_0,hfz27_1,hfz27_2,hfz27_3,hfz27_4⟩:=cells5 BK202.out;obtain ⟨hcz28_0,hcz28_1,hfz28_0,hfz28_1⟩:=cells2 BK203.out)|(go_at_call 45;(with_reducible refine (water_ground_wet.calls a0_0 a0_1 _ _ l0_2 _ _ l0_3 _ _ l0_4 _ _ l1_0 _ _ l1_1 a2 true _ ?side1 ?side2 ?side3 ?side4 ?side5 ?side6 ?side7 ?side8 ?side9 ?side10 A12.out).mono ?_);(case side1 => exact Kd.C_up (Kd.C_below HR0_2.out HB.out));(case side2 => exact HC0_2.out);(case side3 => exact Kd.C_up (Kd.C_below HR0_3.out HB.out));(case side4 => exact HC0_3.out);(case side5 => exact Kd.C_up (Kd.C_below HR0_4.out HB.out));(case side6 => exact HC0_4.out);(case side7 => exact Kd.C_up (Kd.C_below HR1_0.out HB.out));(case side8 => exact HC1_0.out);(case side9 => exact Kd.C_up (Kd.C_below HR1_1.out HB.out));(case side10 => exact HC1_1.out);rintro e w29 ⟨rfl,hb⟩;replace BK202:=bkb BK202 hb;replace BK203:=bkb BK203 hb;replace HB:=Aside0.mk (below_step (hb_) hb);obtain ⟨hcz30_0,hcz30_1,hcz30_2,hcz30_3,hcz30_4,hfz30_0,hfz30_1,hfz30_2,hfz30_3,hfz30_4⟩:=cells5 BK202.out;obtain ⟨hcz31_0,hcz31_1,hfz31_0,hfz31_1⟩:=cells2 BK203.out)|(go_at_call 45;(with_reducible refine (water_ground_wet.calls a0_0 a0_1 _ _ l0_2 _ _ l0_3 _ _ l0_4 _ _ l1_0 _ _ l1_1 t204 true _ ?side1 ?side2 ?side3 ?side4 ?side5 ?side6 ?side7 ?side8 ?side9 ?side10 A14.out).mono ?_);(case side1 => exact Kd.C_up (Kd.C_below HR0_2.out HB.out));(case side2 => exact HC0_2.out);(case side3 => exact Kd.C_up (Kd.C_below HR0_3.out HB.out));(case side4 => exact HC0_3.out);(case side5 => exact Kd.C_up (Kd.C_below HR0_4.out HB.out));(case side6 => exact HC0_4.out);(case side7 => exact Kd.C_up (Kd.C_below HR1_0.out HB.out));(case side8 => exact HC1_0.out);(case side9 => exact Kd.C_up (Kd.C_below HR1_1.out HB.out));(case side10 => exact HC1_1.out);rintro e w32 ⟨rfl,hb⟩;replace BK202:=bkb BK202 hb;replace BK203:=bkb BK203 hb;replace HB:=Aside0.mk (below_step (hb_) hb)))
     replace BK202:=Aside0.mk (blk_drew BK202.out)
     replace BK203:=Aside0.mk (blk_drew BK203.out)
     replace HB:=Aside0.mk (below_drew1 HB.out)
     have p207 : 0 ≤ (a2 : Int):=of_decide_eq_true (by first|(with_reducible assumption)|assumption)
     have q207 : a2 < (l1_0.length : Int):=of_decide_eq_true (by first|(with_reducible assumption)|assumption)
     obtain ⟨ad207,e207,hx207_0⟩:=Kd.at_int HR1_0.out a2 p207 q207
     have hw207_0:=hx207_0
     cases e207
     replace hx207_0:=(HB.out.cell (World.block_lt_of_cell? w _ hx207_0)).trans hx207_0
     replace p207:=eq_true p207
     replace q207:=eq_true q207
     have p208 : 0 ≤ (t204 : Int):=of_decide_eq_true (by first|(with_reducible assumption)|assumption)
     have q208 : t204 < (l1_0.length : Int):=of_decide_eq_true (by first|(with_reducible assumption)|assumption)
     obtain ⟨ad208,e208,hx208_0⟩:=Kd.at_int HR1_0.out t204 p208 q208
     have hw208_0:=hx208_0
     obtain rfl : ad207 = ad208:=(by injection e208)
     replace hx208_0:=(HB.out.cell (World.block_lt_of_cell? w _ hx208_0)).trans hx208_0
     replace p208:=eq_true p208
     replace q208:=eq_true q208
     refine start_ (n:=14) (S:=fun w' => w'.cell? ⟨gb203,0,none⟩ = some (.slice (some ad207) l1_0.length c1_0) ∧ w'.cell? ⟨gb203,1,none⟩ = some (.slice A1_1 l1_1.length c1_1) ∧ w'.cell? (ad207.add (a2).toNat) = some (.int .i64 (rd l1_0 a2)) ∧ w'.cell? (ad207.add (t204).toNat) = some (.int .i64 (rd l1_0 t204))) (ds:=[]) #[false,false,false,false,false,false,false,false,false,false,false,false,false,false] (by kernel_rfl) rfl rfl ⟨(blk_cell BK203.out 0).trans rfl,(blk_cell BK203.out 1).trans rfl,((HB.out.cell (World.block_lt_of_cell? w _ hw207_0)).trans hw207_0),((HB.out.cell (World.block_lt_of_cell? w _ hw208_0)).trans hw208_0)⟩ (fun hHeld => ?_);refine with_tabW water_ground_joined.tab4 water_ground_joined.bits4 (fun HT_ HW_ => ?_)
     generalize w32.drew = w33 at BK202 BK203 HB hx207_0 hx208_0 hHeld ⊢
     refine pI 0 (some 32) ?_
     refine pI 2 (some 34) ?_
     refine pI 6 (some 38) ?_
     refine pI 8 (some 40) ?_
     refine tI4 1 (some 33) hHeld ?_
     refine pI 3 (some 35) ?_
     refine tI4 4 (some 36) hHeld ?_
     refine pI 5 (some 37) ?_
     refine pI 12 (some 10) ?_
     refine tI4 7 (some 39) hHeld ?_
     refine pI 9 (some 41) ?_
     refine tI4 10 (some 42) hHeld ?_
     refine pI 11 (some 43) ?_
     refine pI 13 (some 11) ?_
     refine done_ (done_of HT_.out (by kernel_rfl)) ?_
     try go_wp2
     go_ret
     exact ⟨by first|rfl|(simp [errW_none,errW_some] <;> rfl)|(simp [*,errW_none,errW_some] <;> rfl),hb_⟩
    rw [if_neg c21] at H
    have c21b0 : ((rd l1_0 t204) == 2) = false:=beq_eq_false_iff_ne.mpr c21
    have c21b1 : ((rd l1_0 t204) != 2) = true:=bne_iff_ne.mpr c21
    replace H:=Option.bind_eq_some_iff.mp H
    obtain ⟨t209,A340,H⟩:=H
    replace H : ((water_ground_through.f a0_0 a0_1 l0_2 l0_3 l0_4 a2 a3 t209).bind fun t210 => (some t210)) = some r:=H
    have A34:=Aside0.mk A340
    clear A340
    replace H:=Option.bind_eq_some_iff.mp H
    obtain ⟨t210,A350,H⟩:=H
    replace H : (some t210) = some r:=H
    have A35:=Aside0.mk A350
    clear A350
    obtain rfl:=Option.some.inj H
    go_enter Try.func41,Try.ntmps41
    try go_wp2_with (first|((with_reducible refine gate_dst (N:=4) rfl ?_);refine box_ev (N:=4) (cs:=#[.int .i64 a0_0,.int .i64 a0_1,.slice A0_2 l0_2.length c0_2,.slice A0_3 l0_3.length c0_3,.slice A0_4 l0_4.length c0_4]) (t:=52) ?_;intro gb202 hg w36 hbox hb;have BK202:=Aside0.mk (hbox);have GW202 : Aside0 (w.heap.size ≤ gb202):=gsz hg;have GE202:=GW202;replace HB:=Aside0.mk (below_step (hb_) hb);clear hb hbox hg)|((with_reducible refine gate_dst (N:=5) rfl ?_);refine box_ev (N:=5) (cs:=#[.slice A1_0 l1_0.length c1_0,.slice A1_1 l1_1.length c1_1]) (t:=26) ?_;intro gb203 hg w37 hbox hb;have BK203:=Aside0.mk (hbox);have GW203 : Aside0 (w.heap.size ≤ gb203):=gsz hg;have GE203:=GW203;have NB202_203:=nbl BK202 hg;have NB203_202:=nbr BK202 hg;replace BK202:=bkb BK202 hb;replace HB:=Aside0.mk (below_step (hb_) hb);clear hb hbox hg;have hnb38:=NB202_203.out;have hnc38:=NB203_202.out;obtain ⟨hcz39_0,hcz39_1,hcz39_2,hcz39_3,hcz39_4,hfz39_0,hfz39_1,hfz39_2,hfz39_3,hfz39_4⟩:=cells5 BK202.out)|((with_reducible refine gate_callee (f:=46) rfl ?_);refine goesL_ (some 15) rfl rfl Try.func46 (by kernel_rfl) rfl #[.agg #[.int .i64 a0_0,.int .i64 a0_1,.slice A0_2 l0_2.length c0_2,.slice A0_3 l0_3.length c0_3,.slice A0_4 l0_4.length c0_4],.int .i64 a2,.int .i64 a3] rfl (by (try simp only [List.map_toArray,List.map_cons,List.map_nil]);first|done|rfl|(simp only [List.length_drop,List.length_take];rfl)) ?_;(with_reducible refine (water_ground_beyond.calls k a0_0 a0_1 _ _ l0_2 _ _ l0_3 _ _ l0_4 a2 a3 t204 _ ?side1 ?side2 ?side3 ?side4 ?side5 ?side6 A5.out).mono ?_);(case side1 => exact Kd.C_up (Kd.C_below HR0_2.out HB.out));(case side2 => exact HC0_2.out);(case side3 => exact Kd.C_up (Kd.C_below HR0_3.out HB.out));(case side4 => exact HC0_3.out);(case side5 => exact Kd.C_up (Kd.C_below HR0_4.out HB.out));(case side6 => exact HC0_4.out);rintro e w40 ⟨rfl,hb⟩;refine ⟨_,rfl,?_⟩;replace BK202:=bkb BK202 hb;replace BK203:=bkb BK203 hb;replace HB:=Aside0.mk (below_step (hb_) hb);obtain ⟨hcz41_0,hcz41_1,hcz41_2,hcz41_3,hcz41_4,hfz41_0,hfz41_1,hfz41_2,hfz41_3,hfz41_4⟩:=cells5 BK202.out;obtain ⟨hcz42_0,hcz42_1,hfz42_0,hfz42_1⟩:=cells2 BK203.out)|(go_at_call 45;(with_reducible refine (water_ground_wet.calls a0_0 a0_1 _ _ l0_2 _ _ l0_3 _ _ l0_4 _ _ l1_0 _ _ l1_1 a2 true _ ?side1 ?side2 ?side3 ?side4 ?side5 ?side6 ?side7 ?side8 ?side9 ?side10 A12.out).mono ?_);(case side1 => exact Kd.C_up (Kd.C_below HR0_2.out HB.out));(case side2 => exact HC0_2.out);(case side3 => exact Kd.C_up (Kd.C_below HR0_3.out HB.out));(case side4 => exact HC0_3.out);(case side5 => exact Kd.C_up (Kd.C_below HR0_4.out HB.out));(case side6 => exact HC0_4.out);(case side7 => exact Kd.C_up (Kd.C_below HR1_0.out HB.out));(case side8 => exact HC1_0.out);(case side9 => exact Kd.C_up (Kd.C_below HR1_1.out HB.out));(case side10 => exact HC1_1.out);rintro e w43 ⟨rfl,hb⟩;replace BK202:=bkb BK202 hb;replace BK203:=bkb BK203 hb;replace HB:=Aside0.mk (below_step (hb_) hb);obtain ⟨hcz44_0,hcz44_1,hcz44_2,hcz44_3,hcz44_4,hfz44_0,hfz44_1,hfz44_2,hfz44_3,hfz44_4⟩:=cells5 BK202.out;obtain ⟨hcz45_0,hcz45_1,hfz45_0,hfz45_1⟩:=cells2 BK203.out)|(go_at_call 45;(with_reducible refine (water_ground_wet.calls a0_0 a0_1 _ _ l0_2 _ _ l0_3 _ _ l0_4 _ _ l1_0 _ _ l1_1 t204 true _ ?side1 ?side2 ?side3 ?side4 ?side5 ?side6 ?side7 ?side8 ?side9 ?side10 A14.out).mono ?_);(case side1 => exact Kd.C_up (Kd.C_below HR0_2.out HB.out));(case side2 => exact HC0_2.out);(case side3 => exact Kd.C_up (Kd.C_below HR0_3.out HB.out));(case side4 => exact HC0_3.out);(case side5 => exact Kd.C_up (Kd.C_below HR0_4.out HB.out));(case side6 => exact HC0_4.out);(case side7 => exact Kd.C_up (Kd.C_below HR1_0.out HB.out));(case side8 => exact HC1_0.out);(case side9 => exact Kd.C_up (Kd.C_below HR1_1.out HB.out));(case side10 => exact HC1_1.out);rintro e w46 ⟨rfl,hb⟩;replace BK202:=bkb BK202 hb;replace BK203:=bkb BK203 hb;replace HB:=Aside0.mk (below_step (hb_) hb)))
    replace BK202:=Aside0.mk (blk_drew BK202.out)
    replace BK203:=Aside0.mk (blk_drew BK203.out)
    replace HB:=Aside0.mk (below_drew1 HB.out)
    have p207 : 0 ≤ (a2 : Int):=of_decide_eq_true (by first|(with_reducible assumption)|assumption)
    have q207 : a2 < (l1_0.length : Int):=of_decide_eq_true (by first|(with_reducible assumption)|assumption)
    obtain ⟨ad207,e207,hx207_0⟩:=Kd.at_int HR1_0.out a2 p207 q207
    have hw207_0:=hx207_0
    cases e207
    replace hx207_0:=(HB.out.cell (World.block_lt_of_cell? w _ hx207_0)).trans hx207_0
    replace p207:=eq_true p207
    replace q207:=eq_true q207
    have p208 : 0 ≤ (t204 : Int):=of_decide_eq_true (by first|(with_reducible assumption)|assumption)
    have q208 : t204 < (l1_0.length : Int):=of_decide_eq_true (by first|(with_reducible assumption)|assumption)
    obtain ⟨ad208,e208,hx208_0⟩:=Kd.at_int HR1_0.out t204 p208 q208
    have hw208_0:=hx208_0
    obtain rfl : ad207 = ad208:=(by injection e208)
    replace hx208_0:=(HB.out.cell (World.block_lt_of_cell? w _ hx208_0)).trans hx208_0
    replace p208:=eq_true p208
    replace q208:=eq_true q208
    refine start_ (n:=14) (S:=fun w' => w'.cell? ⟨gb203,0,none⟩ = some (.slice (some ad207) l1_0.length c1_0) ∧ w'.cell? ⟨gb203,1,none⟩ = some (.slice A1_1 l1_1.length c1_1) ∧ w'.cell? (ad207.add (a2).toNat) = some (.int .i64 (rd l1_0 a2)) ∧ w'.cell? (ad207.add (t204).toNat) = some (.int .i64 (rd l1_0 t204))) (ds:=[]) #[false,false,false,false,false,false,false,false,false,false,false,false,false,false] (by kernel_rfl) rfl rfl ⟨(blk_cell BK203.out 0).trans rfl,(blk_cell BK203.out 1).trans rfl,((HB.out.cell (World.block_lt_of_cell? w _ hw207_0)).trans hw207_0),((HB.out.cell (World.block_lt_of_cell? w _ hw208_0)).trans hw208_0)⟩ (fun hHeld => ?_);refine with_tabW water_ground_joined.tab4 water_ground_joined.bits4 (fun HT_ HW_ => ?_)
    generalize w46.drew = w47 at BK202 BK203 HB hx207_0 hx208_0 hHeld ⊢
    refine pI 0 (some 32) ?_
    refine pI 2 (some 34) ?_
    refine pI 6 (some 38) ?_
    refine pI 8 (some 40) ?_
    refine tI4 1 (some 33) hHeld ?_
    refine pI 3 (some 35) ?_
    refine tI4 4 (some 36) hHeld ?_
    refine pI 5 (some 37) ?_
    refine pI 12 (some 10) ?_
    refine tI4 7 (some 39) hHeld ?_
    refine pI 9 (some 41) ?_
    refine tI4 10 (some 42) hHeld ?_
    refine pI 11 (some 43) ?_
    refine pI 13 (some 11) ?_
    refine done_ (done_of HT_.out (by kernel_rfl)) ?_
    try go_wp2
    replace BK202:=Aside0.mk (blk_drew BK202.out)
    replace BK203:=Aside0.mk (blk_drew BK203.out)
    replace HB:=Aside0.mk (below_drew1 HB.out)
    refine start_ (n:=8) (S:=fun w' => w'.cell? ⟨gb202,0,none⟩ = some (.int .i64 a0_0) ∧ w'.cell? ⟨gb202,1,none⟩ = some (.int .i64 a0_1) ∧ w'.cell? ⟨gb202,2,none⟩ = some (.slice A0_2 l0_2.length c0_2) ∧ w'.cell? ⟨gb202,3,none⟩ = some (.slice A0_3 l0_3.length c0_3) ∧ w'.cell? ⟨gb202,4,none⟩ = some (.slice A0_4 l0_4.length c0_4)) (ds:=[]) #[false,false,false,false,false,false,false,false] (by kernel_rfl) rfl rfl ⟨(blk_cell BK202.out 0).trans rfl,(blk_cell BK202.out 1).trans rfl,(blk_cell BK202.out 2).trans rfl,(blk_cell BK202.out 3).trans rfl,(blk_cell BK202.out 4).trans rfl⟩ (fun hHeld => ?_);refine with_tabW water_ground_joined.tab8 water_ground_joined.bits8 (fun HT_ HW_ => ?_)
    generalize w47.drew = w48 at BK202 BK203 HB hHeld ⊢
    refine pI 1 (some 52) ?_
    refine pI 2 (some 53) ?_
    refine pI 4 (some 55) ?_
    refine tI5 0 (some 51) hHeld ?_
    refine tI5 3 (some 54) hHeld ?_
    refine oI 5 (some 56) (fun K hK => ?_)
    refine goes_ Try.func62 (by kernel_rfl) rfl #[.agg #[.int .i64 a0_0,.int .i64 a0_1,.slice A0_2 l0_2.length c0_2,.slice A0_3 l0_3.length c0_3,.slice A0_4 l0_4.length c0_4],.int .i64 t204] (by rfl) rfl rfl (by (try simp only [List.map_toArray,List.map_cons,List.map_nil]);first|done|rfl|(simp only [List.length_drop,List.length_take];rfl)) ?_
    with_reducible refine (water_ground_level.calls a0_0 a0_1 _ _ l0_2 _ _ l0_3 _ _ l0_4 t204 t209 _ ?side1 ?side2 ?side3 ?side4 ?side5 ?side6 A34.out).mono ?_
    (case side1 => exact Kd.C_up (Kd.C_below HR0_2.out HB.out))
    (case side2 => exact HC0_2.out)
    (case side3 => exact Kd.C_up (Kd.C_below HR0_3.out HB.out))
    (case side4 => exact HC0_3.out)
    (case side5 => exact Kd.C_up (Kd.C_below HR0_4.out HB.out))
    (case side6 => exact HC0_4.out)
    rintro e w49 ⟨rfl,hb⟩
    refine ⟨_,rfl,?_⟩
    have n0_:=bkb BK202 hb
    have n1_:=bkb BK203 hb
    have n2_:=Aside0.mk (below_step (hb_) hb)
    clear BK202
    clear BK203
    clear HB
    have BK202:=n0_
    have BK203:=n1_
    have HB:=n2_
    clear n0_ n1_ n2_
    (try clear hb)
    (try clear hb2)
    (try clear hk)
    (try clear hi)
    refine hK.out _ _ ⟨(blk_cell BK202.out 0).trans rfl,(blk_cell BK202.out 1).trans rfl,(blk_cell BK202.out 2).trans rfl,(blk_cell BK202.out 3).trans rfl,(blk_cell BK202.out 4).trans rfl⟩ (fun hHeld => ?_)
    clear hK K
    refine norm_ (a':=?_) ?_ ?_
    rotate_left
    ·show Act.put _ (some 56) _ = _
     simp only [Act.put,List.setIfInBounds_toArray,List.set_cons_zero,List.set_cons_succ,i64_w,i32_w]
     rfl
    refine oI 6 (some 57) (fun K hK => ?_)
    refine goes_ Try.func61 (by kernel_rfl) rfl #[.agg #[.int .i64 a0_0,.int .i64 a0_1,.slice A0_2 l0_2.length c0_2,.slice A0_3 l0_3.length c0_3,.slice A0_4 l0_4.length c0_4],.int .i64 a2,.int .i64 a3,.int .i64 t209] (by rfl) rfl rfl (by (try simp only [List.map_toArray,List.map_cons,List.map_nil]);first|done|rfl|(simp only [List.length_drop,List.length_take];rfl)) ?_
    with_reducible refine (water_ground_through.calls a0_0 a0_1 _ _ l0_2 _ _ l0_3 _ _ l0_4 a2 a3 t209 t210 _ ?side1 ?side2 ?side3 ?side4 ?side5 ?side6 A35.out).mono ?_
    (case side1 => exact Kd.C_up (Kd.C_below HR0_2.out HB.out))
    (case side2 => exact HC0_2.out)
    (case side3 => exact Kd.C_up (Kd.C_below HR0_3.out HB.out))
    (case side4 => exact HC0_3.out)
    (case side5 => exact Kd.C_up (Kd.C_below HR0_4.out HB.out))
    (case side6 => exact HC0_4.out)
    rintro e w50 ⟨rfl,hb⟩
    refine ⟨_,rfl,?_⟩
    have n0_:=bkb BK202 hb
    have n1_:=bkb BK203 hb
    have n2_:=Aside0.mk (below_step (hb_) hb)
    clear BK202
    clear BK203
    clear HB
    have BK202:=n0_
    have BK203:=n1_
    have HB:=n2_
    clear n0_ n1_ n2_
    (try clear hb)
    (try clear hb2)
    (try clear hk)
    (try clear hi)
    refine hK.out _ _ ⟨(blk_cell BK202.out 0).trans rfl,(blk_cell BK202.out 1).trans rfl,(blk_cell BK202.out 2).trans rfl,(blk_cell BK202.out 3).trans rfl,(blk_cell BK202.out 4).trans rfl⟩ (fun hHeld => ?_)
    clear hK K
    refine norm_ (a':=?_) ?_ ?_
    rotate_left
    ·show Act.put _ (some 57) _ = _
     simp only [Act.put,List.setIfInBounds_toArray,List.set_cons_zero,List.set_cons_succ,i64_w,i32_w]
     rfl
    refine pI 7 (some 8) ?_
    refine done_ (done_of HT_.out (by kernel_rfl)) ?_
    try go_wp2
    go_ret
    exact ⟨by first|rfl|(simp [errW_none,errW_some] <;> rfl)|(simp [*,errW_none,errW_some] <;> rfl),hb_⟩
   rw [if_neg c20] at H
   have c20b0 : ((rd l1_0 a2) == 2) = false:=beq_eq_false_iff_ne.mpr c20
   have c20b1 : ((rd l1_0 a2) != 2) = true:=bne_iff_ne.mpr c20
   by_cases c51 : (rd l1_0 t204) = 2
   rotate_left
   ·rw [if_neg c51] at H
    have c51b0 : ((rd l1_0 t204) == 2) = false:=beq_eq_false_iff_ne.mpr c51
    have c51b1 : ((rd l1_0 t204) != 2) = true:=bne_iff_ne.mpr c51
    replace H:=Option.bind_eq_some_iff.mp H
    obtain ⟨t213,A690,H⟩:=H
    replace H : ((water_ground_level.f a0_0 a0_1 l0_2 l0_3 l0_4 t204).bind fun t214 => (some (t213 == t214))) = some r:=H
    have A69:=Aside0.mk A690
    clear A690
    replace H:=Option.bind_eq_some_iff.mp H
    obtain ⟨t214,A700,H⟩:=H
    replace H : (some (t213 == t214)) = some r:=H
    have A70:=Aside0.mk A700
    clear A700
    obtain rfl:=Option.some.inj H
    go_enter Try.func41,Try.ntmps41
    try go_wp2_with (first|((with_reducible refine gate_dst (N:=4) rfl ?_);refine box_ev (N:=4) (cs:=#[.int .i64 a0_0,.int .i64 a0_1,.slice A0_2 l0_2.length c0_2,.slice A0_3 l0_3.length c0_3,.slice A0_4 l0_4.length c0_4]) (t:=52) ?_;intro gb202 hg w71 hbox hb;have BK202:=Aside0.mk (hbox);have GW202 : Aside0 (w.heap.size ≤ gb202):=gsz hg;have GE202:=GW202;replace HB:=Aside0.mk (below_step (hb_) hb);clear hb hbox hg)|((with_reducible refine gate_dst (N:=5) rfl ?_);refine box_ev (N:=5) (cs:=#[.slice A1_0 l1_0.length c1_0,.slice A1_1 l1_1.length c1_1]) (t:=26) ?_;intro gb203 hg w72 hbox hb;have BK203:=Aside0.mk (hbox);have GW203 : Aside0 (w.heap.size ≤ gb203):=gsz hg;have GE203:=GW203;have NB202_203:=nbl BK202 hg;have NB203_202:=nbr BK202 hg;replace BK202:=bkb BK202 hb;replace HB:=Aside0.mk (below_step (hb_) hb);clear hb hbox hg;have hnb73:=NB202_203.out;have hnc73:=NB203_202.out;obtain ⟨hcz74_0,hcz74_1,hcz74_2,hcz74_3,hcz74_4,hfz74_0,hfz74_1,hfz74_2,hfz74_3,hfz74_4⟩:=cells5 BK202.out)|((with_reducible refine gate_callee (f:=46) rfl ?_);refine goesL_ (some 15) rfl rfl Try.func46 (by kernel_rfl) rfl #[.agg #[.int .i64 a0_0,.int .i64 a0_1,.slice A0_2 l0_2.length c0_2,.slice A0_3 l0_3.length c0_3,.slice A0_4 l0_4.length c0_4],.int .i64 a2,.int .i64 a3] rfl (by (try simp only [List.map_toArray,List.map_cons,List.map_nil]);first|done|rfl|(simp only [List.length_drop,List.length_take];rfl)) ?_;(with_reducible refine (water_ground_beyond.calls k a0_0 a0_1 _ _ l0_2 _ _ l0_3 _ _ l0_4 a2 a3 t204 _ ?side1 ?side2 ?side3 ?side4 ?side5 ?side6 A5.out).mono ?_);(case side1 => exact Kd.C_up (Kd.C_below HR0_2.out HB.out));(case side2 => exact HC0_2.out);(case side3 => exact Kd.C_up (Kd.C_below HR0_3.out HB.out));(case side4 => exact HC0_3.out);(case side5 => exact Kd.C_up (Kd.C_below HR0_4.out HB.out));(case side6 => exact HC0_4.out);rintro e w75 ⟨rfl,hb⟩;refine ⟨_,rfl,?_⟩;replace BK202:=bkb BK202 hb;replace BK203:=bkb BK203 hb;replace HB:=Aside0.mk (below_step (hb_) hb);obtain ⟨hcz76_0,hcz76_1,hcz76_2,hcz76_3,hcz76_4,hfz76_0,hfz76_1,hfz76_2,hfz76_3,hfz76_4⟩:=cells5 BK202.out;obtain ⟨hcz77_0,hcz77_1,hfz77_0,hfz77_1⟩:=cells2 BK203.out)|(go_at_call 45;(with_reducible refine (water_ground_wet.calls a0_0 a0_1 _ _ l0_2 _ _ l0_3 _ _ l0_4 _ _ l1_0 _ _ l1_1 a2 true _ ?side1 ?side2 ?side3 ?side4 ?side5 ?side6 ?side7 ?side8 ?side9 ?side10 A12.out).mono ?_);(case side1 => exact Kd.C_up (Kd.C_below HR0_2.out HB.out));(case side2 => exact HC0_2.out);(case side3 => exact Kd.C_up (Kd.C_below HR0_3.out HB.out));(case side4 => exact HC0_3.out);(case side5 => exact Kd.C_up (Kd.C_below HR0_4.out HB.out));(case side6 => exact HC0_4.out);(case side7 => exact Kd.C_up (Kd.C_below HR1_0.out HB.out));(case side8 => exact HC1_0.out);(case side9 => exact Kd.C_up (Kd.C_below HR1_1.out HB.out));(case side10 => exact HC1_1.out);rintro e w78 ⟨rfl,hb⟩;replace BK202:=bkb BK202 hb;replace BK203:=bkb BK203 hb;replace HB:=Aside0.mk (below_step (hb_) hb);obtain ⟨hcz79_0,hcz79_1,hcz79_2,hcz79_3,hcz79_4,hfz79_0,hfz79_1,hfz79_2,hfz79_3,hfz79_4⟩:=cells5 BK202.out;obtain ⟨hcz80_0,hcz80_1,hfz80_0,hfz80_1⟩:=cells2 BK203.out)|(go_at_call 45;(with_reducible refine (water_ground_wet.calls a0_0 a0_1 _ _ l0_2 _ _ l0_3 _ _ l0_4 _ _ l1_0 _ _ l1_1 t204 true _ ?side1 ?side2 ?side3 ?side4 ?side5 ?side6 ?side7 ?side8 ?side9 ?side10 A14.out).mono ?_);(case side1 => exact Kd.C_up (Kd.C_below HR0_2.out HB.out));(case side2 => exact HC0_2.out);(case side3 => exact Kd.C_up (Kd.C_below HR0_3.out HB.out));(case side4 => exact HC0_3.out);(case side5 => exact Kd.C_up (Kd.C_below HR0_4.out HB.out));(case side6 => exact HC0_4.out);(case side7 => exact Kd.C_up (Kd.C_below HR1_0.out HB.out));(case side8 => exact HC1_0.out);(case side9 => exact Kd.C_up (Kd.C_below HR1_1.out HB.out));(case side10 => exact HC1_1.out);rintro e w81 ⟨rfl,hb⟩;replace BK202:=bkb BK202 hb;replace BK203:=bkb BK203 hb;replace HB:=Aside0.mk (below_step (hb_) hb)))
    replace BK202:=Aside0.mk (blk_drew BK202.out)
    replace BK203:=Aside0.mk (blk_drew BK203.out)
    replace HB:=Aside0.mk (below_drew1 HB.out)
    have p207 : 0 ≤ (a2 : Int):=of_decide_eq_true (by first|(with_reducible assumption)|assumption)
    have q207 : a2 < (l1_0.length : Int):=of_decide_eq_true (by first|(with_reducible assumption)|assumption)
    obtain ⟨ad207,e207,hx207_0⟩:=Kd.at_int HR1_0.out a2 p207 q207
    have hw207_0:=hx207_0
    cases e207
    replace hx207_0:=(HB.out.cell (World.block_lt_of_cell? w _ hx207_0)).trans hx207_0
    replace p207:=eq_true p207
    replace q207:=eq_true q207
    have p208 : 0 ≤ (t204 : Int):=of_decide_eq_true (by first|(with_reducible assumption)|assumption)
    have q208 : t204 < (l1_0.length : Int):=of_decide_eq_true (by first|(with_reducible assumption)|assumption)
    obtain ⟨ad208,e208,hx208_0⟩:=Kd.at_int HR1_0.out t204 p208 q208
    have hw208_0:=hx208_0
    obtain rfl : ad207 = ad208:=(by injection e208)
    replace hx208_0:=(HB.out.cell (World.block_lt_of_cell? w _ hx208_0)).trans hx208_0
    replace p208:=eq_true p208
    replace q208:=eq_true q208
    refine start_ (n:=14) (S:=fun w' => w'.cell? ⟨gb203,0,none⟩ = some (.slice (some ad207) l1_0.length c1_0) ∧ w'.cell? ⟨gb203,1,none⟩ = some (.slice A1_1 l1_1.length c1_1) ∧ w'.cell? (ad207.add (a2).toNat) = some (.int .i64 (rd l1_0 a2)) ∧ w'.cell? (ad207.add (t204).toNat) = some (.int .i64 (rd l1_0 t204))) (ds:=[]) #[false,false,false,false,false,false,false,false,false,false,false,false,false,false] (by kernel_rfl) rfl rfl ⟨(blk_cell BK203.out 0).trans rfl,(blk_cell BK203.out 1).trans rfl,((HB.out.cell (World.block_lt_of_cell? w _ hw207_0)).trans hw207_0),((HB.out.cell (World.block_lt_of_cell? w _ hw208_0)).trans hw208_0)⟩ (fun hHeld => ?_);refine with_tabW water_ground_joined.tab4 water_ground_joined.bits4 (fun HT_ HW_ => ?_)
    generalize w81.drew = w82 at BK202 BK203 HB hx207_0 hx208_0 hHeld ⊢
    refine pI 0 (some 32) ?_
    refine pI 2 (some 34) ?_
    refine pI 6 (some 38) ?_
    refine pI 8 (some 40) ?_
    refine tI4 1 (some 33) hHeld ?_
    refine pI 3 (some 35) ?_
    refine tI4 4 (some 36) hHeld ?_
    refine pI 5 (some 37) ?_
    refine pI 12 (some 10) ?_
    refine tI4 7 (some 39) hHeld ?_
    refine pI 9 (some 41) ?_
    refine tI4 10 (some 42) hHeld ?_
    refine pI 11 (some 43) ?_
    refine pI 13 (some 11) ?_
    refine done_ (done_of HT_.out (by kernel_rfl)) ?_
    try go_wp2
    replace BK202:=Aside0.mk (blk_drew BK202.out)
    replace BK203:=Aside0.mk (blk_drew BK203.out)
    replace HB:=Aside0.mk (below_drew1 HB.out)
    refine start_ (n:=8) (S:=fun w' => w'.cell? ⟨gb202,0,none⟩ = some (.int .i64 a0_0) ∧ w'.cell? ⟨gb202,1,none⟩ = some (.int .i64 a0_1) ∧ w'.cell? ⟨gb202,2,none⟩ = some (.slice A0_2 l0_2.length c0_2) ∧ w'.cell? ⟨gb202,3,none⟩ = some (.slice A0_3 l0_3.length c0_3) ∧ w'.cell? ⟨gb202,4,none⟩ = some (.slice A0_4 l0_4.length c0_4)) (ds:=[]) #[false,false,false,false,false,false,false,false] (by kernel_rfl) rfl rfl ⟨(blk_cell BK202.out 0).trans rfl,(blk_cell BK202.out 1).trans rfl,(blk_cell BK202.out 2).trans rfl,(blk_cell BK202.out 3).trans rfl,(blk_cell BK202.out 4).trans rfl⟩ (fun hHeld => ?_);refine with_tabW water_ground_joined.tab11 water_ground_joined.bits11 (fun HT_ HW_ => ?_)
    generalize w82.drew = w83 at BK202 BK203 HB hHeld ⊢
    refine pI 1 (some 70) ?_
    refine pI 4 (some 73) ?_
    refine tI5 0 (some 69) hHeld ?_
    refine tI5 3 (some 72) hHeld ?_
    refine oI 2 (some 71) (fun K hK => ?_)
    refine goes_ Try.func62 (by kernel_rfl) rfl #[.agg #[.int .i64 a0_0,.int .i64 a0_1,.slice A0_2 l0_2.length c0_2,.slice A0_3 l0_3.length c0_3,.slice A0_4 l0_4.length c0_4],.int .i64 a2] (by rfl) rfl rfl (by (try simp only [List.map_toArray,List.map_cons,List.map_nil]);first|done|rfl|(simp only [List.length_drop,List.length_take];rfl)) ?_
    with_reducible refine (water_ground_level.calls a0_0 a0_1 _ _ l0_2 _ _ l0_3 _ _ l0_4 a2 t213 _ ?side1 ?side2 ?side3 ?side4 ?side5 ?side6 A69.out).mono ?_
    (case side1 => exact Kd.C_up (Kd.C_below HR0_2.out HB.out))
    (case side2 => exact HC0_2.out)
    (case side3 => exact Kd.C_up (Kd.C_below HR0_3.out HB.out))
    (case side4 => exact HC0_3.out)
    (case side5 => exact Kd.C_up (Kd.C_below HR0_4.out HB.out))
    (case side6 => exact HC0_4.out)
    rintro e w84 ⟨rfl,hb⟩
    refine ⟨_,rfl,?_⟩
    have n0_:=bkb BK202 hb
    have n1_:=bkb BK203 hb
    have n2_:=Aside0.mk (below_step (hb_) hb)
    clear BK202
    clear BK203
    clear HB
    have BK202:=n0_
    have BK203:=n1_
    have HB:=n2_
    clear n0_ n1_ n2_
    (try clear hb)
    (try clear hb2)
    (try clear hk)
    (try clear hi)
    refine hK.out _ _ ⟨(blk_cell BK202.out 0).trans rfl,(blk_cell BK202.out 1).trans rfl,(blk_cell BK202.out 2).trans rfl,(blk_cell BK202.out 3).trans rfl,(blk_cell BK202.out 4).trans rfl⟩ (fun hHeld => ?_)
    clear hK K
    refine norm_ (a':=?_) ?_ ?_
    rotate_left
    ·show Act.put _ (some 71) _ = _
     simp only [Act.put,List.setIfInBounds_toArray,List.set_cons_zero,List.set_cons_succ,i64_w,i32_w]
     rfl
    refine oI 5 (some 74) (fun K hK => ?_)
    refine goes_ Try.func62 (by kernel_rfl) rfl #[.agg #[.int .i64 a0_0,.int .i64 a0_1,.slice A0_2 l0_2.length c0_2,.slice A0_3 l0_3.length c0_3,.slice A0_4 l0_4.length c0_4],.int .i64 t204] (by rfl) rfl rfl (by (try simp only [List.map_toArray,List.map_cons,List.map_nil]);first|done|rfl|(simp only [List.length_drop,List.length_take];rfl)) ?_
    with_reducible refine (water_ground_level.calls a0_0 a0_1 _ _ l0_2 _ _ l0_3 _ _ l0_4 t204 t214 _ ?side1 ?side2 ?side3 ?side4 ?side5 ?side6 A70.out).mono ?_
    (case side1 => exact Kd.C_up (Kd.C_below HR0_2.out HB.out))
    (case side2 => exact HC0_2.out)
    (case side3 => exact Kd.C_up (Kd.C_below HR0_3.out HB.out))
    (case side4 => exact HC0_3.out)
    (case side5 => exact Kd.C_up (Kd.C_below HR0_4.out HB.out))
    (case side6 => exact HC0_4.out)
    rintro e w85 ⟨rfl,hb⟩
    refine ⟨_,rfl,?_⟩
    have n0_:=bkb BK202 hb
    have n1_:=bkb BK203 hb
    have n2_:=Aside0.mk (below_step (hb_) hb)
    clear BK202
    clear BK203
    clear HB
    have BK202:=n0_
    have BK203:=n1_
    have HB:=n2_
    clear n0_ n1_ n2_
    (try clear hb)
    (try clear hb2)
    (try clear hk)
    (try clear hi)
    refine hK.out _ _ ⟨(blk_cell BK202.out 0).trans rfl,(blk_cell BK202.out 1).trans rfl,(blk_cell BK202.out 2).trans rfl,(blk_cell BK202.out 3).trans rfl,(blk_cell BK202.out 4).trans rfl⟩ (fun hHeld => ?_)
    clear hK K
    refine norm_ (a':=?_) ?_ ?_
    rotate_left
    ·show Act.put _ (some 74) _ = _
     simp only [Act.put,List.setIfInBounds_toArray,List.set_cons_zero,List.set_cons_succ,i64_w,i32_w]
     rfl
    refine pI 6 (some 75) ?_
    refine pI 7 (some 8) ?_
    refine done_ (done_of HT_.out (by kernel_rfl)) ?_
    try go_wp2
    go_ret
    exact ⟨by first|rfl|(simp [errW_none,errW_some] <;> rfl)|(simp [*,errW_none,errW_some] <;> rfl),hb_⟩
   rw [if_pos c51] at H
   have c51b0 : ((rd l1_0 t204) == 2) = true:=beq_iff_eq.mpr c51
   have c51b1 : ((rd l1_0 t204) != 2) = false:=bne_eq_false_iff_eq.mpr c51
   clear c51
   replace H:=Option.bind_eq_some_iff.mp H
   obtain ⟨t211,A520,H⟩:=H
   replace H : ((water_ground_through.f a0_0 a0_1 l0_2 l0_3 l0_4 t204 (Int.tmod (wrap64 (a3 + 2)) 4) t211).bind fun t212 => (some t212)) = some r:=H
   have A52:=Aside0.mk A520
   clear A520
   replace H:=Option.bind_eq_some_iff.mp H
   obtain ⟨t212,A530,H⟩:=H
   replace H : (some t212) = some r:=H
   have A53:=Aside0.mk A530
   clear A530
   obtain rfl:=Option.some.inj H
   go_enter Try.func41,Try.ntmps41
   try go_wp2_with (first|((with_reducible refine gate_dst (N:=4) rfl ?_);refine box_ev (N:=4) (cs:=#[.int .i64 a0_0,.int .i64 a0_1,.slice A0_2 l0_2.length c0_2,.slice A0_3 l0_3.length c0_3,.slice A0_4 l0_4.length c0_4]) (t:=52) ?_;intro gb202 hg w54 hbox hb;have BK202:=Aside0.mk (hbox);have GW202 : Aside0 (w.heap.size ≤ gb202):=gsz hg;have GE202:=GW202;replace HB:=Aside0.mk (below_step (hb_) hb);clear hb hbox hg)|((with_reducible refine gate_dst (N:=5) rfl ?_);refine box_ev (N:=5) (cs:=#[.slice A1_0 l1_0.length c1_0,.slice A1_1 l1_1.length c1_1]) (t:=26) ?_;intro gb203 hg w55 hbox hb;have BK203:=Aside0.mk (hbox);have GW203 : Aside0 (w.heap.size ≤ gb203):=gsz hg;have GE203:=GW203;have NB202_203:=nbl BK202 hg;have NB203_202:=nbr BK202 hg;replace BK202:=bkb BK202 hb;replace HB:=Aside0.mk (below_step (hb_) hb);clear hb hbox hg;have hnb56:=NB202_203.out;have hnc56:=NB203_202.out;obtain ⟨hcz57_0,hcz57_1,hcz57_2,hcz57_3,hcz57_4,hfz57_0,hfz57_1,hfz57_2,hfz57_3,hfz57_4⟩:=cells5 BK202.out)|((with_reducible refine gate_callee (f:=46) rfl ?_);refine goesL_ (some 15) rfl rfl Try.func46 (by kernel_rfl) rfl #[.agg #[.int .i64 a0_0,.int .i64 a0_1,.slice A0_2 l0_2.length c0_2,.slice A0_3 l0_3.length c0_3,.slice A0_4 l0_4.length c0_4],.int .i64 a2,.int .i64 a3] rfl (by (try simp only [List.map_toArray,List.map_cons,List.map_nil]);first|done|rfl|(simp only [List.length_drop,List.length_take];rfl)) ?_;(with_reducible refine (water_ground_beyond.calls k a0_0 a0_1 _ _ l0_2 _ _ l0_3 _ _ l0_4 a2 a3 t204 _ ?side1 ?side2 ?side3 ?side4 ?side5 ?side6 A5.out).mono ?_);(case side1 => exact Kd.C_up (Kd.C_below HR0_2.out HB.out));(case side2 => exact HC0_2.out);(case side3 => exact Kd.C_up (Kd.C_below HR0_3.out HB.out));(case side4 => exact HC0_3.out);(case side5 => exact Kd.C_up (Kd.C_below HR0_4.out HB.out));(case side6 => exact HC0_4.out);rintro e w58 ⟨rfl,hb⟩;refine ⟨_,rfl,?_⟩;replace BK202:=bkb BK202 hb;replace BK203:=bkb BK203 hb;replace HB:=Aside0.mk (below_step (hb_) hb);obtain ⟨hcz59_0,hcz59_1,hcz59_2,hcz59_3,hcz59_4,hfz59_0,hfz59_1,hfz59_2,hfz59_3,hfz59_4⟩:=cells5 BK202.out;obtain ⟨hcz60_0,hcz60_1,hfz60_0,hfz60_1⟩:=cells2 BK203.out)|(go_at_call 45;(with_reducible refine (water_ground_wet.calls a0_0 a0_1 _ _ l0_2 _ _ l0_3 _ _ l0_4 _ _ l1_0 _ _ l1_1 a2 true _ ?side1 ?side2 ?side3 ?side4 ?side5 ?side6 ?side7 ?side8 ?side9 ?side10 A12.out).mono ?_);(case side1 => exact Kd.C_up (Kd.C_below HR0_2.out HB.out));(case side2 => exact HC0_2.out);(case side3 => exact Kd.C_up (Kd.C_below HR0_3.out HB.out));(case side4 => exact HC0_3.out);(case side5 => exact Kd.C_up (Kd.C_below HR0_4.out HB.out));(case side6 => exact HC0_4.out);(case side7 => exact Kd.C_up (Kd.C_below HR1_0.out HB.out));(case side8 => exact HC1_0.out);(case side9 => exact Kd.C_up (Kd.C_below HR1_1.out HB.out));(case side10 => exact HC1_1.out);rintro e w61 ⟨rfl,hb⟩;replace BK202:=bkb BK202 hb;replace BK203:=bkb BK203 hb;replace HB:=Aside0.mk (below_step (hb_) hb);obtain ⟨hcz62_0,hcz62_1,hcz62_2,hcz62_3,hcz62_4,hfz62_0,hfz62_1,hfz62_2,hfz62_3,hfz62_4⟩:=cells5 BK202.out;obtain ⟨hcz63_0,hcz63_1,hfz63_0,hfz63_1⟩:=cells2 BK203.out)|(go_at_call 45;(with_reducible refine (water_ground_wet.calls a0_0 a0_1 _ _ l0_2 _ _ l0_3 _ _ l0_4 _ _ l1_0 _ _ l1_1 t204 true _ ?side1 ?side2 ?side3 ?side4 ?side5 ?side6 ?side7 ?side8 ?side9 ?side10 A14.out).mono ?_);(case side1 => exact Kd.C_up (Kd.C_below HR0_2.out HB.out));(case side2 => exact HC0_2.out);(case side3 => exact Kd.C_up (Kd.C_below HR0_3.out HB.out));(case side4 => exact HC0_3.out);(case side5 => exact Kd.C_up (Kd.C_below HR0_4.out HB.out));(case side6 => exact HC0_4.out);(case side7 => exact Kd.C_up (Kd.C_below HR1_0.out HB.out));(case side8 => exact HC1_0.out);(case side9 => exact Kd.C_up (Kd.C_below HR1_1.out HB.out));(case side10 => exact HC1_1.out);rintro e w64 ⟨rfl,hb⟩;replace BK202:=bkb BK202 hb;replace BK203:=bkb BK203 hb;replace HB:=Aside0.mk (below_step (hb_) hb)))
   replace BK202:=Aside0.mk (blk_drew BK202.out)
   replace BK203:=Aside0.mk (blk_drew BK203.out)
   replace HB:=Aside0.mk (below_drew1 HB.out)
   have p207 : 0 ≤ (a2 : Int):=of_decide_eq_true (by first|(with_reducible assumption)|assumption)
   have q207 : a2 < (l1_0.length : Int):=of_decide_eq_true (by first|(with_reducible assumption)|assumption)
   obtain ⟨ad207,e207,hx207_0⟩:=Kd.at_int HR1_0.out a2 p207 q207
   have hw207_0:=hx207_0
   cases e207
   replace hx207_0:=(HB.out.cell (World.block_lt_of_cell? w _ hx207_0)).trans hx207_0
   replace p207:=eq_true p207
   replace q207:=eq_true q207
   have p208 : 0 ≤ (t204 : Int):=of_decide_eq_true (by first|(with_reducible assumption)|assumption)
   have q208 : t204 < (l1_0.length : Int):=of_decide_eq_true (by first|(with_reducible assumption)|assumption)
   obtain ⟨ad208,e208,hx208_0⟩:=Kd.at_int HR1_0.out t204 p208 q208
   have hw208_0:=hx208_0
   obtain rfl : ad207 = ad208:=(by injection e208)
   replace hx208_0:=(HB.out.cell (World.block_lt_of_cell? w _ hx208_0)).trans hx208_0
   replace p208:=eq_true p208
   replace q208:=eq_true q208
   refine start_ (n:=14) (S:=fun w' => w'.cell? ⟨gb203,0,none⟩ = some (.slice (some ad207) l1_0.length c1_0) ∧ w'.cell? ⟨gb203,1,none⟩ = some (.slice A1_1 l1_1.length c1_1) ∧ w'.cell? (ad207.add (a2).toNat) = some (.int .i64 (rd l1_0 a2)) ∧ w'.cell? (ad207.add (t204).toNat) = some (.int .i64 (rd l1_0 t204))) (ds:=[]) #[false,false,false,false,false,false,false,false,false,false,false,false,false,false] (by kernel_rfl) rfl rfl ⟨(blk_cell BK203.out 0).trans rfl,(blk_cell BK203.out 1).trans rfl,((HB.out.cell (World.block_lt_of_cell? w _ hw207_0)).trans hw207_0),((HB.out.cell (World.block_lt_of_cell? w _ hw208_0)).trans hw208_0)⟩ (fun hHeld => ?_);refine with_tabW water_ground_joined.tab4 water_ground_joined.bits4 (fun HT_ HW_ => ?_)
   generalize w64.drew = w65 at BK202 BK203 HB hx207_0 hx208_0 hHeld ⊢
   refine pI 0 (some 32) ?_
   refine pI 2 (some 34) ?_
   refine pI 6 (some 38) ?_
   refine pI 8 (some 40) ?_
   refine tI4 1 (some 33) hHeld ?_
   refine pI 3 (some 35) ?_
   refine tI4 4 (some 36) hHeld ?_
   refine pI 5 (some 37) ?_
   refine pI 12 (some 10) ?_
   refine tI4 7 (some 39) hHeld ?_
   refine pI 9 (some 41) ?_
   refine tI4 10 (some 42) hHeld ?_
   refine pI 11 (some 43) ?_
   refine pI 13 (some 11) ?_
   refine done_ (done_of HT_.out (by kernel_rfl)) ?_
   try go_wp2
   replace BK202:=Aside0.mk (blk_drew BK202.out)
   replace BK203:=Aside0.mk (blk_drew BK203.out)
   replace HB:=Aside0.mk (below_drew1 HB.out)
   refine start_ (n:=10) (S:=fun w' => w'.cell? ⟨gb202,0,none⟩ = some (.int .i64 a0_0) ∧ w'.cell? ⟨gb202,1,none⟩ = some (.int .i64 a0_1) ∧ w'.cell? ⟨gb202,2,none⟩ = some (.slice A0_2 l0_2.length c0_2) ∧ w'.cell? ⟨gb202,3,none⟩ = some (.slice A0_3 l0_3.length c0_3) ∧ w'.cell? ⟨gb202,4,none⟩ = some (.slice A0_4 l0_4.length c0_4)) (ds:=[]) #[false,false,false,false,false,false,false,false,false,false] (by kernel_rfl) rfl rfl ⟨(blk_cell BK202.out 0).trans rfl,(blk_cell BK202.out 1).trans rfl,(blk_cell BK202.out 2).trans rfl,(blk_cell BK202.out 3).trans rfl,(blk_cell BK202.out 4).trans rfl⟩ (fun hHeld => ?_);refine with_tabW water_ground_joined.tab10 water_ground_joined.bits10 (fun HT_ HW_ => ?_)
   generalize w65.drew = w66 at BK202 BK203 HB hHeld ⊢
   refine pI 1 (some 61) ?_
   refine pI 2 (some 62) ?_
   refine pI 3 (some 63) ?_
   refine pI 4 (some 64) ?_
   refine pI 6 (some 66) ?_
   refine tI5 0 (some 60) hHeld ?_
   refine tI5 5 (some 65) hHeld ?_
   refine oI 7 (some 67) (fun K hK => ?_)
   refine goes_ Try.func62 (by kernel_rfl) rfl #[.agg #[.int .i64 a0_0,.int .i64 a0_1,.slice A0_2 l0_2.length c0_2,.slice A0_3 l0_3.length c0_3,.slice A0_4 l0_4.length c0_4],.int .i64 a2] (by rfl) rfl rfl (by (try simp only [List.map_toArray,List.map_cons,List.map_nil]);first|done|rfl|(simp only [List.length_drop,List.length_take];rfl)) ?_
   with_reducible refine (water_ground_level.calls a0_0 a0_1 _ _ l0_2 _ _ l0_3 _ _ l0_4 a2 t211 _ ?side1 ?side2 ?side3 ?side4 ?side5 ?side6 A52.out).mono ?_
   (case side1 => exact Kd.C_up (Kd.C_below HR0_2.out HB.out))
   (case side2 => exact HC0_2.out)
   (case side3 => exact Kd.C_up (Kd.C_below HR0_3.out HB.out))
   (case side4 => exact HC0_3.out)
   (case side5 => exact Kd.C_up (Kd.C_below HR0_4.out HB.out))
   (case side6 => exact HC0_4.out)
   rintro e w67 ⟨rfl,hb⟩
   refine ⟨_,rfl,?_⟩
   have n0_:=bkb BK202 hb
   have n1_:=bkb BK203 hb
   have n2_:=Aside0.mk (below_step (hb_) hb)
   clear BK202
   clear BK203
   clear HB
   have BK202:=n0_
   have BK203:=n1_
   have HB:=n2_
   clear n0_ n1_ n2_
   (try clear hb)
   (try clear hb2)
   (try clear hk)
   (try clear hi)
   refine hK.out _ _ ⟨(blk_cell BK202.out 0).trans rfl,(blk_cell BK202.out 1).trans rfl,(blk_cell BK202.out 2).trans rfl,(blk_cell BK202.out 3).trans rfl,(blk_cell BK202.out 4).trans rfl⟩ (fun hHeld => ?_)
   clear hK K
   refine norm_ (a':=?_) ?_ ?_
   rotate_left
   ·show Act.put _ (some 67) _ = _
    simp only [Act.put,List.setIfInBounds_toArray,List.set_cons_zero,List.set_cons_succ,i64_w,i32_w]
    rfl
   refine oI 8 (some 68) (fun K hK => ?_)
   refine goes_ Try.func61 (by kernel_rfl) rfl #[.agg #[.int .i64 a0_0,.int .i64 a0_1,.slice A0_2 l0_2.length c0_2,.slice A0_3 l0_3.length c0_3,.slice A0_4 l0_4.length c0_4],.int .i64 t204,.int .i64 (Int.tmod (wrap64 (a3 + 2)) 4),.int .i64 t211] (by rfl) rfl rfl (by (try simp only [List.map_toArray,List.map_cons,List.map_nil]);first|done|rfl|(simp only [List.length_drop,List.length_take];rfl)) ?_
   with_reducible refine (water_ground_through.calls a0_0 a0_1 _ _ l0_2 _ _ l0_3 _ _ l0_4 t204 (Int.tmod (wrap64 (a3 + 2)) 4) t211 t212 _ ?side1 ?side2 ?side3 ?side4 ?side5 ?side6 A53.out).mono ?_
   (case side1 => exact Kd.C_up (Kd.C_below HR0_2.out HB.out))
   (case side2 => exact HC0_2.out)
   (case side3 => exact Kd.C_up (Kd.C_below HR0_3.out HB.out))
   (case side4 => exact HC0_3.out)
   (case side5 => exact Kd.C_up (Kd.C_below HR0_4.out HB.out))
   (case side6 => exact HC0_4.out)
   rintro e w68 ⟨rfl,hb⟩
   refine ⟨_,rfl,?_⟩
   have n0_:=bkb BK202 hb
   have n1_:=bkb BK203 hb
   have n2_:=Aside0.mk (below_step (hb_) hb)
   clear BK202
   clear BK203
   clear HB
   have BK202:=n0_
   have BK203:=n1_
   have HB:=n2_
   clear n0_ n1_ n2_
   (try clear hb)
   (try clear hb2)
   (try clear hk)
   (try clear hi)
   refine hK.out _ _ ⟨(blk_cell BK202.out 0).trans rfl,(blk_cell BK202.out 1).trans rfl,(blk_cell BK202.out 2).trans rfl,(blk_cell BK202.out 3).trans rfl,(blk_cell BK202.out 4).trans rfl⟩ (fun hHeld => ?_)
   clear hK K
   refine norm_ (a':=?_) ?_ ?_
   rotate_left
   ·show Act.put _ (some 68) _ = _
    simp only [Act.put,List.setIfInBounds_toArray,List.set_cons_zero,List.set_cons_succ,i64_w,i32_w]
    rfl
   refine pI 9 (some 8) ?_
   refine done_ (done_of HT_.out (by kernel_rfl)) ?_
   try go_wp2
   go_ret
   exact ⟨by first|rfl|(simp [errW_none,errW_some] <;> rfl)|(simp [*,errW_none,errW_some] <;> rfl),hb_⟩
  ·replace c15:=Bool.eq_false_iff.mpr c15
   subst c15
   have H1 : (some false) = some r:=by rw [if_neg (show ¬ (false = true) by decide)] at H;exact H
   clear H
   have H:=H1
   clear H1
   obtain rfl:=Option.some.inj H
   go_enter Try.func41,Try.ntmps41
   go_wp2_with (first|((with_reducible refine gate_dst (N:=4) rfl ?_);refine box_ev (N:=4) (cs:=#[.int .i64 a0_0,.int .i64 a0_1,.slice A0_2 l0_2.length c0_2,.slice A0_3 l0_3.length c0_3,.slice A0_4 l0_4.length c0_4]) (t:=52) ?_;intro gb202 hg w86 hbox hb;have BK202:=Aside0.mk (hbox);have GW202 : Aside0 (w.heap.size ≤ gb202):=gsz hg;have GE202:=GW202;replace HB:=Aside0.mk (below_step (hb_) hb);clear hb hbox hg)|((with_reducible refine gate_dst (N:=5) rfl ?_);refine box_ev (N:=5) (cs:=#[.slice A1_0 l1_0.length c1_0,.slice A1_1 l1_1.length c1_1]) (t:=26) ?_;intro gb203 hg w87 hbox hb;have BK203:=Aside0.mk (hbox);have GW203 : Aside0 (w.heap.size ≤ gb203):=gsz hg;have GE203:=GW203;have NB202_203:=nbl BK202 hg;have NB203_202:=nbr BK202 hg;replace BK202:=bkb BK202 hb;replace HB:=Aside0.mk (below_step (hb_) hb);clear hb hbox hg;have hnb88:=NB202_203.out;have hnc88:=NB203_202.out;obtain ⟨hcz89_0,hcz89_1,hcz89_2,hcz89_3,hcz89_4,hfz89_0,hfz89_1,hfz89_2,hfz89_3,hfz89_4⟩:=cells5 BK202.out)|((with_reducible refine gate_callee (f:=46) rfl ?_);refine goesL_ (some 15) rfl rfl Try.func46 (by kernel_rfl) rfl #[.agg #[.int .i64 a0_0,.int .i64 a0_1,.slice A0_2 l0_2.length c0_2,.slice A0_3 l0_3.length c0_3,.slice A0_4 l0_4.length c0_4],.int .i64 a2,.int .i64 a3] rfl (by (try simp only [List.map_toArray,List.map_cons,List.map_nil]);first|done|rfl|(simp only [List.length_drop,List.length_take];rfl)) ?_;(with_reducible refine (water_ground_beyond.calls k a0_0 a0_1 _ _ l0_2 _ _ l0_3 _ _ l0_4 a2 a3 t204 _ ?side1 ?side2 ?side3 ?side4 ?side5 ?side6 A5.out).mono ?_);(case side1 => exact Kd.C_up (Kd.C_below HR0_2.out HB.out));(case side2 => exact HC0_2.out);(case side3 => exact Kd.C_up (Kd.C_below HR0_3.out HB.out));(case side4 => exact HC0_3.out);(case side5 => exact Kd.C_up (Kd.C_below HR0_4.out HB.out));(case side6 => exact HC0_4.out);rintro e w90 ⟨rfl,hb⟩;refine ⟨_,rfl,?_⟩;replace BK202:=bkb BK202 hb;replace BK203:=bkb BK203 hb;replace HB:=Aside0.mk (below_step (hb_) hb);obtain ⟨hcz91_0,hcz91_1,hcz91_2,hcz91_3,hcz91_4,hfz91_0,hfz91_1,hfz91_2,hfz91_3,hfz91_4⟩:=cells5 BK202.out;obtain ⟨hcz92_0,hcz92_1,hfz92_0,hfz92_1⟩:=cells2 BK203.out)|(go_at_call 45;(with_reducible refine (water_ground_wet.calls a0_0 a0_1 _ _ l0_2 _ _ l0_3 _ _ l0_4 _ _ l1_0 _ _ l1_1 a2 true _ ?side1 ?side2 ?side3 ?side4 ?side5 ?side6 ?side7 ?side8 ?side9 ?side10 A12.out).mono ?_);(case side1 => exact Kd.C_up (Kd.C_below HR0_2.out HB.out));(case side2 => exact HC0_2.out);(case side3 => exact Kd.C_up (Kd.C_below HR0_3.out HB.out));(case side4 => exact HC0_3.out);(case side5 => exact Kd.C_up (Kd.C_below HR0_4.out HB.out));(case side6 => exact HC0_4.out);(case side7 => exact Kd.C_up (Kd.C_below HR1_0.out HB.out));(case side8 => exact HC1_0.out);(case side9 => exact Kd.C_up (Kd.C_below HR1_1.out HB.out));(case side10 => exact HC1_1.out);rintro e w93 ⟨rfl,hb⟩;replace BK202:=bkb BK202 hb;replace BK203:=bkb BK203 hb;replace HB:=Aside0.mk (below_step (hb_) hb);obtain ⟨hcz94_0,hcz94_1,hcz94_2,hcz94_3,hcz94_4,hfz94_0,hfz94_1,hfz94_2,hfz94_3,hfz94_4⟩:=cells5 BK202.out;obtain ⟨hcz95_0,hcz95_1,hfz95_0,hfz95_1⟩:=cells2 BK203.out)|(go_at_call 45;(with_reducible refine (water_ground_wet.calls a0_0 a0_1 _ _ l0_2 _ _ l0_3 _ _ l0_4 _ _ l1_0 _ _ l1_1 t204 false _ ?side1 ?side2 ?side3 ?side4 ?side5 ?side6 ?side7 ?side8 ?side9 ?side10 A14.out).mono ?_);(case side1 => exact Kd.C_up (Kd.C_below HR0_2.out HB.out));(case side2 => exact HC0_2.out);(case side3 => exact Kd.C_up (Kd.C_below HR0_3.out HB.out));(case side4 => exact HC0_3.out);(case side5 => exact Kd.C_up (Kd.C_below HR0_4.out HB.out));(case side6 => exact HC0_4.out);(case side7 => exact Kd.C_up (Kd.C_below HR1_0.out HB.out));(case side8 => exact HC1_0.out);(case side9 => exact Kd.C_up (Kd.C_below HR1_1.out HB.out));(case side10 => exact HC1_1.out);rintro e w96 ⟨rfl,hb⟩;replace BK202:=bkb BK202 hb;replace BK203:=bkb BK203 hb;replace HB:=Aside0.mk (below_step (hb_) hb)))
   go_ret
   exact ⟨by first|rfl|(simp [errW_none,errW_some] <;> rfl)|(simp [*,errW_none,errW_some] <;> rfl),hb_⟩
 ·replace c13:=Bool.eq_false_iff.mpr c13
  subst c13
  have H1 : (some false) = some r:=by rw [if_neg (show ¬ (false = true) by decide)] at H;exact H
  clear H
  have H:=H1
  clear H1
  obtain rfl:=Option.some.inj H
  go_enter Try.func41,Try.ntmps41
  go_wp2_with (first|((with_reducible refine gate_dst (N:=4) rfl ?_);refine box_ev (N:=4) (cs:=#[.int .i64 a0_0,.int .i64 a0_1,.slice A0_2 l0_2.length c0_2,.slice A0_3 l0_3.length c0_3,.slice A0_4 l0_4.length c0_4]) (t:=52) ?_;intro gb202 hg w97 hbox hb;have BK202:=Aside0.mk (hbox);have GW202 : Aside0 (w.heap.size ≤ gb202):=gsz hg;have GE202:=GW202;replace HB:=Aside0.mk (below_step (hb_) hb);clear hb hbox hg)|((with_reducible refine gate_dst (N:=5) rfl ?_);refine box_ev (N:=5) (cs:=#[.slice A1_0 l1_0.length c1_0,.slice A1_1 l1_1.length c1_1]) (t:=26) ?_;intro gb203 hg w98 hbox hb;have BK203:=Aside0.mk (hbox);have GW203 : Aside0 (w.heap.size ≤ gb203):=gsz hg;have GE203:=GW203;have NB202_203:=nbl BK202 hg;have NB203_202:=nbr BK202 hg;replace BK202:=bkb BK202 hb;replace HB:=Aside0.mk (below_step (hb_) hb);clear hb hbox hg;have hnb99:=NB202_203.out;have hnc99:=NB203_202.out;obtain ⟨hcz100_0,hcz100_1,hcz100_2,hcz100_3,hcz100_4,hfz100_0,hfz100_1,hfz100_2,hfz100_3,hfz100_4⟩:=cells5 BK202.out)|((with_reducible refine gate_callee (f:=46) rfl ?_);refine goesL_ (some 15) rfl rfl Try.func46 (by kernel_rfl) rfl #[.agg #[.int .i64 a0_0,.int .i64 a0_1,.slice A0_2 l0_2.length c0_2,.slice A0_3 l0_3.length c0_3,.slice A0_4 l0_4.length c0_4],.int .i64 a2,.int .i64 a3] rfl (by (try simp only [List.map_toArray,List.map_cons,List.map_nil]);first|done|rfl|(simp only [List.length_drop,List.length_take];rfl)) ?_;(with_reducible refine (water_ground_beyond.calls k a0_0 a0_1 _ _ l0_2 _ _ l0_3 _ _ l0_4 a2 a3 t204 _ ?side1 ?side2 ?side3 ?side4 ?side5 ?side6 A5.out).mono ?_);(case side1 => exact Kd.C_up (Kd.C_below HR0_2.out HB.out));(case side2 => exact HC0_2.out);(case side3 => exact Kd.C_up (Kd.C_below HR0_3.out HB.out));(case side4 => exact HC0_3.out);(case side5 => exact Kd.C_up (Kd.C_below HR0_4.out HB.out));(case side6 => exact HC0_4.out);rintro e w101 ⟨rfl,hb⟩;refine ⟨_,rfl,?_⟩;replace BK202:=bkb BK202 hb;replace BK203:=bkb BK203 hb;replace HB:=Aside0.mk (below_step (hb_) hb);obtain ⟨hcz102_0,hcz102_1,hcz102_2,hcz102_3,hcz102_4,hfz102_0,hfz102_1,hfz102_2,hfz102_3,hfz102_4⟩:=cells5 BK202.out;obtain ⟨hcz103_0,hcz103_1,hfz103_0,hfz103_1⟩:=cells2 BK203.out)|(go_at_call 45;(with_reducible refine (water_ground_wet.calls a0_0 a0_1 _ _ l0_2 _ _ l0_3 _ _ l0_4 _ _ l1_0 _ _ l1_1 a2 false _ ?side1 ?side2 ?side3 ?side4 ?side5 ?side6 ?side7 ?side8 ?side9 ?side10 A12.out).mono ?_);(case side1 => exact Kd.C_up (Kd.C_below HR0_2.out HB.out));(case side2 => exact HC0_2.out);(case side3 => exact Kd.C_up (Kd.C_below HR0_3.out HB.out));(case side4 => exact HC0_3.out);(case side5 => exact Kd.C_up (Kd.C_below HR0_4.out HB.out));(case side6 => exact HC0_4.out);(case side7 => exact Kd.C_up (Kd.C_below HR1_0.out HB.out));(case side8 => exact HC1_0.out);(case side9 => exact Kd.C_up (Kd.C_below HR1_1.out HB.out));(case side10 => exact HC1_1.out);rintro e w104 ⟨rfl,hb⟩;replace BK202:=bkb BK202 hb;replace BK203:=bkb BK203 hb;replace HB:=Aside0.mk (below_step (hb_) hb)))
  go_ret
  exact ⟨by first|rfl|(simp [errW_none,errW_some] <;> rfl)|(simp [*,errW_none,errW_some] <;> rfl),hb_⟩

/-! ### water_Joined: function 16 -/
def water_Joined.f (k : Nat) (a0_0 : Int) (a0_1 : Int) (l0_2 : List Int) (l1_0 : List Int) (l1_1 : List Int) (a2 : Int) (a3 : Int) : Option (Bool × Int) := (water_at.f k a0_0 a0_1 l0_2 l1_0 l1_1 a2).bind fun bt217 => (if bt217.2.2.2.2.2 = 0 then (if a3 < 0 then (some (false, 1)) else (if a3 > 3 then (some (false, 1)) else ((water_ground_joined.f k bt217.1 bt217.2.1 bt217.2.2.1 bt217.2.2.2.1 bt217.2.2.2.2.1 l1_0 l1_1 a2 a3).bind fun t230 => (some (t230, 0))))) else (some (false, bt217.2.2.2.2.2)))
theorem water_Joined.mono : ∀ a0 a1 a2 a3 a4 a5 a6 k, LeO (water_Joined.f k a0 a1 a2 a3 a4 a5 a6) (water_Joined.f (k + 1) a0 a1 a2 a3 a4 a5 a6) := by
 intro a0 a1 a2 a3 a4 a5 a6 k
 unfold water_Joined.f
 repeat' first
   | (with_reducible exact water_at.mono _ _ _ _ _ _ _)
   | (with_reducible exact water_ground_joined.mono _ _ _ _ _ _ _ _ _ _)
   | (with_reducible exact LeO.refl _)
   | (with_reducible exact LeO.none _)
   | (with_reducible refine LeO.ite ?_ ?_)
   | (with_reducible refine LeO.bind ?_ (fun _ => ?_))
   | exact water_at.mono _ _ _ _ _ _ _
   | exact water_ground_joined.mono _ _ _ _ _ _ _ _ _ _
   | exact LeO.none _
   | refine LeO.ite ?_ ?_
   | refine LeO.bind ?_ (fun _ => ?_)
set_option maxHeartbeats 8000000 in
set_option maxRecDepth 100000 in
theorem water_Joined.calls (k : Nat) (a0_0 : Int) (a0_1 : Int) (A0_2 : Option Addr) (c0_2 : Nat) (l0_2 : List Int) (A1_0 : Option Addr) (c1_0 : Nat) (l1_0 : List Int) (A1_1 : Option Addr) (c1_1 : Nat) (l1_1 : List Int) (a2 : Int) (a3 : Int) (r1 : Bool) (r2 : Int) (w : World) (hr0_2 : Kd.C (Kd.int .i64) w A0_2 l0_2.length l0_2) (hc0_2 : l0_2.length ≤ c0_2) (hr1_0 : Kd.C (Kd.int .i64) w A1_0 l1_0.length l1_0) (hc1_0 : l1_0.length ≤ c1_0) (hr1_1 : Kd.C (Kd.int .i64) w A1_1 l1_1.length l1_1) (hc1_1 : l1_1.length ≤ c1_1) (h : water_Joined.f k a0_0 a0_1 l0_2 l1_0 l1_1 a2 a3 = some (r1, r2)) :
  Calls Try.prog 16 #[.agg #[.int .i64 a0_0,.int .i64 a0_1,.slice A0_2 l0_2.length c0_2],.agg #[.slice A1_0 l1_0.length c1_0,.slice A1_1 l1_1.length c1_1],.int .i64 a2,.int .i64 a3] w fun e w' => e = .returned (.tuple #[.bool r1,.int .i64 r2]) ∧ Below w.heap.size w w':=by
 have hu24:=Try.underlying24
 have hu26:=Try.underlying26
 have hu52:=Try.underlying52
 have HR0_2:=Aside0.mk hr0_2
 have HC0_2:=Aside0.mk hc0_2
 clear hr0_2 hc0_2
 have HR1_0:=Aside0.mk hr1_0
 have HC1_0:=Aside0.mk hc1_0
 clear hr1_0 hc1_0
 have HR1_1:=Aside0.mk hr1_1
 have HC1_1:=Aside0.mk hc1_1
 clear hr1_1 hc1_1
 have HB:=Aside0.mk (Below.refl w.heap.size w)
 have H : ((water_at.f k a0_0 a0_1 l0_2 l1_0 l1_1 a2).bind fun bt217 => (if bt217.2.2.2.2.2 = 0 then (if a3 < 0 then (some (false,1)) else (if a3 > 3 then (some (false,1)) else ((water_ground_joined.f k bt217.1 bt217.2.1 bt217.2.2.1 bt217.2.2.2.1 bt217.2.2.2.2.1 l1_0 l1_1 a2 a3).bind fun t230 => (some (t230,0))))) else (some (false,bt217.2.2.2.2.2)))) = some (r1,r2):=h
 clear h
 replace H:=Option.bind_eq_some_iff.mp H
 obtain ⟨⟨t217,t218,t219,t222,t225,t228⟩,A50,H⟩:=H
 replace H : (if t228 = 0 then (if a3 < 0 then (some (false,1)) else (if a3 > 3 then (some (false,1)) else ((water_ground_joined.f k t217 t218 t219 t222 t225 l1_0 l1_1 a2 a3).bind fun t230 => (some (t230,0))))) else (some (false,t228))) = some (r1,r2):=H
 have A5:=Aside0.mk A50
 clear A50
 by_cases c6 : t228 = 0
 rotate_left
 ·rw [if_neg c6] at H
  have c6b0 : (t228 == 0) = false:=beq_eq_false_iff_ne.mpr c6
  have c6b1 : (t228 != 0) = true:=bne_iff_ne.mpr c6
  simp only [Option.some.injEq,Prod.mk.injEq] at H
  obtain ⟨rfl,rfl⟩:=H
  go_enter Try.func16,Try.ntmps16
  go_wp2_with (first|((with_reducible refine gate_dst (N:=4) rfl ?_);refine box_ev (N:=4) (cs:=#[.int .i64 a0_0,.int .i64 a0_1,.slice A0_2 l0_2.length c0_2]) (t:=24) ?_;intro gb215 hg w51 hbox hb;have BK215:=Aside0.mk (hbox);have GW215 : Aside0 (w.heap.size ≤ gb215):=gsz hg;have GE215:=GW215;replace HB:=Aside0.mk (below_step (hb_) hb);clear hb hbox hg)|((with_reducible refine gate_dst (N:=5) rfl ?_);refine box_ev (N:=5) (cs:=#[.slice A1_0 l1_0.length c1_0,.slice A1_1 l1_1.length c1_1]) (t:=26) ?_;intro gb216 hg w52 hbox hb;have BK216:=Aside0.mk (hbox);have GW216 : Aside0 (w.heap.size ≤ gb216):=gsz hg;have GE216:=GW216;have NB215_216:=nbl BK215 hg;have NB216_215:=nbr BK215 hg;replace BK215:=bkb BK215 hb;replace HB:=Aside0.mk (below_step (hb_) hb);clear hb hbox hg;have hnb53:=NB215_216.out;have hnc53:=NB216_215.out;obtain ⟨hcz54_0,hcz54_1,hcz54_2,hfz54_0,hfz54_1,hfz54_2⟩:=cells3 BK215.out;obtain ⟨hcz55_0,hcz55_1,hfz55_0,hfz55_1⟩:=cells2 BK216.out)|((with_reducible refine gate_callee (f:=40) rfl ?_);refine goesL_ (some 16) rfl rfl Try.func40 (by kernel_rfl) rfl #[.agg #[.int .i64 a0_0,.int .i64 a0_1,.slice A0_2 l0_2.length c0_2],.agg #[.slice A1_0 l1_0.length c1_0,.slice A1_1 l1_1.length c1_1],.int .i64 a2] rfl (by (try simp only [List.map_toArray,List.map_cons,List.map_nil]);first|done|rfl|(simp only [List.length_drop,List.length_take];rfl)) ?_;(with_reducible refine (water_at.calls k a0_0 a0_1 _ _ l0_2 _ _ l1_0 _ _ l1_1 a2 t217 t218 t219 t222 t225 t228 _ ?side1 ?side2 ?side3 ?side4 ?side5 ?side6 A5.out).mono ?_);(case side1 => exact Kd.C_up (Kd.C_below HR0_2.out HB.out));(case side2 => exact HC0_2.out);(case side3 => exact Kd.C_up (Kd.C_below HR1_0.out HB.out));(case side4 => exact HC1_0.out);(case side5 => exact Kd.C_up (Kd.C_below HR1_1.out HB.out));(case side6 => exact HC1_1.out);rintro e w56 ⟨v220,v223,v226,rfl,ho0,ho1,ho2,hb⟩;refine ⟨_,rfl,?_⟩;have HO221:=rlo ho0;have HO224:=rlo ho1;have HO227:=rlo ho2;replace BK215:=bkb BK215 hb;replace BK216:=bkb BK216 hb;replace HB:=Aside0.mk (below_step (hb_) hb))|((with_reducible refine gate_dst (N:=10) rfl ?_);refine box_ev (N:=10) (cs:=#[.int .i64 0,.int .i64 0,.slice none 0 0,.slice none 0 0,.slice none 0 0]) (t:=52) ?_;intro gb229 hg w57 hbox hb;have BK229:=Aside0.mk (hbox);have GW229 : Aside0 (w.heap.size ≤ gb229):=gsz hg;have GE229:=GW229;have NB215_229:=nbl BK215 hg;have NB229_215:=nbr BK215 hg;have NB216_229:=nbl BK216 hg;have NB229_216:=nbr BK216 hg;replace HO221:=rbw HO221 hb;replace HO224:=rbw HO224 hb;replace HO227:=rbw HO227 hb;replace BK215:=bkb BK215 hb;replace BK216:=bkb BK216 hb;replace HB:=Aside0.mk (below_step (hb_) hb);clear hb hbox hg;have hnb58:=NB229_215.out;have hnc58:=NB215_229.out;have hnb59:=NB229_216.out;have hnc59:=NB216_229.out;obtain ⟨hcz60_0,hcz60_1,hcz60_2,hcz60_3,hcz60_4,hfz60_0,hfz60_1,hfz60_2,hfz60_3,hfz60_4⟩:=cells5 BK229.out;obtain ⟨Ao61,co61,eo61⟩:=Kd.R_slice HO221.out;subst eo61;obtain ⟨Ao62,co62,eo62⟩:=Kd.R_slice HO224.out;subst eo62;obtain ⟨Ao63,co63,eo63⟩:=Kd.R_slice HO227.out;subst eo63))
  go_ret2
  exact ⟨by first|rfl|(simp [errW_none,errW_some] <;> rfl)|(simp [*,errW_none,errW_some] <;> rfl),hb_⟩
 rw [if_pos c6] at H
 have c6b0 : (t228 == 0) = true:=beq_iff_eq.mpr c6
 have c6b1 : (t228 != 0) = false:=bne_eq_false_iff_eq.mpr c6
 clear c6
 by_cases c7 : a3 < 0
 ·rw [if_pos c7] at H
  have c7b0 : decide (a3 < 0) = true:=decide_eq_true c7
  clear c7
  simp only [Option.some.injEq,Prod.mk.injEq] at H
  obtain ⟨rfl,rfl⟩:=H
  go_enter Try.func16,Try.ntmps16
  go_wp2_with (first|((with_reducible refine gate_dst (N:=4) rfl ?_);refine box_ev (N:=4) (cs:=#[.int .i64 a0_0,.int .i64 a0_1,.slice A0_2 l0_2.length c0_2]) (t:=24) ?_;intro gb215 hg w8 hbox hb;have BK215:=Aside0.mk (hbox);have GW215 : Aside0 (w.heap.size ≤ gb215):=gsz hg;have GE215:=GW215;replace HB:=Aside0.mk (below_step (hb_) hb);clear hb hbox hg)|((with_reducible refine gate_dst (N:=5) rfl ?_);refine box_ev (N:=5) (cs:=#[.slice A1_0 l1_0.length c1_0,.slice A1_1 l1_1.length c1_1]) (t:=26) ?_;intro gb216 hg w9 hbox hb;have BK216:=Aside0.mk (hbox);have GW216 : Aside0 (w.heap.size ≤ gb216):=gsz hg;have GE216:=GW216;have NB215_216:=nbl BK215 hg;have NB216_215:=nbr BK215 hg;replace BK215:=bkb BK215 hb;replace HB:=Aside0.mk (below_step (hb_) hb);clear hb hbox hg;have hnb10:=NB215_216.out;have hnc10:=NB216_215.out;obtain ⟨hcz11_0,hcz11_1,hcz11_2,hfz11_0,hfz11_1,hfz11_2⟩:=cells3 BK215.out;obtain ⟨hcz12_0,hcz12_1,hfz12_0,hfz12_1⟩:=cells2 BK216.out)|((with_reducible refine gate_callee (f:=40) rfl ?_);refine goesL_ (some 16) rfl rfl Try.func40 (by kernel_rfl) rfl #[.agg #[.int .i64 a0_0,.int .i64 a0_1,.slice A0_2 l0_2.length c0_2],.agg #[.slice A1_0 l1_0.length c1_0,.slice A1_1 l1_1.length c1_1],.int .i64 a2] rfl (by (try simp only [List.map_toArray,List.map_cons,List.map_nil]);first|done|rfl|(simp only [List.length_drop,List.length_take];rfl)) ?_;(with_reducible refine (water_at.calls k a0_0 a0_1 _ _ l0_2 _ _ l1_0 _ _ l1_1 a2 t217 t218 t219 t222 t225 t228 _ ?side1 ?side2 ?side3 ?side4 ?side5 ?side6 A5.out).mono ?_);(case side1 => exact Kd.C_up (Kd.C_below HR0_2.out HB.out));(case side2 => exact HC0_2.out);(case side3 => exact Kd.C_up (Kd.C_below HR1_0.out HB.out));(case side4 => exact HC1_0.out);(case side5 => exact Kd.C_up (Kd.C_below HR1_1.out HB.out));(case side6 => exact HC1_1.out);rintro e w13 ⟨v220,v223,v226,rfl,ho0,ho1,ho2,hb⟩;refine ⟨_,rfl,?_⟩;have HO221:=rlo ho0;have HO224:=rlo ho1;have HO227:=rlo ho2;replace BK215:=bkb BK215 hb;replace BK216:=bkb BK216 hb;replace HB:=Aside0.mk (below_step (hb_) hb))|((with_reducible refine gate_dst (N:=10) rfl ?_);refine box_ev (N:=10) (cs:=#[.int .i64 0,.int .i64 0,.slice none 0 0,.slice none 0 0,.slice none 0 0]) (t:=52) ?_;intro gb229 hg w14 hbox hb;have BK229:=Aside0.mk (hbox);have GW229 : Aside0 (w.heap.size ≤ gb229):=gsz hg;have GE229:=GW229;have NB215_229:=nbl BK215 hg;have NB229_215:=nbr BK215 hg;have NB216_229:=nbl BK216 hg;have NB229_216:=nbr BK216 hg;replace HO221:=rbw HO221 hb;replace HO224:=rbw HO224 hb;replace HO227:=rbw HO227 hb;replace BK215:=bkb BK215 hb;replace BK216:=bkb BK216 hb;replace HB:=Aside0.mk (below_step (hb_) hb);clear hb hbox hg;have hnb15:=NB229_215.out;have hnc15:=NB215_229.out;have hnb16:=NB229_216.out;have hnc16:=NB216_229.out;obtain ⟨hcz17_0,hcz17_1,hcz17_2,hcz17_3,hcz17_4,hfz17_0,hfz17_1,hfz17_2,hfz17_3,hfz17_4⟩:=cells5 BK229.out;obtain ⟨Ao18,co18,eo18⟩:=Kd.R_slice HO221.out;subst eo18;obtain ⟨Ao19,co19,eo19⟩:=Kd.R_slice HO224.out;subst eo19;obtain ⟨Ao20,co20,eo20⟩:=Kd.R_slice HO227.out;subst eo20))
  go_ret2
  exact ⟨by first|rfl|(simp [errW_none,errW_some] <;> rfl)|(simp [*,errW_none,errW_some] <;> rfl),hb_⟩
 ·rw [if_neg c7] at H
  have c7b0 : decide (a3 < 0) = false:=decide_eq_false c7
  clear c7
  by_cases c21 : a3 > 3
  ·rw [if_pos c21] at H
   have c21b0 : decide (3 < a3) = true:=decide_eq_true c21
   clear c21
   simp only [Option.some.injEq,Prod.mk.injEq] at H
   obtain ⟨rfl,rfl⟩:=H
   go_enter Try.func16,Try.ntmps16
   go_wp2_with (first|((with_reducible refine gate_dst (N:=4) rfl ?_);refine box_ev (N:=4) (cs:=#[.int .i64 a0_0,.int .i64 a0_1,.slice A0_2 l0_2.length c0_2]) (t:=24) ?_;intro gb215 hg w22 hbox hb;have BK215:=Aside0.mk (hbox);have GW215 : Aside0 (w.heap.size ≤ gb215):=gsz hg;have GE215:=GW215;replace HB:=Aside0.mk (below_step (hb_) hb);clear hb hbox hg)|((with_reducible refine gate_dst (N:=5) rfl ?_);refine box_ev (N:=5) (cs:=#[.slice A1_0 l1_0.length c1_0,.slice A1_1 l1_1.length c1_1]) (t:=26) ?_;intro gb216 hg w23 hbox hb;have BK216:=Aside0.mk (hbox);have GW216 : Aside0 (w.heap.size ≤ gb216):=gsz hg;have GE216:=GW216;have NB215_216:=nbl BK215 hg;have NB216_215:=nbr BK215 hg;replace BK215:=bkb BK215 hb;replace HB:=Aside0.mk (below_step (hb_) hb);clear hb hbox hg;have hnb24:=NB215_216.out;have hnc24:=NB216_215.out;obtain ⟨hcz25_0,hcz25_1,hcz25_2,hfz25_0,hfz25_1,hfz25_2⟩:=cells3 BK215.out;obtain ⟨hcz26_0,hcz26_1,hfz26_0,hfz26_1⟩:=cells2 BK216.out)|((with_reducible refine gate_callee (f:=40) rfl ?_);refine goesL_ (some 16) rfl rfl Try.func40 (by kernel_rfl) rfl #[.agg #[.int .i64 a0_0,.int .i64 a0_1,.slice A0_2 l0_2.length c0_2],.agg #[.slice A1_0 l1_0.length c1_0,.slice A1_1 l1_1.length c1_1],.int .i64 a2] rfl (by (try simp only [List.map_toArray,List.map_cons,List.map_nil]);first|done|rfl|(simp only [List.length_drop,List.length_take];rfl)) ?_;(with_reducible refine (water_at.calls k a0_0 a0_1 _ _ l0_2 _ _ l1_0 _ _ l1_1 a2 t217 t218 t219 t222 t225 t228 _ ?side1 ?side2 ?side3 ?side4 ?side5 ?side6 A5.out).mono ?_);(case side1 => exact Kd.C_up (Kd.C_below HR0_2.out HB.out));(case side2 => exact HC0_2.out);(case side3 => exact Kd.C_up (Kd.C_below HR1_0.out HB.out));(case side4 => exact HC1_0.out);(case side5 => exact Kd.C_up (Kd.C_below HR1_1.out HB.out));(case side6 => exact HC1_1.out);rintro e w27 ⟨v220,v223,v226,rfl,ho0,ho1,ho2,hb⟩;refine ⟨_,rfl,?_⟩;have HO221:=rlo ho0;have HO224:=rlo ho1;have HO227:=rlo ho2;replace BK215:=bkb BK215 hb;replace BK216:=bkb BK216 hb;replace HB:=Aside0.mk (below_step (hb_) hb))|((with_reducible refine gate_dst (N:=10) rfl ?_);refine box_ev (N:=10) (cs:=#[.int .i64 0,.int .i64 0,.slice none 0 0,.slice none 0 0,.slice none 0 0]) (t:=52) ?_;intro gb229 hg w28 hbox hb;have BK229:=Aside0.mk (hbox);have GW229 : Aside0 (w.heap.size ≤ gb229):=gsz hg;have GE229:=GW229;have NB215_229:=nbl BK215 hg;have NB229_215:=nbr BK215 hg;have NB216_229:=nbl BK216 hg;have NB229_216:=nbr BK216 hg;replace HO221:=rbw HO221 hb;replace HO224:=rbw HO224 hb;replace HO227:=rbw HO227 hb;replace BK215:=bkb BK215 hb;replace BK216:=bkb BK216 hb;replace HB:=Aside0.mk (below_step (hb_) hb);clear hb hbox hg;have hnb29:=NB229_215.out;have hnc29:=NB215_229.out;have hnb30:=NB229_216.out;have hnc30:=NB216_229.out;obtain ⟨hcz31_0,hcz31_1,hcz31_2,hcz31_3,hcz31_4,hfz31_0,hfz31_1,hfz31_2,hfz31_3,hfz31_4⟩:=cells5 BK229.out;obtain ⟨Ao32,co32,eo32⟩:=Kd.R_slice HO221.out;subst eo32;obtain ⟨Ao33,co33,eo33⟩:=Kd.R_slice HO224.out;subst eo33;obtain ⟨Ao34,co34,eo34⟩:=Kd.R_slice HO227.out;subst eo34))
   go_ret2
   exact ⟨by first|rfl|(simp [errW_none,errW_some] <;> rfl)|(simp [*,errW_none,errW_some] <;> rfl),hb_⟩
  ·rw [if_neg c21] at H
   have c21b0 : decide (3 < a3) = false:=decide_eq_false c21
   clear c21
   replace H:=Option.bind_eq_some_iff.mp H
   obtain ⟨t230,A350,H⟩:=H
   replace H : (some (t230,0)) = some (r1,r2):=H
   have A35:=Aside0.mk A350
   clear A350
   simp only [Option.some.injEq,Prod.mk.injEq] at H
   obtain ⟨rfl,rfl⟩:=H
   go_enter Try.func16,Try.ntmps16
   go_wp2_with (first|((with_reducible refine gate_dst (N:=4) rfl ?_);refine box_ev (N:=4) (cs:=#[.int .i64 a0_0,.int .i64 a0_1,.slice A0_2 l0_2.length c0_2]) (t:=24) ?_;intro gb215 hg w36 hbox hb;have BK215:=Aside0.mk (hbox);have GW215 : Aside0 (w.heap.size ≤ gb215):=gsz hg;have GE215:=GW215;replace HB:=Aside0.mk (below_step (hb_) hb);clear hb hbox hg)|((with_reducible refine gate_dst (N:=5) rfl ?_);refine box_ev (N:=5) (cs:=#[.slice A1_0 l1_0.length c1_0,.slice A1_1 l1_1.length c1_1]) (t:=26) ?_;intro gb216 hg w37 hbox hb;have BK216:=Aside0.mk (hbox);have GW216 : Aside0 (w.heap.size ≤ gb216):=gsz hg;have GE216:=GW216;have NB215_216:=nbl BK215 hg;have NB216_215:=nbr BK215 hg;replace BK215:=bkb BK215 hb;replace HB:=Aside0.mk (below_step (hb_) hb);clear hb hbox hg;have hnb38:=NB215_216.out;have hnc38:=NB216_215.out;obtain ⟨hcz39_0,hcz39_1,hcz39_2,hfz39_0,hfz39_1,hfz39_2⟩:=cells3 BK215.out;obtain ⟨hcz40_0,hcz40_1,hfz40_0,hfz40_1⟩:=cells2 BK216.out)|((with_reducible refine gate_callee (f:=40) rfl ?_);refine goesL_ (some 16) rfl rfl Try.func40 (by kernel_rfl) rfl #[.agg #[.int .i64 a0_0,.int .i64 a0_1,.slice A0_2 l0_2.length c0_2],.agg #[.slice A1_0 l1_0.length c1_0,.slice A1_1 l1_1.length c1_1],.int .i64 a2] rfl (by (try simp only [List.map_toArray,List.map_cons,List.map_nil]);first|done|rfl|(simp only [List.length_drop,List.length_take];rfl)) ?_;(with_reducible refine (water_at.calls k a0_0 a0_1 _ _ l0_2 _ _ l1_0 _ _ l1_1 a2 t217 t218 t219 t222 t225 t228 _ ?side1 ?side2 ?side3 ?side4 ?side5 ?side6 A5.out).mono ?_);(case side1 => exact Kd.C_up (Kd.C_below HR0_2.out HB.out));(case side2 => exact HC0_2.out);(case side3 => exact Kd.C_up (Kd.C_below HR1_0.out HB.out));(case side4 => exact HC1_0.out);(case side5 => exact Kd.C_up (Kd.C_below HR1_1.out HB.out));(case side6 => exact HC1_1.out);rintro e w41 ⟨v220,v223,v226,rfl,ho0,ho1,ho2,hb⟩;refine ⟨_,rfl,?_⟩;have HO221:=rlo ho0;have HO224:=rlo ho1;have HO227:=rlo ho2;replace BK215:=bkb BK215 hb;replace BK216:=bkb BK216 hb;replace HB:=Aside0.mk (below_step (hb_) hb))|((with_reducible refine gate_dst (N:=10) rfl ?_);refine box_ev (N:=10) (cs:=#[.int .i64 0,.int .i64 0,.slice none 0 0,.slice none 0 0,.slice none 0 0]) (t:=52) ?_;intro gb229 hg w42 hbox hb;have BK229:=Aside0.mk (hbox);have GW229 : Aside0 (w.heap.size ≤ gb229):=gsz hg;have GE229:=GW229;have NB215_229:=nbl BK215 hg;have NB229_215:=nbr BK215 hg;have NB216_229:=nbl BK216 hg;have NB229_216:=nbr BK216 hg;replace HO221:=rbw HO221 hb;replace HO224:=rbw HO224 hb;replace HO227:=rbw HO227 hb;replace BK215:=bkb BK215 hb;replace BK216:=bkb BK216 hb;replace HB:=Aside0.mk (below_step (hb_) hb);clear hb hbox hg;have hnb43:=NB229_215.out;have hnc43:=NB215_229.out;have hnb44:=NB229_216.out;have hnc44:=NB216_229.out;obtain ⟨hcz45_0,hcz45_1,hcz45_2,hcz45_3,hcz45_4,hfz45_0,hfz45_1,hfz45_2,hfz45_3,hfz45_4⟩:=cells5 BK229.out;obtain ⟨Ao46,co46,eo46⟩:=Kd.R_slice HO221.out;subst eo46;obtain ⟨Ao47,co47,eo47⟩:=Kd.R_slice HO224.out;subst eo47;obtain ⟨Ao48,co48,eo48⟩:=Kd.R_slice HO227.out;subst eo48;obtain ⟨hcz49_0,hcz49_1,hfz49_0,hfz49_1⟩:=cells2 BK216.out)|((with_reducible refine gate_callee (f:=41) rfl ?_);refine goesL_ (some 32) rfl rfl Try.func41 (by kernel_rfl) rfl #[.agg #[.int .i64 t217,.int .i64 t218,.slice Ao46 t219.length co46,.slice Ao47 t222.length co47,.slice Ao48 t225.length co48],.agg #[.slice A1_0 l1_0.length c1_0,.slice A1_1 l1_1.length c1_1],.int .i64 a2,.int .i64 a3] rfl (by (try simp only [List.map_toArray,List.map_cons,List.map_nil]);first|done|rfl|(simp only [List.length_drop,List.length_take];rfl)) ?_;(with_reducible refine (water_ground_joined.calls k t217 t218 _ _ t219 _ _ t222 _ _ t225 _ _ l1_0 _ _ l1_1 a2 a3 t230 _ ?side1 ?side2 ?side3 ?side4 ?side5 ?side6 ?side7 ?side8 ?side9 ?side10 A35.out).mono ?_);(case side1 => refine (Kd.R_reads' (e:=3) (base:=w.heap.size) (ok:=fun k_ => some k_ ≠ (.slice Ao47 t222.length co47 : Value).ownBlock) (n:=t219.length) (c:=co46) ?_).2.2;exact (by (with_reducible repeat (first|apply Kd.R_alloc|apply Kd.R_drewN|apply Kd.R_drew));exact (Kd.R_mono (Kd.R_fars gb229 (Kd.R_types HO221.out BK229.out (by decide)) (fun _ hk => hk.2)) (fun _ h_ => h_.1))));(case side2 => exact (Kd.R_reads' HO221.out).2.1);(case side3 => refine (Kd.R_reads' (e:=3) (base:=w.heap.size) (ok:=fun k_ => some k_ ≠ (.slice Ao46 t219.length co46 : Value).ownBlock) (n:=t222.length) (c:=co47) ?_).2.2;exact (by (with_reducible repeat (first|apply Kd.R_alloc|apply Kd.R_drewN|apply Kd.R_drew));exact (Kd.R_mono (Kd.R_fars gb229 (Kd.R_types HO224.out BK229.out (by decide)) (fun _ hk => hk.2)) (fun _ h_ => h_.1))));(case side4 => exact (Kd.R_reads' HO224.out).2.1);(case side5 => refine (Kd.R_reads' (e:=4) (base:=w.heap.size) (ok:=fun k_ => True) (n:=t225.length) (c:=co48) ?_).2.2;exact (by (with_reducible repeat (first|apply Kd.R_alloc|apply Kd.R_drewN|apply Kd.R_drew));exact (Kd.R_mono (Kd.R_fars gb229 (Kd.R_types HO227.out BK229.out (by decide)) (fun _ hk => hk.2)) (fun _ h_ => h_.1))));(case side6 => exact (Kd.R_reads' HO227.out).2.1);(case side7 => exact Kd.C_below HR1_0.out (hb_));(case side8 => exact HC1_0.out);(case side9 => exact Kd.C_below HR1_1.out (hb_));(case side10 => exact HC1_1.out);rintro e w50 ⟨rfl,hb⟩;refine ⟨_,rfl,?_⟩;replace HO221:=Aside0.mk (Kd.R_below (by (with_reducible repeat (first|apply Kd.R_alloc|apply Kd.R_drewN|apply Kd.R_drew));exact (Kd.R_mono (Kd.R_fars gb229 (Kd.R_types HO221.out BK229.out (by decide)) (fun _ hk => hk.2)) (fun _ h_ => h_.1))) hb);replace HO224:=Aside0.mk (Kd.R_below (by (with_reducible repeat (first|apply Kd.R_alloc|apply Kd.R_drewN|apply Kd.R_drew));exact (Kd.R_mono (Kd.R_fars gb229 (Kd.R_types HO224.out BK229.out (by decide)) (fun _ hk => hk.2)) (fun _ h_ => h_.1))) hb);replace HO227:=Aside0.mk (Kd.R_below (by (with_reducible repeat (first|apply Kd.R_alloc|apply Kd.R_drewN|apply Kd.R_drew));exact (Kd.R_mono (Kd.R_fars gb229 (Kd.R_types HO227.out BK229.out (by decide)) (fun _ hk => hk.2)) (fun _ h_ => h_.1))) hb);replace BK215:=Aside0.mk (blk_below (g:=gb215) (o:=.cells #[.int .i64 a0_0,.int .i64 a0_1,.slice A0_2 l0_2.length c0_2] 24 (0,0)) (by (with_reducible repeat (first|refine blk_drewN ?_ _|refine blk_drew ?_|refine blk_alloc ?_ _));refine blk_far ?_ NB215_229.out _;(with_reducible repeat (first|refine blk_drewN ?_ _|refine blk_drew ?_|refine blk_alloc ?_ _));refine blk_far ?_ NB215_229.out _;(with_reducible repeat (first|refine blk_drewN ?_ _|refine blk_drew ?_|refine blk_alloc ?_ _));refine blk_far ?_ NB215_229.out _;(with_reducible repeat (first|refine blk_drewN ?_ _|refine blk_drew ?_|refine blk_alloc ?_ _));refine blk_far ?_ NB215_229.out _;(with_reducible repeat (first|refine blk_drewN ?_ _|refine blk_drew ?_|refine blk_alloc ?_ _));refine blk_far ?_ NB215_229.out _;(with_reducible repeat (first|refine blk_drewN ?_ _|refine blk_drew ?_|refine blk_alloc ?_ _));exact BK215.out) hb);replace BK216:=Aside0.mk (blk_below (g:=gb216) (o:=.cells #[.slice A1_0 l1_0.length c1_0,.slice A1_1 l1_1.length c1_1] 26 (0,0)) (by (with_reducible repeat (first|refine blk_drewN ?_ _|refine blk_drew ?_|refine blk_alloc ?_ _));refine blk_far ?_ NB216_229.out _;(with_reducible repeat (first|refine blk_drewN ?_ _|refine blk_drew ?_|refine blk_alloc ?_ _));refine blk_far ?_ NB216_229.out _;(with_reducible repeat (first|refine blk_drewN ?_ _|refine blk_drew ?_|refine blk_alloc ?_ _));refine blk_far ?_ NB216_229.out _;(with_reducible repeat (first|refine blk_drewN ?_ _|refine blk_drew ?_|refine blk_alloc ?_ _));refine blk_far ?_ NB216_229.out _;(with_reducible repeat (first|refine blk_drewN ?_ _|refine blk_drew ?_|refine blk_alloc ?_ _));refine blk_far ?_ NB216_229.out _;(with_reducible repeat (first|refine blk_drewN ?_ _|refine blk_drew ?_|refine blk_alloc ?_ _));exact BK216.out) hb);replace BK229:=Aside0.mk (blk_below (g:=gb229) (o:=.cells #[.int .i64 t217,.int .i64 t218,.slice Ao46 t219.length co46,.slice Ao47 t222.length co47,.slice Ao48 t225.length co48] 52 (0,0)) (by (with_reducible repeat (first|refine blk_drewN ?_ _|refine blk_drew ?_|refine blk_alloc ?_ _));exact blk_puts5 (blk_up BK229.out)) hb);replace HB:=Aside0.mk (below_step (hb_) hb)))
   go_ret2
   exact ⟨by first|rfl|(simp [errW_none,errW_some] <;> rfl)|(simp [*,errW_none,errW_some] <;> rfl),hb_⟩

end Go.Proofs.Ytiencnnkphipoaa.P

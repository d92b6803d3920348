/- Functions of this seat as plain Lean functions, with proofs that the Go code comes to just their answers, or what stands between them and a law's statement; no conditions. (Laid by a program of this session, out of the kit's print.) -/
import Derived.Test.YthjmdpekcleihaaPx0
import Derived.Test.YthjmdpekcleihaaPx2
import Derived.Test.YthjmdpekcleihaaPx4
import Derived.Test.YthjmdpekcleihaaPx6
import Derived.Test.YthjmdpekcleihaaPx7
namespace Go.Proofs.Ythjmdpekcleihaa.P
open Go.RowKit Go.Proofs.YthjmdpekcleihaaW.PrintWords Go.Proofs.YthjmdpekcleihaaW.PrintLast Go.Proofs.YthjmdpekcleihaaW.PrintMore
attribute [local go_sem] max2_int min2_int max_two min_two max_three min_three max_four min_four   -- for this text's walks alone
set_option linter.unusedVariables false
set_option linter.unusedSimpArgs false

/-! ### lane_moves: function 42 -/
def lane_moves.f (a0 : Int) (a1 : Int) (a2 : Int) (a3 : Int) (a4 : Int) : Option (Bool) := if a0 = (-1) then (if a1 = (-1) then (if a2 = 0 then (if a3 = 0 then (some (a4 == 0)) else (some false)) else (some false)) else (some false)) else (if a1 ≥ (-1) then (if a1 ≤ 3 then ((lane_within.f a2 3).bind fun t334 => (if t334 = true then ((lane_within.f a3 192).bind fun t335 => (if t335 = true then ((lane_within.f a4 191).bind fun t336 => (some t336)) else (some false))) else (some false))) else (some false)) else (some false))
set_option maxHeartbeats 8000000 in
set_option maxRecDepth 100000 in
theorem lane_moves.calls (a0 : Int) (a1 : Int) (a2 : Int) (a3 : Int) (a4 : Int) (r : Bool) (w : World) (h : lane_moves.f a0 a1 a2 a3 a4 = some r) :
  Calls Try.prog 42 #[.int .i64 a0,.int .i64 a1,.int .i64 a2,.int .i64 a3,.int .i64 a4] w fun e w' => e = .returned (.bool r) ∧ Drawn0 w w':=by
 have H : (if a0 = (-1) then (if a1 = (-1) then (if a2 = 0 then (if a3 = 0 then (some (a4 == 0)) else (some false)) else (some false)) else (some false)) else (if a1 ≥ (-1) then (if a1 ≤ 3 then ((lane_within.f a2 3).bind fun t334 => (if t334 = true then ((lane_within.f a3 192).bind fun t335 => (if t335 = true then ((lane_within.f a4 191).bind fun t336 => (some t336)) else (some false))) else (some false))) else (some false)) else (some false))) = some r:=h
 clear h
 by_cases c6 : a0 = (-1)
 ·rw [if_pos c6] at H
  have c6b0:=bqt c6
  have c6b1:=bnf c6
  clear c6
  by_cases c7 : a1 = (-1)
  rotate_left
  ·rw [if_neg c7] at H
   have c7b0:=bqf c7
   have c7b1:=bnt c7
   obtain rfl:=Option.some.inj H
   go_enter Try.func42,Try.ntmps42
   go_wp2
   go_ret
   exact ⟨by first|rfl|(simp;done)|(simp [*];done),by repeat (first|exact Drawn0.refl _|apply Drawn0.step)⟩
  rw [if_pos c7] at H
  have c7b0:=bqt c7
  have c7b1:=bnf c7
  clear c7
  by_cases c8 : a2 = 0
  ·rw [if_pos c8] at H
   have c8b0:=bqt c8
   have c8b1:=bnf c8
   clear c8
   by_cases c9 : a3 = 0
   ·rw [if_pos c9] at H
    have c9b0:=bqt c9
    have c9b1:=bnf c9
    clear c9
    obtain rfl:=Option.some.inj H
    go_enter Try.func42,Try.ntmps42
    go_wp2
    go_ret
    exact ⟨by first|rfl|(simp;done)|(simp [*];done),by repeat (first|exact Drawn0.refl _|apply Drawn0.step)⟩
   ·rw [if_neg c9] at H
    have c9b0:=bqf c9
    have c9b1:=bnt c9
    obtain rfl:=Option.some.inj H
    go_enter Try.func42,Try.ntmps42
    go_wp2
    go_ret
    exact ⟨by first|rfl|(simp;done)|(simp [*];done),by repeat (first|exact Drawn0.refl _|apply Drawn0.step)⟩
  ·rw [if_neg c8] at H
   have c8b0:=bqf c8
   have c8b1:=bnt c8
   obtain rfl:=Option.some.inj H
   go_enter Try.func42,Try.ntmps42
   go_wp2
   go_ret
   exact ⟨by first|rfl|(simp;done)|(simp [*];done),by repeat (first|exact Drawn0.refl _|apply Drawn0.step)⟩
 rw [if_neg c6] at H
 have c6b0:=bqf c6
 have c6b1:=bnt c6
 by_cases c10 : a1 ≥ (-1)
 rotate_left
 ·rw [if_neg c10] at H
  have c10b0 : decide ((-1) ≤ a1) = false:=decide_eq_false c10
  clear c10
  obtain rfl:=Option.some.inj H
  go_enter Try.func42,Try.ntmps42
  go_wp2
  go_ret
  exact ⟨by first|rfl|(simp;done)|(simp [*];done),by repeat (first|exact Drawn0.refl _|apply Drawn0.step)⟩
 rw [if_pos c10] at H
 have c10b0 : decide ((-1) ≤ a1) = true:=decide_eq_true c10
 clear c10
 by_cases c11 : a1 ≤ 3
 rotate_left
 ·rw [if_neg c11] at H
  have c11b0 : decide (a1 ≤ 3) = false:=decide_eq_false c11
  clear c11
  obtain rfl:=Option.some.inj H
  go_enter Try.func42,Try.ntmps42
  go_wp2
  go_ret
  exact ⟨by first|rfl|(simp;done)|(simp [*];done),by repeat (first|exact Drawn0.refl _|apply Drawn0.step)⟩
 rw [if_pos c11] at H
 have c11b0 : decide (a1 ≤ 3) = true:=decide_eq_true c11
 clear c11
 replace H:=Option.bind_eq_some_iff.mp H
 obtain ⟨t334,A120,H⟩:=H
 replace H : (if t334 = true then ((lane_within.f a3 192).bind fun t335 => (if t335 = true then ((lane_within.f a4 191).bind fun t336 => (some t336)) else (some false))) else (some false)) = some r:=H
 have A12:=Aside0.mk A120
 clear A120
 by_cases c13 : t334 = true
 ·subst c13
  have H1 : ((lane_within.f a3 192).bind fun t335 => (if t335 = true then ((lane_within.f a4 191).bind fun t336 => (some t336)) else (some false))) = some r:=by rw [if_pos rfl] at H;exact H
  clear H
  have H:=H1
  clear H1
  replace H:=Option.bind_eq_some_iff.mp H
  obtain ⟨t335,A140,H⟩:=H
  replace H : (if t335 = true then ((lane_within.f a4 191).bind fun t336 => (some t336)) else (some false)) = some r:=H
  have A14:=Aside0.mk A140
  clear A140
  by_cases c15 : t335 = true
  ·subst c15
   have H1 : ((lane_within.f a4 191).bind fun t336 => (some t336)) = some r:=by rw [if_pos rfl] at H;exact H
   clear H
   have H:=H1
   clear H1
   replace H:=Option.bind_eq_some_iff.mp H
   obtain ⟨t336,A160,H⟩:=H
   replace H : (some t336) = some r:=H
   have A16:=Aside0.mk A160
   clear A160
   obtain rfl:=Option.some.inj H
   go_enter Try.func42,Try.ntmps42
   go_wp2_with (first|(go_at_call 37;(with_reducible refine (lane_within.calls a2 3 true _ A12.out).mono ?_);rintro e w' ⟨rfl,⟨nd,rfl⟩⟩)|(go_at_call 37;(with_reducible refine (lane_within.calls a3 192 true _ A14.out).mono ?_);rintro e w' ⟨rfl,⟨nd,rfl⟩⟩)|(go_at_call 37;(with_reducible refine (lane_within.calls a4 191 t336 _ A16.out).mono ?_);rintro e w' ⟨rfl,⟨nd,rfl⟩⟩))
   go_ret
   exact ⟨by first|rfl|(simp;done)|(simp [*];done),by repeat (first|exact Drawn0.refl _|apply Drawn0.step)⟩
  ·replace c15:=Bool.eq_false_iff.mpr c15
   subst c15
   have H1 : (some false) = some r:=by rw [if_neg (show ¬ (false = true) by decide)] at H;exact H
   clear H
   have H:=H1
   clear H1
   obtain rfl:=Option.some.inj H
   go_enter Try.func42,Try.ntmps42
   go_wp2_with (first|(go_at_call 37;(with_reducible refine (lane_within.calls a2 3 true _ A12.out).mono ?_);rintro e w' ⟨rfl,⟨nd,rfl⟩⟩)|(go_at_call 37;(with_reducible refine (lane_within.calls a3 192 false _ A14.out).mono ?_);rintro e w' ⟨rfl,⟨nd,rfl⟩⟩))
   go_ret
   exact ⟨by first|rfl|(simp;done)|(simp [*];done),by repeat (first|exact Drawn0.refl _|apply Drawn0.step)⟩
 ·replace c13:=Bool.eq_false_iff.mpr c13
  subst c13
  have H1 : (some false) = some r:=by rw [if_neg (show ¬ (false = true) by decide)] at H;exact H
  clear H
  have H:=H1
  clear H1
  obtain rfl:=Option.some.inj H
  go_enter Try.func42,Try.ntmps42
  go_wp2_with (first|(go_at_call 37;(with_reducible refine (lane_within.calls a2 3 false _ A12.out).mono ?_);rintro e w' ⟨rfl,⟨nd,rfl⟩⟩))
  go_ret
  exact ⟨by first|rfl|(simp;done)|(simp [*];done),by repeat (first|exact Drawn0.refl _|apply Drawn0.step)⟩

/-! ### lane_Sail: function 33 -/
def lane_Sail.j0 : Nat → List Int → Bool → Int → Int → List Int → Int → Int → Int → Int → Int → Option (Int × Int × Int × Int × Int × Int × Int)
 | 0,_,_,_,_,_,_,_,_,_,_ => none
 | k + 1,x13,x77,x338000,x338001,x338002,x340000,x340001,x340002,x340003,x340004 => if x77 = true then (some (x340000,x340001,x340002,0,191,2,0)) else (if 0 < (x13.length : Int) then (if 1 < (x13.length : Int) then ((lane_side.f k x338000 x338001 x338002 (rd x13 0) (rd x13 1)).bind fun t355 => (if (x13.length : Int) > 2 then (if 2 < (x13.length : Int) then ((lane_side.f k x338000 x338001 x338002 (rd x13 1) (rd x13 2)).bind fun t359 => (some (rd x13 1,Int.tmod (wrap64 (t355 + 2)) 4,t359,x340003,wrap64 (x340004 - 192),0,0))) else (none)) else (some (rd x13 1,Int.tmod (wrap64 (t355 + 2)) 4,t355,x340003,0,3,0)))) else (none)) else (none))
def lane_Sail.f (k : Nat) (a0_0 : Int) (a0_1 : Int) (l0_2 : List Int) (l1_0 : List Int) (l1_1 : List Int) (a2_0 : Int) (a2_1 : Int) (a2_2 : Int) (a2_3 : Int) (a2_4 : Int) (a3 : Int) : Option (Int × Int × Int × Int × Int × Int × Int) := (land_Validate.f k a0_0 a0_1 l0_2).bind fun t341 => ((water_Validate.f k a0_0 a0_1 l0_2 l1_0 l1_1).bind fun t342 => ((api_Errno.f k (([t341, t342] : List Int))).bind fun t346 => (if t346 = 0 then ((lane_moves.f a2_0 a2_1 a2_2 a2_3 a2_4).bind fun t347 => (if t347 = true then (if a2_0 = (-1) then (some (a2_0, a2_1, a2_2, a2_3, a2_4, 0, 0)) else ((lane_wet.f k a0_0 a0_1 l0_2 l1_0 l1_1 a2_0).bind fun t348 => (if t348 = 0 then (if (wrap64 (a2_4 + a2_3)) < 192 then (some (a2_0, a2_1, a2_2, a2_3, wrap64 (a2_4 + a2_3), 0, 0)) else ((water_Sail.f k a0_0 a0_1 l0_2 l1_0 l1_1 a2_0 a3).bind fun bt349 => (if bt349.2 = 0 then (lane_Sail.j0 k bt349.1 (decide ((bt349.1.length : Int) < 2)) a0_0 a0_1 l0_2 a2_0 a2_1 a2_2 a2_3 (wrap64 (a2_4 + a2_3))) else (lane_Sail.j0 k bt349.1 true a0_0 a0_1 l0_2 a2_0 a2_1 a2_2 a2_3 (wrap64 (a2_4 + a2_3)))))) else (some (0, 0, 0, 0, 0, 0, t348))))) else (some (0, 0, 0, 0, 0, 0, 1)))) else (some (0, 0, 0, 0, 0, 0, t346)))))
theorem lane_Sail.mono_l : ∀ k, (∀ y0 y1 y2 y3 y4 y5 y6 y7 y8 y9, LeO (lane_Sail.j0 k y0 y1 y2 y3 y4 y5 y6 y7 y8 y9) (lane_Sail.j0 (k + 1) y0 y1 y2 y3 y4 y5 y6 y7 y8 y9))
 | 0 => fun _ _ _ _ _ _ _ _ _ _ r h => by simp [lane_Sail.j0] at h
 | k + 1 => by
  have ih0:=lane_Sail.mono_l k
  ·intro y0 y1 y2 y3 y4 y5 y6 y7 y8 y9
   unfold lane_Sail.j0
   repeat' first
   | (with_reducible exact ih0 _ _ _ _ _ _ _ _ _ _)
   | (with_reducible exact api_Errno.mono _ _)
   | (with_reducible exact land_Validate.mono _ _ _ _)
   | (with_reducible exact lane_side.mono _ _ _ _ _ _)
   | (with_reducible exact lane_wet.mono _ _ _ _ _ _ _)
   | (with_reducible exact water_Sail.mono _ _ _ _ _ _ _ _)
   | (with_reducible exact water_Validate.mono _ _ _ _ _ _)
   | (with_reducible exact LeO.refl _)
   | (with_reducible exact LeO.none _)
   | (with_reducible refine LeO.ite ?_ ?_)
   | (with_reducible refine LeO.bind ?_ (fun _ => ?_))
   | exact ih0 _ _ _ _ _ _ _ _ _ _
   | exact api_Errno.mono _ _
   | exact land_Validate.mono _ _ _ _
   | exact lane_side.mono _ _ _ _ _ _
   | exact lane_wet.mono _ _ _ _ _ _ _
   | exact water_Sail.mono _ _ _ _ _ _ _ _
   | exact water_Validate.mono _ _ _ _ _ _
   | exact LeO.none _
   | refine LeO.ite ?_ ?_
   | refine LeO.bind ?_ (fun _ => ?_)
theorem lane_Sail.mono : ∀ a0 a1 a2 a3 a4 a5 a6 a7 a8 a9 a10 k, LeO (lane_Sail.f k a0 a1 a2 a3 a4 a5 a6 a7 a8 a9 a10) (lane_Sail.f (k + 1) a0 a1 a2 a3 a4 a5 a6 a7 a8 a9 a10) := by
 intro a0 a1 a2 a3 a4 a5 a6 a7 a8 a9 a10 k
 have ih0:=lane_Sail.mono_l k
 unfold lane_Sail.f
 repeat' first
   | (with_reducible exact ih0 _ _ _ _ _ _ _ _ _ _)
   | (with_reducible exact api_Errno.mono _ _)
   | (with_reducible exact land_Validate.mono _ _ _ _)
   | (with_reducible exact lane_side.mono _ _ _ _ _ _)
   | (with_reducible exact lane_wet.mono _ _ _ _ _ _ _)
   | (with_reducible exact water_Sail.mono _ _ _ _ _ _ _ _)
   | (with_reducible exact water_Validate.mono _ _ _ _ _ _)
   | (with_reducible exact LeO.refl _)
   | (with_reducible exact LeO.none _)
   | (with_reducible refine LeO.ite ?_ ?_)
   | (with_reducible refine LeO.bind ?_ (fun _ => ?_))
   | exact ih0 _ _ _ _ _ _ _ _ _ _
   | exact api_Errno.mono _ _
   | exact land_Validate.mono _ _ _ _
   | exact lane_side.mono _ _ _ _ _ _
   | exact lane_wet.mono _ _ _ _ _ _ _
   | exact water_Sail.mono _ _ _ _ _ _ _ _
   | exact water_Validate.mono _ _ _ _ _ _
   | exact LeO.none _
   | refine LeO.ite ?_ ?_
   | refine LeO.bind ?_ (fun _ => ?_)
def lane_Sail.T1 : Bool × List (List Nat × List Nat) := (true, [([], []), ([0], [0]), ([], []), ([], []), ([2, 3, 1], [2, 3]), ([1, 4], [1, 4]), ([5, 4], [5]), ([6, 6, 0, 1, 2, 3, 4, 5, 6], [6])])
def lane_Sail.B1 : List Nat := [0, 1, 0, 0, 15, 31, 63, 127]
theorem lane_Sail.tab1 : rtab .any (opsOf Try.f33 1) = lane_Sail.T1 := by kernel_rfl
theorem lane_Sail.bits1 : waitsOk lane_Sail.T1.2 lane_Sail.B1 = true := by kernel_rfl
def lane_Sail.T18 : Bool × List (List Nat × List Nat) := (true, [([], []), ([], []), ([1], [1]), ([2], [2]), ([], []), ([4], [4]), ([5], [5]), ([0, 3, 6], [0, 3, 6]), ([0, 1, 2, 3, 4, 5, 6, 7], []), ([8, 7, 7, 0, 1, 2, 3, 4, 5, 6, 7], [7, 8])])
def lane_Sail.B18 : List Nat := [0, 0, 2, 6, 0, 16, 48, 127, 255, 511]
theorem lane_Sail.tab18 : rtab .any (opsOf Try.f33 18) = lane_Sail.T18 := by kernel_rfl
theorem lane_Sail.bits18 : waitsOk lane_Sail.T18.2 lane_Sail.B18 = true := by kernel_rfl
def lane_Sail.T20 : Bool × List (List Nat × List Nat) := (true, [([], []), ([0], [0]), ([1], [1]), ([], []), ([3], [3]), ([4], [4]), ([0, 1, 2, 3, 4], []), ([6, 2, 0, 1, 2, 3, 4], [2, 6]), ([0, 1, 2, 3, 4, 5, 6, 7], []), ([8, 5, 7, 0, 1, 2, 3, 4, 5, 6, 7], [5, 8])])
def lane_Sail.B20 : List Nat := [0, 1, 3, 0, 8, 24, 31, 95, 255, 511]
theorem lane_Sail.tab20 : rtab .any (opsOf Try.f33 20) = lane_Sail.T20 := by kernel_rfl
theorem lane_Sail.bits20 : waitsOk lane_Sail.T20.2 lane_Sail.B20 = true := by kernel_rfl
def lane_Sail.T22 : Bool × List (List Nat × List Nat) := (true, [([], []), ([], []), ([1], [1]), ([2], [2]), ([], []), ([4], [4]), ([5], [5]), ([0, 3, 6], [0, 3, 6]), ([0, 1, 2, 3, 4, 5, 6, 7], []), ([8, 7, 7, 0, 1, 2, 3, 4, 5, 6, 7], [7, 8])])
def lane_Sail.B22 : List Nat := [0, 0, 2, 6, 0, 16, 48, 127, 255, 511]
theorem lane_Sail.tab22 : rtab .any (opsOf Try.f33 22) = lane_Sail.T22 := by kernel_rfl
theorem lane_Sail.bits22 : waitsOk lane_Sail.T22.2 lane_Sail.B22 = true := by kernel_rfl
set_option maxHeartbeats 8000000 in
set_option maxRecDepth 100000 in
theorem lane_Sail.calls (k : Nat) (a0_0 : Int) (a0_1 : Int) (A0_2 : Option Addr) (c0_2 : Nat) (l0_2 : List Int) (A1_0 : Option Addr) (c1_0 : Nat) (l1_0 : List Int) (A1_1 : Option Addr) (c1_1 : Nat) (l1_1 : List Int) (a2_0 : Int) (a2_1 : Int) (a2_2 : Int) (a2_3 : Int) (a2_4 : Int) (a3 : Int) (r1 : Int) (r2 : Int) (r3 : Int) (r4 : Int) (r5 : Int) (r6 : Int) (r7 : Int) (w : World) (hr0_2 : Kd.C (Kd.int .i64) w A0_2 l0_2.length l0_2) (hc0_2 : l0_2.length ≤ c0_2) (hr1_0 : Kd.C (Kd.int .i64) w A1_0 l1_0.length l1_0) (hc1_0 : l1_0.length ≤ c1_0) (hr1_1 : Kd.C (Kd.int .i64) w A1_1 l1_1.length l1_1) (hc1_1 : l1_1.length ≤ c1_1) (h : lane_Sail.f k a0_0 a0_1 l0_2 l1_0 l1_1 a2_0 a2_1 a2_2 a2_3 a2_4 a3 = some (r1, r2, r3, r4, r5, r6, r7)) :
  Calls Try.prog 33 #[.agg #[.int .i64 a0_0,.int .i64 a0_1,.slice A0_2 l0_2.length c0_2],.agg #[.slice A1_0 l1_0.length c1_0,.slice A1_1 l1_1.length c1_1],.agg #[.int .i64 a2_0,.int .i64 a2_1,.int .i64 a2_2,.int .i64 a2_3,.int .i64 a2_4],.int .i64 a3] w fun e w' => e = .returned (.tuple #[.agg #[.int .i64 r1,.int .i64 r2,.int .i64 r3,.int .i64 r4,.int .i64 r5],.int .i64 r6,.int .i64 r7]) ∧ Below w.heap.size w w':=by
 have hu53:=Try.underlying53
 have hu55:=Try.underlying55
 have hu57:=Try.underlying57
 have HR0_2:=Aside0.mk hr0_2
 have HC0_2:=Aside0.mk hc0_2
 clear hr0_2 hc0_2
 have HR1_0:=Aside0.mk hr1_0
 have HC1_0:=Aside0.mk hc1_0
 clear hr1_0 hc1_0
 have HR1_1:=Aside0.mk hr1_1
 have HC1_1:=Aside0.mk hc1_1
 clear hr1_1 hc1_1
 have HB:=Aside0.mk (Below.refl w.heap.size w)
 have H : ((land_Validate.f k a0_0 a0_1 l0_2).bind fun t341 => ((water_Validate.f k a0_0 a0_1 l0_2 l1_0 l1_1).bind fun t342 => ((api_Errno.f k (([t341,t342] : List Int))).bind fun t346 => (if t346 = 0 then ((lane_moves.f a2_0 a2_1 a2_2 a2_3 a2_4).bind fun t347 => (if t347 = true then (if a2_0 = (-1) then (some (a2_0,a2_1,a2_2,a2_3,a2_4,0,0)) else ((lane_wet.f k a0_0 a0_1 l0_2 l1_0 l1_1 a2_0).bind fun t348 => (if t348 = 0 then (if (wrap64 (a2_4 + a2_3)) < 192 then (some (a2_0,a2_1,a2_2,a2_3,wrap64 (a2_4 + a2_3),0,0)) else ((water_Sail.f k a0_0 a0_1 l0_2 l1_0 l1_1 a2_0 a3).bind fun bt349 => (if bt349.2 = 0 then (lane_Sail.j0 k bt349.1 (decide ((bt349.1.length : Int) < 2)) a0_0 a0_1 l0_2 a2_0 a2_1 a2_2 a2_3 (wrap64 (a2_4 + a2_3))) else (lane_Sail.j0 k bt349.1 true a0_0 a0_1 l0_2 a2_0 a2_1 a2_2 a2_3 (wrap64 (a2_4 + a2_3)))))) else (some (0,0,0,0,0,0,t348))))) else (some (0,0,0,0,0,0,1)))) else (some (0,0,0,0,0,0,t346)))))) = some (r1,r2,r3,r4,r5,r6,r7):=h
 clear h
 replace H:=Option.bind_eq_some_iff.mp H
 obtain ⟨t341,A50,H⟩:=H
 replace H : ((water_Validate.f k a0_0 a0_1 l0_2 l1_0 l1_1).bind fun t342 => ((api_Errno.f k (([t341,t342] : List Int))).bind fun t346 => (if t346 = 0 then ((lane_moves.f a2_0 a2_1 a2_2 a2_3 a2_4).bind fun t347 => (if t347 = true then (if a2_0 = (-1) then (some (a2_0,a2_1,a2_2,a2_3,a2_4,0,0)) else ((lane_wet.f k a0_0 a0_1 l0_2 l1_0 l1_1 a2_0).bind fun t348 => (if t348 = 0 then (if (wrap64 (a2_4 + a2_3)) < 192 then (some (a2_0,a2_1,a2_2,a2_3,wrap64 (a2_4 + a2_3),0,0)) else ((water_Sail.f k a0_0 a0_1 l0_2 l1_0 l1_1 a2_0 a3).bind fun bt349 => (if bt349.2 = 0 then (lane_Sail.j0 k bt349.1 (decide ((bt349.1.length : Int) < 2)) a0_0 a0_1 l0_2 a2_0 a2_1 a2_2 a2_3 (wrap64 (a2_4 + a2_3))) else (lane_Sail.j0 k bt349.1 true a0_0 a0_1 l0_2 a2_0 a2_1 a2_2 a2_3 (wrap64 (a2_4 + a2_3)))))) else (some (0,0,0,0,0,0,t348))))) else (some (0,0,0,0,0,0,1)))) else (some (0,0,0,0,0,0,t346))))) = some (r1,r2,r3,r4,r5,r6,r7):=H
 have A5:=Aside0.mk A50
 clear A50
 replace H:=Option.bind_eq_some_iff.mp H
 obtain ⟨t342,A60,H⟩:=H
 replace H : ((api_Errno.f k (([t341,t342] : List Int))).bind fun t346 => (if t346 = 0 then ((lane_moves.f a2_0 a2_1 a2_2 a2_3 a2_4).bind fun t347 => (if t347 = true then (if a2_0 = (-1) then (some (a2_0,a2_1,a2_2,a2_3,a2_4,0,0)) else ((lane_wet.f k a0_0 a0_1 l0_2 l1_0 l1_1 a2_0).bind fun t348 => (if t348 = 0 then (if (wrap64 (a2_4 + a2_3)) < 192 then (some (a2_0,a2_1,a2_2,a2_3,wrap64 (a2_4 + a2_3),0,0)) else ((water_Sail.f k a0_0 a0_1 l0_2 l1_0 l1_1 a2_0 a3).bind fun bt349 => (if bt349.2 = 0 then (lane_Sail.j0 k bt349.1 (decide ((bt349.1.length : Int) < 2)) a0_0 a0_1 l0_2 a2_0 a2_1 a2_2 a2_3 (wrap64 (a2_4 + a2_3))) else (lane_Sail.j0 k bt349.1 true a0_0 a0_1 l0_2 a2_0 a2_1 a2_2 a2_3 (wrap64 (a2_4 + a2_3)))))) else (some (0,0,0,0,0,0,t348))))) else (some (0,0,0,0,0,0,1)))) else (some (0,0,0,0,0,0,t346)))) = some (r1,r2,r3,r4,r5,r6,r7):=H
 have A6:=Aside0.mk A60
 clear A60
 obtain ⟨y343,hy343⟩ : ∃ y_ : List Int,y_ = (([t341,t342] : List Int)):=⟨_,rfl⟩
 replace H : ((api_Errno.f k y343).bind fun t346 => (if t346 = 0 then ((lane_moves.f a2_0 a2_1 a2_2 a2_3 a2_4).bind fun t347 => (if t347 = true then (if a2_0 = (-1) then (some (a2_0,a2_1,a2_2,a2_3,a2_4,0,0)) else ((lane_wet.f k a0_0 a0_1 l0_2 l1_0 l1_1 a2_0).bind fun t348 => (if t348 = 0 then (if (wrap64 (a2_4 + a2_3)) < 192 then (some (a2_0,a2_1,a2_2,a2_3,wrap64 (a2_4 + a2_3),0,0)) else ((water_Sail.f k a0_0 a0_1 l0_2 l1_0 l1_1 a2_0 a3).bind fun bt349 => (if bt349.2 = 0 then (lane_Sail.j0 k bt349.1 (decide ((bt349.1.length : Int) < 2)) a0_0 a0_1 l0_2 a2_0 a2_1 a2_2 a2_3 (wrap64 (a2_4 + a2_3))) else (lane_Sail.j0 k bt349.1 true a0_0 a0_1 l0_2 a2_0 a2_1 a2_2 a2_3 (wrap64 (a2_4 + a2_3)))))) else (some (0,0,0,0,0,0,t348))))) else (some (0,0,0,0,0,0,1)))) else (some (0,0,0,0,0,0,t346)))) = some (r1,r2,r3,r4,r5,r6,r7):=by first|(rw [hy343];with_reducible exact H)|(have H2_:=(Option.bind_some _ _).symm.trans H;rw [hy343];with_reducible exact H2_)|(have H2_:=(Option.bind_some _ _).symm.trans H;with_reducible exact H2_)|with_reducible exact H|(rw [hy343];exact H)|exact H
 have Ny343:=Aside0.mk hy343
 clear hy343
 replace H:=Option.bind_eq_some_iff.mp H
 obtain ⟨t346,A70,H⟩:=H
 replace H : (if t346 = 0 then ((lane_moves.f a2_0 a2_1 a2_2 a2_3 a2_4).bind fun t347 => (if t347 = true then (if a2_0 = (-1) then (some (a2_0,a2_1,a2_2,a2_3,a2_4,0,0)) else ((lane_wet.f k a0_0 a0_1 l0_2 l1_0 l1_1 a2_0).bind fun t348 => (if t348 = 0 then (if (wrap64 (a2_4 + a2_3)) < 192 then (some (a2_0,a2_1,a2_2,a2_3,wrap64 (a2_4 + a2_3),0,0)) else ((water_Sail.f k a0_0 a0_1 l0_2 l1_0 l1_1 a2_0 a3).bind fun bt349 => (if bt349.2 = 0 then (lane_Sail.j0 k bt349.1 (decide ((bt349.1.length : Int) < 2)) a0_0 a0_1 l0_2 a2_0 a2_1 a2_2 a2_3 (wrap64 (a2_4 + a2_3))) else (lane_Sail.j0 k bt349.1 true a0_0 a0_1 l0_2 a2_0 a2_1 a2_2 a2_3 (wrap64 (a2_4 + a2_3)))))) else (some (0,0,0,0,0,0,t348))))) else (some (0,0,0,0,0,0,1)))) else (some (0,0,0,0,0,0,t346))) = some (r1,r2,r3,r4,r5,r6,r7):=H
 have A7:=Aside0.mk A70
 clear A70
 by_cases c8 : t346 = 0
 rotate_left
 ·rw [if_neg c8] at H
  have c8b0:=bqf c8
  have c8b1:=bnt c8
  simp only [Option.some.injEq,Prod.mk.injEq] at H
  obtain ⟨rfl,rfl,rfl,rfl,rfl,rfl,rfl⟩:=H
  go_enter Try.func33,Try.ntmps33
  try go_wp2_with (first|((with_reducible refine gate_dst (N:=4) rfl ?_);(try (refine gate_guard (by rfl) ?_;dsimp only));refine box_ev (N:=4) (cs:=#[.int .i64 a0_0,.int .i64 a0_1,.slice A0_2 l0_2.length c0_2]) (t:=53) ?_;intro gb337 hg w170 hbox hb;have BK337:=Aside0.mk (hbox);have GW337 : Aside0 (w.heap.size ≤ gb337):=gsz hg;have GE337:=GW337;replace HB:=hbs hb;clear hb hbox hg)|((with_reducible refine gate_dst (N:=5) rfl ?_);(try (refine gate_guard (by rfl) ?_;dsimp only));refine box_ev (N:=5) (cs:=#[.slice A1_0 l1_0.length c1_0,.slice A1_1 l1_1.length c1_1]) (t:=55) ?_;intro gb338 hg w171 hbox hb;have BK338:=Aside0.mk (hbox);have GW338 : Aside0 (w.heap.size ≤ gb338):=gsz hg;have GE338:=GW338;have NB337_338:=nbl BK337 hg;have NB338_337:=nbr BK337 hg;replace BK337:=bkb BK337 hb;replace HB:=hbs hb;clear hb hbox hg)|((with_reducible refine gate_dst (N:=6) rfl ?_);(try (refine gate_guard (by rfl) ?_;dsimp only));refine box_ev (N:=6) (cs:=#[.int .i64 a2_0,.int .i64 a2_1,.int .i64 a2_2,.int .i64 a2_3,.int .i64 a2_4]) (t:=57) ?_;intro gb339 hg w172 hbox hb;have BK339:=Aside0.mk (hbox);have GW339 : Aside0 (w.heap.size ≤ gb339):=gsz hg;have GE339:=GW339;have NB337_339:=nbl BK337 hg;have NB339_337:=nbr BK337 hg;have NB338_339:=nbl BK338 hg;have NB339_338:=nbr BK338 hg;replace BK337:=bkb BK337 hb;replace BK338:=bkb BK338 hb;replace HB:=hbs hb;clear hb hbox hg)|((with_reducible refine gate_dst (N:=8) rfl ?_);(try (refine gate_guard (by rfl) ?_;dsimp only));refine box_ev (N:=8) (cs:=#[.int .i64 0,.int .i64 0,.int .i64 0,.int .i64 0,.int .i64 0]) (t:=57) ?_;intro gb340 hg w173 hbox hb;have BK340:=Aside0.mk (hbox);have GW340 : Aside0 (w.heap.size ≤ gb340):=gsz hg;have GE340:=GW340;have NB337_340:=nbl BK337 hg;have NB340_337:=nbr BK337 hg;have NB338_340:=nbl BK338 hg;have NB340_338:=nbr BK338 hg;have NB339_340:=nbl BK339 hg;have NB340_339:=nbr BK339 hg;replace BK337:=bkb BK337 hb;replace BK338:=bkb BK338 hb;replace BK339:=bkb BK339 hb;replace HB:=hbs hb;clear hb hbox hg))
  replace BK337:=Aside0.mk (blk_drew BK337.out)
  replace BK338:=Aside0.mk (blk_drew BK338.out)
  replace BK339:=Aside0.mk (blk_drew BK339.out)
  replace BK340:=Aside0.mk (blk_drew BK340.out)
  replace HB:=Aside0.mk (below_drew1 HB.out)
  refine start_ (n:=8) (S:=fun w' => w'.cell? ⟨gb337,0,none⟩ = some (.int .i64 a0_0) ∧ w'.cell? ⟨gb337,1,none⟩ = some (.int .i64 a0_1) ∧ w'.cell? ⟨gb337,2,none⟩ = some (.slice A0_2 l0_2.length c0_2) ∧ w'.cell? ⟨gb338,0,none⟩ = some (.slice A1_0 l1_0.length c1_0) ∧ w'.cell? ⟨gb338,1,none⟩ = some (.slice A1_1 l1_1.length c1_1)) (ds:=[]) #[false,false,false,false,false,false,false,false] (by kernel_rfl) rfl rfl ⟨(blk_cell BK337.out 0).trans rfl,(blk_cell BK337.out 1).trans rfl,(blk_cell BK337.out 2).trans rfl,(blk_cell BK338.out 0).trans rfl,(blk_cell BK338.out 1).trans rfl⟩ (fun hHeld => ?_);refine with_tabW lane_Sail.tab1 lane_Sail.bits1 (fun HT_ HW_ => ?_)
  generalize w173.drew = w174 at BK337 BK338 BK339 BK340 HB hHeld ⊢
  refine tI5 0 (some 15) hHeld ?_
  refine tI5 2 (some 17) hHeld ?_
  refine tI5 3 (some 18) hHeld ?_
  refine oI 1 (some 16) (fun K hK => ?_)
  refine goes_ Try.func55 (by kernel_rfl) rfl #[.agg #[.int .i64 a0_0,.int .i64 a0_1,.slice A0_2 l0_2.length c0_2]] (by rfl) rfl rfl ga_ ?_
  with_reducible refine (land_Validate.calls k a0_0 a0_1 _ _ l0_2 t341 _ ?side1 ?side2 A5.out).mono ?_
  (case side1 => exact cq HR0_2)
  (case side2 => exact HC0_2.out)
  rintro e w175 ⟨rfl,hb⟩
  refine ⟨_,rfl,?_⟩
  have n0_:=bkb BK337 hb
  have n1_:=bkb BK338 hb
  have n2_:=bkb BK339 hb
  have n3_:=bkb BK340 hb
  have n4_:=Aside0.mk (below_step (hb_) hb)
  clear BK337
  clear BK338
  clear BK339
  clear BK340
  clear HB
  have BK337:=n0_
  have BK338:=n1_
  have BK339:=n2_
  have BK340:=n3_
  have HB:=n4_
  clear n0_ n1_ n2_ n3_ n4_
  (try clear hb)
  (try clear hb2)
  (try clear hk)
  (try clear hi)
  refine hK.out _ _ ⟨(blk_cell BK337.out 0).trans rfl,(blk_cell BK337.out 1).trans rfl,(blk_cell BK337.out 2).trans rfl,(blk_cell BK338.out 0).trans rfl,(blk_cell BK338.out 1).trans rfl⟩ (fun hHeld => ?_)
  clear hK K
  refine norm_ (a':=?_) ?_ ?_
  rotate_left
  ·show Act.put _ (some 16) _ = _
   simp only [Act.put,List.setIfInBounds_toArray,List.set_cons_zero,List.set_cons_succ,i64_w,i32_w]
   rfl
  refine oI 4 (some 19) (fun K hK => ?_)
  refine goes_ Try.func56 (by kernel_rfl) rfl #[.agg #[.int .i64 a0_0,.int .i64 a0_1,.slice A0_2 l0_2.length c0_2],.agg #[.slice A1_0 l1_0.length c1_0,.slice A1_1 l1_1.length c1_1]] (by rfl) rfl rfl ga_ ?_
  with_reducible refine (water_Validate.calls k a0_0 a0_1 _ _ l0_2 _ _ l1_0 _ _ l1_1 t342 _ ?side1 ?side2 ?side3 ?side4 ?side5 ?side6 A6.out).mono ?_
  (case side1 => exact cq HR0_2)
  (case side2 => exact HC0_2.out)
  (case side3 => exact cq HR1_0)
  (case side4 => exact HC1_0.out)
  (case side5 => exact cq HR1_1)
  (case side6 => exact HC1_1.out)
  rintro e w176 ⟨rfl,hb⟩
  refine ⟨_,rfl,?_⟩
  have n0_:=bkb BK337 hb
  have n1_:=bkb BK338 hb
  have n2_:=bkb BK339 hb
  have n3_:=bkb BK340 hb
  have n4_:=Aside0.mk (below_step (hb_) hb)
  clear BK337
  clear BK338
  clear BK339
  clear BK340
  clear HB
  have BK337:=n0_
  have BK338:=n1_
  have BK339:=n2_
  have BK340:=n3_
  have HB:=n4_
  clear n0_ n1_ n2_ n3_ n4_
  (try clear hb)
  (try clear hb2)
  (try clear hk)
  (try clear hi)
  refine hK.out _ _ ⟨(blk_cell BK337.out 0).trans rfl,(blk_cell BK337.out 1).trans rfl,(blk_cell BK337.out 2).trans rfl,(blk_cell BK338.out 0).trans rfl,(blk_cell BK338.out 1).trans rfl⟩ (fun hHeld => ?_)
  clear hK K
  refine norm_ (a':=?_) ?_ ?_
  rotate_left
  ·show Act.put _ (some 19) _ = _
   simp only [Act.put,List.setIfInBounds_toArray,List.set_cons_zero,List.set_cons_succ,i64_w,i32_w]
   rfl
  refine oI 5 (some 20) (fun K hK => ?_)
  refine Kd.R_lit_step (Kd.int .i64) _ 27 ?hg (N:=20) ?hd (xs:=([t341,t342] : List Int)) (inner:=[.int .i64 t341,.int .i64 t342]) (ok:=fun _ => True) (okp:=fun _ => True) ?hr ?hp (fun _ hk => hk) trivial (Below.refl _ _) (Nat.le_refl _) (by simp) ?_;(case hd => rfl);(case hg => rfl);(case hr => first|(go_simp;done)|(go_simp;rfl));(case hp => exact (Reps.one (show Kd.M (Kd.int .i64) _ _ _ t341 [.int .i64 t341] from rfl) (Reps.one (show Kd.M (Kd.int .i64) _ _ _ t342 [.int .i64 t342] from rfl) (Reps.none _ _))))
  intro v344 w177 ho178 hb hg_ hnew_
  clear hg_ hnew_
  (first|rw [← Ny343.out] at ho178|(simp only [Int.reduceToNat] at ho178;rw [← Ny343.out] at ho178))
  have n0_:=rlo ho178
  have n1_:=bkb BK337 hb
  have n2_:=bkb BK338 hb
  have n3_:=bkb BK339 hb
  have n4_:=bkb BK340 hb
  have n5_:=Aside0.mk (below_step (hb_) hb)
  clear BK337
  clear BK338
  clear BK339
  clear BK340
  clear HB
  have HO345:=n0_
  have BK337:=n1_
  have BK338:=n2_
  have BK339:=n3_
  have BK340:=n4_
  have HB:=n5_
  clear n0_ n1_ n2_ n3_ n4_ n5_
  clear hb ho178
  obtain ⟨Ao179,co179,eo179⟩:=Kd.R_slice HO345.out
  (first|subst eo179|(injection eo179 with f1_ f2_ f3_;have f4_:=f1_.symm;have f5_:=f3_.symm;clear f1_ f2_ f3_;subst f4_;subst f5_))
  refine hK.out _ _ ⟨(blk_cell BK337.out 0).trans rfl,(blk_cell BK337.out 1).trans rfl,(blk_cell BK337.out 2).trans rfl,(blk_cell BK338.out 0).trans rfl,(blk_cell BK338.out 1).trans rfl⟩ (fun hHeld => ?_)
  clear hK K
  refine norm_ (a':=?_) ?_ ?_
  rotate_left
  ·show Act.put _ (some 20) _ = _
   simp only [Act.put,List.setIfInBounds_toArray,List.set_cons_zero,List.set_cons_succ,i64_w,i32_w]
   rfl
  refine oI 6 (some 21) (fun K hK => ?_)
  refine goes_ Try.func54 (by kernel_rfl) rfl #[.slice Ao179 y343.length co179] (by rfl) rfl rfl ga_ ?_
  with_reducible refine (api_Errno.calls k _ _ y343 t346 _ ?side1 ?side2 A7.out).mono ?_
  (case side1 => exact Kd.C_up (Kd.R_reads' HO345.out).2.2)
  (case side2 => exact (Kd.R_reads' HO345.out).2.1)
  rintro e w' ⟨rfl,⟨nd,rfl⟩⟩
  refine ⟨_,rfl,?_⟩
  refine hK.out _ _ ⟨(blk_cell BK337.out 0).trans rfl,(blk_cell BK337.out 1).trans rfl,(blk_cell BK337.out 2).trans rfl,(blk_cell BK338.out 0).trans rfl,(blk_cell BK338.out 1).trans rfl⟩ (fun hHeld => ?_)
  clear hK K
  refine norm_ (a':=?_) ?_ ?_
  rotate_left
  ·show Act.put _ (some 21) _ = _
   simp only [Act.put,List.setIfInBounds_toArray,List.set_cons_zero,List.set_cons_succ,i64_w,i32_w]
   rfl
  refine pI 7 (some 11) ?_
  refine done_ (done_of HT_.out (by kernel_rfl)) ?_
  have hnb180:=NB340_337.out
  have hnc180:=NB337_340.out
  have hnb181:=NB340_338.out
  have hnc181:=NB338_340.out
  have hnb182:=NB340_339.out
  have hnc182:=NB339_340.out
  obtain ⟨_,_,_,_,_,_,_,_,_,_⟩:=cells5 BK340.out
  try go_wp2
  refine bodyPost_ret (results_ctt rfl _ _ gb340 57 #[.int .i64 0,.int .i64 0,.int .i64 0,.int .i64 0,.int .i64 0] (0,0) _ rfl (by (with_reducible repeat (first|refine blk_drewN ?_ _|refine blk_drew ?_|refine blk_alloc ?_ _));exact blk_puts5 (blk_up BK340.out)) Try.underlying57 rfl (by kernel_rfl)) rfl ?_
  exact ⟨er_,hb_⟩
 rw [if_pos c8] at H
 have c8b0:=bqt c8
 have c8b1:=bnf c8
 clear c8
 replace H:=Option.bind_eq_some_iff.mp H
 obtain ⟨t347,A90,H⟩:=H
 replace H : (if t347 = true then (if a2_0 = (-1) then (some (a2_0,a2_1,a2_2,a2_3,a2_4,0,0)) else ((lane_wet.f k a0_0 a0_1 l0_2 l1_0 l1_1 a2_0).bind fun t348 => (if t348 = 0 then (if (wrap64 (a2_4 + a2_3)) < 192 then (some (a2_0,a2_1,a2_2,a2_3,wrap64 (a2_4 + a2_3),0,0)) else ((water_Sail.f k a0_0 a0_1 l0_2 l1_0 l1_1 a2_0 a3).bind fun bt349 => (if bt349.2 = 0 then (lane_Sail.j0 k bt349.1 (decide ((bt349.1.length : Int) < 2)) a0_0 a0_1 l0_2 a2_0 a2_1 a2_2 a2_3 (wrap64 (a2_4 + a2_3))) else (lane_Sail.j0 k bt349.1 true a0_0 a0_1 l0_2 a2_0 a2_1 a2_2 a2_3 (wrap64 (a2_4 + a2_3)))))) else (some (0,0,0,0,0,0,t348))))) else (some (0,0,0,0,0,0,1))) = some (r1,r2,r3,r4,r5,r6,r7):=H
 have A9:=Aside0.mk A90
 clear A90
 by_cases c10 : t347 = true
 ·subst c10
  have H1 : (if a2_0 = (-1) then (some (a2_0,a2_1,a2_2,a2_3,a2_4,0,0)) else ((lane_wet.f k a0_0 a0_1 l0_2 l1_0 l1_1 a2_0).bind fun t348 => (if t348 = 0 then (if (wrap64 (a2_4 + a2_3)) < 192 then (some (a2_0,a2_1,a2_2,a2_3,wrap64 (a2_4 + a2_3),0,0)) else ((water_Sail.f k a0_0 a0_1 l0_2 l1_0 l1_1 a2_0 a3).bind fun bt349 => (if bt349.2 = 0 then (lane_Sail.j0 k bt349.1 (decide ((bt349.1.length : Int) < 2)) a0_0 a0_1 l0_2 a2_0 a2_1 a2_2 a2_3 (wrap64 (a2_4 + a2_3))) else (lane_Sail.j0 k bt349.1 true a0_0 a0_1 l0_2 a2_0 a2_1 a2_2 a2_3 (wrap64 (a2_4 + a2_3)))))) else (some (0,0,0,0,0,0,t348))))) = some (r1,r2,r3,r4,r5,r6,r7):=by rw [if_pos rfl] at H;exact H
  clear H
  have H:=H1
  clear H1
  by_cases c11 : a2_0 = (-1)
  ·rw [if_pos c11] at H
   have c11b0:=bqt c11
   have c11b1:=bnf c11
   clear c11
   simp only [Option.some.injEq,Prod.mk.injEq] at H
   obtain ⟨rfl,rfl,rfl,rfl,rfl,rfl,rfl⟩:=H
   go_enter Try.func33,Try.ntmps33
   try go_wp2_with (first|((with_reducible refine gate_dst (N:=4) rfl ?_);(try (refine gate_guard (by rfl) ?_;dsimp only));refine box_ev (N:=4) (cs:=#[.int .i64 a0_0,.int .i64 a0_1,.slice A0_2 l0_2.length c0_2]) (t:=53) ?_;intro gb337 hg w12 hbox hb;have BK337:=Aside0.mk (hbox);have GW337 : Aside0 (w.heap.size ≤ gb337):=gsz hg;have GE337:=GW337;replace HB:=hbs hb;clear hb hbox hg)|((with_reducible refine gate_dst (N:=5) rfl ?_);(try (refine gate_guard (by rfl) ?_;dsimp only));refine box_ev (N:=5) (cs:=#[.slice A1_0 l1_0.length c1_0,.slice A1_1 l1_1.length c1_1]) (t:=55) ?_;intro gb338 hg w13 hbox hb;have BK338:=Aside0.mk (hbox);have GW338 : Aside0 (w.heap.size ≤ gb338):=gsz hg;have GE338:=GW338;have NB337_338:=nbl BK337 hg;have NB338_337:=nbr BK337 hg;replace BK337:=bkb BK337 hb;replace HB:=hbs hb;clear hb hbox hg)|((with_reducible refine gate_dst (N:=6) rfl ?_);(try (refine gate_guard (by rfl) ?_;dsimp only));refine box_ev (N:=6) (cs:=#[.int .i64 a2_0,.int .i64 a2_1,.int .i64 a2_2,.int .i64 a2_3,.int .i64 a2_4]) (t:=57) ?_;intro gb339 hg w14 hbox hb;have BK339:=Aside0.mk (hbox);have GW339 : Aside0 (w.heap.size ≤ gb339):=gsz hg;have GE339:=GW339;have NB337_339:=nbl BK337 hg;have NB339_337:=nbr BK337 hg;have NB338_339:=nbl BK338 hg;have NB339_338:=nbr BK338 hg;replace BK337:=bkb BK337 hb;replace BK338:=bkb BK338 hb;replace HB:=hbs hb;clear hb hbox hg)|((with_reducible refine gate_dst (N:=8) rfl ?_);(try (refine gate_guard (by rfl) ?_;dsimp only));refine box_ev (N:=8) (cs:=#[.int .i64 0,.int .i64 0,.int .i64 0,.int .i64 0,.int .i64 0]) (t:=57) ?_;intro gb340 hg w15 hbox hb;have BK340:=Aside0.mk (hbox);have GW340 : Aside0 (w.heap.size ≤ gb340):=gsz hg;have GE340:=GW340;have NB337_340:=nbl BK337 hg;have NB340_337:=nbr BK337 hg;have NB338_340:=nbl BK338 hg;have NB340_338:=nbr BK338 hg;have NB339_340:=nbl BK339 hg;have NB340_339:=nbr BK339 hg;replace BK337:=bkb BK337 hb;replace BK338:=bkb BK338 hb;replace BK339:=bkb BK339 hb;replace HB:=hbs hb;clear hb hbox hg))
   replace BK337:=Aside0.mk (blk_drew BK337.out)
   replace BK338:=Aside0.mk (blk_drew BK338.out)
   replace BK339:=Aside0.mk (blk_drew BK339.out)
   replace BK340:=Aside0.mk (blk_drew BK340.out)
   replace HB:=Aside0.mk (below_drew1 HB.out)
   refine start_ (n:=8) (S:=fun w' => w'.cell? ⟨gb337,0,none⟩ = some (.int .i64 a0_0) ∧ w'.cell? ⟨gb337,1,none⟩ = some (.int .i64 a0_1) ∧ w'.cell? ⟨gb337,2,none⟩ = some (.slice A0_2 l0_2.length c0_2) ∧ w'.cell? ⟨gb338,0,none⟩ = some (.slice A1_0 l1_0.length c1_0) ∧ w'.cell? ⟨gb338,1,none⟩ = some (.slice A1_1 l1_1.length c1_1)) (ds:=[]) #[false,false,false,false,false,false,false,false] (by kernel_rfl) rfl rfl ⟨(blk_cell BK337.out 0).trans rfl,(blk_cell BK337.out 1).trans rfl,(blk_cell BK337.out 2).trans rfl,(blk_cell BK338.out 0).trans rfl,(blk_cell BK338.out 1).trans rfl⟩ (fun hHeld => ?_);refine with_tabW lane_Sail.tab1 lane_Sail.bits1 (fun HT_ HW_ => ?_)
   generalize w15.drew = w16 at BK337 BK338 BK339 BK340 HB hHeld ⊢
   refine tI5 0 (some 15) hHeld ?_
   refine tI5 2 (some 17) hHeld ?_
   refine tI5 3 (some 18) hHeld ?_
   refine oI 1 (some 16) (fun K hK => ?_)
   refine goes_ Try.func55 (by kernel_rfl) rfl #[.agg #[.int .i64 a0_0,.int .i64 a0_1,.slice A0_2 l0_2.length c0_2]] (by rfl) rfl rfl ga_ ?_
   with_reducible refine (land_Validate.calls k a0_0 a0_1 _ _ l0_2 t341 _ ?side1 ?side2 A5.out).mono ?_
   (case side1 => exact cq HR0_2)
   (case side2 => exact HC0_2.out)
   rintro e w17 ⟨rfl,hb⟩
   refine ⟨_,rfl,?_⟩
   have n0_:=bkb BK337 hb
   have n1_:=bkb BK338 hb
   have n2_:=bkb BK339 hb
   have n3_:=bkb BK340 hb
   have n4_:=Aside0.mk (below_step (hb_) hb)
   clear BK337
   clear BK338
   clear BK339
   clear BK340
   clear HB
   have BK337:=n0_
   have BK338:=n1_
   have BK339:=n2_
   have BK340:=n3_
   have HB:=n4_
   clear n0_ n1_ n2_ n3_ n4_
   (try clear hb)
   (try clear hb2)
   (try clear hk)
   (try clear hi)
   refine hK.out _ _ ⟨(blk_cell BK337.out 0).trans rfl,(blk_cell BK337.out 1).trans rfl,(blk_cell BK337.out 2).trans rfl,(blk_cell BK338.out 0).trans rfl,(blk_cell BK338.out 1).trans rfl⟩ (fun hHeld => ?_)
   clear hK K
   refine norm_ (a':=?_) ?_ ?_
   rotate_left
   ·show Act.put _ (some 16) _ = _
    simp only [Act.put,List.setIfInBounds_toArray,List.set_cons_zero,List.set_cons_succ,i64_w,i32_w]
    rfl
   refine oI 4 (some 19) (fun K hK => ?_)
   refine goes_ Try.func56 (by kernel_rfl) rfl #[.agg #[.int .i64 a0_0,.int .i64 a0_1,.slice A0_2 l0_2.length c0_2],.agg #[.slice A1_0 l1_0.length c1_0,.slice A1_1 l1_1.length c1_1]] (by rfl) rfl rfl ga_ ?_
   with_reducible refine (water_Validate.calls k a0_0 a0_1 _ _ l0_2 _ _ l1_0 _ _ l1_1 t342 _ ?side1 ?side2 ?side3 ?side4 ?side5 ?side6 A6.out).mono ?_
   (case side1 => exact cq HR0_2)
   (case side2 => exact HC0_2.out)
   (case side3 => exact cq HR1_0)
   (case side4 => exact HC1_0.out)
   (case side5 => exact cq HR1_1)
   (case side6 => exact HC1_1.out)
   rintro e w18 ⟨rfl,hb⟩
   refine ⟨_,rfl,?_⟩
   have n0_:=bkb BK337 hb
   have n1_:=bkb BK338 hb
   have n2_:=bkb BK339 hb
   have n3_:=bkb BK340 hb
   have n4_:=Aside0.mk (below_step (hb_) hb)
   clear BK337
   clear BK338
   clear BK339
   clear BK340
   clear HB
   have BK337:=n0_
   have BK338:=n1_
   have BK339:=n2_
   have BK340:=n3_
   have HB:=n4_
   clear n0_ n1_ n2_ n3_ n4_
   (try clear hb)
   (try clear hb2)
   (try clear hk)
   (try clear hi)
   refine hK.out _ _ ⟨(blk_cell BK337.out 0).trans rfl,(blk_cell BK337.out 1).trans rfl,(blk_cell BK337.out 2).trans rfl,(blk_cell BK338.out 0).trans rfl,(blk_cell BK338.out 1).trans rfl⟩ (fun hHeld => ?_)
   clear hK K
   refine norm_ (a':=?_) ?_ ?_
   rotate_left
   ·show Act.put _ (some 19) _ = _
    simp only [Act.put,List.setIfInBounds_toArray,List.set_cons_zero,List.set_cons_succ,i64_w,i32_w]
    rfl
   refine oI 5 (some 20) (fun K hK => ?_)
   refine Kd.R_lit_step (Kd.int .i64) _ 27 ?hg (N:=20) ?hd (xs:=([t341,t342] : List Int)) (inner:=[.int .i64 t341,.int .i64 t342]) (ok:=fun _ => True) (okp:=fun _ => True) ?hr ?hp (fun _ hk => hk) trivial (Below.refl _ _) (Nat.le_refl _) (by simp) ?_;(case hd => rfl);(case hg => rfl);(case hr => first|(go_simp;done)|(go_simp;rfl));(case hp => exact (Reps.one (show Kd.M (Kd.int .i64) _ _ _ t341 [.int .i64 t341] from rfl) (Reps.one (show Kd.M (Kd.int .i64) _ _ _ t342 [.int .i64 t342] from rfl) (Reps.none _ _))))
   intro v344 w19 ho20 hb hg_ hnew_
   clear hg_ hnew_
   (first|rw [← Ny343.out] at ho20|(simp only [Int.reduceToNat] at ho20;rw [← Ny343.out] at ho20))
   have n0_:=rlo ho20
   have n1_:=bkb BK337 hb
   have n2_:=bkb BK338 hb
   have n3_:=bkb BK339 hb
   have n4_:=bkb BK340 hb
   have n5_:=Aside0.mk (below_step (hb_) hb)
   clear BK337
   clear BK338
   clear BK339
   clear BK340
   clear HB
   have HO345:=n0_
   have BK337:=n1_
   have BK338:=n2_
   have BK339:=n3_
   have BK340:=n4_
   have HB:=n5_
   clear n0_ n1_ n2_ n3_ n4_ n5_
   clear hb ho20
   obtain ⟨Ao21,co21,eo21⟩:=Kd.R_slice HO345.out
   (first|subst eo21|(injection eo21 with f1_ f2_ f3_;have f4_:=f1_.symm;have f5_:=f3_.symm;clear f1_ f2_ f3_;subst f4_;subst f5_))
   refine hK.out _ _ ⟨(blk_cell BK337.out 0).trans rfl,(blk_cell BK337.out 1).trans rfl,(blk_cell BK337.out 2).trans rfl,(blk_cell BK338.out 0).trans rfl,(blk_cell BK338.out 1).trans rfl⟩ (fun hHeld => ?_)
   clear hK K
   refine norm_ (a':=?_) ?_ ?_
   rotate_left
   ·show Act.put _ (some 20) _ = _
    simp only [Act.put,List.setIfInBounds_toArray,List.set_cons_zero,List.set_cons_succ,i64_w,i32_w]
    rfl
   refine oI 6 (some 21) (fun K hK => ?_)
   refine goes_ Try.func54 (by kernel_rfl) rfl #[.slice Ao21 y343.length co21] (by rfl) rfl rfl ga_ ?_
   with_reducible refine (api_Errno.calls k _ _ y343 t346 _ ?side1 ?side2 A7.out).mono ?_
   (case side1 => exact Kd.C_up (Kd.R_reads' HO345.out).2.2)
   (case side2 => exact (Kd.R_reads' HO345.out).2.1)
   rintro e w' ⟨rfl,⟨nd,rfl⟩⟩
   refine ⟨_,rfl,?_⟩
   refine hK.out _ _ ⟨(blk_cell BK337.out 0).trans rfl,(blk_cell BK337.out 1).trans rfl,(blk_cell BK337.out 2).trans rfl,(blk_cell BK338.out 0).trans rfl,(blk_cell BK338.out 1).trans rfl⟩ (fun hHeld => ?_)
   clear hK K
   refine norm_ (a':=?_) ?_ ?_
   rotate_left
   ·show Act.put _ (some 21) _ = _
    simp only [Act.put,List.setIfInBounds_toArray,List.set_cons_zero,List.set_cons_succ,i64_w,i32_w]
    rfl
   refine pI 7 (some 11) ?_
   refine done_ (done_of HT_.out (by kernel_rfl)) ?_
   have hnb22:=NB339_337.out
   have hnc22:=NB337_339.out
   have hnb23:=NB339_338.out
   have hnc23:=NB338_339.out
   have hnb24:=NB339_340.out
   have hnc24:=NB340_339.out
   obtain ⟨_,_,_,_,_,_,_,_,_,_⟩:=cells5 BK339.out
   try go_wp2_with (first|((with_reducible refine gate_callee (f:=42) rfl ?_);refine goesL_ (some 36) rfl rfl Try.func42 (by kernel_rfl) rfl #[.int .i64 a2_0,.int .i64 a2_1,.int .i64 a2_2,.int .i64 a2_3,.int .i64 a2_4] rfl ga_ ?_;(with_reducible refine (lane_moves.calls a2_0 a2_1 a2_2 a2_3 a2_4 true _ A9.out).mono ?_);rintro e w' ⟨rfl,⟨nd,rfl⟩⟩;refine ⟨_,rfl,?_⟩;(try (rw [drewN_self w19];generalize hq_ : World.drewN w19 _ = w19;have n0_ : Aside0 (Kd.R (Kd.int .i64) 27 w19 w.heap.size (fun _ => True) (.slice Ao21 y343.length co21) y343):=⟨by rw [← hq_];exact (Kd.R_up HO345.out)⟩;have n1_ : Aside0 (w19.heap[gb337]? = some (.cells #[.int .i64 a0_0,.int .i64 a0_1,.slice A0_2 l0_2.length c0_2] 53 (0,0))):=⟨by rw [← hq_];exact (blk_up BK337.out)⟩;have n2_ : Aside0 (w19.heap[gb338]? = some (.cells #[.slice A1_0 l1_0.length c1_0,.slice A1_1 l1_1.length c1_1] 55 (0,0))):=⟨by rw [← hq_];exact (blk_up BK338.out)⟩;have n3_ : Aside0 (w19.heap[gb339]? = some (.cells #[.int .i64 a2_0,.int .i64 a2_1,.int .i64 a2_2,.int .i64 a2_3,.int .i64 a2_4] 57 (0,0))):=⟨by rw [← hq_];exact (blk_up BK339.out)⟩;have n4_ : Aside0 (w19.heap[gb340]? = some (.cells #[.int .i64 0,.int .i64 0,.int .i64 0,.int .i64 0,.int .i64 0] 57 (0,0))):=⟨by rw [← hq_];exact (blk_up BK340.out)⟩;have n5_ : Aside0 (Below w.heap.size w w19):=⟨by rw [← hq_];exact (hb_)⟩;clear HO345 BK337 BK338 BK339 BK340 HB hq_;have HO345:=n0_;have BK337:=n1_;have BK338:=n2_;have BK339:=n3_;have BK340:=n4_;have HB:=n5_;clear n0_ n1_ n2_ n3_ n4_ n5_;obtain ⟨_,_,_,_,_,_,_,_,_,_⟩:=cells5 BK339.out));have hnb26:=NB340_337.out;have hnc26:=NB337_340.out;have hnb27:=NB340_338.out;have hnc27:=NB338_340.out;obtain ⟨_,_,_,_,_,_,_,_,_,_⟩:=cells5 BK340.out))
   refine bodyPost_ret (results_ctt rfl _ _ gb340 57 #[.int .i64 a2_0,.int .i64 a2_1,.int .i64 a2_2,.int .i64 a2_3,.int .i64 a2_4] (0,0) _ rfl (by (with_reducible repeat (first|refine blk_drewN ?_ _|refine blk_drew ?_|refine blk_alloc ?_ _));exact blk_puts5 (blk_up BK340.out)) Try.underlying57 rfl (by kernel_rfl)) rfl ?_
   exact ⟨er_,hb_⟩
  rw [if_neg c11] at H
  have c11b0:=bqf c11
  have c11b1:=bnt c11
  replace H:=Option.bind_eq_some_iff.mp H
  obtain ⟨t348,A290,H⟩:=H
  replace H : (if t348 = 0 then (if (wrap64 (a2_4 + a2_3)) < 192 then (some (a2_0,a2_1,a2_2,a2_3,wrap64 (a2_4 + a2_3),0,0)) else ((water_Sail.f k a0_0 a0_1 l0_2 l1_0 l1_1 a2_0 a3).bind fun bt349 => (if bt349.2 = 0 then (lane_Sail.j0 k bt349.1 (decide ((bt349.1.length : Int) < 2)) a0_0 a0_1 l0_2 a2_0 a2_1 a2_2 a2_3 (wrap64 (a2_4 + a2_3))) else (lane_Sail.j0 k bt349.1 true a0_0 a0_1 l0_2 a2_0 a2_1 a2_2 a2_3 (wrap64 (a2_4 + a2_3)))))) else (some (0,0,0,0,0,0,t348))) = some (r1,r2,r3,r4,r5,r6,r7):=H
  have A29:=Aside0.mk A290
  clear A290
  by_cases c30 : t348 = 0
  rotate_left
  ·rw [if_neg c30] at H
   have c30b0:=bqf c30
   have c30b1:=bnt c30
   simp only [Option.some.injEq,Prod.mk.injEq] at H
   obtain ⟨rfl,rfl,rfl,rfl,rfl,rfl,rfl⟩:=H
   go_enter Try.func33,Try.ntmps33
   try go_wp2_with (first|((with_reducible refine gate_dst (N:=4) rfl ?_);(try (refine gate_guard (by rfl) ?_;dsimp only));refine box_ev (N:=4) (cs:=#[.int .i64 a0_0,.int .i64 a0_1,.slice A0_2 l0_2.length c0_2]) (t:=53) ?_;intro gb337 hg w132 hbox hb;have BK337:=Aside0.mk (hbox);have GW337 : Aside0 (w.heap.size ≤ gb337):=gsz hg;have GE337:=GW337;replace HB:=hbs hb;clear hb hbox hg)|((with_reducible refine gate_dst (N:=5) rfl ?_);(try (refine gate_guard (by rfl) ?_;dsimp only));refine box_ev (N:=5) (cs:=#[.slice A1_0 l1_0.length c1_0,.slice A1_1 l1_1.length c1_1]) (t:=55) ?_;intro gb338 hg w133 hbox hb;have BK338:=Aside0.mk (hbox);have GW338 : Aside0 (w.heap.size ≤ gb338):=gsz hg;have GE338:=GW338;have NB337_338:=nbl BK337 hg;have NB338_337:=nbr BK337 hg;replace BK337:=bkb BK337 hb;replace HB:=hbs hb;clear hb hbox hg)|((with_reducible refine gate_dst (N:=6) rfl ?_);(try (refine gate_guard (by rfl) ?_;dsimp only));refine box_ev (N:=6) (cs:=#[.int .i64 a2_0,.int .i64 a2_1,.int .i64 a2_2,.int .i64 a2_3,.int .i64 a2_4]) (t:=57) ?_;intro gb339 hg w134 hbox hb;have BK339:=Aside0.mk (hbox);have GW339 : Aside0 (w.heap.size ≤ gb339):=gsz hg;have GE339:=GW339;have NB337_339:=nbl BK337 hg;have NB339_337:=nbr BK337 hg;have NB338_339:=nbl BK338 hg;have NB339_338:=nbr BK338 hg;replace BK337:=bkb BK337 hb;replace BK338:=bkb BK338 hb;replace HB:=hbs hb;clear hb hbox hg)|((with_reducible refine gate_dst (N:=8) rfl ?_);(try (refine gate_guard (by rfl) ?_;dsimp only));refine box_ev (N:=8) (cs:=#[.int .i64 0,.int .i64 0,.int .i64 0,.int .i64 0,.int .i64 0]) (t:=57) ?_;intro gb340 hg w135 hbox hb;have BK340:=Aside0.mk (hbox);have GW340 : Aside0 (w.heap.size ≤ gb340):=gsz hg;have GE340:=GW340;have NB337_340:=nbl BK337 hg;have NB340_337:=nbr BK337 hg;have NB338_340:=nbl BK338 hg;have NB340_338:=nbr BK338 hg;have NB339_340:=nbl BK339 hg;have NB340_339:=nbr BK339 hg;replace BK337:=bkb BK337 hb;replace BK338:=bkb BK338 hb;replace BK339:=bkb BK339 hb;replace HB:=hbs hb;clear hb hbox hg))
   replace BK337:=Aside0.mk (blk_drew BK337.out)
   replace BK338:=Aside0.mk (blk_drew BK338.out)
   replace BK339:=Aside0.mk (blk_drew BK339.out)
   replace BK340:=Aside0.mk (blk_drew BK340.out)
   replace HB:=Aside0.mk (below_drew1 HB.out)
   refine start_ (n:=8) (S:=fun w' => w'.cell? ⟨gb337,0,none⟩ = some (.int .i64 a0_0) ∧ w'.cell? ⟨gb337,1,none⟩ = some (.int .i64 a0_1) ∧ w'.cell? ⟨gb337,2,none⟩ = some (.slice A0_2 l0_2.length c0_2) ∧ w'.cell? ⟨gb338,0,none⟩ = some (.slice A1_0 l1_0.length c1_0) ∧ w'.cell? ⟨gb338,1,none⟩ = some (.slice A1_1 l1_1.length c1_1)) (ds:=[]) #[false,false,false,false,false,false,false,false] (by kernel_rfl) rfl rfl ⟨(blk_cell BK337.out 0).trans rfl,(blk_cell BK337.out 1).trans rfl,(blk_cell BK337.out 2).trans rfl,(blk_cell BK338.out 0).trans rfl,(blk_cell BK338.out 1).trans rfl⟩ (fun hHeld => ?_);refine with_tabW lane_Sail.tab1 lane_Sail.bits1 (fun HT_ HW_ => ?_)
   generalize w135.drew = w136 at BK337 BK338 BK339 BK340 HB hHeld ⊢
   refine tI5 0 (some 15) hHeld ?_
   refine tI5 2 (some 17) hHeld ?_
   refine tI5 3 (some 18) hHeld ?_
   refine oI 1 (some 16) (fun K hK => ?_)
   refine goes_ Try.func55 (by kernel_rfl) rfl #[.agg #[.int .i64 a0_0,.int .i64 a0_1,.slice A0_2 l0_2.length c0_2]] (by rfl) rfl rfl ga_ ?_
   with_reducible refine (land_Validate.calls k a0_0 a0_1 _ _ l0_2 t341 _ ?side1 ?side2 A5.out).mono ?_
   (case side1 => exact cq HR0_2)
   (case side2 => exact HC0_2.out)
   rintro e w137 ⟨rfl,hb⟩
   refine ⟨_,rfl,?_⟩
   have n0_:=bkb BK337 hb
   have n1_:=bkb BK338 hb
   have n2_:=bkb BK339 hb
   have n3_:=bkb BK340 hb
   have n4_:=Aside0.mk (below_step (hb_) hb)
   clear BK337
   clear BK338
   clear BK339
   clear BK340
   clear HB
   have BK337:=n0_
   have BK338:=n1_
   have BK339:=n2_
   have BK340:=n3_
   have HB:=n4_
   clear n0_ n1_ n2_ n3_ n4_
   (try clear hb)
   (try clear hb2)
   (try clear hk)
   (try clear hi)
   refine hK.out _ _ ⟨(blk_cell BK337.out 0).trans rfl,(blk_cell BK337.out 1).trans rfl,(blk_cell BK337.out 2).trans rfl,(blk_cell BK338.out 0).trans rfl,(blk_cell BK338.out 1).trans rfl⟩ (fun hHeld => ?_)
   clear hK K
   refine norm_ (a':=?_) ?_ ?_
   rotate_left
   ·show Act.put _ (some 16) _ = _
    simp only [Act.put,List.setIfInBounds_toArray,List.set_cons_zero,List.set_cons_succ,i64_w,i32_w]
    rfl
   refine oI 4 (some 19) (fun K hK => ?_)
   refine goes_ Try.func56 (by kernel_rfl) rfl #[.agg #[.int .i64 a0_0,.int .i64 a0_1,.slice A0_2 l0_2.length c0_2],.agg #[.slice A1_0 l1_0.length c1_0,.slice A1_1 l1_1.length c1_1]] (by rfl) rfl rfl ga_ ?_
   with_reducible refine (water_Validate.calls k a0_0 a0_1 _ _ l0_2 _ _ l1_0 _ _ l1_1 t342 _ ?side1 ?side2 ?side3 ?side4 ?side5 ?side6 A6.out).mono ?_
   (case side1 => exact cq HR0_2)
   (case side2 => exact HC0_2.out)
   (case side3 => exact cq HR1_0)
   (case side4 => exact HC1_0.out)
   (case side5 => exact cq HR1_1)
   (case side6 => exact HC1_1.out)
   rintro e w138 ⟨rfl,hb⟩
   refine ⟨_,rfl,?_⟩
   have n0_:=bkb BK337 hb
   have n1_:=bkb BK338 hb
   have n2_:=bkb BK339 hb
   have n3_:=bkb BK340 hb
   have n4_:=Aside0.mk (below_step (hb_) hb)
   clear BK337
   clear BK338
   clear BK339
   clear BK340
   clear HB
   have BK337:=n0_
   have BK338:=n1_
   have BK339:=n2_
   have BK340:=n3_
   have HB:=n4_
   clear n0_ n1_ n2_ n3_ n4_
   (try clear hb)
   (try clear hb2)
   (try clear hk)
   (try clear hi)
   refine hK.out _ _ ⟨(blk_cell BK337.out 0).trans rfl,(blk_cell BK337.out 1).trans rfl,(blk_cell BK337.out 2).trans rfl,(blk_cell BK338.out 0).trans rfl,(blk_cell BK338.out 1).trans rfl⟩ (fun hHeld => ?_)
   clear hK K
   refine norm_ (a':=?_) ?_ ?_
   rotate_left
   ·show Act.put _ (some 19) _ = _
    simp only [Act.put,List.setIfInBounds_toArray,List.set_cons_zero,List.set_cons_succ,i64_w,i32_w]
    rfl
   refine oI 5 (some 20) (fun K hK => ?_)
   refine Kd.R_lit_step (Kd.int .i64) _ 27 ?hg (N:=20) ?hd (xs:=([t341,t342] : List Int)) (inner:=[.int .i64 t341,.int .i64 t342]) (ok:=fun _ => True) (okp:=fun _ => True) ?hr ?hp (fun _ hk => hk) trivial (Below.refl _ _) (Nat.le_refl _) (by simp) ?_;(case hd => rfl);(case hg => rfl);(case hr => first|(go_simp;done)|(go_simp;rfl));(case hp => exact (Reps.one (show Kd.M (Kd.int .i64) _ _ _ t341 [.int .i64 t341] from rfl) (Reps.one (show Kd.M (Kd.int .i64) _ _ _ t342 [.int .i64 t342] from rfl) (Reps.none _ _))))
   intro v344 w139 ho140 hb hg_ hnew_
   clear hg_ hnew_
   (first|rw [← Ny343.out] at ho140|(simp only [Int.reduceToNat] at ho140;rw [← Ny343.out] at ho140))
   have n0_:=rlo ho140
   have n1_:=bkb BK337 hb
   have n2_:=bkb BK338 hb
   have n3_:=bkb BK339 hb
   have n4_:=bkb BK340 hb
   have n5_:=Aside0.mk (below_step (hb_) hb)
   clear BK337
   clear BK338
   clear BK339
   clear BK340
   clear HB
   have HO345:=n0_
   have BK337:=n1_
   have BK338:=n2_
   have BK339:=n3_
   have BK340:=n4_
   have HB:=n5_
   clear n0_ n1_ n2_ n3_ n4_ n5_
   clear hb ho140
   obtain ⟨Ao141,co141,eo141⟩:=Kd.R_slice HO345.out
   (first|subst eo141|(injection eo141 with f1_ f2_ f3_;have f4_:=f1_.symm;have f5_:=f3_.symm;clear f1_ f2_ f3_;subst f4_;subst f5_))
   refine hK.out _ _ ⟨(blk_cell BK337.out 0).trans rfl,(blk_cell BK337.out 1).trans rfl,(blk_cell BK337.out 2).trans rfl,(blk_cell BK338.out 0).trans rfl,(blk_cell BK338.out 1).trans rfl⟩ (fun hHeld => ?_)
   clear hK K
   refine norm_ (a':=?_) ?_ ?_
   rotate_left
   ·show Act.put _ (some 20) _ = _
    simp only [Act.put,List.setIfInBounds_toArray,List.set_cons_zero,List.set_cons_succ,i64_w,i32_w]
    rfl
   refine oI 6 (some 21) (fun K hK => ?_)
   refine goes_ Try.func54 (by kernel_rfl) rfl #[.slice Ao141 y343.length co141] (by rfl) rfl rfl ga_ ?_
   with_reducible refine (api_Errno.calls k _ _ y343 t346 _ ?side1 ?side2 A7.out).mono ?_
   (case side1 => exact Kd.C_up (Kd.R_reads' HO345.out).2.2)
   (case side2 => exact (Kd.R_reads' HO345.out).2.1)
   rintro e w' ⟨rfl,⟨nd,rfl⟩⟩
   refine ⟨_,rfl,?_⟩
   refine hK.out _ _ ⟨(blk_cell BK337.out 0).trans rfl,(blk_cell BK337.out 1).trans rfl,(blk_cell BK337.out 2).trans rfl,(blk_cell BK338.out 0).trans rfl,(blk_cell BK338.out 1).trans rfl⟩ (fun hHeld => ?_)
   clear hK K
   refine norm_ (a':=?_) ?_ ?_
   rotate_left
   ·show Act.put _ (some 21) _ = _
    simp only [Act.put,List.setIfInBounds_toArray,List.set_cons_zero,List.set_cons_succ,i64_w,i32_w]
    rfl
   refine pI 7 (some 11) ?_
   refine done_ (done_of HT_.out (by kernel_rfl)) ?_
   have hnb142:=NB339_337.out
   have hnc142:=NB337_339.out
   have hnb143:=NB339_338.out
   have hnc143:=NB338_339.out
   have hnb144:=NB339_340.out
   have hnc144:=NB340_339.out
   obtain ⟨_,_,_,_,_,_,_,_,_,_⟩:=cells5 BK339.out
   try go_wp2_with (first|((with_reducible refine gate_callee (f:=42) rfl ?_);refine goesL_ (some 36) rfl rfl Try.func42 (by kernel_rfl) rfl #[.int .i64 a2_0,.int .i64 a2_1,.int .i64 a2_2,.int .i64 a2_3,.int .i64 a2_4] rfl ga_ ?_;(with_reducible refine (lane_moves.calls a2_0 a2_1 a2_2 a2_3 a2_4 true _ A9.out).mono ?_);rintro e w' ⟨rfl,⟨nd,rfl⟩⟩;refine ⟨_,rfl,?_⟩;(try (rw [drewN_self w139];generalize hq_ : World.drewN w139 _ = w139;have n0_ : Aside0 (Kd.R (Kd.int .i64) 27 w139 w.heap.size (fun _ => True) (.slice Ao141 y343.length co141) y343):=⟨by rw [← hq_];exact (Kd.R_up HO345.out)⟩;have n1_ : Aside0 (w139.heap[gb337]? = some (.cells #[.int .i64 a0_0,.int .i64 a0_1,.slice A0_2 l0_2.length c0_2] 53 (0,0))):=⟨by rw [← hq_];exact (blk_up BK337.out)⟩;have n2_ : Aside0 (w139.heap[gb338]? = some (.cells #[.slice A1_0 l1_0.length c1_0,.slice A1_1 l1_1.length c1_1] 55 (0,0))):=⟨by rw [← hq_];exact (blk_up BK338.out)⟩;have n3_ : Aside0 (w139.heap[gb339]? = some (.cells #[.int .i64 a2_0,.int .i64 a2_1,.int .i64 a2_2,.int .i64 a2_3,.int .i64 a2_4] 57 (0,0))):=⟨by rw [← hq_];exact (blk_up BK339.out)⟩;have n4_ : Aside0 (w139.heap[gb340]? = some (.cells #[.int .i64 0,.int .i64 0,.int .i64 0,.int .i64 0,.int .i64 0] 57 (0,0))):=⟨by rw [← hq_];exact (blk_up BK340.out)⟩;have n5_ : Aside0 (Below w.heap.size w w139):=⟨by rw [← hq_];exact (hb_)⟩;clear HO345 BK337 BK338 BK339 BK340 HB hq_;have HO345:=n0_;have BK337:=n1_;have BK338:=n2_;have BK339:=n3_;have BK340:=n4_;have HB:=n5_;clear n0_ n1_ n2_ n3_ n4_ n5_;obtain ⟨_,_,_,_,_,_,_,_,_,_⟩:=cells5 BK339.out;obtain ⟨_,_,_,_,_,_,_,_,_,_⟩:=cells5 BK340.out;obtain ⟨_,_,_,_,_,_⟩:=cells3 BK337.out;obtain ⟨_,_,_,_⟩:=cells2 BK338.out));have hnb146:=NB337_338.out;have hnc146:=NB338_337.out;have hnb147:=NB337_340.out;have hnc147:=NB340_337.out;obtain ⟨_,_,_,_,_,_⟩:=cells3 BK337.out;have hnb149:=NB338_340.out;have hnc149:=NB340_338.out;obtain ⟨_,_,_,_⟩:=cells2 BK338.out)|((with_reducible refine gate_callee (f:=57) rfl ?_);refine goesL_ (some 47) rfl rfl Try.func57 (by kernel_rfl) rfl #[.agg #[.int .i64 a0_0,.int .i64 a0_1,.slice A0_2 l0_2.length c0_2],.agg #[.slice A1_0 l1_0.length c1_0,.slice A1_1 l1_1.length c1_1],.int .i64 a2_0] rfl ga_ ?_;(with_reducible refine (lane_wet.calls k a0_0 a0_1 _ _ l0_2 _ _ l1_0 _ _ l1_1 a2_0 t348 _ ?_ ?_ ?_ ?_ ?_ ?_ A29.out).mono ?_);exact cq HR0_2;exact HC0_2.out;exact cq HR1_0;exact HC1_0.out;exact cq HR1_1;exact HC1_1.out;rintro e w151 ⟨rfl,hb⟩;refine ⟨_,rfl,?_⟩;replace HO345:=rbw HO345 hb;replace BK337:=bkb BK337 hb;replace BK338:=bkb BK338 hb;replace BK339:=bkb BK339 hb;replace BK340:=bkb BK340 hb;replace HB:=hbs hb;obtain ⟨_,_,_,_,_,_,_,_,_,_⟩:=cells5 BK340.out))
   refine bodyPost_ret (results_ctt rfl _ _ gb340 57 #[.int .i64 0,.int .i64 0,.int .i64 0,.int .i64 0,.int .i64 0] (0,0) _ rfl (by (with_reducible repeat (first|refine blk_drewN ?_ _|refine blk_drew ?_|refine blk_alloc ?_ _));exact blk_puts5 (blk_up BK340.out)) Try.underlying57 rfl (by kernel_rfl)) rfl ?_
   exact ⟨er_,hb_⟩
  rw [if_pos c30] at H
  have c30b0:=bqt c30
  have c30b1:=bnf c30
  clear c30
  by_cases c31 : (wrap64 (a2_4 + a2_3)) < 192
  ·rw [if_pos c31] at H
   have c31b0 : decide ((wrap64 (a2_4 + a2_3)) < 192) = true:=decide_eq_true c31
   clear c31
   simp only [Option.some.injEq,Prod.mk.injEq] at H
   obtain ⟨rfl,rfl,rfl,rfl,rfl,rfl,rfl⟩:=H
   go_enter Try.func33,Try.ntmps33
   try go_wp2_with (first|((with_reducible refine gate_dst (N:=4) rfl ?_);(try (refine gate_guard (by rfl) ?_;dsimp only));refine box_ev (N:=4) (cs:=#[.int .i64 a0_0,.int .i64 a0_1,.slice A0_2 l0_2.length c0_2]) (t:=53) ?_;intro gb337 hg w32 hbox hb;have BK337:=Aside0.mk (hbox);have GW337 : Aside0 (w.heap.size ≤ gb337):=gsz hg;have GE337:=GW337;replace HB:=hbs hb;clear hb hbox hg)|((with_reducible refine gate_dst (N:=5) rfl ?_);(try (refine gate_guard (by rfl) ?_;dsimp only));refine box_ev (N:=5) (cs:=#[.slice A1_0 l1_0.length c1_0,.slice A1_1 l1_1.length c1_1]) (t:=55) ?_;intro gb338 hg w33 hbox hb;have BK338:=Aside0.mk (hbox);have GW338 : Aside0 (w.heap.size ≤ gb338):=gsz hg;have GE338:=GW338;have NB337_338:=nbl BK337 hg;have NB338_337:=nbr BK337 hg;replace BK337:=bkb BK337 hb;replace HB:=hbs hb;clear hb hbox hg)|((with_reducible refine gate_dst (N:=6) rfl ?_);(try (refine gate_guard (by rfl) ?_;dsimp only));refine box_ev (N:=6) (cs:=#[.int .i64 a2_0,.int .i64 a2_1,.int .i64 a2_2,.int .i64 a2_3,.int .i64 a2_4]) (t:=57) ?_;intro gb339 hg w34 hbox hb;have BK339:=Aside0.mk (hbox);have GW339 : Aside0 (w.heap.size ≤ gb339):=gsz hg;have GE339:=GW339;have NB337_339:=nbl BK337 hg;have NB339_337:=nbr BK337 hg;have NB338_339:=nbl BK338 hg;have NB339_338:=nbr BK338 hg;replace BK337:=bkb BK337 hb;replace BK338:=bkb BK338 hb;replace HB:=hbs hb;clear hb hbox hg)|((with_reducible refine gate_dst (N:=8) rfl ?_);(try (refine gate_guard (by rfl) ?_;dsimp only));refine box_ev (N:=8) (cs:=#[.int .i64 0,.int .i64 0,.int .i64 0,.int .i64 0,.int .i64 0]) (t:=57) ?_;intro gb340 hg w35 hbox hb;have BK340:=Aside0.mk (hbox);have GW340 : Aside0 (w.heap.size ≤ gb340):=gsz hg;have GE340:=GW340;have NB337_340:=nbl BK337 hg;have NB340_337:=nbr BK337 hg;have NB338_340:=nbl BK338 hg;have NB340_338:=nbr BK338 hg;have NB339_340:=nbl BK339 hg;have NB340_339:=nbr BK339 hg;replace BK337:=bkb BK337 hb;replace BK338:=bkb BK338 hb;replace BK339:=bkb BK339 hb;replace HB:=hbs hb;clear hb hbox hg))
   replace BK337:=Aside0.mk (blk_drew BK337.out)
   replace BK338:=Aside0.mk (blk_drew BK338.out)
   replace BK339:=Aside0.mk (blk_drew BK339.out)
   replace BK340:=Aside0.mk (blk_drew BK340.out)
   replace HB:=Aside0.mk (below_drew1 HB.out)
   refine start_ (n:=8) (S:=fun w' => w'.cell? ⟨gb337,0,none⟩ = some (.int .i64 a0_0) ∧ w'.cell? ⟨gb337,1,none⟩ = some (.int .i64 a0_1) ∧ w'.cell? ⟨gb337,2,none⟩ = some (.slice A0_2 l0_2.length c0_2) ∧ w'.cell? ⟨gb338,0,none⟩ = some (.slice A1_0 l1_0.length c1_0) ∧ w'.cell? ⟨gb338,1,none⟩ = some (.slice A1_1 l1_1.length c1_1)) (ds:=[]) #[false,false,false,false,false,false,false,false] (by kernel_rfl) rfl rfl ⟨(blk_cell BK337.out 0).trans rfl,(blk_cell BK337.out 1).trans rfl,(blk_cell BK337.out 2).trans rfl,(blk_cell BK338.out 0).trans rfl,(blk_cell BK338.out 1).trans rfl⟩ (fun hHeld => ?_);refine with_tabW lane_Sail.tab1 lane_Sail.bits1 (fun HT_ HW_ => ?_)
   generalize w35.drew = w36 at BK337 BK338 BK339 BK340 HB hHeld ⊢
   refine tI5 0 (some 15) hHeld ?_
   refine tI5 2 (some 17) hHeld ?_
   refine tI5 3 (some 18) hHeld ?_
   refine oI 1 (some 16) (fun K hK => ?_)
   refine goes_ Try.func55 (by kernel_rfl) rfl #[.agg #[.int .i64 a0_0,.int .i64 a0_1,.slice A0_2 l0_2.length c0_2]] (by rfl) rfl rfl ga_ ?_
   with_reducible refine (land_Validate.calls k a0_0 a0_1 _ _ l0_2 t341 _ ?side1 ?side2 A5.out).mono ?_
   (case side1 => exact cq HR0_2)
   (case side2 => exact HC0_2.out)
   rintro e w37 ⟨rfl,hb⟩
   refine ⟨_,rfl,?_⟩
   have n0_:=bkb BK337 hb
   have n1_:=bkb BK338 hb
   have n2_:=bkb BK339 hb
   have n3_:=bkb BK340 hb
   have n4_:=Aside0.mk (below_step (hb_) hb)
   clear BK337
   clear BK338
   clear BK339
   clear BK340
   clear HB
   have BK337:=n0_
   have BK338:=n1_
   have BK339:=n2_
   have BK340:=n3_
   have HB:=n4_
   clear n0_ n1_ n2_ n3_ n4_
   (try clear hb)
   (try clear hb2)
   (try clear hk)
   (try clear hi)
   refine hK.out _ _ ⟨(blk_cell BK337.out 0).trans rfl,(blk_cell BK337.out 1).trans rfl,(blk_cell BK337.out 2).trans rfl,(blk_cell BK338.out 0).trans rfl,(blk_cell BK338.out 1).trans rfl⟩ (fun hHeld => ?_)
   clear hK K
   refine norm_ (a':=?_) ?_ ?_
   rotate_left
   ·show Act.put _ (some 16) _ = _
    simp only [Act.put,List.setIfInBounds_toArray,List.set_cons_zero,List.set_cons_succ,i64_w,i32_w]
    rfl
   refine oI 4 (some 19) (fun K hK => ?_)
   refine goes_ Try.func56 (by kernel_rfl) rfl #[.agg #[.int .i64 a0_0,.int .i64 a0_1,.slice A0_2 l0_2.length c0_2],.agg #[.slice A1_0 l1_0.length c1_0,.slice A1_1 l1_1.length c1_1]] (by rfl) rfl rfl ga_ ?_
   with_reducible refine (water_Validate.calls k a0_0 a0_1 _ _ l0_2 _ _ l1_0 _ _ l1_1 t342 _ ?side1 ?side2 ?side3 ?side4 ?side5 ?side6 A6.out).mono ?_
   (case side1 => exact cq HR0_2)
   (case side2 => exact HC0_2.out)
   (case side3 => exact cq HR1_0)
   (case side4 => exact HC1_0.out)
   (case side5 => exact cq HR1_1)
   (case side6 => exact HC1_1.out)
   rintro e w38 ⟨rfl,hb⟩
   refine ⟨_,rfl,?_⟩
   have n0_:=bkb BK337 hb
   have n1_:=bkb BK338 hb
   have n2_:=bkb BK339 hb
   have n3_:=bkb BK340 hb
   have n4_:=Aside0.mk (below_step (hb_) hb)
   clear BK337
   clear BK338
   clear BK339
   clear BK340
   clear HB
   have BK337:=n0_
   have BK338:=n1_
   have BK339:=n2_
   have BK340:=n3_
   have HB:=n4_
   clear n0_ n1_ n2_ n3_ n4_
   (try clear hb)
   (try clear hb2)
   (try clear hk)
   (try clear hi)
   refine hK.out _ _ ⟨(blk_cell BK337.out 0).trans rfl,(blk_cell BK337.out 1).trans rfl,(blk_cell BK337.out 2).trans rfl,(blk_cell BK338.out 0).trans rfl,(blk_cell BK338.out 1).trans rfl⟩ (fun hHeld => ?_)
   clear hK K
   refine norm_ (a':=?_) ?_ ?_
   rotate_left
   ·show Act.put _ (some 19) _ = _
    simp only [Act.put,List.setIfInBounds_toArray,List.set_cons_zero,List.set_cons_succ,i64_w,i32_w]
    rfl
   refine oI 5 (some 20) (fun K hK => ?_)
   refine Kd.R_lit_step (Kd.int .i64) _ 27 ?hg (N:=20) ?hd (xs:=([t341,t342] : List Int)) (inner:=[.int .i64 t341,.int .i64 t342]) (ok:=fun _ => True) (okp:=fun _ => True) ?hr ?hp (fun _ hk => hk) trivial (Below.refl _ _) (Nat.le_refl _) (by simp) ?_;(case hd => rfl);(case hg => rfl);(case hr => first|(go_simp;done)|(go_simp;rfl));(case hp => exact (Reps.one (show Kd.M (Kd.int .i64) _ _ _ t341 [.int .i64 t341] from rfl) (Reps.one (show Kd.M (Kd.int .i64) _ _ _ t342 [.int .i64 t342] from rfl) (Reps.none _ _))))
   intro v344 w39 ho40 hb hg_ hnew_
   clear hg_ hnew_
   (first|rw [← Ny343.out] at ho40|(simp only [Int.reduceToNat] at ho40;rw [← Ny343.out] at ho40))
   have n0_:=rlo ho40
   have n1_:=bkb BK337 hb
   have n2_:=bkb BK338 hb
   have n3_:=bkb BK339 hb
   have n4_:=bkb BK340 hb
   have n5_:=Aside0.mk (below_step (hb_) hb)
   clear BK337
   clear BK338
   clear BK339
   clear BK340
   clear HB
   have HO345:=n0_
   have BK337:=n1_
   have BK338:=n2_
   have BK339:=n3_
   have BK340:=n4_
   have HB:=n5_
   clear n0_ n1_ n2_ n3_ n4_ n5_
   clear hb ho40
   obtain ⟨Ao41,co41,eo41⟩:=Kd.R_slice HO345.out
   (first|subst eo41|(injection eo41 with f1_ f2_ f3_;have f4_:=f1_.symm;have f5_:=f3_.symm;clear f1_ f2_ f3_;subst f4_;subst f5_))
   refine hK.out _ _ ⟨(blk_cell BK337.out 0).trans rfl,(blk_cell BK337.out 1).trans rfl,(blk_cell BK337.out 2).trans rfl,(blk_cell BK338.out 0).trans rfl,(blk_cell BK338.out 1).trans rfl⟩ (fun hHeld => ?_)
   clear hK K
   refine norm_ (a':=?_) ?_ ?_
   rotate_left
   ·show Act.put _ (some 20) _ = _
    simp only [Act.put,List.setIfInBounds_toArray,List.set_cons_zero,List.set_cons_succ,i64_w,i32_w]
    rfl
   refine oI 6 (some 21) (fun K hK => ?_)
   refine goes_ Try.func54 (by kernel_rfl) rfl #[.slice Ao41 y343.length co41] (by rfl) rfl rfl ga_ ?_
   with_reducible refine (api_Errno.calls k _ _ y343 t346 _ ?side1 ?side2 A7.out).mono ?_
   (case side1 => exact Kd.C_up (Kd.R_reads' HO345.out).2.2)
   (case side2 => exact (Kd.R_reads' HO345.out).2.1)
   rintro e w' ⟨rfl,⟨nd,rfl⟩⟩
   refine ⟨_,rfl,?_⟩
   refine hK.out _ _ ⟨(blk_cell BK337.out 0).trans rfl,(blk_cell BK337.out 1).trans rfl,(blk_cell BK337.out 2).trans rfl,(blk_cell BK338.out 0).trans rfl,(blk_cell BK338.out 1).trans rfl⟩ (fun hHeld => ?_)
   clear hK K
   refine norm_ (a':=?_) ?_ ?_
   rotate_left
   ·show Act.put _ (some 21) _ = _
    simp only [Act.put,List.setIfInBounds_toArray,List.set_cons_zero,List.set_cons_succ,i64_w,i32_w]
    rfl
   refine pI 7 (some 11) ?_
   refine done_ (done_of HT_.out (by kernel_rfl)) ?_
   have hnb42:=NB339_337.out
   have hnc42:=NB337_339.out
   have hnb43:=NB339_338.out
   have hnc43:=NB338_339.out
   have hnb44:=NB339_340.out
   have hnc44:=NB340_339.out
   obtain ⟨_,_,_,_,_,_,_,_,_,_⟩:=cells5 BK339.out
   try go_wp2_with (first|((with_reducible refine gate_callee (f:=42) rfl ?_);refine goesL_ (some 36) rfl rfl Try.func42 (by kernel_rfl) rfl #[.int .i64 a2_0,.int .i64 a2_1,.int .i64 a2_2,.int .i64 a2_3,.int .i64 a2_4] rfl ga_ ?_;(with_reducible refine (lane_moves.calls a2_0 a2_1 a2_2 a2_3 a2_4 true _ A9.out).mono ?_);rintro e w' ⟨rfl,⟨nd,rfl⟩⟩;refine ⟨_,rfl,?_⟩;(try (rw [drewN_self w39];generalize hq_ : World.drewN w39 _ = w39;have n0_ : Aside0 (Kd.R (Kd.int .i64) 27 w39 w.heap.size (fun _ => True) (.slice Ao41 y343.length co41) y343):=⟨by rw [← hq_];exact (Kd.R_up HO345.out)⟩;have n1_ : Aside0 (w39.heap[gb337]? = some (.cells #[.int .i64 a0_0,.int .i64 a0_1,.slice A0_2 l0_2.length c0_2] 53 (0,0))):=⟨by rw [← hq_];exact (blk_up BK337.out)⟩;have n2_ : Aside0 (w39.heap[gb338]? = some (.cells #[.slice A1_0 l1_0.length c1_0,.slice A1_1 l1_1.length c1_1] 55 (0,0))):=⟨by rw [← hq_];exact (blk_up BK338.out)⟩;have n3_ : Aside0 (w39.heap[gb339]? = some (.cells #[.int .i64 a2_0,.int .i64 a2_1,.int .i64 a2_2,.int .i64 a2_3,.int .i64 a2_4] 57 (0,0))):=⟨by rw [← hq_];exact (blk_up BK339.out)⟩;have n4_ : Aside0 (w39.heap[gb340]? = some (.cells #[.int .i64 0,.int .i64 0,.int .i64 0,.int .i64 0,.int .i64 0] 57 (0,0))):=⟨by rw [← hq_];exact (blk_up BK340.out)⟩;have n5_ : Aside0 (Below w.heap.size w w39):=⟨by rw [← hq_];exact (hb_)⟩;clear HO345 BK337 BK338 BK339 BK340 HB hq_;have HO345:=n0_;have BK337:=n1_;have BK338:=n2_;have BK339:=n3_;have BK340:=n4_;have HB:=n5_;clear n0_ n1_ n2_ n3_ n4_ n5_;obtain ⟨_,_,_,_,_,_,_,_,_,_⟩:=cells5 BK339.out;obtain ⟨_,_,_,_,_,_,_,_,_,_⟩:=cells5 BK340.out));have hnb46:=NB337_338.out;have hnc46:=NB338_337.out;have hnb47:=NB337_340.out;have hnc47:=NB340_337.out;obtain ⟨_,_,_,_,_,_⟩:=cells3 BK337.out;have hnb49:=NB338_340.out;have hnc49:=NB340_338.out;obtain ⟨_,_,_,_⟩:=cells2 BK338.out)|((with_reducible refine gate_callee (f:=57) rfl ?_);refine goesL_ (some 47) rfl rfl Try.func57 (by kernel_rfl) rfl #[.agg #[.int .i64 a0_0,.int .i64 a0_1,.slice A0_2 l0_2.length c0_2],.agg #[.slice A1_0 l1_0.length c1_0,.slice A1_1 l1_1.length c1_1],.int .i64 a2_0] rfl ga_ ?_;(with_reducible refine (lane_wet.calls k a0_0 a0_1 _ _ l0_2 _ _ l1_0 _ _ l1_1 a2_0 t348 _ ?_ ?_ ?_ ?_ ?_ ?_ A29.out).mono ?_);exact cq HR0_2;exact HC0_2.out;exact cq HR1_0;exact HC1_0.out;exact cq HR1_1;exact HC1_1.out;rintro e w51 ⟨rfl,hb⟩;refine ⟨_,rfl,?_⟩;replace HO345:=rbw HO345 hb;replace BK337:=bkb BK337 hb;replace BK338:=bkb BK338 hb;replace BK339:=bkb BK339 hb;replace BK340:=bkb BK340 hb;replace HB:=hbs hb;obtain ⟨_,_,_,_,_,_,_,_,_,_⟩:=cells5 BK339.out;obtain ⟨_,_,_,_,_,_,_,_,_,_⟩:=cells5 BK340.out))
   refine bodyPost_ret (results_ctt rfl _ _ gb340 57 #[.int .i64 a2_0,.int .i64 a2_1,.int .i64 a2_2,.int .i64 a2_3,.int .i64 (wrap64 (a2_4 + a2_3))] (0,0) _ rfl (by (with_reducible repeat (first|refine blk_drewN ?_ _|refine blk_drew ?_|refine blk_alloc ?_ _));refine blk_put (cs:=#[.int .i64 a2_0,.int .i64 a2_1,.int .i64 a2_2,.int .i64 a2_3,.int .i64 0]) ?_ 4 _ rfl;(with_reducible repeat (first|refine blk_drewN ?_ _|refine blk_drew ?_|refine blk_alloc ?_ _));refine blk_put (cs:=#[.int .i64 a2_0,.int .i64 a2_1,.int .i64 a2_2,.int .i64 0,.int .i64 0]) ?_ 3 _ rfl;(with_reducible repeat (first|refine blk_drewN ?_ _|refine blk_drew ?_|refine blk_alloc ?_ _));refine blk_put (cs:=#[.int .i64 a2_0,.int .i64 a2_1,.int .i64 0,.int .i64 0,.int .i64 0]) ?_ 2 _ rfl;(with_reducible repeat (first|refine blk_drewN ?_ _|refine blk_drew ?_|refine blk_alloc ?_ _));refine blk_put (cs:=#[.int .i64 a2_0,.int .i64 0,.int .i64 0,.int .i64 0,.int .i64 0]) ?_ 1 _ rfl;(with_reducible repeat (first|refine blk_drewN ?_ _|refine blk_drew ?_|refine blk_alloc ?_ _));refine blk_put (cs:=#[.int .i64 0,.int .i64 0,.int .i64 0,.int .i64 0,.int .i64 0]) ?_ 0 _ rfl;(with_reducible repeat (first|refine blk_drewN ?_ _|refine blk_drew ?_|refine blk_alloc ?_ _));refine blk_far ?_ NB340_339.out _;(with_reducible repeat (first|refine blk_drewN ?_ _|refine blk_drew ?_|refine blk_alloc ?_ _));exact BK340.out) Try.underlying57 rfl (by kernel_rfl)) rfl ?_
   exact ⟨er_,hb_⟩
  rw [if_neg c31] at H
  have c31b0 : decide ((wrap64 (a2_4 + a2_3)) < 192) = false:=decide_eq_false c31
  clear c31
  replace H:=Option.bind_eq_some_iff.mp H
  obtain ⟨⟨t349,t352⟩,A540,H⟩:=H
  replace H : (if t352 = 0 then (lane_Sail.j0 k t349 (decide ((t349.length : Int) < 2)) a0_0 a0_1 l0_2 a2_0 a2_1 a2_2 a2_3 (wrap64 (a2_4 + a2_3))) else (lane_Sail.j0 k t349 true a0_0 a0_1 l0_2 a2_0 a2_1 a2_2 a2_3 (wrap64 (a2_4 + a2_3)))) = some (r1,r2,r3,r4,r5,r6,r7):=H
  have A54:=Aside0.mk A540
  clear A540
  have HC55:=Aside0.mk H
  clear H
  go_enter Try.func33,Try.ntmps33
  try go_wp2_with (first|((with_reducible refine gate_dst (N:=4) rfl ?_);(try (refine gate_guard (by rfl) ?_;dsimp only));refine box_ev (N:=4) (cs:=#[.int .i64 a0_0,.int .i64 a0_1,.slice A0_2 l0_2.length c0_2]) (t:=53) ?_;intro gb337 hg w56 hbox hb;have BK337:=Aside0.mk (hbox);have GW337 : Aside0 (w.heap.size ≤ gb337):=gsz hg;have GE337:=GW337;replace HB:=hbs hb;clear hb hbox hg)|((with_reducible refine gate_dst (N:=5) rfl ?_);(try (refine gate_guard (by rfl) ?_;dsimp only));refine box_ev (N:=5) (cs:=#[.slice A1_0 l1_0.length c1_0,.slice A1_1 l1_1.length c1_1]) (t:=55) ?_;intro gb338 hg w57 hbox hb;have BK338:=Aside0.mk (hbox);have GW338 : Aside0 (w.heap.size ≤ gb338):=gsz hg;have GE338:=GW338;have NB337_338:=nbl BK337 hg;have NB338_337:=nbr BK337 hg;replace BK337:=bkb BK337 hb;replace HB:=hbs hb;clear hb hbox hg)|((with_reducible refine gate_dst (N:=6) rfl ?_);(try (refine gate_guard (by rfl) ?_;dsimp only));refine box_ev (N:=6) (cs:=#[.int .i64 a2_0,.int .i64 a2_1,.int .i64 a2_2,.int .i64 a2_3,.int .i64 a2_4]) (t:=57) ?_;intro gb339 hg w58 hbox hb;have BK339:=Aside0.mk (hbox);have GW339 : Aside0 (w.heap.size ≤ gb339):=gsz hg;have GE339:=GW339;have NB337_339:=nbl BK337 hg;have NB339_337:=nbr BK337 hg;have NB338_339:=nbl BK338 hg;have NB339_338:=nbr BK338 hg;replace BK337:=bkb BK337 hb;replace BK338:=bkb BK338 hb;replace HB:=hbs hb;clear hb hbox hg)|((with_reducible refine gate_dst (N:=8) rfl ?_);(try (refine gate_guard (by rfl) ?_;dsimp only));refine box_ev (N:=8) (cs:=#[.int .i64 0,.int .i64 0,.int .i64 0,.int .i64 0,.int .i64 0]) (t:=57) ?_;intro gb340 hg w59 hbox hb;have BK340:=Aside0.mk (hbox);have GW340 : Aside0 (w.heap.size ≤ gb340):=gsz hg;have GE340:=GW340;have NB337_340:=nbl BK337 hg;have NB340_337:=nbr BK337 hg;have NB338_340:=nbl BK338 hg;have NB340_338:=nbr BK338 hg;have NB339_340:=nbl BK339 hg;have NB340_339:=nbr BK339 hg;replace BK337:=bkb BK337 hb;replace BK338:=bkb BK338 hb;replace BK339:=bkb BK339 hb;replace HB:=hbs hb;clear hb hbox hg))
  replace BK337:=Aside0.mk (blk_drew BK337.out)
  replace BK338:=Aside0.mk (blk_drew BK338.out)
  replace BK339:=Aside0.mk (blk_drew BK339.out)
  replace BK340:=Aside0.mk (blk_drew BK340.out)
  replace HB:=Aside0.mk (below_drew1 HB.out)
  refine start_ (n:=8) (S:=fun w' => w'.cell? ⟨gb337,0,none⟩ = some (.int .i64 a0_0) ∧ w'.cell? ⟨gb337,1,none⟩ = some (.int .i64 a0_1) ∧ w'.cell? ⟨gb337,2,none⟩ = some (.slice A0_2 l0_2.length c0_2) ∧ w'.cell? ⟨gb338,0,none⟩ = some (.slice A1_0 l1_0.length c1_0) ∧ w'.cell? ⟨gb338,1,none⟩ = some (.slice A1_1 l1_1.length c1_1)) (ds:=[]) #[false,false,false,false,false,false,false,false] (by kernel_rfl) rfl rfl ⟨(blk_cell BK337.out 0).trans rfl,(blk_cell BK337.out 1).trans rfl,(blk_cell BK337.out 2).trans rfl,(blk_cell BK338.out 0).trans rfl,(blk_cell BK338.out 1).trans rfl⟩ (fun hHeld => ?_);refine with_tabW lane_Sail.tab1 lane_Sail.bits1 (fun HT_ HW_ => ?_)
  generalize w59.drew = w60 at BK337 BK338 BK339 BK340 HB hHeld ⊢
  refine tI5 0 (some 15) hHeld ?_
  refine tI5 2 (some 17) hHeld ?_
  refine tI5 3 (some 18) hHeld ?_
  refine oI 1 (some 16) (fun K hK => ?_)
  refine goes_ Try.func55 (by kernel_rfl) rfl #[.agg #[.int .i64 a0_0,.int .i64 a0_1,.slice A0_2 l0_2.length c0_2]] (by rfl) rfl rfl ga_ ?_
  with_reducible refine (land_Validate.calls k a0_0 a0_1 _ _ l0_2 t341 _ ?side1 ?side2 A5.out).mono ?_
  (case side1 => exact cq HR0_2)
  (case side2 => exact HC0_2.out)
  rintro e w61 ⟨rfl,hb⟩
  refine ⟨_,rfl,?_⟩
  have n0_:=bkb BK337 hb
  have n1_:=bkb BK338 hb
  have n2_:=bkb BK339 hb
  have n3_:=bkb BK340 hb
  have n4_:=Aside0.mk (below_step (hb_) hb)
  clear BK337
  clear BK338
  clear BK339
  clear BK340
  clear HB
  have BK337:=n0_
  have BK338:=n1_
  have BK339:=n2_
  have BK340:=n3_
  have HB:=n4_
  clear n0_ n1_ n2_ n3_ n4_
  (try clear hb)
  (try clear hb2)
  (try clear hk)
  (try clear hi)
  refine hK.out _ _ ⟨(blk_cell BK337.out 0).trans rfl,(blk_cell BK337.out 1).trans rfl,(blk_cell BK337.out 2).trans rfl,(blk_cell BK338.out 0).trans rfl,(blk_cell BK338.out 1).trans rfl⟩ (fun hHeld => ?_)
  clear hK K
  refine norm_ (a':=?_) ?_ ?_
  rotate_left
  ·show Act.put _ (some 16) _ = _
   simp only [Act.put,List.setIfInBounds_toArray,List.set_cons_zero,List.set_cons_succ,i64_w,i32_w]
   rfl
  refine oI 4 (some 19) (fun K hK => ?_)
  refine goes_ Try.func56 (by kernel_rfl) rfl #[.agg #[.int .i64 a0_0,.int .i64 a0_1,.slice A0_2 l0_2.length c0_2],.agg #[.slice A1_0 l1_0.length c1_0,.slice A1_1 l1_1.length c1_1]] (by rfl) rfl rfl ga_ ?_
  with_reducible refine (water_Validate.calls k a0_0 a0_1 _ _ l0_2 _ _ l1_0 _ _ l1_1 t342 _ ?side1 ?side2 ?side3 ?side4 ?side5 ?side6 A6.out).mono ?_
  (case side1 => exact cq HR0_2)
  (case side2 => exact HC0_2.out)
  (case side3 => exact cq HR1_0)
  (case side4 => exact HC1_0.out)
  (case side5 => exact cq HR1_1)
  (case side6 => exact HC1_1.out)
  rintro e w62 ⟨rfl,hb⟩
  refine ⟨_,rfl,?_⟩
  have n0_:=bkb BK337 hb
  have n1_:=bkb BK338 hb
  have n2_:=bkb BK339 hb
  have n3_:=bkb BK340 hb
  have n4_:=Aside0.mk (below_step (hb_) hb)
  clear BK337
  clear BK338
  clear BK339
  clear BK340
  clear HB
  have BK337:=n0_
  have BK338:=n1_
  have BK339:=n2_
  have BK340:=n3_
  have HB:=n4_
  clear n0_ n1_ n2_ n3_ n4_
  (try clear hb)
  (try clear hb2)
  (try clear hk)
  (try clear hi)
  refine hK.out _ _ ⟨(blk_cell BK337.out 0).trans rfl,(blk_cell BK337.out 1).trans rfl,(blk_cell BK337.out 2).trans rfl,(blk_cell BK338.out 0).trans rfl,(blk_cell BK338.out 1).trans rfl⟩ (fun hHeld => ?_)
  clear hK K
  refine norm_ (a':=?_) ?_ ?_
  rotate_left
  ·show Act.put _ (some 19) _ = _
   simp only [Act.put,List.setIfInBounds_toArray,List.set_cons_zero,List.set_cons_succ,i64_w,i32_w]
   rfl
  refine oI 5 (some 20) (fun K hK => ?_)
  refine Kd.R_lit_step (Kd.int .i64) _ 27 ?hg (N:=20) ?hd (xs:=([t341,t342] : List Int)) (inner:=[.int .i64 t341,.int .i64 t342]) (ok:=fun _ => True) (okp:=fun _ => True) ?hr ?hp (fun _ hk => hk) trivial (Below.refl _ _) (Nat.le_refl _) (by simp) ?_;(case hd => rfl);(case hg => rfl);(case hr => first|(go_simp;done)|(go_simp;rfl));(case hp => exact (Reps.one (show Kd.M (Kd.int .i64) _ _ _ t341 [.int .i64 t341] from rfl) (Reps.one (show Kd.M (Kd.int .i64) _ _ _ t342 [.int .i64 t342] from rfl) (Reps.none _ _))))
  intro v344 w63 ho64 hb hg_ hnew_
  clear hg_ hnew_
  (first|rw [← Ny343.out] at ho64|(simp only [Int.reduceToNat] at ho64;rw [← Ny343.out] at ho64))
  have n0_:=rlo ho64
  have n1_:=bkb BK337 hb
  have n2_:=bkb BK338 hb
  have n3_:=bkb BK339 hb
  have n4_:=bkb BK340 hb
  have n5_:=Aside0.mk (below_step (hb_) hb)
  clear BK337
  clear BK338
  clear BK339
  clear BK340
  clear HB
  have HO345:=n0_
  have BK337:=n1_
  have BK338:=n2_
  have BK339:=n3_
  have BK340:=n4_
  have HB:=n5_
  clear n0_ n1_ n2_ n3_ n4_ n5_
  clear hb ho64
  obtain ⟨Ao65,co65,eo65⟩:=Kd.R_slice HO345.out
  (first|subst eo65|(injection eo65 with f1_ f2_ f3_;have f4_:=f1_.symm;have f5_:=f3_.symm;clear f1_ f2_ f3_;subst f4_;subst f5_))
  refine hK.out _ _ ⟨(blk_cell BK337.out 0).trans rfl,(blk_cell BK337.out 1).trans rfl,(blk_cell BK337.out 2).trans rfl,(blk_cell BK338.out 0).trans rfl,(blk_cell BK338.out 1).trans rfl⟩ (fun hHeld => ?_)
  clear hK K
  refine norm_ (a':=?_) ?_ ?_
  rotate_left
  ·show Act.put _ (some 20) _ = _
   simp only [Act.put,List.setIfInBounds_toArray,List.set_cons_zero,List.set_cons_succ,i64_w,i32_w]
   rfl
  refine oI 6 (some 21) (fun K hK => ?_)
  refine goes_ Try.func54 (by kernel_rfl) rfl #[.slice Ao65 y343.length co65] (by rfl) rfl rfl ga_ ?_
  with_reducible refine (api_Errno.calls k _ _ y343 t346 _ ?side1 ?side2 A7.out).mono ?_
  (case side1 => exact Kd.C_up (Kd.R_reads' HO345.out).2.2)
  (case side2 => exact (Kd.R_reads' HO345.out).2.1)
  rintro e w' ⟨rfl,⟨nd,rfl⟩⟩
  refine ⟨_,rfl,?_⟩
  refine hK.out _ _ ⟨(blk_cell BK337.out 0).trans rfl,(blk_cell BK337.out 1).trans rfl,(blk_cell BK337.out 2).trans rfl,(blk_cell BK338.out 0).trans rfl,(blk_cell BK338.out 1).trans rfl⟩ (fun hHeld => ?_)
  clear hK K
  refine norm_ (a':=?_) ?_ ?_
  rotate_left
  ·show Act.put _ (some 21) _ = _
   simp only [Act.put,List.setIfInBounds_toArray,List.set_cons_zero,List.set_cons_succ,i64_w,i32_w]
   rfl
  refine pI 7 (some 11) ?_
  refine done_ (done_of HT_.out (by kernel_rfl)) ?_
  have hnb66:=NB339_337.out
  have hnc66:=NB337_339.out
  have hnb67:=NB339_338.out
  have hnc67:=NB338_339.out
  have hnb68:=NB339_340.out
  have hnc68:=NB340_339.out
  obtain ⟨_,_,_,_,_,_,_,_,_,_⟩:=cells5 BK339.out
  go_upto_region 15 with (first|((with_reducible refine gate_callee (f:=42) rfl ?_);refine goesL_ (some 36) rfl rfl Try.func42 (by kernel_rfl) rfl #[.int .i64 a2_0,.int .i64 a2_1,.int .i64 a2_2,.int .i64 a2_3,.int .i64 a2_4] rfl ga_ ?_;(with_reducible refine (lane_moves.calls a2_0 a2_1 a2_2 a2_3 a2_4 true _ A9.out).mono ?_);rintro e w' ⟨rfl,⟨nd,rfl⟩⟩;refine ⟨_,rfl,?_⟩;(try (rw [drewN_self w63];generalize hq_ : World.drewN w63 _ = w63;have n0_ : Aside0 (Kd.R (Kd.int .i64) 27 w63 w.heap.size (fun _ => True) (.slice Ao65 y343.length co65) y343):=⟨by rw [← hq_];exact (Kd.R_up HO345.out)⟩;have n1_ : Aside0 (w63.heap[gb337]? = some (.cells #[.int .i64 a0_0,.int .i64 a0_1,.slice A0_2 l0_2.length c0_2] 53 (0,0))):=⟨by rw [← hq_];exact (blk_up BK337.out)⟩;have n2_ : Aside0 (w63.heap[gb338]? = some (.cells #[.slice A1_0 l1_0.length c1_0,.slice A1_1 l1_1.length c1_1] 55 (0,0))):=⟨by rw [← hq_];exact (blk_up BK338.out)⟩;have n3_ : Aside0 (w63.heap[gb339]? = some (.cells #[.int .i64 a2_0,.int .i64 a2_1,.int .i64 a2_2,.int .i64 a2_3,.int .i64 a2_4] 57 (0,0))):=⟨by rw [← hq_];exact (blk_up BK339.out)⟩;have n4_ : Aside0 (w63.heap[gb340]? = some (.cells #[.int .i64 0,.int .i64 0,.int .i64 0,.int .i64 0,.int .i64 0] 57 (0,0))):=⟨by rw [← hq_];exact (blk_up BK340.out)⟩;have n5_ : Aside0 (Below w.heap.size w w63):=⟨by rw [← hq_];exact (hb_)⟩;clear HO345 BK337 BK338 BK339 BK340 HB hq_;have HO345:=n0_;have BK337:=n1_;have BK338:=n2_;have BK339:=n3_;have BK340:=n4_;have HB:=n5_;clear n0_ n1_ n2_ n3_ n4_ n5_;obtain ⟨_,_,_,_,_,_,_,_,_,_⟩:=cells5 BK339.out;obtain ⟨_,_,_,_,_,_,_,_,_,_⟩:=cells5 BK340.out;obtain ⟨_,_,_,_,_,_⟩:=cells3 BK337.out;obtain ⟨_,_,_,_⟩:=cells2 BK338.out));have hnb70:=NB337_338.out;have hnc70:=NB338_337.out;have hnb71:=NB337_340.out;have hnc71:=NB340_337.out;obtain ⟨_,_,_,_,_,_⟩:=cells3 BK337.out;have hnb73:=NB338_340.out;have hnc73:=NB340_338.out;obtain ⟨_,_,_,_⟩:=cells2 BK338.out)|((with_reducible refine gate_callee (f:=57) rfl ?_);refine goesL_ (some 47) rfl rfl Try.func57 (by kernel_rfl) rfl #[.agg #[.int .i64 a0_0,.int .i64 a0_1,.slice A0_2 l0_2.length c0_2],.agg #[.slice A1_0 l1_0.length c1_0,.slice A1_1 l1_1.length c1_1],.int .i64 a2_0] rfl ga_ ?_;(with_reducible refine (lane_wet.calls k a0_0 a0_1 _ _ l0_2 _ _ l1_0 _ _ l1_1 a2_0 t348 _ ?_ ?_ ?_ ?_ ?_ ?_ A29.out).mono ?_);exact cq HR0_2;exact HC0_2.out;exact cq HR1_0;exact HC1_0.out;exact cq HR1_1;exact HC1_1.out;rintro e w75 ⟨rfl,hb⟩;refine ⟨_,rfl,?_⟩;replace HO345:=rbw HO345 hb;replace BK337:=bkb BK337 hb;replace BK338:=bkb BK338 hb;replace BK339:=bkb BK339 hb;replace BK340:=bkb BK340 hb;replace HB:=hbs hb;obtain ⟨_,_,_,_,_,_,_,_,_,_⟩:=cells5 BK339.out;obtain ⟨_,_,_,_,_,_⟩:=cells3 BK337.out;obtain ⟨_,_,_,_⟩:=cells2 BK338.out)|((with_reducible refine gate_callee (f:=58) rfl ?_);refine goesL_ (some 68) rfl rfl Try.func58 (by kernel_rfl) rfl #[.agg #[.int .i64 a0_0,.int .i64 a0_1,.slice A0_2 l0_2.length c0_2],.agg #[.slice A1_0 l1_0.length c1_0,.slice A1_1 l1_1.length c1_1],.int .i64 a2_0,.int .i64 a3] rfl ga_ ?_;(with_reducible refine (water_Sail.calls k a0_0 a0_1 _ _ l0_2 _ _ l1_0 _ _ l1_1 a2_0 a3 t349 t352 _ ?_ ?_ ?_ ?_ ?_ ?_ A54.out).mono ?_);exact Kd.C_below HR0_2.out (hb_);exact HC0_2.out;exact Kd.C_below HR1_0.out (hb_);exact HC1_0.out;exact Kd.C_below HR1_1.out (hb_);exact HC1_1.out;rintro e w79 ⟨v350,rfl,ho0,hb⟩;refine ⟨_,rfl,?_⟩;have HO351:=rlo ho0;replace HO345:=Aside0.mk (Kd.R_below (by (with_reducible repeat (first|apply Kd.R_alloc|apply Kd.R_drewN|apply Kd.R_drew));exact (Kd.R_mono (Kd.R_far (p:=⟨gb339,4,none⟩) (Kd.R_types HO345.out BK339.out (by decide)) (fun _ hk => hk.2) (.int .i64 (wrap64 (a2_4 + a2_3)))) (fun _ h_ => h_.1))) hb);replace BK337:=Aside0.mk (blk_below (g:=gb337) (o:=.cells #[.int .i64 a0_0,.int .i64 a0_1,.slice A0_2 l0_2.length c0_2] 53 (0,0)) (by (with_reducible repeat (first|refine blk_drewN ?_ _|refine blk_drew ?_|refine blk_alloc ?_ _));refine blk_far ?_ NB337_339.out _;(with_reducible repeat (first|refine blk_drewN ?_ _|refine blk_drew ?_|refine blk_alloc ?_ _));exact BK337.out) hb);replace BK338:=Aside0.mk (blk_below (g:=gb338) (o:=.cells #[.slice A1_0 l1_0.length c1_0,.slice A1_1 l1_1.length c1_1] 55 (0,0)) (by (with_reducible repeat (first|refine blk_drewN ?_ _|refine blk_drew ?_|refine blk_alloc ?_ _));refine blk_far ?_ NB338_339.out _;(with_reducible repeat (first|refine blk_drewN ?_ _|refine blk_drew ?_|refine blk_alloc ?_ _));exact BK338.out) hb);replace BK339:=Aside0.mk (blk_below (g:=gb339) (o:=.cells #[.int .i64 a2_0,.int .i64 a2_1,.int .i64 a2_2,.int .i64 a2_3,.int .i64 (wrap64 (a2_4 + a2_3))] 57 (0,0)) (by (with_reducible repeat (first|refine blk_drewN ?_ _|refine blk_drew ?_|refine blk_alloc ?_ _));refine blk_put (cs:=#[.int .i64 a2_0,.int .i64 a2_1,.int .i64 a2_2,.int .i64 a2_3,.int .i64 a2_4]) ?_ 4 _ rfl;(with_reducible repeat (first|refine blk_drewN ?_ _|refine blk_drew ?_|refine blk_alloc ?_ _));exact BK339.out) hb);replace BK340:=Aside0.mk (blk_below (g:=gb340) (o:=.cells #[.int .i64 0,.int .i64 0,.int .i64 0,.int .i64 0,.int .i64 0] 57 (0,0)) (by (with_reducible repeat (first|refine blk_drewN ?_ _|refine blk_drew ?_|refine blk_alloc ?_ _));refine blk_far ?_ NB340_339.out _;(with_reducible repeat (first|refine blk_drewN ?_ _|refine blk_drew ?_|refine blk_alloc ?_ _));exact BK340.out) hb);replace HB:=hbs hb))
  (try simp only [Act.put,List.setIfInBounds_toArray,List.set_cons_zero,List.set_cons_succ])
  go_cut [77] (fun v77 wc => ∃ (kq : Nat) (x77_54 : Bool),v77 = .bool x77_54 ∧ Aside0 (lane_Sail.j0 kq t349 x77_54 a0_0 a0_1 l0_2 a2_0 a2_1 a2_2 a2_3 (wrap64 (a2_4 + a2_3)) = some (r1,r2,r3,r4,r5,r6,r7)) ∧ Aside0 (kq ≤ k) ∧ Aside0 (Kd.R (Kd.int .i64) 3 wc w.heap.size (fun _ => True) v350 t349) ∧ Aside0 (wc.heap[gb337]? = some (.cells #[.int .i64 a0_0,.int .i64 a0_1,(.slice A0_2 l0_2.length c0_2)] 53 (0,0))) ∧ Aside0 (wc.heap[gb338]? = some (.cells #[(.slice A1_0 l1_0.length c1_0),(.slice A1_1 l1_1.length c1_1)] 55 (0,0))) ∧ Aside0 (wc.heap[gb339]? = some (.cells #[.int .i64 a2_0,.int .i64 a2_1,.int .i64 a2_2,.int .i64 a2_3,.int .i64 (wrap64 (a2_4 + a2_3))] 57 (0,0))) ∧ Aside0 (wc.heap[gb340]? = some (.cells #[.int .i64 0,.int .i64 0,.int .i64 0,.int .i64 0,.int .i64 0] 57 (0,0))) ∧ Aside0 (Below w.heap.size w wc))
  case first =>
   have H:=HC55.out
   clear HC55
   by_cases c80 : t352 = 0
   ·rw [if_pos c80] at H
    have c80b0:=bqt c80
    have c80b1:=bnf c80
    clear c80
    (first|rw [c80b0]|(simp only [i64_w,i32_w];rw [c80b0])|skip)
    have H':=Aside0.mk H
    clear H
    obtain ⟨Ao81,co81,eo81⟩:=Kd.R_slice HO351.out
    subst eo81
    go_wp2
    go_meet
    case rel => exact ⟨_,(decide ((t349.length : Int) < 2)),(by first|rfl|(simp;done)|(simp [*];done)),H',⟨by first|omega|exact Nat.le_refl _⟩,⟨Kd.R_up HO351.out⟩,⟨blk_up BK337.out⟩,⟨blk_up BK338.out⟩,⟨blk_up BK339.out⟩,⟨blk_up BK340.out⟩,⟨hb_⟩⟩
   ·rw [if_neg c80] at H
    have c80b0:=bqf c80
    have c80b1:=bnt c80
    (first|rw [c80b0]|(simp only [i64_w,i32_w];rw [c80b0])|skip)
    have H':=Aside0.mk H
    clear H
    go_wp2
    go_meet
    case rel => exact ⟨_,(true),(by first|rfl|(simp;done)|(simp [*];done)),H',⟨by first|omega|exact Nat.le_refl _⟩,⟨Kd.R_up HO351.out⟩,⟨blk_up BK337.out⟩,⟨blk_up BK338.out⟩,⟨blk_up BK339.out⟩,⟨blk_up BK340.out⟩,⟨hb_⟩⟩
  case rest =>
   clear HC55
   obtain ⟨kq,x77_54,rfl,HA,HJ54,HO_13,BK337,BK338,BK339,BK340,HB⟩:=hcut
   cases kq with
   | zero => exact absurd HA.out (by simp [lane_Sail.j0])
   | succ kj54 =>
    have H:=HA.out
    clear HA
    simp only [lane_Sail.j0] at H
    by_cases c82 : x77_54 = true
    ·subst c82
     have H1 : (some (a2_0,a2_1,a2_2,0,191,2,0)) = some (r1,r2,r3,r4,r5,r6,r7):=by rw [if_pos rfl] at H;exact H
     clear H
     have H:=H1
     clear H1
     simp only [Option.some.injEq,Prod.mk.injEq] at H
     obtain ⟨rfl,rfl,rfl,rfl,rfl,rfl,rfl⟩:=H
     have hnb83:=NB339_337.out
     have hnc83:=NB337_339.out
     have hnb84:=NB339_338.out
     have hnc84:=NB338_339.out
     have hnb85:=NB339_340.out
     have hnc85:=NB340_339.out
     obtain ⟨_,_,_,_,_,_,_,_,_,_⟩:=cells5 BK339.out
     have hnb87:=NB340_337.out
     have hnc87:=NB337_340.out
     have hnb88:=NB340_338.out
     have hnc88:=NB338_340.out
     obtain ⟨_,_,_,_,_,_,_,_,_,_⟩:=cells5 BK340.out
     go_wp2
     refine bodyPost_ret (results_ctt rfl _ _ gb340 57 #[.int .i64 a2_0,.int .i64 a2_1,.int .i64 a2_2,.int .i64 0,.int .i64 191] (0,0) _ rfl (by (with_reducible repeat (first|refine blk_drewN ?_ _|refine blk_drew ?_|refine blk_alloc ?_ _));refine blk_put (cs:=#[.int .i64 a2_0,.int .i64 a2_1,.int .i64 a2_2,.int .i64 0,.int .i64 0]) ?_ 4 _ rfl;(with_reducible repeat (first|refine blk_drewN ?_ _|refine blk_drew ?_|refine blk_alloc ?_ _));refine blk_put (cs:=#[.int .i64 a2_0,.int .i64 a2_1,.int .i64 a2_2,.int .i64 0,.int .i64 0]) ?_ 3 _ rfl;(with_reducible repeat (first|refine blk_drewN ?_ _|refine blk_drew ?_|refine blk_alloc ?_ _));refine blk_put (cs:=#[.int .i64 a2_0,.int .i64 a2_1,.int .i64 0,.int .i64 0,.int .i64 0]) ?_ 2 _ rfl;(with_reducible repeat (first|refine blk_drewN ?_ _|refine blk_drew ?_|refine blk_alloc ?_ _));refine blk_put (cs:=#[.int .i64 a2_0,.int .i64 0,.int .i64 0,.int .i64 0,.int .i64 0]) ?_ 1 _ rfl;(with_reducible repeat (first|refine blk_drewN ?_ _|refine blk_drew ?_|refine blk_alloc ?_ _));refine blk_put (cs:=#[.int .i64 0,.int .i64 0,.int .i64 0,.int .i64 0,.int .i64 0]) ?_ 0 _ rfl;(with_reducible repeat (first|refine blk_drewN ?_ _|refine blk_drew ?_|refine blk_alloc ?_ _));refine blk_far ?_ NB340_339.out _;(with_reducible repeat (first|refine blk_drewN ?_ _|refine blk_drew ?_|refine blk_alloc ?_ _));refine blk_far ?_ NB340_339.out _;(with_reducible repeat (first|refine blk_drewN ?_ _|refine blk_drew ?_|refine blk_alloc ?_ _));exact BK340.out) Try.underlying57 rfl (by kernel_rfl)) rfl ?_
     exact ⟨er_,hb_⟩
    ·replace c82:=Bool.eq_false_iff.mpr c82
     subst c82
     have H1 : (if 0 < (t349.length : Int) then (if 1 < (t349.length : Int) then ((lane_side.f kj54 a0_0 a0_1 l0_2 (rd t349 0) (rd t349 1)).bind fun t355 => (if (t349.length : Int) > 2 then (if 2 < (t349.length : Int) then ((lane_side.f kj54 a0_0 a0_1 l0_2 (rd t349 1) (rd t349 2)).bind fun t359 => (some (rd t349 1,Int.tmod (wrap64 (t355 + 2)) 4,t359,a2_3,wrap64 ((wrap64 (a2_4 + a2_3)) - 192),0,0))) else (none)) else (some (rd t349 1,Int.tmod (wrap64 (t355 + 2)) 4,t355,a2_3,0,3,0)))) else (none)) else (none)) = some (r1,r2,r3,r4,r5,r6,r7):=by rw [if_neg (show ¬ (false = true) by decide)] at H;exact H
     clear H
     have H:=H1
     clear H1
     replace H:=ifp_ H;obtain ⟨c90,H⟩:=H
     have c90b0 : decide (0 < (t349.length : Int)) = true:=decide_eq_true c90
     have c90b1 : decide (0 < t349.length) = true:=decide_eq_true (by omega)
     clear c90
     replace H:=ifp_ H;obtain ⟨c91,H⟩:=H
     have c91b0 : decide (1 < (t349.length : Int)) = true:=decide_eq_true c91
     have c91b1 : decide (1 < t349.length) = true:=decide_eq_true (by omega)
     clear c91
     replace H:=Option.bind_eq_some_iff.mp H
     obtain ⟨t355,A920,H⟩:=H
     replace H : (if (t349.length : Int) > 2 then (if 2 < (t349.length : Int) then ((lane_side.f kj54 a0_0 a0_1 l0_2 (rd t349 1) (rd t349 2)).bind fun t359 => (some (rd t349 1,Int.tmod (wrap64 (t355 + 2)) 4,t359,a2_3,wrap64 ((wrap64 (a2_4 + a2_3)) - 192),0,0))) else (none)) else (some (rd t349 1,Int.tmod (wrap64 (t355 + 2)) 4,t355,a2_3,0,3,0))) = some (r1,r2,r3,r4,r5,r6,r7):=H
     have A92:=Aside0.mk A920
     clear A920
     by_cases c93 : (t349.length : Int) > 2
     rotate_left
     ·rw [if_neg c93] at H
      have c93b0 : decide (2 < (t349.length : Int)) = false:=decide_eq_false c93
      have c93b1 : decide (2 < t349.length) = false:=decide_eq_false (by omega)
      clear c93
      simp only [Option.some.injEq,Prod.mk.injEq] at H
      obtain ⟨rfl,rfl,rfl,rfl,rfl,rfl,rfl⟩:=H
      try go_wp2
      replace HO_13:=Aside0.mk (Kd.R_drew HO_13.out)
      replace BK337:=Aside0.mk (blk_drew BK337.out)
      replace BK338:=Aside0.mk (blk_drew BK338.out)
      replace BK339:=Aside0.mk (blk_drew BK339.out)
      replace BK340:=Aside0.mk (blk_drew BK340.out)
      replace HB:=Aside0.mk (below_drew1 HB.out)
      obtain ⟨Ao117,co117,eo117⟩:=Kd.R_slice HO_13.out
      (first|subst eo117|(injection eo117 with f1_ f2_ f3_;have f4_:=f1_.symm;have f5_:=f3_.symm;clear f1_ f2_ f3_;subst f4_;subst f5_))
      have p353 : 0 ≤ (0 : Int):=(by omega)
      have q353 : 0 < (t349.length : Int):=of_decide_eq_true (by first|(with_reducible assumption)|assumption)
      obtain ⟨ad353,e353,hx353_0⟩:=Kd.at_int (Kd.R_reads' HO_13.out).2.2 0 p353 q353
      cases e353
      have qi353 : (0 < t349.length) = True:=eq_true (by omega)
      (try rw [show ((0 : Int)).toNat = 0 from rfl] at hx353_0)
      (try rw [Addr.add_zero'] at hx353_0)
      replace p353:=eq_true p353
      replace q353:=eq_true q353
      have p354 : 0 ≤ (1 : Int):=(by omega)
      have q354 : 1 < (t349.length : Int):=of_decide_eq_true (by first|(with_reducible assumption)|assumption)
      obtain ⟨ad354,e354,hx354_0⟩:=Kd.at_int (Kd.R_reads' HO_13.out).2.2 1 p354 q354
      obtain rfl : ad353 = ad354:=(by injection e354)
      (try simp only [show (1 : Int).toNat = 1 from rfl,Nat.reduceMul,Nat.reduceEqDiff,Go.Addr.add,↓reduceIte] at hx354_0)
      have qi354 : (1 < t349.length) = True:=eq_true (by omega)
      (try rw [show ((1 : Int)).toNat = 1 from rfl] at hx354_0)
      replace p354:=eq_true p354
      replace q354:=eq_true q354
      refine start_ (n:=10) (S:=fun w' => w'.cell? ⟨gb337,0,none⟩ = some (.int .i64 a0_0) ∧ w'.cell? ⟨gb337,1,none⟩ = some (.int .i64 a0_1) ∧ w'.cell? ⟨gb337,2,none⟩ = some (.slice A0_2 l0_2.length c0_2) ∧ w'.cell? ad353 = some (.int .i64 (rd t349 0)) ∧ w'.cell? ⟨ad353.block,ad353.off + 1,none⟩ = some (.int .i64 (rd t349 1))) (ds:=[]) #[false,false,false,false,false,false,false,false,false,false] (by kernel_rfl) rfl rfl ⟨(blk_cell BK337.out 0).trans rfl,(blk_cell BK337.out 1).trans rfl,(blk_cell BK337.out 2).trans rfl,hx353_0,hx354_0⟩ (fun hHeld => ?_);refine with_tabW lane_Sail.tab18 lane_Sail.bits18 (fun HT_ HW_ => ?_)
      generalize wc.drew = w116 at HO_13 BK337 BK338 BK339 BK340 HB hx353_0 hx354_0 hHeld ⊢
      refine pI 1 (some 82) ?_
      refine pI 2 (some 83) ?_
      refine pI 4 (some 85) ?_
      refine pI 5 (some 86) ?_
      refine tI5 0 (some 81) hHeld ?_
      refine tI5 3 (some 84) hHeld ?_
      refine tI5 6 (some 87) hHeld ?_
      refine oI 7 (some 88) (fun K hK => ?_)
      refine goes_ Try.func59 (by kernel_rfl) rfl #[.agg #[.int .i64 a0_0,.int .i64 a0_1,.slice A0_2 l0_2.length c0_2],.int .i64 (rd t349 0),.int .i64 (rd t349 1)] (by rfl) rfl rfl ga_ ?_
      with_reducible refine (lane_side.calls kj54 a0_0 a0_1 _ _ l0_2 (rd t349 0) (rd t349 1) t355 _ ?side1 ?side2 A92.out).mono ?_
      (case side1 => exact cq HR0_2)
      (case side2 => exact HC0_2.out)
      rintro e w118 ⟨rfl,hb⟩
      have HS3_:=(hb.cell (World.block_lt_of_cell? _ _ (hHeld.2.2.2.1))).trans (hHeld.2.2.2.1)
      have HS4_:=(hb.cell (World.block_lt_of_cell? _ _ (hHeld.2.2.2.2))).trans (hHeld.2.2.2.2)
      refine ⟨_,rfl,?_⟩
      have n0_:=rbw HO_13 hb
      have n1_:=bkb BK337 hb
      have n2_:=bkb BK338 hb
      have n3_:=bkb BK339 hb
      have n4_:=bkb BK340 hb
      have n5_:=Aside0.mk (below_step (hb_) hb)
      clear HO_13
      clear BK337
      clear BK338
      clear BK339
      clear BK340
      clear HB
      have HO_13:=n0_
      have BK337:=n1_
      have BK338:=n2_
      have BK339:=n3_
      have BK340:=n4_
      have HB:=n5_
      clear n0_ n1_ n2_ n3_ n4_ n5_
      (try clear hb)
      (try clear hb2)
      (try clear hk)
      (try clear hi)
      refine hK.out _ _ ⟨(blk_cell BK337.out 0).trans rfl,(blk_cell BK337.out 1).trans rfl,(blk_cell BK337.out 2).trans rfl,HS3_,HS4_⟩ (fun hHeld => ?_)
      clear hK K
      refine norm_ (a':=?_) ?_ ?_
      rotate_left
      ·show Act.put _ (some 88) _ = _
       simp only [Act.put,List.setIfInBounds_toArray,List.set_cons_zero,List.set_cons_succ,i64_w,i32_w]
       rfl
      refine pI 8 (some 89) ?_
      refine oI 9 (none) (fun K hK => ?_)
      have hs119 : w118.cell? ⟨gb339,2,none⟩ = some (.int .i64 a2_2):=(blk_cell BK339.out 2).trans rfl
      have hfs119:=blk_frozen BK339.out 2
      have hns119_0:=NB337_339.out
      have hns119_1:=NB338_339.out
      have hns119_3:=NB340_339.out
      have hms119_0:=NB339_337.out
      have hms119_1:=NB339_338.out
      have hms119_3:=NB339_340.out
      refine skip_ (w1:=?_) (by rfl) rfl ?_ ?_
      rotate_left
      ·go_simp
       rfl
      refine hK.out _ _ ⟨((cell_far (p:=⟨gb339,_,none⟩) NB337_339.out _).trans (hHeld.1)),((cell_far (p:=⟨gb339,_,none⟩) NB337_339.out _).trans (hHeld.2.1)),((cell_far (p:=⟨gb339,_,none⟩) NB337_339.out _).trans (hHeld.2.2.1)),((cell_far (p:=⟨gb339,_,none⟩) (by have hq_:=Kd.own_blk (Kd.R_ne HO_13.out BK339.out (by decide));exact hq_) _).trans (hHeld.2.2.2.1)),((cell_far (p:=⟨gb339,_,none⟩) (by have hq_:=Kd.own_blk (Kd.R_ne HO_13.out BK339.out (by decide));exact hq_) _).trans (hHeld.2.2.2.2))⟩ (fun hHeld => ?_)
      clear hK K
      refine done_ (done_of HT_.out (by kernel_rfl)) ?_
      have hnb120:=NB339_337.out
      have hnc120:=NB337_339.out
      have hnb121:=NB339_338.out
      have hnc121:=NB338_339.out
      have hnb122:=NB339_340.out
      have hnc122:=NB340_339.out
      obtain ⟨_,_,_,_,_,_,_,_,_,_⟩:=cells5 BK339.out
      try go_wp2
      have n0_ : Aside0 (Kd.R (Kd.int .i64) 3 ((w118.setCell ⟨gb339,2,none⟩ (.int .i64 t355)).setCell ⟨gb339,1,none⟩ (.int .i64 (Int.tmod (wrap64 (t355 + 2)) 4))) w.heap.size (fun _ => True) (.slice (some ad353) t349.length co117) t349):=⟨by (with_reducible repeat (first|apply Kd.R_alloc|apply Kd.R_drewN|apply Kd.R_drew));exact Kd.R_mono (Kd.R_fars gb339 (Kd.R_types HO_13.out BK339.out (by decide)) (fun _ hk => hk.2)) (fun _ hk => trivial)⟩
      have n1_ : Aside0 (((w118.setCell ⟨gb339,2,none⟩ (.int .i64 t355)).setCell ⟨gb339,1,none⟩ (.int .i64 (Int.tmod (wrap64 (t355 + 2)) 4))).heap[gb337]? = some (.cells #[.int .i64 a0_0,.int .i64 a0_1,.slice A0_2 l0_2.length c0_2] 53 (0,0))):=⟨by (with_reducible repeat (first|refine blk_drewN ?_ _|refine blk_drew ?_|refine blk_alloc ?_ _));refine blk_far ?_ NB337_339.out _;(with_reducible repeat (first|refine blk_drewN ?_ _|refine blk_drew ?_|refine blk_alloc ?_ _));refine blk_far ?_ NB337_339.out _;(with_reducible repeat (first|refine blk_drewN ?_ _|refine blk_drew ?_|refine blk_alloc ?_ _));exact BK337.out⟩
      have n2_ : Aside0 (((w118.setCell ⟨gb339,2,none⟩ (.int .i64 t355)).setCell ⟨gb339,1,none⟩ (.int .i64 (Int.tmod (wrap64 (t355 + 2)) 4))).heap[gb338]? = some (.cells #[.slice A1_0 l1_0.length c1_0,.slice A1_1 l1_1.length c1_1] 55 (0,0))):=⟨by (with_reducible repeat (first|refine blk_drewN ?_ _|refine blk_drew ?_|refine blk_alloc ?_ _));refine blk_far ?_ NB338_339.out _;(with_reducible repeat (first|refine blk_drewN ?_ _|refine blk_drew ?_|refine blk_alloc ?_ _));refine blk_far ?_ NB338_339.out _;(with_reducible repeat (first|refine blk_drewN ?_ _|refine blk_drew ?_|refine blk_alloc ?_ _));exact BK338.out⟩
      have n3_ : Aside0 (((w118.setCell ⟨gb339,2,none⟩ (.int .i64 t355)).setCell ⟨gb339,1,none⟩ (.int .i64 (Int.tmod (wrap64 (t355 + 2)) 4))).heap[gb339]? = some (.cells #[.int .i64 a2_0,.int .i64 (Int.tmod (wrap64 (t355 + 2)) 4),.int .i64 t355,.int .i64 a2_3,.int .i64 (wrap64 (a2_4 + a2_3))] 57 (0,0))):=⟨by (with_reducible repeat (first|refine blk_drewN ?_ _|refine blk_drew ?_|refine blk_alloc ?_ _));refine blk_put (cs:=#[.int .i64 a2_0,.int .i64 a2_1,.int .i64 t355,.int .i64 a2_3,.int .i64 (wrap64 (a2_4 + a2_3))]) ?_ 1 _ rfl;(with_reducible repeat (first|refine blk_drewN ?_ _|refine blk_drew ?_|refine blk_alloc ?_ _));refine blk_put (cs:=#[.int .i64 a2_0,.int .i64 a2_1,.int .i64 a2_2,.int .i64 a2_3,.int .i64 (wrap64 (a2_4 + a2_3))]) ?_ 2 _ rfl;(with_reducible repeat (first|refine blk_drewN ?_ _|refine blk_drew ?_|refine blk_alloc ?_ _));exact BK339.out⟩
      have n4_ : Aside0 (((w118.setCell ⟨gb339,2,none⟩ (.int .i64 t355)).setCell ⟨gb339,1,none⟩ (.int .i64 (Int.tmod (wrap64 (t355 + 2)) 4))).heap[gb340]? = some (.cells #[.int .i64 0,.int .i64 0,.int .i64 0,.int .i64 0,.int .i64 0] 57 (0,0))):=⟨by (with_reducible repeat (first|refine blk_drewN ?_ _|refine blk_drew ?_|refine blk_alloc ?_ _));refine blk_far ?_ NB340_339.out _;(with_reducible repeat (first|refine blk_drewN ?_ _|refine blk_drew ?_|refine blk_alloc ?_ _));refine blk_far ?_ NB340_339.out _;(with_reducible repeat (first|refine blk_drewN ?_ _|refine blk_drew ?_|refine blk_alloc ?_ _));exact BK340.out⟩
      have n5_ : Aside0 (Below w.heap.size w ((w118.setCell ⟨gb339,2,none⟩ (.int .i64 t355)).setCell ⟨gb339,1,none⟩ (.int .i64 (Int.tmod (wrap64 (t355 + 2)) 4)))):=⟨hb_⟩
      (try clear HO_13)
      (try clear BK337)
      (try clear BK338)
      (try clear BK339)
      (try clear BK340)
      (try clear HB)
      generalize ((w118.setCell ⟨gb339,2,none⟩ (.int .i64 t355)).setCell ⟨gb339,1,none⟩ (.int .i64 (Int.tmod (wrap64 (t355 + 2)) 4))) = w124 at n0_ n1_ n2_ n3_ n4_ n5_ ⊢
      have HO_13:=n0_
      have BK337:=n1_
      have BK338:=n2_
      have BK339:=n3_
      have BK340:=n4_
      have HB:=n5_
      clear n0_ n1_ n2_ n3_ n4_ n5_
      replace HO_13:=Aside0.mk (Kd.R_drew HO_13.out)
      replace BK337:=Aside0.mk (blk_drew BK337.out)
      replace BK338:=Aside0.mk (blk_drew BK338.out)
      replace BK339:=Aside0.mk (blk_drew BK339.out)
      replace BK340:=Aside0.mk (blk_drew BK340.out)
      replace HB:=Aside0.mk (below_drew1 HB.out)
      have p356 : 0 ≤ (1 : Int):=(by omega)
      have q356 : 1 < (t349.length : Int):=of_decide_eq_true (by first|(with_reducible assumption)|assumption)
      obtain ⟨ad356,e356,hx356_0⟩:=Kd.at_int (Kd.R_reads' HO_13.out).2.2 1 p356 q356
      obtain rfl : ad353 = ad356:=(by injection e356)
      (try simp only [show (1 : Int).toNat = 1 from rfl,Nat.reduceMul,Nat.reduceEqDiff,Go.Addr.add,↓reduceIte] at hx356_0)
      have qi356 : (1 < t349.length) = True:=eq_true (by omega)
      (try rw [show ((1 : Int)).toNat = 1 from rfl] at hx356_0)
      replace p356:=eq_true p356
      replace q356:=eq_true q356
      refine start_ (n:=10) (S:=fun w' => w'.cell? ⟨gb339,0,none⟩ = some (.int .i64 a2_0) ∧ w'.cell? ⟨gb339,1,none⟩ = some (.int .i64 (Int.tmod (wrap64 (t355 + 2)) 4)) ∧ w'.cell? ⟨gb339,2,none⟩ = some (.int .i64 t355) ∧ w'.cell? ⟨gb339,3,none⟩ = some (.int .i64 a2_3) ∧ w'.cell? ⟨gb339,4,none⟩ = some (.int .i64 (wrap64 (a2_4 + a2_3))) ∧ w'.cell? ⟨ad353.block,ad353.off + 1,none⟩ = some (.int .i64 (rd t349 1))) (ds:=[7,9]) #[false,false,false,false,false,false,false,false,false,false] (by kernel_rfl) rfl rfl ⟨(blk_cell BK339.out 0).trans rfl,(blk_cell BK339.out 1).trans rfl,(blk_cell BK339.out 2).trans rfl,(blk_cell BK339.out 3).trans rfl,(blk_cell BK339.out 4).trans rfl,hx356_0⟩ (fun hHeld => ?_);refine with_tabW lane_Sail.tab20 lane_Sail.bits20 (fun HT_ HW_ => ?_)
      generalize w124.drew = w125 at HO_13 BK337 BK338 BK339 BK340 HB hx356_0 hHeld ⊢
      refine pI 0 (some 95) ?_
      refine pI 1 (some 96) ?_
      refine pI 3 (some 98) ?_
      refine tI6 2 (some 97) hHeld ?_
      refine tI6 4 (some 99) hHeld ?_
      refine pI 5 (some 100) ?_
      refine pI 6 (some 101) ?_
      refine last_ (i:=7) (N:=none) #[true,true,true,true,true,true,true,true,false,false] rfl rfl (one_of HT_.out (by kernel_rfl)) (by decide) (fun K hK => ?_)
      have hs126 : w125.cell? ⟨gb339,0,none⟩ = some (.int .i64 a2_0):=(blk_cell BK339.out 0).trans rfl
      have hfs126:=blk_frozen BK339.out 0
      have hns126_0:=NB337_339.out
      have hns126_1:=NB338_339.out
      have hns126_3:=NB340_339.out
      have hms126_0:=NB339_337.out
      have hms126_1:=NB339_338.out
      have hms126_3:=NB339_340.out
      refine skip_ (w1:=?_) (by rfl) rfl ?_ ?_
      rotate_left
      ·go_simp
       rfl
      refine hK.out _ _ ?_
      clear hK K
      refine pI 8 (some 102) ?_
      refine last_ (i:=9) (N:=none) #[true,true,true,true,true,true,true,true,true,true] rfl rfl (one_of HT_.out (by kernel_rfl)) (by decide) (fun K hK => ?_)
      have hs127 : w125.cell? ⟨gb339,4,none⟩ = some (.int .i64 (wrap64 (a2_4 + a2_3))):=(blk_cell BK339.out 4).trans rfl
      have hfs127:=blk_frozen BK339.out 4
      have hns127_0:=NB337_339.out
      have hns127_1:=NB338_339.out
      have hns127_3:=NB340_339.out
      have hms127_0:=NB339_337.out
      have hms127_1:=NB339_338.out
      have hms127_3:=NB339_340.out
      refine skip_ (w1:=?_) (by rfl) rfl ?_ ?_
      rotate_left
      ·go_simp
       rfl
      refine hK.out _ _ ?_
      clear hK K
      refine done_ (done_of HT_.out (by kernel_rfl)) ?_
      have n3_ : Aside0 (((w125.setCell ⟨gb339,0,none⟩ (.int .i64 (rd t349 1))).setCell ⟨gb339,4,none⟩ (.int .i64 (wrap64 ((wrap64 (a2_4 + a2_3)) - 192)))).heap[gb339]? = some (.cells #[.int .i64 (rd t349 1),.int .i64 (Int.tmod (wrap64 (t355 + 2)) 4),.int .i64 t355,.int .i64 a2_3,.int .i64 (wrap64 ((wrap64 (a2_4 + a2_3)) - 192))] 57 (0,0))):=⟨by refine blk_put (cs:=#[.int .i64 (rd t349 1),.int .i64 (Int.tmod (wrap64 (t355 + 2)) 4),.int .i64 t355,.int .i64 a2_3,.int .i64 (wrap64 (a2_4 + a2_3))]) ?_ 4 _ rfl;refine blk_put (cs:=#[.int .i64 a2_0,.int .i64 (Int.tmod (wrap64 (t355 + 2)) 4),.int .i64 t355,.int .i64 a2_3,.int .i64 (wrap64 (a2_4 + a2_3))]) ?_ 0 _ rfl;exact BK339.out⟩
      have n4_ : Aside0 (((w125.setCell ⟨gb339,0,none⟩ (.int .i64 (rd t349 1))).setCell ⟨gb339,4,none⟩ (.int .i64 (wrap64 ((wrap64 (a2_4 + a2_3)) - 192)))).heap[gb340]? = some (.cells #[.int .i64 0,.int .i64 0,.int .i64 0,.int .i64 0,.int .i64 0] 57 (0,0))):=⟨by refine blk_far ?_ NB340_339.out _;refine blk_far ?_ NB340_339.out _;exact BK340.out⟩
      have n5_ : Aside0 (Below w.heap.size w ((w125.setCell ⟨gb339,0,none⟩ (.int .i64 (rd t349 1))).setCell ⟨gb339,4,none⟩ (.int .i64 (wrap64 ((wrap64 (a2_4 + a2_3)) - 192))))):=⟨hb_⟩
      clear BK339
      clear BK340
      clear HB
      generalize ((w125.setCell ⟨gb339,0,none⟩ (.int .i64 (rd t349 1))).setCell ⟨gb339,4,none⟩ (.int .i64 (wrap64 ((wrap64 (a2_4 + a2_3)) - 192)))) = w128 at n3_ n4_ n5_ ⊢
      have BK339:=n3_
      have BK340:=n4_
      have HB:=n5_
      clear n3_ n4_ n5_
      obtain ⟨_,_,_,_,_,_,_,_,_,_⟩:=cells5 BK339.out
      have hnb129:=NB340_337.out
      have hnc129:=NB337_340.out
      have hnb130:=NB340_338.out
      have hnc130:=NB338_340.out
      obtain ⟨_,_,_,_,_,_,_,_,_,_⟩:=cells5 BK340.out
      try go_wp2
      refine bodyPost_ret (results_ctt rfl _ _ gb340 57 #[.int .i64 (rd t349 1),.int .i64 (Int.tmod (wrap64 (t355 + 2)) 4),.int .i64 t355,.int .i64 a2_3,.int .i64 0] (0,0) _ rfl (by (with_reducible repeat (first|refine blk_drewN ?_ _|refine blk_drew ?_|refine blk_alloc ?_ _));refine blk_put (cs:=#[.int .i64 (rd t349 1),.int .i64 (Int.tmod (wrap64 (t355 + 2)) 4),.int .i64 t355,.int .i64 a2_3,.int .i64 0]) ?_ 4 _ rfl;(with_reducible repeat (first|refine blk_drewN ?_ _|refine blk_drew ?_|refine blk_alloc ?_ _));refine blk_put (cs:=#[.int .i64 (rd t349 1),.int .i64 (Int.tmod (wrap64 (t355 + 2)) 4),.int .i64 t355,.int .i64 0,.int .i64 0]) ?_ 3 _ rfl;(with_reducible repeat (first|refine blk_drewN ?_ _|refine blk_drew ?_|refine blk_alloc ?_ _));refine blk_put (cs:=#[.int .i64 (rd t349 1),.int .i64 (Int.tmod (wrap64 (t355 + 2)) 4),.int .i64 0,.int .i64 0,.int .i64 0]) ?_ 2 _ rfl;(with_reducible repeat (first|refine blk_drewN ?_ _|refine blk_drew ?_|refine blk_alloc ?_ _));refine blk_put (cs:=#[.int .i64 (rd t349 1),.int .i64 0,.int .i64 0,.int .i64 0,.int .i64 0]) ?_ 1 _ rfl;(with_reducible repeat (first|refine blk_drewN ?_ _|refine blk_drew ?_|refine blk_alloc ?_ _));refine blk_put (cs:=#[.int .i64 0,.int .i64 0,.int .i64 0,.int .i64 0,.int .i64 0]) ?_ 0 _ rfl;(with_reducible repeat (first|refine blk_drewN ?_ _|refine blk_drew ?_|refine blk_alloc ?_ _));refine blk_far ?_ NB340_339.out _;(with_reducible repeat (first|refine blk_drewN ?_ _|refine blk_drew ?_|refine blk_alloc ?_ _));exact BK340.out) Try.underlying57 rfl (by kernel_rfl)) rfl ?_
      exact ⟨er_,hb_⟩
     rw [if_pos c93] at H
     have c93b0 : decide (2 < (t349.length : Int)) = true:=decide_eq_true c93
     have c93b1 : decide (2 < t349.length) = true:=decide_eq_true (by omega)
     clear c93
     replace H:=ifp_ H;obtain ⟨c94,H⟩:=H
     have c94b0 : decide (2 < (t349.length : Int)) = true:=decide_eq_true c94
     have c94b1 : decide (2 < t349.length) = true:=decide_eq_true (by omega)
     clear c94
     replace H:=Option.bind_eq_some_iff.mp H
     obtain ⟨t359,A950,H⟩:=H
     replace H : (some (rd t349 1,Int.tmod (wrap64 (t355 + 2)) 4,t359,a2_3,wrap64 ((wrap64 (a2_4 + a2_3)) - 192),0,0)) = some (r1,r2,r3,r4,r5,r6,r7):=H
     have A95:=Aside0.mk A950
     clear A950
     simp only [Option.some.injEq,Prod.mk.injEq] at H
     obtain ⟨rfl,rfl,rfl,rfl,rfl,rfl,rfl⟩:=H
     try go_wp2
     replace HO_13:=Aside0.mk (Kd.R_drew HO_13.out)
     replace BK337:=Aside0.mk (blk_drew BK337.out)
     replace BK338:=Aside0.mk (blk_drew BK338.out)
     replace BK339:=Aside0.mk (blk_drew BK339.out)
     replace BK340:=Aside0.mk (blk_drew BK340.out)
     replace HB:=Aside0.mk (below_drew1 HB.out)
     obtain ⟨Ao97,co97,eo97⟩:=Kd.R_slice HO_13.out
     (first|subst eo97|(injection eo97 with f1_ f2_ f3_;have f4_:=f1_.symm;have f5_:=f3_.symm;clear f1_ f2_ f3_;subst f4_;subst f5_))
     have p353 : 0 ≤ (0 : Int):=(by omega)
     have q353 : 0 < (t349.length : Int):=of_decide_eq_true (by first|(with_reducible assumption)|assumption)
     obtain ⟨ad353,e353,hx353_0⟩:=Kd.at_int (Kd.R_reads' HO_13.out).2.2 0 p353 q353
     cases e353
     have qi353 : (0 < t349.length) = True:=eq_true (by omega)
     (try rw [show ((0 : Int)).toNat = 0 from rfl] at hx353_0)
     (try rw [Addr.add_zero'] at hx353_0)
     replace p353:=eq_true p353
     replace q353:=eq_true q353
     have p354 : 0 ≤ (1 : Int):=(by omega)
     have q354 : 1 < (t349.length : Int):=of_decide_eq_true (by first|(with_reducible assumption)|assumption)
     obtain ⟨ad354,e354,hx354_0⟩:=Kd.at_int (Kd.R_reads' HO_13.out).2.2 1 p354 q354
     obtain rfl : ad353 = ad354:=(by injection e354)
     (try simp only [show (1 : Int).toNat = 1 from rfl,Nat.reduceMul,Nat.reduceEqDiff,Go.Addr.add,↓reduceIte] at hx354_0)
     have qi354 : (1 < t349.length) = True:=eq_true (by omega)
     (try rw [show ((1 : Int)).toNat = 1 from rfl] at hx354_0)
     replace p354:=eq_true p354
     replace q354:=eq_true q354
     refine start_ (n:=10) (S:=fun w' => w'.cell? ⟨gb337,0,none⟩ = some (.int .i64 a0_0) ∧ w'.cell? ⟨gb337,1,none⟩ = some (.int .i64 a0_1) ∧ w'.cell? ⟨gb337,2,none⟩ = some (.slice A0_2 l0_2.length c0_2) ∧ w'.cell? ad353 = some (.int .i64 (rd t349 0)) ∧ w'.cell? ⟨ad353.block,ad353.off + 1,none⟩ = some (.int .i64 (rd t349 1))) (ds:=[]) #[false,false,false,false,false,false,false,false,false,false] (by kernel_rfl) rfl rfl ⟨(blk_cell BK337.out 0).trans rfl,(blk_cell BK337.out 1).trans rfl,(blk_cell BK337.out 2).trans rfl,hx353_0,hx354_0⟩ (fun hHeld => ?_);refine with_tabW lane_Sail.tab18 lane_Sail.bits18 (fun HT_ HW_ => ?_)
     generalize wc.drew = w96 at HO_13 BK337 BK338 BK339 BK340 HB hx353_0 hx354_0 hHeld ⊢
     refine pI 1 (some 82) ?_
     refine pI 2 (some 83) ?_
     refine pI 4 (some 85) ?_
     refine pI 5 (some 86) ?_
     refine tI5 0 (some 81) hHeld ?_
     refine tI5 3 (some 84) hHeld ?_
     refine tI5 6 (some 87) hHeld ?_
     refine oI 7 (some 88) (fun K hK => ?_)
     refine goes_ Try.func59 (by kernel_rfl) rfl #[.agg #[.int .i64 a0_0,.int .i64 a0_1,.slice A0_2 l0_2.length c0_2],.int .i64 (rd t349 0),.int .i64 (rd t349 1)] (by rfl) rfl rfl ga_ ?_
     with_reducible refine (lane_side.calls kj54 a0_0 a0_1 _ _ l0_2 (rd t349 0) (rd t349 1) t355 _ ?side1 ?side2 A92.out).mono ?_
     (case side1 => exact cq HR0_2)
     (case side2 => exact HC0_2.out)
     rintro e w98 ⟨rfl,hb⟩
     have HS3_:=(hb.cell (World.block_lt_of_cell? _ _ (hHeld.2.2.2.1))).trans (hHeld.2.2.2.1)
     have HS4_:=(hb.cell (World.block_lt_of_cell? _ _ (hHeld.2.2.2.2))).trans (hHeld.2.2.2.2)
     refine ⟨_,rfl,?_⟩
     have n0_:=rbw HO_13 hb
     have n1_:=bkb BK337 hb
     have n2_:=bkb BK338 hb
     have n3_:=bkb BK339 hb
     have n4_:=bkb BK340 hb
     have n5_:=Aside0.mk (below_step (hb_) hb)
     clear HO_13
     clear BK337
     clear BK338
     clear BK339
     clear BK340
     clear HB
     have HO_13:=n0_
     have BK337:=n1_
     have BK338:=n2_
     have BK339:=n3_
     have BK340:=n4_
     have HB:=n5_
     clear n0_ n1_ n2_ n3_ n4_ n5_
     (try clear hb)
     (try clear hb2)
     (try clear hk)
     (try clear hi)
     refine hK.out _ _ ⟨(blk_cell BK337.out 0).trans rfl,(blk_cell BK337.out 1).trans rfl,(blk_cell BK337.out 2).trans rfl,HS3_,HS4_⟩ (fun hHeld => ?_)
     clear hK K
     refine norm_ (a':=?_) ?_ ?_
     rotate_left
     ·show Act.put _ (some 88) _ = _
      simp only [Act.put,List.setIfInBounds_toArray,List.set_cons_zero,List.set_cons_succ,i64_w,i32_w]
      rfl
     refine pI 8 (some 89) ?_
     refine oI 9 (none) (fun K hK => ?_)
     have hs99 : w98.cell? ⟨gb339,2,none⟩ = some (.int .i64 a2_2):=(blk_cell BK339.out 2).trans rfl
     have hfs99:=blk_frozen BK339.out 2
     have hns99_0:=NB337_339.out
     have hns99_1:=NB338_339.out
     have hns99_3:=NB340_339.out
     have hms99_0:=NB339_337.out
     have hms99_1:=NB339_338.out
     have hms99_3:=NB339_340.out
     refine skip_ (w1:=?_) (by rfl) rfl ?_ ?_
     rotate_left
     ·go_simp
      rfl
     refine hK.out _ _ ⟨((cell_far (p:=⟨gb339,_,none⟩) NB337_339.out _).trans (hHeld.1)),((cell_far (p:=⟨gb339,_,none⟩) NB337_339.out _).trans (hHeld.2.1)),((cell_far (p:=⟨gb339,_,none⟩) NB337_339.out _).trans (hHeld.2.2.1)),((cell_far (p:=⟨gb339,_,none⟩) (by have hq_:=Kd.own_blk (Kd.R_ne HO_13.out BK339.out (by decide));exact hq_) _).trans (hHeld.2.2.2.1)),((cell_far (p:=⟨gb339,_,none⟩) (by have hq_:=Kd.own_blk (Kd.R_ne HO_13.out BK339.out (by decide));exact hq_) _).trans (hHeld.2.2.2.2))⟩ (fun hHeld => ?_)
     clear hK K
     refine done_ (done_of HT_.out (by kernel_rfl)) ?_
     have hnb100:=NB339_337.out
     have hnc100:=NB337_339.out
     have hnb101:=NB339_338.out
     have hnc101:=NB338_339.out
     have hnb102:=NB339_340.out
     have hnc102:=NB340_339.out
     obtain ⟨_,_,_,_,_,_,_,_,_,_⟩:=cells5 BK339.out
     try go_wp2
     have n0_ : Aside0 (Kd.R (Kd.int .i64) 3 ((w98.setCell ⟨gb339,2,none⟩ (.int .i64 t355)).setCell ⟨gb339,1,none⟩ (.int .i64 (Int.tmod (wrap64 (t355 + 2)) 4))) w.heap.size (fun _ => True) (.slice (some ad353) t349.length co97) t349):=⟨by (with_reducible repeat (first|apply Kd.R_alloc|apply Kd.R_drewN|apply Kd.R_drew));exact Kd.R_mono (Kd.R_fars gb339 (Kd.R_types HO_13.out BK339.out (by decide)) (fun _ hk => hk.2)) (fun _ hk => trivial)⟩
     have n1_ : Aside0 (((w98.setCell ⟨gb339,2,none⟩ (.int .i64 t355)).setCell ⟨gb339,1,none⟩ (.int .i64 (Int.tmod (wrap64 (t355 + 2)) 4))).heap[gb337]? = some (.cells #[.int .i64 a0_0,.int .i64 a0_1,.slice A0_2 l0_2.length c0_2] 53 (0,0))):=⟨by (with_reducible repeat (first|refine blk_drewN ?_ _|refine blk_drew ?_|refine blk_alloc ?_ _));refine blk_far ?_ NB337_339.out _;(with_reducible repeat (first|refine blk_drewN ?_ _|refine blk_drew ?_|refine blk_alloc ?_ _));refine blk_far ?_ NB337_339.out _;(with_reducible repeat (first|refine blk_drewN ?_ _|refine blk_drew ?_|refine blk_alloc ?_ _));exact BK337.out⟩
     have n2_ : Aside0 (((w98.setCell ⟨gb339,2,none⟩ (.int .i64 t355)).setCell ⟨gb339,1,none⟩ (.int .i64 (Int.tmod (wrap64 (t355 + 2)) 4))).heap[gb338]? = some (.cells #[.slice A1_0 l1_0.length c1_0,.slice A1_1 l1_1.length c1_1] 55 (0,0))):=⟨by (with_reducible repeat (first|refine blk_drewN ?_ _|refine blk_drew ?_|refine blk_alloc ?_ _));refine blk_far ?_ NB338_339.out _;(with_reducible repeat (first|refine blk_drewN ?_ _|refine blk_drew ?_|refine blk_alloc ?_ _));refine blk_far ?_ NB338_339.out _;(with_reducible repeat (first|refine blk_drewN ?_ _|refine blk_drew ?_|refine blk_alloc ?_ _));exact BK338.out⟩
     have n3_ : Aside0 (((w98.setCell ⟨gb339,2,none⟩ (.int .i64 t355)).setCell ⟨gb339,1,none⟩ (.int .i64 (Int.tmod (wrap64 (t355 + 2)) 4))).heap[gb339]? = some (.cells #[.int .i64 a2_0,.int .i64 (Int.tmod (wrap64 (t355 + 2)) 4),.int .i64 t355,.int .i64 a2_3,.int .i64 (wrap64 (a2_4 + a2_3))] 57 (0,0))):=⟨by (with_reducible repeat (first|refine blk_drewN ?_ _|refine blk_drew ?_|refine blk_alloc ?_ _));refine blk_put (cs:=#[.int .i64 a2_0,.int .i64 a2_1,.int .i64 t355,.int .i64 a2_3,.int .i64 (wrap64 (a2_4 + a2_3))]) ?_ 1 _ rfl;(with_reducible repeat (first|refine blk_drewN ?_ _|refine blk_drew ?_|refine blk_alloc ?_ _));refine blk_put (cs:=#[.int .i64 a2_0,.int .i64 a2_1,.int .i64 a2_2,.int .i64 a2_3,.int .i64 (wrap64 (a2_4 + a2_3))]) ?_ 2 _ rfl;(with_reducible repeat (first|refine blk_drewN ?_ _|refine blk_drew ?_|refine blk_alloc ?_ _));exact BK339.out⟩
     have n4_ : Aside0 (((w98.setCell ⟨gb339,2,none⟩ (.int .i64 t355)).setCell ⟨gb339,1,none⟩ (.int .i64 (Int.tmod (wrap64 (t355 + 2)) 4))).heap[gb340]? = some (.cells #[.int .i64 0,.int .i64 0,.int .i64 0,.int .i64 0,.int .i64 0] 57 (0,0))):=⟨by (with_reducible repeat (first|refine blk_drewN ?_ _|refine blk_drew ?_|refine blk_alloc ?_ _));refine blk_far ?_ NB340_339.out _;(with_reducible repeat (first|refine blk_drewN ?_ _|refine blk_drew ?_|refine blk_alloc ?_ _));refine blk_far ?_ NB340_339.out _;(with_reducible repeat (first|refine blk_drewN ?_ _|refine blk_drew ?_|refine blk_alloc ?_ _));exact BK340.out⟩
     have n5_ : Aside0 (Below w.heap.size w ((w98.setCell ⟨gb339,2,none⟩ (.int .i64 t355)).setCell ⟨gb339,1,none⟩ (.int .i64 (Int.tmod (wrap64 (t355 + 2)) 4)))):=⟨hb_⟩
     (try clear HO_13)
     (try clear BK337)
     (try clear BK338)
     (try clear BK339)
     (try clear BK340)
     (try clear HB)
     generalize ((w98.setCell ⟨gb339,2,none⟩ (.int .i64 t355)).setCell ⟨gb339,1,none⟩ (.int .i64 (Int.tmod (wrap64 (t355 + 2)) 4))) = w104 at n0_ n1_ n2_ n3_ n4_ n5_ ⊢
     have HO_13:=n0_
     have BK337:=n1_
     have BK338:=n2_
     have BK339:=n3_
     have BK340:=n4_
     have HB:=n5_
     clear n0_ n1_ n2_ n3_ n4_ n5_
     replace HO_13:=Aside0.mk (Kd.R_drew HO_13.out)
     replace BK337:=Aside0.mk (blk_drew BK337.out)
     replace BK338:=Aside0.mk (blk_drew BK338.out)
     replace BK339:=Aside0.mk (blk_drew BK339.out)
     replace BK340:=Aside0.mk (blk_drew BK340.out)
     replace HB:=Aside0.mk (below_drew1 HB.out)
     have p356 : 0 ≤ (1 : Int):=(by omega)
     have q356 : 1 < (t349.length : Int):=of_decide_eq_true (by first|(with_reducible assumption)|assumption)
     obtain ⟨ad356,e356,hx356_0⟩:=Kd.at_int (Kd.R_reads' HO_13.out).2.2 1 p356 q356
     obtain rfl : ad353 = ad356:=(by injection e356)
     (try simp only [show (1 : Int).toNat = 1 from rfl,Nat.reduceMul,Nat.reduceEqDiff,Go.Addr.add,↓reduceIte] at hx356_0)
     have qi356 : (1 < t349.length) = True:=eq_true (by omega)
     (try rw [show ((1 : Int)).toNat = 1 from rfl] at hx356_0)
     replace p356:=eq_true p356
     replace q356:=eq_true q356
     refine start_ (n:=10) (S:=fun w' => w'.cell? ⟨gb339,0,none⟩ = some (.int .i64 a2_0) ∧ w'.cell? ⟨gb339,1,none⟩ = some (.int .i64 (Int.tmod (wrap64 (t355 + 2)) 4)) ∧ w'.cell? ⟨gb339,2,none⟩ = some (.int .i64 t355) ∧ w'.cell? ⟨gb339,3,none⟩ = some (.int .i64 a2_3) ∧ w'.cell? ⟨gb339,4,none⟩ = some (.int .i64 (wrap64 (a2_4 + a2_3))) ∧ w'.cell? ⟨ad353.block,ad353.off + 1,none⟩ = some (.int .i64 (rd t349 1))) (ds:=[7,9]) #[false,false,false,false,false,false,false,false,false,false] (by kernel_rfl) rfl rfl ⟨(blk_cell BK339.out 0).trans rfl,(blk_cell BK339.out 1).trans rfl,(blk_cell BK339.out 2).trans rfl,(blk_cell BK339.out 3).trans rfl,(blk_cell BK339.out 4).trans rfl,hx356_0⟩ (fun hHeld => ?_);refine with_tabW lane_Sail.tab20 lane_Sail.bits20 (fun HT_ HW_ => ?_)
     generalize w104.drew = w105 at HO_13 BK337 BK338 BK339 BK340 HB hx356_0 hHeld ⊢
     refine pI 0 (some 95) ?_
     refine pI 1 (some 96) ?_
     refine pI 3 (some 98) ?_
     refine tI6 2 (some 97) hHeld ?_
     refine tI6 4 (some 99) hHeld ?_
     refine pI 5 (some 100) ?_
     refine pI 6 (some 101) ?_
     refine last_ (i:=7) (N:=none) #[true,true,true,true,true,true,true,true,false,false] rfl rfl (one_of HT_.out (by kernel_rfl)) (by decide) (fun K hK => ?_)
     have hs106 : w105.cell? ⟨gb339,0,none⟩ = some (.int .i64 a2_0):=(blk_cell BK339.out 0).trans rfl
     have hfs106:=blk_frozen BK339.out 0
     have hns106_0:=NB337_339.out
     have hns106_1:=NB338_339.out
     have hns106_3:=NB340_339.out
     have hms106_0:=NB339_337.out
     have hms106_1:=NB339_338.out
     have hms106_3:=NB339_340.out
     refine skip_ (w1:=?_) (by rfl) rfl ?_ ?_
     rotate_left
     ·go_simp
      rfl
     refine hK.out _ _ ?_
     clear hK K
     refine pI 8 (some 102) ?_
     refine last_ (i:=9) (N:=none) #[true,true,true,true,true,true,true,true,true,true] rfl rfl (one_of HT_.out (by kernel_rfl)) (by decide) (fun K hK => ?_)
     have hs107 : w105.cell? ⟨gb339,4,none⟩ = some (.int .i64 (wrap64 (a2_4 + a2_3))):=(blk_cell BK339.out 4).trans rfl
     have hfs107:=blk_frozen BK339.out 4
     have hns107_0:=NB337_339.out
     have hns107_1:=NB338_339.out
     have hns107_3:=NB340_339.out
     have hms107_0:=NB339_337.out
     have hms107_1:=NB339_338.out
     have hms107_3:=NB339_340.out
     refine skip_ (w1:=?_) (by rfl) rfl ?_ ?_
     rotate_left
     ·go_simp
      rfl
     refine hK.out _ _ ?_
     clear hK K
     refine done_ (done_of HT_.out (by kernel_rfl)) ?_
     try go_wp2
     have n0_ : Aside0 (Kd.R (Kd.int .i64) 3 ((w105.setCell ⟨gb339,0,none⟩ (.int .i64 (rd t349 1))).setCell ⟨gb339,4,none⟩ (.int .i64 (wrap64 ((wrap64 (a2_4 + a2_3)) - 192)))) w.heap.size (fun _ => True) (.slice (some ad353) t349.length co97) t349):=⟨by (with_reducible repeat (first|apply Kd.R_alloc|apply Kd.R_drewN|apply Kd.R_drew));exact Kd.R_mono (Kd.R_fars gb339 (Kd.R_types HO_13.out BK339.out (by decide)) (fun _ hk => hk.2)) (fun _ hk => trivial)⟩
     have n1_ : Aside0 (((w105.setCell ⟨gb339,0,none⟩ (.int .i64 (rd t349 1))).setCell ⟨gb339,4,none⟩ (.int .i64 (wrap64 ((wrap64 (a2_4 + a2_3)) - 192)))).heap[gb337]? = some (.cells #[.int .i64 a0_0,.int .i64 a0_1,.slice A0_2 l0_2.length c0_2] 53 (0,0))):=⟨by (with_reducible repeat (first|refine blk_drewN ?_ _|refine blk_drew ?_|refine blk_alloc ?_ _));refine blk_far ?_ NB337_339.out _;(with_reducible repeat (first|refine blk_drewN ?_ _|refine blk_drew ?_|refine blk_alloc ?_ _));refine blk_far ?_ NB337_339.out _;(with_reducible repeat (first|refine blk_drewN ?_ _|refine blk_drew ?_|refine blk_alloc ?_ _));exact BK337.out⟩
     have n2_ : Aside0 (((w105.setCell ⟨gb339,0,none⟩ (.int .i64 (rd t349 1))).setCell ⟨gb339,4,none⟩ (.int .i64 (wrap64 ((wrap64 (a2_4 + a2_3)) - 192)))).heap[gb338]? = some (.cells #[.slice A1_0 l1_0.length c1_0,.slice A1_1 l1_1.length c1_1] 55 (0,0))):=⟨by (with_reducible repeat (first|refine blk_drewN ?_ _|refine blk_drew ?_|refine blk_alloc ?_ _));refine blk_far ?_ NB338_339.out _;(with_reducible repeat (first|refine blk_drewN ?_ _|refine blk_drew ?_|refine blk_alloc ?_ _));refine blk_far ?_ NB338_339.out _;(with_reducible repeat (first|refine blk_drewN ?_ _|refine blk_drew ?_|refine blk_alloc ?_ _));exact BK338.out⟩
     have n3_ : Aside0 (((w105.setCell ⟨gb339,0,none⟩ (.int .i64 (rd t349 1))).setCell ⟨gb339,4,none⟩ (.int .i64 (wrap64 ((wrap64 (a2_4 + a2_3)) - 192)))).heap[gb339]? = some (.cells #[.int .i64 (rd t349 1),.int .i64 (Int.tmod (wrap64 (t355 + 2)) 4),.int .i64 t355,.int .i64 a2_3,.int .i64 (wrap64 ((wrap64 (a2_4 + a2_3)) - 192))] 57 (0,0))):=⟨by (with_reducible repeat (first|refine blk_drewN ?_ _|refine blk_drew ?_|refine blk_alloc ?_ _));refine blk_put (cs:=#[.int .i64 (rd t349 1),.int .i64 (Int.tmod (wrap64 (t355 + 2)) 4),.int .i64 t355,.int .i64 a2_3,.int .i64 (wrap64 (a2_4 + a2_3))]) ?_ 4 _ rfl;(with_reducible repeat (first|refine blk_drewN ?_ _|refine blk_drew ?_|refine blk_alloc ?_ _));refine blk_put (cs:=#[.int .i64 a2_0,.int .i64 (Int.tmod (wrap64 (t355 + 2)) 4),.int .i64 t355,.int .i64 a2_3,.int .i64 (wrap64 (a2_4 + a2_3))]) ?_ 0 _ rfl;(with_reducible repeat (first|refine blk_drewN ?_ _|refine blk_drew ?_|refine blk_alloc ?_ _));exact BK339.out⟩
     have n4_ : Aside0 (((w105.setCell ⟨gb339,0,none⟩ (.int .i64 (rd t349 1))).setCell ⟨gb339,4,none⟩ (.int .i64 (wrap64 ((wrap64 (a2_4 + a2_3)) - 192)))).heap[gb340]? = some (.cells #[.int .i64 0,.int .i64 0,.int .i64 0,.int .i64 0,.int .i64 0] 57 (0,0))):=⟨by (with_reducible repeat (first|refine blk_drewN ?_ _|refine blk_drew ?_|refine blk_alloc ?_ _));refine blk_far ?_ NB340_339.out _;(with_reducible repeat (first|refine blk_drewN ?_ _|refine blk_drew ?_|refine blk_alloc ?_ _));refine blk_far ?_ NB340_339.out _;(with_reducible repeat (first|refine blk_drewN ?_ _|refine blk_drew ?_|refine blk_alloc ?_ _));exact BK340.out⟩
     have n5_ : Aside0 (Below w.heap.size w ((w105.setCell ⟨gb339,0,none⟩ (.int .i64 (rd t349 1))).setCell ⟨gb339,4,none⟩ (.int .i64 (wrap64 ((wrap64 (a2_4 + a2_3)) - 192))))):=⟨hb_⟩
     (try clear HO_13)
     (try clear BK337)
     (try clear BK338)
     (try clear BK339)
     (try clear BK340)
     (try clear HB)
     generalize ((w105.setCell ⟨gb339,0,none⟩ (.int .i64 (rd t349 1))).setCell ⟨gb339,4,none⟩ (.int .i64 (wrap64 ((wrap64 (a2_4 + a2_3)) - 192)))) = w108 at n0_ n1_ n2_ n3_ n4_ n5_ ⊢
     have HO_13:=n0_
     have BK337:=n1_
     have BK338:=n2_
     have BK339:=n3_
     have BK340:=n4_
     have HB:=n5_
     clear n0_ n1_ n2_ n3_ n4_ n5_
     replace HO_13:=Aside0.mk (Kd.R_drew HO_13.out)
     replace BK337:=Aside0.mk (blk_drew BK337.out)
     replace BK338:=Aside0.mk (blk_drew BK338.out)
     replace BK339:=Aside0.mk (blk_drew BK339.out)
     replace BK340:=Aside0.mk (blk_drew BK340.out)
     replace HB:=Aside0.mk (below_drew1 HB.out)
     have p357 : 0 ≤ (1 : Int):=(by omega)
     have q357 : 1 < (t349.length : Int):=of_decide_eq_true (by first|(with_reducible assumption)|assumption)
     obtain ⟨ad357,e357,hx357_0⟩:=Kd.at_int (Kd.R_reads' HO_13.out).2.2 1 p357 q357
     obtain rfl : ad353 = ad357:=(by injection e357)
     (try simp only [show (1 : Int).toNat = 1 from rfl,Nat.reduceMul,Nat.reduceEqDiff,Go.Addr.add,↓reduceIte] at hx357_0)
     have qi357 : (1 < t349.length) = True:=eq_true (by omega)
     (try rw [show ((1 : Int)).toNat = 1 from rfl] at hx357_0)
     replace p357:=eq_true p357
     replace q357:=eq_true q357
     have p358 : 0 ≤ (2 : Int):=(by omega)
     have q358 : 2 < (t349.length : Int):=of_decide_eq_true (by first|(with_reducible assumption)|assumption)
     obtain ⟨ad358,e358,hx358_0⟩:=Kd.at_int (Kd.R_reads' HO_13.out).2.2 2 p358 q358
     obtain rfl : ad353 = ad358:=(by injection e358)
     (try simp only [show (2 : Int).toNat = 2 from rfl,Nat.reduceMul,Nat.reduceEqDiff,Go.Addr.add,↓reduceIte] at hx358_0)
     have qi358 : (2 < t349.length) = True:=eq_true (by omega)
     (try rw [show ((2 : Int)).toNat = 2 from rfl] at hx358_0)
     replace p358:=eq_true p358
     replace q358:=eq_true q358
     refine start_ (n:=10) (S:=fun w' => w'.cell? ⟨gb337,0,none⟩ = some (.int .i64 a0_0) ∧ w'.cell? ⟨gb337,1,none⟩ = some (.int .i64 a0_1) ∧ w'.cell? ⟨gb337,2,none⟩ = some (.slice A0_2 l0_2.length c0_2) ∧ w'.cell? ⟨ad353.block,ad353.off + 1,none⟩ = some (.int .i64 (rd t349 1)) ∧ w'.cell? ⟨ad353.block,ad353.off + 2,none⟩ = some (.int .i64 (rd t349 2))) (ds:=[]) #[false,false,false,false,false,false,false,false,false,false] (by kernel_rfl) rfl rfl ⟨(blk_cell BK337.out 0).trans rfl,(blk_cell BK337.out 1).trans rfl,(blk_cell BK337.out 2).trans rfl,hx357_0,hx358_0⟩ (fun hHeld => ?_);refine with_tabW lane_Sail.tab22 lane_Sail.bits22 (fun HT_ HW_ => ?_)
     generalize w108.drew = w109 at HO_13 BK337 BK338 BK339 BK340 HB hx357_0 hx358_0 hHeld ⊢
     refine pI 1 (some 107) ?_
     refine pI 2 (some 108) ?_
     refine pI 4 (some 110) ?_
     refine pI 5 (some 111) ?_
     refine tI5 0 (some 106) hHeld ?_
     refine tI5 3 (some 109) hHeld ?_
     refine tI5 6 (some 112) hHeld ?_
     refine oI 7 (some 113) (fun K hK => ?_)
     refine goes_ Try.func59 (by kernel_rfl) rfl #[.agg #[.int .i64 a0_0,.int .i64 a0_1,.slice A0_2 l0_2.length c0_2],.int .i64 (rd t349 1),.int .i64 (rd t349 2)] (by rfl) rfl rfl ga_ ?_
     with_reducible refine (lane_side.calls kj54 a0_0 a0_1 _ _ l0_2 (rd t349 1) (rd t349 2) t359 _ ?side1 ?side2 A95.out).mono ?_
     (case side1 => exact cq HR0_2)
     (case side2 => exact HC0_2.out)
     rintro e w110 ⟨rfl,hb⟩
     have HS3_:=(hb.cell (World.block_lt_of_cell? _ _ (hHeld.2.2.2.1))).trans (hHeld.2.2.2.1)
     have HS4_:=(hb.cell (World.block_lt_of_cell? _ _ (hHeld.2.2.2.2))).trans (hHeld.2.2.2.2)
     refine ⟨_,rfl,?_⟩
     have n0_:=rbw HO_13 hb
     have n1_:=bkb BK337 hb
     have n2_:=bkb BK338 hb
     have n3_:=bkb BK339 hb
     have n4_:=bkb BK340 hb
     have n5_:=Aside0.mk (below_step (hb_) hb)
     clear HO_13
     clear BK337
     clear BK338
     clear BK339
     clear BK340
     clear HB
     have HO_13:=n0_
     have BK337:=n1_
     have BK338:=n2_
     have BK339:=n3_
     have BK340:=n4_
     have HB:=n5_
     clear n0_ n1_ n2_ n3_ n4_ n5_
     (try clear hb)
     (try clear hb2)
     (try clear hk)
     (try clear hi)
     refine hK.out _ _ ⟨(blk_cell BK337.out 0).trans rfl,(blk_cell BK337.out 1).trans rfl,(blk_cell BK337.out 2).trans rfl,HS3_,HS4_⟩ (fun hHeld => ?_)
     clear hK K
     refine norm_ (a':=?_) ?_ ?_
     rotate_left
     ·show Act.put _ (some 113) _ = _
      simp only [Act.put,List.setIfInBounds_toArray,List.set_cons_zero,List.set_cons_succ,i64_w,i32_w]
      rfl
     refine pI 8 (some 114) ?_
     refine oI 9 (none) (fun K hK => ?_)
     have hs111 : w110.cell? ⟨gb339,2,none⟩ = some (.int .i64 t355):=(blk_cell BK339.out 2).trans rfl
     have hfs111:=blk_frozen BK339.out 2
     have hns111_0:=NB337_339.out
     have hns111_1:=NB338_339.out
     have hns111_3:=NB340_339.out
     have hms111_0:=NB339_337.out
     have hms111_1:=NB339_338.out
     have hms111_3:=NB339_340.out
     refine skip_ (w1:=?_) (by rfl) rfl ?_ ?_
     rotate_left
     ·go_simp
      rfl
     refine hK.out _ _ ⟨((cell_far (p:=⟨gb339,_,none⟩) NB337_339.out _).trans (hHeld.1)),((cell_far (p:=⟨gb339,_,none⟩) NB337_339.out _).trans (hHeld.2.1)),((cell_far (p:=⟨gb339,_,none⟩) NB337_339.out _).trans (hHeld.2.2.1)),((cell_far (p:=⟨gb339,_,none⟩) (by have hq_:=Kd.own_blk (Kd.R_ne HO_13.out BK339.out (by decide));exact hq_) _).trans (hHeld.2.2.2.1)),((cell_far (p:=⟨gb339,_,none⟩) (by have hq_:=Kd.own_blk (Kd.R_ne HO_13.out BK339.out (by decide));exact hq_) _).trans (hHeld.2.2.2.2))⟩ (fun hHeld => ?_)
     clear hK K
     refine done_ (done_of HT_.out (by kernel_rfl)) ?_
     obtain ⟨_,_,_,_,_,_,_,_,_,_⟩:=cells5 BK339.out
     have hnb113:=NB340_337.out
     have hnc113:=NB337_340.out
     have hnb114:=NB340_338.out
     have hnc114:=NB338_340.out
     obtain ⟨_,_,_,_,_,_,_,_,_,_⟩:=cells5 BK340.out
     try go_wp2
     refine bodyPost_ret (results_ctt rfl _ _ gb340 57 #[.int .i64 (rd t349 1),.int .i64 (Int.tmod (wrap64 (t355 + 2)) 4),.int .i64 t359,.int .i64 a2_3,.int .i64 (wrap64 ((wrap64 (a2_4 + a2_3)) - 192))] (0,0) _ rfl (by (with_reducible repeat (first|refine blk_drewN ?_ _|refine blk_drew ?_|refine blk_alloc ?_ _));refine blk_put (cs:=#[.int .i64 (rd t349 1),.int .i64 (Int.tmod (wrap64 (t355 + 2)) 4),.int .i64 t359,.int .i64 a2_3,.int .i64 0]) ?_ 4 _ rfl;(with_reducible repeat (first|refine blk_drewN ?_ _|refine blk_drew ?_|refine blk_alloc ?_ _));refine blk_put (cs:=#[.int .i64 (rd t349 1),.int .i64 (Int.tmod (wrap64 (t355 + 2)) 4),.int .i64 t359,.int .i64 0,.int .i64 0]) ?_ 3 _ rfl;(with_reducible repeat (first|refine blk_drewN ?_ _|refine blk_drew ?_|refine blk_alloc ?_ _));refine blk_put (cs:=#[.int .i64 (rd t349 1),.int .i64 (Int.tmod (wrap64 (t355 + 2)) 4),.int .i64 0,.int .i64 0,.int .i64 0]) ?_ 2 _ rfl;(with_reducible repeat (first|refine blk_drewN ?_ _|refine blk_drew ?_|refine blk_alloc ?_ _));refine blk_put (cs:=#[.int .i64 (rd t349 1),.int .i64 0,.int .i64 0,.int .i64 0,.int .i64 0]) ?_ 1 _ rfl;(with_reducible repeat (first|refine blk_drewN ?_ _|refine blk_drew ?_|refine blk_alloc ?_ _));refine blk_put (cs:=#[.int .i64 0,.int .i64 0,.int .i64 0,.int .i64 0,.int .i64 0]) ?_ 0 _ rfl;(with_reducible repeat (first|refine blk_drewN ?_ _|refine blk_drew ?_|refine blk_alloc ?_ _));refine blk_far ?_ NB340_339.out _;(with_reducible repeat (first|refine blk_drewN ?_ _|refine blk_drew ?_|refine blk_alloc ?_ _));exact BK340.out) Try.underlying57 rfl (by kernel_rfl)) rfl ?_
     exact ⟨er_,hb_⟩
 ·replace c10:=Bool.eq_false_iff.mpr c10
  subst c10
  have H1 : (some (0,0,0,0,0,0,1)) = some (r1,r2,r3,r4,r5,r6,r7):=by rw [if_neg (show ¬ (false = true) by decide)] at H;exact H
  clear H
  have H:=H1
  clear H1
  simp only [Option.some.injEq,Prod.mk.injEq] at H
  obtain ⟨rfl,rfl,rfl,rfl,rfl,rfl,rfl⟩:=H
  go_enter Try.func33,Try.ntmps33
  try go_wp2_with (first|((with_reducible refine gate_dst (N:=4) rfl ?_);(try (refine gate_guard (by rfl) ?_;dsimp only));refine box_ev (N:=4) (cs:=#[.int .i64 a0_0,.int .i64 a0_1,.slice A0_2 l0_2.length c0_2]) (t:=53) ?_;intro gb337 hg w153 hbox hb;have BK337:=Aside0.mk (hbox);have GW337 : Aside0 (w.heap.size ≤ gb337):=gsz hg;have GE337:=GW337;replace HB:=hbs hb;clear hb hbox hg)|((with_reducible refine gate_dst (N:=5) rfl ?_);(try (refine gate_guard (by rfl) ?_;dsimp only));refine box_ev (N:=5) (cs:=#[.slice A1_0 l1_0.length c1_0,.slice A1_1 l1_1.length c1_1]) (t:=55) ?_;intro gb338 hg w154 hbox hb;have BK338:=Aside0.mk (hbox);have GW338 : Aside0 (w.heap.size ≤ gb338):=gsz hg;have GE338:=GW338;have NB337_338:=nbl BK337 hg;have NB338_337:=nbr BK337 hg;replace BK337:=bkb BK337 hb;replace HB:=hbs hb;clear hb hbox hg)|((with_reducible refine gate_dst (N:=6) rfl ?_);(try (refine gate_guard (by rfl) ?_;dsimp only));refine box_ev (N:=6) (cs:=#[.int .i64 a2_0,.int .i64 a2_1,.int .i64 a2_2,.int .i64 a2_3,.int .i64 a2_4]) (t:=57) ?_;intro gb339 hg w155 hbox hb;have BK339:=Aside0.mk (hbox);have GW339 : Aside0 (w.heap.size ≤ gb339):=gsz hg;have GE339:=GW339;have NB337_339:=nbl BK337 hg;have NB339_337:=nbr BK337 hg;have NB338_339:=nbl BK338 hg;have NB339_338:=nbr BK338 hg;replace BK337:=bkb BK337 hb;replace BK338:=bkb BK338 hb;replace HB:=hbs hb;clear hb hbox hg)|((with_reducible refine gate_dst (N:=8) rfl ?_);(try (refine gate_guard (by rfl) ?_;dsimp only));refine box_ev (N:=8) (cs:=#[.int .i64 0,.int .i64 0,.int .i64 0,.int .i64 0,.int .i64 0]) (t:=57) ?_;intro gb340 hg w156 hbox hb;have BK340:=Aside0.mk (hbox);have GW340 : Aside0 (w.heap.size ≤ gb340):=gsz hg;have GE340:=GW340;have NB337_340:=nbl BK337 hg;have NB340_337:=nbr BK337 hg;have NB338_340:=nbl BK338 hg;have NB340_338:=nbr BK338 hg;have NB339_340:=nbl BK339 hg;have NB340_339:=nbr BK339 hg;replace BK337:=bkb BK337 hb;replace BK338:=bkb BK338 hb;replace BK339:=bkb BK339 hb;replace HB:=hbs hb;clear hb hbox hg))
  replace BK337:=Aside0.mk (blk_drew BK337.out)
  replace BK338:=Aside0.mk (blk_drew BK338.out)
  replace BK339:=Aside0.mk (blk_drew BK339.out)
  replace BK340:=Aside0.mk (blk_drew BK340.out)
  replace HB:=Aside0.mk (below_drew1 HB.out)
  refine start_ (n:=8) (S:=fun w' => w'.cell? ⟨gb337,0,none⟩ = some (.int .i64 a0_0) ∧ w'.cell? ⟨gb337,1,none⟩ = some (.int .i64 a0_1) ∧ w'.cell? ⟨gb337,2,none⟩ = some (.slice A0_2 l0_2.length c0_2) ∧ w'.cell? ⟨gb338,0,none⟩ = some (.slice A1_0 l1_0.length c1_0) ∧ w'.cell? ⟨gb338,1,none⟩ = some (.slice A1_1 l1_1.length c1_1)) (ds:=[]) #[false,false,false,false,false,false,false,false] (by kernel_rfl) rfl rfl ⟨(blk_cell BK337.out 0).trans rfl,(blk_cell BK337.out 1).trans rfl,(blk_cell BK337.out 2).trans rfl,(blk_cell BK338.out 0).trans rfl,(blk_cell BK338.out 1).trans rfl⟩ (fun hHeld => ?_);refine with_tabW lane_Sail.tab1 lane_Sail.bits1 (fun HT_ HW_ => ?_)
  generalize w156.drew = w157 at BK337 BK338 BK339 BK340 HB hHeld ⊢
  refine tI5 0 (some 15) hHeld ?_
  refine tI5 2 (some 17) hHeld ?_
  refine tI5 3 (some 18) hHeld ?_
  refine oI 1 (some 16) (fun K hK => ?_)
  refine goes_ Try.func55 (by kernel_rfl) rfl #[.agg #[.int .i64 a0_0,.int .i64 a0_1,.slice A0_2 l0_2.length c0_2]] (by rfl) rfl rfl ga_ ?_
  with_reducible refine (land_Validate.calls k a0_0 a0_1 _ _ l0_2 t341 _ ?side1 ?side2 A5.out).mono ?_
  (case side1 => exact cq HR0_2)
  (case side2 => exact HC0_2.out)
  rintro e w158 ⟨rfl,hb⟩
  refine ⟨_,rfl,?_⟩
  have n0_:=bkb BK337 hb
  have n1_:=bkb BK338 hb
  have n2_:=bkb BK339 hb
  have n3_:=bkb BK340 hb
  have n4_:=Aside0.mk (below_step (hb_) hb)
  clear BK337
  clear BK338
  clear BK339
  clear BK340
  clear HB
  have BK337:=n0_
  have BK338:=n1_
  have BK339:=n2_
  have BK340:=n3_
  have HB:=n4_
  clear n0_ n1_ n2_ n3_ n4_
  (try clear hb)
  (try clear hb2)
  (try clear hk)
  (try clear hi)
  refine hK.out _ _ ⟨(blk_cell BK337.out 0).trans rfl,(blk_cell BK337.out 1).trans rfl,(blk_cell BK337.out 2).trans rfl,(blk_cell BK338.out 0).trans rfl,(blk_cell BK338.out 1).trans rfl⟩ (fun hHeld => ?_)
  clear hK K
  refine norm_ (a':=?_) ?_ ?_
  rotate_left
  ·show Act.put _ (some 16) _ = _
   simp only [Act.put,List.setIfInBounds_toArray,List.set_cons_zero,List.set_cons_succ,i64_w,i32_w]
   rfl
  refine oI 4 (some 19) (fun K hK => ?_)
  refine goes_ Try.func56 (by kernel_rfl) rfl #[.agg #[.int .i64 a0_0,.int .i64 a0_1,.slice A0_2 l0_2.length c0_2],.agg #[.slice A1_0 l1_0.length c1_0,.slice A1_1 l1_1.length c1_1]] (by rfl) rfl rfl ga_ ?_
  with_reducible refine (water_Validate.calls k a0_0 a0_1 _ _ l0_2 _ _ l1_0 _ _ l1_1 t342 _ ?side1 ?side2 ?side3 ?side4 ?side5 ?side6 A6.out).mono ?_
  (case side1 => exact cq HR0_2)
  (case side2 => exact HC0_2.out)
  (case side3 => exact cq HR1_0)
  (case side4 => exact HC1_0.out)
  (case side5 => exact cq HR1_1)
  (case side6 => exact HC1_1.out)
  rintro e w159 ⟨rfl,hb⟩
  refine ⟨_,rfl,?_⟩
  have n0_:=bkb BK337 hb
  have n1_:=bkb BK338 hb
  have n2_:=bkb BK339 hb
  have n3_:=bkb BK340 hb
  have n4_:=Aside0.mk (below_step (hb_) hb)
  clear BK337
  clear BK338
  clear BK339
  clear BK340
  clear HB
  have BK337:=n0_
  have BK338:=n1_
  have BK339:=n2_
  have BK340:=n3_
  have HB:=n4_
  clear n0_ n1_ n2_ n3_ n4_
  (try clear hb)
  (try clear hb2)
  (try clear hk)
  (try clear hi)
  refine hK.out _ _ ⟨(blk_cell BK337.out 0).trans rfl,(blk_cell BK337.out 1).trans rfl,(blk_cell BK337.out 2).trans rfl,(blk_cell BK338.out 0).trans rfl,(blk_cell BK338.out 1).trans rfl⟩ (fun hHeld => ?_)
  clear hK K
  refine norm_ (a':=?_) ?_ ?_
  rotate_left
  ·show Act.put _ (some 19) _ = _
   simp only [Act.put,List.setIfInBounds_toArray,List.set_cons_zero,List.set_cons_succ,i64_w,i32_w]
   rfl
  refine oI 5 (some 20) (fun K hK => ?_)
  refine Kd.R_lit_step (Kd.int .i64) _ 27 ?hg (N:=20) ?hd (xs:=([t341,t342] : List Int)) (inner:=[.int .i64 t341,.int .i64 t342]) (ok:=fun _ => True) (okp:=fun _ => True) ?hr ?hp (fun _ hk => hk) trivial (Below.refl _ _) (Nat.le_refl _) (by simp) ?_;(case hd => rfl);(case hg => rfl);(case hr => first|(go_simp;done)|(go_simp;rfl));(case hp => exact (Reps.one (show Kd.M (Kd.int .i64) _ _ _ t341 [.int .i64 t341] from rfl) (Reps.one (show Kd.M (Kd.int .i64) _ _ _ t342 [.int .i64 t342] from rfl) (Reps.none _ _))))
  intro v344 w160 ho161 hb hg_ hnew_
  clear hg_ hnew_
  (first|rw [← Ny343.out] at ho161|(simp only [Int.reduceToNat] at ho161;rw [← Ny343.out] at ho161))
  have n0_:=rlo ho161
  have n1_:=bkb BK337 hb
  have n2_:=bkb BK338 hb
  have n3_:=bkb BK339 hb
  have n4_:=bkb BK340 hb
  have n5_:=Aside0.mk (below_step (hb_) hb)
  clear BK337
  clear BK338
  clear BK339
  clear BK340
  clear HB
  have HO345:=n0_
  have BK337:=n1_
  have BK338:=n2_
  have BK339:=n3_
  have BK340:=n4_
  have HB:=n5_
  clear n0_ n1_ n2_ n3_ n4_ n5_
  clear hb ho161
  obtain ⟨Ao162,co162,eo162⟩:=Kd.R_slice HO345.out
  (first|subst eo162|(injection eo162 with f1_ f2_ f3_;have f4_:=f1_.symm;have f5_:=f3_.symm;clear f1_ f2_ f3_;subst f4_;subst f5_))
  refine hK.out _ _ ⟨(blk_cell BK337.out 0).trans rfl,(blk_cell BK337.out 1).trans rfl,(blk_cell BK337.out 2).trans rfl,(blk_cell BK338.out 0).trans rfl,(blk_cell BK338.out 1).trans rfl⟩ (fun hHeld => ?_)
  clear hK K
  refine norm_ (a':=?_) ?_ ?_
  rotate_left
  ·show Act.put _ (some 20) _ = _
   simp only [Act.put,List.setIfInBounds_toArray,List.set_cons_zero,List.set_cons_succ,i64_w,i32_w]
   rfl
  refine oI 6 (some 21) (fun K hK => ?_)
  refine goes_ Try.func54 (by kernel_rfl) rfl #[.slice Ao162 y343.length co162] (by rfl) rfl rfl ga_ ?_
  with_reducible refine (api_Errno.calls k _ _ y343 t346 _ ?side1 ?side2 A7.out).mono ?_
  (case side1 => exact Kd.C_up (Kd.R_reads' HO345.out).2.2)
  (case side2 => exact (Kd.R_reads' HO345.out).2.1)
  rintro e w' ⟨rfl,⟨nd,rfl⟩⟩
  refine ⟨_,rfl,?_⟩
  refine hK.out _ _ ⟨(blk_cell BK337.out 0).trans rfl,(blk_cell BK337.out 1).trans rfl,(blk_cell BK337.out 2).trans rfl,(blk_cell BK338.out 0).trans rfl,(blk_cell BK338.out 1).trans rfl⟩ (fun hHeld => ?_)
  clear hK K
  refine norm_ (a':=?_) ?_ ?_
  rotate_left
  ·show Act.put _ (some 21) _ = _
   simp only [Act.put,List.setIfInBounds_toArray,List.set_cons_zero,List.set_cons_succ,i64_w,i32_w]
   rfl
  refine pI 7 (some 11) ?_
  refine done_ (done_of HT_.out (by kernel_rfl)) ?_
  have hnb163:=NB339_337.out
  have hnc163:=NB337_339.out
  have hnb164:=NB339_338.out
  have hnc164:=NB338_339.out
  have hnb165:=NB339_340.out
  have hnc165:=NB340_339.out
  obtain ⟨_,_,_,_,_,_,_,_,_,_⟩:=cells5 BK339.out
  try go_wp2_with (first|((with_reducible refine gate_callee (f:=42) rfl ?_);refine goesL_ (some 36) rfl rfl Try.func42 (by kernel_rfl) rfl #[.int .i64 a2_0,.int .i64 a2_1,.int .i64 a2_2,.int .i64 a2_3,.int .i64 a2_4] rfl ga_ ?_;(with_reducible refine (lane_moves.calls a2_0 a2_1 a2_2 a2_3 a2_4 false _ A9.out).mono ?_);rintro e w' ⟨rfl,⟨nd,rfl⟩⟩;refine ⟨_,rfl,?_⟩;(try (rw [drewN_self w160];generalize hq_ : World.drewN w160 _ = w160;have n0_ : Aside0 (Kd.R (Kd.int .i64) 27 w160 w.heap.size (fun _ => True) (.slice Ao162 y343.length co162) y343):=⟨by rw [← hq_];exact (Kd.R_up HO345.out)⟩;have n1_ : Aside0 (w160.heap[gb337]? = some (.cells #[.int .i64 a0_0,.int .i64 a0_1,.slice A0_2 l0_2.length c0_2] 53 (0,0))):=⟨by rw [← hq_];exact (blk_up BK337.out)⟩;have n2_ : Aside0 (w160.heap[gb338]? = some (.cells #[.slice A1_0 l1_0.length c1_0,.slice A1_1 l1_1.length c1_1] 55 (0,0))):=⟨by rw [← hq_];exact (blk_up BK338.out)⟩;have n3_ : Aside0 (w160.heap[gb339]? = some (.cells #[.int .i64 a2_0,.int .i64 a2_1,.int .i64 a2_2,.int .i64 a2_3,.int .i64 a2_4] 57 (0,0))):=⟨by rw [← hq_];exact (blk_up BK339.out)⟩;have n4_ : Aside0 (w160.heap[gb340]? = some (.cells #[.int .i64 0,.int .i64 0,.int .i64 0,.int .i64 0,.int .i64 0] 57 (0,0))):=⟨by rw [← hq_];exact (blk_up BK340.out)⟩;have n5_ : Aside0 (Below w.heap.size w w160):=⟨by rw [← hq_];exact (hb_)⟩;clear HO345 BK337 BK338 BK339 BK340 HB hq_;have HO345:=n0_;have BK337:=n1_;have BK338:=n2_;have BK339:=n3_;have BK340:=n4_;have HB:=n5_;clear n0_ n1_ n2_ n3_ n4_ n5_;obtain ⟨_,_,_,_,_,_,_,_,_,_⟩:=cells5 BK339.out;obtain ⟨_,_,_,_,_,_,_,_,_,_⟩:=cells5 BK340.out;obtain ⟨_,_,_,_,_,_⟩:=cells3 BK337.out;obtain ⟨_,_,_,_⟩:=cells2 BK338.out));have hnb167:=NB340_337.out;have hnc167:=NB337_340.out;have hnb168:=NB340_338.out;have hnc168:=NB338_340.out;obtain ⟨_,_,_,_,_,_,_,_,_,_⟩:=cells5 BK340.out))
  refine bodyPost_ret (results_ctt rfl _ _ gb340 57 #[.int .i64 0,.int .i64 0,.int .i64 0,.int .i64 0,.int .i64 0] (0,0) _ rfl (by (with_reducible repeat (first|refine blk_drewN ?_ _|refine blk_drew ?_|refine blk_alloc ?_ _));exact blk_puts5 (blk_up BK340.out)) Try.underlying57 rfl (by kernel_rfl)) rfl ?_
  exact ⟨er_,hb_⟩

end Go.Proofs.Ythjmdpekcleihaa.P

/- Functions of this seat as plain Lean functions, with proofs that the Go code comes to just their answers, or what stands between them and a law's statement; no conditions. (Laid by a program of this session, out of the kit's print.) -/
import Derived.Test.YthjmdpekcleihaaPx0
import Derived.Test.YthjmdpekcleihaaPx3
namespace Go.Proofs.Ythjmdpekcleihaa.P
open Go.RowKit Go.Proofs.YthjmdpekcleihaaW.PrintWords Go.Proofs.YthjmdpekcleihaaW.PrintLast Go.Proofs.YthjmdpekcleihaaW.PrintMore
attribute [local go_sem] max2_int min2_int max_two min_two max_three min_three max_four min_four   -- for this text's walks alone
set_option linter.unusedVariables false
set_option linter.unusedSimpArgs false

/-! ### lane_moves: function 42 -/
def lane_moves.f (a0 : Int) (a1 : Int) (a2 : Int) (a3 : Int) (a4 : Int) : Option (Bool) := if a0 = (-1) then (if a1 = (-1) then (if a2 = 0 then (if a3 = 0 then (some (a4 == 0)) else (some false)) else (some false)) else (some false)) else (if a1 ≥ (-1) then (if a1 ≤ 3 then ((lane_within.f a2 3).bind fun t251 => (if t251 = true then ((lane_within.f a3 192).bind fun t252 => (if t252 = true then ((lane_within.f a4 191).bind fun t253 => (some t253)) else (some false))) else (some false))) else (some false)) else (some false))
set_option maxHeartbeats 8000000 in
set_option maxRecDepth 100000 in
theorem lane_moves.calls (a0 : Int) (a1 : Int) (a2 : Int) (a3 : Int) (a4 : Int) (r : Bool) (w : World) (h : lane_moves.f a0 a1 a2 a3 a4 = some r) :
  Calls Try.prog 42 #[.int .i64 a0,.int .i64 a1,.int .i64 a2,.int .i64 a3,.int .i64 a4] w fun e w' => e = .returned (.bool r) ∧ Drawn0 w w':=by
 have H : (if a0 = (-1) then (if a1 = (-1) then (if a2 = 0 then (if a3 = 0 then (some (a4 == 0)) else (some false)) else (some false)) else (some false)) else (if a1 ≥ (-1) then (if a1 ≤ 3 then ((lane_within.f a2 3).bind fun t251 => (if t251 = true then ((lane_within.f a3 192).bind fun t252 => (if t252 = true then ((lane_within.f a4 191).bind fun t253 => (some t253)) else (some false))) else (some false))) else (some false)) else (some false))) = some r:=h
 clear h
 by_cases c6 : a0 = (-1)
 ·rw [if_pos c6] at H
  have c6b0:=bqt c6
  have c6b1:=bnf c6
  clear c6
  by_cases c7 : a1 = (-1)
  rotate_left
  ·rw [if_neg c7] at H
   have c7b0:=bqf c7
   have c7b1:=bnt c7
   obtain rfl:=Option.some.inj H
   go_enter Try.func42,Try.ntmps42
   go_wp2
   go_ret
   exact ⟨by first|rfl|(simp;done)|(simp [*];done),by repeat (first|exact Drawn0.refl _|apply Drawn0.step)⟩
  rw [if_pos c7] at H
  have c7b0:=bqt c7
  have c7b1:=bnf c7
  clear c7
  by_cases c8 : a2 = 0
  ·rw [if_pos c8] at H
   have c8b0:=bqt c8
   have c8b1:=bnf c8
   clear c8
   by_cases c9 : a3 = 0
   ·rw [if_pos c9] at H
    have c9b0:=bqt c9
    have c9b1:=bnf c9
    clear c9
    obtain rfl:=Option.some.inj H
    go_enter Try.func42,Try.ntmps42
    go_wp2
    go_ret
    exact ⟨by first|rfl|(simp;done)|(simp [*];done),by repeat (first|exact Drawn0.refl _|apply Drawn0.step)⟩
   ·rw [if_neg c9] at H
    have c9b0:=bqf c9
    have c9b1:=bnt c9
    obtain rfl:=Option.some.inj H
    go_enter Try.func42,Try.ntmps42
    go_wp2
    go_ret
    exact ⟨by first|rfl|(simp;done)|(simp [*];done),by repeat (first|exact Drawn0.refl _|apply Drawn0.step)⟩
  ·rw [if_neg c8] at H
   have c8b0:=bqf c8
   have c8b1:=bnt c8
   obtain rfl:=Option.some.inj H
   go_enter Try.func42,Try.ntmps42
   go_wp2
   go_ret
   exact ⟨by first|rfl|(simp;done)|(simp [*];done),by repeat (first|exact Drawn0.refl _|apply Drawn0.step)⟩
 rw [if_neg c6] at H
 have c6b0:=bqf c6
 have c6b1:=bnt c6
 by_cases c10 : a1 ≥ (-1)
 rotate_left
 ·rw [if_neg c10] at H
  have c10b0 : decide ((-1) ≤ a1) = false:=decide_eq_false c10
  clear c10
  obtain rfl:=Option.some.inj H
  go_enter Try.func42,Try.ntmps42
  go_wp2
  go_ret
  exact ⟨by first|rfl|(simp;done)|(simp [*];done),by repeat (first|exact Drawn0.refl _|apply Drawn0.step)⟩
 rw [if_pos c10] at H
 have c10b0 : decide ((-1) ≤ a1) = true:=decide_eq_true c10
 clear c10
 by_cases c11 : a1 ≤ 3
 rotate_left
 ·rw [if_neg c11] at H
  have c11b0 : decide (a1 ≤ 3) = false:=decide_eq_false c11
  clear c11
  obtain rfl:=Option.some.inj H
  go_enter Try.func42,Try.ntmps42
  go_wp2
  go_ret
  exact ⟨by first|rfl|(simp;done)|(simp [*];done),by repeat (first|exact Drawn0.refl _|apply Drawn0.step)⟩
 rw [if_pos c11] at H
 have c11b0 : decide (a1 ≤ 3) = true:=decide_eq_true c11
 clear c11
 replace H:=Option.bind_eq_some_iff.mp H
 obtain ⟨t251,A120,H⟩:=H
 replace H : (if t251 = true then ((lane_within.f a3 192).bind fun t252 => (if t252 = true then ((lane_within.f a4 191).bind fun t253 => (some t253)) else (some false))) else (some false)) = some r:=H
 have A12:=Aside0.mk A120
 clear A120
 by_cases c13 : t251 = true
 ·subst c13
  have H1 : ((lane_within.f a3 192).bind fun t252 => (if t252 = true then ((lane_within.f a4 191).bind fun t253 => (some t253)) else (some false))) = some r:=by rw [if_pos rfl] at H;exact H
  clear H
  have H:=H1
  clear H1
  replace H:=Option.bind_eq_some_iff.mp H
  obtain ⟨t252,A140,H⟩:=H
  replace H : (if t252 = true then ((lane_within.f a4 191).bind fun t253 => (some t253)) else (some false)) = some r:=H
  have A14:=Aside0.mk A140
  clear A140
  by_cases c15 : t252 = true
  ·subst c15
   have H1 : ((lane_within.f a4 191).bind fun t253 => (some t253)) = some r:=by rw [if_pos rfl] at H;exact H
   clear H
   have H:=H1
   clear H1
   replace H:=Option.bind_eq_some_iff.mp H
   obtain ⟨t253,A160,H⟩:=H
   replace H : (some t253) = some r:=H
   have A16:=Aside0.mk A160
   clear A160
   obtain rfl:=Option.some.inj H
   go_enter Try.func42,Try.ntmps42
   go_wp2_with (first|(go_at_call 37;(with_reducible refine (lane_within.calls a2 3 true _ A12.out).mono ?_);rintro e w' ⟨rfl,⟨nd,rfl⟩⟩)|(go_at_call 37;(with_reducible refine (lane_within.calls a3 192 true _ A14.out).mono ?_);rintro e w' ⟨rfl,⟨nd,rfl⟩⟩)|(go_at_call 37;(with_reducible refine (lane_within.calls a4 191 t253 _ A16.out).mono ?_);rintro e w' ⟨rfl,⟨nd,rfl⟩⟩))
   go_ret
   exact ⟨by first|rfl|(simp;done)|(simp [*];done),by repeat (first|exact Drawn0.refl _|apply Drawn0.step)⟩
  ·replace c15:=Bool.eq_false_iff.mpr c15
   subst c15
   have H1 : (some false) = some r:=by rw [if_neg (show ¬ (false = true) by decide)] at H;exact H
   clear H
   have H:=H1
   clear H1
   obtain rfl:=Option.some.inj H
   go_enter Try.func42,Try.ntmps42
   go_wp2_with (first|(go_at_call 37;(with_reducible refine (lane_within.calls a2 3 true _ A12.out).mono ?_);rintro e w' ⟨rfl,⟨nd,rfl⟩⟩)|(go_at_call 37;(with_reducible refine (lane_within.calls a3 192 false _ A14.out).mono ?_);rintro e w' ⟨rfl,⟨nd,rfl⟩⟩))
   go_ret
   exact ⟨by first|rfl|(simp;done)|(simp [*];done),by repeat (first|exact Drawn0.refl _|apply Drawn0.step)⟩
 ·replace c13:=Bool.eq_false_iff.mpr c13
  subst c13
  have H1 : (some false) = some r:=by rw [if_neg (show ¬ (false = true) by decide)] at H;exact H
  clear H
  have H:=H1
  clear H1
  obtain rfl:=Option.some.inj H
  go_enter Try.func42,Try.ntmps42
  go_wp2_with (first|(go_at_call 37;(with_reducible refine (lane_within.calls a2 3 false _ A12.out).mono ?_);rintro e w' ⟨rfl,⟨nd,rfl⟩⟩))
  go_ret
  exact ⟨by first|rfl|(simp;done)|(simp [*];done),by repeat (first|exact Drawn0.refl _|apply Drawn0.step)⟩

end Go.Proofs.Ythjmdpekcleihaa.P

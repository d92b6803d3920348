/- Functions of this seat as plain Lean functions, with proofs that the Go code comes to just their answers, or what stands between them and a law's statement; no conditions. (Laid by a program of this session, out of the kit's print.) -/
import Derived.Test.YthjmdpekcleihaaPx0
namespace Go.Proofs.Ythjmdpekcleihaa.P
open Go.RowKit Go.Proofs.YthjmdpekcleihaaW.PrintWords Go.Proofs.YthjmdpekcleihaaW.PrintLast Go.Proofs.YthjmdpekcleihaaW.PrintMore
attribute [local go_sem] max2_int min2_int max_two min_two max_three min_three max_four min_four   -- for this text's walks alone
set_option linter.unusedVariables false
set_option linter.unusedSimpArgs false

/-! ### hinterlandref17_piece: function 39 -/
def hinterlandref17_piece.f (a0 : Int) (a1 : Int) (a2 : Int) (a3 : Int) (a4 : Int) : Option (Bool) := if a1 < (-1) then (some true) else (if a1 > 3 then (some true) else (if a2 < 0 then (some true) else (if a2 > 3 then (some true) else (if a3 < 0 then (some true) else (if a3 > 192 then (some true) else (if a4 < 0 then (some true) else (if a4 ≥ 192 then (some true) else (if a0 = (-1) then (if a1 = (-1) then (if a2 = 0 then (if a3 = 0 then (some (a4 != 0)) else (some true)) else (some true)) else (some true)) else (some false)))))))))
set_option maxHeartbeats 8000000 in
set_option maxRecDepth 100000 in
theorem hinterlandref17_piece.calls (a0 : Int) (a1 : Int) (a2 : Int) (a3 : Int) (a4 : Int) (r : Bool) (w : World) (h : hinterlandref17_piece.f a0 a1 a2 a3 a4 = some r) :
  Calls Try.prog 39 #[.int .i64 a0,.int .i64 a1,.int .i64 a2,.int .i64 a3,.int .i64 a4] w fun e w' => e = .returned (.bool r) ∧ Drawn0 w w':=by
 have H : (if a1 < (-1) then (some true) else (if a1 > 3 then (some true) else (if a2 < 0 then (some true) else (if a2 > 3 then (some true) else (if a3 < 0 then (some true) else (if a3 > 192 then (some true) else (if a4 < 0 then (some true) else (if a4 ≥ 192 then (some true) else (if a0 = (-1) then (if a1 = (-1) then (if a2 = 0 then (if a3 = 0 then (some (a4 != 0)) else (some true)) else (some true)) else (some true)) else (some false)))))))))) = some r:=h
 clear h
 by_cases c6 : a1 < (-1)
 ·rw [if_pos c6] at H
  have c6b0 : decide (a1 < (-1)) = true:=decide_eq_true c6
  clear c6
  obtain rfl:=Option.some.inj H
  go_enter Try.func39,Try.ntmps39
  go_wp2
  go_ret
  exact ⟨by first|rfl|(simp;done)|(simp [*];done),by repeat (first|exact Drawn0.refl _|apply Drawn0.step)⟩
 rw [if_neg c6] at H
 have c6b0 : decide (a1 < (-1)) = false:=decide_eq_false c6
 clear c6
 by_cases c7 : a1 > 3
 ·rw [if_pos c7] at H
  have c7b0 : decide (3 < a1) = true:=decide_eq_true c7
  clear c7
  obtain rfl:=Option.some.inj H
  go_enter Try.func39,Try.ntmps39
  go_wp2
  go_ret
  exact ⟨by first|rfl|(simp;done)|(simp [*];done),by repeat (first|exact Drawn0.refl _|apply Drawn0.step)⟩
 rw [if_neg c7] at H
 have c7b0 : decide (3 < a1) = false:=decide_eq_false c7
 clear c7
 by_cases c8 : a2 < 0
 ·rw [if_pos c8] at H
  have c8b0 : decide (a2 < 0) = true:=decide_eq_true c8
  clear c8
  obtain rfl:=Option.some.inj H
  go_enter Try.func39,Try.ntmps39
  go_wp2
  go_ret
  exact ⟨by first|rfl|(simp;done)|(simp [*];done),by repeat (first|exact Drawn0.refl _|apply Drawn0.step)⟩
 rw [if_neg c8] at H
 have c8b0 : decide (a2 < 0) = false:=decide_eq_false c8
 clear c8
 by_cases c9 : a2 > 3
 ·rw [if_pos c9] at H
  have c9b0 : decide (3 < a2) = true:=decide_eq_true c9
  clear c9
  obtain rfl:=Option.some.inj H
  go_enter Try.func39,Try.ntmps39
  go_wp2
  go_ret
  exact ⟨by first|rfl|(simp;done)|(simp [*];done),by repeat (first|exact Drawn0.refl _|apply Drawn0.step)⟩
 rw [if_neg c9] at H
 have c9b0 : decide (3 < a2) = false:=decide_eq_false c9
 clear c9
 by_cases c10 : a3 < 0
 ·rw [if_pos c10] at H
  have c10b0 : decide (a3 < 0) = true:=decide_eq_true c10
  clear c10
  obtain rfl:=Option.some.inj H
  go_enter Try.func39,Try.ntmps39
  go_wp2
  go_ret
  exact ⟨by first|rfl|(simp;done)|(simp [*];done),by repeat (first|exact Drawn0.refl _|apply Drawn0.step)⟩
 rw [if_neg c10] at H
 have c10b0 : decide (a3 < 0) = false:=decide_eq_false c10
 clear c10
 by_cases c11 : a3 > 192
 ·rw [if_pos c11] at H
  have c11b0 : decide (192 < a3) = true:=decide_eq_true c11
  clear c11
  obtain rfl:=Option.some.inj H
  go_enter Try.func39,Try.ntmps39
  go_wp2
  go_ret
  exact ⟨by first|rfl|(simp;done)|(simp [*];done),by repeat (first|exact Drawn0.refl _|apply Drawn0.step)⟩
 rw [if_neg c11] at H
 have c11b0 : decide (192 < a3) = false:=decide_eq_false c11
 clear c11
 by_cases c12 : a4 < 0
 ·rw [if_pos c12] at H
  have c12b0 : decide (a4 < 0) = true:=decide_eq_true c12
  clear c12
  obtain rfl:=Option.some.inj H
  go_enter Try.func39,Try.ntmps39
  go_wp2
  go_ret
  exact ⟨by first|rfl|(simp;done)|(simp [*];done),by repeat (first|exact Drawn0.refl _|apply Drawn0.step)⟩
 rw [if_neg c12] at H
 have c12b0 : decide (a4 < 0) = false:=decide_eq_false c12
 clear c12
 by_cases c13 : a4 ≥ 192
 ·rw [if_pos c13] at H
  have c13b0 : decide (192 ≤ a4) = true:=decide_eq_true c13
  clear c13
  obtain rfl:=Option.some.inj H
  go_enter Try.func39,Try.ntmps39
  go_wp2
  go_ret
  exact ⟨by first|rfl|(simp;done)|(simp [*];done),by repeat (first|exact Drawn0.refl _|apply Drawn0.step)⟩
 rw [if_neg c13] at H
 have c13b0 : decide (192 ≤ a4) = false:=decide_eq_false c13
 clear c13
 by_cases c14 : a0 = (-1)
 rotate_left
 ·rw [if_neg c14] at H
  have c14b0:=bqf c14
  have c14b1:=bnt c14
  obtain rfl:=Option.some.inj H
  go_enter Try.func39,Try.ntmps39
  go_wp2
  go_ret
  exact ⟨by first|rfl|(simp;done)|(simp [*];done),by repeat (first|exact Drawn0.refl _|apply Drawn0.step)⟩
 rw [if_pos c14] at H
 have c14b0:=bqt c14
 have c14b1:=bnf c14
 clear c14
 by_cases c15 : a1 = (-1)
 ·rw [if_pos c15] at H
  have c15b0:=bqt c15
  have c15b1:=bnf c15
  clear c15
  by_cases c16 : a2 = 0
  ·rw [if_pos c16] at H
   have c16b0:=bqt c16
   have c16b1:=bnf c16
   clear c16
   by_cases c17 : a3 = 0
   ·rw [if_pos c17] at H
    have c17b0:=bqt c17
    have c17b1:=bnf c17
    clear c17
    obtain rfl:=Option.some.inj H
    go_enter Try.func39,Try.ntmps39
    go_wp2
    go_ret
    exact ⟨by first|rfl|(simp;done)|(simp [*];done),by repeat (first|exact Drawn0.refl _|apply Drawn0.step)⟩
   ·rw [if_neg c17] at H
    have c17b0:=bqf c17
    have c17b1:=bnt c17
    obtain rfl:=Option.some.inj H
    go_enter Try.func39,Try.ntmps39
    go_wp2
    go_ret
    exact ⟨by first|rfl|(simp;done)|(simp [*];done),by repeat (first|exact Drawn0.refl _|apply Drawn0.step)⟩
  ·rw [if_neg c16] at H
   have c16b0:=bqf c16
   have c16b1:=bnt c16
   obtain rfl:=Option.some.inj H
   go_enter Try.func39,Try.ntmps39
   go_wp2
   go_ret
   exact ⟨by first|rfl|(simp;done)|(simp [*];done),by repeat (first|exact Drawn0.refl _|apply Drawn0.step)⟩
 ·rw [if_neg c15] at H
  have c15b0:=bqf c15
  have c15b1:=bnt c15
  obtain rfl:=Option.some.inj H
  go_enter Try.func39,Try.ntmps39
  go_wp2
  go_ret
  exact ⟨by first|rfl|(simp;done)|(simp [*];done),by repeat (first|exact Drawn0.refl _|apply Drawn0.step)⟩

end Go.Proofs.Ythjmdpekcleihaa.P

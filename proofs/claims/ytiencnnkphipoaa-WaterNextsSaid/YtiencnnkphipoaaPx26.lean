/- Functions of this seat as plain Lean functions, with proofs that the Go code comes to just their answers, or what stands between them and a law's statement; no conditions. (Laid by a program of this session, out of the kit's print.) -/
import Derived.Test.YtiencnnkphipoaaPx0
import Derived.Test.YtiencnnkphipoaaPx8
import Derived.Test.YtiencnnkphipoaaPx9
namespace Go.Proofs.Ytiencnnkphipoaa.P
open Go.RowKit Go.Proofs.YtiencnnkphipoaaW.PrintWords Go.Proofs.YtiencnnkphipoaaW.PrintLast Go.Proofs.YtiencnnkphipoaaW.PrintMore
attribute [local go_sem] max2_int min2_int max_two min_two max_three min_three max_four min_four   -- for this text's walks alone
set_option linter.unusedVariables false
set_option linter.unusedSimpArgs false

/-! ### hinterlandref02_Beyond: function 18 -/
def hinterlandref02_Beyond.f (a0 : Int) (a1 : Int) (a2 : Int) (a3 : Int) : Option (Int) := if a0 = 0 then (none) else (if a3 = 0 then (if (wrap64 ((Int.tmod a2 a0) + 1)) < 0 then (some (-1)) else (if (wrap64 (Int.tdiv a2 a0)) < 0 then (some (-1)) else (if (wrap64 ((Int.tmod a2 a0) + 1)) ≥ a0 then (some (-1)) else (if (wrap64 (Int.tdiv a2 a0)) ≥ a1 then (some (-1)) else (some (wrap64 ((wrap64 ((wrap64 (Int.tdiv a2 a0)) * a0)) + (wrap64 ((Int.tmod a2 a0) + 1))))))))) else (if a3 = 1 then (if (Int.tmod a2 a0) < 0 then (some (-1)) else (if (wrap64 ((wrap64 (Int.tdiv a2 a0)) + 1)) < 0 then (some (-1)) else (if (Int.tmod a2 a0) ≥ a0 then (some (-1)) else (if (wrap64 ((wrap64 (Int.tdiv a2 a0)) + 1)) ≥ a1 then (some (-1)) else (some (wrap64 ((wrap64 ((wrap64 ((wrap64 (Int.tdiv a2 a0)) + 1)) * a0)) + (Int.tmod a2 a0)))))))) else (if a3 = 2 then (if (wrap64 ((Int.tmod a2 a0) - 1)) < 0 then (some (-1)) else (if (wrap64 (Int.tdiv a2 a0)) < 0 then (some (-1)) else (if (wrap64 ((Int.tmod a2 a0) - 1)) ≥ a0 then (some (-1)) else (if (wrap64 (Int.tdiv a2 a0)) ≥ a1 then (some (-1)) else (some (wrap64 ((wrap64 ((wrap64 (Int.tdiv a2 a0)) * a0)) + (wrap64 ((Int.tmod a2 a0) - 1))))))))) else (if a3 = 3 then (if (Int.tmod a2 a0) < 0 then (some (-1)) else (if (wrap64 ((wrap64 (Int.tdiv a2 a0)) - 1)) < 0 then (some (-1)) else (if (Int.tmod a2 a0) ≥ a0 then (some (-1)) else (if (wrap64 ((wrap64 (Int.tdiv a2 a0)) - 1)) ≥ a1 then (some (-1)) else (some (wrap64 ((wrap64 ((wrap64 ((wrap64 (Int.tdiv a2 a0)) - 1)) * a0)) + (Int.tmod a2 a0)))))))) else (if (Int.tmod a2 a0) < 0 then (some (-1)) else (if (wrap64 (Int.tdiv a2 a0)) < 0 then (some (-1)) else (if (Int.tmod a2 a0) ≥ a0 then (some (-1)) else (if (wrap64 (Int.tdiv a2 a0)) ≥ a1 then (some (-1)) else (some (wrap64 ((wrap64 ((wrap64 (Int.tdiv a2 a0)) * a0)) + (Int.tmod a2 a0))))))))))))
set_option maxHeartbeats 8000000 in
set_option maxRecDepth 100000 in
theorem hinterlandref02_Beyond.calls (a0 : Int) (a1 : Int) (a2 : Int) (a3 : Int) (r : Int) (w : World) (h : hinterlandref02_Beyond.f a0 a1 a2 a3 = some r) :
  Calls Try.prog 18 #[.int .i64 a0,.int .i64 a1,.int .i64 a2,.int .i64 a3] w fun e w' => e = .returned (.int .i64 r) ∧ Drawn0 w w':=by
 have H : (if a0 = 0 then (none) else (if a3 = 0 then (if (wrap64 ((Int.tmod a2 a0) + 1)) < 0 then (some (-1)) else (if (wrap64 (Int.tdiv a2 a0)) < 0 then (some (-1)) else (if (wrap64 ((Int.tmod a2 a0) + 1)) ≥ a0 then (some (-1)) else (if (wrap64 (Int.tdiv a2 a0)) ≥ a1 then (some (-1)) else (some (wrap64 ((wrap64 ((wrap64 (Int.tdiv a2 a0)) * a0)) + (wrap64 ((Int.tmod a2 a0) + 1))))))))) else (if a3 = 1 then (if (Int.tmod a2 a0) < 0 then (some (-1)) else (if (wrap64 ((wrap64 (Int.tdiv a2 a0)) + 1)) < 0 then (some (-1)) else (if (Int.tmod a2 a0) ≥ a0 then (some (-1)) else (if (wrap64 ((wrap64 (Int.tdiv a2 a0)) + 1)) ≥ a1 then (some (-1)) else (some (wrap64 ((wrap64 ((wrap64 ((wrap64 (Int.tdiv a2 a0)) + 1)) * a0)) + (Int.tmod a2 a0)))))))) else (if a3 = 2 then (if (wrap64 ((Int.tmod a2 a0) - 1)) < 0 then (some (-1)) else (if (wrap64 (Int.tdiv a2 a0)) < 0 then (some (-1)) else (if (wrap64 ((Int.tmod a2 a0) - 1)) ≥ a0 then (some (-1)) else (if (wrap64 (Int.tdiv a2 a0)) ≥ a1 then (some (-1)) else (some (wrap64 ((wrap64 ((wrap64 (Int.tdiv a2 a0)) * a0)) + (wrap64 ((Int.tmod a2 a0) - 1))))))))) else (if a3 = 3 then (if (Int.tmod a2 a0) < 0 then (some (-1)) else (if (wrap64 ((wrap64 (Int.tdiv a2 a0)) - 1)) < 0 then (some (-1)) else (if (Int.tmod a2 a0) ≥ a0 then (some (-1)) else (if (wrap64 ((wrap64 (Int.tdiv a2 a0)) - 1)) ≥ a1 then (some (-1)) else (some (wrap64 ((wrap64 ((wrap64 ((wrap64 (Int.tdiv a2 a0)) - 1)) * a0)) + (Int.tmod a2 a0)))))))) else (if (Int.tmod a2 a0) < 0 then (some (-1)) else (if (wrap64 (Int.tdiv a2 a0)) < 0 then (some (-1)) else (if (Int.tmod a2 a0) ≥ a0 then (some (-1)) else (if (wrap64 (Int.tdiv a2 a0)) ≥ a1 then (some (-1)) else (some (wrap64 ((wrap64 ((wrap64 (Int.tdiv a2 a0)) * a0)) + (Int.tmod a2 a0))))))))))))) = some r:=h
 clear h
 replace H:=ifn_ H;obtain ⟨c5,H⟩:=H
 have c5b0 : (a0 == 0) = false:=beq_eq_false_iff_ne.mpr c5
 have c5b1 : (a0 != 0) = true:=bne_iff_ne.mpr c5
 by_cases c6 : a3 = 0
 ·rw [if_pos c6] at H
  have c6b0 : (a3 == 0) = true:=beq_iff_eq.mpr c6
  have c6b1 : (a3 != 0) = false:=bne_eq_false_iff_eq.mpr c6
  clear c6
  by_cases c7 : (wrap64 ((Int.tmod a2 a0) + 1)) < 0
  ·rw [if_pos c7] at H
   have c7b0 : decide ((wrap64 ((Int.tmod a2 a0) + 1)) < 0) = true:=decide_eq_true c7
   clear c7
   obtain rfl:=Option.some.inj H
   go_enter Try.func18,Try.ntmps18
   go_wp2
   go_quiet (fail)
   go_wp2
   go_ret
   exact ⟨by first|rfl|(simp;done)|(simp [*];done),by repeat (first|exact Drawn0.refl _|apply Drawn0.step)⟩
  rw [if_neg c7] at H
  have c7b0 : decide ((wrap64 ((Int.tmod a2 a0) + 1)) < 0) = false:=decide_eq_false c7
  clear c7
  by_cases c8 : (wrap64 (Int.tdiv a2 a0)) < 0
  ·rw [if_pos c8] at H
   have c8b0 : decide ((wrap64 (Int.tdiv a2 a0)) < 0) = true:=decide_eq_true c8
   clear c8
   obtain rfl:=Option.some.inj H
   go_enter Try.func18,Try.ntmps18
   go_wp2
   go_quiet (fail)
   go_wp2
   go_ret
   exact ⟨by first|rfl|(simp;done)|(simp [*];done),by repeat (first|exact Drawn0.refl _|apply Drawn0.step)⟩
  rw [if_neg c8] at H
  have c8b0 : decide ((wrap64 (Int.tdiv a2 a0)) < 0) = false:=decide_eq_false c8
  clear c8
  by_cases c9 : (wrap64 ((Int.tmod a2 a0) + 1)) ≥ a0
  ·rw [if_pos c9] at H
   have c9b0 : decide (a0 ≤ (wrap64 ((Int.tmod a2 a0) + 1))) = true:=decide_eq_true c9
   clear c9
   obtain rfl:=Option.some.inj H
   go_enter Try.func18,Try.ntmps18
   go_wp2
   go_quiet (fail)
   go_wp2
   go_ret
   exact ⟨by first|rfl|(simp;done)|(simp [*];done),by repeat (first|exact Drawn0.refl _|apply Drawn0.step)⟩
  ·rw [if_neg c9] at H
   have c9b0 : decide (a0 ≤ (wrap64 ((Int.tmod a2 a0) + 1))) = false:=decide_eq_false c9
   clear c9
   by_cases c10 : (wrap64 (Int.tdiv a2 a0)) ≥ a1
   ·rw [if_pos c10] at H
    have c10b0 : decide (a1 ≤ (wrap64 (Int.tdiv a2 a0))) = true:=decide_eq_true c10
    clear c10
    obtain rfl:=Option.some.inj H
    go_enter Try.func18,Try.ntmps18
    go_wp2
    go_quiet (fail)
    go_wp2
    go_ret
    exact ⟨by first|rfl|(simp;done)|(simp [*];done),by repeat (first|exact Drawn0.refl _|apply Drawn0.step)⟩
   ·rw [if_neg c10] at H
    have c10b0 : decide (a1 ≤ (wrap64 (Int.tdiv a2 a0))) = false:=decide_eq_false c10
    clear c10
    obtain rfl:=Option.some.inj H
    go_enter Try.func18,Try.ntmps18
    go_wp2
    go_quiet (fail)
    go_wp2
    go_ret
    exact ⟨by first|rfl|(simp;done)|(simp [*];done),by repeat (first|exact Drawn0.refl _|apply Drawn0.step)⟩
 rw [if_neg c6] at H
 have c6b0 : (a3 == 0) = false:=beq_eq_false_iff_ne.mpr c6
 have c6b1 : (a3 != 0) = true:=bne_iff_ne.mpr c6
 by_cases c11 : a3 = 1
 ·rw [if_pos c11] at H
  have c11b0 : (a3 == 1) = true:=beq_iff_eq.mpr c11
  have c11b1 : (a3 != 1) = false:=bne_eq_false_iff_eq.mpr c11
  clear c11
  by_cases c12 : (Int.tmod a2 a0) < 0
  ·rw [if_pos c12] at H
   have c12b0 : decide ((Int.tmod a2 a0) < 0) = true:=decide_eq_true c12
   clear c12
   obtain rfl:=Option.some.inj H
   go_enter Try.func18,Try.ntmps18
   go_wp2
   go_quiet (fail)
   go_wp2
   go_ret
   exact ⟨by first|rfl|(simp;done)|(simp [*];done),by repeat (first|exact Drawn0.refl _|apply Drawn0.step)⟩
  rw [if_neg c12] at H
  have c12b0 : decide ((Int.tmod a2 a0) < 0) = false:=decide_eq_false c12
  clear c12
  by_cases c13 : (wrap64 ((wrap64 (Int.tdiv a2 a0)) + 1)) < 0
  ·rw [if_pos c13] at H
   have c13b0 : decide ((wrap64 ((wrap64 (Int.tdiv a2 a0)) + 1)) < 0) = true:=decide_eq_true c13
   clear c13
   obtain rfl:=Option.some.inj H
   go_enter Try.func18,Try.ntmps18
   go_wp2
   go_quiet (fail)
   go_wp2
   go_ret
   exact ⟨by first|rfl|(simp;done)|(simp [*];done),by repeat (first|exact Drawn0.refl _|apply Drawn0.step)⟩
  rw [if_neg c13] at H
  have c13b0 : decide ((wrap64 ((wrap64 (Int.tdiv a2 a0)) + 1)) < 0) = false:=decide_eq_false c13
  clear c13
  by_cases c14 : (Int.tmod a2 a0) ≥ a0
  ·rw [if_pos c14] at H
   have c14b0 : decide (a0 ≤ (Int.tmod a2 a0)) = true:=decide_eq_true c14
   clear c14
   obtain rfl:=Option.some.inj H
   go_enter Try.func18,Try.ntmps18
   go_wp2
   go_quiet (fail)
   go_wp2
   go_ret
   exact ⟨by first|rfl|(simp;done)|(simp [*];done),by repeat (first|exact Drawn0.refl _|apply Drawn0.step)⟩
  ·rw [if_neg c14] at H
   have c14b0 : decide (a0 ≤ (Int.tmod a2 a0)) = false:=decide_eq_false c14
   clear c14
   by_cases c15 : (wrap64 ((wrap64 (Int.tdiv a2 a0)) + 1)) ≥ a1
   ·rw [if_pos c15] at H
    have c15b0 : decide (a1 ≤ (wrap64 ((wrap64 (Int.tdiv a2 a0)) + 1))) = true:=decide_eq_true c15
    clear c15
    obtain rfl:=Option.some.inj H
    go_enter Try.func18,Try.ntmps18
    go_wp2
    go_quiet (fail)
    go_wp2
    go_ret
    exact ⟨by first|rfl|(simp;done)|(simp [*];done),by repeat (first|exact Drawn0.refl _|apply Drawn0.step)⟩
   ·rw [if_neg c15] at H
    have c15b0 : decide (a1 ≤ (wrap64 ((wrap64 (Int.tdiv a2 a0)) + 1))) = false:=decide_eq_false c15
    clear c15
    obtain rfl:=Option.some.inj H
    go_enter Try.func18,Try.ntmps18
    go_wp2
    go_quiet (fail)
    go_wp2
    go_ret
    exact ⟨by first|rfl|(simp;done)|(simp [*];done),by repeat (first|exact Drawn0.refl _|apply Drawn0.step)⟩
 rw [if_neg c11] at H
 have c11b0 : (a3 == 1) = false:=beq_eq_false_iff_ne.mpr c11
 have c11b1 : (a3 != 1) = true:=bne_iff_ne.mpr c11
 by_cases c16 : a3 = 2
 ·rw [if_pos c16] at H
  have c16b0 : (a3 == 2) = true:=beq_iff_eq.mpr c16
  have c16b1 : (a3 != 2) = false:=bne_eq_false_iff_eq.mpr c16
  clear c16
  by_cases c17 : (wrap64 ((Int.tmod a2 a0) - 1)) < 0
  ·rw [if_pos c17] at H
   have c17b0 : decide ((wrap64 ((Int.tmod a2 a0) - 1)) < 0) = true:=decide_eq_true c17
   clear c17
   obtain rfl:=Option.some.inj H
   go_enter Try.func18,Try.ntmps18
   go_wp2
   go_quiet (fail)
   go_wp2
   go_ret
   exact ⟨by first|rfl|(simp;done)|(simp [*];done),by repeat (first|exact Drawn0.refl _|apply Drawn0.step)⟩
  rw [if_neg c17] at H
  have c17b0 : decide ((wrap64 ((Int.tmod a2 a0) - 1)) < 0) = false:=decide_eq_false c17
  clear c17
  by_cases c18 : (wrap64 (Int.tdiv a2 a0)) < 0
  ·rw [if_pos c18] at H
   have c18b0 : decide ((wrap64 (Int.tdiv a2 a0)) < 0) = true:=decide_eq_true c18
   clear c18
   obtain rfl:=Option.some.inj H
   go_enter Try.func18,Try.ntmps18
   go_wp2
   go_quiet (fail)
   go_wp2
   go_ret
   exact ⟨by first|rfl|(simp;done)|(simp [*];done),by repeat (first|exact Drawn0.refl _|apply Drawn0.step)⟩
  rw [if_neg c18] at H
  have c18b0 : decide ((wrap64 (Int.tdiv a2 a0)) < 0) = false:=decide_eq_false c18
  clear c18
  by_cases c19 : (wrap64 ((Int.tmod a2 a0) - 1)) ≥ a0
  ·rw [if_pos c19] at H
   have c19b0 : decide (a0 ≤ (wrap64 ((Int.tmod a2 a0) - 1))) = true:=decide_eq_true c19
   clear c19
   obtain rfl:=Option.some.inj H
   go_enter Try.func18,Try.ntmps18
   go_wp2
   go_quiet (fail)
   go_wp2
   go_ret
   exact ⟨by first|rfl|(simp;done)|(simp [*];done),by repeat (first|exact Drawn0.refl _|apply Drawn0.step)⟩
  ·rw [if_neg c19] at H
   have c19b0 : decide (a0 ≤ (wrap64 ((Int.tmod a2 a0) - 1))) = false:=decide_eq_false c19
   clear c19
   by_cases c20 : (wrap64 (Int.tdiv a2 a0)) ≥ a1
   ·rw [if_pos c20] at H
    have c20b0 : decide (a1 ≤ (wrap64 (Int.tdiv a2 a0))) = true:=decide_eq_true c20
    clear c20
    obtain rfl:=Option.some.inj H
    go_enter Try.func18,Try.ntmps18
    go_wp2
    go_quiet (fail)
    go_wp2
    go_ret
    exact ⟨by first|rfl|(simp;done)|(simp [*];done),by repeat (first|exact Drawn0.refl _|apply Drawn0.step)⟩
   ·rw [if_neg c20] at H
    have c20b0 : decide (a1 ≤ (wrap64 (Int.tdiv a2 a0))) = false:=decide_eq_false c20
    clear c20
    obtain rfl:=Option.some.inj H
    go_enter Try.func18,Try.ntmps18
    go_wp2
    go_quiet (fail)
    go_wp2
    go_ret
    exact ⟨by first|rfl|(simp;done)|(simp [*];done),by repeat (first|exact Drawn0.refl _|apply Drawn0.step)⟩
 rw [if_neg c16] at H
 have c16b0 : (a3 == 2) = false:=beq_eq_false_iff_ne.mpr c16
 have c16b1 : (a3 != 2) = true:=bne_iff_ne.mpr c16
 by_cases c21 : a3 = 3
 rotate_left
 ·rw [if_neg c21] at H
  have c21b0 : (a3 == 3) = false:=beq_eq_false_iff_ne.mpr c21
  have c21b1 : (a3 != 3) = true:=bne_iff_ne.mpr c21
  by_cases c26 : (Int.tmod a2 a0) < 0
  ·rw [if_pos c26] at H
   have c26b0 : decide ((Int.tmod a2 a0) < 0) = true:=decide_eq_true c26
   clear c26
   obtain rfl:=Option.some.inj H
   go_enter Try.func18,Try.ntmps18
   go_wp2
   go_quiet (fail)
   go_wp2
   go_ret
   exact ⟨by first|rfl|(simp;done)|(simp [*];done),by repeat (first|exact Drawn0.refl _|apply Drawn0.step)⟩
  rw [if_neg c26] at H
  have c26b0 : decide ((Int.tmod a2 a0) < 0) = false:=decide_eq_false c26
  clear c26
  by_cases c27 : (wrap64 (Int.tdiv a2 a0)) < 0
  ·rw [if_pos c27] at H
   have c27b0 : decide ((wrap64 (Int.tdiv a2 a0)) < 0) = true:=decide_eq_true c27
   clear c27
   obtain rfl:=Option.some.inj H
   go_enter Try.func18,Try.ntmps18
   go_wp2
   go_quiet (fail)
   go_wp2
   go_ret
   exact ⟨by first|rfl|(simp;done)|(simp [*];done),by repeat (first|exact Drawn0.refl _|apply Drawn0.step)⟩
  rw [if_neg c27] at H
  have c27b0 : decide ((wrap64 (Int.tdiv a2 a0)) < 0) = false:=decide_eq_false c27
  clear c27
  by_cases c28 : (Int.tmod a2 a0) ≥ a0
  ·rw [if_pos c28] at H
   have c28b0 : decide (a0 ≤ (Int.tmod a2 a0)) = true:=decide_eq_true c28
   clear c28
   obtain rfl:=Option.some.inj H
   go_enter Try.func18,Try.ntmps18
   go_wp2
   go_quiet (fail)
   go_wp2
   go_ret
   exact ⟨by first|rfl|(simp;done)|(simp [*];done),by repeat (first|exact Drawn0.refl _|apply Drawn0.step)⟩
  ·rw [if_neg c28] at H
   have c28b0 : decide (a0 ≤ (Int.tmod a2 a0)) = false:=decide_eq_false c28
   clear c28
   by_cases c29 : (wrap64 (Int.tdiv a2 a0)) ≥ a1
   ·rw [if_pos c29] at H
    have c29b0 : decide (a1 ≤ (wrap64 (Int.tdiv a2 a0))) = true:=decide_eq_true c29
    clear c29
    obtain rfl:=Option.some.inj H
    go_enter Try.func18,Try.ntmps18
    go_wp2
    go_quiet (fail)
    go_wp2
    go_ret
    exact ⟨by first|rfl|(simp;done)|(simp [*];done),by repeat (first|exact Drawn0.refl _|apply Drawn0.step)⟩
   ·rw [if_neg c29] at H
    have c29b0 : decide (a1 ≤ (wrap64 (Int.tdiv a2 a0))) = false:=decide_eq_false c29
    clear c29
    obtain rfl:=Option.some.inj H
    go_enter Try.func18,Try.ntmps18
    go_wp2
    go_quiet (fail)
    go_wp2
    go_ret
    exact ⟨by first|rfl|(simp;done)|(simp [*];done),by repeat (first|exact Drawn0.refl _|apply Drawn0.step)⟩
 rw [if_pos c21] at H
 have c21b0 : (a3 == 3) = true:=beq_iff_eq.mpr c21
 have c21b1 : (a3 != 3) = false:=bne_eq_false_iff_eq.mpr c21
 clear c21
 by_cases c22 : (Int.tmod a2 a0) < 0
 ·rw [if_pos c22] at H
  have c22b0 : decide ((Int.tmod a2 a0) < 0) = true:=decide_eq_true c22
  clear c22
  obtain rfl:=Option.some.inj H
  go_enter Try.func18,Try.ntmps18
  go_wp2
  go_quiet (fail)
  go_wp2
  go_ret
  exact ⟨by first|rfl|(simp;done)|(simp [*];done),by repeat (first|exact Drawn0.refl _|apply Drawn0.step)⟩
 rw [if_neg c22] at H
 have c22b0 : decide ((Int.tmod a2 a0) < 0) = false:=decide_eq_false c22
 clear c22
 by_cases c23 : (wrap64 ((wrap64 (Int.tdiv a2 a0)) - 1)) < 0
 ·rw [if_pos c23] at H
  have c23b0 : decide ((wrap64 ((wrap64 (Int.tdiv a2 a0)) - 1)) < 0) = true:=decide_eq_true c23
  clear c23
  obtain rfl:=Option.some.inj H
  go_enter Try.func18,Try.ntmps18
  go_wp2
  go_quiet (fail)
  go_wp2
  go_ret
  exact ⟨by first|rfl|(simp;done)|(simp [*];done),by repeat (first|exact Drawn0.refl _|apply Drawn0.step)⟩
 rw [if_neg c23] at H
 have c23b0 : decide ((wrap64 ((wrap64 (Int.tdiv a2 a0)) - 1)) < 0) = false:=decide_eq_false c23
 clear c23
 by_cases c24 : (Int.tmod a2 a0) ≥ a0
 ·rw [if_pos c24] at H
  have c24b0 : decide (a0 ≤ (Int.tmod a2 a0)) = true:=decide_eq_true c24
  clear c24
  obtain rfl:=Option.some.inj H
  go_enter Try.func18,Try.ntmps18
  go_wp2
  go_quiet (fail)
  go_wp2
  go_ret
  exact ⟨by first|rfl|(simp;done)|(simp [*];done),by repeat (first|exact Drawn0.refl _|apply Drawn0.step)⟩
 ·rw [if_neg c24] at H
  have c24b0 : decide (a0 ≤ (Int.tmod a2 a0)) = false:=decide_eq_false c24
  clear c24
  by_cases c25 : (wrap64 ((wrap64 (Int.tdiv a2 a0)) - 1)) ≥ a1
  ·rw [if_pos c25] at H
   have c25b0 : decide (a1 ≤ (wrap64 ((wrap64 (Int.tdiv a2 a0)) - 1))) = true:=decide_eq_true c25
   clear c25
   obtain rfl:=Option.some.inj H
   go_enter Try.func18,Try.ntmps18
   go_wp2
   go_quiet (fail)
   go_wp2
   go_ret
   exact ⟨by first|rfl|(simp;done)|(simp [*];done),by repeat (first|exact Drawn0.refl _|apply Drawn0.step)⟩
  ·rw [if_neg c25] at H
   have c25b0 : decide (a1 ≤ (wrap64 ((wrap64 (Int.tdiv a2 a0)) - 1))) = false:=decide_eq_false c25
   clear c25
   obtain rfl:=Option.some.inj H
   go_enter Try.func18,Try.ntmps18
   go_wp2
   go_quiet (fail)
   go_wp2
   go_ret
   exact ⟨by first|rfl|(simp;done)|(simp [*];done),by repeat (first|exact Drawn0.refl _|apply Drawn0.step)⟩

/-! ### hinterlandref06_Depth: function 64 -/
def hinterlandref06_Depth.f (k : Nat) (a0_0 : Int) (a0_1 : Int) (l0_2 : List Int) (a1 : Int) : Option (Int) := (hinterlandref02_Sea.f k a0_0 a0_1 l0_2 a1).bind fun t574 => (if t574 = true then (some 2) else ((hinterlandref02_Face.f k a0_0 a0_1 l0_2 a1).bind fun bt575 => (some bt575.2)))
theorem hinterlandref06_Depth.mono : ∀ a0 a1 a2 a3 k, LeO (hinterlandref06_Depth.f k a0 a1 a2 a3) (hinterlandref06_Depth.f (k + 1) a0 a1 a2 a3) := by
 intro a0 a1 a2 a3 k
 unfold hinterlandref06_Depth.f
 repeat' first
   | (with_reducible exact hinterlandref02_Face.mono _ _ _ _ _)
   | (with_reducible exact hinterlandref02_Sea.mono _ _ _ _ _)
   | (with_reducible exact LeO.refl _)
   | (with_reducible exact LeO.none _)
   | (with_reducible refine LeO.ite ?_ ?_)
   | (with_reducible refine LeO.bind ?_ (fun _ => ?_))
   | exact hinterlandref02_Face.mono _ _ _ _ _
   | exact hinterlandref02_Sea.mono _ _ _ _ _
   | exact LeO.none _
   | refine LeO.ite ?_ ?_
   | refine LeO.bind ?_ (fun _ => ?_)
set_option maxHeartbeats 8000000 in
set_option maxRecDepth 100000 in
theorem hinterlandref06_Depth.calls (k : Nat) (a0_0 : Int) (a0_1 : Int) (A0_2 : Option Addr) (c0_2 : Nat) (l0_2 : List Int) (a1 : Int) (r : Int) (w : World) (hr0_2 : Kd.C (Kd.int .i64) w A0_2 l0_2.length l0_2) (hc0_2 : l0_2.length ≤ c0_2) (h : hinterlandref06_Depth.f k a0_0 a0_1 l0_2 a1 = some r) :
  Calls Try.prog 64 #[.agg #[.int .i64 a0_0,.int .i64 a0_1,.slice A0_2 l0_2.length c0_2],.int .i64 a1] w fun e w' => e = .returned (.int .i64 r) ∧ Below w.heap.size w w':=by
 have hu24:=Try.underlying24
 have HR0_2:=Aside0.mk hr0_2
 have HC0_2:=Aside0.mk hc0_2
 clear hr0_2 hc0_2
 have HB:=Aside0.mk (Below.refl w.heap.size w)
 have H : ((hinterlandref02_Sea.f k a0_0 a0_1 l0_2 a1).bind fun t574 => (if t574 = true then (some 2) else ((hinterlandref02_Face.f k a0_0 a0_1 l0_2 a1).bind fun bt575 => (some bt575.2)))) = some r:=h
 clear h
 replace H:=Option.bind_eq_some_iff.mp H
 obtain ⟨t574,A30,H⟩:=H
 replace H : (if t574 = true then (some 2) else ((hinterlandref02_Face.f k a0_0 a0_1 l0_2 a1).bind fun bt575 => (some bt575.2))) = some r:=H
 have A3:=Aside0.mk A30
 clear A30
 by_cases c4 : t574 = true
 ·subst c4
  have H1 : (some 2) = some r:=by rw [if_pos rfl] at H;exact H
  clear H
  have H:=H1
  clear H1
  obtain rfl:=Option.some.inj H
  go_enter Try.func64,Try.ntmps64
  go_wp2_with (first|((with_reducible refine gate_dst (N:=2) rfl ?_);refine box_ev (N:=2) (cs:=#[.int .i64 a0_0,.int .i64 a0_1,.slice A0_2 l0_2.length c0_2]) (t:=24) ?_;intro gb573 hg w5 hbox hb;have BK573:=Aside0.mk (hbox);have GW573 : Aside0 (w.heap.size ≤ gb573):=gsz hg;have GE573:=GW573;replace HB:=Aside0.mk (below_step (hb_) hb);clear hb hbox hg;obtain ⟨hcz6_0,hcz6_1,hcz6_2,hfz6_0,hfz6_1,hfz6_2⟩:=cells3 BK573.out)|((with_reducible refine gate_callee (f:=51) rfl ?_);refine goesL_ (some 9) rfl rfl Try.func51 (by kernel_rfl) rfl #[.agg #[.int .i64 a0_0,.int .i64 a0_1,.slice A0_2 l0_2.length c0_2],.int .i64 a1] rfl (by (try simp only [List.map_toArray,List.map_cons,List.map_nil]);first|done|rfl|(simp only [List.length_drop,List.length_take];rfl)) ?_;(with_reducible refine (hinterlandref02_Sea.calls k a0_0 a0_1 _ _ l0_2 a1 true _ ?side1 ?side2 A3.out).mono ?_);(case side1 => exact Kd.C_up (Kd.C_below HR0_2.out HB.out));(case side2 => exact HC0_2.out);rintro e w7 ⟨rfl,hb⟩;refine ⟨_,rfl,?_⟩;replace BK573:=bkb BK573 hb;replace HB:=Aside0.mk (below_step (hb_) hb)))
  go_ret
  exact ⟨by first|rfl|(simp [errW_none,errW_some] <;> rfl)|(simp [*,errW_none,errW_some] <;> rfl),hb_⟩
 ·replace c4:=Bool.eq_false_iff.mpr c4
  subst c4
  have H1 : ((hinterlandref02_Face.f k a0_0 a0_1 l0_2 a1).bind fun bt575 => (some bt575.2)) = some r:=by rw [if_neg (show ¬ (false = true) by decide)] at H;exact H
  clear H
  have H:=H1
  clear H1
  replace H:=Option.bind_eq_some_iff.mp H
  obtain ⟨⟨t575,t576⟩,A80,H⟩:=H
  replace H : (some t576) = some r:=H
  have A8:=Aside0.mk A80
  clear A80
  obtain rfl:=Option.some.inj H
  go_enter Try.func64,Try.ntmps64
  go_wp2_with (first|((with_reducible refine gate_dst (N:=2) rfl ?_);refine box_ev (N:=2) (cs:=#[.int .i64 a0_0,.int .i64 a0_1,.slice A0_2 l0_2.length c0_2]) (t:=24) ?_;intro gb573 hg w9 hbox hb;have BK573:=Aside0.mk (hbox);have GW573 : Aside0 (w.heap.size ≤ gb573):=gsz hg;have GE573:=GW573;replace HB:=Aside0.mk (below_step (hb_) hb);clear hb hbox hg;obtain ⟨hcz10_0,hcz10_1,hcz10_2,hfz10_0,hfz10_1,hfz10_2⟩:=cells3 BK573.out)|((with_reducible refine gate_callee (f:=51) rfl ?_);refine goesL_ (some 9) rfl rfl Try.func51 (by kernel_rfl) rfl #[.agg #[.int .i64 a0_0,.int .i64 a0_1,.slice A0_2 l0_2.length c0_2],.int .i64 a1] rfl (by (try simp only [List.map_toArray,List.map_cons,List.map_nil]);first|done|rfl|(simp only [List.length_drop,List.length_take];rfl)) ?_;(with_reducible refine (hinterlandref02_Sea.calls k a0_0 a0_1 _ _ l0_2 a1 false _ ?side1 ?side2 A3.out).mono ?_);(case side1 => exact Kd.C_up (Kd.C_below HR0_2.out HB.out));(case side2 => exact HC0_2.out);rintro e w11 ⟨rfl,hb⟩;refine ⟨_,rfl,?_⟩;replace BK573:=bkb BK573 hb;replace HB:=Aside0.mk (below_step (hb_) hb);obtain ⟨hcz12_0,hcz12_1,hcz12_2,hfz12_0,hfz12_1,hfz12_2⟩:=cells3 BK573.out)|((with_reducible refine gate_callee (f:=50) rfl ?_);refine goesL_ (some 13) rfl rfl Try.func50 (by kernel_rfl) rfl #[.agg #[.int .i64 a0_0,.int .i64 a0_1,.slice A0_2 l0_2.length c0_2],.int .i64 a1] rfl (by (try simp only [List.map_toArray,List.map_cons,List.map_nil]);first|done|rfl|(simp only [List.length_drop,List.length_take];rfl)) ?_;(with_reducible refine (hinterlandref02_Face.calls k a0_0 a0_1 _ _ l0_2 a1 t575 t576 _ ?side1 ?side2 A8.out).mono ?_);(case side1 => exact Kd.C_up (Kd.C_below HR0_2.out HB.out));(case side2 => exact HC0_2.out);rintro e w13 ⟨rfl,hb⟩;refine ⟨_,rfl,?_⟩;replace BK573:=bkb BK573 hb;replace HB:=Aside0.mk (below_step (hb_) hb)))
  go_ret
  exact ⟨by first|rfl|(simp [errW_none,errW_some] <;> rfl)|(simp [*,errW_none,errW_some] <;> rfl),hb_⟩

end Go.Proofs.Ytiencnnkphipoaa.P

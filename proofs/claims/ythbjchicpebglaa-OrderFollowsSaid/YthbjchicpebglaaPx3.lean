/- Functions of this seat as plain Lean functions, with proofs that the Go code comes to just their answers, or what stands between them and a law's statement; no conditions. (Laid by a program of this session, out of the kit's print.) -/
import Derived.Test.YthbjchicpebglaaPx0
namespace Go.Proofs.Ythbjchicpebglaa.P
open Go.RowKit Go.Proofs.YthbjchicpebglaaW.PrintWords Go.Proofs.YthbjchicpebglaaW.PrintLast Go.Proofs.YthbjchicpebglaaW.PrintMore
attribute [local go_sem] max2_int min2_int max_two min_two max_three min_three max_four min_four   -- for this text's walks alone
set_option linter.unusedVariables false
set_option linter.unusedSimpArgs false

-- plug-in
/-! ### order_holds: function 51 -/
def order_holds.f (a0_0 a0_1 a0_2 a0_3 a0_4 a0_5 a0_6 a0_7 a0_8 a1_0 a1_1 a1_2 a1_3 : Int) : Option Bool :=
 if a0_4 = 0 then some true else if a0_4 = 1 then some (decide (a0_5 ≤ a1_0)) else if a0_4 = 2 then some (decide (a0_5 ≤ a1_1)) else if a0_4 = 3 then some (decide (a1_2 < a0_5)) else if a0_4 = 4 then some (decide (a0_5 ≤ a1_3)) else none
set_option maxHeartbeats 8000000 in
set_option maxRecDepth 100000 in
theorem order_holds.calls0 (a0_0 a0_1 a0_2 a0_3 a0_5 a0_6 a0_7 a0_8 a1_0 a1_1 a1_2 a1_3 : Int) (w : World) :
  Calls Try.prog 51 #[.agg #[.int .i64 a0_0,.int .i64 a0_1,.int .i64 a0_2,.int .i64 a0_3,.int .i64 0,.int .i64 a0_5,.int .i64 a0_6,.int .i64 a0_7,.int .i64 a0_8],.agg #[.int .i64 a1_0,.int .i64 a1_1,.int .i64 a1_2,.int .i64 a1_3]] w fun e w' => e = .returned (.bool (true)) ∧ Below w.heap.size w w':=by
 have hmf : ∀ (fn : Fn) (first cap : Array Value) (w : World),(Instr.makeFunc fn first cap).run Try.prog w = .ok (.func fn first cap) w:=fun _ _ _ _ => rfl
 have hu33:=Try.underlying33
 have hu28:=Try.underlying28
 have HB:=Aside0.mk (Below.refl w.heap.size w)
 go_enter Try.func51,Try.ntmps51
 go_wp2
 go_ret
 exact ⟨rfl,by repeat (first|exact HB.out|apply below_alloc)⟩
set_option maxHeartbeats 8000000 in
set_option maxRecDepth 100000 in
theorem order_holds.calls1 (a0_0 a0_1 a0_2 a0_3 a0_5 a0_6 a0_7 a0_8 a1_0 a1_1 a1_2 a1_3 : Int) (w : World) :
  Calls Try.prog 51 #[.agg #[.int .i64 a0_0,.int .i64 a0_1,.int .i64 a0_2,.int .i64 a0_3,.int .i64 1,.int .i64 a0_5,.int .i64 a0_6,.int .i64 a0_7,.int .i64 a0_8],.agg #[.int .i64 a1_0,.int .i64 a1_1,.int .i64 a1_2,.int .i64 a1_3]] w fun e w' => e = .returned (.bool (decide (a0_5 ≤ a1_0))) ∧ Below w.heap.size w w':=by
 have hmf : ∀ (fn : Fn) (first cap : Array Value) (w : World),(Instr.makeFunc fn first cap).run Try.prog w = .ok (.func fn first cap) w:=fun _ _ _ _ => rfl
 have hu33:=Try.underlying33
 have hu28:=Try.underlying28
 have HB:=Aside0.mk (Below.refl w.heap.size w)
 go_enter Try.func51,Try.ntmps51
 go_wp2
 go_ret
 exact ⟨rfl,by repeat (first|exact HB.out|apply below_alloc)⟩
set_option maxHeartbeats 8000000 in
set_option maxRecDepth 100000 in
theorem order_holds.calls2 (a0_0 a0_1 a0_2 a0_3 a0_5 a0_6 a0_7 a0_8 a1_0 a1_1 a1_2 a1_3 : Int) (w : World) :
  Calls Try.prog 51 #[.agg #[.int .i64 a0_0,.int .i64 a0_1,.int .i64 a0_2,.int .i64 a0_3,.int .i64 2,.int .i64 a0_5,.int .i64 a0_6,.int .i64 a0_7,.int .i64 a0_8],.agg #[.int .i64 a1_0,.int .i64 a1_1,.int .i64 a1_2,.int .i64 a1_3]] w fun e w' => e = .returned (.bool (decide (a0_5 ≤ a1_1))) ∧ Below w.heap.size w w':=by
 have hmf : ∀ (fn : Fn) (first cap : Array Value) (w : World),(Instr.makeFunc fn first cap).run Try.prog w = .ok (.func fn first cap) w:=fun _ _ _ _ => rfl
 have hu33:=Try.underlying33
 have hu28:=Try.underlying28
 have HB:=Aside0.mk (Below.refl w.heap.size w)
 go_enter Try.func51,Try.ntmps51
 go_wp2
 go_ret
 exact ⟨rfl,by repeat (first|exact HB.out|apply below_alloc)⟩
set_option maxHeartbeats 8000000 in
set_option maxRecDepth 100000 in
theorem order_holds.calls3 (a0_0 a0_1 a0_2 a0_3 a0_5 a0_6 a0_7 a0_8 a1_0 a1_1 a1_2 a1_3 : Int) (w : World) :
  Calls Try.prog 51 #[.agg #[.int .i64 a0_0,.int .i64 a0_1,.int .i64 a0_2,.int .i64 a0_3,.int .i64 3,.int .i64 a0_5,.int .i64 a0_6,.int .i64 a0_7,.int .i64 a0_8],.agg #[.int .i64 a1_0,.int .i64 a1_1,.int .i64 a1_2,.int .i64 a1_3]] w fun e w' => e = .returned (.bool (decide (a1_2 < a0_5))) ∧ Below w.heap.size w w':=by
 have hmf : ∀ (fn : Fn) (first cap : Array Value) (w : World),(Instr.makeFunc fn first cap).run Try.prog w = .ok (.func fn first cap) w:=fun _ _ _ _ => rfl
 have hu33:=Try.underlying33
 have hu28:=Try.underlying28
 have HB:=Aside0.mk (Below.refl w.heap.size w)
 go_enter Try.func51,Try.ntmps51
 go_wp2
 go_ret
 exact ⟨rfl,by repeat (first|exact HB.out|apply below_alloc)⟩
set_option maxHeartbeats 8000000 in
set_option maxRecDepth 100000 in
theorem order_holds.calls4 (a0_0 a0_1 a0_2 a0_3 a0_5 a0_6 a0_7 a0_8 a1_0 a1_1 a1_2 a1_3 : Int) (w : World) :
  Calls Try.prog 51 #[.agg #[.int .i64 a0_0,.int .i64 a0_1,.int .i64 a0_2,.int .i64 a0_3,.int .i64 4,.int .i64 a0_5,.int .i64 a0_6,.int .i64 a0_7,.int .i64 a0_8],.agg #[.int .i64 a1_0,.int .i64 a1_1,.int .i64 a1_2,.int .i64 a1_3]] w fun e w' => e = .returned (.bool (decide (a0_5 ≤ a1_3))) ∧ Below w.heap.size w w':=by
 have hmf : ∀ (fn : Fn) (first cap : Array Value) (w : World),(Instr.makeFunc fn first cap).run Try.prog w = .ok (.func fn first cap) w:=fun _ _ _ _ => rfl
 have hu33:=Try.underlying33
 have hu28:=Try.underlying28
 have HB:=Aside0.mk (Below.refl w.heap.size w)
 go_enter Try.func51,Try.ntmps51
 go_wp2
 go_ret
 exact ⟨rfl,by repeat (first|exact HB.out|apply below_alloc)⟩
theorem order_holds.calls (a0_0 a0_1 a0_2 a0_3 a0_4 a0_5 a0_6 a0_7 a0_8 a1_0 a1_1 a1_2 a1_3 : Int) (r : Bool) (w : World) (h : order_holds.f a0_0 a0_1 a0_2 a0_3 a0_4 a0_5 a0_6 a0_7 a0_8 a1_0 a1_1 a1_2 a1_3 = some r) :
  Calls Try.prog 51 #[.agg #[.int .i64 a0_0,.int .i64 a0_1,.int .i64 a0_2,.int .i64 a0_3,.int .i64 a0_4,.int .i64 a0_5,.int .i64 a0_6,.int .i64 a0_7,.int .i64 a0_8],.agg #[.int .i64 a1_0,.int .i64 a1_1,.int .i64 a1_2,.int .i64 a1_3]] w fun e w' => e = .returned (.bool r) ∧ Below w.heap.size w w':=by
 unfold order_holds.f at h
 by_cases c0 : a0_4 = 0
 ·rw [if_pos c0] at h
  obtain rfl:=Option.some.inj h
  subst c0
  exact order_holds.calls0 a0_0 a0_1 a0_2 a0_3 a0_5 a0_6 a0_7 a0_8 a1_0 a1_1 a1_2 a1_3 w
 rw [if_neg c0] at h
 by_cases c1 : a0_4 = 1
 ·rw [if_pos c1] at h
  obtain rfl:=Option.some.inj h
  subst c1
  exact order_holds.calls1 a0_0 a0_1 a0_2 a0_3 a0_5 a0_6 a0_7 a0_8 a1_0 a1_1 a1_2 a1_3 w
 rw [if_neg c1] at h
 by_cases c2 : a0_4 = 2
 ·rw [if_pos c2] at h
  obtain rfl:=Option.some.inj h
  subst c2
  exact order_holds.calls2 a0_0 a0_1 a0_2 a0_3 a0_5 a0_6 a0_7 a0_8 a1_0 a1_1 a1_2 a1_3 w
 rw [if_neg c2] at h
 by_cases c3 : a0_4 = 3
 ·rw [if_pos c3] at h
  obtain rfl:=Option.some.inj h
  subst c3
  exact order_holds.calls3 a0_0 a0_1 a0_2 a0_3 a0_5 a0_6 a0_7 a0_8 a1_0 a1_1 a1_2 a1_3 w
 rw [if_neg c3] at h
 by_cases c4 : a0_4 = 4
 ·rw [if_pos c4] at h
  obtain rfl:=Option.some.inj h
  subst c4
  exact order_holds.calls4 a0_0 a0_1 a0_2 a0_3 a0_5 a0_6 a0_7 a0_8 a1_0 a1_1 a1_2 a1_3 w
 rw [if_neg c4] at h
 exact absurd h (by simp)


end Go.Proofs.Ythbjchicpebglaa.P

/- Functions of this seat as plain Lean functions, with proofs that the Go code comes to just their answers, or what stands between them and a law's statement; no conditions. (Laid by a program of this session, out of the kit's print.) -/
import Derived.Test.YthbjchicpebglaaPx0
import Derived.Test.YthbjchicpebglaaPx2
namespace Go.Proofs.Ythbjchicpebglaa.P
open Go.RowKit Go.Proofs.YthbjchicpebglaaW.PrintWords Go.Proofs.YthbjchicpebglaaW.PrintLast Go.Proofs.YthbjchicpebglaaW.PrintMore
attribute [local go_sem] max2_int min2_int max_two min_two max_three min_three max_four min_four   -- for this text's walks alone
set_option linter.unusedVariables false
set_option linter.unusedSimpArgs false

/-! ### order_Moved: function 24 -/
def order_Moved.j0 : Nat → Int → Int → Bool → Int → Bool → Option (Int)
 | 0,_,_,_,_,_ => none
 | k + 1,x0,x1,x2,x3,x21 => if x21 = true then (some 0) else (if x2 = true then (if x0 ≥ x1 then (some (wrap64 (x0 + 1))) else (some x0)) else (if x0 > x1 then (if (wrap64 (x0 - 1)) ≥ x3 then (some 0) else (some (wrap64 (x0 - 1)))) else (if x0 ≥ x3 then (some 0) else (some x0))))
def order_Moved.f (k : Nat) (a0 : Int) (a1 : Int) (a2 : Bool) (a3 : Int) : Option (Int) := (order_within.f a0 1000000).bind fun t196 => (if t196 = true then ((order_within.f a1 1000000).bind fun t197 => (if t197 = true then ((order_within.f a3 1000000).bind fun t198 => (order_Moved.j0 k a0 a1 a2 a3 (!t198))) else (order_Moved.j0 k a0 a1 a2 a3 true))) else (order_Moved.j0 k a0 a1 a2 a3 true))
theorem order_Moved.mono_l : ∀ k, (∀ y0 y1 y2 y3 y4, LeO (order_Moved.j0 k y0 y1 y2 y3 y4) (order_Moved.j0 (k + 1) y0 y1 y2 y3 y4))
 | 0 => fun _ _ _ _ _ r h => by simp [order_Moved.j0] at h
 | k + 1 => by
  have ih0:=order_Moved.mono_l k
  ·intro y0 y1 y2 y3 y4
   unfold order_Moved.j0
   repeat' first
   | (with_reducible exact ih0 _ _ _ _ _)
   | (with_reducible exact LeO.refl _)
   | (with_reducible exact LeO.none _)
   | (with_reducible refine LeO.ite ?_ ?_)
   | (with_reducible refine LeO.bind ?_ (fun _ => ?_))
   | exact ih0 _ _ _ _ _
   | exact LeO.none _
   | refine LeO.ite ?_ ?_
   | refine LeO.bind ?_ (fun _ => ?_)
theorem order_Moved.mono : ∀ a0 a1 a2 a3 k, LeO (order_Moved.f k a0 a1 a2 a3) (order_Moved.f (k + 1) a0 a1 a2 a3) := by
 intro a0 a1 a2 a3 k
 have ih0:=order_Moved.mono_l k
 unfold order_Moved.f
 repeat' first
   | (with_reducible exact ih0 _ _ _ _ _)
   | (with_reducible exact LeO.refl _)
   | (with_reducible exact LeO.none _)
   | (with_reducible refine LeO.ite ?_ ?_)
   | (with_reducible refine LeO.bind ?_ (fun _ => ?_))
   | exact ih0 _ _ _ _ _
   | exact LeO.none _
   | refine LeO.ite ?_ ?_
   | refine LeO.bind ?_ (fun _ => ?_)
set_option maxHeartbeats 8000000 in
set_option maxRecDepth 100000 in
theorem order_Moved.calls (k : Nat) (a0 : Int) (a1 : Int) (a2 : Bool) (a3 : Int) (r : Int) (w : World) (h : order_Moved.f k a0 a1 a2 a3 = some r) :
  Calls Try.prog 24 #[.int .i64 a0,.int .i64 a1,.bool a2,.int .i64 a3] w fun e w' => e = .returned (.int .i64 r) ∧ Drawn0 w w':=by
 have H : ((order_within.f a0 1000000).bind fun t196 => (if t196 = true then ((order_within.f a1 1000000).bind fun t197 => (if t197 = true then ((order_within.f a3 1000000).bind fun t198 => (order_Moved.j0 k a0 a1 a2 a3 (!t198))) else (order_Moved.j0 k a0 a1 a2 a3 true))) else (order_Moved.j0 k a0 a1 a2 a3 true))) = some r:=h
 clear h
 have HC5:=Aside0.mk H
 clear H
 go_enter Try.func24,Try.ntmps24
 go_upto_region 1 with (fail)
 go_cut [21] (fun v21 wc => ∃ (kq : Nat) (x21_4 : Bool),v21 = .bool x21_4 ∧ Aside0 (order_Moved.j0 kq a0 a1 a2 a3 x21_4 = some r) ∧ Aside0 (kq ≤ k) ∧ Drawn0 w wc)
 case first =>
  have H:=HC5.out
  clear HC5
  replace H:=Option.bind_eq_some_iff.mp H
  obtain ⟨t196,A60,H⟩:=H
  replace H : (if t196 = true then ((order_within.f a1 1000000).bind fun t197 => (if t197 = true then ((order_within.f a3 1000000).bind fun t198 => (order_Moved.j0 k a0 a1 a2 a3 (!t198))) else (order_Moved.j0 k a0 a1 a2 a3 true))) else (order_Moved.j0 k a0 a1 a2 a3 true)) = some r:=H
  have A6:=Aside0.mk A60
  clear A60
  by_cases c7 : t196 = true
  ·subst c7
   have H1 : ((order_within.f a1 1000000).bind fun t197 => (if t197 = true then ((order_within.f a3 1000000).bind fun t198 => (order_Moved.j0 k a0 a1 a2 a3 (!t198))) else (order_Moved.j0 k a0 a1 a2 a3 true))) = some r:=by rw [if_pos rfl] at H;exact H
   clear H
   have H:=H1
   clear H1
   replace H:=Option.bind_eq_some_iff.mp H
   obtain ⟨t197,A80,H⟩:=H
   replace H : (if t197 = true then ((order_within.f a3 1000000).bind fun t198 => (order_Moved.j0 k a0 a1 a2 a3 (!t198))) else (order_Moved.j0 k a0 a1 a2 a3 true)) = some r:=H
   have A8:=Aside0.mk A80
   clear A80
   by_cases c9 : t197 = true
   ·subst c9
    have H1 : ((order_within.f a3 1000000).bind fun t198 => (order_Moved.j0 k a0 a1 a2 a3 (!t198))) = some r:=by rw [if_pos rfl] at H;exact H
    clear H
    have H:=H1
    clear H1
    replace H:=Option.bind_eq_some_iff.mp H
    obtain ⟨t198,A100,H⟩:=H
    replace H : (order_Moved.j0 k a0 a1 a2 a3 (!t198)) = some r:=H
    have A10:=Aside0.mk A100
    clear A100
    have H':=Aside0.mk H
    clear H
    go_wp2_with (first|((with_reducible refine gate_callee (f:=39) rfl ?_);refine goesL_ (some 10) rfl rfl Try.func39 (by kernel_rfl) rfl #[.int .i64 a0,.int .i64 1000000] rfl (by (try simp only [List.map_toArray,List.map_cons,List.map_nil]);first|done|rfl|(simp only [List.length_drop,List.length_take];rfl)) ?_;(with_reducible refine (order_within.calls a0 1000000 true _ A6.out).mono ?_);rintro e w' ⟨rfl,⟨nd,rfl⟩⟩;refine ⟨_,rfl,?_⟩)|(go_at_call 39;(with_reducible refine (order_within.calls a1 1000000 true _ A8.out).mono ?_);rintro e w' ⟨rfl,⟨nd,rfl⟩⟩)|(go_at_call 39;(with_reducible refine (order_within.calls a3 1000000 t198 _ A10.out).mono ?_);rintro e w' ⟨rfl,⟨nd,rfl⟩⟩))
    go_meet
    case rel => exact ⟨_,(!t198),(by first|rfl|(simp;done)|(simp [*];done)),H',⟨by first|omega|exact Nat.le_refl _⟩,by repeat (first|exact Drawn0.refl _|apply Drawn0.step)⟩
   ·replace c9:=Bool.eq_false_iff.mpr c9
    subst c9
    have H1 : (order_Moved.j0 k a0 a1 a2 a3 true) = some r:=by rw [if_neg (show ¬ (false = true) by decide)] at H;exact H
    clear H
    have H:=H1
    clear H1
    have H':=Aside0.mk H
    clear H
    go_wp2_with (first|((with_reducible refine gate_callee (f:=39) rfl ?_);refine goesL_ (some 10) rfl rfl Try.func39 (by kernel_rfl) rfl #[.int .i64 a0,.int .i64 1000000] rfl (by (try simp only [List.map_toArray,List.map_cons,List.map_nil]);first|done|rfl|(simp only [List.length_drop,List.length_take];rfl)) ?_;(with_reducible refine (order_within.calls a0 1000000 true _ A6.out).mono ?_);rintro e w' ⟨rfl,⟨nd,rfl⟩⟩;refine ⟨_,rfl,?_⟩)|(go_at_call 39;(with_reducible refine (order_within.calls a1 1000000 false _ A8.out).mono ?_);rintro e w' ⟨rfl,⟨nd,rfl⟩⟩))
    go_meet
    case rel => exact ⟨_,(true),(by first|rfl|(simp;done)|(simp [*];done)),H',⟨by first|omega|exact Nat.le_refl _⟩,by repeat (first|exact Drawn0.refl _|apply Drawn0.step)⟩
  ·replace c7:=Bool.eq_false_iff.mpr c7
   subst c7
   have H1 : (order_Moved.j0 k a0 a1 a2 a3 true) = some r:=by rw [if_neg (show ¬ (false = true) by decide)] at H;exact H
   clear H
   have H:=H1
   clear H1
   have H':=Aside0.mk H
   clear H
   go_wp2_with (first|((with_reducible refine gate_callee (f:=39) rfl ?_);refine goesL_ (some 10) rfl rfl Try.func39 (by kernel_rfl) rfl #[.int .i64 a0,.int .i64 1000000] rfl (by (try simp only [List.map_toArray,List.map_cons,List.map_nil]);first|done|rfl|(simp only [List.length_drop,List.length_take];rfl)) ?_;(with_reducible refine (order_within.calls a0 1000000 false _ A6.out).mono ?_);rintro e w' ⟨rfl,⟨nd,rfl⟩⟩;refine ⟨_,rfl,?_⟩))
   go_meet
   case rel => exact ⟨_,(true),(by first|rfl|(simp;done)|(simp [*];done)),H',⟨by first|omega|exact Nat.le_refl _⟩,by repeat (first|exact Drawn0.refl _|apply Drawn0.step)⟩
 case rest =>
  clear HC5
  obtain ⟨kq,x21_4,rfl,HA,HJ4,⟨mc4,rfl⟩⟩:=hcut
  cases kq with
  | zero => exact absurd HA.out (by simp [order_Moved.j0])
  | succ kj4 =>
   have H:=HA.out
   clear HA
   simp only [order_Moved.j0] at H
   by_cases c11 : x21_4 = true
   ·subst c11
    have H1 : (some 0) = some r:=by rw [if_pos rfl] at H;exact H
    clear H
    have H:=H1
    clear H1
    obtain rfl:=Option.some.inj H
    go_wp2
    go_ret
    exact ⟨by first|rfl|(simp;done)|(simp [*];done),by repeat (first|exact Drawn0.refl _|apply Drawn0.step)⟩
   ·replace c11:=Bool.eq_false_iff.mpr c11
    subst c11
    have H1 : (if a2 = true then (if a0 ≥ a1 then (some (wrap64 (a0 + 1))) else (some a0)) else (if a0 > a1 then (if (wrap64 (a0 - 1)) ≥ a3 then (some 0) else (some (wrap64 (a0 - 1)))) else (if a0 ≥ a3 then (some 0) else (some a0)))) = some r:=by rw [if_neg (show ¬ (false = true) by decide)] at H;exact H
    clear H
    have H:=H1
    clear H1
    by_cases c12 : a2 = true
    ·subst c12
     have H1 : (if a0 ≥ a1 then (some (wrap64 (a0 + 1))) else (some a0)) = some r:=by rw [if_pos rfl] at H;exact H
     clear H
     have H:=H1
     clear H1
     by_cases c13 : a0 ≥ a1
     ·rw [if_pos c13] at H
      have c13b0 : decide (a1 ≤ a0) = true:=decide_eq_true c13
      clear c13
      obtain rfl:=Option.some.inj H
      go_wp2
      go_ret
      exact ⟨by first|rfl|(simp;done)|(simp [*];done),by repeat (first|exact Drawn0.refl _|apply Drawn0.step)⟩
     ·rw [if_neg c13] at H
      have c13b0 : decide (a1 ≤ a0) = false:=decide_eq_false c13
      clear c13
      obtain rfl:=Option.some.inj H
      go_wp2
      go_ret
      exact ⟨by first|rfl|(simp;done)|(simp [*];done),by repeat (first|exact Drawn0.refl _|apply Drawn0.step)⟩
    ·replace c12:=Bool.eq_false_iff.mpr c12
     subst c12
     have H1 : (if a0 > a1 then (if (wrap64 (a0 - 1)) ≥ a3 then (some 0) else (some (wrap64 (a0 - 1)))) else (if a0 ≥ a3 then (some 0) else (some a0))) = some r:=by rw [if_neg (show ¬ (false = true) by decide)] at H;exact H
     clear H
     have H:=H1
     clear H1
     by_cases c14 : a0 > a1
     ·rw [if_pos c14] at H
      have c14b0 : decide (a1 < a0) = true:=decide_eq_true c14
      clear c14
      by_cases c15 : (wrap64 (a0 - 1)) ≥ a3
      ·rw [if_pos c15] at H
       have c15b0 : decide (a3 ≤ (wrap64 (a0 - 1))) = true:=decide_eq_true c15
       clear c15
       obtain rfl:=Option.some.inj H
       go_wp2
       go_ret
       exact ⟨by first|rfl|(simp;done)|(simp [*];done),by repeat (first|exact Drawn0.refl _|apply Drawn0.step)⟩
      ·rw [if_neg c15] at H
       have c15b0 : decide (a3 ≤ (wrap64 (a0 - 1))) = false:=decide_eq_false c15
       clear c15
       obtain rfl:=Option.some.inj H
       go_wp2
       go_ret
       exact ⟨by first|rfl|(simp;done)|(simp [*];done),by repeat (first|exact Drawn0.refl _|apply Drawn0.step)⟩
     ·rw [if_neg c14] at H
      have c14b0 : decide (a1 < a0) = false:=decide_eq_false c14
      clear c14
      by_cases c16 : a0 ≥ a3
      ·rw [if_pos c16] at H
       have c16b0 : decide (a3 ≤ a0) = true:=decide_eq_true c16
       clear c16
       obtain rfl:=Option.some.inj H
       go_wp2
       go_ret
       exact ⟨by first|rfl|(simp;done)|(simp [*];done),by repeat (first|exact Drawn0.refl _|apply Drawn0.step)⟩
      ·rw [if_neg c16] at H
       have c16b0 : decide (a3 ≤ a0) = false:=decide_eq_false c16
       clear c16
       obtain rfl:=Option.some.inj H
       go_wp2
       go_ret
       exact ⟨by first|rfl|(simp;done)|(simp [*];done),by repeat (first|exact Drawn0.refl _|apply Drawn0.step)⟩

end Go.Proofs.Ythbjchicpebglaa.P

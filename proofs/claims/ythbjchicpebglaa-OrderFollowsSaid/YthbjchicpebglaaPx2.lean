/- Functions of this seat as plain Lean functions, with proofs that the Go code comes to just their answers, or what stands between them and a law's statement; no conditions. (Laid by a program of this session, out of the kit's print.) -/
import Derived.Test.YthbjchicpebglaaPx0
namespace Go.Proofs.Ythbjchicpebglaa.P
open Go.RowKit Go.Proofs.YthbjchicpebglaaW.PrintWords Go.Proofs.YthbjchicpebglaaW.PrintLast Go.Proofs.YthbjchicpebglaaW.PrintMore
attribute [local go_sem] max2_int min2_int max_two min_two max_three min_three max_four min_four   -- for this text's walks alone
set_option linter.unusedVariables false
set_option linter.unusedSimpArgs false

/-! ### order_within: function 39 -/
def order_within.f (a0 : Int) (a1 : Int) : Option (Bool) := if a0 ≥ 0 then (some (decide (a0 ≤ a1))) else (some false)
set_option maxHeartbeats 8000000 in
set_option maxRecDepth 100000 in
theorem order_within.calls (a0 : Int) (a1 : Int) (r : Bool) (w : World) (h : order_within.f a0 a1 = some r) :
  Calls Try.prog 39 #[.int .i64 a0,.int .i64 a1] w fun e w' => e = .returned (.bool r) ∧ Drawn0 w w':=by
 have H : (if a0 ≥ 0 then (some (decide (a0 ≤ a1))) else (some false)) = some r:=h
 clear h
 by_cases c3 : a0 ≥ 0
 ·rw [if_pos c3] at H
  have c3b0 : decide (0 ≤ a0) = true:=decide_eq_true c3
  clear c3
  obtain rfl:=Option.some.inj H
  go_enter Try.func39,Try.ntmps39
  go_wp2
  go_ret
  exact ⟨by first|rfl|(simp;done)|(simp [*];done),by repeat (first|exact Drawn0.refl _|apply Drawn0.step)⟩
 ·rw [if_neg c3] at H
  have c3b0 : decide (0 ≤ a0) = false:=decide_eq_false c3
  clear c3
  obtain rfl:=Option.some.inj H
  go_enter Try.func39,Try.ntmps39
  go_wp2
  go_ret
  exact ⟨by first|rfl|(simp;done)|(simp [*];done),by repeat (first|exact Drawn0.refl _|apply Drawn0.step)⟩

/-! ### order_bounded: function 38 -/
def order_bounded.j0 : Nat → Bool → Int → Int → Int → Int → Int → Int → Int → Int → Int → Option (Bool)
 | 0,_,_,_,_,_,_,_,_,_,_ => none
 | k + 1,x48,x102000,x102001,x102002,x102003,x102004,x102005,x102006,x102007,x102008 => if x48 = true then (some false) else (if x102000 = 2 then (if x102001 = 0 then (if x102002 = 0 then (if x102003 = 0 then (if x102007 = 0 then (some (x102008 == 0)) else (some false)) else (some false)) else (some false)) else (some false)) else (if x102000 = 1 then (if x102002 = 0 then (if x102003 = 0 then (if x102004 = 0 then (if x102005 = 0 then (some (x102006 == 0)) else (some false)) else (some false)) else (some false)) else (some false)) else (if x102004 = 0 then (if x102005 = 0 then (some (x102006 == 0)) else (some false)) else (some false))))
def order_bounded.f (k : Nat) (a0_0 : Int) (a0_1 : Int) (a0_2 : Int) (a0_3 : Int) (a0_4 : Int) (a0_5 : Int) (a0_6 : Int) (a0_7 : Int) (a0_8 : Int) : Option (Bool) := (order_within.f a0_0 2).bind fun t102 => (if t102 = true then ((order_within.f a0_1 1000000).bind fun t103 => (if t103 = true then ((order_within.f a0_2 2).bind fun t104 => (if t104 = true then ((order_within.f a0_3 2).bind fun t105 => (if t105 = true then ((order_within.f a0_4 4).bind fun t106 => (if t106 = true then ((order_within.f a0_5 1000000).bind fun t107 => (if t107 = true then ((order_within.f a0_7 1000000).bind fun t108 => (if t108 = true then ((order_within.f a0_8 1000000).bind fun t109 => (order_bounded.j0 k (!t109) a0_0 a0_1 a0_2 a0_3 a0_4 a0_5 a0_6 a0_7 a0_8)) else (order_bounded.j0 k true a0_0 a0_1 a0_2 a0_3 a0_4 a0_5 a0_6 a0_7 a0_8))) else (order_bounded.j0 k true a0_0 a0_1 a0_2 a0_3 a0_4 a0_5 a0_6 a0_7 a0_8))) else (order_bounded.j0 k true a0_0 a0_1 a0_2 a0_3 a0_4 a0_5 a0_6 a0_7 a0_8))) else (order_bounded.j0 k true a0_0 a0_1 a0_2 a0_3 a0_4 a0_5 a0_6 a0_7 a0_8))) else (order_bounded.j0 k true a0_0 a0_1 a0_2 a0_3 a0_4 a0_5 a0_6 a0_7 a0_8))) else (order_bounded.j0 k true a0_0 a0_1 a0_2 a0_3 a0_4 a0_5 a0_6 a0_7 a0_8))) else (order_bounded.j0 k true a0_0 a0_1 a0_2 a0_3 a0_4 a0_5 a0_6 a0_7 a0_8))
theorem order_bounded.mono_l : ∀ k, (∀ y0 y1 y2 y3 y4 y5 y6 y7 y8 y9, LeO (order_bounded.j0 k y0 y1 y2 y3 y4 y5 y6 y7 y8 y9) (order_bounded.j0 (k + 1) y0 y1 y2 y3 y4 y5 y6 y7 y8 y9))
 | 0 => fun _ _ _ _ _ _ _ _ _ _ r h => by simp [order_bounded.j0] at h
 | k + 1 => by
  have ih0:=order_bounded.mono_l k
  ·intro y0 y1 y2 y3 y4 y5 y6 y7 y8 y9
   unfold order_bounded.j0
   repeat' first
   | (with_reducible exact ih0 _ _ _ _ _ _ _ _ _ _)
   | (with_reducible exact LeO.refl _)
   | (with_reducible exact LeO.none _)
   | (with_reducible refine LeO.ite ?_ ?_)
   | (with_reducible refine LeO.bind ?_ (fun _ => ?_))
   | exact ih0 _ _ _ _ _ _ _ _ _ _
   | exact LeO.none _
   | refine LeO.ite ?_ ?_
   | refine LeO.bind ?_ (fun _ => ?_)
theorem order_bounded.mono : ∀ a0 a1 a2 a3 a4 a5 a6 a7 a8 k, LeO (order_bounded.f k a0 a1 a2 a3 a4 a5 a6 a7 a8) (order_bounded.f (k + 1) a0 a1 a2 a3 a4 a5 a6 a7 a8) := by
 intro a0 a1 a2 a3 a4 a5 a6 a7 a8 k
 have ih0:=order_bounded.mono_l k
 unfold order_bounded.f
 repeat' first
   | (with_reducible exact ih0 _ _ _ _ _ _ _ _ _ _)
   | (with_reducible exact LeO.refl _)
   | (with_reducible exact LeO.none _)
   | (with_reducible refine LeO.ite ?_ ?_)
   | (with_reducible refine LeO.bind ?_ (fun _ => ?_))
   | exact ih0 _ _ _ _ _ _ _ _ _ _
   | exact LeO.none _
   | refine LeO.ite ?_ ?_
   | refine LeO.bind ?_ (fun _ => ?_)
set_option maxHeartbeats 8000000 in
set_option maxRecDepth 100000 in
theorem order_bounded.calls (k : Nat) (a0_0 : Int) (a0_1 : Int) (a0_2 : Int) (a0_3 : Int) (a0_4 : Int) (a0_5 : Int) (a0_6 : Int) (a0_7 : Int) (a0_8 : Int) (r : Bool) (w : World) (h : order_bounded.f k a0_0 a0_1 a0_2 a0_3 a0_4 a0_5 a0_6 a0_7 a0_8 = some r) :
  Calls Try.prog 38 #[.agg #[.int .i64 a0_0,.int .i64 a0_1,.int .i64 a0_2,.int .i64 a0_3,.int .i64 a0_4,.int .i64 a0_5,.int .i64 a0_6,.int .i64 a0_7,.int .i64 a0_8]] w fun e w' => e = .returned (.bool r) ∧ Below w.heap.size w w':=by
 have hu33:=Try.underlying33
 have HB:=Aside0.mk (Below.refl w.heap.size w)
 have H : ((order_within.f a0_0 2).bind fun t102 => (if t102 = true then ((order_within.f a0_1 1000000).bind fun t103 => (if t103 = true then ((order_within.f a0_2 2).bind fun t104 => (if t104 = true then ((order_within.f a0_3 2).bind fun t105 => (if t105 = true then ((order_within.f a0_4 4).bind fun t106 => (if t106 = true then ((order_within.f a0_5 1000000).bind fun t107 => (if t107 = true then ((order_within.f a0_7 1000000).bind fun t108 => (if t108 = true then ((order_within.f a0_8 1000000).bind fun t109 => (order_bounded.j0 k (!t109) a0_0 a0_1 a0_2 a0_3 a0_4 a0_5 a0_6 a0_7 a0_8)) else (order_bounded.j0 k true a0_0 a0_1 a0_2 a0_3 a0_4 a0_5 a0_6 a0_7 a0_8))) else (order_bounded.j0 k true a0_0 a0_1 a0_2 a0_3 a0_4 a0_5 a0_6 a0_7 a0_8))) else (order_bounded.j0 k true a0_0 a0_1 a0_2 a0_3 a0_4 a0_5 a0_6 a0_7 a0_8))) else (order_bounded.j0 k true a0_0 a0_1 a0_2 a0_3 a0_4 a0_5 a0_6 a0_7 a0_8))) else (order_bounded.j0 k true a0_0 a0_1 a0_2 a0_3 a0_4 a0_5 a0_6 a0_7 a0_8))) else (order_bounded.j0 k true a0_0 a0_1 a0_2 a0_3 a0_4 a0_5 a0_6 a0_7 a0_8))) else (order_bounded.j0 k true a0_0 a0_1 a0_2 a0_3 a0_4 a0_5 a0_6 a0_7 a0_8))) = some r:=h
 clear h
 have HC2:=Aside0.mk H
 clear H
 go_enter Try.func38,Try.ntmps38
 go_upto_region 1 with (first|((with_reducible refine gate_dst (N:=1) rfl ?_);refine box_ev (N:=1) (cs:=#[.int .i64 a0_0,.int .i64 a0_1,.int .i64 a0_2,.int .i64 a0_3,.int .i64 a0_4,.int .i64 a0_5,.int .i64 a0_6,.int .i64 a0_7,.int .i64 a0_8]) (t:=33) ?_;intro gb101 hg w3 hbox hb;have BK101:=Aside0.mk (hbox);have GW101 : Aside0 (w.heap.size ≤ gb101):=gsz hg;have GE101:=GW101;replace HB:=Aside0.mk (below_step (hb_) hb);clear hb hbox hg))
 (try simp only [Act.put,List.setIfInBounds_toArray,List.set_cons_zero,List.set_cons_succ])
 go_cut [48] (fun v48 wc => ∃ (kq : Nat) (x48_1 : Bool),v48 = .bool x48_1 ∧ Aside0 (order_bounded.j0 kq x48_1 a0_0 a0_1 a0_2 a0_3 a0_4 a0_5 a0_6 a0_7 a0_8 = some r) ∧ Aside0 (kq ≤ k) ∧ Aside0 (wc.heap[gb101]? = some (.cells #[.int .i64 a0_0,.int .i64 a0_1,.int .i64 a0_2,.int .i64 a0_3,.int .i64 a0_4,.int .i64 a0_5,.int .i64 a0_6,.int .i64 a0_7,.int .i64 a0_8] 33 (0,0))) ∧ Aside0 (Below w.heap.size w wc))
 case first =>
  have H:=HC2.out
  clear HC2
  replace H:=Option.bind_eq_some_iff.mp H
  obtain ⟨t102,A40,H⟩:=H
  replace H : (if t102 = true then ((order_within.f a0_1 1000000).bind fun t103 => (if t103 = true then ((order_within.f a0_2 2).bind fun t104 => (if t104 = true then ((order_within.f a0_3 2).bind fun t105 => (if t105 = true then ((order_within.f a0_4 4).bind fun t106 => (if t106 = true then ((order_within.f a0_5 1000000).bind fun t107 => (if t107 = true then ((order_within.f a0_7 1000000).bind fun t108 => (if t108 = true then ((order_within.f a0_8 1000000).bind fun t109 => (order_bounded.j0 k (!t109) a0_0 a0_1 a0_2 a0_3 a0_4 a0_5 a0_6 a0_7 a0_8)) else (order_bounded.j0 k true a0_0 a0_1 a0_2 a0_3 a0_4 a0_5 a0_6 a0_7 a0_8))) else (order_bounded.j0 k true a0_0 a0_1 a0_2 a0_3 a0_4 a0_5 a0_6 a0_7 a0_8))) else (order_bounded.j0 k true a0_0 a0_1 a0_2 a0_3 a0_4 a0_5 a0_6 a0_7 a0_8))) else (order_bounded.j0 k true a0_0 a0_1 a0_2 a0_3 a0_4 a0_5 a0_6 a0_7 a0_8))) else (order_bounded.j0 k true a0_0 a0_1 a0_2 a0_3 a0_4 a0_5 a0_6 a0_7 a0_8))) else (order_bounded.j0 k true a0_0 a0_1 a0_2 a0_3 a0_4 a0_5 a0_6 a0_7 a0_8))) else (order_bounded.j0 k true a0_0 a0_1 a0_2 a0_3 a0_4 a0_5 a0_6 a0_7 a0_8)) = some r:=H
  have A4:=Aside0.mk A40
  clear A40
  by_cases c5 : t102 = true
  ·subst c5
   have H1 : ((order_within.f a0_1 1000000).bind fun t103 => (if t103 = true then ((order_within.f a0_2 2).bind fun t104 => (if t104 = true then ((order_within.f a0_3 2).bind fun t105 => (if t105 = true then ((order_within.f a0_4 4).bind fun t106 => (if t106 = true then ((order_within.f a0_5 1000000).bind fun t107 => (if t107 = true then ((order_within.f a0_7 1000000).bind fun t108 => (if t108 = true then ((order_within.f a0_8 1000000).bind fun t109 => (order_bounded.j0 k (!t109) a0_0 a0_1 a0_2 a0_3 a0_4 a0_5 a0_6 a0_7 a0_8)) else (order_bounded.j0 k true a0_0 a0_1 a0_2 a0_3 a0_4 a0_5 a0_6 a0_7 a0_8))) else (order_bounded.j0 k true a0_0 a0_1 a0_2 a0_3 a0_4 a0_5 a0_6 a0_7 a0_8))) else (order_bounded.j0 k true a0_0 a0_1 a0_2 a0_3 a0_4 a0_5 a0_6 a0_7 a0_8))) else (order_bounded.j0 k true a0_0 a0_1 a0_2 a0_3 a0_4 a0_5 a0_6 a0_7 a0_8))) else (order_bounded.j0 k true a0_0 a0_1 a0_2 a0_3 a0_4 a0_5 a0_6 a0_7 a0_8))) else (order_bounded.j0 k true a0_0 a0_1 a0_2 a0_3 a0_4 a0_5 a0_6 a0_7 a0_8))) = some r:=by rw [if_pos rfl] at H;exact H
   clear H
   have H:=H1
   clear H1
   replace H:=Option.bind_eq_some_iff.mp H
   obtain ⟨t103,A60,H⟩:=H
   replace H : (if t103 = true then ((order_within.f a0_2 2).bind fun t104 => (if t104 = true then ((order_within.f a0_3 2).bind fun t105 => (if t105 = true then ((order_within.f a0_4 4).bind fun t106 => (if t106 = true then ((order_within.f a0_5 1000000).bind fun t107 => (if t107 = true then ((order_within.f a0_7 1000000).bind fun t108 => (if t108 = true then ((order_within.f a0_8 1000000).bind fun t109 => (order_bounded.j0 k (!t109) a0_0 a0_1 a0_2 a0_3 a0_4 a0_5 a0_6 a0_7 a0_8)) else (order_bounded.j0 k true a0_0 a0_1 a0_2 a0_3 a0_4 a0_5 a0_6 a0_7 a0_8))) else (order_bounded.j0 k true a0_0 a0_1 a0_2 a0_3 a0_4 a0_5 a0_6 a0_7 a0_8))) else (order_bounded.j0 k true a0_0 a0_1 a0_2 a0_3 a0_4 a0_5 a0_6 a0_7 a0_8))) else (order_bounded.j0 k true a0_0 a0_1 a0_2 a0_3 a0_4 a0_5 a0_6 a0_7 a0_8))) else (order_bounded.j0 k true a0_0 a0_1 a0_2 a0_3 a0_4 a0_5 a0_6 a0_7 a0_8))) else (order_bounded.j0 k true a0_0 a0_1 a0_2 a0_3 a0_4 a0_5 a0_6 a0_7 a0_8)) = some r:=H
   have A6:=Aside0.mk A60
   clear A60
   by_cases c7 : t103 = true
   ·subst c7
    have H1 : ((order_within.f a0_2 2).bind fun t104 => (if t104 = true then ((order_within.f a0_3 2).bind fun t105 => (if t105 = true then ((order_within.f a0_4 4).bind fun t106 => (if t106 = true then ((order_within.f a0_5 1000000).bind fun t107 => (if t107 = true then ((order_within.f a0_7 1000000).bind fun t108 => (if t108 = true then ((order_within.f a0_8 1000000).bind fun t109 => (order_bounded.j0 k (!t109) a0_0 a0_1 a0_2 a0_3 a0_4 a0_5 a0_6 a0_7 a0_8)) else (order_bounded.j0 k true a0_0 a0_1 a0_2 a0_3 a0_4 a0_5 a0_6 a0_7 a0_8))) else (order_bounded.j0 k true a0_0 a0_1 a0_2 a0_3 a0_4 a0_5 a0_6 a0_7 a0_8))) else (order_bounded.j0 k true a0_0 a0_1 a0_2 a0_3 a0_4 a0_5 a0_6 a0_7 a0_8))) else (order_bounded.j0 k true a0_0 a0_1 a0_2 a0_3 a0_4 a0_5 a0_6 a0_7 a0_8))) else (order_bounded.j0 k true a0_0 a0_1 a0_2 a0_3 a0_4 a0_5 a0_6 a0_7 a0_8))) = some r:=by rw [if_pos rfl] at H;exact H
    clear H
    have H:=H1
    clear H1
    replace H:=Option.bind_eq_some_iff.mp H
    obtain ⟨t104,A80,H⟩:=H
    replace H : (if t104 = true then ((order_within.f a0_3 2).bind fun t105 => (if t105 = true then ((order_within.f a0_4 4).bind fun t106 => (if t106 = true then ((order_within.f a0_5 1000000).bind fun t107 => (if t107 = true then ((order_within.f a0_7 1000000).bind fun t108 => (if t108 = true then ((order_within.f a0_8 1000000).bind fun t109 => (order_bounded.j0 k (!t109) a0_0 a0_1 a0_2 a0_3 a0_4 a0_5 a0_6 a0_7 a0_8)) else (order_bounded.j0 k true a0_0 a0_1 a0_2 a0_3 a0_4 a0_5 a0_6 a0_7 a0_8))) else (order_bounded.j0 k true a0_0 a0_1 a0_2 a0_3 a0_4 a0_5 a0_6 a0_7 a0_8))) else (order_bounded.j0 k true a0_0 a0_1 a0_2 a0_3 a0_4 a0_5 a0_6 a0_7 a0_8))) else (order_bounded.j0 k true a0_0 a0_1 a0_2 a0_3 a0_4 a0_5 a0_6 a0_7 a0_8))) else (order_bounded.j0 k true a0_0 a0_1 a0_2 a0_3 a0_4 a0_5 a0_6 a0_7 a0_8)) = some r:=H
    have A8:=Aside0.mk A80
    clear A80
    by_cases c9 : t104 = true
    ·subst c9
     have H1 : ((order_within.f a0_3 2).bind fun t105 => (if t105 = true then ((order_within.f a0_4 4).bind fun t106 => (if t106 = true then ((order_within.f a0_5 1000000).bind fun t107 => (if t107 = true then ((order_within.f a0_7 1000000).bind fun t108 => (if t108 = true then ((order_within.f a0_8 1000000).bind fun t109 => (order_bounded.j0 k (!t109) a0_0 a0_1 a0_2 a0_3 a0_4 a0_5 a0_6 a0_7 a0_8)) else (order_bounded.j0 k true a0_0 a0_1 a0_2 a0_3 a0_4 a0_5 a0_6 a0_7 a0_8))) else (order_bounded.j0 k true a0_0 a0_1 a0_2 a0_3 a0_4 a0_5 a0_6 a0_7 a0_8))) else (order_bounded.j0 k true a0_0 a0_1 a0_2 a0_3 a0_4 a0_5 a0_6 a0_7 a0_8))) else (order_bounded.j0 k true a0_0 a0_1 a0_2 a0_3 a0_4 a0_5 a0_6 a0_7 a0_8))) = some r:=by rw [if_pos rfl] at H;exact H
     clear H
     have H:=H1
     clear H1
     replace H:=Option.bind_eq_some_iff.mp H
     obtain ⟨t105,A100,H⟩:=H
     replace H : (if t105 = true then ((order_within.f a0_4 4).bind fun t106 => (if t106 = true then ((order_within.f a0_5 1000000).bind fun t107 => (if t107 = true then ((order_within.f a0_7 1000000).bind fun t108 => (if t108 = true then ((order_within.f a0_8 1000000).bind fun t109 => (order_bounded.j0 k (!t109) a0_0 a0_1 a0_2 a0_3 a0_4 a0_5 a0_6 a0_7 a0_8)) else (order_bounded.j0 k true a0_0 a0_1 a0_2 a0_3 a0_4 a0_5 a0_6 a0_7 a0_8))) else (order_bounded.j0 k true a0_0 a0_1 a0_2 a0_3 a0_4 a0_5 a0_6 a0_7 a0_8))) else (order_bounded.j0 k true a0_0 a0_1 a0_2 a0_3 a0_4 a0_5 a0_6 a0_7 a0_8))) else (order_bounded.j0 k true a0_0 a0_1 a0_2 a0_3 a0_4 a0_5 a0_6 a0_7 a0_8)) = some r:=H
     have A10:=Aside0.mk A100
     clear A100
     by_cases c11 : t105 = true
     ·subst c11
      have H1 : ((order_within.f a0_4 4).bind fun t106 => (if t106 = true then ((order_within.f a0_5 1000000).bind fun t107 => (if t107 = true then ((order_within.f a0_7 1000000).bind fun t108 => (if t108 = true then ((order_within.f a0_8 1000000).bind fun t109 => (order_bounded.j0 k (!t109) a0_0 a0_1 a0_2 a0_3 a0_4 a0_5 a0_6 a0_7 a0_8)) else (order_bounded.j0 k true a0_0 a0_1 a0_2 a0_3 a0_4 a0_5 a0_6 a0_7 a0_8))) else (order_bounded.j0 k true a0_0 a0_1 a0_2 a0_3 a0_4 a0_5 a0_6 a0_7 a0_8))) else (order_bounded.j0 k true a0_0 a0_1 a0_2 a0_3 a0_4 a0_5 a0_6 a0_7 a0_8))) = some r:=by rw [if_pos rfl] at H;exact H
      clear H
      have H:=H1
      clear H1
      replace H:=Option.bind_eq_some_iff.mp H
      obtain ⟨t106,A120,H⟩:=H
      replace H : (if t106 = true then ((order_within.f a0_5 1000000).bind fun t107 => (if t107 = true then ((order_within.f a0_7 1000000).bind fun t108 => (if t108 = true then ((order_within.f a0_8 1000000).bind fun t109 => (order_bounded.j0 k (!t109) a0_0 a0_1 a0_2 a0_3 a0_4 a0_5 a0_6 a0_7 a0_8)) else (order_bounded.j0 k true a0_0 a0_1 a0_2 a0_3 a0_4 a0_5 a0_6 a0_7 a0_8))) else (order_bounded.j0 k true a0_0 a0_1 a0_2 a0_3 a0_4 a0_5 a0_6 a0_7 a0_8))) else (order_bounded.j0 k true a0_0 a0_1 a0_2 a0_3 a0_4 a0_5 a0_6 a0_7 a0_8)) = some r:=H
      have A12:=Aside0.mk A120
      clear A120
      by_cases c13 : t106 = true
      ·subst c13
       have H1 : ((order_within.f a0_5 1000000).bind fun t107 => (if t107 = true then ((order_within.f a0_7 1000000).bind fun t108 => (if t108 = true then ((order_within.f a0_8 1000000).bind fun t109 => (order_bounded.j0 k (!t109) a0_0 a0_1 a0_2 a0_3 a0_4 a0_5 a0_6 a0_7 a0_8)) else (order_bounded.j0 k true a0_0 a0_1 a0_2 a0_3 a0_4 a0_5 a0_6 a0_7 a0_8))) else (order_bounded.j0 k true a0_0 a0_1 a0_2 a0_3 a0_4 a0_5 a0_6 a0_7 a0_8))) = some r:=by rw [if_pos rfl] at H;exact H
       clear H
       have H:=H1
       clear H1
       replace H:=Option.bind_eq_some_iff.mp H
       obtain ⟨t107,A140,H⟩:=H
       replace H : (if t107 = true then ((order_within.f a0_7 1000000).bind fun t108 => (if t108 = true then ((order_within.f a0_8 1000000).bind fun t109 => (order_bounded.j0 k (!t109) a0_0 a0_1 a0_2 a0_3 a0_4 a0_5 a0_6 a0_7 a0_8)) else (order_bounded.j0 k true a0_0 a0_1 a0_2 a0_3 a0_4 a0_5 a0_6 a0_7 a0_8))) else (order_bounded.j0 k true a0_0 a0_1 a0_2 a0_3 a0_4 a0_5 a0_6 a0_7 a0_8)) = some r:=H
       have A14:=Aside0.mk A140
       clear A140
       by_cases c15 : t107 = true
       ·subst c15
        have H1 : ((order_within.f a0_7 1000000).bind fun t108 => (if t108 = true then ((order_within.f a0_8 1000000).bind fun t109 => (order_bounded.j0 k (!t109) a0_0 a0_1 a0_2 a0_3 a0_4 a0_5 a0_6 a0_7 a0_8)) else (order_bounded.j0 k true a0_0 a0_1 a0_2 a0_3 a0_4 a0_5 a0_6 a0_7 a0_8))) = some r:=by rw [if_pos rfl] at H;exact H
        clear H
        have H:=H1
        clear H1
        replace H:=Option.bind_eq_some_iff.mp H
        obtain ⟨t108,A160,H⟩:=H
        replace H : (if t108 = true then ((order_within.f a0_8 1000000).bind fun t109 => (order_bounded.j0 k (!t109) a0_0 a0_1 a0_2 a0_3 a0_4 a0_5 a0_6 a0_7 a0_8)) else (order_bounded.j0 k true a0_0 a0_1 a0_2 a0_3 a0_4 a0_5 a0_6 a0_7 a0_8)) = some r:=H
        have A16:=Aside0.mk A160
        clear A160
        by_cases c17 : t108 = true
        ·subst c17
         have H1 : ((order_within.f a0_8 1000000).bind fun t109 => (order_bounded.j0 k (!t109) a0_0 a0_1 a0_2 a0_3 a0_4 a0_5 a0_6 a0_7 a0_8)) = some r:=by rw [if_pos rfl] at H;exact H
         clear H
         have H:=H1
         clear H1
         replace H:=Option.bind_eq_some_iff.mp H
         obtain ⟨t109,A180,H⟩:=H
         replace H : (order_bounded.j0 k (!t109) a0_0 a0_1 a0_2 a0_3 a0_4 a0_5 a0_6 a0_7 a0_8) = some r:=H
         have A18:=Aside0.mk A180
         clear A180
         have H':=Aside0.mk H
         clear H
         obtain ⟨hcz19_0,hcz19_1,hcz19_2,hcz19_3,hcz19_4,hcz19_5,hcz19_6,hcz19_7,hcz19_8,hfz19_0,hfz19_1,hfz19_2,hfz19_3,hfz19_4,hfz19_5,hfz19_6,hfz19_7,hfz19_8⟩:=cells9 BK101.out
         go_wp2_with (first|((with_reducible refine gate_callee (f:=39) rfl ?_);refine goesL_ (some 5) rfl rfl Try.func39 (by kernel_rfl) rfl #[.int .i64 a0_0,.int .i64 2] rfl (by (try simp only [List.map_toArray,List.map_cons,List.map_nil]);first|done|rfl|(simp only [List.length_drop,List.length_take];rfl)) ?_;(with_reducible refine (order_within.calls a0_0 2 true _ A4.out).mono ?_);rintro e w' ⟨rfl,⟨nd,rfl⟩⟩;refine ⟨_,rfl,?_⟩)|(go_at_call 39;(with_reducible refine (order_within.calls a0_1 1000000 true _ A6.out).mono ?_);rintro e w' ⟨rfl,⟨nd,rfl⟩⟩)|(go_at_call 39;(with_reducible refine (order_within.calls a0_2 2 true _ A8.out).mono ?_);rintro e w' ⟨rfl,⟨nd,rfl⟩⟩)|(go_at_call 39;(with_reducible refine (order_within.calls a0_3 2 true _ A10.out).mono ?_);rintro e w' ⟨rfl,⟨nd,rfl⟩⟩)|(go_at_call 39;(with_reducible refine (order_within.calls a0_4 4 true _ A12.out).mono ?_);rintro e w' ⟨rfl,⟨nd,rfl⟩⟩)|(go_at_call 39;(with_reducible refine (order_within.calls a0_5 1000000 true _ A14.out).mono ?_);rintro e w' ⟨rfl,⟨nd,rfl⟩⟩)|(go_at_call 39;(with_reducible refine (order_within.calls a0_7 1000000 true _ A16.out).mono ?_);rintro e w' ⟨rfl,⟨nd,rfl⟩⟩)|(go_at_call 39;(with_reducible refine (order_within.calls a0_8 1000000 t109 _ A18.out).mono ?_);rintro e w' ⟨rfl,⟨nd,rfl⟩⟩))
         go_meet
         case rel => exact ⟨_,(!t109),(by first|rfl|(simp;done)|(simp [*];done)),H',⟨by first|omega|exact Nat.le_refl _⟩,⟨blk_up BK101.out⟩,⟨hb_⟩⟩
        ·replace c17:=Bool.eq_false_iff.mpr c17
         subst c17
         have H1 : (order_bounded.j0 k true a0_0 a0_1 a0_2 a0_3 a0_4 a0_5 a0_6 a0_7 a0_8) = some r:=by rw [if_neg (show ¬ (false = true) by decide)] at H;exact H
         clear H
         have H:=H1
         clear H1
         have H':=Aside0.mk H
         clear H
         obtain ⟨hcz20_0,hcz20_1,hcz20_2,hcz20_3,hcz20_4,hcz20_5,hcz20_6,hcz20_7,hcz20_8,hfz20_0,hfz20_1,hfz20_2,hfz20_3,hfz20_4,hfz20_5,hfz20_6,hfz20_7,hfz20_8⟩:=cells9 BK101.out
         go_wp2_with (first|((with_reducible refine gate_callee (f:=39) rfl ?_);refine goesL_ (some 5) rfl rfl Try.func39 (by kernel_rfl) rfl #[.int .i64 a0_0,.int .i64 2] rfl (by (try simp only [List.map_toArray,List.map_cons,List.map_nil]);first|done|rfl|(simp only [List.length_drop,List.length_take];rfl)) ?_;(with_reducible refine (order_within.calls a0_0 2 true _ A4.out).mono ?_);rintro e w' ⟨rfl,⟨nd,rfl⟩⟩;refine ⟨_,rfl,?_⟩)|(go_at_call 39;(with_reducible refine (order_within.calls a0_1 1000000 true _ A6.out).mono ?_);rintro e w' ⟨rfl,⟨nd,rfl⟩⟩)|(go_at_call 39;(with_reducible refine (order_within.calls a0_2 2 true _ A8.out).mono ?_);rintro e w' ⟨rfl,⟨nd,rfl⟩⟩)|(go_at_call 39;(with_reducible refine (order_within.calls a0_3 2 true _ A10.out).mono ?_);rintro e w' ⟨rfl,⟨nd,rfl⟩⟩)|(go_at_call 39;(with_reducible refine (order_within.calls a0_4 4 true _ A12.out).mono ?_);rintro e w' ⟨rfl,⟨nd,rfl⟩⟩)|(go_at_call 39;(with_reducible refine (order_within.calls a0_5 1000000 true _ A14.out).mono ?_);rintro e w' ⟨rfl,⟨nd,rfl⟩⟩)|(go_at_call 39;(with_reducible refine (order_within.calls a0_7 1000000 false _ A16.out).mono ?_);rintro e w' ⟨rfl,⟨nd,rfl⟩⟩))
         go_meet
         case rel => exact ⟨_,(true),(by first|rfl|(simp;done)|(simp [*];done)),H',⟨by first|omega|exact Nat.le_refl _⟩,⟨blk_up BK101.out⟩,⟨hb_⟩⟩
       ·replace c15:=Bool.eq_false_iff.mpr c15
        subst c15
        have H1 : (order_bounded.j0 k true a0_0 a0_1 a0_2 a0_3 a0_4 a0_5 a0_6 a0_7 a0_8) = some r:=by rw [if_neg (show ¬ (false = true) by decide)] at H;exact H
        clear H
        have H:=H1
        clear H1
        have H':=Aside0.mk H
        clear H
        obtain ⟨hcz21_0,hcz21_1,hcz21_2,hcz21_3,hcz21_4,hcz21_5,hcz21_6,hcz21_7,hcz21_8,hfz21_0,hfz21_1,hfz21_2,hfz21_3,hfz21_4,hfz21_5,hfz21_6,hfz21_7,hfz21_8⟩:=cells9 BK101.out
        go_wp2_with (first|((with_reducible refine gate_callee (f:=39) rfl ?_);refine goesL_ (some 5) rfl rfl Try.func39 (by kernel_rfl) rfl #[.int .i64 a0_0,.int .i64 2] rfl (by (try simp only [List.map_toArray,List.map_cons,List.map_nil]);first|done|rfl|(simp only [List.length_drop,List.length_take];rfl)) ?_;(with_reducible refine (order_within.calls a0_0 2 true _ A4.out).mono ?_);rintro e w' ⟨rfl,⟨nd,rfl⟩⟩;refine ⟨_,rfl,?_⟩)|(go_at_call 39;(with_reducible refine (order_within.calls a0_1 1000000 true _ A6.out).mono ?_);rintro e w' ⟨rfl,⟨nd,rfl⟩⟩)|(go_at_call 39;(with_reducible refine (order_within.calls a0_2 2 true _ A8.out).mono ?_);rintro e w' ⟨rfl,⟨nd,rfl⟩⟩)|(go_at_call 39;(with_reducible refine (order_within.calls a0_3 2 true _ A10.out).mono ?_);rintro e w' ⟨rfl,⟨nd,rfl⟩⟩)|(go_at_call 39;(with_reducible refine (order_within.calls a0_4 4 true _ A12.out).mono ?_);rintro e w' ⟨rfl,⟨nd,rfl⟩⟩)|(go_at_call 39;(with_reducible refine (order_within.calls a0_5 1000000 false _ A14.out).mono ?_);rintro e w' ⟨rfl,⟨nd,rfl⟩⟩))
        go_meet
        case rel => exact ⟨_,(true),(by first|rfl|(simp;done)|(simp [*];done)),H',⟨by first|omega|exact Nat.le_refl _⟩,⟨blk_up BK101.out⟩,⟨hb_⟩⟩
      ·replace c13:=Bool.eq_false_iff.mpr c13
       subst c13
       have H1 : (order_bounded.j0 k true a0_0 a0_1 a0_2 a0_3 a0_4 a0_5 a0_6 a0_7 a0_8) = some r:=by rw [if_neg (show ¬ (false = true) by decide)] at H;exact H
       clear H
       have H:=H1
       clear H1
       have H':=Aside0.mk H
       clear H
       obtain ⟨hcz22_0,hcz22_1,hcz22_2,hcz22_3,hcz22_4,hcz22_5,hcz22_6,hcz22_7,hcz22_8,hfz22_0,hfz22_1,hfz22_2,hfz22_3,hfz22_4,hfz22_5,hfz22_6,hfz22_7,hfz22_8⟩:=cells9 BK101.out
       go_wp2_with (first|((with_reducible refine gate_callee (f:=39) rfl ?_);refine goesL_ (some 5) rfl rfl Try.func39 (by kernel_rfl) rfl #[.int .i64 a0_0,.int .i64 2] rfl (by (try simp only [List.map_toArray,List.map_cons,List.map_nil]);first|done|rfl|(simp only [List.length_drop,List.length_take];rfl)) ?_;(with_reducible refine (order_within.calls a0_0 2 true _ A4.out).mono ?_);rintro e w' ⟨rfl,⟨nd,rfl⟩⟩;refine ⟨_,rfl,?_⟩)|(go_at_call 39;(with_reducible refine (order_within.calls a0_1 1000000 true _ A6.out).mono ?_);rintro e w' ⟨rfl,⟨nd,rfl⟩⟩)|(go_at_call 39;(with_reducible refine (order_within.calls a0_2 2 true _ A8.out).mono ?_);rintro e w' ⟨rfl,⟨nd,rfl⟩⟩)|(go_at_call 39;(with_reducible refine (order_within.calls a0_3 2 true _ A10.out).mono ?_);rintro e w' ⟨rfl,⟨nd,rfl⟩⟩)|(go_at_call 39;(with_reducible refine (order_within.calls a0_4 4 false _ A12.out).mono ?_);rintro e w' ⟨rfl,⟨nd,rfl⟩⟩))
       go_meet
       case rel => exact ⟨_,(true),(by first|rfl|(simp;done)|(simp [*];done)),H',⟨by first|omega|exact Nat.le_refl _⟩,⟨blk_up BK101.out⟩,⟨hb_⟩⟩
     ·replace c11:=Bool.eq_false_iff.mpr c11
      subst c11
      have H1 : (order_bounded.j0 k true a0_0 a0_1 a0_2 a0_3 a0_4 a0_5 a0_6 a0_7 a0_8) = some r:=by rw [if_neg (show ¬ (false = true) by decide)] at H;exact H
      clear H
      have H:=H1
      clear H1
      have H':=Aside0.mk H
      clear H
      obtain ⟨hcz23_0,hcz23_1,hcz23_2,hcz23_3,hcz23_4,hcz23_5,hcz23_6,hcz23_7,hcz23_8,hfz23_0,hfz23_1,hfz23_2,hfz23_3,hfz23_4,hfz23_5,hfz23_6,hfz23_7,hfz23_8⟩:=cells9 BK101.out
      go_wp2_with (first|((with_reducible refine gate_callee (f:=39) rfl ?_);refine goesL_ (some 5) rfl rfl Try.func39 (by kernel_rfl) rfl #[.int .i64 a0_0,.int .i64 2] rfl (by (try simp only [List.map_toArray,List.map_cons,List.map_nil]);first|done|rfl|(simp only [List.length_drop,List.length_take];rfl)) ?_;(with_reducible refine (order_within.calls a0_0 2 true _ A4.out).mono ?_);rintro e w' ⟨rfl,⟨nd,rfl⟩⟩;refine ⟨_,rfl,?_⟩)|(go_at_call 39;(with_reducible refine (order_within.calls a0_1 1000000 true _ A6.out).mono ?_);rintro e w' ⟨rfl,⟨nd,rfl⟩⟩)|(go_at_call 39;(with_reducible refine (order_within.calls a0_2 2 true _ A8.out).mono ?_);rintro e w' ⟨rfl,⟨nd,rfl⟩⟩)|(go_at_call 39;(with_reducible refine (order_within.calls a0_3 2 false _ A10.out).mono ?_);rintro e w' ⟨rfl,⟨nd,rfl⟩⟩))
      go_meet
      case rel => exact ⟨_,(true),(by first|rfl|(simp;done)|(simp [*];done)),H',⟨by first|omega|exact Nat.le_refl _⟩,⟨blk_up BK101.out⟩,⟨hb_⟩⟩
    ·replace c9:=Bool.eq_false_iff.mpr c9
     subst c9
     have H1 : (order_bounded.j0 k true a0_0 a0_1 a0_2 a0_3 a0_4 a0_5 a0_6 a0_7 a0_8) = some r:=by rw [if_neg (show ¬ (false = true) by decide)] at H;exact H
     clear H
     have H:=H1
     clear H1
     have H':=Aside0.mk H
     clear H
     obtain ⟨hcz24_0,hcz24_1,hcz24_2,hcz24_3,hcz24_4,hcz24_5,hcz24_6,hcz24_7,hcz24_8,hfz24_0,hfz24_1,hfz24_2,hfz24_3,hfz24_4,hfz24_5,hfz24_6,hfz24_7,hfz24_8⟩:=cells9 BK101.out
     go_wp2_with (first|((with_reducible refine gate_callee (f:=39) rfl ?_);refine goesL_ (some 5) rfl rfl Try.func39 (by kernel_rfl) rfl #[.int .i64 a0_0,.int .i64 2] rfl (by (try simp only [List.map_toArray,List.map_cons,List.map_nil]);first|done|rfl|(simp only [List.length_drop,List.length_take];rfl)) ?_;(with_reducible refine (order_within.calls a0_0 2 true _ A4.out).mono ?_);rintro e w' ⟨rfl,⟨nd,rfl⟩⟩;refine ⟨_,rfl,?_⟩)|(go_at_call 39;(with_reducible refine (order_within.calls a0_1 1000000 true _ A6.out).mono ?_);rintro e w' ⟨rfl,⟨nd,rfl⟩⟩)|(go_at_call 39;(with_reducible refine (order_within.calls a0_2 2 false _ A8.out).mono ?_);rintro e w' ⟨rfl,⟨nd,rfl⟩⟩))
     go_meet
     case rel => exact ⟨_,(true),(by first|rfl|(simp;done)|(simp [*];done)),H',⟨by first|omega|exact Nat.le_refl _⟩,⟨blk_up BK101.out⟩,⟨hb_⟩⟩
   ·replace c7:=Bool.eq_false_iff.mpr c7
    subst c7
    have H1 : (order_bounded.j0 k true a0_0 a0_1 a0_2 a0_3 a0_4 a0_5 a0_6 a0_7 a0_8) = some r:=by rw [if_neg (show ¬ (false = true) by decide)] at H;exact H
    clear H
    have H:=H1
    clear H1
    have H':=Aside0.mk H
    clear H
    obtain ⟨hcz25_0,hcz25_1,hcz25_2,hcz25_3,hcz25_4,hcz25_5,hcz25_6,hcz25_7,hcz25_8,hfz25_0,hfz25_1,hfz25_2,hfz25_3,hfz25_4,hfz25_5,hfz25_6,hfz25_7,hfz25_8⟩:=cells9 BK101.out
    go_wp2_with (first|((with_reducible refine gate_callee (f:=39) rfl ?_);refine goesL_ (some 5) rfl rfl Try.func39 (by kernel_rfl) rfl #[.int .i64 a0_0,.int .i64 2] rfl (by (try simp only [List.map_toArray,List.map_cons,List.map_nil]);first|done|rfl|(simp only [List.length_drop,List.length_take];rfl)) ?_;(with_reducible refine (order_within.calls a0_0 2 true _ A4.out).mono ?_);rintro e w' ⟨rfl,⟨nd,rfl⟩⟩;refine ⟨_,rfl,?_⟩)|(go_at_call 39;(with_reducible refine (order_within.calls a0_1 1000000 false _ A6.out).mono ?_);rintro e w' ⟨rfl,⟨nd,rfl⟩⟩))
    go_meet
    case rel => exact ⟨_,(true),(by first|rfl|(simp;done)|(simp [*];done)),H',⟨by first|omega|exact Nat.le_refl _⟩,⟨blk_up BK101.out⟩,⟨hb_⟩⟩
  ·replace c5:=Bool.eq_false_iff.mpr c5
   subst c5
   have H1 : (order_bounded.j0 k true a0_0 a0_1 a0_2 a0_3 a0_4 a0_5 a0_6 a0_7 a0_8) = some r:=by rw [if_neg (show ¬ (false = true) by decide)] at H;exact H
   clear H
   have H:=H1
   clear H1
   have H':=Aside0.mk H
   clear H
   obtain ⟨hcz26_0,hcz26_1,hcz26_2,hcz26_3,hcz26_4,hcz26_5,hcz26_6,hcz26_7,hcz26_8,hfz26_0,hfz26_1,hfz26_2,hfz26_3,hfz26_4,hfz26_5,hfz26_6,hfz26_7,hfz26_8⟩:=cells9 BK101.out
   go_wp2_with (first|((with_reducible refine gate_callee (f:=39) rfl ?_);refine goesL_ (some 5) rfl rfl Try.func39 (by kernel_rfl) rfl #[.int .i64 a0_0,.int .i64 2] rfl (by (try simp only [List.map_toArray,List.map_cons,List.map_nil]);first|done|rfl|(simp only [List.length_drop,List.length_take];rfl)) ?_;(with_reducible refine (order_within.calls a0_0 2 false _ A4.out).mono ?_);rintro e w' ⟨rfl,⟨nd,rfl⟩⟩;refine ⟨_,rfl,?_⟩))
   go_meet
   case rel => exact ⟨_,(true),(by first|rfl|(simp;done)|(simp [*];done)),H',⟨by first|omega|exact Nat.le_refl _⟩,⟨blk_up BK101.out⟩,⟨hb_⟩⟩
 case rest =>
  clear HC2
  obtain ⟨kq,x48_1,rfl,HA,HJ1,BK101,HB⟩:=hcut
  cases kq with
  | zero => exact absurd HA.out (by simp [order_bounded.j0])
  | succ kj1 =>
   have H:=HA.out
   clear HA
   simp only [order_bounded.j0] at H
   by_cases c27 : x48_1 = true
   ·subst c27
    have H1 : (some false) = some r:=by rw [if_pos rfl] at H;exact H
    clear H
    have H:=H1
    clear H1
    obtain rfl:=Option.some.inj H
    go_wp2
    go_ret
    exact ⟨by first|rfl|(simp [errW_none,errW_some] <;> rfl)|(simp [*,errW_none,errW_some] <;> rfl),hb_⟩
   ·replace c27:=Bool.eq_false_iff.mpr c27
    subst c27
    have H1 : (if a0_0 = 2 then (if a0_1 = 0 then (if a0_2 = 0 then (if a0_3 = 0 then (if a0_7 = 0 then (some (a0_8 == 0)) else (some false)) else (some false)) else (some false)) else (some false)) else (if a0_0 = 1 then (if a0_2 = 0 then (if a0_3 = 0 then (if a0_4 = 0 then (if a0_5 = 0 then (some (a0_6 == 0)) else (some false)) else (some false)) else (some false)) else (some false)) else (if a0_4 = 0 then (if a0_5 = 0 then (some (a0_6 == 0)) else (some false)) else (some false)))) = some r:=by rw [if_neg (show ¬ (false = true) by decide)] at H;exact H
    clear H
    have H:=H1
    clear H1
    by_cases c28 : a0_0 = 2
    ·rw [if_pos c28] at H
     have c28b0 : (a0_0 == 2) = true:=beq_iff_eq.mpr c28
     have c28b1 : (a0_0 != 2) = false:=bne_eq_false_iff_eq.mpr c28
     clear c28
     by_cases c29 : a0_1 = 0
     rotate_left
     ·rw [if_neg c29] at H
      have c29b0 : (a0_1 == 0) = false:=beq_eq_false_iff_ne.mpr c29
      have c29b1 : (a0_1 != 0) = true:=bne_iff_ne.mpr c29
      obtain rfl:=Option.some.inj H
      obtain ⟨hcz37_0,hcz37_1,hcz37_2,hcz37_3,hcz37_4,hcz37_5,hcz37_6,hcz37_7,hcz37_8,hfz37_0,hfz37_1,hfz37_2,hfz37_3,hfz37_4,hfz37_5,hfz37_6,hfz37_7,hfz37_8⟩:=cells9 BK101.out
      go_wp2
      go_ret
      exact ⟨by first|rfl|(simp [errW_none,errW_some] <;> rfl)|(simp [*,errW_none,errW_some] <;> rfl),hb_⟩
     rw [if_pos c29] at H
     have c29b0 : (a0_1 == 0) = true:=beq_iff_eq.mpr c29
     have c29b1 : (a0_1 != 0) = false:=bne_eq_false_iff_eq.mpr c29
     clear c29
     by_cases c30 : a0_2 = 0
     ·rw [if_pos c30] at H
      have c30b0 : (a0_2 == 0) = true:=beq_iff_eq.mpr c30
      have c30b1 : (a0_2 != 0) = false:=bne_eq_false_iff_eq.mpr c30
      clear c30
      by_cases c31 : a0_3 = 0
      ·rw [if_pos c31] at H
       have c31b0 : (a0_3 == 0) = true:=beq_iff_eq.mpr c31
       have c31b1 : (a0_3 != 0) = false:=bne_eq_false_iff_eq.mpr c31
       clear c31
       by_cases c32 : a0_7 = 0
       ·rw [if_pos c32] at H
        have c32b0 : (a0_7 == 0) = true:=beq_iff_eq.mpr c32
        have c32b1 : (a0_7 != 0) = false:=bne_eq_false_iff_eq.mpr c32
        clear c32
        obtain rfl:=Option.some.inj H
        obtain ⟨hcz33_0,hcz33_1,hcz33_2,hcz33_3,hcz33_4,hcz33_5,hcz33_6,hcz33_7,hcz33_8,hfz33_0,hfz33_1,hfz33_2,hfz33_3,hfz33_4,hfz33_5,hfz33_6,hfz33_7,hfz33_8⟩:=cells9 BK101.out
        go_wp2
        go_ret
        exact ⟨by first|rfl|(simp [errW_none,errW_some] <;> rfl)|(simp [*,errW_none,errW_some] <;> rfl),hb_⟩
       ·rw [if_neg c32] at H
        have c32b0 : (a0_7 == 0) = false:=beq_eq_false_iff_ne.mpr c32
        have c32b1 : (a0_7 != 0) = true:=bne_iff_ne.mpr c32
        obtain rfl:=Option.some.inj H
        obtain ⟨hcz34_0,hcz34_1,hcz34_2,hcz34_3,hcz34_4,hcz34_5,hcz34_6,hcz34_7,hcz34_8,hfz34_0,hfz34_1,hfz34_2,hfz34_3,hfz34_4,hfz34_5,hfz34_6,hfz34_7,hfz34_8⟩:=cells9 BK101.out
        go_wp2
        go_ret
        exact ⟨by first|rfl|(simp [errW_none,errW_some] <;> rfl)|(simp [*,errW_none,errW_some] <;> rfl),hb_⟩
      ·rw [if_neg c31] at H
       have c31b0 : (a0_3 == 0) = false:=beq_eq_false_iff_ne.mpr c31
       have c31b1 : (a0_3 != 0) = true:=bne_iff_ne.mpr c31
       obtain rfl:=Option.some.inj H
       obtain ⟨hcz35_0,hcz35_1,hcz35_2,hcz35_3,hcz35_4,hcz35_5,hcz35_6,hcz35_7,hcz35_8,hfz35_0,hfz35_1,hfz35_2,hfz35_3,hfz35_4,hfz35_5,hfz35_6,hfz35_7,hfz35_8⟩:=cells9 BK101.out
       go_wp2
       go_ret
       exact ⟨by first|rfl|(simp [errW_none,errW_some] <;> rfl)|(simp [*,errW_none,errW_some] <;> rfl),hb_⟩
     ·rw [if_neg c30] at H
      have c30b0 : (a0_2 == 0) = false:=beq_eq_false_iff_ne.mpr c30
      have c30b1 : (a0_2 != 0) = true:=bne_iff_ne.mpr c30
      obtain rfl:=Option.some.inj H
      obtain ⟨hcz36_0,hcz36_1,hcz36_2,hcz36_3,hcz36_4,hcz36_5,hcz36_6,hcz36_7,hcz36_8,hfz36_0,hfz36_1,hfz36_2,hfz36_3,hfz36_4,hfz36_5,hfz36_6,hfz36_7,hfz36_8⟩:=cells9 BK101.out
      go_wp2
      go_ret
      exact ⟨by first|rfl|(simp [errW_none,errW_some] <;> rfl)|(simp [*,errW_none,errW_some] <;> rfl),hb_⟩
    rw [if_neg c28] at H
    have c28b0 : (a0_0 == 2) = false:=beq_eq_false_iff_ne.mpr c28
    have c28b1 : (a0_0 != 2) = true:=bne_iff_ne.mpr c28
    by_cases c38 : a0_0 = 1
    rotate_left
    ·rw [if_neg c38] at H
     have c38b0 : (a0_0 == 1) = false:=beq_eq_false_iff_ne.mpr c38
     have c38b1 : (a0_0 != 1) = true:=bne_iff_ne.mpr c38
     by_cases c48 : a0_4 = 0
     ·rw [if_pos c48] at H
      have c48b0 : (a0_4 == 0) = true:=beq_iff_eq.mpr c48
      have c48b1 : (a0_4 != 0) = false:=bne_eq_false_iff_eq.mpr c48
      clear c48
      by_cases c49 : a0_5 = 0
      ·rw [if_pos c49] at H
       have c49b0 : (a0_5 == 0) = true:=beq_iff_eq.mpr c49
       have c49b1 : (a0_5 != 0) = false:=bne_eq_false_iff_eq.mpr c49
       clear c49
       obtain rfl:=Option.some.inj H
       obtain ⟨hcz50_0,hcz50_1,hcz50_2,hcz50_3,hcz50_4,hcz50_5,hcz50_6,hcz50_7,hcz50_8,hfz50_0,hfz50_1,hfz50_2,hfz50_3,hfz50_4,hfz50_5,hfz50_6,hfz50_7,hfz50_8⟩:=cells9 BK101.out
       go_wp2
       go_ret
       exact ⟨by first|rfl|(simp [errW_none,errW_some] <;> rfl)|(simp [*,errW_none,errW_some] <;> rfl),hb_⟩
      ·rw [if_neg c49] at H
       have c49b0 : (a0_5 == 0) = false:=beq_eq_false_iff_ne.mpr c49
       have c49b1 : (a0_5 != 0) = true:=bne_iff_ne.mpr c49
       obtain rfl:=Option.some.inj H
       obtain ⟨hcz51_0,hcz51_1,hcz51_2,hcz51_3,hcz51_4,hcz51_5,hcz51_6,hcz51_7,hcz51_8,hfz51_0,hfz51_1,hfz51_2,hfz51_3,hfz51_4,hfz51_5,hfz51_6,hfz51_7,hfz51_8⟩:=cells9 BK101.out
       go_wp2
       go_ret
       exact ⟨by first|rfl|(simp [errW_none,errW_some] <;> rfl)|(simp [*,errW_none,errW_some] <;> rfl),hb_⟩
     ·rw [if_neg c48] at H
      have c48b0 : (a0_4 == 0) = false:=beq_eq_false_iff_ne.mpr c48
      have c48b1 : (a0_4 != 0) = true:=bne_iff_ne.mpr c48
      obtain rfl:=Option.some.inj H
      obtain ⟨hcz52_0,hcz52_1,hcz52_2,hcz52_3,hcz52_4,hcz52_5,hcz52_6,hcz52_7,hcz52_8,hfz52_0,hfz52_1,hfz52_2,hfz52_3,hfz52_4,hfz52_5,hfz52_6,hfz52_7,hfz52_8⟩:=cells9 BK101.out
      go_wp2
      go_ret
      exact ⟨by first|rfl|(simp [errW_none,errW_some] <;> rfl)|(simp [*,errW_none,errW_some] <;> rfl),hb_⟩
    rw [if_pos c38] at H
    have c38b0 : (a0_0 == 1) = true:=beq_iff_eq.mpr c38
    have c38b1 : (a0_0 != 1) = false:=bne_eq_false_iff_eq.mpr c38
    clear c38
    by_cases c39 : a0_2 = 0
    rotate_left
    ·rw [if_neg c39] at H
     have c39b0 : (a0_2 == 0) = false:=beq_eq_false_iff_ne.mpr c39
     have c39b1 : (a0_2 != 0) = true:=bne_iff_ne.mpr c39
     obtain rfl:=Option.some.inj H
     obtain ⟨hcz47_0,hcz47_1,hcz47_2,hcz47_3,hcz47_4,hcz47_5,hcz47_6,hcz47_7,hcz47_8,hfz47_0,hfz47_1,hfz47_2,hfz47_3,hfz47_4,hfz47_5,hfz47_6,hfz47_7,hfz47_8⟩:=cells9 BK101.out
     go_wp2
     go_ret
     exact ⟨by first|rfl|(simp [errW_none,errW_some] <;> rfl)|(simp [*,errW_none,errW_some] <;> rfl),hb_⟩
    rw [if_pos c39] at H
    have c39b0 : (a0_2 == 0) = true:=beq_iff_eq.mpr c39
    have c39b1 : (a0_2 != 0) = false:=bne_eq_false_iff_eq.mpr c39
    clear c39
    by_cases c40 : a0_3 = 0
    ·rw [if_pos c40] at H
     have c40b0 : (a0_3 == 0) = true:=beq_iff_eq.mpr c40
     have c40b1 : (a0_3 != 0) = false:=bne_eq_false_iff_eq.mpr c40
     clear c40
     by_cases c41 : a0_4 = 0
     ·rw [if_pos c41] at H
      have c41b0 : (a0_4 == 0) = true:=beq_iff_eq.mpr c41
      have c41b1 : (a0_4 != 0) = false:=bne_eq_false_iff_eq.mpr c41
      clear c41
      by_cases c42 : a0_5 = 0
      ·rw [if_pos c42] at H
       have c42b0 : (a0_5 == 0) = true:=beq_iff_eq.mpr c42
       have c42b1 : (a0_5 != 0) = false:=bne_eq_false_iff_eq.mpr c42
       clear c42
       obtain rfl:=Option.some.inj H
       obtain ⟨hcz43_0,hcz43_1,hcz43_2,hcz43_3,hcz43_4,hcz43_5,hcz43_6,hcz43_7,hcz43_8,hfz43_0,hfz43_1,hfz43_2,hfz43_3,hfz43_4,hfz43_5,hfz43_6,hfz43_7,hfz43_8⟩:=cells9 BK101.out
       go_wp2
       go_ret
       exact ⟨by first|rfl|(simp [errW_none,errW_some] <;> rfl)|(simp [*,errW_none,errW_some] <;> rfl),hb_⟩
      ·rw [if_neg c42] at H
       have c42b0 : (a0_5 == 0) = false:=beq_eq_false_iff_ne.mpr c42
       have c42b1 : (a0_5 != 0) = true:=bne_iff_ne.mpr c42
       obtain rfl:=Option.some.inj H
       obtain ⟨hcz44_0,hcz44_1,hcz44_2,hcz44_3,hcz44_4,hcz44_5,hcz44_6,hcz44_7,hcz44_8,hfz44_0,hfz44_1,hfz44_2,hfz44_3,hfz44_4,hfz44_5,hfz44_6,hfz44_7,hfz44_8⟩:=cells9 BK101.out
       go_wp2
       go_ret
       exact ⟨by first|rfl|(simp [errW_none,errW_some] <;> rfl)|(simp [*,errW_none,errW_some] <;> rfl),hb_⟩
     ·rw [if_neg c41] at H
      have c41b0 : (a0_4 == 0) = false:=beq_eq_false_iff_ne.mpr c41
      have c41b1 : (a0_4 != 0) = true:=bne_iff_ne.mpr c41
      obtain rfl:=Option.some.inj H
      obtain ⟨hcz45_0,hcz45_1,hcz45_2,hcz45_3,hcz45_4,hcz45_5,hcz45_6,hcz45_7,hcz45_8,hfz45_0,hfz45_1,hfz45_2,hfz45_3,hfz45_4,hfz45_5,hfz45_6,hfz45_7,hfz45_8⟩:=cells9 BK101.out
      go_wp2
      go_ret
      exact ⟨by first|rfl|(simp [errW_none,errW_some] <;> rfl)|(simp [*,errW_none,errW_some] <;> rfl),hb_⟩
    ·rw [if_neg c40] at H
     have c40b0 : (a0_3 == 0) = false:=beq_eq_false_iff_ne.mpr c40
     have c40b1 : (a0_3 != 0) = true:=bne_iff_ne.mpr c40
     obtain rfl:=Option.some.inj H
     obtain ⟨hcz46_0,hcz46_1,hcz46_2,hcz46_3,hcz46_4,hcz46_5,hcz46_6,hcz46_7,hcz46_8,hfz46_0,hfz46_1,hfz46_2,hfz46_3,hfz46_4,hfz46_5,hfz46_6,hfz46_7,hfz46_8⟩:=cells9 BK101.out
     go_wp2
     go_ret
     exact ⟨by first|rfl|(simp [errW_none,errW_some] <;> rfl)|(simp [*,errW_none,errW_some] <;> rfl),hb_⟩

/-! ### order_Validate: function 18 -/
mutual
def order_Validate.l0 : Nat → List (S33) → List (S33) → Int → Int → Option (Int)
 | 0,_,_,_,_ => none
 | k + 1,x0,x10,x11,x12 => if x12 < x11 then (if 0 ≤ x12 then (if x12 < (x10.length : Int) then ((order_bounded.f k ((rd_T33 x10 x12).f0) ((rd_T33 x10 x12).f1) ((rd_T33 x10 x12).f2) ((rd_T33 x10 x12).f3) ((rd_T33 x10 x12).f4) ((rd_T33 x10 x12).f5) ((rd_T33 x10 x12).f6) ((rd_T33 x10 x12).f7) ((rd_T33 x10 x12).f8)).bind fun t112 => (if t112 = true then (order_Validate.l0 k x0 x10 x11 (wrap64 (x12 + 1))) else (some 1))) else (none)) else (none)) else (order_Validate.l1 k x0 x0 (x0.length : Int) 0)
def order_Validate.l1 : Nat → List (S33) → List (S33) → Int → Int → Option (Int)
 | 0,_,_,_,_ => none
 | k + 1,x0,x20,x21,x22 => if x22 < x21 then (if 0 ≤ x22 then (if x22 < (x20.length : Int) then ((order_within.f ((rd_T33 x20 x22).f6) (wrap64 ((x0.length : Int) - 1))).bind fun t115 => (if t115 = true then (order_Validate.l1 k x0 x20 x21 (wrap64 (x22 + 1))) else (some 2))) else (none)) else (none)) else (some 0)
end
def order_Validate.f (k : Nat) (l0 : List (S33)) : Option (Int) := if (l0.length : Int) > 40 then (some 4) else (order_Validate.l0 k l0 l0 (l0.length : Int) 0)
theorem order_Validate.mono_l : ∀ k, (∀ y0 y1 y2 y3, LeO (order_Validate.l0 k y0 y1 y2 y3) (order_Validate.l0 (k + 1) y0 y1 y2 y3)) ∧ (∀ y0 y1 y2 y3, LeO (order_Validate.l1 k y0 y1 y2 y3) (order_Validate.l1 (k + 1) y0 y1 y2 y3))
 | 0 => ⟨fun _ _ _ _ r h => by simp [order_Validate.l0] at h,fun _ _ _ _ r h => by simp [order_Validate.l1] at h⟩
 | k + 1 => by
  obtain ⟨ih0,ih1⟩:=order_Validate.mono_l k
  refine ⟨?_,?_⟩
  ·intro y0 y1 y2 y3
   unfold order_Validate.l0
   repeat' first
   | (with_reducible exact ih0 _ _ _ _)
   | (with_reducible exact ih1 _ _ _ _)
   | (with_reducible exact order_bounded.mono _ _ _ _ _ _ _ _ _ _)
   | (with_reducible exact LeO.refl _)
   | (with_reducible exact LeO.none _)
   | (with_reducible refine LeO.ite ?_ ?_)
   | (with_reducible refine LeO.bind ?_ (fun _ => ?_))
   | exact ih0 _ _ _ _
   | exact ih1 _ _ _ _
   | exact order_bounded.mono _ _ _ _ _ _ _ _ _ _
   | exact LeO.none _
   | refine LeO.ite ?_ ?_
   | refine LeO.bind ?_ (fun _ => ?_)
  ·intro y0 y1 y2 y3
   unfold order_Validate.l1
   repeat' first
   | (with_reducible exact ih0 _ _ _ _)
   | (with_reducible exact ih1 _ _ _ _)
   | (with_reducible exact order_bounded.mono _ _ _ _ _ _ _ _ _ _)
   | (with_reducible exact LeO.refl _)
   | (with_reducible exact LeO.none _)
   | (with_reducible refine LeO.ite ?_ ?_)
   | (with_reducible refine LeO.bind ?_ (fun _ => ?_))
   | exact ih0 _ _ _ _
   | exact ih1 _ _ _ _
   | exact order_bounded.mono _ _ _ _ _ _ _ _ _ _
   | exact LeO.none _
   | refine LeO.ite ?_ ?_
   | refine LeO.bind ?_ (fun _ => ?_)
theorem order_Validate.mono : ∀ a0 k, LeO (order_Validate.f k a0) (order_Validate.f (k + 1) a0) := by
 intro a0 k
 obtain ⟨ih0,ih1⟩:=order_Validate.mono_l k
 unfold order_Validate.f
 repeat' first
   | (with_reducible exact ih0 _ _ _ _)
   | (with_reducible exact ih1 _ _ _ _)
   | (with_reducible exact order_bounded.mono _ _ _ _ _ _ _ _ _ _)
   | (with_reducible exact LeO.refl _)
   | (with_reducible exact LeO.none _)
   | (with_reducible refine LeO.ite ?_ ?_)
   | (with_reducible refine LeO.bind ?_ (fun _ => ?_))
   | exact ih0 _ _ _ _
   | exact ih1 _ _ _ _
   | exact order_bounded.mono _ _ _ _ _ _ _ _ _ _
   | exact LeO.none _
   | refine LeO.ite ?_ ?_
   | refine LeO.bind ?_ (fun _ => ?_)
set_option maxHeartbeats 8000000 in
set_option maxRecDepth 100000 in
theorem order_Validate.calls (k : Nat) (A0 : Option Addr) (c0 : Nat) (l0 : List (S33)) (r : Int) (w : World) (hr0 : Kd.C k33 w A0 l0.length l0) (hc0 : l0.length ≤ c0) (h : order_Validate.f k l0 = some r) :
  Calls Try.prog 18 #[.slice A0 l0.length c0] w fun e w' => e = .returned (.int .i64 r) ∧ Below w.heap.size w w':=by
 have hu33:=Try.underlying33
 have HR0:=Aside0.mk hr0
 have HC0:=Aside0.mk hc0
 clear hr0 hc0
 have HB:=Aside0.mk (Below.refl w.heap.size w)
 have H : (if (l0.length : Int) > 40 then (some 4) else (order_Validate.l0 k l0 l0 (l0.length : Int) 0)) = some r:=h
 clear h
 by_cases c2 : (l0.length : Int) > 40
 ·rw [if_pos c2] at H
  have c2b0 : decide (40 < (l0.length : Int)) = true:=decide_eq_true c2
  have c2b1 : decide (40 < l0.length) = true:=decide_eq_true (by omega)
  clear c2
  obtain rfl:=Option.some.inj H
  go_enter Try.func18,Try.ntmps18
  go_wp2
  go_ret
  exact ⟨by first|rfl|(simp [errW_none,errW_some] <;> rfl)|(simp [*,errW_none,errW_some] <;> rfl),hb_⟩
 rw [if_neg c2] at H
 have c2b0 : decide (40 < (l0.length : Int)) = false:=decide_eq_false c2
 have c2b1 : decide (40 < l0.length) = false:=decide_eq_false (by omega)
 clear c2
 have H':=Aside0.mk H
 clear H
 go_enter Try.func18,Try.ntmps18
 go_wp2
 go_loopg [12] k (fun kq v12 w' => ∃ (x12_1 : Int),v12 = .int .i64 x12_1 ∧ Aside0 (order_Validate.l0 kq l0 l0 (l0.length : Int) x12_1 = some r) ∧ Aside0 (kq ≤ k) ∧ Aside0 (Below w.heap.size w w'))
 case atStart => exact ⟨(0),(by first|rfl|(simp;done)|(simp [*];done)),H',⟨Nat.le_refl _⟩,⟨hb_⟩⟩
 case round =>
  clear H'
  obtain ⟨x12_1,rfl,HA,HK1,HB⟩:=hrel
  cases gk with
  | zero => exact absurd HA.out (by simp [order_Validate.l0])
  | succ k1 =>
   have H:=HA.out
   clear HA
   simp only [order_Validate.l0] at H
   by_cases c3 : x12_1 < (l0.length : Int)
   ·rw [if_pos c3] at H
    have c3b0 : decide (x12_1 < (l0.length : Int)) = true:=decide_eq_true c3
    clear c3
    replace H:=ifp_ H;obtain ⟨c4,H⟩:=H
    have c4b0 : decide (0 ≤ x12_1) = true:=decide_eq_true c4
    clear c4
    replace H:=ifp_ H;obtain ⟨c5,H⟩:=H
    have c5b0 : decide (x12_1 < (l0.length : Int)) = true:=decide_eq_true c5
    clear c5
    replace H:=Option.bind_eq_some_iff.mp H
    obtain ⟨t112,A60,H⟩:=H
    replace H : (if t112 = true then (order_Validate.l0 k1 l0 l0 (l0.length : Int) (wrap64 (x12_1 + 1))) else (some 1)) = some r:=H
    have A6:=Aside0.mk A60
    clear A60
    by_cases c7 : t112 = true
    ·subst c7
     have H1 : (order_Validate.l0 k1 l0 l0 (l0.length : Int) (wrap64 (x12_1 + 1))) = some r:=by rw [if_pos rfl] at H;exact H
     clear H
     have H:=H1
     clear H1
     have H':=Aside0.mk H
     clear H
     have p110 : 0 ≤ (x12_1 : Int):=of_decide_eq_true (by first|(with_reducible assumption)|assumption)
     have q110 : x12_1 < (l0.length : Int):=of_decide_eq_true (by first|(with_reducible assumption)|assumption)
     obtain ⟨ad110,e110,hx110_0,hx110_1,hx110_2,hx110_3,hx110_4,hx110_5,hx110_6,hx110_7,hx110_8⟩:=at_T33 HR0.out x12_1 p110 q110
     cases e110
     replace hx110_0:=(HB.out.cell (World.block_lt_of_cell? w _ hx110_0)).trans hx110_0
     replace hx110_1:=(HB.out.cell (World.block_lt_of_cell? w _ hx110_1)).trans hx110_1
     replace hx110_2:=(HB.out.cell (World.block_lt_of_cell? w _ hx110_2)).trans hx110_2
     replace hx110_3:=(HB.out.cell (World.block_lt_of_cell? w _ hx110_3)).trans hx110_3
     replace hx110_4:=(HB.out.cell (World.block_lt_of_cell? w _ hx110_4)).trans hx110_4
     replace hx110_5:=(HB.out.cell (World.block_lt_of_cell? w _ hx110_5)).trans hx110_5
     replace hx110_6:=(HB.out.cell (World.block_lt_of_cell? w _ hx110_6)).trans hx110_6
     replace hx110_7:=(HB.out.cell (World.block_lt_of_cell? w _ hx110_7)).trans hx110_7
     replace hx110_8:=(HB.out.cell (World.block_lt_of_cell? w _ hx110_8)).trans hx110_8
     replace p110:=eq_true p110
     replace q110:=eq_true q110
     go_wp2_with (first|((with_reducible refine gate_dst (N:=4) rfl ?_);refine box_ev (N:=4) (cs:=#[.int .i64 0,.int .i64 0,.int .i64 0,.int .i64 0,.int .i64 0,.int .i64 0,.int .i64 0,.int .i64 0,.int .i64 0]) (t:=33) ?_;intro gb111 hg w8 hbox hb;have BK111:=Aside0.mk (hbox);have GW111 : Aside0 (w.heap.size ≤ gb111):=gsz hg;have GE111:=GW111;replace HB:=Aside0.mk (below_step (hb_) hb);clear hb hbox hg;obtain ⟨hcz9_0,hcz9_1,hcz9_2,hcz9_3,hcz9_4,hcz9_5,hcz9_6,hcz9_7,hcz9_8,hfz9_0,hfz9_1,hfz9_2,hfz9_3,hfz9_4,hfz9_5,hfz9_6,hfz9_7,hfz9_8⟩:=cells9 BK111.out)|((with_reducible refine gate_callee (f:=38) rfl ?_);refine goesL_ (some 17) rfl rfl Try.func38 (by kernel_rfl) rfl #[.agg #[.int .i64 ((rd_T33 l0 x12_1).f0),.int .i64 ((rd_T33 l0 x12_1).f1),.int .i64 ((rd_T33 l0 x12_1).f2),.int .i64 ((rd_T33 l0 x12_1).f3),.int .i64 ((rd_T33 l0 x12_1).f4),.int .i64 ((rd_T33 l0 x12_1).f5),.int .i64 ((rd_T33 l0 x12_1).f6),.int .i64 ((rd_T33 l0 x12_1).f7),.int .i64 ((rd_T33 l0 x12_1).f8)]] rfl (by (try simp only [List.map_toArray,List.map_cons,List.map_nil]);first|done|rfl|(simp only [List.length_drop,List.length_take];rfl)) ?_;(with_reducible refine (order_bounded.calls k1 ((rd_T33 l0 x12_1).f0) ((rd_T33 l0 x12_1).f1) ((rd_T33 l0 x12_1).f2) ((rd_T33 l0 x12_1).f3) ((rd_T33 l0 x12_1).f4) ((rd_T33 l0 x12_1).f5) ((rd_T33 l0 x12_1).f6) ((rd_T33 l0 x12_1).f7) ((rd_T33 l0 x12_1).f8) true _ A6.out).mono ?_);rintro e w10 ⟨rfl,hb⟩;refine ⟨_,rfl,?_⟩;replace BK111:=Aside0.mk (blk_below (g:=gb111) (o:=.cells #[.int .i64 ((rd_T33 l0 x12_1).f0),.int .i64 ((rd_T33 l0 x12_1).f1),.int .i64 ((rd_T33 l0 x12_1).f2),.int .i64 ((rd_T33 l0 x12_1).f3),.int .i64 ((rd_T33 l0 x12_1).f4),.int .i64 ((rd_T33 l0 x12_1).f5),.int .i64 ((rd_T33 l0 x12_1).f6),.int .i64 ((rd_T33 l0 x12_1).f7),.int .i64 ((rd_T33 l0 x12_1).f8)] 33 (0,0)) (by (with_reducible repeat (first|refine blk_drewN ?_ _|refine blk_drew ?_|refine blk_alloc ?_ _));refine blk_put (cs:=#[.int .i64 ((rd_T33 l0 x12_1).f0),.int .i64 ((rd_T33 l0 x12_1).f1),.int .i64 ((rd_T33 l0 x12_1).f2),.int .i64 ((rd_T33 l0 x12_1).f3),.int .i64 ((rd_T33 l0 x12_1).f4),.int .i64 ((rd_T33 l0 x12_1).f5),.int .i64 ((rd_T33 l0 x12_1).f6),.int .i64 ((rd_T33 l0 x12_1).f7),.int .i64 0]) ?_ 8 _ rfl;(with_reducible repeat (first|refine blk_drewN ?_ _|refine blk_drew ?_|refine blk_alloc ?_ _));refine blk_put (cs:=#[.int .i64 ((rd_T33 l0 x12_1).f0),.int .i64 ((rd_T33 l0 x12_1).f1),.int .i64 ((rd_T33 l0 x12_1).f2),.int .i64 ((rd_T33 l0 x12_1).f3),.int .i64 ((rd_T33 l0 x12_1).f4),.int .i64 ((rd_T33 l0 x12_1).f5),.int .i64 ((rd_T33 l0 x12_1).f6),.int .i64 0,.int .i64 0]) ?_ 7 _ rfl;(with_reducible repeat (first|refine blk_drewN ?_ _|refine blk_drew ?_|refine blk_alloc ?_ _));refine blk_put (cs:=#[.int .i64 ((rd_T33 l0 x12_1).f0),.int .i64 ((rd_T33 l0 x12_1).f1),.int .i64 ((rd_T33 l0 x12_1).f2),.int .i64 ((rd_T33 l0 x12_1).f3),.int .i64 ((rd_T33 l0 x12_1).f4),.int .i64 ((rd_T33 l0 x12_1).f5),.int .i64 0,.int .i64 0,.int .i64 0]) ?_ 6 _ rfl;(with_reducible repeat (first|refine blk_drewN ?_ _|refine blk_drew ?_|refine blk_alloc ?_ _));refine blk_put (cs:=#[.int .i64 ((rd_T33 l0 x12_1).f0),.int .i64 ((rd_T33 l0 x12_1).f1),.int .i64 ((rd_T33 l0 x12_1).f2),.int .i64 ((rd_T33 l0 x12_1).f3),.int .i64 ((rd_T33 l0 x12_1).f4),.int .i64 0,.int .i64 0,.int .i64 0,.int .i64 0]) ?_ 5 _ rfl;(with_reducible repeat (first|refine blk_drewN ?_ _|refine blk_drew ?_|refine blk_alloc ?_ _));refine blk_put (cs:=#[.int .i64 ((rd_T33 l0 x12_1).f0),.int .i64 ((rd_T33 l0 x12_1).f1),.int .i64 ((rd_T33 l0 x12_1).f2),.int .i64 ((rd_T33 l0 x12_1).f3),.int .i64 0,.int .i64 0,.int .i64 0,.int .i64 0,.int .i64 0]) ?_ 4 _ rfl;(with_reducible repeat (first|refine blk_drewN ?_ _|refine blk_drew ?_|refine blk_alloc ?_ _));refine blk_put (cs:=#[.int .i64 ((rd_T33 l0 x12_1).f0),.int .i64 ((rd_T33 l0 x12_1).f1),.int .i64 ((rd_T33 l0 x12_1).f2),.int .i64 0,.int .i64 0,.int .i64 0,.int .i64 0,.int .i64 0,.int .i64 0]) ?_ 3 _ rfl;(with_reducible repeat (first|refine blk_drewN ?_ _|refine blk_drew ?_|refine blk_alloc ?_ _));refine blk_put (cs:=#[.int .i64 ((rd_T33 l0 x12_1).f0),.int .i64 ((rd_T33 l0 x12_1).f1),.int .i64 0,.int .i64 0,.int .i64 0,.int .i64 0,.int .i64 0,.int .i64 0,.int .i64 0]) ?_ 2 _ rfl;(with_reducible repeat (first|refine blk_drewN ?_ _|refine blk_drew ?_|refine blk_alloc ?_ _));refine blk_put (cs:=#[.int .i64 ((rd_T33 l0 x12_1).f0),.int .i64 0,.int .i64 0,.int .i64 0,.int .i64 0,.int .i64 0,.int .i64 0,.int .i64 0,.int .i64 0]) ?_ 1 _ rfl;(with_reducible repeat (first|refine blk_drewN ?_ _|refine blk_drew ?_|refine blk_alloc ?_ _));refine blk_put (cs:=#[.int .i64 0,.int .i64 0,.int .i64 0,.int .i64 0,.int .i64 0,.int .i64 0,.int .i64 0,.int .i64 0,.int .i64 0]) ?_ 0 _ rfl;(with_reducible repeat (first|refine blk_drewN ?_ _|refine blk_drew ?_|refine blk_alloc ?_ _));exact BK111.out) hb);replace HB:=Aside0.mk (below_step (hb_) hb)))
     go_roundg k1
     case measure => have:=HK1.out;omega
     case rel => exact ⟨(wrap64 (x12_1 + 1)),(by first|rfl|(simp;done)|(simp [*];done)),H',⟨by have:=HK1.out;omega⟩,⟨hb_⟩⟩
    ·replace c7:=Bool.eq_false_iff.mpr c7
     subst c7
     have H1 : (some 1) = some r:=by rw [if_neg (show ¬ (false = true) by decide)] at H;exact H
     clear H
     have H:=H1
     clear H1
     obtain rfl:=Option.some.inj H
     have p110 : 0 ≤ (x12_1 : Int):=of_decide_eq_true (by first|(with_reducible assumption)|assumption)
     have q110 : x12_1 < (l0.length : Int):=of_decide_eq_true (by first|(with_reducible assumption)|assumption)
     obtain ⟨ad110,e110,hx110_0,hx110_1,hx110_2,hx110_3,hx110_4,hx110_5,hx110_6,hx110_7,hx110_8⟩:=at_T33 HR0.out x12_1 p110 q110
     cases e110
     replace hx110_0:=(HB.out.cell (World.block_lt_of_cell? w _ hx110_0)).trans hx110_0
     replace hx110_1:=(HB.out.cell (World.block_lt_of_cell? w _ hx110_1)).trans hx110_1
     replace hx110_2:=(HB.out.cell (World.block_lt_of_cell? w _ hx110_2)).trans hx110_2
     replace hx110_3:=(HB.out.cell (World.block_lt_of_cell? w _ hx110_3)).trans hx110_3
     replace hx110_4:=(HB.out.cell (World.block_lt_of_cell? w _ hx110_4)).trans hx110_4
     replace hx110_5:=(HB.out.cell (World.block_lt_of_cell? w _ hx110_5)).trans hx110_5
     replace hx110_6:=(HB.out.cell (World.block_lt_of_cell? w _ hx110_6)).trans hx110_6
     replace hx110_7:=(HB.out.cell (World.block_lt_of_cell? w _ hx110_7)).trans hx110_7
     replace hx110_8:=(HB.out.cell (World.block_lt_of_cell? w _ hx110_8)).trans hx110_8
     replace p110:=eq_true p110
     replace q110:=eq_true q110
     go_wp2_with (first|((with_reducible refine gate_dst (N:=4) rfl ?_);refine box_ev (N:=4) (cs:=#[.int .i64 0,.int .i64 0,.int .i64 0,.int .i64 0,.int .i64 0,.int .i64 0,.int .i64 0,.int .i64 0,.int .i64 0]) (t:=33) ?_;intro gb111 hg w11 hbox hb;have BK111:=Aside0.mk (hbox);have GW111 : Aside0 (w.heap.size ≤ gb111):=gsz hg;have GE111:=GW111;replace HB:=Aside0.mk (below_step (hb_) hb);clear hb hbox hg;obtain ⟨hcz12_0,hcz12_1,hcz12_2,hcz12_3,hcz12_4,hcz12_5,hcz12_6,hcz12_7,hcz12_8,hfz12_0,hfz12_1,hfz12_2,hfz12_3,hfz12_4,hfz12_5,hfz12_6,hfz12_7,hfz12_8⟩:=cells9 BK111.out)|((with_reducible refine gate_callee (f:=38) rfl ?_);refine goesL_ (some 17) rfl rfl Try.func38 (by kernel_rfl) rfl #[.agg #[.int .i64 ((rd_T33 l0 x12_1).f0),.int .i64 ((rd_T33 l0 x12_1).f1),.int .i64 ((rd_T33 l0 x12_1).f2),.int .i64 ((rd_T33 l0 x12_1).f3),.int .i64 ((rd_T33 l0 x12_1).f4),.int .i64 ((rd_T33 l0 x12_1).f5),.int .i64 ((rd_T33 l0 x12_1).f6),.int .i64 ((rd_T33 l0 x12_1).f7),.int .i64 ((rd_T33 l0 x12_1).f8)]] rfl (by (try simp only [List.map_toArray,List.map_cons,List.map_nil]);first|done|rfl|(simp only [List.length_drop,List.length_take];rfl)) ?_;(with_reducible refine (order_bounded.calls k1 ((rd_T33 l0 x12_1).f0) ((rd_T33 l0 x12_1).f1) ((rd_T33 l0 x12_1).f2) ((rd_T33 l0 x12_1).f3) ((rd_T33 l0 x12_1).f4) ((rd_T33 l0 x12_1).f5) ((rd_T33 l0 x12_1).f6) ((rd_T33 l0 x12_1).f7) ((rd_T33 l0 x12_1).f8) false _ A6.out).mono ?_);rintro e w13 ⟨rfl,hb⟩;refine ⟨_,rfl,?_⟩;replace BK111:=Aside0.mk (blk_below (g:=gb111) (o:=.cells #[.int .i64 ((rd_T33 l0 x12_1).f0),.int .i64 ((rd_T33 l0 x12_1).f1),.int .i64 ((rd_T33 l0 x12_1).f2),.int .i64 ((rd_T33 l0 x12_1).f3),.int .i64 ((rd_T33 l0 x12_1).f4),.int .i64 ((rd_T33 l0 x12_1).f5),.int .i64 ((rd_T33 l0 x12_1).f6),.int .i64 ((rd_T33 l0 x12_1).f7),.int .i64 ((rd_T33 l0 x12_1).f8)] 33 (0,0)) (by (with_reducible repeat (first|refine blk_drewN ?_ _|refine blk_drew ?_|refine blk_alloc ?_ _));refine blk_put (cs:=#[.int .i64 ((rd_T33 l0 x12_1).f0),.int .i64 ((rd_T33 l0 x12_1).f1),.int .i64 ((rd_T33 l0 x12_1).f2),.int .i64 ((rd_T33 l0 x12_1).f3),.int .i64 ((rd_T33 l0 x12_1).f4),.int .i64 ((rd_T33 l0 x12_1).f5),.int .i64 ((rd_T33 l0 x12_1).f6),.int .i64 ((rd_T33 l0 x12_1).f7),.int .i64 0]) ?_ 8 _ rfl;(with_reducible repeat (first|refine blk_drewN ?_ _|refine blk_drew ?_|refine blk_alloc ?_ _));refine blk_put (cs:=#[.int .i64 ((rd_T33 l0 x12_1).f0),.int .i64 ((rd_T33 l0 x12_1).f1),.int .i64 ((rd_T33 l0 x12_1).f2),.int .i64 ((rd_T33 l0 x12_1).f3),.int .i64 ((rd_T33 l0 x12_1).f4),.int .i64 ((rd_T33 l0 x12_1).f5),.int .i64 ((rd_T33 l0 x12_1).f6),.int .i64 0,.int .i64 0]) ?_ 7 _ rfl;(with_reducible repeat (first|refine blk_drewN ?_ _|refine blk_drew ?_|refine blk_alloc ?_ _));refine blk_put (cs:=#[.int .i64 ((rd_T33 l0 x12_1).f0),.int .i64 ((rd_T33 l0 x12_1).f1),.int .i64 ((rd_T33 l0 x12_1).f2),.int .i64 ((rd_T33 l0 x12_1).f3),.int .i64 ((rd_T33 l0 x12_1).f4),.int .i64 ((rd_T33 l0 x12_1).f5),.int .i64 0,.int .i64 0,.int .i64 0]) ?_ 6 _ rfl;(with_reducible repeat (first|refine blk_drewN ?_ _|refine blk_drew ?_|refine blk_alloc ?_ _));refine blk_put (cs:=#[.int .i64 ((rd_T33 l0 x12_1).f0),.int .i64 ((rd_T33 l0 x12_1).f1),.int .i64 ((rd_T33 l0 x12_1).f2),.int .i64 ((rd_T33 l0 x12_1).f3),.int .i64 ((rd_T33 l0 x12_1).f4),.int .i64 0,.int .i64 0,.int .i64 0,.int .i64 0]) ?_ 5 _ rfl;(with_reducible repeat (first|refine blk_drewN ?_ _|refine blk_drew ?_|refine blk_alloc ?_ _));refine blk_put (cs:=#[.int .i64 ((rd_T33 l0 x12_1).f0),.int .i64 ((rd_T33 l0 x12_1).f1),.int .i64 ((rd_T33 l0 x12_1).f2),.int .i64 ((rd_T33 l0 x12_1).f3),.int .i64 0,.int .i64 0,.int .i64 0,.int .i64 0,.int .i64 0]) ?_ 4 _ rfl;(with_reducible repeat (first|refine blk_drewN ?_ _|refine blk_drew ?_|refine blk_alloc ?_ _));refine blk_put (cs:=#[.int .i64 ((rd_T33 l0 x12_1).f0),.int .i64 ((rd_T33 l0 x12_1).f1),.int .i64 ((rd_T33 l0 x12_1).f2),.int .i64 0,.int .i64 0,.int .i64 0,.int .i64 0,.int .i64 0,.int .i64 0]) ?_ 3 _ rfl;(with_reducible repeat (first|refine blk_drewN ?_ _|refine blk_drew ?_|refine blk_alloc ?_ _));refine blk_put (cs:=#[.int .i64 ((rd_T33 l0 x12_1).f0),.int .i64 ((rd_T33 l0 x12_1).f1),.int .i64 0,.int .i64 0,.int .i64 0,.int .i64 0,.int .i64 0,.int .i64 0,.int .i64 0]) ?_ 2 _ rfl;(with_reducible repeat (first|refine blk_drewN ?_ _|refine blk_drew ?_|refine blk_alloc ?_ _));refine blk_put (cs:=#[.int .i64 ((rd_T33 l0 x12_1).f0),.int .i64 0,.int .i64 0,.int .i64 0,.int .i64 0,.int .i64 0,.int .i64 0,.int .i64 0,.int .i64 0]) ?_ 1 _ rfl;(with_reducible repeat (first|refine blk_drewN ?_ _|refine blk_drew ?_|refine blk_alloc ?_ _));refine blk_put (cs:=#[.int .i64 0,.int .i64 0,.int .i64 0,.int .i64 0,.int .i64 0,.int .i64 0,.int .i64 0,.int .i64 0,.int .i64 0]) ?_ 0 _ rfl;(with_reducible repeat (first|refine blk_drewN ?_ _|refine blk_drew ?_|refine blk_alloc ?_ _));exact BK111.out) hb);replace HB:=Aside0.mk (below_step (hb_) hb)))
     go_ret
     exact ⟨by first|rfl|(simp [errW_none,errW_some] <;> rfl)|(simp [*,errW_none,errW_some] <;> rfl),hb_⟩
   rw [if_neg c3] at H
   have c3b0 : decide (x12_1 < (l0.length : Int)) = false:=decide_eq_false c3
   clear c3
   have H':=Aside0.mk H
   clear H
   go_wp2
   go_loopg [22] k1 (fun kq v22 w' => ∃ (x22_2 : Int),v22 = .int .i64 x22_2 ∧ Aside0 (order_Validate.l1 kq l0 l0 (l0.length : Int) x22_2 = some r) ∧ Aside0 (kq ≤ k1) ∧ Aside0 (Below w.heap.size w w'))
   case atStart => exact ⟨(0),(by first|rfl|(simp;done)|(simp [*];done)),H',⟨Nat.le_refl _⟩,⟨hb_⟩⟩
   case round =>
    clear H'
    obtain ⟨x22_2,rfl,HA,HK2,HB⟩:=hrel
    cases gk with
    | zero => exact absurd HA.out (by simp [order_Validate.l1])
    | succ k2 =>
     have H:=HA.out
     clear HA
     simp only [order_Validate.l1] at H
     by_cases c14 : x22_2 < (l0.length : Int)
     rotate_left
     ·rw [if_neg c14] at H
      have c14b0 : decide (x22_2 < (l0.length : Int)) = false:=decide_eq_false c14
      clear c14
      obtain rfl:=Option.some.inj H
      go_wp2
      go_ret
      exact ⟨by first|rfl|(simp [errW_none,errW_some] <;> rfl)|(simp [*,errW_none,errW_some] <;> rfl),hb_⟩
     rw [if_pos c14] at H
     have c14b0 : decide (x22_2 < (l0.length : Int)) = true:=decide_eq_true c14
     clear c14
     replace H:=ifp_ H;obtain ⟨c15,H⟩:=H
     have c15b0 : decide (0 ≤ x22_2) = true:=decide_eq_true c15
     clear c15
     replace H:=ifp_ H;obtain ⟨c16,H⟩:=H
     have c16b0 : decide (x22_2 < (l0.length : Int)) = true:=decide_eq_true c16
     clear c16
     replace H:=Option.bind_eq_some_iff.mp H
     obtain ⟨t115,A170,H⟩:=H
     replace H : (if t115 = true then (order_Validate.l1 k2 l0 l0 (l0.length : Int) (wrap64 (x22_2 + 1))) else (some 2)) = some r:=H
     have A17:=Aside0.mk A170
     clear A170
     by_cases c18 : t115 = true
     ·subst c18
      have H1 : (order_Validate.l1 k2 l0 l0 (l0.length : Int) (wrap64 (x22_2 + 1))) = some r:=by rw [if_pos rfl] at H;exact H
      clear H
      have H:=H1
      clear H1
      have H':=Aside0.mk H
      clear H
      have p113 : 0 ≤ (x22_2 : Int):=of_decide_eq_true (by first|(with_reducible assumption)|assumption)
      have q113 : x22_2 < (l0.length : Int):=of_decide_eq_true (by first|(with_reducible assumption)|assumption)
      obtain ⟨ad113,e113,hx113_0,hx113_1,hx113_2,hx113_3,hx113_4,hx113_5,hx113_6,hx113_7,hx113_8⟩:=at_T33 HR0.out x22_2 p113 q113
      cases e113
      replace hx113_0:=(HB.out.cell (World.block_lt_of_cell? w _ hx113_0)).trans hx113_0
      replace hx113_1:=(HB.out.cell (World.block_lt_of_cell? w _ hx113_1)).trans hx113_1
      replace hx113_2:=(HB.out.cell (World.block_lt_of_cell? w _ hx113_2)).trans hx113_2
      replace hx113_3:=(HB.out.cell (World.block_lt_of_cell? w _ hx113_3)).trans hx113_3
      replace hx113_4:=(HB.out.cell (World.block_lt_of_cell? w _ hx113_4)).trans hx113_4
      replace hx113_5:=(HB.out.cell (World.block_lt_of_cell? w _ hx113_5)).trans hx113_5
      replace hx113_6:=(HB.out.cell (World.block_lt_of_cell? w _ hx113_6)).trans hx113_6
      replace hx113_7:=(HB.out.cell (World.block_lt_of_cell? w _ hx113_7)).trans hx113_7
      replace hx113_8:=(HB.out.cell (World.block_lt_of_cell? w _ hx113_8)).trans hx113_8
      replace p113:=eq_true p113
      replace q113:=eq_true q113
      go_wp2_with (first|((with_reducible refine gate_dst (N:=6) rfl ?_);refine box_ev (N:=6) (cs:=#[.int .i64 0,.int .i64 0,.int .i64 0,.int .i64 0,.int .i64 0,.int .i64 0,.int .i64 0,.int .i64 0,.int .i64 0]) (t:=33) ?_;intro gb114 hg w19 hbox hb;have BK114:=Aside0.mk (hbox);have GW114 : Aside0 (w.heap.size ≤ gb114):=gsz hg;have GE114:=GW114;replace HB:=Aside0.mk (below_step (hb_) hb);clear hb hbox hg;obtain ⟨hcz20_0,hcz20_1,hcz20_2,hcz20_3,hcz20_4,hcz20_5,hcz20_6,hcz20_7,hcz20_8,hfz20_0,hfz20_1,hfz20_2,hfz20_3,hfz20_4,hfz20_5,hfz20_6,hfz20_7,hfz20_8⟩:=cells9 BK114.out)|((with_reducible refine gate_callee (f:=39) rfl ?_);refine goesL_ (some 31) rfl rfl Try.func39 (by kernel_rfl) rfl #[.int .i64 ((rd_T33 l0 x22_2).f6),.int .i64 (wrap64 ((l0.length : Int) - 1))] rfl (by (try simp only [List.map_toArray,List.map_cons,List.map_nil]);first|done|rfl|(simp only [List.length_drop,List.length_take];rfl)) ?_;(with_reducible refine (order_within.calls ((rd_T33 l0 x22_2).f6) (wrap64 ((l0.length : Int) - 1)) true _ A17.out).mono ?_);rintro e w' ⟨rfl,⟨nd,rfl⟩⟩;refine ⟨_,rfl,?_⟩))
      go_roundg k2
      case measure => have:=HK1.out;have:=HK2.out;omega
      case rel => exact ⟨(wrap64 (x22_2 + 1)),(by first|rfl|(simp;done)|(simp [*];done)),H',⟨by have:=HK1.out;have:=HK2.out;omega⟩,⟨hb_⟩⟩
     ·replace c18:=Bool.eq_false_iff.mpr c18
      subst c18
      have H1 : (some 2) = some r:=by rw [if_neg (show ¬ (false = true) by decide)] at H;exact H
      clear H
      have H:=H1
      clear H1
      obtain rfl:=Option.some.inj H
      have p113 : 0 ≤ (x22_2 : Int):=of_decide_eq_true (by first|(with_reducible assumption)|assumption)
      have q113 : x22_2 < (l0.length : Int):=of_decide_eq_true (by first|(with_reducible assumption)|assumption)
      obtain ⟨ad113,e113,hx113_0,hx113_1,hx113_2,hx113_3,hx113_4,hx113_5,hx113_6,hx113_7,hx113_8⟩:=at_T33 HR0.out x22_2 p113 q113
      cases e113
      replace hx113_0:=(HB.out.cell (World.block_lt_of_cell? w _ hx113_0)).trans hx113_0
      replace hx113_1:=(HB.out.cell (World.block_lt_of_cell? w _ hx113_1)).trans hx113_1
      replace hx113_2:=(HB.out.cell (World.block_lt_of_cell? w _ hx113_2)).trans hx113_2
      replace hx113_3:=(HB.out.cell (World.block_lt_of_cell? w _ hx113_3)).trans hx113_3
      replace hx113_4:=(HB.out.cell (World.block_lt_of_cell? w _ hx113_4)).trans hx113_4
      replace hx113_5:=(HB.out.cell (World.block_lt_of_cell? w _ hx113_5)).trans hx113_5
      replace hx113_6:=(HB.out.cell (World.block_lt_of_cell? w _ hx113_6)).trans hx113_6
      replace hx113_7:=(HB.out.cell (World.block_lt_of_cell? w _ hx113_7)).trans hx113_7
      replace hx113_8:=(HB.out.cell (World.block_lt_of_cell? w _ hx113_8)).trans hx113_8
      replace p113:=eq_true p113
      replace q113:=eq_true q113
      go_wp2_with (first|((with_reducible refine gate_dst (N:=6) rfl ?_);refine box_ev (N:=6) (cs:=#[.int .i64 0,.int .i64 0,.int .i64 0,.int .i64 0,.int .i64 0,.int .i64 0,.int .i64 0,.int .i64 0,.int .i64 0]) (t:=33) ?_;intro gb114 hg w21 hbox hb;have BK114:=Aside0.mk (hbox);have GW114 : Aside0 (w.heap.size ≤ gb114):=gsz hg;have GE114:=GW114;replace HB:=Aside0.mk (below_step (hb_) hb);clear hb hbox hg;obtain ⟨hcz22_0,hcz22_1,hcz22_2,hcz22_3,hcz22_4,hcz22_5,hcz22_6,hcz22_7,hcz22_8,hfz22_0,hfz22_1,hfz22_2,hfz22_3,hfz22_4,hfz22_5,hfz22_6,hfz22_7,hfz22_8⟩:=cells9 BK114.out)|((with_reducible refine gate_callee (f:=39) rfl ?_);refine goesL_ (some 31) rfl rfl Try.func39 (by kernel_rfl) rfl #[.int .i64 ((rd_T33 l0 x22_2).f6),.int .i64 (wrap64 ((l0.length : Int) - 1))] rfl (by (try simp only [List.map_toArray,List.map_cons,List.map_nil]);first|done|rfl|(simp only [List.length_drop,List.length_take];rfl)) ?_;(with_reducible refine (order_within.calls ((rd_T33 l0 x22_2).f6) (wrap64 ((l0.length : Int) - 1)) false _ A17.out).mono ?_);rintro e w' ⟨rfl,⟨nd,rfl⟩⟩;refine ⟨_,rfl,?_⟩))
      go_ret
      exact ⟨by first|rfl|(simp [errW_none,errW_some] <;> rfl)|(simp [*,errW_none,errW_some] <;> rfl),hb_⟩

/-! ### order_check: function 41 -/
def order_check.f (k : Nat) (l0 : List (S33)) (a1 : Int) : Option (Int) := (order_Validate.f k l0).bind fun t116 => (if t116 = 0 then (if (l0.length : Int) > 0 then ((order_within.f a1 (wrap64 ((l0.length : Int) - 1))).bind fun t117 => (if t117 = true then (some 0) else (some 2))) else (some 0)) else (some t116))
theorem order_check.mono : ∀ a0 a1 k, LeO (order_check.f k a0 a1) (order_check.f (k + 1) a0 a1) := by
 intro a0 a1 k
 unfold order_check.f
 repeat' first
   | (with_reducible exact order_Validate.mono _ _)
   | (with_reducible exact LeO.refl _)
   | (with_reducible exact LeO.none _)
   | (with_reducible refine LeO.ite ?_ ?_)
   | (with_reducible refine LeO.bind ?_ (fun _ => ?_))
   | exact order_Validate.mono _ _
   | exact LeO.none _
   | refine LeO.ite ?_ ?_
   | refine LeO.bind ?_ (fun _ => ?_)
set_option maxHeartbeats 8000000 in
set_option maxRecDepth 100000 in
theorem order_check.calls (k : Nat) (A0 : Option Addr) (c0 : Nat) (l0 : List (S33)) (a1 : Int) (r : Int) (w : World) (hr0 : Kd.C k33 w A0 l0.length l0) (hc0 : l0.length ≤ c0) (h : order_check.f k l0 a1 = some r) :
  Calls Try.prog 41 #[.slice A0 l0.length c0,.int .i64 a1] w fun e w' => e = .returned (.int .i64 r) ∧ Below w.heap.size w w':=by
 have HR0:=Aside0.mk hr0
 have HC0:=Aside0.mk hc0
 clear hr0 hc0
 have HB:=Aside0.mk (Below.refl w.heap.size w)
 have H : ((order_Validate.f k l0).bind fun t116 => (if t116 = 0 then (if (l0.length : Int) > 0 then ((order_within.f a1 (wrap64 ((l0.length : Int) - 1))).bind fun t117 => (if t117 = true then (some 0) else (some 2))) else (some 0)) else (some t116))) = some r:=h
 clear h
 replace H:=Option.bind_eq_some_iff.mp H
 obtain ⟨t116,A30,H⟩:=H
 replace H : (if t116 = 0 then (if (l0.length : Int) > 0 then ((order_within.f a1 (wrap64 ((l0.length : Int) - 1))).bind fun t117 => (if t117 = true then (some 0) else (some 2))) else (some 0)) else (some t116)) = some r:=H
 have A3:=Aside0.mk A30
 clear A30
 by_cases c4 : t116 = 0
 rotate_left
 ·rw [if_neg c4] at H
  have c4b0 : (t116 == 0) = false:=beq_eq_false_iff_ne.mpr c4
  have c4b1 : (t116 != 0) = true:=bne_iff_ne.mpr c4
  obtain rfl:=Option.some.inj H
  go_enter Try.func41,Try.ntmps41
  go_wp2_with (first|((with_reducible refine gate_callee (f:=18) rfl ?_);refine goesL_ (some 7) rfl rfl Try.func18 (by kernel_rfl) rfl #[.slice A0 l0.length c0] rfl (by (try simp only [List.map_toArray,List.map_cons,List.map_nil]);first|done|rfl|(simp only [List.length_drop,List.length_take];rfl)) ?_;(with_reducible refine (order_Validate.calls k _ _ l0 t116 _ ?side1 ?side2 A3.out).mono ?_);(case side1 => exact Kd.C_up HR0.out);(case side2 => exact HC0.out);rintro e w11 ⟨rfl,hb⟩;refine ⟨_,rfl,?_⟩;replace HB:=Aside0.mk (below_step (hb_) hb)))
  go_ret
  exact ⟨by first|rfl|(simp [errW_none,errW_some] <;> rfl)|(simp [*,errW_none,errW_some] <;> rfl),hb_⟩
 rw [if_pos c4] at H
 have c4b0 : (t116 == 0) = true:=beq_iff_eq.mpr c4
 have c4b1 : (t116 != 0) = false:=bne_eq_false_iff_eq.mpr c4
 clear c4
 by_cases c5 : (l0.length : Int) > 0
 ·rw [if_pos c5] at H
  have c5b0 : decide (0 < (l0.length : Int)) = true:=decide_eq_true c5
  have c5b1 : decide (0 < l0.length) = true:=decide_eq_true (by omega)
  clear c5
  replace H:=Option.bind_eq_some_iff.mp H
  obtain ⟨t117,A60,H⟩:=H
  replace H : (if t117 = true then (some 0) else (some 2)) = some r:=H
  have A6:=Aside0.mk A60
  clear A60
  by_cases c7 : t117 = true
  ·subst c7
   have H1 : (some 0) = some r:=by rw [if_pos rfl] at H;exact H
   clear H
   have H:=H1
   clear H1
   obtain rfl:=Option.some.inj H
   go_enter Try.func41,Try.ntmps41
   go_wp2_with (first|((with_reducible refine gate_callee (f:=18) rfl ?_);refine goesL_ (some 7) rfl rfl Try.func18 (by kernel_rfl) rfl #[.slice A0 l0.length c0] rfl (by (try simp only [List.map_toArray,List.map_cons,List.map_nil]);first|done|rfl|(simp only [List.length_drop,List.length_take];rfl)) ?_;(with_reducible refine (order_Validate.calls k _ _ l0 t116 _ ?side1 ?side2 A3.out).mono ?_);(case side1 => exact Kd.C_up HR0.out);(case side2 => exact HC0.out);rintro e w8 ⟨rfl,hb⟩;refine ⟨_,rfl,?_⟩;replace HB:=Aside0.mk (below_step (hb_) hb))|(go_at_call 39;(with_reducible refine (order_within.calls a1 (wrap64 ((l0.length : Int) - 1)) true _ A6.out).mono ?_);rintro e w' ⟨rfl,⟨nd,rfl⟩⟩))
   go_ret
   exact ⟨by first|rfl|(simp [errW_none,errW_some] <;> rfl)|(simp [*,errW_none,errW_some] <;> rfl),hb_⟩
  ·replace c7:=Bool.eq_false_iff.mpr c7
   subst c7
   have H1 : (some 2) = some r:=by rw [if_neg (show ¬ (false = true) by decide)] at H;exact H
   clear H
   have H:=H1
   clear H1
   obtain rfl:=Option.some.inj H
   go_enter Try.func41,Try.ntmps41
   go_wp2_with (first|((with_reducible refine gate_callee (f:=18) rfl ?_);refine goesL_ (some 7) rfl rfl Try.func18 (by kernel_rfl) rfl #[.slice A0 l0.length c0] rfl (by (try simp only [List.map_toArray,List.map_cons,List.map_nil]);first|done|rfl|(simp only [List.length_drop,List.length_take];rfl)) ?_;(with_reducible refine (order_Validate.calls k _ _ l0 t116 _ ?side1 ?side2 A3.out).mono ?_);(case side1 => exact Kd.C_up HR0.out);(case side2 => exact HC0.out);rintro e w9 ⟨rfl,hb⟩;refine ⟨_,rfl,?_⟩;replace HB:=Aside0.mk (below_step (hb_) hb))|(go_at_call 39;(with_reducible refine (order_within.calls a1 (wrap64 ((l0.length : Int) - 1)) false _ A6.out).mono ?_);rintro e w' ⟨rfl,⟨nd,rfl⟩⟩))
   go_ret
   exact ⟨by first|rfl|(simp [errW_none,errW_some] <;> rfl)|(simp [*,errW_none,errW_some] <;> rfl),hb_⟩
 ·rw [if_neg c5] at H
  have c5b0 : decide (0 < (l0.length : Int)) = false:=decide_eq_false c5
  have c5b1 : decide (0 < l0.length) = false:=decide_eq_false (by omega)
  clear c5
  obtain rfl:=Option.some.inj H
  go_enter Try.func41,Try.ntmps41
  go_wp2_with (first|((with_reducible refine gate_callee (f:=18) rfl ?_);refine goesL_ (some 7) rfl rfl Try.func18 (by kernel_rfl) rfl #[.slice A0 l0.length c0] rfl (by (try simp only [List.map_toArray,List.map_cons,List.map_nil]);first|done|rfl|(simp only [List.length_drop,List.length_take];rfl)) ?_;(with_reducible refine (order_Validate.calls k _ _ l0 t116 _ ?side1 ?side2 A3.out).mono ?_);(case side1 => exact Kd.C_up HR0.out);(case side2 => exact HC0.out);rintro e w10 ⟨rfl,hb⟩;refine ⟨_,rfl,?_⟩;replace HB:=Aside0.mk (below_step (hb_) hb)))
  go_ret
  exact ⟨by first|rfl|(simp [errW_none,errW_some] <;> rfl)|(simp [*,errW_none,errW_some] <;> rfl),hb_⟩

end Go.Proofs.Ythbjchicpebglaa.P

/- Functions of this seat as plain Lean functions, with proofs that the Go code comes to just their answers, or what stands between them and a law's statement; no conditions. (Laid by a program of this session, out of the kit's print.) -/
import Derived.Test.YthjmdpekcleihaaPx0
import Derived.Test.YthjmdpekcleihaaPx3
namespace Go.Proofs.Ythjmdpekcleihaa.P
open Go.RowKit Go.Proofs.YthjmdpekcleihaaW.PrintWords Go.Proofs.YthjmdpekcleihaaW.PrintLast Go.Proofs.YthjmdpekcleihaaW.PrintMore
attribute [local go_sem] max2_int min2_int max_two min_two max_three min_three max_four min_four   -- for this text's walks alone
set_option linter.unusedVariables false
set_option linter.unusedSimpArgs false

/-! ### hinterlandlaw17_far: function 16 -/
def hinterlandlaw17_far.f (a0_0 : Int) (a0_1 : Int) (l0_2 : List Int) (l0_3 : List Int) (l0_4 : List Int) (l0_5 : List (S50)) : Option (Bool) := (hinterlandlaw17_wide.f a0_0 a0_1 l0_2 l0_3).bind fun t233 => (if t233 = true then (some true) else (if (l0_4.length : Int) > 1100 then (some true) else (some (decide ((l0_5.length : Int) > 100)))))
set_option maxHeartbeats 8000000 in
set_option maxRecDepth 100000 in
theorem hinterlandlaw17_far.calls (a0_0 : Int) (a0_1 : Int) (A0_2 : Option Addr) (c0_2 : Nat) (l0_2 : List Int) (A0_3 : Option Addr) (c0_3 : Nat) (l0_3 : List Int) (A0_4 : Option Addr) (c0_4 : Nat) (l0_4 : List Int) (A0_5 : Option Addr) (c0_5 : Nat) (l0_5 : List (S50)) (r : Bool) (w : World) (hr0_2 : Kd.C (Kd.int .i64) w A0_2 l0_2.length l0_2) (hc0_2 : l0_2.length ≤ c0_2) (hr0_3 : Kd.C (Kd.int .i64) w A0_3 l0_3.length l0_3) (hc0_3 : l0_3.length ≤ c0_3) (hr0_4 : Kd.C (Kd.int .i64) w A0_4 l0_4.length l0_4) (hc0_4 : l0_4.length ≤ c0_4) (hr0_5 : Kd.C k50 w A0_5 l0_5.length l0_5) (hc0_5 : l0_5.length ≤ c0_5) (h : hinterlandlaw17_far.f a0_0 a0_1 l0_2 l0_3 l0_4 l0_5 = some r) :
  Calls Try.prog 16 #[.agg #[.int .i64 a0_0,.int .i64 a0_1,.slice A0_2 l0_2.length c0_2,.slice A0_3 l0_3.length c0_3,.slice A0_4 l0_4.length c0_4,.slice A0_5 l0_5.length c0_5]] w fun e w' => e = .returned (.bool r) ∧ Below w.heap.size w w':=by
 have hu33:=Try.underlying33
 have hu24:=Try.underlying24
 have HR0_2:=Aside0.mk hr0_2
 have HC0_2:=Aside0.mk hc0_2
 clear hr0_2 hc0_2
 have HR0_3:=Aside0.mk hr0_3
 have HC0_3:=Aside0.mk hc0_3
 clear hr0_3 hc0_3
 have HR0_4:=Aside0.mk hr0_4
 have HC0_4:=Aside0.mk hc0_4
 clear hr0_4 hc0_4
 have HR0_5:=Aside0.mk hr0_5
 have HC0_5:=Aside0.mk hc0_5
 clear hr0_5 hc0_5
 have HB:=Aside0.mk (Below.refl w.heap.size w)
 have H : ((hinterlandlaw17_wide.f a0_0 a0_1 l0_2 l0_3).bind fun t233 => (if t233 = true then (some true) else (if (l0_4.length : Int) > 1100 then (some true) else (some (decide ((l0_5.length : Int) > 100)))))) = some r:=h
 clear h
 replace H:=Option.bind_eq_some_iff.mp H
 obtain ⟨t233,A20,H⟩:=H
 replace H : (if t233 = true then (some true) else (if (l0_4.length : Int) > 1100 then (some true) else (some (decide ((l0_5.length : Int) > 100))))) = some r:=H
 have A2:=Aside0.mk A20
 clear A20
 by_cases c3 : t233 = true
 ·subst c3
  have H1 : (some true) = some r:=by rw [if_pos rfl] at H;exact H
  clear H
  have H:=H1
  clear H1
  obtain rfl:=Option.some.inj H
  go_enter Try.func16,Try.ntmps16
  go_wp2_with (first|((with_reducible refine gate_dst (N:=1) rfl ?_);(try (refine gate_guard (by rfl) ?_;dsimp only));refine box_ev (N:=1) (cs:=#[.int .i64 a0_0,.int .i64 a0_1,.slice A0_2 l0_2.length c0_2,.slice A0_3 l0_3.length c0_3,.slice A0_4 l0_4.length c0_4,.slice A0_5 l0_5.length c0_5]) (t:=33) ?_;intro gb232 hg w4 hbox hb;have BK232:=Aside0.mk (hbox);have GW232 : Aside0 (w.heap.size ≤ gb232):=gsz hg;have GE232:=GW232;replace HB:=hbs hb;clear hb hbox hg;obtain ⟨_,_,_,_,_,_,_,_,_,_,_,_⟩:=cells6 BK232.out)|((with_reducible refine gate_callee (f:=12) rfl ?_);refine goesL_ (some 5) rfl rfl Try.func12 (by kernel_rfl) rfl #[.agg #[.int .i64 a0_0,.int .i64 a0_1,.slice A0_2 l0_2.length c0_2,.slice A0_3 l0_3.length c0_3]] rfl ga_ ?_;(with_reducible refine (hinterlandlaw17_wide.calls a0_0 a0_1 _ _ l0_2 _ _ l0_3 true _ ?_ ?_ ?_ ?_ A2.out).mono ?_);exact cq HR0_2;exact HC0_2.out;exact cq HR0_3;exact HC0_3.out;rintro e w6 ⟨rfl,hb⟩;refine ⟨_,rfl,?_⟩;replace BK232:=bkb BK232 hb;replace HB:=hbs hb))
  go_ret
  exact ⟨er_,hb_⟩
 ·replace c3:=Bool.eq_false_iff.mpr c3
  subst c3
  have H1 : (if (l0_4.length : Int) > 1100 then (some true) else (some (decide ((l0_5.length : Int) > 100)))) = some r:=by rw [if_neg (show ¬ (false = true) by decide)] at H;exact H
  clear H
  have H:=H1
  clear H1
  by_cases c7 : (l0_4.length : Int) > 1100
  ·rw [if_pos c7] at H
   have c7b0 : decide (1100 < (l0_4.length : Int)) = true:=decide_eq_true c7
   have c7b1 : decide (1100 < l0_4.length) = true:=decide_eq_true (by omega)
   clear c7
   obtain rfl:=Option.some.inj H
   go_enter Try.func16,Try.ntmps16
   go_wp2_with (first|((with_reducible refine gate_dst (N:=1) rfl ?_);(try (refine gate_guard (by rfl) ?_;dsimp only));refine box_ev (N:=1) (cs:=#[.int .i64 a0_0,.int .i64 a0_1,.slice A0_2 l0_2.length c0_2,.slice A0_3 l0_3.length c0_3,.slice A0_4 l0_4.length c0_4,.slice A0_5 l0_5.length c0_5]) (t:=33) ?_;intro gb232 hg w8 hbox hb;have BK232:=Aside0.mk (hbox);have GW232 : Aside0 (w.heap.size ≤ gb232):=gsz hg;have GE232:=GW232;replace HB:=hbs hb;clear hb hbox hg;obtain ⟨_,_,_,_,_,_,_,_,_,_,_,_⟩:=cells6 BK232.out)|((with_reducible refine gate_callee (f:=12) rfl ?_);refine goesL_ (some 5) rfl rfl Try.func12 (by kernel_rfl) rfl #[.agg #[.int .i64 a0_0,.int .i64 a0_1,.slice A0_2 l0_2.length c0_2,.slice A0_3 l0_3.length c0_3]] rfl ga_ ?_;(with_reducible refine (hinterlandlaw17_wide.calls a0_0 a0_1 _ _ l0_2 _ _ l0_3 false _ ?_ ?_ ?_ ?_ A2.out).mono ?_);exact cq HR0_2;exact HC0_2.out;exact cq HR0_3;exact HC0_3.out;rintro e w10 ⟨rfl,hb⟩;refine ⟨_,rfl,?_⟩;replace BK232:=bkb BK232 hb;replace HB:=hbs hb;obtain ⟨_,_,_,_,_,_,_,_,_,_,_,_⟩:=cells6 BK232.out))
   go_ret
   exact ⟨er_,hb_⟩
  ·rw [if_neg c7] at H
   have c7b0 : decide (1100 < (l0_4.length : Int)) = false:=decide_eq_false c7
   have c7b1 : decide (1100 < l0_4.length) = false:=decide_eq_false (by omega)
   clear c7
   obtain rfl:=Option.some.inj H
   go_enter Try.func16,Try.ntmps16
   go_wp2_with (first|((with_reducible refine gate_dst (N:=1) rfl ?_);(try (refine gate_guard (by rfl) ?_;dsimp only));refine box_ev (N:=1) (cs:=#[.int .i64 a0_0,.int .i64 a0_1,.slice A0_2 l0_2.length c0_2,.slice A0_3 l0_3.length c0_3,.slice A0_4 l0_4.length c0_4,.slice A0_5 l0_5.length c0_5]) (t:=33) ?_;intro gb232 hg w12 hbox hb;have BK232:=Aside0.mk (hbox);have GW232 : Aside0 (w.heap.size ≤ gb232):=gsz hg;have GE232:=GW232;replace HB:=hbs hb;clear hb hbox hg;obtain ⟨_,_,_,_,_,_,_,_,_,_,_,_⟩:=cells6 BK232.out)|((with_reducible refine gate_callee (f:=12) rfl ?_);refine goesL_ (some 5) rfl rfl Try.func12 (by kernel_rfl) rfl #[.agg #[.int .i64 a0_0,.int .i64 a0_1,.slice A0_2 l0_2.length c0_2,.slice A0_3 l0_3.length c0_3]] rfl ga_ ?_;(with_reducible refine (hinterlandlaw17_wide.calls a0_0 a0_1 _ _ l0_2 _ _ l0_3 false _ ?_ ?_ ?_ ?_ A2.out).mono ?_);exact cq HR0_2;exact HC0_2.out;exact cq HR0_3;exact HC0_3.out;rintro e w14 ⟨rfl,hb⟩;refine ⟨_,rfl,?_⟩;replace BK232:=bkb BK232 hb;replace HB:=hbs hb;obtain ⟨_,_,_,_,_,_,_,_,_,_,_,_⟩:=cells6 BK232.out))
   go_ret
   exact ⟨er_,hb_⟩

/-! ### hinterlandref17_piece: function 39 -/
def hinterlandref17_piece.f (a0 : Int) (a1 : Int) (a2 : Int) (a3 : Int) (a4 : Int) : Option (Bool) := if a1 < (-1) then (some true) else (if a1 > 3 then (some true) else (if a2 < 0 then (some true) else (if a2 > 3 then (some true) else (if a3 < 0 then (some true) else (if a3 > 192 then (some true) else (if a4 < 0 then (some true) else (if a4 ≥ 192 then (some true) else (if a0 = (-1) then (if a1 = (-1) then (if a2 = 0 then (if a3 = 0 then (some (a4 != 0)) else (some true)) else (some true)) else (some true)) else (some false)))))))))
set_option maxHeartbeats 8000000 in
set_option maxRecDepth 100000 in
theorem hinterlandref17_piece.calls (a0 : Int) (a1 : Int) (a2 : Int) (a3 : Int) (a4 : Int) (r : Bool) (w : World) (h : hinterlandref17_piece.f a0 a1 a2 a3 a4 = some r) :
  Calls Try.prog 39 #[.int .i64 a0,.int .i64 a1,.int .i64 a2,.int .i64 a3,.int .i64 a4] w fun e w' => e = .returned (.bool r) ∧ Drawn0 w w':=by
 have H : (if a1 < (-1) then (some true) else (if a1 > 3 then (some true) else (if a2 < 0 then (some true) else (if a2 > 3 then (some true) else (if a3 < 0 then (some true) else (if a3 > 192 then (some true) else (if a4 < 0 then (some true) else (if a4 ≥ 192 then (some true) else (if a0 = (-1) then (if a1 = (-1) then (if a2 = 0 then (if a3 = 0 then (some (a4 != 0)) else (some true)) else (some true)) else (some true)) else (some false)))))))))) = some r:=h
 clear h
 by_cases c6 : a1 < (-1)
 ·rw [if_pos c6] at H
  have c6b0 : decide (a1 < (-1)) = true:=decide_eq_true c6
  clear c6
  obtain rfl:=Option.some.inj H
  go_enter Try.func39,Try.ntmps39
  go_wp2
  go_ret
  exact ⟨by first|rfl|(simp;done)|(simp [*];done),by repeat (first|exact Drawn0.refl _|apply Drawn0.step)⟩
 rw [if_neg c6] at H
 have c6b0 : decide (a1 < (-1)) = false:=decide_eq_false c6
 clear c6
 by_cases c7 : a1 > 3
 ·rw [if_pos c7] at H
  have c7b0 : decide (3 < a1) = true:=decide_eq_true c7
  clear c7
  obtain rfl:=Option.some.inj H
  go_enter Try.func39,Try.ntmps39
  go_wp2
  go_ret
  exact ⟨by first|rfl|(simp;done)|(simp [*];done),by repeat (first|exact Drawn0.refl _|apply Drawn0.step)⟩
 rw [if_neg c7] at H
 have c7b0 : decide (3 < a1) = false:=decide_eq_false c7
 clear c7
 by_cases c8 : a2 < 0
 ·rw [if_pos c8] at H
  have c8b0 : decide (a2 < 0) = true:=decide_eq_true c8
  clear c8
  obtain rfl:=Option.some.inj H
  go_enter Try.func39,Try.ntmps39
  go_wp2
  go_ret
  exact ⟨by first|rfl|(simp;done)|(simp [*];done),by repeat (first|exact Drawn0.refl _|apply Drawn0.step)⟩
 rw [if_neg c8] at H
 have c8b0 : decide (a2 < 0) = false:=decide_eq_false c8
 clear c8
 by_cases c9 : a2 > 3
 ·rw [if_pos c9] at H
  have c9b0 : decide (3 < a2) = true:=decide_eq_true c9
  clear c9
  obtain rfl:=Option.some.inj H
  go_enter Try.func39,Try.ntmps39
  go_wp2
  go_ret
  exact ⟨by first|rfl|(simp;done)|(simp [*];done),by repeat (first|exact Drawn0.refl _|apply Drawn0.step)⟩
 rw [if_neg c9] at H
 have c9b0 : decide (3 < a2) = false:=decide_eq_false c9
 clear c9
 by_cases c10 : a3 < 0
 ·rw [if_pos c10] at H
  have c10b0 : decide (a3 < 0) = true:=decide_eq_true c10
  clear c10
  obtain rfl:=Option.some.inj H
  go_enter Try.func39,Try.ntmps39
  go_wp2
  go_ret
  exact ⟨by first|rfl|(simp;done)|(simp [*];done),by repeat (first|exact Drawn0.refl _|apply Drawn0.step)⟩
 rw [if_neg c10] at H
 have c10b0 : decide (a3 < 0) = false:=decide_eq_false c10
 clear c10
 by_cases c11 : a3 > 192
 ·rw [if_pos c11] at H
  have c11b0 : decide (192 < a3) = true:=decide_eq_true c11
  clear c11
  obtain rfl:=Option.some.inj H
  go_enter Try.func39,Try.ntmps39
  go_wp2
  go_ret
  exact ⟨by first|rfl|(simp;done)|(simp [*];done),by repeat (first|exact Drawn0.refl _|apply Drawn0.step)⟩
 rw [if_neg c11] at H
 have c11b0 : decide (192 < a3) = false:=decide_eq_false c11
 clear c11
 by_cases c12 : a4 < 0
 ·rw [if_pos c12] at H
  have c12b0 : decide (a4 < 0) = true:=decide_eq_true c12
  clear c12
  obtain rfl:=Option.some.inj H
  go_enter Try.func39,Try.ntmps39
  go_wp2
  go_ret
  exact ⟨by first|rfl|(simp;done)|(simp [*];done),by repeat (first|exact Drawn0.refl _|apply Drawn0.step)⟩
 rw [if_neg c12] at H
 have c12b0 : decide (a4 < 0) = false:=decide_eq_false c12
 clear c12
 by_cases c13 : a4 ≥ 192
 ·rw [if_pos c13] at H
  have c13b0 : decide (192 ≤ a4) = true:=decide_eq_true c13
  clear c13
  obtain rfl:=Option.some.inj H
  go_enter Try.func39,Try.ntmps39
  go_wp2
  go_ret
  exact ⟨by first|rfl|(simp;done)|(simp [*];done),by repeat (first|exact Drawn0.refl _|apply Drawn0.step)⟩
 rw [if_neg c13] at H
 have c13b0 : decide (192 ≤ a4) = false:=decide_eq_false c13
 clear c13
 by_cases c14 : a0 = (-1)
 rotate_left
 ·rw [if_neg c14] at H
  have c14b0:=bqf c14
  have c14b1:=bnt c14
  obtain rfl:=Option.some.inj H
  go_enter Try.func39,Try.ntmps39
  go_wp2
  go_ret
  exact ⟨by first|rfl|(simp;done)|(simp [*];done),by repeat (first|exact Drawn0.refl _|apply Drawn0.step)⟩
 rw [if_pos c14] at H
 have c14b0:=bqt c14
 have c14b1:=bnf c14
 clear c14
 by_cases c15 : a1 = (-1)
 ·rw [if_pos c15] at H
  have c15b0:=bqt c15
  have c15b1:=bnf c15
  clear c15
  by_cases c16 : a2 = 0
  ·rw [if_pos c16] at H
   have c16b0:=bqt c16
   have c16b1:=bnf c16
   clear c16
   by_cases c17 : a3 = 0
   ·rw [if_pos c17] at H
    have c17b0:=bqt c17
    have c17b1:=bnf c17
    clear c17
    obtain rfl:=Option.some.inj H
    go_enter Try.func39,Try.ntmps39
    go_wp2
    go_ret
    exact ⟨by first|rfl|(simp;done)|(simp [*];done),by repeat (first|exact Drawn0.refl _|apply Drawn0.step)⟩
   ·rw [if_neg c17] at H
    have c17b0:=bqf c17
    have c17b1:=bnt c17
    obtain rfl:=Option.some.inj H
    go_enter Try.func39,Try.ntmps39
    go_wp2
    go_ret
    exact ⟨by first|rfl|(simp;done)|(simp [*];done),by repeat (first|exact Drawn0.refl _|apply Drawn0.step)⟩
  ·rw [if_neg c16] at H
   have c16b0:=bqf c16
   have c16b1:=bnt c16
   obtain rfl:=Option.some.inj H
   go_enter Try.func39,Try.ntmps39
   go_wp2
   go_ret
   exact ⟨by first|rfl|(simp;done)|(simp [*];done),by repeat (first|exact Drawn0.refl _|apply Drawn0.step)⟩
 ·rw [if_neg c15] at H
  have c15b0:=bqf c15
  have c15b1:=bnt c15
  obtain rfl:=Option.some.inj H
  go_enter Try.func39,Try.ntmps39
  go_wp2
  go_ret
  exact ⟨by first|rfl|(simp;done)|(simp [*];done),by repeat (first|exact Drawn0.refl _|apply Drawn0.step)⟩

/-! ### hinterlandref17_taken: function 41 -/
def hinterlandref17_taken.l0 : Nat → Int → Int → Int → Int → Int → Int → List Int → List Int → List Int → List (S50) → Option (Bool)
 | 0,_,_,_,_,_,_,_,_,_,_ => none
 | k + 1,x1,x2,x3,x9,x235000,x235001,x235002,x235003,x235004,x235005 => if x9 < (x235005.length : Int) then (if x9 = x1 then (hinterlandref17_taken.l0 k x1 x2 x3 (wrap64 (x9 + 1)) x235000 x235001 x235002 x235003 x235004 x235005) else (if x2 ≥ 0 then (if 0 ≤ x9 then (if ((rd_T50 x235005 x9).f0) = x2 then (if ((rd_T50 x235005 x9).f2) = x3 then (some true) else (hinterlandref17_taken.l0 k x1 x2 x3 (wrap64 (x9 + 1)) x235000 x235001 x235002 x235003 x235004 x235005)) else (hinterlandref17_taken.l0 k x1 x2 x3 (wrap64 (x9 + 1)) x235000 x235001 x235002 x235003 x235004 x235005)) else (none)) else (hinterlandref17_taken.l0 k x1 x2 x3 (wrap64 (x9 + 1)) x235000 x235001 x235002 x235003 x235004 x235005))) else (some false)
def hinterlandref17_taken.f (k : Nat) (a0_0 : Int) (a0_1 : Int) (l0_2 : List Int) (l0_3 : List Int) (l0_4 : List Int) (l0_5 : List (S50)) (a1 : Int) (a2 : Int) (a3 : Int) : Option (Bool) := hinterlandref17_taken.l0 k a1 a2 a3 0 a0_0 a0_1 l0_2 l0_3 l0_4 l0_5
theorem hinterlandref17_taken.mono_l : ∀ k, (∀ y0 y1 y2 y3 y4 y5 y6 y7 y8 y9, LeO (hinterlandref17_taken.l0 k y0 y1 y2 y3 y4 y5 y6 y7 y8 y9) (hinterlandref17_taken.l0 (k + 1) y0 y1 y2 y3 y4 y5 y6 y7 y8 y9))
 | 0 => fun _ _ _ _ _ _ _ _ _ _ r h => by simp [hinterlandref17_taken.l0] at h
 | k + 1 => by
  have ih0:=hinterlandref17_taken.mono_l k
  ·intro y0 y1 y2 y3 y4 y5 y6 y7 y8 y9
   unfold hinterlandref17_taken.l0
   repeat' first
   | (with_reducible exact ih0 _ _ _ _ _ _ _ _ _ _)
   | (with_reducible exact LeO.refl _)
   | (with_reducible exact LeO.none _)
   | (with_reducible refine LeO.ite ?_ ?_)
   | (with_reducible refine LeO.bind ?_ (fun _ => ?_))
   | exact ih0 _ _ _ _ _ _ _ _ _ _
   | exact LeO.none _
   | refine LeO.ite ?_ ?_
   | refine LeO.bind ?_ (fun _ => ?_)
theorem hinterlandref17_taken.mono : ∀ a0 a1 a2 a3 a4 a5 a6 a7 a8 k, LeO (hinterlandref17_taken.f k a0 a1 a2 a3 a4 a5 a6 a7 a8) (hinterlandref17_taken.f (k + 1) a0 a1 a2 a3 a4 a5 a6 a7 a8) := by
 intro a0 a1 a2 a3 a4 a5 a6 a7 a8 k
 have ih0:=hinterlandref17_taken.mono_l k
 unfold hinterlandref17_taken.f
 repeat' first
   | (with_reducible exact ih0 _ _ _ _ _ _ _ _ _ _)
   | (with_reducible exact LeO.refl _)
   | (with_reducible exact LeO.none _)
   | (with_reducible refine LeO.ite ?_ ?_)
   | (with_reducible refine LeO.bind ?_ (fun _ => ?_))
   | exact ih0 _ _ _ _ _ _ _ _ _ _
   | exact LeO.none _
   | refine LeO.ite ?_ ?_
   | refine LeO.bind ?_ (fun _ => ?_)
set_option maxHeartbeats 8000000 in
set_option maxRecDepth 100000 in
theorem hinterlandref17_taken.calls (k : Nat) (a0_0 : Int) (a0_1 : Int) (A0_2 : Option Addr) (c0_2 : Nat) (l0_2 : List Int) (A0_3 : Option Addr) (c0_3 : Nat) (l0_3 : List Int) (A0_4 : Option Addr) (c0_4 : Nat) (l0_4 : List Int) (A0_5 : Option Addr) (c0_5 : Nat) (l0_5 : List (S50)) (a1 : Int) (a2 : Int) (a3 : Int) (r : Bool) (w : World) (hr0_2 : Kd.C (Kd.int .i64) w A0_2 l0_2.length l0_2) (hc0_2 : l0_2.length ≤ c0_2) (hr0_3 : Kd.C (Kd.int .i64) w A0_3 l0_3.length l0_3) (hc0_3 : l0_3.length ≤ c0_3) (hr0_4 : Kd.C (Kd.int .i64) w A0_4 l0_4.length l0_4) (hc0_4 : l0_4.length ≤ c0_4) (hr0_5 : Kd.C k50 w A0_5 l0_5.length l0_5) (hc0_5 : l0_5.length ≤ c0_5) (h : hinterlandref17_taken.f k a0_0 a0_1 l0_2 l0_3 l0_4 l0_5 a1 a2 a3 = some r) :
  Calls Try.prog 41 #[.agg #[.int .i64 a0_0,.int .i64 a0_1,.slice A0_2 l0_2.length c0_2,.slice A0_3 l0_3.length c0_3,.slice A0_4 l0_4.length c0_4,.slice A0_5 l0_5.length c0_5],.int .i64 a1,.int .i64 a2,.int .i64 a3] w fun e w' => e = .returned (.bool r) ∧ Below w.heap.size w w':=by
 have hu33:=Try.underlying33
 have HR0_2:=Aside0.mk hr0_2
 have HC0_2:=Aside0.mk hc0_2
 clear hr0_2 hc0_2
 have HR0_3:=Aside0.mk hr0_3
 have HC0_3:=Aside0.mk hc0_3
 clear hr0_3 hc0_3
 have HR0_4:=Aside0.mk hr0_4
 have HC0_4:=Aside0.mk hc0_4
 clear hr0_4 hc0_4
 have HR0_5:=Aside0.mk hr0_5
 have HC0_5:=Aside0.mk hc0_5
 clear hr0_5 hc0_5
 have HB:=Aside0.mk (Below.refl w.heap.size w)
 have H : (hinterlandref17_taken.l0 k a1 a2 a3 0 a0_0 a0_1 l0_2 l0_3 l0_4 l0_5) = some r:=h
 clear h
 have H':=Aside0.mk H
 clear H
 go_enter Try.func41,Try.ntmps41
 go_wp2_with (first|((with_reducible refine gate_dst (N:=4) rfl ?_);refine box_ev (N:=4) (cs:=#[.int .i64 a0_0,.int .i64 a0_1,.slice A0_2 l0_2.length c0_2,.slice A0_3 l0_3.length c0_3,.slice A0_4 l0_4.length c0_4,.slice A0_5 l0_5.length c0_5]) (t:=33) ?_;intro gb234 hg w5 hbox hb;have BK234:=Aside0.mk (hbox);have GW234 : Aside0 (w.heap.size ≤ gb234):=gsz hg;have GE234:=GW234;replace HB:=hbs hb;clear hb hbox hg))
 go_loopg [9] k (fun kq v9 w' => ∃ (x9_1 : Int),v9 = .int .i64 x9_1 ∧ Aside0 (hinterlandref17_taken.l0 kq a1 a2 a3 x9_1 a0_0 a0_1 l0_2 l0_3 l0_4 l0_5 = some r) ∧ Aside0 (kq ≤ k) ∧ Aside0 (w'.heap[gb234]? = some (.cells #[.int .i64 a0_0,.int .i64 a0_1,(.slice A0_2 l0_2.length c0_2),(.slice A0_3 l0_3.length c0_3),(.slice A0_4 l0_4.length c0_4),(.slice A0_5 l0_5.length c0_5)] 33 (0,0))) ∧ Aside0 (Below w.heap.size w w'))
 case atStart => exact ⟨(0),(by first|rfl|(simp;done)|(simp [*];done)),H',⟨Nat.le_refl _⟩,⟨blk_up BK234.out⟩,⟨hb_⟩⟩
 case round =>
  clear H'
  obtain ⟨x9_1,rfl,HA,HK1,BK234,HB⟩:=hrel
  cases gk with
  | zero => exact absurd HA.out (by simp [hinterlandref17_taken.l0])
  | succ k1 =>
   have H:=HA.out
   clear HA
   simp only [hinterlandref17_taken.l0] at H
   by_cases c6 : x9_1 < (l0_5.length : Int)
   rotate_left
   ·rw [if_neg c6] at H
    have c6b0 : decide (x9_1 < (l0_5.length : Int)) = false:=decide_eq_false c6
    clear c6
    obtain rfl:=Option.some.inj H
    obtain ⟨_,_,_,_,_,_,_,_,_,_,_,_⟩:=cells6 BK234.out
    go_wp2
    go_ret
    exact ⟨er_,hb_⟩
   rw [if_pos c6] at H
   have c6b0 : decide (x9_1 < (l0_5.length : Int)) = true:=decide_eq_true c6
   clear c6
   by_cases c7 : x9_1 = a1
   ·rw [if_pos c7] at H
    have c7b0:=bqt c7
    have c7b1:=bnf c7
    clear c7
    have H':=Aside0.mk H
    clear H
    obtain ⟨_,_,_,_,_,_,_,_,_,_,_,_⟩:=cells6 BK234.out
    go_wp2
    go_roundg k1
    case measure => have:=HK1.out;omega
    case rel => exact ⟨(wrap64 (x9_1 + 1)),(by first|rfl|(simp;done)|(simp [*];done)),H',⟨by have:=HK1.out;omega⟩,⟨blk_up BK234.out⟩,⟨hb_⟩⟩
   rw [if_neg c7] at H
   have c7b0:=bqf c7
   have c7b1:=bnt c7
   by_cases c9 : a2 ≥ 0
   rotate_left
   ·rw [if_neg c9] at H
    have c9b0 : decide (0 ≤ a2) = false:=decide_eq_false c9
    clear c9
    have H':=Aside0.mk H
    clear H
    obtain ⟨_,_,_,_,_,_,_,_,_,_,_,_⟩:=cells6 BK234.out
    go_wp2
    go_roundg k1
    case measure => have:=HK1.out;omega
    case rel => exact ⟨(wrap64 (x9_1 + 1)),(by first|rfl|(simp;done)|(simp [*];done)),H',⟨by have:=HK1.out;omega⟩,⟨blk_up BK234.out⟩,⟨hb_⟩⟩
   rw [if_pos c9] at H
   have c9b0 : decide (0 ≤ a2) = true:=decide_eq_true c9
   clear c9
   replace H:=ifp_ H;obtain ⟨c10,H⟩:=H
   have c10b0 : decide (0 ≤ x9_1) = true:=decide_eq_true c10
   clear c10
   by_cases c11 : ((rd_T50 l0_5 x9_1).f0) = a2
   rotate_left
   ·rw [if_neg c11] at H
    have c11b0:=bqf c11
    have c11b1:=bnt c11
    have H':=Aside0.mk H
    clear H
    obtain ⟨_,_,_,_,_,_,_,_,_,_,_,_⟩:=cells6 BK234.out
    have p235 : 0 ≤ (x9_1 : Int):=of_decide_eq_true (by first|(with_reducible assumption)|assumption)
    have q235 : x9_1 < (l0_5.length : Int):=of_decide_eq_true (by first|(with_reducible assumption)|assumption)
    obtain ⟨ad235,e235,hx235_0,hx235_1,hx235_2,hx235_3,hx235_4⟩:=at_T50 HR0_5.out x9_1 p235 q235
    cases e235
    replace hx235_0:=(HB.out.cell (World.block_lt_of_cell? w _ hx235_0)).trans hx235_0
    replace hx235_1:=(HB.out.cell (World.block_lt_of_cell? w _ hx235_1)).trans hx235_1
    replace hx235_2:=(HB.out.cell (World.block_lt_of_cell? w _ hx235_2)).trans hx235_2
    replace hx235_3:=(HB.out.cell (World.block_lt_of_cell? w _ hx235_3)).trans hx235_3
    replace hx235_4:=(HB.out.cell (World.block_lt_of_cell? w _ hx235_4)).trans hx235_4
    replace p235:=eq_true p235
    replace q235:=eq_true q235
    go_wp2
    go_roundg k1
    case measure => have:=HK1.out;omega
    case rel => exact ⟨(wrap64 (x9_1 + 1)),(by first|rfl|(simp;done)|(simp [*];done)),H',⟨by have:=HK1.out;omega⟩,⟨blk_up BK234.out⟩,⟨hb_⟩⟩
   rw [if_pos c11] at H
   have c11b0:=bqt c11
   have c11b1:=bnf c11
   clear c11
   by_cases c12 : ((rd_T50 l0_5 x9_1).f2) = a3
   ·rw [if_pos c12] at H
    have c12b0:=bqt c12
    have c12b1:=bnf c12
    clear c12
    obtain rfl:=Option.some.inj H
    obtain ⟨_,_,_,_,_,_,_,_,_,_,_,_⟩:=cells6 BK234.out
    have p235 : 0 ≤ (x9_1 : Int):=of_decide_eq_true (by first|(with_reducible assumption)|assumption)
    have q235 : x9_1 < (l0_5.length : Int):=of_decide_eq_true (by first|(with_reducible assumption)|assumption)
    obtain ⟨ad235,e235,hx235_0,hx235_1,hx235_2,hx235_3,hx235_4⟩:=at_T50 HR0_5.out x9_1 p235 q235
    cases e235
    replace hx235_0:=(HB.out.cell (World.block_lt_of_cell? w _ hx235_0)).trans hx235_0
    replace hx235_1:=(HB.out.cell (World.block_lt_of_cell? w _ hx235_1)).trans hx235_1
    replace hx235_2:=(HB.out.cell (World.block_lt_of_cell? w _ hx235_2)).trans hx235_2
    replace hx235_3:=(HB.out.cell (World.block_lt_of_cell? w _ hx235_3)).trans hx235_3
    replace hx235_4:=(HB.out.cell (World.block_lt_of_cell? w _ hx235_4)).trans hx235_4
    replace p235:=eq_true p235
    replace q235:=eq_true q235
    have p236 : 0 ≤ (x9_1 : Int):=of_decide_eq_true (by first|(with_reducible assumption)|assumption)
    have q236 : x9_1 < (l0_5.length : Int):=of_decide_eq_true (by first|(with_reducible assumption)|assumption)
    obtain ⟨ad236,e236,hx236_0,hx236_1,hx236_2,hx236_3,hx236_4⟩:=at_T50 HR0_5.out x9_1 p236 q236
    obtain rfl : ad235 = ad236:=(by injection e236)
    replace hx236_0:=(HB.out.cell (World.block_lt_of_cell? w _ hx236_0)).trans hx236_0
    replace hx236_1:=(HB.out.cell (World.block_lt_of_cell? w _ hx236_1)).trans hx236_1
    replace hx236_2:=(HB.out.cell (World.block_lt_of_cell? w _ hx236_2)).trans hx236_2
    replace hx236_3:=(HB.out.cell (World.block_lt_of_cell? w _ hx236_3)).trans hx236_3
    replace hx236_4:=(HB.out.cell (World.block_lt_of_cell? w _ hx236_4)).trans hx236_4
    replace p236:=eq_true p236
    replace q236:=eq_true q236
    go_wp2
    go_ret
    exact ⟨er_,hb_⟩
   rw [if_neg c12] at H
   have c12b0:=bqf c12
   have c12b1:=bnt c12
   have H':=Aside0.mk H
   clear H
   obtain ⟨_,_,_,_,_,_,_,_,_,_,_,_⟩:=cells6 BK234.out
   have p235 : 0 ≤ (x9_1 : Int):=of_decide_eq_true (by first|(with_reducible assumption)|assumption)
   have q235 : x9_1 < (l0_5.length : Int):=of_decide_eq_true (by first|(with_reducible assumption)|assumption)
   obtain ⟨ad235,e235,hx235_0,hx235_1,hx235_2,hx235_3,hx235_4⟩:=at_T50 HR0_5.out x9_1 p235 q235
   cases e235
   replace hx235_0:=(HB.out.cell (World.block_lt_of_cell? w _ hx235_0)).trans hx235_0
   replace hx235_1:=(HB.out.cell (World.block_lt_of_cell? w _ hx235_1)).trans hx235_1
   replace hx235_2:=(HB.out.cell (World.block_lt_of_cell? w _ hx235_2)).trans hx235_2
   replace hx235_3:=(HB.out.cell (World.block_lt_of_cell? w _ hx235_3)).trans hx235_3
   replace hx235_4:=(HB.out.cell (World.block_lt_of_cell? w _ hx235_4)).trans hx235_4
   replace p235:=eq_true p235
   replace q235:=eq_true q235
   have p236 : 0 ≤ (x9_1 : Int):=of_decide_eq_true (by first|(with_reducible assumption)|assumption)
   have q236 : x9_1 < (l0_5.length : Int):=of_decide_eq_true (by first|(with_reducible assumption)|assumption)
   obtain ⟨ad236,e236,hx236_0,hx236_1,hx236_2,hx236_3,hx236_4⟩:=at_T50 HR0_5.out x9_1 p236 q236
   obtain rfl : ad235 = ad236:=(by injection e236)
   replace hx236_0:=(HB.out.cell (World.block_lt_of_cell? w _ hx236_0)).trans hx236_0
   replace hx236_1:=(HB.out.cell (World.block_lt_of_cell? w _ hx236_1)).trans hx236_1
   replace hx236_2:=(HB.out.cell (World.block_lt_of_cell? w _ hx236_2)).trans hx236_2
   replace hx236_3:=(HB.out.cell (World.block_lt_of_cell? w _ hx236_3)).trans hx236_3
   replace hx236_4:=(HB.out.cell (World.block_lt_of_cell? w _ hx236_4)).trans hx236_4
   replace p236:=eq_true p236
   replace q236:=eq_true q236
   go_wp2
   go_roundg k1
   case measure => have:=HK1.out;omega
   case rel => exact ⟨(wrap64 (x9_1 + 1)),(by first|rfl|(simp;done)|(simp [*];done)),H',⟨by have:=HK1.out;omega⟩,⟨blk_up BK234.out⟩,⟨hb_⟩⟩

end Go.Proofs.Ythjmdpekcleihaa.P

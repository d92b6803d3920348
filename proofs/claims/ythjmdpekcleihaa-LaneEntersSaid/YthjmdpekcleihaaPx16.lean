/- Functions of this seat as plain Lean functions, with proofs that the Go code comes to just their answers, or what stands between them and a law's statement; no conditions. (Laid by a program of this session, out of the kit's print.) -/
import Derived.Test.YthjmdpekcleihaaPx0
import Derived.Test.YthjmdpekcleihaaPx3
import Derived.Test.YthjmdpekcleihaaPx4
namespace Go.Proofs.Ythjmdpekcleihaa.P
open Go.RowKit Go.Proofs.YthjmdpekcleihaaW.PrintWords Go.Proofs.YthjmdpekcleihaaW.PrintLast Go.Proofs.YthjmdpekcleihaaW.PrintMore
attribute [local go_sem] max2_int min2_int max_two min_two max_three min_three max_four min_four   -- for this text's walks alone
set_option linter.unusedVariables false
set_option linter.unusedSimpArgs false

/-! ### lane_moves: function 42 -/
def lane_moves.f (a0 : Int) (a1 : Int) (a2 : Int) (a3 : Int) (a4 : Int) : Option (Bool) := if a0 = (-1) then (if a1 = (-1) then (if a2 = 0 then (if a3 = 0 then (some (a4 == 0)) else (some false)) else (some false)) else (some false)) else (if a1 ≥ (-1) then (if a1 ≤ 3 then ((lane_within.f a2 3).bind fun t251 => (if t251 = true then ((lane_within.f a3 192).bind fun t252 => (if t252 = true then ((lane_within.f a4 191).bind fun t253 => (some t253)) else (some false))) else (some false))) else (some false)) else (some false))
set_option maxHeartbeats 8000000 in
set_option maxRecDepth 100000 in
theorem lane_moves.calls (a0 : Int) (a1 : Int) (a2 : Int) (a3 : Int) (a4 : Int) (r : Bool) (w : World) (h : lane_moves.f a0 a1 a2 a3 a4 = some r) :
  Calls Try.prog 42 #[.int .i64 a0,.int .i64 a1,.int .i64 a2,.int .i64 a3,.int .i64 a4] w fun e w' => e = .returned (.bool r) ∧ Drawn0 w w':=by
 have H : (if a0 = (-1) then (if a1 = (-1) then (if a2 = 0 then (if a3 = 0 then (some (a4 == 0)) else (some false)) else (some false)) else (some false)) else (if a1 ≥ (-1) then (if a1 ≤ 3 then ((lane_within.f a2 3).bind fun t251 => (if t251 = true then ((lane_within.f a3 192).bind fun t252 => (if t252 = true then ((lane_within.f a4 191).bind fun t253 => (some t253)) else (some false))) else (some false))) else (some false)) else (some false))) = some r:=h
 clear h
 by_cases c6 : a0 = (-1)
 ·rw [if_pos c6] at H
  have c6b0:=bqt c6
  have c6b1:=bnf c6
  clear c6
  by_cases c7 : a1 = (-1)
  rotate_left
  ·rw [if_neg c7] at H
   have c7b0:=bqf c7
   have c7b1:=bnt c7
   obtain rfl:=Option.some.inj H
   go_enter Try.func42,Try.ntmps42
   go_wp2
   go_ret
   exact ⟨by first|rfl|(simp;done)|(simp [*];done),by repeat (first|exact Drawn0.refl _|apply Drawn0.step)⟩
  rw [if_pos c7] at H
  have c7b0:=bqt c7
  have c7b1:=bnf c7
  clear c7
  by_cases c8 : a2 = 0
  ·rw [if_pos c8] at H
   have c8b0:=bqt c8
   have c8b1:=bnf c8
   clear c8
   by_cases c9 : a3 = 0
   ·rw [if_pos c9] at H
    have c9b0:=bqt c9
    have c9b1:=bnf c9
    clear c9
    obtain rfl:=Option.some.inj H
    go_enter Try.func42,Try.ntmps42
    go_wp2
    go_ret
    exact ⟨by first|rfl|(simp;done)|(simp [*];done),by repeat (first|exact Drawn0.refl _|apply Drawn0.step)⟩
   ·rw [if_neg c9] at H
    have c9b0:=bqf c9
    have c9b1:=bnt c9
    obtain rfl:=Option.some.inj H
    go_enter Try.func42,Try.ntmps42
    go_wp2
    go_ret
    exact ⟨by first|rfl|(simp;done)|(simp [*];done),by repeat (first|exact Drawn0.refl _|apply Drawn0.step)⟩
  ·rw [if_neg c8] at H
   have c8b0:=bqf c8
   have c8b1:=bnt c8
   obtain rfl:=Option.some.inj H
   go_enter Try.func42,Try.ntmps42
   go_wp2
   go_ret
   exact ⟨by first|rfl|(simp;done)|(simp [*];done),by repeat (first|exact Drawn0.refl _|apply Drawn0.step)⟩
 rw [if_neg c6] at H
 have c6b0:=bqf c6
 have c6b1:=bnt c6
 by_cases c10 : a1 ≥ (-1)
 rotate_left
 ·rw [if_neg c10] at H
  have c10b0 : decide ((-1) ≤ a1) = false:=decide_eq_false c10
  clear c10
  obtain rfl:=Option.some.inj H
  go_enter Try.func42,Try.ntmps42
  go_wp2
  go_ret
  exact ⟨by first|rfl|(simp;done)|(simp [*];done),by repeat (first|exact Drawn0.refl _|apply Drawn0.step)⟩
 rw [if_pos c10] at H
 have c10b0 : decide ((-1) ≤ a1) = true:=decide_eq_true c10
 clear c10
 by_cases c11 : a1 ≤ 3
 rotate_left
 ·rw [if_neg c11] at H
  have c11b0 : decide (a1 ≤ 3) = false:=decide_eq_false c11
  clear c11
  obtain rfl:=Option.some.inj H
  go_enter Try.func42,Try.ntmps42
  go_wp2
  go_ret
  exact ⟨by first|rfl|(simp;done)|(simp [*];done),by repeat (first|exact Drawn0.refl _|apply Drawn0.step)⟩
 rw [if_pos c11] at H
 have c11b0 : decide (a1 ≤ 3) = true:=decide_eq_true c11
 clear c11
 replace H:=Option.bind_eq_some_iff.mp H
 obtain ⟨t251,A120,H⟩:=H
 replace H : (if t251 = true then ((lane_within.f a3 192).bind fun t252 => (if t252 = true then ((lane_within.f a4 191).bind fun t253 => (some t253)) else (some false))) else (some false)) = some r:=H
 have A12:=Aside0.mk A120
 clear A120
 by_cases c13 : t251 = true
 ·subst c13
  have H1 : ((lane_within.f a3 192).bind fun t252 => (if t252 = true then ((lane_within.f a4 191).bind fun t253 => (some t253)) else (some false))) = some r:=by rw [if_pos rfl] at H;exact H
  clear H
  have H:=H1
  clear H1
  replace H:=Option.bind_eq_some_iff.mp H
  obtain ⟨t252,A140,H⟩:=H
  replace H : (if t252 = true then ((lane_within.f a4 191).bind fun t253 => (some t253)) else (some false)) = some r:=H
  have A14:=Aside0.mk A140
  clear A140
  by_cases c15 : t252 = true
  ·subst c15
   have H1 : ((lane_within.f a4 191).bind fun t253 => (some t253)) = some r:=by rw [if_pos rfl] at H;exact H
   clear H
   have H:=H1
   clear H1
   replace H:=Option.bind_eq_some_iff.mp H
   obtain ⟨t253,A160,H⟩:=H
   replace H : (some t253) = some r:=H
   have A16:=Aside0.mk A160
   clear A160
   obtain rfl:=Option.some.inj H
   go_enter Try.func42,Try.ntmps42
   go_wp2_with (first|(go_at_call 37;(with_reducible refine (lane_within.calls a2 3 true _ A12.out).mono ?_);rintro e w' ⟨rfl,⟨nd,rfl⟩⟩)|(go_at_call 37;(with_reducible refine (lane_within.calls a3 192 true _ A14.out).mono ?_);rintro e w' ⟨rfl,⟨nd,rfl⟩⟩)|(go_at_call 37;(with_reducible refine (lane_within.calls a4 191 t253 _ A16.out).mono ?_);rintro e w' ⟨rfl,⟨nd,rfl⟩⟩))
   go_ret
   exact ⟨by first|rfl|(simp;done)|(simp [*];done),by repeat (first|exact Drawn0.refl _|apply Drawn0.step)⟩
  ·replace c15:=Bool.eq_false_iff.mpr c15
   subst c15
   have H1 : (some false) = some r:=by rw [if_neg (show ¬ (false = true) by decide)] at H;exact H
   clear H
   have H:=H1
   clear H1
   obtain rfl:=Option.some.inj H
   go_enter Try.func42,Try.ntmps42
   go_wp2_with (first|(go_at_call 37;(with_reducible refine (lane_within.calls a2 3 true _ A12.out).mono ?_);rintro e w' ⟨rfl,⟨nd,rfl⟩⟩)|(go_at_call 37;(with_reducible refine (lane_within.calls a3 192 false _ A14.out).mono ?_);rintro e w' ⟨rfl,⟨nd,rfl⟩⟩))
   go_ret
   exact ⟨by first|rfl|(simp;done)|(simp [*];done),by repeat (first|exact Drawn0.refl _|apply Drawn0.step)⟩
 ·replace c13:=Bool.eq_false_iff.mpr c13
  subst c13
  have H1 : (some false) = some r:=by rw [if_neg (show ¬ (false = true) by decide)] at H;exact H
  clear H
  have H:=H1
  clear H1
  obtain rfl:=Option.some.inj H
  go_enter Try.func42,Try.ntmps42
  go_wp2_with (first|(go_at_call 37;(with_reducible refine (lane_within.calls a2 3 false _ A12.out).mono ?_);rintro e w' ⟨rfl,⟨nd,rfl⟩⟩))
  go_ret
  exact ⟨by first|rfl|(simp;done)|(simp [*];done),by repeat (first|exact Drawn0.refl _|apply Drawn0.step)⟩

/-! ### lane_stand: function 43 -/
mutual
def lane_stand.l0 : Nat → List (S50) → Int → Int → Int → Int → List Int → List Int → List Int → List (S50) → Option (Int)
 | 0,_,_,_,_,_,_,_,_,_ => none
 | k + 1,x14,x15,x16,x255000,x255001,x255002,x255003,x255004,x255005 => if x16 < x15 then (if 0 ≤ x16 then (if x16 < (x14.length : Int) then (if ((rd_T50 x14 x16).f0) = (-1) then (lane_stand.l0 k x14 x15 (wrap64 (x16 + 1)) x255000 x255001 x255002 x255003 x255004 x255005) else ((lane_within.f ((rd_T50 x14 x16).f0) (wrap64 ((wrap64 (x255000 * x255001)) - 1))).bind fun t257 => (if t257 = true then (lane_stand.l0 k x14 x15 (wrap64 (x16 + 1)) x255000 x255001 x255002 x255003 x255004 x255005) else (some 2)))) else (none)) else (none)) else (lane_stand.l1 k x255005 (x255005.length : Int) 0 x255000 x255001 x255002 x255003 x255004 x255005)
def lane_stand.l1 : Nat → List (S50) → Int → Int → Int → Int → List Int → List Int → List Int → List (S50) → Option (Int)
 | 0,_,_,_,_,_,_,_,_,_ => none
 | k + 1,x39,x40,x41,x255000,x255001,x255002,x255003,x255004,x255005 => if x41 < x40 then (if 0 ≤ x41 then (if x41 < (x39.length : Int) then (if ((rd_T50 x39 x41).f0) = (-1) then (lane_stand.l1 k x39 x40 (wrap64 (x41 + 1)) x255000 x255001 x255002 x255003 x255004 x255005) else ((lane_joined.f x255000 x255001 x255002 x255003 ((rd_T50 x39 x41).f0) ((rd_T50 x39 x41).f2)).bind fun bt260 => (if bt260.2 = true then (lane_stand.l1 k x39 x40 (wrap64 (x41 + 1)) x255000 x255001 x255002 x255003 x255004 x255005) else (some 8)))) else (none)) else (none)) else (lane_stand.l2 k x255005 (x255005.length : Int) 0 ([] : List (Int × Int)))
def lane_stand.l2 : Nat → List (S50) → Int → Int → List (Int × Int) → Option (Int)
 | 0,_,_,_,_ => none
 | k + 1,x63,x64,x65,x263000 => if x65 < x64 then (if 0 ≤ x65 then (if x65 < (x63.length : Int) then (if ((rd_T50 x63 x65).f0) = (-1) then (lane_stand.l2 k x63 x64 (wrap64 (x65 + 1)) (mqPut ((rd_T50 x63 x65).f0,(rd_T50 x63 x65).f2) x263000)) else (if mqHas ((rd_T50 x63 x65).f0,(rd_T50 x63 x65).f2) x263000 = true then (some 7) else (lane_stand.l2 k x63 x64 (wrap64 (x65 + 1)) (mqPut ((rd_T50 x63 x65).f0,(rd_T50 x63 x65).f2) x263000)))) else (none)) else (none)) else (some 0)
end
def lane_stand.f (k : Nat) (a0_0 : Int) (a0_1 : Int) (l0_2 : List Int) (l0_3 : List Int) (l0_4 : List Int) (l0_5 : List (S50)) : Option (Int) := lane_stand.l0 k l0_5 (l0_5.length : Int) 0 a0_0 a0_1 l0_2 l0_3 l0_4 l0_5
theorem lane_stand.mono_l : ∀ k, (∀ y0 y1 y2 y3 y4 y5 y6 y7 y8, LeO (lane_stand.l0 k y0 y1 y2 y3 y4 y5 y6 y7 y8) (lane_stand.l0 (k + 1) y0 y1 y2 y3 y4 y5 y6 y7 y8)) ∧ (∀ y0 y1 y2 y3 y4 y5 y6 y7 y8, LeO (lane_stand.l1 k y0 y1 y2 y3 y4 y5 y6 y7 y8) (lane_stand.l1 (k + 1) y0 y1 y2 y3 y4 y5 y6 y7 y8)) ∧ (∀ y0 y1 y2 y3, LeO (lane_stand.l2 k y0 y1 y2 y3) (lane_stand.l2 (k + 1) y0 y1 y2 y3))
 | 0 => ⟨fun _ _ _ _ _ _ _ _ _ r h => by simp [lane_stand.l0] at h,fun _ _ _ _ _ _ _ _ _ r h => by simp [lane_stand.l1] at h,fun _ _ _ _ r h => by simp [lane_stand.l2] at h⟩
 | k + 1 => by
  obtain ⟨ih0,ih1,ih2⟩:=lane_stand.mono_l k
  refine ⟨?_,?_,?_⟩
  ·intro y0 y1 y2 y3 y4 y5 y6 y7 y8
   unfold lane_stand.l0
   repeat' first
   | (with_reducible exact ih0 _ _ _ _ _ _ _ _ _)
   | (with_reducible exact ih1 _ _ _ _ _ _ _ _ _)
   | (with_reducible exact ih2 _ _ _ _)
   | (with_reducible exact LeO.refl _)
   | (with_reducible exact LeO.none _)
   | (with_reducible refine LeO.ite ?_ ?_)
   | (with_reducible refine LeO.bind ?_ (fun _ => ?_))
   | exact ih0 _ _ _ _ _ _ _ _ _
   | exact ih1 _ _ _ _ _ _ _ _ _
   | exact ih2 _ _ _ _
   | exact LeO.none _
   | refine LeO.ite ?_ ?_
   | refine LeO.bind ?_ (fun _ => ?_)
  ·intro y0 y1 y2 y3 y4 y5 y6 y7 y8
   unfold lane_stand.l1
   repeat' first
   | (with_reducible exact ih0 _ _ _ _ _ _ _ _ _)
   | (with_reducible exact ih1 _ _ _ _ _ _ _ _ _)
   | (with_reducible exact ih2 _ _ _ _)
   | (with_reducible exact LeO.refl _)
   | (with_reducible exact LeO.none _)
   | (with_reducible refine LeO.ite ?_ ?_)
   | (with_reducible refine LeO.bind ?_ (fun _ => ?_))
   | exact ih0 _ _ _ _ _ _ _ _ _
   | exact ih1 _ _ _ _ _ _ _ _ _
   | exact ih2 _ _ _ _
   | exact LeO.none _
   | refine LeO.ite ?_ ?_
   | refine LeO.bind ?_ (fun _ => ?_)
  ·intro y0 y1 y2 y3
   unfold lane_stand.l2
   repeat' first
   | (with_reducible exact ih0 _ _ _ _ _ _ _ _ _)
   | (with_reducible exact ih1 _ _ _ _ _ _ _ _ _)
   | (with_reducible exact ih2 _ _ _ _)
   | (with_reducible exact LeO.refl _)
   | (with_reducible exact LeO.none _)
   | (with_reducible refine LeO.ite ?_ ?_)
   | (with_reducible refine LeO.bind ?_ (fun _ => ?_))
   | exact ih0 _ _ _ _ _ _ _ _ _
   | exact ih1 _ _ _ _ _ _ _ _ _
   | exact ih2 _ _ _ _
   | exact LeO.none _
   | refine LeO.ite ?_ ?_
   | refine LeO.bind ?_ (fun _ => ?_)
theorem lane_stand.mono : ∀ a0 a1 a2 a3 a4 a5 k, LeO (lane_stand.f k a0 a1 a2 a3 a4 a5) (lane_stand.f (k + 1) a0 a1 a2 a3 a4 a5) := by
 intro a0 a1 a2 a3 a4 a5 k
 obtain ⟨ih0,ih1,ih2⟩:=lane_stand.mono_l k
 unfold lane_stand.f
 repeat' first
   | (with_reducible exact ih0 _ _ _ _ _ _ _ _ _)
   | (with_reducible exact ih1 _ _ _ _ _ _ _ _ _)
   | (with_reducible exact ih2 _ _ _ _)
   | (with_reducible exact LeO.refl _)
   | (with_reducible exact LeO.none _)
   | (with_reducible refine LeO.ite ?_ ?_)
   | (with_reducible refine LeO.bind ?_ (fun _ => ?_))
   | exact ih0 _ _ _ _ _ _ _ _ _
   | exact ih1 _ _ _ _ _ _ _ _ _
   | exact ih2 _ _ _ _
   | exact LeO.none _
   | refine LeO.ite ?_ ?_
   | refine LeO.bind ?_ (fun _ => ?_)
set_option maxHeartbeats 8000000 in
set_option maxRecDepth 100000 in
theorem lane_stand.calls (k : Nat) (a0_0 : Int) (a0_1 : Int) (A0_2 : Option Addr) (c0_2 : Nat) (l0_2 : List Int) (A0_3 : Option Addr) (c0_3 : Nat) (l0_3 : List Int) (A0_4 : Option Addr) (c0_4 : Nat) (l0_4 : List Int) (A0_5 : Option Addr) (c0_5 : Nat) (l0_5 : List (S50)) (r : Int) (w : World) (hr0_2 : Kd.C (Kd.int .i64) w A0_2 l0_2.length l0_2) (hc0_2 : l0_2.length ≤ c0_2) (hr0_3 : Kd.C (Kd.int .i64) w A0_3 l0_3.length l0_3) (hc0_3 : l0_3.length ≤ c0_3) (hr0_4 : Kd.C (Kd.int .i64) w A0_4 l0_4.length l0_4) (hc0_4 : l0_4.length ≤ c0_4) (hr0_5 : Kd.C k50 w A0_5 l0_5.length l0_5) (hc0_5 : l0_5.length ≤ c0_5) (h : lane_stand.f k a0_0 a0_1 l0_2 l0_3 l0_4 l0_5 = some r) :
  Calls Try.prog 43 #[.agg #[.int .i64 a0_0,.int .i64 a0_1,.slice A0_2 l0_2.length c0_2,.slice A0_3 l0_3.length c0_3,.slice A0_4 l0_4.length c0_4,.slice A0_5 l0_5.length c0_5]] w fun e w' => e = .returned (.int .i64 r) ∧ Below w.heap.size w w':=by
 have hu33:=Try.underlying33
 have hu50:=Try.underlying50
 have hu24:=Try.underlying24
 have hu73:=Try.underlying73
 have HR0_2:=Aside0.mk hr0_2
 have HC0_2:=Aside0.mk hc0_2
 clear hr0_2 hc0_2
 have HR0_3:=Aside0.mk hr0_3
 have HC0_3:=Aside0.mk hc0_3
 clear hr0_3 hc0_3
 have HR0_4:=Aside0.mk hr0_4
 have HC0_4:=Aside0.mk hc0_4
 clear hr0_4 hc0_4
 have HR0_5:=Aside0.mk hr0_5
 have HC0_5:=Aside0.mk hc0_5
 clear hr0_5 hc0_5
 have HB:=Aside0.mk (Below.refl w.heap.size w)
 have H : (lane_stand.l0 k l0_5 (l0_5.length : Int) 0 a0_0 a0_1 l0_2 l0_3 l0_4 l0_5) = some r:=h
 clear h
 have H':=Aside0.mk H
 clear H
 go_enter Try.func43,Try.ntmps43
 go_wp2_with (first|((with_reducible refine gate_dst (N:=1) rfl ?_);refine box_ev (N:=1) (cs:=#[.int .i64 a0_0,.int .i64 a0_1,.slice A0_2 l0_2.length c0_2,.slice A0_3 l0_3.length c0_3,.slice A0_4 l0_4.length c0_4,.slice A0_5 l0_5.length c0_5]) (t:=33) ?_;intro gb254 hg w2 hbox hb;have BK254:=Aside0.mk (hbox);have GW254 : Aside0 (w.heap.size ≤ gb254):=gsz hg;have GE254:=GW254;replace HB:=hbs hb;clear hb hbox hg;obtain ⟨_,_,_,_,_,_,_,_,_,_,_,_⟩:=cells6 BK254.out))
 go_loopg [16] k (fun kq v16 w' => ∃ (x16_1 : Int),v16 = .int .i64 x16_1 ∧ Aside0 (lane_stand.l0 kq l0_5 (l0_5.length : Int) x16_1 a0_0 a0_1 l0_2 l0_3 l0_4 l0_5 = some r) ∧ Aside0 (kq ≤ k) ∧ Aside0 (w'.heap[gb254]? = some (.cells #[.int .i64 a0_0,.int .i64 a0_1,(.slice A0_2 l0_2.length c0_2),(.slice A0_3 l0_3.length c0_3),(.slice A0_4 l0_4.length c0_4),(.slice A0_5 l0_5.length c0_5)] 33 (0,0))) ∧ Aside0 (Below w.heap.size w w'))
 case atStart => exact ⟨(0),(by first|rfl|(simp;done)|(simp [*];done)),H',⟨Nat.le_refl _⟩,⟨blk_up BK254.out⟩,⟨hb_⟩⟩
 case round =>
  clear H'
  obtain ⟨x16_1,rfl,HA,HK1,BK254,HB⟩:=hrel
  cases gk with
  | zero => exact absurd HA.out (by simp [lane_stand.l0])
  | succ k1 =>
   have H:=HA.out
   clear HA
   simp only [lane_stand.l0] at H
   by_cases c4 : x16_1 < (l0_5.length : Int)
   ·rw [if_pos c4] at H
    have c4b0 : decide (x16_1 < (l0_5.length : Int)) = true:=decide_eq_true c4
    clear c4
    replace H:=ifp_ H;obtain ⟨c5,H⟩:=H
    have c5b0 : decide (0 ≤ x16_1) = true:=decide_eq_true c5
    clear c5
    replace H:=ifp_ H;obtain ⟨c6,H⟩:=H
    have c6b0 : decide (x16_1 < (l0_5.length : Int)) = true:=decide_eq_true c6
    clear c6
    by_cases c7 : ((rd_T50 l0_5 x16_1).f0) = (-1)
    ·rw [if_pos c7] at H
     have c7b0:=bqt c7
     have c7b1:=bnf c7
     clear c7
     have H':=Aside0.mk H
     clear H
     have p255 : 0 ≤ (x16_1 : Int):=of_decide_eq_true (by first|(with_reducible assumption)|assumption)
     have q255 : x16_1 < (l0_5.length : Int):=of_decide_eq_true (by first|(with_reducible assumption)|assumption)
     obtain ⟨ad255,e255,hx255_0,hx255_1,hx255_2,hx255_3,hx255_4⟩:=at_T50 HR0_5.out x16_1 p255 q255
     cases e255
     replace hx255_0:=(HB.out.cell (World.block_lt_of_cell? w _ hx255_0)).trans hx255_0
     replace hx255_1:=(HB.out.cell (World.block_lt_of_cell? w _ hx255_1)).trans hx255_1
     replace hx255_2:=(HB.out.cell (World.block_lt_of_cell? w _ hx255_2)).trans hx255_2
     replace hx255_3:=(HB.out.cell (World.block_lt_of_cell? w _ hx255_3)).trans hx255_3
     replace hx255_4:=(HB.out.cell (World.block_lt_of_cell? w _ hx255_4)).trans hx255_4
     replace p255:=eq_true p255
     replace q255:=eq_true q255
     go_wp2_with (first|((with_reducible refine gate_dst (N:=4) rfl ?_);refine box_ev (N:=4) (cs:=#[.int .i64 0,.int .i64 0,.int .i64 0,.int .i64 0,.int .i64 0]) (t:=50) ?_;intro gb256 hg w8 hbox hb;have BK256:=Aside0.mk (hbox);have GW256 : Aside0 (w.heap.size ≤ gb256):=gsz hg;have GE256:=GW256;have NB254_256:=nbl BK254 hg;have NB256_254:=nbr BK254 hg;replace BK254:=bkb BK254 hb;replace HB:=hbs hb;clear hb hbox hg;have hnb9:=NB256_254.out;have hnc9:=NB254_256.out;obtain ⟨_,_,_,_,_,_,_,_,_,_⟩:=cells5 BK256.out))
     go_roundg k1
     case measure => have:=HK1.out;omega
     case rel => exact ⟨(wrap64 (x16_1 + 1)),(by first|rfl|(simp;done)|(simp [*];done)),H',⟨by have:=HK1.out;omega⟩,⟨by (with_reducible repeat (first|refine blk_drewN ?_ _|refine blk_drew ?_|refine blk_alloc ?_ _));refine blk_far ?_ NB254_256.out _;(with_reducible repeat (first|refine blk_drewN ?_ _|refine blk_drew ?_|refine blk_alloc ?_ _));refine blk_far ?_ NB254_256.out _;(with_reducible repeat (first|refine blk_drewN ?_ _|refine blk_drew ?_|refine blk_alloc ?_ _));refine blk_far ?_ NB254_256.out _;(with_reducible repeat (first|refine blk_drewN ?_ _|refine blk_drew ?_|refine blk_alloc ?_ _));refine blk_far ?_ NB254_256.out _;(with_reducible repeat (first|refine blk_drewN ?_ _|refine blk_drew ?_|refine blk_alloc ?_ _));refine blk_far ?_ NB254_256.out _;(with_reducible repeat (first|refine blk_drewN ?_ _|refine blk_drew ?_|refine blk_alloc ?_ _));exact BK254.out⟩,⟨hb_⟩⟩
    rw [if_neg c7] at H
    have c7b0:=bqf c7
    have c7b1:=bnt c7
    replace H:=Option.bind_eq_some_iff.mp H
    obtain ⟨t257,A110,H⟩:=H
    replace H : (if t257 = true then (lane_stand.l0 k1 l0_5 (l0_5.length : Int) (wrap64 (x16_1 + 1)) a0_0 a0_1 l0_2 l0_3 l0_4 l0_5) else (some 2)) = some r:=H
    have A11:=Aside0.mk A110
    clear A110
    by_cases c12 : t257 = true
    ·subst c12
     have H1 : (lane_stand.l0 k1 l0_5 (l0_5.length : Int) (wrap64 (x16_1 + 1)) a0_0 a0_1 l0_2 l0_3 l0_4 l0_5) = some r:=by rw [if_pos rfl] at H;exact H
     clear H
     have H:=H1
     clear H1
     have H':=Aside0.mk H
     clear H
     have p255 : 0 ≤ (x16_1 : Int):=of_decide_eq_true (by first|(with_reducible assumption)|assumption)
     have q255 : x16_1 < (l0_5.length : Int):=of_decide_eq_true (by first|(with_reducible assumption)|assumption)
     obtain ⟨ad255,e255,hx255_0,hx255_1,hx255_2,hx255_3,hx255_4⟩:=at_T50 HR0_5.out x16_1 p255 q255
     cases e255
     replace hx255_0:=(HB.out.cell (World.block_lt_of_cell? w _ hx255_0)).trans hx255_0
     replace hx255_1:=(HB.out.cell (World.block_lt_of_cell? w _ hx255_1)).trans hx255_1
     replace hx255_2:=(HB.out.cell (World.block_lt_of_cell? w _ hx255_2)).trans hx255_2
     replace hx255_3:=(HB.out.cell (World.block_lt_of_cell? w _ hx255_3)).trans hx255_3
     replace hx255_4:=(HB.out.cell (World.block_lt_of_cell? w _ hx255_4)).trans hx255_4
     replace p255:=eq_true p255
     replace q255:=eq_true q255
     go_wp2_with (first|((with_reducible refine gate_dst (N:=4) rfl ?_);refine box_ev (N:=4) (cs:=#[.int .i64 0,.int .i64 0,.int .i64 0,.int .i64 0,.int .i64 0]) (t:=50) ?_;intro gb256 hg w13 hbox hb;have BK256:=Aside0.mk (hbox);have GW256 : Aside0 (w.heap.size ≤ gb256):=gsz hg;have GE256:=GW256;have NB254_256:=nbl BK254 hg;have NB256_254:=nbr BK254 hg;replace BK254:=bkb BK254 hb;replace HB:=hbs hb;clear hb hbox hg;have hnb14:=NB256_254.out;have hnc14:=NB254_256.out;obtain ⟨_,_,_,_,_,_,_,_,_,_⟩:=cells5 BK256.out;obtain ⟨_,_,_,_,_,_,_,_,_,_,_,_⟩:=cells6 BK254.out)|(go_at_call 37;(with_reducible refine (lane_within.calls ((rd_T50 l0_5 x16_1).f0) (wrap64 ((wrap64 (a0_0 * a0_1)) - 1)) true _ A11.out).mono ?_);rintro e w' ⟨rfl,⟨nd,rfl⟩⟩))
     go_roundg k1
     case measure => have:=HK1.out;omega
     case rel => exact ⟨(wrap64 (x16_1 + 1)),(by first|rfl|(simp;done)|(simp [*];done)),H',⟨by have:=HK1.out;omega⟩,⟨by (with_reducible repeat (first|refine blk_drewN ?_ _|refine blk_drew ?_|refine blk_alloc ?_ _));refine blk_far ?_ NB254_256.out _;(with_reducible repeat (first|refine blk_drewN ?_ _|refine blk_drew ?_|refine blk_alloc ?_ _));refine blk_far ?_ NB254_256.out _;(with_reducible repeat (first|refine blk_drewN ?_ _|refine blk_drew ?_|refine blk_alloc ?_ _));refine blk_far ?_ NB254_256.out _;(with_reducible repeat (first|refine blk_drewN ?_ _|refine blk_drew ?_|refine blk_alloc ?_ _));refine blk_far ?_ NB254_256.out _;(with_reducible repeat (first|refine blk_drewN ?_ _|refine blk_drew ?_|refine blk_alloc ?_ _));refine blk_far ?_ NB254_256.out _;(with_reducible repeat (first|refine blk_drewN ?_ _|refine blk_drew ?_|refine blk_alloc ?_ _));exact BK254.out⟩,⟨hb_⟩⟩
    ·replace c12:=Bool.eq_false_iff.mpr c12
     subst c12
     have H1 : (some 2) = some r:=by rw [if_neg (show ¬ (false = true) by decide)] at H;exact H
     clear H
     have H:=H1
     clear H1
     obtain rfl:=Option.some.inj H
     have p255 : 0 ≤ (x16_1 : Int):=of_decide_eq_true (by first|(with_reducible assumption)|assumption)
     have q255 : x16_1 < (l0_5.length : Int):=of_decide_eq_true (by first|(with_reducible assumption)|assumption)
     obtain ⟨ad255,e255,hx255_0,hx255_1,hx255_2,hx255_3,hx255_4⟩:=at_T50 HR0_5.out x16_1 p255 q255
     cases e255
     replace hx255_0:=(HB.out.cell (World.block_lt_of_cell? w _ hx255_0)).trans hx255_0
     replace hx255_1:=(HB.out.cell (World.block_lt_of_cell? w _ hx255_1)).trans hx255_1
     replace hx255_2:=(HB.out.cell (World.block_lt_of_cell? w _ hx255_2)).trans hx255_2
     replace hx255_3:=(HB.out.cell (World.block_lt_of_cell? w _ hx255_3)).trans hx255_3
     replace hx255_4:=(HB.out.cell (World.block_lt_of_cell? w _ hx255_4)).trans hx255_4
     replace p255:=eq_true p255
     replace q255:=eq_true q255
     go_wp2_with (first|((with_reducible refine gate_dst (N:=4) rfl ?_);refine box_ev (N:=4) (cs:=#[.int .i64 0,.int .i64 0,.int .i64 0,.int .i64 0,.int .i64 0]) (t:=50) ?_;intro gb256 hg w17 hbox hb;have BK256:=Aside0.mk (hbox);have GW256 : Aside0 (w.heap.size ≤ gb256):=gsz hg;have GE256:=GW256;have NB254_256:=nbl BK254 hg;have NB256_254:=nbr BK254 hg;replace BK254:=bkb BK254 hb;replace HB:=hbs hb;clear hb hbox hg;have hnb18:=NB256_254.out;have hnc18:=NB254_256.out;obtain ⟨_,_,_,_,_,_,_,_,_,_⟩:=cells5 BK256.out;obtain ⟨_,_,_,_,_,_,_,_,_,_,_,_⟩:=cells6 BK254.out)|(go_at_call 37;(with_reducible refine (lane_within.calls ((rd_T50 l0_5 x16_1).f0) (wrap64 ((wrap64 (a0_0 * a0_1)) - 1)) false _ A11.out).mono ?_);rintro e w' ⟨rfl,⟨nd,rfl⟩⟩))
     go_ret
     exact ⟨er_,hb_⟩
   rw [if_neg c4] at H
   have c4b0 : decide (x16_1 < (l0_5.length : Int)) = false:=decide_eq_false c4
   clear c4
   have H':=Aside0.mk H
   clear H
   obtain ⟨_,_,_,_,_,_,_,_,_,_,_,_⟩:=cells6 BK254.out
   go_wp2
   go_loopg [41] k1 (fun kq v41 w' => ∃ (x41_2 : Int),v41 = .int .i64 x41_2 ∧ Aside0 (lane_stand.l1 kq l0_5 (l0_5.length : Int) x41_2 a0_0 a0_1 l0_2 l0_3 l0_4 l0_5 = some r) ∧ Aside0 (kq ≤ k1) ∧ Aside0 (w'.heap[gb254]? = some (.cells #[.int .i64 a0_0,.int .i64 a0_1,(.slice A0_2 l0_2.length c0_2),(.slice A0_3 l0_3.length c0_3),(.slice A0_4 l0_4.length c0_4),(.slice A0_5 l0_5.length c0_5)] 33 (0,0))) ∧ Aside0 (Below w.heap.size w w'))
   case atStart => exact ⟨(0),(by first|rfl|(simp;done)|(simp [*];done)),H',⟨Nat.le_refl _⟩,⟨blk_up BK254.out⟩,⟨hb_⟩⟩
   case round =>
    clear H'
    obtain ⟨x41_2,rfl,HA,HK2,BK254,HB⟩:=hrel
    cases gk with
    | zero => exact absurd HA.out (by simp [lane_stand.l1])
    | succ k2 =>
     have H:=HA.out
     clear HA
     simp only [lane_stand.l1] at H
     by_cases c22 : x41_2 < (l0_5.length : Int)
     ·rw [if_pos c22] at H
      have c22b0 : decide (x41_2 < (l0_5.length : Int)) = true:=decide_eq_true c22
      clear c22
      replace H:=ifp_ H;obtain ⟨c23,H⟩:=H
      have c23b0 : decide (0 ≤ x41_2) = true:=decide_eq_true c23
      clear c23
      replace H:=ifp_ H;obtain ⟨c24,H⟩:=H
      have c24b0 : decide (x41_2 < (l0_5.length : Int)) = true:=decide_eq_true c24
      clear c24
      by_cases c25 : ((rd_T50 l0_5 x41_2).f0) = (-1)
      ·rw [if_pos c25] at H
       have c25b0:=bqt c25
       have c25b1:=bnf c25
       clear c25
       have H':=Aside0.mk H
       clear H
       have p258 : 0 ≤ (x41_2 : Int):=of_decide_eq_true (by first|(with_reducible assumption)|assumption)
       have q258 : x41_2 < (l0_5.length : Int):=of_decide_eq_true (by first|(with_reducible assumption)|assumption)
       obtain ⟨ad258,e258,hx258_0,hx258_1,hx258_2,hx258_3,hx258_4⟩:=at_T50 HR0_5.out x41_2 p258 q258
       cases e258
       replace hx258_0:=(HB.out.cell (World.block_lt_of_cell? w _ hx258_0)).trans hx258_0
       replace hx258_1:=(HB.out.cell (World.block_lt_of_cell? w _ hx258_1)).trans hx258_1
       replace hx258_2:=(HB.out.cell (World.block_lt_of_cell? w _ hx258_2)).trans hx258_2
       replace hx258_3:=(HB.out.cell (World.block_lt_of_cell? w _ hx258_3)).trans hx258_3
       replace hx258_4:=(HB.out.cell (World.block_lt_of_cell? w _ hx258_4)).trans hx258_4
       replace p258:=eq_true p258
       replace q258:=eq_true q258
       go_wp2_with (first|((with_reducible refine gate_dst (N:=6) rfl ?_);refine box_ev (N:=6) (cs:=#[.int .i64 0,.int .i64 0,.int .i64 0,.int .i64 0,.int .i64 0]) (t:=50) ?_;intro gb259 hg w26 hbox hb;have BK259:=Aside0.mk (hbox);have GW259 : Aside0 (w.heap.size ≤ gb259):=gsz hg;have GE259:=GW259;have NB254_259:=nbl BK254 hg;have NB259_254:=nbr BK254 hg;replace BK254:=bkb BK254 hb;replace HB:=hbs hb;clear hb hbox hg;have hnb27:=NB259_254.out;have hnc27:=NB254_259.out;obtain ⟨_,_,_,_,_,_,_,_,_,_⟩:=cells5 BK259.out))
       go_roundg k2
       case measure => have:=HK1.out;have:=HK2.out;omega
       case rel => exact ⟨(wrap64 (x41_2 + 1)),(by first|rfl|(simp;done)|(simp [*];done)),H',⟨by have:=HK1.out;have:=HK2.out;omega⟩,⟨by (with_reducible repeat (first|refine blk_drewN ?_ _|refine blk_drew ?_|refine blk_alloc ?_ _));refine blk_far ?_ NB254_259.out _;(with_reducible repeat (first|refine blk_drewN ?_ _|refine blk_drew ?_|refine blk_alloc ?_ _));refine blk_far ?_ NB254_259.out _;(with_reducible repeat (first|refine blk_drewN ?_ _|refine blk_drew ?_|refine blk_alloc ?_ _));refine blk_far ?_ NB254_259.out _;(with_reducible repeat (first|refine blk_drewN ?_ _|refine blk_drew ?_|refine blk_alloc ?_ _));refine blk_far ?_ NB254_259.out _;(with_reducible repeat (first|refine blk_drewN ?_ _|refine blk_drew ?_|refine blk_alloc ?_ _));refine blk_far ?_ NB254_259.out _;(with_reducible repeat (first|refine blk_drewN ?_ _|refine blk_drew ?_|refine blk_alloc ?_ _));exact BK254.out⟩,⟨hb_⟩⟩
      rw [if_neg c25] at H
      have c25b0:=bqf c25
      have c25b1:=bnt c25
      replace H:=Option.bind_eq_some_iff.mp H
      obtain ⟨⟨t260,t261⟩,A290,H⟩:=H
      replace H : (if t261 = true then (lane_stand.l1 k2 l0_5 (l0_5.length : Int) (wrap64 (x41_2 + 1)) a0_0 a0_1 l0_2 l0_3 l0_4 l0_5) else (some 8)) = some r:=H
      have A29:=Aside0.mk A290
      clear A290
      by_cases c30 : t261 = true
      ·subst c30
       have H1 : (lane_stand.l1 k2 l0_5 (l0_5.length : Int) (wrap64 (x41_2 + 1)) a0_0 a0_1 l0_2 l0_3 l0_4 l0_5) = some r:=by rw [if_pos rfl] at H;exact H
       clear H
       have H:=H1
       clear H1
       have H':=Aside0.mk H
       clear H
       have p258 : 0 ≤ (x41_2 : Int):=of_decide_eq_true (by first|(with_reducible assumption)|assumption)
       have q258 : x41_2 < (l0_5.length : Int):=of_decide_eq_true (by first|(with_reducible assumption)|assumption)
       obtain ⟨ad258,e258,hx258_0,hx258_1,hx258_2,hx258_3,hx258_4⟩:=at_T50 HR0_5.out x41_2 p258 q258
       cases e258
       replace hx258_0:=(HB.out.cell (World.block_lt_of_cell? w _ hx258_0)).trans hx258_0
       replace hx258_1:=(HB.out.cell (World.block_lt_of_cell? w _ hx258_1)).trans hx258_1
       replace hx258_2:=(HB.out.cell (World.block_lt_of_cell? w _ hx258_2)).trans hx258_2
       replace hx258_3:=(HB.out.cell (World.block_lt_of_cell? w _ hx258_3)).trans hx258_3
       replace hx258_4:=(HB.out.cell (World.block_lt_of_cell? w _ hx258_4)).trans hx258_4
       replace p258:=eq_true p258
       replace q258:=eq_true q258
       go_wp2_with (first|((with_reducible refine gate_dst (N:=6) rfl ?_);refine box_ev (N:=6) (cs:=#[.int .i64 0,.int .i64 0,.int .i64 0,.int .i64 0,.int .i64 0]) (t:=50) ?_;intro gb259 hg w31 hbox hb;have BK259:=Aside0.mk (hbox);have GW259 : Aside0 (w.heap.size ≤ gb259):=gsz hg;have GE259:=GW259;have NB254_259:=nbl BK254 hg;have NB259_254:=nbr BK254 hg;replace BK254:=bkb BK254 hb;replace HB:=hbs hb;clear hb hbox hg;have hnb32:=NB259_254.out;have hnc32:=NB254_259.out;obtain ⟨_,_,_,_,_,_,_,_,_,_⟩:=cells5 BK259.out;obtain ⟨_,_,_,_,_,_,_,_,_,_,_,_⟩:=cells6 BK254.out)|((with_reducible refine gate_callee (f:=68) rfl ?_);refine goesL_ (some 55) rfl rfl Try.func68 (by kernel_rfl) rfl #[.agg #[.int .i64 a0_0,.int .i64 a0_1,.slice A0_2 l0_2.length c0_2,.slice A0_3 l0_3.length c0_3],.int .i64 ((rd_T50 l0_5 x41_2).f0),.int .i64 ((rd_T50 l0_5 x41_2).f2)] rfl ga_ ?_;(with_reducible refine (lane_joined.calls a0_0 a0_1 _ _ l0_2 _ _ l0_3 ((rd_T50 l0_5 x41_2).f0) ((rd_T50 l0_5 x41_2).f2) t260 true _ ?_ ?_ ?_ ?_ A29.out).mono ?_);exact Kd.C_below HR0_2.out (hb_);exact HC0_2.out;exact Kd.C_below HR0_3.out (hb_);exact HC0_3.out;rintro e w35 ⟨rfl,hb⟩;refine ⟨_,rfl,?_⟩;replace BK254:=Aside0.mk (blk_below (g:=gb254) (o:=.cells #[.int .i64 a0_0,.int .i64 a0_1,.slice A0_2 l0_2.length c0_2,.slice A0_3 l0_3.length c0_3,.slice A0_4 l0_4.length c0_4,.slice (some ad258) l0_5.length c0_5] 33 (0,0)) (by (with_reducible repeat (first|refine blk_drewN ?_ _|refine blk_drew ?_|refine blk_alloc ?_ _));refine blk_far ?_ NB254_259.out _;(with_reducible repeat (first|refine blk_drewN ?_ _|refine blk_drew ?_|refine blk_alloc ?_ _));refine blk_far ?_ NB254_259.out _;(with_reducible repeat (first|refine blk_drewN ?_ _|refine blk_drew ?_|refine blk_alloc ?_ _));refine blk_far ?_ NB254_259.out _;(with_reducible repeat (first|refine blk_drewN ?_ _|refine blk_drew ?_|refine blk_alloc ?_ _));refine blk_far ?_ NB254_259.out _;(with_reducible repeat (first|refine blk_drewN ?_ _|refine blk_drew ?_|refine blk_alloc ?_ _));refine blk_far ?_ NB254_259.out _;(with_reducible repeat (first|refine blk_drewN ?_ _|refine blk_drew ?_|refine blk_alloc ?_ _));exact BK254.out) hb);replace BK259:=Aside0.mk (blk_below (g:=gb259) (o:=.cells #[.int .i64 ((rd_T50 l0_5 x41_2).f0),.int .i64 ((rd_T50 l0_5 x41_2).f1),.int .i64 ((rd_T50 l0_5 x41_2).f2),.int .i64 ((rd_T50 l0_5 x41_2).f3),.int .i64 ((rd_T50 l0_5 x41_2).f4)] 50 (0,0)) (by (with_reducible repeat (first|refine blk_drewN ?_ _|refine blk_drew ?_|refine blk_alloc ?_ _));exact blk_puts5 (blk_up BK259.out)) hb);replace HB:=hbs hb))
       go_roundg k2
       case measure => have:=HK1.out;have:=HK2.out;omega
       case rel => exact ⟨(wrap64 (x41_2 + 1)),(by first|rfl|(simp;done)|(simp [*];done)),H',⟨by have:=HK1.out;have:=HK2.out;omega⟩,⟨blk_up BK254.out⟩,⟨hb_⟩⟩
      ·replace c30:=Bool.eq_false_iff.mpr c30
       subst c30
       have H1 : (some 8) = some r:=by rw [if_neg (show ¬ (false = true) by decide)] at H;exact H
       clear H
       have H:=H1
       clear H1
       obtain rfl:=Option.some.inj H
       have p258 : 0 ≤ (x41_2 : Int):=of_decide_eq_true (by first|(with_reducible assumption)|assumption)
       have q258 : x41_2 < (l0_5.length : Int):=of_decide_eq_true (by first|(with_reducible assumption)|assumption)
       obtain ⟨ad258,e258,hx258_0,hx258_1,hx258_2,hx258_3,hx258_4⟩:=at_T50 HR0_5.out x41_2 p258 q258
       cases e258
       replace hx258_0:=(HB.out.cell (World.block_lt_of_cell? w _ hx258_0)).trans hx258_0
       replace hx258_1:=(HB.out.cell (World.block_lt_of_cell? w _ hx258_1)).trans hx258_1
       replace hx258_2:=(HB.out.cell (World.block_lt_of_cell? w _ hx258_2)).trans hx258_2
       replace hx258_3:=(HB.out.cell (World.block_lt_of_cell? w _ hx258_3)).trans hx258_3
       replace hx258_4:=(HB.out.cell (World.block_lt_of_cell? w _ hx258_4)).trans hx258_4
       replace p258:=eq_true p258
       replace q258:=eq_true q258
       go_wp2_with (first|((with_reducible refine gate_dst (N:=6) rfl ?_);refine box_ev (N:=6) (cs:=#[.int .i64 0,.int .i64 0,.int .i64 0,.int .i64 0,.int .i64 0]) (t:=50) ?_;intro gb259 hg w36 hbox hb;have BK259:=Aside0.mk (hbox);have GW259 : Aside0 (w.heap.size ≤ gb259):=gsz hg;have GE259:=GW259;have NB254_259:=nbl BK254 hg;have NB259_254:=nbr BK254 hg;replace BK254:=bkb BK254 hb;replace HB:=hbs hb;clear hb hbox hg;have hnb37:=NB259_254.out;have hnc37:=NB254_259.out;obtain ⟨_,_,_,_,_,_,_,_,_,_⟩:=cells5 BK259.out;obtain ⟨_,_,_,_,_,_,_,_,_,_,_,_⟩:=cells6 BK254.out)|((with_reducible refine gate_callee (f:=68) rfl ?_);refine goesL_ (some 55) rfl rfl Try.func68 (by kernel_rfl) rfl #[.agg #[.int .i64 a0_0,.int .i64 a0_1,.slice A0_2 l0_2.length c0_2,.slice A0_3 l0_3.length c0_3],.int .i64 ((rd_T50 l0_5 x41_2).f0),.int .i64 ((rd_T50 l0_5 x41_2).f2)] rfl ga_ ?_;(with_reducible refine (lane_joined.calls a0_0 a0_1 _ _ l0_2 _ _ l0_3 ((rd_T50 l0_5 x41_2).f0) ((rd_T50 l0_5 x41_2).f2) t260 false _ ?_ ?_ ?_ ?_ A29.out).mono ?_);exact Kd.C_below HR0_2.out (hb_);exact HC0_2.out;exact Kd.C_below HR0_3.out (hb_);exact HC0_3.out;rintro e w40 ⟨rfl,hb⟩;refine ⟨_,rfl,?_⟩;replace BK254:=Aside0.mk (blk_below (g:=gb254) (o:=.cells #[.int .i64 a0_0,.int .i64 a0_1,.slice A0_2 l0_2.length c0_2,.slice A0_3 l0_3.length c0_3,.slice A0_4 l0_4.length c0_4,.slice (some ad258) l0_5.length c0_5] 33 (0,0)) (by (with_reducible repeat (first|refine blk_drewN ?_ _|refine blk_drew ?_|refine blk_alloc ?_ _));refine blk_far ?_ NB254_259.out _;(with_reducible repeat (first|refine blk_drewN ?_ _|refine blk_drew ?_|refine blk_alloc ?_ _));refine blk_far ?_ NB254_259.out _;(with_reducible repeat (first|refine blk_drewN ?_ _|refine blk_drew ?_|refine blk_alloc ?_ _));refine blk_far ?_ NB254_259.out _;(with_reducible repeat (first|refine blk_drewN ?_ _|refine blk_drew ?_|refine blk_alloc ?_ _));refine blk_far ?_ NB254_259.out _;(with_reducible repeat (first|refine blk_drewN ?_ _|refine blk_drew ?_|refine blk_alloc ?_ _));refine blk_far ?_ NB254_259.out _;(with_reducible repeat (first|refine blk_drewN ?_ _|refine blk_drew ?_|refine blk_alloc ?_ _));exact BK254.out) hb);replace BK259:=Aside0.mk (blk_below (g:=gb259) (o:=.cells #[.int .i64 ((rd_T50 l0_5 x41_2).f0),.int .i64 ((rd_T50 l0_5 x41_2).f1),.int .i64 ((rd_T50 l0_5 x41_2).f2),.int .i64 ((rd_T50 l0_5 x41_2).f3),.int .i64 ((rd_T50 l0_5 x41_2).f4)] 50 (0,0)) (by (with_reducible repeat (first|refine blk_drewN ?_ _|refine blk_drew ?_|refine blk_alloc ?_ _));exact blk_puts5 (blk_up BK259.out)) hb);replace HB:=hbs hb))
       go_ret
       exact ⟨er_,hb_⟩
     rw [if_neg c22] at H
     have c22b0 : decide (x41_2 < (l0_5.length : Int)) = false:=decide_eq_false c22
     clear c22
     have H':=Aside0.mk H
     clear H
     go_wp2_with (first|((with_reducible refine gate_dst (N:=61) rfl ?_);refine mq_make rfl (t:=91) rfl ?_;intro gb262 hg w41 hbox hb;have BK262:=Aside0.mk (hbox);have GW262 : Aside0 (w.heap.size ≤ gb262):=gsz hg;have GE262:=GW262;have NB254_262:=nbl BK254 hg;have NB262_254:=nbr BK254 hg;replace BK254:=bkb BK254 hb;replace HB:=hbs hb;clear hb hbox hg;have hnb42:=NB254_262.out;have hnc42:=NB262_254.out;obtain ⟨_,_,_,_,_,_,_,_,_,_,_,_⟩:=cells6 BK254.out))
     go_loopg [65] k2 (fun kq v65 w' => ∃ (x65_3 : Int) (x263000_3 : List (Int × Int)),v65 = .int .i64 x65_3 ∧ Aside0 (lane_stand.l2 kq l0_5 (l0_5.length : Int) x65_3 x263000_3 = some r) ∧ Aside0 (kq ≤ k2) ∧ Aside0 (w'.heap[gb254]? = some (.cells #[.int .i64 a0_0,.int .i64 a0_1,(.slice A0_2 l0_2.length c0_2),(.slice A0_3 l0_3.length c0_3),(.slice A0_4 l0_4.length c0_4),(.slice A0_5 l0_5.length c0_5)] 33 (0,0))) ∧ Aside0 (w'.heap[gb262]? = some (mqO x263000_3)) ∧ Aside0 (Below w.heap.size w w'))
     case atStart => exact ⟨(0),(([] : List (Int × Int))),(by first|rfl|(simp;done)|(simp [*];done)),H',⟨Nat.le_refl _⟩,⟨blk_up BK254.out⟩,⟨blk_up BK262.out⟩,⟨hb_⟩⟩
     case round =>
      clear H'
      obtain ⟨x65_3,x263000_3,rfl,HA,HK3,BK254,BK262,HB⟩:=hrel
      cases gk with
      | zero => exact absurd HA.out (by simp [lane_stand.l2])
      | succ k3 =>
       have H:=HA.out
       clear HA
       simp only [lane_stand.l2] at H
       by_cases c44 : x65_3 < (l0_5.length : Int)
       rotate_left
       ·rw [if_neg c44] at H
        have c44b0 : decide (x65_3 < (l0_5.length : Int)) = false:=decide_eq_false c44
        clear c44
        obtain rfl:=Option.some.inj H
        go_wp2
        go_ret
        exact ⟨er_,hb_⟩
       rw [if_pos c44] at H
       have c44b0 : decide (x65_3 < (l0_5.length : Int)) = true:=decide_eq_true c44
       clear c44
       replace H:=ifp_ H;obtain ⟨c45,H⟩:=H
       have c45b0 : decide (0 ≤ x65_3) = true:=decide_eq_true c45
       clear c45
       replace H:=ifp_ H;obtain ⟨c46,H⟩:=H
       have c46b0 : decide (x65_3 < (l0_5.length : Int)) = true:=decide_eq_true c46
       clear c46
       by_cases c47 : ((rd_T50 l0_5 x65_3).f0) = (-1)
       ·rw [if_pos c47] at H
        have c47b0:=bqt c47
        have c47b1:=bnf c47
        clear c47
        have H':=Aside0.mk H
        clear H
        have p263 : 0 ≤ (x65_3 : Int):=of_decide_eq_true (by first|(with_reducible assumption)|assumption)
        have q263 : x65_3 < (l0_5.length : Int):=of_decide_eq_true (by first|(with_reducible assumption)|assumption)
        obtain ⟨ad263,e263,hx263_0,hx263_1,hx263_2,hx263_3,hx263_4⟩:=at_T50 HR0_5.out x65_3 p263 q263
        cases e263
        replace hx263_0:=(HB.out.cell (World.block_lt_of_cell? w _ hx263_0)).trans hx263_0
        replace hx263_1:=(HB.out.cell (World.block_lt_of_cell? w _ hx263_1)).trans hx263_1
        replace hx263_2:=(HB.out.cell (World.block_lt_of_cell? w _ hx263_2)).trans hx263_2
        replace hx263_3:=(HB.out.cell (World.block_lt_of_cell? w _ hx263_3)).trans hx263_3
        replace hx263_4:=(HB.out.cell (World.block_lt_of_cell? w _ hx263_4)).trans hx263_4
        replace p263:=eq_true p263
        replace q263:=eq_true q263
        go_wp2_with (first|((with_reducible refine gate_dst (N:=11) rfl ?_);refine box_ev (N:=11) (cs:=#[.int .i64 0,.int .i64 0,.int .i64 0,.int .i64 0,.int .i64 0]) (t:=50) ?_;intro gb264 hg w48 hbox hb;have BK264:=Aside0.mk (hbox);have GW264 : Aside0 (w.heap.size ≤ gb264):=gsz hg;have GE264:=GW264;have NB254_264:=nbl BK254 hg;have NB264_254:=nbr BK254 hg;have NB262_264:=nbl BK262 hg;have NB264_262:=nbr BK262 hg;replace BK254:=bkb BK254 hb;replace BK262:=bkb BK262 hb;replace HB:=hbs hb;clear hb hbox hg;have hnb49:=NB264_254.out;have hnc49:=NB254_264.out;have hnb50:=NB264_262.out;have hnc50:=NB262_264.out;obtain ⟨_,_,_,_,_,_,_,_,_,_⟩:=cells5 BK264.out)|((with_reducible refine gate_dst (N:=12) rfl ?_);refine box_ev (N:=12) (cs:=#[.int .i64 0,.int .i64 0]) (t:=73) ?_;intro gb265 hg w52 hbox hb;have BK265:=Aside0.mk (hbox);have GW265 : Aside0 (w.heap.size ≤ gb265):=gsz hg;have GE265:=GW265;have NB254_265:=Aside0.mk ((by rw [hg];exact Nat.ne_of_lt (blk_lt (g:=gb254) (o:=.cells #[.int .i64 a0_0,.int .i64 a0_1,.slice A0_2 l0_2.length c0_2,.slice A0_3 l0_3.length c0_3,.slice A0_4 l0_4.length c0_4,.slice (some ad263) l0_5.length c0_5] 33 (0,0)) (by (with_reducible repeat (first|refine blk_drewN ?_ _|refine blk_drew ?_|refine blk_alloc ?_ _));refine blk_far ?_ NB254_264.out _;(with_reducible repeat (first|refine blk_drewN ?_ _|refine blk_drew ?_|refine blk_alloc ?_ _));refine blk_far ?_ NB254_264.out _;(with_reducible repeat (first|refine blk_drewN ?_ _|refine blk_drew ?_|refine blk_alloc ?_ _));refine blk_far ?_ NB254_264.out _;(with_reducible repeat (first|refine blk_drewN ?_ _|refine blk_drew ?_|refine blk_alloc ?_ _));refine blk_far ?_ NB254_264.out _;(with_reducible repeat (first|refine blk_drewN ?_ _|refine blk_drew ?_|refine blk_alloc ?_ _));refine blk_far ?_ NB254_264.out _;(with_reducible repeat (first|refine blk_drewN ?_ _|refine blk_drew ?_|refine blk_alloc ?_ _));exact BK254.out)) : gb254 ≠ gb265));have NB265_254:=Aside0.mk ((by rw [hg];exact Nat.ne_of_gt (blk_lt (g:=gb254) (o:=.cells #[.int .i64 a0_0,.int .i64 a0_1,.slice A0_2 l0_2.length c0_2,.slice A0_3 l0_3.length c0_3,.slice A0_4 l0_4.length c0_4,.slice (some ad263) l0_5.length c0_5] 33 (0,0)) (by (with_reducible repeat (first|refine blk_drewN ?_ _|refine blk_drew ?_|refine blk_alloc ?_ _));refine blk_far ?_ NB254_264.out _;(with_reducible repeat (first|refine blk_drewN ?_ _|refine blk_drew ?_|refine blk_alloc ?_ _));refine blk_far ?_ NB254_264.out _;(with_reducible repeat (first|refine blk_drewN ?_ _|refine blk_drew ?_|refine blk_alloc ?_ _));refine blk_far ?_ NB254_264.out _;(with_reducible repeat (first|refine blk_drewN ?_ _|refine blk_drew ?_|refine blk_alloc ?_ _));refine blk_far ?_ NB254_264.out _;(with_reducible repeat (first|refine blk_drewN ?_ _|refine blk_drew ?_|refine blk_alloc ?_ _));refine blk_far ?_ NB254_264.out _;(with_reducible repeat (first|refine blk_drewN ?_ _|refine blk_drew ?_|refine blk_alloc ?_ _));exact BK254.out)) : gb265 ≠ gb254));have NB262_265:=Aside0.mk ((by rw [hg];exact Nat.ne_of_lt (blk_lt (g:=gb262) (o:=mqO x263000_3) (by (with_reducible repeat (first|refine blk_drewN ?_ _|refine blk_drew ?_|refine blk_alloc ?_ _));refine mq_far ?_ NB262_264.out _;(with_reducible repeat (first|refine blk_drewN ?_ _|refine blk_drew ?_|refine blk_alloc ?_ _));refine mq_far ?_ NB262_264.out _;(with_reducible repeat (first|refine blk_drewN ?_ _|refine blk_drew ?_|refine blk_alloc ?_ _));refine mq_far ?_ NB262_264.out _;(with_reducible repeat (first|refine blk_drewN ?_ _|refine blk_drew ?_|refine blk_alloc ?_ _));refine mq_far ?_ NB262_264.out _;(with_reducible repeat (first|refine blk_drewN ?_ _|refine blk_drew ?_|refine blk_alloc ?_ _));refine mq_far ?_ NB262_264.out _;(with_reducible repeat (first|refine blk_drewN ?_ _|refine blk_drew ?_|refine blk_alloc ?_ _));exact BK262.out)) : gb262 ≠ gb265));have NB265_262:=Aside0.mk ((by rw [hg];exact Nat.ne_of_gt (blk_lt (g:=gb262) (o:=mqO x263000_3) (by (with_reducible repeat (first|refine blk_drewN ?_ _|refine blk_drew ?_|refine blk_alloc ?_ _));refine mq_far ?_ NB262_264.out _;(with_reducible repeat (first|refine blk_drewN ?_ _|refine blk_drew ?_|refine blk_alloc ?_ _));refine mq_far ?_ NB262_264.out _;(with_reducible repeat (first|refine blk_drewN ?_ _|refine blk_drew ?_|refine blk_alloc ?_ _));refine mq_far ?_ NB262_264.out _;(with_reducible repeat (first|refine blk_drewN ?_ _|refine blk_drew ?_|refine blk_alloc ?_ _));refine mq_far ?_ NB262_264.out _;(with_reducible repeat (first|refine blk_drewN ?_ _|refine blk_drew ?_|refine blk_alloc ?_ _));refine mq_far ?_ NB262_264.out _;(with_reducible repeat (first|refine blk_drewN ?_ _|refine blk_drew ?_|refine blk_alloc ?_ _));exact BK262.out)) : gb265 ≠ gb262));have NB264_265:=Aside0.mk ((by rw [hg];exact Nat.ne_of_lt (blk_lt (g:=gb264) (o:=.cells #[.int .i64 ((rd_T50 l0_5 x65_3).f0),.int .i64 ((rd_T50 l0_5 x65_3).f1),.int .i64 ((rd_T50 l0_5 x65_3).f2),.int .i64 ((rd_T50 l0_5 x65_3).f3),.int .i64 ((rd_T50 l0_5 x65_3).f4)] 50 (0,0)) (by (with_reducible repeat (first|refine blk_drewN ?_ _|refine blk_drew ?_|refine blk_alloc ?_ _));exact blk_puts5 (blk_up BK264.out))) : gb264 ≠ gb265));have NB265_264:=Aside0.mk ((by rw [hg];exact Nat.ne_of_gt (blk_lt (g:=gb264) (o:=.cells #[.int .i64 ((rd_T50 l0_5 x65_3).f0),.int .i64 ((rd_T50 l0_5 x65_3).f1),.int .i64 ((rd_T50 l0_5 x65_3).f2),.int .i64 ((rd_T50 l0_5 x65_3).f3),.int .i64 ((rd_T50 l0_5 x65_3).f4)] 50 (0,0)) (by (with_reducible repeat (first|refine blk_drewN ?_ _|refine blk_drew ?_|refine blk_alloc ?_ _));exact blk_puts5 (blk_up BK264.out))) : gb265 ≠ gb264));replace BK254:=Aside0.mk (blk_below (g:=gb254) (o:=.cells #[.int .i64 a0_0,.int .i64 a0_1,.slice A0_2 l0_2.length c0_2,.slice A0_3 l0_3.length c0_3,.slice A0_4 l0_4.length c0_4,.slice (some ad263) l0_5.length c0_5] 33 (0,0)) (by (with_reducible repeat (first|refine blk_drewN ?_ _|refine blk_drew ?_|refine blk_alloc ?_ _));refine blk_far ?_ NB254_264.out _;(with_reducible repeat (first|refine blk_drewN ?_ _|refine blk_drew ?_|refine blk_alloc ?_ _));refine blk_far ?_ NB254_264.out _;(with_reducible repeat (first|refine blk_drewN ?_ _|refine blk_drew ?_|refine blk_alloc ?_ _));refine blk_far ?_ NB254_264.out _;(with_reducible repeat (first|refine blk_drewN ?_ _|refine blk_drew ?_|refine blk_alloc ?_ _));refine blk_far ?_ NB254_264.out _;(with_reducible repeat (first|refine blk_drewN ?_ _|refine blk_drew ?_|refine blk_alloc ?_ _));refine blk_far ?_ NB254_264.out _;(with_reducible repeat (first|refine blk_drewN ?_ _|refine blk_drew ?_|refine blk_alloc ?_ _));exact BK254.out) hb);replace BK262:=Aside0.mk (blk_below (g:=gb262) (o:=mqO x263000_3) (by (with_reducible repeat (first|refine blk_drewN ?_ _|refine blk_drew ?_|refine blk_alloc ?_ _));refine mq_far ?_ NB262_264.out _;(with_reducible repeat (first|refine blk_drewN ?_ _|refine blk_drew ?_|refine blk_alloc ?_ _));refine mq_far ?_ NB262_264.out _;(with_reducible repeat (first|refine blk_drewN ?_ _|refine blk_drew ?_|refine blk_alloc ?_ _));refine mq_far ?_ NB262_264.out _;(with_reducible repeat (first|refine blk_drewN ?_ _|refine blk_drew ?_|refine blk_alloc ?_ _));refine mq_far ?_ NB262_264.out _;(with_reducible repeat (first|refine blk_drewN ?_ _|refine blk_drew ?_|refine blk_alloc ?_ _));refine mq_far ?_ NB262_264.out _;(with_reducible repeat (first|refine blk_drewN ?_ _|refine blk_drew ?_|refine blk_alloc ?_ _));exact BK262.out) hb);replace BK264:=Aside0.mk (blk_below (g:=gb264) (o:=.cells #[.int .i64 ((rd_T50 l0_5 x65_3).f0),.int .i64 ((rd_T50 l0_5 x65_3).f1),.int .i64 ((rd_T50 l0_5 x65_3).f2),.int .i64 ((rd_T50 l0_5 x65_3).f3),.int .i64 ((rd_T50 l0_5 x65_3).f4)] 50 (0,0)) (by (with_reducible repeat (first|refine blk_drewN ?_ _|refine blk_drew ?_|refine blk_alloc ?_ _));exact blk_puts5 (blk_up BK264.out)) hb);replace HB:=hbs hb;clear hb hbox hg;have hnb53:=NB265_254.out;have hnc53:=NB254_265.out;have hnb54:=NB265_262.out;have hnc54:=NB262_265.out;have hnb55:=NB265_264.out;have hnc55:=NB264_265.out;obtain ⟨_,_,_,_⟩:=cells2 BK265.out;obtain ⟨_,_,_,_,_,_,_,_,_,_⟩:=cells5 BK264.out)|((with_reducible refine mq_gate (t:=91) rfl ?_);refine mq_put rfl rfl (t:=91) rfl (b:=gb262) ((rd_T50 l0_5 x65_3).f0) ((rd_T50 l0_5 x65_3).f2) (l:=x263000_3) ?hm_ ?hk_ ?hv_ mqT_91 mqK_73 ?hb_ ?_;(case hm_ => first|rfl|(go_simp;done));(case hk_ => first|rfl|(go_simp;done));(case hv_ => first|rfl|(go_simp;done));(case hb_ => exact (by (with_reducible repeat (first|refine blk_drewN ?_ _|refine blk_drew ?_|refine blk_alloc ?_ _));refine mq_far ?_ NB262_265.out _;(with_reducible repeat (first|refine blk_drewN ?_ _|refine blk_drew ?_|refine blk_alloc ?_ _));refine mq_far ?_ NB262_265.out _;(with_reducible repeat (first|refine blk_drewN ?_ _|refine blk_drew ?_|refine blk_alloc ?_ _));exact BK262.out));intro w58 hbox hg;replace BK254:=Aside0.mk (blk_grown (g:=gb254) (o:=.cells #[.int .i64 a0_0,.int .i64 a0_1,.slice A0_2 l0_2.length c0_2,.slice A0_3 l0_3.length c0_3,.slice A0_4 l0_4.length c0_4,.slice (some ad263) l0_5.length c0_5] 33 (0,0)) (by (with_reducible repeat (first|refine blk_drewN ?_ _|refine blk_drew ?_|refine blk_alloc ?_ _));refine blk_far ?_ NB254_265.out _;(with_reducible repeat (first|refine blk_drewN ?_ _|refine blk_drew ?_|refine blk_alloc ?_ _));refine blk_far ?_ NB254_265.out _;(with_reducible repeat (first|refine blk_drewN ?_ _|refine blk_drew ?_|refine blk_alloc ?_ _));exact BK254.out) hg (fun e_ => NB254_262.out (Option.some.inj e_)));replace BK262:=Aside0.mk (hbox);replace BK264:=Aside0.mk (blk_grown (g:=gb264) (o:=.cells #[.int .i64 ((rd_T50 l0_5 x65_3).f0),.int .i64 ((rd_T50 l0_5 x65_3).f1),.int .i64 ((rd_T50 l0_5 x65_3).f2),.int .i64 ((rd_T50 l0_5 x65_3).f3),.int .i64 ((rd_T50 l0_5 x65_3).f4)] 50 (0,0)) (by (with_reducible repeat (first|refine blk_drewN ?_ _|refine blk_drew ?_|refine blk_alloc ?_ _));refine blk_far ?_ NB264_265.out _;(with_reducible repeat (first|refine blk_drewN ?_ _|refine blk_drew ?_|refine blk_alloc ?_ _));refine blk_far ?_ NB264_265.out _;(with_reducible repeat (first|refine blk_drewN ?_ _|refine blk_drew ?_|refine blk_alloc ?_ _));exact BK264.out) hg (fun e_ => NB264_262.out (Option.some.inj e_)));replace BK265:=Aside0.mk (blk_grown (g:=gb265) (o:=.cells #[.int .i64 ((rd_T50 l0_5 x65_3).f0),.int .i64 ((rd_T50 l0_5 x65_3).f2)] 73 (0,0)) (by (with_reducible repeat (first|refine blk_drewN ?_ _|refine blk_drew ?_|refine blk_alloc ?_ _));exact blk_puts2 (blk_up BK265.out)) hg (fun e_ => NB265_262.out (Option.some.inj e_)));replace HB:=Aside0.mk (Below.grown (hb_) hg (below_size (hb_)) (fun k_ hk_ => by injection hk_ with hk_;rw [← hk_];exact GE262.out));clear hbox hg))
        go_roundg k3
        case measure => have:=HK1.out;have:=HK2.out;have:=HK3.out;omega
        case rel => exact ⟨(wrap64 (x65_3 + 1)),(mqPut ((rd_T50 l0_5 x65_3).f0,(rd_T50 l0_5 x65_3).f2) x263000_3),(by first|rfl|(simp;done)|(simp [*];done)),H',⟨by have:=HK1.out;have:=HK2.out;have:=HK3.out;omega⟩,⟨blk_up BK254.out⟩,⟨blk_up BK262.out⟩,⟨hb_⟩⟩
       rw [if_neg c47] at H
       have c47b0:=bqf c47
       have c47b1:=bnt c47
       by_cases c59 : mqHas ((rd_T50 l0_5 x65_3).f0,(rd_T50 l0_5 x65_3).f2) x263000_3 = true
       ·rw [if_pos c59] at H
        have c59b0 : mqHas ((rd_T50 l0_5 x65_3).f0,(rd_T50 l0_5 x65_3).f2) x263000_3 = true:=c59
        clear c59
        obtain rfl:=Option.some.inj H
        have p263 : 0 ≤ (x65_3 : Int):=of_decide_eq_true (by first|(with_reducible assumption)|assumption)
        have q263 : x65_3 < (l0_5.length : Int):=of_decide_eq_true (by first|(with_reducible assumption)|assumption)
        obtain ⟨ad263,e263,hx263_0,hx263_1,hx263_2,hx263_3,hx263_4⟩:=at_T50 HR0_5.out x65_3 p263 q263
        cases e263
        replace hx263_0:=(HB.out.cell (World.block_lt_of_cell? w _ hx263_0)).trans hx263_0
        replace hx263_1:=(HB.out.cell (World.block_lt_of_cell? w _ hx263_1)).trans hx263_1
        replace hx263_2:=(HB.out.cell (World.block_lt_of_cell? w _ hx263_2)).trans hx263_2
        replace hx263_3:=(HB.out.cell (World.block_lt_of_cell? w _ hx263_3)).trans hx263_3
        replace hx263_4:=(HB.out.cell (World.block_lt_of_cell? w _ hx263_4)).trans hx263_4
        replace p263:=eq_true p263
        replace q263:=eq_true q263
        go_wp2_with (first|((with_reducible refine gate_dst (N:=11) rfl ?_);refine box_ev (N:=11) (cs:=#[.int .i64 0,.int .i64 0,.int .i64 0,.int .i64 0,.int .i64 0]) (t:=50) ?_;intro gb264 hg w60 hbox hb;have BK264:=Aside0.mk (hbox);have GW264 : Aside0 (w.heap.size ≤ gb264):=gsz hg;have GE264:=GW264;have NB254_264:=nbl BK254 hg;have NB264_254:=nbr BK254 hg;have NB262_264:=nbl BK262 hg;have NB264_262:=nbr BK262 hg;replace BK254:=bkb BK254 hb;replace BK262:=bkb BK262 hb;replace HB:=hbs hb;clear hb hbox hg;have hnb61:=NB264_254.out;have hnc61:=NB254_264.out;have hnb62:=NB264_262.out;have hnc62:=NB262_264.out;obtain ⟨_,_,_,_,_,_,_,_,_,_⟩:=cells5 BK264.out)|((with_reducible refine gate_dst (N:=12) rfl ?_);refine box_ev (N:=12) (cs:=#[.int .i64 0,.int .i64 0]) (t:=73) ?_;intro gb265 hg w64 hbox hb;have BK265:=Aside0.mk (hbox);have GW265 : Aside0 (w.heap.size ≤ gb265):=gsz hg;have GE265:=GW265;have NB254_265:=Aside0.mk ((by rw [hg];exact Nat.ne_of_lt (blk_lt (g:=gb254) (o:=.cells #[.int .i64 a0_0,.int .i64 a0_1,.slice A0_2 l0_2.length c0_2,.slice A0_3 l0_3.length c0_3,.slice A0_4 l0_4.length c0_4,.slice (some ad263) l0_5.length c0_5] 33 (0,0)) (by (with_reducible repeat (first|refine blk_drewN ?_ _|refine blk_drew ?_|refine blk_alloc ?_ _));refine blk_far ?_ NB254_264.out _;(with_reducible repeat (first|refine blk_drewN ?_ _|refine blk_drew ?_|refine blk_alloc ?_ _));refine blk_far ?_ NB254_264.out _;(with_reducible repeat (first|refine blk_drewN ?_ _|refine blk_drew ?_|refine blk_alloc ?_ _));refine blk_far ?_ NB254_264.out _;(with_reducible repeat (first|refine blk_drewN ?_ _|refine blk_drew ?_|refine blk_alloc ?_ _));refine blk_far ?_ NB254_264.out _;(with_reducible repeat (first|refine blk_drewN ?_ _|refine blk_drew ?_|refine blk_alloc ?_ _));refine blk_far ?_ NB254_264.out _;(with_reducible repeat (first|refine blk_drewN ?_ _|refine blk_drew ?_|refine blk_alloc ?_ _));exact BK254.out)) : gb254 ≠ gb265));have NB265_254:=Aside0.mk ((by rw [hg];exact Nat.ne_of_gt (blk_lt (g:=gb254) (o:=.cells #[.int .i64 a0_0,.int .i64 a0_1,.slice A0_2 l0_2.length c0_2,.slice A0_3 l0_3.length c0_3,.slice A0_4 l0_4.length c0_4,.slice (some ad263) l0_5.length c0_5] 33 (0,0)) (by (with_reducible repeat (first|refine blk_drewN ?_ _|refine blk_drew ?_|refine blk_alloc ?_ _));refine blk_far ?_ NB254_264.out _;(with_reducible repeat (first|refine blk_drewN ?_ _|refine blk_drew ?_|refine blk_alloc ?_ _));refine blk_far ?_ NB254_264.out _;(with_reducible repeat (first|refine blk_drewN ?_ _|refine blk_drew ?_|refine blk_alloc ?_ _));refine blk_far ?_ NB254_264.out _;(with_reducible repeat (first|refine blk_drewN ?_ _|refine blk_drew ?_|refine blk_alloc ?_ _));refine blk_far ?_ NB254_264.out _;(with_reducible repeat (first|refine blk_drewN ?_ _|refine blk_drew ?_|refine blk_alloc ?_ _));refine blk_far ?_ NB254_264.out _;(with_reducible repeat (first|refine blk_drewN ?_ _|refine blk_drew ?_|refine blk_alloc ?_ _));exact BK254.out)) : gb265 ≠ gb254));have NB262_265:=Aside0.mk ((by rw [hg];exact Nat.ne_of_lt (blk_lt (g:=gb262) (o:=mqO x263000_3) (by (with_reducible repeat (first|refine blk_drewN ?_ _|refine blk_drew ?_|refine blk_alloc ?_ _));refine mq_far ?_ NB262_264.out _;(with_reducible repeat (first|refine blk_drewN ?_ _|refine blk_drew ?_|refine blk_alloc ?_ _));refine mq_far ?_ NB262_264.out _;(with_reducible repeat (first|refine blk_drewN ?_ _|refine blk_drew ?_|refine blk_alloc ?_ _));refine mq_far ?_ NB262_264.out _;(with_reducible repeat (first|refine blk_drewN ?_ _|refine blk_drew ?_|refine blk_alloc ?_ _));refine mq_far ?_ NB262_264.out _;(with_reducible repeat (first|refine blk_drewN ?_ _|refine blk_drew ?_|refine blk_alloc ?_ _));refine mq_far ?_ NB262_264.out _;(with_reducible repeat (first|refine blk_drewN ?_ _|refine blk_drew ?_|refine blk_alloc ?_ _));exact BK262.out)) : gb262 ≠ gb265));have NB265_262:=Aside0.mk ((by rw [hg];exact Nat.ne_of_gt (blk_lt (g:=gb262) (o:=mqO x263000_3) (by (with_reducible repeat (first|refine blk_drewN ?_ _|refine blk_drew ?_|refine blk_alloc ?_ _));refine mq_far ?_ NB262_264.out _;(with_reducible repeat (first|refine blk_drewN ?_ _|refine blk_drew ?_|refine blk_alloc ?_ _));refine mq_far ?_ NB262_264.out _;(with_reducible repeat (first|refine blk_drewN ?_ _|refine blk_drew ?_|refine blk_alloc ?_ _));refine mq_far ?_ NB262_264.out _;(with_reducible repeat (first|refine blk_drewN ?_ _|refine blk_drew ?_|refine blk_alloc ?_ _));refine mq_far ?_ NB262_264.out _;(with_reducible repeat (first|refine blk_drewN ?_ _|refine blk_drew ?_|refine blk_alloc ?_ _));refine mq_far ?_ NB262_264.out _;(with_reducible repeat (first|refine blk_drewN ?_ _|refine blk_drew ?_|refine blk_alloc ?_ _));exact BK262.out)) : gb265 ≠ gb262));have NB264_265:=Aside0.mk ((by rw [hg];exact Nat.ne_of_lt (blk_lt (g:=gb264) (o:=.cells #[.int .i64 ((rd_T50 l0_5 x65_3).f0),.int .i64 ((rd_T50 l0_5 x65_3).f1),.int .i64 ((rd_T50 l0_5 x65_3).f2),.int .i64 ((rd_T50 l0_5 x65_3).f3),.int .i64 ((rd_T50 l0_5 x65_3).f4)] 50 (0,0)) (by (with_reducible repeat (first|refine blk_drewN ?_ _|refine blk_drew ?_|refine blk_alloc ?_ _));exact blk_puts5 (blk_up BK264.out))) : gb264 ≠ gb265));have NB265_264:=Aside0.mk ((by rw [hg];exact Nat.ne_of_gt (blk_lt (g:=gb264) (o:=.cells #[.int .i64 ((rd_T50 l0_5 x65_3).f0),.int .i64 ((rd_T50 l0_5 x65_3).f1),.int .i64 ((rd_T50 l0_5 x65_3).f2),.int .i64 ((rd_T50 l0_5 x65_3).f3),.int .i64 ((rd_T50 l0_5 x65_3).f4)] 50 (0,0)) (by (with_reducible repeat (first|refine blk_drewN ?_ _|refine blk_drew ?_|refine blk_alloc ?_ _));exact blk_puts5 (blk_up BK264.out))) : gb265 ≠ gb264));replace BK254:=Aside0.mk (blk_below (g:=gb254) (o:=.cells #[.int .i64 a0_0,.int .i64 a0_1,.slice A0_2 l0_2.length c0_2,.slice A0_3 l0_3.length c0_3,.slice A0_4 l0_4.length c0_4,.slice (some ad263) l0_5.length c0_5] 33 (0,0)) (by (with_reducible repeat (first|refine blk_drewN ?_ _|refine blk_drew ?_|refine blk_alloc ?_ _));refine blk_far ?_ NB254_264.out _;(with_reducible repeat (first|refine blk_drewN ?_ _|refine blk_drew ?_|refine blk_alloc ?_ _));refine blk_far ?_ NB254_264.out _;(with_reducible repeat (first|refine blk_drewN ?_ _|refine blk_drew ?_|refine blk_alloc ?_ _));refine blk_far ?_ NB254_264.out _;(with_reducible repeat (first|refine blk_drewN ?_ _|refine blk_drew ?_|refine blk_alloc ?_ _));refine blk_far ?_ NB254_264.out _;(with_reducible repeat (first|refine blk_drewN ?_ _|refine blk_drew ?_|refine blk_alloc ?_ _));refine blk_far ?_ NB254_264.out _;(with_reducible repeat (first|refine blk_drewN ?_ _|refine blk_drew ?_|refine blk_alloc ?_ _));exact BK254.out) hb);replace BK262:=Aside0.mk (blk_below (g:=gb262) (o:=mqO x263000_3) (by (with_reducible repeat (first|refine blk_drewN ?_ _|refine blk_drew ?_|refine blk_alloc ?_ _));refine mq_far ?_ NB262_264.out _;(with_reducible repeat (first|refine blk_drewN ?_ _|refine blk_drew ?_|refine blk_alloc ?_ _));refine mq_far ?_ NB262_264.out _;(with_reducible repeat (first|refine blk_drewN ?_ _|refine blk_drew ?_|refine blk_alloc ?_ _));refine mq_far ?_ NB262_264.out _;(with_reducible repeat (first|refine blk_drewN ?_ _|refine blk_drew ?_|refine blk_alloc ?_ _));refine mq_far ?_ NB262_264.out _;(with_reducible repeat (first|refine blk_drewN ?_ _|refine blk_drew ?_|refine blk_alloc ?_ _));refine mq_far ?_ NB262_264.out _;(with_reducible repeat (first|refine blk_drewN ?_ _|refine blk_drew ?_|refine blk_alloc ?_ _));exact BK262.out) hb);replace BK264:=Aside0.mk (blk_below (g:=gb264) (o:=.cells #[.int .i64 ((rd_T50 l0_5 x65_3).f0),.int .i64 ((rd_T50 l0_5 x65_3).f1),.int .i64 ((rd_T50 l0_5 x65_3).f2),.int .i64 ((rd_T50 l0_5 x65_3).f3),.int .i64 ((rd_T50 l0_5 x65_3).f4)] 50 (0,0)) (by (with_reducible repeat (first|refine blk_drewN ?_ _|refine blk_drew ?_|refine blk_alloc ?_ _));exact blk_puts5 (blk_up BK264.out)) hb);replace HB:=hbs hb;clear hb hbox hg;have hnb65:=NB265_254.out;have hnc65:=NB254_265.out;have hnb66:=NB265_262.out;have hnc66:=NB262_265.out;have hnb67:=NB265_264.out;have hnc67:=NB264_265.out;obtain ⟨_,_,_,_⟩:=cells2 BK265.out;obtain ⟨_,_,_,_,_,_,_,_,_,_⟩:=cells5 BK264.out)|((with_reducible refine gate_dst (N:=80) rfl ?_);(try (refine gate_guard (by rfl) ?_;dsimp only));refine mq_look_1 rfl (t:=91) rfl (b:=gb262) ((rd_T50 l0_5 x65_3).f0) ((rd_T50 l0_5 x65_3).f2) (l:=x263000_3) ?hm_ ?hk_ mqT_91 mqK_73 mqZ_91 ?hb_ ?_;(case hm_ => first|rfl|(go_simp;done));(case hk_ => first|rfl|(go_simp;done));(case hb_ => exact (by (with_reducible repeat (first|refine blk_drewN ?_ _|refine blk_drew ?_|refine blk_alloc ?_ _));refine mq_far ?_ NB262_265.out _;(with_reducible repeat (first|refine blk_drewN ?_ _|refine blk_drew ?_|refine blk_alloc ?_ _));refine mq_far ?_ NB262_265.out _;(with_reducible repeat (first|refine blk_drewN ?_ _|refine blk_drew ?_|refine blk_alloc ?_ _));exact BK262.out))))
        go_ret
        exact ⟨er_,hb_⟩
       ·rw [if_neg c59] at H
        have c59b0 : mqHas ((rd_T50 l0_5 x65_3).f0,(rd_T50 l0_5 x65_3).f2) x263000_3 = false:=by simpa using c59
        clear c59
        have H':=Aside0.mk H
        clear H
        have p263 : 0 ≤ (x65_3 : Int):=of_decide_eq_true (by first|(with_reducible assumption)|assumption)
        have q263 : x65_3 < (l0_5.length : Int):=of_decide_eq_true (by first|(with_reducible assumption)|assumption)
        obtain ⟨ad263,e263,hx263_0,hx263_1,hx263_2,hx263_3,hx263_4⟩:=at_T50 HR0_5.out x65_3 p263 q263
        cases e263
        replace hx263_0:=(HB.out.cell (World.block_lt_of_cell? w _ hx263_0)).trans hx263_0
        replace hx263_1:=(HB.out.cell (World.block_lt_of_cell? w _ hx263_1)).trans hx263_1
        replace hx263_2:=(HB.out.cell (World.block_lt_of_cell? w _ hx263_2)).trans hx263_2
        replace hx263_3:=(HB.out.cell (World.block_lt_of_cell? w _ hx263_3)).trans hx263_3
        replace hx263_4:=(HB.out.cell (World.block_lt_of_cell? w _ hx263_4)).trans hx263_4
        replace p263:=eq_true p263
        replace q263:=eq_true q263
        go_wp2_with (first|((with_reducible refine gate_dst (N:=11) rfl ?_);refine box_ev (N:=11) (cs:=#[.int .i64 0,.int .i64 0,.int .i64 0,.int .i64 0,.int .i64 0]) (t:=50) ?_;intro gb264 hg w70 hbox hb;have BK264:=Aside0.mk (hbox);have GW264 : Aside0 (w.heap.size ≤ gb264):=gsz hg;have GE264:=GW264;have NB254_264:=nbl BK254 hg;have NB264_254:=nbr BK254 hg;have NB262_264:=nbl BK262 hg;have NB264_262:=nbr BK262 hg;replace BK254:=bkb BK254 hb;replace BK262:=bkb BK262 hb;replace HB:=hbs hb;clear hb hbox hg;have hnb71:=NB264_254.out;have hnc71:=NB254_264.out;have hnb72:=NB264_262.out;have hnc72:=NB262_264.out;obtain ⟨_,_,_,_,_,_,_,_,_,_⟩:=cells5 BK264.out)|((with_reducible refine gate_dst (N:=12) rfl ?_);refine box_ev (N:=12) (cs:=#[.int .i64 0,.int .i64 0]) (t:=73) ?_;intro gb265 hg w74 hbox hb;have BK265:=Aside0.mk (hbox);have GW265 : Aside0 (w.heap.size ≤ gb265):=gsz hg;have GE265:=GW265;have NB254_265:=Aside0.mk ((by rw [hg];exact Nat.ne_of_lt (blk_lt (g:=gb254) (o:=.cells #[.int .i64 a0_0,.int .i64 a0_1,.slice A0_2 l0_2.length c0_2,.slice A0_3 l0_3.length c0_3,.slice A0_4 l0_4.length c0_4,.slice (some ad263) l0_5.length c0_5] 33 (0,0)) (by (with_reducible repeat (first|refine blk_drewN ?_ _|refine blk_drew ?_|refine blk_alloc ?_ _));refine blk_far ?_ NB254_264.out _;(with_reducible repeat (first|refine blk_drewN ?_ _|refine blk_drew ?_|refine blk_alloc ?_ _));refine blk_far ?_ NB254_264.out _;(with_reducible repeat (first|refine blk_drewN ?_ _|refine blk_drew ?_|refine blk_alloc ?_ _));refine blk_far ?_ NB254_264.out _;(with_reducible repeat (first|refine blk_drewN ?_ _|refine blk_drew ?_|refine blk_alloc ?_ _));refine blk_far ?_ NB254_264.out _;(with_reducible repeat (first|refine blk_drewN ?_ _|refine blk_drew ?_|refine blk_alloc ?_ _));refine blk_far ?_ NB254_264.out _;(with_reducible repeat (first|refine blk_drewN ?_ _|refine blk_drew ?_|refine blk_alloc ?_ _));exact BK254.out)) : gb254 ≠ gb265));have NB265_254:=Aside0.mk ((by rw [hg];exact Nat.ne_of_gt (blk_lt (g:=gb254) (o:=.cells #[.int .i64 a0_0,.int .i64 a0_1,.slice A0_2 l0_2.length c0_2,.slice A0_3 l0_3.length c0_3,.slice A0_4 l0_4.length c0_4,.slice (some ad263) l0_5.length c0_5] 33 (0,0)) (by (with_reducible repeat (first|refine blk_drewN ?_ _|refine blk_drew ?_|refine blk_alloc ?_ _));refine blk_far ?_ NB254_264.out _;(with_reducible repeat (first|refine blk_drewN ?_ _|refine blk_drew ?_|refine blk_alloc ?_ _));refine blk_far ?_ NB254_264.out _;(with_reducible repeat (first|refine blk_drewN ?_ _|refine blk_drew ?_|refine blk_alloc ?_ _));refine blk_far ?_ NB254_264.out _;(with_reducible repeat (first|refine blk_drewN ?_ _|refine blk_drew ?_|refine blk_alloc ?_ _));refine blk_far ?_ NB254_264.out _;(with_reducible repeat (first|refine blk_drewN ?_ _|refine blk_drew ?_|refine blk_alloc ?_ _));refine blk_far ?_ NB254_264.out _;(with_reducible repeat (first|refine blk_drewN ?_ _|refine blk_drew ?_|refine blk_alloc ?_ _));exact BK254.out)) : gb265 ≠ gb254));have NB262_265:=Aside0.mk ((by rw [hg];exact Nat.ne_of_lt (blk_lt (g:=gb262) (o:=mqO x263000_3) (by (with_reducible repeat (first|refine blk_drewN ?_ _|refine blk_drew ?_|refine blk_alloc ?_ _));refine mq_far ?_ NB262_264.out _;(with_reducible repeat (first|refine blk_drewN ?_ _|refine blk_drew ?_|refine blk_alloc ?_ _));refine mq_far ?_ NB262_264.out _;(with_reducible repeat (first|refine blk_drewN ?_ _|refine blk_drew ?_|refine blk_alloc ?_ _));refine mq_far ?_ NB262_264.out _;(with_reducible repeat (first|refine blk_drewN ?_ _|refine blk_drew ?_|refine blk_alloc ?_ _));refine mq_far ?_ NB262_264.out _;(with_reducible repeat (first|refine blk_drewN ?_ _|refine blk_drew ?_|refine blk_alloc ?_ _));refine mq_far ?_ NB262_264.out _;(with_reducible repeat (first|refine blk_drewN ?_ _|refine blk_drew ?_|refine blk_alloc ?_ _));exact BK262.out)) : gb262 ≠ gb265));have NB265_262:=Aside0.mk ((by rw [hg];exact Nat.ne_of_gt (blk_lt (g:=gb262) (o:=mqO x263000_3) (by (with_reducible repeat (first|refine blk_drewN ?_ _|refine blk_drew ?_|refine blk_alloc ?_ _));refine mq_far ?_ NB262_264.out _;(with_reducible repeat (first|refine blk_drewN ?_ _|refine blk_drew ?_|refine blk_alloc ?_ _));refine mq_far ?_ NB262_264.out _;(with_reducible repeat (first|refine blk_drewN ?_ _|refine blk_drew ?_|refine blk_alloc ?_ _));refine mq_far ?_ NB262_264.out _;(with_reducible repeat (first|refine blk_drewN ?_ _|refine blk_drew ?_|refine blk_alloc ?_ _));refine mq_far ?_ NB262_264.out _;(with_reducible repeat (first|refine blk_drewN ?_ _|refine blk_drew ?_|refine blk_alloc ?_ _));refine mq_far ?_ NB262_264.out _;(with_reducible repeat (first|refine blk_drewN ?_ _|refine blk_drew ?_|refine blk_alloc ?_ _));exact BK262.out)) : gb265 ≠ gb262));have NB264_265:=Aside0.mk ((by rw [hg];exact Nat.ne_of_lt (blk_lt (g:=gb264) (o:=.cells #[.int .i64 ((rd_T50 l0_5 x65_3).f0),.int .i64 ((rd_T50 l0_5 x65_3).f1),.int .i64 ((rd_T50 l0_5 x65_3).f2),.int .i64 ((rd_T50 l0_5 x65_3).f3),.int .i64 ((rd_T50 l0_5 x65_3).f4)] 50 (0,0)) (by (with_reducible repeat (first|refine blk_drewN ?_ _|refine blk_drew ?_|refine blk_alloc ?_ _));exact blk_puts5 (blk_up BK264.out))) : gb264 ≠ gb265));have NB265_264:=Aside0.mk ((by rw [hg];exact Nat.ne_of_gt (blk_lt (g:=gb264) (o:=.cells #[.int .i64 ((rd_T50 l0_5 x65_3).f0),.int .i64 ((rd_T50 l0_5 x65_3).f1),.int .i64 ((rd_T50 l0_5 x65_3).f2),.int .i64 ((rd_T50 l0_5 x65_3).f3),.int .i64 ((rd_T50 l0_5 x65_3).f4)] 50 (0,0)) (by (with_reducible repeat (first|refine blk_drewN ?_ _|refine blk_drew ?_|refine blk_alloc ?_ _));exact blk_puts5 (blk_up BK264.out))) : gb265 ≠ gb264));replace BK254:=Aside0.mk (blk_below (g:=gb254) (o:=.cells #[.int .i64 a0_0,.int .i64 a0_1,.slice A0_2 l0_2.length c0_2,.slice A0_3 l0_3.length c0_3,.slice A0_4 l0_4.length c0_4,.slice (some ad263) l0_5.length c0_5] 33 (0,0)) (by (with_reducible repeat (first|refine blk_drewN ?_ _|refine blk_drew ?_|refine blk_alloc ?_ _));refine blk_far ?_ NB254_264.out _;(with_reducible repeat (first|refine blk_drewN ?_ _|refine blk_drew ?_|refine blk_alloc ?_ _));refine blk_far ?_ NB254_264.out _;(with_reducible repeat (first|refine blk_drewN ?_ _|refine blk_drew ?_|refine blk_alloc ?_ _));refine blk_far ?_ NB254_264.out _;(with_reducible repeat (first|refine blk_drewN ?_ _|refine blk_drew ?_|refine blk_alloc ?_ _));refine blk_far ?_ NB254_264.out _;(with_reducible repeat (first|refine blk_drewN ?_ _|refine blk_drew ?_|refine blk_alloc ?_ _));refine blk_far ?_ NB254_264.out _;(with_reducible repeat (first|refine blk_drewN ?_ _|refine blk_drew ?_|refine blk_alloc ?_ _));exact BK254.out) hb);replace BK262:=Aside0.mk (blk_below (g:=gb262) (o:=mqO x263000_3) (by (with_reducible repeat (first|refine blk_drewN ?_ _|refine blk_drew ?_|refine blk_alloc ?_ _));refine mq_far ?_ NB262_264.out _;(with_reducible repeat (first|refine blk_drewN ?_ _|refine blk_drew ?_|refine blk_alloc ?_ _));refine mq_far ?_ NB262_264.out _;(with_reducible repeat (first|refine blk_drewN ?_ _|refine blk_drew ?_|refine blk_alloc ?_ _));refine mq_far ?_ NB262_264.out _;(with_reducible repeat (first|refine blk_drewN ?_ _|refine blk_drew ?_|refine blk_alloc ?_ _));refine mq_far ?_ NB262_264.out _;(with_reducible repeat (first|refine blk_drewN ?_ _|refine blk_drew ?_|refine blk_alloc ?_ _));refine mq_far ?_ NB262_264.out _;(with_reducible repeat (first|refine blk_drewN ?_ _|refine blk_drew ?_|refine blk_alloc ?_ _));exact BK262.out) hb);replace BK264:=Aside0.mk (blk_below (g:=gb264) (o:=.cells #[.int .i64 ((rd_T50 l0_5 x65_3).f0),.int .i64 ((rd_T50 l0_5 x65_3).f1),.int .i64 ((rd_T50 l0_5 x65_3).f2),.int .i64 ((rd_T50 l0_5 x65_3).f3),.int .i64 ((rd_T50 l0_5 x65_3).f4)] 50 (0,0)) (by (with_reducible repeat (first|refine blk_drewN ?_ _|refine blk_drew ?_|refine blk_alloc ?_ _));exact blk_puts5 (blk_up BK264.out)) hb);replace HB:=hbs hb;clear hb hbox hg;have hnb75:=NB265_254.out;have hnc75:=NB254_265.out;have hnb76:=NB265_262.out;have hnc76:=NB262_265.out;have hnb77:=NB265_264.out;have hnc77:=NB264_265.out;obtain ⟨_,_,_,_⟩:=cells2 BK265.out;obtain ⟨_,_,_,_,_,_,_,_,_,_⟩:=cells5 BK264.out)|((with_reducible refine gate_dst (N:=80) rfl ?_);(try (refine gate_guard (by rfl) ?_;dsimp only));refine mq_look_1 rfl (t:=91) rfl (b:=gb262) ((rd_T50 l0_5 x65_3).f0) ((rd_T50 l0_5 x65_3).f2) (l:=x263000_3) ?hm_ ?hk_ mqT_91 mqK_73 mqZ_91 ?hb_ ?_;(case hm_ => first|rfl|(go_simp;done));(case hk_ => first|rfl|(go_simp;done));(case hb_ => exact (by (with_reducible repeat (first|refine blk_drewN ?_ _|refine blk_drew ?_|refine blk_alloc ?_ _));refine mq_far ?_ NB262_265.out _;(with_reducible repeat (first|refine blk_drewN ?_ _|refine blk_drew ?_|refine blk_alloc ?_ _));refine mq_far ?_ NB262_265.out _;(with_reducible repeat (first|refine blk_drewN ?_ _|refine blk_drew ?_|refine blk_alloc ?_ _));exact BK262.out)))|((with_reducible refine mq_gate (t:=91) rfl ?_);refine mq_put rfl rfl (t:=91) rfl (b:=gb262) ((rd_T50 l0_5 x65_3).f0) ((rd_T50 l0_5 x65_3).f2) (l:=x263000_3) ?hm_ ?hk_ ?hv_ mqT_91 mqK_73 ?hb_ ?_;(case hm_ => first|rfl|(go_simp;done));(case hk_ => first|rfl|(go_simp;done));(case hv_ => first|rfl|(go_simp;done));(case hb_ => exact (by (with_reducible repeat (first|refine blk_drewN ?_ _|refine blk_drew ?_|refine blk_alloc ?_ _));refine mq_far ?_ NB262_265.out _;(with_reducible repeat (first|refine blk_drewN ?_ _|refine blk_drew ?_|refine blk_alloc ?_ _));refine mq_far ?_ NB262_265.out _;(with_reducible repeat (first|refine blk_drewN ?_ _|refine blk_drew ?_|refine blk_alloc ?_ _));exact BK262.out));intro w80 hbox hg;replace BK254:=Aside0.mk (blk_grown (g:=gb254) (o:=.cells #[.int .i64 a0_0,.int .i64 a0_1,.slice A0_2 l0_2.length c0_2,.slice A0_3 l0_3.length c0_3,.slice A0_4 l0_4.length c0_4,.slice (some ad263) l0_5.length c0_5] 33 (0,0)) (by (with_reducible repeat (first|refine blk_drewN ?_ _|refine blk_drew ?_|refine blk_alloc ?_ _));refine blk_far ?_ NB254_265.out _;(with_reducible repeat (first|refine blk_drewN ?_ _|refine blk_drew ?_|refine blk_alloc ?_ _));refine blk_far ?_ NB254_265.out _;(with_reducible repeat (first|refine blk_drewN ?_ _|refine blk_drew ?_|refine blk_alloc ?_ _));exact BK254.out) hg (fun e_ => NB254_262.out (Option.some.inj e_)));replace BK262:=Aside0.mk (hbox);replace BK264:=Aside0.mk (blk_grown (g:=gb264) (o:=.cells #[.int .i64 ((rd_T50 l0_5 x65_3).f0),.int .i64 ((rd_T50 l0_5 x65_3).f1),.int .i64 ((rd_T50 l0_5 x65_3).f2),.int .i64 ((rd_T50 l0_5 x65_3).f3),.int .i64 ((rd_T50 l0_5 x65_3).f4)] 50 (0,0)) (by (with_reducible repeat (first|refine blk_drewN ?_ _|refine blk_drew ?_|refine blk_alloc ?_ _));refine blk_far ?_ NB264_265.out _;(with_reducible repeat (first|refine blk_drewN ?_ _|refine blk_drew ?_|refine blk_alloc ?_ _));refine blk_far ?_ NB264_265.out _;(with_reducible repeat (first|refine blk_drewN ?_ _|refine blk_drew ?_|refine blk_alloc ?_ _));exact BK264.out) hg (fun e_ => NB264_262.out (Option.some.inj e_)));replace BK265:=Aside0.mk (blk_grown (g:=gb265) (o:=.cells #[.int .i64 ((rd_T50 l0_5 x65_3).f0),.int .i64 ((rd_T50 l0_5 x65_3).f2)] 73 (0,0)) (by (with_reducible repeat (first|refine blk_drewN ?_ _|refine blk_drew ?_|refine blk_alloc ?_ _));exact blk_puts2 (blk_up BK265.out)) hg (fun e_ => NB265_262.out (Option.some.inj e_)));replace HB:=Aside0.mk (Below.grown (hb_) hg (below_size (hb_)) (fun k_ hk_ => by injection hk_ with hk_;rw [← hk_];exact GE262.out));clear hbox hg))
        go_roundg k3
        case measure => have:=HK1.out;have:=HK2.out;have:=HK3.out;omega
        case rel => exact ⟨(wrap64 (x65_3 + 1)),(mqPut ((rd_T50 l0_5 x65_3).f0,(rd_T50 l0_5 x65_3).f2) x263000_3),(by first|rfl|(simp;done)|(simp [*];done)),H',⟨by have:=HK1.out;have:=HK2.out;have:=HK3.out;omega⟩,⟨blk_up BK254.out⟩,⟨blk_up BK262.out⟩,⟨hb_⟩⟩

/-! ### lane_Validate: function 18 -/
mutual
def lane_Validate.l0 : Nat → Int → Int → Int → Int → List Int → List Int → List Int → List (S50) → Option (Int)
 | 0,_,_,_,_,_,_,_,_ => none
 | k + 1,x19,x20,x267000,x267001,x267002,x267003,x267004,x267005 => if x20 < x19 then (if x20 > 0 then (if 0 ≤ (wrap64 (x20 - 1)) then (if (wrap64 (x20 - 1)) < (x267004.length : Int) then (if 0 ≤ x20 then (if x20 < (x267004.length : Int) then (if (rd x267004 (wrap64 (x20 - 1))) ≥ (rd x267004 x20) then (some 1) else (lane_Validate.l0 k x19 (wrap64 (x20 + 1)) x267000 x267001 x267002 x267003 x267004 x267005)) else (none)) else (none)) else (none)) else (none)) else (lane_Validate.l0 k x19 (wrap64 (x20 + 1)) x267000 x267001 x267002 x267003 x267004 x267005)) else (lane_Validate.l1 k x267005 (x267005.length : Int) 0 x267000 x267001 x267002 x267003 x267004 x267005)
def lane_Validate.l1 : Nat → List (S50) → Int → Int → Int → Int → List Int → List Int → List Int → List (S50) → Option (Int)
 | 0,_,_,_,_,_,_,_,_,_ => none
 | k + 1,x41,x42,x43,x267000,x267001,x267002,x267003,x267004,x267005 => if x43 < x42 then (if 0 ≤ x43 then (if x43 < (x41.length : Int) then ((lane_moves.f ((rd_T50 x41 x43).f0) ((rd_T50 x41 x43).f1) ((rd_T50 x41 x43).f2) ((rd_T50 x41 x43).f3) ((rd_T50 x41 x43).f4)).bind fun t272 => (if t272 = true then (lane_Validate.l1 k x41 x42 (wrap64 (x43 + 1)) x267000 x267001 x267002 x267003 x267004 x267005) else (some 1))) else (none)) else (none)) else ((lane_stand.f k x267000 x267001 x267002 x267003 x267004 x267005).bind fun t273 => (some t273))
end
def lane_Validate.f (k : Nat) (a0_0 : Int) (a0_1 : Int) (l0_2 : List Int) (l0_3 : List Int) (l0_4 : List Int) (l0_5 : List (S50)) : Option (Int) := (road_Validate.f k a0_0 a0_1 l0_2 l0_3).bind fun t267 => (if t267 = 0 then (if (l0_5.length : Int) > 60 then (some 4) else (lane_Validate.l0 k (l0_4.length : Int) 0 a0_0 a0_1 l0_2 l0_3 l0_4 l0_5)) else (some t267))
theorem lane_Validate.mono_l : ∀ k, (∀ y0 y1 y2 y3 y4 y5 y6 y7, LeO (lane_Validate.l0 k y0 y1 y2 y3 y4 y5 y6 y7) (lane_Validate.l0 (k + 1) y0 y1 y2 y3 y4 y5 y6 y7)) ∧ (∀ y0 y1 y2 y3 y4 y5 y6 y7 y8, LeO (lane_Validate.l1 k y0 y1 y2 y3 y4 y5 y6 y7 y8) (lane_Validate.l1 (k + 1) y0 y1 y2 y3 y4 y5 y6 y7 y8))
 | 0 => ⟨fun _ _ _ _ _ _ _ _ r h => by simp [lane_Validate.l0] at h,fun _ _ _ _ _ _ _ _ _ r h => by simp [lane_Validate.l1] at h⟩
 | k + 1 => by
  obtain ⟨ih0,ih1⟩:=lane_Validate.mono_l k
  refine ⟨?_,?_⟩
  ·intro y0 y1 y2 y3 y4 y5 y6 y7
   unfold lane_Validate.l0
   repeat' first
   | (with_reducible exact ih0 _ _ _ _ _ _ _ _)
   | (with_reducible exact ih1 _ _ _ _ _ _ _ _ _)
   | (with_reducible exact lane_stand.mono _ _ _ _ _ _ _)
   | (with_reducible exact road_Validate.mono _ _ _ _ _)
   | (with_reducible exact LeO.refl _)
   | (with_reducible exact LeO.none _)
   | (with_reducible refine LeO.ite ?_ ?_)
   | (with_reducible refine LeO.bind ?_ (fun _ => ?_))
   | exact ih0 _ _ _ _ _ _ _ _
   | exact ih1 _ _ _ _ _ _ _ _ _
   | exact lane_stand.mono _ _ _ _ _ _ _
   | exact road_Validate.mono _ _ _ _ _
   | exact LeO.none _
   | refine LeO.ite ?_ ?_
   | refine LeO.bind ?_ (fun _ => ?_)
  ·intro y0 y1 y2 y3 y4 y5 y6 y7 y8
   unfold lane_Validate.l1
   repeat' first
   | (with_reducible exact ih0 _ _ _ _ _ _ _ _)
   | (with_reducible exact ih1 _ _ _ _ _ _ _ _ _)
   | (with_reducible exact lane_stand.mono _ _ _ _ _ _ _)
   | (with_reducible exact road_Validate.mono _ _ _ _ _)
   | (with_reducible exact LeO.refl _)
   | (with_reducible exact LeO.none _)
   | (with_reducible refine LeO.ite ?_ ?_)
   | (with_reducible refine LeO.bind ?_ (fun _ => ?_))
   | exact ih0 _ _ _ _ _ _ _ _
   | exact ih1 _ _ _ _ _ _ _ _ _
   | exact lane_stand.mono _ _ _ _ _ _ _
   | exact road_Validate.mono _ _ _ _ _
   | exact LeO.none _
   | refine LeO.ite ?_ ?_
   | refine LeO.bind ?_ (fun _ => ?_)
theorem lane_Validate.mono : ∀ a0 a1 a2 a3 a4 a5 k, LeO (lane_Validate.f k a0 a1 a2 a3 a4 a5) (lane_Validate.f (k + 1) a0 a1 a2 a3 a4 a5) := by
 intro a0 a1 a2 a3 a4 a5 k
 obtain ⟨ih0,ih1⟩:=lane_Validate.mono_l k
 unfold lane_Validate.f
 repeat' first
   | (with_reducible exact ih0 _ _ _ _ _ _ _ _)
   | (with_reducible exact ih1 _ _ _ _ _ _ _ _ _)
   | (with_reducible exact lane_stand.mono _ _ _ _ _ _ _)
   | (with_reducible exact road_Validate.mono _ _ _ _ _)
   | (with_reducible exact LeO.refl _)
   | (with_reducible exact LeO.none _)
   | (with_reducible refine LeO.ite ?_ ?_)
   | (with_reducible refine LeO.bind ?_ (fun _ => ?_))
   | exact ih0 _ _ _ _ _ _ _ _
   | exact ih1 _ _ _ _ _ _ _ _ _
   | exact lane_stand.mono _ _ _ _ _ _ _
   | exact road_Validate.mono _ _ _ _ _
   | exact LeO.none _
   | refine LeO.ite ?_ ?_
   | refine LeO.bind ?_ (fun _ => ?_)
set_option maxHeartbeats 8000000 in
set_option maxRecDepth 100000 in
theorem lane_Validate.calls (k : Nat) (a0_0 : Int) (a0_1 : Int) (A0_2 : Option Addr) (c0_2 : Nat) (l0_2 : List Int) (A0_3 : Option Addr) (c0_3 : Nat) (l0_3 : List Int) (A0_4 : Option Addr) (c0_4 : Nat) (l0_4 : List Int) (A0_5 : Option Addr) (c0_5 : Nat) (l0_5 : List (S50)) (r : Int) (w : World) (hr0_2 : Kd.C (Kd.int .i64) w A0_2 l0_2.length l0_2) (hc0_2 : l0_2.length ≤ c0_2) (hr0_3 : Kd.C (Kd.int .i64) w A0_3 l0_3.length l0_3) (hc0_3 : l0_3.length ≤ c0_3) (hr0_4 : Kd.C (Kd.int .i64) w A0_4 l0_4.length l0_4) (hc0_4 : l0_4.length ≤ c0_4) (hr0_5 : Kd.C k50 w A0_5 l0_5.length l0_5) (hc0_5 : l0_5.length ≤ c0_5) (h : lane_Validate.f k a0_0 a0_1 l0_2 l0_3 l0_4 l0_5 = some r) :
  Calls Try.prog 18 #[.agg #[.int .i64 a0_0,.int .i64 a0_1,.slice A0_2 l0_2.length c0_2,.slice A0_3 l0_3.length c0_3,.slice A0_4 l0_4.length c0_4,.slice A0_5 l0_5.length c0_5]] w fun e w' => e = .returned (.int .i64 r) ∧ Below w.heap.size w w':=by
 have hu33:=Try.underlying33
 have hu24:=Try.underlying24
 have hu50:=Try.underlying50
 have HR0_2:=Aside0.mk hr0_2
 have HC0_2:=Aside0.mk hc0_2
 clear hr0_2 hc0_2
 have HR0_3:=Aside0.mk hr0_3
 have HC0_3:=Aside0.mk hc0_3
 clear hr0_3 hc0_3
 have HR0_4:=Aside0.mk hr0_4
 have HC0_4:=Aside0.mk hc0_4
 clear hr0_4 hc0_4
 have HR0_5:=Aside0.mk hr0_5
 have HC0_5:=Aside0.mk hc0_5
 clear hr0_5 hc0_5
 have HB:=Aside0.mk (Below.refl w.heap.size w)
 have H : ((road_Validate.f k a0_0 a0_1 l0_2 l0_3).bind fun t267 => (if t267 = 0 then (if (l0_5.length : Int) > 60 then (some 4) else (lane_Validate.l0 k (l0_4.length : Int) 0 a0_0 a0_1 l0_2 l0_3 l0_4 l0_5)) else (some t267))) = some r:=h
 clear h
 replace H:=Option.bind_eq_some_iff.mp H
 obtain ⟨t267,A20,H⟩:=H
 replace H : (if t267 = 0 then (if (l0_5.length : Int) > 60 then (some 4) else (lane_Validate.l0 k (l0_4.length : Int) 0 a0_0 a0_1 l0_2 l0_3 l0_4 l0_5)) else (some t267)) = some r:=H
 have A2:=Aside0.mk A20
 clear A20
 by_cases c3 : t267 = 0
 rotate_left
 ·rw [if_neg c3] at H
  have c3b0:=bqf c3
  have c3b1:=bnt c3
  obtain rfl:=Option.some.inj H
  go_enter Try.func18,Try.ntmps18
  go_wp2_with (first|((with_reducible refine gate_dst (N:=1) rfl ?_);refine box_ev (N:=1) (cs:=#[.int .i64 a0_0,.int .i64 a0_1,.slice A0_2 l0_2.length c0_2,.slice A0_3 l0_3.length c0_3,.slice A0_4 l0_4.length c0_4,.slice A0_5 l0_5.length c0_5]) (t:=33) ?_;intro gb266 hg w38 hbox hb;have BK266:=Aside0.mk (hbox);have GW266 : Aside0 (w.heap.size ≤ gb266):=gsz hg;have GE266:=GW266;replace HB:=hbs hb;clear hb hbox hg;obtain ⟨_,_,_,_,_,_,_,_,_,_,_,_⟩:=cells6 BK266.out)|(go_at_call 36;(with_reducible refine (road_Validate.calls k a0_0 a0_1 _ _ l0_2 _ _ l0_3 t267 _ ?_ ?_ ?_ ?_ A2.out).mono ?_);exact cq HR0_2;exact HC0_2.out;exact cq HR0_3;exact HC0_3.out;rintro e w40 ⟨rfl,hb⟩;replace BK266:=bkb BK266 hb;replace HB:=hbs hb))
  go_ret
  exact ⟨er_,hb_⟩
 rw [if_pos c3] at H
 have c3b0:=bqt c3
 have c3b1:=bnf c3
 clear c3
 by_cases c4 : (l0_5.length : Int) > 60
 ·rw [if_pos c4] at H
  have c4b0 : decide (60 < (l0_5.length : Int)) = true:=decide_eq_true c4
  have c4b1 : decide (60 < l0_5.length) = true:=decide_eq_true (by omega)
  clear c4
  obtain rfl:=Option.some.inj H
  go_enter Try.func18,Try.ntmps18
  go_wp2_with (first|((with_reducible refine gate_dst (N:=1) rfl ?_);refine box_ev (N:=1) (cs:=#[.int .i64 a0_0,.int .i64 a0_1,.slice A0_2 l0_2.length c0_2,.slice A0_3 l0_3.length c0_3,.slice A0_4 l0_4.length c0_4,.slice A0_5 l0_5.length c0_5]) (t:=33) ?_;intro gb266 hg w5 hbox hb;have BK266:=Aside0.mk (hbox);have GW266 : Aside0 (w.heap.size ≤ gb266):=gsz hg;have GE266:=GW266;replace HB:=hbs hb;clear hb hbox hg;obtain ⟨_,_,_,_,_,_,_,_,_,_,_,_⟩:=cells6 BK266.out)|(go_at_call 36;(with_reducible refine (road_Validate.calls k a0_0 a0_1 _ _ l0_2 _ _ l0_3 t267 _ ?_ ?_ ?_ ?_ A2.out).mono ?_);exact cq HR0_2;exact HC0_2.out;exact cq HR0_3;exact HC0_3.out;rintro e w7 ⟨rfl,hb⟩;replace BK266:=bkb BK266 hb;replace HB:=hbs hb;obtain ⟨_,_,_,_,_,_,_,_,_,_,_,_⟩:=cells6 BK266.out))
  go_ret
  exact ⟨er_,hb_⟩
 rw [if_neg c4] at H
 have c4b0 : decide (60 < (l0_5.length : Int)) = false:=decide_eq_false c4
 have c4b1 : decide (60 < l0_5.length) = false:=decide_eq_false (by omega)
 clear c4
 have H':=Aside0.mk H
 clear H
 go_enter Try.func18,Try.ntmps18
 go_wp2_with (first|((with_reducible refine gate_dst (N:=1) rfl ?_);refine box_ev (N:=1) (cs:=#[.int .i64 a0_0,.int .i64 a0_1,.slice A0_2 l0_2.length c0_2,.slice A0_3 l0_3.length c0_3,.slice A0_4 l0_4.length c0_4,.slice A0_5 l0_5.length c0_5]) (t:=33) ?_;intro gb266 hg w9 hbox hb;have BK266:=Aside0.mk (hbox);have GW266 : Aside0 (w.heap.size ≤ gb266):=gsz hg;have GE266:=GW266;replace HB:=hbs hb;clear hb hbox hg;obtain ⟨_,_,_,_,_,_,_,_,_,_,_,_⟩:=cells6 BK266.out)|(go_at_call 36;(with_reducible refine (road_Validate.calls k a0_0 a0_1 _ _ l0_2 _ _ l0_3 t267 _ ?_ ?_ ?_ ?_ A2.out).mono ?_);exact cq HR0_2;exact HC0_2.out;exact cq HR0_3;exact HC0_3.out;rintro e w11 ⟨rfl,hb⟩;replace BK266:=bkb BK266 hb;replace HB:=hbs hb;obtain ⟨_,_,_,_,_,_,_,_,_,_,_,_⟩:=cells6 BK266.out))
 go_loopg [20] k (fun kq v20 w' => ∃ (x20_1 : Int),v20 = .int .i64 x20_1 ∧ Aside0 (lane_Validate.l0 kq (l0_4.length : Int) x20_1 a0_0 a0_1 l0_2 l0_3 l0_4 l0_5 = some r) ∧ Aside0 (kq ≤ k) ∧ Aside0 (w'.heap[gb266]? = some (.cells #[.int .i64 a0_0,.int .i64 a0_1,(.slice A0_2 l0_2.length c0_2),(.slice A0_3 l0_3.length c0_3),(.slice A0_4 l0_4.length c0_4),(.slice A0_5 l0_5.length c0_5)] 33 (0,0))) ∧ Aside0 (Below w.heap.size w w'))
 case atStart => exact ⟨(0),(by first|rfl|(simp;done)|(simp [*];done)),H',⟨Nat.le_refl _⟩,⟨blk_up BK266.out⟩,⟨hb_⟩⟩
 case round =>
  clear H'
  obtain ⟨x20_1,rfl,HA,HK1,BK266,HB⟩:=hrel
  cases gk with
  | zero => exact absurd HA.out (by simp [lane_Validate.l0])
  | succ k1 =>
   have H:=HA.out
   clear HA
   simp only [lane_Validate.l0] at H
   by_cases c13 : x20_1 < (l0_4.length : Int)
   ·rw [if_pos c13] at H
    have c13b0 : decide (x20_1 < (l0_4.length : Int)) = true:=decide_eq_true c13
    clear c13
    by_cases c14 : x20_1 > 0
    rotate_left
    ·rw [if_neg c14] at H
     have c14b0 : decide (0 < x20_1) = false:=decide_eq_false c14
     clear c14
     have H':=Aside0.mk H
     clear H
     go_wp2
     go_quiet (fail)
     go_wp2
     go_roundg k1
     case measure => have:=HK1.out;omega
     case rel => exact ⟨(wrap64 (x20_1 + 1)),(by first|rfl|(simp;done)|(simp [*];done)),H',⟨by have:=HK1.out;omega⟩,⟨blk_up BK266.out⟩,⟨hb_⟩⟩
    rw [if_pos c14] at H
    have c14b0 : decide (0 < x20_1) = true:=decide_eq_true c14
    clear c14
    obtain ⟨ji15,hji15⟩ : ∃ j_ : Int,(wrap64 (x20_1 - 1)) = j_:=⟨_,rfl⟩
    replace H : (if 0 ≤ (ji15) then (if (ji15) < (l0_4.length : Int) then (if 0 ≤ x20_1 then (if x20_1 < (l0_4.length : Int) then (if (rd l0_4 (ji15)) ≥ (rd l0_4 x20_1) then (some 1) else (lane_Validate.l0 k1 (l0_4.length : Int) (wrap64 (x20_1 + 1)) a0_0 a0_1 l0_2 l0_3 l0_4 l0_5)) else (none)) else (none)) else (none)) else (none)) = some r:=by first|(rw [hji15] at H;exact H)|(simp only [hji15] at H ⊢;exact H)
    have hji15w : (IntKind.i64.wrap (x20_1 - 1)) = ji15:=(i64_w _).trans hji15
    replace H:=ifp_ H;obtain ⟨c16,H⟩:=H
    have c16b0 : decide (0 ≤ (ji15)) = true:=decide_eq_true c16
    clear c16
    replace H:=ifp_ H;obtain ⟨c17,H⟩:=H
    have c17b0 : decide ((ji15) < (l0_4.length : Int)) = true:=decide_eq_true c17
    clear c17
    replace H:=ifp_ H;obtain ⟨c18,H⟩:=H
    have c18b0 : decide (0 ≤ x20_1) = true:=decide_eq_true c18
    clear c18
    replace H:=ifp_ H;obtain ⟨c19,H⟩:=H
    have c19b0 : decide (x20_1 < (l0_4.length : Int)) = true:=decide_eq_true c19
    clear c19
    by_cases c20 : (rd l0_4 (ji15)) ≥ (rd l0_4 x20_1)
    ·rw [if_pos c20] at H
     have c20b0 : decide ((rd l0_4 x20_1) ≤ (rd l0_4 (ji15))) = true:=decide_eq_true c20
     clear c20
     obtain rfl:=Option.some.inj H
     obtain ⟨_,_,_,_,_,_,_,_,_,_,_,_⟩:=cells6 BK266.out
     have p268 : 0 ≤ ((ji15) : Int):=of_decide_eq_true (by first|(with_reducible assumption)|assumption)
     have q268 : (ji15) < (l0_4.length : Int):=of_decide_eq_true (by first|(with_reducible assumption)|assumption)
     obtain ⟨ad268,e268,hx268_0⟩:=Kd.at_int HR0_4.out (ji15) p268 q268
     cases e268
     replace hx268_0:=(HB.out.cell (World.block_lt_of_cell? w _ hx268_0)).trans hx268_0
     replace p268:=eq_true p268
     replace q268:=eq_true q268
     have p269 : 0 ≤ (x20_1 : Int):=of_decide_eq_true (by first|(with_reducible assumption)|assumption)
     have q269 : x20_1 < (l0_4.length : Int):=of_decide_eq_true (by first|(with_reducible assumption)|assumption)
     obtain ⟨ad269,e269,hx269_0⟩:=Kd.at_int HR0_4.out x20_1 p269 q269
     obtain rfl : ad268 = ad269:=(by injection e269)
     replace hx269_0:=(HB.out.cell (World.block_lt_of_cell? w _ hx269_0)).trans hx269_0
     replace p269:=eq_true p269
     replace q269:=eq_true q269
     go_wp2
     go_quiet (fail)
     go_wp2
     go_ret
     exact ⟨by first|rfl|(simp [errW_none,errW_some] <;> rfl)|(simp only [← hji15];first|rfl|(simp [errW_none,errW_some] <;> rfl))|(simp [*,errW_none,errW_some] <;> rfl),hb_⟩
    ·rw [if_neg c20] at H
     have c20b0 : decide ((rd l0_4 x20_1) ≤ (rd l0_4 (ji15))) = false:=decide_eq_false c20
     clear c20
     have H':=Aside0.mk H
     clear H
     obtain ⟨_,_,_,_,_,_,_,_,_,_,_,_⟩:=cells6 BK266.out
     have p268 : 0 ≤ ((ji15) : Int):=of_decide_eq_true (by first|(with_reducible assumption)|assumption)
     have q268 : (ji15) < (l0_4.length : Int):=of_decide_eq_true (by first|(with_reducible assumption)|assumption)
     obtain ⟨ad268,e268,hx268_0⟩:=Kd.at_int HR0_4.out (ji15) p268 q268
     cases e268
     replace hx268_0:=(HB.out.cell (World.block_lt_of_cell? w _ hx268_0)).trans hx268_0
     replace p268:=eq_true p268
     replace q268:=eq_true q268
     have p269 : 0 ≤ (x20_1 : Int):=of_decide_eq_true (by first|(with_reducible assumption)|assumption)
     have q269 : x20_1 < (l0_4.length : Int):=of_decide_eq_true (by first|(with_reducible assumption)|assumption)
     obtain ⟨ad269,e269,hx269_0⟩:=Kd.at_int HR0_4.out x20_1 p269 q269
     obtain rfl : ad268 = ad269:=(by injection e269)
     replace hx269_0:=(HB.out.cell (World.block_lt_of_cell? w _ hx269_0)).trans hx269_0
     replace p269:=eq_true p269
     replace q269:=eq_true q269
     go_wp2
     go_quiet (fail)
     go_wp2
     go_roundg k1
     case measure => have:=HK1.out;omega
     case rel => exact ⟨(wrap64 (x20_1 + 1)),(by first|rfl|(simp;done)|(simp [*];done)),H',⟨by have:=HK1.out;omega⟩,⟨blk_up BK266.out⟩,⟨hb_⟩⟩
   rw [if_neg c13] at H
   have c13b0 : decide (x20_1 < (l0_4.length : Int)) = false:=decide_eq_false c13
   clear c13
   have H':=Aside0.mk H
   clear H
   obtain ⟨_,_,_,_,_,_,_,_,_,_,_,_⟩:=cells6 BK266.out
   go_wp2
   go_loopg [43] k1 (fun kq v43 w' => ∃ (x43_2 : Int),v43 = .int .i64 x43_2 ∧ Aside0 (lane_Validate.l1 kq l0_5 (l0_5.length : Int) x43_2 a0_0 a0_1 l0_2 l0_3 l0_4 l0_5 = some r) ∧ Aside0 (kq ≤ k1) ∧ Aside0 (w'.heap[gb266]? = some (.cells #[.int .i64 a0_0,.int .i64 a0_1,(.slice A0_2 l0_2.length c0_2),(.slice A0_3 l0_3.length c0_3),(.slice A0_4 l0_4.length c0_4),(.slice A0_5 l0_5.length c0_5)] 33 (0,0))) ∧ Aside0 (Below w.heap.size w w'))
   case atStart => exact ⟨(0),(by first|rfl|(simp;done)|(simp [*];done)),H',⟨Nat.le_refl _⟩,⟨blk_up BK266.out⟩,⟨hb_⟩⟩
   case round =>
    clear H'
    obtain ⟨x43_2,rfl,HA,HK2,BK266,HB⟩:=hrel
    cases gk with
    | zero => exact absurd HA.out (by simp [lane_Validate.l1])
    | succ k2 =>
     have H:=HA.out
     clear HA
     simp only [lane_Validate.l1] at H
     by_cases c24 : x43_2 < (l0_5.length : Int)
     rotate_left
     ·rw [if_neg c24] at H
      have c24b0 : decide (x43_2 < (l0_5.length : Int)) = false:=decide_eq_false c24
      clear c24
      replace H:=Option.bind_eq_some_iff.mp H
      obtain ⟨t273,A350,H⟩:=H
      replace H : (some t273) = some r:=H
      have A35:=Aside0.mk A350
      clear A350
      obtain rfl:=Option.some.inj H
      obtain ⟨_,_,_,_,_,_,_,_,_,_,_,_⟩:=cells6 BK266.out
      go_wp2_with (first|(go_at_call 43;(with_reducible refine (lane_stand.calls k2 a0_0 a0_1 _ _ l0_2 _ _ l0_3 _ _ l0_4 _ _ l0_5 t273 _ ?_ ?_ ?_ ?_ ?_ ?_ ?_ ?_ A35.out).mono ?_);exact cq HR0_2;exact HC0_2.out;exact cq HR0_3;exact HC0_3.out;exact cq HR0_4;exact HC0_4.out;exact cq HR0_5;exact HC0_5.out;rintro e w37 ⟨rfl,hb⟩;replace BK266:=bkb BK266 hb;replace HB:=hbs hb))
      go_ret
      exact ⟨er_,hb_⟩
     rw [if_pos c24] at H
     have c24b0 : decide (x43_2 < (l0_5.length : Int)) = true:=decide_eq_true c24
     clear c24
     replace H:=ifp_ H;obtain ⟨c25,H⟩:=H
     have c25b0 : decide (0 ≤ x43_2) = true:=decide_eq_true c25
     clear c25
     replace H:=ifp_ H;obtain ⟨c26,H⟩:=H
     have c26b0 : decide (x43_2 < (l0_5.length : Int)) = true:=decide_eq_true c26
     clear c26
     replace H:=Option.bind_eq_some_iff.mp H
     obtain ⟨t272,A270,H⟩:=H
     replace H : (if t272 = true then (lane_Validate.l1 k2 l0_5 (l0_5.length : Int) (wrap64 (x43_2 + 1)) a0_0 a0_1 l0_2 l0_3 l0_4 l0_5) else (some 1)) = some r:=H
     have A27:=Aside0.mk A270
     clear A270
     by_cases c28 : t272 = true
     ·subst c28
      have H1 : (lane_Validate.l1 k2 l0_5 (l0_5.length : Int) (wrap64 (x43_2 + 1)) a0_0 a0_1 l0_2 l0_3 l0_4 l0_5) = some r:=by rw [if_pos rfl] at H;exact H
      clear H
      have H:=H1
      clear H1
      have H':=Aside0.mk H
      clear H
      have p270 : 0 ≤ (x43_2 : Int):=of_decide_eq_true (by first|(with_reducible assumption)|assumption)
      have q270 : x43_2 < (l0_5.length : Int):=of_decide_eq_true (by first|(with_reducible assumption)|assumption)
      obtain ⟨ad270,e270,hx270_0,hx270_1,hx270_2,hx270_3,hx270_4⟩:=at_T50 HR0_5.out x43_2 p270 q270
      cases e270
      replace hx270_0:=(HB.out.cell (World.block_lt_of_cell? w _ hx270_0)).trans hx270_0
      replace hx270_1:=(HB.out.cell (World.block_lt_of_cell? w _ hx270_1)).trans hx270_1
      replace hx270_2:=(HB.out.cell (World.block_lt_of_cell? w _ hx270_2)).trans hx270_2
      replace hx270_3:=(HB.out.cell (World.block_lt_of_cell? w _ hx270_3)).trans hx270_3
      replace hx270_4:=(HB.out.cell (World.block_lt_of_cell? w _ hx270_4)).trans hx270_4
      replace p270:=eq_true p270
      replace q270:=eq_true q270
      go_wp2_with (first|((with_reducible refine gate_dst (N:=6) rfl ?_);refine box_ev (N:=6) (cs:=#[.int .i64 0,.int .i64 0,.int .i64 0,.int .i64 0,.int .i64 0]) (t:=50) ?_;intro gb271 hg w29 hbox hb;have BK271:=Aside0.mk (hbox);have GW271 : Aside0 (w.heap.size ≤ gb271):=gsz hg;have GE271:=GW271;have NB266_271:=nbl BK266 hg;have NB271_266:=nbr BK266 hg;replace BK266:=bkb BK266 hb;replace HB:=hbs hb;clear hb hbox hg;have hnb30:=NB271_266.out;have hnc30:=NB266_271.out;obtain ⟨_,_,_,_,_,_,_,_,_,_⟩:=cells5 BK271.out)|(go_at_call 42;(with_reducible refine (lane_moves.calls ((rd_T50 l0_5 x43_2).f0) ((rd_T50 l0_5 x43_2).f1) ((rd_T50 l0_5 x43_2).f2) ((rd_T50 l0_5 x43_2).f3) ((rd_T50 l0_5 x43_2).f4) true _ A27.out).mono ?_);rintro e w' ⟨rfl,⟨nd,rfl⟩⟩;(try first|exact ⟨rfl,_,World.drewN_drewN _ _ _⟩|exact ⟨rfl,_,Eq.trans (World.drewN_drewN _ _ _) (congrArg (World.drewN _) (Nat.add_assoc _ _ _))⟩)))
      go_roundg k2
      case measure => have:=HK1.out;have:=HK2.out;omega
      case rel => exact ⟨(wrap64 (x43_2 + 1)),(by first|rfl|(simp;done)|(simp [*];done)),H',⟨by have:=HK1.out;have:=HK2.out;omega⟩,⟨by (with_reducible repeat (first|refine blk_drewN ?_ _|refine blk_drew ?_|refine blk_alloc ?_ _));refine blk_far ?_ NB266_271.out _;(with_reducible repeat (first|refine blk_drewN ?_ _|refine blk_drew ?_|refine blk_alloc ?_ _));refine blk_far ?_ NB266_271.out _;(with_reducible repeat (first|refine blk_drewN ?_ _|refine blk_drew ?_|refine blk_alloc ?_ _));refine blk_far ?_ NB266_271.out _;(with_reducible repeat (first|refine blk_drewN ?_ _|refine blk_drew ?_|refine blk_alloc ?_ _));refine blk_far ?_ NB266_271.out _;(with_reducible repeat (first|refine blk_drewN ?_ _|refine blk_drew ?_|refine blk_alloc ?_ _));refine blk_far ?_ NB266_271.out _;(with_reducible repeat (first|refine blk_drewN ?_ _|refine blk_drew ?_|refine blk_alloc ?_ _));exact BK266.out⟩,⟨hb_⟩⟩
     ·replace c28:=Bool.eq_false_iff.mpr c28
      subst c28
      have H1 : (some 1) = some r:=by rw [if_neg (show ¬ (false = true) by decide)] at H;exact H
      clear H
      have H:=H1
      clear H1
      obtain rfl:=Option.some.inj H
      have p270 : 0 ≤ (x43_2 : Int):=of_decide_eq_true (by first|(with_reducible assumption)|assumption)
      have q270 : x43_2 < (l0_5.length : Int):=of_decide_eq_true (by first|(with_reducible assumption)|assumption)
      obtain ⟨ad270,e270,hx270_0,hx270_1,hx270_2,hx270_3,hx270_4⟩:=at_T50 HR0_5.out x43_2 p270 q270
      cases e270
      replace hx270_0:=(HB.out.cell (World.block_lt_of_cell? w _ hx270_0)).trans hx270_0
      replace hx270_1:=(HB.out.cell (World.block_lt_of_cell? w _ hx270_1)).trans hx270_1
      replace hx270_2:=(HB.out.cell (World.block_lt_of_cell? w _ hx270_2)).trans hx270_2
      replace hx270_3:=(HB.out.cell (World.block_lt_of_cell? w _ hx270_3)).trans hx270_3
      replace hx270_4:=(HB.out.cell (World.block_lt_of_cell? w _ hx270_4)).trans hx270_4
      replace p270:=eq_true p270
      replace q270:=eq_true q270
      go_wp2_with (first|((with_reducible refine gate_dst (N:=6) rfl ?_);refine box_ev (N:=6) (cs:=#[.int .i64 0,.int .i64 0,.int .i64 0,.int .i64 0,.int .i64 0]) (t:=50) ?_;intro gb271 hg w32 hbox hb;have BK271:=Aside0.mk (hbox);have GW271 : Aside0 (w.heap.size ≤ gb271):=gsz hg;have GE271:=GW271;have NB266_271:=nbl BK266 hg;have NB271_266:=nbr BK266 hg;replace BK266:=bkb BK266 hb;replace HB:=hbs hb;clear hb hbox hg;have hnb33:=NB271_266.out;have hnc33:=NB266_271.out;obtain ⟨_,_,_,_,_,_,_,_,_,_⟩:=cells5 BK271.out)|(go_at_call 42;(with_reducible refine (lane_moves.calls ((rd_T50 l0_5 x43_2).f0) ((rd_T50 l0_5 x43_2).f1) ((rd_T50 l0_5 x43_2).f2) ((rd_T50 l0_5 x43_2).f3) ((rd_T50 l0_5 x43_2).f4) false _ A27.out).mono ?_);rintro e w' ⟨rfl,⟨nd,rfl⟩⟩;(try first|exact ⟨rfl,_,World.drewN_drewN _ _ _⟩|exact ⟨rfl,_,Eq.trans (World.drewN_drewN _ _ _) (congrArg (World.drewN _) (Nat.add_assoc _ _ _))⟩)))
      go_ret
      exact ⟨er_,hb_⟩

end Go.Proofs.Ythjmdpekcleihaa.P

/- Functions of this seat as plain Lean functions, with proofs that the Go code comes to just their answers, or what stands between them and a law's statement; no conditions. (Laid by a program of this session, out of the kit's print.) -/
import Derived.Test.YthjmdpekcleihaaPx0
namespace Go.Proofs.Ythjmdpekcleihaa.P
open Go.RowKit Go.Proofs.YthjmdpekcleihaaW.PrintWords Go.Proofs.YthjmdpekcleihaaW.PrintLast Go.Proofs.YthjmdpekcleihaaW.PrintMore
attribute [local go_sem] max2_int min2_int max_two min_two max_three min_three max_four min_four   -- for this text's walks alone
set_option linter.unusedVariables false
set_option linter.unusedSimpArgs false

/-! ### hinterlandlaw17_wide: function 12 -/
def hinterlandlaw17_wide.f (a0_0 : Int) (a0_1 : Int) (l0_2 : List Int) (l0_3 : List Int) : Option (Bool) := if (l0_2.length : Int) > 1100 then (some true) else (some (decide ((l0_3.length : Int) > 1100)))
set_option maxHeartbeats 8000000 in
set_option maxRecDepth 100000 in
theorem hinterlandlaw17_wide.calls (a0_0 : Int) (a0_1 : Int) (A0_2 : Option Addr) (c0_2 : Nat) (l0_2 : List Int) (A0_3 : Option Addr) (c0_3 : Nat) (l0_3 : List Int) (r : Bool) (w : World) (hr0_2 : Kd.C (Kd.int .i64) w A0_2 l0_2.length l0_2) (hc0_2 : l0_2.length ≤ c0_2) (hr0_3 : Kd.C (Kd.int .i64) w A0_3 l0_3.length l0_3) (hc0_3 : l0_3.length ≤ c0_3) (h : hinterlandlaw17_wide.f a0_0 a0_1 l0_2 l0_3 = some r) :
  Calls Try.prog 12 #[.agg #[.int .i64 a0_0,.int .i64 a0_1,.slice A0_2 l0_2.length c0_2,.slice A0_3 l0_3.length c0_3]] w fun e w' => e = .returned (.bool r) ∧ Below w.heap.size w w':=by
 have hu24:=Try.underlying24
 have HR0_2:=Aside0.mk hr0_2
 have HC0_2:=Aside0.mk hc0_2
 clear hr0_2 hc0_2
 have HR0_3:=Aside0.mk hr0_3
 have HC0_3:=Aside0.mk hc0_3
 clear hr0_3 hc0_3
 have HB:=Aside0.mk (Below.refl w.heap.size w)
 have H : (if (l0_2.length : Int) > 1100 then (some true) else (some (decide ((l0_3.length : Int) > 1100)))) = some r:=h
 clear h
 by_cases c2 : (l0_2.length : Int) > 1100
 ·rw [if_pos c2] at H
  have c2b0 : decide (1100 < (l0_2.length : Int)) = true:=decide_eq_true c2
  have c2b1 : decide (1100 < l0_2.length) = true:=decide_eq_true (by omega)
  clear c2
  obtain rfl:=Option.some.inj H
  go_enter Try.func12,Try.ntmps12
  go_wp2_with (first|((with_reducible refine gate_dst (N:=1) rfl ?_);(try (refine gate_guard (by rfl) ?_;dsimp only));refine box_ev (N:=1) (cs:=#[.int .i64 a0_0,.int .i64 a0_1,.slice A0_2 l0_2.length c0_2,.slice A0_3 l0_3.length c0_3]) (t:=24) ?_;intro gb101 hg w3 hbox hb;have BK101:=Aside0.mk (hbox);have GW101 : Aside0 (w.heap.size ≤ gb101):=gsz hg;have GE101:=GW101;replace HB:=hbs hb;clear hb hbox hg;obtain ⟨_,_,_,_,_,_,_,_⟩:=cells4 BK101.out))
  go_ret
  exact ⟨er_,hb_⟩
 ·rw [if_neg c2] at H
  have c2b0 : decide (1100 < (l0_2.length : Int)) = false:=decide_eq_false c2
  have c2b1 : decide (1100 < l0_2.length) = false:=decide_eq_false (by omega)
  clear c2
  obtain rfl:=Option.some.inj H
  go_enter Try.func12,Try.ntmps12
  go_wp2_with (first|((with_reducible refine gate_dst (N:=1) rfl ?_);(try (refine gate_guard (by rfl) ?_;dsimp only));refine box_ev (N:=1) (cs:=#[.int .i64 a0_0,.int .i64 a0_1,.slice A0_2 l0_2.length c0_2,.slice A0_3 l0_3.length c0_3]) (t:=24) ?_;intro gb101 hg w5 hbox hb;have BK101:=Aside0.mk (hbox);have GW101 : Aside0 (w.heap.size ≤ gb101):=gsz hg;have GE101:=GW101;replace HB:=hbs hb;clear hb hbox hg;obtain ⟨_,_,_,_,_,_,_,_⟩:=cells4 BK101.out))
  go_ret
  exact ⟨er_,hb_⟩

/-! ### hinterlandref04_side: function 61 -/
def hinterlandref04_side.f (a0 : Int) : Option (Bool) := if a0 ≥ 4 then (some (decide (a0 ≤ 32))) else (some false)
set_option maxHeartbeats 8000000 in
set_option maxRecDepth 100000 in
theorem hinterlandref04_side.calls (a0 : Int) (r : Bool) (w : World) (h : hinterlandref04_side.f a0 = some r) :
  Calls Try.prog 61 #[.int .i64 a0] w fun e w' => e = .returned (.bool r) ∧ Drawn0 w w':=by
 have H : (if a0 ≥ 4 then (some (decide (a0 ≤ 32))) else (some false)) = some r:=h
 clear h
 by_cases c2 : a0 ≥ 4
 ·rw [if_pos c2] at H
  have c2b0 : decide (4 ≤ a0) = true:=decide_eq_true c2
  clear c2
  obtain rfl:=Option.some.inj H
  go_enter Try.func61,Try.ntmps61
  go_wp2
  go_ret
  exact ⟨by first|rfl|(simp;done)|(simp [*];done),by repeat (first|exact Drawn0.refl _|apply Drawn0.step)⟩
 ·rw [if_neg c2] at H
  have c2b0 : decide (4 ≤ a0) = false:=decide_eq_false c2
  clear c2
  obtain rfl:=Option.some.inj H
  go_enter Try.func61,Try.ntmps61
  go_wp2
  go_ret
  exact ⟨by first|rfl|(simp;done)|(simp [*];done),by repeat (first|exact Drawn0.refl _|apply Drawn0.step)⟩

/-! ### hinterlandref04_straight: function 62 -/
def hinterlandref04_straight.f (a0 : Int) : Option (Bool) := if a0 = 5 then (some true) else (some (a0 == 10))
set_option maxHeartbeats 8000000 in
set_option maxRecDepth 100000 in
theorem hinterlandref04_straight.calls (a0 : Int) (r : Bool) (w : World) (h : hinterlandref04_straight.f a0 = some r) :
  Calls Try.prog 62 #[.int .i64 a0] w fun e w' => e = .returned (.bool r) ∧ Drawn0 w w':=by
 have H : (if a0 = 5 then (some true) else (some (a0 == 10))) = some r:=h
 clear h
 by_cases c2 : a0 = 5
 ·rw [if_pos c2] at H
  have c2b0:=bqt c2
  have c2b1:=bnf c2
  clear c2
  obtain rfl:=Option.some.inj H
  go_enter Try.func62,Try.ntmps62
  go_wp2
  go_ret
  exact ⟨by first|rfl|(simp;done)|(simp [*];done),by repeat (first|exact Drawn0.refl _|apply Drawn0.step)⟩
 ·rw [if_neg c2] at H
  have c2b0:=bqf c2
  have c2b1:=bnt c2
  obtain rfl:=Option.some.inj H
  go_enter Try.func62,Try.ntmps62
  go_wp2
  go_ret
  exact ⟨by first|rfl|(simp;done)|(simp [*];done),by repeat (first|exact Drawn0.refl _|apply Drawn0.step)⟩

/-! ### hinterlandref04_Validate: function 34 -/
mutual
def hinterlandref04_Validate.j0 : Nat → Bool → Int → Int → List Int → List Int → Option (Int)
 | 0,_,_,_,_,_ => none
 | k + 1,x40,x156000,x156001,x156002,x156003 => if x40 = true then (some 1) else (hinterlandref04_Validate.l0 k x156002 (x156002.length : Int) 0 x156000 x156001 x156002 x156003)
def hinterlandref04_Validate.l0 : Nat → List Int → Int → Int → Int → Int → List Int → List Int → Option (Int)
 | 0,_,_,_,_,_,_,_ => none
 | k + 1,x42,x43,x44,x156000,x156001,x156002,x156003 => if x44 < x43 then (if 0 ≤ x44 then (if x44 < (x42.length : Int) then (if (rd x42 x44) < 0 then (some 1) else (if (rd x42 x44) > 15 then (some 1) else (hinterlandref04_Validate.l0 k x42 x43 (wrap64 (x44 + 1)) x156000 x156001 x156002 x156003))) else (none)) else (none)) else (hinterlandref04_Validate.l1 k x156003 (x156003.length : Int) 0 x156000 x156001 x156002 x156003)
def hinterlandref04_Validate.l1 : Nat → List Int → Int → Int → Int → Int → List Int → List Int → Option (Int)
 | 0,_,_,_,_,_,_,_ => none
 | k + 1,x56,x57,x58,x156000,x156001,x156002,x156003 => if x58 < x57 then (if 0 ≤ x58 then (if x58 < (x56.length : Int) then (if (rd x56 x58) < 0 then (some 1) else (if (rd x56 x58) > 2 then (some 1) else (hinterlandref04_Validate.l1 k x56 x57 (wrap64 (x58 + 1)) x156000 x156001 x156002 x156003))) else (none)) else (none)) else (hinterlandref04_Validate.l2 k x156003 (x156003.length : Int) 0 x156000 x156001 x156002 x156003)
def hinterlandref04_Validate.l2 : Nat → List Int → Int → Int → Int → Int → List Int → List Int → Option (Int)
 | 0,_,_,_,_,_,_,_ => none
 | k + 1,x70,x71,x72,x156000,x156001,x156002,x156003 => if x72 < x71 then (if 0 ≤ x72 then (if x72 < (x70.length : Int) then (if (rd x70 x72) = 0 then (hinterlandref04_Validate.l2 k x70 x71 (wrap64 (x72 + 1)) x156000 x156001 x156002 x156003) else (if x72 < (x156002.length : Int) then ((hinterlandref04_straight.f (rd x156002 x72)).bind fun t162 => (if t162 = true then (hinterlandref04_Validate.l2 k x70 x71 (wrap64 (x72 + 1)) x156000 x156001 x156002 x156003) else (some 9))) else (none))) else (none)) else (none)) else (some 0)
end
def hinterlandref04_Validate.f (k : Nat) (a0_0 : Int) (a0_1 : Int) (l0_2 : List Int) (l0_3 : List Int) : Option (Int) := (hinterlandref04_side.f a0_0).bind fun t156 => (if t156 = true then ((hinterlandref04_side.f a0_1).bind fun t157 => (if t157 = true then (if (l0_2.length : Int) = (wrap64 (a0_0 * a0_1)) then (hinterlandref04_Validate.j0 k ((l0_3.length : Int) != (wrap64 (a0_0 * a0_1))) a0_0 a0_1 l0_2 l0_3) else (hinterlandref04_Validate.j0 k true a0_0 a0_1 l0_2 l0_3)) else (hinterlandref04_Validate.j0 k true a0_0 a0_1 l0_2 l0_3))) else (hinterlandref04_Validate.j0 k true a0_0 a0_1 l0_2 l0_3))
theorem hinterlandref04_Validate.mono_l : ∀ k, (∀ y0 y1 y2 y3 y4, LeO (hinterlandref04_Validate.j0 k y0 y1 y2 y3 y4) (hinterlandref04_Validate.j0 (k + 1) y0 y1 y2 y3 y4)) ∧ (∀ y0 y1 y2 y3 y4 y5 y6, LeO (hinterlandref04_Validate.l0 k y0 y1 y2 y3 y4 y5 y6) (hinterlandref04_Validate.l0 (k + 1) y0 y1 y2 y3 y4 y5 y6)) ∧ (∀ y0 y1 y2 y3 y4 y5 y6, LeO (hinterlandref04_Validate.l1 k y0 y1 y2 y3 y4 y5 y6) (hinterlandref04_Validate.l1 (k + 1) y0 y1 y2 y3 y4 y5 y6)) ∧ (∀ y0 y1 y2 y3 y4 y5 y6, LeO (hinterlandref04_Validate.l2 k y0 y1 y2 y3 y4 y5 y6) (hinterlandref04_Validate.l2 (k + 1) y0 y1 y2 y3 y4 y5 y6))
 | 0 => ⟨fun _ _ _ _ _ r h => by simp [hinterlandref04_Validate.j0] at h,fun _ _ _ _ _ _ _ r h => by simp [hinterlandref04_Validate.l0] at h,fun _ _ _ _ _ _ _ r h => by simp [hinterlandref04_Validate.l1] at h,fun _ _ _ _ _ _ _ r h => by simp [hinterlandref04_Validate.l2] at h⟩
 | k + 1 => by
  obtain ⟨ih0,ih1,ih2,ih3⟩:=hinterlandref04_Validate.mono_l k
  refine ⟨?_,?_,?_,?_⟩
  ·intro y0 y1 y2 y3 y4
   unfold hinterlandref04_Validate.j0
   repeat' first
   | (with_reducible exact ih0 _ _ _ _ _)
   | (with_reducible exact ih1 _ _ _ _ _ _ _)
   | (with_reducible exact ih2 _ _ _ _ _ _ _)
   | (with_reducible exact ih3 _ _ _ _ _ _ _)
   | (with_reducible exact LeO.refl _)
   | (with_reducible exact LeO.none _)
   | (with_reducible refine LeO.ite ?_ ?_)
   | (with_reducible refine LeO.bind ?_ (fun _ => ?_))
   | exact ih0 _ _ _ _ _
   | exact ih1 _ _ _ _ _ _ _
   | exact ih2 _ _ _ _ _ _ _
   | exact ih3 _ _ _ _ _ _ _
   | exact LeO.none _
   | refine LeO.ite ?_ ?_
   | refine LeO.bind ?_ (fun _ => ?_)
  ·intro y0 y1 y2 y3 y4 y5 y6
   unfold hinterlandref04_Validate.l0
   repeat' first
   | (with_reducible exact ih0 _ _ _ _ _)
   | (with_reducible exact ih1 _ _ _ _ _ _ _)
   | (with_reducible exact ih2 _ _ _ _ _ _ _)
   | (with_reducible exact ih3 _ _ _ _ _ _ _)
   | (with_reducible exact LeO.refl _)
   | (with_reducible exact LeO.none _)
   | (with_reducible refine LeO.ite ?_ ?_)
   | (with_reducible refine LeO.bind ?_ (fun _ => ?_))
   | exact ih0 _ _ _ _ _
   | exact ih1 _ _ _ _ _ _ _
   | exact ih2 _ _ _ _ _ _ _
   | exact ih3 _ _ _ _ _ _ _
   | exact LeO.none _
   | refine LeO.ite ?_ ?_
   | refine LeO.bind ?_ (fun _ => ?_)
  ·intro y0 y1 y2 y3 y4 y5 y6
   unfold hinterlandref04_Validate.l1
   repeat' first
   | (with_reducible exact ih0 _ _ _ _ _)
   | (with_reducible exact ih1 _ _ _ _ _ _ _)
   | (with_reducible exact ih2 _ _ _ _ _ _ _)
   | (with_reducible exact ih3 _ _ _ _ _ _ _)
   | (with_reducible exact LeO.refl _)
   | (with_reducible exact LeO.none _)
   | (with_reducible refine LeO.ite ?_ ?_)
   | (with_reducible refine LeO.bind ?_ (fun _ => ?_))
   | exact ih0 _ _ _ _ _
   | exact ih1 _ _ _ _ _ _ _
   | exact ih2 _ _ _ _ _ _ _
   | exact ih3 _ _ _ _ _ _ _
   | exact LeO.none _
   | refine LeO.ite ?_ ?_
   | refine LeO.bind ?_ (fun _ => ?_)
  ·intro y0 y1 y2 y3 y4 y5 y6
   unfold hinterlandref04_Validate.l2
   repeat' first
   | (with_reducible exact ih0 _ _ _ _ _)
   | (with_reducible exact ih1 _ _ _ _ _ _ _)
   | (with_reducible exact ih2 _ _ _ _ _ _ _)
   | (with_reducible exact ih3 _ _ _ _ _ _ _)
   | (with_reducible exact LeO.refl _)
   | (with_reducible exact LeO.none _)
   | (with_reducible refine LeO.ite ?_ ?_)
   | (with_reducible refine LeO.bind ?_ (fun _ => ?_))
   | exact ih0 _ _ _ _ _
   | exact ih1 _ _ _ _ _ _ _
   | exact ih2 _ _ _ _ _ _ _
   | exact ih3 _ _ _ _ _ _ _
   | exact LeO.none _
   | refine LeO.ite ?_ ?_
   | refine LeO.bind ?_ (fun _ => ?_)
theorem hinterlandref04_Validate.mono : ∀ a0 a1 a2 a3 k, LeO (hinterlandref04_Validate.f k a0 a1 a2 a3) (hinterlandref04_Validate.f (k + 1) a0 a1 a2 a3) := by
 intro a0 a1 a2 a3 k
 obtain ⟨ih0,ih1,ih2,ih3⟩:=hinterlandref04_Validate.mono_l k
 unfold hinterlandref04_Validate.f
 repeat' first
   | (with_reducible exact ih0 _ _ _ _ _)
   | (with_reducible exact ih1 _ _ _ _ _ _ _)
   | (with_reducible exact ih2 _ _ _ _ _ _ _)
   | (with_reducible exact ih3 _ _ _ _ _ _ _)
   | (with_reducible exact LeO.refl _)
   | (with_reducible exact LeO.none _)
   | (with_reducible refine LeO.ite ?_ ?_)
   | (with_reducible refine LeO.bind ?_ (fun _ => ?_))
   | exact ih0 _ _ _ _ _
   | exact ih1 _ _ _ _ _ _ _
   | exact ih2 _ _ _ _ _ _ _
   | exact ih3 _ _ _ _ _ _ _
   | exact LeO.none _
   | refine LeO.ite ?_ ?_
   | refine LeO.bind ?_ (fun _ => ?_)
set_option maxHeartbeats 8000000 in
set_option maxRecDepth 100000 in
theorem hinterlandref04_Validate.calls (k : Nat) (a0_0 : Int) (a0_1 : Int) (A0_2 : Option Addr) (c0_2 : Nat) (l0_2 : List Int) (A0_3 : Option Addr) (c0_3 : Nat) (l0_3 : List Int) (r : Int) (w : World) (hr0_2 : Kd.C (Kd.int .i64) w A0_2 l0_2.length l0_2) (hc0_2 : l0_2.length ≤ c0_2) (hr0_3 : Kd.C (Kd.int .i64) w A0_3 l0_3.length l0_3) (hc0_3 : l0_3.length ≤ c0_3) (h : hinterlandref04_Validate.f k a0_0 a0_1 l0_2 l0_3 = some r) :
  Calls Try.prog 34 #[.agg #[.int .i64 a0_0,.int .i64 a0_1,.slice A0_2 l0_2.length c0_2,.slice A0_3 l0_3.length c0_3]] w fun e w' => e = .returned (.int .i64 r) ∧ Below w.heap.size w w':=by
 have hu24:=Try.underlying24
 have HR0_2:=Aside0.mk hr0_2
 have HC0_2:=Aside0.mk hc0_2
 clear hr0_2 hc0_2
 have HR0_3:=Aside0.mk hr0_3
 have HC0_3:=Aside0.mk hc0_3
 clear hr0_3 hc0_3
 have HB:=Aside0.mk (Below.refl w.heap.size w)
 have H : ((hinterlandref04_side.f a0_0).bind fun t156 => (if t156 = true then ((hinterlandref04_side.f a0_1).bind fun t157 => (if t157 = true then (if (l0_2.length : Int) = (wrap64 (a0_0 * a0_1)) then (hinterlandref04_Validate.j0 k ((l0_3.length : Int) != (wrap64 (a0_0 * a0_1))) a0_0 a0_1 l0_2 l0_3) else (hinterlandref04_Validate.j0 k true a0_0 a0_1 l0_2 l0_3)) else (hinterlandref04_Validate.j0 k true a0_0 a0_1 l0_2 l0_3))) else (hinterlandref04_Validate.j0 k true a0_0 a0_1 l0_2 l0_3))) = some r:=h
 clear h
 have HC2:=Aside0.mk H
 clear H
 go_enter Try.func34,Try.ntmps34
 go_upto_region 1 with (first|((with_reducible refine gate_dst (N:=1) rfl ?_);(try (refine gate_guard (by rfl) ?_;dsimp only));refine box_ev (N:=1) (cs:=#[.int .i64 a0_0,.int .i64 a0_1,.slice A0_2 l0_2.length c0_2,.slice A0_3 l0_3.length c0_3]) (t:=24) ?_;intro gb155 hg w3 hbox hb;have BK155:=Aside0.mk (hbox);have GW155 : Aside0 (w.heap.size ≤ gb155):=gsz hg;have GE155:=GW155;replace HB:=hbs hb;clear hb hbox hg))
 (try simp only [Act.put,List.setIfInBounds_toArray,List.set_cons_zero,List.set_cons_succ])
 go_cut [40] (fun v40 wc => ∃ (kq : Nat) (x40_1 : Bool),v40 = .bool x40_1 ∧ Aside0 (hinterlandref04_Validate.j0 kq x40_1 a0_0 a0_1 l0_2 l0_3 = some r) ∧ Aside0 (kq ≤ k) ∧ Aside0 (wc.heap[gb155]? = some (.cells #[.int .i64 a0_0,.int .i64 a0_1,(.slice A0_2 l0_2.length c0_2),(.slice A0_3 l0_3.length c0_3)] 24 (0,0))) ∧ Aside0 (Below w.heap.size w wc))
 case first =>
  have H:=HC2.out
  clear HC2
  replace H:=Option.bind_eq_some_iff.mp H
  obtain ⟨t156,A40,H⟩:=H
  replace H : (if t156 = true then ((hinterlandref04_side.f a0_1).bind fun t157 => (if t157 = true then (if (l0_2.length : Int) = (wrap64 (a0_0 * a0_1)) then (hinterlandref04_Validate.j0 k ((l0_3.length : Int) != (wrap64 (a0_0 * a0_1))) a0_0 a0_1 l0_2 l0_3) else (hinterlandref04_Validate.j0 k true a0_0 a0_1 l0_2 l0_3)) else (hinterlandref04_Validate.j0 k true a0_0 a0_1 l0_2 l0_3))) else (hinterlandref04_Validate.j0 k true a0_0 a0_1 l0_2 l0_3)) = some r:=H
  have A4:=Aside0.mk A40
  clear A40
  by_cases c5 : t156 = true
  ·subst c5
   have H1 : ((hinterlandref04_side.f a0_1).bind fun t157 => (if t157 = true then (if (l0_2.length : Int) = (wrap64 (a0_0 * a0_1)) then (hinterlandref04_Validate.j0 k ((l0_3.length : Int) != (wrap64 (a0_0 * a0_1))) a0_0 a0_1 l0_2 l0_3) else (hinterlandref04_Validate.j0 k true a0_0 a0_1 l0_2 l0_3)) else (hinterlandref04_Validate.j0 k true a0_0 a0_1 l0_2 l0_3))) = some r:=by rw [if_pos rfl] at H;exact H
   clear H
   have H:=H1
   clear H1
   replace H:=Option.bind_eq_some_iff.mp H
   obtain ⟨t157,A60,H⟩:=H
   replace H : (if t157 = true then (if (l0_2.length : Int) = (wrap64 (a0_0 * a0_1)) then (hinterlandref04_Validate.j0 k ((l0_3.length : Int) != (wrap64 (a0_0 * a0_1))) a0_0 a0_1 l0_2 l0_3) else (hinterlandref04_Validate.j0 k true a0_0 a0_1 l0_2 l0_3)) else (hinterlandref04_Validate.j0 k true a0_0 a0_1 l0_2 l0_3)) = some r:=H
   have A6:=Aside0.mk A60
   clear A60
   by_cases c7 : t157 = true
   ·subst c7
    have H1 : (if (l0_2.length : Int) = (wrap64 (a0_0 * a0_1)) then (hinterlandref04_Validate.j0 k ((l0_3.length : Int) != (wrap64 (a0_0 * a0_1))) a0_0 a0_1 l0_2 l0_3) else (hinterlandref04_Validate.j0 k true a0_0 a0_1 l0_2 l0_3)) = some r:=by rw [if_pos rfl] at H;exact H
    clear H
    have H:=H1
    clear H1
    by_cases c8 : (l0_2.length : Int) = (wrap64 (a0_0 * a0_1))
    ·rw [if_pos c8] at H
     have c8b0:=bqt c8
     have c8b1:=bnf c8
     clear c8
     (first|rw [c8b0]|(simp only [i64_w,i32_w];rw [c8b0])|skip)
     have H':=Aside0.mk H
     clear H
     obtain ⟨_,_,_,_,_,_,_,_⟩:=cells4 BK155.out
     go_wp2_with (first|((with_reducible refine gate_callee (f:=61) rfl ?_);refine goesL_ (some 11) rfl rfl Try.func61 (by kernel_rfl) rfl #[.int .i64 a0_0] rfl ga_ ?_;(with_reducible refine (hinterlandref04_side.calls a0_0 true _ A4.out).mono ?_);rintro e w' ⟨rfl,⟨nd,rfl⟩⟩;refine ⟨_,rfl,?_⟩)|(go_at_call 61;(with_reducible refine (hinterlandref04_side.calls a0_1 true _ A6.out).mono ?_);rintro e w' ⟨rfl,⟨nd,rfl⟩⟩))
     go_meet
     case rel => exact ⟨_,(((l0_3.length : Int) != (wrap64 (a0_0 * a0_1)))),(by first|rfl|(simp;done)|(simp [*];done)),H',⟨by first|omega|exact Nat.le_refl _⟩,⟨blk_up BK155.out⟩,⟨hb_⟩⟩
    ·rw [if_neg c8] at H
     have c8b0:=bqf c8
     have c8b1:=bnt c8
     (first|rw [c8b0]|(simp only [i64_w,i32_w];rw [c8b0])|skip)
     have H':=Aside0.mk H
     clear H
     obtain ⟨_,_,_,_,_,_,_,_⟩:=cells4 BK155.out
     go_wp2_with (first|((with_reducible refine gate_callee (f:=61) rfl ?_);refine goesL_ (some 11) rfl rfl Try.func61 (by kernel_rfl) rfl #[.int .i64 a0_0] rfl ga_ ?_;(with_reducible refine (hinterlandref04_side.calls a0_0 true _ A4.out).mono ?_);rintro e w' ⟨rfl,⟨nd,rfl⟩⟩;refine ⟨_,rfl,?_⟩)|(go_at_call 61;(with_reducible refine (hinterlandref04_side.calls a0_1 true _ A6.out).mono ?_);rintro e w' ⟨rfl,⟨nd,rfl⟩⟩))
     go_meet
     case rel => exact ⟨_,(true),(by first|rfl|(simp;done)|(simp [*];done)),H',⟨by first|omega|exact Nat.le_refl _⟩,⟨blk_up BK155.out⟩,⟨hb_⟩⟩
   ·replace c7:=Bool.eq_false_iff.mpr c7
    subst c7
    have H1 : (hinterlandref04_Validate.j0 k true a0_0 a0_1 l0_2 l0_3) = some r:=by rw [if_neg (show ¬ (false = true) by decide)] at H;exact H
    clear H
    have H:=H1
    clear H1
    have H':=Aside0.mk H
    clear H
    obtain ⟨_,_,_,_,_,_,_,_⟩:=cells4 BK155.out
    go_wp2_with (first|((with_reducible refine gate_callee (f:=61) rfl ?_);refine goesL_ (some 11) rfl rfl Try.func61 (by kernel_rfl) rfl #[.int .i64 a0_0] rfl ga_ ?_;(with_reducible refine (hinterlandref04_side.calls a0_0 true _ A4.out).mono ?_);rintro e w' ⟨rfl,⟨nd,rfl⟩⟩;refine ⟨_,rfl,?_⟩)|(go_at_call 61;(with_reducible refine (hinterlandref04_side.calls a0_1 false _ A6.out).mono ?_);rintro e w' ⟨rfl,⟨nd,rfl⟩⟩))
    go_meet
    case rel => exact ⟨_,(true),(by first|rfl|(simp;done)|(simp [*];done)),H',⟨by first|omega|exact Nat.le_refl _⟩,⟨blk_up BK155.out⟩,⟨hb_⟩⟩
  ·replace c5:=Bool.eq_false_iff.mpr c5
   subst c5
   have H1 : (hinterlandref04_Validate.j0 k true a0_0 a0_1 l0_2 l0_3) = some r:=by rw [if_neg (show ¬ (false = true) by decide)] at H;exact H
   clear H
   have H:=H1
   clear H1
   have H':=Aside0.mk H
   clear H
   obtain ⟨_,_,_,_,_,_,_,_⟩:=cells4 BK155.out
   go_wp2_with (first|((with_reducible refine gate_callee (f:=61) rfl ?_);refine goesL_ (some 11) rfl rfl Try.func61 (by kernel_rfl) rfl #[.int .i64 a0_0] rfl ga_ ?_;(with_reducible refine (hinterlandref04_side.calls a0_0 false _ A4.out).mono ?_);rintro e w' ⟨rfl,⟨nd,rfl⟩⟩;refine ⟨_,rfl,?_⟩))
   go_meet
   case rel => exact ⟨_,(true),(by first|rfl|(simp;done)|(simp [*];done)),H',⟨by first|omega|exact Nat.le_refl _⟩,⟨blk_up BK155.out⟩,⟨hb_⟩⟩
 case rest =>
  clear HC2
  obtain ⟨kq,x40_1,rfl,HA,HJ1,BK155,HB⟩:=hcut
  cases kq with
  | zero => exact absurd HA.out (by simp [hinterlandref04_Validate.j0])
  | succ kj1 =>
   have H:=HA.out
   clear HA
   simp only [hinterlandref04_Validate.j0] at H
   by_cases c13 : x40_1 = true
   ·subst c13
    have H1 : (some 1) = some r:=by rw [if_pos rfl] at H;exact H
    clear H
    have H:=H1
    clear H1
    obtain rfl:=Option.some.inj H
    go_wp2
    go_ret
    exact ⟨er_,hb_⟩
   ·replace c13:=Bool.eq_false_iff.mpr c13
    subst c13
    have H1 : (hinterlandref04_Validate.l0 kj1 l0_2 (l0_2.length : Int) 0 a0_0 a0_1 l0_2 l0_3) = some r:=by rw [if_neg (show ¬ (false = true) by decide)] at H;exact H
    clear H
    have H:=H1
    clear H1
    have H':=Aside0.mk H
    clear H
    obtain ⟨_,_,_,_,_,_,_,_⟩:=cells4 BK155.out
    go_wp2
    go_loopg [44] kj1 (fun kq v44 w' => ∃ (x44_2 : Int),v44 = .int .i64 x44_2 ∧ Aside0 (hinterlandref04_Validate.l0 kq l0_2 (l0_2.length : Int) x44_2 a0_0 a0_1 l0_2 l0_3 = some r) ∧ Aside0 (kq ≤ kj1) ∧ Aside0 (w'.heap[gb155]? = some (.cells #[.int .i64 a0_0,.int .i64 a0_1,(.slice A0_2 l0_2.length c0_2),(.slice A0_3 l0_3.length c0_3)] 24 (0,0))) ∧ Aside0 (Below w.heap.size w w'))
    case atStart => exact ⟨(0),(by first|rfl|(simp;done)|(simp [*];done)),H',⟨Nat.le_refl _⟩,⟨blk_up BK155.out⟩,⟨hb_⟩⟩
    case round =>
     clear H'
     obtain ⟨x44_2,rfl,HA,HK2,BK155,HB⟩:=hrel
     cases gk with
     | zero => exact absurd HA.out (by simp [hinterlandref04_Validate.l0])
     | succ k2 =>
      have H:=HA.out
      clear HA
      simp only [hinterlandref04_Validate.l0] at H
      by_cases c15 : x44_2 < (l0_2.length : Int)
      ·rw [if_pos c15] at H
       have c15b0 : decide (x44_2 < (l0_2.length : Int)) = true:=decide_eq_true c15
       clear c15
       replace H:=ifp_ H;obtain ⟨c16,H⟩:=H
       have c16b0 : decide (0 ≤ x44_2) = true:=decide_eq_true c16
       clear c16
       replace H:=ifp_ H;obtain ⟨c17,H⟩:=H
       have c17b0 : decide (x44_2 < (l0_2.length : Int)) = true:=decide_eq_true c17
       clear c17
       by_cases c18 : (rd l0_2 x44_2) < 0
       ·rw [if_pos c18] at H
        have c18b0 : decide ((rd l0_2 x44_2) < 0) = true:=decide_eq_true c18
        clear c18
        obtain rfl:=Option.some.inj H
        have p158 : 0 ≤ (x44_2 : Int):=of_decide_eq_true (by first|(with_reducible assumption)|assumption)
        have q158 : x44_2 < (l0_2.length : Int):=of_decide_eq_true (by first|(with_reducible assumption)|assumption)
        obtain ⟨ad158,e158,hx158_0⟩:=Kd.at_int HR0_2.out x44_2 p158 q158
        cases e158
        replace hx158_0:=(HB.out.cell (World.block_lt_of_cell? w _ hx158_0)).trans hx158_0
        replace p158:=eq_true p158
        replace q158:=eq_true q158
        go_wp2
        go_ret
        exact ⟨er_,hb_⟩
       rw [if_neg c18] at H
       have c18b0 : decide ((rd l0_2 x44_2) < 0) = false:=decide_eq_false c18
       clear c18
       by_cases c19 : (rd l0_2 x44_2) > 15
       ·rw [if_pos c19] at H
        have c19b0 : decide (15 < (rd l0_2 x44_2)) = true:=decide_eq_true c19
        clear c19
        obtain rfl:=Option.some.inj H
        have p158 : 0 ≤ (x44_2 : Int):=of_decide_eq_true (by first|(with_reducible assumption)|assumption)
        have q158 : x44_2 < (l0_2.length : Int):=of_decide_eq_true (by first|(with_reducible assumption)|assumption)
        obtain ⟨ad158,e158,hx158_0⟩:=Kd.at_int HR0_2.out x44_2 p158 q158
        cases e158
        replace hx158_0:=(HB.out.cell (World.block_lt_of_cell? w _ hx158_0)).trans hx158_0
        replace p158:=eq_true p158
        replace q158:=eq_true q158
        go_wp2
        go_ret
        exact ⟨er_,hb_⟩
       ·rw [if_neg c19] at H
        have c19b0 : decide (15 < (rd l0_2 x44_2)) = false:=decide_eq_false c19
        clear c19
        have H':=Aside0.mk H
        clear H
        have p158 : 0 ≤ (x44_2 : Int):=of_decide_eq_true (by first|(with_reducible assumption)|assumption)
        have q158 : x44_2 < (l0_2.length : Int):=of_decide_eq_true (by first|(with_reducible assumption)|assumption)
        obtain ⟨ad158,e158,hx158_0⟩:=Kd.at_int HR0_2.out x44_2 p158 q158
        cases e158
        replace hx158_0:=(HB.out.cell (World.block_lt_of_cell? w _ hx158_0)).trans hx158_0
        replace p158:=eq_true p158
        replace q158:=eq_true q158
        go_wp2
        go_roundg k2
        case measure => have:=HJ1.out;have:=HK2.out;omega
        case rel => exact ⟨(wrap64 (x44_2 + 1)),(by first|rfl|(simp;done)|(simp [*];done)),H',⟨by have:=HJ1.out;have:=HK2.out;omega⟩,⟨blk_up BK155.out⟩,⟨hb_⟩⟩
      rw [if_neg c15] at H
      have c15b0 : decide (x44_2 < (l0_2.length : Int)) = false:=decide_eq_false c15
      clear c15
      have H':=Aside0.mk H
      clear H
      obtain ⟨_,_,_,_,_,_,_,_⟩:=cells4 BK155.out
      go_wp2
      go_loopg [58] k2 (fun kq v58 w' => ∃ (x58_3 : Int),v58 = .int .i64 x58_3 ∧ Aside0 (hinterlandref04_Validate.l1 kq l0_3 (l0_3.length : Int) x58_3 a0_0 a0_1 l0_2 l0_3 = some r) ∧ Aside0 (kq ≤ k2) ∧ Aside0 (w'.heap[gb155]? = some (.cells #[.int .i64 a0_0,.int .i64 a0_1,(.slice A0_2 l0_2.length c0_2),(.slice A0_3 l0_3.length c0_3)] 24 (0,0))) ∧ Aside0 (Below w.heap.size w w'))
      case atStart => exact ⟨(0),(by first|rfl|(simp;done)|(simp [*];done)),H',⟨Nat.le_refl _⟩,⟨blk_up BK155.out⟩,⟨hb_⟩⟩
      case round =>
       clear H'
       obtain ⟨x58_3,rfl,HA,HK3,BK155,HB⟩:=hrel
       cases gk with
       | zero => exact absurd HA.out (by simp [hinterlandref04_Validate.l1])
       | succ k3 =>
        have H:=HA.out
        clear HA
        simp only [hinterlandref04_Validate.l1] at H
        by_cases c21 : x58_3 < (l0_3.length : Int)
        ·rw [if_pos c21] at H
         have c21b0 : decide (x58_3 < (l0_3.length : Int)) = true:=decide_eq_true c21
         clear c21
         replace H:=ifp_ H;obtain ⟨c22,H⟩:=H
         have c22b0 : decide (0 ≤ x58_3) = true:=decide_eq_true c22
         clear c22
         replace H:=ifp_ H;obtain ⟨c23,H⟩:=H
         have c23b0 : decide (x58_3 < (l0_3.length : Int)) = true:=decide_eq_true c23
         clear c23
         by_cases c24 : (rd l0_3 x58_3) < 0
         ·rw [if_pos c24] at H
          have c24b0 : decide ((rd l0_3 x58_3) < 0) = true:=decide_eq_true c24
          clear c24
          obtain rfl:=Option.some.inj H
          have p159 : 0 ≤ (x58_3 : Int):=of_decide_eq_true (by first|(with_reducible assumption)|assumption)
          have q159 : x58_3 < (l0_3.length : Int):=of_decide_eq_true (by first|(with_reducible assumption)|assumption)
          obtain ⟨ad159,e159,hx159_0⟩:=Kd.at_int HR0_3.out x58_3 p159 q159
          cases e159
          replace hx159_0:=(HB.out.cell (World.block_lt_of_cell? w _ hx159_0)).trans hx159_0
          replace p159:=eq_true p159
          replace q159:=eq_true q159
          go_wp2
          go_ret
          exact ⟨er_,hb_⟩
         rw [if_neg c24] at H
         have c24b0 : decide ((rd l0_3 x58_3) < 0) = false:=decide_eq_false c24
         clear c24
         by_cases c25 : (rd l0_3 x58_3) > 2
         ·rw [if_pos c25] at H
          have c25b0 : decide (2 < (rd l0_3 x58_3)) = true:=decide_eq_true c25
          clear c25
          obtain rfl:=Option.some.inj H
          have p159 : 0 ≤ (x58_3 : Int):=of_decide_eq_true (by first|(with_reducible assumption)|assumption)
          have q159 : x58_3 < (l0_3.length : Int):=of_decide_eq_true (by first|(with_reducible assumption)|assumption)
          obtain ⟨ad159,e159,hx159_0⟩:=Kd.at_int HR0_3.out x58_3 p159 q159
          cases e159
          replace hx159_0:=(HB.out.cell (World.block_lt_of_cell? w _ hx159_0)).trans hx159_0
          replace p159:=eq_true p159
          replace q159:=eq_true q159
          go_wp2
          go_ret
          exact ⟨er_,hb_⟩
         ·rw [if_neg c25] at H
          have c25b0 : decide (2 < (rd l0_3 x58_3)) = false:=decide_eq_false c25
          clear c25
          have H':=Aside0.mk H
          clear H
          have p159 : 0 ≤ (x58_3 : Int):=of_decide_eq_true (by first|(with_reducible assumption)|assumption)
          have q159 : x58_3 < (l0_3.length : Int):=of_decide_eq_true (by first|(with_reducible assumption)|assumption)
          obtain ⟨ad159,e159,hx159_0⟩:=Kd.at_int HR0_3.out x58_3 p159 q159
          cases e159
          replace hx159_0:=(HB.out.cell (World.block_lt_of_cell? w _ hx159_0)).trans hx159_0
          replace p159:=eq_true p159
          replace q159:=eq_true q159
          go_wp2
          go_roundg k3
          case measure => have:=HJ1.out;have:=HK2.out;have:=HK3.out;omega
          case rel => exact ⟨(wrap64 (x58_3 + 1)),(by first|rfl|(simp;done)|(simp [*];done)),H',⟨by have:=HJ1.out;have:=HK2.out;have:=HK3.out;omega⟩,⟨blk_up BK155.out⟩,⟨hb_⟩⟩
        rw [if_neg c21] at H
        have c21b0 : decide (x58_3 < (l0_3.length : Int)) = false:=decide_eq_false c21
        clear c21
        have H':=Aside0.mk H
        clear H
        obtain ⟨_,_,_,_,_,_,_,_⟩:=cells4 BK155.out
        go_wp2
        go_loopg [72] k3 (fun kq v72 w' => ∃ (x72_4 : Int),v72 = .int .i64 x72_4 ∧ Aside0 (hinterlandref04_Validate.l2 kq l0_3 (l0_3.length : Int) x72_4 a0_0 a0_1 l0_2 l0_3 = some r) ∧ Aside0 (kq ≤ k3) ∧ Aside0 (w'.heap[gb155]? = some (.cells #[.int .i64 a0_0,.int .i64 a0_1,(.slice A0_2 l0_2.length c0_2),(.slice A0_3 l0_3.length c0_3)] 24 (0,0))) ∧ Aside0 (Below w.heap.size w w'))
        case atStart => exact ⟨(0),(by first|rfl|(simp;done)|(simp [*];done)),H',⟨Nat.le_refl _⟩,⟨blk_up BK155.out⟩,⟨hb_⟩⟩
        case round =>
         clear H'
         obtain ⟨x72_4,rfl,HA,HK4,BK155,HB⟩:=hrel
         cases gk with
         | zero => exact absurd HA.out (by simp [hinterlandref04_Validate.l2])
         | succ k4 =>
          have H:=HA.out
          clear HA
          simp only [hinterlandref04_Validate.l2] at H
          by_cases c27 : x72_4 < (l0_3.length : Int)
          rotate_left
          ·rw [if_neg c27] at H
           have c27b0 : decide (x72_4 < (l0_3.length : Int)) = false:=decide_eq_false c27
           clear c27
           obtain rfl:=Option.some.inj H
           go_wp2
           go_ret
           exact ⟨er_,hb_⟩
          rw [if_pos c27] at H
          have c27b0 : decide (x72_4 < (l0_3.length : Int)) = true:=decide_eq_true c27
          clear c27
          replace H:=ifp_ H;obtain ⟨c28,H⟩:=H
          have c28b0 : decide (0 ≤ x72_4) = true:=decide_eq_true c28
          clear c28
          replace H:=ifp_ H;obtain ⟨c29,H⟩:=H
          have c29b0 : decide (x72_4 < (l0_3.length : Int)) = true:=decide_eq_true c29
          clear c29
          by_cases c30 : (rd l0_3 x72_4) = 0
          ·rw [if_pos c30] at H
           have c30b0:=bqt c30
           have c30b1:=bnf c30
           clear c30
           have H':=Aside0.mk H
           clear H
           have p160 : 0 ≤ (x72_4 : Int):=of_decide_eq_true (by first|(with_reducible assumption)|assumption)
           have q160 : x72_4 < (l0_3.length : Int):=of_decide_eq_true (by first|(with_reducible assumption)|assumption)
           obtain ⟨ad160,e160,hx160_0⟩:=Kd.at_int HR0_3.out x72_4 p160 q160
           cases e160
           replace hx160_0:=(HB.out.cell (World.block_lt_of_cell? w _ hx160_0)).trans hx160_0
           replace p160:=eq_true p160
           replace q160:=eq_true q160
           go_wp2
           go_roundg k4
           case measure => have:=HJ1.out;have:=HK2.out;have:=HK3.out;have:=HK4.out;omega
           case rel => exact ⟨(wrap64 (x72_4 + 1)),(by first|rfl|(simp;done)|(simp [*];done)),H',⟨by have:=HJ1.out;have:=HK2.out;have:=HK3.out;have:=HK4.out;omega⟩,⟨blk_up BK155.out⟩,⟨hb_⟩⟩
          rw [if_neg c30] at H
          have c30b0:=bqf c30
          have c30b1:=bnt c30
          replace H:=ifp_ H;obtain ⟨c31,H⟩:=H
          have c31b0 : decide (x72_4 < (l0_2.length : Int)) = true:=decide_eq_true c31
          clear c31
          replace H:=Option.bind_eq_some_iff.mp H
          obtain ⟨t162,A320,H⟩:=H
          replace H : (if t162 = true then (hinterlandref04_Validate.l2 k4 l0_3 (l0_3.length : Int) (wrap64 (x72_4 + 1)) a0_0 a0_1 l0_2 l0_3) else (some 9)) = some r:=H
          have A32:=Aside0.mk A320
          clear A320
          by_cases c33 : t162 = true
          ·subst c33
           have H1 : (hinterlandref04_Validate.l2 k4 l0_3 (l0_3.length : Int) (wrap64 (x72_4 + 1)) a0_0 a0_1 l0_2 l0_3) = some r:=by rw [if_pos rfl] at H;exact H
           clear H
           have H:=H1
           clear H1
           have H':=Aside0.mk H
           clear H
           have p160 : 0 ≤ (x72_4 : Int):=of_decide_eq_true (by first|(with_reducible assumption)|assumption)
           have q160 : x72_4 < (l0_3.length : Int):=of_decide_eq_true (by first|(with_reducible assumption)|assumption)
           obtain ⟨ad160,e160,hx160_0⟩:=Kd.at_int HR0_3.out x72_4 p160 q160
           cases e160
           replace hx160_0:=(HB.out.cell (World.block_lt_of_cell? w _ hx160_0)).trans hx160_0
           replace p160:=eq_true p160
           replace q160:=eq_true q160
           obtain ⟨_,_,_,_,_,_,_,_⟩:=cells4 BK155.out
           have p161 : 0 ≤ (x72_4 : Int):=of_decide_eq_true (by first|(with_reducible assumption)|assumption)
           have q161 : x72_4 < (l0_2.length : Int):=of_decide_eq_true (by first|(with_reducible assumption)|assumption)
           obtain ⟨ad161,e161,hx161_0⟩:=Kd.at_int HR0_2.out x72_4 p161 q161
           cases e161
           replace hx161_0:=(HB.out.cell (World.block_lt_of_cell? w _ hx161_0)).trans hx161_0
           replace p161:=eq_true p161
           replace q161:=eq_true q161
           go_wp2_with (first|(go_at_call 62;(with_reducible refine (hinterlandref04_straight.calls (rd l0_2 x72_4) true _ A32.out).mono ?_);rintro e w' ⟨rfl,⟨nd,rfl⟩⟩))
           go_roundg k4
           case measure => have:=HJ1.out;have:=HK2.out;have:=HK3.out;have:=HK4.out;omega
           case rel => exact ⟨(wrap64 (x72_4 + 1)),(by first|rfl|(simp;done)|(simp [*];done)),H',⟨by have:=HJ1.out;have:=HK2.out;have:=HK3.out;have:=HK4.out;omega⟩,⟨blk_up BK155.out⟩,⟨hb_⟩⟩
          ·replace c33:=Bool.eq_false_iff.mpr c33
           subst c33
           have H1 : (some 9) = some r:=by rw [if_neg (show ¬ (false = true) by decide)] at H;exact H
           clear H
           have H:=H1
           clear H1
           obtain rfl:=Option.some.inj H
           have p160 : 0 ≤ (x72_4 : Int):=of_decide_eq_true (by first|(with_reducible assumption)|assumption)
           have q160 : x72_4 < (l0_3.length : Int):=of_decide_eq_true (by first|(with_reducible assumption)|assumption)
           obtain ⟨ad160,e160,hx160_0⟩:=Kd.at_int HR0_3.out x72_4 p160 q160
           cases e160
           replace hx160_0:=(HB.out.cell (World.block_lt_of_cell? w _ hx160_0)).trans hx160_0
           replace p160:=eq_true p160
           replace q160:=eq_true q160
           obtain ⟨_,_,_,_,_,_,_,_⟩:=cells4 BK155.out
           have p161 : 0 ≤ (x72_4 : Int):=of_decide_eq_true (by first|(with_reducible assumption)|assumption)
           have q161 : x72_4 < (l0_2.length : Int):=of_decide_eq_true (by first|(with_reducible assumption)|assumption)
           obtain ⟨ad161,e161,hx161_0⟩:=Kd.at_int HR0_2.out x72_4 p161 q161
           cases e161
           replace hx161_0:=(HB.out.cell (World.block_lt_of_cell? w _ hx161_0)).trans hx161_0
           replace p161:=eq_true p161
           replace q161:=eq_true q161
           go_wp2_with (first|(go_at_call 62;(with_reducible refine (hinterlandref04_straight.calls (rd l0_2 x72_4) false _ A32.out).mono ?_);rintro e w' ⟨rfl,⟨nd,rfl⟩⟩))
           go_ret
           exact ⟨er_,hb_⟩

/-! ### hinterlandref17_beyond: function 67 -/
def hinterlandref17_beyond.f (a0_0 : Int) (a0_1 : Int) (l0_2 : List Int) (l0_3 : List Int) (a1 : Int) (a2 : Int) : Option (Int) := if a2 = 0 then (some (wrap64 (a1 + 1))) else (if a2 = 1 then (some (wrap64 (a1 + a0_0))) else (if a2 = 2 then (some (wrap64 (a1 - 1))) else (some (wrap64 (a1 - a0_0)))))
set_option maxHeartbeats 8000000 in
set_option maxRecDepth 100000 in
theorem hinterlandref17_beyond.calls (a0_0 : Int) (a0_1 : Int) (A0_2 : Option Addr) (c0_2 : Nat) (l0_2 : List Int) (A0_3 : Option Addr) (c0_3 : Nat) (l0_3 : List Int) (a1 : Int) (a2 : Int) (r : Int) (w : World) (hr0_2 : Kd.C (Kd.int .i64) w A0_2 l0_2.length l0_2) (hc0_2 : l0_2.length ≤ c0_2) (hr0_3 : Kd.C (Kd.int .i64) w A0_3 l0_3.length l0_3) (hc0_3 : l0_3.length ≤ c0_3) (h : hinterlandref17_beyond.f a0_0 a0_1 l0_2 l0_3 a1 a2 = some r) :
  Calls Try.prog 67 #[.agg #[.int .i64 a0_0,.int .i64 a0_1,.slice A0_2 l0_2.length c0_2,.slice A0_3 l0_3.length c0_3],.int .i64 a1,.int .i64 a2] w fun e w' => e = .returned (.int .i64 r) ∧ Below w.heap.size w w':=by
 have hu24:=Try.underlying24
 have HR0_2:=Aside0.mk hr0_2
 have HC0_2:=Aside0.mk hc0_2
 clear hr0_2 hc0_2
 have HR0_3:=Aside0.mk hr0_3
 have HC0_3:=Aside0.mk hc0_3
 clear hr0_3 hc0_3
 have HB:=Aside0.mk (Below.refl w.heap.size w)
 have H : (if a2 = 0 then (some (wrap64 (a1 + 1))) else (if a2 = 1 then (some (wrap64 (a1 + a0_0))) else (if a2 = 2 then (some (wrap64 (a1 - 1))) else (some (wrap64 (a1 - a0_0)))))) = some r:=h
 clear h
 by_cases c4 : a2 = 0
 ·rw [if_pos c4] at H
  have c4b0:=bqt c4
  have c4b1:=bnf c4
  clear c4
  obtain rfl:=Option.some.inj H
  go_enter Try.func67,Try.ntmps67
  go_wp2_with (first|((with_reducible refine gate_dst (N:=3) rfl ?_);refine box_ev (N:=3) (cs:=#[.int .i64 a0_0,.int .i64 a0_1,.slice A0_2 l0_2.length c0_2,.slice A0_3 l0_3.length c0_3]) (t:=24) ?_;intro gb163 hg w5 hbox hb;have BK163:=Aside0.mk (hbox);have GW163 : Aside0 (w.heap.size ≤ gb163):=gsz hg;have GE163:=GW163;replace HB:=hbs hb;clear hb hbox hg))
  go_ret
  exact ⟨er_,hb_⟩
 rw [if_neg c4] at H
 have c4b0:=bqf c4
 have c4b1:=bnt c4
 by_cases c6 : a2 = 1
 ·rw [if_pos c6] at H
  have c6b0:=bqt c6
  have c6b1:=bnf c6
  clear c6
  obtain rfl:=Option.some.inj H
  go_enter Try.func67,Try.ntmps67
  go_wp2_with (first|((with_reducible refine gate_dst (N:=3) rfl ?_);refine box_ev (N:=3) (cs:=#[.int .i64 a0_0,.int .i64 a0_1,.slice A0_2 l0_2.length c0_2,.slice A0_3 l0_3.length c0_3]) (t:=24) ?_;intro gb163 hg w7 hbox hb;have BK163:=Aside0.mk (hbox);have GW163 : Aside0 (w.heap.size ≤ gb163):=gsz hg;have GE163:=GW163;replace HB:=hbs hb;clear hb hbox hg;obtain ⟨_,_,_,_,_,_,_,_⟩:=cells4 BK163.out))
  go_ret
  exact ⟨er_,hb_⟩
 ·rw [if_neg c6] at H
  have c6b0:=bqf c6
  have c6b1:=bnt c6
  by_cases c9 : a2 = 2
  ·rw [if_pos c9] at H
   have c9b0:=bqt c9
   have c9b1:=bnf c9
   clear c9
   obtain rfl:=Option.some.inj H
   go_enter Try.func67,Try.ntmps67
   go_wp2_with (first|((with_reducible refine gate_dst (N:=3) rfl ?_);refine box_ev (N:=3) (cs:=#[.int .i64 a0_0,.int .i64 a0_1,.slice A0_2 l0_2.length c0_2,.slice A0_3 l0_3.length c0_3]) (t:=24) ?_;intro gb163 hg w10 hbox hb;have BK163:=Aside0.mk (hbox);have GW163 : Aside0 (w.heap.size ≤ gb163):=gsz hg;have GE163:=GW163;replace HB:=hbs hb;clear hb hbox hg))
   go_ret
   exact ⟨er_,hb_⟩
  ·rw [if_neg c9] at H
   have c9b0:=bqf c9
   have c9b1:=bnt c9
   obtain rfl:=Option.some.inj H
   go_enter Try.func67,Try.ntmps67
   go_wp2_with (first|((with_reducible refine gate_dst (N:=3) rfl ?_);refine box_ev (N:=3) (cs:=#[.int .i64 a0_0,.int .i64 a0_1,.slice A0_2 l0_2.length c0_2,.slice A0_3 l0_3.length c0_3]) (t:=24) ?_;intro gb163 hg w11 hbox hb;have BK163:=Aside0.mk (hbox);have GW163 : Aside0 (w.heap.size ≤ gb163):=gsz hg;have GE163:=GW163;replace HB:=hbs hb;clear hb hbox hg;obtain ⟨_,_,_,_,_,_,_,_⟩:=cells4 BK163.out))
   go_ret
   exact ⟨er_,hb_⟩

/-! ### hinterlandref17_linked: function 40 -/
def hinterlandref17_linked.j0 : Nat → Int → Int → Bool → Int → Int → List Int → List Int → Option (Bool)
 | 0,_,_,_,_,_,_,_ => none
 | k + 1,x1,x2,x63,x165000,x165001,x165002,x165003 => if x63 = true then (some false) else ((hinterlandref17_beyond.f x165000 x165001 x165002 x165003 x1 x2).bind fun t166 => (if 0 ≤ t166 then (if t166 < (x165002.length : Int) then (if 0 ≤ (Int.tmod (wrap64 (x2 + 2)) 4) then (some ((Go.bits .and .i64 (shr .i64 (rd x165002 t166) (Int.tmod (wrap64 (x2 + 2)) 4)) 1) == 1)) else (none)) else (none)) else (none)))
def hinterlandref17_linked.f (k : Nat) (a0_0 : Int) (a0_1 : Int) (l0_2 : List Int) (l0_3 : List Int) (a1 : Int) (a2 : Int) : Option (Bool) := if a0_0 = 0 then (none) else (if 0 ≤ a1 then (if a1 < (l0_2.length : Int) then (if 0 ≤ a2 then (if (Go.bits .and .i64 (shr .i64 (rd l0_2 a1) a2) 1) = 0 then (hinterlandref17_linked.j0 k a1 a2 true a0_0 a0_1 l0_2 l0_3) else (if a2 = 0 then (if (wrap64 ((Int.tmod a1 a0_0) + 1)) = a0_0 then (hinterlandref17_linked.j0 k a1 a2 true a0_0 a0_1 l0_2 l0_3) else (if a2 = 1 then (if (wrap64 ((wrap64 (Int.tdiv a1 a0_0)) + 1)) = a0_1 then (hinterlandref17_linked.j0 k a1 a2 true a0_0 a0_1 l0_2 l0_3) else (if a2 = 2 then (if (Int.tmod a1 a0_0) = 0 then (hinterlandref17_linked.j0 k a1 a2 true a0_0 a0_1 l0_2 l0_3) else (if a2 = 3 then (hinterlandref17_linked.j0 k a1 a2 ((wrap64 (Int.tdiv a1 a0_0)) == 0) a0_0 a0_1 l0_2 l0_3) else (hinterlandref17_linked.j0 k a1 a2 false a0_0 a0_1 l0_2 l0_3))) else (if a2 = 3 then (hinterlandref17_linked.j0 k a1 a2 ((wrap64 (Int.tdiv a1 a0_0)) == 0) a0_0 a0_1 l0_2 l0_3) else (hinterlandref17_linked.j0 k a1 a2 false a0_0 a0_1 l0_2 l0_3)))) else (if a2 = 2 then (if (Int.tmod a1 a0_0) = 0 then (hinterlandref17_linked.j0 k a1 a2 true a0_0 a0_1 l0_2 l0_3) else (if a2 = 3 then (hinterlandref17_linked.j0 k a1 a2 ((wrap64 (Int.tdiv a1 a0_0)) == 0) a0_0 a0_1 l0_2 l0_3) else (hinterlandref17_linked.j0 k a1 a2 false a0_0 a0_1 l0_2 l0_3))) else (if a2 = 3 then (hinterlandref17_linked.j0 k a1 a2 ((wrap64 (Int.tdiv a1 a0_0)) == 0) a0_0 a0_1 l0_2 l0_3) else (hinterlandref17_linked.j0 k a1 a2 false a0_0 a0_1 l0_2 l0_3))))) else (if a2 = 1 then (if (wrap64 ((wrap64 (Int.tdiv a1 a0_0)) + 1)) = a0_1 then (hinterlandref17_linked.j0 k a1 a2 true a0_0 a0_1 l0_2 l0_3) else (if a2 = 2 then (if (Int.tmod a1 a0_0) = 0 then (hinterlandref17_linked.j0 k a1 a2 true a0_0 a0_1 l0_2 l0_3) else (if a2 = 3 then (hinterlandref17_linked.j0 k a1 a2 ((wrap64 (Int.tdiv a1 a0_0)) == 0) a0_0 a0_1 l0_2 l0_3) else (hinterlandref17_linked.j0 k a1 a2 false a0_0 a0_1 l0_2 l0_3))) else (if a2 = 3 then (hinterlandref17_linked.j0 k a1 a2 ((wrap64 (Int.tdiv a1 a0_0)) == 0) a0_0 a0_1 l0_2 l0_3) else (hinterlandref17_linked.j0 k a1 a2 false a0_0 a0_1 l0_2 l0_3)))) else (if a2 = 2 then (if (Int.tmod a1 a0_0) = 0 then (hinterlandref17_linked.j0 k a1 a2 true a0_0 a0_1 l0_2 l0_3) else (if a2 = 3 then (hinterlandref17_linked.j0 k a1 a2 ((wrap64 (Int.tdiv a1 a0_0)) == 0) a0_0 a0_1 l0_2 l0_3) else (hinterlandref17_linked.j0 k a1 a2 false a0_0 a0_1 l0_2 l0_3))) else (if a2 = 3 then (hinterlandref17_linked.j0 k a1 a2 ((wrap64 (Int.tdiv a1 a0_0)) == 0) a0_0 a0_1 l0_2 l0_3) else (hinterlandref17_linked.j0 k a1 a2 false a0_0 a0_1 l0_2 l0_3)))))) else (none)) else (none)) else (none))
theorem hinterlandref17_linked.mono_l : ∀ k, (∀ y0 y1 y2 y3 y4 y5 y6, LeO (hinterlandref17_linked.j0 k y0 y1 y2 y3 y4 y5 y6) (hinterlandref17_linked.j0 (k + 1) y0 y1 y2 y3 y4 y5 y6))
 | 0 => fun _ _ _ _ _ _ _ r h => by simp [hinterlandref17_linked.j0] at h
 | k + 1 => by
  have ih0:=hinterlandref17_linked.mono_l k
  ·intro y0 y1 y2 y3 y4 y5 y6
   unfold hinterlandref17_linked.j0
   repeat' first
   | (with_reducible exact ih0 _ _ _ _ _ _ _)
   | (with_reducible exact LeO.refl _)
   | (with_reducible exact LeO.none _)
   | (with_reducible refine LeO.ite ?_ ?_)
   | (with_reducible refine LeO.bind ?_ (fun _ => ?_))
   | exact ih0 _ _ _ _ _ _ _
   | exact LeO.none _
   | refine LeO.ite ?_ ?_
   | refine LeO.bind ?_ (fun _ => ?_)
theorem hinterlandref17_linked.mono : ∀ a0 a1 a2 a3 a4 a5 k, LeO (hinterlandref17_linked.f k a0 a1 a2 a3 a4 a5) (hinterlandref17_linked.f (k + 1) a0 a1 a2 a3 a4 a5) := by
 intro a0 a1 a2 a3 a4 a5 k
 have ih0:=hinterlandref17_linked.mono_l k
 unfold hinterlandref17_linked.f
 repeat' first
   | (with_reducible exact ih0 _ _ _ _ _ _ _)
   | (with_reducible exact LeO.refl _)
   | (with_reducible exact LeO.none _)
   | (with_reducible refine LeO.ite ?_ ?_)
   | (with_reducible refine LeO.bind ?_ (fun _ => ?_))
   | exact ih0 _ _ _ _ _ _ _
   | exact LeO.none _
   | refine LeO.ite ?_ ?_
   | refine LeO.bind ?_ (fun _ => ?_)
def hinterlandref17_linked.T1 : Bool × List (List Nat × List Nat) := (true, [([], []), ([], []), ([1], [1]), ([0, 2], [0, 2]), ([], []), ([], []), ([5], [5]), ([4, 6], [4, 6]), ([3, 0, 1, 2, 3], [3]), ([7, 8, 0, 1, 2, 3, 4, 5, 6, 7, 8], [7])])
def hinterlandref17_linked.B1 : List Nat := [0, 0, 2, 7, 0, 0, 32, 112, 15, 511]
theorem hinterlandref17_linked.tab1 : rtab .any (opsOf Try.f40 1) = hinterlandref17_linked.T1 := by kernel_rfl
theorem hinterlandref17_linked.bits1 : waitsOk hinterlandref17_linked.T1.2 hinterlandref17_linked.B1 = true := by kernel_rfl
def hinterlandref17_linked.T4 : Bool × List (List Nat × List Nat) := (true, [([], []), ([0], [0]), ([], []), ([], []), ([], []), ([2, 3, 4], [2, 3, 4]), ([1, 5], [1, 5]), ([6], [6]), ([], []), ([8], [8]), ([9], [9]), ([7, 10], [7, 10]), ([11], [11]), ([12], [12]), ([13, 5, 0, 1, 2, 3, 4, 5, 6, 7, 8, 9, 10, 11, 12, 13], [13])])
def hinterlandref17_linked.B4 : List Nat := [0, 1, 0, 0, 0, 28, 63, 127, 0, 256, 768, 2047, 4095, 8191, 16383]
theorem hinterlandref17_linked.tab4 : rtab .any (opsOf Try.f40 4) = hinterlandref17_linked.T4 := by kernel_rfl
theorem hinterlandref17_linked.bits4 : waitsOk hinterlandref17_linked.T4.2 hinterlandref17_linked.B4 = true := by kernel_rfl
set_option maxHeartbeats 8000000 in
set_option maxRecDepth 100000 in
theorem hinterlandref17_linked.calls (k : Nat) (a0_0 : Int) (a0_1 : Int) (A0_2 : Option Addr) (c0_2 : Nat) (l0_2 : List Int) (A0_3 : Option Addr) (c0_3 : Nat) (l0_3 : List Int) (a1 : Int) (a2 : Int) (r : Bool) (w : World) (hr0_2 : Kd.C (Kd.int .i64) w A0_2 l0_2.length l0_2) (hc0_2 : l0_2.length ≤ c0_2) (hr0_3 : Kd.C (Kd.int .i64) w A0_3 l0_3.length l0_3) (hc0_3 : l0_3.length ≤ c0_3) (h : hinterlandref17_linked.f k a0_0 a0_1 l0_2 l0_3 a1 a2 = some r) :
  Calls Try.prog 40 #[.agg #[.int .i64 a0_0,.int .i64 a0_1,.slice A0_2 l0_2.length c0_2,.slice A0_3 l0_3.length c0_3],.int .i64 a1,.int .i64 a2] w fun e w' => e = .returned (.bool r) ∧ Below w.heap.size w w':=by
 have hu24:=Try.underlying24
 have HR0_2:=Aside0.mk hr0_2
 have HC0_2:=Aside0.mk hc0_2
 clear hr0_2 hc0_2
 have HR0_3:=Aside0.mk hr0_3
 have HC0_3:=Aside0.mk hc0_3
 clear hr0_3 hc0_3
 have HB:=Aside0.mk (Below.refl w.heap.size w)
 have H : (if a0_0 = 0 then (none) else (if 0 ≤ a1 then (if a1 < (l0_2.length : Int) then (if 0 ≤ a2 then (if (Go.bits .and .i64 (shr .i64 (rd l0_2 a1) a2) 1) = 0 then (hinterlandref17_linked.j0 k a1 a2 true a0_0 a0_1 l0_2 l0_3) else (if a2 = 0 then (if (wrap64 ((Int.tmod a1 a0_0) + 1)) = a0_0 then (hinterlandref17_linked.j0 k a1 a2 true a0_0 a0_1 l0_2 l0_3) else (if a2 = 1 then (if (wrap64 ((wrap64 (Int.tdiv a1 a0_0)) + 1)) = a0_1 then (hinterlandref17_linked.j0 k a1 a2 true a0_0 a0_1 l0_2 l0_3) else (if a2 = 2 then (if (Int.tmod a1 a0_0) = 0 then (hinterlandref17_linked.j0 k a1 a2 true a0_0 a0_1 l0_2 l0_3) else (if a2 = 3 then (hinterlandref17_linked.j0 k a1 a2 ((wrap64 (Int.tdiv a1 a0_0)) == 0) a0_0 a0_1 l0_2 l0_3) else (hinterlandref17_linked.j0 k a1 a2 false a0_0 a0_1 l0_2 l0_3))) else (if a2 = 3 then (hinterlandref17_linked.j0 k a1 a2 ((wrap64 (Int.tdiv a1 a0_0)) == 0) a0_0 a0_1 l0_2 l0_3) else (hinterlandref17_linked.j0 k a1 a2 false a0_0 a0_1 l0_2 l0_3)))) else (if a2 = 2 then (if (Int.tmod a1 a0_0) = 0 then (hinterlandref17_linked.j0 k a1 a2 true a0_0 a0_1 l0_2 l0_3) else (if a2 = 3 then (hinterlandref17_linked.j0 k a1 a2 ((wrap64 (Int.tdiv a1 a0_0)) == 0) a0_0 a0_1 l0_2 l0_3) else (hinterlandref17_linked.j0 k a1 a2 false a0_0 a0_1 l0_2 l0_3))) else (if a2 = 3 then (hinterlandref17_linked.j0 k a1 a2 ((wrap64 (Int.tdiv a1 a0_0)) == 0) a0_0 a0_1 l0_2 l0_3) else (hinterlandref17_linked.j0 k a1 a2 false a0_0 a0_1 l0_2 l0_3))))) else (if a2 = 1 then (if (wrap64 ((wrap64 (Int.tdiv a1 a0_0)) + 1)) = a0_1 then (hinterlandref17_linked.j0 k a1 a2 true a0_0 a0_1 l0_2 l0_3) else (if a2 = 2 then (if (Int.tmod a1 a0_0) = 0 then (hinterlandref17_linked.j0 k a1 a2 true a0_0 a0_1 l0_2 l0_3) else (if a2 = 3 then (hinterlandref17_linked.j0 k a1 a2 ((wrap64 (Int.tdiv a1 a0_0)) == 0) a0_0 a0_1 l0_2 l0_3) else (hinterlandref17_linked.j0 k a1 a2 false a0_0 a0_1 l0_2 l0_3))) else (if a2 = 3 then (hinterlandref17_linked.j0 k a1 a2 ((wrap64 (Int.tdiv a1 a0_0)) == 0) a0_0 a0_1 l0_2 l0_3) else (hinterlandref17_linked.j0 k a1 a2 false a0_0 a0_1 l0_2 l0_3)))) else (if a2 = 2 then (if (Int.tmod a1 a0_0) = 0 then (hinterlandref17_linked.j0 k a1 a2 true a0_0 a0_1 l0_2 l0_3) else (if a2 = 3 then (hinterlandref17_linked.j0 k a1 a2 ((wrap64 (Int.tdiv a1 a0_0)) == 0) a0_0 a0_1 l0_2 l0_3) else (hinterlandref17_linked.j0 k a1 a2 false a0_0 a0_1 l0_2 l0_3))) else (if a2 = 3 then (hinterlandref17_linked.j0 k a1 a2 ((wrap64 (Int.tdiv a1 a0_0)) == 0) a0_0 a0_1 l0_2 l0_3) else (hinterlandref17_linked.j0 k a1 a2 false a0_0 a0_1 l0_2 l0_3)))))) else (none)) else (none)) else (none))) = some r:=h
 clear h
 replace H:=ifn_ H;obtain ⟨c4,H⟩:=H
 have c4b0 : (a0_0 == 0) = false:=beq_eq_false_iff_ne.mpr c4
 have c4b1 : (a0_0 != 0) = true:=bne_iff_ne.mpr c4
 have HC5:=Aside0.mk H
 clear H
 go_enter Try.func40,Try.ntmps40
 try go_wp2_with (first|((with_reducible refine gate_dst (N:=3) rfl ?_);refine box_ev (N:=3) (cs:=#[.int .i64 a0_0,.int .i64 a0_1,.slice A0_2 l0_2.length c0_2,.slice A0_3 l0_3.length c0_3]) (t:=24) ?_;intro gb164 hg w6 hbox hb;have BK164:=Aside0.mk (hbox);have GW164 : Aside0 (w.heap.size ≤ gb164):=gsz hg;have GE164:=GW164;replace HB:=hbs hb;clear hb hbox hg))
 replace BK164:=Aside0.mk (blk_drew BK164.out)
 replace HB:=Aside0.mk (below_drew1 HB.out)
 refine start_ (n:=10) (S:=fun w' => w'.cell? ⟨gb164,0,none⟩ = some (.int .i64 a0_0) ∧ w'.cell? ⟨gb164,1,none⟩ = some (.int .i64 a0_1) ∧ w'.cell? ⟨gb164,2,none⟩ = some (.slice A0_2 l0_2.length c0_2) ∧ w'.cell? ⟨gb164,3,none⟩ = some (.slice A0_3 l0_3.length c0_3)) (ds:=[]) #[false,false,false,false,false,false,false,false,false,false] (by kernel_rfl) rfl rfl ⟨(blk_cell BK164.out 0).trans rfl,(blk_cell BK164.out 1).trans rfl,(blk_cell BK164.out 2).trans rfl,(blk_cell BK164.out 3).trans rfl⟩ (fun hHeld => ?_);refine with_tabW hinterlandref17_linked.tab1 hinterlandref17_linked.bits1 (fun HT_ HW_ => ?_)
 generalize w6.drew = w7 at BK164 HB hHeld ⊢
 refine pI 0 (some 9) ?_
 refine pI 1 (some 10) ?_
 refine pI 4 (some 13) ?_
 refine pI 5 (some 14) ?_
 refine tI4 2 (some 11) hHeld ?_
 refine pI 3 (some 12) ?_
 refine pI 8 (some 7) ?_
 refine tI4 6 (some 15) hHeld ?_
 refine pI 7 (some 16) ?_
 refine pI 9 (some 8) ?_
 refine done_ (done_of HT_.out (by kernel_rfl)) ?_
 go_upto_region 2 with (fail)
 go_cut [63] (fun v63 wc => ∃ (kq : Nat) (x63_4 : Bool),v63 = .bool x63_4 ∧ Aside0 (hinterlandref17_linked.j0 kq a1 a2 x63_4 a0_0 a0_1 l0_2 l0_3 = some r) ∧ Aside0 (kq ≤ k) ∧ Aside0 (wc.heap[gb164]? = some (.cells #[.int .i64 a0_0,.int .i64 a0_1,(.slice A0_2 l0_2.length c0_2),(.slice A0_3 l0_3.length c0_3)] 24 (0,0))) ∧ Aside0 (Below w.heap.size w wc))
 case first =>
  have H:=HC5.out
  clear HC5
  replace H:=ifp_ H;obtain ⟨c8,H⟩:=H
  have c8b0 : decide (0 ≤ a1) = true:=decide_eq_true c8
  clear c8
  (first|rw [c8b0]|(simp only [i64_w,i32_w];rw [c8b0])|skip)
  replace H:=ifp_ H;obtain ⟨c9,H⟩:=H
  have c9b0 : decide (a1 < (l0_2.length : Int)) = true:=decide_eq_true c9
  clear c9
  replace H:=ifp_ H;obtain ⟨c10,H⟩:=H
  have c10b0:=eq_true c10
  have c10b1 : decide (0 ≤ a2) = true:=decide_eq_true c10
  clear c10
  obtain ⟨ji11,hji11⟩ : ∃ j_ : Int,(shr .i64 (rd l0_2 a1) a2) = j_:=⟨_,rfl⟩
  replace H : (if (Go.bits .and .i64 (ji11) 1) = 0 then (hinterlandref17_linked.j0 k a1 a2 true a0_0 a0_1 l0_2 l0_3) else (if a2 = 0 then (if (wrap64 ((Int.tmod a1 a0_0) + 1)) = a0_0 then (hinterlandref17_linked.j0 k a1 a2 true a0_0 a0_1 l0_2 l0_3) else (if a2 = 1 then (if (wrap64 ((wrap64 (Int.tdiv a1 a0_0)) + 1)) = a0_1 then (hinterlandref17_linked.j0 k a1 a2 true a0_0 a0_1 l0_2 l0_3) else (if a2 = 2 then (if (Int.tmod a1 a0_0) = 0 then (hinterlandref17_linked.j0 k a1 a2 true a0_0 a0_1 l0_2 l0_3) else (if a2 = 3 then (hinterlandref17_linked.j0 k a1 a2 ((wrap64 (Int.tdiv a1 a0_0)) == 0) a0_0 a0_1 l0_2 l0_3) else (hinterlandref17_linked.j0 k a1 a2 false a0_0 a0_1 l0_2 l0_3))) else (if a2 = 3 then (hinterlandref17_linked.j0 k a1 a2 ((wrap64 (Int.tdiv a1 a0_0)) == 0) a0_0 a0_1 l0_2 l0_3) else (hinterlandref17_linked.j0 k a1 a2 false a0_0 a0_1 l0_2 l0_3)))) else (if a2 = 2 then (if (Int.tmod a1 a0_0) = 0 then (hinterlandref17_linked.j0 k a1 a2 true a0_0 a0_1 l0_2 l0_3) else (if a2 = 3 then (hinterlandref17_linked.j0 k a1 a2 ((wrap64 (Int.tdiv a1 a0_0)) == 0) a0_0 a0_1 l0_2 l0_3) else (hinterlandref17_linked.j0 k a1 a2 false a0_0 a0_1 l0_2 l0_3))) else (if a2 = 3 then (hinterlandref17_linked.j0 k a1 a2 ((wrap64 (Int.tdiv a1 a0_0)) == 0) a0_0 a0_1 l0_2 l0_3) else (hinterlandref17_linked.j0 k a1 a2 false a0_0 a0_1 l0_2 l0_3))))) else (if a2 = 1 then (if (wrap64 ((wrap64 (Int.tdiv a1 a0_0)) + 1)) = a0_1 then (hinterlandref17_linked.j0 k a1 a2 true a0_0 a0_1 l0_2 l0_3) else (if a2 = 2 then (if (Int.tmod a1 a0_0) = 0 then (hinterlandref17_linked.j0 k a1 a2 true a0_0 a0_1 l0_2 l0_3) else (if a2 = 3 then (hinterlandref17_linked.j0 k a1 a2 ((wrap64 (Int.tdiv a1 a0_0)) == 0) a0_0 a0_1 l0_2 l0_3) else (hinterlandref17_linked.j0 k a1 a2 false a0_0 a0_1 l0_2 l0_3))) else (if a2 = 3 then (hinterlandref17_linked.j0 k a1 a2 ((wrap64 (Int.tdiv a1 a0_0)) == 0) a0_0 a0_1 l0_2 l0_3) else (hinterlandref17_linked.j0 k a1 a2 false a0_0 a0_1 l0_2 l0_3)))) else (if a2 = 2 then (if (Int.tmod a1 a0_0) = 0 then (hinterlandref17_linked.j0 k a1 a2 true a0_0 a0_1 l0_2 l0_3) else (if a2 = 3 then (hinterlandref17_linked.j0 k a1 a2 ((wrap64 (Int.tdiv a1 a0_0)) == 0) a0_0 a0_1 l0_2 l0_3) else (hinterlandref17_linked.j0 k a1 a2 false a0_0 a0_1 l0_2 l0_3))) else (if a2 = 3 then (hinterlandref17_linked.j0 k a1 a2 ((wrap64 (Int.tdiv a1 a0_0)) == 0) a0_0 a0_1 l0_2 l0_3) else (hinterlandref17_linked.j0 k a1 a2 false a0_0 a0_1 l0_2 l0_3)))))) = some r:=by first|(rw [hji11] at H;exact H)|(simp only [hji11] at H ⊢;exact H)
  have hji11_ : ((rd l0_2 a1) / 2 ^ min a2.toNat 64) = ji11:=hji11
  have hji11z : a2 ≤ 64 → ((rd l0_2 a1) / 2 ^ a2.toNat) = ji11:=shr_small hji11
  by_cases c12 : (Go.bits .and .i64 (ji11) 1) = 0
  ·rw [if_pos c12] at H
   have c12b0:=bqt c12
   have c12b1:=bnf c12
   clear c12
   have H':=Aside0.mk H
   clear H
   obtain ⟨_,_,_,_,_,_,_,_⟩:=cells4 BK164.out
   have p165 : 0 ≤ (a1 : Int):=of_decide_eq_true (by first|(with_reducible assumption)|assumption)
   have q165 : a1 < (l0_2.length : Int):=of_decide_eq_true (by first|(with_reducible assumption)|assumption)
   obtain ⟨ad165,e165,hx165_0⟩:=Kd.at_int HR0_2.out a1 p165 q165
   cases e165
   replace hx165_0:=(HB.out.cell (World.block_lt_of_cell? w _ hx165_0)).trans hx165_0
   replace p165:=eq_true p165
   replace q165:=eq_true q165
   (try have hju_:=hji11z (by simp only [beq_iff_eq] at *;omega))
   go_wp2
   go_meet
   case rel => exact ⟨_,(true),(by first|rfl|(simp;done)|(simp [*];done)),H',⟨by first|omega|exact Nat.le_refl _⟩,⟨blk_up BK164.out⟩,⟨hb_⟩⟩
  rw [if_neg c12] at H
  have c12b0:=bqf c12
  have c12b1:=bnt c12
  by_cases c14 : a2 = 0
  rotate_left
  ·rw [if_neg c14] at H
   have c14b0:=bqf c14
   have c14b1:=bnt c14
   by_cases c38 : a2 = 1
   rotate_left
   ·rw [if_neg c38] at H
    have c38b0:=bqf c38
    have c38b1:=bnt c38
    by_cases c50 : a2 = 2
    rotate_left
    ·rw [if_neg c50] at H
     have c50b0:=bqf c50
     have c50b1:=bnt c50
     by_cases c56 : a2 = 3
     ·rw [if_pos c56] at H
      have c56b0:=bqt c56
      have c56b1:=bnf c56
      clear c56
      have H':=Aside0.mk H
      clear H
      obtain ⟨_,_,_,_,_,_,_,_⟩:=cells4 BK164.out
      have p165 : 0 ≤ (a1 : Int):=of_decide_eq_true (by first|(with_reducible assumption)|assumption)
      have q165 : a1 < (l0_2.length : Int):=of_decide_eq_true (by first|(with_reducible assumption)|assumption)
      obtain ⟨ad165,e165,hx165_0⟩:=Kd.at_int HR0_2.out a1 p165 q165
      cases e165
      replace hx165_0:=(HB.out.cell (World.block_lt_of_cell? w _ hx165_0)).trans hx165_0
      replace p165:=eq_true p165
      replace q165:=eq_true q165
      (try have hju_:=hji11z (by simp only [beq_iff_eq] at *;omega))
      go_wp2
      go_meet
      case rel => exact ⟨_,(((wrap64 (Int.tdiv a1 a0_0)) == 0)),(by first|rfl|(simp;done)|(simp [*];done)),H',⟨by first|omega|exact Nat.le_refl _⟩,⟨blk_up BK164.out⟩,⟨hb_⟩⟩
     ·rw [if_neg c56] at H
      have c56b0:=bqf c56
      have c56b1:=bnt c56
      have H':=Aside0.mk H
      clear H
      obtain ⟨_,_,_,_,_,_,_,_⟩:=cells4 BK164.out
      have p165 : 0 ≤ (a1 : Int):=of_decide_eq_true (by first|(with_reducible assumption)|assumption)
      have q165 : a1 < (l0_2.length : Int):=of_decide_eq_true (by first|(with_reducible assumption)|assumption)
      obtain ⟨ad165,e165,hx165_0⟩:=Kd.at_int HR0_2.out a1 p165 q165
      cases e165
      replace hx165_0:=(HB.out.cell (World.block_lt_of_cell? w _ hx165_0)).trans hx165_0
      replace p165:=eq_true p165
      replace q165:=eq_true q165
      (try have hju_:=hji11z (by simp only [beq_iff_eq] at *;omega))
      go_wp2
      go_meet
      case rel => exact ⟨_,(false),(by first|rfl|(simp;done)|(simp [*];done)),H',⟨by first|omega|exact Nat.le_refl _⟩,⟨blk_up BK164.out⟩,⟨hb_⟩⟩
    rw [if_pos c50] at H
    have c50b0:=bqt c50
    have c50b1:=bnf c50
    clear c50
    by_cases c51 : (Int.tmod a1 a0_0) = 0
    ·rw [if_pos c51] at H
     have c51b0:=bqt c51
     have c51b1:=bnf c51
     clear c51
     have H':=Aside0.mk H
     clear H
     obtain ⟨_,_,_,_,_,_,_,_⟩:=cells4 BK164.out
     have p165 : 0 ≤ (a1 : Int):=of_decide_eq_true (by first|(with_reducible assumption)|assumption)
     have q165 : a1 < (l0_2.length : Int):=of_decide_eq_true (by first|(with_reducible assumption)|assumption)
     obtain ⟨ad165,e165,hx165_0⟩:=Kd.at_int HR0_2.out a1 p165 q165
     cases e165
     replace hx165_0:=(HB.out.cell (World.block_lt_of_cell? w _ hx165_0)).trans hx165_0
     replace p165:=eq_true p165
     replace q165:=eq_true q165
     (try have hju_:=hji11z (by simp only [beq_iff_eq] at *;omega))
     go_wp2
     go_meet
     case rel => exact ⟨_,(true),(by first|rfl|(simp;done)|(simp [*];done)),H',⟨by first|omega|exact Nat.le_refl _⟩,⟨blk_up BK164.out⟩,⟨hb_⟩⟩
    rw [if_neg c51] at H
    have c51b0:=bqf c51
    have c51b1:=bnt c51
    by_cases c53 : a2 = 3
    ·rw [if_pos c53] at H
     have c53b0:=bqt c53
     have c53b1:=bnf c53
     clear c53
     have H':=Aside0.mk H
     clear H
     obtain ⟨_,_,_,_,_,_,_,_⟩:=cells4 BK164.out
     have p165 : 0 ≤ (a1 : Int):=of_decide_eq_true (by first|(with_reducible assumption)|assumption)
     have q165 : a1 < (l0_2.length : Int):=of_decide_eq_true (by first|(with_reducible assumption)|assumption)
     obtain ⟨ad165,e165,hx165_0⟩:=Kd.at_int HR0_2.out a1 p165 q165
     cases e165
     replace hx165_0:=(HB.out.cell (World.block_lt_of_cell? w _ hx165_0)).trans hx165_0
     replace p165:=eq_true p165
     replace q165:=eq_true q165
     (try have hju_:=hji11z (by simp only [beq_iff_eq] at *;omega))
     go_wp2
     go_meet
     case rel => exact ⟨_,(((wrap64 (Int.tdiv a1 a0_0)) == 0)),(by first|rfl|(simp;done)|(simp [*];done)),H',⟨by first|omega|exact Nat.le_refl _⟩,⟨blk_up BK164.out⟩,⟨hb_⟩⟩
    ·rw [if_neg c53] at H
     have c53b0:=bqf c53
     have c53b1:=bnt c53
     have H':=Aside0.mk H
     clear H
     obtain ⟨_,_,_,_,_,_,_,_⟩:=cells4 BK164.out
     have p165 : 0 ≤ (a1 : Int):=of_decide_eq_true (by first|(with_reducible assumption)|assumption)
     have q165 : a1 < (l0_2.length : Int):=of_decide_eq_true (by first|(with_reducible assumption)|assumption)
     obtain ⟨ad165,e165,hx165_0⟩:=Kd.at_int HR0_2.out a1 p165 q165
     cases e165
     replace hx165_0:=(HB.out.cell (World.block_lt_of_cell? w _ hx165_0)).trans hx165_0
     replace p165:=eq_true p165
     replace q165:=eq_true q165
     (try have hju_:=hji11z (by simp only [beq_iff_eq] at *;omega))
     go_wp2
     go_meet
     case rel => exact ⟨_,(false),(by first|rfl|(simp;done)|(simp [*];done)),H',⟨by first|omega|exact Nat.le_refl _⟩,⟨blk_up BK164.out⟩,⟨hb_⟩⟩
   rw [if_pos c38] at H
   have c38b0:=bqt c38
   have c38b1:=bnf c38
   clear c38
   by_cases c39 : (wrap64 ((wrap64 (Int.tdiv a1 a0_0)) + 1)) = a0_1
   ·rw [if_pos c39] at H
    have c39b0:=bqt c39
    have c39b1:=bnf c39
    clear c39
    have H':=Aside0.mk H
    clear H
    obtain ⟨_,_,_,_,_,_,_,_⟩:=cells4 BK164.out
    have p165 : 0 ≤ (a1 : Int):=of_decide_eq_true (by first|(with_reducible assumption)|assumption)
    have q165 : a1 < (l0_2.length : Int):=of_decide_eq_true (by first|(with_reducible assumption)|assumption)
    obtain ⟨ad165,e165,hx165_0⟩:=Kd.at_int HR0_2.out a1 p165 q165
    cases e165
    replace hx165_0:=(HB.out.cell (World.block_lt_of_cell? w _ hx165_0)).trans hx165_0
    replace p165:=eq_true p165
    replace q165:=eq_true q165
    (try have hju_:=hji11z (by simp only [beq_iff_eq] at *;omega))
    go_wp2
    go_meet
    case rel => exact ⟨_,(true),(by first|rfl|(simp;done)|(simp [*];done)),H',⟨by first|omega|exact Nat.le_refl _⟩,⟨blk_up BK164.out⟩,⟨hb_⟩⟩
   rw [if_neg c39] at H
   have c39b0:=bqf c39
   have c39b1:=bnt c39
   by_cases c41 : a2 = 2
   rotate_left
   ·rw [if_neg c41] at H
    have c41b0:=bqf c41
    have c41b1:=bnt c41
    by_cases c47 : a2 = 3
    ·rw [if_pos c47] at H
     have c47b0:=bqt c47
     have c47b1:=bnf c47
     clear c47
     have H':=Aside0.mk H
     clear H
     obtain ⟨_,_,_,_,_,_,_,_⟩:=cells4 BK164.out
     have p165 : 0 ≤ (a1 : Int):=of_decide_eq_true (by first|(with_reducible assumption)|assumption)
     have q165 : a1 < (l0_2.length : Int):=of_decide_eq_true (by first|(with_reducible assumption)|assumption)
     obtain ⟨ad165,e165,hx165_0⟩:=Kd.at_int HR0_2.out a1 p165 q165
     cases e165
     replace hx165_0:=(HB.out.cell (World.block_lt_of_cell? w _ hx165_0)).trans hx165_0
     replace p165:=eq_true p165
     replace q165:=eq_true q165
     (try have hju_:=hji11z (by simp only [beq_iff_eq] at *;omega))
     go_wp2
     go_meet
     case rel => exact ⟨_,(((wrap64 (Int.tdiv a1 a0_0)) == 0)),(by first|rfl|(simp;done)|(simp [*];done)),H',⟨by first|omega|exact Nat.le_refl _⟩,⟨blk_up BK164.out⟩,⟨hb_⟩⟩
    ·rw [if_neg c47] at H
     have c47b0:=bqf c47
     have c47b1:=bnt c47
     have H':=Aside0.mk H
     clear H
     obtain ⟨_,_,_,_,_,_,_,_⟩:=cells4 BK164.out
     have p165 : 0 ≤ (a1 : Int):=of_decide_eq_true (by first|(with_reducible assumption)|assumption)
     have q165 : a1 < (l0_2.length : Int):=of_decide_eq_true (by first|(with_reducible assumption)|assumption)
     obtain ⟨ad165,e165,hx165_0⟩:=Kd.at_int HR0_2.out a1 p165 q165
     cases e165
     replace hx165_0:=(HB.out.cell (World.block_lt_of_cell? w _ hx165_0)).trans hx165_0
     replace p165:=eq_true p165
     replace q165:=eq_true q165
     (try have hju_:=hji11z (by simp only [beq_iff_eq] at *;omega))
     go_wp2
     go_meet
     case rel => exact ⟨_,(false),(by first|rfl|(simp;done)|(simp [*];done)),H',⟨by first|omega|exact Nat.le_refl _⟩,⟨blk_up BK164.out⟩,⟨hb_⟩⟩
   rw [if_pos c41] at H
   have c41b0:=bqt c41
   have c41b1:=bnf c41
   clear c41
   by_cases c42 : (Int.tmod a1 a0_0) = 0
   ·rw [if_pos c42] at H
    have c42b0:=bqt c42
    have c42b1:=bnf c42
    clear c42
    have H':=Aside0.mk H
    clear H
    obtain ⟨_,_,_,_,_,_,_,_⟩:=cells4 BK164.out
    have p165 : 0 ≤ (a1 : Int):=of_decide_eq_true (by first|(with_reducible assumption)|assumption)
    have q165 : a1 < (l0_2.length : Int):=of_decide_eq_true (by first|(with_reducible assumption)|assumption)
    obtain ⟨ad165,e165,hx165_0⟩:=Kd.at_int HR0_2.out a1 p165 q165
    cases e165
    replace hx165_0:=(HB.out.cell (World.block_lt_of_cell? w _ hx165_0)).trans hx165_0
    replace p165:=eq_true p165
    replace q165:=eq_true q165
    (try have hju_:=hji11z (by simp only [beq_iff_eq] at *;omega))
    go_wp2
    go_meet
    case rel => exact ⟨_,(true),(by first|rfl|(simp;done)|(simp [*];done)),H',⟨by first|omega|exact Nat.le_refl _⟩,⟨blk_up BK164.out⟩,⟨hb_⟩⟩
   rw [if_neg c42] at H
   have c42b0:=bqf c42
   have c42b1:=bnt c42
   by_cases c44 : a2 = 3
   ·rw [if_pos c44] at H
    have c44b0:=bqt c44
    have c44b1:=bnf c44
    clear c44
    have H':=Aside0.mk H
    clear H
    obtain ⟨_,_,_,_,_,_,_,_⟩:=cells4 BK164.out
    have p165 : 0 ≤ (a1 : Int):=of_decide_eq_true (by first|(with_reducible assumption)|assumption)
    have q165 : a1 < (l0_2.length : Int):=of_decide_eq_true (by first|(with_reducible assumption)|assumption)
    obtain ⟨ad165,e165,hx165_0⟩:=Kd.at_int HR0_2.out a1 p165 q165
    cases e165
    replace hx165_0:=(HB.out.cell (World.block_lt_of_cell? w _ hx165_0)).trans hx165_0
    replace p165:=eq_true p165
    replace q165:=eq_true q165
    (try have hju_:=hji11z (by simp only [beq_iff_eq] at *;omega))
    go_wp2
    go_meet
    case rel => exact ⟨_,(((wrap64 (Int.tdiv a1 a0_0)) == 0)),(by first|rfl|(simp;done)|(simp [*];done)),H',⟨by first|omega|exact Nat.le_refl _⟩,⟨blk_up BK164.out⟩,⟨hb_⟩⟩
   ·rw [if_neg c44] at H
    have c44b0:=bqf c44
    have c44b1:=bnt c44
    have H':=Aside0.mk H
    clear H
    obtain ⟨_,_,_,_,_,_,_,_⟩:=cells4 BK164.out
    have p165 : 0 ≤ (a1 : Int):=of_decide_eq_true (by first|(with_reducible assumption)|assumption)
    have q165 : a1 < (l0_2.length : Int):=of_decide_eq_true (by first|(with_reducible assumption)|assumption)
    obtain ⟨ad165,e165,hx165_0⟩:=Kd.at_int HR0_2.out a1 p165 q165
    cases e165
    replace hx165_0:=(HB.out.cell (World.block_lt_of_cell? w _ hx165_0)).trans hx165_0
    replace p165:=eq_true p165
    replace q165:=eq_true q165
    (try have hju_:=hji11z (by simp only [beq_iff_eq] at *;omega))
    go_wp2
    go_meet
    case rel => exact ⟨_,(false),(by first|rfl|(simp;done)|(simp [*];done)),H',⟨by first|omega|exact Nat.le_refl _⟩,⟨blk_up BK164.out⟩,⟨hb_⟩⟩
  rw [if_pos c14] at H
  have c14b0:=bqt c14
  have c14b1:=bnf c14
  clear c14
  by_cases c15 : (wrap64 ((Int.tmod a1 a0_0) + 1)) = a0_0
  ·rw [if_pos c15] at H
   have c15b0:=bqt c15
   have c15b1:=bnf c15
   clear c15
   have H':=Aside0.mk H
   clear H
   obtain ⟨_,_,_,_,_,_,_,_⟩:=cells4 BK164.out
   have p165 : 0 ≤ (a1 : Int):=of_decide_eq_true (by first|(with_reducible assumption)|assumption)
   have q165 : a1 < (l0_2.length : Int):=of_decide_eq_true (by first|(with_reducible assumption)|assumption)
   obtain ⟨ad165,e165,hx165_0⟩:=Kd.at_int HR0_2.out a1 p165 q165
   cases e165
   replace hx165_0:=(HB.out.cell (World.block_lt_of_cell? w _ hx165_0)).trans hx165_0
   replace p165:=eq_true p165
   replace q165:=eq_true q165
   (try have hju_:=hji11z (by simp only [beq_iff_eq] at *;omega))
   go_wp2
   go_meet
   case rel => exact ⟨_,(true),(by first|rfl|(simp;done)|(simp [*];done)),H',⟨by first|omega|exact Nat.le_refl _⟩,⟨blk_up BK164.out⟩,⟨hb_⟩⟩
  rw [if_neg c15] at H
  have c15b0:=bqf c15
  have c15b1:=bnt c15
  by_cases c17 : a2 = 1
  rotate_left
  ·rw [if_neg c17] at H
   have c17b0:=bqf c17
   have c17b1:=bnt c17
   by_cases c29 : a2 = 2
   rotate_left
   ·rw [if_neg c29] at H
    have c29b0:=bqf c29
    have c29b1:=bnt c29
    by_cases c35 : a2 = 3
    ·rw [if_pos c35] at H
     have c35b0:=bqt c35
     have c35b1:=bnf c35
     clear c35
     have H':=Aside0.mk H
     clear H
     obtain ⟨_,_,_,_,_,_,_,_⟩:=cells4 BK164.out
     have p165 : 0 ≤ (a1 : Int):=of_decide_eq_true (by first|(with_reducible assumption)|assumption)
     have q165 : a1 < (l0_2.length : Int):=of_decide_eq_true (by first|(with_reducible assumption)|assumption)
     obtain ⟨ad165,e165,hx165_0⟩:=Kd.at_int HR0_2.out a1 p165 q165
     cases e165
     replace hx165_0:=(HB.out.cell (World.block_lt_of_cell? w _ hx165_0)).trans hx165_0
     replace p165:=eq_true p165
     replace q165:=eq_true q165
     (try have hju_:=hji11z (by simp only [beq_iff_eq] at *;omega))
     go_wp2
     go_meet
     case rel => exact ⟨_,(((wrap64 (Int.tdiv a1 a0_0)) == 0)),(by first|rfl|(simp;done)|(simp [*];done)),H',⟨by first|omega|exact Nat.le_refl _⟩,⟨blk_up BK164.out⟩,⟨hb_⟩⟩
    ·rw [if_neg c35] at H
     have c35b0:=bqf c35
     have c35b1:=bnt c35
     have H':=Aside0.mk H
     clear H
     obtain ⟨_,_,_,_,_,_,_,_⟩:=cells4 BK164.out
     have p165 : 0 ≤ (a1 : Int):=of_decide_eq_true (by first|(with_reducible assumption)|assumption)
     have q165 : a1 < (l0_2.length : Int):=of_decide_eq_true (by first|(with_reducible assumption)|assumption)
     obtain ⟨ad165,e165,hx165_0⟩:=Kd.at_int HR0_2.out a1 p165 q165
     cases e165
     replace hx165_0:=(HB.out.cell (World.block_lt_of_cell? w _ hx165_0)).trans hx165_0
     replace p165:=eq_true p165
     replace q165:=eq_true q165
     (try have hju_:=hji11z (by simp only [beq_iff_eq] at *;omega))
     go_wp2
     go_meet
     case rel => exact ⟨_,(false),(by first|rfl|(simp;done)|(simp [*];done)),H',⟨by first|omega|exact Nat.le_refl _⟩,⟨blk_up BK164.out⟩,⟨hb_⟩⟩
   rw [if_pos c29] at H
   have c29b0:=bqt c29
   have c29b1:=bnf c29
   clear c29
   by_cases c30 : (Int.tmod a1 a0_0) = 0
   ·rw [if_pos c30] at H
    have c30b0:=bqt c30
    have c30b1:=bnf c30
    clear c30
    have H':=Aside0.mk H
    clear H
    obtain ⟨_,_,_,_,_,_,_,_⟩:=cells4 BK164.out
    have p165 : 0 ≤ (a1 : Int):=of_decide_eq_true (by first|(with_reducible assumption)|assumption)
    have q165 : a1 < (l0_2.length : Int):=of_decide_eq_true (by first|(with_reducible assumption)|assumption)
    obtain ⟨ad165,e165,hx165_0⟩:=Kd.at_int HR0_2.out a1 p165 q165
    cases e165
    replace hx165_0:=(HB.out.cell (World.block_lt_of_cell? w _ hx165_0)).trans hx165_0
    replace p165:=eq_true p165
    replace q165:=eq_true q165
    (try have hju_:=hji11z (by simp only [beq_iff_eq] at *;omega))
    go_wp2
    go_meet
    case rel => exact ⟨_,(true),(by first|rfl|(simp;done)|(simp [*];done)),H',⟨by first|omega|exact Nat.le_refl _⟩,⟨blk_up BK164.out⟩,⟨hb_⟩⟩
   rw [if_neg c30] at H
   have c30b0:=bqf c30
   have c30b1:=bnt c30
   by_cases c32 : a2 = 3
   ·rw [if_pos c32] at H
    have c32b0:=bqt c32
    have c32b1:=bnf c32
    clear c32
    have H':=Aside0.mk H
    clear H
    obtain ⟨_,_,_,_,_,_,_,_⟩:=cells4 BK164.out
    have p165 : 0 ≤ (a1 : Int):=of_decide_eq_true (by first|(with_reducible assumption)|assumption)
    have q165 : a1 < (l0_2.length : Int):=of_decide_eq_true (by first|(with_reducible assumption)|assumption)
    obtain ⟨ad165,e165,hx165_0⟩:=Kd.at_int HR0_2.out a1 p165 q165
    cases e165
    replace hx165_0:=(HB.out.cell (World.block_lt_of_cell? w _ hx165_0)).trans hx165_0
    replace p165:=eq_true p165
    replace q165:=eq_true q165
    (try have hju_:=hji11z (by simp only [beq_iff_eq] at *;omega))
    go_wp2
    go_meet
    case rel => exact ⟨_,(((wrap64 (Int.tdiv a1 a0_0)) == 0)),(by first|rfl|(simp;done)|(simp [*];done)),H',⟨by first|omega|exact Nat.le_refl _⟩,⟨blk_up BK164.out⟩,⟨hb_⟩⟩
   ·rw [if_neg c32] at H
    have c32b0:=bqf c32
    have c32b1:=bnt c32
    have H':=Aside0.mk H
    clear H
    obtain ⟨_,_,_,_,_,_,_,_⟩:=cells4 BK164.out
    have p165 : 0 ≤ (a1 : Int):=of_decide_eq_true (by first|(with_reducible assumption)|assumption)
    have q165 : a1 < (l0_2.length : Int):=of_decide_eq_true (by first|(with_reducible assumption)|assumption)
    obtain ⟨ad165,e165,hx165_0⟩:=Kd.at_int HR0_2.out a1 p165 q165
    cases e165
    replace hx165_0:=(HB.out.cell (World.block_lt_of_cell? w _ hx165_0)).trans hx165_0
    replace p165:=eq_true p165
    replace q165:=eq_true q165
    (try have hju_:=hji11z (by simp only [beq_iff_eq] at *;omega))
    go_wp2
    go_meet
    case rel => exact ⟨_,(false),(by first|rfl|(simp;done)|(simp [*];done)),H',⟨by first|omega|exact Nat.le_refl _⟩,⟨blk_up BK164.out⟩,⟨hb_⟩⟩
  rw [if_pos c17] at H
  have c17b0:=bqt c17
  have c17b1:=bnf c17
  clear c17
  by_cases c18 : (wrap64 ((wrap64 (Int.tdiv a1 a0_0)) + 1)) = a0_1
  ·rw [if_pos c18] at H
   have c18b0:=bqt c18
   have c18b1:=bnf c18
   clear c18
   have H':=Aside0.mk H
   clear H
   obtain ⟨_,_,_,_,_,_,_,_⟩:=cells4 BK164.out
   have p165 : 0 ≤ (a1 : Int):=of_decide_eq_true (by first|(with_reducible assumption)|assumption)
   have q165 : a1 < (l0_2.length : Int):=of_decide_eq_true (by first|(with_reducible assumption)|assumption)
   obtain ⟨ad165,e165,hx165_0⟩:=Kd.at_int HR0_2.out a1 p165 q165
   cases e165
   replace hx165_0:=(HB.out.cell (World.block_lt_of_cell? w _ hx165_0)).trans hx165_0
   replace p165:=eq_true p165
   replace q165:=eq_true q165
   (try have hju_:=hji11z (by simp only [beq_iff_eq] at *;omega))
   go_wp2
   go_meet
   case rel => exact ⟨_,(true),(by first|rfl|(simp;done)|(simp [*];done)),H',⟨by first|omega|exact Nat.le_refl _⟩,⟨blk_up BK164.out⟩,⟨hb_⟩⟩
  rw [if_neg c18] at H
  have c18b0:=bqf c18
  have c18b1:=bnt c18
  by_cases c20 : a2 = 2
  rotate_left
  ·rw [if_neg c20] at H
   have c20b0:=bqf c20
   have c20b1:=bnt c20
   by_cases c26 : a2 = 3
   ·rw [if_pos c26] at H
    have c26b0:=bqt c26
    have c26b1:=bnf c26
    clear c26
    have H':=Aside0.mk H
    clear H
    obtain ⟨_,_,_,_,_,_,_,_⟩:=cells4 BK164.out
    have p165 : 0 ≤ (a1 : Int):=of_decide_eq_true (by first|(with_reducible assumption)|assumption)
    have q165 : a1 < (l0_2.length : Int):=of_decide_eq_true (by first|(with_reducible assumption)|assumption)
    obtain ⟨ad165,e165,hx165_0⟩:=Kd.at_int HR0_2.out a1 p165 q165
    cases e165
    replace hx165_0:=(HB.out.cell (World.block_lt_of_cell? w _ hx165_0)).trans hx165_0
    replace p165:=eq_true p165
    replace q165:=eq_true q165
    (try have hju_:=hji11z (by simp only [beq_iff_eq] at *;omega))
    go_wp2
    go_meet
    case rel => exact ⟨_,(((wrap64 (Int.tdiv a1 a0_0)) == 0)),(by first|rfl|(simp;done)|(simp [*];done)),H',⟨by first|omega|exact Nat.le_refl _⟩,⟨blk_up BK164.out⟩,⟨hb_⟩⟩
   ·rw [if_neg c26] at H
    have c26b0:=bqf c26
    have c26b1:=bnt c26
    have H':=Aside0.mk H
    clear H
    obtain ⟨_,_,_,_,_,_,_,_⟩:=cells4 BK164.out
    have p165 : 0 ≤ (a1 : Int):=of_decide_eq_true (by first|(with_reducible assumption)|assumption)
    have q165 : a1 < (l0_2.length : Int):=of_decide_eq_true (by first|(with_reducible assumption)|assumption)
    obtain ⟨ad165,e165,hx165_0⟩:=Kd.at_int HR0_2.out a1 p165 q165
    cases e165
    replace hx165_0:=(HB.out.cell (World.block_lt_of_cell? w _ hx165_0)).trans hx165_0
    replace p165:=eq_true p165
    replace q165:=eq_true q165
    (try have hju_:=hji11z (by simp only [beq_iff_eq] at *;omega))
    go_wp2
    go_meet
    case rel => exact ⟨_,(false),(by first|rfl|(simp;done)|(simp [*];done)),H',⟨by first|omega|exact Nat.le_refl _⟩,⟨blk_up BK164.out⟩,⟨hb_⟩⟩
  rw [if_pos c20] at H
  have c20b0:=bqt c20
  have c20b1:=bnf c20
  clear c20
  by_cases c21 : (Int.tmod a1 a0_0) = 0
  ·rw [if_pos c21] at H
   have c21b0:=bqt c21
   have c21b1:=bnf c21
   clear c21
   have H':=Aside0.mk H
   clear H
   obtain ⟨_,_,_,_,_,_,_,_⟩:=cells4 BK164.out
   have p165 : 0 ≤ (a1 : Int):=of_decide_eq_true (by first|(with_reducible assumption)|assumption)
   have q165 : a1 < (l0_2.length : Int):=of_decide_eq_true (by first|(with_reducible assumption)|assumption)
   obtain ⟨ad165,e165,hx165_0⟩:=Kd.at_int HR0_2.out a1 p165 q165
   cases e165
   replace hx165_0:=(HB.out.cell (World.block_lt_of_cell? w _ hx165_0)).trans hx165_0
   replace p165:=eq_true p165
   replace q165:=eq_true q165
   (try have hju_:=hji11z (by simp only [beq_iff_eq] at *;omega))
   go_wp2
   go_meet
   case rel => exact ⟨_,(true),(by first|rfl|(simp;done)|(simp [*];done)),H',⟨by first|omega|exact Nat.le_refl _⟩,⟨blk_up BK164.out⟩,⟨hb_⟩⟩
  rw [if_neg c21] at H
  have c21b0:=bqf c21
  have c21b1:=bnt c21
  by_cases c23 : a2 = 3
  ·rw [if_pos c23] at H
   have c23b0:=bqt c23
   have c23b1:=bnf c23
   clear c23
   have H':=Aside0.mk H
   clear H
   obtain ⟨_,_,_,_,_,_,_,_⟩:=cells4 BK164.out
   have p165 : 0 ≤ (a1 : Int):=of_decide_eq_true (by first|(with_reducible assumption)|assumption)
   have q165 : a1 < (l0_2.length : Int):=of_decide_eq_true (by first|(with_reducible assumption)|assumption)
   obtain ⟨ad165,e165,hx165_0⟩:=Kd.at_int HR0_2.out a1 p165 q165
   cases e165
   replace hx165_0:=(HB.out.cell (World.block_lt_of_cell? w _ hx165_0)).trans hx165_0
   replace p165:=eq_true p165
   replace q165:=eq_true q165
   (try have hju_:=hji11z (by simp only [beq_iff_eq] at *;omega))
   go_wp2
   go_meet
   case rel => exact ⟨_,(((wrap64 (Int.tdiv a1 a0_0)) == 0)),(by first|rfl|(simp;done)|(simp [*];done)),H',⟨by first|omega|exact Nat.le_refl _⟩,⟨blk_up BK164.out⟩,⟨hb_⟩⟩
  ·rw [if_neg c23] at H
   have c23b0:=bqf c23
   have c23b1:=bnt c23
   have H':=Aside0.mk H
   clear H
   obtain ⟨_,_,_,_,_,_,_,_⟩:=cells4 BK164.out
   have p165 : 0 ≤ (a1 : Int):=of_decide_eq_true (by first|(with_reducible assumption)|assumption)
   have q165 : a1 < (l0_2.length : Int):=of_decide_eq_true (by first|(with_reducible assumption)|assumption)
   obtain ⟨ad165,e165,hx165_0⟩:=Kd.at_int HR0_2.out a1 p165 q165
   cases e165
   replace hx165_0:=(HB.out.cell (World.block_lt_of_cell? w _ hx165_0)).trans hx165_0
   replace p165:=eq_true p165
   replace q165:=eq_true q165
   (try have hju_:=hji11z (by simp only [beq_iff_eq] at *;omega))
   go_wp2
   go_meet
   case rel => exact ⟨_,(false),(by first|rfl|(simp;done)|(simp [*];done)),H',⟨by first|omega|exact Nat.le_refl _⟩,⟨blk_up BK164.out⟩,⟨hb_⟩⟩
 case rest =>
  clear HC5
  obtain ⟨kq,x63_4,rfl,HA,HJ4,BK164,HB⟩:=hcut
  cases kq with
  | zero => exact absurd HA.out (by simp [hinterlandref17_linked.j0])
  | succ kj4 =>
   have H:=HA.out
   clear HA
   simp only [hinterlandref17_linked.j0] at H
   by_cases c59 : x63_4 = true
   ·subst c59
    have H1 : (some false) = some r:=by rw [if_pos rfl] at H;exact H
    clear H
    have H:=H1
    clear H1
    obtain rfl:=Option.some.inj H
    go_wp2
    go_ret
    exact ⟨er_,hb_⟩
   ·replace c59:=Bool.eq_false_iff.mpr c59
    subst c59
    have H1 : ((hinterlandref17_beyond.f a0_0 a0_1 l0_2 l0_3 a1 a2).bind fun t166 => (if 0 ≤ t166 then (if t166 < (l0_2.length : Int) then (if 0 ≤ (Int.tmod (wrap64 (a2 + 2)) 4) then (some ((Go.bits .and .i64 (shr .i64 (rd l0_2 t166) (Int.tmod (wrap64 (a2 + 2)) 4)) 1) == 1)) else (none)) else (none)) else (none))) = some r:=by rw [if_neg (show ¬ (false = true) by decide)] at H;exact H
    clear H
    have H:=H1
    clear H1
    replace H:=Option.bind_eq_some_iff.mp H
    obtain ⟨t166,A600,H⟩:=H
    replace H : (if 0 ≤ t166 then (if t166 < (l0_2.length : Int) then (if 0 ≤ (Int.tmod (wrap64 (a2 + 2)) 4) then (some ((Go.bits .and .i64 (shr .i64 (rd l0_2 t166) (Int.tmod (wrap64 (a2 + 2)) 4)) 1) == 1)) else (none)) else (none)) else (none)) = some r:=H
    have A60:=Aside0.mk A600
    clear A600
    replace H:=ifp_ H;obtain ⟨c61,H⟩:=H
    have c61b0 : decide (0 ≤ t166) = true:=decide_eq_true c61
    clear c61
    replace H:=ifp_ H;obtain ⟨c62,H⟩:=H
    have c62b0 : decide (t166 < (l0_2.length : Int)) = true:=decide_eq_true c62
    clear c62
    obtain ⟨ji63,hji63⟩ : ∃ j_ : Int,(Int.tmod (wrap64 (a2 + 2)) 4) = j_:=⟨_,rfl⟩
    replace H : (if 0 ≤ (ji63) then (some ((Go.bits .and .i64 (shr .i64 (rd l0_2 t166) (ji63)) 1) == 1)) else (none)) = some r:=by first|(rw [hji63] at H;exact H)|(simp only [hji63] at H ⊢;exact H)
    (try rw [hji63] at A60)
    replace H:=ifp_ H;obtain ⟨c64,H⟩:=H
    have c64b0:=eq_true c64
    have c64b1 : decide (0 ≤ (ji63)) = true:=decide_eq_true c64
    clear c64
    obtain ⟨ji65,hji65⟩ : ∃ j_ : Int,(shr .i64 (rd l0_2 t166) (ji63)) = j_:=⟨_,rfl⟩
    replace H : (some ((Go.bits .and .i64 (ji65) 1) == 1)) = some r:=by first|(rw [hji65] at H;exact H)|(simp only [hji65] at H ⊢;exact H)
    (try rw [hji65] at A60)
    have hji65_ : ((rd l0_2 t166) / 2 ^ min (ji63).toNat 64) = ji65:=hji65
    have hji65z : (ji63) ≤ 64 → ((rd l0_2 t166) / 2 ^ (ji63).toNat) = ji65:=shr_small hji65
    obtain rfl:=Option.some.inj H
    try go_wp2
    replace BK164:=Aside0.mk (blk_drew BK164.out)
    replace HB:=Aside0.mk (below_drew1 HB.out)
    have p167 : 0 ≤ (t166 : Int):=of_decide_eq_true (by first|(with_reducible assumption)|assumption)
    have q167 : t166 < (l0_2.length : Int):=of_decide_eq_true (by first|(with_reducible assumption)|assumption)
    obtain ⟨ad167,e167,hx167_0⟩:=Kd.at_int HR0_2.out t166 p167 q167
    have hw167_0:=hx167_0
    cases e167
    replace hx167_0:=(HB.out.cell (World.block_lt_of_cell? w _ hx167_0)).trans hx167_0
    replace p167:=eq_true p167
    replace q167:=eq_true q167
    refine start_ (n:=15) (S:=fun w' => w'.cell? ⟨gb164,0,none⟩ = some (.int .i64 a0_0) ∧ w'.cell? ⟨gb164,1,none⟩ = some (.int .i64 a0_1) ∧ w'.cell? ⟨gb164,2,none⟩ = some (.slice (some ad167) l0_2.length c0_2) ∧ w'.cell? ⟨gb164,3,none⟩ = some (.slice A0_3 l0_3.length c0_3) ∧ w'.cell? (ad167.add (t166).toNat) = some (.int .i64 (rd l0_2 t166))) (ds:=[]) #[false,false,false,false,false,false,false,false,false,false,false,false,false,false,false] (by kernel_rfl) rfl rfl ⟨(blk_cell BK164.out 0).trans rfl,(blk_cell BK164.out 1).trans rfl,(blk_cell BK164.out 2).trans rfl,(blk_cell BK164.out 3).trans rfl,((HB.out.cell (World.block_lt_of_cell? w _ hw167_0)).trans hw167_0)⟩ (fun hHeld => ?_);refine with_tabW hinterlandref17_linked.tab4 hinterlandref17_linked.bits4 (fun HT_ HW_ => ?_)
    generalize wc.drew = w66 at BK164 HB hx167_0 hHeld ⊢
    refine pI 0 (some 64) ?_
    refine pI 3 (some 67) ?_
    refine pI 4 (some 68) ?_
    refine pI 8 (some 72) ?_
    refine pI 9 (some 73) ?_
    refine pI 10 (some 74) ?_
    refine tI5 1 (some 65) hHeld ?_
    refine tI5 2 (some 66) hHeld ?_
    refine oI 5 (some 69) (fun K hK => ?_)
    refine goes_ Try.func67 (by kernel_rfl) rfl #[.agg #[.int .i64 a0_0,.int .i64 a0_1,.slice (some ad167) l0_2.length c0_2,.slice A0_3 l0_3.length c0_3],.int .i64 a1,.int .i64 a2] (by rfl) rfl rfl ga_ ?_
    with_reducible refine (hinterlandref17_beyond.calls a0_0 a0_1 _ _ l0_2 _ _ l0_3 a1 a2 t166 _ ?side1 ?side2 ?side3 ?side4 A60.out).mono ?_
    (case side1 => exact cq HR0_2)
    (case side2 => exact HC0_2.out)
    (case side3 => exact cq HR0_3)
    (case side4 => exact HC0_3.out)
    rintro e w67 ⟨rfl,hb⟩
    refine ⟨_,rfl,?_⟩
    have n0_:=bkb BK164 hb
    have n1_:=Aside0.mk (below_step (hb_) hb)
    clear BK164
    clear HB
    have BK164:=n0_
    have HB:=n1_
    clear n0_ n1_
    (try clear hb)
    (try clear hb2)
    (try clear hk)
    (try clear hi)
    refine hK.out _ _ ⟨(blk_cell BK164.out 0).trans rfl,(blk_cell BK164.out 1).trans rfl,(blk_cell BK164.out 2).trans rfl,(blk_cell BK164.out 3).trans rfl,((HB.out.cell (World.block_lt_of_cell? w _ hw167_0)).trans hw167_0)⟩ (fun hHeld => ?_)
    clear hK K
    refine norm_ (a':=?_) ?_ ?_
    rotate_left
    ·show Act.put _ (some 69) _ = _
     simp only [Act.put,List.setIfInBounds_toArray,List.set_cons_zero,List.set_cons_succ,i64_w,i32_w]
     rfl
    refine pI 6 (some 70) ?_
    refine tI5 7 (some 71) hHeld ?_
    refine pI 11 (some 75) ?_
    refine pI 12 (some 76) ?_
    refine pI 13 (some 77) ?_
    refine pI 14 (some 6) ?_
    refine done_ (done_of HT_.out (by kernel_rfl)) ?_
    try go_wp2
    go_ret
    exact ⟨by first|rfl|(simp [errW_none,errW_some] <;> rfl)|(simp only [← hji63,← hji65];first|rfl|(simp [errW_none,errW_some] <;> rfl))|(simp [*,errW_none,errW_some] <;> rfl),hb_⟩

end Go.Proofs.Ythjmdpekcleihaa.P

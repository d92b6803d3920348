/- Functions of this seat as plain Lean functions, with proofs that the Go code comes to just their answers, or what stands between them and a law's statement; no conditions. (Laid by a program of this session, out of the kit's print.) -/
import Derived.Test.YthjmdpekcleihaaPx0
import Derived.Test.YthjmdpekcleihaaPx3
import Derived.Test.YthjmdpekcleihaaPx6
import Derived.Test.YthjmdpekcleihaaPx10
import Derived.Test.YthjmdpekcleihaaPx11
namespace Go.Proofs.Ythjmdpekcleihaa.P
open Go.RowKit Go.Proofs.YthjmdpekcleihaaW.PrintWords Go.Proofs.YthjmdpekcleihaaW.PrintLast Go.Proofs.YthjmdpekcleihaaW.PrintMore
attribute [local go_sem] max2_int min2_int max_two min_two max_three min_three max_four min_four   -- for this text's walks alone
set_option linter.unusedVariables false
set_option linter.unusedSimpArgs false

/-! ### hinterlandlaw17_far: function 16 -/
def hinterlandlaw17_far.f (a0_0 : Int) (a0_1 : Int) (l0_2 : List Int) (l0_3 : List Int) (l0_4 : List Int) (l0_5 : List (S50)) : Option (Bool) := (hinterlandlaw17_wide.f a0_0 a0_1 l0_2 l0_3).bind fun t233 => (if t233 = true then (some true) else (if (l0_4.length : Int) > 1100 then (some true) else (some (decide ((l0_5.length : Int) > 100)))))
set_option maxHeartbeats 8000000 in
set_option maxRecDepth 100000 in
theorem hinterlandlaw17_far.calls (a0_0 : Int) (a0_1 : Int) (A0_2 : Option Addr) (c0_2 : Nat) (l0_2 : List Int) (A0_3 : Option Addr) (c0_3 : Nat) (l0_3 : List Int) (A0_4 : Option Addr) (c0_4 : Nat) (l0_4 : List Int) (A0_5 : Option Addr) (c0_5 : Nat) (l0_5 : List (S50)) (r : Bool) (w : World) (hr0_2 : Kd.C (Kd.int .i64) w A0_2 l0_2.length l0_2) (hc0_2 : l0_2.length ≤ c0_2) (hr0_3 : Kd.C (Kd.int .i64) w A0_3 l0_3.length l0_3) (hc0_3 : l0_3.length ≤ c0_3) (hr0_4 : Kd.C (Kd.int .i64) w A0_4 l0_4.length l0_4) (hc0_4 : l0_4.length ≤ c0_4) (hr0_5 : Kd.C k50 w A0_5 l0_5.length l0_5) (hc0_5 : l0_5.length ≤ c0_5) (h : hinterlandlaw17_far.f a0_0 a0_1 l0_2 l0_3 l0_4 l0_5 = some r) :
  Calls Try.prog 16 #[.agg #[.int .i64 a0_0,.int .i64 a0_1,.slice A0_2 l0_2.length c0_2,.slice A0_3 l0_3.length c0_3,.slice A0_4 l0_4.length c0_4,.slice A0_5 l0_5.length c0_5]] w fun e w' => e = .returned (.bool r) ∧ Below w.heap.size w w':=by
 have hu33:=Try.underlying33
 have hu24:=Try.underlying24
 have HR0_2:=Aside0.mk hr0_2
 have HC0_2:=Aside0.mk hc0_2
 clear hr0_2 hc0_2
 have HR0_3:=Aside0.mk hr0_3
 have HC0_3:=Aside0.mk hc0_3
 clear hr0_3 hc0_3
 have HR0_4:=Aside0.mk hr0_4
 have HC0_4:=Aside0.mk hc0_4
 clear hr0_4 hc0_4
 have HR0_5:=Aside0.mk hr0_5
 have HC0_5:=Aside0.mk hc0_5
 clear hr0_5 hc0_5
 have HB:=Aside0.mk (Below.refl w.heap.size w)
 have H : ((hinterlandlaw17_wide.f a0_0 a0_1 l0_2 l0_3).bind fun t233 => (if t233 = true then (some true) else (if (l0_4.length : Int) > 1100 then (some true) else (some (decide ((l0_5.length : Int) > 100)))))) = some r:=h
 clear h
 replace H:=Option.bind_eq_some_iff.mp H
 obtain ⟨t233,A20,H⟩:=H
 replace H : (if t233 = true then (some true) else (if (l0_4.length : Int) > 1100 then (some true) else (some (decide ((l0_5.length : Int) > 100))))) = some r:=H
 have A2:=Aside0.mk A20
 clear A20
 by_cases c3 : t233 = true
 ·subst c3
  have H1 : (some true) = some r:=by rw [if_pos rfl] at H;exact H
  clear H
  have H:=H1
  clear H1
  obtain rfl:=Option.some.inj H
  go_enter Try.func16,Try.ntmps16
  go_wp2_with (first|((with_reducible refine gate_dst (N:=1) rfl ?_);(try (refine gate_guard (by rfl) ?_;dsimp only));refine box_ev (N:=1) (cs:=#[.int .i64 a0_0,.int .i64 a0_1,.slice A0_2 l0_2.length c0_2,.slice A0_3 l0_3.length c0_3,.slice A0_4 l0_4.length c0_4,.slice A0_5 l0_5.length c0_5]) (t:=33) ?_;intro gb232 hg w4 hbox hb;have BK232:=Aside0.mk (hbox);have GW232 : Aside0 (w.heap.size ≤ gb232):=gsz hg;have GE232:=GW232;replace HB:=hbs hb;clear hb hbox hg;obtain ⟨_,_,_,_,_,_,_,_,_,_,_,_⟩:=cells6 BK232.out)|((with_reducible refine gate_callee (f:=12) rfl ?_);refine goesL_ (some 5) rfl rfl Try.func12 (by kernel_rfl) rfl #[.agg #[.int .i64 a0_0,.int .i64 a0_1,.slice A0_2 l0_2.length c0_2,.slice A0_3 l0_3.length c0_3]] rfl ga_ ?_;(with_reducible refine (hinterlandlaw17_wide.calls a0_0 a0_1 _ _ l0_2 _ _ l0_3 true _ ?_ ?_ ?_ ?_ A2.out).mono ?_);exact cq HR0_2;exact HC0_2.out;exact cq HR0_3;exact HC0_3.out;rintro e w6 ⟨rfl,hb⟩;refine ⟨_,rfl,?_⟩;replace BK232:=bkb BK232 hb;replace HB:=hbs hb))
  go_ret
  exact ⟨er_,hb_⟩
 ·replace c3:=Bool.eq_false_iff.mpr c3
  subst c3
  have H1 : (if (l0_4.length : Int) > 1100 then (some true) else (some (decide ((l0_5.length : Int) > 100)))) = some r:=by rw [if_neg (show ¬ (false = true) by decide)] at H;exact H
  clear H
  have H:=H1
  clear H1
  by_cases c7 : (l0_4.length : Int) > 1100
  ·rw [if_pos c7] at H
   have c7b0 : decide (1100 < (l0_4.length : Int)) = true:=decide_eq_true c7
   have c7b1 : decide (1100 < l0_4.length) = true:=decide_eq_true (by omega)
   clear c7
   obtain rfl:=Option.some.inj H
   go_enter Try.func16,Try.ntmps16
   go_wp2_with (first|((with_reducible refine gate_dst (N:=1) rfl ?_);(try (refine gate_guard (by rfl) ?_;dsimp only));refine box_ev (N:=1) (cs:=#[.int .i64 a0_0,.int .i64 a0_1,.slice A0_2 l0_2.length c0_2,.slice A0_3 l0_3.length c0_3,.slice A0_4 l0_4.length c0_4,.slice A0_5 l0_5.length c0_5]) (t:=33) ?_;intro gb232 hg w8 hbox hb;have BK232:=Aside0.mk (hbox);have GW232 : Aside0 (w.heap.size ≤ gb232):=gsz hg;have GE232:=GW232;replace HB:=hbs hb;clear hb hbox hg;obtain ⟨_,_,_,_,_,_,_,_,_,_,_,_⟩:=cells6 BK232.out)|((with_reducible refine gate_callee (f:=12) rfl ?_);refine goesL_ (some 5) rfl rfl Try.func12 (by kernel_rfl) rfl #[.agg #[.int .i64 a0_0,.int .i64 a0_1,.slice A0_2 l0_2.length c0_2,.slice A0_3 l0_3.length c0_3]] rfl ga_ ?_;(with_reducible refine (hinterlandlaw17_wide.calls a0_0 a0_1 _ _ l0_2 _ _ l0_3 false _ ?_ ?_ ?_ ?_ A2.out).mono ?_);exact cq HR0_2;exact HC0_2.out;exact cq HR0_3;exact HC0_3.out;rintro e w10 ⟨rfl,hb⟩;refine ⟨_,rfl,?_⟩;replace BK232:=bkb BK232 hb;replace HB:=hbs hb;obtain ⟨_,_,_,_,_,_,_,_,_,_,_,_⟩:=cells6 BK232.out))
   go_ret
   exact ⟨er_,hb_⟩
  ·rw [if_neg c7] at H
   have c7b0 : decide (1100 < (l0_4.length : Int)) = false:=decide_eq_false c7
   have c7b1 : decide (1100 < l0_4.length) = false:=decide_eq_false (by omega)
   clear c7
   obtain rfl:=Option.some.inj H
   go_enter Try.func16,Try.ntmps16
   go_wp2_with (first|((with_reducible refine gate_dst (N:=1) rfl ?_);(try (refine gate_guard (by rfl) ?_;dsimp only));refine box_ev (N:=1) (cs:=#[.int .i64 a0_0,.int .i64 a0_1,.slice A0_2 l0_2.length c0_2,.slice A0_3 l0_3.length c0_3,.slice A0_4 l0_4.length c0_4,.slice A0_5 l0_5.length c0_5]) (t:=33) ?_;intro gb232 hg w12 hbox hb;have BK232:=Aside0.mk (hbox);have GW232 : Aside0 (w.heap.size ≤ gb232):=gsz hg;have GE232:=GW232;replace HB:=hbs hb;clear hb hbox hg;obtain ⟨_,_,_,_,_,_,_,_,_,_,_,_⟩:=cells6 BK232.out)|((with_reducible refine gate_callee (f:=12) rfl ?_);refine goesL_ (some 5) rfl rfl Try.func12 (by kernel_rfl) rfl #[.agg #[.int .i64 a0_0,.int .i64 a0_1,.slice A0_2 l0_2.length c0_2,.slice A0_3 l0_3.length c0_3]] rfl ga_ ?_;(with_reducible refine (hinterlandlaw17_wide.calls a0_0 a0_1 _ _ l0_2 _ _ l0_3 false _ ?_ ?_ ?_ ?_ A2.out).mono ?_);exact cq HR0_2;exact HC0_2.out;exact cq HR0_3;exact HC0_3.out;rintro e w14 ⟨rfl,hb⟩;refine ⟨_,rfl,?_⟩;replace BK232:=bkb BK232 hb;replace HB:=hbs hb;obtain ⟨_,_,_,_,_,_,_,_,_,_,_,_⟩:=cells6 BK232.out))
   go_ret
   exact ⟨er_,hb_⟩

/-! ### hinterlandref17_taken: function 41 -/
def hinterlandref17_taken.l0 : Nat → Int → Int → Int → Int → Int → Int → List Int → List Int → List Int → List (S50) → Option (Bool)
 | 0,_,_,_,_,_,_,_,_,_,_ => none
 | k + 1,x1,x2,x3,x9,x235000,x235001,x235002,x235003,x235004,x235005 => if x9 < (x235005.length : Int) then (if x9 = x1 then (hinterlandref17_taken.l0 k x1 x2 x3 (wrap64 (x9 + 1)) x235000 x235001 x235002 x235003 x235004 x235005) else (if x2 ≥ 0 then (if 0 ≤ x9 then (if ((rd_T50 x235005 x9).f0) = x2 then (if ((rd_T50 x235005 x9).f2) = x3 then (some true) else (hinterlandref17_taken.l0 k x1 x2 x3 (wrap64 (x9 + 1)) x235000 x235001 x235002 x235003 x235004 x235005)) else (hinterlandref17_taken.l0 k x1 x2 x3 (wrap64 (x9 + 1)) x235000 x235001 x235002 x235003 x235004 x235005)) else (none)) else (hinterlandref17_taken.l0 k x1 x2 x3 (wrap64 (x9 + 1)) x235000 x235001 x235002 x235003 x235004 x235005))) else (some false)
def hinterlandref17_taken.f (k : Nat) (a0_0 : Int) (a0_1 : Int) (l0_2 : List Int) (l0_3 : List Int) (l0_4 : List Int) (l0_5 : List (S50)) (a1 : Int) (a2 : Int) (a3 : Int) : Option (Bool) := hinterlandref17_taken.l0 k a1 a2 a3 0 a0_0 a0_1 l0_2 l0_3 l0_4 l0_5
theorem hinterlandref17_taken.mono_l : ∀ k, (∀ y0 y1 y2 y3 y4 y5 y6 y7 y8 y9, LeO (hinterlandref17_taken.l0 k y0 y1 y2 y3 y4 y5 y6 y7 y8 y9) (hinterlandref17_taken.l0 (k + 1) y0 y1 y2 y3 y4 y5 y6 y7 y8 y9))
 | 0 => fun _ _ _ _ _ _ _ _ _ _ r h => by simp [hinterlandref17_taken.l0] at h
 | k + 1 => by
  have ih0:=hinterlandref17_taken.mono_l k
  ·intro y0 y1 y2 y3 y4 y5 y6 y7 y8 y9
   unfold hinterlandref17_taken.l0
   repeat' first
   | (with_reducible exact ih0 _ _ _ _ _ _ _ _ _ _)
   | (with_reducible exact LeO.refl _)
   | (with_reducible exact LeO.none _)
   | (with_reducible refine LeO.ite ?_ ?_)
   | (with_reducible refine LeO.bind ?_ (fun _ => ?_))
   | exact ih0 _ _ _ _ _ _ _ _ _ _
   | exact LeO.none _
   | refine LeO.ite ?_ ?_
   | refine LeO.bind ?_ (fun _ => ?_)
theorem hinterlandref17_taken.mono : ∀ a0 a1 a2 a3 a4 a5 a6 a7 a8 k, LeO (hinterlandref17_taken.f k a0 a1 a2 a3 a4 a5 a6 a7 a8) (hinterlandref17_taken.f (k + 1) a0 a1 a2 a3 a4 a5 a6 a7 a8) := by
 intro a0 a1 a2 a3 a4 a5 a6 a7 a8 k
 have ih0:=hinterlandref17_taken.mono_l k
 unfold hinterlandref17_taken.f
 repeat' first
   | (with_reducible exact ih0 _ _ _ _ _ _ _ _ _ _)
   | (with_reducible exact LeO.refl _)
   | (with_reducible exact LeO.none _)
   | (with_reducible refine LeO.ite ?_ ?_)
   | (with_reducible refine LeO.bind ?_ (fun _ => ?_))
   | exact ih0 _ _ _ _ _ _ _ _ _ _
   | exact LeO.none _
   | refine LeO.ite ?_ ?_
   | refine LeO.bind ?_ (fun _ => ?_)
set_option maxHeartbeats 8000000 in
set_option maxRecDepth 100000 in
theorem hinterlandref17_taken.calls (k : Nat) (a0_0 : Int) (a0_1 : Int) (A0_2 : Option Addr) (c0_2 : Nat) (l0_2 : List Int) (A0_3 : Option Addr) (c0_3 : Nat) (l0_3 : List Int) (A0_4 : Option Addr) (c0_4 : Nat) (l0_4 : List Int) (A0_5 : Option Addr) (c0_5 : Nat) (l0_5 : List (S50)) (a1 : Int) (a2 : Int) (a3 : Int) (r : Bool) (w : World) (hr0_2 : Kd.C (Kd.int .i64) w A0_2 l0_2.length l0_2) (hc0_2 : l0_2.length ≤ c0_2) (hr0_3 : Kd.C (Kd.int .i64) w A0_3 l0_3.length l0_3) (hc0_3 : l0_3.length ≤ c0_3) (hr0_4 : Kd.C (Kd.int .i64) w A0_4 l0_4.length l0_4) (hc0_4 : l0_4.length ≤ c0_4) (hr0_5 : Kd.C k50 w A0_5 l0_5.length l0_5) (hc0_5 : l0_5.length ≤ c0_5) (h : hinterlandref17_taken.f k a0_0 a0_1 l0_2 l0_3 l0_4 l0_5 a1 a2 a3 = some r) :
  Calls Try.prog 41 #[.agg #[.int .i64 a0_0,.int .i64 a0_1,.slice A0_2 l0_2.length c0_2,.slice A0_3 l0_3.length c0_3,.slice A0_4 l0_4.length c0_4,.slice A0_5 l0_5.length c0_5],.int .i64 a1,.int .i64 a2,.int .i64 a3] w fun e w' => e = .returned (.bool r) ∧ Below w.heap.size w w':=by
 have hu33:=Try.underlying33
 have HR0_2:=Aside0.mk hr0_2
 have HC0_2:=Aside0.mk hc0_2
 clear hr0_2 hc0_2
 have HR0_3:=Aside0.mk hr0_3
 have HC0_3:=Aside0.mk hc0_3
 clear hr0_3 hc0_3
 have HR0_4:=Aside0.mk hr0_4
 have HC0_4:=Aside0.mk hc0_4
 clear hr0_4 hc0_4
 have HR0_5:=Aside0.mk hr0_5
 have HC0_5:=Aside0.mk hc0_5
 clear hr0_5 hc0_5
 have HB:=Aside0.mk (Below.refl w.heap.size w)
 have H : (hinterlandref17_taken.l0 k a1 a2 a3 0 a0_0 a0_1 l0_2 l0_3 l0_4 l0_5) = some r:=h
 clear h
 have H':=Aside0.mk H
 clear H
 go_enter Try.func41,Try.ntmps41
 go_wp2_with (first|((with_reducible refine gate_dst (N:=4) rfl ?_);refine box_ev (N:=4) (cs:=#[.int .i64 a0_0,.int .i64 a0_1,.slice A0_2 l0_2.length c0_2,.slice A0_3 l0_3.length c0_3,.slice A0_4 l0_4.length c0_4,.slice A0_5 l0_5.length c0_5]) (t:=33) ?_;intro gb234 hg w5 hbox hb;have BK234:=Aside0.mk (hbox);have GW234 : Aside0 (w.heap.size ≤ gb234):=gsz hg;have GE234:=GW234;replace HB:=hbs hb;clear hb hbox hg))
 go_loopg [9] k (fun kq v9 w' => ∃ (x9_1 : Int),v9 = .int .i64 x9_1 ∧ Aside0 (hinterlandref17_taken.l0 kq a1 a2 a3 x9_1 a0_0 a0_1 l0_2 l0_3 l0_4 l0_5 = some r) ∧ Aside0 (kq ≤ k) ∧ Aside0 (w'.heap[gb234]? = some (.cells #[.int .i64 a0_0,.int .i64 a0_1,(.slice A0_2 l0_2.length c0_2),(.slice A0_3 l0_3.length c0_3),(.slice A0_4 l0_4.length c0_4),(.slice A0_5 l0_5.length c0_5)] 33 (0,0))) ∧ Aside0 (Below w.heap.size w w'))
 case atStart => exact ⟨(0),(by first|rfl|(simp;done)|(simp [*];done)),H',⟨Nat.le_refl _⟩,⟨blk_up BK234.out⟩,⟨hb_⟩⟩
 case round =>
  clear H'
  obtain ⟨x9_1,rfl,HA,HK1,BK234,HB⟩:=hrel
  cases gk with
  | zero => exact absurd HA.out (by simp [hinterlandref17_taken.l0])
  | succ k1 =>
   have H:=HA.out
   clear HA
   simp only [hinterlandref17_taken.l0] at H
   by_cases c6 : x9_1 < (l0_5.length : Int)
   rotate_left
   ·rw [if_neg c6] at H
    have c6b0 : decide (x9_1 < (l0_5.length : Int)) = false:=decide_eq_false c6
    clear c6
    obtain rfl:=Option.some.inj H
    obtain ⟨_,_,_,_,_,_,_,_,_,_,_,_⟩:=cells6 BK234.out
    go_wp2
    go_ret
    exact ⟨er_,hb_⟩
   rw [if_pos c6] at H
   have c6b0 : decide (x9_1 < (l0_5.length : Int)) = true:=decide_eq_true c6
   clear c6
   by_cases c7 : x9_1 = a1
   ·rw [if_pos c7] at H
    have c7b0:=bqt c7
    have c7b1:=bnf c7
    clear c7
    have H':=Aside0.mk H
    clear H
    obtain ⟨_,_,_,_,_,_,_,_,_,_,_,_⟩:=cells6 BK234.out
    go_wp2
    go_roundg k1
    case measure => have:=HK1.out;omega
    case rel => exact ⟨(wrap64 (x9_1 + 1)),(by first|rfl|(simp;done)|(simp [*];done)),H',⟨by have:=HK1.out;omega⟩,⟨blk_up BK234.out⟩,⟨hb_⟩⟩
   rw [if_neg c7] at H
   have c7b0:=bqf c7
   have c7b1:=bnt c7
   by_cases c9 : a2 ≥ 0
   rotate_left
   ·rw [if_neg c9] at H
    have c9b0 : decide (0 ≤ a2) = false:=decide_eq_false c9
    clear c9
    have H':=Aside0.mk H
    clear H
    obtain ⟨_,_,_,_,_,_,_,_,_,_,_,_⟩:=cells6 BK234.out
    go_wp2
    go_roundg k1
    case measure => have:=HK1.out;omega
    case rel => exact ⟨(wrap64 (x9_1 + 1)),(by first|rfl|(simp;done)|(simp [*];done)),H',⟨by have:=HK1.out;omega⟩,⟨blk_up BK234.out⟩,⟨hb_⟩⟩
   rw [if_pos c9] at H
   have c9b0 : decide (0 ≤ a2) = true:=decide_eq_true c9
   clear c9
   replace H:=ifp_ H;obtain ⟨c10,H⟩:=H
   have c10b0 : decide (0 ≤ x9_1) = true:=decide_eq_true c10
   clear c10
   by_cases c11 : ((rd_T50 l0_5 x9_1).f0) = a2
   rotate_left
   ·rw [if_neg c11] at H
    have c11b0:=bqf c11
    have c11b1:=bnt c11
    have H':=Aside0.mk H
    clear H
    obtain ⟨_,_,_,_,_,_,_,_,_,_,_,_⟩:=cells6 BK234.out
    have p235 : 0 ≤ (x9_1 : Int):=of_decide_eq_true (by first|(with_reducible assumption)|assumption)
    have q235 : x9_1 < (l0_5.length : Int):=of_decide_eq_true (by first|(with_reducible assumption)|assumption)
    obtain ⟨ad235,e235,hx235_0,hx235_1,hx235_2,hx235_3,hx235_4⟩:=at_T50 HR0_5.out x9_1 p235 q235
    cases e235
    replace hx235_0:=(HB.out.cell (World.block_lt_of_cell? w _ hx235_0)).trans hx235_0
    replace hx235_1:=(HB.out.cell (World.block_lt_of_cell? w _ hx235_1)).trans hx235_1
    replace hx235_2:=(HB.out.cell (World.block_lt_of_cell? w _ hx235_2)).trans hx235_2
    replace hx235_3:=(HB.out.cell (World.block_lt_of_cell? w _ hx235_3)).trans hx235_3
    replace hx235_4:=(HB.out.cell (World.block_lt_of_cell? w _ hx235_4)).trans hx235_4
    replace p235:=eq_true p235
    replace q235:=eq_true q235
    go_wp2
    go_roundg k1
    case measure => have:=HK1.out;omega
    case rel => exact ⟨(wrap64 (x9_1 + 1)),(by first|rfl|(simp;done)|(simp [*];done)),H',⟨by have:=HK1.out;omega⟩,⟨blk_up BK234.out⟩,⟨hb_⟩⟩
   rw [if_pos c11] at H
   have c11b0:=bqt c11
   have c11b1:=bnf c11
   clear c11
   by_cases c12 : ((rd_T50 l0_5 x9_1).f2) = a3
   ·rw [if_pos c12] at H
    have c12b0:=bqt c12
    have c12b1:=bnf c12
    clear c12
    obtain rfl:=Option.some.inj H
    obtain ⟨_,_,_,_,_,_,_,_,_,_,_,_⟩:=cells6 BK234.out
    have p235 : 0 ≤ (x9_1 : Int):=of_decide_eq_true (by first|(with_reducible assumption)|assumption)
    have q235 : x9_1 < (l0_5.length : Int):=of_decide_eq_true (by first|(with_reducible assumption)|assumption)
    obtain ⟨ad235,e235,hx235_0,hx235_1,hx235_2,hx235_3,hx235_4⟩:=at_T50 HR0_5.out x9_1 p235 q235
    cases e235
    replace hx235_0:=(HB.out.cell (World.block_lt_of_cell? w _ hx235_0)).trans hx235_0
    replace hx235_1:=(HB.out.cell (World.block_lt_of_cell? w _ hx235_1)).trans hx235_1
    replace hx235_2:=(HB.out.cell (World.block_lt_of_cell? w _ hx235_2)).trans hx235_2
    replace hx235_3:=(HB.out.cell (World.block_lt_of_cell? w _ hx235_3)).trans hx235_3
    replace hx235_4:=(HB.out.cell (World.block_lt_of_cell? w _ hx235_4)).trans hx235_4
    replace p235:=eq_true p235
    replace q235:=eq_true q235
    have p236 : 0 ≤ (x9_1 : Int):=of_decide_eq_true (by first|(with_reducible assumption)|assumption)
    have q236 : x9_1 < (l0_5.length : Int):=of_decide_eq_true (by first|(with_reducible assumption)|assumption)
    obtain ⟨ad236,e236,hx236_0,hx236_1,hx236_2,hx236_3,hx236_4⟩:=at_T50 HR0_5.out x9_1 p236 q236
    obtain rfl : ad235 = ad236:=(by injection e236)
    replace hx236_0:=(HB.out.cell (World.block_lt_of_cell? w _ hx236_0)).trans hx236_0
    replace hx236_1:=(HB.out.cell (World.block_lt_of_cell? w _ hx236_1)).trans hx236_1
    replace hx236_2:=(HB.out.cell (World.block_lt_of_cell? w _ hx236_2)).trans hx236_2
    replace hx236_3:=(HB.out.cell (World.block_lt_of_cell? w _ hx236_3)).trans hx236_3
    replace hx236_4:=(HB.out.cell (World.block_lt_of_cell? w _ hx236_4)).trans hx236_4
    replace p236:=eq_true p236
    replace q236:=eq_true q236
    go_wp2
    go_ret
    exact ⟨er_,hb_⟩
   rw [if_neg c12] at H
   have c12b0:=bqf c12
   have c12b1:=bnt c12
   have H':=Aside0.mk H
   clear H
   obtain ⟨_,_,_,_,_,_,_,_,_,_,_,_⟩:=cells6 BK234.out
   have p235 : 0 ≤ (x9_1 : Int):=of_decide_eq_true (by first|(with_reducible assumption)|assumption)
   have q235 : x9_1 < (l0_5.length : Int):=of_decide_eq_true (by first|(with_reducible assumption)|assumption)
   obtain ⟨ad235,e235,hx235_0,hx235_1,hx235_2,hx235_3,hx235_4⟩:=at_T50 HR0_5.out x9_1 p235 q235
   cases e235
   replace hx235_0:=(HB.out.cell (World.block_lt_of_cell? w _ hx235_0)).trans hx235_0
   replace hx235_1:=(HB.out.cell (World.block_lt_of_cell? w _ hx235_1)).trans hx235_1
   replace hx235_2:=(HB.out.cell (World.block_lt_of_cell? w _ hx235_2)).trans hx235_2
   replace hx235_3:=(HB.out.cell (World.block_lt_of_cell? w _ hx235_3)).trans hx235_3
   replace hx235_4:=(HB.out.cell (World.block_lt_of_cell? w _ hx235_4)).trans hx235_4
   replace p235:=eq_true p235
   replace q235:=eq_true q235
   have p236 : 0 ≤ (x9_1 : Int):=of_decide_eq_true (by first|(with_reducible assumption)|assumption)
   have q236 : x9_1 < (l0_5.length : Int):=of_decide_eq_true (by first|(with_reducible assumption)|assumption)
   obtain ⟨ad236,e236,hx236_0,hx236_1,hx236_2,hx236_3,hx236_4⟩:=at_T50 HR0_5.out x9_1 p236 q236
   obtain rfl : ad235 = ad236:=(by injection e236)
   replace hx236_0:=(HB.out.cell (World.block_lt_of_cell? w _ hx236_0)).trans hx236_0
   replace hx236_1:=(HB.out.cell (World.block_lt_of_cell? w _ hx236_1)).trans hx236_1
   replace hx236_2:=(HB.out.cell (World.block_lt_of_cell? w _ hx236_2)).trans hx236_2
   replace hx236_3:=(HB.out.cell (World.block_lt_of_cell? w _ hx236_3)).trans hx236_3
   replace hx236_4:=(HB.out.cell (World.block_lt_of_cell? w _ hx236_4)).trans hx236_4
   replace p236:=eq_true p236
   replace q236:=eq_true q236
   go_wp2
   go_roundg k1
   case measure => have:=HK1.out;omega
   case rel => exact ⟨(wrap64 (x9_1 + 1)),(by first|rfl|(simp;done)|(simp [*];done)),H',⟨by have:=HK1.out;omega⟩,⟨blk_up BK234.out⟩,⟨hb_⟩⟩

/-! ### hinterlandref17_Validate: function 17 -/
mutual
def hinterlandref17_Validate.l0 : Nat → Int → Int → Int → List Int → List Int → List Int → List (S50) → Option (Int)
 | 0,_,_,_,_,_,_,_ => none
 | k + 1,x4,x238000,x238001,x238002,x238003,x238004,x238005 => if x4 < (x238004.length : Int) then (if 0 ≤ (wrap64 (x4 - 1)) then (if (wrap64 (x4 - 1)) < (x238004.length : Int) then (if 0 ≤ x4 then (if (rd x238004 (wrap64 (x4 - 1))) ≥ (rd x238004 x4) then (some 1) else (hinterlandref17_Validate.l0 k (wrap64 (x4 + 1)) x238000 x238001 x238002 x238003 x238004 x238005)) else (none)) else (none)) else (none)) else (hinterlandref17_Validate.l1 k 0 x238000 x238001 x238002 x238003 x238004 x238005)
def hinterlandref17_Validate.l1 : Nat → Int → Int → Int → List Int → List Int → List Int → List (S50) → Option (Int)
 | 0,_,_,_,_,_,_,_ => none
 | k + 1,x5,x238000,x238001,x238002,x238003,x238004,x238005 => if x5 < (x238005.length : Int) then (if 0 ≤ x5 then ((hinterlandref17_piece.f ((rd_T50 x238005 x5).f0) ((rd_T50 x238005 x5).f1) ((rd_T50 x238005 x5).f2) ((rd_T50 x238005 x5).f3) ((rd_T50 x238005 x5).f4)).bind fun t243 => (if t243 = true then (some 1) else (hinterlandref17_Validate.l1 k (wrap64 (x5 + 1)) x238000 x238001 x238002 x238003 x238004 x238005))) else (none)) else (hinterlandref17_Validate.l2 k 0 x238000 x238001 x238002 x238003 x238004 x238005)
def hinterlandref17_Validate.l2 : Nat → Int → Int → Int → List Int → List Int → List Int → List (S50) → Option (Int)
 | 0,_,_,_,_,_,_,_ => none
 | k + 1,x7,x238000,x238001,x238002,x238003,x238004,x238005 => if x7 < (x238005.length : Int) then (if 0 ≤ x7 then (if ((rd_T50 x238005 x7).f0) < (-1) then (some 2) else (if ((rd_T50 x238005 x7).f0) ≥ (x238002.length : Int) then (some 2) else (hinterlandref17_Validate.l2 k (wrap64 (x7 + 1)) x238000 x238001 x238002 x238003 x238004 x238005))) else (none)) else (hinterlandref17_Validate.l3 k 0 x238000 x238001 x238002 x238003 x238004 x238005)
def hinterlandref17_Validate.l3 : Nat → Int → Int → Int → List Int → List Int → List Int → List (S50) → Option (Int)
 | 0,_,_,_,_,_,_,_ => none
 | k + 1,x9,x238000,x238001,x238002,x238003,x238004,x238005 => if x9 < (x238005.length : Int) then (if 0 ≤ x9 then (if ((rd_T50 x238005 x9).f0) < 0 then (hinterlandref17_Validate.l3 k (wrap64 (x9 + 1)) x238000 x238001 x238002 x238003 x238004 x238005) else ((hinterlandref17_linked.f k x238000 x238001 x238002 x238003 ((rd_T50 x238005 x9).f0) ((rd_T50 x238005 x9).f2)).bind fun t247 => (if t247 = true then (hinterlandref17_Validate.l3 k (wrap64 (x9 + 1)) x238000 x238001 x238002 x238003 x238004 x238005) else (some 8)))) else (none)) else (hinterlandref17_Validate.l4 k 0 x238000 x238001 x238002 x238003 x238004 x238005)
def hinterlandref17_Validate.l4 : Nat → Int → Int → Int → List Int → List Int → List Int → List (S50) → Option (Int)
 | 0,_,_,_,_,_,_,_ => none
 | k + 1,x11,x238000,x238001,x238002,x238003,x238004,x238005 => if x11 < (x238005.length : Int) then (if 0 ≤ x11 then ((hinterlandref17_taken.f k x238000 x238001 x238002 x238003 x238004 x238005 x11 ((rd_T50 x238005 x11).f0) ((rd_T50 x238005 x11).f2)).bind fun t250 => (if t250 = true then (some 7) else (hinterlandref17_Validate.l4 k (wrap64 (x11 + 1)) x238000 x238001 x238002 x238003 x238004 x238005))) else (none)) else (some 0)
end
def hinterlandref17_Validate.f (k : Nat) (a0_0 : Int) (a0_1 : Int) (l0_2 : List Int) (l0_3 : List Int) (l0_4 : List Int) (l0_5 : List (S50)) : Option (Int) := (hinterlandref04_Validate.f k a0_0 a0_1 l0_2 l0_3).bind fun t238 => (if t238 = 0 then (if (l0_5.length : Int) > 60 then (some 4) else (hinterlandref17_Validate.l0 k 1 a0_0 a0_1 l0_2 l0_3 l0_4 l0_5)) else (some t238))
theorem hinterlandref17_Validate.mono_l : ∀ k, (∀ y0 y1 y2 y3 y4 y5 y6, LeO (hinterlandref17_Validate.l0 k y0 y1 y2 y3 y4 y5 y6) (hinterlandref17_Validate.l0 (k + 1) y0 y1 y2 y3 y4 y5 y6)) ∧ (∀ y0 y1 y2 y3 y4 y5 y6, LeO (hinterlandref17_Validate.l1 k y0 y1 y2 y3 y4 y5 y6) (hinterlandref17_Validate.l1 (k + 1) y0 y1 y2 y3 y4 y5 y6)) ∧ (∀ y0 y1 y2 y3 y4 y5 y6, LeO (hinterlandref17_Validate.l2 k y0 y1 y2 y3 y4 y5 y6) (hinterlandref17_Validate.l2 (k + 1) y0 y1 y2 y3 y4 y5 y6)) ∧ (∀ y0 y1 y2 y3 y4 y5 y6, LeO (hinterlandref17_Validate.l3 k y0 y1 y2 y3 y4 y5 y6) (hinterlandref17_Validate.l3 (k + 1) y0 y1 y2 y3 y4 y5 y6)) ∧ (∀ y0 y1 y2 y3 y4 y5 y6, LeO (hinterlandref17_Validate.l4 k y0 y1 y2 y3 y4 y5 y6) (hinterlandref17_Validate.l4 (k + 1) y0 y1 y2 y3 y4 y5 y6))
 | 0 => ⟨fun _ _ _ _ _ _ _ r h => by simp [hinterlandref17_Validate.l0] at h,fun _ _ _ _ _ _ _ r h => by simp [hinterlandref17_Validate.l1] at h,fun _ _ _ _ _ _ _ r h => by simp [hinterlandref17_Validate.l2] at h,fun _ _ _ _ _ _ _ r h => by simp [hinterlandref17_Validate.l3] at h,fun _ _ _ _ _ _ _ r h => by simp [hinterlandref17_Validate.l4] at h⟩
 | k + 1 => by
  obtain ⟨ih0,ih1,ih2,ih3,ih4⟩:=hinterlandref17_Validate.mono_l k
  refine ⟨?_,?_,?_,?_,?_⟩
  ·intro y0 y1 y2 y3 y4 y5 y6
   unfold hinterlandref17_Validate.l0
   repeat' first
   | (with_reducible exact ih0 _ _ _ _ _ _ _)
   | (with_reducible exact ih1 _ _ _ _ _ _ _)
   | (with_reducible exact ih2 _ _ _ _ _ _ _)
   | (with_reducible exact ih3 _ _ _ _ _ _ _)
   | (with_reducible exact ih4 _ _ _ _ _ _ _)
   | (with_reducible exact hinterlandref04_Validate.mono _ _ _ _ _)
   | (with_reducible exact hinterlandref17_linked.mono _ _ _ _ _ _ _)
   | (with_reducible exact hinterlandref17_taken.mono _ _ _ _ _ _ _ _ _ _)
   | (with_reducible exact LeO.refl _)
   | (with_reducible exact LeO.none _)
   | (with_reducible refine LeO.ite ?_ ?_)
   | (with_reducible refine LeO.bind ?_ (fun _ => ?_))
   | exact ih0 _ _ _ _ _ _ _
   | exact ih1 _ _ _ _ _ _ _
   | exact ih2 _ _ _ _ _ _ _
   | exact ih3 _ _ _ _ _ _ _
   | exact ih4 _ _ _ _ _ _ _
   | exact hinterlandref04_Validate.mono _ _ _ _ _
   | exact hinterlandref17_linked.mono _ _ _ _ _ _ _
   | exact hinterlandref17_taken.mono _ _ _ _ _ _ _ _ _ _
   | exact LeO.none _
   | refine LeO.ite ?_ ?_
   | refine LeO.bind ?_ (fun _ => ?_)
  ·intro y0 y1 y2 y3 y4 y5 y6
   unfold hinterlandref17_Validate.l1
   repeat' first
   | (with_reducible exact ih0 _ _ _ _ _ _ _)
   | (with_reducible exact ih1 _ _ _ _ _ _ _)
   | (with_reducible exact ih2 _ _ _ _ _ _ _)
   | (with_reducible exact ih3 _ _ _ _ _ _ _)
   | (with_reducible exact ih4 _ _ _ _ _ _ _)
   | (with_reducible exact hinterlandref04_Validate.mono _ _ _ _ _)
   | (with_reducible exact hinterlandref17_linked.mono _ _ _ _ _ _ _)
   | (with_reducible exact hinterlandref17_taken.mono _ _ _ _ _ _ _ _ _ _)
   | (with_reducible exact LeO.refl _)
   | (with_reducible exact LeO.none _)
   | (with_reducible refine LeO.ite ?_ ?_)
   | (with_reducible refine LeO.bind ?_ (fun _ => ?_))
   | exact ih0 _ _ _ _ _ _ _
   | exact ih1 _ _ _ _ _ _ _
   | exact ih2 _ _ _ _ _ _ _
   | exact ih3 _ _ _ _ _ _ _
   | exact ih4 _ _ _ _ _ _ _
   | exact hinterlandref04_Validate.mono _ _ _ _ _
   | exact hinterlandref17_linked.mono _ _ _ _ _ _ _
   | exact hinterlandref17_taken.mono _ _ _ _ _ _ _ _ _ _
   | exact LeO.none _
   | refine LeO.ite ?_ ?_
   | refine LeO.bind ?_ (fun _ => ?_)
  ·intro y0 y1 y2 y3 y4 y5 y6
   unfold hinterlandref17_Validate.l2
   repeat' first
   | (with_reducible exact ih0 _ _ _ _ _ _ _)
   | (with_reducible exact ih1 _ _ _ _ _ _ _)
   | (with_reducible exact ih2 _ _ _ _ _ _ _)
   | (with_reducible exact ih3 _ _ _ _ _ _ _)
   | (with_reducible exact ih4 _ _ _ _ _ _ _)
   | (with_reducible exact hinterlandref04_Validate.mono _ _ _ _ _)
   | (with_reducible exact hinterlandref17_linked.mono _ _ _ _ _ _ _)
   | (with_reducible exact hinterlandref17_taken.mono _ _ _ _ _ _ _ _ _ _)
   | (with_reducible exact LeO.refl _)
   | (with_reducible exact LeO.none _)
   | (with_reducible refine LeO.ite ?_ ?_)
   | (with_reducible refine LeO.bind ?_ (fun _ => ?_))
   | exact ih0 _ _ _ _ _ _ _
   | exact ih1 _ _ _ _ _ _ _
   | exact ih2 _ _ _ _ _ _ _
   | exact ih3 _ _ _ _ _ _ _
   | exact ih4 _ _ _ _ _ _ _
   | exact hinterlandref04_Validate.mono _ _ _ _ _
   | exact hinterlandref17_linked.mono _ _ _ _ _ _ _
   | exact hinterlandref17_taken.mono _ _ _ _ _ _ _ _ _ _
   | exact LeO.none _
   | refine LeO.ite ?_ ?_
   | refine LeO.bind ?_ (fun _ => ?_)
  ·intro y0 y1 y2 y3 y4 y5 y6
   unfold hinterlandref17_Validate.l3
   repeat' first
   | (with_reducible exact ih0 _ _ _ _ _ _ _)
   | (with_reducible exact ih1 _ _ _ _ _ _ _)
   | (with_reducible exact ih2 _ _ _ _ _ _ _)
   | (with_reducible exact ih3 _ _ _ _ _ _ _)
   | (with_reducible exact ih4 _ _ _ _ _ _ _)
   | (with_reducible exact hinterlandref04_Validate.mono _ _ _ _ _)
   | (with_reducible exact hinterlandref17_linked.mono _ _ _ _ _ _ _)
   | (with_reducible exact hinterlandref17_taken.mono _ _ _ _ _ _ _ _ _ _)
   | (with_reducible exact LeO.refl _)
   | (with_reducible exact LeO.none _)
   | (with_reducible refine LeO.ite ?_ ?_)
   | (with_reducible refine LeO.bind ?_ (fun _ => ?_))
   | exact ih0 _ _ _ _ _ _ _
   | exact ih1 _ _ _ _ _ _ _
   | exact ih2 _ _ _ _ _ _ _
   | exact ih3 _ _ _ _ _ _ _
   | exact ih4 _ _ _ _ _ _ _
   | exact hinterlandref04_Validate.mono _ _ _ _ _
   | exact hinterlandref17_linked.mono _ _ _ _ _ _ _
   | exact hinterlandref17_taken.mono _ _ _ _ _ _ _ _ _ _
   | exact LeO.none _
   | refine LeO.ite ?_ ?_
   | refine LeO.bind ?_ (fun _ => ?_)
  ·intro y0 y1 y2 y3 y4 y5 y6
   unfold hinterlandref17_Validate.l4
   repeat' first
   | (with_reducible exact ih0 _ _ _ _ _ _ _)
   | (with_reducible exact ih1 _ _ _ _ _ _ _)
   | (with_reducible exact ih2 _ _ _ _ _ _ _)
   | (with_reducible exact ih3 _ _ _ _ _ _ _)
   | (with_reducible exact ih4 _ _ _ _ _ _ _)
   | (with_reducible exact hinterlandref04_Validate.mono _ _ _ _ _)
   | (with_reducible exact hinterlandref17_linked.mono _ _ _ _ _ _ _)
   | (with_reducible exact hinterlandref17_taken.mono _ _ _ _ _ _ _ _ _ _)
   | (with_reducible exact LeO.refl _)
   | (with_reducible exact LeO.none _)
   | (with_reducible refine LeO.ite ?_ ?_)
   | (with_reducible refine LeO.bind ?_ (fun _ => ?_))
   | exact ih0 _ _ _ _ _ _ _
   | exact ih1 _ _ _ _ _ _ _
   | exact ih2 _ _ _ _ _ _ _
   | exact ih3 _ _ _ _ _ _ _
   | exact ih4 _ _ _ _ _ _ _
   | exact hinterlandref04_Validate.mono _ _ _ _ _
   | exact hinterlandref17_linked.mono _ _ _ _ _ _ _
   | exact hinterlandref17_taken.mono _ _ _ _ _ _ _ _ _ _
   | exact LeO.none _
   | refine LeO.ite ?_ ?_
   | refine LeO.bind ?_ (fun _ => ?_)
theorem hinterlandref17_Validate.mono : ∀ a0 a1 a2 a3 a4 a5 k, LeO (hinterlandref17_Validate.f k a0 a1 a2 a3 a4 a5) (hinterlandref17_Validate.f (k + 1) a0 a1 a2 a3 a4 a5) := by
 intro a0 a1 a2 a3 a4 a5 k
 obtain ⟨ih0,ih1,ih2,ih3,ih4⟩:=hinterlandref17_Validate.mono_l k
 unfold hinterlandref17_Validate.f
 repeat' first
   | (with_reducible exact ih0 _ _ _ _ _ _ _)
   | (with_reducible exact ih1 _ _ _ _ _ _ _)
   | (with_reducible exact ih2 _ _ _ _ _ _ _)
   | (with_reducible exact ih3 _ _ _ _ _ _ _)
   | (with_reducible exact ih4 _ _ _ _ _ _ _)
   | (with_reducible exact hinterlandref04_Validate.mono _ _ _ _ _)
   | (with_reducible exact hinterlandref17_linked.mono _ _ _ _ _ _ _)
   | (with_reducible exact hinterlandref17_taken.mono _ _ _ _ _ _ _ _ _ _)
   | (with_reducible exact LeO.refl _)
   | (with_reducible exact LeO.none _)
   | (with_reducible refine LeO.ite ?_ ?_)
   | (with_reducible refine LeO.bind ?_ (fun _ => ?_))
   | exact ih0 _ _ _ _ _ _ _
   | exact ih1 _ _ _ _ _ _ _
   | exact ih2 _ _ _ _ _ _ _
   | exact ih3 _ _ _ _ _ _ _
   | exact ih4 _ _ _ _ _ _ _
   | exact hinterlandref04_Validate.mono _ _ _ _ _
   | exact hinterlandref17_linked.mono _ _ _ _ _ _ _
   | exact hinterlandref17_taken.mono _ _ _ _ _ _ _ _ _ _
   | exact LeO.none _
   | refine LeO.ite ?_ ?_
   | refine LeO.bind ?_ (fun _ => ?_)
def hinterlandref17_Validate.T9 : Bool × List (List Nat × List Nat) := (true, [([], []), ([0], [0]), ([], []), ([2], [2]), ([1, 3], [1, 3]), ([4], [4]), ([], []), ([6], [6]), ([], []), ([7, 8], [7, 8]), ([9], [9]), ([5, 10], [5, 10])])
def hinterlandref17_Validate.B9 : List Nat := [0, 1, 0, 4, 15, 31, 0, 64, 0, 448, 960, 2047]
theorem hinterlandref17_Validate.tab9 : rtab .any (opsOf Try.f17 9) = hinterlandref17_Validate.T9 := by kernel_rfl
theorem hinterlandref17_Validate.bits9 : waitsOk hinterlandref17_Validate.T9.2 hinterlandref17_Validate.B9 = true := by kernel_rfl
def hinterlandref17_Validate.T33 : Bool × List (List Nat × List Nat) := (true, [([], []), ([], []), ([], []), ([2], [2]), ([], []), ([3, 4], [3, 4]), ([5], [5]), ([6], [6]), ([], []), ([8], [8]), ([], []), ([9, 10], [9, 10]), ([11], [11]), ([12], [12]), ([0, 1, 7, 13], [0, 1, 7, 13])])
def hinterlandref17_Validate.B33 : List Nat := [0, 0, 0, 4, 0, 28, 60, 124, 0, 256, 0, 1792, 3840, 7936, 16383]
theorem hinterlandref17_Validate.tab33 : rtab .any (opsOf Try.f17 33) = hinterlandref17_Validate.T33 := by kernel_rfl
theorem hinterlandref17_Validate.bits33 : waitsOk hinterlandref17_Validate.T33.2 hinterlandref17_Validate.B33 = true := by kernel_rfl
set_option maxHeartbeats 8000000 in
set_option maxRecDepth 100000 in
theorem hinterlandref17_Validate.calls (k : Nat) (a0_0 : Int) (a0_1 : Int) (A0_2 : Option Addr) (c0_2 : Nat) (l0_2 : List Int) (A0_3 : Option Addr) (c0_3 : Nat) (l0_3 : List Int) (A0_4 : Option Addr) (c0_4 : Nat) (l0_4 : List Int) (A0_5 : Option Addr) (c0_5 : Nat) (l0_5 : List (S50)) (r : Int) (w : World) (hr0_2 : Kd.C (Kd.int .i64) w A0_2 l0_2.length l0_2) (hc0_2 : l0_2.length ≤ c0_2) (hr0_3 : Kd.C (Kd.int .i64) w A0_3 l0_3.length l0_3) (hc0_3 : l0_3.length ≤ c0_3) (hr0_4 : Kd.C (Kd.int .i64) w A0_4 l0_4.length l0_4) (hc0_4 : l0_4.length ≤ c0_4) (hr0_5 : Kd.C k50 w A0_5 l0_5.length l0_5) (hc0_5 : l0_5.length ≤ c0_5) (h : hinterlandref17_Validate.f k a0_0 a0_1 l0_2 l0_3 l0_4 l0_5 = some r) :
  Calls Try.prog 17 #[.agg #[.int .i64 a0_0,.int .i64 a0_1,.slice A0_2 l0_2.length c0_2,.slice A0_3 l0_3.length c0_3,.slice A0_4 l0_4.length c0_4,.slice A0_5 l0_5.length c0_5]] w fun e w' => e = .returned (.int .i64 r) ∧ Below w.heap.size w w':=by
 have hu33:=Try.underlying33
 have hu24:=Try.underlying24
 have hu50:=Try.underlying50
 have HR0_2:=Aside0.mk hr0_2
 have HC0_2:=Aside0.mk hc0_2
 clear hr0_2 hc0_2
 have HR0_3:=Aside0.mk hr0_3
 have HC0_3:=Aside0.mk hc0_3
 clear hr0_3 hc0_3
 have HR0_4:=Aside0.mk hr0_4
 have HC0_4:=Aside0.mk hc0_4
 clear hr0_4 hc0_4
 have HR0_5:=Aside0.mk hr0_5
 have HC0_5:=Aside0.mk hc0_5
 clear hr0_5 hc0_5
 have HB:=Aside0.mk (Below.refl w.heap.size w)
 have H : ((hinterlandref04_Validate.f k a0_0 a0_1 l0_2 l0_3).bind fun t238 => (if t238 = 0 then (if (l0_5.length : Int) > 60 then (some 4) else (hinterlandref17_Validate.l0 k 1 a0_0 a0_1 l0_2 l0_3 l0_4 l0_5)) else (some t238))) = some r:=h
 clear h
 replace H:=Option.bind_eq_some_iff.mp H
 obtain ⟨t238,A20,H⟩:=H
 replace H : (if t238 = 0 then (if (l0_5.length : Int) > 60 then (some 4) else (hinterlandref17_Validate.l0 k 1 a0_0 a0_1 l0_2 l0_3 l0_4 l0_5)) else (some t238)) = some r:=H
 have A2:=Aside0.mk A20
 clear A20
 by_cases c3 : t238 = 0
 rotate_left
 ·rw [if_neg c3] at H
  have c3b0:=bqf c3
  have c3b1:=bnt c3
  obtain rfl:=Option.some.inj H
  go_enter Try.func17,Try.ntmps17
  go_wp2_with (first|((with_reducible refine gate_dst (N:=1) rfl ?_);(try (refine gate_guard (by rfl) ?_;dsimp only));refine box_ev (N:=1) (cs:=#[.int .i64 a0_0,.int .i64 a0_1,.slice A0_2 l0_2.length c0_2,.slice A0_3 l0_3.length c0_3,.slice A0_4 l0_4.length c0_4,.slice A0_5 l0_5.length c0_5]) (t:=33) ?_;intro gb237 hg w78 hbox hb;have BK237:=Aside0.mk (hbox);have GW237 : Aside0 (w.heap.size ≤ gb237):=gsz hg;have GE237:=GW237;replace HB:=hbs hb;clear hb hbox hg;obtain ⟨_,_,_,_,_,_,_,_,_,_,_,_⟩:=cells6 BK237.out)|((with_reducible refine gate_callee (f:=34) rfl ?_);refine goesL_ (some 14) rfl rfl Try.func34 (by kernel_rfl) rfl #[.agg #[.int .i64 a0_0,.int .i64 a0_1,.slice A0_2 l0_2.length c0_2,.slice A0_3 l0_3.length c0_3]] rfl ga_ ?_;(with_reducible refine (hinterlandref04_Validate.calls k a0_0 a0_1 _ _ l0_2 _ _ l0_3 t238 _ ?_ ?_ ?_ ?_ A2.out).mono ?_);exact cq HR0_2;exact HC0_2.out;exact cq HR0_3;exact HC0_3.out;rintro e w80 ⟨rfl,hb⟩;refine ⟨_,rfl,?_⟩;replace BK237:=bkb BK237 hb;replace HB:=hbs hb))
  go_ret
  exact ⟨er_,hb_⟩
 rw [if_pos c3] at H
 have c3b0:=bqt c3
 have c3b1:=bnf c3
 clear c3
 by_cases c4 : (l0_5.length : Int) > 60
 ·rw [if_pos c4] at H
  have c4b0 : decide (60 < (l0_5.length : Int)) = true:=decide_eq_true c4
  have c4b1 : decide (60 < l0_5.length) = true:=decide_eq_true (by omega)
  clear c4
  obtain rfl:=Option.some.inj H
  go_enter Try.func17,Try.ntmps17
  go_wp2_with (first|((with_reducible refine gate_dst (N:=1) rfl ?_);(try (refine gate_guard (by rfl) ?_;dsimp only));refine box_ev (N:=1) (cs:=#[.int .i64 a0_0,.int .i64 a0_1,.slice A0_2 l0_2.length c0_2,.slice A0_3 l0_3.length c0_3,.slice A0_4 l0_4.length c0_4,.slice A0_5 l0_5.length c0_5]) (t:=33) ?_;intro gb237 hg w5 hbox hb;have BK237:=Aside0.mk (hbox);have GW237 : Aside0 (w.heap.size ≤ gb237):=gsz hg;have GE237:=GW237;replace HB:=hbs hb;clear hb hbox hg;obtain ⟨_,_,_,_,_,_,_,_,_,_,_,_⟩:=cells6 BK237.out)|((with_reducible refine gate_callee (f:=34) rfl ?_);refine goesL_ (some 14) rfl rfl Try.func34 (by kernel_rfl) rfl #[.agg #[.int .i64 a0_0,.int .i64 a0_1,.slice A0_2 l0_2.length c0_2,.slice A0_3 l0_3.length c0_3]] rfl ga_ ?_;(with_reducible refine (hinterlandref04_Validate.calls k a0_0 a0_1 _ _ l0_2 _ _ l0_3 t238 _ ?_ ?_ ?_ ?_ A2.out).mono ?_);exact cq HR0_2;exact HC0_2.out;exact cq HR0_3;exact HC0_3.out;rintro e w7 ⟨rfl,hb⟩;refine ⟨_,rfl,?_⟩;replace BK237:=bkb BK237 hb;replace HB:=hbs hb;obtain ⟨_,_,_,_,_,_,_,_,_,_,_,_⟩:=cells6 BK237.out))
  go_ret
  exact ⟨er_,hb_⟩
 rw [if_neg c4] at H
 have c4b0 : decide (60 < (l0_5.length : Int)) = false:=decide_eq_false c4
 have c4b1 : decide (60 < l0_5.length) = false:=decide_eq_false (by omega)
 clear c4
 have H':=Aside0.mk H
 clear H
 go_enter Try.func17,Try.ntmps17
 go_wp2_with (first|((with_reducible refine gate_dst (N:=1) rfl ?_);(try (refine gate_guard (by rfl) ?_;dsimp only));refine box_ev (N:=1) (cs:=#[.int .i64 a0_0,.int .i64 a0_1,.slice A0_2 l0_2.length c0_2,.slice A0_3 l0_3.length c0_3,.slice A0_4 l0_4.length c0_4,.slice A0_5 l0_5.length c0_5]) (t:=33) ?_;intro gb237 hg w9 hbox hb;have BK237:=Aside0.mk (hbox);have GW237 : Aside0 (w.heap.size ≤ gb237):=gsz hg;have GE237:=GW237;replace HB:=hbs hb;clear hb hbox hg;obtain ⟨_,_,_,_,_,_,_,_,_,_,_,_⟩:=cells6 BK237.out)|((with_reducible refine gate_callee (f:=34) rfl ?_);refine goesL_ (some 14) rfl rfl Try.func34 (by kernel_rfl) rfl #[.agg #[.int .i64 a0_0,.int .i64 a0_1,.slice A0_2 l0_2.length c0_2,.slice A0_3 l0_3.length c0_3]] rfl ga_ ?_;(with_reducible refine (hinterlandref04_Validate.calls k a0_0 a0_1 _ _ l0_2 _ _ l0_3 t238 _ ?_ ?_ ?_ ?_ A2.out).mono ?_);exact cq HR0_2;exact HC0_2.out;exact cq HR0_3;exact HC0_3.out;rintro e w11 ⟨rfl,hb⟩;refine ⟨_,rfl,?_⟩;replace BK237:=bkb BK237 hb;replace HB:=hbs hb;obtain ⟨_,_,_,_,_,_,_,_,_,_,_,_⟩:=cells6 BK237.out))
 go_loopg [4] k (fun kq v4 w' => ∃ (x4_1 : Int),v4 = .int .i64 x4_1 ∧ Aside0 (hinterlandref17_Validate.l0 kq x4_1 a0_0 a0_1 l0_2 l0_3 l0_4 l0_5 = some r) ∧ Aside0 (kq ≤ k) ∧ Aside0 (w'.heap[gb237]? = some (.cells #[.int .i64 a0_0,.int .i64 a0_1,(.slice A0_2 l0_2.length c0_2),(.slice A0_3 l0_3.length c0_3),(.slice A0_4 l0_4.length c0_4),(.slice A0_5 l0_5.length c0_5)] 33 (0,0))) ∧ Aside0 (Below w.heap.size w w'))
 case atStart => exact ⟨(1),(by first|rfl|(simp;done)|(simp [*];done)),H',⟨Nat.le_refl _⟩,⟨blk_up BK237.out⟩,⟨hb_⟩⟩
 case round =>
  clear H'
  obtain ⟨x4_1,rfl,HA,HK1,BK237,HB⟩:=hrel
  cases gk with
  | zero => exact absurd HA.out (by simp [hinterlandref17_Validate.l0])
  | succ k1 =>
   have H:=HA.out
   clear HA
   simp only [hinterlandref17_Validate.l0] at H
   by_cases c13 : x4_1 < (l0_4.length : Int)
   ·rw [if_pos c13] at H
    have c13b0 : decide (x4_1 < (l0_4.length : Int)) = true:=decide_eq_true c13
    clear c13
    obtain ⟨ji14,hji14⟩ : ∃ j_ : Int,(wrap64 (x4_1 - 1)) = j_:=⟨_,rfl⟩
    replace H : (if 0 ≤ (ji14) then (if (ji14) < (l0_4.length : Int) then (if 0 ≤ x4_1 then (if (rd l0_4 (ji14)) ≥ (rd l0_4 x4_1) then (some 1) else (hinterlandref17_Validate.l0 k1 (wrap64 (x4_1 + 1)) a0_0 a0_1 l0_2 l0_3 l0_4 l0_5)) else (none)) else (none)) else (none)) = some r:=by first|(rw [hji14] at H;exact H)|(simp only [hji14] at H ⊢;exact H)
    have hji14w : (IntKind.i64.wrap (x4_1 - 1)) = ji14:=(i64_w _).trans hji14
    replace H:=ifp_ H;obtain ⟨c15,H⟩:=H
    have c15b0 : decide (0 ≤ (ji14)) = true:=decide_eq_true c15
    clear c15
    replace H:=ifp_ H;obtain ⟨c16,H⟩:=H
    have c16b0 : decide ((ji14) < (l0_4.length : Int)) = true:=decide_eq_true c16
    clear c16
    replace H:=ifp_ H;obtain ⟨c17,H⟩:=H
    have c17b0 : decide (0 ≤ x4_1) = true:=decide_eq_true c17
    clear c17
    by_cases c18 : (rd l0_4 (ji14)) ≥ (rd l0_4 x4_1)
    ·rw [if_pos c18] at H
     have c18b0 : decide ((rd l0_4 x4_1) ≤ (rd l0_4 (ji14))) = true:=decide_eq_true c18
     clear c18
     obtain rfl:=Option.some.inj H
     obtain ⟨_,_,_,_,_,_,_,_,_,_,_,_⟩:=cells6 BK237.out
     try go_wp2
     replace BK237:=Aside0.mk (blk_drew BK237.out)
     replace HB:=Aside0.mk (below_drew1 HB.out)
     have p239 : 0 ≤ ((ji14) : Int):=of_decide_eq_true (by first|(with_reducible assumption)|assumption)
     have q239 : (ji14) < (l0_4.length : Int):=of_decide_eq_true (by first|(with_reducible assumption)|assumption)
     obtain ⟨ad239,e239,hx239_0⟩:=Kd.at_int HR0_4.out (ji14) p239 q239
     have hw239_0:=hx239_0
     cases e239
     replace hx239_0:=(HB.out.cell (World.block_lt_of_cell? w _ hx239_0)).trans hx239_0
     replace p239:=eq_true p239
     replace q239:=eq_true q239
     have p240 : 0 ≤ (x4_1 : Int):=of_decide_eq_true (by first|(with_reducible assumption)|assumption)
     have q240 : x4_1 < (l0_4.length : Int):=of_decide_eq_true (by first|(with_reducible assumption)|assumption)
     obtain ⟨ad240,e240,hx240_0⟩:=Kd.at_int HR0_4.out x4_1 p240 q240
     have hw240_0:=hx240_0
     obtain rfl : ad239 = ad240:=(by injection e240)
     replace hx240_0:=(HB.out.cell (World.block_lt_of_cell? w _ hx240_0)).trans hx240_0
     replace p240:=eq_true p240
     replace q240:=eq_true q240
     refine start_ (n:=12) (S:=fun w' => w'.cell? ⟨gb237,0,none⟩ = some (.int .i64 a0_0) ∧ w'.cell? ⟨gb237,1,none⟩ = some (.int .i64 a0_1) ∧ w'.cell? ⟨gb237,2,none⟩ = some (.slice A0_2 l0_2.length c0_2) ∧ w'.cell? ⟨gb237,3,none⟩ = some (.slice A0_3 l0_3.length c0_3) ∧ w'.cell? ⟨gb237,4,none⟩ = some (.slice (some ad239) l0_4.length c0_4) ∧ w'.cell? ⟨gb237,5,none⟩ = some (.slice A0_5 l0_5.length c0_5) ∧ w'.cell? (ad239.add ((ji14)).toNat) = some (.int .i64 (rd l0_4 (ji14))) ∧ w'.cell? (ad239.add (x4_1).toNat) = some (.int .i64 (rd l0_4 x4_1))) (ds:=[]) #[false,false,false,false,false,false,false,false,false,false,false,false] (by kernel_rfl) rfl rfl ⟨(blk_cell BK237.out 0).trans rfl,(blk_cell BK237.out 1).trans rfl,(blk_cell BK237.out 2).trans rfl,(blk_cell BK237.out 3).trans rfl,(blk_cell BK237.out 4).trans rfl,(blk_cell BK237.out 5).trans rfl,((HB.out.cell (World.block_lt_of_cell? w _ hw239_0)).trans hw239_0),((HB.out.cell (World.block_lt_of_cell? w _ hw240_0)).trans hw240_0)⟩ (fun hHeld => ?_);refine with_tabW hinterlandref17_Validate.tab9 hinterlandref17_Validate.bits9 (fun HT_ HW_ => ?_)
     generalize wr.drew = w20 at BK237 HB hx239_0 hx240_0 hHeld ⊢
     refine pI 0 (some 29) ?_
     refine pI 2 (some 31) ?_
     refine pI 3 (some 32) ?_
     refine pI 6 (some 35) ?_
     refine pI 8 (some 37) ?_
     refine tI8 1 (some 30) hHeld ?_
     refine pI 4 (some 33) ?_
     refine tI8 5 (some 34) hHeld ?_
     refine tI8 7 (some 36) hHeld ?_
     refine pI 9 (some 38) ?_
     refine tI8 10 (some 39) hHeld ?_
     refine pI 11 (some 40) ?_
     refine done_ (done_of HT_.out (by kernel_rfl)) ?_
     try go_wp2
     go_ret
     exact ⟨by first|rfl|(simp [errW_none,errW_some] <;> rfl)|(simp only [← hji14];first|rfl|(simp [errW_none,errW_some] <;> rfl))|(simp [*,errW_none,errW_some] <;> rfl),hb_⟩
    rw [if_neg c18] at H
    have c18b0 : decide ((rd l0_4 x4_1) ≤ (rd l0_4 (ji14))) = false:=decide_eq_false c18
    clear c18
    have H':=Aside0.mk H
    clear H
    obtain ⟨_,_,_,_,_,_,_,_,_,_,_,_⟩:=cells6 BK237.out
    try go_wp2
    replace BK237:=Aside0.mk (blk_drew BK237.out)
    replace HB:=Aside0.mk (below_drew1 HB.out)
    have p239 : 0 ≤ ((ji14) : Int):=of_decide_eq_true (by first|(with_reducible assumption)|assumption)
    have q239 : (ji14) < (l0_4.length : Int):=of_decide_eq_true (by first|(with_reducible assumption)|assumption)
    obtain ⟨ad239,e239,hx239_0⟩:=Kd.at_int HR0_4.out (ji14) p239 q239
    have hw239_0:=hx239_0
    cases e239
    replace hx239_0:=(HB.out.cell (World.block_lt_of_cell? w _ hx239_0)).trans hx239_0
    replace p239:=eq_true p239
    replace q239:=eq_true q239
    have p240 : 0 ≤ (x4_1 : Int):=of_decide_eq_true (by first|(with_reducible assumption)|assumption)
    have q240 : x4_1 < (l0_4.length : Int):=of_decide_eq_true (by first|(with_reducible assumption)|assumption)
    obtain ⟨ad240,e240,hx240_0⟩:=Kd.at_int HR0_4.out x4_1 p240 q240
    have hw240_0:=hx240_0
    obtain rfl : ad239 = ad240:=(by injection e240)
    replace hx240_0:=(HB.out.cell (World.block_lt_of_cell? w _ hx240_0)).trans hx240_0
    replace p240:=eq_true p240
    replace q240:=eq_true q240
    refine start_ (n:=12) (S:=fun w' => w'.cell? ⟨gb237,0,none⟩ = some (.int .i64 a0_0) ∧ w'.cell? ⟨gb237,1,none⟩ = some (.int .i64 a0_1) ∧ w'.cell? ⟨gb237,2,none⟩ = some (.slice A0_2 l0_2.length c0_2) ∧ w'.cell? ⟨gb237,3,none⟩ = some (.slice A0_3 l0_3.length c0_3) ∧ w'.cell? ⟨gb237,4,none⟩ = some (.slice (some ad239) l0_4.length c0_4) ∧ w'.cell? ⟨gb237,5,none⟩ = some (.slice A0_5 l0_5.length c0_5) ∧ w'.cell? (ad239.add ((ji14)).toNat) = some (.int .i64 (rd l0_4 (ji14))) ∧ w'.cell? (ad239.add (x4_1).toNat) = some (.int .i64 (rd l0_4 x4_1))) (ds:=[]) #[false,false,false,false,false,false,false,false,false,false,false,false] (by kernel_rfl) rfl rfl ⟨(blk_cell BK237.out 0).trans rfl,(blk_cell BK237.out 1).trans rfl,(blk_cell BK237.out 2).trans rfl,(blk_cell BK237.out 3).trans rfl,(blk_cell BK237.out 4).trans rfl,(blk_cell BK237.out 5).trans rfl,((HB.out.cell (World.block_lt_of_cell? w _ hw239_0)).trans hw239_0),((HB.out.cell (World.block_lt_of_cell? w _ hw240_0)).trans hw240_0)⟩ (fun hHeld => ?_);refine with_tabW hinterlandref17_Validate.tab9 hinterlandref17_Validate.bits9 (fun HT_ HW_ => ?_)
    generalize wr.drew = w22 at BK237 HB hx239_0 hx240_0 hHeld ⊢
    refine pI 0 (some 29) ?_
    refine pI 2 (some 31) ?_
    refine pI 3 (some 32) ?_
    refine pI 6 (some 35) ?_
    refine pI 8 (some 37) ?_
    refine tI8 1 (some 30) hHeld ?_
    refine pI 4 (some 33) ?_
    refine tI8 5 (some 34) hHeld ?_
    refine tI8 7 (some 36) hHeld ?_
    refine pI 9 (some 38) ?_
    refine tI8 10 (some 39) hHeld ?_
    refine pI 11 (some 40) ?_
    refine done_ (done_of HT_.out (by kernel_rfl)) ?_
    try go_wp2
    go_roundg k1
    case measure => have:=HK1.out;omega
    case rel => exact ⟨(wrap64 (x4_1 + 1)),(by first|rfl|(simp;done)|(simp [*];done)),H',⟨by have:=HK1.out;omega⟩,⟨blk_up BK237.out⟩,⟨hb_⟩⟩
   rw [if_neg c13] at H
   have c13b0 : decide (x4_1 < (l0_4.length : Int)) = false:=decide_eq_false c13
   clear c13
   have H':=Aside0.mk H
   clear H
   obtain ⟨_,_,_,_,_,_,_,_,_,_,_,_⟩:=cells6 BK237.out
   go_wp2
   go_loopg [5] k1 (fun kq v5 w' => ∃ (x5_2 : Int),v5 = .int .i64 x5_2 ∧ Aside0 (hinterlandref17_Validate.l1 kq x5_2 a0_0 a0_1 l0_2 l0_3 l0_4 l0_5 = some r) ∧ Aside0 (kq ≤ k1) ∧ Aside0 (w'.heap[gb237]? = some (.cells #[.int .i64 a0_0,.int .i64 a0_1,(.slice A0_2 l0_2.length c0_2),(.slice A0_3 l0_3.length c0_3),(.slice A0_4 l0_4.length c0_4),(.slice A0_5 l0_5.length c0_5)] 33 (0,0))) ∧ Aside0 (Below w.heap.size w w'))
   case atStart => exact ⟨(0),(by first|rfl|(simp;done)|(simp [*];done)),H',⟨Nat.le_refl _⟩,⟨blk_up BK237.out⟩,⟨hb_⟩⟩
   case round =>
    clear H'
    obtain ⟨x5_2,rfl,HA,HK2,BK237,HB⟩:=hrel
    cases gk with
    | zero => exact absurd HA.out (by simp [hinterlandref17_Validate.l1])
    | succ k2 =>
     have H:=HA.out
     clear HA
     simp only [hinterlandref17_Validate.l1] at H
     by_cases c24 : x5_2 < (l0_5.length : Int)
     ·rw [if_pos c24] at H
      have c24b0 : decide (x5_2 < (l0_5.length : Int)) = true:=decide_eq_true c24
      clear c24
      replace H:=ifp_ H;obtain ⟨c25,H⟩:=H
      have c25b0 : decide (0 ≤ x5_2) = true:=decide_eq_true c25
      clear c25
      replace H:=Option.bind_eq_some_iff.mp H
      obtain ⟨t243,A260,H⟩:=H
      replace H : (if t243 = true then (some 1) else (hinterlandref17_Validate.l1 k2 (wrap64 (x5_2 + 1)) a0_0 a0_1 l0_2 l0_3 l0_4 l0_5)) = some r:=H
      have A26:=Aside0.mk A260
      clear A260
      by_cases c27 : t243 = true
      ·subst c27
       have H1 : (some 1) = some r:=by rw [if_pos rfl] at H;exact H
       clear H
       have H:=H1
       clear H1
       obtain rfl:=Option.some.inj H
       obtain ⟨_,_,_,_,_,_,_,_,_,_,_,_⟩:=cells6 BK237.out
       have p241 : 0 ≤ (x5_2 : Int):=of_decide_eq_true (by first|(with_reducible assumption)|assumption)
       have q241 : x5_2 < (l0_5.length : Int):=of_decide_eq_true (by first|(with_reducible assumption)|assumption)
       obtain ⟨ad241,e241,hx241_0,hx241_1,hx241_2,hx241_3,hx241_4⟩:=at_T50 HR0_5.out x5_2 p241 q241
       cases e241
       replace hx241_0:=(HB.out.cell (World.block_lt_of_cell? w _ hx241_0)).trans hx241_0
       replace hx241_1:=(HB.out.cell (World.block_lt_of_cell? w _ hx241_1)).trans hx241_1
       replace hx241_2:=(HB.out.cell (World.block_lt_of_cell? w _ hx241_2)).trans hx241_2
       replace hx241_3:=(HB.out.cell (World.block_lt_of_cell? w _ hx241_3)).trans hx241_3
       replace hx241_4:=(HB.out.cell (World.block_lt_of_cell? w _ hx241_4)).trans hx241_4
       replace p241:=eq_true p241
       replace q241:=eq_true q241
       go_wp2_with (first|((with_reducible refine gate_dst (N:=6) rfl ?_);(try (refine gate_guard (by rfl) ?_;dsimp only));refine box_ev (N:=6) (cs:=#[.int .i64 0,.int .i64 0,.int .i64 0,.int .i64 0,.int .i64 0]) (t:=50) ?_;intro gb242 hg w29 hbox hb;have BK242:=Aside0.mk (hbox);have GW242 : Aside0 (w.heap.size ≤ gb242):=gsz hg;have GE242:=GW242;have NB237_242:=nbl BK237 hg;have NB242_237:=nbr BK237 hg;replace BK237:=bkb BK237 hb;replace HB:=hbs hb;clear hb hbox hg;have hnb30:=NB242_237.out;have hnc30:=NB237_242.out;obtain ⟨_,_,_,_,_,_,_,_,_,_⟩:=cells5 BK242.out)|((with_reducible refine gate_callee (f:=39) rfl ?_);refine goesL_ (some 63) rfl rfl Try.func39 (by kernel_rfl) rfl #[.int .i64 ((rd_T50 l0_5 x5_2).f0),.int .i64 ((rd_T50 l0_5 x5_2).f1),.int .i64 ((rd_T50 l0_5 x5_2).f2),.int .i64 ((rd_T50 l0_5 x5_2).f3),.int .i64 ((rd_T50 l0_5 x5_2).f4)] rfl ga_ ?_;(with_reducible refine (hinterlandref17_piece.calls ((rd_T50 l0_5 x5_2).f0) ((rd_T50 l0_5 x5_2).f1) ((rd_T50 l0_5 x5_2).f2) ((rd_T50 l0_5 x5_2).f3) ((rd_T50 l0_5 x5_2).f4) true _ A26.out).mono ?_);rintro e w' ⟨rfl,⟨nd,rfl⟩⟩;refine ⟨_,rfl,?_⟩))
       go_ret
       exact ⟨er_,hb_⟩
      ·replace c27:=Bool.eq_false_iff.mpr c27
       subst c27
       have H1 : (hinterlandref17_Validate.l1 k2 (wrap64 (x5_2 + 1)) a0_0 a0_1 l0_2 l0_3 l0_4 l0_5) = some r:=by rw [if_neg (show ¬ (false = true) by decide)] at H;exact H
       clear H
       have H:=H1
       clear H1
       have H':=Aside0.mk H
       clear H
       obtain ⟨_,_,_,_,_,_,_,_,_,_,_,_⟩:=cells6 BK237.out
       have p241 : 0 ≤ (x5_2 : Int):=of_decide_eq_true (by first|(with_reducible assumption)|assumption)
       have q241 : x5_2 < (l0_5.length : Int):=of_decide_eq_true (by first|(with_reducible assumption)|assumption)
       obtain ⟨ad241,e241,hx241_0,hx241_1,hx241_2,hx241_3,hx241_4⟩:=at_T50 HR0_5.out x5_2 p241 q241
       cases e241
       replace hx241_0:=(HB.out.cell (World.block_lt_of_cell? w _ hx241_0)).trans hx241_0
       replace hx241_1:=(HB.out.cell (World.block_lt_of_cell? w _ hx241_1)).trans hx241_1
       replace hx241_2:=(HB.out.cell (World.block_lt_of_cell? w _ hx241_2)).trans hx241_2
       replace hx241_3:=(HB.out.cell (World.block_lt_of_cell? w _ hx241_3)).trans hx241_3
       replace hx241_4:=(HB.out.cell (World.block_lt_of_cell? w _ hx241_4)).trans hx241_4
       replace p241:=eq_true p241
       replace q241:=eq_true q241
       go_wp2_with (first|((with_reducible refine gate_dst (N:=6) rfl ?_);(try (refine gate_guard (by rfl) ?_;dsimp only));refine box_ev (N:=6) (cs:=#[.int .i64 0,.int .i64 0,.int .i64 0,.int .i64 0,.int .i64 0]) (t:=50) ?_;intro gb242 hg w33 hbox hb;have BK242:=Aside0.mk (hbox);have GW242 : Aside0 (w.heap.size ≤ gb242):=gsz hg;have GE242:=GW242;have NB237_242:=nbl BK237 hg;have NB242_237:=nbr BK237 hg;replace BK237:=bkb BK237 hb;replace HB:=hbs hb;clear hb hbox hg;have hnb34:=NB242_237.out;have hnc34:=NB237_242.out;obtain ⟨_,_,_,_,_,_,_,_,_,_⟩:=cells5 BK242.out)|((with_reducible refine gate_callee (f:=39) rfl ?_);refine goesL_ (some 63) rfl rfl Try.func39 (by kernel_rfl) rfl #[.int .i64 ((rd_T50 l0_5 x5_2).f0),.int .i64 ((rd_T50 l0_5 x5_2).f1),.int .i64 ((rd_T50 l0_5 x5_2).f2),.int .i64 ((rd_T50 l0_5 x5_2).f3),.int .i64 ((rd_T50 l0_5 x5_2).f4)] rfl ga_ ?_;(with_reducible refine (hinterlandref17_piece.calls ((rd_T50 l0_5 x5_2).f0) ((rd_T50 l0_5 x5_2).f1) ((rd_T50 l0_5 x5_2).f2) ((rd_T50 l0_5 x5_2).f3) ((rd_T50 l0_5 x5_2).f4) false _ A26.out).mono ?_);rintro e w' ⟨rfl,⟨nd,rfl⟩⟩;refine ⟨_,rfl,?_⟩))
       go_roundg k2
       case measure => have:=HK1.out;have:=HK2.out;omega
       case rel => exact ⟨(wrap64 (x5_2 + 1)),(by first|rfl|(simp;done)|(simp [*];done)),H',⟨by have:=HK1.out;have:=HK2.out;omega⟩,⟨by (with_reducible repeat (first|refine blk_drewN ?_ _|refine blk_drew ?_|refine blk_alloc ?_ _));refine blk_far ?_ NB237_242.out _;(with_reducible repeat (first|refine blk_drewN ?_ _|refine blk_drew ?_|refine blk_alloc ?_ _));refine blk_far ?_ NB237_242.out _;(with_reducible repeat (first|refine blk_drewN ?_ _|refine blk_drew ?_|refine blk_alloc ?_ _));refine blk_far ?_ NB237_242.out _;(with_reducible repeat (first|refine blk_drewN ?_ _|refine blk_drew ?_|refine blk_alloc ?_ _));refine blk_far ?_ NB237_242.out _;(with_reducible repeat (first|refine blk_drewN ?_ _|refine blk_drew ?_|refine blk_alloc ?_ _));refine blk_far ?_ NB237_242.out _;(with_reducible repeat (first|refine blk_drewN ?_ _|refine blk_drew ?_|refine blk_alloc ?_ _));exact BK237.out⟩,⟨hb_⟩⟩
     rw [if_neg c24] at H
     have c24b0 : decide (x5_2 < (l0_5.length : Int)) = false:=decide_eq_false c24
     clear c24
     have H':=Aside0.mk H
     clear H
     obtain ⟨_,_,_,_,_,_,_,_,_,_,_,_⟩:=cells6 BK237.out
     go_wp2
     go_loopg [7] k2 (fun kq v7 w' => ∃ (x7_3 : Int),v7 = .int .i64 x7_3 ∧ Aside0 (hinterlandref17_Validate.l2 kq x7_3 a0_0 a0_1 l0_2 l0_3 l0_4 l0_5 = some r) ∧ Aside0 (kq ≤ k2) ∧ Aside0 (w'.heap[gb237]? = some (.cells #[.int .i64 a0_0,.int .i64 a0_1,(.slice A0_2 l0_2.length c0_2),(.slice A0_3 l0_3.length c0_3),(.slice A0_4 l0_4.length c0_4),(.slice A0_5 l0_5.length c0_5)] 33 (0,0))) ∧ Aside0 (Below w.heap.size w w'))
     case atStart => exact ⟨(0),(by first|rfl|(simp;done)|(simp [*];done)),H',⟨Nat.le_refl _⟩,⟨blk_up BK237.out⟩,⟨hb_⟩⟩
     case round =>
      clear H'
      obtain ⟨x7_3,rfl,HA,HK3,BK237,HB⟩:=hrel
      cases gk with
      | zero => exact absurd HA.out (by simp [hinterlandref17_Validate.l2])
      | succ k3 =>
       have H:=HA.out
       clear HA
       simp only [hinterlandref17_Validate.l2] at H
       by_cases c37 : x7_3 < (l0_5.length : Int)
       ·rw [if_pos c37] at H
        have c37b0 : decide (x7_3 < (l0_5.length : Int)) = true:=decide_eq_true c37
        clear c37
        replace H:=ifp_ H;obtain ⟨c38,H⟩:=H
        have c38b0 : decide (0 ≤ x7_3) = true:=decide_eq_true c38
        clear c38
        by_cases c39 : ((rd_T50 l0_5 x7_3).f0) < (-1)
        ·rw [if_pos c39] at H
         have c39b0 : decide (((rd_T50 l0_5 x7_3).f0) < (-1)) = true:=decide_eq_true c39
         clear c39
         obtain rfl:=Option.some.inj H
         obtain ⟨_,_,_,_,_,_,_,_,_,_,_,_⟩:=cells6 BK237.out
         have p244 : 0 ≤ (x7_3 : Int):=of_decide_eq_true (by first|(with_reducible assumption)|assumption)
         have q244 : x7_3 < (l0_5.length : Int):=of_decide_eq_true (by first|(with_reducible assumption)|assumption)
         obtain ⟨ad244,e244,hx244_0,hx244_1,hx244_2,hx244_3,hx244_4⟩:=at_T50 HR0_5.out x7_3 p244 q244
         cases e244
         replace hx244_0:=(HB.out.cell (World.block_lt_of_cell? w _ hx244_0)).trans hx244_0
         replace hx244_1:=(HB.out.cell (World.block_lt_of_cell? w _ hx244_1)).trans hx244_1
         replace hx244_2:=(HB.out.cell (World.block_lt_of_cell? w _ hx244_2)).trans hx244_2
         replace hx244_3:=(HB.out.cell (World.block_lt_of_cell? w _ hx244_3)).trans hx244_3
         replace hx244_4:=(HB.out.cell (World.block_lt_of_cell? w _ hx244_4)).trans hx244_4
         replace p244:=eq_true p244
         replace q244:=eq_true q244
         go_wp2
         go_ret
         exact ⟨er_,hb_⟩
        rw [if_neg c39] at H
        have c39b0 : decide (((rd_T50 l0_5 x7_3).f0) < (-1)) = false:=decide_eq_false c39
        clear c39
        by_cases c41 : ((rd_T50 l0_5 x7_3).f0) ≥ (l0_2.length : Int)
        ·rw [if_pos c41] at H
         have c41b0 : decide ((l0_2.length : Int) ≤ ((rd_T50 l0_5 x7_3).f0)) = true:=decide_eq_true c41
         clear c41
         obtain rfl:=Option.some.inj H
         obtain ⟨_,_,_,_,_,_,_,_,_,_,_,_⟩:=cells6 BK237.out
         have p244 : 0 ≤ (x7_3 : Int):=of_decide_eq_true (by first|(with_reducible assumption)|assumption)
         have q244 : x7_3 < (l0_5.length : Int):=of_decide_eq_true (by first|(with_reducible assumption)|assumption)
         obtain ⟨ad244,e244,hx244_0,hx244_1,hx244_2,hx244_3,hx244_4⟩:=at_T50 HR0_5.out x7_3 p244 q244
         cases e244
         replace hx244_0:=(HB.out.cell (World.block_lt_of_cell? w _ hx244_0)).trans hx244_0
         replace hx244_1:=(HB.out.cell (World.block_lt_of_cell? w _ hx244_1)).trans hx244_1
         replace hx244_2:=(HB.out.cell (World.block_lt_of_cell? w _ hx244_2)).trans hx244_2
         replace hx244_3:=(HB.out.cell (World.block_lt_of_cell? w _ hx244_3)).trans hx244_3
         replace hx244_4:=(HB.out.cell (World.block_lt_of_cell? w _ hx244_4)).trans hx244_4
         replace p244:=eq_true p244
         replace q244:=eq_true q244
         go_wp2
         go_ret
         exact ⟨er_,hb_⟩
        ·rw [if_neg c41] at H
         have c41b0 : decide ((l0_2.length : Int) ≤ ((rd_T50 l0_5 x7_3).f0)) = false:=decide_eq_false c41
         clear c41
         have H':=Aside0.mk H
         clear H
         obtain ⟨_,_,_,_,_,_,_,_,_,_,_,_⟩:=cells6 BK237.out
         have p244 : 0 ≤ (x7_3 : Int):=of_decide_eq_true (by first|(with_reducible assumption)|assumption)
         have q244 : x7_3 < (l0_5.length : Int):=of_decide_eq_true (by first|(with_reducible assumption)|assumption)
         obtain ⟨ad244,e244,hx244_0,hx244_1,hx244_2,hx244_3,hx244_4⟩:=at_T50 HR0_5.out x7_3 p244 q244
         cases e244
         replace hx244_0:=(HB.out.cell (World.block_lt_of_cell? w _ hx244_0)).trans hx244_0
         replace hx244_1:=(HB.out.cell (World.block_lt_of_cell? w _ hx244_1)).trans hx244_1
         replace hx244_2:=(HB.out.cell (World.block_lt_of_cell? w _ hx244_2)).trans hx244_2
         replace hx244_3:=(HB.out.cell (World.block_lt_of_cell? w _ hx244_3)).trans hx244_3
         replace hx244_4:=(HB.out.cell (World.block_lt_of_cell? w _ hx244_4)).trans hx244_4
         replace p244:=eq_true p244
         replace q244:=eq_true q244
         go_wp2
         go_roundg k3
         case measure => have:=HK1.out;have:=HK2.out;have:=HK3.out;omega
         case rel => exact ⟨(wrap64 (x7_3 + 1)),(by first|rfl|(simp;done)|(simp [*];done)),H',⟨by have:=HK1.out;have:=HK2.out;have:=HK3.out;omega⟩,⟨blk_up BK237.out⟩,⟨hb_⟩⟩
       rw [if_neg c37] at H
       have c37b0 : decide (x7_3 < (l0_5.length : Int)) = false:=decide_eq_false c37
       clear c37
       have H':=Aside0.mk H
       clear H
       obtain ⟨_,_,_,_,_,_,_,_,_,_,_,_⟩:=cells6 BK237.out
       go_wp2
       go_loopg [9] k3 (fun kq v9 w' => ∃ (x9_4 : Int),v9 = .int .i64 x9_4 ∧ Aside0 (hinterlandref17_Validate.l3 kq x9_4 a0_0 a0_1 l0_2 l0_3 l0_4 l0_5 = some r) ∧ Aside0 (kq ≤ k3) ∧ Aside0 (w'.heap[gb237]? = some (.cells #[.int .i64 a0_0,.int .i64 a0_1,(.slice A0_2 l0_2.length c0_2),(.slice A0_3 l0_3.length c0_3),(.slice A0_4 l0_4.length c0_4),(.slice A0_5 l0_5.length c0_5)] 33 (0,0))) ∧ Aside0 (Below w.heap.size w w'))
       case atStart => exact ⟨(0),(by first|rfl|(simp;done)|(simp [*];done)),H',⟨Nat.le_refl _⟩,⟨blk_up BK237.out⟩,⟨hb_⟩⟩
       case round =>
        clear H'
        obtain ⟨x9_4,rfl,HA,HK4,BK237,HB⟩:=hrel
        cases gk with
        | zero => exact absurd HA.out (by simp [hinterlandref17_Validate.l3])
        | succ k4 =>
         have H:=HA.out
         clear HA
         simp only [hinterlandref17_Validate.l3] at H
         by_cases c45 : x9_4 < (l0_5.length : Int)
         ·rw [if_pos c45] at H
          have c45b0 : decide (x9_4 < (l0_5.length : Int)) = true:=decide_eq_true c45
          clear c45
          replace H:=ifp_ H;obtain ⟨c46,H⟩:=H
          have c46b0 : decide (0 ≤ x9_4) = true:=decide_eq_true c46
          clear c46
          by_cases c47 : ((rd_T50 l0_5 x9_4).f0) < 0
          ·rw [if_pos c47] at H
           have c47b0 : decide (((rd_T50 l0_5 x9_4).f0) < 0) = true:=decide_eq_true c47
           clear c47
           have H':=Aside0.mk H
           clear H
           obtain ⟨_,_,_,_,_,_,_,_,_,_,_,_⟩:=cells6 BK237.out
           have p245 : 0 ≤ (x9_4 : Int):=of_decide_eq_true (by first|(with_reducible assumption)|assumption)
           have q245 : x9_4 < (l0_5.length : Int):=of_decide_eq_true (by first|(with_reducible assumption)|assumption)
           obtain ⟨ad245,e245,hx245_0,hx245_1,hx245_2,hx245_3,hx245_4⟩:=at_T50 HR0_5.out x9_4 p245 q245
           cases e245
           replace hx245_0:=(HB.out.cell (World.block_lt_of_cell? w _ hx245_0)).trans hx245_0
           replace hx245_1:=(HB.out.cell (World.block_lt_of_cell? w _ hx245_1)).trans hx245_1
           replace hx245_2:=(HB.out.cell (World.block_lt_of_cell? w _ hx245_2)).trans hx245_2
           replace hx245_3:=(HB.out.cell (World.block_lt_of_cell? w _ hx245_3)).trans hx245_3
           replace hx245_4:=(HB.out.cell (World.block_lt_of_cell? w _ hx245_4)).trans hx245_4
           replace p245:=eq_true p245
           replace q245:=eq_true q245
           go_wp2_with (first|((with_reducible refine gate_dst (N:=10) rfl ?_);(try (refine gate_guard (by rfl) ?_;dsimp only));refine box_ev (N:=10) (cs:=#[.int .i64 0,.int .i64 0,.int .i64 0,.int .i64 0,.int .i64 0]) (t:=50) ?_;intro gb246 hg w49 hbox hb;have BK246:=Aside0.mk (hbox);have GW246 : Aside0 (w.heap.size ≤ gb246):=gsz hg;have GE246:=GW246;have NB237_246:=nbl BK237 hg;have NB246_237:=nbr BK237 hg;replace BK237:=bkb BK237 hb;replace HB:=hbs hb;clear hb hbox hg;have hnb50:=NB246_237.out;have hnc50:=NB237_246.out;obtain ⟨_,_,_,_,_,_,_,_,_,_⟩:=cells5 BK246.out))
           go_roundg k4
           case measure => have:=HK1.out;have:=HK2.out;have:=HK3.out;have:=HK4.out;omega
           case rel => exact ⟨(wrap64 (x9_4 + 1)),(by first|rfl|(simp;done)|(simp [*];done)),H',⟨by have:=HK1.out;have:=HK2.out;have:=HK3.out;have:=HK4.out;omega⟩,⟨by (with_reducible repeat (first|refine blk_drewN ?_ _|refine blk_drew ?_|refine blk_alloc ?_ _));refine blk_far ?_ NB237_246.out _;(with_reducible repeat (first|refine blk_drewN ?_ _|refine blk_drew ?_|refine blk_alloc ?_ _));refine blk_far ?_ NB237_246.out _;(with_reducible repeat (first|refine blk_drewN ?_ _|refine blk_drew ?_|refine blk_alloc ?_ _));refine blk_far ?_ NB237_246.out _;(with_reducible repeat (first|refine blk_drewN ?_ _|refine blk_drew ?_|refine blk_alloc ?_ _));refine blk_far ?_ NB237_246.out _;(with_reducible repeat (first|refine blk_drewN ?_ _|refine blk_drew ?_|refine blk_alloc ?_ _));refine blk_far ?_ NB237_246.out _;(with_reducible repeat (first|refine blk_drewN ?_ _|refine blk_drew ?_|refine blk_alloc ?_ _));exact BK237.out⟩,⟨hb_⟩⟩
          rw [if_neg c47] at H
          have c47b0 : decide (((rd_T50 l0_5 x9_4).f0) < 0) = false:=decide_eq_false c47
          clear c47
          replace H:=Option.bind_eq_some_iff.mp H
          obtain ⟨t247,A520,H⟩:=H
          replace H : (if t247 = true then (hinterlandref17_Validate.l3 k4 (wrap64 (x9_4 + 1)) a0_0 a0_1 l0_2 l0_3 l0_4 l0_5) else (some 8)) = some r:=H
          have A52:=Aside0.mk A520
          clear A520
          by_cases c53 : t247 = true
          ·subst c53
           have H1 : (hinterlandref17_Validate.l3 k4 (wrap64 (x9_4 + 1)) a0_0 a0_1 l0_2 l0_3 l0_4 l0_5) = some r:=by rw [if_pos rfl] at H;exact H
           clear H
           have H:=H1
           clear H1
           have H':=Aside0.mk H
           clear H
           obtain ⟨_,_,_,_,_,_,_,_,_,_,_,_⟩:=cells6 BK237.out
           have p245 : 0 ≤ (x9_4 : Int):=of_decide_eq_true (by first|(with_reducible assumption)|assumption)
           have q245 : x9_4 < (l0_5.length : Int):=of_decide_eq_true (by first|(with_reducible assumption)|assumption)
           obtain ⟨ad245,e245,hx245_0,hx245_1,hx245_2,hx245_3,hx245_4⟩:=at_T50 HR0_5.out x9_4 p245 q245
           cases e245
           replace hx245_0:=(HB.out.cell (World.block_lt_of_cell? w _ hx245_0)).trans hx245_0
           replace hx245_1:=(HB.out.cell (World.block_lt_of_cell? w _ hx245_1)).trans hx245_1
           replace hx245_2:=(HB.out.cell (World.block_lt_of_cell? w _ hx245_2)).trans hx245_2
           replace hx245_3:=(HB.out.cell (World.block_lt_of_cell? w _ hx245_3)).trans hx245_3
           replace hx245_4:=(HB.out.cell (World.block_lt_of_cell? w _ hx245_4)).trans hx245_4
           replace p245:=eq_true p245
           replace q245:=eq_true q245
           go_wp2_with (first|((with_reducible refine gate_dst (N:=10) rfl ?_);(try (refine gate_guard (by rfl) ?_;dsimp only));refine box_ev (N:=10) (cs:=#[.int .i64 0,.int .i64 0,.int .i64 0,.int .i64 0,.int .i64 0]) (t:=50) ?_;intro gb246 hg w55 hbox hb;have BK246:=Aside0.mk (hbox);have GW246 : Aside0 (w.heap.size ≤ gb246):=gsz hg;have GE246:=GW246;have NB237_246:=nbl BK237 hg;have NB246_237:=nbr BK237 hg;replace BK237:=bkb BK237 hb;replace HB:=hbs hb;clear hb hbox hg;have hnb56:=NB246_237.out;have hnc56:=NB237_246.out;obtain ⟨_,_,_,_,_,_,_,_,_,_⟩:=cells5 BK246.out;obtain ⟨_,_,_,_,_,_,_,_,_,_,_,_⟩:=cells6 BK237.out)|((with_reducible refine gate_callee (f:=40) rfl ?_);refine goesL_ (some 108) rfl rfl Try.func40 (by kernel_rfl) rfl #[.agg #[.int .i64 a0_0,.int .i64 a0_1,.slice A0_2 l0_2.length c0_2,.slice A0_3 l0_3.length c0_3],.int .i64 ((rd_T50 l0_5 x9_4).f0),.int .i64 ((rd_T50 l0_5 x9_4).f2)] rfl ga_ ?_;(with_reducible refine (hinterlandref17_linked.calls k4 a0_0 a0_1 _ _ l0_2 _ _ l0_3 ((rd_T50 l0_5 x9_4).f0) ((rd_T50 l0_5 x9_4).f2) true _ ?_ ?_ ?_ ?_ A52.out).mono ?_);exact Kd.C_below HR0_2.out (hb_);exact HC0_2.out;exact Kd.C_below HR0_3.out (hb_);exact HC0_3.out;rintro e w59 ⟨rfl,hb⟩;refine ⟨_,rfl,?_⟩;replace BK237:=Aside0.mk (blk_below (g:=gb237) (o:=.cells #[.int .i64 a0_0,.int .i64 a0_1,.slice A0_2 l0_2.length c0_2,.slice A0_3 l0_3.length c0_3,.slice A0_4 l0_4.length c0_4,.slice (some ad245) l0_5.length c0_5] 33 (0,0)) (by (with_reducible repeat (first|refine blk_drewN ?_ _|refine blk_drew ?_|refine blk_alloc ?_ _));refine blk_far ?_ NB237_246.out _;(with_reducible repeat (first|refine blk_drewN ?_ _|refine blk_drew ?_|refine blk_alloc ?_ _));refine blk_far ?_ NB237_246.out _;(with_reducible repeat (first|refine blk_drewN ?_ _|refine blk_drew ?_|refine blk_alloc ?_ _));refine blk_far ?_ NB237_246.out _;(with_reducible repeat (first|refine blk_drewN ?_ _|refine blk_drew ?_|refine blk_alloc ?_ _));refine blk_far ?_ NB237_246.out _;(with_reducible repeat (first|refine blk_drewN ?_ _|refine blk_drew ?_|refine blk_alloc ?_ _));refine blk_far ?_ NB237_246.out _;(with_reducible repeat (first|refine blk_drewN ?_ _|refine blk_drew ?_|refine blk_alloc ?_ _));exact BK237.out) hb);replace BK246:=Aside0.mk (blk_below (g:=gb246) (o:=.cells #[.int .i64 ((rd_T50 l0_5 x9_4).f0),.int .i64 ((rd_T50 l0_5 x9_4).f1),.int .i64 ((rd_T50 l0_5 x9_4).f2),.int .i64 ((rd_T50 l0_5 x9_4).f3),.int .i64 ((rd_T50 l0_5 x9_4).f4)] 50 (0,0)) (by (with_reducible repeat (first|refine blk_drewN ?_ _|refine blk_drew ?_|refine blk_alloc ?_ _));exact blk_puts5 (blk_up BK246.out)) hb);replace HB:=hbs hb))
           go_roundg k4
           case measure => have:=HK1.out;have:=HK2.out;have:=HK3.out;have:=HK4.out;omega
           case rel => exact ⟨(wrap64 (x9_4 + 1)),(by first|rfl|(simp;done)|(simp [*];done)),H',⟨by have:=HK1.out;have:=HK2.out;have:=HK3.out;have:=HK4.out;omega⟩,⟨blk_up BK237.out⟩,⟨hb_⟩⟩
          ·replace c53:=Bool.eq_false_iff.mpr c53
           subst c53
           have H1 : (some 8) = some r:=by rw [if_neg (show ¬ (false = true) by decide)] at H;exact H
           clear H
           have H:=H1
           clear H1
           obtain rfl:=Option.some.inj H
           obtain ⟨_,_,_,_,_,_,_,_,_,_,_,_⟩:=cells6 BK237.out
           have p245 : 0 ≤ (x9_4 : Int):=of_decide_eq_true (by first|(with_reducible assumption)|assumption)
           have q245 : x9_4 < (l0_5.length : Int):=of_decide_eq_true (by first|(with_reducible assumption)|assumption)
           obtain ⟨ad245,e245,hx245_0,hx245_1,hx245_2,hx245_3,hx245_4⟩:=at_T50 HR0_5.out x9_4 p245 q245
           cases e245
           replace hx245_0:=(HB.out.cell (World.block_lt_of_cell? w _ hx245_0)).trans hx245_0
           replace hx245_1:=(HB.out.cell (World.block_lt_of_cell? w _ hx245_1)).trans hx245_1
           replace hx245_2:=(HB.out.cell (World.block_lt_of_cell? w _ hx245_2)).trans hx245_2
           replace hx245_3:=(HB.out.cell (World.block_lt_of_cell? w _ hx245_3)).trans hx245_3
           replace hx245_4:=(HB.out.cell (World.block_lt_of_cell? w _ hx245_4)).trans hx245_4
           replace p245:=eq_true p245
           replace q245:=eq_true q245
           go_wp2_with (first|((with_reducible refine gate_dst (N:=10) rfl ?_);(try (refine gate_guard (by rfl) ?_;dsimp only));refine box_ev (N:=10) (cs:=#[.int .i64 0,.int .i64 0,.int .i64 0,.int .i64 0,.int .i64 0]) (t:=50) ?_;intro gb246 hg w61 hbox hb;have BK246:=Aside0.mk (hbox);have GW246 : Aside0 (w.heap.size ≤ gb246):=gsz hg;have GE246:=GW246;have NB237_246:=nbl BK237 hg;have NB246_237:=nbr BK237 hg;replace BK237:=bkb BK237 hb;replace HB:=hbs hb;clear hb hbox hg;have hnb62:=NB246_237.out;have hnc62:=NB237_246.out;obtain ⟨_,_,_,_,_,_,_,_,_,_⟩:=cells5 BK246.out;obtain ⟨_,_,_,_,_,_,_,_,_,_,_,_⟩:=cells6 BK237.out)|((with_reducible refine gate_callee (f:=40) rfl ?_);refine goesL_ (some 108) rfl rfl Try.func40 (by kernel_rfl) rfl #[.agg #[.int .i64 a0_0,.int .i64 a0_1,.slice A0_2 l0_2.length c0_2,.slice A0_3 l0_3.length c0_3],.int .i64 ((rd_T50 l0_5 x9_4).f0),.int .i64 ((rd_T50 l0_5 x9_4).f2)] rfl ga_ ?_;(with_reducible refine (hinterlandref17_linked.calls k4 a0_0 a0_1 _ _ l0_2 _ _ l0_3 ((rd_T50 l0_5 x9_4).f0) ((rd_T50 l0_5 x9_4).f2) false _ ?_ ?_ ?_ ?_ A52.out).mono ?_);exact Kd.C_below HR0_2.out (hb_);exact HC0_2.out;exact Kd.C_below HR0_3.out (hb_);exact HC0_3.out;rintro e w65 ⟨rfl,hb⟩;refine ⟨_,rfl,?_⟩;replace BK237:=Aside0.mk (blk_below (g:=gb237) (o:=.cells #[.int .i64 a0_0,.int .i64 a0_1,.slice A0_2 l0_2.length c0_2,.slice A0_3 l0_3.length c0_3,.slice A0_4 l0_4.length c0_4,.slice (some ad245) l0_5.length c0_5] 33 (0,0)) (by (with_reducible repeat (first|refine blk_drewN ?_ _|refine blk_drew ?_|refine blk_alloc ?_ _));refine blk_far ?_ NB237_246.out _;(with_reducible repeat (first|refine blk_drewN ?_ _|refine blk_drew ?_|refine blk_alloc ?_ _));refine blk_far ?_ NB237_246.out _;(with_reducible repeat (first|refine blk_drewN ?_ _|refine blk_drew ?_|refine blk_alloc ?_ _));refine blk_far ?_ NB237_246.out _;(with_reducible repeat (first|refine blk_drewN ?_ _|refine blk_drew ?_|refine blk_alloc ?_ _));refine blk_far ?_ NB237_246.out _;(with_reducible repeat (first|refine blk_drewN ?_ _|refine blk_drew ?_|refine blk_alloc ?_ _));refine blk_far ?_ NB237_246.out _;(with_reducible repeat (first|refine blk_drewN ?_ _|refine blk_drew ?_|refine blk_alloc ?_ _));exact BK237.out) hb);replace BK246:=Aside0.mk (blk_below (g:=gb246) (o:=.cells #[.int .i64 ((rd_T50 l0_5 x9_4).f0),.int .i64 ((rd_T50 l0_5 x9_4).f1),.int .i64 ((rd_T50 l0_5 x9_4).f2),.int .i64 ((rd_T50 l0_5 x9_4).f3),.int .i64 ((rd_T50 l0_5 x9_4).f4)] 50 (0,0)) (by (with_reducible repeat (first|refine blk_drewN ?_ _|refine blk_drew ?_|refine blk_alloc ?_ _));exact blk_puts5 (blk_up BK246.out)) hb);replace HB:=hbs hb))
           go_ret
           exact ⟨er_,hb_⟩
         rw [if_neg c45] at H
         have c45b0 : decide (x9_4 < (l0_5.length : Int)) = false:=decide_eq_false c45
         clear c45
         have H':=Aside0.mk H
         clear H
         obtain ⟨_,_,_,_,_,_,_,_,_,_,_,_⟩:=cells6 BK237.out
         go_wp2
         go_loopg [11] k4 (fun kq v11 w' => ∃ (x11_5 : Int),v11 = .int .i64 x11_5 ∧ Aside0 (hinterlandref17_Validate.l4 kq x11_5 a0_0 a0_1 l0_2 l0_3 l0_4 l0_5 = some r) ∧ Aside0 (kq ≤ k4) ∧ Aside0 (w'.heap[gb237]? = some (.cells #[.int .i64 a0_0,.int .i64 a0_1,(.slice A0_2 l0_2.length c0_2),(.slice A0_3 l0_3.length c0_3),(.slice A0_4 l0_4.length c0_4),(.slice A0_5 l0_5.length c0_5)] 33 (0,0))) ∧ Aside0 (Below w.heap.size w w'))
         case atStart => exact ⟨(0),(by first|rfl|(simp;done)|(simp [*];done)),H',⟨Nat.le_refl _⟩,⟨blk_up BK237.out⟩,⟨hb_⟩⟩
         case round =>
          clear H'
          obtain ⟨x11_5,rfl,HA,HK5,BK237,HB⟩:=hrel
          cases gk with
          | zero => exact absurd HA.out (by simp [hinterlandref17_Validate.l4])
          | succ k5 =>
           have H:=HA.out
           clear HA
           simp only [hinterlandref17_Validate.l4] at H
           by_cases c67 : x11_5 < (l0_5.length : Int)
           rotate_left
           ·rw [if_neg c67] at H
            have c67b0 : decide (x11_5 < (l0_5.length : Int)) = false:=decide_eq_false c67
            clear c67
            obtain rfl:=Option.some.inj H
            obtain ⟨_,_,_,_,_,_,_,_,_,_,_,_⟩:=cells6 BK237.out
            go_wp2
            go_ret
            exact ⟨er_,hb_⟩
           rw [if_pos c67] at H
           have c67b0 : decide (x11_5 < (l0_5.length : Int)) = true:=decide_eq_true c67
           clear c67
           replace H:=ifp_ H;obtain ⟨c68,H⟩:=H
           have c68b0 : decide (0 ≤ x11_5) = true:=decide_eq_true c68
           clear c68
           replace H:=Option.bind_eq_some_iff.mp H
           obtain ⟨t250,A690,H⟩:=H
           replace H : (if t250 = true then (some 7) else (hinterlandref17_Validate.l4 k5 (wrap64 (x11_5 + 1)) a0_0 a0_1 l0_2 l0_3 l0_4 l0_5)) = some r:=H
           have A69:=Aside0.mk A690
           clear A690
           by_cases c70 : t250 = true
           ·subst c70
            have H1 : (some 7) = some r:=by rw [if_pos rfl] at H;exact H
            clear H
            have H:=H1
            clear H1
            obtain rfl:=Option.some.inj H
            obtain ⟨_,_,_,_,_,_,_,_,_,_,_,_⟩:=cells6 BK237.out
            try go_wp2
            replace BK237:=Aside0.mk (blk_drew BK237.out)
            replace HB:=Aside0.mk (below_drew1 HB.out)
            have p248 : 0 ≤ (x11_5 : Int):=of_decide_eq_true (by first|(with_reducible assumption)|assumption)
            have q248 : x11_5 < (l0_5.length : Int):=of_decide_eq_true (by first|(with_reducible assumption)|assumption)
            obtain ⟨ad248,e248,hx248_0,hx248_1,hx248_2,hx248_3,hx248_4⟩:=at_T50 HR0_5.out x11_5 p248 q248
            have hw248_4:=hx248_4
            have hw248_3:=hx248_3
            have hw248_2:=hx248_2
            have hw248_1:=hx248_1
            have hw248_0:=hx248_0
            cases e248
            replace hx248_0:=(HB.out.cell (World.block_lt_of_cell? w _ hx248_0)).trans hx248_0
            replace hx248_1:=(HB.out.cell (World.block_lt_of_cell? w _ hx248_1)).trans hx248_1
            replace hx248_2:=(HB.out.cell (World.block_lt_of_cell? w _ hx248_2)).trans hx248_2
            replace hx248_3:=(HB.out.cell (World.block_lt_of_cell? w _ hx248_3)).trans hx248_3
            replace hx248_4:=(HB.out.cell (World.block_lt_of_cell? w _ hx248_4)).trans hx248_4
            replace p248:=eq_true p248
            replace q248:=eq_true q248
            have p249 : 0 ≤ (x11_5 : Int):=of_decide_eq_true (by first|(with_reducible assumption)|assumption)
            have q249 : x11_5 < (l0_5.length : Int):=of_decide_eq_true (by first|(with_reducible assumption)|assumption)
            obtain ⟨ad249,e249,hx249_0,hx249_1,hx249_2,hx249_3,hx249_4⟩:=at_T50 HR0_5.out x11_5 p249 q249
            have hw249_4:=hx249_4
            have hw249_3:=hx249_3
            have hw249_2:=hx249_2
            have hw249_1:=hx249_1
            have hw249_0:=hx249_0
            obtain rfl : ad248 = ad249:=(by injection e249)
            replace hx249_0:=(HB.out.cell (World.block_lt_of_cell? w _ hx249_0)).trans hx249_0
            replace hx249_1:=(HB.out.cell (World.block_lt_of_cell? w _ hx249_1)).trans hx249_1
            replace hx249_2:=(HB.out.cell (World.block_lt_of_cell? w _ hx249_2)).trans hx249_2
            replace hx249_3:=(HB.out.cell (World.block_lt_of_cell? w _ hx249_3)).trans hx249_3
            replace hx249_4:=(HB.out.cell (World.block_lt_of_cell? w _ hx249_4)).trans hx249_4
            replace p249:=eq_true p249
            replace q249:=eq_true q249
            refine start_ (n:=15) (S:=fun w' => w'.cell? ⟨gb237,0,none⟩ = some (.int .i64 a0_0) ∧ w'.cell? ⟨gb237,1,none⟩ = some (.int .i64 a0_1) ∧ w'.cell? ⟨gb237,2,none⟩ = some (.slice A0_2 l0_2.length c0_2) ∧ w'.cell? ⟨gb237,3,none⟩ = some (.slice A0_3 l0_3.length c0_3) ∧ w'.cell? ⟨gb237,4,none⟩ = some (.slice A0_4 l0_4.length c0_4) ∧ w'.cell? ⟨gb237,5,none⟩ = some (.slice (some ad248) l0_5.length c0_5) ∧ w'.cell? (ad248.add ((x11_5).toNat * 5)) = some (.int .i64 ((rd_T50 l0_5 x11_5).f0)) ∧ w'.cell? ⟨(ad248.add ((x11_5).toNat * 5)).block,(ad248.add ((x11_5).toNat * 5)).off + 1,none⟩ = some (.int .i64 ((rd_T50 l0_5 x11_5).f1)) ∧ w'.cell? ⟨(ad248.add ((x11_5).toNat * 5)).block,(ad248.add ((x11_5).toNat * 5)).off + 2,none⟩ = some (.int .i64 ((rd_T50 l0_5 x11_5).f2)) ∧ w'.cell? ⟨(ad248.add ((x11_5).toNat * 5)).block,(ad248.add ((x11_5).toNat * 5)).off + 3,none⟩ = some (.int .i64 ((rd_T50 l0_5 x11_5).f3)) ∧ w'.cell? ⟨(ad248.add ((x11_5).toNat * 5)).block,(ad248.add ((x11_5).toNat * 5)).off + 4,none⟩ = some (.int .i64 ((rd_T50 l0_5 x11_5).f4)) ∧ w'.cell? (ad248.add ((x11_5).toNat * 5)) = some (.int .i64 ((rd_T50 l0_5 x11_5).f0)) ∧ w'.cell? ⟨(ad248.add ((x11_5).toNat * 5)).block,(ad248.add ((x11_5).toNat * 5)).off + 1,none⟩ = some (.int .i64 ((rd_T50 l0_5 x11_5).f1)) ∧ w'.cell? ⟨(ad248.add ((x11_5).toNat * 5)).block,(ad248.add ((x11_5).toNat * 5)).off + 2,none⟩ = some (.int .i64 ((rd_T50 l0_5 x11_5).f2)) ∧ w'.cell? ⟨(ad248.add ((x11_5).toNat * 5)).block,(ad248.add ((x11_5).toNat * 5)).off + 3,none⟩ = some (.int .i64 ((rd_T50 l0_5 x11_5).f3)) ∧ w'.cell? ⟨(ad248.add ((x11_5).toNat * 5)).block,(ad248.add ((x11_5).toNat * 5)).off + 4,none⟩ = some (.int .i64 ((rd_T50 l0_5 x11_5).f4))) (ds:=[]) #[false,false,false,false,false,false,false,false,false,false,false,false,false,false,false] (by kernel_rfl) rfl rfl ⟨(blk_cell BK237.out 0).trans rfl,(blk_cell BK237.out 1).trans rfl,(blk_cell BK237.out 2).trans rfl,(blk_cell BK237.out 3).trans rfl,(blk_cell BK237.out 4).trans rfl,(blk_cell BK237.out 5).trans rfl,((HB.out.cell (World.block_lt_of_cell? w _ hw248_0)).trans hw248_0),((HB.out.cell (World.block_lt_of_cell? w _ hw248_1)).trans hw248_1),((HB.out.cell (World.block_lt_of_cell? w _ hw248_2)).trans hw248_2),((HB.out.cell (World.block_lt_of_cell? w _ hw248_3)).trans hw248_3),((HB.out.cell (World.block_lt_of_cell? w _ hw248_4)).trans hw248_4),((HB.out.cell (World.block_lt_of_cell? w _ hw249_0)).trans hw249_0),((HB.out.cell (World.block_lt_of_cell? w _ hw249_1)).trans hw249_1),((HB.out.cell (World.block_lt_of_cell? w _ hw249_2)).trans hw249_2),((HB.out.cell (World.block_lt_of_cell? w _ hw249_3)).trans hw249_3),((HB.out.cell (World.block_lt_of_cell? w _ hw249_4)).trans hw249_4)⟩ (fun hHeld => ?_);refine with_tabW hinterlandref17_Validate.tab33 hinterlandref17_Validate.bits33 (fun HT_ HW_ => ?_)
            generalize wr.drew = w72 at BK237 HB hx248_0 hx248_1 hx248_2 hx248_3 hx248_4 hx249_0 hx249_1 hx249_2 hx249_3 hx249_4 hHeld ⊢
            refine pI 1 (some 118) ?_
            refine pI 2 (some 119) ?_
            refine pI 4 (some 121) ?_
            refine pI 8 (some 125) ?_
            refine pI 10 (some 127) ?_
            refine take_ (i:=0) (N:=some 117) (v:=?_) (a':=?_) #[true,true,true,false,true,false,false,false,true,false,true,false,false,false,false] rfl rfl (take_ofW HT_.out HW_.out (by kernel_rfl)) (fun _ _ _ h => h) (Or.inl ⟨by rfl,?_⟩) hHeld ?_ ?_
            rotate_left
            ·rintro w' ⟨s0,s1,s2,s3,s4,s5,s6,s7,s8,s9,s10,s11,s12,s13,s14,s15⟩
             go_simp
             with_reducible rfl
            rotate_left
            ·simp only [Act.put,List.setIfInBounds_toArray,List.set_cons_zero,List.set_cons_succ,i64_w,i32_w]
             rfl
            refine take_ (i:=3) (N:=some 120) (v:=?_) (a':=?_) #[true,true,true,true,true,false,false,false,true,false,true,false,false,false,false] rfl rfl (take_ofW HT_.out HW_.out (by kernel_rfl)) (fun _ _ _ h => h) (Or.inl ⟨by rfl,?_⟩) hHeld ?_ ?_
            rotate_left
            ·rintro w' ⟨s0,s1,s2,s3,s4,s5,s6,s7,s8,s9,s10,s11,s12,s13,s14,s15⟩
             go_simp
             with_reducible rfl
            rotate_left
            ·simp only [Act.put,List.setIfInBounds_toArray,List.set_cons_zero,List.set_cons_succ,i64_w,i32_w]
             rfl
            refine pI 5 (some 122) ?_
            refine pI 6 (some 123) ?_
            refine take_ (i:=7) (N:=some 124) (v:=?_) (a':=?_) #[true,true,true,true,true,true,true,true,true,false,true,false,false,false,false] rfl rfl (take_ofW HT_.out HW_.out (by kernel_rfl)) (fun _ _ _ h => h) (Or.inl ⟨by rfl,?_⟩) hHeld ?_ ?_
            rotate_left
            ·rintro w' ⟨s0,s1,s2,s3,s4,s5,s6,s7,s8,s9,s10,s11,s12,s13,s14,s15⟩
             go_simp
             with_reducible rfl
            rotate_left
            ·simp only [Act.put,List.setIfInBounds_toArray,List.set_cons_zero,List.set_cons_succ,i64_w,i32_w]
             rfl
            refine take_ (i:=9) (N:=some 126) (v:=?_) (a':=?_) #[true,true,true,true,true,true,true,true,true,true,true,false,false,false,false] rfl rfl (take_ofW HT_.out HW_.out (by kernel_rfl)) (fun _ _ _ h => h) (Or.inl ⟨by rfl,?_⟩) hHeld ?_ ?_
            rotate_left
            ·rintro w' ⟨s0,s1,s2,s3,s4,s5,s6,s7,s8,s9,s10,s11,s12,s13,s14,s15⟩
             go_simp
             with_reducible rfl
            rotate_left
            ·simp only [Act.put,List.setIfInBounds_toArray,List.set_cons_zero,List.set_cons_succ,i64_w,i32_w]
             rfl
            refine pI 11 (some 128) ?_
            refine pI 12 (some 129) ?_
            refine take_ (i:=13) (N:=some 130) (v:=?_) (a':=?_) #[true,true,true,true,true,true,true,true,true,true,true,true,true,true,false] rfl rfl (take_ofW HT_.out HW_.out (by kernel_rfl)) (fun _ _ _ h => h) (Or.inl ⟨by rfl,?_⟩) hHeld ?_ ?_
            rotate_left
            ·rintro w' ⟨s0,s1,s2,s3,s4,s5,s6,s7,s8,s9,s10,s11,s12,s13,s14,s15⟩
             go_simp
             with_reducible rfl
            rotate_left
            ·simp only [Act.put,List.setIfInBounds_toArray,List.set_cons_zero,List.set_cons_succ,i64_w,i32_w]
             rfl
            refine oI 14 (some 131) (fun K hK => ?_)
            refine goes_ Try.func41 (by kernel_rfl) rfl #[.agg #[.int .i64 a0_0,.int .i64 a0_1,.slice A0_2 l0_2.length c0_2,.slice A0_3 l0_3.length c0_3,.slice A0_4 l0_4.length c0_4,.slice (some ad248) l0_5.length c0_5],.int .i64 x11_5,.int .i64 ((rd_T50 l0_5 x11_5).f0),.int .i64 ((rd_T50 l0_5 x11_5).f2)] (by rfl) rfl rfl ga_ ?_
            with_reducible refine (hinterlandref17_taken.calls k5 a0_0 a0_1 _ _ l0_2 _ _ l0_3 _ _ l0_4 _ _ l0_5 x11_5 ((rd_T50 l0_5 x11_5).f0) ((rd_T50 l0_5 x11_5).f2) true _ ?side1 ?side2 ?side3 ?side4 ?side5 ?side6 ?side7 ?side8 A69.out).mono ?_
            (case side1 => exact cq HR0_2)
            (case side2 => exact HC0_2.out)
            (case side3 => exact cq HR0_3)
            (case side4 => exact HC0_3.out)
            (case side5 => exact cq HR0_4)
            (case side6 => exact HC0_4.out)
            (case side7 => exact cq HR0_5)
            (case side8 => exact HC0_5.out)
            rintro e w73 ⟨rfl,hb⟩
            refine ⟨_,rfl,?_⟩
            have n0_:=bkb BK237 hb
            have n1_:=Aside0.mk (below_step (hb_) hb)
            clear BK237
            clear HB
            have BK237:=n0_
            have HB:=n1_
            clear n0_ n1_
            (try clear hb)
            (try clear hb2)
            (try clear hk)
            (try clear hi)
            refine hK.out _ _ ⟨(blk_cell BK237.out 0).trans rfl,(blk_cell BK237.out 1).trans rfl,(blk_cell BK237.out 2).trans rfl,(blk_cell BK237.out 3).trans rfl,(blk_cell BK237.out 4).trans rfl,(blk_cell BK237.out 5).trans rfl,((HB.out.cell (World.block_lt_of_cell? w _ hw248_0)).trans hw248_0),((HB.out.cell (World.block_lt_of_cell? w _ hw248_1)).trans hw248_1),((HB.out.cell (World.block_lt_of_cell? w _ hw248_2)).trans hw248_2),((HB.out.cell (World.block_lt_of_cell? w _ hw248_3)).trans hw248_3),((HB.out.cell (World.block_lt_of_cell? w _ hw248_4)).trans hw248_4),((HB.out.cell (World.block_lt_of_cell? w _ hw249_0)).trans hw249_0),((HB.out.cell (World.block_lt_of_cell? w _ hw249_1)).trans hw249_1),((HB.out.cell (World.block_lt_of_cell? w _ hw249_2)).trans hw249_2),((HB.out.cell (World.block_lt_of_cell? w _ hw249_3)).trans hw249_3),((HB.out.cell (World.block_lt_of_cell? w _ hw249_4)).trans hw249_4)⟩ (fun hHeld => ?_)
            clear hK K
            refine norm_ (a':=?_) ?_ ?_
            rotate_left
            ·show Act.put _ (some 131) _ = _
             simp only [Act.put,List.setIfInBounds_toArray,List.set_cons_zero,List.set_cons_succ,i64_w,i32_w]
             rfl
            refine done_ (done_of HT_.out (by kernel_rfl)) ?_
            try go_wp2
            go_ret
            exact ⟨er_,hb_⟩
           ·replace c70:=Bool.eq_false_iff.mpr c70
            subst c70
            have H1 : (hinterlandref17_Validate.l4 k5 (wrap64 (x11_5 + 1)) a0_0 a0_1 l0_2 l0_3 l0_4 l0_5) = some r:=by rw [if_neg (show ¬ (false = true) by decide)] at H;exact H
            clear H
            have H:=H1
            clear H1
            have H':=Aside0.mk H
            clear H
            obtain ⟨_,_,_,_,_,_,_,_,_,_,_,_⟩:=cells6 BK237.out
            try go_wp2
            replace BK237:=Aside0.mk (blk_drew BK237.out)
            replace HB:=Aside0.mk (below_drew1 HB.out)
            have p248 : 0 ≤ (x11_5 : Int):=of_decide_eq_true (by first|(with_reducible assumption)|assumption)
            have q248 : x11_5 < (l0_5.length : Int):=of_decide_eq_true (by first|(with_reducible assumption)|assumption)
            obtain ⟨ad248,e248,hx248_0,hx248_1,hx248_2,hx248_3,hx248_4⟩:=at_T50 HR0_5.out x11_5 p248 q248
            have hw248_4:=hx248_4
            have hw248_3:=hx248_3
            have hw248_2:=hx248_2
            have hw248_1:=hx248_1
            have hw248_0:=hx248_0
            cases e248
            replace hx248_0:=(HB.out.cell (World.block_lt_of_cell? w _ hx248_0)).trans hx248_0
            replace hx248_1:=(HB.out.cell (World.block_lt_of_cell? w _ hx248_1)).trans hx248_1
            replace hx248_2:=(HB.out.cell (World.block_lt_of_cell? w _ hx248_2)).trans hx248_2
            replace hx248_3:=(HB.out.cell (World.block_lt_of_cell? w _ hx248_3)).trans hx248_3
            replace hx248_4:=(HB.out.cell (World.block_lt_of_cell? w _ hx248_4)).trans hx248_4
            replace p248:=eq_true p248
            replace q248:=eq_true q248
            have p249 : 0 ≤ (x11_5 : Int):=of_decide_eq_true (by first|(with_reducible assumption)|assumption)
            have q249 : x11_5 < (l0_5.length : Int):=of_decide_eq_true (by first|(with_reducible assumption)|assumption)
            obtain ⟨ad249,e249,hx249_0,hx249_1,hx249_2,hx249_3,hx249_4⟩:=at_T50 HR0_5.out x11_5 p249 q249
            have hw249_4:=hx249_4
            have hw249_3:=hx249_3
            have hw249_2:=hx249_2
            have hw249_1:=hx249_1
            have hw249_0:=hx249_0
            obtain rfl : ad248 = ad249:=(by injection e249)
            replace hx249_0:=(HB.out.cell (World.block_lt_of_cell? w _ hx249_0)).trans hx249_0
            replace hx249_1:=(HB.out.cell (World.block_lt_of_cell? w _ hx249_1)).trans hx249_1
            replace hx249_2:=(HB.out.cell (World.block_lt_of_cell? w _ hx249_2)).trans hx249_2
            replace hx249_3:=(HB.out.cell (World.block_lt_of_cell? w _ hx249_3)).trans hx249_3
            replace hx249_4:=(HB.out.cell (World.block_lt_of_cell? w _ hx249_4)).trans hx249_4
            replace p249:=eq_true p249
            replace q249:=eq_true q249
            refine start_ (n:=15) (S:=fun w' => w'.cell? ⟨gb237,0,none⟩ = some (.int .i64 a0_0) ∧ w'.cell? ⟨gb237,1,none⟩ = some (.int .i64 a0_1) ∧ w'.cell? ⟨gb237,2,none⟩ = some (.slice A0_2 l0_2.length c0_2) ∧ w'.cell? ⟨gb237,3,none⟩ = some (.slice A0_3 l0_3.length c0_3) ∧ w'.cell? ⟨gb237,4,none⟩ = some (.slice A0_4 l0_4.length c0_4) ∧ w'.cell? ⟨gb237,5,none⟩ = some (.slice (some ad248) l0_5.length c0_5) ∧ w'.cell? (ad248.add ((x11_5).toNat * 5)) = some (.int .i64 ((rd_T50 l0_5 x11_5).f0)) ∧ w'.cell? ⟨(ad248.add ((x11_5).toNat * 5)).block,(ad248.add ((x11_5).toNat * 5)).off + 1,none⟩ = some (.int .i64 ((rd_T50 l0_5 x11_5).f1)) ∧ w'.cell? ⟨(ad248.add ((x11_5).toNat * 5)).block,(ad248.add ((x11_5).toNat * 5)).off + 2,none⟩ = some (.int .i64 ((rd_T50 l0_5 x11_5).f2)) ∧ w'.cell? ⟨(ad248.add ((x11_5).toNat * 5)).block,(ad248.add ((x11_5).toNat * 5)).off + 3,none⟩ = some (.int .i64 ((rd_T50 l0_5 x11_5).f3)) ∧ w'.cell? ⟨(ad248.add ((x11_5).toNat * 5)).block,(ad248.add ((x11_5).toNat * 5)).off + 4,none⟩ = some (.int .i64 ((rd_T50 l0_5 x11_5).f4)) ∧ w'.cell? (ad248.add ((x11_5).toNat * 5)) = some (.int .i64 ((rd_T50 l0_5 x11_5).f0)) ∧ w'.cell? ⟨(ad248.add ((x11_5).toNat * 5)).block,(ad248.add ((x11_5).toNat * 5)).off + 1,none⟩ = some (.int .i64 ((rd_T50 l0_5 x11_5).f1)) ∧ w'.cell? ⟨(ad248.add ((x11_5).toNat * 5)).block,(ad248.add ((x11_5).toNat * 5)).off + 2,none⟩ = some (.int .i64 ((rd_T50 l0_5 x11_5).f2)) ∧ w'.cell? ⟨(ad248.add ((x11_5).toNat * 5)).block,(ad248.add ((x11_5).toNat * 5)).off + 3,none⟩ = some (.int .i64 ((rd_T50 l0_5 x11_5).f3)) ∧ w'.cell? ⟨(ad248.add ((x11_5).toNat * 5)).block,(ad248.add ((x11_5).toNat * 5)).off + 4,none⟩ = some (.int .i64 ((rd_T50 l0_5 x11_5).f4))) (ds:=[]) #[false,false,false,false,false,false,false,false,false,false,false,false,false,false,false] (by kernel_rfl) rfl rfl ⟨(blk_cell BK237.out 0).trans rfl,(blk_cell BK237.out 1).trans rfl,(blk_cell BK237.out 2).trans rfl,(blk_cell BK237.out 3).trans rfl,(blk_cell BK237.out 4).trans rfl,(blk_cell BK237.out 5).trans rfl,((HB.out.cell (World.block_lt_of_cell? w _ hw248_0)).trans hw248_0),((HB.out.cell (World.block_lt_of_cell? w _ hw248_1)).trans hw248_1),((HB.out.cell (World.block_lt_of_cell? w _ hw248_2)).trans hw248_2),((HB.out.cell (World.block_lt_of_cell? w _ hw248_3)).trans hw248_3),((HB.out.cell (World.block_lt_of_cell? w _ hw248_4)).trans hw248_4),((HB.out.cell (World.block_lt_of_cell? w _ hw249_0)).trans hw249_0),((HB.out.cell (World.block_lt_of_cell? w _ hw249_1)).trans hw249_1),((HB.out.cell (World.block_lt_of_cell? w _ hw249_2)).trans hw249_2),((HB.out.cell (World.block_lt_of_cell? w _ hw249_3)).trans hw249_3),((HB.out.cell (World.block_lt_of_cell? w _ hw249_4)).trans hw249_4)⟩ (fun hHeld => ?_);refine with_tabW hinterlandref17_Validate.tab33 hinterlandref17_Validate.bits33 (fun HT_ HW_ => ?_)
            generalize wr.drew = w75 at BK237 HB hx248_0 hx248_1 hx248_2 hx248_3 hx248_4 hx249_0 hx249_1 hx249_2 hx249_3 hx249_4 hHeld ⊢
            refine pI 1 (some 118) ?_
            refine pI 2 (some 119) ?_
            refine pI 4 (some 121) ?_
            refine pI 8 (some 125) ?_
            refine pI 10 (some 127) ?_
            refine take_ (i:=0) (N:=some 117) (v:=?_) (a':=?_) #[true,true,true,false,true,false,false,false,true,false,true,false,false,false,false] rfl rfl (take_ofW HT_.out HW_.out (by kernel_rfl)) (fun _ _ _ h => h) (Or.inl ⟨by rfl,?_⟩) hHeld ?_ ?_
            rotate_left
            ·rintro w' ⟨s0,s1,s2,s3,s4,s5,s6,s7,s8,s9,s10,s11,s12,s13,s14,s15⟩
             go_simp
             with_reducible rfl
            rotate_left
            ·simp only [Act.put,List.setIfInBounds_toArray,List.set_cons_zero,List.set_cons_succ,i64_w,i32_w]
             rfl
            refine take_ (i:=3) (N:=some 120) (v:=?_) (a':=?_) #[true,true,true,true,true,false,false,false,true,false,true,false,false,false,false] rfl rfl (take_ofW HT_.out HW_.out (by kernel_rfl)) (fun _ _ _ h => h) (Or.inl ⟨by rfl,?_⟩) hHeld ?_ ?_
            rotate_left
            ·rintro w' ⟨s0,s1,s2,s3,s4,s5,s6,s7,s8,s9,s10,s11,s12,s13,s14,s15⟩
             go_simp
             with_reducible rfl
            rotate_left
            ·simp only [Act.put,List.setIfInBounds_toArray,List.set_cons_zero,List.set_cons_succ,i64_w,i32_w]
             rfl
            refine pI 5 (some 122) ?_
            refine pI 6 (some 123) ?_
            refine take_ (i:=7) (N:=some 124) (v:=?_) (a':=?_) #[true,true,true,true,true,true,true,true,true,false,true,false,false,false,false] rfl rfl (take_ofW HT_.out HW_.out (by kernel_rfl)) (fun _ _ _ h => h) (Or.inl ⟨by rfl,?_⟩) hHeld ?_ ?_
            rotate_left
            ·rintro w' ⟨s0,s1,s2,s3,s4,s5,s6,s7,s8,s9,s10,s11,s12,s13,s14,s15⟩
             go_simp
             with_reducible rfl
            rotate_left
            ·simp only [Act.put,List.setIfInBounds_toArray,List.set_cons_zero,List.set_cons_succ,i64_w,i32_w]
             rfl
            refine take_ (i:=9) (N:=some 126) (v:=?_) (a':=?_) #[true,true,true,true,true,true,true,true,true,true,true,false,false,false,false] rfl rfl (take_ofW HT_.out HW_.out (by kernel_rfl)) (fun _ _ _ h => h) (Or.inl ⟨by rfl,?_⟩) hHeld ?_ ?_
            rotate_left
            ·rintro w' ⟨s0,s1,s2,s3,s4,s5,s6,s7,s8,s9,s10,s11,s12,s13,s14,s15⟩
             go_simp
             with_reducible rfl
            rotate_left
            ·simp only [Act.put,List.setIfInBounds_toArray,List.set_cons_zero,List.set_cons_succ,i64_w,i32_w]
             rfl
            refine pI 11 (some 128) ?_
            refine pI 12 (some 129) ?_
            refine take_ (i:=13) (N:=some 130) (v:=?_) (a':=?_) #[true,true,true,true,true,true,true,true,true,true,true,true,true,true,false] rfl rfl (take_ofW HT_.out HW_.out (by kernel_rfl)) (fun _ _ _ h => h) (Or.inl ⟨by rfl,?_⟩) hHeld ?_ ?_
            rotate_left
            ·rintro w' ⟨s0,s1,s2,s3,s4,s5,s6,s7,s8,s9,s10,s11,s12,s13,s14,s15⟩
             go_simp
             with_reducible rfl
            rotate_left
            ·simp only [Act.put,List.setIfInBounds_toArray,List.set_cons_zero,List.set_cons_succ,i64_w,i32_w]
             rfl
            refine oI 14 (some 131) (fun K hK => ?_)
            refine goes_ Try.func41 (by kernel_rfl) rfl #[.agg #[.int .i64 a0_0,.int .i64 a0_1,.slice A0_2 l0_2.length c0_2,.slice A0_3 l0_3.length c0_3,.slice A0_4 l0_4.length c0_4,.slice (some ad248) l0_5.length c0_5],.int .i64 x11_5,.int .i64 ((rd_T50 l0_5 x11_5).f0),.int .i64 ((rd_T50 l0_5 x11_5).f2)] (by rfl) rfl rfl ga_ ?_
            with_reducible refine (hinterlandref17_taken.calls k5 a0_0 a0_1 _ _ l0_2 _ _ l0_3 _ _ l0_4 _ _ l0_5 x11_5 ((rd_T50 l0_5 x11_5).f0) ((rd_T50 l0_5 x11_5).f2) false _ ?side1 ?side2 ?side3 ?side4 ?side5 ?side6 ?side7 ?side8 A69.out).mono ?_
            (case side1 => exact cq HR0_2)
            (case side2 => exact HC0_2.out)
            (case side3 => exact cq HR0_3)
            (case side4 => exact HC0_3.out)
            (case side5 => exact cq HR0_4)
            (case side6 => exact HC0_4.out)
            (case side7 => exact cq HR0_5)
            (case side8 => exact HC0_5.out)
            rintro e w76 ⟨rfl,hb⟩
            refine ⟨_,rfl,?_⟩
            have n0_:=bkb BK237 hb
            have n1_:=Aside0.mk (below_step (hb_) hb)
            clear BK237
            clear HB
            have BK237:=n0_
            have HB:=n1_
            clear n0_ n1_
            (try clear hb)
            (try clear hb2)
            (try clear hk)
            (try clear hi)
            refine hK.out _ _ ⟨(blk_cell BK237.out 0).trans rfl,(blk_cell BK237.out 1).trans rfl,(blk_cell BK237.out 2).trans rfl,(blk_cell BK237.out 3).trans rfl,(blk_cell BK237.out 4).trans rfl,(blk_cell BK237.out 5).trans rfl,((HB.out.cell (World.block_lt_of_cell? w _ hw248_0)).trans hw248_0),((HB.out.cell (World.block_lt_of_cell? w _ hw248_1)).trans hw248_1),((HB.out.cell (World.block_lt_of_cell? w _ hw248_2)).trans hw248_2),((HB.out.cell (World.block_lt_of_cell? w _ hw248_3)).trans hw248_3),((HB.out.cell (World.block_lt_of_cell? w _ hw248_4)).trans hw248_4),((HB.out.cell (World.block_lt_of_cell? w _ hw249_0)).trans hw249_0),((HB.out.cell (World.block_lt_of_cell? w _ hw249_1)).trans hw249_1),((HB.out.cell (World.block_lt_of_cell? w _ hw249_2)).trans hw249_2),((HB.out.cell (World.block_lt_of_cell? w _ hw249_3)).trans hw249_3),((HB.out.cell (World.block_lt_of_cell? w _ hw249_4)).trans hw249_4)⟩ (fun hHeld => ?_)
            clear hK K
            refine norm_ (a':=?_) ?_ ?_
            rotate_left
            ·show Act.put _ (some 131) _ = _
             simp only [Act.put,List.setIfInBounds_toArray,List.set_cons_zero,List.set_cons_succ,i64_w,i32_w]
             rfl
            refine done_ (done_of HT_.out (by kernel_rfl)) ?_
            try go_wp2
            go_roundg k5
            case measure => have:=HK1.out;have:=HK2.out;have:=HK3.out;have:=HK4.out;have:=HK5.out;omega
            case rel => exact ⟨(wrap64 (x11_5 + 1)),(by first|rfl|(simp;done)|(simp [*];done)),H',⟨by have:=HK1.out;have:=HK2.out;have:=HK3.out;have:=HK4.out;have:=HK5.out;omega⟩,⟨blk_up BK237.out⟩,⟨hb_⟩⟩

/-! ### lane_stand: function 43 -/
mutual
def lane_stand.l0 : Nat → List (S50) → Int → Int → Int → Int → List Int → List Int → List Int → List (S50) → Option (Int)
 | 0,_,_,_,_,_,_,_,_,_ => none
 | k + 1,x14,x15,x16,x255000,x255001,x255002,x255003,x255004,x255005 => if x16 < x15 then (if 0 ≤ x16 then (if x16 < (x14.length : Int) then (if ((rd_T50 x14 x16).f0) = (-1) then (lane_stand.l0 k x14 x15 (wrap64 (x16 + 1)) x255000 x255001 x255002 x255003 x255004 x255005) else ((lane_within.f ((rd_T50 x14 x16).f0) (wrap64 ((wrap64 (x255000 * x255001)) - 1))).bind fun t257 => (if t257 = true then (lane_stand.l0 k x14 x15 (wrap64 (x16 + 1)) x255000 x255001 x255002 x255003 x255004 x255005) else (some 2)))) else (none)) else (none)) else (lane_stand.l1 k x255005 (x255005.length : Int) 0 x255000 x255001 x255002 x255003 x255004 x255005)
def lane_stand.l1 : Nat → List (S50) → Int → Int → Int → Int → List Int → List Int → List Int → List (S50) → Option (Int)
 | 0,_,_,_,_,_,_,_,_,_ => none
 | k + 1,x39,x40,x41,x255000,x255001,x255002,x255003,x255004,x255005 => if x41 < x40 then (if 0 ≤ x41 then (if x41 < (x39.length : Int) then (if ((rd_T50 x39 x41).f0) = (-1) then (lane_stand.l1 k x39 x40 (wrap64 (x41 + 1)) x255000 x255001 x255002 x255003 x255004 x255005) else ((lane_joined.f x255000 x255001 x255002 x255003 ((rd_T50 x39 x41).f0) ((rd_T50 x39 x41).f2)).bind fun bt260 => (if bt260.2 = true then (lane_stand.l1 k x39 x40 (wrap64 (x41 + 1)) x255000 x255001 x255002 x255003 x255004 x255005) else (some 8)))) else (none)) else (none)) else (lane_stand.l2 k x255005 (x255005.length : Int) 0 ([] : List (Int × Int)))
def lane_stand.l2 : Nat → List (S50) → Int → Int → List (Int × Int) → Option (Int)
 | 0,_,_,_,_ => none
 | k + 1,x63,x64,x65,x263000 => if x65 < x64 then (if 0 ≤ x65 then (if x65 < (x63.length : Int) then (if ((rd_T50 x63 x65).f0) = (-1) then (lane_stand.l2 k x63 x64 (wrap64 (x65 + 1)) (mqPut ((rd_T50 x63 x65).f0,(rd_T50 x63 x65).f2) x263000)) else (if mqHas ((rd_T50 x63 x65).f0,(rd_T50 x63 x65).f2) x263000 = true then (some 7) else (lane_stand.l2 k x63 x64 (wrap64 (x65 + 1)) (mqPut ((rd_T50 x63 x65).f0,(rd_T50 x63 x65).f2) x263000)))) else (none)) else (none)) else (some 0)
end
def lane_stand.f (k : Nat) (a0_0 : Int) (a0_1 : Int) (l0_2 : List Int) (l0_3 : List Int) (l0_4 : List Int) (l0_5 : List (S50)) : Option (Int) := lane_stand.l0 k l0_5 (l0_5.length : Int) 0 a0_0 a0_1 l0_2 l0_3 l0_4 l0_5
theorem lane_stand.mono_l : ∀ k, (∀ y0 y1 y2 y3 y4 y5 y6 y7 y8, LeO (lane_stand.l0 k y0 y1 y2 y3 y4 y5 y6 y7 y8) (lane_stand.l0 (k + 1) y0 y1 y2 y3 y4 y5 y6 y7 y8)) ∧ (∀ y0 y1 y2 y3 y4 y5 y6 y7 y8, LeO (lane_stand.l1 k y0 y1 y2 y3 y4 y5 y6 y7 y8) (lane_stand.l1 (k + 1) y0 y1 y2 y3 y4 y5 y6 y7 y8)) ∧ (∀ y0 y1 y2 y3, LeO (lane_stand.l2 k y0 y1 y2 y3) (lane_stand.l2 (k + 1) y0 y1 y2 y3))
 | 0 => ⟨fun _ _ _ _ _ _ _ _ _ r h => by simp [lane_stand.l0] at h,fun _ _ _ _ _ _ _ _ _ r h => by simp [lane_stand.l1] at h,fun _ _ _ _ r h => by simp [lane_stand.l2] at h⟩
 | k + 1 => by
  obtain ⟨ih0,ih1,ih2⟩:=lane_stand.mono_l k
  refine ⟨?_,?_,?_⟩
  ·intro y0 y1 y2 y3 y4 y5 y6 y7 y8
   unfold lane_stand.l0
   repeat' first
   | (with_reducible exact ih0 _ _ _ _ _ _ _ _ _)
   | (with_reducible exact ih1 _ _ _ _ _ _ _ _ _)
   | (with_reducible exact ih2 _ _ _ _)
   | (with_reducible exact LeO.refl _)
   | (with_reducible exact LeO.none _)
   | (with_reducible refine LeO.ite ?_ ?_)
   | (with_reducible refine LeO.bind ?_ (fun _ => ?_))
   | exact ih0 _ _ _ _ _ _ _ _ _
   | exact ih1 _ _ _ _ _ _ _ _ _
   | exact ih2 _ _ _ _
   | exact LeO.none _
   | refine LeO.ite ?_ ?_
   | refine LeO.bind ?_ (fun _ => ?_)
  ·intro y0 y1 y2 y3 y4 y5 y6 y7 y8
   unfold lane_stand.l1
   repeat' first
   | (with_reducible exact ih0 _ _ _ _ _ _ _ _ _)
   | (with_reducible exact ih1 _ _ _ _ _ _ _ _ _)
   | (with_reducible exact ih2 _ _ _ _)
   | (with_reducible exact LeO.refl _)
   | (with_reducible exact LeO.none _)
   | (with_reducible refine LeO.ite ?_ ?_)
   | (with_reducible refine LeO.bind ?_ (fun _ => ?_))
   | exact ih0 _ _ _ _ _ _ _ _ _
   | exact ih1 _ _ _ _ _ _ _ _ _
   | exact ih2 _ _ _ _
   | exact LeO.none _
   | refine LeO.ite ?_ ?_
   | refine LeO.bind ?_ (fun _ => ?_)
  ·intro y0 y1 y2 y3
   unfold lane_stand.l2
   repeat' first
   | (with_reducible exact ih0 _ _ _ _ _ _ _ _ _)
   | (with_reducible exact ih1 _ _ _ _ _ _ _ _ _)
   | (with_reducible exact ih2 _ _ _ _)
   | (with_reducible exact LeO.refl _)
   | (with_reducible exact LeO.none _)
   | (with_reducible refine LeO.ite ?_ ?_)
   | (with_reducible refine LeO.bind ?_ (fun _ => ?_))
   | exact ih0 _ _ _ _ _ _ _ _ _
   | exact ih1 _ _ _ _ _ _ _ _ _
   | exact ih2 _ _ _ _
   | exact LeO.none _
   | refine LeO.ite ?_ ?_
   | refine LeO.bind ?_ (fun _ => ?_)
theorem lane_stand.mono : ∀ a0 a1 a2 a3 a4 a5 k, LeO (lane_stand.f k a0 a1 a2 a3 a4 a5) (lane_stand.f (k + 1) a0 a1 a2 a3 a4 a5) := by
 intro a0 a1 a2 a3 a4 a5 k
 obtain ⟨ih0,ih1,ih2⟩:=lane_stand.mono_l k
 unfold lane_stand.f
 repeat' first
   | (with_reducible exact ih0 _ _ _ _ _ _ _ _ _)
   | (with_reducible exact ih1 _ _ _ _ _ _ _ _ _)
   | (with_reducible exact ih2 _ _ _ _)
   | (with_reducible exact LeO.refl _)
   | (with_reducible exact LeO.none _)
   | (with_reducible refine LeO.ite ?_ ?_)
   | (with_reducible refine LeO.bind ?_ (fun _ => ?_))
   | exact ih0 _ _ _ _ _ _ _ _ _
   | exact ih1 _ _ _ _ _ _ _ _ _
   | exact ih2 _ _ _ _
   | exact LeO.none _
   | refine LeO.ite ?_ ?_
   | refine LeO.bind ?_ (fun _ => ?_)
set_option maxHeartbeats 8000000 in
set_option maxRecDepth 100000 in
theorem lane_stand.calls (k : Nat) (a0_0 : Int) (a0_1 : Int) (A0_2 : Option Addr) (c0_2 : Nat) (l0_2 : List Int) (A0_3 : Option Addr) (c0_3 : Nat) (l0_3 : List Int) (A0_4 : Option Addr) (c0_4 : Nat) (l0_4 : List Int) (A0_5 : Option Addr) (c0_5 : Nat) (l0_5 : List (S50)) (r : Int) (w : World) (hr0_2 : Kd.C (Kd.int .i64) w A0_2 l0_2.length l0_2) (hc0_2 : l0_2.length ≤ c0_2) (hr0_3 : Kd.C (Kd.int .i64) w A0_3 l0_3.length l0_3) (hc0_3 : l0_3.length ≤ c0_3) (hr0_4 : Kd.C (Kd.int .i64) w A0_4 l0_4.length l0_4) (hc0_4 : l0_4.length ≤ c0_4) (hr0_5 : Kd.C k50 w A0_5 l0_5.length l0_5) (hc0_5 : l0_5.length ≤ c0_5) (h : lane_stand.f k a0_0 a0_1 l0_2 l0_3 l0_4 l0_5 = some r) :
  Calls Try.prog 43 #[.agg #[.int .i64 a0_0,.int .i64 a0_1,.slice A0_2 l0_2.length c0_2,.slice A0_3 l0_3.length c0_3,.slice A0_4 l0_4.length c0_4,.slice A0_5 l0_5.length c0_5]] w fun e w' => e = .returned (.int .i64 r) ∧ Below w.heap.size w w':=by
 have hu33:=Try.underlying33
 have hu50:=Try.underlying50
 have hu24:=Try.underlying24
 have hu73:=Try.underlying73
 have HR0_2:=Aside0.mk hr0_2
 have HC0_2:=Aside0.mk hc0_2
 clear hr0_2 hc0_2
 have HR0_3:=Aside0.mk hr0_3
 have HC0_3:=Aside0.mk hc0_3
 clear hr0_3 hc0_3
 have HR0_4:=Aside0.mk hr0_4
 have HC0_4:=Aside0.mk hc0_4
 clear hr0_4 hc0_4
 have HR0_5:=Aside0.mk hr0_5
 have HC0_5:=Aside0.mk hc0_5
 clear hr0_5 hc0_5
 have HB:=Aside0.mk (Below.refl w.heap.size w)
 have H : (lane_stand.l0 k l0_5 (l0_5.length : Int) 0 a0_0 a0_1 l0_2 l0_3 l0_4 l0_5) = some r:=h
 clear h
 have H':=Aside0.mk H
 clear H
 go_enter Try.func43,Try.ntmps43
 go_wp2_with (first|((with_reducible refine gate_dst (N:=1) rfl ?_);refine box_ev (N:=1) (cs:=#[.int .i64 a0_0,.int .i64 a0_1,.slice A0_2 l0_2.length c0_2,.slice A0_3 l0_3.length c0_3,.slice A0_4 l0_4.length c0_4,.slice A0_5 l0_5.length c0_5]) (t:=33) ?_;intro gb254 hg w2 hbox hb;have BK254:=Aside0.mk (hbox);have GW254 : Aside0 (w.heap.size ≤ gb254):=gsz hg;have GE254:=GW254;replace HB:=hbs hb;clear hb hbox hg;obtain ⟨_,_,_,_,_,_,_,_,_,_,_,_⟩:=cells6 BK254.out))
 go_loopg [16] k (fun kq v16 w' => ∃ (x16_1 : Int),v16 = .int .i64 x16_1 ∧ Aside0 (lane_stand.l0 kq l0_5 (l0_5.length : Int) x16_1 a0_0 a0_1 l0_2 l0_3 l0_4 l0_5 = some r) ∧ Aside0 (kq ≤ k) ∧ Aside0 (w'.heap[gb254]? = some (.cells #[.int .i64 a0_0,.int .i64 a0_1,(.slice A0_2 l0_2.length c0_2),(.slice A0_3 l0_3.length c0_3),(.slice A0_4 l0_4.length c0_4),(.slice A0_5 l0_5.length c0_5)] 33 (0,0))) ∧ Aside0 (Below w.heap.size w w'))
 case atStart => exact ⟨(0),(by first|rfl|(simp;done)|(simp [*];done)),H',⟨Nat.le_refl _⟩,⟨blk_up BK254.out⟩,⟨hb_⟩⟩
 case round =>
  clear H'
  obtain ⟨x16_1,rfl,HA,HK1,BK254,HB⟩:=hrel
  cases gk with
  | zero => exact absurd HA.out (by simp [lane_stand.l0])
  | succ k1 =>
   have H:=HA.out
   clear HA
   simp only [lane_stand.l0] at H
   by_cases c4 : x16_1 < (l0_5.length : Int)
   ·rw [if_pos c4] at H
    have c4b0 : decide (x16_1 < (l0_5.length : Int)) = true:=decide_eq_true c4
    clear c4
    replace H:=ifp_ H;obtain ⟨c5,H⟩:=H
    have c5b0 : decide (0 ≤ x16_1) = true:=decide_eq_true c5
    clear c5
    replace H:=ifp_ H;obtain ⟨c6,H⟩:=H
    have c6b0 : decide (x16_1 < (l0_5.length : Int)) = true:=decide_eq_true c6
    clear c6
    by_cases c7 : ((rd_T50 l0_5 x16_1).f0) = (-1)
    ·rw [if_pos c7] at H
     have c7b0:=bqt c7
     have c7b1:=bnf c7
     clear c7
     have H':=Aside0.mk H
     clear H
     have p255 : 0 ≤ (x16_1 : Int):=of_decide_eq_true (by first|(with_reducible assumption)|assumption)
     have q255 : x16_1 < (l0_5.length : Int):=of_decide_eq_true (by first|(with_reducible assumption)|assumption)
     obtain ⟨ad255,e255,hx255_0,hx255_1,hx255_2,hx255_3,hx255_4⟩:=at_T50 HR0_5.out x16_1 p255 q255
     cases e255
     replace hx255_0:=(HB.out.cell (World.block_lt_of_cell? w _ hx255_0)).trans hx255_0
     replace hx255_1:=(HB.out.cell (World.block_lt_of_cell? w _ hx255_1)).trans hx255_1
     replace hx255_2:=(HB.out.cell (World.block_lt_of_cell? w _ hx255_2)).trans hx255_2
     replace hx255_3:=(HB.out.cell (World.block_lt_of_cell? w _ hx255_3)).trans hx255_3
     replace hx255_4:=(HB.out.cell (World.block_lt_of_cell? w _ hx255_4)).trans hx255_4
     replace p255:=eq_true p255
     replace q255:=eq_true q255
     go_wp2_with (first|((with_reducible refine gate_dst (N:=4) rfl ?_);refine box_ev (N:=4) (cs:=#[.int .i64 0,.int .i64 0,.int .i64 0,.int .i64 0,.int .i64 0]) (t:=50) ?_;intro gb256 hg w8 hbox hb;have BK256:=Aside0.mk (hbox);have GW256 : Aside0 (w.heap.size ≤ gb256):=gsz hg;have GE256:=GW256;have NB254_256:=nbl BK254 hg;have NB256_254:=nbr BK254 hg;replace BK254:=bkb BK254 hb;replace HB:=hbs hb;clear hb hbox hg;have hnb9:=NB256_254.out;have hnc9:=NB254_256.out;obtain ⟨_,_,_,_,_,_,_,_,_,_⟩:=cells5 BK256.out))
     go_roundg k1
     case measure => have:=HK1.out;omega
     case rel => exact ⟨(wrap64 (x16_1 + 1)),(by first|rfl|(simp;done)|(simp [*];done)),H',⟨by have:=HK1.out;omega⟩,⟨by (with_reducible repeat (first|refine blk_drewN ?_ _|refine blk_drew ?_|refine blk_alloc ?_ _));refine blk_far ?_ NB254_256.out _;(with_reducible repeat (first|refine blk_drewN ?_ _|refine blk_drew ?_|refine blk_alloc ?_ _));refine blk_far ?_ NB254_256.out _;(with_reducible repeat (first|refine blk_drewN ?_ _|refine blk_drew ?_|refine blk_alloc ?_ _));refine blk_far ?_ NB254_256.out _;(with_reducible repeat (first|refine blk_drewN ?_ _|refine blk_drew ?_|refine blk_alloc ?_ _));refine blk_far ?_ NB254_256.out _;(with_reducible repeat (first|refine blk_drewN ?_ _|refine blk_drew ?_|refine blk_alloc ?_ _));refine blk_far ?_ NB254_256.out _;(with_reducible repeat (first|refine blk_drewN ?_ _|refine blk_drew ?_|refine blk_alloc ?_ _));exact BK254.out⟩,⟨hb_⟩⟩
    rw [if_neg c7] at H
    have c7b0:=bqf c7
    have c7b1:=bnt c7
    replace H:=Option.bind_eq_some_iff.mp H
    obtain ⟨t257,A110,H⟩:=H
    replace H : (if t257 = true then (lane_stand.l0 k1 l0_5 (l0_5.length : Int) (wrap64 (x16_1 + 1)) a0_0 a0_1 l0_2 l0_3 l0_4 l0_5) else (some 2)) = some r:=H
    have A11:=Aside0.mk A110
    clear A110
    by_cases c12 : t257 = true
    ·subst c12
     have H1 : (lane_stand.l0 k1 l0_5 (l0_5.length : Int) (wrap64 (x16_1 + 1)) a0_0 a0_1 l0_2 l0_3 l0_4 l0_5) = some r:=by rw [if_pos rfl] at H;exact H
     clear H
     have H:=H1
     clear H1
     have H':=Aside0.mk H
     clear H
     have p255 : 0 ≤ (x16_1 : Int):=of_decide_eq_true (by first|(with_reducible assumption)|assumption)
     have q255 : x16_1 < (l0_5.length : Int):=of_decide_eq_true (by first|(with_reducible assumption)|assumption)
     obtain ⟨ad255,e255,hx255_0,hx255_1,hx255_2,hx255_3,hx255_4⟩:=at_T50 HR0_5.out x16_1 p255 q255
     cases e255
     replace hx255_0:=(HB.out.cell (World.block_lt_of_cell? w _ hx255_0)).trans hx255_0
     replace hx255_1:=(HB.out.cell (World.block_lt_of_cell? w _ hx255_1)).trans hx255_1
     replace hx255_2:=(HB.out.cell (World.block_lt_of_cell? w _ hx255_2)).trans hx255_2
     replace hx255_3:=(HB.out.cell (World.block_lt_of_cell? w _ hx255_3)).trans hx255_3
     replace hx255_4:=(HB.out.cell (World.block_lt_of_cell? w _ hx255_4)).trans hx255_4
     replace p255:=eq_true p255
     replace q255:=eq_true q255
     go_wp2_with (first|((with_reducible refine gate_dst (N:=4) rfl ?_);refine box_ev (N:=4) (cs:=#[.int .i64 0,.int .i64 0,.int .i64 0,.int .i64 0,.int .i64 0]) (t:=50) ?_;intro gb256 hg w13 hbox hb;have BK256:=Aside0.mk (hbox);have GW256 : Aside0 (w.heap.size ≤ gb256):=gsz hg;have GE256:=GW256;have NB254_256:=nbl BK254 hg;have NB256_254:=nbr BK254 hg;replace BK254:=bkb BK254 hb;replace HB:=hbs hb;clear hb hbox hg;have hnb14:=NB256_254.out;have hnc14:=NB254_256.out;obtain ⟨_,_,_,_,_,_,_,_,_,_⟩:=cells5 BK256.out;obtain ⟨_,_,_,_,_,_,_,_,_,_,_,_⟩:=cells6 BK254.out)|(go_at_call 37;(with_reducible refine (lane_within.calls ((rd_T50 l0_5 x16_1).f0) (wrap64 ((wrap64 (a0_0 * a0_1)) - 1)) true _ A11.out).mono ?_);rintro e w' ⟨rfl,⟨nd,rfl⟩⟩))
     go_roundg k1
     case measure => have:=HK1.out;omega
     case rel => exact ⟨(wrap64 (x16_1 + 1)),(by first|rfl|(simp;done)|(simp [*];done)),H',⟨by have:=HK1.out;omega⟩,⟨by (with_reducible repeat (first|refine blk_drewN ?_ _|refine blk_drew ?_|refine blk_alloc ?_ _));refine blk_far ?_ NB254_256.out _;(with_reducible repeat (first|refine blk_drewN ?_ _|refine blk_drew ?_|refine blk_alloc ?_ _));refine blk_far ?_ NB254_256.out _;(with_reducible repeat (first|refine blk_drewN ?_ _|refine blk_drew ?_|refine blk_alloc ?_ _));refine blk_far ?_ NB254_256.out _;(with_reducible repeat (first|refine blk_drewN ?_ _|refine blk_drew ?_|refine blk_alloc ?_ _));refine blk_far ?_ NB254_256.out _;(with_reducible repeat (first|refine blk_drewN ?_ _|refine blk_drew ?_|refine blk_alloc ?_ _));refine blk_far ?_ NB254_256.out _;(with_reducible repeat (first|refine blk_drewN ?_ _|refine blk_drew ?_|refine blk_alloc ?_ _));exact BK254.out⟩,⟨hb_⟩⟩
    ·replace c12:=Bool.eq_false_iff.mpr c12
     subst c12
     have H1 : (some 2) = some r:=by rw [if_neg (show ¬ (false = true) by decide)] at H;exact H
     clear H
     have H:=H1
     clear H1
     obtain rfl:=Option.some.inj H
     have p255 : 0 ≤ (x16_1 : Int):=of_decide_eq_true (by first|(with_reducible assumption)|assumption)
     have q255 : x16_1 < (l0_5.length : Int):=of_decide_eq_true (by first|(with_reducible assumption)|assumption)
     obtain ⟨ad255,e255,hx255_0,hx255_1,hx255_2,hx255_3,hx255_4⟩:=at_T50 HR0_5.out x16_1 p255 q255
     cases e255
     replace hx255_0:=(HB.out.cell (World.block_lt_of_cell? w _ hx255_0)).trans hx255_0
     replace hx255_1:=(HB.out.cell (World.block_lt_of_cell? w _ hx255_1)).trans hx255_1
     replace hx255_2:=(HB.out.cell (World.block_lt_of_cell? w _ hx255_2)).trans hx255_2
     replace hx255_3:=(HB.out.cell (World.block_lt_of_cell? w _ hx255_3)).trans hx255_3
     replace hx255_4:=(HB.out.cell (World.block_lt_of_cell? w _ hx255_4)).trans hx255_4
     replace p255:=eq_true p255
     replace q255:=eq_true q255
     go_wp2_with (first|((with_reducible refine gate_dst (N:=4) rfl ?_);refine box_ev (N:=4) (cs:=#[.int .i64 0,.int .i64 0,.int .i64 0,.int .i64 0,.int .i64 0]) (t:=50) ?_;intro gb256 hg w17 hbox hb;have BK256:=Aside0.mk (hbox);have GW256 : Aside0 (w.heap.size ≤ gb256):=gsz hg;have GE256:=GW256;have NB254_256:=nbl BK254 hg;have NB256_254:=nbr BK254 hg;replace BK254:=bkb BK254 hb;replace HB:=hbs hb;clear hb hbox hg;have hnb18:=NB256_254.out;have hnc18:=NB254_256.out;obtain ⟨_,_,_,_,_,_,_,_,_,_⟩:=cells5 BK256.out;obtain ⟨_,_,_,_,_,_,_,_,_,_,_,_⟩:=cells6 BK254.out)|(go_at_call 37;(with_reducible refine (lane_within.calls ((rd_T50 l0_5 x16_1).f0) (wrap64 ((wrap64 (a0_0 * a0_1)) - 1)) false _ A11.out).mono ?_);rintro e w' ⟨rfl,⟨nd,rfl⟩⟩))
     go_ret
     exact ⟨er_,hb_⟩
   rw [if_neg c4] at H
   have c4b0 : decide (x16_1 < (l0_5.length : Int)) = false:=decide_eq_false c4
   clear c4
   have H':=Aside0.mk H
   clear H
   obtain ⟨_,_,_,_,_,_,_,_,_,_,_,_⟩:=cells6 BK254.out
   go_wp2
   go_loopg [41] k1 (fun kq v41 w' => ∃ (x41_2 : Int),v41 = .int .i64 x41_2 ∧ Aside0 (lane_stand.l1 kq l0_5 (l0_5.length : Int) x41_2 a0_0 a0_1 l0_2 l0_3 l0_4 l0_5 = some r) ∧ Aside0 (kq ≤ k1) ∧ Aside0 (w'.heap[gb254]? = some (.cells #[.int .i64 a0_0,.int .i64 a0_1,(.slice A0_2 l0_2.length c0_2),(.slice A0_3 l0_3.length c0_3),(.slice A0_4 l0_4.length c0_4),(.slice A0_5 l0_5.length c0_5)] 33 (0,0))) ∧ Aside0 (Below w.heap.size w w'))
   case atStart => exact ⟨(0),(by first|rfl|(simp;done)|(simp [*];done)),H',⟨Nat.le_refl _⟩,⟨blk_up BK254.out⟩,⟨hb_⟩⟩
   case round =>
    clear H'
    obtain ⟨x41_2,rfl,HA,HK2,BK254,HB⟩:=hrel
    cases gk with
    | zero => exact absurd HA.out (by simp [lane_stand.l1])
    | succ k2 =>
     have H:=HA.out
     clear HA
     simp only [lane_stand.l1] at H
     by_cases c22 : x41_2 < (l0_5.length : Int)
     ·rw [if_pos c22] at H
      have c22b0 : decide (x41_2 < (l0_5.length : Int)) = true:=decide_eq_true c22
      clear c22
      replace H:=ifp_ H;obtain ⟨c23,H⟩:=H
      have c23b0 : decide (0 ≤ x41_2) = true:=decide_eq_true c23
      clear c23
      replace H:=ifp_ H;obtain ⟨c24,H⟩:=H
      have c24b0 : decide (x41_2 < (l0_5.length : Int)) = true:=decide_eq_true c24
      clear c24
      by_cases c25 : ((rd_T50 l0_5 x41_2).f0) = (-1)
      ·rw [if_pos c25] at H
       have c25b0:=bqt c25
       have c25b1:=bnf c25
       clear c25
       have H':=Aside0.mk H
       clear H
       have p258 : 0 ≤ (x41_2 : Int):=of_decide_eq_true (by first|(with_reducible assumption)|assumption)
       have q258 : x41_2 < (l0_5.length : Int):=of_decide_eq_true (by first|(with_reducible assumption)|assumption)
       obtain ⟨ad258,e258,hx258_0,hx258_1,hx258_2,hx258_3,hx258_4⟩:=at_T50 HR0_5.out x41_2 p258 q258
       cases e258
       replace hx258_0:=(HB.out.cell (World.block_lt_of_cell? w _ hx258_0)).trans hx258_0
       replace hx258_1:=(HB.out.cell (World.block_lt_of_cell? w _ hx258_1)).trans hx258_1
       replace hx258_2:=(HB.out.cell (World.block_lt_of_cell? w _ hx258_2)).trans hx258_2
       replace hx258_3:=(HB.out.cell (World.block_lt_of_cell? w _ hx258_3)).trans hx258_3
       replace hx258_4:=(HB.out.cell (World.block_lt_of_cell? w _ hx258_4)).trans hx258_4
       replace p258:=eq_true p258
       replace q258:=eq_true q258
       go_wp2_with (first|((with_reducible refine gate_dst (N:=6) rfl ?_);refine box_ev (N:=6) (cs:=#[.int .i64 0,.int .i64 0,.int .i64 0,.int .i64 0,.int .i64 0]) (t:=50) ?_;intro gb259 hg w26 hbox hb;have BK259:=Aside0.mk (hbox);have GW259 : Aside0 (w.heap.size ≤ gb259):=gsz hg;have GE259:=GW259;have NB254_259:=nbl BK254 hg;have NB259_254:=nbr BK254 hg;replace BK254:=bkb BK254 hb;replace HB:=hbs hb;clear hb hbox hg;have hnb27:=NB259_254.out;have hnc27:=NB254_259.out;obtain ⟨_,_,_,_,_,_,_,_,_,_⟩:=cells5 BK259.out))
       go_roundg k2
       case measure => have:=HK1.out;have:=HK2.out;omega
       case rel => exact ⟨(wrap64 (x41_2 + 1)),(by first|rfl|(simp;done)|(simp [*];done)),H',⟨by have:=HK1.out;have:=HK2.out;omega⟩,⟨by (with_reducible repeat (first|refine blk_drewN ?_ _|refine blk_drew ?_|refine blk_alloc ?_ _));refine blk_far ?_ NB254_259.out _;(with_reducible repeat (first|refine blk_drewN ?_ _|refine blk_drew ?_|refine blk_alloc ?_ _));refine blk_far ?_ NB254_259.out _;(with_reducible repeat (first|refine blk_drewN ?_ _|refine blk_drew ?_|refine blk_alloc ?_ _));refine blk_far ?_ NB254_259.out _;(with_reducible repeat (first|refine blk_drewN ?_ _|refine blk_drew ?_|refine blk_alloc ?_ _));refine blk_far ?_ NB254_259.out _;(with_reducible repeat (first|refine blk_drewN ?_ _|refine blk_drew ?_|refine blk_alloc ?_ _));refine blk_far ?_ NB254_259.out _;(with_reducible repeat (first|refine blk_drewN ?_ _|refine blk_drew ?_|refine blk_alloc ?_ _));exact BK254.out⟩,⟨hb_⟩⟩
      rw [if_neg c25] at H
      have c25b0:=bqf c25
      have c25b1:=bnt c25
      replace H:=Option.bind_eq_some_iff.mp H
      obtain ⟨⟨t260,t261⟩,A290,H⟩:=H
      replace H : (if t261 = true then (lane_stand.l1 k2 l0_5 (l0_5.length : Int) (wrap64 (x41_2 + 1)) a0_0 a0_1 l0_2 l0_3 l0_4 l0_5) else (some 8)) = some r:=H
      have A29:=Aside0.mk A290
      clear A290
      by_cases c30 : t261 = true
      ·subst c30
       have H1 : (lane_stand.l1 k2 l0_5 (l0_5.length : Int) (wrap64 (x41_2 + 1)) a0_0 a0_1 l0_2 l0_3 l0_4 l0_5) = some r:=by rw [if_pos rfl] at H;exact H
       clear H
       have H:=H1
       clear H1
       have H':=Aside0.mk H
       clear H
       have p258 : 0 ≤ (x41_2 : Int):=of_decide_eq_true (by first|(with_reducible assumption)|assumption)
       have q258 : x41_2 < (l0_5.length : Int):=of_decide_eq_true (by first|(with_reducible assumption)|assumption)
       obtain ⟨ad258,e258,hx258_0,hx258_1,hx258_2,hx258_3,hx258_4⟩:=at_T50 HR0_5.out x41_2 p258 q258
       cases e258
       replace hx258_0:=(HB.out.cell (World.block_lt_of_cell? w _ hx258_0)).trans hx258_0
       replace hx258_1:=(HB.out.cell (World.block_lt_of_cell? w _ hx258_1)).trans hx258_1
       replace hx258_2:=(HB.out.cell (World.block_lt_of_cell? w _ hx258_2)).trans hx258_2
       replace hx258_3:=(HB.out.cell (World.block_lt_of_cell? w _ hx258_3)).trans hx258_3
       replace hx258_4:=(HB.out.cell (World.block_lt_of_cell? w _ hx258_4)).trans hx258_4
       replace p258:=eq_true p258
       replace q258:=eq_true q258
       go_wp2_with (first|((with_reducible refine gate_dst (N:=6) rfl ?_);refine box_ev (N:=6) (cs:=#[.int .i64 0,.int .i64 0,.int .i64 0,.int .i64 0,.int .i64 0]) (t:=50) ?_;intro gb259 hg w31 hbox hb;have BK259:=Aside0.mk (hbox);have GW259 : Aside0 (w.heap.size ≤ gb259):=gsz hg;have GE259:=GW259;have NB254_259:=nbl BK254 hg;have NB259_254:=nbr BK254 hg;replace BK254:=bkb BK254 hb;replace HB:=hbs hb;clear hb hbox hg;have hnb32:=NB259_254.out;have hnc32:=NB254_259.out;obtain ⟨_,_,_,_,_,_,_,_,_,_⟩:=cells5 BK259.out;obtain ⟨_,_,_,_,_,_,_,_,_,_,_,_⟩:=cells6 BK254.out)|((with_reducible refine gate_callee (f:=68) rfl ?_);refine goesL_ (some 55) rfl rfl Try.func68 (by kernel_rfl) rfl #[.agg #[.int .i64 a0_0,.int .i64 a0_1,.slice A0_2 l0_2.length c0_2,.slice A0_3 l0_3.length c0_3],.int .i64 ((rd_T50 l0_5 x41_2).f0),.int .i64 ((rd_T50 l0_5 x41_2).f2)] rfl ga_ ?_;(with_reducible refine (lane_joined.calls a0_0 a0_1 _ _ l0_2 _ _ l0_3 ((rd_T50 l0_5 x41_2).f0) ((rd_T50 l0_5 x41_2).f2) t260 true _ ?_ ?_ ?_ ?_ A29.out).mono ?_);exact Kd.C_below HR0_2.out (hb_);exact HC0_2.out;exact Kd.C_below HR0_3.out (hb_);exact HC0_3.out;rintro e w35 ⟨rfl,hb⟩;refine ⟨_,rfl,?_⟩;replace BK254:=Aside0.mk (blk_below (g:=gb254) (o:=.cells #[.int .i64 a0_0,.int .i64 a0_1,.slice A0_2 l0_2.length c0_2,.slice A0_3 l0_3.length c0_3,.slice A0_4 l0_4.length c0_4,.slice (some ad258) l0_5.length c0_5] 33 (0,0)) (by (with_reducible repeat (first|refine blk_drewN ?_ _|refine blk_drew ?_|refine blk_alloc ?_ _));refine blk_far ?_ NB254_259.out _;(with_reducible repeat (first|refine blk_drewN ?_ _|refine blk_drew ?_|refine blk_alloc ?_ _));refine blk_far ?_ NB254_259.out _;(with_reducible repeat (first|refine blk_drewN ?_ _|refine blk_drew ?_|refine blk_alloc ?_ _));refine blk_far ?_ NB254_259.out _;(with_reducible repeat (first|refine blk_drewN ?_ _|refine blk_drew ?_|refine blk_alloc ?_ _));refine blk_far ?_ NB254_259.out _;(with_reducible repeat (first|refine blk_drewN ?_ _|refine blk_drew ?_|refine blk_alloc ?_ _));refine blk_far ?_ NB254_259.out _;(with_reducible repeat (first|refine blk_drewN ?_ _|refine blk_drew ?_|refine blk_alloc ?_ _));exact BK254.out) hb);replace BK259:=Aside0.mk (blk_below (g:=gb259) (o:=.cells #[.int .i64 ((rd_T50 l0_5 x41_2).f0),.int .i64 ((rd_T50 l0_5 x41_2).f1),.int .i64 ((rd_T50 l0_5 x41_2).f2),.int .i64 ((rd_T50 l0_5 x41_2).f3),.int .i64 ((rd_T50 l0_5 x41_2).f4)] 50 (0,0)) (by (with_reducible repeat (first|refine blk_drewN ?_ _|refine blk_drew ?_|refine blk_alloc ?_ _));exact blk_puts5 (blk_up BK259.out)) hb);replace HB:=hbs hb))
       go_roundg k2
       case measure => have:=HK1.out;have:=HK2.out;omega
       case rel => exact ⟨(wrap64 (x41_2 + 1)),(by first|rfl|(simp;done)|(simp [*];done)),H',⟨by have:=HK1.out;have:=HK2.out;omega⟩,⟨blk_up BK254.out⟩,⟨hb_⟩⟩
      ·replace c30:=Bool.eq_false_iff.mpr c30
       subst c30
       have H1 : (some 8) = some r:=by rw [if_neg (show ¬ (false = true) by decide)] at H;exact H
       clear H
       have H:=H1
       clear H1
       obtain rfl:=Option.some.inj H
       have p258 : 0 ≤ (x41_2 : Int):=of_decide_eq_true (by first|(with_reducible assumption)|assumption)
       have q258 : x41_2 < (l0_5.length : Int):=of_decide_eq_true (by first|(with_reducible assumption)|assumption)
       obtain ⟨ad258,e258,hx258_0,hx258_1,hx258_2,hx258_3,hx258_4⟩:=at_T50 HR0_5.out x41_2 p258 q258
       cases e258
       replace hx258_0:=(HB.out.cell (World.block_lt_of_cell? w _ hx258_0)).trans hx258_0
       replace hx258_1:=(HB.out.cell (World.block_lt_of_cell? w _ hx258_1)).trans hx258_1
       replace hx258_2:=(HB.out.cell (World.block_lt_of_cell? w _ hx258_2)).trans hx258_2
       replace hx258_3:=(HB.out.cell (World.block_lt_of_cell? w _ hx258_3)).trans hx258_3
       replace hx258_4:=(HB.out.cell (World.block_lt_of_cell? w _ hx258_4)).trans hx258_4
       replace p258:=eq_true p258
       replace q258:=eq_true q258
       go_wp2_with (first|((with_reducible refine gate_dst (N:=6) rfl ?_);refine box_ev (N:=6) (cs:=#[.int .i64 0,.int .i64 0,.int .i64 0,.int .i64 0,.int .i64 0]) (t:=50) ?_;intro gb259 hg w36 hbox hb;have BK259:=Aside0.mk (hbox);have GW259 : Aside0 (w.heap.size ≤ gb259):=gsz hg;have GE259:=GW259;have NB254_259:=nbl BK254 hg;have NB259_254:=nbr BK254 hg;replace BK254:=bkb BK254 hb;replace HB:=hbs hb;clear hb hbox hg;have hnb37:=NB259_254.out;have hnc37:=NB254_259.out;obtain ⟨_,_,_,_,_,_,_,_,_,_⟩:=cells5 BK259.out;obtain ⟨_,_,_,_,_,_,_,_,_,_,_,_⟩:=cells6 BK254.out)|((with_reducible refine gate_callee (f:=68) rfl ?_);refine goesL_ (some 55) rfl rfl Try.func68 (by kernel_rfl) rfl #[.agg #[.int .i64 a0_0,.int .i64 a0_1,.slice A0_2 l0_2.length c0_2,.slice A0_3 l0_3.length c0_3],.int .i64 ((rd_T50 l0_5 x41_2).f0),.int .i64 ((rd_T50 l0_5 x41_2).f2)] rfl ga_ ?_;(with_reducible refine (lane_joined.calls a0_0 a0_1 _ _ l0_2 _ _ l0_3 ((rd_T50 l0_5 x41_2).f0) ((rd_T50 l0_5 x41_2).f2) t260 false _ ?_ ?_ ?_ ?_ A29.out).mono ?_);exact Kd.C_below HR0_2.out (hb_);exact HC0_2.out;exact Kd.C_below HR0_3.out (hb_);exact HC0_3.out;rintro e w40 ⟨rfl,hb⟩;refine ⟨_,rfl,?_⟩;replace BK254:=Aside0.mk (blk_below (g:=gb254) (o:=.cells #[.int .i64 a0_0,.int .i64 a0_1,.slice A0_2 l0_2.length c0_2,.slice A0_3 l0_3.length c0_3,.slice A0_4 l0_4.length c0_4,.slice (some ad258) l0_5.length c0_5] 33 (0,0)) (by (with_reducible repeat (first|refine blk_drewN ?_ _|refine blk_drew ?_|refine blk_alloc ?_ _));refine blk_far ?_ NB254_259.out _;(with_reducible repeat (first|refine blk_drewN ?_ _|refine blk_drew ?_|refine blk_alloc ?_ _));refine blk_far ?_ NB254_259.out _;(with_reducible repeat (first|refine blk_drewN ?_ _|refine blk_drew ?_|refine blk_alloc ?_ _));refine blk_far ?_ NB254_259.out _;(with_reducible repeat (first|refine blk_drewN ?_ _|refine blk_drew ?_|refine blk_alloc ?_ _));refine blk_far ?_ NB254_259.out _;(with_reducible repeat (first|refine blk_drewN ?_ _|refine blk_drew ?_|refine blk_alloc ?_ _));refine blk_far ?_ NB254_259.out _;(with_reducible repeat (first|refine blk_drewN ?_ _|refine blk_drew ?_|refine blk_alloc ?_ _));exact BK254.out) hb);replace BK259:=Aside0.mk (blk_below (g:=gb259) (o:=.cells #[.int .i64 ((rd_T50 l0_5 x41_2).f0),.int .i64 ((rd_T50 l0_5 x41_2).f1),.int .i64 ((rd_T50 l0_5 x41_2).f2),.int .i64 ((rd_T50 l0_5 x41_2).f3),.int .i64 ((rd_T50 l0_5 x41_2).f4)] 50 (0,0)) (by (with_reducible repeat (first|refine blk_drewN ?_ _|refine blk_drew ?_|refine blk_alloc ?_ _));exact blk_puts5 (blk_up BK259.out)) hb);replace HB:=hbs hb))
       go_ret
       exact ⟨er_,hb_⟩
     rw [if_neg c22] at H
     have c22b0 : decide (x41_2 < (l0_5.length : Int)) = false:=decide_eq_false c22
     clear c22
     have H':=Aside0.mk H
     clear H
     go_wp2_with (first|((with_reducible refine gate_dst (N:=61) rfl ?_);refine mq_make rfl (t:=91) rfl ?_;intro gb262 hg w41 hbox hb;have BK262:=Aside0.mk (hbox);have GW262 : Aside0 (w.heap.size ≤ gb262):=gsz hg;have GE262:=GW262;have NB254_262:=nbl BK254 hg;have NB262_254:=nbr BK254 hg;replace BK254:=bkb BK254 hb;replace HB:=hbs hb;clear hb hbox hg;have hnb42:=NB254_262.out;have hnc42:=NB262_254.out;obtain ⟨_,_,_,_,_,_,_,_,_,_,_,_⟩:=cells6 BK254.out))
     go_loopg [65] k2 (fun kq v65 w' => ∃ (x65_3 : Int) (x263000_3 : List (Int × Int)),v65 = .int .i64 x65_3 ∧ Aside0 (lane_stand.l2 kq l0_5 (l0_5.length : Int) x65_3 x263000_3 = some r) ∧ Aside0 (kq ≤ k2) ∧ Aside0 (w'.heap[gb254]? = some (.cells #[.int .i64 a0_0,.int .i64 a0_1,(.slice A0_2 l0_2.length c0_2),(.slice A0_3 l0_3.length c0_3),(.slice A0_4 l0_4.length c0_4),(.slice A0_5 l0_5.length c0_5)] 33 (0,0))) ∧ Aside0 (w'.heap[gb262]? = some (mqO x263000_3)) ∧ Aside0 (Below w.heap.size w w'))
     case atStart => exact ⟨(0),(([] : List (Int × Int))),(by first|rfl|(simp;done)|(simp [*];done)),H',⟨Nat.le_refl _⟩,⟨blk_up BK254.out⟩,⟨blk_up BK262.out⟩,⟨hb_⟩⟩
     case round =>
      clear H'
      obtain ⟨x65_3,x263000_3,rfl,HA,HK3,BK254,BK262,HB⟩:=hrel
      cases gk with
      | zero => exact absurd HA.out (by simp [lane_stand.l2])
      | succ k3 =>
       have H:=HA.out
       clear HA
       simp only [lane_stand.l2] at H
       by_cases c44 : x65_3 < (l0_5.length : Int)
       rotate_left
       ·rw [if_neg c44] at H
        have c44b0 : decide (x65_3 < (l0_5.length : Int)) = false:=decide_eq_false c44
        clear c44
        obtain rfl:=Option.some.inj H
        go_wp2
        go_ret
        exact ⟨er_,hb_⟩
       rw [if_pos c44] at H
       have c44b0 : decide (x65_3 < (l0_5.length : Int)) = true:=decide_eq_true c44
       clear c44
       replace H:=ifp_ H;obtain ⟨c45,H⟩:=H
       have c45b0 : decide (0 ≤ x65_3) = true:=decide_eq_true c45
       clear c45
       replace H:=ifp_ H;obtain ⟨c46,H⟩:=H
       have c46b0 : decide (x65_3 < (l0_5.length : Int)) = true:=decide_eq_true c46
       clear c46
       by_cases c47 : ((rd_T50 l0_5 x65_3).f0) = (-1)
       ·rw [if_pos c47] at H
        have c47b0:=bqt c47
        have c47b1:=bnf c47
        clear c47
        have H':=Aside0.mk H
        clear H
        have p263 : 0 ≤ (x65_3 : Int):=of_decide_eq_true (by first|(with_reducible assumption)|assumption)
        have q263 : x65_3 < (l0_5.length : Int):=of_decide_eq_true (by first|(with_reducible assumption)|assumption)
        obtain ⟨ad263,e263,hx263_0,hx263_1,hx263_2,hx263_3,hx263_4⟩:=at_T50 HR0_5.out x65_3 p263 q263
        cases e263
        replace hx263_0:=(HB.out.cell (World.block_lt_of_cell? w _ hx263_0)).trans hx263_0
        replace hx263_1:=(HB.out.cell (World.block_lt_of_cell? w _ hx263_1)).trans hx263_1
        replace hx263_2:=(HB.out.cell (World.block_lt_of_cell? w _ hx263_2)).trans hx263_2
        replace hx263_3:=(HB.out.cell (World.block_lt_of_cell? w _ hx263_3)).trans hx263_3
        replace hx263_4:=(HB.out.cell (World.block_lt_of_cell? w _ hx263_4)).trans hx263_4
        replace p263:=eq_true p263
        replace q263:=eq_true q263
        go_wp2_with (first|((with_reducible refine gate_dst (N:=11) rfl ?_);refine box_ev (N:=11) (cs:=#[.int .i64 0,.int .i64 0,.int .i64 0,.int .i64 0,.int .i64 0]) (t:=50) ?_;intro gb264 hg w48 hbox hb;have BK264:=Aside0.mk (hbox);have GW264 : Aside0 (w.heap.size ≤ gb264):=gsz hg;have GE264:=GW264;have NB254_264:=nbl BK254 hg;have NB264_254:=nbr BK254 hg;have NB262_264:=nbl BK262 hg;have NB264_262:=nbr BK262 hg;replace BK254:=bkb BK254 hb;replace BK262:=bkb BK262 hb;replace HB:=hbs hb;clear hb hbox hg;have hnb49:=NB264_254.out;have hnc49:=NB254_264.out;have hnb50:=NB264_262.out;have hnc50:=NB262_264.out;obtain ⟨_,_,_,_,_,_,_,_,_,_⟩:=cells5 BK264.out)|((with_reducible refine gate_dst (N:=12) rfl ?_);refine box_ev (N:=12) (cs:=#[.int .i64 0,.int .i64 0]) (t:=73) ?_;intro gb265 hg w52 hbox hb;have BK265:=Aside0.mk (hbox);have GW265 : Aside0 (w.heap.size ≤ gb265):=gsz hg;have GE265:=GW265;have NB254_265:=Aside0.mk ((by rw [hg];exact Nat.ne_of_lt (blk_lt (g:=gb254) (o:=.cells #[.int .i64 a0_0,.int .i64 a0_1,.slice A0_2 l0_2.length c0_2,.slice A0_3 l0_3.length c0_3,.slice A0_4 l0_4.length c0_4,.slice (some ad263) l0_5.length c0_5] 33 (0,0)) (by (with_reducible repeat (first|refine blk_drewN ?_ _|refine blk_drew ?_|refine blk_alloc ?_ _));refine blk_far ?_ NB254_264.out _;(with_reducible repeat (first|refine blk_drewN ?_ _|refine blk_drew ?_|refine blk_alloc ?_ _));refine blk_far ?_ NB254_264.out _;(with_reducible repeat (first|refine blk_drewN ?_ _|refine blk_drew ?_|refine blk_alloc ?_ _));refine blk_far ?_ NB254_264.out _;(with_reducible repeat (first|refine blk_drewN ?_ _|refine blk_drew ?_|refine blk_alloc ?_ _));refine blk_far ?_ NB254_264.out _;(with_reducible repeat (first|refine blk_drewN ?_ _|refine blk_drew ?_|refine blk_alloc ?_ _));refine blk_far ?_ NB254_264.out _;(with_reducible repeat (first|refine blk_drewN ?_ _|refine blk_drew ?_|refine blk_alloc ?_ _));exact BK254.out)) : gb254 ≠ gb265));have NB265_254:=Aside0.mk ((by rw [hg];exact Nat.ne_of_gt (blk_lt (g:=gb254) (o:=.cells #[.int .i64 a0_0,.int .i64 a0_1,.slice A0_2 l0_2.length c0_2,.slice A0_3 l0_3.length c0_3,.slice A0_4 l0_4.length c0_4,.slice (some ad263) l0_5.length c0_5] 33 (0,0)) (by (with_reducible repeat (first|refine blk_drewN ?_ _|refine blk_drew ?_|refine blk_alloc ?_ _));refine blk_far ?_ NB254_264.out _;(with_reducible repeat (first|refine blk_drewN ?_ _|refine blk_drew ?_|refine blk_alloc ?_ _));refine blk_far ?_ NB254_264.out _;(with_reducible repeat (first|refine blk_drewN ?_ _|refine blk_drew ?_|refine blk_alloc ?_ _));refine blk_far ?_ NB254_264.out _;(with_reducible repeat (first|refine blk_drewN ?_ _|refine blk_drew ?_|refine blk_alloc ?_ _));refine blk_far ?_ NB254_264.out _;(with_reducible repeat (first|refine blk_drewN ?_ _|refine blk_drew ?_|refine blk_alloc ?_ _));refine blk_far ?_ NB254_264.out _;(with_reducible repeat (first|refine blk_drewN ?_ _|refine blk_drew ?_|refine blk_alloc ?_ _));exact BK254.out)) : gb265 ≠ gb254));have NB262_265:=Aside0.mk ((by rw [hg];exact Nat.ne_of_lt (blk_lt (g:=gb262) (o:=mqO x263000_3) (by (with_reducible repeat (first|refine blk_drewN ?_ _|refine blk_drew ?_|refine blk_alloc ?_ _));refine mq_far ?_ NB262_264.out _;(with_reducible repeat (first|refine blk_drewN ?_ _|refine blk_drew ?_|refine blk_alloc ?_ _));refine mq_far ?_ NB262_264.out _;(with_reducible repeat (first|refine blk_drewN ?_ _|refine blk_drew ?_|refine blk_alloc ?_ _));refine mq_far ?_ NB262_264.out _;(with_reducible repeat (first|refine blk_drewN ?_ _|refine blk_drew ?_|refine blk_alloc ?_ _));refine mq_far ?_ NB262_264.out _;(with_reducible repeat (first|refine blk_drewN ?_ _|refine blk_drew ?_|refine blk_alloc ?_ _));refine mq_far ?_ NB262_264.out _;(with_reducible repeat (first|refine blk_drewN ?_ _|refine blk_drew ?_|refine blk_alloc ?_ _));exact BK262.out)) : gb262 ≠ gb265));have NB265_262:=Aside0.mk ((by rw [hg];exact Nat.ne_of_gt (blk_lt (g:=gb262) (o:=mqO x263000_3) (by (with_reducible repeat (first|refine blk_drewN ?_ _|refine blk_drew ?_|refine blk_alloc ?_ _));refine mq_far ?_ NB262_264.out _;(with_reducible repeat (first|refine blk_drewN ?_ _|refine blk_drew ?_|refine blk_alloc ?_ _));refine mq_far ?_ NB262_264.out _;(with_reducible repeat (first|refine blk_drewN ?_ _|refine blk_drew ?_|refine blk_alloc ?_ _));refine mq_far ?_ NB262_264.out _;(with_reducible repeat (first|refine blk_drewN ?_ _|refine blk_drew ?_|refine blk_alloc ?_ _));refine mq_far ?_ NB262_264.out _;(with_reducible repeat (first|refine blk_drewN ?_ _|refine blk_drew ?_|refine blk_alloc ?_ _));refine mq_far ?_ NB262_264.out _;(with_reducible repeat (first|refine blk_drewN ?_ _|refine blk_drew ?_|refine blk_alloc ?_ _));exact BK262.out)) : gb265 ≠ gb262));have NB264_265:=Aside0.mk ((by rw [hg];exact Nat.ne_of_lt (blk_lt (g:=gb264) (o:=.cells #[.int .i64 ((rd_T50 l0_5 x65_3).f0),.int .i64 ((rd_T50 l0_5 x65_3).f1),.int .i64 ((rd_T50 l0_5 x65_3).f2),.int .i64 ((rd_T50 l0_5 x65_3).f3),.int .i64 ((rd_T50 l0_5 x65_3).f4)] 50 (0,0)) (by (with_reducible repeat (first|refine blk_drewN ?_ _|refine blk_drew ?_|refine blk_alloc ?_ _));exact blk_puts5 (blk_up BK264.out))) : gb264 ≠ gb265));have NB265_264:=Aside0.mk ((by rw [hg];exact Nat.ne_of_gt (blk_lt (g:=gb264) (o:=.cells #[.int .i64 ((rd_T50 l0_5 x65_3).f0),.int .i64 ((rd_T50 l0_5 x65_3).f1),.int .i64 ((rd_T50 l0_5 x65_3).f2),.int .i64 ((rd_T50 l0_5 x65_3).f3),.int .i64 ((rd_T50 l0_5 x65_3).f4)] 50 (0,0)) (by (with_reducible repeat (first|refine blk_drewN ?_ _|refine blk_drew ?_|refine blk_alloc ?_ _));exact blk_puts5 (blk_up BK264.out))) : gb265 ≠ gb264));replace BK254:=Aside0.mk (blk_below (g:=gb254) (o:=.cells #[.int .i64 a0_0,.int .i64 a0_1,.slice A0_2 l0_2.length c0_2,.slice A0_3 l0_3.length c0_3,.slice A0_4 l0_4.length c0_4,.slice (some ad263) l0_5.length c0_5] 33 (0,0)) (by (with_reducible repeat (first|refine blk_drewN ?_ _|refine blk_drew ?_|refine blk_alloc ?_ _));refine blk_far ?_ NB254_264.out _;(with_reducible repeat (first|refine blk_drewN ?_ _|refine blk_drew ?_|refine blk_alloc ?_ _));refine blk_far ?_ NB254_264.out _;(with_reducible repeat (first|refine blk_drewN ?_ _|refine blk_drew ?_|refine blk_alloc ?_ _));refine blk_far ?_ NB254_264.out _;(with_reducible repeat (first|refine blk_drewN ?_ _|refine blk_drew ?_|refine blk_alloc ?_ _));refine blk_far ?_ NB254_264.out _;(with_reducible repeat (first|refine blk_drewN ?_ _|refine blk_drew ?_|refine blk_alloc ?_ _));refine blk_far ?_ NB254_264.out _;(with_reducible repeat (first|refine blk_drewN ?_ _|refine blk_drew ?_|refine blk_alloc ?_ _));exact BK254.out) hb);replace BK262:=Aside0.mk (blk_below (g:=gb262) (o:=mqO x263000_3) (by (with_reducible repeat (first|refine blk_drewN ?_ _|refine blk_drew ?_|refine blk_alloc ?_ _));refine mq_far ?_ NB262_264.out _;(with_reducible repeat (first|refine blk_drewN ?_ _|refine blk_drew ?_|refine blk_alloc ?_ _));refine mq_far ?_ NB262_264.out _;(with_reducible repeat (first|refine blk_drewN ?_ _|refine blk_drew ?_|refine blk_alloc ?_ _));refine mq_far ?_ NB262_264.out _;(with_reducible repeat (first|refine blk_drewN ?_ _|refine blk_drew ?_|refine blk_alloc ?_ _));refine mq_far ?_ NB262_264.out _;(with_reducible repeat (first|refine blk_drewN ?_ _|refine blk_drew ?_|refine blk_alloc ?_ _));refine mq_far ?_ NB262_264.out _;(with_reducible repeat (first|refine blk_drewN ?_ _|refine blk_drew ?_|refine blk_alloc ?_ _));exact BK262.out) hb);replace BK264:=Aside0.mk (blk_below (g:=gb264) (o:=.cells #[.int .i64 ((rd_T50 l0_5 x65_3).f0),.int .i64 ((rd_T50 l0_5 x65_3).f1),.int .i64 ((rd_T50 l0_5 x65_3).f2),.int .i64 ((rd_T50 l0_5 x65_3).f3),.int .i64 ((rd_T50 l0_5 x65_3).f4)] 50 (0,0)) (by (with_reducible repeat (first|refine blk_drewN ?_ _|refine blk_drew ?_|refine blk_alloc ?_ _));exact blk_puts5 (blk_up BK264.out)) hb);replace HB:=hbs hb;clear hb hbox hg;have hnb53:=NB265_254.out;have hnc53:=NB254_265.out;have hnb54:=NB265_262.out;have hnc54:=NB262_265.out;have hnb55:=NB265_264.out;have hnc55:=NB264_265.out;obtain ⟨_,_,_,_⟩:=cells2 BK265.out;obtain ⟨_,_,_,_,_,_,_,_,_,_⟩:=cells5 BK264.out)|((with_reducible refine mq_gate (t:=91) rfl ?_);refine mq_put rfl rfl (t:=91) rfl (b:=gb262) ((rd_T50 l0_5 x65_3).f0) ((rd_T50 l0_5 x65_3).f2) (l:=x263000_3) ?hm_ ?hk_ ?hv_ mqT_91 mqK_73 ?hb_ ?_;(case hm_ => first|rfl|(go_simp;done));(case hk_ => first|rfl|(go_simp;done));(case hv_ => first|rfl|(go_simp;done));(case hb_ => exact (by (with_reducible repeat (first|refine blk_drewN ?_ _|refine blk_drew ?_|refine blk_alloc ?_ _));refine mq_far ?_ NB262_265.out _;(with_reducible repeat (first|refine blk_drewN ?_ _|refine blk_drew ?_|refine blk_alloc ?_ _));refine mq_far ?_ NB262_265.out _;(with_reducible repeat (first|refine blk_drewN ?_ _|refine blk_drew ?_|refine blk_alloc ?_ _));exact BK262.out));intro w58 hbox hg;replace BK254:=Aside0.mk (blk_grown (g:=gb254) (o:=.cells #[.int .i64 a0_0,.int .i64 a0_1,.slice A0_2 l0_2.length c0_2,.slice A0_3 l0_3.length c0_3,.slice A0_4 l0_4.length c0_4,.slice (some ad263) l0_5.length c0_5] 33 (0,0)) (by (with_reducible repeat (first|refine blk_drewN ?_ _|refine blk_drew ?_|refine blk_alloc ?_ _));refine blk_far ?_ NB254_265.out _;(with_reducible repeat (first|refine blk_drewN ?_ _|refine blk_drew ?_|refine blk_alloc ?_ _));refine blk_far ?_ NB254_265.out _;(with_reducible repeat (first|refine blk_drewN ?_ _|refine blk_drew ?_|refine blk_alloc ?_ _));exact BK254.out) hg (fun e_ => NB254_262.out (Option.some.inj e_)));replace BK262:=Aside0.mk (hbox);replace BK264:=Aside0.mk (blk_grown (g:=gb264) (o:=.cells #[.int .i64 ((rd_T50 l0_5 x65_3).f0),.int .i64 ((rd_T50 l0_5 x65_3).f1),.int .i64 ((rd_T50 l0_5 x65_3).f2),.int .i64 ((rd_T50 l0_5 x65_3).f3),.int .i64 ((rd_T50 l0_5 x65_3).f4)] 50 (0,0)) (by (with_reducible repeat (first|refine blk_drewN ?_ _|refine blk_drew ?_|refine blk_alloc ?_ _));refine blk_far ?_ NB264_265.out _;(with_reducible repeat (first|refine blk_drewN ?_ _|refine blk_drew ?_|refine blk_alloc ?_ _));refine blk_far ?_ NB264_265.out _;(with_reducible repeat (first|refine blk_drewN ?_ _|refine blk_drew ?_|refine blk_alloc ?_ _));exact BK264.out) hg (fun e_ => NB264_262.out (Option.some.inj e_)));replace BK265:=Aside0.mk (blk_grown (g:=gb265) (o:=.cells #[.int .i64 ((rd_T50 l0_5 x65_3).f0),.int .i64 ((rd_T50 l0_5 x65_3).f2)] 73 (0,0)) (by (with_reducible repeat (first|refine blk_drewN ?_ _|refine blk_drew ?_|refine blk_alloc ?_ _));exact blk_puts2 (blk_up BK265.out)) hg (fun e_ => NB265_262.out (Option.some.inj e_)));replace HB:=Aside0.mk (Below.grown (hb_) hg (below_size (hb_)) (fun k_ hk_ => by injection hk_ with hk_;rw [← hk_];exact GE262.out));clear hbox hg))
        go_roundg k3
        case measure => have:=HK1.out;have:=HK2.out;have:=HK3.out;omega
        case rel => exact ⟨(wrap64 (x65_3 + 1)),(mqPut ((rd_T50 l0_5 x65_3).f0,(rd_T50 l0_5 x65_3).f2) x263000_3),(by first|rfl|(simp;done)|(simp [*];done)),H',⟨by have:=HK1.out;have:=HK2.out;have:=HK3.out;omega⟩,⟨blk_up BK254.out⟩,⟨blk_up BK262.out⟩,⟨hb_⟩⟩
       rw [if_neg c47] at H
       have c47b0:=bqf c47
       have c47b1:=bnt c47
       by_cases c59 : mqHas ((rd_T50 l0_5 x65_3).f0,(rd_T50 l0_5 x65_3).f2) x263000_3 = true
       ·rw [if_pos c59] at H
        have c59b0 : mqHas ((rd_T50 l0_5 x65_3).f0,(rd_T50 l0_5 x65_3).f2) x263000_3 = true:=c59
        clear c59
        obtain rfl:=Option.some.inj H
        have p263 : 0 ≤ (x65_3 : Int):=of_decide_eq_true (by first|(with_reducible assumption)|assumption)
        have q263 : x65_3 < (l0_5.length : Int):=of_decide_eq_true (by first|(with_reducible assumption)|assumption)
        obtain ⟨ad263,e263,hx263_0,hx263_1,hx263_2,hx263_3,hx263_4⟩:=at_T50 HR0_5.out x65_3 p263 q263
        cases e263
        replace hx263_0:=(HB.out.cell (World.block_lt_of_cell? w _ hx263_0)).trans hx263_0
        replace hx263_1:=(HB.out.cell (World.block_lt_of_cell? w _ hx263_1)).trans hx263_1
        replace hx263_2:=(HB.out.cell (World.block_lt_of_cell? w _ hx263_2)).trans hx263_2
        replace hx263_3:=(HB.out.cell (World.block_lt_of_cell? w _ hx263_3)).trans hx263_3
        replace hx263_4:=(HB.out.cell (World.block_lt_of_cell? w _ hx263_4)).trans hx263_4
        replace p263:=eq_true p263
        replace q263:=eq_true q263
        go_wp2_with (first|((with_reducible refine gate_dst (N:=11) rfl ?_);refine box_ev (N:=11) (cs:=#[.int .i64 0,.int .i64 0,.int .i64 0,.int .i64 0,.int .i64 0]) (t:=50) ?_;intro gb264 hg w60 hbox hb;have BK264:=Aside0.mk (hbox);have GW264 : Aside0 (w.heap.size ≤ gb264):=gsz hg;have GE264:=GW264;have NB254_264:=nbl BK254 hg;have NB264_254:=nbr BK254 hg;have NB262_264:=nbl BK262 hg;have NB264_262:=nbr BK262 hg;replace BK254:=bkb BK254 hb;replace BK262:=bkb BK262 hb;replace HB:=hbs hb;clear hb hbox hg;have hnb61:=NB264_254.out;have hnc61:=NB254_264.out;have hnb62:=NB264_262.out;have hnc62:=NB262_264.out;obtain ⟨_,_,_,_,_,_,_,_,_,_⟩:=cells5 BK264.out)|((with_reducible refine gate_dst (N:=12) rfl ?_);refine box_ev (N:=12) (cs:=#[.int .i64 0,.int .i64 0]) (t:=73) ?_;intro gb265 hg w64 hbox hb;have BK265:=Aside0.mk (hbox);have GW265 : Aside0 (w.heap.size ≤ gb265):=gsz hg;have GE265:=GW265;have NB254_265:=Aside0.mk ((by rw [hg];exact Nat.ne_of_lt (blk_lt (g:=gb254) (o:=.cells #[.int .i64 a0_0,.int .i64 a0_1,.slice A0_2 l0_2.length c0_2,.slice A0_3 l0_3.length c0_3,.slice A0_4 l0_4.length c0_4,.slice (some ad263) l0_5.length c0_5] 33 (0,0)) (by (with_reducible repeat (first|refine blk_drewN ?_ _|refine blk_drew ?_|refine blk_alloc ?_ _));refine blk_far ?_ NB254_264.out _;(with_reducible repeat (first|refine blk_drewN ?_ _|refine blk_drew ?_|refine blk_alloc ?_ _));refine blk_far ?_ NB254_264.out _;(with_reducible repeat (first|refine blk_drewN ?_ _|refine blk_drew ?_|refine blk_alloc ?_ _));refine blk_far ?_ NB254_264.out _;(with_reducible repeat (first|refine blk_drewN ?_ _|refine blk_drew ?_|refine blk_alloc ?_ _));refine blk_far ?_ NB254_264.out _;(with_reducible repeat (first|refine blk_drewN ?_ _|refine blk_drew ?_|refine blk_alloc ?_ _));refine blk_far ?_ NB254_264.out _;(with_reducible repeat (first|refine blk_drewN ?_ _|refine blk_drew ?_|refine blk_alloc ?_ _));exact BK254.out)) : gb254 ≠ gb265));have NB265_254:=Aside0.mk ((by rw [hg];exact Nat.ne_of_gt (blk_lt (g:=gb254) (o:=.cells #[.int .i64 a0_0,.int .i64 a0_1,.slice A0_2 l0_2.length c0_2,.slice A0_3 l0_3.length c0_3,.slice A0_4 l0_4.length c0_4,.slice (some ad263) l0_5.length c0_5] 33 (0,0)) (by (with_reducible repeat (first|refine blk_drewN ?_ _|refine blk_drew ?_|refine blk_alloc ?_ _));refine blk_far ?_ NB254_264.out _;(with_reducible repeat (first|refine blk_drewN ?_ _|refine blk_drew ?_|refine blk_alloc ?_ _));refine blk_far ?_ NB254_264.out _;(with_reducible repeat (first|refine blk_drewN ?_ _|refine blk_drew ?_|refine blk_alloc ?_ _));refine blk_far ?_ NB254_264.out _;(with_reducible repeat (first|refine blk_drewN ?_ _|refine blk_drew ?_|refine blk_alloc ?_ _));refine blk_far ?_ NB254_264.out _;(with_reducible repeat (first|refine blk_drewN ?_ _|refine blk_drew ?_|refine blk_alloc ?_ _));refine blk_far ?_ NB254_264.out _;(with_reducible repeat (first|refine blk_drewN ?_ _|refine blk_drew ?_|refine blk_alloc ?_ _));exact BK254.out)) : gb265 ≠ gb254));have NB262_265:=Aside0.mk ((by rw [hg];exact Nat.ne_of_lt (blk_lt (g:=gb262) (o:=mqO x263000_3) (by (with_reducible repeat (first|refine blk_drewN ?_ _|refine blk_drew ?_|refine blk_alloc ?_ _));refine mq_far ?_ NB262_264.out _;(with_reducible repeat (first|refine blk_drewN ?_ _|refine blk_drew ?_|refine blk_alloc ?_ _));refine mq_far ?_ NB262_264.out _;(with_reducible repeat (first|refine blk_drewN ?_ _|refine blk_drew ?_|refine blk_alloc ?_ _));refine mq_far ?_ NB262_264.out _;(with_reducible repeat (first|refine blk_drewN ?_ _|refine blk_drew ?_|refine blk_alloc ?_ _));refine mq_far ?_ NB262_264.out _;(with_reducible repeat (first|refine blk_drewN ?_ _|refine blk_drew ?_|refine blk_alloc ?_ _));refine mq_far ?_ NB262_264.out _;(with_reducible repeat (first|refine blk_drewN ?_ _|refine blk_drew ?_|refine blk_alloc ?_ _));exact BK262.out)) : gb262 ≠ gb265));have NB265_262:=Aside0.mk ((by rw [hg];exact Nat.ne_of_gt (blk_lt (g:=gb262) (o:=mqO x263000_3) (by (with_reducible repeat (first|refine blk_drewN ?_ _|refine blk_drew ?_|refine blk_alloc ?_ _));refine mq_far ?_ NB262_264.out _;(with_reducible repeat (first|refine blk_drewN ?_ _|refine blk_drew ?_|refine blk_alloc ?_ _));refine mq_far ?_ NB262_264.out _;(with_reducible repeat (first|refine blk_drewN ?_ _|refine blk_drew ?_|refine blk_alloc ?_ _));refine mq_far ?_ NB262_264.out _;(with_reducible repeat (first|refine blk_drewN ?_ _|refine blk_drew ?_|refine blk_alloc ?_ _));refine mq_far ?_ NB262_264.out _;(with_reducible repeat (first|refine blk_drewN ?_ _|refine blk_drew ?_|refine blk_alloc ?_ _));refine mq_far ?_ NB262_264.out _;(with_reducible repeat (first|refine blk_drewN ?_ _|refine blk_drew ?_|refine blk_alloc ?_ _));exact BK262.out)) : gb265 ≠ gb262));have NB264_265:=Aside0.mk ((by rw [hg];exact Nat.ne_of_lt (blk_lt (g:=gb264) (o:=.cells #[.int .i64 ((rd_T50 l0_5 x65_3).f0),.int .i64 ((rd_T50 l0_5 x65_3).f1),.int .i64 ((rd_T50 l0_5 x65_3).f2),.int .i64 ((rd_T50 l0_5 x65_3).f3),.int .i64 ((rd_T50 l0_5 x65_3).f4)] 50 (0,0)) (by (with_reducible repeat (first|refine blk_drewN ?_ _|refine blk_drew ?_|refine blk_alloc ?_ _));exact blk_puts5 (blk_up BK264.out))) : gb264 ≠ gb265));have NB265_264:=Aside0.mk ((by rw [hg];exact Nat.ne_of_gt (blk_lt (g:=gb264) (o:=.cells #[.int .i64 ((rd_T50 l0_5 x65_3).f0),.int .i64 ((rd_T50 l0_5 x65_3).f1),.int .i64 ((rd_T50 l0_5 x65_3).f2),.int .i64 ((rd_T50 l0_5 x65_3).f3),.int .i64 ((rd_T50 l0_5 x65_3).f4)] 50 (0,0)) (by (with_reducible repeat (first|refine blk_drewN ?_ _|refine blk_drew ?_|refine blk_alloc ?_ _));exact blk_puts5 (blk_up BK264.out))) : gb265 ≠ gb264));replace BK254:=Aside0.mk (blk_below (g:=gb254) (o:=.cells #[.int .i64 a0_0,.int .i64 a0_1,.slice A0_2 l0_2.length c0_2,.slice A0_3 l0_3.length c0_3,.slice A0_4 l0_4.length c0_4,.slice (some ad263) l0_5.length c0_5] 33 (0,0)) (by (with_reducible repeat (first|refine blk_drewN ?_ _|refine blk_drew ?_|refine blk_alloc ?_ _));refine blk_far ?_ NB254_264.out _;(with_reducible repeat (first|refine blk_drewN ?_ _|refine blk_drew ?_|refine blk_alloc ?_ _));refine blk_far ?_ NB254_264.out _;(with_reducible repeat (first|refine blk_drewN ?_ _|refine blk_drew ?_|refine blk_alloc ?_ _));refine blk_far ?_ NB254_264.out _;(with_reducible repeat (first|refine blk_drewN ?_ _|refine blk_drew ?_|refine blk_alloc ?_ _));refine blk_far ?_ NB254_264.out _;(with_reducible repeat (first|refine blk_drewN ?_ _|refine blk_drew ?_|refine blk_alloc ?_ _));refine blk_far ?_ NB254_264.out _;(with_reducible repeat (first|refine blk_drewN ?_ _|refine blk_drew ?_|refine blk_alloc ?_ _));exact BK254.out) hb);replace BK262:=Aside0.mk (blk_below (g:=gb262) (o:=mqO x263000_3) (by (with_reducible repeat (first|refine blk_drewN ?_ _|refine blk_drew ?_|refine blk_alloc ?_ _));refine mq_far ?_ NB262_264.out _;(with_reducible repeat (first|refine blk_drewN ?_ _|refine blk_drew ?_|refine blk_alloc ?_ _));refine mq_far ?_ NB262_264.out _;(with_reducible repeat (first|refine blk_drewN ?_ _|refine blk_drew ?_|refine blk_alloc ?_ _));refine mq_far ?_ NB262_264.out _;(with_reducible repeat (first|refine blk_drewN ?_ _|refine blk_drew ?_|refine blk_alloc ?_ _));refine mq_far ?_ NB262_264.out _;(with_reducible repeat (first|refine blk_drewN ?_ _|refine blk_drew ?_|refine blk_alloc ?_ _));refine mq_far ?_ NB262_264.out _;(with_reducible repeat (first|refine blk_drewN ?_ _|refine blk_drew ?_|refine blk_alloc ?_ _));exact BK262.out) hb);replace BK264:=Aside0.mk (blk_below (g:=gb264) (o:=.cells #[.int .i64 ((rd_T50 l0_5 x65_3).f0),.int .i64 ((rd_T50 l0_5 x65_3).f1),.int .i64 ((rd_T50 l0_5 x65_3).f2),.int .i64 ((rd_T50 l0_5 x65_3).f3),.int .i64 ((rd_T50 l0_5 x65_3).f4)] 50 (0,0)) (by (with_reducible repeat (first|refine blk_drewN ?_ _|refine blk_drew ?_|refine blk_alloc ?_ _));exact blk_puts5 (blk_up BK264.out)) hb);replace HB:=hbs hb;clear hb hbox hg;have hnb65:=NB265_254.out;have hnc65:=NB254_265.out;have hnb66:=NB265_262.out;have hnc66:=NB262_265.out;have hnb67:=NB265_264.out;have hnc67:=NB264_265.out;obtain ⟨_,_,_,_⟩:=cells2 BK265.out;obtain ⟨_,_,_,_,_,_,_,_,_,_⟩:=cells5 BK264.out)|((with_reducible refine gate_dst (N:=80) rfl ?_);(try (refine gate_guard (by rfl) ?_;dsimp only));refine mq_look_1 rfl (t:=91) rfl (b:=gb262) ((rd_T50 l0_5 x65_3).f0) ((rd_T50 l0_5 x65_3).f2) (l:=x263000_3) ?hm_ ?hk_ mqT_91 mqK_73 mqZ_91 ?hb_ ?_;(case hm_ => first|rfl|(go_simp;done));(case hk_ => first|rfl|(go_simp;done));(case hb_ => exact (by (with_reducible repeat (first|refine blk_drewN ?_ _|refine blk_drew ?_|refine blk_alloc ?_ _));refine mq_far ?_ NB262_265.out _;(with_reducible repeat (first|refine blk_drewN ?_ _|refine blk_drew ?_|refine blk_alloc ?_ _));refine mq_far ?_ NB262_265.out _;(with_reducible repeat (first|refine blk_drewN ?_ _|refine blk_drew ?_|refine blk_alloc ?_ _));exact BK262.out))))
        go_ret
        exact ⟨er_,hb_⟩
       ·rw [if_neg c59] at H
        have c59b0 : mqHas ((rd_T50 l0_5 x65_3).f0,(rd_T50 l0_5 x65_3).f2) x263000_3 = false:=by simpa using c59
        clear c59
        have H':=Aside0.mk H
        clear H
        have p263 : 0 ≤ (x65_3 : Int):=of_decide_eq_true (by first|(with_reducible assumption)|assumption)
        have q263 : x65_3 < (l0_5.length : Int):=of_decide_eq_true (by first|(with_reducible assumption)|assumption)
        obtain ⟨ad263,e263,hx263_0,hx263_1,hx263_2,hx263_3,hx263_4⟩:=at_T50 HR0_5.out x65_3 p263 q263
        cases e263
        replace hx263_0:=(HB.out.cell (World.block_lt_of_cell? w _ hx263_0)).trans hx263_0
        replace hx263_1:=(HB.out.cell (World.block_lt_of_cell? w _ hx263_1)).trans hx263_1
        replace hx263_2:=(HB.out.cell (World.block_lt_of_cell? w _ hx263_2)).trans hx263_2
        replace hx263_3:=(HB.out.cell (World.block_lt_of_cell? w _ hx263_3)).trans hx263_3
        replace hx263_4:=(HB.out.cell (World.block_lt_of_cell? w _ hx263_4)).trans hx263_4
        replace p263:=eq_true p263
        replace q263:=eq_true q263
        go_wp2_with (first|((with_reducible refine gate_dst (N:=11) rfl ?_);refine box_ev (N:=11) (cs:=#[.int .i64 0,.int .i64 0,.int .i64 0,.int .i64 0,.int .i64 0]) (t:=50) ?_;intro gb264 hg w70 hbox hb;have BK264:=Aside0.mk (hbox);have GW264 : Aside0 (w.heap.size ≤ gb264):=gsz hg;have GE264:=GW264;have NB254_264:=nbl BK254 hg;have NB264_254:=nbr BK254 hg;have NB262_264:=nbl BK262 hg;have NB264_262:=nbr BK262 hg;replace BK254:=bkb BK254 hb;replace BK262:=bkb BK262 hb;replace HB:=hbs hb;clear hb hbox hg;have hnb71:=NB264_254.out;have hnc71:=NB254_264.out;have hnb72:=NB264_262.out;have hnc72:=NB262_264.out;obtain ⟨_,_,_,_,_,_,_,_,_,_⟩:=cells5 BK264.out)|((with_reducible refine gate_dst (N:=12) rfl ?_);refine box_ev (N:=12) (cs:=#[.int .i64 0,.int .i64 0]) (t:=73) ?_;intro gb265 hg w74 hbox hb;have BK265:=Aside0.mk (hbox);have GW265 : Aside0 (w.heap.size ≤ gb265):=gsz hg;have GE265:=GW265;have NB254_265:=Aside0.mk ((by rw [hg];exact Nat.ne_of_lt (blk_lt (g:=gb254) (o:=.cells #[.int .i64 a0_0,.int .i64 a0_1,.slice A0_2 l0_2.length c0_2,.slice A0_3 l0_3.length c0_3,.slice A0_4 l0_4.length c0_4,.slice (some ad263) l0_5.length c0_5] 33 (0,0)) (by (with_reducible repeat (first|refine blk_drewN ?_ _|refine blk_drew ?_|refine blk_alloc ?_ _));refine blk_far ?_ NB254_264.out _;(with_reducible repeat (first|refine blk_drewN ?_ _|refine blk_drew ?_|refine blk_alloc ?_ _));refine blk_far ?_ NB254_264.out _;(with_reducible repeat (first|refine blk_drewN ?_ _|refine blk_drew ?_|refine blk_alloc ?_ _));refine blk_far ?_ NB254_264.out _;(with_reducible repeat (first|refine blk_drewN ?_ _|refine blk_drew ?_|refine blk_alloc ?_ _));refine blk_far ?_ NB254_264.out _;(with_reducible repeat (first|refine blk_drewN ?_ _|refine blk_drew ?_|refine blk_alloc ?_ _));refine blk_far ?_ NB254_264.out _;(with_reducible repeat (first|refine blk_drewN ?_ _|refine blk_drew ?_|refine blk_alloc ?_ _));exact BK254.out)) : gb254 ≠ gb265));have NB265_254:=Aside0.mk ((by rw [hg];exact Nat.ne_of_gt (blk_lt (g:=gb254) (o:=.cells #[.int .i64 a0_0,.int .i64 a0_1,.slice A0_2 l0_2.length c0_2,.slice A0_3 l0_3.length c0_3,.slice A0_4 l0_4.length c0_4,.slice (some ad263) l0_5.length c0_5] 33 (0,0)) (by (with_reducible repeat (first|refine blk_drewN ?_ _|refine blk_drew ?_|refine blk_alloc ?_ _));refine blk_far ?_ NB254_264.out _;(with_reducible repeat (first|refine blk_drewN ?_ _|refine blk_drew ?_|refine blk_alloc ?_ _));refine blk_far ?_ NB254_264.out _;(with_reducible repeat (first|refine blk_drewN ?_ _|refine blk_drew ?_|refine blk_alloc ?_ _));refine blk_far ?_ NB254_264.out _;(with_reducible repeat (first|refine blk_drewN ?_ _|refine blk_drew ?_|refine blk_alloc ?_ _));refine blk_far ?_ NB254_264.out _;(with_reducible repeat (first|refine blk_drewN ?_ _|refine blk_drew ?_|refine blk_alloc ?_ _));refine blk_far ?_ NB254_264.out _;(with_reducible repeat (first|refine blk_drewN ?_ _|refine blk_drew ?_|refine blk_alloc ?_ _));exact BK254.out)) : gb265 ≠ gb254));have NB262_265:=Aside0.mk ((by rw [hg];exact Nat.ne_of_lt (blk_lt (g:=gb262) (o:=mqO x263000_3) (by (with_reducible repeat (first|refine blk_drewN ?_ _|refine blk_drew ?_|refine blk_alloc ?_ _));refine mq_far ?_ NB262_264.out _;(with_reducible repeat (first|refine blk_drewN ?_ _|refine blk_drew ?_|refine blk_alloc ?_ _));refine mq_far ?_ NB262_264.out _;(with_reducible repeat (first|refine blk_drewN ?_ _|refine blk_drew ?_|refine blk_alloc ?_ _));refine mq_far ?_ NB262_264.out _;(with_reducible repeat (first|refine blk_drewN ?_ _|refine blk_drew ?_|refine blk_alloc ?_ _));refine mq_far ?_ NB262_264.out _;(with_reducible repeat (first|refine blk_drewN ?_ _|refine blk_drew ?_|refine blk_alloc ?_ _));refine mq_far ?_ NB262_264.out _;(with_reducible repeat (first|refine blk_drewN ?_ _|refine blk_drew ?_|refine blk_alloc ?_ _));exact BK262.out)) : gb262 ≠ gb265));have NB265_262:=Aside0.mk ((by rw [hg];exact Nat.ne_of_gt (blk_lt (g:=gb262) (o:=mqO x263000_3) (by (with_reducible repeat (first|refine blk_drewN ?_ _|refine blk_drew ?_|refine blk_alloc ?_ _));refine mq_far ?_ NB262_264.out _;(with_reducible repeat (first|refine blk_drewN ?_ _|refine blk_drew ?_|refine blk_alloc ?_ _));refine mq_far ?_ NB262_264.out _;(with_reducible repeat (first|refine blk_drewN ?_ _|refine blk_drew ?_|refine blk_alloc ?_ _));refine mq_far ?_ NB262_264.out _;(with_reducible repeat (first|refine blk_drewN ?_ _|refine blk_drew ?_|refine blk_alloc ?_ _));refine mq_far ?_ NB262_264.out _;(with_reducible repeat (first|refine blk_drewN ?_ _|refine blk_drew ?_|refine blk_alloc ?_ _));refine mq_far ?_ NB262_264.out _;(with_reducible repeat (first|refine blk_drewN ?_ _|refine blk_drew ?_|refine blk_alloc ?_ _));exact BK262.out)) : gb265 ≠ gb262));have NB264_265:=Aside0.mk ((by rw [hg];exact Nat.ne_of_lt (blk_lt (g:=gb264) (o:=.cells #[.int .i64 ((rd_T50 l0_5 x65_3).f0),.int .i64 ((rd_T50 l0_5 x65_3).f1),.int .i64 ((rd_T50 l0_5 x65_3).f2),.int .i64 ((rd_T50 l0_5 x65_3).f3),.int .i64 ((rd_T50 l0_5 x65_3).f4)] 50 (0,0)) (by (with_reducible repeat (first|refine blk_drewN ?_ _|refine blk_drew ?_|refine blk_alloc ?_ _));exact blk_puts5 (blk_up BK264.out))) : gb264 ≠ gb265));have NB265_264:=Aside0.mk ((by rw [hg];exact Nat.ne_of_gt (blk_lt (g:=gb264) (o:=.cells #[.int .i64 ((rd_T50 l0_5 x65_3).f0),.int .i64 ((rd_T50 l0_5 x65_3).f1),.int .i64 ((rd_T50 l0_5 x65_3).f2),.int .i64 ((rd_T50 l0_5 x65_3).f3),.int .i64 ((rd_T50 l0_5 x65_3).f4)] 50 (0,0)) (by (with_reducible repeat (first|refine blk_drewN ?_ _|refine blk_drew ?_|refine blk_alloc ?_ _));exact blk_puts5 (blk_up BK264.out))) : gb265 ≠ gb264));replace BK254:=Aside0.mk (blk_below (g:=gb254) (o:=.cells #[.int .i64 a0_0,.int .i64 a0_1,.slice A0_2 l0_2.length c0_2,.slice A0_3 l0_3.length c0_3,.slice A0_4 l0_4.length c0_4,.slice (some ad263) l0_5.length c0_5] 33 (0,0)) (by (with_reducible repeat (first|refine blk_drewN ?_ _|refine blk_drew ?_|refine blk_alloc ?_ _));refine blk_far ?_ NB254_264.out _;(with_reducible repeat (first|refine blk_drewN ?_ _|refine blk_drew ?_|refine blk_alloc ?_ _));refine blk_far ?_ NB254_264.out _;(with_reducible repeat (first|refine blk_drewN ?_ _|refine blk_drew ?_|refine blk_alloc ?_ _));refine blk_far ?_ NB254_264.out _;(with_reducible repeat (first|refine blk_drewN ?_ _|refine blk_drew ?_|refine blk_alloc ?_ _));refine blk_far ?_ NB254_264.out _;(with_reducible repeat (first|refine blk_drewN ?_ _|refine blk_drew ?_|refine blk_alloc ?_ _));refine blk_far ?_ NB254_264.out _;(with_reducible repeat (first|refine blk_drewN ?_ _|refine blk_drew ?_|refine blk_alloc ?_ _));exact BK254.out) hb);replace BK262:=Aside0.mk (blk_below (g:=gb262) (o:=mqO x263000_3) (by (with_reducible repeat (first|refine blk_drewN ?_ _|refine blk_drew ?_|refine blk_alloc ?_ _));refine mq_far ?_ NB262_264.out _;(with_reducible repeat (first|refine blk_drewN ?_ _|refine blk_drew ?_|refine blk_alloc ?_ _));refine mq_far ?_ NB262_264.out _;(with_reducible repeat (first|refine blk_drewN ?_ _|refine blk_drew ?_|refine blk_alloc ?_ _));refine mq_far ?_ NB262_264.out _;(with_reducible repeat (first|refine blk_drewN ?_ _|refine blk_drew ?_|refine blk_alloc ?_ _));refine mq_far ?_ NB262_264.out _;(with_reducible repeat (first|refine blk_drewN ?_ _|refine blk_drew ?_|refine blk_alloc ?_ _));refine mq_far ?_ NB262_264.out _;(with_reducible repeat (first|refine blk_drewN ?_ _|refine blk_drew ?_|refine blk_alloc ?_ _));exact BK262.out) hb);replace BK264:=Aside0.mk (blk_below (g:=gb264) (o:=.cells #[.int .i64 ((rd_T50 l0_5 x65_3).f0),.int .i64 ((rd_T50 l0_5 x65_3).f1),.int .i64 ((rd_T50 l0_5 x65_3).f2),.int .i64 ((rd_T50 l0_5 x65_3).f3),.int .i64 ((rd_T50 l0_5 x65_3).f4)] 50 (0,0)) (by (with_reducible repeat (first|refine blk_drewN ?_ _|refine blk_drew ?_|refine blk_alloc ?_ _));exact blk_puts5 (blk_up BK264.out)) hb);replace HB:=hbs hb;clear hb hbox hg;have hnb75:=NB265_254.out;have hnc75:=NB254_265.out;have hnb76:=NB265_262.out;have hnc76:=NB262_265.out;have hnb77:=NB265_264.out;have hnc77:=NB264_265.out;obtain ⟨_,_,_,_⟩:=cells2 BK265.out;obtain ⟨_,_,_,_,_,_,_,_,_,_⟩:=cells5 BK264.out)|((with_reducible refine gate_dst (N:=80) rfl ?_);(try (refine gate_guard (by rfl) ?_;dsimp only));refine mq_look_1 rfl (t:=91) rfl (b:=gb262) ((rd_T50 l0_5 x65_3).f0) ((rd_T50 l0_5 x65_3).f2) (l:=x263000_3) ?hm_ ?hk_ mqT_91 mqK_73 mqZ_91 ?hb_ ?_;(case hm_ => first|rfl|(go_simp;done));(case hk_ => first|rfl|(go_simp;done));(case hb_ => exact (by (with_reducible repeat (first|refine blk_drewN ?_ _|refine blk_drew ?_|refine blk_alloc ?_ _));refine mq_far ?_ NB262_265.out _;(with_reducible repeat (first|refine blk_drewN ?_ _|refine blk_drew ?_|refine blk_alloc ?_ _));refine mq_far ?_ NB262_265.out _;(with_reducible repeat (first|refine blk_drewN ?_ _|refine blk_drew ?_|refine blk_alloc ?_ _));exact BK262.out)))|((with_reducible refine mq_gate (t:=91) rfl ?_);refine mq_put rfl rfl (t:=91) rfl (b:=gb262) ((rd_T50 l0_5 x65_3).f0) ((rd_T50 l0_5 x65_3).f2) (l:=x263000_3) ?hm_ ?hk_ ?hv_ mqT_91 mqK_73 ?hb_ ?_;(case hm_ => first|rfl|(go_simp;done));(case hk_ => first|rfl|(go_simp;done));(case hv_ => first|rfl|(go_simp;done));(case hb_ => exact (by (with_reducible repeat (first|refine blk_drewN ?_ _|refine blk_drew ?_|refine blk_alloc ?_ _));refine mq_far ?_ NB262_265.out _;(with_reducible repeat (first|refine blk_drewN ?_ _|refine blk_drew ?_|refine blk_alloc ?_ _));refine mq_far ?_ NB262_265.out _;(with_reducible repeat (first|refine blk_drewN ?_ _|refine blk_drew ?_|refine blk_alloc ?_ _));exact BK262.out));intro w80 hbox hg;replace BK254:=Aside0.mk (blk_grown (g:=gb254) (o:=.cells #[.int .i64 a0_0,.int .i64 a0_1,.slice A0_2 l0_2.length c0_2,.slice A0_3 l0_3.length c0_3,.slice A0_4 l0_4.length c0_4,.slice (some ad263) l0_5.length c0_5] 33 (0,0)) (by (with_reducible repeat (first|refine blk_drewN ?_ _|refine blk_drew ?_|refine blk_alloc ?_ _));refine blk_far ?_ NB254_265.out _;(with_reducible repeat (first|refine blk_drewN ?_ _|refine blk_drew ?_|refine blk_alloc ?_ _));refine blk_far ?_ NB254_265.out _;(with_reducible repeat (first|refine blk_drewN ?_ _|refine blk_drew ?_|refine blk_alloc ?_ _));exact BK254.out) hg (fun e_ => NB254_262.out (Option.some.inj e_)));replace BK262:=Aside0.mk (hbox);replace BK264:=Aside0.mk (blk_grown (g:=gb264) (o:=.cells #[.int .i64 ((rd_T50 l0_5 x65_3).f0),.int .i64 ((rd_T50 l0_5 x65_3).f1),.int .i64 ((rd_T50 l0_5 x65_3).f2),.int .i64 ((rd_T50 l0_5 x65_3).f3),.int .i64 ((rd_T50 l0_5 x65_3).f4)] 50 (0,0)) (by (with_reducible repeat (first|refine blk_drewN ?_ _|refine blk_drew ?_|refine blk_alloc ?_ _));refine blk_far ?_ NB264_265.out _;(with_reducible repeat (first|refine blk_drewN ?_ _|refine blk_drew ?_|refine blk_alloc ?_ _));refine blk_far ?_ NB264_265.out _;(with_reducible repeat (first|refine blk_drewN ?_ _|refine blk_drew ?_|refine blk_alloc ?_ _));exact BK264.out) hg (fun e_ => NB264_262.out (Option.some.inj e_)));replace BK265:=Aside0.mk (blk_grown (g:=gb265) (o:=.cells #[.int .i64 ((rd_T50 l0_5 x65_3).f0),.int .i64 ((rd_T50 l0_5 x65_3).f2)] 73 (0,0)) (by (with_reducible repeat (first|refine blk_drewN ?_ _|refine blk_drew ?_|refine blk_alloc ?_ _));exact blk_puts2 (blk_up BK265.out)) hg (fun e_ => NB265_262.out (Option.some.inj e_)));replace HB:=Aside0.mk (Below.grown (hb_) hg (below_size (hb_)) (fun k_ hk_ => by injection hk_ with hk_;rw [← hk_];exact GE262.out));clear hbox hg))
        go_roundg k3
        case measure => have:=HK1.out;have:=HK2.out;have:=HK3.out;omega
        case rel => exact ⟨(wrap64 (x65_3 + 1)),(mqPut ((rd_T50 l0_5 x65_3).f0,(rd_T50 l0_5 x65_3).f2) x263000_3),(by first|rfl|(simp;done)|(simp [*];done)),H',⟨by have:=HK1.out;have:=HK2.out;have:=HK3.out;omega⟩,⟨blk_up BK254.out⟩,⟨blk_up BK262.out⟩,⟨hb_⟩⟩

/-! ### lane_Validate: function 18 -/
mutual
def lane_Validate.l0 : Nat → Int → Int → Int → Int → List Int → List Int → List Int → List (S50) → Option (Int)
 | 0,_,_,_,_,_,_,_,_ => none
 | k + 1,x19,x20,x267000,x267001,x267002,x267003,x267004,x267005 => if x20 < x19 then (if x20 > 0 then (if 0 ≤ (wrap64 (x20 - 1)) then (if (wrap64 (x20 - 1)) < (x267004.length : Int) then (if 0 ≤ x20 then (if x20 < (x267004.length : Int) then (if (rd x267004 (wrap64 (x20 - 1))) ≥ (rd x267004 x20) then (some 1) else (lane_Validate.l0 k x19 (wrap64 (x20 + 1)) x267000 x267001 x267002 x267003 x267004 x267005)) else (none)) else (none)) else (none)) else (none)) else (lane_Validate.l0 k x19 (wrap64 (x20 + 1)) x267000 x267001 x267002 x267003 x267004 x267005)) else (lane_Validate.l1 k x267005 (x267005.length : Int) 0 x267000 x267001 x267002 x267003 x267004 x267005)
def lane_Validate.l1 : Nat → List (S50) → Int → Int → Int → Int → List Int → List Int → List Int → List (S50) → Option (Int)
 | 0,_,_,_,_,_,_,_,_,_ => none
 | k + 1,x41,x42,x43,x267000,x267001,x267002,x267003,x267004,x267005 => if x43 < x42 then (if 0 ≤ x43 then (if x43 < (x41.length : Int) then ((lane_moves.f ((rd_T50 x41 x43).f0) ((rd_T50 x41 x43).f1) ((rd_T50 x41 x43).f2) ((rd_T50 x41 x43).f3) ((rd_T50 x41 x43).f4)).bind fun t272 => (if t272 = true then (lane_Validate.l1 k x41 x42 (wrap64 (x43 + 1)) x267000 x267001 x267002 x267003 x267004 x267005) else (some 1))) else (none)) else (none)) else ((lane_stand.f k x267000 x267001 x267002 x267003 x267004 x267005).bind fun t273 => (some t273))
end
def lane_Validate.f (k : Nat) (a0_0 : Int) (a0_1 : Int) (l0_2 : List Int) (l0_3 : List Int) (l0_4 : List Int) (l0_5 : List (S50)) : Option (Int) := (road_Validate.f k a0_0 a0_1 l0_2 l0_3).bind fun t267 => (if t267 = 0 then (if (l0_5.length : Int) > 60 then (some 4) else (lane_Validate.l0 k (l0_4.length : Int) 0 a0_0 a0_1 l0_2 l0_3 l0_4 l0_5)) else (some t267))
theorem lane_Validate.mono_l : ∀ k, (∀ y0 y1 y2 y3 y4 y5 y6 y7, LeO (lane_Validate.l0 k y0 y1 y2 y3 y4 y5 y6 y7) (lane_Validate.l0 (k + 1) y0 y1 y2 y3 y4 y5 y6 y7)) ∧ (∀ y0 y1 y2 y3 y4 y5 y6 y7 y8, LeO (lane_Validate.l1 k y0 y1 y2 y3 y4 y5 y6 y7 y8) (lane_Validate.l1 (k + 1) y0 y1 y2 y3 y4 y5 y6 y7 y8))
 | 0 => ⟨fun _ _ _ _ _ _ _ _ r h => by simp [lane_Validate.l0] at h,fun _ _ _ _ _ _ _ _ _ r h => by simp [lane_Validate.l1] at h⟩
 | k + 1 => by
  obtain ⟨ih0,ih1⟩:=lane_Validate.mono_l k
  refine ⟨?_,?_⟩
  ·intro y0 y1 y2 y3 y4 y5 y6 y7
   unfold lane_Validate.l0
   repeat' first
   | (with_reducible exact ih0 _ _ _ _ _ _ _ _)
   | (with_reducible exact ih1 _ _ _ _ _ _ _ _ _)
   | (with_reducible exact lane_stand.mono _ _ _ _ _ _ _)
   | (with_reducible exact road_Validate.mono _ _ _ _ _)
   | (with_reducible exact LeO.refl _)
   | (with_reducible exact LeO.none _)
   | (with_reducible refine LeO.ite ?_ ?_)
   | (with_reducible refine LeO.bind ?_ (fun _ => ?_))
   | exact ih0 _ _ _ _ _ _ _ _
   | exact ih1 _ _ _ _ _ _ _ _ _
   | exact lane_stand.mono _ _ _ _ _ _ _
   | exact road_Validate.mono _ _ _ _ _
   | exact LeO.none _
   | refine LeO.ite ?_ ?_
   | refine LeO.bind ?_ (fun _ => ?_)
  ·intro y0 y1 y2 y3 y4 y5 y6 y7 y8
   unfold lane_Validate.l1
   repeat' first
   | (with_reducible exact ih0 _ _ _ _ _ _ _ _)
   | (with_reducible exact ih1 _ _ _ _ _ _ _ _ _)
   | (with_reducible exact lane_stand.mono _ _ _ _ _ _ _)
   | (with_reducible exact road_Validate.mono _ _ _ _ _)
   | (with_reducible exact LeO.refl _)
   | (with_reducible exact LeO.none _)
   | (with_reducible refine LeO.ite ?_ ?_)
   | (with_reducible refine LeO.bind ?_ (fun _ => ?_))
   | exact ih0 _ _ _ _ _ _ _ _
   | exact ih1 _ _ _ _ _ _ _ _ _
   | exact lane_stand.mono _ _ _ _ _ _ _
   | exact road_Validate.mono _ _ _ _ _
   | exact LeO.none _
   | refine LeO.ite ?_ ?_
   | refine LeO.bind ?_ (fun _ => ?_)
theorem lane_Validate.mono : ∀ a0 a1 a2 a3 a4 a5 k, LeO (lane_Validate.f k a0 a1 a2 a3 a4 a5) (lane_Validate.f (k + 1) a0 a1 a2 a3 a4 a5) := by
 intro a0 a1 a2 a3 a4 a5 k
 obtain ⟨ih0,ih1⟩:=lane_Validate.mono_l k
 unfold lane_Validate.f
 repeat' first
   | (with_reducible exact ih0 _ _ _ _ _ _ _ _)
   | (with_reducible exact ih1 _ _ _ _ _ _ _ _ _)
   | (with_reducible exact lane_stand.mono _ _ _ _ _ _ _)
   | (with_reducible exact road_Validate.mono _ _ _ _ _)
   | (with_reducible exact LeO.refl _)
   | (with_reducible exact LeO.none _)
   | (with_reducible refine LeO.ite ?_ ?_)
   | (with_reducible refine LeO.bind ?_ (fun _ => ?_))
   | exact ih0 _ _ _ _ _ _ _ _
   | exact ih1 _ _ _ _ _ _ _ _ _
   | exact lane_stand.mono _ _ _ _ _ _ _
   | exact road_Validate.mono _ _ _ _ _
   | exact LeO.none _
   | refine LeO.ite ?_ ?_
   | refine LeO.bind ?_ (fun _ => ?_)
set_option maxHeartbeats 8000000 in
set_option maxRecDepth 100000 in
theorem lane_Validate.calls (k : Nat) (a0_0 : Int) (a0_1 : Int) (A0_2 : Option Addr) (c0_2 : Nat) (l0_2 : List Int) (A0_3 : Option Addr) (c0_3 : Nat) (l0_3 : List Int) (A0_4 : Option Addr) (c0_4 : Nat) (l0_4 : List Int) (A0_5 : Option Addr) (c0_5 : Nat) (l0_5 : List (S50)) (r : Int) (w : World) (hr0_2 : Kd.C (Kd.int .i64) w A0_2 l0_2.length l0_2) (hc0_2 : l0_2.length ≤ c0_2) (hr0_3 : Kd.C (Kd.int .i64) w A0_3 l0_3.length l0_3) (hc0_3 : l0_3.length ≤ c0_3) (hr0_4 : Kd.C (Kd.int .i64) w A0_4 l0_4.length l0_4) (hc0_4 : l0_4.length ≤ c0_4) (hr0_5 : Kd.C k50 w A0_5 l0_5.length l0_5) (hc0_5 : l0_5.length ≤ c0_5) (h : lane_Validate.f k a0_0 a0_1 l0_2 l0_3 l0_4 l0_5 = some r) :
  Calls Try.prog 18 #[.agg #[.int .i64 a0_0,.int .i64 a0_1,.slice A0_2 l0_2.length c0_2,.slice A0_3 l0_3.length c0_3,.slice A0_4 l0_4.length c0_4,.slice A0_5 l0_5.length c0_5]] w fun e w' => e = .returned (.int .i64 r) ∧ Below w.heap.size w w':=by
 have hu33:=Try.underlying33
 have hu24:=Try.underlying24
 have hu50:=Try.underlying50
 have HR0_2:=Aside0.mk hr0_2
 have HC0_2:=Aside0.mk hc0_2
 clear hr0_2 hc0_2
 have HR0_3:=Aside0.mk hr0_3
 have HC0_3:=Aside0.mk hc0_3
 clear hr0_3 hc0_3
 have HR0_4:=Aside0.mk hr0_4
 have HC0_4:=Aside0.mk hc0_4
 clear hr0_4 hc0_4
 have HR0_5:=Aside0.mk hr0_5
 have HC0_5:=Aside0.mk hc0_5
 clear hr0_5 hc0_5
 have HB:=Aside0.mk (Below.refl w.heap.size w)
 have H : ((road_Validate.f k a0_0 a0_1 l0_2 l0_3).bind fun t267 => (if t267 = 0 then (if (l0_5.length : Int) > 60 then (some 4) else (lane_Validate.l0 k (l0_4.length : Int) 0 a0_0 a0_1 l0_2 l0_3 l0_4 l0_5)) else (some t267))) = some r:=h
 clear h
 replace H:=Option.bind_eq_some_iff.mp H
 obtain ⟨t267,A20,H⟩:=H
 replace H : (if t267 = 0 then (if (l0_5.length : Int) > 60 then (some 4) else (lane_Validate.l0 k (l0_4.length : Int) 0 a0_0 a0_1 l0_2 l0_3 l0_4 l0_5)) else (some t267)) = some r:=H
 have A2:=Aside0.mk A20
 clear A20
 by_cases c3 : t267 = 0
 rotate_left
 ·rw [if_neg c3] at H
  have c3b0:=bqf c3
  have c3b1:=bnt c3
  obtain rfl:=Option.some.inj H
  go_enter Try.func18,Try.ntmps18
  go_wp2_with (first|((with_reducible refine gate_dst (N:=1) rfl ?_);refine box_ev (N:=1) (cs:=#[.int .i64 a0_0,.int .i64 a0_1,.slice A0_2 l0_2.length c0_2,.slice A0_3 l0_3.length c0_3,.slice A0_4 l0_4.length c0_4,.slice A0_5 l0_5.length c0_5]) (t:=33) ?_;intro gb266 hg w38 hbox hb;have BK266:=Aside0.mk (hbox);have GW266 : Aside0 (w.heap.size ≤ gb266):=gsz hg;have GE266:=GW266;replace HB:=hbs hb;clear hb hbox hg;obtain ⟨_,_,_,_,_,_,_,_,_,_,_,_⟩:=cells6 BK266.out)|(go_at_call 36;(with_reducible refine (road_Validate.calls k a0_0 a0_1 _ _ l0_2 _ _ l0_3 t267 _ ?_ ?_ ?_ ?_ A2.out).mono ?_);exact cq HR0_2;exact HC0_2.out;exact cq HR0_3;exact HC0_3.out;rintro e w40 ⟨rfl,hb⟩;replace BK266:=bkb BK266 hb;replace HB:=hbs hb))
  go_ret
  exact ⟨er_,hb_⟩
 rw [if_pos c3] at H
 have c3b0:=bqt c3
 have c3b1:=bnf c3
 clear c3
 by_cases c4 : (l0_5.length : Int) > 60
 ·rw [if_pos c4] at H
  have c4b0 : decide (60 < (l0_5.length : Int)) = true:=decide_eq_true c4
  have c4b1 : decide (60 < l0_5.length) = true:=decide_eq_true (by omega)
  clear c4
  obtain rfl:=Option.some.inj H
  go_enter Try.func18,Try.ntmps18
  go_wp2_with (first|((with_reducible refine gate_dst (N:=1) rfl ?_);refine box_ev (N:=1) (cs:=#[.int .i64 a0_0,.int .i64 a0_1,.slice A0_2 l0_2.length c0_2,.slice A0_3 l0_3.length c0_3,.slice A0_4 l0_4.length c0_4,.slice A0_5 l0_5.length c0_5]) (t:=33) ?_;intro gb266 hg w5 hbox hb;have BK266:=Aside0.mk (hbox);have GW266 : Aside0 (w.heap.size ≤ gb266):=gsz hg;have GE266:=GW266;replace HB:=hbs hb;clear hb hbox hg;obtain ⟨_,_,_,_,_,_,_,_,_,_,_,_⟩:=cells6 BK266.out)|(go_at_call 36;(with_reducible refine (road_Validate.calls k a0_0 a0_1 _ _ l0_2 _ _ l0_3 t267 _ ?_ ?_ ?_ ?_ A2.out).mono ?_);exact cq HR0_2;exact HC0_2.out;exact cq HR0_3;exact HC0_3.out;rintro e w7 ⟨rfl,hb⟩;replace BK266:=bkb BK266 hb;replace HB:=hbs hb;obtain ⟨_,_,_,_,_,_,_,_,_,_,_,_⟩:=cells6 BK266.out))
  go_ret
  exact ⟨er_,hb_⟩
 rw [if_neg c4] at H
 have c4b0 : decide (60 < (l0_5.length : Int)) = false:=decide_eq_false c4
 have c4b1 : decide (60 < l0_5.length) = false:=decide_eq_false (by omega)
 clear c4
 have H':=Aside0.mk H
 clear H
 go_enter Try.func18,Try.ntmps18
 go_wp2_with (first|((with_reducible refine gate_dst (N:=1) rfl ?_);refine box_ev (N:=1) (cs:=#[.int .i64 a0_0,.int .i64 a0_1,.slice A0_2 l0_2.length c0_2,.slice A0_3 l0_3.length c0_3,.slice A0_4 l0_4.length c0_4,.slice A0_5 l0_5.length c0_5]) (t:=33) ?_;intro gb266 hg w9 hbox hb;have BK266:=Aside0.mk (hbox);have GW266 : Aside0 (w.heap.size ≤ gb266):=gsz hg;have GE266:=GW266;replace HB:=hbs hb;clear hb hbox hg;obtain ⟨_,_,_,_,_,_,_,_,_,_,_,_⟩:=cells6 BK266.out)|(go_at_call 36;(with_reducible refine (road_Validate.calls k a0_0 a0_1 _ _ l0_2 _ _ l0_3 t267 _ ?_ ?_ ?_ ?_ A2.out).mono ?_);exact cq HR0_2;exact HC0_2.out;exact cq HR0_3;exact HC0_3.out;rintro e w11 ⟨rfl,hb⟩;replace BK266:=bkb BK266 hb;replace HB:=hbs hb;obtain ⟨_,_,_,_,_,_,_,_,_,_,_,_⟩:=cells6 BK266.out))
 go_loopg [20] k (fun kq v20 w' => ∃ (x20_1 : Int),v20 = .int .i64 x20_1 ∧ Aside0 (lane_Validate.l0 kq (l0_4.length : Int) x20_1 a0_0 a0_1 l0_2 l0_3 l0_4 l0_5 = some r) ∧ Aside0 (kq ≤ k) ∧ Aside0 (w'.heap[gb266]? = some (.cells #[.int .i64 a0_0,.int .i64 a0_1,(.slice A0_2 l0_2.length c0_2),(.slice A0_3 l0_3.length c0_3),(.slice A0_4 l0_4.length c0_4),(.slice A0_5 l0_5.length c0_5)] 33 (0,0))) ∧ Aside0 (Below w.heap.size w w'))
 case atStart => exact ⟨(0),(by first|rfl|(simp;done)|(simp [*];done)),H',⟨Nat.le_refl _⟩,⟨blk_up BK266.out⟩,⟨hb_⟩⟩
 case round =>
  clear H'
  obtain ⟨x20_1,rfl,HA,HK1,BK266,HB⟩:=hrel
  cases gk with
  | zero => exact absurd HA.out (by simp [lane_Validate.l0])
  | succ k1 =>
   have H:=HA.out
   clear HA
   simp only [lane_Validate.l0] at H
   by_cases c13 : x20_1 < (l0_4.length : Int)
   ·rw [if_pos c13] at H
    have c13b0 : decide (x20_1 < (l0_4.length : Int)) = true:=decide_eq_true c13
    clear c13
    by_cases c14 : x20_1 > 0
    rotate_left
    ·rw [if_neg c14] at H
     have c14b0 : decide (0 < x20_1) = false:=decide_eq_false c14
     clear c14
     have H':=Aside0.mk H
     clear H
     go_wp2
     go_quiet (fail)
     go_wp2
     go_roundg k1
     case measure => have:=HK1.out;omega
     case rel => exact ⟨(wrap64 (x20_1 + 1)),(by first|rfl|(simp;done)|(simp [*];done)),H',⟨by have:=HK1.out;omega⟩,⟨blk_up BK266.out⟩,⟨hb_⟩⟩
    rw [if_pos c14] at H
    have c14b0 : decide (0 < x20_1) = true:=decide_eq_true c14
    clear c14
    obtain ⟨ji15,hji15⟩ : ∃ j_ : Int,(wrap64 (x20_1 - 1)) = j_:=⟨_,rfl⟩
    replace H : (if 0 ≤ (ji15) then (if (ji15) < (l0_4.length : Int) then (if 0 ≤ x20_1 then (if x20_1 < (l0_4.length : Int) then (if (rd l0_4 (ji15)) ≥ (rd l0_4 x20_1) then (some 1) else (lane_Validate.l0 k1 (l0_4.length : Int) (wrap64 (x20_1 + 1)) a0_0 a0_1 l0_2 l0_3 l0_4 l0_5)) else (none)) else (none)) else (none)) else (none)) = some r:=by first|(rw [hji15] at H;exact H)|(simp only [hji15] at H ⊢;exact H)
    have hji15w : (IntKind.i64.wrap (x20_1 - 1)) = ji15:=(i64_w _).trans hji15
    replace H:=ifp_ H;obtain ⟨c16,H⟩:=H
    have c16b0 : decide (0 ≤ (ji15)) = true:=decide_eq_true c16
    clear c16
    replace H:=ifp_ H;obtain ⟨c17,H⟩:=H
    have c17b0 : decide ((ji15) < (l0_4.length : Int)) = true:=decide_eq_true c17
    clear c17
    replace H:=ifp_ H;obtain ⟨c18,H⟩:=H
    have c18b0 : decide (0 ≤ x20_1) = true:=decide_eq_true c18
    clear c18
    replace H:=ifp_ H;obtain ⟨c19,H⟩:=H
    have c19b0 : decide (x20_1 < (l0_4.length : Int)) = true:=decide_eq_true c19
    clear c19
    by_cases c20 : (rd l0_4 (ji15)) ≥ (rd l0_4 x20_1)
    ·rw [if_pos c20] at H
     have c20b0 : decide ((rd l0_4 x20_1) ≤ (rd l0_4 (ji15))) = true:=decide_eq_true c20
     clear c20
     obtain rfl:=Option.some.inj H
     obtain ⟨_,_,_,_,_,_,_,_,_,_,_,_⟩:=cells6 BK266.out
     have p268 : 0 ≤ ((ji15) : Int):=of_decide_eq_true (by first|(with_reducible assumption)|assumption)
     have q268 : (ji15) < (l0_4.length : Int):=of_decide_eq_true (by first|(with_reducible assumption)|assumption)
     obtain ⟨ad268,e268,hx268_0⟩:=Kd.at_int HR0_4.out (ji15) p268 q268
     cases e268
     replace hx268_0:=(HB.out.cell (World.block_lt_of_cell? w _ hx268_0)).trans hx268_0
     replace p268:=eq_true p268
     replace q268:=eq_true q268
     have p269 : 0 ≤ (x20_1 : Int):=of_decide_eq_true (by first|(with_reducible assumption)|assumption)
     have q269 : x20_1 < (l0_4.length : Int):=of_decide_eq_true (by first|(with_reducible assumption)|assumption)
     obtain ⟨ad269,e269,hx269_0⟩:=Kd.at_int HR0_4.out x20_1 p269 q269
     obtain rfl : ad268 = ad269:=(by injection e269)
     replace hx269_0:=(HB.out.cell (World.block_lt_of_cell? w _ hx269_0)).trans hx269_0
     replace p269:=eq_true p269
     replace q269:=eq_true q269
     go_wp2
     go_quiet (fail)
     go_wp2
     go_ret
     exact ⟨by first|rfl|(simp [errW_none,errW_some] <;> rfl)|(simp only [← hji15];first|rfl|(simp [errW_none,errW_some] <;> rfl))|(simp [*,errW_none,errW_some] <;> rfl),hb_⟩
    ·rw [if_neg c20] at H
     have c20b0 : decide ((rd l0_4 x20_1) ≤ (rd l0_4 (ji15))) = false:=decide_eq_false c20
     clear c20
     have H':=Aside0.mk H
     clear H
     obtain ⟨_,_,_,_,_,_,_,_,_,_,_,_⟩:=cells6 BK266.out
     have p268 : 0 ≤ ((ji15) : Int):=of_decide_eq_true (by first|(with_reducible assumption)|assumption)
     have q268 : (ji15) < (l0_4.length : Int):=of_decide_eq_true (by first|(with_reducible assumption)|assumption)
     obtain ⟨ad268,e268,hx268_0⟩:=Kd.at_int HR0_4.out (ji15) p268 q268
     cases e268
     replace hx268_0:=(HB.out.cell (World.block_lt_of_cell? w _ hx268_0)).trans hx268_0
     replace p268:=eq_true p268
     replace q268:=eq_true q268
     have p269 : 0 ≤ (x20_1 : Int):=of_decide_eq_true (by first|(with_reducible assumption)|assumption)
     have q269 : x20_1 < (l0_4.length : Int):=of_decide_eq_true (by first|(with_reducible assumption)|assumption)
     obtain ⟨ad269,e269,hx269_0⟩:=Kd.at_int HR0_4.out x20_1 p269 q269
     obtain rfl : ad268 = ad269:=(by injection e269)
     replace hx269_0:=(HB.out.cell (World.block_lt_of_cell? w _ hx269_0)).trans hx269_0
     replace p269:=eq_true p269
     replace q269:=eq_true q269
     go_wp2
     go_quiet (fail)
     go_wp2
     go_roundg k1
     case measure => have:=HK1.out;omega
     case rel => exact ⟨(wrap64 (x20_1 + 1)),(by first|rfl|(simp;done)|(simp [*];done)),H',⟨by have:=HK1.out;omega⟩,⟨blk_up BK266.out⟩,⟨hb_⟩⟩
   rw [if_neg c13] at H
   have c13b0 : decide (x20_1 < (l0_4.length : Int)) = false:=decide_eq_false c13
   clear c13
   have H':=Aside0.mk H
   clear H
   obtain ⟨_,_,_,_,_,_,_,_,_,_,_,_⟩:=cells6 BK266.out
   go_wp2
   go_loopg [43] k1 (fun kq v43 w' => ∃ (x43_2 : Int),v43 = .int .i64 x43_2 ∧ Aside0 (lane_Validate.l1 kq l0_5 (l0_5.length : Int) x43_2 a0_0 a0_1 l0_2 l0_3 l0_4 l0_5 = some r) ∧ Aside0 (kq ≤ k1) ∧ Aside0 (w'.heap[gb266]? = some (.cells #[.int .i64 a0_0,.int .i64 a0_1,(.slice A0_2 l0_2.length c0_2),(.slice A0_3 l0_3.length c0_3),(.slice A0_4 l0_4.length c0_4),(.slice A0_5 l0_5.length c0_5)] 33 (0,0))) ∧ Aside0 (Below w.heap.size w w'))
   case atStart => exact ⟨(0),(by first|rfl|(simp;done)|(simp [*];done)),H',⟨Nat.le_refl _⟩,⟨blk_up BK266.out⟩,⟨hb_⟩⟩
   case round =>
    clear H'
    obtain ⟨x43_2,rfl,HA,HK2,BK266,HB⟩:=hrel
    cases gk with
    | zero => exact absurd HA.out (by simp [lane_Validate.l1])
    | succ k2 =>
     have H:=HA.out
     clear HA
     simp only [lane_Validate.l1] at H
     by_cases c24 : x43_2 < (l0_5.length : Int)
     rotate_left
     ·rw [if_neg c24] at H
      have c24b0 : decide (x43_2 < (l0_5.length : Int)) = false:=decide_eq_false c24
      clear c24
      replace H:=Option.bind_eq_some_iff.mp H
      obtain ⟨t273,A350,H⟩:=H
      replace H : (some t273) = some r:=H
      have A35:=Aside0.mk A350
      clear A350
      obtain rfl:=Option.some.inj H
      obtain ⟨_,_,_,_,_,_,_,_,_,_,_,_⟩:=cells6 BK266.out
      go_wp2_with (first|(go_at_call 43;(with_reducible refine (lane_stand.calls k2 a0_0 a0_1 _ _ l0_2 _ _ l0_3 _ _ l0_4 _ _ l0_5 t273 _ ?_ ?_ ?_ ?_ ?_ ?_ ?_ ?_ A35.out).mono ?_);exact cq HR0_2;exact HC0_2.out;exact cq HR0_3;exact HC0_3.out;exact cq HR0_4;exact HC0_4.out;exact cq HR0_5;exact HC0_5.out;rintro e w37 ⟨rfl,hb⟩;replace BK266:=bkb BK266 hb;replace HB:=hbs hb))
      go_ret
      exact ⟨er_,hb_⟩
     rw [if_pos c24] at H
     have c24b0 : decide (x43_2 < (l0_5.length : Int)) = true:=decide_eq_true c24
     clear c24
     replace H:=ifp_ H;obtain ⟨c25,H⟩:=H
     have c25b0 : decide (0 ≤ x43_2) = true:=decide_eq_true c25
     clear c25
     replace H:=ifp_ H;obtain ⟨c26,H⟩:=H
     have c26b0 : decide (x43_2 < (l0_5.length : Int)) = true:=decide_eq_true c26
     clear c26
     replace H:=Option.bind_eq_some_iff.mp H
     obtain ⟨t272,A270,H⟩:=H
     replace H : (if t272 = true then (lane_Validate.l1 k2 l0_5 (l0_5.length : Int) (wrap64 (x43_2 + 1)) a0_0 a0_1 l0_2 l0_3 l0_4 l0_5) else (some 1)) = some r:=H
     have A27:=Aside0.mk A270
     clear A270
     by_cases c28 : t272 = true
     ·subst c28
      have H1 : (lane_Validate.l1 k2 l0_5 (l0_5.length : Int) (wrap64 (x43_2 + 1)) a0_0 a0_1 l0_2 l0_3 l0_4 l0_5) = some r:=by rw [if_pos rfl] at H;exact H
      clear H
      have H:=H1
      clear H1
      have H':=Aside0.mk H
      clear H
      have p270 : 0 ≤ (x43_2 : Int):=of_decide_eq_true (by first|(with_reducible assumption)|assumption)
      have q270 : x43_2 < (l0_5.length : Int):=of_decide_eq_true (by first|(with_reducible assumption)|assumption)
      obtain ⟨ad270,e270,hx270_0,hx270_1,hx270_2,hx270_3,hx270_4⟩:=at_T50 HR0_5.out x43_2 p270 q270
      cases e270
      replace hx270_0:=(HB.out.cell (World.block_lt_of_cell? w _ hx270_0)).trans hx270_0
      replace hx270_1:=(HB.out.cell (World.block_lt_of_cell? w _ hx270_1)).trans hx270_1
      replace hx270_2:=(HB.out.cell (World.block_lt_of_cell? w _ hx270_2)).trans hx270_2
      replace hx270_3:=(HB.out.cell (World.block_lt_of_cell? w _ hx270_3)).trans hx270_3
      replace hx270_4:=(HB.out.cell (World.block_lt_of_cell? w _ hx270_4)).trans hx270_4
      replace p270:=eq_true p270
      replace q270:=eq_true q270
      go_wp2_with (first|((with_reducible refine gate_dst (N:=6) rfl ?_);refine box_ev (N:=6) (cs:=#[.int .i64 0,.int .i64 0,.int .i64 0,.int .i64 0,.int .i64 0]) (t:=50) ?_;intro gb271 hg w29 hbox hb;have BK271:=Aside0.mk (hbox);have GW271 : Aside0 (w.heap.size ≤ gb271):=gsz hg;have GE271:=GW271;have NB266_271:=nbl BK266 hg;have NB271_266:=nbr BK266 hg;replace BK266:=bkb BK266 hb;replace HB:=hbs hb;clear hb hbox hg;have hnb30:=NB271_266.out;have hnc30:=NB266_271.out;obtain ⟨_,_,_,_,_,_,_,_,_,_⟩:=cells5 BK271.out)|(go_at_call 42;(with_reducible refine (lane_moves.calls ((rd_T50 l0_5 x43_2).f0) ((rd_T50 l0_5 x43_2).f1) ((rd_T50 l0_5 x43_2).f2) ((rd_T50 l0_5 x43_2).f3) ((rd_T50 l0_5 x43_2).f4) true _ A27.out).mono ?_);rintro e w' ⟨rfl,⟨nd,rfl⟩⟩;(try first|exact ⟨rfl,_,World.drewN_drewN _ _ _⟩|exact ⟨rfl,_,Eq.trans (World.drewN_drewN _ _ _) (congrArg (World.drewN _) (Nat.add_assoc _ _ _))⟩)))
      go_roundg k2
      case measure => have:=HK1.out;have:=HK2.out;omega
      case rel => exact ⟨(wrap64 (x43_2 + 1)),(by first|rfl|(simp;done)|(simp [*];done)),H',⟨by have:=HK1.out;have:=HK2.out;omega⟩,⟨by (with_reducible repeat (first|refine blk_drewN ?_ _|refine blk_drew ?_|refine blk_alloc ?_ _));refine blk_far ?_ NB266_271.out _;(with_reducible repeat (first|refine blk_drewN ?_ _|refine blk_drew ?_|refine blk_alloc ?_ _));refine blk_far ?_ NB266_271.out _;(with_reducible repeat (first|refine blk_drewN ?_ _|refine blk_drew ?_|refine blk_alloc ?_ _));refine blk_far ?_ NB266_271.out _;(with_reducible repeat (first|refine blk_drewN ?_ _|refine blk_drew ?_|refine blk_alloc ?_ _));refine blk_far ?_ NB266_271.out _;(with_reducible repeat (first|refine blk_drewN ?_ _|refine blk_drew ?_|refine blk_alloc ?_ _));refine blk_far ?_ NB266_271.out _;(with_reducible repeat (first|refine blk_drewN ?_ _|refine blk_drew ?_|refine blk_alloc ?_ _));exact BK266.out⟩,⟨hb_⟩⟩
     ·replace c28:=Bool.eq_false_iff.mpr c28
      subst c28
      have H1 : (some 1) = some r:=by rw [if_neg (show ¬ (false = true) by decide)] at H;exact H
      clear H
      have H:=H1
      clear H1
      obtain rfl:=Option.some.inj H
      have p270 : 0 ≤ (x43_2 : Int):=of_decide_eq_true (by first|(with_reducible assumption)|assumption)
      have q270 : x43_2 < (l0_5.length : Int):=of_decide_eq_true (by first|(with_reducible assumption)|assumption)
      obtain ⟨ad270,e270,hx270_0,hx270_1,hx270_2,hx270_3,hx270_4⟩:=at_T50 HR0_5.out x43_2 p270 q270
      cases e270
      replace hx270_0:=(HB.out.cell (World.block_lt_of_cell? w _ hx270_0)).trans hx270_0
      replace hx270_1:=(HB.out.cell (World.block_lt_of_cell? w _ hx270_1)).trans hx270_1
      replace hx270_2:=(HB.out.cell (World.block_lt_of_cell? w _ hx270_2)).trans hx270_2
      replace hx270_3:=(HB.out.cell (World.block_lt_of_cell? w _ hx270_3)).trans hx270_3
      replace hx270_4:=(HB.out.cell (World.block_lt_of_cell? w _ hx270_4)).trans hx270_4
      replace p270:=eq_true p270
      replace q270:=eq_true q270
      go_wp2_with (first|((with_reducible refine gate_dst (N:=6) rfl ?_);refine box_ev (N:=6) (cs:=#[.int .i64 0,.int .i64 0,.int .i64 0,.int .i64 0,.int .i64 0]) (t:=50) ?_;intro gb271 hg w32 hbox hb;have BK271:=Aside0.mk (hbox);have GW271 : Aside0 (w.heap.size ≤ gb271):=gsz hg;have GE271:=GW271;have NB266_271:=nbl BK266 hg;have NB271_266:=nbr BK266 hg;replace BK266:=bkb BK266 hb;replace HB:=hbs hb;clear hb hbox hg;have hnb33:=NB271_266.out;have hnc33:=NB266_271.out;obtain ⟨_,_,_,_,_,_,_,_,_,_⟩:=cells5 BK271.out)|(go_at_call 42;(with_reducible refine (lane_moves.calls ((rd_T50 l0_5 x43_2).f0) ((rd_T50 l0_5 x43_2).f1) ((rd_T50 l0_5 x43_2).f2) ((rd_T50 l0_5 x43_2).f3) ((rd_T50 l0_5 x43_2).f4) false _ A27.out).mono ?_);rintro e w' ⟨rfl,⟨nd,rfl⟩⟩;(try first|exact ⟨rfl,_,World.drewN_drewN _ _ _⟩|exact ⟨rfl,_,Eq.trans (World.drewN_drewN _ _ _) (congrArg (World.drewN _) (Nat.add_assoc _ _ _))⟩)))
      go_ret
      exact ⟨er_,hb_⟩

end Go.Proofs.Ythjmdpekcleihaa.P

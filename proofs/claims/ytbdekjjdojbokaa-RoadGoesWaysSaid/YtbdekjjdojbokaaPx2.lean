/- Functions of this seat as plain Lean functions, with proofs that the Go code comes to just their answers, or what stands between them and a law's statement; no conditions. (Laid by a program of this session, out of the kit's print.) -/
import Derived.Test.YtbdekjjdojbokaaPx0
import Derived.Test.YtbdekjjdojbokaaPx1
namespace Go.Proofs.Ytbdekjjdojbokaa.P
open Go.RowKit Go.Proofs.YtbdekjjdojbokaaW.PrintWords Go.Proofs.YtbdekjjdojbokaaW.PrintLast Go.Proofs.YtbdekjjdojbokaaW.PrintMore
attribute [local go_sem] max2_int min2_int max_two min_two max_three min_three max_four min_four   -- for this text's walks alone
set_option linter.unusedVariables false
set_option linter.unusedSimpArgs false

/-! ### road_beyond: function 51 -/
def road_beyond.f (a0_0 : Int) (a0_1 : Int) (l0_2 : List Int) (l0_3 : List Int) (a1 : Int) (a2 : Int) : Option (Int) := if a0_0 = 0 then (none) else (if a2 = 0 then (if (wrap64 ((Int.tmod a1 a0_0) + 1)) < 0 then (some (-1)) else (if (wrap64 ((Int.tmod a1 a0_0) + 1)) ≥ a0_0 then (some (-1)) else (if (wrap64 (Int.tdiv a1 a0_0)) < 0 then (some (-1)) else (if (wrap64 (Int.tdiv a1 a0_0)) ≥ a0_1 then (some (-1)) else (some (wrap64 ((wrap64 ((wrap64 (Int.tdiv a1 a0_0)) * a0_0)) + (wrap64 ((Int.tmod a1 a0_0) + 1))))))))) else (if a2 = 1 then (if (Int.tmod a1 a0_0) < 0 then (some (-1)) else (if (Int.tmod a1 a0_0) ≥ a0_0 then (some (-1)) else (if (wrap64 ((wrap64 (Int.tdiv a1 a0_0)) + 1)) < 0 then (some (-1)) else (if (wrap64 ((wrap64 (Int.tdiv a1 a0_0)) + 1)) ≥ a0_1 then (some (-1)) else (some (wrap64 ((wrap64 ((wrap64 ((wrap64 (Int.tdiv a1 a0_0)) + 1)) * a0_0)) + (Int.tmod a1 a0_0)))))))) else (if a2 = 2 then (if (wrap64 ((Int.tmod a1 a0_0) - 1)) < 0 then (some (-1)) else (if (wrap64 ((Int.tmod a1 a0_0) - 1)) ≥ a0_0 then (some (-1)) else (if (wrap64 (Int.tdiv a1 a0_0)) < 0 then (some (-1)) else (if (wrap64 (Int.tdiv a1 a0_0)) ≥ a0_1 then (some (-1)) else (some (wrap64 ((wrap64 ((wrap64 (Int.tdiv a1 a0_0)) * a0_0)) + (wrap64 ((Int.tmod a1 a0_0) - 1))))))))) else (if (Int.tmod a1 a0_0) < 0 then (some (-1)) else (if (Int.tmod a1 a0_0) ≥ a0_0 then (some (-1)) else (if (wrap64 ((wrap64 (Int.tdiv a1 a0_0)) - 1)) < 0 then (some (-1)) else (if (wrap64 ((wrap64 (Int.tdiv a1 a0_0)) - 1)) ≥ a0_1 then (some (-1)) else (some (wrap64 ((wrap64 ((wrap64 ((wrap64 (Int.tdiv a1 a0_0)) - 1)) * a0_0)) + (Int.tmod a1 a0_0)))))))))))
set_option maxHeartbeats 8000000 in
set_option maxRecDepth 100000 in
theorem road_beyond.calls (a0_0 : Int) (a0_1 : Int) (A0_2 : Option Addr) (c0_2 : Nat) (l0_2 : List Int) (A0_3 : Option Addr) (c0_3 : Nat) (l0_3 : List Int) (a1 : Int) (a2 : Int) (r : Int) (w : World) (hr0_2 : Kd.C (Kd.int .i64) w A0_2 l0_2.length l0_2) (hc0_2 : l0_2.length ≤ c0_2) (hr0_3 : Kd.C (Kd.int .i64) w A0_3 l0_3.length l0_3) (hc0_3 : l0_3.length ≤ c0_3) (h : road_beyond.f a0_0 a0_1 l0_2 l0_3 a1 a2 = some r) :
  Calls Try.prog 51 #[.agg #[.int .i64 a0_0,.int .i64 a0_1,.slice A0_2 l0_2.length c0_2,.slice A0_3 l0_3.length c0_3],.int .i64 a1,.int .i64 a2] w fun e w' => e = .returned (.int .i64 r) ∧ Below w.heap.size w w':=by
 have hu24:=Try.underlying24
 have HR0_2:=Aside0.mk hr0_2
 have HC0_2:=Aside0.mk hc0_2
 clear hr0_2 hc0_2
 have HR0_3:=Aside0.mk hr0_3
 have HC0_3:=Aside0.mk hc0_3
 clear hr0_3 hc0_3
 have HB:=Aside0.mk (Below.refl w.heap.size w)
 have H : (if a0_0 = 0 then (none) else (if a2 = 0 then (if (wrap64 ((Int.tmod a1 a0_0) + 1)) < 0 then (some (-1)) else (if (wrap64 ((Int.tmod a1 a0_0) + 1)) ≥ a0_0 then (some (-1)) else (if (wrap64 (Int.tdiv a1 a0_0)) < 0 then (some (-1)) else (if (wrap64 (Int.tdiv a1 a0_0)) ≥ a0_1 then (some (-1)) else (some (wrap64 ((wrap64 ((wrap64 (Int.tdiv a1 a0_0)) * a0_0)) + (wrap64 ((Int.tmod a1 a0_0) + 1))))))))) else (if a2 = 1 then (if (Int.tmod a1 a0_0) < 0 then (some (-1)) else (if (Int.tmod a1 a0_0) ≥ a0_0 then (some (-1)) else (if (wrap64 ((wrap64 (Int.tdiv a1 a0_0)) + 1)) < 0 then (some (-1)) else (if (wrap64 ((wrap64 (Int.tdiv a1 a0_0)) + 1)) ≥ a0_1 then (some (-1)) else (some (wrap64 ((wrap64 ((wrap64 ((wrap64 (Int.tdiv a1 a0_0)) + 1)) * a0_0)) + (Int.tmod a1 a0_0)))))))) else (if a2 = 2 then (if (wrap64 ((Int.tmod a1 a0_0) - 1)) < 0 then (some (-1)) else (if (wrap64 ((Int.tmod a1 a0_0) - 1)) ≥ a0_0 then (some (-1)) else (if (wrap64 (Int.tdiv a1 a0_0)) < 0 then (some (-1)) else (if (wrap64 (Int.tdiv a1 a0_0)) ≥ a0_1 then (some (-1)) else (some (wrap64 ((wrap64 ((wrap64 (Int.tdiv a1 a0_0)) * a0_0)) + (wrap64 ((Int.tmod a1 a0_0) - 1))))))))) else (if (Int.tmod a1 a0_0) < 0 then (some (-1)) else (if (Int.tmod a1 a0_0) ≥ a0_0 then (some (-1)) else (if (wrap64 ((wrap64 (Int.tdiv a1 a0_0)) - 1)) < 0 then (some (-1)) else (if (wrap64 ((wrap64 (Int.tdiv a1 a0_0)) - 1)) ≥ a0_1 then (some (-1)) else (some (wrap64 ((wrap64 ((wrap64 ((wrap64 (Int.tdiv a1 a0_0)) - 1)) * a0_0)) + (Int.tmod a1 a0_0)))))))))))) = some r:=h
 clear h
 replace H:=ifn_ H;obtain ⟨c4,H⟩:=H
 have c4b0 : (a0_0 == 0) = false:=beq_eq_false_iff_ne.mpr c4
 have c4b1 : (a0_0 != 0) = true:=bne_iff_ne.mpr c4
 by_cases c5 : a2 = 0
 ·rw [if_pos c5] at H
  have c5b0 : (a2 == 0) = true:=beq_iff_eq.mpr c5
  have c5b1 : (a2 != 0) = false:=bne_eq_false_iff_eq.mpr c5
  clear c5
  by_cases c6 : (wrap64 ((Int.tmod a1 a0_0) + 1)) < 0
  ·rw [if_pos c6] at H
   have c6b0 : decide ((wrap64 ((Int.tmod a1 a0_0) + 1)) < 0) = true:=decide_eq_true c6
   clear c6
   obtain rfl:=Option.some.inj H
   go_enter Try.func51,Try.ntmps51
   go_wp2_with (first|((with_reducible refine gate_dst (N:=3) rfl ?_);refine box_ev (N:=3) (cs:=#[.int .i64 a0_0,.int .i64 a0_1,.slice A0_2 l0_2.length c0_2,.slice A0_3 l0_3.length c0_3]) (t:=24) ?_;intro gb112 hg w7 hbox hb;have BK112:=Aside0.mk (hbox);have GW112 : Aside0 (w.heap.size ≤ gb112):=gsz hg;have GE112:=GW112;replace HB:=Aside0.mk (below_step (hb_) hb);clear hb hbox hg;obtain ⟨hcz8_0,hcz8_1,hcz8_2,hcz8_3,hfz8_0,hfz8_1,hfz8_2,hfz8_3⟩:=cells4 BK112.out))
   go_quiet (fail)
   go_wp2
   go_ret
   exact ⟨by first|rfl|(simp [errW_none,errW_some] <;> rfl)|(simp [*,errW_none,errW_some] <;> rfl),hb_⟩
  rw [if_neg c6] at H
  have c6b0 : decide ((wrap64 ((Int.tmod a1 a0_0) + 1)) < 0) = false:=decide_eq_false c6
  clear c6
  by_cases c9 : (wrap64 ((Int.tmod a1 a0_0) + 1)) ≥ a0_0
  ·rw [if_pos c9] at H
   have c9b0 : decide (a0_0 ≤ (wrap64 ((Int.tmod a1 a0_0) + 1))) = true:=decide_eq_true c9
   clear c9
   obtain rfl:=Option.some.inj H
   go_enter Try.func51,Try.ntmps51
   go_wp2_with (first|((with_reducible refine gate_dst (N:=3) rfl ?_);refine box_ev (N:=3) (cs:=#[.int .i64 a0_0,.int .i64 a0_1,.slice A0_2 l0_2.length c0_2,.slice A0_3 l0_3.length c0_3]) (t:=24) ?_;intro gb112 hg w10 hbox hb;have BK112:=Aside0.mk (hbox);have GW112 : Aside0 (w.heap.size ≤ gb112):=gsz hg;have GE112:=GW112;replace HB:=Aside0.mk (below_step (hb_) hb);clear hb hbox hg;obtain ⟨hcz11_0,hcz11_1,hcz11_2,hcz11_3,hfz11_0,hfz11_1,hfz11_2,hfz11_3⟩:=cells4 BK112.out))
   go_quiet (fail)
   go_wp2
   go_ret
   exact ⟨by first|rfl|(simp [errW_none,errW_some] <;> rfl)|(simp [*,errW_none,errW_some] <;> rfl),hb_⟩
  rw [if_neg c9] at H
  have c9b0 : decide (a0_0 ≤ (wrap64 ((Int.tmod a1 a0_0) + 1))) = false:=decide_eq_false c9
  clear c9
  by_cases c12 : (wrap64 (Int.tdiv a1 a0_0)) < 0
  ·rw [if_pos c12] at H
   have c12b0 : decide ((wrap64 (Int.tdiv a1 a0_0)) < 0) = true:=decide_eq_true c12
   clear c12
   obtain rfl:=Option.some.inj H
   go_enter Try.func51,Try.ntmps51
   go_wp2_with (first|((with_reducible refine gate_dst (N:=3) rfl ?_);refine box_ev (N:=3) (cs:=#[.int .i64 a0_0,.int .i64 a0_1,.slice A0_2 l0_2.length c0_2,.slice A0_3 l0_3.length c0_3]) (t:=24) ?_;intro gb112 hg w13 hbox hb;have BK112:=Aside0.mk (hbox);have GW112 : Aside0 (w.heap.size ≤ gb112):=gsz hg;have GE112:=GW112;replace HB:=Aside0.mk (below_step (hb_) hb);clear hb hbox hg;obtain ⟨hcz14_0,hcz14_1,hcz14_2,hcz14_3,hfz14_0,hfz14_1,hfz14_2,hfz14_3⟩:=cells4 BK112.out))
   go_quiet (fail)
   go_wp2
   go_ret
   exact ⟨by first|rfl|(simp [errW_none,errW_some] <;> rfl)|(simp [*,errW_none,errW_some] <;> rfl),hb_⟩
  ·rw [if_neg c12] at H
   have c12b0 : decide ((wrap64 (Int.tdiv a1 a0_0)) < 0) = false:=decide_eq_false c12
   clear c12
   by_cases c15 : (wrap64 (Int.tdiv a1 a0_0)) ≥ a0_1
   ·rw [if_pos c15] at H
    have c15b0 : decide (a0_1 ≤ (wrap64 (Int.tdiv a1 a0_0))) = true:=decide_eq_true c15
    clear c15
    obtain rfl:=Option.some.inj H
    go_enter Try.func51,Try.ntmps51
    go_wp2_with (first|((with_reducible refine gate_dst (N:=3) rfl ?_);refine box_ev (N:=3) (cs:=#[.int .i64 a0_0,.int .i64 a0_1,.slice A0_2 l0_2.length c0_2,.slice A0_3 l0_3.length c0_3]) (t:=24) ?_;intro gb112 hg w16 hbox hb;have BK112:=Aside0.mk (hbox);have GW112 : Aside0 (w.heap.size ≤ gb112):=gsz hg;have GE112:=GW112;replace HB:=Aside0.mk (below_step (hb_) hb);clear hb hbox hg;obtain ⟨hcz17_0,hcz17_1,hcz17_2,hcz17_3,hfz17_0,hfz17_1,hfz17_2,hfz17_3⟩:=cells4 BK112.out))
    go_quiet (fail)
    go_wp2
    go_ret
    exact ⟨by first|rfl|(simp [errW_none,errW_some] <;> rfl)|(simp [*,errW_none,errW_some] <;> rfl),hb_⟩
   ·rw [if_neg c15] at H
    have c15b0 : decide (a0_1 ≤ (wrap64 (Int.tdiv a1 a0_0))) = false:=decide_eq_false c15
    clear c15
    obtain rfl:=Option.some.inj H
    go_enter Try.func51,Try.ntmps51
    go_wp2_with (first|((with_reducible refine gate_dst (N:=3) rfl ?_);refine box_ev (N:=3) (cs:=#[.int .i64 a0_0,.int .i64 a0_1,.slice A0_2 l0_2.length c0_2,.slice A0_3 l0_3.length c0_3]) (t:=24) ?_;intro gb112 hg w18 hbox hb;have BK112:=Aside0.mk (hbox);have GW112 : Aside0 (w.heap.size ≤ gb112):=gsz hg;have GE112:=GW112;replace HB:=Aside0.mk (below_step (hb_) hb);clear hb hbox hg;obtain ⟨hcz19_0,hcz19_1,hcz19_2,hcz19_3,hfz19_0,hfz19_1,hfz19_2,hfz19_3⟩:=cells4 BK112.out))
    go_quiet (fail)
    go_wp2
    go_ret
    exact ⟨by first|rfl|(simp [errW_none,errW_some] <;> rfl)|(simp [*,errW_none,errW_some] <;> rfl),hb_⟩
 rw [if_neg c5] at H
 have c5b0 : (a2 == 0) = false:=beq_eq_false_iff_ne.mpr c5
 have c5b1 : (a2 != 0) = true:=bne_iff_ne.mpr c5
 by_cases c20 : a2 = 1
 ·rw [if_pos c20] at H
  have c20b0 : (a2 == 1) = true:=beq_iff_eq.mpr c20
  have c20b1 : (a2 != 1) = false:=bne_eq_false_iff_eq.mpr c20
  clear c20
  by_cases c21 : (Int.tmod a1 a0_0) < 0
  ·rw [if_pos c21] at H
   have c21b0 : decide ((Int.tmod a1 a0_0) < 0) = true:=decide_eq_true c21
   clear c21
   obtain rfl:=Option.some.inj H
   go_enter Try.func51,Try.ntmps51
   go_wp2_with (first|((with_reducible refine gate_dst (N:=3) rfl ?_);refine box_ev (N:=3) (cs:=#[.int .i64 a0_0,.int .i64 a0_1,.slice A0_2 l0_2.length c0_2,.slice A0_3 l0_3.length c0_3]) (t:=24) ?_;intro gb112 hg w22 hbox hb;have BK112:=Aside0.mk (hbox);have GW112 : Aside0 (w.heap.size ≤ gb112):=gsz hg;have GE112:=GW112;replace HB:=Aside0.mk (below_step (hb_) hb);clear hb hbox hg;obtain ⟨hcz23_0,hcz23_1,hcz23_2,hcz23_3,hfz23_0,hfz23_1,hfz23_2,hfz23_3⟩:=cells4 BK112.out))
   go_quiet (fail)
   go_wp2
   go_ret
   exact ⟨by first|rfl|(simp [errW_none,errW_some] <;> rfl)|(simp [*,errW_none,errW_some] <;> rfl),hb_⟩
  rw [if_neg c21] at H
  have c21b0 : decide ((Int.tmod a1 a0_0) < 0) = false:=decide_eq_false c21
  clear c21
  by_cases c24 : (Int.tmod a1 a0_0) ≥ a0_0
  ·rw [if_pos c24] at H
   have c24b0 : decide (a0_0 ≤ (Int.tmod a1 a0_0)) = true:=decide_eq_true c24
   clear c24
   obtain rfl:=Option.some.inj H
   go_enter Try.func51,Try.ntmps51
   go_wp2_with (first|((with_reducible refine gate_dst (N:=3) rfl ?_);refine box_ev (N:=3) (cs:=#[.int .i64 a0_0,.int .i64 a0_1,.slice A0_2 l0_2.length c0_2,.slice A0_3 l0_3.length c0_3]) (t:=24) ?_;intro gb112 hg w25 hbox hb;have BK112:=Aside0.mk (hbox);have GW112 : Aside0 (w.heap.size ≤ gb112):=gsz hg;have GE112:=GW112;replace HB:=Aside0.mk (below_step (hb_) hb);clear hb hbox hg;obtain ⟨hcz26_0,hcz26_1,hcz26_2,hcz26_3,hfz26_0,hfz26_1,hfz26_2,hfz26_3⟩:=cells4 BK112.out))
   go_quiet (fail)
   go_wp2
   go_ret
   exact ⟨by first|rfl|(simp [errW_none,errW_some] <;> rfl)|(simp [*,errW_none,errW_some] <;> rfl),hb_⟩
  rw [if_neg c24] at H
  have c24b0 : decide (a0_0 ≤ (Int.tmod a1 a0_0)) = false:=decide_eq_false c24
  clear c24
  by_cases c27 : (wrap64 ((wrap64 (Int.tdiv a1 a0_0)) + 1)) < 0
  ·rw [if_pos c27] at H
   have c27b0 : decide ((wrap64 ((wrap64 (Int.tdiv a1 a0_0)) + 1)) < 0) = true:=decide_eq_true c27
   clear c27
   obtain rfl:=Option.some.inj H
   go_enter Try.func51,Try.ntmps51
   go_wp2_with (first|((with_reducible refine gate_dst (N:=3) rfl ?_);refine box_ev (N:=3) (cs:=#[.int .i64 a0_0,.int .i64 a0_1,.slice A0_2 l0_2.length c0_2,.slice A0_3 l0_3.length c0_3]) (t:=24) ?_;intro gb112 hg w28 hbox hb;have BK112:=Aside0.mk (hbox);have GW112 : Aside0 (w.heap.size ≤ gb112):=gsz hg;have GE112:=GW112;replace HB:=Aside0.mk (below_step (hb_) hb);clear hb hbox hg;obtain ⟨hcz29_0,hcz29_1,hcz29_2,hcz29_3,hfz29_0,hfz29_1,hfz29_2,hfz29_3⟩:=cells4 BK112.out))
   go_quiet (fail)
   go_wp2
   go_ret
   exact ⟨by first|rfl|(simp [errW_none,errW_some] <;> rfl)|(simp [*,errW_none,errW_some] <;> rfl),hb_⟩
  ·rw [if_neg c27] at H
   have c27b0 : decide ((wrap64 ((wrap64 (Int.tdiv a1 a0_0)) + 1)) < 0) = false:=decide_eq_false c27
   clear c27
   by_cases c30 : (wrap64 ((wrap64 (Int.tdiv a1 a0_0)) + 1)) ≥ a0_1
   ·rw [if_pos c30] at H
    have c30b0 : decide (a0_1 ≤ (wrap64 ((wrap64 (Int.tdiv a1 a0_0)) + 1))) = true:=decide_eq_true c30
    clear c30
    obtain rfl:=Option.some.inj H
    go_enter Try.func51,Try.ntmps51
    go_wp2_with (first|((with_reducible refine gate_dst (N:=3) rfl ?_);refine box_ev (N:=3) (cs:=#[.int .i64 a0_0,.int .i64 a0_1,.slice A0_2 l0_2.length c0_2,.slice A0_3 l0_3.length c0_3]) (t:=24) ?_;intro gb112 hg w31 hbox hb;have BK112:=Aside0.mk (hbox);have GW112 : Aside0 (w.heap.size ≤ gb112):=gsz hg;have GE112:=GW112;replace HB:=Aside0.mk (below_step (hb_) hb);clear hb hbox hg;obtain ⟨hcz32_0,hcz32_1,hcz32_2,hcz32_3,hfz32_0,hfz32_1,hfz32_2,hfz32_3⟩:=cells4 BK112.out))
    go_quiet (fail)
    go_wp2
    go_ret
    exact ⟨by first|rfl|(simp [errW_none,errW_some] <;> rfl)|(simp [*,errW_none,errW_some] <;> rfl),hb_⟩
   ·rw [if_neg c30] at H
    have c30b0 : decide (a0_1 ≤ (wrap64 ((wrap64 (Int.tdiv a1 a0_0)) + 1))) = false:=decide_eq_false c30
    clear c30
    obtain rfl:=Option.some.inj H
    go_enter Try.func51,Try.ntmps51
    go_wp2_with (first|((with_reducible refine gate_dst (N:=3) rfl ?_);refine box_ev (N:=3) (cs:=#[.int .i64 a0_0,.int .i64 a0_1,.slice A0_2 l0_2.length c0_2,.slice A0_3 l0_3.length c0_3]) (t:=24) ?_;intro gb112 hg w33 hbox hb;have BK112:=Aside0.mk (hbox);have GW112 : Aside0 (w.heap.size ≤ gb112):=gsz hg;have GE112:=GW112;replace HB:=Aside0.mk (below_step (hb_) hb);clear hb hbox hg;obtain ⟨hcz34_0,hcz34_1,hcz34_2,hcz34_3,hfz34_0,hfz34_1,hfz34_2,hfz34_3⟩:=cells4 BK112.out))
    go_quiet (fail)
    go_wp2
    go_ret
    exact ⟨by first|rfl|(simp [errW_none,errW_some] <;> rfl)|(simp [*,errW_none,errW_some] <;> rfl),hb_⟩
 rw [if_neg c20] at H
 have c20b0 : (a2 == 1) = false:=beq_eq_false_iff_ne.mpr c20
 have c20b1 : (a2 != 1) = true:=bne_iff_ne.mpr c20
 by_cases c35 : a2 = 2
 rotate_left
 ·rw [if_neg c35] at H
  have c35b0 : (a2 == 2) = false:=beq_eq_false_iff_ne.mpr c35
  have c35b1 : (a2 != 2) = true:=bne_iff_ne.mpr c35
  by_cases c50 : (Int.tmod a1 a0_0) < 0
  ·rw [if_pos c50] at H
   have c50b0 : decide ((Int.tmod a1 a0_0) < 0) = true:=decide_eq_true c50
   clear c50
   obtain rfl:=Option.some.inj H
   go_enter Try.func51,Try.ntmps51
   go_wp2_with (first|((with_reducible refine gate_dst (N:=3) rfl ?_);refine box_ev (N:=3) (cs:=#[.int .i64 a0_0,.int .i64 a0_1,.slice A0_2 l0_2.length c0_2,.slice A0_3 l0_3.length c0_3]) (t:=24) ?_;intro gb112 hg w51 hbox hb;have BK112:=Aside0.mk (hbox);have GW112 : Aside0 (w.heap.size ≤ gb112):=gsz hg;have GE112:=GW112;replace HB:=Aside0.mk (below_step (hb_) hb);clear hb hbox hg;obtain ⟨hcz52_0,hcz52_1,hcz52_2,hcz52_3,hfz52_0,hfz52_1,hfz52_2,hfz52_3⟩:=cells4 BK112.out))
   go_quiet (fail)
   go_wp2
   go_ret
   exact ⟨by first|rfl|(simp [errW_none,errW_some] <;> rfl)|(simp [*,errW_none,errW_some] <;> rfl),hb_⟩
  rw [if_neg c50] at H
  have c50b0 : decide ((Int.tmod a1 a0_0) < 0) = false:=decide_eq_false c50
  clear c50
  by_cases c53 : (Int.tmod a1 a0_0) ≥ a0_0
  ·rw [if_pos c53] at H
   have c53b0 : decide (a0_0 ≤ (Int.tmod a1 a0_0)) = true:=decide_eq_true c53
   clear c53
   obtain rfl:=Option.some.inj H
   go_enter Try.func51,Try.ntmps51
   go_wp2_with (first|((with_reducible refine gate_dst (N:=3) rfl ?_);refine box_ev (N:=3) (cs:=#[.int .i64 a0_0,.int .i64 a0_1,.slice A0_2 l0_2.length c0_2,.slice A0_3 l0_3.length c0_3]) (t:=24) ?_;intro gb112 hg w54 hbox hb;have BK112:=Aside0.mk (hbox);have GW112 : Aside0 (w.heap.size ≤ gb112):=gsz hg;have GE112:=GW112;replace HB:=Aside0.mk (below_step (hb_) hb);clear hb hbox hg;obtain ⟨hcz55_0,hcz55_1,hcz55_2,hcz55_3,hfz55_0,hfz55_1,hfz55_2,hfz55_3⟩:=cells4 BK112.out))
   go_quiet (fail)
   go_wp2
   go_ret
   exact ⟨by first|rfl|(simp [errW_none,errW_some] <;> rfl)|(simp [*,errW_none,errW_some] <;> rfl),hb_⟩
  rw [if_neg c53] at H
  have c53b0 : decide (a0_0 ≤ (Int.tmod a1 a0_0)) = false:=decide_eq_false c53
  clear c53
  by_cases c56 : (wrap64 ((wrap64 (Int.tdiv a1 a0_0)) - 1)) < 0
  ·rw [if_pos c56] at H
   have c56b0 : decide ((wrap64 ((wrap64 (Int.tdiv a1 a0_0)) - 1)) < 0) = true:=decide_eq_true c56
   clear c56
   obtain rfl:=Option.some.inj H
   go_enter Try.func51,Try.ntmps51
   go_wp2_with (first|((with_reducible refine gate_dst (N:=3) rfl ?_);refine box_ev (N:=3) (cs:=#[.int .i64 a0_0,.int .i64 a0_1,.slice A0_2 l0_2.length c0_2,.slice A0_3 l0_3.length c0_3]) (t:=24) ?_;intro gb112 hg w57 hbox hb;have BK112:=Aside0.mk (hbox);have GW112 : Aside0 (w.heap.size ≤ gb112):=gsz hg;have GE112:=GW112;replace HB:=Aside0.mk (below_step (hb_) hb);clear hb hbox hg;obtain ⟨hcz58_0,hcz58_1,hcz58_2,hcz58_3,hfz58_0,hfz58_1,hfz58_2,hfz58_3⟩:=cells4 BK112.out))
   go_quiet (fail)
   go_wp2
   go_ret
   exact ⟨by first|rfl|(simp [errW_none,errW_some] <;> rfl)|(simp [*,errW_none,errW_some] <;> rfl),hb_⟩
  ·rw [if_neg c56] at H
   have c56b0 : decide ((wrap64 ((wrap64 (Int.tdiv a1 a0_0)) - 1)) < 0) = false:=decide_eq_false c56
   clear c56
   by_cases c59 : (wrap64 ((wrap64 (Int.tdiv a1 a0_0)) - 1)) ≥ a0_1
   ·rw [if_pos c59] at H
    have c59b0 : decide (a0_1 ≤ (wrap64 ((wrap64 (Int.tdiv a1 a0_0)) - 1))) = true:=decide_eq_true c59
    clear c59
    obtain rfl:=Option.some.inj H
    go_enter Try.func51,Try.ntmps51
    go_wp2_with (first|((with_reducible refine gate_dst (N:=3) rfl ?_);refine box_ev (N:=3) (cs:=#[.int .i64 a0_0,.int .i64 a0_1,.slice A0_2 l0_2.length c0_2,.slice A0_3 l0_3.length c0_3]) (t:=24) ?_;intro gb112 hg w60 hbox hb;have BK112:=Aside0.mk (hbox);have GW112 : Aside0 (w.heap.size ≤ gb112):=gsz hg;have GE112:=GW112;replace HB:=Aside0.mk (below_step (hb_) hb);clear hb hbox hg;obtain ⟨hcz61_0,hcz61_1,hcz61_2,hcz61_3,hfz61_0,hfz61_1,hfz61_2,hfz61_3⟩:=cells4 BK112.out))
    go_quiet (fail)
    go_wp2
    go_ret
    exact ⟨by first|rfl|(simp [errW_none,errW_some] <;> rfl)|(simp [*,errW_none,errW_some] <;> rfl),hb_⟩
   ·rw [if_neg c59] at H
    have c59b0 : decide (a0_1 ≤ (wrap64 ((wrap64 (Int.tdiv a1 a0_0)) - 1))) = false:=decide_eq_false c59
    clear c59
    obtain rfl:=Option.some.inj H
    go_enter Try.func51,Try.ntmps51
    go_wp2_with (first|((with_reducible refine gate_dst (N:=3) rfl ?_);refine box_ev (N:=3) (cs:=#[.int .i64 a0_0,.int .i64 a0_1,.slice A0_2 l0_2.length c0_2,.slice A0_3 l0_3.length c0_3]) (t:=24) ?_;intro gb112 hg w62 hbox hb;have BK112:=Aside0.mk (hbox);have GW112 : Aside0 (w.heap.size ≤ gb112):=gsz hg;have GE112:=GW112;replace HB:=Aside0.mk (below_step (hb_) hb);clear hb hbox hg;obtain ⟨hcz63_0,hcz63_1,hcz63_2,hcz63_3,hfz63_0,hfz63_1,hfz63_2,hfz63_3⟩:=cells4 BK112.out))
    go_quiet (fail)
    go_wp2
    go_ret
    exact ⟨by first|rfl|(simp [errW_none,errW_some] <;> rfl)|(simp [*,errW_none,errW_some] <;> rfl),hb_⟩
 rw [if_pos c35] at H
 have c35b0 : (a2 == 2) = true:=beq_iff_eq.mpr c35
 have c35b1 : (a2 != 2) = false:=bne_eq_false_iff_eq.mpr c35
 clear c35
 by_cases c36 : (wrap64 ((Int.tmod a1 a0_0) - 1)) < 0
 ·rw [if_pos c36] at H
  have c36b0 : decide ((wrap64 ((Int.tmod a1 a0_0) - 1)) < 0) = true:=decide_eq_true c36
  clear c36
  obtain rfl:=Option.some.inj H
  go_enter Try.func51,Try.ntmps51
  go_wp2_with (first|((with_reducible refine gate_dst (N:=3) rfl ?_);refine box_ev (N:=3) (cs:=#[.int .i64 a0_0,.int .i64 a0_1,.slice A0_2 l0_2.length c0_2,.slice A0_3 l0_3.length c0_3]) (t:=24) ?_;intro gb112 hg w37 hbox hb;have BK112:=Aside0.mk (hbox);have GW112 : Aside0 (w.heap.size ≤ gb112):=gsz hg;have GE112:=GW112;replace HB:=Aside0.mk (below_step (hb_) hb);clear hb hbox hg;obtain ⟨hcz38_0,hcz38_1,hcz38_2,hcz38_3,hfz38_0,hfz38_1,hfz38_2,hfz38_3⟩:=cells4 BK112.out))
  go_quiet (fail)
  go_wp2
  go_ret
  exact ⟨by first|rfl|(simp [errW_none,errW_some] <;> rfl)|(simp [*,errW_none,errW_some] <;> rfl),hb_⟩
 rw [if_neg c36] at H
 have c36b0 : decide ((wrap64 ((Int.tmod a1 a0_0) - 1)) < 0) = false:=decide_eq_false c36
 clear c36
 by_cases c39 : (wrap64 ((Int.tmod a1 a0_0) - 1)) ≥ a0_0
 ·rw [if_pos c39] at H
  have c39b0 : decide (a0_0 ≤ (wrap64 ((Int.tmod a1 a0_0) - 1))) = true:=decide_eq_true c39
  clear c39
  obtain rfl:=Option.some.inj H
  go_enter Try.func51,Try.ntmps51
  go_wp2_with (first|((with_reducible refine gate_dst (N:=3) rfl ?_);refine box_ev (N:=3) (cs:=#[.int .i64 a0_0,.int .i64 a0_1,.slice A0_2 l0_2.length c0_2,.slice A0_3 l0_3.length c0_3]) (t:=24) ?_;intro gb112 hg w40 hbox hb;have BK112:=Aside0.mk (hbox);have GW112 : Aside0 (w.heap.size ≤ gb112):=gsz hg;have GE112:=GW112;replace HB:=Aside0.mk (below_step (hb_) hb);clear hb hbox hg;obtain ⟨hcz41_0,hcz41_1,hcz41_2,hcz41_3,hfz41_0,hfz41_1,hfz41_2,hfz41_3⟩:=cells4 BK112.out))
  go_quiet (fail)
  go_wp2
  go_ret
  exact ⟨by first|rfl|(simp [errW_none,errW_some] <;> rfl)|(simp [*,errW_none,errW_some] <;> rfl),hb_⟩
 rw [if_neg c39] at H
 have c39b0 : decide (a0_0 ≤ (wrap64 ((Int.tmod a1 a0_0) - 1))) = false:=decide_eq_false c39
 clear c39
 by_cases c42 : (wrap64 (Int.tdiv a1 a0_0)) < 0
 ·rw [if_pos c42] at H
  have c42b0 : decide ((wrap64 (Int.tdiv a1 a0_0)) < 0) = true:=decide_eq_true c42
  clear c42
  obtain rfl:=Option.some.inj H
  go_enter Try.func51,Try.ntmps51
  go_wp2_with (first|((with_reducible refine gate_dst (N:=3) rfl ?_);refine box_ev (N:=3) (cs:=#[.int .i64 a0_0,.int .i64 a0_1,.slice A0_2 l0_2.length c0_2,.slice A0_3 l0_3.length c0_3]) (t:=24) ?_;intro gb112 hg w43 hbox hb;have BK112:=Aside0.mk (hbox);have GW112 : Aside0 (w.heap.size ≤ gb112):=gsz hg;have GE112:=GW112;replace HB:=Aside0.mk (below_step (hb_) hb);clear hb hbox hg;obtain ⟨hcz44_0,hcz44_1,hcz44_2,hcz44_3,hfz44_0,hfz44_1,hfz44_2,hfz44_3⟩:=cells4 BK112.out))
  go_quiet (fail)
  go_wp2
  go_ret
  exact ⟨by first|rfl|(simp [errW_none,errW_some] <;> rfl)|(simp [*,errW_none,errW_some] <;> rfl),hb_⟩
 ·rw [if_neg c42] at H
  have c42b0 : decide ((wrap64 (Int.tdiv a1 a0_0)) < 0) = false:=decide_eq_false c42
  clear c42
  by_cases c45 : (wrap64 (Int.tdiv a1 a0_0)) ≥ a0_1
  ·rw [if_pos c45] at H
   have c45b0 : decide (a0_1 ≤ (wrap64 (Int.tdiv a1 a0_0))) = true:=decide_eq_true c45
   clear c45
   obtain rfl:=Option.some.inj H
   go_enter Try.func51,Try.ntmps51
   go_wp2_with (first|((with_reducible refine gate_dst (N:=3) rfl ?_);refine box_ev (N:=3) (cs:=#[.int .i64 a0_0,.int .i64 a0_1,.slice A0_2 l0_2.length c0_2,.slice A0_3 l0_3.length c0_3]) (t:=24) ?_;intro gb112 hg w46 hbox hb;have BK112:=Aside0.mk (hbox);have GW112 : Aside0 (w.heap.size ≤ gb112):=gsz hg;have GE112:=GW112;replace HB:=Aside0.mk (below_step (hb_) hb);clear hb hbox hg;obtain ⟨hcz47_0,hcz47_1,hcz47_2,hcz47_3,hfz47_0,hfz47_1,hfz47_2,hfz47_3⟩:=cells4 BK112.out))
   go_quiet (fail)
   go_wp2
   go_ret
   exact ⟨by first|rfl|(simp [errW_none,errW_some] <;> rfl)|(simp [*,errW_none,errW_some] <;> rfl),hb_⟩
  ·rw [if_neg c45] at H
   have c45b0 : decide (a0_1 ≤ (wrap64 (Int.tdiv a1 a0_0))) = false:=decide_eq_false c45
   clear c45
   obtain rfl:=Option.some.inj H
   go_enter Try.func51,Try.ntmps51
   go_wp2_with (first|((with_reducible refine gate_dst (N:=3) rfl ?_);refine box_ev (N:=3) (cs:=#[.int .i64 a0_0,.int .i64 a0_1,.slice A0_2 l0_2.length c0_2,.slice A0_3 l0_3.length c0_3]) (t:=24) ?_;intro gb112 hg w48 hbox hb;have BK112:=Aside0.mk (hbox);have GW112 : Aside0 (w.heap.size ≤ gb112):=gsz hg;have GE112:=GW112;replace HB:=Aside0.mk (below_step (hb_) hb);clear hb hbox hg;obtain ⟨hcz49_0,hcz49_1,hcz49_2,hcz49_3,hfz49_0,hfz49_1,hfz49_2,hfz49_3⟩:=cells4 BK112.out))
   go_quiet (fail)
   go_wp2
   go_ret
   exact ⟨by first|rfl|(simp [errW_none,errW_some] <;> rfl)|(simp [*,errW_none,errW_some] <;> rfl),hb_⟩

/-! ### road_joined: function 41 -/
def road_joined.f (a0_0 : Int) (a0_1 : Int) (l0_2 : List Int) (l0_3 : List Int) (a1 : Int) (a2 : Int) : Option (Bool) := (road_beyond.f a0_0 a0_1 l0_2 l0_3 a1 a2).bind fun t114 => (if t114 ≥ 0 then (if 0 ≤ a1 then (if a1 < (l0_2.length : Int) then (if 0 ≤ a2 then (if (Go.bits .and .i64 (shr .i64 (rd l0_2 a1) a2) 1) = 1 then (if 0 ≤ t114 then (if t114 < (l0_2.length : Int) then (if 0 ≤ (Int.tmod (wrap64 (a2 + 2)) 4) then (some ((Go.bits .and .i64 (shr .i64 (rd l0_2 t114) (Int.tmod (wrap64 (a2 + 2)) 4)) 1) == 1)) else (none)) else (none)) else (none)) else (some false)) else (none)) else (none)) else (none)) else (some false))
set_option maxHeartbeats 8000000 in
set_option maxRecDepth 100000 in
theorem road_joined.calls (a0_0 : Int) (a0_1 : Int) (A0_2 : Option Addr) (c0_2 : Nat) (l0_2 : List Int) (A0_3 : Option Addr) (c0_3 : Nat) (l0_3 : List Int) (a1 : Int) (a2 : Int) (r : Bool) (w : World) (hr0_2 : Kd.C (Kd.int .i64) w A0_2 l0_2.length l0_2) (hc0_2 : l0_2.length ≤ c0_2) (hr0_3 : Kd.C (Kd.int .i64) w A0_3 l0_3.length l0_3) (hc0_3 : l0_3.length ≤ c0_3) (h : road_joined.f a0_0 a0_1 l0_2 l0_3 a1 a2 = some r) :
  Calls Try.prog 41 #[.agg #[.int .i64 a0_0,.int .i64 a0_1,.slice A0_2 l0_2.length c0_2,.slice A0_3 l0_3.length c0_3],.int .i64 a1,.int .i64 a2] w fun e w' => e = .returned (.bool r) ∧ Below w.heap.size w w':=by
 have hu24:=Try.underlying24
 have HR0_2:=Aside0.mk hr0_2
 have HC0_2:=Aside0.mk hc0_2
 clear hr0_2 hc0_2
 have HR0_3:=Aside0.mk hr0_3
 have HC0_3:=Aside0.mk hc0_3
 clear hr0_3 hc0_3
 have HB:=Aside0.mk (Below.refl w.heap.size w)
 have H : ((road_beyond.f a0_0 a0_1 l0_2 l0_3 a1 a2).bind fun t114 => (if t114 ≥ 0 then (if 0 ≤ a1 then (if a1 < (l0_2.length : Int) then (if 0 ≤ a2 then (if (Go.bits .and .i64 (shr .i64 (rd l0_2 a1) a2) 1) = 1 then (if 0 ≤ t114 then (if t114 < (l0_2.length : Int) then (if 0 ≤ (Int.tmod (wrap64 (a2 + 2)) 4) then (some ((Go.bits .and .i64 (shr .i64 (rd l0_2 t114) (Int.tmod (wrap64 (a2 + 2)) 4)) 1) == 1)) else (none)) else (none)) else (none)) else (some false)) else (none)) else (none)) else (none)) else (some false))) = some r:=h
 clear h
 replace H:=Option.bind_eq_some_iff.mp H
 obtain ⟨t114,A40,H⟩:=H
 replace H : (if t114 ≥ 0 then (if 0 ≤ a1 then (if a1 < (l0_2.length : Int) then (if 0 ≤ a2 then (if (Go.bits .and .i64 (shr .i64 (rd l0_2 a1) a2) 1) = 1 then (if 0 ≤ t114 then (if t114 < (l0_2.length : Int) then (if 0 ≤ (Int.tmod (wrap64 (a2 + 2)) 4) then (some ((Go.bits .and .i64 (shr .i64 (rd l0_2 t114) (Int.tmod (wrap64 (a2 + 2)) 4)) 1) == 1)) else (none)) else (none)) else (none)) else (some false)) else (none)) else (none)) else (none)) else (some false)) = some r:=H
 have A4:=Aside0.mk A40
 clear A40
 by_cases c5 : t114 ≥ 0
 rotate_left
 ·rw [if_neg c5] at H
  have c5b0 : decide (0 ≤ t114) = false:=decide_eq_false c5
  clear c5
  obtain rfl:=Option.some.inj H
  go_enter Try.func41,Try.ntmps41
  go_wp2_with (first|((with_reducible refine gate_dst (N:=3) rfl ?_);refine box_ev (N:=3) (cs:=#[.int .i64 a0_0,.int .i64 a0_1,.slice A0_2 l0_2.length c0_2,.slice A0_3 l0_3.length c0_3]) (t:=24) ?_;intro gb113 hg w24 hbox hb;have BK113:=Aside0.mk (hbox);have GW113 : Aside0 (w.heap.size ≤ gb113):=gsz hg;have GE113:=GW113;replace HB:=Aside0.mk (below_step (hb_) hb);clear hb hbox hg;obtain ⟨hcz25_0,hcz25_1,hcz25_2,hcz25_3,hfz25_0,hfz25_1,hfz25_2,hfz25_3⟩:=cells4 BK113.out)|((with_reducible refine gate_callee (f:=51) rfl ?_);refine goesL_ (some 11) rfl rfl Try.func51 (by kernel_rfl) rfl #[.agg #[.int .i64 a0_0,.int .i64 a0_1,.slice A0_2 l0_2.length c0_2,.slice A0_3 l0_3.length c0_3],.int .i64 a1,.int .i64 a2] rfl (by (try simp only [List.map_toArray,List.map_cons,List.map_nil]);first|done|rfl|(simp only [List.length_drop,List.length_take];rfl)) ?_;(with_reducible refine (road_beyond.calls a0_0 a0_1 _ _ l0_2 _ _ l0_3 a1 a2 t114 _ ?side1 ?side2 ?side3 ?side4 A4.out).mono ?_);(case side1 => exact Kd.C_up (Kd.C_below HR0_2.out HB.out));(case side2 => exact HC0_2.out);(case side3 => exact Kd.C_up (Kd.C_below HR0_3.out HB.out));(case side4 => exact HC0_3.out);rintro e w26 ⟨rfl,hb⟩;refine ⟨_,rfl,?_⟩;replace BK113:=bkb BK113 hb;replace HB:=Aside0.mk (below_step (hb_) hb)))
  go_ret
  exact ⟨by first|rfl|(simp [errW_none,errW_some] <;> rfl)|(simp [*,errW_none,errW_some] <;> rfl),hb_⟩
 rw [if_pos c5] at H
 have c5b0 : decide (0 ≤ t114) = true:=decide_eq_true c5
 clear c5
 replace H:=ifp_ H;obtain ⟨c6,H⟩:=H
 have c6b0 : decide (0 ≤ a1) = true:=decide_eq_true c6
 clear c6
 replace H:=ifp_ H;obtain ⟨c7,H⟩:=H
 have c7b0 : decide (a1 < (l0_2.length : Int)) = true:=decide_eq_true c7
 clear c7
 replace H:=ifp_ H;obtain ⟨c8,H⟩:=H
 have c8b0:=eq_true c8
 have c8b1 : decide (0 ≤ a2) = true:=decide_eq_true c8
 clear c8
 obtain ⟨ji9,hji9⟩ : ∃ j_ : Int,(shr .i64 (rd l0_2 a1) a2) = j_:=⟨_,rfl⟩
 replace H : (if (Go.bits .and .i64 (ji9) 1) = 1 then (if 0 ≤ t114 then (if t114 < (l0_2.length : Int) then (if 0 ≤ (Int.tmod (wrap64 (a2 + 2)) 4) then (some ((Go.bits .and .i64 (shr .i64 (rd l0_2 t114) (Int.tmod (wrap64 (a2 + 2)) 4)) 1) == 1)) else (none)) else (none)) else (none)) else (some false)) = some r:=by first|(rw [hji9] at H;exact H)|(simp only [hji9] at H ⊢;exact H)
 (try rw [hji9] at A4)
 have hji9_ : ((rd l0_2 a1) / 2 ^ min a2.toNat 64) = ji9:=hji9
 have hji9z : a2 ≤ 64 → ((rd l0_2 a1) / 2 ^ a2.toNat) = ji9:=shr_small hji9
 by_cases c10 : (Go.bits .and .i64 (ji9) 1) = 1
 ·rw [if_pos c10] at H
  have c10b0 : ((Go.bits .and .i64 (ji9) 1) == 1) = true:=beq_iff_eq.mpr c10
  have c10b1 : ((Go.bits .and .i64 (ji9) 1) != 1) = false:=bne_eq_false_iff_eq.mpr c10
  clear c10
  replace H:=ifp_ H;obtain ⟨c11,H⟩:=H
  have c11b0 : decide (0 ≤ t114) = true:=decide_eq_true c11
  clear c11
  replace H:=ifp_ H;obtain ⟨c12,H⟩:=H
  have c12b0 : decide (t114 < (l0_2.length : Int)) = true:=decide_eq_true c12
  clear c12
  obtain ⟨ji13,hji13⟩ : ∃ j_ : Int,(Int.tmod (wrap64 (a2 + 2)) 4) = j_:=⟨_,rfl⟩
  replace H : (if 0 ≤ (ji13) then (some ((Go.bits .and .i64 (shr .i64 (rd l0_2 t114) (ji13)) 1) == 1)) else (none)) = some r:=by first|(rw [hji13] at H;exact H)|(simp only [hji13] at H ⊢;exact H)
  (try rw [hji13] at A4)
  replace H:=ifp_ H;obtain ⟨c14,H⟩:=H
  have c14b0:=eq_true c14
  have c14b1 : decide (0 ≤ (ji13)) = true:=decide_eq_true c14
  clear c14
  obtain ⟨ji15,hji15⟩ : ∃ j_ : Int,(shr .i64 (rd l0_2 t114) (ji13)) = j_:=⟨_,rfl⟩
  replace H : (some ((Go.bits .and .i64 (ji15) 1) == 1)) = some r:=by first|(rw [hji15] at H;exact H)|(simp only [hji15] at H ⊢;exact H)
  (try rw [hji15] at A4)
  have hji15_ : ((rd l0_2 t114) / 2 ^ min (ji13).toNat 64) = ji15:=hji15
  have hji15z : (ji13) ≤ 64 → ((rd l0_2 t114) / 2 ^ (ji13).toNat) = ji15:=shr_small hji15
  obtain rfl:=Option.some.inj H
  go_enter Try.func41,Try.ntmps41
  go_wp2_with (first|((with_reducible refine gate_dst (N:=3) rfl ?_);refine box_ev (N:=3) (cs:=#[.int .i64 a0_0,.int .i64 a0_1,.slice A0_2 l0_2.length c0_2,.slice A0_3 l0_3.length c0_3]) (t:=24) ?_;intro gb113 hg w16 hbox hb;have BK113:=Aside0.mk (hbox);have GW113 : Aside0 (w.heap.size ≤ gb113):=gsz hg;have GE113:=GW113;replace HB:=Aside0.mk (below_step (hb_) hb);clear hb hbox hg;obtain ⟨hcz17_0,hcz17_1,hcz17_2,hcz17_3,hfz17_0,hfz17_1,hfz17_2,hfz17_3⟩:=cells4 BK113.out)|((with_reducible refine gate_callee (f:=51) rfl ?_);refine goesL_ (some 11) rfl rfl Try.func51 (by kernel_rfl) rfl #[.agg #[.int .i64 a0_0,.int .i64 a0_1,.slice A0_2 l0_2.length c0_2,.slice A0_3 l0_3.length c0_3],.int .i64 a1,.int .i64 a2] rfl (by (try simp only [List.map_toArray,List.map_cons,List.map_nil]);first|done|rfl|(simp only [List.length_drop,List.length_take];rfl)) ?_;(with_reducible refine (road_beyond.calls a0_0 a0_1 _ _ l0_2 _ _ l0_3 a1 a2 t114 _ ?side1 ?side2 ?side3 ?side4 A4.out).mono ?_);(case side1 => exact Kd.C_up (Kd.C_below HR0_2.out HB.out));(case side2 => exact HC0_2.out);(case side3 => exact Kd.C_up (Kd.C_below HR0_3.out HB.out));(case side4 => exact HC0_3.out);rintro e w18 ⟨rfl,hb⟩;refine ⟨_,rfl,?_⟩;replace BK113:=bkb BK113 hb;replace HB:=Aside0.mk (below_step (hb_) hb);obtain ⟨hcz19_0,hcz19_1,hcz19_2,hcz19_3,hfz19_0,hfz19_1,hfz19_2,hfz19_3⟩:=cells4 BK113.out;have p115 : 0 ≤ (a1 : Int):=of_decide_eq_true (by first|(with_reducible assumption)|assumption);have q115 : a1 < (l0_2.length : Int):=of_decide_eq_true (by first|(with_reducible assumption)|assumption);obtain ⟨ad115,e115,hx115_0⟩:=Kd.at_int HR0_2.out a1 p115 q115;cases e115;replace hx115_0:=(HB.out.cell (World.block_lt_of_cell? w _ hx115_0)).trans hx115_0;replace p115:=eq_true p115;replace q115:=eq_true q115;have p116 : 0 ≤ (t114 : Int):=of_decide_eq_true (by first|(with_reducible assumption)|assumption);have q116 : t114 < (l0_2.length : Int):=of_decide_eq_true (by first|(with_reducible assumption)|assumption);obtain ⟨ad116,e116,hx116_0⟩:=Kd.at_int HR0_2.out t114 p116 q116;obtain rfl : ad115 = ad116:=(by injection e116);replace hx116_0:=(HB.out.cell (World.block_lt_of_cell? w _ hx116_0)).trans hx116_0;replace p116:=eq_true p116;replace q116:=eq_true q116))
  go_ret
  exact ⟨by first|rfl|(simp [errW_none,errW_some] <;> rfl)|(simp only [← hji9,← hji13,← hji15];first|rfl|(simp [errW_none,errW_some] <;> rfl))|(simp [*,errW_none,errW_some] <;> rfl),hb_⟩
 ·rw [if_neg c10] at H
  have c10b0 : ((Go.bits .and .i64 (ji9) 1) == 1) = false:=beq_eq_false_iff_ne.mpr c10
  have c10b1 : ((Go.bits .and .i64 (ji9) 1) != 1) = true:=bne_iff_ne.mpr c10
  obtain rfl:=Option.some.inj H
  go_enter Try.func41,Try.ntmps41
  go_wp2_with (first|((with_reducible refine gate_dst (N:=3) rfl ?_);refine box_ev (N:=3) (cs:=#[.int .i64 a0_0,.int .i64 a0_1,.slice A0_2 l0_2.length c0_2,.slice A0_3 l0_3.length c0_3]) (t:=24) ?_;intro gb113 hg w20 hbox hb;have BK113:=Aside0.mk (hbox);have GW113 : Aside0 (w.heap.size ≤ gb113):=gsz hg;have GE113:=GW113;replace HB:=Aside0.mk (below_step (hb_) hb);clear hb hbox hg;obtain ⟨hcz21_0,hcz21_1,hcz21_2,hcz21_3,hfz21_0,hfz21_1,hfz21_2,hfz21_3⟩:=cells4 BK113.out)|((with_reducible refine gate_callee (f:=51) rfl ?_);refine goesL_ (some 11) rfl rfl Try.func51 (by kernel_rfl) rfl #[.agg #[.int .i64 a0_0,.int .i64 a0_1,.slice A0_2 l0_2.length c0_2,.slice A0_3 l0_3.length c0_3],.int .i64 a1,.int .i64 a2] rfl (by (try simp only [List.map_toArray,List.map_cons,List.map_nil]);first|done|rfl|(simp only [List.length_drop,List.length_take];rfl)) ?_;(with_reducible refine (road_beyond.calls a0_0 a0_1 _ _ l0_2 _ _ l0_3 a1 a2 t114 _ ?side1 ?side2 ?side3 ?side4 A4.out).mono ?_);(case side1 => exact Kd.C_up (Kd.C_below HR0_2.out HB.out));(case side2 => exact HC0_2.out);(case side3 => exact Kd.C_up (Kd.C_below HR0_3.out HB.out));(case side4 => exact HC0_3.out);rintro e w22 ⟨rfl,hb⟩;refine ⟨_,rfl,?_⟩;replace BK113:=bkb BK113 hb;replace HB:=Aside0.mk (below_step (hb_) hb);obtain ⟨hcz23_0,hcz23_1,hcz23_2,hcz23_3,hfz23_0,hfz23_1,hfz23_2,hfz23_3⟩:=cells4 BK113.out;have p115 : 0 ≤ (a1 : Int):=of_decide_eq_true (by first|(with_reducible assumption)|assumption);have q115 : a1 < (l0_2.length : Int):=of_decide_eq_true (by first|(with_reducible assumption)|assumption);obtain ⟨ad115,e115,hx115_0⟩:=Kd.at_int HR0_2.out a1 p115 q115;cases e115;replace hx115_0:=(HB.out.cell (World.block_lt_of_cell? w _ hx115_0)).trans hx115_0;replace p115:=eq_true p115;replace q115:=eq_true q115))
  go_ret
  exact ⟨by first|rfl|(simp [errW_none,errW_some] <;> rfl)|(simp only [← hji9];first|rfl|(simp [errW_none,errW_some] <;> rfl))|(simp [*,errW_none,errW_some] <;> rfl),hb_⟩

/-! ### road_Joined: function 19 -/
def road_Joined.f (k : Nat) (a0_0 : Int) (a0_1 : Int) (l0_2 : List Int) (l0_3 : List Int) (a1 : Int) (a2 : Int) : Option (Bool × Int) := (road_check.f k a0_0 a0_1 l0_2 l0_3 a1).bind fun t118 => (if t118 = 0 then (if a2 < 0 then (some (false, 1)) else (if a2 > 3 then (some (false, 1)) else ((road_joined.f a0_0 a0_1 l0_2 l0_3 a1 a2).bind fun t119 => (some (t119, 0))))) else (some (false, t118)))
theorem road_Joined.mono : ∀ a0 a1 a2 a3 a4 a5 k, LeO (road_Joined.f k a0 a1 a2 a3 a4 a5) (road_Joined.f (k + 1) a0 a1 a2 a3 a4 a5) := by
 intro a0 a1 a2 a3 a4 a5 k
 unfold road_Joined.f
 repeat' first
   | (with_reducible exact road_check.mono _ _ _ _ _ _)
   | (with_reducible exact LeO.refl _)
   | (with_reducible exact LeO.none _)
   | (with_reducible refine LeO.ite ?_ ?_)
   | (with_reducible refine LeO.bind ?_ (fun _ => ?_))
   | exact road_check.mono _ _ _ _ _ _
   | exact LeO.none _
   | refine LeO.ite ?_ ?_
   | refine LeO.bind ?_ (fun _ => ?_)
set_option maxHeartbeats 8000000 in
set_option maxRecDepth 100000 in
theorem road_Joined.calls (k : Nat) (a0_0 : Int) (a0_1 : Int) (A0_2 : Option Addr) (c0_2 : Nat) (l0_2 : List Int) (A0_3 : Option Addr) (c0_3 : Nat) (l0_3 : List Int) (a1 : Int) (a2 : Int) (r1 : Bool) (r2 : Int) (w : World) (hr0_2 : Kd.C (Kd.int .i64) w A0_2 l0_2.length l0_2) (hc0_2 : l0_2.length ≤ c0_2) (hr0_3 : Kd.C (Kd.int .i64) w A0_3 l0_3.length l0_3) (hc0_3 : l0_3.length ≤ c0_3) (h : road_Joined.f k a0_0 a0_1 l0_2 l0_3 a1 a2 = some (r1, r2)) :
  Calls Try.prog 19 #[.agg #[.int .i64 a0_0,.int .i64 a0_1,.slice A0_2 l0_2.length c0_2,.slice A0_3 l0_3.length c0_3],.int .i64 a1,.int .i64 a2] w fun e w' => e = .returned (.tuple #[.bool r1,.int .i64 r2]) ∧ Below w.heap.size w w':=by
 have hu24:=Try.underlying24
 have HR0_2:=Aside0.mk hr0_2
 have HC0_2:=Aside0.mk hc0_2
 clear hr0_2 hc0_2
 have HR0_3:=Aside0.mk hr0_3
 have HC0_3:=Aside0.mk hc0_3
 clear hr0_3 hc0_3
 have HB:=Aside0.mk (Below.refl w.heap.size w)
 have H : ((road_check.f k a0_0 a0_1 l0_2 l0_3 a1).bind fun t118 => (if t118 = 0 then (if a2 < 0 then (some (false,1)) else (if a2 > 3 then (some (false,1)) else ((road_joined.f a0_0 a0_1 l0_2 l0_3 a1 a2).bind fun t119 => (some (t119,0))))) else (some (false,t118)))) = some (r1,r2):=h
 clear h
 replace H:=Option.bind_eq_some_iff.mp H
 obtain ⟨t118,A40,H⟩:=H
 replace H : (if t118 = 0 then (if a2 < 0 then (some (false,1)) else (if a2 > 3 then (some (false,1)) else ((road_joined.f a0_0 a0_1 l0_2 l0_3 a1 a2).bind fun t119 => (some (t119,0))))) else (some (false,t118))) = some (r1,r2):=H
 have A4:=Aside0.mk A40
 clear A40
 by_cases c5 : t118 = 0
 rotate_left
 ·rw [if_neg c5] at H
  have c5b0 : (t118 == 0) = false:=beq_eq_false_iff_ne.mpr c5
  have c5b1 : (t118 != 0) = true:=bne_iff_ne.mpr c5
  simp only [Option.some.injEq,Prod.mk.injEq] at H
  obtain ⟨rfl,rfl⟩:=H
  go_enter Try.func19,Try.ntmps19
  go_wp2_with (first|((with_reducible refine gate_dst (N:=3) rfl ?_);refine box_ev (N:=3) (cs:=#[.int .i64 a0_0,.int .i64 a0_1,.slice A0_2 l0_2.length c0_2,.slice A0_3 l0_3.length c0_3]) (t:=24) ?_;intro gb117 hg w20 hbox hb;have BK117:=Aside0.mk (hbox);have GW117 : Aside0 (w.heap.size ≤ gb117):=gsz hg;have GE117:=GW117;replace HB:=Aside0.mk (below_step (hb_) hb);clear hb hbox hg;obtain ⟨hcz21_0,hcz21_1,hcz21_2,hcz21_3,hfz21_0,hfz21_1,hfz21_2,hfz21_3⟩:=cells4 BK117.out)|((with_reducible refine gate_callee (f:=40) rfl ?_);refine goesL_ (some 11) rfl rfl Try.func40 (by kernel_rfl) rfl #[.agg #[.int .i64 a0_0,.int .i64 a0_1,.slice A0_2 l0_2.length c0_2,.slice A0_3 l0_3.length c0_3],.int .i64 a1] rfl (by (try simp only [List.map_toArray,List.map_cons,List.map_nil]);first|done|rfl|(simp only [List.length_drop,List.length_take];rfl)) ?_;(with_reducible refine (road_check.calls k a0_0 a0_1 _ _ l0_2 _ _ l0_3 a1 t118 _ ?side1 ?side2 ?side3 ?side4 A4.out).mono ?_);(case side1 => exact Kd.C_up (Kd.C_below HR0_2.out HB.out));(case side2 => exact HC0_2.out);(case side3 => exact Kd.C_up (Kd.C_below HR0_3.out HB.out));(case side4 => exact HC0_3.out);rintro e w22 ⟨rfl,hb⟩;refine ⟨_,rfl,?_⟩;replace BK117:=bkb BK117 hb;replace HB:=Aside0.mk (below_step (hb_) hb)))
  go_ret2
  exact ⟨by first|rfl|(simp [errW_none,errW_some] <;> rfl)|(simp [*,errW_none,errW_some] <;> rfl),hb_⟩
 rw [if_pos c5] at H
 have c5b0 : (t118 == 0) = true:=beq_iff_eq.mpr c5
 have c5b1 : (t118 != 0) = false:=bne_eq_false_iff_eq.mpr c5
 clear c5
 by_cases c6 : a2 < 0
 ·rw [if_pos c6] at H
  have c6b0 : decide (a2 < 0) = true:=decide_eq_true c6
  clear c6
  simp only [Option.some.injEq,Prod.mk.injEq] at H
  obtain ⟨rfl,rfl⟩:=H
  go_enter Try.func19,Try.ntmps19
  go_wp2_with (first|((with_reducible refine gate_dst (N:=3) rfl ?_);refine box_ev (N:=3) (cs:=#[.int .i64 a0_0,.int .i64 a0_1,.slice A0_2 l0_2.length c0_2,.slice A0_3 l0_3.length c0_3]) (t:=24) ?_;intro gb117 hg w7 hbox hb;have BK117:=Aside0.mk (hbox);have GW117 : Aside0 (w.heap.size ≤ gb117):=gsz hg;have GE117:=GW117;replace HB:=Aside0.mk (below_step (hb_) hb);clear hb hbox hg;obtain ⟨hcz8_0,hcz8_1,hcz8_2,hcz8_3,hfz8_0,hfz8_1,hfz8_2,hfz8_3⟩:=cells4 BK117.out)|((with_reducible refine gate_callee (f:=40) rfl ?_);refine goesL_ (some 11) rfl rfl Try.func40 (by kernel_rfl) rfl #[.agg #[.int .i64 a0_0,.int .i64 a0_1,.slice A0_2 l0_2.length c0_2,.slice A0_3 l0_3.length c0_3],.int .i64 a1] rfl (by (try simp only [List.map_toArray,List.map_cons,List.map_nil]);first|done|rfl|(simp only [List.length_drop,List.length_take];rfl)) ?_;(with_reducible refine (road_check.calls k a0_0 a0_1 _ _ l0_2 _ _ l0_3 a1 t118 _ ?side1 ?side2 ?side3 ?side4 A4.out).mono ?_);(case side1 => exact Kd.C_up (Kd.C_below HR0_2.out HB.out));(case side2 => exact HC0_2.out);(case side3 => exact Kd.C_up (Kd.C_below HR0_3.out HB.out));(case side4 => exact HC0_3.out);rintro e w9 ⟨rfl,hb⟩;refine ⟨_,rfl,?_⟩;replace BK117:=bkb BK117 hb;replace HB:=Aside0.mk (below_step (hb_) hb)))
  go_ret2
  exact ⟨by first|rfl|(simp [errW_none,errW_some] <;> rfl)|(simp [*,errW_none,errW_some] <;> rfl),hb_⟩
 ·rw [if_neg c6] at H
  have c6b0 : decide (a2 < 0) = false:=decide_eq_false c6
  clear c6
  by_cases c10 : a2 > 3
  ·rw [if_pos c10] at H
   have c10b0 : decide (3 < a2) = true:=decide_eq_true c10
   clear c10
   simp only [Option.some.injEq,Prod.mk.injEq] at H
   obtain ⟨rfl,rfl⟩:=H
   go_enter Try.func19,Try.ntmps19
   go_wp2_with (first|((with_reducible refine gate_dst (N:=3) rfl ?_);refine box_ev (N:=3) (cs:=#[.int .i64 a0_0,.int .i64 a0_1,.slice A0_2 l0_2.length c0_2,.slice A0_3 l0_3.length c0_3]) (t:=24) ?_;intro gb117 hg w11 hbox hb;have BK117:=Aside0.mk (hbox);have GW117 : Aside0 (w.heap.size ≤ gb117):=gsz hg;have GE117:=GW117;replace HB:=Aside0.mk (below_step (hb_) hb);clear hb hbox hg;obtain ⟨hcz12_0,hcz12_1,hcz12_2,hcz12_3,hfz12_0,hfz12_1,hfz12_2,hfz12_3⟩:=cells4 BK117.out)|((with_reducible refine gate_callee (f:=40) rfl ?_);refine goesL_ (some 11) rfl rfl Try.func40 (by kernel_rfl) rfl #[.agg #[.int .i64 a0_0,.int .i64 a0_1,.slice A0_2 l0_2.length c0_2,.slice A0_3 l0_3.length c0_3],.int .i64 a1] rfl (by (try simp only [List.map_toArray,List.map_cons,List.map_nil]);first|done|rfl|(simp only [List.length_drop,List.length_take];rfl)) ?_;(with_reducible refine (road_check.calls k a0_0 a0_1 _ _ l0_2 _ _ l0_3 a1 t118 _ ?side1 ?side2 ?side3 ?side4 A4.out).mono ?_);(case side1 => exact Kd.C_up (Kd.C_below HR0_2.out HB.out));(case side2 => exact HC0_2.out);(case side3 => exact Kd.C_up (Kd.C_below HR0_3.out HB.out));(case side4 => exact HC0_3.out);rintro e w13 ⟨rfl,hb⟩;refine ⟨_,rfl,?_⟩;replace BK117:=bkb BK117 hb;replace HB:=Aside0.mk (below_step (hb_) hb)))
   go_ret2
   exact ⟨by first|rfl|(simp [errW_none,errW_some] <;> rfl)|(simp [*,errW_none,errW_some] <;> rfl),hb_⟩
  ·rw [if_neg c10] at H
   have c10b0 : decide (3 < a2) = false:=decide_eq_false c10
   clear c10
   replace H:=Option.bind_eq_some_iff.mp H
   obtain ⟨t119,A140,H⟩:=H
   replace H : (some (t119,0)) = some (r1,r2):=H
   have A14:=Aside0.mk A140
   clear A140
   simp only [Option.some.injEq,Prod.mk.injEq] at H
   obtain ⟨rfl,rfl⟩:=H
   go_enter Try.func19,Try.ntmps19
   go_wp2_with (first|((with_reducible refine gate_dst (N:=3) rfl ?_);refine box_ev (N:=3) (cs:=#[.int .i64 a0_0,.int .i64 a0_1,.slice A0_2 l0_2.length c0_2,.slice A0_3 l0_3.length c0_3]) (t:=24) ?_;intro gb117 hg w15 hbox hb;have BK117:=Aside0.mk (hbox);have GW117 : Aside0 (w.heap.size ≤ gb117):=gsz hg;have GE117:=GW117;replace HB:=Aside0.mk (below_step (hb_) hb);clear hb hbox hg;obtain ⟨hcz16_0,hcz16_1,hcz16_2,hcz16_3,hfz16_0,hfz16_1,hfz16_2,hfz16_3⟩:=cells4 BK117.out)|((with_reducible refine gate_callee (f:=40) rfl ?_);refine goesL_ (some 11) rfl rfl Try.func40 (by kernel_rfl) rfl #[.agg #[.int .i64 a0_0,.int .i64 a0_1,.slice A0_2 l0_2.length c0_2,.slice A0_3 l0_3.length c0_3],.int .i64 a1] rfl (by (try simp only [List.map_toArray,List.map_cons,List.map_nil]);first|done|rfl|(simp only [List.length_drop,List.length_take];rfl)) ?_;(with_reducible refine (road_check.calls k a0_0 a0_1 _ _ l0_2 _ _ l0_3 a1 t118 _ ?side1 ?side2 ?side3 ?side4 A4.out).mono ?_);(case side1 => exact Kd.C_up (Kd.C_below HR0_2.out HB.out));(case side2 => exact HC0_2.out);(case side3 => exact Kd.C_up (Kd.C_below HR0_3.out HB.out));(case side4 => exact HC0_3.out);rintro e w17 ⟨rfl,hb⟩;refine ⟨_,rfl,?_⟩;replace BK117:=bkb BK117 hb;replace HB:=Aside0.mk (below_step (hb_) hb);obtain ⟨hcz18_0,hcz18_1,hcz18_2,hcz18_3,hfz18_0,hfz18_1,hfz18_2,hfz18_3⟩:=cells4 BK117.out)|((with_reducible refine gate_callee (f:=41) rfl ?_);refine goesL_ (some 24) rfl rfl Try.func41 (by kernel_rfl) rfl #[.agg #[.int .i64 a0_0,.int .i64 a0_1,.slice A0_2 l0_2.length c0_2,.slice A0_3 l0_3.length c0_3],.int .i64 a1,.int .i64 a2] rfl (by (try simp only [List.map_toArray,List.map_cons,List.map_nil]);first|done|rfl|(simp only [List.length_drop,List.length_take];rfl)) ?_;(with_reducible refine (road_joined.calls a0_0 a0_1 _ _ l0_2 _ _ l0_3 a1 a2 t119 _ ?side1 ?side2 ?side3 ?side4 A14.out).mono ?_);(case side1 => exact Kd.C_up (Kd.C_below HR0_2.out HB.out));(case side2 => exact HC0_2.out);(case side3 => exact Kd.C_up (Kd.C_below HR0_3.out HB.out));(case side4 => exact HC0_3.out);rintro e w19 ⟨rfl,hb⟩;refine ⟨_,rfl,?_⟩;replace BK117:=bkb BK117 hb;replace HB:=Aside0.mk (below_step (hb_) hb)))
   go_ret2
   exact ⟨by first|rfl|(simp [errW_none,errW_some] <;> rfl)|(simp [*,errW_none,errW_some] <;> rfl),hb_⟩

/-! ### road_lets: function 55 -/
def road_lets.f (a0 : Int) (a1 : Int) : Option (Bool) := if a0 = 0 then (some true) else (if a0 = 1 then (if a1 < 2 then (some true) else (if a0 = 2 then (some (decide (a1 ≥ 2))) else (some false))) else (if a0 = 2 then (some (decide (a1 ≥ 2))) else (some false)))
set_option maxHeartbeats 8000000 in
set_option maxRecDepth 100000 in
theorem road_lets.calls (a0 : Int) (a1 : Int) (r : Bool) (w : World) (h : road_lets.f a0 a1 = some r) :
  Calls Try.prog 55 #[.int .i64 a0,.int .i64 a1] w fun e w' => e = .returned (.bool r) ∧ Drawn0 w w':=by
 have H : (if a0 = 0 then (some true) else (if a0 = 1 then (if a1 < 2 then (some true) else (if a0 = 2 then (some (decide (a1 ≥ 2))) else (some false))) else (if a0 = 2 then (some (decide (a1 ≥ 2))) else (some false)))) = some r:=h
 clear h
 by_cases c3 : a0 = 0
 ·rw [if_pos c3] at H
  have c3b0 : (a0 == 0) = true:=beq_iff_eq.mpr c3
  have c3b1 : (a0 != 0) = false:=bne_eq_false_iff_eq.mpr c3
  clear c3
  obtain rfl:=Option.some.inj H
  go_enter Try.func55,Try.ntmps55
  go_wp2
  go_ret
  exact ⟨by first|rfl|(simp;done)|(simp [*];done),by repeat (first|exact Drawn0.refl _|apply Drawn0.step)⟩
 rw [if_neg c3] at H
 have c3b0 : (a0 == 0) = false:=beq_eq_false_iff_ne.mpr c3
 have c3b1 : (a0 != 0) = true:=bne_iff_ne.mpr c3
 by_cases c4 : a0 = 1
 rotate_left
 ·rw [if_neg c4] at H
  have c4b0 : (a0 == 1) = false:=beq_eq_false_iff_ne.mpr c4
  have c4b1 : (a0 != 1) = true:=bne_iff_ne.mpr c4
  by_cases c7 : a0 = 2
  ·rw [if_pos c7] at H
   have c7b0 : (a0 == 2) = true:=beq_iff_eq.mpr c7
   have c7b1 : (a0 != 2) = false:=bne_eq_false_iff_eq.mpr c7
   clear c7
   obtain rfl:=Option.some.inj H
   go_enter Try.func55,Try.ntmps55
   go_wp2
   go_ret
   exact ⟨by first|rfl|(simp;done)|(simp [*];done),by repeat (first|exact Drawn0.refl _|apply Drawn0.step)⟩
  ·rw [if_neg c7] at H
   have c7b0 : (a0 == 2) = false:=beq_eq_false_iff_ne.mpr c7
   have c7b1 : (a0 != 2) = true:=bne_iff_ne.mpr c7
   obtain rfl:=Option.some.inj H
   go_enter Try.func55,Try.ntmps55
   go_wp2
   go_ret
   exact ⟨by first|rfl|(simp;done)|(simp [*];done),by repeat (first|exact Drawn0.refl _|apply Drawn0.step)⟩
 rw [if_pos c4] at H
 have c4b0 : (a0 == 1) = true:=beq_iff_eq.mpr c4
 have c4b1 : (a0 != 1) = false:=bne_eq_false_iff_eq.mpr c4
 clear c4
 by_cases c5 : a1 < 2
 ·rw [if_pos c5] at H
  have c5b0 : decide (a1 < 2) = true:=decide_eq_true c5
  clear c5
  obtain rfl:=Option.some.inj H
  go_enter Try.func55,Try.ntmps55
  go_wp2
  go_ret
  exact ⟨by first|rfl|(simp;done)|(simp [*];done),by repeat (first|exact Drawn0.refl _|apply Drawn0.step)⟩
 ·rw [if_neg c5] at H
  have c5b0 : decide (a1 < 2) = false:=decide_eq_false c5
  clear c5
  by_cases c6 : a0 = 2
  ·rw [if_pos c6] at H
   have c6b0 : (a0 == 2) = true:=beq_iff_eq.mpr c6
   have c6b1 : (a0 != 2) = false:=bne_eq_false_iff_eq.mpr c6
   clear c6
   obtain rfl:=Option.some.inj H
   go_enter Try.func55,Try.ntmps55
   go_wp2
   go_ret
   exact ⟨by first|rfl|(simp;done)|(simp [*];done),by repeat (first|exact Drawn0.refl _|apply Drawn0.step)⟩
  ·rw [if_neg c6] at H
   have c6b0 : (a0 == 2) = false:=beq_eq_false_iff_ne.mpr c6
   have c6b1 : (a0 != 2) = true:=bne_iff_ne.mpr c6
   obtain rfl:=Option.some.inj H
   go_enter Try.func55,Try.ntmps55
   go_wp2
   go_ret
   exact ⟨by first|rfl|(simp;done)|(simp [*];done),by repeat (first|exact Drawn0.refl _|apply Drawn0.step)⟩

/-! ### road_may: function 53 -/
def road_may.f (a0_0 : Int) (a0_1 : Int) (l0_2 : List Int) (l0_3 : List Int) (a1 : Int) (a2 : Int) : Option (Bool) := (road_joined.f a0_0 a0_1 l0_2 l0_3 a1 a2).bind fun t121 => (if t121 = true then (if 0 ≤ a1 then (if a1 < (l0_3.length : Int) then ((road_lets.f (rd l0_3 a1) a2).bind fun t123 => (if t123 = true then ((road_beyond.f a0_0 a0_1 l0_2 l0_3 a1 a2).bind fun t124 => (if 0 ≤ t124 then (if t124 < (l0_3.length : Int) then ((road_lets.f (rd l0_3 t124) a2).bind fun t126 => (some t126)) else (none)) else (none))) else (some false))) else (none)) else (none)) else (some false))
def road_may.T1 : Bool × List (List Nat × List Nat) := (true, [([], []), ([], []), ([], []), ([0, 1, 2], [0, 1, 2]), ([3, 3], [3]), ([4], [4]), ([5, 4], [4, 5]), ([4], [4]), ([6, 7, 4], [4, 6, 7]), ([8, 4], [4, 8]), ([4], [4]), ([9, 10, 4, 4], [4, 9, 10]), ([4, 11], [4, 11]), ([12, 11], [12]), ([13], [13]), ([14, 13], [13, 14]), ([13], [13]), ([13], [13]), ([13], [13]), ([16, 17, 18, 13, 13], [13, 16, 17, 18]), ([15, 19, 13], [13, 15, 19]), ([20, 13], [13, 20]), ([13], [13]), ([21, 22, 19, 13], [13, 21, 22]), ([13, 23], [13, 23]), ([24, 23, 0, 1, 2, 3, 4, 5, 6, 7, 8, 9, 10, 11, 12, 13, 14, 15, 16, 17, 18, 19, 20, 21, 22, 23, 24], [24])])
def road_may.B1 : List Nat := [0, 0, 0, 7, 15, 31, 63, 31, 255, 511, 31, 2047, 4095, 8191, 16383, 32767, 16383, 16383, 16383, 475135, 1048575, 2097151, 16383, 8388607, 16777215, 33554431]
theorem road_may.tab1 : rtab .any (opsOf Try.f53 1) = road_may.T1 := by kernel_rfl
theorem road_may.bits1 : waitsOk road_may.T1.2 road_may.B1 = true := by kernel_rfl
set_option maxHeartbeats 8000000 in
set_option maxRecDepth 100000 in
theorem road_may.calls (a0_0 : Int) (a0_1 : Int) (A0_2 : Option Addr) (c0_2 : Nat) (l0_2 : List Int) (A0_3 : Option Addr) (c0_3 : Nat) (l0_3 : List Int) (a1 : Int) (a2 : Int) (r : Bool) (w : World) (hr0_2 : Kd.C (Kd.int .i64) w A0_2 l0_2.length l0_2) (hc0_2 : l0_2.length ≤ c0_2) (hr0_3 : Kd.C (Kd.int .i64) w A0_3 l0_3.length l0_3) (hc0_3 : l0_3.length ≤ c0_3) (h : road_may.f a0_0 a0_1 l0_2 l0_3 a1 a2 = some r) :
  Calls Try.prog 53 #[.agg #[.int .i64 a0_0,.int .i64 a0_1,.slice A0_2 l0_2.length c0_2,.slice A0_3 l0_3.length c0_3],.int .i64 a1,.int .i64 a2] w fun e w' => e = .returned (.bool r) ∧ Below w.heap.size w w':=by
 have hu24:=Try.underlying24
 have HR0_2:=Aside0.mk hr0_2
 have HC0_2:=Aside0.mk hc0_2
 clear hr0_2 hc0_2
 have HR0_3:=Aside0.mk hr0_3
 have HC0_3:=Aside0.mk hc0_3
 clear hr0_3 hc0_3
 have HB:=Aside0.mk (Below.refl w.heap.size w)
 have H : ((road_joined.f a0_0 a0_1 l0_2 l0_3 a1 a2).bind fun t121 => (if t121 = true then (if 0 ≤ a1 then (if a1 < (l0_3.length : Int) then ((road_lets.f (rd l0_3 a1) a2).bind fun t123 => (if t123 = true then ((road_beyond.f a0_0 a0_1 l0_2 l0_3 a1 a2).bind fun t124 => (if 0 ≤ t124 then (if t124 < (l0_3.length : Int) then ((road_lets.f (rd l0_3 t124) a2).bind fun t126 => (some t126)) else (none)) else (none))) else (some false))) else (none)) else (none)) else (some false))) = some r:=h
 clear h
 replace H:=Option.bind_eq_some_iff.mp H
 obtain ⟨t121,A40,H⟩:=H
 replace H : (if t121 = true then (if 0 ≤ a1 then (if a1 < (l0_3.length : Int) then ((road_lets.f (rd l0_3 a1) a2).bind fun t123 => (if t123 = true then ((road_beyond.f a0_0 a0_1 l0_2 l0_3 a1 a2).bind fun t124 => (if 0 ≤ t124 then (if t124 < (l0_3.length : Int) then ((road_lets.f (rd l0_3 t124) a2).bind fun t126 => (some t126)) else (none)) else (none))) else (some false))) else (none)) else (none)) else (some false)) = some r:=H
 have A4:=Aside0.mk A40
 clear A40
 by_cases c5 : t121 = true
 ·subst c5
  have H1 : (if 0 ≤ a1 then (if a1 < (l0_3.length : Int) then ((road_lets.f (rd l0_3 a1) a2).bind fun t123 => (if t123 = true then ((road_beyond.f a0_0 a0_1 l0_2 l0_3 a1 a2).bind fun t124 => (if 0 ≤ t124 then (if t124 < (l0_3.length : Int) then ((road_lets.f (rd l0_3 t124) a2).bind fun t126 => (some t126)) else (none)) else (none))) else (some false))) else (none)) else (none)) = some r:=by rw [if_pos rfl] at H;exact H
  clear H
  have H:=H1
  clear H1
  replace H:=ifp_ H;obtain ⟨c6,H⟩:=H
  have c6b0 : decide (0 ≤ a1) = true:=decide_eq_true c6
  clear c6
  replace H:=ifp_ H;obtain ⟨c7,H⟩:=H
  have c7b0 : decide (a1 < (l0_3.length : Int)) = true:=decide_eq_true c7
  clear c7
  replace H:=Option.bind_eq_some_iff.mp H
  obtain ⟨t123,A80,H⟩:=H
  replace H : (if t123 = true then ((road_beyond.f a0_0 a0_1 l0_2 l0_3 a1 a2).bind fun t124 => (if 0 ≤ t124 then (if t124 < (l0_3.length : Int) then ((road_lets.f (rd l0_3 t124) a2).bind fun t126 => (some t126)) else (none)) else (none))) else (some false)) = some r:=H
  have A8:=Aside0.mk A80
  clear A80
  by_cases c9 : t123 = true
  ·subst c9
   have H1 : ((road_beyond.f a0_0 a0_1 l0_2 l0_3 a1 a2).bind fun t124 => (if 0 ≤ t124 then (if t124 < (l0_3.length : Int) then ((road_lets.f (rd l0_3 t124) a2).bind fun t126 => (some t126)) else (none)) else (none))) = some r:=by rw [if_pos rfl] at H;exact H
   clear H
   have H:=H1
   clear H1
   replace H:=Option.bind_eq_some_iff.mp H
   obtain ⟨t124,A100,H⟩:=H
   replace H : (if 0 ≤ t124 then (if t124 < (l0_3.length : Int) then ((road_lets.f (rd l0_3 t124) a2).bind fun t126 => (some t126)) else (none)) else (none)) = some r:=H
   have A10:=Aside0.mk A100
   clear A100
   replace H:=ifp_ H;obtain ⟨c11,H⟩:=H
   have c11b0 : decide (0 ≤ t124) = true:=decide_eq_true c11
   clear c11
   replace H:=ifp_ H;obtain ⟨c12,H⟩:=H
   have c12b0 : decide (t124 < (l0_3.length : Int)) = true:=decide_eq_true c12
   clear c12
   replace H:=Option.bind_eq_some_iff.mp H
   obtain ⟨t126,A130,H⟩:=H
   replace H : (some t126) = some r:=H
   have A13:=Aside0.mk A130
   clear A130
   obtain rfl:=Option.some.inj H
   go_enter Try.func53,Try.ntmps53
   try go_wp2_with (first|((with_reducible refine gate_dst (N:=3) rfl ?_);refine box_ev (N:=3) (cs:=#[.int .i64 a0_0,.int .i64 a0_1,.slice A0_2 l0_2.length c0_2,.slice A0_3 l0_3.length c0_3]) (t:=24) ?_;intro gb120 hg w14 hbox hb;have BK120:=Aside0.mk (hbox);have GW120 : Aside0 (w.heap.size ≤ gb120):=gsz hg;have GE120:=GW120;replace HB:=Aside0.mk (below_step (hb_) hb);clear hb hbox hg))
   replace BK120:=Aside0.mk (blk_drew BK120.out)
   replace HB:=Aside0.mk (below_drew1 HB.out)
   have p122 : 0 ≤ (a1 : Int):=of_decide_eq_true (by first|(with_reducible assumption)|assumption)
   have q122 : a1 < (l0_3.length : Int):=of_decide_eq_true (by first|(with_reducible assumption)|assumption)
   obtain ⟨ad122,e122,hx122_0⟩:=Kd.at_int HR0_3.out a1 p122 q122
   have hw122_0:=hx122_0
   cases e122
   replace hx122_0:=(HB.out.cell (World.block_lt_of_cell? w _ hx122_0)).trans hx122_0
   replace p122:=eq_true p122
   replace q122:=eq_true q122
   have p125 : 0 ≤ (t124 : Int):=of_decide_eq_true (by first|(with_reducible assumption)|assumption)
   have q125 : t124 < (l0_3.length : Int):=of_decide_eq_true (by first|(with_reducible assumption)|assumption)
   obtain ⟨ad125,e125,hx125_0⟩:=Kd.at_int HR0_3.out t124 p125 q125
   have hw125_0:=hx125_0
   obtain rfl : ad122 = ad125:=(by injection e125)
   replace hx125_0:=(HB.out.cell (World.block_lt_of_cell? w _ hx125_0)).trans hx125_0
   replace p125:=eq_true p125
   replace q125:=eq_true q125
   refine start_ (n:=26) (S:=fun w' => w'.cell? ⟨gb120,0,none⟩ = some (.int .i64 a0_0) ∧ w'.cell? ⟨gb120,1,none⟩ = some (.int .i64 a0_1) ∧ w'.cell? ⟨gb120,2,none⟩ = some (.slice A0_2 l0_2.length c0_2) ∧ w'.cell? ⟨gb120,3,none⟩ = some (.slice (some ad122) l0_3.length c0_3) ∧ w'.cell? (ad122.add (a1).toNat) = some (.int .i64 (rd l0_3 a1)) ∧ w'.cell? (ad122.add (t124).toNat) = some (.int .i64 (rd l0_3 t124))) (ds:=[]) #[false,false,false,false,false,false,false,false,false,false,false,false,false,false,false,false,false,false,false,false,false,false,false,false,false,false] (by kernel_rfl) rfl rfl ⟨(blk_cell BK120.out 0).trans rfl,(blk_cell BK120.out 1).trans rfl,(blk_cell BK120.out 2).trans rfl,(blk_cell BK120.out 3).trans rfl,((HB.out.cell (World.block_lt_of_cell? w _ hw122_0)).trans hw122_0),((HB.out.cell (World.block_lt_of_cell? w _ hw125_0)).trans hw125_0)⟩ (fun hHeld => ?_);refine with_tabW road_may.tab1 road_may.bits1 (fun HT_ HW_ => ?_)
   generalize w14.drew = w15 at BK120 HB hx122_0 hx125_0 hHeld ⊢
   refine pI 1 (some 8) ?_
   refine pI 2 (some 9) ?_
   refine tI6 0 (some 7) hHeld ?_
   refine oI 3 (some 10) (fun K hK => ?_)
   refine goes_ Try.func41 (by kernel_rfl) rfl #[.agg #[.int .i64 a0_0,.int .i64 a0_1,.slice A0_2 l0_2.length c0_2,.slice (some ad122) l0_3.length c0_3],.int .i64 a1,.int .i64 a2] (by rfl) rfl rfl (by (try simp only [List.map_toArray,List.map_cons,List.map_nil]);first|done|rfl|(simp only [List.length_drop,List.length_take];rfl)) ?_
   with_reducible refine (road_joined.calls a0_0 a0_1 _ _ l0_2 _ _ l0_3 a1 a2 true _ ?side1 ?side2 ?side3 ?side4 A4.out).mono ?_
   (case side1 => exact Kd.C_up (Kd.C_below HR0_2.out HB.out))
   (case side2 => exact HC0_2.out)
   (case side3 => exact Kd.C_up (Kd.C_below HR0_3.out HB.out))
   (case side4 => exact HC0_3.out)
   rintro e w16 ⟨rfl,hb⟩
   refine ⟨_,rfl,?_⟩
   have n0_:=bkb BK120 hb
   have n1_:=Aside0.mk (below_step (hb_) hb)
   clear BK120
   clear HB
   have BK120:=n0_
   have HB:=n1_
   clear n0_ n1_
   (try clear hb)
   (try clear hb2)
   (try clear hk)
   (try clear hi)
   refine hK.out _ _ ⟨(blk_cell BK120.out 0).trans rfl,(blk_cell BK120.out 1).trans rfl,(blk_cell BK120.out 2).trans rfl,(blk_cell BK120.out 3).trans rfl,((HB.out.cell (World.block_lt_of_cell? w _ hw122_0)).trans hw122_0),((HB.out.cell (World.block_lt_of_cell? w _ hw125_0)).trans hw125_0)⟩ (fun hHeld => ?_)
   clear hK K
   refine norm_ (a':=?_) ?_ ?_
   rotate_left
   ·show Act.put _ (some 10) _ = _
    simp only [Act.put,List.setIfInBounds_toArray,List.set_cons_zero,List.set_cons_succ,i64_w,i32_w]
    rfl
   refine pI 4 (some 11) ?_
   refine pI 5 (some 12) ?_
   refine pI 7 (some 14) ?_
   refine pI 10 (some 17) ?_
   refine tI6 6 (some 13) hHeld ?_
   refine pI 8 (some 15) ?_
   refine tI6 9 (some 16) hHeld ?_
   refine oI 11 (some 18) (fun K hK => ?_)
   refine goes_ Try.func55 (by kernel_rfl) rfl #[.int .i64 (rd l0_3 a1),.int .i64 a2] (by rfl) rfl rfl (by (try simp only [List.map_toArray,List.map_cons,List.map_nil]);first|done|rfl|(simp only [List.length_drop,List.length_take];rfl)) ?_
   with_reducible refine (road_lets.calls (rd l0_3 a1) a2 true _ A8.out).mono ?_
   rintro e w' ⟨rfl,⟨nd,rfl⟩⟩
   refine ⟨_,rfl,?_⟩
   refine hK.out _ _ ⟨(blk_cell BK120.out 0).trans rfl,(blk_cell BK120.out 1).trans rfl,(blk_cell BK120.out 2).trans rfl,(blk_cell BK120.out 3).trans rfl,((HB.out.cell (World.block_lt_of_cell? w _ hw122_0)).trans hw122_0),((HB.out.cell (World.block_lt_of_cell? w _ hw125_0)).trans hw125_0)⟩ (fun hHeld => ?_)
   clear hK K
   refine norm_ (a':=?_) ?_ ?_
   rotate_left
   ·show Act.put _ (some 18) _ = _
    simp only [Act.put,List.setIfInBounds_toArray,List.set_cons_zero,List.set_cons_succ,i64_w,i32_w]
    rfl
   refine pI 12 (some 19) ?_
   refine pI 13 (some 20) ?_
   refine pI 14 (some 21) ?_
   refine pI 17 (some 24) ?_
   refine pI 18 (some 25) ?_
   refine pI 22 (some 29) ?_
   refine tI6 15 (some 22) hHeld ?_
   refine tI6 16 (some 23) hHeld ?_
   refine oI 19 (some 26) (fun K hK => ?_)
   refine goes_ Try.func51 (by kernel_rfl) rfl #[.agg #[.int .i64 a0_0,.int .i64 a0_1,.slice A0_2 l0_2.length c0_2,.slice (some ad122) l0_3.length c0_3],.int .i64 a1,.int .i64 a2] (by rfl) rfl rfl (by (try simp only [List.map_toArray,List.map_cons,List.map_nil]);first|done|rfl|(simp only [List.length_drop,List.length_take];rfl)) ?_
   with_reducible refine (road_beyond.calls a0_0 a0_1 _ _ l0_2 _ _ l0_3 a1 a2 t124 _ ?side1 ?side2 ?side3 ?side4 A10.out).mono ?_
   (case side1 => repeat (first|exact (Kd.C_below HR0_2.out (hb_))|(with_reducible refine Kd.C_alloc ?_ _)|(with_reducible refine Kd.C_drewN ?_ _)|(with_reducible refine Kd.C_drew ?_)))
   (case side2 => exact HC0_2.out)
   (case side3 => repeat (first|exact (Kd.C_below HR0_3.out (hb_))|(with_reducible refine Kd.C_alloc ?_ _)|(with_reducible refine Kd.C_drewN ?_ _)|(with_reducible refine Kd.C_drew ?_)))
   (case side4 => exact HC0_3.out)
   rintro e w17 ⟨rfl,hb⟩
   refine ⟨_,rfl,?_⟩
   have n0_:=bkb BK120 hb
   have n1_:=Aside0.mk (below_step (hb_) hb)
   clear BK120
   clear HB
   have BK120:=n0_
   have HB:=n1_
   clear n0_ n1_
   (try clear hb)
   (try clear hb2)
   (try clear hk)
   (try clear hi)
   refine hK.out _ _ ⟨(blk_cell BK120.out 0).trans rfl,(blk_cell BK120.out 1).trans rfl,(blk_cell BK120.out 2).trans rfl,(blk_cell BK120.out 3).trans rfl,((HB.out.cell (World.block_lt_of_cell? w _ hw122_0)).trans hw122_0),((HB.out.cell (World.block_lt_of_cell? w _ hw125_0)).trans hw125_0)⟩ (fun hHeld => ?_)
   clear hK K
   refine norm_ (a':=?_) ?_ ?_
   rotate_left
   ·show Act.put _ (some 26) _ = _
    simp only [Act.put,List.setIfInBounds_toArray,List.set_cons_zero,List.set_cons_succ,i64_w,i32_w]
    rfl
   refine pI 20 (some 27) ?_
   refine tI6 21 (some 28) hHeld ?_
   refine oI 23 (some 30) (fun K hK => ?_)
   refine goes_ Try.func55 (by kernel_rfl) rfl #[.int .i64 (rd l0_3 t124),.int .i64 a2] (by rfl) rfl rfl (by (try simp only [List.map_toArray,List.map_cons,List.map_nil]);first|done|rfl|(simp only [List.length_drop,List.length_take];rfl)) ?_
   with_reducible refine (road_lets.calls (rd l0_3 t124) a2 t126 _ A13.out).mono ?_
   rintro e w' ⟨rfl,⟨nd,rfl⟩⟩
   refine ⟨_,rfl,?_⟩
   refine hK.out _ _ ⟨(blk_cell BK120.out 0).trans rfl,(blk_cell BK120.out 1).trans rfl,(blk_cell BK120.out 2).trans rfl,(blk_cell BK120.out 3).trans rfl,((HB.out.cell (World.block_lt_of_cell? w _ hw122_0)).trans hw122_0),((HB.out.cell (World.block_lt_of_cell? w _ hw125_0)).trans hw125_0)⟩ (fun hHeld => ?_)
   clear hK K
   refine norm_ (a':=?_) ?_ ?_
   rotate_left
   ·show Act.put _ (some 30) _ = _
    simp only [Act.put,List.setIfInBounds_toArray,List.set_cons_zero,List.set_cons_succ,i64_w,i32_w]
    rfl
   refine pI 24 (some 31) ?_
   refine pI 25 (some 6) ?_
   refine done_ (done_of HT_.out (by kernel_rfl)) ?_
   try go_wp2
   go_ret
   exact ⟨by first|rfl|(simp [errW_none,errW_some] <;> rfl)|(simp [*,errW_none,errW_some] <;> rfl),hb_⟩
  ·replace c9:=Bool.eq_false_iff.mpr c9
   subst c9
   have H1 : (some false) = some r:=by rw [if_neg (show ¬ (false = true) by decide)] at H;exact H
   clear H
   have H:=H1
   clear H1
   obtain rfl:=Option.some.inj H
   go_enter Try.func53,Try.ntmps53
   try go_wp2_with (first|((with_reducible refine gate_dst (N:=3) rfl ?_);refine box_ev (N:=3) (cs:=#[.int .i64 a0_0,.int .i64 a0_1,.slice A0_2 l0_2.length c0_2,.slice A0_3 l0_3.length c0_3]) (t:=24) ?_;intro gb120 hg w18 hbox hb;have BK120:=Aside0.mk (hbox);have GW120 : Aside0 (w.heap.size ≤ gb120):=gsz hg;have GE120:=GW120;replace HB:=Aside0.mk (below_step (hb_) hb);clear hb hbox hg))
   replace BK120:=Aside0.mk (blk_drew BK120.out)
   replace HB:=Aside0.mk (below_drew1 HB.out)
   have p122 : 0 ≤ (a1 : Int):=of_decide_eq_true (by first|(with_reducible assumption)|assumption)
   have q122 : a1 < (l0_3.length : Int):=of_decide_eq_true (by first|(with_reducible assumption)|assumption)
   obtain ⟨ad122,e122,hx122_0⟩:=Kd.at_int HR0_3.out a1 p122 q122
   have hw122_0:=hx122_0
   cases e122
   replace hx122_0:=(HB.out.cell (World.block_lt_of_cell? w _ hx122_0)).trans hx122_0
   replace p122:=eq_true p122
   replace q122:=eq_true q122
   refine start_ (n:=26) (S:=fun w' => w'.cell? ⟨gb120,0,none⟩ = some (.int .i64 a0_0) ∧ w'.cell? ⟨gb120,1,none⟩ = some (.int .i64 a0_1) ∧ w'.cell? ⟨gb120,2,none⟩ = some (.slice A0_2 l0_2.length c0_2) ∧ w'.cell? ⟨gb120,3,none⟩ = some (.slice (some ad122) l0_3.length c0_3) ∧ w'.cell? (ad122.add (a1).toNat) = some (.int .i64 (rd l0_3 a1))) (ds:=[]) #[false,false,false,false,false,false,false,false,false,false,false,false,false,false,false,false,false,false,false,false,false,false,false,false,false,false] (by kernel_rfl) rfl rfl ⟨(blk_cell BK120.out 0).trans rfl,(blk_cell BK120.out 1).trans rfl,(blk_cell BK120.out 2).trans rfl,(blk_cell BK120.out 3).trans rfl,((HB.out.cell (World.block_lt_of_cell? w _ hw122_0)).trans hw122_0)⟩ (fun hHeld => ?_);refine with_tabW road_may.tab1 road_may.bits1 (fun HT_ HW_ => ?_)
   generalize w18.drew = w19 at BK120 HB hx122_0 hHeld ⊢
   refine pI 1 (some 8) ?_
   refine pI 2 (some 9) ?_
   refine tI5 0 (some 7) hHeld ?_
   refine oI 3 (some 10) (fun K hK => ?_)
   refine goes_ Try.func41 (by kernel_rfl) rfl #[.agg #[.int .i64 a0_0,.int .i64 a0_1,.slice A0_2 l0_2.length c0_2,.slice (some ad122) l0_3.length c0_3],.int .i64 a1,.int .i64 a2] (by rfl) rfl rfl (by (try simp only [List.map_toArray,List.map_cons,List.map_nil]);first|done|rfl|(simp only [List.length_drop,List.length_take];rfl)) ?_
   with_reducible refine (road_joined.calls a0_0 a0_1 _ _ l0_2 _ _ l0_3 a1 a2 true _ ?side1 ?side2 ?side3 ?side4 A4.out).mono ?_
   (case side1 => exact Kd.C_up (Kd.C_below HR0_2.out HB.out))
   (case side2 => exact HC0_2.out)
   (case side3 => exact Kd.C_up (Kd.C_below HR0_3.out HB.out))
   (case side4 => exact HC0_3.out)
   rintro e w20 ⟨rfl,hb⟩
   refine ⟨_,rfl,?_⟩
   have n0_:=bkb BK120 hb
   have n1_:=Aside0.mk (below_step (hb_) hb)
   clear BK120
   clear HB
   have BK120:=n0_
   have HB:=n1_
   clear n0_ n1_
   (try clear hb)
   (try clear hb2)
   (try clear hk)
   (try clear hi)
   refine hK.out _ _ ⟨(blk_cell BK120.out 0).trans rfl,(blk_cell BK120.out 1).trans rfl,(blk_cell BK120.out 2).trans rfl,(blk_cell BK120.out 3).trans rfl,((HB.out.cell (World.block_lt_of_cell? w _ hw122_0)).trans hw122_0)⟩ (fun hHeld => ?_)
   clear hK K
   refine norm_ (a':=?_) ?_ ?_
   rotate_left
   ·show Act.put _ (some 10) _ = _
    simp only [Act.put,List.setIfInBounds_toArray,List.set_cons_zero,List.set_cons_succ,i64_w,i32_w]
    rfl
   refine pI 4 (some 11) ?_
   refine pI 5 (some 12) ?_
   refine pI 7 (some 14) ?_
   refine pI 10 (some 17) ?_
   refine tI5 6 (some 13) hHeld ?_
   refine pI 8 (some 15) ?_
   refine tI5 9 (some 16) hHeld ?_
   refine oI 11 (some 18) (fun K hK => ?_)
   refine goes_ Try.func55 (by kernel_rfl) rfl #[.int .i64 (rd l0_3 a1),.int .i64 a2] (by rfl) rfl rfl (by (try simp only [List.map_toArray,List.map_cons,List.map_nil]);first|done|rfl|(simp only [List.length_drop,List.length_take];rfl)) ?_
   with_reducible refine (road_lets.calls (rd l0_3 a1) a2 false _ A8.out).mono ?_
   rintro e w' ⟨rfl,⟨nd,rfl⟩⟩
   refine ⟨_,rfl,?_⟩
   refine hK.out _ _ ⟨(blk_cell BK120.out 0).trans rfl,(blk_cell BK120.out 1).trans rfl,(blk_cell BK120.out 2).trans rfl,(blk_cell BK120.out 3).trans rfl,((HB.out.cell (World.block_lt_of_cell? w _ hw122_0)).trans hw122_0)⟩ (fun hHeld => ?_)
   clear hK K
   refine norm_ (a':=?_) ?_ ?_
   rotate_left
   ·show Act.put _ (some 18) _ = _
    simp only [Act.put,List.setIfInBounds_toArray,List.set_cons_zero,List.set_cons_succ,i64_w,i32_w]
    rfl
   refine pI 12 (some 19) ?_
   refine pI 13 (some 20) ?_
   refine pU 14 (some 21) ?_
   refine pU 15 (some 22) ?_
   refine pU 16 (some 23) ?_
   refine pU 17 (some 24) ?_
   refine pU 18 (some 25) ?_
   refine pU 19 (some 26) ?_
   refine pU 20 (some 27) ?_
   refine pU 21 (some 28) ?_
   refine pU 22 (some 29) ?_
   refine pU 23 (some 30) ?_
   refine pI 24 (some 31) ?_
   refine pI 25 (some 6) ?_
   refine done_ (done_of HT_.out (by kernel_rfl)) ?_
   try go_wp2
   go_ret
   exact ⟨by first|rfl|(simp [errW_none,errW_some] <;> rfl)|(simp [*,errW_none,errW_some] <;> rfl),hb_⟩
 ·replace c5:=Bool.eq_false_iff.mpr c5
  subst c5
  have H1 : (some false) = some r:=by rw [if_neg (show ¬ (false = true) by decide)] at H;exact H
  clear H
  have H:=H1
  clear H1
  obtain rfl:=Option.some.inj H
  go_enter Try.func53,Try.ntmps53
  try go_wp2_with (first|((with_reducible refine gate_dst (N:=3) rfl ?_);refine box_ev (N:=3) (cs:=#[.int .i64 a0_0,.int .i64 a0_1,.slice A0_2 l0_2.length c0_2,.slice A0_3 l0_3.length c0_3]) (t:=24) ?_;intro gb120 hg w21 hbox hb;have BK120:=Aside0.mk (hbox);have GW120 : Aside0 (w.heap.size ≤ gb120):=gsz hg;have GE120:=GW120;replace HB:=Aside0.mk (below_step (hb_) hb);clear hb hbox hg))
  replace BK120:=Aside0.mk (blk_drew BK120.out)
  replace HB:=Aside0.mk (below_drew1 HB.out)
  refine start_ (n:=26) (S:=fun w' => w'.cell? ⟨gb120,0,none⟩ = some (.int .i64 a0_0) ∧ w'.cell? ⟨gb120,1,none⟩ = some (.int .i64 a0_1) ∧ w'.cell? ⟨gb120,2,none⟩ = some (.slice A0_2 l0_2.length c0_2) ∧ w'.cell? ⟨gb120,3,none⟩ = some (.slice A0_3 l0_3.length c0_3)) (ds:=[]) #[false,false,false,false,false,false,false,false,false,false,false,false,false,false,false,false,false,false,false,false,false,false,false,false,false,false] (by kernel_rfl) rfl rfl ⟨(blk_cell BK120.out 0).trans rfl,(blk_cell BK120.out 1).trans rfl,(blk_cell BK120.out 2).trans rfl,(blk_cell BK120.out 3).trans rfl⟩ (fun hHeld => ?_);refine with_tabW road_may.tab1 road_may.bits1 (fun HT_ HW_ => ?_)
  generalize w21.drew = w22 at BK120 HB hHeld ⊢
  refine pI 1 (some 8) ?_
  refine pI 2 (some 9) ?_
  refine tI4 0 (some 7) hHeld ?_
  refine oI 3 (some 10) (fun K hK => ?_)
  refine goes_ Try.func41 (by kernel_rfl) rfl #[.agg #[.int .i64 a0_0,.int .i64 a0_1,.slice A0_2 l0_2.length c0_2,.slice A0_3 l0_3.length c0_3],.int .i64 a1,.int .i64 a2] (by rfl) rfl rfl (by (try simp only [List.map_toArray,List.map_cons,List.map_nil]);first|done|rfl|(simp only [List.length_drop,List.length_take];rfl)) ?_
  with_reducible refine (road_joined.calls a0_0 a0_1 _ _ l0_2 _ _ l0_3 a1 a2 false _ ?side1 ?side2 ?side3 ?side4 A4.out).mono ?_
  (case side1 => exact Kd.C_up (Kd.C_below HR0_2.out HB.out))
  (case side2 => exact HC0_2.out)
  (case side3 => exact Kd.C_up (Kd.C_below HR0_3.out HB.out))
  (case side4 => exact HC0_3.out)
  rintro e w23 ⟨rfl,hb⟩
  refine ⟨_,rfl,?_⟩
  have n0_:=bkb BK120 hb
  have n1_:=Aside0.mk (below_step (hb_) hb)
  clear BK120
  clear HB
  have BK120:=n0_
  have HB:=n1_
  clear n0_ n1_
  (try clear hb)
  (try clear hb2)
  (try clear hk)
  (try clear hi)
  refine hK.out _ _ ⟨(blk_cell BK120.out 0).trans rfl,(blk_cell BK120.out 1).trans rfl,(blk_cell BK120.out 2).trans rfl,(blk_cell BK120.out 3).trans rfl⟩ (fun hHeld => ?_)
  clear hK K
  refine norm_ (a':=?_) ?_ ?_
  rotate_left
  ·show Act.put _ (some 10) _ = _
   simp only [Act.put,List.setIfInBounds_toArray,List.set_cons_zero,List.set_cons_succ,i64_w,i32_w]
   rfl
  refine pI 4 (some 11) ?_
  refine pU 5 (some 12) ?_
  refine pU 6 (some 13) ?_
  refine pU 7 (some 14) ?_
  refine pU 8 (some 15) ?_
  refine pU 9 (some 16) ?_
  refine pU 10 (some 17) ?_
  refine pU 11 (some 18) ?_
  refine pI 12 (some 19) ?_
  refine pI 13 (some 20) ?_
  refine pU 14 (some 21) ?_
  refine pU 15 (some 22) ?_
  refine pU 16 (some 23) ?_
  refine pU 17 (some 24) ?_
  refine pU 18 (some 25) ?_
  refine pU 19 (some 26) ?_
  refine pU 20 (some 27) ?_
  refine pU 21 (some 28) ?_
  refine pU 22 (some 29) ?_
  refine pU 23 (some 30) ?_
  refine pI 24 (some 31) ?_
  refine pI 25 (some 6) ?_
  refine done_ (done_of HT_.out (by kernel_rfl)) ?_
  try go_wp2
  go_ret
  exact ⟨by first|rfl|(simp [errW_none,errW_some] <;> rfl)|(simp [*,errW_none,errW_some] <;> rfl),hb_⟩

-- NOT PRINTED: function 52 (road_next_1)

end Go.Proofs.Ytbdekjjdojbokaa.P

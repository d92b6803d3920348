/- Functions of this seat as plain Lean functions, with proofs that the Go code comes to just their answers, or what stands between them and a law's statement; no conditions. (Laid by a program of this session, out of the kit's print.) -/
import Derived.Test.YtiencnnkphipoaaPx0
import Derived.Test.YtiencnnkphipoaaPx26
import Derived.Test.YtiencnnkphipoaaPx28
namespace Go.Proofs.Ytiencnnkphipoaa.P
open Go.RowKit Go.Proofs.YtiencnnkphipoaaW.PrintWords Go.Proofs.YtiencnnkphipoaaW.PrintLast Go.Proofs.YtiencnnkphipoaaW.PrintMore
attribute [local go_sem] max2_int min2_int max_two min_two max_three min_three max_four min_four   -- for this text's walks alone
set_option linter.unusedVariables false
set_option linter.unusedSimpArgs false

/-! ### hinterlandref06_Joined: function 17 -/
def hinterlandref06_Joined.f (k : Nat) (a0_0 : Int) (a0_1 : Int) (l0_2 : List Int) (l1_0 : List Int) (l1_1 : List Int) (a2 : Int) (a3 : Int) : Option (Bool × Int) := (hinterlandref06_place.f k a0_0 a0_1 l0_2 l1_0 l1_1 a2).bind fun t592 => (if t592 = 0 then (if a3 < 0 then (some (false, 1)) else (if a3 > 3 then (some (false, 1)) else ((hinterlandref06_Meets.f k a0_0 a0_1 l0_2 l1_0 l1_1 a2 a3).bind fun t593 => (some (decide (t593 ≥ 0), 0))))) else (some (false, t592)))
theorem hinterlandref06_Joined.mono : ∀ a0 a1 a2 a3 a4 a5 a6 k, LeO (hinterlandref06_Joined.f k a0 a1 a2 a3 a4 a5 a6) (hinterlandref06_Joined.f (k + 1) a0 a1 a2 a3 a4 a5 a6) := by
 intro a0 a1 a2 a3 a4 a5 a6 k
 unfold hinterlandref06_Joined.f
 repeat' first
   | (with_reducible exact hinterlandref06_Meets.mono _ _ _ _ _ _ _ _)
   | (with_reducible exact hinterlandref06_place.mono _ _ _ _ _ _ _)
   | (with_reducible exact LeO.refl _)
   | (with_reducible exact LeO.none _)
   | (with_reducible refine LeO.ite ?_ ?_)
   | (with_reducible refine LeO.bind ?_ (fun _ => ?_))
   | exact hinterlandref06_Meets.mono _ _ _ _ _ _ _ _
   | exact hinterlandref06_place.mono _ _ _ _ _ _ _
   | exact LeO.none _
   | refine LeO.ite ?_ ?_
   | refine LeO.bind ?_ (fun _ => ?_)
set_option maxHeartbeats 8000000 in
set_option maxRecDepth 100000 in
theorem hinterlandref06_Joined.calls (k : Nat) (a0_0 : Int) (a0_1 : Int) (A0_2 : Option Addr) (c0_2 : Nat) (l0_2 : List Int) (A1_0 : Option Addr) (c1_0 : Nat) (l1_0 : List Int) (A1_1 : Option Addr) (c1_1 : Nat) (l1_1 : List Int) (a2 : Int) (a3 : Int) (r1 : Bool) (r2 : Int) (w : World) (hr0_2 : Kd.C (Kd.int .i64) w A0_2 l0_2.length l0_2) (hc0_2 : l0_2.length ≤ c0_2) (hr1_0 : Kd.C (Kd.int .i64) w A1_0 l1_0.length l1_0) (hc1_0 : l1_0.length ≤ c1_0) (hr1_1 : Kd.C (Kd.int .i64) w A1_1 l1_1.length l1_1) (hc1_1 : l1_1.length ≤ c1_1) (h : hinterlandref06_Joined.f k a0_0 a0_1 l0_2 l1_0 l1_1 a2 a3 = some (r1, r2)) :
  Calls Try.prog 17 #[.agg #[.int .i64 a0_0,.int .i64 a0_1,.slice A0_2 l0_2.length c0_2],.agg #[.slice A1_0 l1_0.length c1_0,.slice A1_1 l1_1.length c1_1],.int .i64 a2,.int .i64 a3] w fun e w' => e = .returned (.tuple #[.bool r1,.int .i64 r2]) ∧ Below w.heap.size w w':=by
 have hu24:=Try.underlying24
 have hu26:=Try.underlying26
 have HR0_2:=Aside0.mk hr0_2
 have HC0_2:=Aside0.mk hc0_2
 clear hr0_2 hc0_2
 have HR1_0:=Aside0.mk hr1_0
 have HC1_0:=Aside0.mk hc1_0
 clear hr1_0 hc1_0
 have HR1_1:=Aside0.mk hr1_1
 have HC1_1:=Aside0.mk hc1_1
 clear hr1_1 hc1_1
 have HB:=Aside0.mk (Below.refl w.heap.size w)
 have H : ((hinterlandref06_place.f k a0_0 a0_1 l0_2 l1_0 l1_1 a2).bind fun t592 => (if t592 = 0 then (if a3 < 0 then (some (false,1)) else (if a3 > 3 then (some (false,1)) else ((hinterlandref06_Meets.f k a0_0 a0_1 l0_2 l1_0 l1_1 a2 a3).bind fun t593 => (some (decide (t593 ≥ 0),0))))) else (some (false,t592)))) = some (r1,r2):=h
 clear h
 replace H:=Option.bind_eq_some_iff.mp H
 obtain ⟨t592,A50,H⟩:=H
 replace H : (if t592 = 0 then (if a3 < 0 then (some (false,1)) else (if a3 > 3 then (some (false,1)) else ((hinterlandref06_Meets.f k a0_0 a0_1 l0_2 l1_0 l1_1 a2 a3).bind fun t593 => (some (decide (t593 ≥ 0),0))))) else (some (false,t592))) = some (r1,r2):=H
 have A5:=Aside0.mk A50
 clear A50
 by_cases c6 : t592 = 0
 ·rw [if_pos c6] at H
  have c6b0 : (t592 == 0) = true:=beq_iff_eq.mpr c6
  have c6b1 : (t592 != 0) = false:=bne_eq_false_iff_eq.mpr c6
  clear c6
  by_cases c7 : a3 < 0
  ·rw [if_pos c7] at H
   have c7b0 : decide (a3 < 0) = true:=decide_eq_true c7
   clear c7
   simp only [Option.some.injEq,Prod.mk.injEq] at H
   obtain ⟨rfl,rfl⟩:=H
   go_enter Try.func17,Try.ntmps17
   go_wp2_with (first|((with_reducible refine gate_dst (N:=4) rfl ?_);refine box_ev (N:=4) (cs:=#[.int .i64 a0_0,.int .i64 a0_1,.slice A0_2 l0_2.length c0_2]) (t:=24) ?_;intro gb590 hg w8 hbox hb;have BK590:=Aside0.mk (hbox);have GW590 : Aside0 (w.heap.size ≤ gb590):=gsz hg;have GE590:=GW590;replace HB:=Aside0.mk (below_step (hb_) hb);clear hb hbox hg)|((with_reducible refine gate_dst (N:=5) rfl ?_);refine box_ev (N:=5) (cs:=#[.slice A1_0 l1_0.length c1_0,.slice A1_1 l1_1.length c1_1]) (t:=26) ?_;intro gb591 hg w9 hbox hb;have BK591:=Aside0.mk (hbox);have GW591 : Aside0 (w.heap.size ≤ gb591):=gsz hg;have GE591:=GW591;have NB590_591:=nbl BK590 hg;have NB591_590:=nbr BK590 hg;replace BK590:=bkb BK590 hb;replace HB:=Aside0.mk (below_step (hb_) hb);clear hb hbox hg;have hnb10:=NB590_591.out;have hnc10:=NB591_590.out;obtain ⟨hcz11_0,hcz11_1,hcz11_2,hfz11_0,hfz11_1,hfz11_2⟩:=cells3 BK590.out;obtain ⟨hcz12_0,hcz12_1,hfz12_0,hfz12_1⟩:=cells2 BK591.out)|((with_reducible refine gate_callee (f:=42) rfl ?_);refine goesL_ (some 14) rfl rfl Try.func42 (by kernel_rfl) rfl #[.agg #[.int .i64 a0_0,.int .i64 a0_1,.slice A0_2 l0_2.length c0_2],.agg #[.slice A1_0 l1_0.length c1_0,.slice A1_1 l1_1.length c1_1],.int .i64 a2] rfl (by (try simp only [List.map_toArray,List.map_cons,List.map_nil]);first|done|rfl|(simp only [List.length_drop,List.length_take];rfl)) ?_;(with_reducible refine (hinterlandref06_place.calls k a0_0 a0_1 _ _ l0_2 _ _ l1_0 _ _ l1_1 a2 t592 _ ?side1 ?side2 ?side3 ?side4 ?side5 ?side6 A5.out).mono ?_);(case side1 => exact Kd.C_up (Kd.C_below HR0_2.out HB.out));(case side2 => exact HC0_2.out);(case side3 => exact Kd.C_up (Kd.C_below HR1_0.out HB.out));(case side4 => exact HC1_0.out);(case side5 => exact Kd.C_up (Kd.C_below HR1_1.out HB.out));(case side6 => exact HC1_1.out);rintro e w13 ⟨rfl,hb⟩;refine ⟨_,rfl,?_⟩;replace BK590:=bkb BK590 hb;replace BK591:=bkb BK591 hb;replace HB:=Aside0.mk (below_step (hb_) hb)))
   go_ret2
   exact ⟨by first|rfl|(simp [errW_none,errW_some] <;> rfl)|(simp [*,errW_none,errW_some] <;> rfl),hb_⟩
  ·rw [if_neg c7] at H
   have c7b0 : decide (a3 < 0) = false:=decide_eq_false c7
   clear c7
   by_cases c14 : a3 > 3
   ·rw [if_pos c14] at H
    have c14b0 : decide (3 < a3) = true:=decide_eq_true c14
    clear c14
    simp only [Option.some.injEq,Prod.mk.injEq] at H
    obtain ⟨rfl,rfl⟩:=H
    go_enter Try.func17,Try.ntmps17
    go_wp2_with (first|((with_reducible refine gate_dst (N:=4) rfl ?_);refine box_ev (N:=4) (cs:=#[.int .i64 a0_0,.int .i64 a0_1,.slice A0_2 l0_2.length c0_2]) (t:=24) ?_;intro gb590 hg w15 hbox hb;have BK590:=Aside0.mk (hbox);have GW590 : Aside0 (w.heap.size ≤ gb590):=gsz hg;have GE590:=GW590;replace HB:=Aside0.mk (below_step (hb_) hb);clear hb hbox hg)|((with_reducible refine gate_dst (N:=5) rfl ?_);refine box_ev (N:=5) (cs:=#[.slice A1_0 l1_0.length c1_0,.slice A1_1 l1_1.length c1_1]) (t:=26) ?_;intro gb591 hg w16 hbox hb;have BK591:=Aside0.mk (hbox);have GW591 : Aside0 (w.heap.size ≤ gb591):=gsz hg;have GE591:=GW591;have NB590_591:=nbl BK590 hg;have NB591_590:=nbr BK590 hg;replace BK590:=bkb BK590 hb;replace HB:=Aside0.mk (below_step (hb_) hb);clear hb hbox hg;have hnb17:=NB590_591.out;have hnc17:=NB591_590.out;obtain ⟨hcz18_0,hcz18_1,hcz18_2,hfz18_0,hfz18_1,hfz18_2⟩:=cells3 BK590.out;obtain ⟨hcz19_0,hcz19_1,hfz19_0,hfz19_1⟩:=cells2 BK591.out)|((with_reducible refine gate_callee (f:=42) rfl ?_);refine goesL_ (some 14) rfl rfl Try.func42 (by kernel_rfl) rfl #[.agg #[.int .i64 a0_0,.int .i64 a0_1,.slice A0_2 l0_2.length c0_2],.agg #[.slice A1_0 l1_0.length c1_0,.slice A1_1 l1_1.length c1_1],.int .i64 a2] rfl (by (try simp only [List.map_toArray,List.map_cons,List.map_nil]);first|done|rfl|(simp only [List.length_drop,List.length_take];rfl)) ?_;(with_reducible refine (hinterlandref06_place.calls k a0_0 a0_1 _ _ l0_2 _ _ l1_0 _ _ l1_1 a2 t592 _ ?side1 ?side2 ?side3 ?side4 ?side5 ?side6 A5.out).mono ?_);(case side1 => exact Kd.C_up (Kd.C_below HR0_2.out HB.out));(case side2 => exact HC0_2.out);(case side3 => exact Kd.C_up (Kd.C_below HR1_0.out HB.out));(case side4 => exact HC1_0.out);(case side5 => exact Kd.C_up (Kd.C_below HR1_1.out HB.out));(case side6 => exact HC1_1.out);rintro e w20 ⟨rfl,hb⟩;refine ⟨_,rfl,?_⟩;replace BK590:=bkb BK590 hb;replace BK591:=bkb BK591 hb;replace HB:=Aside0.mk (below_step (hb_) hb)))
    go_ret2
    exact ⟨by first|rfl|(simp [errW_none,errW_some] <;> rfl)|(simp [*,errW_none,errW_some] <;> rfl),hb_⟩
   ·rw [if_neg c14] at H
    have c14b0 : decide (3 < a3) = false:=decide_eq_false c14
    clear c14
    replace H:=Option.bind_eq_some_iff.mp H
    obtain ⟨t593,A210,H⟩:=H
    replace H : (some (decide (t593 ≥ 0),0)) = some (r1,r2):=H
    have A21:=Aside0.mk A210
    clear A210
    simp only [Option.some.injEq,Prod.mk.injEq] at H
    obtain ⟨rfl,rfl⟩:=H
    go_enter Try.func17,Try.ntmps17
    go_wp2_with (first|((with_reducible refine gate_dst (N:=4) rfl ?_);refine box_ev (N:=4) (cs:=#[.int .i64 a0_0,.int .i64 a0_1,.slice A0_2 l0_2.length c0_2]) (t:=24) ?_;intro gb590 hg w22 hbox hb;have BK590:=Aside0.mk (hbox);have GW590 : Aside0 (w.heap.size ≤ gb590):=gsz hg;have GE590:=GW590;replace HB:=Aside0.mk (below_step (hb_) hb);clear hb hbox hg)|((with_reducible refine gate_dst (N:=5) rfl ?_);refine box_ev (N:=5) (cs:=#[.slice A1_0 l1_0.length c1_0,.slice A1_1 l1_1.length c1_1]) (t:=26) ?_;intro gb591 hg w23 hbox hb;have BK591:=Aside0.mk (hbox);have GW591 : Aside0 (w.heap.size ≤ gb591):=gsz hg;have GE591:=GW591;have NB590_591:=nbl BK590 hg;have NB591_590:=nbr BK590 hg;replace BK590:=bkb BK590 hb;replace HB:=Aside0.mk (below_step (hb_) hb);clear hb hbox hg;have hnb24:=NB590_591.out;have hnc24:=NB591_590.out;obtain ⟨hcz25_0,hcz25_1,hcz25_2,hfz25_0,hfz25_1,hfz25_2⟩:=cells3 BK590.out;obtain ⟨hcz26_0,hcz26_1,hfz26_0,hfz26_1⟩:=cells2 BK591.out)|((with_reducible refine gate_callee (f:=42) rfl ?_);refine goesL_ (some 14) rfl rfl Try.func42 (by kernel_rfl) rfl #[.agg #[.int .i64 a0_0,.int .i64 a0_1,.slice A0_2 l0_2.length c0_2],.agg #[.slice A1_0 l1_0.length c1_0,.slice A1_1 l1_1.length c1_1],.int .i64 a2] rfl (by (try simp only [List.map_toArray,List.map_cons,List.map_nil]);first|done|rfl|(simp only [List.length_drop,List.length_take];rfl)) ?_;(with_reducible refine (hinterlandref06_place.calls k a0_0 a0_1 _ _ l0_2 _ _ l1_0 _ _ l1_1 a2 t592 _ ?side1 ?side2 ?side3 ?side4 ?side5 ?side6 A5.out).mono ?_);(case side1 => exact Kd.C_up (Kd.C_below HR0_2.out HB.out));(case side2 => exact HC0_2.out);(case side3 => exact Kd.C_up (Kd.C_below HR1_0.out HB.out));(case side4 => exact HC1_0.out);(case side5 => exact Kd.C_up (Kd.C_below HR1_1.out HB.out));(case side6 => exact HC1_1.out);rintro e w27 ⟨rfl,hb⟩;refine ⟨_,rfl,?_⟩;replace BK590:=bkb BK590 hb;replace BK591:=bkb BK591 hb;replace HB:=Aside0.mk (below_step (hb_) hb);obtain ⟨hcz28_0,hcz28_1,hcz28_2,hfz28_0,hfz28_1,hfz28_2⟩:=cells3 BK590.out;obtain ⟨hcz29_0,hcz29_1,hfz29_0,hfz29_1⟩:=cells2 BK591.out)|((with_reducible refine gate_callee (f:=43) rfl ?_);refine goesL_ (some 28) rfl rfl Try.func43 (by kernel_rfl) rfl #[.agg #[.int .i64 a0_0,.int .i64 a0_1,.slice A0_2 l0_2.length c0_2],.agg #[.slice A1_0 l1_0.length c1_0,.slice A1_1 l1_1.length c1_1],.int .i64 a2,.int .i64 a3] rfl (by (try simp only [List.map_toArray,List.map_cons,List.map_nil]);first|done|rfl|(simp only [List.length_drop,List.length_take];rfl)) ?_;(with_reducible refine (hinterlandref06_Meets.calls k a0_0 a0_1 _ _ l0_2 _ _ l1_0 _ _ l1_1 a2 a3 t593 _ ?side1 ?side2 ?side3 ?side4 ?side5 ?side6 A21.out).mono ?_);(case side1 => exact Kd.C_up (Kd.C_below HR0_2.out HB.out));(case side2 => exact HC0_2.out);(case side3 => exact Kd.C_up (Kd.C_below HR1_0.out HB.out));(case side4 => exact HC1_0.out);(case side5 => exact Kd.C_up (Kd.C_below HR1_1.out HB.out));(case side6 => exact HC1_1.out);rintro e w30 ⟨rfl,hb⟩;refine ⟨_,rfl,?_⟩;replace BK590:=bkb BK590 hb;replace BK591:=bkb BK591 hb;replace HB:=Aside0.mk (below_step (hb_) hb)))
    go_ret2
    exact ⟨by first|rfl|(simp [errW_none,errW_some] <;> rfl)|(simp [*,errW_none,errW_some] <;> rfl),hb_⟩
 ·rw [if_neg c6] at H
  have c6b0 : (t592 == 0) = false:=beq_eq_false_iff_ne.mpr c6
  have c6b1 : (t592 != 0) = true:=bne_iff_ne.mpr c6
  simp only [Option.some.injEq,Prod.mk.injEq] at H
  obtain ⟨rfl,rfl⟩:=H
  go_enter Try.func17,Try.ntmps17
  go_wp2_with (first|((with_reducible refine gate_dst (N:=4) rfl ?_);refine box_ev (N:=4) (cs:=#[.int .i64 a0_0,.int .i64 a0_1,.slice A0_2 l0_2.length c0_2]) (t:=24) ?_;intro gb590 hg w31 hbox hb;have BK590:=Aside0.mk (hbox);have GW590 : Aside0 (w.heap.size ≤ gb590):=gsz hg;have GE590:=GW590;replace HB:=Aside0.mk (below_step (hb_) hb);clear hb hbox hg)|((with_reducible refine gate_dst (N:=5) rfl ?_);refine box_ev (N:=5) (cs:=#[.slice A1_0 l1_0.length c1_0,.slice A1_1 l1_1.length c1_1]) (t:=26) ?_;intro gb591 hg w32 hbox hb;have BK591:=Aside0.mk (hbox);have GW591 : Aside0 (w.heap.size ≤ gb591):=gsz hg;have GE591:=GW591;have NB590_591:=nbl BK590 hg;have NB591_590:=nbr BK590 hg;replace BK590:=bkb BK590 hb;replace HB:=Aside0.mk (below_step (hb_) hb);clear hb hbox hg;have hnb33:=NB590_591.out;have hnc33:=NB591_590.out;obtain ⟨hcz34_0,hcz34_1,hcz34_2,hfz34_0,hfz34_1,hfz34_2⟩:=cells3 BK590.out;obtain ⟨hcz35_0,hcz35_1,hfz35_0,hfz35_1⟩:=cells2 BK591.out)|((with_reducible refine gate_callee (f:=42) rfl ?_);refine goesL_ (some 14) rfl rfl Try.func42 (by kernel_rfl) rfl #[.agg #[.int .i64 a0_0,.int .i64 a0_1,.slice A0_2 l0_2.length c0_2],.agg #[.slice A1_0 l1_0.length c1_0,.slice A1_1 l1_1.length c1_1],.int .i64 a2] rfl (by (try simp only [List.map_toArray,List.map_cons,List.map_nil]);first|done|rfl|(simp only [List.length_drop,List.length_take];rfl)) ?_;(with_reducible refine (hinterlandref06_place.calls k a0_0 a0_1 _ _ l0_2 _ _ l1_0 _ _ l1_1 a2 t592 _ ?side1 ?side2 ?side3 ?side4 ?side5 ?side6 A5.out).mono ?_);(case side1 => exact Kd.C_up (Kd.C_below HR0_2.out HB.out));(case side2 => exact HC0_2.out);(case side3 => exact Kd.C_up (Kd.C_below HR1_0.out HB.out));(case side4 => exact HC1_0.out);(case side5 => exact Kd.C_up (Kd.C_below HR1_1.out HB.out));(case side6 => exact HC1_1.out);rintro e w36 ⟨rfl,hb⟩;refine ⟨_,rfl,?_⟩;replace BK590:=bkb BK590 hb;replace BK591:=bkb BK591 hb;replace HB:=Aside0.mk (below_step (hb_) hb)))
  go_ret2
  exact ⟨by first|rfl|(simp [errW_none,errW_some] <;> rfl)|(simp [*,errW_none,errW_some] <;> rfl),hb_⟩

end Go.Proofs.Ytiencnnkphipoaa.P

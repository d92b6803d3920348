/- Functions of this seat as plain Lean functions, with proofs that the Go code comes to just their answers, or what stands between them and a law's statement; no conditions. (Laid by a program of this session, out of the kit's print.) -/
import Derived.Test.YtbdekjjdojbokaaPx0
import Derived.Test.YtbdekjjdojbokaaPx1
import Derived.Test.YtbdekjjdojbokaaPx2
import Derived.Test.YtbdekjjdojbokaaPx3
namespace Go.Proofs.Ytbdekjjdojbokaa.P
open Go.RowKit Go.Proofs.YtbdekjjdojbokaaW.PrintWords Go.Proofs.YtbdekjjdojbokaaW.PrintLast Go.Proofs.YtbdekjjdojbokaaW.PrintMore
attribute [local go_sem] max2_int min2_int max_two min_two max_three min_three max_four min_four   -- for this text's walks alone
set_option linter.unusedVariables false
set_option linter.unusedSimpArgs false

/-! ### road_Next: function 22 -/
def road_Next.f (k : Nat) (a0_0 : Int) (a0_1 : Int) (l0_2 : List Int) (l0_3 : List Int) (a1 : Int) (a2 : Int) : Option (List Int × Int) := (road_check.f k a0_0 a0_1 l0_2 l0_3 a1).bind fun t128 => (if t128 = 0 then (if a2 < (-1) then (some (([] : List Int), 1)) else (if a2 > 3 then (some (([] : List Int), 1)) else ((road_next.f a0_0 a0_1 l0_2 l0_3 a1 a2).bind fun t129 => (some (t129, 0))))) else (some (([] : List Int), t128)))
theorem road_Next.mono : ∀ a0 a1 a2 a3 a4 a5 k, LeO (road_Next.f k a0 a1 a2 a3 a4 a5) (road_Next.f (k + 1) a0 a1 a2 a3 a4 a5) := by
 intro a0 a1 a2 a3 a4 a5 k
 unfold road_Next.f
 repeat' first
   | (with_reducible exact road_check.mono _ _ _ _ _ _)
   | (with_reducible exact LeO.refl _)
   | (with_reducible exact LeO.none _)
   | (with_reducible refine LeO.ite ?_ ?_)
   | (with_reducible refine LeO.bind ?_ (fun _ => ?_))
   | exact road_check.mono _ _ _ _ _ _
   | exact LeO.none _
   | refine LeO.ite ?_ ?_
   | refine LeO.bind ?_ (fun _ => ?_)
set_option maxHeartbeats 8000000 in
set_option maxRecDepth 100000 in
theorem road_Next.calls (k : Nat) (a0_0 : Int) (a0_1 : Int) (A0_2 : Option Addr) (c0_2 : Nat) (l0_2 : List Int) (A0_3 : Option Addr) (c0_3 : Nat) (l0_3 : List Int) (a1 : Int) (a2 : Int) (r1 : List Int) (r2 : Int) (w : World) (hr0_2 : Kd.C (Kd.int .i64) w A0_2 l0_2.length l0_2) (hc0_2 : l0_2.length ≤ c0_2) (hr0_3 : Kd.C (Kd.int .i64) w A0_3 l0_3.length l0_3) (hc0_3 : l0_3.length ≤ c0_3) (h : road_Next.f k a0_0 a0_1 l0_2 l0_3 a1 a2 = some (r1, r2)) :
  Calls Try.prog 22 #[.agg #[.int .i64 a0_0,.int .i64 a0_1,.slice A0_2 l0_2.length c0_2,.slice A0_3 l0_3.length c0_3],.int .i64 a1,.int .i64 a2] w fun e w' => ∃ v0_ : Value,e = .returned (.tuple #[v0_,.int .i64 r2]) ∧ Kd.R (Kd.int .i64) 3 w' w.heap.size (fun _ => True) v0_ r1 ∧ Below w.heap.size w w':=by
 have hu24:=Try.underlying24
 have HR0_2:=Aside0.mk hr0_2
 have HC0_2:=Aside0.mk hc0_2
 clear hr0_2 hc0_2
 have HR0_3:=Aside0.mk hr0_3
 have HC0_3:=Aside0.mk hc0_3
 clear hr0_3 hc0_3
 have HB:=Aside0.mk (Below.refl w.heap.size w)
 have H : ((road_check.f k a0_0 a0_1 l0_2 l0_3 a1).bind fun t128 => (if t128 = 0 then (if a2 < (-1) then (some (([] : List Int),1)) else (if a2 > 3 then (some (([] : List Int),1)) else ((road_next.f a0_0 a0_1 l0_2 l0_3 a1 a2).bind fun t129 => (some (t129,0))))) else (some (([] : List Int),t128)))) = some (r1,r2):=h
 clear h
 replace H:=Option.bind_eq_some_iff.mp H
 obtain ⟨t128,A40,H⟩:=H
 replace H : (if t128 = 0 then (if a2 < (-1) then (some (([] : List Int),1)) else (if a2 > 3 then (some (([] : List Int),1)) else ((road_next.f a0_0 a0_1 l0_2 l0_3 a1 a2).bind fun t129 => (some (t129,0))))) else (some (([] : List Int),t128))) = some (r1,r2):=H
 have A4:=Aside0.mk A40
 clear A40
 by_cases c5 : t128 = 0
 rotate_left
 ·rw [if_neg c5] at H
  have c5b0 : (t128 == 0) = false:=beq_eq_false_iff_ne.mpr c5
  have c5b1 : (t128 != 0) = true:=bne_iff_ne.mpr c5
  simp only [Option.some.injEq,Prod.mk.injEq] at H
  obtain ⟨rfl,rfl⟩:=H
  go_enter Try.func22,Try.ntmps22
  go_wp2_with (first|((with_reducible refine gate_dst (N:=3) rfl ?_);refine box_ev (N:=3) (cs:=#[.int .i64 a0_0,.int .i64 a0_1,.slice A0_2 l0_2.length c0_2,.slice A0_3 l0_3.length c0_3]) (t:=24) ?_;intro gb127 hg w20 hbox hb;have BK127:=Aside0.mk (hbox);have GW127 : Aside0 (w.heap.size ≤ gb127):=gsz hg;have GE127:=GW127;replace HB:=Aside0.mk (below_step (hb_) hb);clear hb hbox hg;obtain ⟨hcz21_0,hcz21_1,hcz21_2,hcz21_3,hfz21_0,hfz21_1,hfz21_2,hfz21_3⟩:=cells4 BK127.out)|((with_reducible refine gate_callee (f:=40) rfl ?_);refine goesL_ (some 11) rfl rfl Try.func40 (by kernel_rfl) rfl #[.agg #[.int .i64 a0_0,.int .i64 a0_1,.slice A0_2 l0_2.length c0_2,.slice A0_3 l0_3.length c0_3],.int .i64 a1] rfl (by (try simp only [List.map_toArray,List.map_cons,List.map_nil]);first|done|rfl|(simp only [List.length_drop,List.length_take];rfl)) ?_;(with_reducible refine (road_check.calls k a0_0 a0_1 _ _ l0_2 _ _ l0_3 a1 t128 _ ?side1 ?side2 ?side3 ?side4 A4.out).mono ?_);(case side1 => exact Kd.C_up (Kd.C_below HR0_2.out HB.out));(case side2 => exact HC0_2.out);(case side3 => exact Kd.C_up (Kd.C_below HR0_3.out HB.out));(case side4 => exact HC0_3.out);rintro e w22 ⟨rfl,hb⟩;refine ⟨_,rfl,?_⟩;replace BK127:=bkb BK127 hb;replace HB:=Aside0.mk (below_step (hb_) hb)))
  go_ret2
  exact ⟨_,by first|rfl|(simp [errW_none,errW_some] <;> rfl)|(simp [*,errW_none,errW_some] <;> rfl),by first|exact Kd.R_nil _ _ _ _ _|exact Kd.N_nil _ _ _ _ _|exact Kd.V_nil _ _ _ _ _|exact Kd.Q_nil _ _ _ _ _|exact Kd.S_nil _ _ _ _ _,hb_⟩
 rw [if_pos c5] at H
 have c5b0 : (t128 == 0) = true:=beq_iff_eq.mpr c5
 have c5b1 : (t128 != 0) = false:=bne_eq_false_iff_eq.mpr c5
 clear c5
 by_cases c6 : a2 < (-1)
 ·rw [if_pos c6] at H
  have c6b0 : decide (a2 < (-1)) = true:=decide_eq_true c6
  clear c6
  simp only [Option.some.injEq,Prod.mk.injEq] at H
  obtain ⟨rfl,rfl⟩:=H
  go_enter Try.func22,Try.ntmps22
  go_wp2_with (first|((with_reducible refine gate_dst (N:=3) rfl ?_);refine box_ev (N:=3) (cs:=#[.int .i64 a0_0,.int .i64 a0_1,.slice A0_2 l0_2.length c0_2,.slice A0_3 l0_3.length c0_3]) (t:=24) ?_;intro gb127 hg w7 hbox hb;have BK127:=Aside0.mk (hbox);have GW127 : Aside0 (w.heap.size ≤ gb127):=gsz hg;have GE127:=GW127;replace HB:=Aside0.mk (below_step (hb_) hb);clear hb hbox hg;obtain ⟨hcz8_0,hcz8_1,hcz8_2,hcz8_3,hfz8_0,hfz8_1,hfz8_2,hfz8_3⟩:=cells4 BK127.out)|((with_reducible refine gate_callee (f:=40) rfl ?_);refine goesL_ (some 11) rfl rfl Try.func40 (by kernel_rfl) rfl #[.agg #[.int .i64 a0_0,.int .i64 a0_1,.slice A0_2 l0_2.length c0_2,.slice A0_3 l0_3.length c0_3],.int .i64 a1] rfl (by (try simp only [List.map_toArray,List.map_cons,List.map_nil]);first|done|rfl|(simp only [List.length_drop,List.length_take];rfl)) ?_;(with_reducible refine (road_check.calls k a0_0 a0_1 _ _ l0_2 _ _ l0_3 a1 t128 _ ?side1 ?side2 ?side3 ?side4 A4.out).mono ?_);(case side1 => exact Kd.C_up (Kd.C_below HR0_2.out HB.out));(case side2 => exact HC0_2.out);(case side3 => exact Kd.C_up (Kd.C_below HR0_3.out HB.out));(case side4 => exact HC0_3.out);rintro e w9 ⟨rfl,hb⟩;refine ⟨_,rfl,?_⟩;replace BK127:=bkb BK127 hb;replace HB:=Aside0.mk (below_step (hb_) hb)))
  go_ret2
  exact ⟨_,by first|rfl|(simp [errW_none,errW_some] <;> rfl)|(simp [*,errW_none,errW_some] <;> rfl),by first|exact Kd.R_nil _ _ _ _ _|exact Kd.N_nil _ _ _ _ _|exact Kd.V_nil _ _ _ _ _|exact Kd.Q_nil _ _ _ _ _|exact Kd.S_nil _ _ _ _ _,hb_⟩
 ·rw [if_neg c6] at H
  have c6b0 : decide (a2 < (-1)) = false:=decide_eq_false c6
  clear c6
  by_cases c10 : a2 > 3
  ·rw [if_pos c10] at H
   have c10b0 : decide (3 < a2) = true:=decide_eq_true c10
   clear c10
   simp only [Option.some.injEq,Prod.mk.injEq] at H
   obtain ⟨rfl,rfl⟩:=H
   go_enter Try.func22,Try.ntmps22
   go_wp2_with (first|((with_reducible refine gate_dst (N:=3) rfl ?_);refine box_ev (N:=3) (cs:=#[.int .i64 a0_0,.int .i64 a0_1,.slice A0_2 l0_2.length c0_2,.slice A0_3 l0_3.length c0_3]) (t:=24) ?_;intro gb127 hg w11 hbox hb;have BK127:=Aside0.mk (hbox);have GW127 : Aside0 (w.heap.size ≤ gb127):=gsz hg;have GE127:=GW127;replace HB:=Aside0.mk (below_step (hb_) hb);clear hb hbox hg;obtain ⟨hcz12_0,hcz12_1,hcz12_2,hcz12_3,hfz12_0,hfz12_1,hfz12_2,hfz12_3⟩:=cells4 BK127.out)|((with_reducible refine gate_callee (f:=40) rfl ?_);refine goesL_ (some 11) rfl rfl Try.func40 (by kernel_rfl) rfl #[.agg #[.int .i64 a0_0,.int .i64 a0_1,.slice A0_2 l0_2.length c0_2,.slice A0_3 l0_3.length c0_3],.int .i64 a1] rfl (by (try simp only [List.map_toArray,List.map_cons,List.map_nil]);first|done|rfl|(simp only [List.length_drop,List.length_take];rfl)) ?_;(with_reducible refine (road_check.calls k a0_0 a0_1 _ _ l0_2 _ _ l0_3 a1 t128 _ ?side1 ?side2 ?side3 ?side4 A4.out).mono ?_);(case side1 => exact Kd.C_up (Kd.C_below HR0_2.out HB.out));(case side2 => exact HC0_2.out);(case side3 => exact Kd.C_up (Kd.C_below HR0_3.out HB.out));(case side4 => exact HC0_3.out);rintro e w13 ⟨rfl,hb⟩;refine ⟨_,rfl,?_⟩;replace BK127:=bkb BK127 hb;replace HB:=Aside0.mk (below_step (hb_) hb)))
   go_ret2
   exact ⟨_,by first|rfl|(simp [errW_none,errW_some] <;> rfl)|(simp [*,errW_none,errW_some] <;> rfl),by first|exact Kd.R_nil _ _ _ _ _|exact Kd.N_nil _ _ _ _ _|exact Kd.V_nil _ _ _ _ _|exact Kd.Q_nil _ _ _ _ _|exact Kd.S_nil _ _ _ _ _,hb_⟩
  ·rw [if_neg c10] at H
   have c10b0 : decide (3 < a2) = false:=decide_eq_false c10
   clear c10
   replace H:=Option.bind_eq_some_iff.mp H
   obtain ⟨t129,A140,H⟩:=H
   replace H : (some (t129,0)) = some (r1,r2):=H
   have A14:=Aside0.mk A140
   clear A140
   simp only [Option.some.injEq,Prod.mk.injEq] at H
   obtain ⟨rfl,rfl⟩:=H
   go_enter Try.func22,Try.ntmps22
   go_wp2_with (first|((with_reducible refine gate_dst (N:=3) rfl ?_);refine box_ev (N:=3) (cs:=#[.int .i64 a0_0,.int .i64 a0_1,.slice A0_2 l0_2.length c0_2,.slice A0_3 l0_3.length c0_3]) (t:=24) ?_;intro gb127 hg w15 hbox hb;have BK127:=Aside0.mk (hbox);have GW127 : Aside0 (w.heap.size ≤ gb127):=gsz hg;have GE127:=GW127;replace HB:=Aside0.mk (below_step (hb_) hb);clear hb hbox hg;obtain ⟨hcz16_0,hcz16_1,hcz16_2,hcz16_3,hfz16_0,hfz16_1,hfz16_2,hfz16_3⟩:=cells4 BK127.out)|((with_reducible refine gate_callee (f:=40) rfl ?_);refine goesL_ (some 11) rfl rfl Try.func40 (by kernel_rfl) rfl #[.agg #[.int .i64 a0_0,.int .i64 a0_1,.slice A0_2 l0_2.length c0_2,.slice A0_3 l0_3.length c0_3],.int .i64 a1] rfl (by (try simp only [List.map_toArray,List.map_cons,List.map_nil]);first|done|rfl|(simp only [List.length_drop,List.length_take];rfl)) ?_;(with_reducible refine (road_check.calls k a0_0 a0_1 _ _ l0_2 _ _ l0_3 a1 t128 _ ?side1 ?side2 ?side3 ?side4 A4.out).mono ?_);(case side1 => exact Kd.C_up (Kd.C_below HR0_2.out HB.out));(case side2 => exact HC0_2.out);(case side3 => exact Kd.C_up (Kd.C_below HR0_3.out HB.out));(case side4 => exact HC0_3.out);rintro e w17 ⟨rfl,hb⟩;refine ⟨_,rfl,?_⟩;replace BK127:=bkb BK127 hb;replace HB:=Aside0.mk (below_step (hb_) hb);obtain ⟨hcz18_0,hcz18_1,hcz18_2,hcz18_3,hfz18_0,hfz18_1,hfz18_2,hfz18_3⟩:=cells4 BK127.out)|((with_reducible refine gate_callee (f:=43) rfl ?_);refine goesL_ (some 24) rfl rfl Try.func43 (by kernel_rfl) rfl #[.agg #[.int .i64 a0_0,.int .i64 a0_1,.slice A0_2 l0_2.length c0_2,.slice A0_3 l0_3.length c0_3],.int .i64 a1,.int .i64 a2] rfl (by (try simp only [List.map_toArray,List.map_cons,List.map_nil]);first|done|rfl|(simp only [List.length_drop,List.length_take];rfl)) ?_;(with_reducible refine (road_next.calls a0_0 a0_1 _ _ l0_2 _ _ l0_3 a1 a2 t129 _ ?side1 ?side2 ?side3 ?side4 A14.out).mono ?_);(case side1 => exact Kd.C_up (Kd.C_below HR0_2.out HB.out));(case side2 => exact HC0_2.out);(case side3 => exact Kd.C_up (Kd.C_below HR0_3.out HB.out));(case side4 => exact HC0_3.out);rintro e w19 ⟨v130,rfl,ho0,hb⟩;refine ⟨_,rfl,?_⟩;have HO131:=rlo ho0;replace BK127:=bkb BK127 hb;replace HB:=Aside0.mk (below_step (hb_) hb)))
   go_ret2
   exact ⟨_,by first|rfl|(simp [errW_none,errW_some] <;> rfl)|(simp [*,errW_none,errW_some] <;> rfl),Kd.R_up HO131.out,hb_⟩

/-! ### hinterlandlaw04_known: function 16 -/
def hinterlandlaw04_known.f (k : Nat)  : Option (Bool) := (some (([1, 4, 0, 0, 0, 0, 0, 0, 0, 0, 0, 0, 0, 0, 0, 0] : List Int) : List Int)).bind fun y132 => (if 16 ≤ 35184372088832 then ((some (List.replicate 16 0 : List Int)).bind fun y135 => ((road_Joined.f k 4 4 y132 y135 0 0).bind fun bt139 => ((road_Next.f k 4 4 y132 y135 1 2).bind fun bt141 => (if bt139.1 = true then (if bt139.2 = 0 then (if bt141.2 = 0 then (if (bt141.1.length : Int) = 1 then (if 0 < (bt141.1.length : Int) then (some ((rd bt141.1 0) == 2)) else (none)) else (some false)) else (some false)) else (some false)) else (some false))))) else (none))
theorem hinterlandlaw04_known.mono : ∀ k, LeO (hinterlandlaw04_known.f k ) (hinterlandlaw04_known.f (k + 1) ) := by
 intro  k
 unfold hinterlandlaw04_known.f
 repeat' first
   | (with_reducible exact road_Joined.mono _ _ _ _ _ _ _)
   | (with_reducible exact road_Next.mono _ _ _ _ _ _ _)
   | (with_reducible exact LeO.refl _)
   | (with_reducible exact LeO.none _)
   | (with_reducible refine LeO.ite ?_ ?_)
   | (with_reducible refine LeO.bind ?_ (fun _ => ?_))
   | exact road_Joined.mono _ _ _ _ _ _ _
   | exact road_Next.mono _ _ _ _ _ _ _
   | exact LeO.none _
   | refine LeO.ite ?_ ?_
   | refine LeO.bind ?_ (fun _ => ?_)
set_option maxHeartbeats 8000000 in
set_option maxRecDepth 100000 in
theorem hinterlandlaw04_known.calls (k : Nat)  (r : Bool) (w : World) (h : hinterlandlaw04_known.f k  = some r) :
  Calls Try.prog 16 #[] w fun e w' => e = .returned (.bool r) ∧ Below w.heap.size w w':=by
 have hu24:=Try.underlying24
 have HB:=Aside0.mk (Below.refl w.heap.size w)
 have H : ((some (([1,4,0,0,0,0,0,0,0,0,0,0,0,0,0,0] : List Int) : List Int)).bind fun y132 => (if 16 ≤ 35184372088832 then ((some (List.replicate 16 0 : List Int)).bind fun y135 => ((road_Joined.f k 4 4 y132 y135 0 0).bind fun bt139 => ((road_Next.f k 4 4 y132 y135 1 2).bind fun bt141 => (if bt139.1 = true then (if bt139.2 = 0 then (if bt141.2 = 0 then (if (bt141.1.length : Int) = 1 then (if 0 < (bt141.1.length : Int) then (some ((rd bt141.1 0) == 2)) else (none)) else (some false)) else (some false)) else (some false)) else (some false))))) else (none))) = some r:=h
 clear h
 obtain ⟨y132,hy132⟩ : ∃ y_ : List Int,y_ = (([1,4,0,0,0,0,0,0,0,0,0,0,0,0,0,0] : List Int)):=⟨_,rfl⟩
 replace H : (if 16 ≤ 35184372088832 then ((some (List.replicate 16 0 : List Int)).bind fun y135 => ((road_Joined.f k 4 4 y132 y135 0 0).bind fun bt139 => ((road_Next.f k 4 4 y132 y135 1 2).bind fun bt141 => (if bt139.1 = true then (if bt139.2 = 0 then (if bt141.2 = 0 then (if (bt141.1.length : Int) = 1 then (if 0 < (bt141.1.length : Int) then (some ((rd bt141.1 0) == 2)) else (none)) else (some false)) else (some false)) else (some false)) else (some false))))) else (none)) = some r:=by first|(rw [hy132];with_reducible exact H)|(have H2_:=(Option.bind_some _ _).symm.trans H;rw [hy132];with_reducible exact H2_)|(have H2_:=(Option.bind_some _ _).symm.trans H;with_reducible exact H2_)|with_reducible exact H|(rw [hy132];exact H)|exact H
 have Ny132:=Aside0.mk hy132
 clear hy132
 replace H:=ifp_ H;obtain ⟨c1,H⟩:=H
 have c1b0:=eq_true c1
 have c1b1 : decide (16 ≤ 35184372088832) = true:=decide_eq_true c1
 clear c1
 obtain ⟨y135,hy135⟩ : ∃ y_ : List Int,y_ = (List.replicate 16 0):=⟨_,rfl⟩
 replace H : ((road_Joined.f k 4 4 y132 y135 0 0).bind fun bt139 => ((road_Next.f k 4 4 y132 y135 1 2).bind fun bt141 => (if bt139.1 = true then (if bt139.2 = 0 then (if bt141.2 = 0 then (if (bt141.1.length : Int) = 1 then (if 0 < (bt141.1.length : Int) then (some ((rd bt141.1 0) == 2)) else (none)) else (some false)) else (some false)) else (some false)) else (some false)))) = some r:=by first|(rw [hy135];with_reducible exact H)|(have H2_:=(Option.bind_some _ _).symm.trans H;rw [hy135];with_reducible exact H2_)|(have H2_:=(Option.bind_some _ _).symm.trans H;with_reducible exact H2_)|with_reducible exact H|(rw [hy135];exact H)|exact H
 have Ny135:=Aside0.mk hy135
 clear hy135
 replace H:=Option.bind_eq_some_iff.mp H
 obtain ⟨⟨t139,t140⟩,A20,H⟩:=H
 replace H : ((road_Next.f k 4 4 y132 y135 1 2).bind fun bt141 => (if t139 = true then (if t140 = 0 then (if bt141.2 = 0 then (if (bt141.1.length : Int) = 1 then (if 0 < (bt141.1.length : Int) then (some ((rd bt141.1 0) == 2)) else (none)) else (some false)) else (some false)) else (some false)) else (some false))) = some r:=H
 have A2:=Aside0.mk A20
 clear A20
 replace H:=Option.bind_eq_some_iff.mp H
 obtain ⟨⟨t141,t144⟩,A30,H⟩:=H
 replace H : (if t139 = true then (if t140 = 0 then (if t144 = 0 then (if (t141.length : Int) = 1 then (if 0 < (t141.length : Int) then (some ((rd t141 0) == 2)) else (none)) else (some false)) else (some false)) else (some false)) else (some false)) = some r:=H
 have A3:=Aside0.mk A30
 clear A30
 by_cases c4 : t139 = true
 ·subst c4
  have H1 : (if t140 = 0 then (if t144 = 0 then (if (t141.length : Int) = 1 then (if 0 < (t141.length : Int) then (some ((rd t141 0) == 2)) else (none)) else (some false)) else (some false)) else (some false)) = some r:=by rw [if_pos rfl] at H;exact H
  clear H
  have H:=H1
  clear H1
  by_cases c5 : t140 = 0
  rotate_left
  ·rw [if_neg c5] at H
   have c5b0 : (t140 == 0) = false:=beq_eq_false_iff_ne.mpr c5
   have c5b1 : (t140 != 0) = true:=bne_iff_ne.mpr c5
   obtain rfl:=Option.some.inj H
   go_enter Try.func16,Try.ntmps16
   go_wp2_with (first|((with_reducible refine gate_dst (N:=6) rfl ?_);(try (refine gate_guard (by rfl) ?_;dsimp only));refine Kd.R_lit (Kd.int .i64) _ 3 ?hg (N:=6) ?hd (xs:=([1,4,0,0,0,0,0,0,0,0,0,0,0,0,0,0] : List Int)) (inner:=[.int .i64 1,.int .i64 4,.int .i64 0,.int .i64 0,.int .i64 0,.int .i64 0,.int .i64 0,.int .i64 0,.int .i64 0,.int .i64 0,.int .i64 0,.int .i64 0,.int .i64 0,.int .i64 0,.int .i64 0,.int .i64 0]) (ok:=fun _ => True) (okp:=fun _ => True) ?hr ?hp (fun _ hk => hk) trivial (Below.refl _ _) (Nat.le_refl _) (by simp) ?_;(case hd => rfl);(case hg => rfl);(case hr => first|(go_simp;done)|(go_simp;rfl));(case hp => exact (Reps.one (show Kd.M (Kd.int .i64) _ _ _ 1 [.int .i64 1] from rfl) (Reps.one (show Kd.M (Kd.int .i64) _ _ _ 4 [.int .i64 4] from rfl) (Reps.one (show Kd.M (Kd.int .i64) _ _ _ 0 [.int .i64 0] from rfl) (Reps.one (show Kd.M (Kd.int .i64) _ _ _ 0 [.int .i64 0] from rfl) (Reps.one (show Kd.M (Kd.int .i64) _ _ _ 0 [.int .i64 0] from rfl) (Reps.one (show Kd.M (Kd.int .i64) _ _ _ 0 [.int .i64 0] from rfl) (Reps.one (show Kd.M (Kd.int .i64) _ _ _ 0 [.int .i64 0] from rfl) (Reps.one (show Kd.M (Kd.int .i64) _ _ _ 0 [.int .i64 0] from rfl) (Reps.one (show Kd.M (Kd.int .i64) _ _ _ 0 [.int .i64 0] from rfl) (Reps.one (show Kd.M (Kd.int .i64) _ _ _ 0 [.int .i64 0] from rfl) (Reps.one (show Kd.M (Kd.int .i64) _ _ _ 0 [.int .i64 0] from rfl) (Reps.one (show Kd.M (Kd.int .i64) _ _ _ 0 [.int .i64 0] from rfl) (Reps.one (show Kd.M (Kd.int .i64) _ _ _ 0 [.int .i64 0] from rfl) (Reps.one (show Kd.M (Kd.int .i64) _ _ _ 0 [.int .i64 0] from rfl) (Reps.one (show Kd.M (Kd.int .i64) _ _ _ 0 [.int .i64 0] from rfl) (Reps.one (show Kd.M (Kd.int .i64) _ _ _ 0 [.int .i64 0] from rfl) (Reps.none _ _))))))))))))))))));intro v133 w44 ho45 hb hg_ hnew_;clear hg_ hnew_;(first|rw [← Ny132.out] at ho45|(simp only [Int.reduceToNat] at ho45;rw [← Ny132.out] at ho45));have HO134:=rlo ho45;replace HB:=Aside0.mk (below_step (hb_) hb);clear hb ho45)|((with_reducible refine gate_dst (N:=7) rfl ?_);(try (refine gate_guard (by rfl) ?_;dsimp only));refine Kd.R_make (Kd.int .i64) _ 3 rfl (N:=7) rfl 22 _ _ rfl 16 rfl rfl Try.underlying22 (.int .i64 0) 8 info3 rfl (by decide) (by omega) 0 (ok:=fun _ => True) (okp:=fun _ => True) rfl (fun _ hk => hk) trivial (by omega) (by omega) (Below.refl _ _) (Nat.le_refl _) ?_;intro v136 w46 ho47 hb hg_ hnew_;clear hg_ hnew_;(first|rw [← Ny135.out] at ho47|(simp only [Int.reduceToNat] at ho47;rw [← Ny135.out] at ho47));have HO137:=Aside0.mk (Kd.R_lower (Kd.R_new' ho47 (Kd.R_lt (Kd.R_up HO134.out))) (below_size (hb_)));replace HO134:=Aside0.mk (Kd.R_elder' (Kd.R_up HO134.out) (Kd.R_base ho47) hb);replace HB:=Aside0.mk (below_step (hb_) hb);clear hb ho47;obtain ⟨Ao48,co48,eo48⟩:=Kd.R_slice HO137.out;subst eo48;obtain ⟨Ao49,co49,eo49⟩:=Kd.R_slice HO134.out;subst eo49)|((with_reducible refine gate_dst (N:=1) rfl ?_);(try (refine gate_guard (by rfl) ?_;dsimp only));refine box_ev (N:=1) (cs:=#[.int .i64 0,.int .i64 0,.slice none 0 0,.slice none 0 0]) (t:=24) ?_;intro gb138 hg w50 hbox hb;have BK138:=Aside0.mk (hbox);have GW138 : Aside0 (w.heap.size ≤ gb138):=gsz hg;have GE138:=GW138;replace HO134:=rbw HO134 hb;replace HO137:=rbw HO137 hb;replace HB:=Aside0.mk (below_step (hb_) hb);clear hb hbox hg;obtain ⟨hcz51_0,hcz51_1,hcz51_2,hcz51_3,hfz51_0,hfz51_1,hfz51_2,hfz51_3⟩:=cells4 BK138.out)|((with_reducible refine gate_callee (f:=19) rfl ?_);refine goesL_ (some 11) rfl rfl Try.func19 (by kernel_rfl) rfl #[.agg #[.int .i64 4,.int .i64 4,.slice Ao49 y132.length co49,.slice Ao48 y135.length co48],.int .i64 0,.int .i64 0] rfl (by (try simp only [List.map_toArray,List.map_cons,List.map_nil]);first|done|rfl|(simp only [List.length_drop,List.length_take];rfl)) ?_;(with_reducible refine (road_Joined.calls k 4 4 _ _ y132 _ _ y135 0 0 true t140 _ ?side1 ?side2 ?side3 ?side4 A2.out).mono ?_);(case side1 => refine (Kd.R_reads' (e:=3) (base:=w.heap.size) (ok:=fun k_ => (True ∧ some k_ ≠ (.slice Ao48 y135.length co48 : Value).ownBlock)) (n:=y132.length) (c:=co49) ?_).2.2;exact (by (with_reducible repeat (first|apply Kd.R_alloc|apply Kd.R_drewN|apply Kd.R_drew));exact (Kd.R_mono (Kd.R_fars gb138 (Kd.R_types HO134.out BK138.out (by decide)) (fun _ hk => hk.2)) (fun _ h_ => h_.1))));(case side2 => exact (Kd.R_reads' HO134.out).2.1);(case side3 => refine (Kd.R_reads' (e:=3) (base:=w.heap.size) (ok:=fun k_ => (True ∧ some k_ ≠ (.slice Ao49 y132.length co49 : Value).ownBlock)) (n:=y135.length) (c:=co48) ?_).2.2;exact (by (with_reducible repeat (first|apply Kd.R_alloc|apply Kd.R_drewN|apply Kd.R_drew));exact (Kd.R_mono (Kd.R_fars gb138 (Kd.R_types HO137.out BK138.out (by decide)) (fun _ hk => hk.2)) (fun _ h_ => h_.1))));(case side4 => exact (Kd.R_reads' HO137.out).2.1);rintro e w52 ⟨rfl,hb⟩;refine ⟨_,rfl,?_⟩;replace HO134:=Aside0.mk (Kd.R_below (by (with_reducible repeat (first|apply Kd.R_alloc|apply Kd.R_drewN|apply Kd.R_drew));exact (Kd.R_mono (Kd.R_fars gb138 (Kd.R_types HO134.out BK138.out (by decide)) (fun _ hk => hk.2)) (fun _ h_ => h_.1))) hb);replace HO137:=Aside0.mk (Kd.R_below (by (with_reducible repeat (first|apply Kd.R_alloc|apply Kd.R_drewN|apply Kd.R_drew));exact (Kd.R_mono (Kd.R_fars gb138 (Kd.R_types HO137.out BK138.out (by decide)) (fun _ hk => hk.2)) (fun _ h_ => h_.1))) hb);replace BK138:=Aside0.mk (blk_below (g:=gb138) (o:=.cells #[.int .i64 4,.int .i64 4,.slice Ao49 y132.length co49,.slice Ao48 y135.length co48] 24 (0,0)) (by (with_reducible repeat (first|refine blk_drewN ?_ _|refine blk_drew ?_|refine blk_alloc ?_ _));exact blk_puts4 (blk_up BK138.out)) hb);replace HB:=Aside0.mk (below_step (hb_) hb);obtain ⟨hcz53_0,hcz53_1,hcz53_2,hcz53_3,hfz53_0,hfz53_1,hfz53_2,hfz53_3⟩:=cells4 BK138.out)|((with_reducible refine gate_callee (f:=22) rfl ?_);refine goesL_ (some 16) rfl rfl Try.func22 (by kernel_rfl) rfl #[.agg #[.int .i64 4,.int .i64 4,.slice Ao49 y132.length co49,.slice Ao48 y135.length co48],.int .i64 1,.int .i64 2] rfl (by (try simp only [List.map_toArray,List.map_cons,List.map_nil]);first|done|rfl|(simp only [List.length_drop,List.length_take];rfl)) ?_;(with_reducible refine (road_Next.calls k 4 4 _ _ y132 _ _ y135 1 2 t141 t144 _ ?side1 ?side2 ?side3 ?side4 A3.out).mono ?_);(case side1 => exact Kd.C_up (Kd.R_reads' HO134.out).2.2);(case side2 => exact (Kd.R_reads' HO134.out).2.1);(case side3 => exact Kd.C_up (Kd.R_reads' HO137.out).2.2);(case side4 => exact (Kd.R_reads' HO137.out).2.1);rintro e w54 ⟨v142,rfl,ho0,hb⟩;refine ⟨_,rfl,?_⟩;have HO143:=Aside0.mk (Kd.R_lower (Kd.R_new' (Kd.R_new' ho0 (Kd.R_lt (Kd.R_up HO134.out))) (Kd.R_lt (Kd.R_up HO137.out))) (below_size (hb_)));replace HO134:=Aside0.mk (Kd.R_elder' (Kd.R_up HO134.out) (Kd.R_base ho0) hb);replace HO137:=Aside0.mk (Kd.R_elder' (Kd.R_up HO137.out) (Kd.R_base ho0) hb);replace BK138:=bkb BK138 hb;replace HB:=Aside0.mk (below_step (hb_) hb)))
   go_ret
   exact ⟨by first|rfl|(simp [errW_none,errW_some] <;> rfl)|(simp [*,errW_none,errW_some] <;> rfl),hb_⟩
  rw [if_pos c5] at H
  have c5b0 : (t140 == 0) = true:=beq_iff_eq.mpr c5
  have c5b1 : (t140 != 0) = false:=bne_eq_false_iff_eq.mpr c5
  clear c5
  by_cases c6 : t144 = 0
  ·rw [if_pos c6] at H
   have c6b0 : (t144 == 0) = true:=beq_iff_eq.mpr c6
   have c6b1 : (t144 != 0) = false:=bne_eq_false_iff_eq.mpr c6
   clear c6
   by_cases c7 : (t141.length : Int) = 1
   ·rw [if_pos c7] at H
    have c7b0 : ((t141.length : Int) == 1) = true:=beq_iff_eq.mpr c7
    have c7b1 : ((t141.length : Int) != 1) = false:=bne_eq_false_iff_eq.mpr c7
    clear c7
    replace H:=ifp_ H;obtain ⟨c8,H⟩:=H
    have c8b0 : decide (0 < (t141.length : Int)) = true:=decide_eq_true c8
    have c8b1 : decide (0 < t141.length) = true:=decide_eq_true (by omega)
    clear c8
    obtain rfl:=Option.some.inj H
    go_enter Try.func16,Try.ntmps16
    go_wp2_with (first|((with_reducible refine gate_dst (N:=6) rfl ?_);(try (refine gate_guard (by rfl) ?_;dsimp only));refine Kd.R_lit (Kd.int .i64) _ 3 ?hg (N:=6) ?hd (xs:=([1,4,0,0,0,0,0,0,0,0,0,0,0,0,0,0] : List Int)) (inner:=[.int .i64 1,.int .i64 4,.int .i64 0,.int .i64 0,.int .i64 0,.int .i64 0,.int .i64 0,.int .i64 0,.int .i64 0,.int .i64 0,.int .i64 0,.int .i64 0,.int .i64 0,.int .i64 0,.int .i64 0,.int .i64 0]) (ok:=fun _ => True) (okp:=fun _ => True) ?hr ?hp (fun _ hk => hk) trivial (Below.refl _ _) (Nat.le_refl _) (by simp) ?_;(case hd => rfl);(case hg => rfl);(case hr => first|(go_simp;done)|(go_simp;rfl));(case hp => exact (Reps.one (show Kd.M (Kd.int .i64) _ _ _ 1 [.int .i64 1] from rfl) (Reps.one (show Kd.M (Kd.int .i64) _ _ _ 4 [.int .i64 4] from rfl) (Reps.one (show Kd.M (Kd.int .i64) _ _ _ 0 [.int .i64 0] from rfl) (Reps.one (show Kd.M (Kd.int .i64) _ _ _ 0 [.int .i64 0] from rfl) (Reps.one (show Kd.M (Kd.int .i64) _ _ _ 0 [.int .i64 0] from rfl) (Reps.one (show Kd.M (Kd.int .i64) _ _ _ 0 [.int .i64 0] from rfl) (Reps.one (show Kd.M (Kd.int .i64) _ _ _ 0 [.int .i64 0] from rfl) (Reps.one (show Kd.M (Kd.int .i64) _ _ _ 0 [.int .i64 0] from rfl) (Reps.one (show Kd.M (Kd.int .i64) _ _ _ 0 [.int .i64 0] from rfl) (Reps.one (show Kd.M (Kd.int .i64) _ _ _ 0 [.int .i64 0] from rfl) (Reps.one (show Kd.M (Kd.int .i64) _ _ _ 0 [.int .i64 0] from rfl) (Reps.one (show Kd.M (Kd.int .i64) _ _ _ 0 [.int .i64 0] from rfl) (Reps.one (show Kd.M (Kd.int .i64) _ _ _ 0 [.int .i64 0] from rfl) (Reps.one (show Kd.M (Kd.int .i64) _ _ _ 0 [.int .i64 0] from rfl) (Reps.one (show Kd.M (Kd.int .i64) _ _ _ 0 [.int .i64 0] from rfl) (Reps.one (show Kd.M (Kd.int .i64) _ _ _ 0 [.int .i64 0] from rfl) (Reps.none _ _))))))))))))))))));intro v133 w9 ho10 hb hg_ hnew_;clear hg_ hnew_;(first|rw [← Ny132.out] at ho10|(simp only [Int.reduceToNat] at ho10;rw [← Ny132.out] at ho10));have HO134:=rlo ho10;replace HB:=Aside0.mk (below_step (hb_) hb);clear hb ho10)|((with_reducible refine gate_dst (N:=7) rfl ?_);(try (refine gate_guard (by rfl) ?_;dsimp only));refine Kd.R_make (Kd.int .i64) _ 3 rfl (N:=7) rfl 22 _ _ rfl 16 rfl rfl Try.underlying22 (.int .i64 0) 8 info3 rfl (by decide) (by omega) 0 (ok:=fun _ => True) (okp:=fun _ => True) rfl (fun _ hk => hk) trivial (by omega) (by omega) (Below.refl _ _) (Nat.le_refl _) ?_;intro v136 w11 ho12 hb hg_ hnew_;clear hg_ hnew_;(first|rw [← Ny135.out] at ho12|(simp only [Int.reduceToNat] at ho12;rw [← Ny135.out] at ho12));have HO137:=Aside0.mk (Kd.R_lower (Kd.R_new' ho12 (Kd.R_lt (Kd.R_up HO134.out))) (below_size (hb_)));replace HO134:=Aside0.mk (Kd.R_elder' (Kd.R_up HO134.out) (Kd.R_base ho12) hb);replace HB:=Aside0.mk (below_step (hb_) hb);clear hb ho12;obtain ⟨Ao13,co13,eo13⟩:=Kd.R_slice HO137.out;subst eo13;obtain ⟨Ao14,co14,eo14⟩:=Kd.R_slice HO134.out;subst eo14)|((with_reducible refine gate_dst (N:=1) rfl ?_);(try (refine gate_guard (by rfl) ?_;dsimp only));refine box_ev (N:=1) (cs:=#[.int .i64 0,.int .i64 0,.slice none 0 0,.slice none 0 0]) (t:=24) ?_;intro gb138 hg w15 hbox hb;have BK138:=Aside0.mk (hbox);have GW138 : Aside0 (w.heap.size ≤ gb138):=gsz hg;have GE138:=GW138;replace HO134:=rbw HO134 hb;replace HO137:=rbw HO137 hb;replace HB:=Aside0.mk (below_step (hb_) hb);clear hb hbox hg;obtain ⟨hcz16_0,hcz16_1,hcz16_2,hcz16_3,hfz16_0,hfz16_1,hfz16_2,hfz16_3⟩:=cells4 BK138.out)|((with_reducible refine gate_callee (f:=19) rfl ?_);refine goesL_ (some 11) rfl rfl Try.func19 (by kernel_rfl) rfl #[.agg #[.int .i64 4,.int .i64 4,.slice Ao14 y132.length co14,.slice Ao13 y135.length co13],.int .i64 0,.int .i64 0] rfl (by (try simp only [List.map_toArray,List.map_cons,List.map_nil]);first|done|rfl|(simp only [List.length_drop,List.length_take];rfl)) ?_;(with_reducible refine (road_Joined.calls k 4 4 _ _ y132 _ _ y135 0 0 true t140 _ ?side1 ?side2 ?side3 ?side4 A2.out).mono ?_);(case side1 => refine (Kd.R_reads' (e:=3) (base:=w.heap.size) (ok:=fun k_ => (True ∧ some k_ ≠ (.slice Ao13 y135.length co13 : Value).ownBlock)) (n:=y132.length) (c:=co14) ?_).2.2;exact (by (with_reducible repeat (first|apply Kd.R_alloc|apply Kd.R_drewN|apply Kd.R_drew));exact (Kd.R_mono (Kd.R_fars gb138 (Kd.R_types HO134.out BK138.out (by decide)) (fun _ hk => hk.2)) (fun _ h_ => h_.1))));(case side2 => exact (Kd.R_reads' HO134.out).2.1);(case side3 => refine (Kd.R_reads' (e:=3) (base:=w.heap.size) (ok:=fun k_ => (True ∧ some k_ ≠ (.slice Ao14 y132.length co14 : Value).ownBlock)) (n:=y135.length) (c:=co13) ?_).2.2;exact (by (with_reducible repeat (first|apply Kd.R_alloc|apply Kd.R_drewN|apply Kd.R_drew));exact (Kd.R_mono (Kd.R_fars gb138 (Kd.R_types HO137.out BK138.out (by decide)) (fun _ hk => hk.2)) (fun _ h_ => h_.1))));(case side4 => exact (Kd.R_reads' HO137.out).2.1);rintro e w17 ⟨rfl,hb⟩;refine ⟨_,rfl,?_⟩;replace HO134:=Aside0.mk (Kd.R_below (by (with_reducible repeat (first|apply Kd.R_alloc|apply Kd.R_drewN|apply Kd.R_drew));exact (Kd.R_mono (Kd.R_fars gb138 (Kd.R_types HO134.out BK138.out (by decide)) (fun _ hk => hk.2)) (fun _ h_ => h_.1))) hb);replace HO137:=Aside0.mk (Kd.R_below (by (with_reducible repeat (first|apply Kd.R_alloc|apply Kd.R_drewN|apply Kd.R_drew));exact (Kd.R_mono (Kd.R_fars gb138 (Kd.R_types HO137.out BK138.out (by decide)) (fun _ hk => hk.2)) (fun _ h_ => h_.1))) hb);replace BK138:=Aside0.mk (blk_below (g:=gb138) (o:=.cells #[.int .i64 4,.int .i64 4,.slice Ao14 y132.length co14,.slice Ao13 y135.length co13] 24 (0,0)) (by (with_reducible repeat (first|refine blk_drewN ?_ _|refine blk_drew ?_|refine blk_alloc ?_ _));exact blk_puts4 (blk_up BK138.out)) hb);replace HB:=Aside0.mk (below_step (hb_) hb);obtain ⟨hcz18_0,hcz18_1,hcz18_2,hcz18_3,hfz18_0,hfz18_1,hfz18_2,hfz18_3⟩:=cells4 BK138.out)|((with_reducible refine gate_callee (f:=22) rfl ?_);refine goesL_ (some 16) rfl rfl Try.func22 (by kernel_rfl) rfl #[.agg #[.int .i64 4,.int .i64 4,.slice Ao14 y132.length co14,.slice Ao13 y135.length co13],.int .i64 1,.int .i64 2] rfl (by (try simp only [List.map_toArray,List.map_cons,List.map_nil]);first|done|rfl|(simp only [List.length_drop,List.length_take];rfl)) ?_;(with_reducible refine (road_Next.calls k 4 4 _ _ y132 _ _ y135 1 2 t141 t144 _ ?side1 ?side2 ?side3 ?side4 A3.out).mono ?_);(case side1 => exact Kd.C_up (Kd.R_reads' HO134.out).2.2);(case side2 => exact (Kd.R_reads' HO134.out).2.1);(case side3 => exact Kd.C_up (Kd.R_reads' HO137.out).2.2);(case side4 => exact (Kd.R_reads' HO137.out).2.1);rintro e w19 ⟨v142,rfl,ho0,hb⟩;refine ⟨_,rfl,?_⟩;have HO143:=Aside0.mk (Kd.R_lower (Kd.R_new' (Kd.R_new' ho0 (Kd.R_lt (Kd.R_up HO134.out))) (Kd.R_lt (Kd.R_up HO137.out))) (below_size (hb_)));replace HO134:=Aside0.mk (Kd.R_elder' (Kd.R_up HO134.out) (Kd.R_base ho0) hb);replace HO137:=Aside0.mk (Kd.R_elder' (Kd.R_up HO137.out) (Kd.R_base ho0) hb);replace BK138:=bkb BK138 hb;replace HB:=Aside0.mk (below_step (hb_) hb);obtain ⟨Ao20,co20,eo20⟩:=Kd.R_slice HO143.out;subst eo20;have p145 : 0 ≤ (0 : Int):=(by omega);have q145 : 0 < (t141.length : Int):=of_decide_eq_true (by first|(with_reducible assumption)|assumption);obtain ⟨ad145,e145,hx145_0⟩:=Kd.at_int (Kd.R_reads' HO143.out).2.2 0 p145 q145;cases e145;have qi145 : (0 < t141.length) = True:=eq_true (by omega);(try rw [show ((0 : Int)).toNat = 0 from rfl] at hx145_0);(try rw [Addr.add_zero'] at hx145_0);replace p145:=eq_true p145;replace q145:=eq_true q145))
    go_ret
    exact ⟨by first|rfl|(simp [errW_none,errW_some] <;> rfl)|(simp [*,errW_none,errW_some] <;> rfl),hb_⟩
   ·rw [if_neg c7] at H
    have c7b0 : ((t141.length : Int) == 1) = false:=beq_eq_false_iff_ne.mpr c7
    have c7b1 : ((t141.length : Int) != 1) = true:=bne_iff_ne.mpr c7
    obtain rfl:=Option.some.inj H
    go_enter Try.func16,Try.ntmps16
    go_wp2_with (first|((with_reducible refine gate_dst (N:=6) rfl ?_);(try (refine gate_guard (by rfl) ?_;dsimp only));refine Kd.R_lit (Kd.int .i64) _ 3 ?hg (N:=6) ?hd (xs:=([1,4,0,0,0,0,0,0,0,0,0,0,0,0,0,0] : List Int)) (inner:=[.int .i64 1,.int .i64 4,.int .i64 0,.int .i64 0,.int .i64 0,.int .i64 0,.int .i64 0,.int .i64 0,.int .i64 0,.int .i64 0,.int .i64 0,.int .i64 0,.int .i64 0,.int .i64 0,.int .i64 0,.int .i64 0]) (ok:=fun _ => True) (okp:=fun _ => True) ?hr ?hp (fun _ hk => hk) trivial (Below.refl _ _) (Nat.le_refl _) (by simp) ?_;(case hd => rfl);(case hg => rfl);(case hr => first|(go_simp;done)|(go_simp;rfl));(case hp => exact (Reps.one (show Kd.M (Kd.int .i64) _ _ _ 1 [.int .i64 1] from rfl) (Reps.one (show Kd.M (Kd.int .i64) _ _ _ 4 [.int .i64 4] from rfl) (Reps.one (show Kd.M (Kd.int .i64) _ _ _ 0 [.int .i64 0] from rfl) (Reps.one (show Kd.M (Kd.int .i64) _ _ _ 0 [.int .i64 0] from rfl) (Reps.one (show Kd.M (Kd.int .i64) _ _ _ 0 [.int .i64 0] from rfl) (Reps.one (show Kd.M (Kd.int .i64) _ _ _ 0 [.int .i64 0] from rfl) (Reps.one (show Kd.M (Kd.int .i64) _ _ _ 0 [.int .i64 0] from rfl) (Reps.one (show Kd.M (Kd.int .i64) _ _ _ 0 [.int .i64 0] from rfl) (Reps.one (show Kd.M (Kd.int .i64) _ _ _ 0 [.int .i64 0] from rfl) (Reps.one (show Kd.M (Kd.int .i64) _ _ _ 0 [.int .i64 0] from rfl) (Reps.one (show Kd.M (Kd.int .i64) _ _ _ 0 [.int .i64 0] from rfl) (Reps.one (show Kd.M (Kd.int .i64) _ _ _ 0 [.int .i64 0] from rfl) (Reps.one (show Kd.M (Kd.int .i64) _ _ _ 0 [.int .i64 0] from rfl) (Reps.one (show Kd.M (Kd.int .i64) _ _ _ 0 [.int .i64 0] from rfl) (Reps.one (show Kd.M (Kd.int .i64) _ _ _ 0 [.int .i64 0] from rfl) (Reps.one (show Kd.M (Kd.int .i64) _ _ _ 0 [.int .i64 0] from rfl) (Reps.none _ _))))))))))))))))));intro v133 w21 ho22 hb hg_ hnew_;clear hg_ hnew_;(first|rw [← Ny132.out] at ho22|(simp only [Int.reduceToNat] at ho22;rw [← Ny132.out] at ho22));have HO134:=rlo ho22;replace HB:=Aside0.mk (below_step (hb_) hb);clear hb ho22)|((with_reducible refine gate_dst (N:=7) rfl ?_);(try (refine gate_guard (by rfl) ?_;dsimp only));refine Kd.R_make (Kd.int .i64) _ 3 rfl (N:=7) rfl 22 _ _ rfl 16 rfl rfl Try.underlying22 (.int .i64 0) 8 info3 rfl (by decide) (by omega) 0 (ok:=fun _ => True) (okp:=fun _ => True) rfl (fun _ hk => hk) trivial (by omega) (by omega) (Below.refl _ _) (Nat.le_refl _) ?_;intro v136 w23 ho24 hb hg_ hnew_;clear hg_ hnew_;(first|rw [← Ny135.out] at ho24|(simp only [Int.reduceToNat] at ho24;rw [← Ny135.out] at ho24));have HO137:=Aside0.mk (Kd.R_lower (Kd.R_new' ho24 (Kd.R_lt (Kd.R_up HO134.out))) (below_size (hb_)));replace HO134:=Aside0.mk (Kd.R_elder' (Kd.R_up HO134.out) (Kd.R_base ho24) hb);replace HB:=Aside0.mk (below_step (hb_) hb);clear hb ho24;obtain ⟨Ao25,co25,eo25⟩:=Kd.R_slice HO137.out;subst eo25;obtain ⟨Ao26,co26,eo26⟩:=Kd.R_slice HO134.out;subst eo26)|((with_reducible refine gate_dst (N:=1) rfl ?_);(try (refine gate_guard (by rfl) ?_;dsimp only));refine box_ev (N:=1) (cs:=#[.int .i64 0,.int .i64 0,.slice none 0 0,.slice none 0 0]) (t:=24) ?_;intro gb138 hg w27 hbox hb;have BK138:=Aside0.mk (hbox);have GW138 : Aside0 (w.heap.size ≤ gb138):=gsz hg;have GE138:=GW138;replace HO134:=rbw HO134 hb;replace HO137:=rbw HO137 hb;replace HB:=Aside0.mk (below_step (hb_) hb);clear hb hbox hg;obtain ⟨hcz28_0,hcz28_1,hcz28_2,hcz28_3,hfz28_0,hfz28_1,hfz28_2,hfz28_3⟩:=cells4 BK138.out)|((with_reducible refine gate_callee (f:=19) rfl ?_);refine goesL_ (some 11) rfl rfl Try.func19 (by kernel_rfl) rfl #[.agg #[.int .i64 4,.int .i64 4,.slice Ao26 y132.length co26,.slice Ao25 y135.length co25],.int .i64 0,.int .i64 0] rfl (by (try simp only [List.map_toArray,List.map_cons,List.map_nil]);first|done|rfl|(simp only [List.length_drop,List.length_take];rfl)) ?_;(with_reducible refine (road_Joined.calls k 4 4 _ _ y132 _ _ y135 0 0 true t140 _ ?side1 ?side2 ?side3 ?side4 A2.out).mono ?_);(case side1 => refine (Kd.R_reads' (e:=3) (base:=w.heap.size) (ok:=fun k_ => (True ∧ some k_ ≠ (.slice Ao25 y135.length co25 : Value).ownBlock)) (n:=y132.length) (c:=co26) ?_).2.2;exact (by (with_reducible repeat (first|apply Kd.R_alloc|apply Kd.R_drewN|apply Kd.R_drew));exact (Kd.R_mono (Kd.R_fars gb138 (Kd.R_types HO134.out BK138.out (by decide)) (fun _ hk => hk.2)) (fun _ h_ => h_.1))));(case side2 => exact (Kd.R_reads' HO134.out).2.1);(case side3 => refine (Kd.R_reads' (e:=3) (base:=w.heap.size) (ok:=fun k_ => (True ∧ some k_ ≠ (.slice Ao26 y132.length co26 : Value).ownBlock)) (n:=y135.length) (c:=co25) ?_).2.2;exact (by (with_reducible repeat (first|apply Kd.R_alloc|apply Kd.R_drewN|apply Kd.R_drew));exact (Kd.R_mono (Kd.R_fars gb138 (Kd.R_types HO137.out BK138.out (by decide)) (fun _ hk => hk.2)) (fun _ h_ => h_.1))));(case side4 => exact (Kd.R_reads' HO137.out).2.1);rintro e w29 ⟨rfl,hb⟩;refine ⟨_,rfl,?_⟩;replace HO134:=Aside0.mk (Kd.R_below (by (with_reducible repeat (first|apply Kd.R_alloc|apply Kd.R_drewN|apply Kd.R_drew));exact (Kd.R_mono (Kd.R_fars gb138 (Kd.R_types HO134.out BK138.out (by decide)) (fun _ hk => hk.2)) (fun _ h_ => h_.1))) hb);replace HO137:=Aside0.mk (Kd.R_below (by (with_reducible repeat (first|apply Kd.R_alloc|apply Kd.R_drewN|apply Kd.R_drew));exact (Kd.R_mono (Kd.R_fars gb138 (Kd.R_types HO137.out BK138.out (by decide)) (fun _ hk => hk.2)) (fun _ h_ => h_.1))) hb);replace BK138:=Aside0.mk (blk_below (g:=gb138) (o:=.cells #[.int .i64 4,.int .i64 4,.slice Ao26 y132.length co26,.slice Ao25 y135.length co25] 24 (0,0)) (by (with_reducible repeat (first|refine blk_drewN ?_ _|refine blk_drew ?_|refine blk_alloc ?_ _));exact blk_puts4 (blk_up BK138.out)) hb);replace HB:=Aside0.mk (below_step (hb_) hb);obtain ⟨hcz30_0,hcz30_1,hcz30_2,hcz30_3,hfz30_0,hfz30_1,hfz30_2,hfz30_3⟩:=cells4 BK138.out)|((with_reducible refine gate_callee (f:=22) rfl ?_);refine goesL_ (some 16) rfl rfl Try.func22 (by kernel_rfl) rfl #[.agg #[.int .i64 4,.int .i64 4,.slice Ao26 y132.length co26,.slice Ao25 y135.length co25],.int .i64 1,.int .i64 2] rfl (by (try simp only [List.map_toArray,List.map_cons,List.map_nil]);first|done|rfl|(simp only [List.length_drop,List.length_take];rfl)) ?_;(with_reducible refine (road_Next.calls k 4 4 _ _ y132 _ _ y135 1 2 t141 t144 _ ?side1 ?side2 ?side3 ?side4 A3.out).mono ?_);(case side1 => exact Kd.C_up (Kd.R_reads' HO134.out).2.2);(case side2 => exact (Kd.R_reads' HO134.out).2.1);(case side3 => exact Kd.C_up (Kd.R_reads' HO137.out).2.2);(case side4 => exact (Kd.R_reads' HO137.out).2.1);rintro e w31 ⟨v142,rfl,ho0,hb⟩;refine ⟨_,rfl,?_⟩;have HO143:=Aside0.mk (Kd.R_lower (Kd.R_new' (Kd.R_new' ho0 (Kd.R_lt (Kd.R_up HO134.out))) (Kd.R_lt (Kd.R_up HO137.out))) (below_size (hb_)));replace HO134:=Aside0.mk (Kd.R_elder' (Kd.R_up HO134.out) (Kd.R_base ho0) hb);replace HO137:=Aside0.mk (Kd.R_elder' (Kd.R_up HO137.out) (Kd.R_base ho0) hb);replace BK138:=bkb BK138 hb;replace HB:=Aside0.mk (below_step (hb_) hb);obtain ⟨Ao32,co32,eo32⟩:=Kd.R_slice HO143.out;subst eo32))
    go_ret
    exact ⟨by first|rfl|(simp [errW_none,errW_some] <;> rfl)|(simp [*,errW_none,errW_some] <;> rfl),hb_⟩
  ·rw [if_neg c6] at H
   have c6b0 : (t144 == 0) = false:=beq_eq_false_iff_ne.mpr c6
   have c6b1 : (t144 != 0) = true:=bne_iff_ne.mpr c6
   obtain rfl:=Option.some.inj H
   go_enter Try.func16,Try.ntmps16
   go_wp2_with (first|((with_reducible refine gate_dst (N:=6) rfl ?_);(try (refine gate_guard (by rfl) ?_;dsimp only));refine Kd.R_lit (Kd.int .i64) _ 3 ?hg (N:=6) ?hd (xs:=([1,4,0,0,0,0,0,0,0,0,0,0,0,0,0,0] : List Int)) (inner:=[.int .i64 1,.int .i64 4,.int .i64 0,.int .i64 0,.int .i64 0,.int .i64 0,.int .i64 0,.int .i64 0,.int .i64 0,.int .i64 0,.int .i64 0,.int .i64 0,.int .i64 0,.int .i64 0,.int .i64 0,.int .i64 0]) (ok:=fun _ => True) (okp:=fun _ => True) ?hr ?hp (fun _ hk => hk) trivial (Below.refl _ _) (Nat.le_refl _) (by simp) ?_;(case hd => rfl);(case hg => rfl);(case hr => first|(go_simp;done)|(go_simp;rfl));(case hp => exact (Reps.one (show Kd.M (Kd.int .i64) _ _ _ 1 [.int .i64 1] from rfl) (Reps.one (show Kd.M (Kd.int .i64) _ _ _ 4 [.int .i64 4] from rfl) (Reps.one (show Kd.M (Kd.int .i64) _ _ _ 0 [.int .i64 0] from rfl) (Reps.one (show Kd.M (Kd.int .i64) _ _ _ 0 [.int .i64 0] from rfl) (Reps.one (show Kd.M (Kd.int .i64) _ _ _ 0 [.int .i64 0] from rfl) (Reps.one (show Kd.M (Kd.int .i64) _ _ _ 0 [.int .i64 0] from rfl) (Reps.one (show Kd.M (Kd.int .i64) _ _ _ 0 [.int .i64 0] from rfl) (Reps.one (show Kd.M (Kd.int .i64) _ _ _ 0 [.int .i64 0] from rfl) (Reps.one (show Kd.M (Kd.int .i64) _ _ _ 0 [.int .i64 0] from rfl) (Reps.one (show Kd.M (Kd.int .i64) _ _ _ 0 [.int .i64 0] from rfl) (Reps.one (show Kd.M (Kd.int .i64) _ _ _ 0 [.int .i64 0] from rfl) (Reps.one (show Kd.M (Kd.int .i64) _ _ _ 0 [.int .i64 0] from rfl) (Reps.one (show Kd.M (Kd.int .i64) _ _ _ 0 [.int .i64 0] from rfl) (Reps.one (show Kd.M (Kd.int .i64) _ _ _ 0 [.int .i64 0] from rfl) (Reps.one (show Kd.M (Kd.int .i64) _ _ _ 0 [.int .i64 0] from rfl) (Reps.one (show Kd.M (Kd.int .i64) _ _ _ 0 [.int .i64 0] from rfl) (Reps.none _ _))))))))))))))))));intro v133 w33 ho34 hb hg_ hnew_;clear hg_ hnew_;(first|rw [← Ny132.out] at ho34|(simp only [Int.reduceToNat] at ho34;rw [← Ny132.out] at ho34));have HO134:=rlo ho34;replace HB:=Aside0.mk (below_step (hb_) hb);clear hb ho34)|((with_reducible refine gate_dst (N:=7) rfl ?_);(try (refine gate_guard (by rfl) ?_;dsimp only));refine Kd.R_make (Kd.int .i64) _ 3 rfl (N:=7) rfl 22 _ _ rfl 16 rfl rfl Try.underlying22 (.int .i64 0) 8 info3 rfl (by decide) (by omega) 0 (ok:=fun _ => True) (okp:=fun _ => True) rfl (fun _ hk => hk) trivial (by omega) (by omega) (Below.refl _ _) (Nat.le_refl _) ?_;intro v136 w35 ho36 hb hg_ hnew_;clear hg_ hnew_;(first|rw [← Ny135.out] at ho36|(simp only [Int.reduceToNat] at ho36;rw [← Ny135.out] at ho36));have HO137:=Aside0.mk (Kd.R_lower (Kd.R_new' ho36 (Kd.R_lt (Kd.R_up HO134.out))) (below_size (hb_)));replace HO134:=Aside0.mk (Kd.R_elder' (Kd.R_up HO134.out) (Kd.R_base ho36) hb);replace HB:=Aside0.mk (below_step (hb_) hb);clear hb ho36;obtain ⟨Ao37,co37,eo37⟩:=Kd.R_slice HO137.out;subst eo37;obtain ⟨Ao38,co38,eo38⟩:=Kd.R_slice HO134.out;subst eo38)|((with_reducible refine gate_dst (N:=1) rfl ?_);(try (refine gate_guard (by rfl) ?_;dsimp only));refine box_ev (N:=1) (cs:=#[.int .i64 0,.int .i64 0,.slice none 0 0,.slice none 0 0]) (t:=24) ?_;intro gb138 hg w39 hbox hb;have BK138:=Aside0.mk (hbox);have GW138 : Aside0 (w.heap.size ≤ gb138):=gsz hg;have GE138:=GW138;replace HO134:=rbw HO134 hb;replace HO137:=rbw HO137 hb;replace HB:=Aside0.mk (below_step (hb_) hb);clear hb hbox hg;obtain ⟨hcz40_0,hcz40_1,hcz40_2,hcz40_3,hfz40_0,hfz40_1,hfz40_2,hfz40_3⟩:=cells4 BK138.out)|((with_reducible refine gate_callee (f:=19) rfl ?_);refine goesL_ (some 11) rfl rfl Try.func19 (by kernel_rfl) rfl #[.agg #[.int .i64 4,.int .i64 4,.slice Ao38 y132.length co38,.slice Ao37 y135.length co37],.int .i64 0,.int .i64 0] rfl (by (try simp only [List.map_toArray,List.map_cons,List.map_nil]);first|done|rfl|(simp only [List.length_drop,List.length_take];rfl)) ?_;(with_reducible refine (road_Joined.calls k 4 4 _ _ y132 _ _ y135 0 0 true t140 _ ?side1 ?side2 ?side3 ?side4 A2.out).mono ?_);(case side1 => refine (Kd.R_reads' (e:=3) (base:=w.heap.size) (ok:=fun k_ => (True ∧ some k_ ≠ (.slice Ao37 y135.length co37 : Value).ownBlock)) (n:=y132.length) (c:=co38) ?_).2.2;exact (by (with_reducible repeat (first|apply Kd.R_alloc|apply Kd.R_drewN|apply Kd.R_drew));exact (Kd.R_mono (Kd.R_fars gb138 (Kd.R_types HO134.out BK138.out (by decide)) (fun _ hk => hk.2)) (fun _ h_ => h_.1))));(case side2 => exact (Kd.R_reads' HO134.out).2.1);(case side3 => refine (Kd.R_reads' (e:=3) (base:=w.heap.size) (ok:=fun k_ => (True ∧ some k_ ≠ (.slice Ao38 y132.length co38 : Value).ownBlock)) (n:=y135.length) (c:=co37) ?_).2.2;exact (by (with_reducible repeat (first|apply Kd.R_alloc|apply Kd.R_drewN|apply Kd.R_drew));exact (Kd.R_mono (Kd.R_fars gb138 (Kd.R_types HO137.out BK138.out (by decide)) (fun _ hk => hk.2)) (fun _ h_ => h_.1))));(case side4 => exact (Kd.R_reads' HO137.out).2.1);rintro e w41 ⟨rfl,hb⟩;refine ⟨_,rfl,?_⟩;replace HO134:=Aside0.mk (Kd.R_below (by (with_reducible repeat (first|apply Kd.R_alloc|apply Kd.R_drewN|apply Kd.R_drew));exact (Kd.R_mono (Kd.R_fars gb138 (Kd.R_types HO134.out BK138.out (by decide)) (fun _ hk => hk.2)) (fun _ h_ => h_.1))) hb);replace HO137:=Aside0.mk (Kd.R_below (by (with_reducible repeat (first|apply Kd.R_alloc|apply Kd.R_drewN|apply Kd.R_drew));exact (Kd.R_mono (Kd.R_fars gb138 (Kd.R_types HO137.out BK138.out (by decide)) (fun _ hk => hk.2)) (fun _ h_ => h_.1))) hb);replace BK138:=Aside0.mk (blk_below (g:=gb138) (o:=.cells #[.int .i64 4,.int .i64 4,.slice Ao38 y132.length co38,.slice Ao37 y135.length co37] 24 (0,0)) (by (with_reducible repeat (first|refine blk_drewN ?_ _|refine blk_drew ?_|refine blk_alloc ?_ _));exact blk_puts4 (blk_up BK138.out)) hb);replace HB:=Aside0.mk (below_step (hb_) hb);obtain ⟨hcz42_0,hcz42_1,hcz42_2,hcz42_3,hfz42_0,hfz42_1,hfz42_2,hfz42_3⟩:=cells4 BK138.out)|((with_reducible refine gate_callee (f:=22) rfl ?_);refine goesL_ (some 16) rfl rfl Try.func22 (by kernel_rfl) rfl #[.agg #[.int .i64 4,.int .i64 4,.slice Ao38 y132.length co38,.slice Ao37 y135.length co37],.int .i64 1,.int .i64 2] rfl (by (try simp only [List.map_toArray,List.map_cons,List.map_nil]);first|done|rfl|(simp only [List.length_drop,List.length_take];rfl)) ?_;(with_reducible refine (road_Next.calls k 4 4 _ _ y132 _ _ y135 1 2 t141 t144 _ ?side1 ?side2 ?side3 ?side4 A3.out).mono ?_);(case side1 => exact Kd.C_up (Kd.R_reads' HO134.out).2.2);(case side2 => exact (Kd.R_reads' HO134.out).2.1);(case side3 => exact Kd.C_up (Kd.R_reads' HO137.out).2.2);(case side4 => exact (Kd.R_reads' HO137.out).2.1);rintro e w43 ⟨v142,rfl,ho0,hb⟩;refine ⟨_,rfl,?_⟩;have HO143:=Aside0.mk (Kd.R_lower (Kd.R_new' (Kd.R_new' ho0 (Kd.R_lt (Kd.R_up HO134.out))) (Kd.R_lt (Kd.R_up HO137.out))) (below_size (hb_)));replace HO134:=Aside0.mk (Kd.R_elder' (Kd.R_up HO134.out) (Kd.R_base ho0) hb);replace HO137:=Aside0.mk (Kd.R_elder' (Kd.R_up HO137.out) (Kd.R_base ho0) hb);replace BK138:=bkb BK138 hb;replace HB:=Aside0.mk (below_step (hb_) hb)))
   go_ret
   exact ⟨by first|rfl|(simp [errW_none,errW_some] <;> rfl)|(simp [*,errW_none,errW_some] <;> rfl),hb_⟩
 ·replace c4:=Bool.eq_false_iff.mpr c4
  subst c4
  have H1 : (some false) = some r:=by rw [if_neg (show ¬ (false = true) by decide)] at H;exact H
  clear H
  have H:=H1
  clear H1
  obtain rfl:=Option.some.inj H
  go_enter Try.func16,Try.ntmps16
  go_wp2_with (first|((with_reducible refine gate_dst (N:=6) rfl ?_);(try (refine gate_guard (by rfl) ?_;dsimp only));refine Kd.R_lit (Kd.int .i64) _ 3 ?hg (N:=6) ?hd (xs:=([1,4,0,0,0,0,0,0,0,0,0,0,0,0,0,0] : List Int)) (inner:=[.int .i64 1,.int .i64 4,.int .i64 0,.int .i64 0,.int .i64 0,.int .i64 0,.int .i64 0,.int .i64 0,.int .i64 0,.int .i64 0,.int .i64 0,.int .i64 0,.int .i64 0,.int .i64 0,.int .i64 0,.int .i64 0]) (ok:=fun _ => True) (okp:=fun _ => True) ?hr ?hp (fun _ hk => hk) trivial (Below.refl _ _) (Nat.le_refl _) (by simp) ?_;(case hd => rfl);(case hg => rfl);(case hr => first|(go_simp;done)|(go_simp;rfl));(case hp => exact (Reps.one (show Kd.M (Kd.int .i64) _ _ _ 1 [.int .i64 1] from rfl) (Reps.one (show Kd.M (Kd.int .i64) _ _ _ 4 [.int .i64 4] from rfl) (Reps.one (show Kd.M (Kd.int .i64) _ _ _ 0 [.int .i64 0] from rfl) (Reps.one (show Kd.M (Kd.int .i64) _ _ _ 0 [.int .i64 0] from rfl) (Reps.one (show Kd.M (Kd.int .i64) _ _ _ 0 [.int .i64 0] from rfl) (Reps.one (show Kd.M (Kd.int .i64) _ _ _ 0 [.int .i64 0] from rfl) (Reps.one (show Kd.M (Kd.int .i64) _ _ _ 0 [.int .i64 0] from rfl) (Reps.one (show Kd.M (Kd.int .i64) _ _ _ 0 [.int .i64 0] from rfl) (Reps.one (show Kd.M (Kd.int .i64) _ _ _ 0 [.int .i64 0] from rfl) (Reps.one (show Kd.M (Kd.int .i64) _ _ _ 0 [.int .i64 0] from rfl) (Reps.one (show Kd.M (Kd.int .i64) _ _ _ 0 [.int .i64 0] from rfl) (Reps.one (show Kd.M (Kd.int .i64) _ _ _ 0 [.int .i64 0] from rfl) (Reps.one (show Kd.M (Kd.int .i64) _ _ _ 0 [.int .i64 0] from rfl) (Reps.one (show Kd.M (Kd.int .i64) _ _ _ 0 [.int .i64 0] from rfl) (Reps.one (show Kd.M (Kd.int .i64) _ _ _ 0 [.int .i64 0] from rfl) (Reps.one (show Kd.M (Kd.int .i64) _ _ _ 0 [.int .i64 0] from rfl) (Reps.none _ _))))))))))))))))));intro v133 w55 ho56 hb hg_ hnew_;clear hg_ hnew_;(first|rw [← Ny132.out] at ho56|(simp only [Int.reduceToNat] at ho56;rw [← Ny132.out] at ho56));have HO134:=rlo ho56;replace HB:=Aside0.mk (below_step (hb_) hb);clear hb ho56)|((with_reducible refine gate_dst (N:=7) rfl ?_);(try (refine gate_guard (by rfl) ?_;dsimp only));refine Kd.R_make (Kd.int .i64) _ 3 rfl (N:=7) rfl 22 _ _ rfl 16 rfl rfl Try.underlying22 (.int .i64 0) 8 info3 rfl (by decide) (by omega) 0 (ok:=fun _ => True) (okp:=fun _ => True) rfl (fun _ hk => hk) trivial (by omega) (by omega) (Below.refl _ _) (Nat.le_refl _) ?_;intro v136 w57 ho58 hb hg_ hnew_;clear hg_ hnew_;(first|rw [← Ny135.out] at ho58|(simp only [Int.reduceToNat] at ho58;rw [← Ny135.out] at ho58));have HO137:=Aside0.mk (Kd.R_lower (Kd.R_new' ho58 (Kd.R_lt (Kd.R_up HO134.out))) (below_size (hb_)));replace HO134:=Aside0.mk (Kd.R_elder' (Kd.R_up HO134.out) (Kd.R_base ho58) hb);replace HB:=Aside0.mk (below_step (hb_) hb);clear hb ho58;obtain ⟨Ao59,co59,eo59⟩:=Kd.R_slice HO137.out;subst eo59;obtain ⟨Ao60,co60,eo60⟩:=Kd.R_slice HO134.out;subst eo60)|((with_reducible refine gate_dst (N:=1) rfl ?_);(try (refine gate_guard (by rfl) ?_;dsimp only));refine box_ev (N:=1) (cs:=#[.int .i64 0,.int .i64 0,.slice none 0 0,.slice none 0 0]) (t:=24) ?_;intro gb138 hg w61 hbox hb;have BK138:=Aside0.mk (hbox);have GW138 : Aside0 (w.heap.size ≤ gb138):=gsz hg;have GE138:=GW138;replace HO134:=rbw HO134 hb;replace HO137:=rbw HO137 hb;replace HB:=Aside0.mk (below_step (hb_) hb);clear hb hbox hg;obtain ⟨hcz62_0,hcz62_1,hcz62_2,hcz62_3,hfz62_0,hfz62_1,hfz62_2,hfz62_3⟩:=cells4 BK138.out)|((with_reducible refine gate_callee (f:=19) rfl ?_);refine goesL_ (some 11) rfl rfl Try.func19 (by kernel_rfl) rfl #[.agg #[.int .i64 4,.int .i64 4,.slice Ao60 y132.length co60,.slice Ao59 y135.length co59],.int .i64 0,.int .i64 0] rfl (by (try simp only [List.map_toArray,List.map_cons,List.map_nil]);first|done|rfl|(simp only [List.length_drop,List.length_take];rfl)) ?_;(with_reducible refine (road_Joined.calls k 4 4 _ _ y132 _ _ y135 0 0 false t140 _ ?side1 ?side2 ?side3 ?side4 A2.out).mono ?_);(case side1 => refine (Kd.R_reads' (e:=3) (base:=w.heap.size) (ok:=fun k_ => (True ∧ some k_ ≠ (.slice Ao59 y135.length co59 : Value).ownBlock)) (n:=y132.length) (c:=co60) ?_).2.2;exact (by (with_reducible repeat (first|apply Kd.R_alloc|apply Kd.R_drewN|apply Kd.R_drew));exact (Kd.R_mono (Kd.R_fars gb138 (Kd.R_types HO134.out BK138.out (by decide)) (fun _ hk => hk.2)) (fun _ h_ => h_.1))));(case side2 => exact (Kd.R_reads' HO134.out).2.1);(case side3 => refine (Kd.R_reads' (e:=3) (base:=w.heap.size) (ok:=fun k_ => (True ∧ some k_ ≠ (.slice Ao60 y132.length co60 : Value).ownBlock)) (n:=y135.length) (c:=co59) ?_).2.2;exact (by (with_reducible repeat (first|apply Kd.R_alloc|apply Kd.R_drewN|apply Kd.R_drew));exact (Kd.R_mono (Kd.R_fars gb138 (Kd.R_types HO137.out BK138.out (by decide)) (fun _ hk => hk.2)) (fun _ h_ => h_.1))));(case side4 => exact (Kd.R_reads' HO137.out).2.1);rintro e w63 ⟨rfl,hb⟩;refine ⟨_,rfl,?_⟩;replace HO134:=Aside0.mk (Kd.R_below (by (with_reducible repeat (first|apply Kd.R_alloc|apply Kd.R_drewN|apply Kd.R_drew));exact (Kd.R_mono (Kd.R_fars gb138 (Kd.R_types HO134.out BK138.out (by decide)) (fun _ hk => hk.2)) (fun _ h_ => h_.1))) hb);replace HO137:=Aside0.mk (Kd.R_below (by (with_reducible repeat (first|apply Kd.R_alloc|apply Kd.R_drewN|apply Kd.R_drew));exact (Kd.R_mono (Kd.R_fars gb138 (Kd.R_types HO137.out BK138.out (by decide)) (fun _ hk => hk.2)) (fun _ h_ => h_.1))) hb);replace BK138:=Aside0.mk (blk_below (g:=gb138) (o:=.cells #[.int .i64 4,.int .i64 4,.slice Ao60 y132.length co60,.slice Ao59 y135.length co59] 24 (0,0)) (by (with_reducible repeat (first|refine blk_drewN ?_ _|refine blk_drew ?_|refine blk_alloc ?_ _));exact blk_puts4 (blk_up BK138.out)) hb);replace HB:=Aside0.mk (below_step (hb_) hb);obtain ⟨hcz64_0,hcz64_1,hcz64_2,hcz64_3,hfz64_0,hfz64_1,hfz64_2,hfz64_3⟩:=cells4 BK138.out)|((with_reducible refine gate_callee (f:=22) rfl ?_);refine goesL_ (some 16) rfl rfl Try.func22 (by kernel_rfl) rfl #[.agg #[.int .i64 4,.int .i64 4,.slice Ao60 y132.length co60,.slice Ao59 y135.length co59],.int .i64 1,.int .i64 2] rfl (by (try simp only [List.map_toArray,List.map_cons,List.map_nil]);first|done|rfl|(simp only [List.length_drop,List.length_take];rfl)) ?_;(with_reducible refine (road_Next.calls k 4 4 _ _ y132 _ _ y135 1 2 t141 t144 _ ?side1 ?side2 ?side3 ?side4 A3.out).mono ?_);(case side1 => exact Kd.C_up (Kd.R_reads' HO134.out).2.2);(case side2 => exact (Kd.R_reads' HO134.out).2.1);(case side3 => exact Kd.C_up (Kd.R_reads' HO137.out).2.2);(case side4 => exact (Kd.R_reads' HO137.out).2.1);rintro e w65 ⟨v142,rfl,ho0,hb⟩;refine ⟨_,rfl,?_⟩;have HO143:=Aside0.mk (Kd.R_lower (Kd.R_new' (Kd.R_new' ho0 (Kd.R_lt (Kd.R_up HO134.out))) (Kd.R_lt (Kd.R_up HO137.out))) (below_size (hb_)));replace HO134:=Aside0.mk (Kd.R_elder' (Kd.R_up HO134.out) (Kd.R_base ho0) hb);replace HO137:=Aside0.mk (Kd.R_elder' (Kd.R_up HO137.out) (Kd.R_base ho0) hb);replace BK138:=bkb BK138 hb;replace HB:=Aside0.mk (below_step (hb_) hb)))
  go_ret
  exact ⟨by first|rfl|(simp [errW_none,errW_some] <;> rfl)|(simp [*,errW_none,errW_some] <;> rfl),hb_⟩

/-! ### hinterlandref02_Beyond: function 21 -/
def hinterlandref02_Beyond.f (a0 : Int) (a1 : Int) (a2 : Int) (a3 : Int) : Option (Int) := if a0 = 0 then (none) else (if a3 = 0 then (if (wrap64 ((Int.tmod a2 a0) + 1)) < 0 then (some (-1)) else (if (wrap64 (Int.tdiv a2 a0)) < 0 then (some (-1)) else (if (wrap64 ((Int.tmod a2 a0) + 1)) ≥ a0 then (some (-1)) else (if (wrap64 (Int.tdiv a2 a0)) ≥ a1 then (some (-1)) else (some (wrap64 ((wrap64 ((wrap64 (Int.tdiv a2 a0)) * a0)) + (wrap64 ((Int.tmod a2 a0) + 1))))))))) else (if a3 = 1 then (if (Int.tmod a2 a0) < 0 then (some (-1)) else (if (wrap64 ((wrap64 (Int.tdiv a2 a0)) + 1)) < 0 then (some (-1)) else (if (Int.tmod a2 a0) ≥ a0 then (some (-1)) else (if (wrap64 ((wrap64 (Int.tdiv a2 a0)) + 1)) ≥ a1 then (some (-1)) else (some (wrap64 ((wrap64 ((wrap64 ((wrap64 (Int.tdiv a2 a0)) + 1)) * a0)) + (Int.tmod a2 a0)))))))) else (if a3 = 2 then (if (wrap64 ((Int.tmod a2 a0) - 1)) < 0 then (some (-1)) else (if (wrap64 (Int.tdiv a2 a0)) < 0 then (some (-1)) else (if (wrap64 ((Int.tmod a2 a0) - 1)) ≥ a0 then (some (-1)) else (if (wrap64 (Int.tdiv a2 a0)) ≥ a1 then (some (-1)) else (some (wrap64 ((wrap64 ((wrap64 (Int.tdiv a2 a0)) * a0)) + (wrap64 ((Int.tmod a2 a0) - 1))))))))) else (if a3 = 3 then (if (Int.tmod a2 a0) < 0 then (some (-1)) else (if (wrap64 ((wrap64 (Int.tdiv a2 a0)) - 1)) < 0 then (some (-1)) else (if (Int.tmod a2 a0) ≥ a0 then (some (-1)) else (if (wrap64 ((wrap64 (Int.tdiv a2 a0)) - 1)) ≥ a1 then (some (-1)) else (some (wrap64 ((wrap64 ((wrap64 ((wrap64 (Int.tdiv a2 a0)) - 1)) * a0)) + (Int.tmod a2 a0)))))))) else (if (Int.tmod a2 a0) < 0 then (some (-1)) else (if (wrap64 (Int.tdiv a2 a0)) < 0 then (some (-1)) else (if (Int.tmod a2 a0) ≥ a0 then (some (-1)) else (if (wrap64 (Int.tdiv a2 a0)) ≥ a1 then (some (-1)) else (some (wrap64 ((wrap64 ((wrap64 (Int.tdiv a2 a0)) * a0)) + (Int.tmod a2 a0))))))))))))
set_option maxHeartbeats 8000000 in
set_option maxRecDepth 100000 in
theorem hinterlandref02_Beyond.calls (a0 : Int) (a1 : Int) (a2 : Int) (a3 : Int) (r : Int) (w : World) (h : hinterlandref02_Beyond.f a0 a1 a2 a3 = some r) :
  Calls Try.prog 21 #[.int .i64 a0,.int .i64 a1,.int .i64 a2,.int .i64 a3] w fun e w' => e = .returned (.int .i64 r) ∧ Drawn0 w w':=by
 have H : (if a0 = 0 then (none) else (if a3 = 0 then (if (wrap64 ((Int.tmod a2 a0) + 1)) < 0 then (some (-1)) else (if (wrap64 (Int.tdiv a2 a0)) < 0 then (some (-1)) else (if (wrap64 ((Int.tmod a2 a0) + 1)) ≥ a0 then (some (-1)) else (if (wrap64 (Int.tdiv a2 a0)) ≥ a1 then (some (-1)) else (some (wrap64 ((wrap64 ((wrap64 (Int.tdiv a2 a0)) * a0)) + (wrap64 ((Int.tmod a2 a0) + 1))))))))) else (if a3 = 1 then (if (Int.tmod a2 a0) < 0 then (some (-1)) else (if (wrap64 ((wrap64 (Int.tdiv a2 a0)) + 1)) < 0 then (some (-1)) else (if (Int.tmod a2 a0) ≥ a0 then (some (-1)) else (if (wrap64 ((wrap64 (Int.tdiv a2 a0)) + 1)) ≥ a1 then (some (-1)) else (some (wrap64 ((wrap64 ((wrap64 ((wrap64 (Int.tdiv a2 a0)) + 1)) * a0)) + (Int.tmod a2 a0)))))))) else (if a3 = 2 then (if (wrap64 ((Int.tmod a2 a0) - 1)) < 0 then (some (-1)) else (if (wrap64 (Int.tdiv a2 a0)) < 0 then (some (-1)) else (if (wrap64 ((Int.tmod a2 a0) - 1)) ≥ a0 then (some (-1)) else (if (wrap64 (Int.tdiv a2 a0)) ≥ a1 then (some (-1)) else (some (wrap64 ((wrap64 ((wrap64 (Int.tdiv a2 a0)) * a0)) + (wrap64 ((Int.tmod a2 a0) - 1))))))))) else (if a3 = 3 then (if (Int.tmod a2 a0) < 0 then (some (-1)) else (if (wrap64 ((wrap64 (Int.tdiv a2 a0)) - 1)) < 0 then (some (-1)) else (if (Int.tmod a2 a0) ≥ a0 then (some (-1)) else (if (wrap64 ((wrap64 (Int.tdiv a2 a0)) - 1)) ≥ a1 then (some (-1)) else (some (wrap64 ((wrap64 ((wrap64 ((wrap64 (Int.tdiv a2 a0)) - 1)) * a0)) + (Int.tmod a2 a0)))))))) else (if (Int.tmod a2 a0) < 0 then (some (-1)) else (if (wrap64 (Int.tdiv a2 a0)) < 0 then (some (-1)) else (if (Int.tmod a2 a0) ≥ a0 then (some (-1)) else (if (wrap64 (Int.tdiv a2 a0)) ≥ a1 then (some (-1)) else (some (wrap64 ((wrap64 ((wrap64 (Int.tdiv a2 a0)) * a0)) + (Int.tmod a2 a0))))))))))))) = some r:=h
 clear h
 replace H:=ifn_ H;obtain ⟨c5,H⟩:=H
 have c5b0 : (a0 == 0) = false:=beq_eq_false_iff_ne.mpr c5
 have c5b1 : (a0 != 0) = true:=bne_iff_ne.mpr c5
 by_cases c6 : a3 = 0
 ·rw [if_pos c6] at H
  have c6b0 : (a3 == 0) = true:=beq_iff_eq.mpr c6
  have c6b1 : (a3 != 0) = false:=bne_eq_false_iff_eq.mpr c6
  clear c6
  by_cases c7 : (wrap64 ((Int.tmod a2 a0) + 1)) < 0
  ·rw [if_pos c7] at H
   have c7b0 : decide ((wrap64 ((Int.tmod a2 a0) + 1)) < 0) = true:=decide_eq_true c7
   clear c7
   obtain rfl:=Option.some.inj H
   go_enter Try.func21,Try.ntmps21
   go_wp2
   go_quiet (fail)
   go_wp2
   go_ret
   exact ⟨by first|rfl|(simp;done)|(simp [*];done),by repeat (first|exact Drawn0.refl _|apply Drawn0.step)⟩
  rw [if_neg c7] at H
  have c7b0 : decide ((wrap64 ((Int.tmod a2 a0) + 1)) < 0) = false:=decide_eq_false c7
  clear c7
  by_cases c8 : (wrap64 (Int.tdiv a2 a0)) < 0
  ·rw [if_pos c8] at H
   have c8b0 : decide ((wrap64 (Int.tdiv a2 a0)) < 0) = true:=decide_eq_true c8
   clear c8
   obtain rfl:=Option.some.inj H
   go_enter Try.func21,Try.ntmps21
   go_wp2
   go_quiet (fail)
   go_wp2
   go_ret
   exact ⟨by first|rfl|(simp;done)|(simp [*];done),by repeat (first|exact Drawn0.refl _|apply Drawn0.step)⟩
  rw [if_neg c8] at H
  have c8b0 : decide ((wrap64 (Int.tdiv a2 a0)) < 0) = false:=decide_eq_false c8
  clear c8
  by_cases c9 : (wrap64 ((Int.tmod a2 a0) + 1)) ≥ a0
  ·rw [if_pos c9] at H
   have c9b0 : decide (a0 ≤ (wrap64 ((Int.tmod a2 a0) + 1))) = true:=decide_eq_true c9
   clear c9
   obtain rfl:=Option.some.inj H
   go_enter Try.func21,Try.ntmps21
   go_wp2
   go_quiet (fail)
   go_wp2
   go_ret
   exact ⟨by first|rfl|(simp;done)|(simp [*];done),by repeat (first|exact Drawn0.refl _|apply Drawn0.step)⟩
  ·rw [if_neg c9] at H
   have c9b0 : decide (a0 ≤ (wrap64 ((Int.tmod a2 a0) + 1))) = false:=decide_eq_false c9
   clear c9
   by_cases c10 : (wrap64 (Int.tdiv a2 a0)) ≥ a1
   ·rw [if_pos c10] at H
    have c10b0 : decide (a1 ≤ (wrap64 (Int.tdiv a2 a0))) = true:=decide_eq_true c10
    clear c10
    obtain rfl:=Option.some.inj H
    go_enter Try.func21,Try.ntmps21
    go_wp2
    go_quiet (fail)
    go_wp2
    go_ret
    exact ⟨by first|rfl|(simp;done)|(simp [*];done),by repeat (first|exact Drawn0.refl _|apply Drawn0.step)⟩
   ·rw [if_neg c10] at H
    have c10b0 : decide (a1 ≤ (wrap64 (Int.tdiv a2 a0))) = false:=decide_eq_false c10
    clear c10
    obtain rfl:=Option.some.inj H
    go_enter Try.func21,Try.ntmps21
    go_wp2
    go_quiet (fail)
    go_wp2
    go_ret
    exact ⟨by first|rfl|(simp;done)|(simp [*];done),by repeat (first|exact Drawn0.refl _|apply Drawn0.step)⟩
 rw [if_neg c6] at H
 have c6b0 : (a3 == 0) = false:=beq_eq_false_iff_ne.mpr c6
 have c6b1 : (a3 != 0) = true:=bne_iff_ne.mpr c6
 by_cases c11 : a3 = 1
 ·rw [if_pos c11] at H
  have c11b0 : (a3 == 1) = true:=beq_iff_eq.mpr c11
  have c11b1 : (a3 != 1) = false:=bne_eq_false_iff_eq.mpr c11
  clear c11
  by_cases c12 : (Int.tmod a2 a0) < 0
  ·rw [if_pos c12] at H
   have c12b0 : decide ((Int.tmod a2 a0) < 0) = true:=decide_eq_true c12
   clear c12
   obtain rfl:=Option.some.inj H
   go_enter Try.func21,Try.ntmps21
   go_wp2
   go_quiet (fail)
   go_wp2
   go_ret
   exact ⟨by first|rfl|(simp;done)|(simp [*];done),by repeat (first|exact Drawn0.refl _|apply Drawn0.step)⟩
  rw [if_neg c12] at H
  have c12b0 : decide ((Int.tmod a2 a0) < 0) = false:=decide_eq_false c12
  clear c12
  by_cases c13 : (wrap64 ((wrap64 (Int.tdiv a2 a0)) + 1)) < 0
  ·rw [if_pos c13] at H
   have c13b0 : decide ((wrap64 ((wrap64 (Int.tdiv a2 a0)) + 1)) < 0) = true:=decide_eq_true c13
   clear c13
   obtain rfl:=Option.some.inj H
   go_enter Try.func21,Try.ntmps21
   go_wp2
   go_quiet (fail)
   go_wp2
   go_ret
   exact ⟨by first|rfl|(simp;done)|(simp [*];done),by repeat (first|exact Drawn0.refl _|apply Drawn0.step)⟩
  rw [if_neg c13] at H
  have c13b0 : decide ((wrap64 ((wrap64 (Int.tdiv a2 a0)) + 1)) < 0) = false:=decide_eq_false c13
  clear c13
  by_cases c14 : (Int.tmod a2 a0) ≥ a0
  ·rw [if_pos c14] at H
   have c14b0 : decide (a0 ≤ (Int.tmod a2 a0)) = true:=decide_eq_true c14
   clear c14
   obtain rfl:=Option.some.inj H
   go_enter Try.func21,Try.ntmps21
   go_wp2
   go_quiet (fail)
   go_wp2
   go_ret
   exact ⟨by first|rfl|(simp;done)|(simp [*];done),by repeat (first|exact Drawn0.refl _|apply Drawn0.step)⟩
  ·rw [if_neg c14] at H
   have c14b0 : decide (a0 ≤ (Int.tmod a2 a0)) = false:=decide_eq_false c14
   clear c14
   by_cases c15 : (wrap64 ((wrap64 (Int.tdiv a2 a0)) + 1)) ≥ a1
   ·rw [if_pos c15] at H
    have c15b0 : decide (a1 ≤ (wrap64 ((wrap64 (Int.tdiv a2 a0)) + 1))) = true:=decide_eq_true c15
    clear c15
    obtain rfl:=Option.some.inj H
    go_enter Try.func21,Try.ntmps21
    go_wp2
    go_quiet (fail)
    go_wp2
    go_ret
    exact ⟨by first|rfl|(simp;done)|(simp [*];done),by repeat (first|exact Drawn0.refl _|apply Drawn0.step)⟩
   ·rw [if_neg c15] at H
    have c15b0 : decide (a1 ≤ (wrap64 ((wrap64 (Int.tdiv a2 a0)) + 1))) = false:=decide_eq_false c15
    clear c15
    obtain rfl:=Option.some.inj H
    go_enter Try.func21,Try.ntmps21
    go_wp2
    go_quiet (fail)
    go_wp2
    go_ret
    exact ⟨by first|rfl|(simp;done)|(simp [*];done),by repeat (first|exact Drawn0.refl _|apply Drawn0.step)⟩
 rw [if_neg c11] at H
 have c11b0 : (a3 == 1) = false:=beq_eq_false_iff_ne.mpr c11
 have c11b1 : (a3 != 1) = true:=bne_iff_ne.mpr c11
 by_cases c16 : a3 = 2
 ·rw [if_pos c16] at H
  have c16b0 : (a3 == 2) = true:=beq_iff_eq.mpr c16
  have c16b1 : (a3 != 2) = false:=bne_eq_false_iff_eq.mpr c16
  clear c16
  by_cases c17 : (wrap64 ((Int.tmod a2 a0) - 1)) < 0
  ·rw [if_pos c17] at H
   have c17b0 : decide ((wrap64 ((Int.tmod a2 a0) - 1)) < 0) = true:=decide_eq_true c17
   clear c17
   obtain rfl:=Option.some.inj H
   go_enter Try.func21,Try.ntmps21
   go_wp2
   go_quiet (fail)
   go_wp2
   go_ret
   exact ⟨by first|rfl|(simp;done)|(simp [*];done),by repeat (first|exact Drawn0.refl _|apply Drawn0.step)⟩
  rw [if_neg c17] at H
  have c17b0 : decide ((wrap64 ((Int.tmod a2 a0) - 1)) < 0) = false:=decide_eq_false c17
  clear c17
  by_cases c18 : (wrap64 (Int.tdiv a2 a0)) < 0
  ·rw [if_pos c18] at H
   have c18b0 : decide ((wrap64 (Int.tdiv a2 a0)) < 0) = true:=decide_eq_true c18
   clear c18
   obtain rfl:=Option.some.inj H
   go_enter Try.func21,Try.ntmps21
   go_wp2
   go_quiet (fail)
   go_wp2
   go_ret
   exact ⟨by first|rfl|(simp;done)|(simp [*];done),by repeat (first|exact Drawn0.refl _|apply Drawn0.step)⟩
  rw [if_neg c18] at H
  have c18b0 : decide ((wrap64 (Int.tdiv a2 a0)) < 0) = false:=decide_eq_false c18
  clear c18
  by_cases c19 : (wrap64 ((Int.tmod a2 a0) - 1)) ≥ a0
  ·rw [if_pos c19] at H
   have c19b0 : decide (a0 ≤ (wrap64 ((Int.tmod a2 a0) - 1))) = true:=decide_eq_true c19
   clear c19
   obtain rfl:=Option.some.inj H
   go_enter Try.func21,Try.ntmps21
   go_wp2
   go_quiet (fail)
   go_wp2
   go_ret
   exact ⟨by first|rfl|(simp;done)|(simp [*];done),by repeat (first|exact Drawn0.refl _|apply Drawn0.step)⟩
  ·rw [if_neg c19] at H
   have c19b0 : decide (a0 ≤ (wrap64 ((Int.tmod a2 a0) - 1))) = false:=decide_eq_false c19
   clear c19
   by_cases c20 : (wrap64 (Int.tdiv a2 a0)) ≥ a1
   ·rw [if_pos c20] at H
    have c20b0 : decide (a1 ≤ (wrap64 (Int.tdiv a2 a0))) = true:=decide_eq_true c20
    clear c20
    obtain rfl:=Option.some.inj H
    go_enter Try.func21,Try.ntmps21
    go_wp2
    go_quiet (fail)
    go_wp2
    go_ret
    exact ⟨by first|rfl|(simp;done)|(simp [*];done),by repeat (first|exact Drawn0.refl _|apply Drawn0.step)⟩
   ·rw [if_neg c20] at H
    have c20b0 : decide (a1 ≤ (wrap64 (Int.tdiv a2 a0))) = false:=decide_eq_false c20
    clear c20
    obtain rfl:=Option.some.inj H
    go_enter Try.func21,Try.ntmps21
    go_wp2
    go_quiet (fail)
    go_wp2
    go_ret
    exact ⟨by first|rfl|(simp;done)|(simp [*];done),by repeat (first|exact Drawn0.refl _|apply Drawn0.step)⟩
 rw [if_neg c16] at H
 have c16b0 : (a3 == 2) = false:=beq_eq_false_iff_ne.mpr c16
 have c16b1 : (a3 != 2) = true:=bne_iff_ne.mpr c16
 by_cases c21 : a3 = 3
 rotate_left
 ·rw [if_neg c21] at H
  have c21b0 : (a3 == 3) = false:=beq_eq_false_iff_ne.mpr c21
  have c21b1 : (a3 != 3) = true:=bne_iff_ne.mpr c21
  by_cases c26 : (Int.tmod a2 a0) < 0
  ·rw [if_pos c26] at H
   have c26b0 : decide ((Int.tmod a2 a0) < 0) = true:=decide_eq_true c26
   clear c26
   obtain rfl:=Option.some.inj H
   go_enter Try.func21,Try.ntmps21
   go_wp2
   go_quiet (fail)
   go_wp2
   go_ret
   exact ⟨by first|rfl|(simp;done)|(simp [*];done),by repeat (first|exact Drawn0.refl _|apply Drawn0.step)⟩
  rw [if_neg c26] at H
  have c26b0 : decide ((Int.tmod a2 a0) < 0) = false:=decide_eq_false c26
  clear c26
  by_cases c27 : (wrap64 (Int.tdiv a2 a0)) < 0
  ·rw [if_pos c27] at H
   have c27b0 : decide ((wrap64 (Int.tdiv a2 a0)) < 0) = true:=decide_eq_true c27
   clear c27
   obtain rfl:=Option.some.inj H
   go_enter Try.func21,Try.ntmps21
   go_wp2
   go_quiet (fail)
   go_wp2
   go_ret
   exact ⟨by first|rfl|(simp;done)|(simp [*];done),by repeat (first|exact Drawn0.refl _|apply Drawn0.step)⟩
  rw [if_neg c27] at H
  have c27b0 : decide ((wrap64 (Int.tdiv a2 a0)) < 0) = false:=decide_eq_false c27
  clear c27
  by_cases c28 : (Int.tmod a2 a0) ≥ a0
  ·rw [if_pos c28] at H
   have c28b0 : decide (a0 ≤ (Int.tmod a2 a0)) = true:=decide_eq_true c28
   clear c28
   obtain rfl:=Option.some.inj H
   go_enter Try.func21,Try.ntmps21
   go_wp2
   go_quiet (fail)
   go_wp2
   go_ret
   exact ⟨by first|rfl|(simp;done)|(simp [*];done),by repeat (first|exact Drawn0.refl _|apply Drawn0.step)⟩
  ·rw [if_neg c28] at H
   have c28b0 : decide (a0 ≤ (Int.tmod a2 a0)) = false:=decide_eq_false c28
   clear c28
   by_cases c29 : (wrap64 (Int.tdiv a2 a0)) ≥ a1
   ·rw [if_pos c29] at H
    have c29b0 : decide (a1 ≤ (wrap64 (Int.tdiv a2 a0))) = true:=decide_eq_true c29
    clear c29
    obtain rfl:=Option.some.inj H
    go_enter Try.func21,Try.ntmps21
    go_wp2
    go_quiet (fail)
    go_wp2
    go_ret
    exact ⟨by first|rfl|(simp;done)|(simp [*];done),by repeat (first|exact Drawn0.refl _|apply Drawn0.step)⟩
   ·rw [if_neg c29] at H
    have c29b0 : decide (a1 ≤ (wrap64 (Int.tdiv a2 a0))) = false:=decide_eq_false c29
    clear c29
    obtain rfl:=Option.some.inj H
    go_enter Try.func21,Try.ntmps21
    go_wp2
    go_quiet (fail)
    go_wp2
    go_ret
    exact ⟨by first|rfl|(simp;done)|(simp [*];done),by repeat (first|exact Drawn0.refl _|apply Drawn0.step)⟩
 rw [if_pos c21] at H
 have c21b0 : (a3 == 3) = true:=beq_iff_eq.mpr c21
 have c21b1 : (a3 != 3) = false:=bne_eq_false_iff_eq.mpr c21
 clear c21
 by_cases c22 : (Int.tmod a2 a0) < 0
 ·rw [if_pos c22] at H
  have c22b0 : decide ((Int.tmod a2 a0) < 0) = true:=decide_eq_true c22
  clear c22
  obtain rfl:=Option.some.inj H
  go_enter Try.func21,Try.ntmps21
  go_wp2
  go_quiet (fail)
  go_wp2
  go_ret
  exact ⟨by first|rfl|(simp;done)|(simp [*];done),by repeat (first|exact Drawn0.refl _|apply Drawn0.step)⟩
 rw [if_neg c22] at H
 have c22b0 : decide ((Int.tmod a2 a0) < 0) = false:=decide_eq_false c22
 clear c22
 by_cases c23 : (wrap64 ((wrap64 (Int.tdiv a2 a0)) - 1)) < 0
 ·rw [if_pos c23] at H
  have c23b0 : decide ((wrap64 ((wrap64 (Int.tdiv a2 a0)) - 1)) < 0) = true:=decide_eq_true c23
  clear c23
  obtain rfl:=Option.some.inj H
  go_enter Try.func21,Try.ntmps21
  go_wp2
  go_quiet (fail)
  go_wp2
  go_ret
  exact ⟨by first|rfl|(simp;done)|(simp [*];done),by repeat (first|exact Drawn0.refl _|apply Drawn0.step)⟩
 rw [if_neg c23] at H
 have c23b0 : decide ((wrap64 ((wrap64 (Int.tdiv a2 a0)) - 1)) < 0) = false:=decide_eq_false c23
 clear c23
 by_cases c24 : (Int.tmod a2 a0) ≥ a0
 ·rw [if_pos c24] at H
  have c24b0 : decide (a0 ≤ (Int.tmod a2 a0)) = true:=decide_eq_true c24
  clear c24
  obtain rfl:=Option.some.inj H
  go_enter Try.func21,Try.ntmps21
  go_wp2
  go_quiet (fail)
  go_wp2
  go_ret
  exact ⟨by first|rfl|(simp;done)|(simp [*];done),by repeat (first|exact Drawn0.refl _|apply Drawn0.step)⟩
 ·rw [if_neg c24] at H
  have c24b0 : decide (a0 ≤ (Int.tmod a2 a0)) = false:=decide_eq_false c24
  clear c24
  by_cases c25 : (wrap64 ((wrap64 (Int.tdiv a2 a0)) - 1)) ≥ a1
  ·rw [if_pos c25] at H
   have c25b0 : decide (a1 ≤ (wrap64 ((wrap64 (Int.tdiv a2 a0)) - 1))) = true:=decide_eq_true c25
   clear c25
   obtain rfl:=Option.some.inj H
   go_enter Try.func21,Try.ntmps21
   go_wp2
   go_quiet (fail)
   go_wp2
   go_ret
   exact ⟨by first|rfl|(simp;done)|(simp [*];done),by repeat (first|exact Drawn0.refl _|apply Drawn0.step)⟩
  ·rw [if_neg c25] at H
   have c25b0 : decide (a1 ≤ (wrap64 ((wrap64 (Int.tdiv a2 a0)) - 1))) = false:=decide_eq_false c25
   clear c25
   obtain rfl:=Option.some.inj H
   go_enter Try.func21,Try.ntmps21
   go_wp2
   go_quiet (fail)
   go_wp2
   go_ret
   exact ⟨by first|rfl|(simp;done)|(simp [*];done),by repeat (first|exact Drawn0.refl _|apply Drawn0.step)⟩

/-! ### road_Go: function 34 -/
def road_Go.l0 : Nat → Int → Int → List Int → List Int → Int → Int → Int → Int → List Int → List Int → Option (List Int × Int)
 | 0,_,_,_,_,_,_,_,_,_,_ => none
 | k + 1,x1,x2,x12,x32,x33,x34,x147000,x147001,x147002,x147003 => if x34 < x33 then (if 0 ≤ x34 then (if x34 < (x32.length : Int) then ((road_next.f x147000 x147001 x147002 x147003 x1 x2).bind fun t155 => (if (t155.length : Int) = 0 then (some (x12,0)) else (if 0 ≤ ((mx (rd x32 x34) 0) % (t155.length : Int)) then (if ((mx (rd x32 x34) 0) % (t155.length : Int)) < (t155.length : Int) then ((road_beyond.f x147000 x147001 x147002 x147003 x1 (rd t155 ((mx (rd x32 x34) 0) % (t155.length : Int)))).bind fun t159 => (if x12.length < 17592186044416 then (road_Go.l0 k t159 (Int.tmod (wrap64 ((rd t155 ((mx (rd x32 x34) 0) % (t155.length : Int))) + 2)) 4) (x12 ++ [t159]) x32 x33 (wrap64 (x34 + 1)) x147000 x147001 x147002 x147003) else (none))) else (none)) else (none)))) else (none)) else (none)) else (some (x12,0))
def road_Go.f (k : Nat) (a0_0 : Int) (a0_1 : Int) (l0_2 : List Int) (l0_3 : List Int) (a1 : Int) (a2 : Int) (l3 : List Int) : Option (List Int × Int) := (road_Next.f k a0_0 a0_1 l0_2 l0_3 a1 a2).bind fun bt147 => (if bt147.2 = 0 then (if (l3.length : Int) > 1000 then (some (([] : List Int), 4)) else (road_Go.l0 k a1 a2 (([a1] : List Int)) l3 (l3.length : Int) 0 a0_0 a0_1 l0_2 l0_3)) else (some (([] : List Int), bt147.2)))
theorem road_Go.mono_l : ∀ k, (∀ y0 y1 y2 y3 y4 y5 y6 y7 y8 y9, LeO (road_Go.l0 k y0 y1 y2 y3 y4 y5 y6 y7 y8 y9) (road_Go.l0 (k + 1) y0 y1 y2 y3 y4 y5 y6 y7 y8 y9))
 | 0 => fun _ _ _ _ _ _ _ _ _ _ r h => by simp [road_Go.l0] at h
 | k + 1 => by
  have ih0:=road_Go.mono_l k
  ·intro y0 y1 y2 y3 y4 y5 y6 y7 y8 y9
   unfold road_Go.l0
   repeat' first
   | (with_reducible exact ih0 _ _ _ _ _ _ _ _ _ _)
   | (with_reducible exact road_Next.mono _ _ _ _ _ _ _)
   | (with_reducible exact LeO.refl _)
   | (with_reducible exact LeO.none _)
   | (with_reducible refine LeO.ite ?_ ?_)
   | (with_reducible refine LeO.bind ?_ (fun _ => ?_))
   | exact ih0 _ _ _ _ _ _ _ _ _ _
   | exact road_Next.mono _ _ _ _ _ _ _
   | exact LeO.none _
   | refine LeO.ite ?_ ?_
   | refine LeO.bind ?_ (fun _ => ?_)
theorem road_Go.mono : ∀ a0 a1 a2 a3 a4 a5 a6 k, LeO (road_Go.f k a0 a1 a2 a3 a4 a5 a6) (road_Go.f (k + 1) a0 a1 a2 a3 a4 a5 a6) := by
 intro a0 a1 a2 a3 a4 a5 a6 k
 have ih0:=road_Go.mono_l k
 unfold road_Go.f
 repeat' first
   | (with_reducible exact ih0 _ _ _ _ _ _ _ _ _ _)
   | (with_reducible exact road_Next.mono _ _ _ _ _ _ _)
   | (with_reducible exact LeO.refl _)
   | (with_reducible exact LeO.none _)
   | (with_reducible refine LeO.ite ?_ ?_)
   | (with_reducible refine LeO.bind ?_ (fun _ => ?_))
   | exact ih0 _ _ _ _ _ _ _ _ _ _
   | exact road_Next.mono _ _ _ _ _ _ _
   | exact LeO.none _
   | refine LeO.ite ?_ ?_
   | refine LeO.bind ?_ (fun _ => ?_)
set_option maxHeartbeats 8000000 in
set_option maxRecDepth 100000 in
theorem road_Go.calls (k : Nat) (a0_0 : Int) (a0_1 : Int) (A0_2 : Option Addr) (c0_2 : Nat) (l0_2 : List Int) (A0_3 : Option Addr) (c0_3 : Nat) (l0_3 : List Int) (a1 : Int) (a2 : Int) (A3 : Option Addr) (c3 : Nat) (l3 : List Int) (r1 : List Int) (r2 : Int) (w : World) (hr0_2 : Kd.C (Kd.int .i64) w A0_2 l0_2.length l0_2) (hc0_2 : l0_2.length ≤ c0_2) (hr0_3 : Kd.C (Kd.int .i64) w A0_3 l0_3.length l0_3) (hc0_3 : l0_3.length ≤ c0_3) (hr3 : Kd.C (Kd.int .i64) w A3 l3.length l3) (hc3 : l3.length ≤ c3) (h : road_Go.f k a0_0 a0_1 l0_2 l0_3 a1 a2 l3 = some (r1, r2)) :
  Calls Try.prog 34 #[.agg #[.int .i64 a0_0,.int .i64 a0_1,.slice A0_2 l0_2.length c0_2,.slice A0_3 l0_3.length c0_3],.int .i64 a1,.int .i64 a2,.slice A3 l3.length c3] w fun e w' => ∃ v0_ : Value,e = .returned (.tuple #[v0_,.int .i64 r2]) ∧ Kd.R (Kd.int .i64) 3 w' w.heap.size (fun _ => True) v0_ r1 ∧ Below w.heap.size w w':=by
 have hu24:=Try.underlying24
 have HR0_2:=Aside0.mk hr0_2
 have HC0_2:=Aside0.mk hc0_2
 clear hr0_2 hc0_2
 have HR0_3:=Aside0.mk hr0_3
 have HC0_3:=Aside0.mk hc0_3
 clear hr0_3 hc0_3
 have HR3:=Aside0.mk hr3
 have HC3:=Aside0.mk hc3
 clear hr3 hc3
 have HB:=Aside0.mk (Below.refl w.heap.size w)
 have H : ((road_Next.f k a0_0 a0_1 l0_2 l0_3 a1 a2).bind fun bt147 => (if bt147.2 = 0 then (if (l3.length : Int) > 1000 then (some (([] : List Int),4)) else (road_Go.l0 k a1 a2 (([a1] : List Int)) l3 (l3.length : Int) 0 a0_0 a0_1 l0_2 l0_3)) else (some (([] : List Int),bt147.2)))) = some (r1,r2):=h
 clear h
 replace H:=Option.bind_eq_some_iff.mp H
 obtain ⟨⟨t147,t150⟩,A50,H⟩:=H
 replace H : (if t150 = 0 then (if (l3.length : Int) > 1000 then (some (([] : List Int),4)) else (road_Go.l0 k a1 a2 (([a1] : List Int)) l3 (l3.length : Int) 0 a0_0 a0_1 l0_2 l0_3)) else (some (([] : List Int),t150))) = some (r1,r2):=H
 have A5:=Aside0.mk A50
 clear A50
 by_cases c6 : t150 = 0
 rotate_left
 ·rw [if_neg c6] at H
  have c6b0 : (t150 == 0) = false:=beq_eq_false_iff_ne.mpr c6
  have c6b1 : (t150 != 0) = true:=bne_iff_ne.mpr c6
  simp only [Option.some.injEq,Prod.mk.injEq] at H
  obtain ⟨rfl,rfl⟩:=H
  go_enter Try.func34,Try.ntmps34
  go_wp2_with (first|((with_reducible refine gate_dst (N:=4) rfl ?_);refine box_ev (N:=4) (cs:=#[.int .i64 a0_0,.int .i64 a0_1,.slice A0_2 l0_2.length c0_2,.slice A0_3 l0_3.length c0_3]) (t:=24) ?_;intro gb146 hg w36 hbox hb;have BK146:=Aside0.mk (hbox);have GW146 : Aside0 (w.heap.size ≤ gb146):=gsz hg;have GE146:=GW146;replace HB:=Aside0.mk (below_step (hb_) hb);clear hb hbox hg;obtain ⟨hcz37_0,hcz37_1,hcz37_2,hcz37_3,hfz37_0,hfz37_1,hfz37_2,hfz37_3⟩:=cells4 BK146.out)|((with_reducible refine gate_callee (f:=22) rfl ?_);refine goesL_ (some 21) rfl rfl Try.func22 (by kernel_rfl) rfl #[.agg #[.int .i64 a0_0,.int .i64 a0_1,.slice A0_2 l0_2.length c0_2,.slice A0_3 l0_3.length c0_3],.int .i64 a1,.int .i64 a2] rfl (by (try simp only [List.map_toArray,List.map_cons,List.map_nil]);first|done|rfl|(simp only [List.length_drop,List.length_take];rfl)) ?_;(with_reducible refine (road_Next.calls k a0_0 a0_1 _ _ l0_2 _ _ l0_3 a1 a2 t147 t150 _ ?side1 ?side2 ?side3 ?side4 A5.out).mono ?_);(case side1 => exact Kd.C_up (Kd.C_below HR0_2.out HB.out));(case side2 => exact HC0_2.out);(case side3 => exact Kd.C_up (Kd.C_below HR0_3.out HB.out));(case side4 => exact HC0_3.out);rintro e w38 ⟨v148,rfl,ho0,hb⟩;refine ⟨_,rfl,?_⟩;have HO149:=rlo ho0;replace BK146:=bkb BK146 hb;replace HB:=Aside0.mk (below_step (hb_) hb)))
  go_ret2
  exact ⟨_,by first|rfl|(simp [errW_none,errW_some] <;> rfl)|(simp [*,errW_none,errW_some] <;> rfl),by first|exact Kd.R_nil _ _ _ _ _|exact Kd.N_nil _ _ _ _ _|exact Kd.V_nil _ _ _ _ _|exact Kd.Q_nil _ _ _ _ _|exact Kd.S_nil _ _ _ _ _,hb_⟩
 rw [if_pos c6] at H
 have c6b0 : (t150 == 0) = true:=beq_iff_eq.mpr c6
 have c6b1 : (t150 != 0) = false:=bne_eq_false_iff_eq.mpr c6
 clear c6
 by_cases c7 : (l3.length : Int) > 1000
 ·rw [if_pos c7] at H
  have c7b0 : decide (1000 < (l3.length : Int)) = true:=decide_eq_true c7
  have c7b1 : decide (1000 < l3.length) = true:=decide_eq_true (by omega)
  clear c7
  simp only [Option.some.injEq,Prod.mk.injEq] at H
  obtain ⟨rfl,rfl⟩:=H
  go_enter Try.func34,Try.ntmps34
  go_wp2_with (first|((with_reducible refine gate_dst (N:=4) rfl ?_);refine box_ev (N:=4) (cs:=#[.int .i64 a0_0,.int .i64 a0_1,.slice A0_2 l0_2.length c0_2,.slice A0_3 l0_3.length c0_3]) (t:=24) ?_;intro gb146 hg w8 hbox hb;have BK146:=Aside0.mk (hbox);have GW146 : Aside0 (w.heap.size ≤ gb146):=gsz hg;have GE146:=GW146;replace HB:=Aside0.mk (below_step (hb_) hb);clear hb hbox hg;obtain ⟨hcz9_0,hcz9_1,hcz9_2,hcz9_3,hfz9_0,hfz9_1,hfz9_2,hfz9_3⟩:=cells4 BK146.out)|((with_reducible refine gate_callee (f:=22) rfl ?_);refine goesL_ (some 21) rfl rfl Try.func22 (by kernel_rfl) rfl #[.agg #[.int .i64 a0_0,.int .i64 a0_1,.slice A0_2 l0_2.length c0_2,.slice A0_3 l0_3.length c0_3],.int .i64 a1,.int .i64 a2] rfl (by (try simp only [List.map_toArray,List.map_cons,List.map_nil]);first|done|rfl|(simp only [List.length_drop,List.length_take];rfl)) ?_;(with_reducible refine (road_Next.calls k a0_0 a0_1 _ _ l0_2 _ _ l0_3 a1 a2 t147 t150 _ ?side1 ?side2 ?side3 ?side4 A5.out).mono ?_);(case side1 => exact Kd.C_up (Kd.C_below HR0_2.out HB.out));(case side2 => exact HC0_2.out);(case side3 => exact Kd.C_up (Kd.C_below HR0_3.out HB.out));(case side4 => exact HC0_3.out);rintro e w10 ⟨v148,rfl,ho0,hb⟩;refine ⟨_,rfl,?_⟩;have HO149:=rlo ho0;replace BK146:=bkb BK146 hb;replace HB:=Aside0.mk (below_step (hb_) hb)))
  go_ret2
  exact ⟨_,by first|rfl|(simp [errW_none,errW_some] <;> rfl)|(simp [*,errW_none,errW_some] <;> rfl),by first|exact Kd.R_nil _ _ _ _ _|exact Kd.N_nil _ _ _ _ _|exact Kd.V_nil _ _ _ _ _|exact Kd.Q_nil _ _ _ _ _|exact Kd.S_nil _ _ _ _ _,hb_⟩
 rw [if_neg c7] at H
 have c7b0 : decide (1000 < (l3.length : Int)) = false:=decide_eq_false c7
 have c7b1 : decide (1000 < l3.length) = false:=decide_eq_false (by omega)
 clear c7
 obtain ⟨y151,hy151⟩ : ∃ y_ : List Int,y_ = (([a1] : List Int)):=⟨_,rfl⟩
 replace H : (road_Go.l0 k a1 a2 y151 l3 (l3.length : Int) 0 a0_0 a0_1 l0_2 l0_3) = some (r1,r2):=by first|(rw [hy151];with_reducible exact H)|(have H2_:=(Option.bind_some _ _).symm.trans H;rw [hy151];with_reducible exact H2_)|(have H2_:=(Option.bind_some _ _).symm.trans H;with_reducible exact H2_)|with_reducible exact H|(rw [hy151];exact H)|exact H
 have Ny151:=Aside0.mk hy151
 clear hy151
 have H':=Aside0.mk H
 clear H
 go_enter Try.func34,Try.ntmps34
 go_wp2_with (first|((with_reducible refine gate_dst (N:=4) rfl ?_);refine box_ev (N:=4) (cs:=#[.int .i64 a0_0,.int .i64 a0_1,.slice A0_2 l0_2.length c0_2,.slice A0_3 l0_3.length c0_3]) (t:=24) ?_;intro gb146 hg w11 hbox hb;have BK146:=Aside0.mk (hbox);have GW146 : Aside0 (w.heap.size ≤ gb146):=gsz hg;have GE146:=GW146;replace HB:=Aside0.mk (below_step (hb_) hb);clear hb hbox hg;obtain ⟨hcz12_0,hcz12_1,hcz12_2,hcz12_3,hfz12_0,hfz12_1,hfz12_2,hfz12_3⟩:=cells4 BK146.out)|((with_reducible refine gate_callee (f:=22) rfl ?_);refine goesL_ (some 21) rfl rfl Try.func22 (by kernel_rfl) rfl #[.agg #[.int .i64 a0_0,.int .i64 a0_1,.slice A0_2 l0_2.length c0_2,.slice A0_3 l0_3.length c0_3],.int .i64 a1,.int .i64 a2] rfl (by (try simp only [List.map_toArray,List.map_cons,List.map_nil]);first|done|rfl|(simp only [List.length_drop,List.length_take];rfl)) ?_;(with_reducible refine (road_Next.calls k a0_0 a0_1 _ _ l0_2 _ _ l0_3 a1 a2 t147 t150 _ ?side1 ?side2 ?side3 ?side4 A5.out).mono ?_);(case side1 => exact Kd.C_up (Kd.C_below HR0_2.out HB.out));(case side2 => exact HC0_2.out);(case side3 => exact Kd.C_up (Kd.C_below HR0_3.out HB.out));(case side4 => exact HC0_3.out);rintro e w13 ⟨v148,rfl,ho0,hb⟩;refine ⟨_,rfl,?_⟩;have HO149:=rlo ho0;replace BK146:=bkb BK146 hb;replace HB:=Aside0.mk (below_step (hb_) hb))|((with_reducible refine gate_dst (N:=31) rfl ?_);refine Kd.R_lit (Kd.int .i64) _ 3 ?hg (N:=31) ?hd (xs:=([a1] : List Int)) (inner:=[.int .i64 a1]) (ok:=fun _ => True) (okp:=fun _ => True) ?hr ?hp (fun _ hk => hk) trivial (Below.refl _ _) (Nat.le_refl _) (by simp) ?_;(case hd => rfl);(case hg => rfl);(case hr => first|(go_simp;done)|(go_simp;rfl));(case hp => exact (Reps.one (show Kd.M (Kd.int .i64) _ _ _ a1 [.int .i64 a1] from rfl) (Reps.none _ _)));intro v152 w14 ho15 hb hg_ hnew_;clear hg_ hnew_;(first|rw [← Ny151.out] at ho15|(simp only [Int.reduceToNat] at ho15;rw [← Ny151.out] at ho15));have HO153:=Aside0.mk (Kd.R_lower (Kd.R_new' ho15 (Kd.R_lt (Kd.R_up HO149.out))) (below_size (hb_)));replace HO149:=Aside0.mk (Kd.R_elder' (Kd.R_up HO149.out) (Kd.R_base ho15) hb);replace BK146:=bkb BK146 hb;replace HB:=Aside0.mk (below_step (hb_) hb);clear hb ho15))
 go_loopg [1,2,12,34] k (fun kq v1 v2 v12 v34 w' => ∃ (x1_1 : Int) (x2_1 : Int) (x12_1 : List Int) (x34_1 : Int),v1 = .int .i64 x1_1 ∧ v2 = .int .i64 x2_1 ∧ v34 = .int .i64 x34_1 ∧ Aside0 (road_Go.l0 kq x1_1 x2_1 x12_1 l3 (l3.length : Int) x34_1 a0_0 a0_1 l0_2 l0_3 = some (r1,r2)) ∧ Aside0 (kq ≤ k) ∧ Aside0 (Kd.R (Kd.int .i64) 3 w' w.heap.size (fun _ => True) v12 x12_1) ∧ Aside0 (w'.heap[gb146]? = some (.cells #[.int .i64 a0_0,.int .i64 a0_1,(.slice A0_2 l0_2.length c0_2),(.slice A0_3 l0_3.length c0_3)] 24 (0,0))) ∧ Aside0 (Below w.heap.size w w'))
 case atStart => exact ⟨(a1),(a2),(y151),(0),(by first|rfl|(simp;done)|(simp [*];done)),(by first|rfl|(simp;done)|(simp [*];done)),(by first|rfl|(simp;done)|(simp [*];done)),H',⟨Nat.le_refl _⟩,⟨by (with_reducible repeat (first|apply Kd.R_alloc|apply Kd.R_drewN|apply Kd.R_drew));exact Kd.R_mono HO153.out (fun _ hk => trivial)⟩,⟨blk_up BK146.out⟩,⟨hb_⟩⟩
 case round =>
  clear H'
  obtain ⟨x1_1,x2_1,x12_1,x34_1,rfl,rfl,rfl,HA,HK1,HO_12,BK146,HB⟩:=hrel
  cases gk with
  | zero => exact absurd HA.out (by simp [road_Go.l0])
  | succ k1 =>
   have H:=HA.out
   clear HA
   simp only [road_Go.l0] at H
   by_cases c16 : x34_1 < (l3.length : Int)
   rotate_left
   ·rw [if_neg c16] at H
    have c16b0 : decide (x34_1 < (l3.length : Int)) = false:=decide_eq_false c16
    clear c16
    simp only [Option.some.injEq,Prod.mk.injEq] at H
    obtain ⟨rfl,rfl⟩:=H
    go_wp2
    go_ret2
    exact ⟨_,by first|rfl|(simp [errW_none,errW_some] <;> rfl)|(simp [*,errW_none,errW_some] <;> rfl),Kd.R_up HO_12.out,hb_⟩
   rw [if_pos c16] at H
   have c16b0 : decide (x34_1 < (l3.length : Int)) = true:=decide_eq_true c16
   clear c16
   replace H:=ifp_ H;obtain ⟨c17,H⟩:=H
   have c17b0 : decide (0 ≤ x34_1) = true:=decide_eq_true c17
   clear c17
   replace H:=ifp_ H;obtain ⟨c18,H⟩:=H
   have c18b0 : decide (x34_1 < (l3.length : Int)) = true:=decide_eq_true c18
   clear c18
   replace H:=Option.bind_eq_some_iff.mp H
   obtain ⟨t155,A190,H⟩:=H
   replace H : (if (t155.length : Int) = 0 then (some (x12_1,0)) else (if 0 ≤ ((mx (rd l3 x34_1) 0) % (t155.length : Int)) then (if ((mx (rd l3 x34_1) 0) % (t155.length : Int)) < (t155.length : Int) then ((road_beyond.f a0_0 a0_1 l0_2 l0_3 x1_1 (rd t155 ((mx (rd l3 x34_1) 0) % (t155.length : Int)))).bind fun t159 => (if x12_1.length < 17592186044416 then (road_Go.l0 k1 t159 (Int.tmod (wrap64 ((rd t155 ((mx (rd l3 x34_1) 0) % (t155.length : Int))) + 2)) 4) (x12_1 ++ [t159]) l3 (l3.length : Int) (wrap64 (x34_1 + 1)) a0_0 a0_1 l0_2 l0_3) else (none))) else (none)) else (none))) = some (r1,r2):=H
   have A19:=Aside0.mk A190
   clear A190
   by_cases c20 : (t155.length : Int) = 0
   ·rw [if_pos c20] at H
    have c20b0 : ((t155.length : Int) == 0) = true:=beq_iff_eq.mpr c20
    have c20b1 : ((t155.length : Int) != 0) = false:=bne_eq_false_iff_eq.mpr c20
    clear c20
    simp only [Option.some.injEq,Prod.mk.injEq] at H
    obtain ⟨rfl,rfl⟩:=H
    have p154 : 0 ≤ (x34_1 : Int):=of_decide_eq_true (by first|(with_reducible assumption)|assumption)
    have q154 : x34_1 < (l3.length : Int):=of_decide_eq_true (by first|(with_reducible assumption)|assumption)
    obtain ⟨ad154,e154,hx154_0⟩:=Kd.at_int HR3.out x34_1 p154 q154
    cases e154
    replace hx154_0:=(HB.out.cell (World.block_lt_of_cell? w _ hx154_0)).trans hx154_0
    replace p154:=eq_true p154
    replace q154:=eq_true q154
    obtain ⟨hcz21_0,hcz21_1,hcz21_2,hcz21_3,hfz21_0,hfz21_1,hfz21_2,hfz21_3⟩:=cells4 BK146.out
    go_wp2_with (first|((with_reducible refine gate_callee (f:=43) rfl ?_);refine goesL_ (some 41) rfl rfl Try.func43 (by kernel_rfl) rfl #[.agg #[.int .i64 a0_0,.int .i64 a0_1,.slice A0_2 l0_2.length c0_2,.slice A0_3 l0_3.length c0_3],.int .i64 x1_1,.int .i64 x2_1] rfl (by (try simp only [List.map_toArray,List.map_cons,List.map_nil]);first|done|rfl|(simp only [List.length_drop,List.length_take];rfl)) ?_;(with_reducible refine (road_next.calls a0_0 a0_1 _ _ l0_2 _ _ l0_3 x1_1 x2_1 t155 _ ?side1 ?side2 ?side3 ?side4 A19.out).mono ?_);(case side1 => exact Kd.C_up (Kd.C_below HR0_2.out HB.out));(case side2 => exact HC0_2.out);(case side3 => exact Kd.C_up (Kd.C_below HR0_3.out HB.out));(case side4 => exact HC0_3.out);rintro e w22 ⟨v156,rfl,ho0,hb⟩;refine ⟨_,rfl,?_⟩;have HO157:=Aside0.mk (Kd.R_lower (Kd.R_new' ho0 (Kd.R_lt (Kd.R_up HO_12.out))) (below_size (hb_)));replace HO_12:=Aside0.mk (Kd.R_elder' (Kd.R_up HO_12.out) (Kd.R_base ho0) hb);replace BK146:=bkb BK146 hb;replace HB:=Aside0.mk (below_step (hb_) hb);obtain ⟨Ao23,co23,eo23⟩:=Kd.R_slice HO157.out;subst eo23))
    go_ret2
    exact ⟨_,by first|rfl|(simp [errW_none,errW_some] <;> rfl)|(simp [*,errW_none,errW_some] <;> rfl),by (with_reducible repeat (first|apply Kd.R_alloc|apply Kd.R_drewN|apply Kd.R_drew));exact Kd.R_mono HO_12.out (fun _ hk => trivial),hb_⟩
   rw [if_neg c20] at H
   have c20b0 : ((t155.length : Int) == 0) = false:=beq_eq_false_iff_ne.mpr c20
   have c20b1 : ((t155.length : Int) != 0) = true:=bne_iff_ne.mpr c20
   have c20b2 : ¬ (t155 = []):=fun h_ => c20 (by rw [h_];rfl)
   obtain ⟨ji24,hji24⟩ : ∃ j_ : Int,(mx (rd l3 x34_1) 0) = j_:=⟨_,rfl⟩
   replace H : (if 0 ≤ ((ji24) % (t155.length : Int)) then (if ((ji24) % (t155.length : Int)) < (t155.length : Int) then ((road_beyond.f a0_0 a0_1 l0_2 l0_3 x1_1 (rd t155 ((ji24) % (t155.length : Int)))).bind fun t159 => (if x12_1.length < 17592186044416 then (road_Go.l0 k1 t159 (Int.tmod (wrap64 ((rd t155 ((ji24) % (t155.length : Int))) + 2)) 4) (x12_1 ++ [t159]) l3 (l3.length : Int) (wrap64 (x34_1 + 1)) a0_0 a0_1 l0_2 l0_3) else (none))) else (none)) else (none)) = some (r1,r2):=by first|(rw [hji24] at H;exact H)|(simp only [hji24] at H ⊢;exact H)
   (try rw [hji24] at A19)
   have hji24_ : (if (rd l3 x34_1) < 0 then 0 else (rd l3 x34_1)) = ji24:=hji24
   obtain ⟨ji25,hji25⟩ : ∃ j_ : Int,((ji24) % (t155.length : Int)) = j_:=⟨_,rfl⟩
   replace H : (if 0 ≤ (ji25) then (if (ji25) < (t155.length : Int) then ((road_beyond.f a0_0 a0_1 l0_2 l0_3 x1_1 (rd t155 (ji25))).bind fun t159 => (if x12_1.length < 17592186044416 then (road_Go.l0 k1 t159 (Int.tmod (wrap64 ((rd t155 (ji25)) + 2)) 4) (x12_1 ++ [t159]) l3 (l3.length : Int) (wrap64 (x34_1 + 1)) a0_0 a0_1 l0_2 l0_3) else (none))) else (none)) else (none)) = some (r1,r2):=by first|(rw [hji25] at H;exact H)|(simp only [hji25] at H ⊢;exact H)
   (try rw [hji25] at A19)
   replace H:=ifp_ H;obtain ⟨c26,H⟩:=H
   have c26b0 : decide (0 ≤ (ji25)) = true:=decide_eq_true c26
   clear c26
   replace H:=ifp_ H;obtain ⟨c27,H⟩:=H
   have c27b0 : decide ((ji25) < (t155.length : Int)) = true:=decide_eq_true c27
   clear c27
   replace H:=Option.bind_eq_some_iff.mp H
   obtain ⟨t159,A280,H⟩:=H
   replace H : (if x12_1.length < 17592186044416 then (road_Go.l0 k1 t159 (Int.tmod (wrap64 ((rd t155 (ji25)) + 2)) 4) (x12_1 ++ [t159]) l3 (l3.length : Int) (wrap64 (x34_1 + 1)) a0_0 a0_1 l0_2 l0_3) else (none)) = some (r1,r2):=H
   have A28:=Aside0.mk A280
   clear A280
   replace H:=ifp_ H;obtain ⟨c29,H⟩:=H
   have LMc29:=Aside0.mk c29
   clear c29
   obtain ⟨y160,hy160⟩ : ∃ y_ : List Int,y_ = (x12_1 ++ [t159]):=⟨_,rfl⟩
   replace H : (road_Go.l0 k1 t159 (Int.tmod (wrap64 ((rd t155 (ji25)) + 2)) 4) y160 l3 (l3.length : Int) (wrap64 (x34_1 + 1)) a0_0 a0_1 l0_2 l0_3) = some (r1,r2):=by first|(rw [hy160];with_reducible exact H)|(have H2_:=(Option.bind_some _ _).symm.trans H;rw [hy160];with_reducible exact H2_)|(have H2_:=(Option.bind_some _ _).symm.trans H;with_reducible exact H2_)|with_reducible exact H|(rw [hy160];exact H)|exact H
   have Ny160:=Aside0.mk hy160
   clear hy160
   have H':=Aside0.mk H
   clear H
   have p154 : 0 ≤ (x34_1 : Int):=of_decide_eq_true (by first|(with_reducible assumption)|assumption)
   have q154 : x34_1 < (l3.length : Int):=of_decide_eq_true (by first|(with_reducible assumption)|assumption)
   obtain ⟨ad154,e154,hx154_0⟩:=Kd.at_int HR3.out x34_1 p154 q154
   cases e154
   replace hx154_0:=(HB.out.cell (World.block_lt_of_cell? w _ hx154_0)).trans hx154_0
   replace p154:=eq_true p154
   replace q154:=eq_true q154
   obtain ⟨hcz30_0,hcz30_1,hcz30_2,hcz30_3,hfz30_0,hfz30_1,hfz30_2,hfz30_3⟩:=cells4 BK146.out
   go_wp2_with (first|((with_reducible refine gate_callee (f:=43) rfl ?_);refine goesL_ (some 41) rfl rfl Try.func43 (by kernel_rfl) rfl #[.agg #[.int .i64 a0_0,.int .i64 a0_1,.slice A0_2 l0_2.length c0_2,.slice A0_3 l0_3.length c0_3],.int .i64 x1_1,.int .i64 x2_1] rfl (by (try simp only [List.map_toArray,List.map_cons,List.map_nil]);first|done|rfl|(simp only [List.length_drop,List.length_take];rfl)) ?_;(with_reducible refine (road_next.calls a0_0 a0_1 _ _ l0_2 _ _ l0_3 x1_1 x2_1 t155 _ ?side1 ?side2 ?side3 ?side4 A19.out).mono ?_);(case side1 => exact Kd.C_up (Kd.C_below HR0_2.out HB.out));(case side2 => exact HC0_2.out);(case side3 => exact Kd.C_up (Kd.C_below HR0_3.out HB.out));(case side4 => exact HC0_3.out);rintro e w31 ⟨v156,rfl,ho0,hb⟩;refine ⟨_,rfl,?_⟩;have HO157:=Aside0.mk (Kd.R_lower (Kd.R_new' ho0 (Kd.R_lt (Kd.R_up HO_12.out))) (below_size (hb_)));replace HO_12:=Aside0.mk (Kd.R_elder' (Kd.R_up HO_12.out) (Kd.R_base ho0) hb);replace BK146:=bkb BK146 hb;replace HB:=Aside0.mk (below_step (hb_) hb);obtain ⟨Ao32,co32,eo32⟩:=Kd.R_slice HO157.out;subst eo32;have p158 : 0 ≤ ((ji25) : Int):=of_decide_eq_true (by first|(with_reducible assumption)|assumption);have q158 : (ji25) < (t155.length : Int):=of_decide_eq_true (by first|(with_reducible assumption)|assumption);obtain ⟨ad158,e158,hx158_0⟩:=Kd.at_int (Kd.R_reads' HO157.out).2.2 (ji25) p158 q158;cases e158;replace p158:=eq_true p158;replace q158:=eq_true q158;obtain ⟨hcz33_0,hcz33_1,hcz33_2,hcz33_3,hfz33_0,hfz33_1,hfz33_2,hfz33_3⟩:=cells4 BK146.out)|((with_reducible refine gate_callee (f:=51) rfl ?_);refine goesL_ (some 56) rfl rfl Try.func51 (by kernel_rfl) rfl #[.agg #[.int .i64 a0_0,.int .i64 a0_1,.slice A0_2 l0_2.length c0_2,.slice A0_3 l0_3.length c0_3],.int .i64 x1_1,.int .i64 (rd t155 (ji25))] rfl (by (try simp only [List.map_toArray,List.map_cons,List.map_nil]);first|done|(simp only [hji25];rfl)|rfl|(simp only [List.length_drop,List.length_take];rfl)) ?_;(with_reducible refine (road_beyond.calls a0_0 a0_1 _ _ l0_2 _ _ l0_3 x1_1 (rd t155 (ji25)) t159 _ ?side1 ?side2 ?side3 ?side4 A28.out).mono ?_);(case side1 => exact Kd.C_up (Kd.C_below HR0_2.out HB.out));(case side2 => exact HC0_2.out);(case side3 => exact Kd.C_up (Kd.C_below HR0_3.out HB.out));(case side4 => exact HC0_3.out);rintro e w34 ⟨rfl,hb⟩;refine ⟨_,rfl,?_⟩;replace HO_12:=rbw HO_12 hb;replace HO157:=rbw HO157 hb;replace BK146:=bkb BK146 hb;replace HB:=Aside0.mk (below_step (hb_) hb))|((with_reducible refine gate_builtin (b:=.append) (xs:=#[.tmp 60,.tmp 62]) rfl ?_);at_builtin;refine Kd.R_append (Kd.int .i64) (w0:=w) w.heap.size rfl (.tmp 60) (.tmp 62) 22 3 (.int .i64 0) 8 rfl Try.underlying22 info3 rfl (by decide) (by omega) u12 x12_1 t159 [.int .i64 t159] (fun k_ => some k_ ≠ (.slice (some ad158) t155.length co32 : Value).ownBlock) (fun _ => False) rfl rfl ?aP (fun _ hk => hk.elim) ?aF ?aO ?aB ?aS ?aL ?_;(case aP => exact rfl);(case aB => exact (hb_));(case aF => exact (fun k_ hk => Kd.fresh' (Kd.R_lt (Kd.R_up HO157.out)) k_ hk));(case aO => exact (by (with_reducible repeat (first|apply Kd.R_alloc|apply Kd.R_drewN|apply Kd.R_drew));exact Kd.R_mono HO_12.out (fun _ hk => hk.2)));(case aS => exact (below_size (hb_)));(case aL => have:=LMc29.out;omega);intro v161 w35 ho hb hg hat;rw [← Ny160.out] at ho;have HO162:=Aside0.mk (ho);replace BK146:=Aside0.mk (blk_grown (blk_up BK146.out) hg (Kd.R_ne HO_12.out BK146.out (by decide)));replace HO157:=Aside0.mk (Kd.R_after (ok:=(fun _ => True)) (Kd.R_up HO157.out) hg hat);replace HB:=Aside0.mk (hb);clear HO_12;clear ho hb hg hat))
   go_roundg k1
   case measure => have:=HK1.out;omega
   case rel => exact ⟨(t159),(Int.tmod (wrap64 ((rd t155 (ji25)) + 2)) 4),(y160),(wrap64 (x34_1 + 1)),(by first|rfl|(simp;done)|(simp [*];done)),(by first|rfl|(simp;done)|(simp only [← hji25] <;> (first|rfl|simp))|(simp [*];done)),(by first|rfl|(simp;done)|(simp [*];done)),H',⟨by have:=HK1.out;omega⟩,⟨by (with_reducible repeat (first|apply Kd.R_alloc|apply Kd.R_drewN|apply Kd.R_drew));exact Kd.R_mono HO162.out (fun _ hk => trivial)⟩,⟨blk_up BK146.out⟩,⟨hb_⟩⟩

end Go.Proofs.Ytbdekjjdojbokaa.P

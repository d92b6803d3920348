/- Functions of this seat as plain Lean functions, with proofs that the Go code comes to just their answers, or what stands between them and a law's statement; no conditions. (Laid by a program of this session, out of the kit's print.) -/
import Derived.Test.YthjmdpekcleihaaPx0
import Derived.Test.YthjmdpekcleihaaPx3
import Derived.Test.YthjmdpekcleihaaPx16
namespace Go.Proofs.Ythjmdpekcleihaa.P
open Go.RowKit Go.Proofs.YthjmdpekcleihaaW.PrintWords Go.Proofs.YthjmdpekcleihaaW.PrintLast Go.Proofs.YthjmdpekcleihaaW.PrintMore
attribute [local go_sem] max2_int min2_int max_two min_two max_three min_three max_four min_four   -- for this text's walks alone
set_option linter.unusedVariables false
set_option linter.unusedSimpArgs false

/-! ### lane_Validate: function 18 -/
mutual
def lane_Validate.l0 : Nat → Int → Int → Int → Int → List Int → List Int → List Int → List (S50) → Option (Int)
 | 0,_,_,_,_,_,_,_,_ => none
 | k + 1,x19,x20,x267000,x267001,x267002,x267003,x267004,x267005 => if x20 < x19 then (if x20 > 0 then (if 0 ≤ (wrap64 (x20 - 1)) then (if (wrap64 (x20 - 1)) < (x267004.length : Int) then (if 0 ≤ x20 then (if x20 < (x267004.length : Int) then (if (rd x267004 (wrap64 (x20 - 1))) ≥ (rd x267004 x20) then (some 1) else (lane_Validate.l0 k x19 (wrap64 (x20 + 1)) x267000 x267001 x267002 x267003 x267004 x267005)) else (none)) else (none)) else (none)) else (none)) else (lane_Validate.l0 k x19 (wrap64 (x20 + 1)) x267000 x267001 x267002 x267003 x267004 x267005)) else (lane_Validate.l1 k x267005 (x267005.length : Int) 0 x267000 x267001 x267002 x267003 x267004 x267005)
def lane_Validate.l1 : Nat → List (S50) → Int → Int → Int → Int → List Int → List Int → List Int → List (S50) → Option (Int)
 | 0,_,_,_,_,_,_,_,_,_ => none
 | k + 1,x41,x42,x43,x267000,x267001,x267002,x267003,x267004,x267005 => if x43 < x42 then (if 0 ≤ x43 then (if x43 < (x41.length : Int) then ((lane_moves.f ((rd_T50 x41 x43).f0) ((rd_T50 x41 x43).f1) ((rd_T50 x41 x43).f2) ((rd_T50 x41 x43).f3) ((rd_T50 x41 x43).f4)).bind fun t272 => (if t272 = true then (lane_Validate.l1 k x41 x42 (wrap64 (x43 + 1)) x267000 x267001 x267002 x267003 x267004 x267005) else (some 1))) else (none)) else (none)) else ((lane_stand.f k x267000 x267001 x267002 x267003 x267004 x267005).bind fun t273 => (some t273))
end
def lane_Validate.f (k : Nat) (a0_0 : Int) (a0_1 : Int) (l0_2 : List Int) (l0_3 : List Int) (l0_4 : List Int) (l0_5 : List (S50)) : Option (Int) := (road_Validate.f k a0_0 a0_1 l0_2 l0_3).bind fun t267 => (if t267 = 0 then (if (l0_5.length : Int) > 60 then (some 4) else (lane_Validate.l0 k (l0_4.length : Int) 0 a0_0 a0_1 l0_2 l0_3 l0_4 l0_5)) else (some t267))
theorem lane_Validate.mono_l : ∀ k, (∀ y0 y1 y2 y3 y4 y5 y6 y7, LeO (lane_Validate.l0 k y0 y1 y2 y3 y4 y5 y6 y7) (lane_Validate.l0 (k + 1) y0 y1 y2 y3 y4 y5 y6 y7)) ∧ (∀ y0 y1 y2 y3 y4 y5 y6 y7 y8, LeO (lane_Validate.l1 k y0 y1 y2 y3 y4 y5 y6 y7 y8) (lane_Validate.l1 (k + 1) y0 y1 y2 y3 y4 y5 y6 y7 y8))
 | 0 => ⟨fun _ _ _ _ _ _ _ _ r h => by simp [lane_Validate.l0] at h,fun _ _ _ _ _ _ _ _ _ r h => by simp [lane_Validate.l1] at h⟩
 | k + 1 => by
  obtain ⟨ih0,ih1⟩:=lane_Validate.mono_l k
  refine ⟨?_,?_⟩
  ·intro y0 y1 y2 y3 y4 y5 y6 y7
   unfold lane_Validate.l0
   repeat' first
   | (with_reducible exact ih0 _ _ _ _ _ _ _ _)
   | (with_reducible exact ih1 _ _ _ _ _ _ _ _ _)
   | (with_reducible exact lane_stand.mono _ _ _ _ _ _ _)
   | (with_reducible exact road_Validate.mono _ _ _ _ _)
   | (with_reducible exact LeO.refl _)
   | (with_reducible exact LeO.none _)
   | (with_reducible refine LeO.ite ?_ ?_)
   | (with_reducible refine LeO.bind ?_ (fun _ => ?_))
   | exact ih0 _ _ _ _ _ _ _ _
   | exact ih1 _ _ _ _ _ _ _ _ _
   | exact lane_stand.mono _ _ _ _ _ _ _
   | exact road_Validate.mono _ _ _ _ _
   | exact LeO.none _
   | refine LeO.ite ?_ ?_
   | refine LeO.bind ?_ (fun _ => ?_)
  ·intro y0 y1 y2 y3 y4 y5 y6 y7 y8
   unfold lane_Validate.l1
   repeat' first
   | (with_reducible exact ih0 _ _ _ _ _ _ _ _)
   | (with_reducible exact ih1 _ _ _ _ _ _ _ _ _)
   | (with_reducible exact lane_stand.mono _ _ _ _ _ _ _)
   | (with_reducible exact road_Validate.mono _ _ _ _ _)
   | (with_reducible exact LeO.refl _)
   | (with_reducible exact LeO.none _)
   | (with_reducible refine LeO.ite ?_ ?_)
   | (with_reducible refine LeO.bind ?_ (fun _ => ?_))
   | exact ih0 _ _ _ _ _ _ _ _
   | exact ih1 _ _ _ _ _ _ _ _ _
   | exact lane_stand.mono _ _ _ _ _ _ _
   | exact road_Validate.mono _ _ _ _ _
   | exact LeO.none _
   | refine LeO.ite ?_ ?_
   | refine LeO.bind ?_ (fun _ => ?_)
theorem lane_Validate.mono : ∀ a0 a1 a2 a3 a4 a5 k, LeO (lane_Validate.f k a0 a1 a2 a3 a4 a5) (lane_Validate.f (k + 1) a0 a1 a2 a3 a4 a5) := by
 intro a0 a1 a2 a3 a4 a5 k
 obtain ⟨ih0,ih1⟩:=lane_Validate.mono_l k
 unfold lane_Validate.f
 repeat' first
   | (with_reducible exact ih0 _ _ _ _ _ _ _ _)
   | (with_reducible exact ih1 _ _ _ _ _ _ _ _ _)
   | (with_reducible exact lane_stand.mono _ _ _ _ _ _ _)
   | (with_reducible exact road_Validate.mono _ _ _ _ _)
   | (with_reducible exact LeO.refl _)
   | (with_reducible exact LeO.none _)
   | (with_reducible refine LeO.ite ?_ ?_)
   | (with_reducible refine LeO.bind ?_ (fun _ => ?_))
   | exact ih0 _ _ _ _ _ _ _ _
   | exact ih1 _ _ _ _ _ _ _ _ _
   | exact lane_stand.mono _ _ _ _ _ _ _
   | exact road_Validate.mono _ _ _ _ _
   | exact LeO.none _
   | refine LeO.ite ?_ ?_
   | refine LeO.bind ?_ (fun _ => ?_)
set_option maxHeartbeats 8000000 in
set_option maxRecDepth 100000 in
theorem lane_Validate.calls (k : Nat) (a0_0 : Int) (a0_1 : Int) (A0_2 : Option Addr) (c0_2 : Nat) (l0_2 : List Int) (A0_3 : Option Addr) (c0_3 : Nat) (l0_3 : List Int) (A0_4 : Option Addr) (c0_4 : Nat) (l0_4 : List Int) (A0_5 : Option Addr) (c0_5 : Nat) (l0_5 : List (S50)) (r : Int) (w : World) (hr0_2 : Kd.C (Kd.int .i64) w A0_2 l0_2.length l0_2) (hc0_2 : l0_2.length ≤ c0_2) (hr0_3 : Kd.C (Kd.int .i64) w A0_3 l0_3.length l0_3) (hc0_3 : l0_3.length ≤ c0_3) (hr0_4 : Kd.C (Kd.int .i64) w A0_4 l0_4.length l0_4) (hc0_4 : l0_4.length ≤ c0_4) (hr0_5 : Kd.C k50 w A0_5 l0_5.length l0_5) (hc0_5 : l0_5.length ≤ c0_5) (h : lane_Validate.f k a0_0 a0_1 l0_2 l0_3 l0_4 l0_5 = some r) :
  Calls Try.prog 18 #[.agg #[.int .i64 a0_0,.int .i64 a0_1,.slice A0_2 l0_2.length c0_2,.slice A0_3 l0_3.length c0_3,.slice A0_4 l0_4.length c0_4,.slice A0_5 l0_5.length c0_5]] w fun e w' => e = .returned (.int .i64 r) ∧ Below w.heap.size w w':=by
 have hu33:=Try.underlying33
 have hu24:=Try.underlying24
 have hu50:=Try.underlying50
 have HR0_2:=Aside0.mk hr0_2
 have HC0_2:=Aside0.mk hc0_2
 clear hr0_2 hc0_2
 have HR0_3:=Aside0.mk hr0_3
 have HC0_3:=Aside0.mk hc0_3
 clear hr0_3 hc0_3
 have HR0_4:=Aside0.mk hr0_4
 have HC0_4:=Aside0.mk hc0_4
 clear hr0_4 hc0_4
 have HR0_5:=Aside0.mk hr0_5
 have HC0_5:=Aside0.mk hc0_5
 clear hr0_5 hc0_5
 have HB:=Aside0.mk (Below.refl w.heap.size w)
 have H : ((road_Validate.f k a0_0 a0_1 l0_2 l0_3).bind fun t267 => (if t267 = 0 then (if (l0_5.length : Int) > 60 then (some 4) else (lane_Validate.l0 k (l0_4.length : Int) 0 a0_0 a0_1 l0_2 l0_3 l0_4 l0_5)) else (some t267))) = some r:=h
 clear h
 replace H:=Option.bind_eq_some_iff.mp H
 obtain ⟨t267,A20,H⟩:=H
 replace H : (if t267 = 0 then (if (l0_5.length : Int) > 60 then (some 4) else (lane_Validate.l0 k (l0_4.length : Int) 0 a0_0 a0_1 l0_2 l0_3 l0_4 l0_5)) else (some t267)) = some r:=H
 have A2:=Aside0.mk A20
 clear A20
 by_cases c3 : t267 = 0
 rotate_left
 ·rw [if_neg c3] at H
  have c3b0 : (t267 == 0) = false:=beq_eq_false_iff_ne.mpr c3
  have c3b1 : (t267 != 0) = true:=bne_iff_ne.mpr c3
  obtain rfl:=Option.some.inj H
  go_enter Try.func18,Try.ntmps18
  go_wp2_with (first|((with_reducible refine gate_dst (N:=1) rfl ?_);refine box_ev (N:=1) (cs:=#[.int .i64 a0_0,.int .i64 a0_1,.slice A0_2 l0_2.length c0_2,.slice A0_3 l0_3.length c0_3,.slice A0_4 l0_4.length c0_4,.slice A0_5 l0_5.length c0_5]) (t:=33) ?_;intro gb266 hg w38 hbox hb;have BK266:=Aside0.mk (hbox);have GW266 : Aside0 (w.heap.size ≤ gb266):=gsz hg;have GE266:=GW266;replace HB:=Aside0.mk (below_step (hb_) hb);clear hb hbox hg;obtain ⟨hcz39_0,hcz39_1,hcz39_2,hcz39_3,hcz39_4,hcz39_5,hfz39_0,hfz39_1,hfz39_2,hfz39_3,hfz39_4,hfz39_5⟩:=cells6 BK266.out)|(go_at_call 36;(with_reducible refine (road_Validate.calls k a0_0 a0_1 _ _ l0_2 _ _ l0_3 t267 _ ?side1 ?side2 ?side3 ?side4 A2.out).mono ?_);(case side1 => exact Kd.C_up (Kd.C_below HR0_2.out HB.out));(case side2 => exact HC0_2.out);(case side3 => exact Kd.C_up (Kd.C_below HR0_3.out HB.out));(case side4 => exact HC0_3.out);rintro e w40 ⟨rfl,hb⟩;replace BK266:=bkb BK266 hb;replace HB:=Aside0.mk (below_step (hb_) hb)))
  go_ret
  exact ⟨by first|rfl|(simp [errW_none,errW_some] <;> rfl)|(simp [*,errW_none,errW_some] <;> rfl),hb_⟩
 rw [if_pos c3] at H
 have c3b0 : (t267 == 0) = true:=beq_iff_eq.mpr c3
 have c3b1 : (t267 != 0) = false:=bne_eq_false_iff_eq.mpr c3
 clear c3
 by_cases c4 : (l0_5.length : Int) > 60
 ·rw [if_pos c4] at H
  have c4b0 : decide (60 < (l0_5.length : Int)) = true:=decide_eq_true c4
  have c4b1 : decide (60 < l0_5.length) = true:=decide_eq_true (by omega)
  clear c4
  obtain rfl:=Option.some.inj H
  go_enter Try.func18,Try.ntmps18
  go_wp2_with (first|((with_reducible refine gate_dst (N:=1) rfl ?_);refine box_ev (N:=1) (cs:=#[.int .i64 a0_0,.int .i64 a0_1,.slice A0_2 l0_2.length c0_2,.slice A0_3 l0_3.length c0_3,.slice A0_4 l0_4.length c0_4,.slice A0_5 l0_5.length c0_5]) (t:=33) ?_;intro gb266 hg w5 hbox hb;have BK266:=Aside0.mk (hbox);have GW266 : Aside0 (w.heap.size ≤ gb266):=gsz hg;have GE266:=GW266;replace HB:=Aside0.mk (below_step (hb_) hb);clear hb hbox hg;obtain ⟨hcz6_0,hcz6_1,hcz6_2,hcz6_3,hcz6_4,hcz6_5,hfz6_0,hfz6_1,hfz6_2,hfz6_3,hfz6_4,hfz6_5⟩:=cells6 BK266.out)|(go_at_call 36;(with_reducible refine (road_Validate.calls k a0_0 a0_1 _ _ l0_2 _ _ l0_3 t267 _ ?side1 ?side2 ?side3 ?side4 A2.out).mono ?_);(case side1 => exact Kd.C_up (Kd.C_below HR0_2.out HB.out));(case side2 => exact HC0_2.out);(case side3 => exact Kd.C_up (Kd.C_below HR0_3.out HB.out));(case side4 => exact HC0_3.out);rintro e w7 ⟨rfl,hb⟩;replace BK266:=bkb BK266 hb;replace HB:=Aside0.mk (below_step (hb_) hb);obtain ⟨hcz8_0,hcz8_1,hcz8_2,hcz8_3,hcz8_4,hcz8_5,hfz8_0,hfz8_1,hfz8_2,hfz8_3,hfz8_4,hfz8_5⟩:=cells6 BK266.out))
  go_ret
  exact ⟨by first|rfl|(simp [errW_none,errW_some] <;> rfl)|(simp [*,errW_none,errW_some] <;> rfl),hb_⟩
 rw [if_neg c4] at H
 have c4b0 : decide (60 < (l0_5.length : Int)) = false:=decide_eq_false c4
 have c4b1 : decide (60 < l0_5.length) = false:=decide_eq_false (by omega)
 clear c4
 have H':=Aside0.mk H
 clear H
 go_enter Try.func18,Try.ntmps18
 go_wp2_with (first|((with_reducible refine gate_dst (N:=1) rfl ?_);refine box_ev (N:=1) (cs:=#[.int .i64 a0_0,.int .i64 a0_1,.slice A0_2 l0_2.length c0_2,.slice A0_3 l0_3.length c0_3,.slice A0_4 l0_4.length c0_4,.slice A0_5 l0_5.length c0_5]) (t:=33) ?_;intro gb266 hg w9 hbox hb;have BK266:=Aside0.mk (hbox);have GW266 : Aside0 (w.heap.size ≤ gb266):=gsz hg;have GE266:=GW266;replace HB:=Aside0.mk (below_step (hb_) hb);clear hb hbox hg;obtain ⟨hcz10_0,hcz10_1,hcz10_2,hcz10_3,hcz10_4,hcz10_5,hfz10_0,hfz10_1,hfz10_2,hfz10_3,hfz10_4,hfz10_5⟩:=cells6 BK266.out)|(go_at_call 36;(with_reducible refine (road_Validate.calls k a0_0 a0_1 _ _ l0_2 _ _ l0_3 t267 _ ?side1 ?side2 ?side3 ?side4 A2.out).mono ?_);(case side1 => exact Kd.C_up (Kd.C_below HR0_2.out HB.out));(case side2 => exact HC0_2.out);(case side3 => exact Kd.C_up (Kd.C_below HR0_3.out HB.out));(case side4 => exact HC0_3.out);rintro e w11 ⟨rfl,hb⟩;replace BK266:=bkb BK266 hb;replace HB:=Aside0.mk (below_step (hb_) hb);obtain ⟨hcz12_0,hcz12_1,hcz12_2,hcz12_3,hcz12_4,hcz12_5,hfz12_0,hfz12_1,hfz12_2,hfz12_3,hfz12_4,hfz12_5⟩:=cells6 BK266.out))
 go_loopg [20] k (fun kq v20 w' => ∃ (x20_1 : Int),v20 = .int .i64 x20_1 ∧ Aside0 (lane_Validate.l0 kq (l0_4.length : Int) x20_1 a0_0 a0_1 l0_2 l0_3 l0_4 l0_5 = some r) ∧ Aside0 (kq ≤ k) ∧ Aside0 (w'.heap[gb266]? = some (.cells #[.int .i64 a0_0,.int .i64 a0_1,(.slice A0_2 l0_2.length c0_2),(.slice A0_3 l0_3.length c0_3),(.slice A0_4 l0_4.length c0_4),(.slice A0_5 l0_5.length c0_5)] 33 (0,0))) ∧ Aside0 (Below w.heap.size w w'))
 case atStart => exact ⟨(0),(by first|rfl|(simp;done)|(simp [*];done)),H',⟨Nat.le_refl _⟩,⟨blk_up BK266.out⟩,⟨hb_⟩⟩
 case round =>
  clear H'
  obtain ⟨x20_1,rfl,HA,HK1,BK266,HB⟩:=hrel
  cases gk with
  | zero => exact absurd HA.out (by simp [lane_Validate.l0])
  | succ k1 =>
   have H:=HA.out
   clear HA
   simp only [lane_Validate.l0] at H
   by_cases c13 : x20_1 < (l0_4.length : Int)
   ·rw [if_pos c13] at H
    have c13b0 : decide (x20_1 < (l0_4.length : Int)) = true:=decide_eq_true c13
    clear c13
    by_cases c14 : x20_1 > 0
    rotate_left
    ·rw [if_neg c14] at H
     have c14b0 : decide (0 < x20_1) = false:=decide_eq_false c14
     clear c14
     have H':=Aside0.mk H
     clear H
     go_wp2
     go_quiet (fail)
     go_wp2
     go_roundg k1
     case measure => have:=HK1.out;omega
     case rel => exact ⟨(wrap64 (x20_1 + 1)),(by first|rfl|(simp;done)|(simp [*];done)),H',⟨by have:=HK1.out;omega⟩,⟨blk_up BK266.out⟩,⟨hb_⟩⟩
    rw [if_pos c14] at H
    have c14b0 : decide (0 < x20_1) = true:=decide_eq_true c14
    clear c14
    obtain ⟨ji15,hji15⟩ : ∃ j_ : Int,(wrap64 (x20_1 - 1)) = j_:=⟨_,rfl⟩
    replace H : (if 0 ≤ (ji15) then (if (ji15) < (l0_4.length : Int) then (if 0 ≤ x20_1 then (if x20_1 < (l0_4.length : Int) then (if (rd l0_4 (ji15)) ≥ (rd l0_4 x20_1) then (some 1) else (lane_Validate.l0 k1 (l0_4.length : Int) (wrap64 (x20_1 + 1)) a0_0 a0_1 l0_2 l0_3 l0_4 l0_5)) else (none)) else (none)) else (none)) else (none)) = some r:=by first|(rw [hji15] at H;exact H)|(simp only [hji15] at H ⊢;exact H)
    have hji15w : (IntKind.i64.wrap (x20_1 - 1)) = ji15:=(i64_w _).trans hji15
    replace H:=ifp_ H;obtain ⟨c16,H⟩:=H
    have c16b0 : decide (0 ≤ (ji15)) = true:=decide_eq_true c16
    clear c16
    replace H:=ifp_ H;obtain ⟨c17,H⟩:=H
    have c17b0 : decide ((ji15) < (l0_4.length : Int)) = true:=decide_eq_true c17
    clear c17
    replace H:=ifp_ H;obtain ⟨c18,H⟩:=H
    have c18b0 : decide (0 ≤ x20_1) = true:=decide_eq_true c18
    clear c18
    replace H:=ifp_ H;obtain ⟨c19,H⟩:=H
    have c19b0 : decide (x20_1 < (l0_4.length : Int)) = true:=decide_eq_true c19
    clear c19
    by_cases c20 : (rd l0_4 (ji15)) ≥ (rd l0_4 x20_1)
    ·rw [if_pos c20] at H
     have c20b0 : decide ((rd l0_4 x20_1) ≤ (rd l0_4 (ji15))) = true:=decide_eq_true c20
     clear c20
     obtain rfl:=Option.some.inj H
     obtain ⟨hcz21_0,hcz21_1,hcz21_2,hcz21_3,hcz21_4,hcz21_5,hfz21_0,hfz21_1,hfz21_2,hfz21_3,hfz21_4,hfz21_5⟩:=cells6 BK266.out
     have p268 : 0 ≤ ((ji15) : Int):=of_decide_eq_true (by first|(with_reducible assumption)|assumption)
     have q268 : (ji15) < (l0_4.length : Int):=of_decide_eq_true (by first|(with_reducible assumption)|assumption)
     obtain ⟨ad268,e268,hx268_0⟩:=Kd.at_int HR0_4.out (ji15) p268 q268
     cases e268
     replace hx268_0:=(HB.out.cell (World.block_lt_of_cell? w _ hx268_0)).trans hx268_0
     replace p268:=eq_true p268
     replace q268:=eq_true q268
     have p269 : 0 ≤ (x20_1 : Int):=of_decide_eq_true (by first|(with_reducible assumption)|assumption)
     have q269 : x20_1 < (l0_4.length : Int):=of_decide_eq_true (by first|(with_reducible assumption)|assumption)
     obtain ⟨ad269,e269,hx269_0⟩:=Kd.at_int HR0_4.out x20_1 p269 q269
     obtain rfl : ad268 = ad269:=(by injection e269)
     replace hx269_0:=(HB.out.cell (World.block_lt_of_cell? w _ hx269_0)).trans hx269_0
     replace p269:=eq_true p269
     replace q269:=eq_true q269
     go_wp2
     go_quiet (fail)
     go_wp2
     go_ret
     exact ⟨by first|rfl|(simp [errW_none,errW_some] <;> rfl)|(simp only [← hji15];first|rfl|(simp [errW_none,errW_some] <;> rfl))|(simp [*,errW_none,errW_some] <;> rfl),hb_⟩
    ·rw [if_neg c20] at H
     have c20b0 : decide ((rd l0_4 x20_1) ≤ (rd l0_4 (ji15))) = false:=decide_eq_false c20
     clear c20
     have H':=Aside0.mk H
     clear H
     obtain ⟨hcz22_0,hcz22_1,hcz22_2,hcz22_3,hcz22_4,hcz22_5,hfz22_0,hfz22_1,hfz22_2,hfz22_3,hfz22_4,hfz22_5⟩:=cells6 BK266.out
     have p268 : 0 ≤ ((ji15) : Int):=of_decide_eq_true (by first|(with_reducible assumption)|assumption)
     have q268 : (ji15) < (l0_4.length : Int):=of_decide_eq_true (by first|(with_reducible assumption)|assumption)
     obtain ⟨ad268,e268,hx268_0⟩:=Kd.at_int HR0_4.out (ji15) p268 q268
     cases e268
     replace hx268_0:=(HB.out.cell (World.block_lt_of_cell? w _ hx268_0)).trans hx268_0
     replace p268:=eq_true p268
     replace q268:=eq_true q268
     have p269 : 0 ≤ (x20_1 : Int):=of_decide_eq_true (by first|(with_reducible assumption)|assumption)
     have q269 : x20_1 < (l0_4.length : Int):=of_decide_eq_true (by first|(with_reducible assumption)|assumption)
     obtain ⟨ad269,e269,hx269_0⟩:=Kd.at_int HR0_4.out x20_1 p269 q269
     obtain rfl : ad268 = ad269:=(by injection e269)
     replace hx269_0:=(HB.out.cell (World.block_lt_of_cell? w _ hx269_0)).trans hx269_0
     replace p269:=eq_true p269
     replace q269:=eq_true q269
     go_wp2
     go_quiet (fail)
     go_wp2
     go_roundg k1
     case measure => have:=HK1.out;omega
     case rel => exact ⟨(wrap64 (x20_1 + 1)),(by first|rfl|(simp;done)|(simp [*];done)),H',⟨by have:=HK1.out;omega⟩,⟨blk_up BK266.out⟩,⟨hb_⟩⟩
   rw [if_neg c13] at H
   have c13b0 : decide (x20_1 < (l0_4.length : Int)) = false:=decide_eq_false c13
   clear c13
   have H':=Aside0.mk H
   clear H
   obtain ⟨hcz23_0,hcz23_1,hcz23_2,hcz23_3,hcz23_4,hcz23_5,hfz23_0,hfz23_1,hfz23_2,hfz23_3,hfz23_4,hfz23_5⟩:=cells6 BK266.out
   go_wp2
   go_loopg [43] k1 (fun kq v43 w' => ∃ (x43_2 : Int),v43 = .int .i64 x43_2 ∧ Aside0 (lane_Validate.l1 kq l0_5 (l0_5.length : Int) x43_2 a0_0 a0_1 l0_2 l0_3 l0_4 l0_5 = some r) ∧ Aside0 (kq ≤ k1) ∧ Aside0 (w'.heap[gb266]? = some (.cells #[.int .i64 a0_0,.int .i64 a0_1,(.slice A0_2 l0_2.length c0_2),(.slice A0_3 l0_3.length c0_3),(.slice A0_4 l0_4.length c0_4),(.slice A0_5 l0_5.length c0_5)] 33 (0,0))) ∧ Aside0 (Below w.heap.size w w'))
   case atStart => exact ⟨(0),(by first|rfl|(simp;done)|(simp [*];done)),H',⟨Nat.le_refl _⟩,⟨blk_up BK266.out⟩,⟨hb_⟩⟩
   case round =>
    clear H'
    obtain ⟨x43_2,rfl,HA,HK2,BK266,HB⟩:=hrel
    cases gk with
    | zero => exact absurd HA.out (by simp [lane_Validate.l1])
    | succ k2 =>
     have H:=HA.out
     clear HA
     simp only [lane_Validate.l1] at H
     by_cases c24 : x43_2 < (l0_5.length : Int)
     rotate_left
     ·rw [if_neg c24] at H
      have c24b0 : decide (x43_2 < (l0_5.length : Int)) = false:=decide_eq_false c24
      clear c24
      replace H:=Option.bind_eq_some_iff.mp H
      obtain ⟨t273,A350,H⟩:=H
      replace H : (some t273) = some r:=H
      have A35:=Aside0.mk A350
      clear A350
      obtain rfl:=Option.some.inj H
      obtain ⟨hcz36_0,hcz36_1,hcz36_2,hcz36_3,hcz36_4,hcz36_5,hfz36_0,hfz36_1,hfz36_2,hfz36_3,hfz36_4,hfz36_5⟩:=cells6 BK266.out
      go_wp2_with (first|(go_at_call 43;(with_reducible refine (lane_stand.calls k2 a0_0 a0_1 _ _ l0_2 _ _ l0_3 _ _ l0_4 _ _ l0_5 t273 _ ?side1 ?side2 ?side3 ?side4 ?side5 ?side6 ?side7 ?side8 A35.out).mono ?_);(case side1 => exact Kd.C_up (Kd.C_below HR0_2.out HB.out));(case side2 => exact HC0_2.out);(case side3 => exact Kd.C_up (Kd.C_below HR0_3.out HB.out));(case side4 => exact HC0_3.out);(case side5 => exact Kd.C_up (Kd.C_below HR0_4.out HB.out));(case side6 => exact HC0_4.out);(case side7 => exact Kd.C_up (Kd.C_below HR0_5.out HB.out));(case side8 => exact HC0_5.out);rintro e w37 ⟨rfl,hb⟩;replace BK266:=bkb BK266 hb;replace HB:=Aside0.mk (below_step (hb_) hb)))
      go_ret
      exact ⟨by first|rfl|(simp [errW_none,errW_some] <;> rfl)|(simp [*,errW_none,errW_some] <;> rfl),hb_⟩
     rw [if_pos c24] at H
     have c24b0 : decide (x43_2 < (l0_5.length : Int)) = true:=decide_eq_true c24
     clear c24
     replace H:=ifp_ H;obtain ⟨c25,H⟩:=H
     have c25b0 : decide (0 ≤ x43_2) = true:=decide_eq_true c25
     clear c25
     replace H:=ifp_ H;obtain ⟨c26,H⟩:=H
     have c26b0 : decide (x43_2 < (l0_5.length : Int)) = true:=decide_eq_true c26
     clear c26
     replace H:=Option.bind_eq_some_iff.mp H
     obtain ⟨t272,A270,H⟩:=H
     replace H : (if t272 = true then (lane_Validate.l1 k2 l0_5 (l0_5.length : Int) (wrap64 (x43_2 + 1)) a0_0 a0_1 l0_2 l0_3 l0_4 l0_5) else (some 1)) = some r:=H
     have A27:=Aside0.mk A270
     clear A270
     by_cases c28 : t272 = true
     ·subst c28
      have H1 : (lane_Validate.l1 k2 l0_5 (l0_5.length : Int) (wrap64 (x43_2 + 1)) a0_0 a0_1 l0_2 l0_3 l0_4 l0_5) = some r:=by rw [if_pos rfl] at H;exact H
      clear H
      have H:=H1
      clear H1
      have H':=Aside0.mk H
      clear H
      have p270 : 0 ≤ (x43_2 : Int):=of_decide_eq_true (by first|(with_reducible assumption)|assumption)
      have q270 : x43_2 < (l0_5.length : Int):=of_decide_eq_true (by first|(with_reducible assumption)|assumption)
      obtain ⟨ad270,e270,hx270_0,hx270_1,hx270_2,hx270_3,hx270_4⟩:=at_T50 HR0_5.out x43_2 p270 q270
      cases e270
      replace hx270_0:=(HB.out.cell (World.block_lt_of_cell? w _ hx270_0)).trans hx270_0
      replace hx270_1:=(HB.out.cell (World.block_lt_of_cell? w _ hx270_1)).trans hx270_1
      replace hx270_2:=(HB.out.cell (World.block_lt_of_cell? w _ hx270_2)).trans hx270_2
      replace hx270_3:=(HB.out.cell (World.block_lt_of_cell? w _ hx270_3)).trans hx270_3
      replace hx270_4:=(HB.out.cell (World.block_lt_of_cell? w _ hx270_4)).trans hx270_4
      replace p270:=eq_true p270
      replace q270:=eq_true q270
      go_wp2_with (first|((with_reducible refine gate_dst (N:=6) rfl ?_);refine box_ev (N:=6) (cs:=#[.int .i64 0,.int .i64 0,.int .i64 0,.int .i64 0,.int .i64 0]) (t:=50) ?_;intro gb271 hg w29 hbox hb;have BK271:=Aside0.mk (hbox);have GW271 : Aside0 (w.heap.size ≤ gb271):=gsz hg;have GE271:=GW271;have NB266_271:=nbl BK266 hg;have NB271_266:=nbr BK266 hg;replace BK266:=bkb BK266 hb;replace HB:=Aside0.mk (below_step (hb_) hb);clear hb hbox hg;have hnb30:=NB271_266.out;have hnc30:=NB266_271.out;obtain ⟨hcz31_0,hcz31_1,hcz31_2,hcz31_3,hcz31_4,hfz31_0,hfz31_1,hfz31_2,hfz31_3,hfz31_4⟩:=cells5 BK271.out)|(go_at_call 42;(with_reducible refine (lane_moves.calls ((rd_T50 l0_5 x43_2).f0) ((rd_T50 l0_5 x43_2).f1) ((rd_T50 l0_5 x43_2).f2) ((rd_T50 l0_5 x43_2).f3) ((rd_T50 l0_5 x43_2).f4) true _ A27.out).mono ?_);rintro e w' ⟨rfl,⟨nd,rfl⟩⟩;(try first|exact ⟨rfl,_,World.drewN_drewN _ _ _⟩|exact ⟨rfl,_,Eq.trans (World.drewN_drewN _ _ _) (congrArg (World.drewN _) (Nat.add_assoc _ _ _))⟩)))
      go_roundg k2
      case measure => have:=HK1.out;have:=HK2.out;omega
      case rel => exact ⟨(wrap64 (x43_2 + 1)),(by first|rfl|(simp;done)|(simp [*];done)),H',⟨by have:=HK1.out;have:=HK2.out;omega⟩,⟨by (with_reducible repeat (first|refine blk_drewN ?_ _|refine blk_drew ?_|refine blk_alloc ?_ _));refine blk_far ?_ NB266_271.out _;(with_reducible repeat (first|refine blk_drewN ?_ _|refine blk_drew ?_|refine blk_alloc ?_ _));refine blk_far ?_ NB266_271.out _;(with_reducible repeat (first|refine blk_drewN ?_ _|refine blk_drew ?_|refine blk_alloc ?_ _));refine blk_far ?_ NB266_271.out _;(with_reducible repeat (first|refine blk_drewN ?_ _|refine blk_drew ?_|refine blk_alloc ?_ _));refine blk_far ?_ NB266_271.out _;(with_reducible repeat (first|refine blk_drewN ?_ _|refine blk_drew ?_|refine blk_alloc ?_ _));refine blk_far ?_ NB266_271.out _;(with_reducible repeat (first|refine blk_drewN ?_ _|refine blk_drew ?_|refine blk_alloc ?_ _));exact BK266.out⟩,⟨hb_⟩⟩
     ·replace c28:=Bool.eq_false_iff.mpr c28
      subst c28
      have H1 : (some 1) = some r:=by rw [if_neg (show ¬ (false = true) by decide)] at H;exact H
      clear H
      have H:=H1
      clear H1
      obtain rfl:=Option.some.inj H
      have p270 : 0 ≤ (x43_2 : Int):=of_decide_eq_true (by first|(with_reducible assumption)|assumption)
      have q270 : x43_2 < (l0_5.length : Int):=of_decide_eq_true (by first|(with_reducible assumption)|assumption)
      obtain ⟨ad270,e270,hx270_0,hx270_1,hx270_2,hx270_3,hx270_4⟩:=at_T50 HR0_5.out x43_2 p270 q270
      cases e270
      replace hx270_0:=(HB.out.cell (World.block_lt_of_cell? w _ hx270_0)).trans hx270_0
      replace hx270_1:=(HB.out.cell (World.block_lt_of_cell? w _ hx270_1)).trans hx270_1
      replace hx270_2:=(HB.out.cell (World.block_lt_of_cell? w _ hx270_2)).trans hx270_2
      replace hx270_3:=(HB.out.cell (World.block_lt_of_cell? w _ hx270_3)).trans hx270_3
      replace hx270_4:=(HB.out.cell (World.block_lt_of_cell? w _ hx270_4)).trans hx270_4
      replace p270:=eq_true p270
      replace q270:=eq_true q270
      go_wp2_with (first|((with_reducible refine gate_dst (N:=6) rfl ?_);refine box_ev (N:=6) (cs:=#[.int .i64 0,.int .i64 0,.int .i64 0,.int .i64 0,.int .i64 0]) (t:=50) ?_;intro gb271 hg w32 hbox hb;have BK271:=Aside0.mk (hbox);have GW271 : Aside0 (w.heap.size ≤ gb271):=gsz hg;have GE271:=GW271;have NB266_271:=nbl BK266 hg;have NB271_266:=nbr BK266 hg;replace BK266:=bkb BK266 hb;replace HB:=Aside0.mk (below_step (hb_) hb);clear hb hbox hg;have hnb33:=NB271_266.out;have hnc33:=NB266_271.out;obtain ⟨hcz34_0,hcz34_1,hcz34_2,hcz34_3,hcz34_4,hfz34_0,hfz34_1,hfz34_2,hfz34_3,hfz34_4⟩:=cells5 BK271.out)|(go_at_call 42;(with_reducible refine (lane_moves.calls ((rd_T50 l0_5 x43_2).f0) ((rd_T50 l0_5 x43_2).f1) ((rd_T50 l0_5 x43_2).f2) ((rd_T50 l0_5 x43_2).f3) ((rd_T50 l0_5 x43_2).f4) false _ A27.out).mono ?_);rintro e w' ⟨rfl,⟨nd,rfl⟩⟩;(try first|exact ⟨rfl,_,World.drewN_drewN _ _ _⟩|exact ⟨rfl,_,Eq.trans (World.drewN_drewN _ _ _) (congrArg (World.drewN _) (Nat.add_assoc _ _ _))⟩)))
      go_ret
      exact ⟨by first|rfl|(simp [errW_none,errW_some] <;> rfl)|(simp [*,errW_none,errW_some] <;> rfl),hb_⟩

end Go.Proofs.Ythjmdpekcleihaa.P

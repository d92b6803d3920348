/- Functions of this seat as plain Lean functions, with proofs that the Go code comes to just their answers, or what stands between them and a law's statement; no conditions. (Laid by a program of this session, out of the kit's print.) -/
import Derived.Test.YthjmdpekcleihaaPx0
import Derived.Test.YthjmdpekcleihaaPx7
import Derived.Test.YthjmdpekcleihaaPx14
import Derived.Test.YthjmdpekcleihaaPx15
import Derived.Test.YthjmdpekcleihaaPx17
namespace Go.Proofs.Ythjmdpekcleihaa.P
open Go.RowKit Go.Proofs.YthjmdpekcleihaaW.PrintWords Go.Proofs.YthjmdpekcleihaaW.PrintLast Go.Proofs.YthjmdpekcleihaaW.PrintMore
attribute [local go_sem] max2_int min2_int max_two min_two max_three min_three max_four min_four   -- for this text's walks alone
set_option linter.unusedVariables false
set_option linter.unusedSimpArgs false

/-! ### hinterlandlaw17_LaneValidates: function 4 -/
def hinterlandlaw17_LaneValidates.f (k : Nat) (a0_0 : Int) (a0_1 : Int) (l0_2 : List Int) (l0_3 : List Int) (l0_4 : List Int) (l0_5 : List (S50)) : Option (Bool) := (hinterlandlaw17_far.f a0_0 a0_1 l0_2 l0_3 l0_4 l0_5).bind fun t275 => (if t275 = true then ((hinterlandlaw17_known.f k).bind fun t276 => (if t276 = true then (some true) else ((hinterlandref17_Validate.f k a0_0 a0_1 l0_2 l0_3 l0_4 l0_5).bind fun t277 => ((lane_Validate.f k a0_0 a0_1 l0_2 l0_3 l0_4 l0_5).bind fun t278 => (if t277 = t278 then ((hinterlandlaw17_known.f k).bind fun t279 => (some t279)) else (some false)))))) else ((hinterlandref17_Validate.f k a0_0 a0_1 l0_2 l0_3 l0_4 l0_5).bind fun t280 => ((lane_Validate.f k a0_0 a0_1 l0_2 l0_3 l0_4 l0_5).bind fun t281 => (if t280 = t281 then ((hinterlandlaw17_known.f k).bind fun t282 => (some t282)) else (some false)))))
theorem hinterlandlaw17_LaneValidates.mono : ∀ a0 a1 a2 a3 a4 a5 k, LeO (hinterlandlaw17_LaneValidates.f k a0 a1 a2 a3 a4 a5) (hinterlandlaw17_LaneValidates.f (k + 1) a0 a1 a2 a3 a4 a5) := by
 intro a0 a1 a2 a3 a4 a5 k
 unfold hinterlandlaw17_LaneValidates.f
 repeat' first
   | (with_reducible exact hinterlandlaw17_known.mono _)
   | (with_reducible exact hinterlandref17_Validate.mono _ _ _ _ _ _ _)
   | (with_reducible exact lane_Validate.mono _ _ _ _ _ _ _)
   | (with_reducible exact LeO.refl _)
   | (with_reducible exact LeO.none _)
   | (with_reducible refine LeO.ite ?_ ?_)
   | (with_reducible refine LeO.bind ?_ (fun _ => ?_))
   | exact hinterlandlaw17_known.mono _
   | exact hinterlandref17_Validate.mono _ _ _ _ _ _ _
   | exact lane_Validate.mono _ _ _ _ _ _ _
   | exact LeO.none _
   | refine LeO.ite ?_ ?_
   | refine LeO.bind ?_ (fun _ => ?_)
def hinterlandlaw17_LaneValidates.T1 : Bool × List (List Nat × List Nat) := (true, [([], []), ([0], [0]), ([1, 1], [1]), ([2, 2], [2]), ([2, 3], [2, 3]), ([4, 3], [4]), ([5], [5]), ([6, 5, 5], [5, 6]), ([5], [5]), ([8, 7, 5], [5, 8]), ([7, 9, 5], [5, 7, 9]), ([10, 9, 5], [5, 10]), ([11, 11], [11]), ([11, 12, 5], [5, 11, 12]), ([5, 13], [5, 13]), ([14, 12, 0, 1, 2, 3, 4, 5, 6, 7, 8, 9, 10, 11, 12, 13, 14], [14])])
def hinterlandlaw17_LaneValidates.B1 : List Nat := [0, 1, 3, 7, 15, 31, 63, 127, 63, 511, 1023, 2047, 4095, 8191, 16383, 32767]
theorem hinterlandlaw17_LaneValidates.tab1 : rtab .any (opsOf Try.f4 1) = hinterlandlaw17_LaneValidates.T1 := by kernel_rfl
theorem hinterlandlaw17_LaneValidates.bits1 : waitsOk hinterlandlaw17_LaneValidates.T1.2 hinterlandlaw17_LaneValidates.B1 = true := by kernel_rfl
set_option maxHeartbeats 8000000 in
set_option maxRecDepth 100000 in
theorem hinterlandlaw17_LaneValidates.calls (k : Nat) (a0_0 : Int) (a0_1 : Int) (A0_2 : Option Addr) (c0_2 : Nat) (l0_2 : List Int) (A0_3 : Option Addr) (c0_3 : Nat) (l0_3 : List Int) (A0_4 : Option Addr) (c0_4 : Nat) (l0_4 : List Int) (A0_5 : Option Addr) (c0_5 : Nat) (l0_5 : List (S50)) (r : Bool) (w : World) (hr0_2 : Kd.C (Kd.int .i64) w A0_2 l0_2.length l0_2) (hc0_2 : l0_2.length ≤ c0_2) (hr0_3 : Kd.C (Kd.int .i64) w A0_3 l0_3.length l0_3) (hc0_3 : l0_3.length ≤ c0_3) (hr0_4 : Kd.C (Kd.int .i64) w A0_4 l0_4.length l0_4) (hc0_4 : l0_4.length ≤ c0_4) (hr0_5 : Kd.C k50 w A0_5 l0_5.length l0_5) (hc0_5 : l0_5.length ≤ c0_5) (h : hinterlandlaw17_LaneValidates.f k a0_0 a0_1 l0_2 l0_3 l0_4 l0_5 = some r) :
  Calls Try.prog 4 #[.agg #[.int .i64 a0_0,.int .i64 a0_1,.slice A0_2 l0_2.length c0_2,.slice A0_3 l0_3.length c0_3,.slice A0_4 l0_4.length c0_4,.slice A0_5 l0_5.length c0_5]] w fun e w' => e = .returned (.bool r) ∧ Below w.heap.size w w':=by
 have hu33:=Try.underlying33
 have HR0_2:=Aside0.mk hr0_2
 have HC0_2:=Aside0.mk hc0_2
 clear hr0_2 hc0_2
 have HR0_3:=Aside0.mk hr0_3
 have HC0_3:=Aside0.mk hc0_3
 clear hr0_3 hc0_3
 have HR0_4:=Aside0.mk hr0_4
 have HC0_4:=Aside0.mk hc0_4
 clear hr0_4 hc0_4
 have HR0_5:=Aside0.mk hr0_5
 have HC0_5:=Aside0.mk hc0_5
 clear hr0_5 hc0_5
 have HB:=Aside0.mk (Below.refl w.heap.size w)
 have H : ((hinterlandlaw17_far.f a0_0 a0_1 l0_2 l0_3 l0_4 l0_5).bind fun t275 => (if t275 = true then ((hinterlandlaw17_known.f k).bind fun t276 => (if t276 = true then (some true) else ((hinterlandref17_Validate.f k a0_0 a0_1 l0_2 l0_3 l0_4 l0_5).bind fun t277 => ((lane_Validate.f k a0_0 a0_1 l0_2 l0_3 l0_4 l0_5).bind fun t278 => (if t277 = t278 then ((hinterlandlaw17_known.f k).bind fun t279 => (some t279)) else (some false)))))) else ((hinterlandref17_Validate.f k a0_0 a0_1 l0_2 l0_3 l0_4 l0_5).bind fun t280 => ((lane_Validate.f k a0_0 a0_1 l0_2 l0_3 l0_4 l0_5).bind fun t281 => (if t280 = t281 then ((hinterlandlaw17_known.f k).bind fun t282 => (some t282)) else (some false)))))) = some r:=h
 clear h
 replace H:=Option.bind_eq_some_iff.mp H
 obtain ⟨t275,A20,H⟩:=H
 replace H : (if t275 = true then ((hinterlandlaw17_known.f k).bind fun t276 => (if t276 = true then (some true) else ((hinterlandref17_Validate.f k a0_0 a0_1 l0_2 l0_3 l0_4 l0_5).bind fun t277 => ((lane_Validate.f k a0_0 a0_1 l0_2 l0_3 l0_4 l0_5).bind fun t278 => (if t277 = t278 then ((hinterlandlaw17_known.f k).bind fun t279 => (some t279)) else (some false)))))) else ((hinterlandref17_Validate.f k a0_0 a0_1 l0_2 l0_3 l0_4 l0_5).bind fun t280 => ((lane_Validate.f k a0_0 a0_1 l0_2 l0_3 l0_4 l0_5).bind fun t281 => (if t280 = t281 then ((hinterlandlaw17_known.f k).bind fun t282 => (some t282)) else (some false))))) = some r:=H
 have A2:=Aside0.mk A20
 clear A20
 by_cases c3 : t275 = true
 ·subst c3
  have H1 : ((hinterlandlaw17_known.f k).bind fun t276 => (if t276 = true then (some true) else ((hinterlandref17_Validate.f k a0_0 a0_1 l0_2 l0_3 l0_4 l0_5).bind fun t277 => ((lane_Validate.f k a0_0 a0_1 l0_2 l0_3 l0_4 l0_5).bind fun t278 => (if t277 = t278 then ((hinterlandlaw17_known.f k).bind fun t279 => (some t279)) else (some false)))))) = some r:=by rw [if_pos rfl] at H;exact H
  clear H
  have H:=H1
  clear H1
  replace H:=Option.bind_eq_some_iff.mp H
  obtain ⟨t276,A40,H⟩:=H
  replace H : (if t276 = true then (some true) else ((hinterlandref17_Validate.f k a0_0 a0_1 l0_2 l0_3 l0_4 l0_5).bind fun t277 => ((lane_Validate.f k a0_0 a0_1 l0_2 l0_3 l0_4 l0_5).bind fun t278 => (if t277 = t278 then ((hinterlandlaw17_known.f k).bind fun t279 => (some t279)) else (some false))))) = some r:=H
  have A4:=Aside0.mk A40
  clear A40
  by_cases c5 : t276 = true
  ·subst c5
   have H1 : (some true) = some r:=by rw [if_pos rfl] at H;exact H
   clear H
   have H:=H1
   clear H1
   obtain rfl:=Option.some.inj H
   go_enter Try.func4,Try.ntmps4
   try go_wp2_with (first|((with_reducible refine gate_dst (N:=1) rfl ?_);refine box_ev (N:=1) (cs:=#[.int .i64 a0_0,.int .i64 a0_1,.slice A0_2 l0_2.length c0_2,.slice A0_3 l0_3.length c0_3,.slice A0_4 l0_4.length c0_4,.slice A0_5 l0_5.length c0_5]) (t:=33) ?_;intro gb274 hg w6 hbox hb;have BK274:=Aside0.mk (hbox);have GW274 : Aside0 (w.heap.size ≤ gb274):=gsz hg;have GE274:=GW274;replace HB:=Aside0.mk (below_step (hb_) hb);clear hb hbox hg))
   replace BK274:=Aside0.mk (blk_drew BK274.out)
   replace HB:=Aside0.mk (below_drew1 HB.out)
   refine start_ (n:=16) (S:=fun w' => w'.cell? ⟨gb274,0,none⟩ = some (.int .i64 a0_0) ∧ w'.cell? ⟨gb274,1,none⟩ = some (.int .i64 a0_1) ∧ w'.cell? ⟨gb274,2,none⟩ = some (.slice A0_2 l0_2.length c0_2) ∧ w'.cell? ⟨gb274,3,none⟩ = some (.slice A0_3 l0_3.length c0_3) ∧ w'.cell? ⟨gb274,4,none⟩ = some (.slice A0_4 l0_4.length c0_4) ∧ w'.cell? ⟨gb274,5,none⟩ = some (.slice A0_5 l0_5.length c0_5)) (ds:=[]) #[false,false,false,false,false,false,false,false,false,false,false,false,false,false,false,false] (by kernel_rfl) rfl rfl ⟨(blk_cell BK274.out 0).trans rfl,(blk_cell BK274.out 1).trans rfl,(blk_cell BK274.out 2).trans rfl,(blk_cell BK274.out 3).trans rfl,(blk_cell BK274.out 4).trans rfl,(blk_cell BK274.out 5).trans rfl⟩ (fun hHeld => ?_);refine with_tabW hinterlandlaw17_LaneValidates.tab1 hinterlandlaw17_LaneValidates.bits1 (fun HT_ HW_ => ?_)
   generalize w6.drew = w7 at BK274 HB hHeld ⊢
   refine tI6 0 (some 3) hHeld ?_
   refine oI 1 (some 4) (fun K hK => ?_)
   refine goes_ Try.func16 (by kernel_rfl) rfl #[.agg #[.int .i64 a0_0,.int .i64 a0_1,.slice A0_2 l0_2.length c0_2,.slice A0_3 l0_3.length c0_3,.slice A0_4 l0_4.length c0_4,.slice A0_5 l0_5.length c0_5]] (by rfl) rfl rfl (by (try simp only [List.map_toArray,List.map_cons,List.map_nil]);first|done|rfl|(simp only [List.length_drop,List.length_take];rfl)) ?_
   with_reducible refine (hinterlandlaw17_far.calls a0_0 a0_1 _ _ l0_2 _ _ l0_3 _ _ l0_4 _ _ l0_5 true _ ?side1 ?side2 ?side3 ?side4 ?side5 ?side6 ?side7 ?side8 A2.out).mono ?_
   (case side1 => exact Kd.C_up (Kd.C_below HR0_2.out HB.out))
   (case side2 => exact HC0_2.out)
   (case side3 => exact Kd.C_up (Kd.C_below HR0_3.out HB.out))
   (case side4 => exact HC0_3.out)
   (case side5 => exact Kd.C_up (Kd.C_below HR0_4.out HB.out))
   (case side6 => exact HC0_4.out)
   (case side7 => exact Kd.C_up (Kd.C_below HR0_5.out HB.out))
   (case side8 => exact HC0_5.out)
   rintro e w8 ⟨rfl,hb⟩
   refine ⟨_,rfl,?_⟩
   have n0_:=bkb BK274 hb
   have n1_:=Aside0.mk (below_step (hb_) hb)
   clear BK274
   clear HB
   have BK274:=n0_
   have HB:=n1_
   clear n0_ n1_
   (try clear hb)
   (try clear hb2)
   (try clear hk)
   (try clear hi)
   refine hK.out _ _ ⟨(blk_cell BK274.out 0).trans rfl,(blk_cell BK274.out 1).trans rfl,(blk_cell BK274.out 2).trans rfl,(blk_cell BK274.out 3).trans rfl,(blk_cell BK274.out 4).trans rfl,(blk_cell BK274.out 5).trans rfl⟩ (fun hHeld => ?_)
   clear hK K
   refine norm_ (a':=?_) ?_ ?_
   rotate_left
   ·show Act.put _ (some 4) _ = _
    simp only [Act.put,List.setIfInBounds_toArray,List.set_cons_zero,List.set_cons_succ,i64_w,i32_w]
    rfl
   refine pI 2 (some 5) ?_
   refine oI 3 (some 6) (fun K hK => ?_)
   refine goes_ Try.func13 (by kernel_rfl) rfl #[] (by rfl) rfl rfl (by (try simp only [List.map_toArray,List.map_cons,List.map_nil]);first|done|rfl|(simp only [List.length_drop,List.length_take];rfl)) ?_
   with_reducible refine (hinterlandlaw17_known.calls k  true _ A4.out).mono ?_
   rintro e w9 ⟨rfl,hb⟩
   refine ⟨_,rfl,?_⟩
   have n0_:=bkb BK274 hb
   have n1_:=Aside0.mk (below_step (hb_) hb)
   clear BK274
   clear HB
   have BK274:=n0_
   have HB:=n1_
   clear n0_ n1_
   (try clear hb)
   (try clear hb2)
   (try clear hk)
   (try clear hi)
   refine hK.out _ _ ⟨(blk_cell BK274.out 0).trans rfl,(blk_cell BK274.out 1).trans rfl,(blk_cell BK274.out 2).trans rfl,(blk_cell BK274.out 3).trans rfl,(blk_cell BK274.out 4).trans rfl,(blk_cell BK274.out 5).trans rfl⟩ (fun hHeld => ?_)
   clear hK K
   refine norm_ (a':=?_) ?_ ?_
   rotate_left
   ·show Act.put _ (some 6) _ = _
    simp only [Act.put,List.setIfInBounds_toArray,List.set_cons_zero,List.set_cons_succ,i64_w,i32_w]
    rfl
   refine pI 4 (some 7) ?_
   refine pI 5 (some 8) ?_
   refine pU 6 (some 9) ?_
   refine pU 7 (some 10) ?_
   refine pU 8 (some 11) ?_
   refine pU 9 (some 12) ?_
   refine pU 10 (some 13) ?_
   refine pU 11 (some 14) ?_
   refine pU 12 (some 15) ?_
   refine pU 13 (some 16) ?_
   refine pI 14 (some 17) ?_
   refine pI 15 (some 2) ?_
   refine done_ (done_of HT_.out (by kernel_rfl)) ?_
   try go_wp2
   go_ret
   exact ⟨by first|rfl|(simp [errW_none,errW_some] <;> rfl)|(simp [*,errW_none,errW_some] <;> rfl),hb_⟩
  ·replace c5:=Bool.eq_false_iff.mpr c5
   subst c5
   have H1 : ((hinterlandref17_Validate.f k a0_0 a0_1 l0_2 l0_3 l0_4 l0_5).bind fun t277 => ((lane_Validate.f k a0_0 a0_1 l0_2 l0_3 l0_4 l0_5).bind fun t278 => (if t277 = t278 then ((hinterlandlaw17_known.f k).bind fun t279 => (some t279)) else (some false)))) = some r:=by rw [if_neg (show ¬ (false = true) by decide)] at H;exact H
   clear H
   have H:=H1
   clear H1
   replace H:=Option.bind_eq_some_iff.mp H
   obtain ⟨t277,A100,H⟩:=H
   replace H : ((lane_Validate.f k a0_0 a0_1 l0_2 l0_3 l0_4 l0_5).bind fun t278 => (if t277 = t278 then ((hinterlandlaw17_known.f k).bind fun t279 => (some t279)) else (some false))) = some r:=H
   have A10:=Aside0.mk A100
   clear A100
   replace H:=Option.bind_eq_some_iff.mp H
   obtain ⟨t278,A110,H⟩:=H
   replace H : (if t277 = t278 then ((hinterlandlaw17_known.f k).bind fun t279 => (some t279)) else (some false)) = some r:=H
   have A11:=Aside0.mk A110
   clear A110
   by_cases c12 : t277 = t278
   rotate_left
   ·rw [if_neg c12] at H
    have c12b0 : (t277 == t278) = false:=beq_eq_false_iff_ne.mpr c12
    have c12b1 : (t277 != t278) = true:=bne_iff_ne.mpr c12
    obtain rfl:=Option.some.inj H
    go_enter Try.func4,Try.ntmps4
    try go_wp2_with (first|((with_reducible refine gate_dst (N:=1) rfl ?_);refine box_ev (N:=1) (cs:=#[.int .i64 a0_0,.int .i64 a0_1,.slice A0_2 l0_2.length c0_2,.slice A0_3 l0_3.length c0_3,.slice A0_4 l0_4.length c0_4,.slice A0_5 l0_5.length c0_5]) (t:=33) ?_;intro gb274 hg w21 hbox hb;have BK274:=Aside0.mk (hbox);have GW274 : Aside0 (w.heap.size ≤ gb274):=gsz hg;have GE274:=GW274;replace HB:=Aside0.mk (below_step (hb_) hb);clear hb hbox hg))
    replace BK274:=Aside0.mk (blk_drew BK274.out)
    replace HB:=Aside0.mk (below_drew1 HB.out)
    refine start_ (n:=16) (S:=fun w' => w'.cell? ⟨gb274,0,none⟩ = some (.int .i64 a0_0) ∧ w'.cell? ⟨gb274,1,none⟩ = some (.int .i64 a0_1) ∧ w'.cell? ⟨gb274,2,none⟩ = some (.slice A0_2 l0_2.length c0_2) ∧ w'.cell? ⟨gb274,3,none⟩ = some (.slice A0_3 l0_3.length c0_3) ∧ w'.cell? ⟨gb274,4,none⟩ = some (.slice A0_4 l0_4.length c0_4) ∧ w'.cell? ⟨gb274,5,none⟩ = some (.slice A0_5 l0_5.length c0_5)) (ds:=[]) #[false,false,false,false,false,false,false,false,false,false,false,false,false,false,false,false] (by kernel_rfl) rfl rfl ⟨(blk_cell BK274.out 0).trans rfl,(blk_cell BK274.out 1).trans rfl,(blk_cell BK274.out 2).trans rfl,(blk_cell BK274.out 3).trans rfl,(blk_cell BK274.out 4).trans rfl,(blk_cell BK274.out 5).trans rfl⟩ (fun hHeld => ?_);refine with_tabW hinterlandlaw17_LaneValidates.tab1 hinterlandlaw17_LaneValidates.bits1 (fun HT_ HW_ => ?_)
    generalize w21.drew = w22 at BK274 HB hHeld ⊢
    refine tI6 0 (some 3) hHeld ?_
    refine oI 1 (some 4) (fun K hK => ?_)
    refine goes_ Try.func16 (by kernel_rfl) rfl #[.agg #[.int .i64 a0_0,.int .i64 a0_1,.slice A0_2 l0_2.length c0_2,.slice A0_3 l0_3.length c0_3,.slice A0_4 l0_4.length c0_4,.slice A0_5 l0_5.length c0_5]] (by rfl) rfl rfl (by (try simp only [List.map_toArray,List.map_cons,List.map_nil]);first|done|rfl|(simp only [List.length_drop,List.length_take];rfl)) ?_
    with_reducible refine (hinterlandlaw17_far.calls a0_0 a0_1 _ _ l0_2 _ _ l0_3 _ _ l0_4 _ _ l0_5 true _ ?side1 ?side2 ?side3 ?side4 ?side5 ?side6 ?side7 ?side8 A2.out).mono ?_
    (case side1 => exact Kd.C_up (Kd.C_below HR0_2.out HB.out))
    (case side2 => exact HC0_2.out)
    (case side3 => exact Kd.C_up (Kd.C_below HR0_3.out HB.out))
    (case side4 => exact HC0_3.out)
    (case side5 => exact Kd.C_up (Kd.C_below HR0_4.out HB.out))
    (case side6 => exact HC0_4.out)
    (case side7 => exact Kd.C_up (Kd.C_below HR0_5.out HB.out))
    (case side8 => exact HC0_5.out)
    rintro e w23 ⟨rfl,hb⟩
    refine ⟨_,rfl,?_⟩
    have n0_:=bkb BK274 hb
    have n1_:=Aside0.mk (below_step (hb_) hb)
    clear BK274
    clear HB
    have BK274:=n0_
    have HB:=n1_
    clear n0_ n1_
    (try clear hb)
    (try clear hb2)
    (try clear hk)
    (try clear hi)
    refine hK.out _ _ ⟨(blk_cell BK274.out 0).trans rfl,(blk_cell BK274.out 1).trans rfl,(blk_cell BK274.out 2).trans rfl,(blk_cell BK274.out 3).trans rfl,(blk_cell BK274.out 4).trans rfl,(blk_cell BK274.out 5).trans rfl⟩ (fun hHeld => ?_)
    clear hK K
    refine norm_ (a':=?_) ?_ ?_
    rotate_left
    ·show Act.put _ (some 4) _ = _
     simp only [Act.put,List.setIfInBounds_toArray,List.set_cons_zero,List.set_cons_succ,i64_w,i32_w]
     rfl
    refine pI 2 (some 5) ?_
    refine oI 3 (some 6) (fun K hK => ?_)
    refine goes_ Try.func13 (by kernel_rfl) rfl #[] (by rfl) rfl rfl (by (try simp only [List.map_toArray,List.map_cons,List.map_nil]);first|done|rfl|(simp only [List.length_drop,List.length_take];rfl)) ?_
    with_reducible refine (hinterlandlaw17_known.calls k  false _ A4.out).mono ?_
    rintro e w24 ⟨rfl,hb⟩
    refine ⟨_,rfl,?_⟩
    have n0_:=bkb BK274 hb
    have n1_:=Aside0.mk (below_step (hb_) hb)
    clear BK274
    clear HB
    have BK274:=n0_
    have HB:=n1_
    clear n0_ n1_
    (try clear hb)
    (try clear hb2)
    (try clear hk)
    (try clear hi)
    refine hK.out _ _ ⟨(blk_cell BK274.out 0).trans rfl,(blk_cell BK274.out 1).trans rfl,(blk_cell BK274.out 2).trans rfl,(blk_cell BK274.out 3).trans rfl,(blk_cell BK274.out 4).trans rfl,(blk_cell BK274.out 5).trans rfl⟩ (fun hHeld => ?_)
    clear hK K
    refine norm_ (a':=?_) ?_ ?_
    rotate_left
    ·show Act.put _ (some 6) _ = _
     simp only [Act.put,List.setIfInBounds_toArray,List.set_cons_zero,List.set_cons_succ,i64_w,i32_w]
     rfl
    refine pI 4 (some 7) ?_
    refine pI 5 (some 8) ?_
    refine tI6 6 (some 9) hHeld ?_
    refine tI6 8 (some 11) hHeld ?_
    refine oI 7 (some 10) (fun K hK => ?_)
    refine goes_ Try.func17 (by kernel_rfl) rfl #[.agg #[.int .i64 a0_0,.int .i64 a0_1,.slice A0_2 l0_2.length c0_2,.slice A0_3 l0_3.length c0_3,.slice A0_4 l0_4.length c0_4,.slice A0_5 l0_5.length c0_5]] (by rfl) rfl rfl (by (try simp only [List.map_toArray,List.map_cons,List.map_nil]);first|done|rfl|(simp only [List.length_drop,List.length_take];rfl)) ?_
    with_reducible refine (hinterlandref17_Validate.calls k a0_0 a0_1 _ _ l0_2 _ _ l0_3 _ _ l0_4 _ _ l0_5 t277 _ ?side1 ?side2 ?side3 ?side4 ?side5 ?side6 ?side7 ?side8 A10.out).mono ?_
    (case side1 => exact Kd.C_up (Kd.C_below HR0_2.out HB.out))
    (case side2 => exact HC0_2.out)
    (case side3 => exact Kd.C_up (Kd.C_below HR0_3.out HB.out))
    (case side4 => exact HC0_3.out)
    (case side5 => exact Kd.C_up (Kd.C_below HR0_4.out HB.out))
    (case side6 => exact HC0_4.out)
    (case side7 => exact Kd.C_up (Kd.C_below HR0_5.out HB.out))
    (case side8 => exact HC0_5.out)
    rintro e w25 ⟨rfl,hb⟩
    refine ⟨_,rfl,?_⟩
    have n0_:=bkb BK274 hb
    have n1_:=Aside0.mk (below_step (hb_) hb)
    clear BK274
    clear HB
    have BK274:=n0_
    have HB:=n1_
    clear n0_ n1_
    (try clear hb)
    (try clear hb2)
    (try clear hk)
    (try clear hi)
    refine hK.out _ _ ⟨(blk_cell BK274.out 0).trans rfl,(blk_cell BK274.out 1).trans rfl,(blk_cell BK274.out 2).trans rfl,(blk_cell BK274.out 3).trans rfl,(blk_cell BK274.out 4).trans rfl,(blk_cell BK274.out 5).trans rfl⟩ (fun hHeld => ?_)
    clear hK K
    refine norm_ (a':=?_) ?_ ?_
    rotate_left
    ·show Act.put _ (some 10) _ = _
     simp only [Act.put,List.setIfInBounds_toArray,List.set_cons_zero,List.set_cons_succ,i64_w,i32_w]
     rfl
    refine oI 9 (some 12) (fun K hK => ?_)
    refine goes_ Try.func18 (by kernel_rfl) rfl #[.agg #[.int .i64 a0_0,.int .i64 a0_1,.slice A0_2 l0_2.length c0_2,.slice A0_3 l0_3.length c0_3,.slice A0_4 l0_4.length c0_4,.slice A0_5 l0_5.length c0_5]] (by rfl) rfl rfl (by (try simp only [List.map_toArray,List.map_cons,List.map_nil]);first|done|rfl|(simp only [List.length_drop,List.length_take];rfl)) ?_
    with_reducible refine (lane_Validate.calls k a0_0 a0_1 _ _ l0_2 _ _ l0_3 _ _ l0_4 _ _ l0_5 t278 _ ?side1 ?side2 ?side3 ?side4 ?side5 ?side6 ?side7 ?side8 A11.out).mono ?_
    (case side1 => exact Kd.C_up (Kd.C_below HR0_2.out HB.out))
    (case side2 => exact HC0_2.out)
    (case side3 => exact Kd.C_up (Kd.C_below HR0_3.out HB.out))
    (case side4 => exact HC0_3.out)
    (case side5 => exact Kd.C_up (Kd.C_below HR0_4.out HB.out))
    (case side6 => exact HC0_4.out)
    (case side7 => exact Kd.C_up (Kd.C_below HR0_5.out HB.out))
    (case side8 => exact HC0_5.out)
    rintro e w26 ⟨rfl,hb⟩
    refine ⟨_,rfl,?_⟩
    have n0_:=bkb BK274 hb
    have n1_:=Aside0.mk (below_step (hb_) hb)
    clear BK274
    clear HB
    have BK274:=n0_
    have HB:=n1_
    clear n0_ n1_
    (try clear hb)
    (try clear hb2)
    (try clear hk)
    (try clear hi)
    refine hK.out _ _ ⟨(blk_cell BK274.out 0).trans rfl,(blk_cell BK274.out 1).trans rfl,(blk_cell BK274.out 2).trans rfl,(blk_cell BK274.out 3).trans rfl,(blk_cell BK274.out 4).trans rfl,(blk_cell BK274.out 5).trans rfl⟩ (fun hHeld => ?_)
    clear hK K
    refine norm_ (a':=?_) ?_ ?_
    rotate_left
    ·show Act.put _ (some 12) _ = _
     simp only [Act.put,List.setIfInBounds_toArray,List.set_cons_zero,List.set_cons_succ,i64_w,i32_w]
     rfl
    refine pI 10 (some 13) ?_
    refine pI 11 (some 14) ?_
    refine pU 12 (some 15) ?_
    refine pI 13 (some 16) ?_
    refine pI 14 (some 17) ?_
    refine pI 15 (some 2) ?_
    refine done_ (done_of HT_.out (by kernel_rfl)) ?_
    try go_wp2
    go_ret
    exact ⟨by first|rfl|(simp [errW_none,errW_some] <;> rfl)|(simp [*,errW_none,errW_some] <;> rfl),hb_⟩
   rw [if_pos c12] at H
   have c12b0 : (t277 == t278) = true:=beq_iff_eq.mpr c12
   have c12b1 : (t277 != t278) = false:=bne_eq_false_iff_eq.mpr c12
   clear c12
   replace H:=Option.bind_eq_some_iff.mp H
   obtain ⟨t279,A130,H⟩:=H
   replace H : (some t279) = some r:=H
   have A13:=Aside0.mk A130
   clear A130
   obtain rfl:=Option.some.inj H
   go_enter Try.func4,Try.ntmps4
   try go_wp2_with (first|((with_reducible refine gate_dst (N:=1) rfl ?_);refine box_ev (N:=1) (cs:=#[.int .i64 a0_0,.int .i64 a0_1,.slice A0_2 l0_2.length c0_2,.slice A0_3 l0_3.length c0_3,.slice A0_4 l0_4.length c0_4,.slice A0_5 l0_5.length c0_5]) (t:=33) ?_;intro gb274 hg w14 hbox hb;have BK274:=Aside0.mk (hbox);have GW274 : Aside0 (w.heap.size ≤ gb274):=gsz hg;have GE274:=GW274;replace HB:=Aside0.mk (below_step (hb_) hb);clear hb hbox hg))
   replace BK274:=Aside0.mk (blk_drew BK274.out)
   replace HB:=Aside0.mk (below_drew1 HB.out)
   refine start_ (n:=16) (S:=fun w' => w'.cell? ⟨gb274,0,none⟩ = some (.int .i64 a0_0) ∧ w'.cell? ⟨gb274,1,none⟩ = some (.int .i64 a0_1) ∧ w'.cell? ⟨gb274,2,none⟩ = some (.slice A0_2 l0_2.length c0_2) ∧ w'.cell? ⟨gb274,3,none⟩ = some (.slice A0_3 l0_3.length c0_3) ∧ w'.cell? ⟨gb274,4,none⟩ = some (.slice A0_4 l0_4.length c0_4) ∧ w'.cell? ⟨gb274,5,none⟩ = some (.slice A0_5 l0_5.length c0_5)) (ds:=[]) #[false,false,false,false,false,false,false,false,false,false,false,false,false,false,false,false] (by kernel_rfl) rfl rfl ⟨(blk_cell BK274.out 0).trans rfl,(blk_cell BK274.out 1).trans rfl,(blk_cell BK274.out 2).trans rfl,(blk_cell BK274.out 3).trans rfl,(blk_cell BK274.out 4).trans rfl,(blk_cell BK274.out 5).trans rfl⟩ (fun hHeld => ?_);refine with_tabW hinterlandlaw17_LaneValidates.tab1 hinterlandlaw17_LaneValidates.bits1 (fun HT_ HW_ => ?_)
   generalize w14.drew = w15 at BK274 HB hHeld ⊢
   refine tI6 0 (some 3) hHeld ?_
   refine oI 1 (some 4) (fun K hK => ?_)
   refine goes_ Try.func16 (by kernel_rfl) rfl #[.agg #[.int .i64 a0_0,.int .i64 a0_1,.slice A0_2 l0_2.length c0_2,.slice A0_3 l0_3.length c0_3,.slice A0_4 l0_4.length c0_4,.slice A0_5 l0_5.length c0_5]] (by rfl) rfl rfl (by (try simp only [List.map_toArray,List.map_cons,List.map_nil]);first|done|rfl|(simp only [List.length_drop,List.length_take];rfl)) ?_
   with_reducible refine (hinterlandlaw17_far.calls a0_0 a0_1 _ _ l0_2 _ _ l0_3 _ _ l0_4 _ _ l0_5 true _ ?side1 ?side2 ?side3 ?side4 ?side5 ?side6 ?side7 ?side8 A2.out).mono ?_
   (case side1 => exact Kd.C_up (Kd.C_below HR0_2.out HB.out))
   (case side2 => exact HC0_2.out)
   (case side3 => exact Kd.C_up (Kd.C_below HR0_3.out HB.out))
   (case side4 => exact HC0_3.out)
   (case side5 => exact Kd.C_up (Kd.C_below HR0_4.out HB.out))
   (case side6 => exact HC0_4.out)
   (case side7 => exact Kd.C_up (Kd.C_below HR0_5.out HB.out))
   (case side8 => exact HC0_5.out)
   rintro e w16 ⟨rfl,hb⟩
   refine ⟨_,rfl,?_⟩
   have n0_:=bkb BK274 hb
   have n1_:=Aside0.mk (below_step (hb_) hb)
   clear BK274
   clear HB
   have BK274:=n0_
   have HB:=n1_
   clear n0_ n1_
   (try clear hb)
   (try clear hb2)
   (try clear hk)
   (try clear hi)
   refine hK.out _ _ ⟨(blk_cell BK274.out 0).trans rfl,(blk_cell BK274.out 1).trans rfl,(blk_cell BK274.out 2).trans rfl,(blk_cell BK274.out 3).trans rfl,(blk_cell BK274.out 4).trans rfl,(blk_cell BK274.out 5).trans rfl⟩ (fun hHeld => ?_)
   clear hK K
   refine norm_ (a':=?_) ?_ ?_
   rotate_left
   ·show Act.put _ (some 4) _ = _
    simp only [Act.put,List.setIfInBounds_toArray,List.set_cons_zero,List.set_cons_succ,i64_w,i32_w]
    rfl
   refine pI 2 (some 5) ?_
   refine oI 3 (some 6) (fun K hK => ?_)
   refine goes_ Try.func13 (by kernel_rfl) rfl #[] (by rfl) rfl rfl (by (try simp only [List.map_toArray,List.map_cons,List.map_nil]);first|done|rfl|(simp only [List.length_drop,List.length_take];rfl)) ?_
   with_reducible refine (hinterlandlaw17_known.calls k  false _ A4.out).mono ?_
   rintro e w17 ⟨rfl,hb⟩
   refine ⟨_,rfl,?_⟩
   have n0_:=bkb BK274 hb
   have n1_:=Aside0.mk (below_step (hb_) hb)
   clear BK274
   clear HB
   have BK274:=n0_
   have HB:=n1_
   clear n0_ n1_
   (try clear hb)
   (try clear hb2)
   (try clear hk)
   (try clear hi)
   refine hK.out _ _ ⟨(blk_cell BK274.out 0).trans rfl,(blk_cell BK274.out 1).trans rfl,(blk_cell BK274.out 2).trans rfl,(blk_cell BK274.out 3).trans rfl,(blk_cell BK274.out 4).trans rfl,(blk_cell BK274.out 5).trans rfl⟩ (fun hHeld => ?_)
   clear hK K
   refine norm_ (a':=?_) ?_ ?_
   rotate_left
   ·show Act.put _ (some 6) _ = _
    simp only [Act.put,List.setIfInBounds_toArray,List.set_cons_zero,List.set_cons_succ,i64_w,i32_w]
    rfl
   refine pI 4 (some 7) ?_
   refine pI 5 (some 8) ?_
   refine tI6 6 (some 9) hHeld ?_
   refine tI6 8 (some 11) hHeld ?_
   refine oI 7 (some 10) (fun K hK => ?_)
   refine goes_ Try.func17 (by kernel_rfl) rfl #[.agg #[.int .i64 a0_0,.int .i64 a0_1,.slice A0_2 l0_2.length c0_2,.slice A0_3 l0_3.length c0_3,.slice A0_4 l0_4.length c0_4,.slice A0_5 l0_5.length c0_5]] (by rfl) rfl rfl (by (try simp only [List.map_toArray,List.map_cons,List.map_nil]);first|done|rfl|(simp only [List.length_drop,List.length_take];rfl)) ?_
   with_reducible refine (hinterlandref17_Validate.calls k a0_0 a0_1 _ _ l0_2 _ _ l0_3 _ _ l0_4 _ _ l0_5 t277 _ ?side1 ?side2 ?side3 ?side4 ?side5 ?side6 ?side7 ?side8 A10.out).mono ?_
   (case side1 => exact Kd.C_up (Kd.C_below HR0_2.out HB.out))
   (case side2 => exact HC0_2.out)
   (case side3 => exact Kd.C_up (Kd.C_below HR0_3.out HB.out))
   (case side4 => exact HC0_3.out)
   (case side5 => exact Kd.C_up (Kd.C_below HR0_4.out HB.out))
   (case side6 => exact HC0_4.out)
   (case side7 => exact Kd.C_up (Kd.C_below HR0_5.out HB.out))
   (case side8 => exact HC0_5.out)
   rintro e w18 ⟨rfl,hb⟩
   refine ⟨_,rfl,?_⟩
   have n0_:=bkb BK274 hb
   have n1_:=Aside0.mk (below_step (hb_) hb)
   clear BK274
   clear HB
   have BK274:=n0_
   have HB:=n1_
   clear n0_ n1_
   (try clear hb)
   (try clear hb2)
   (try clear hk)
   (try clear hi)
   refine hK.out _ _ ⟨(blk_cell BK274.out 0).trans rfl,(blk_cell BK274.out 1).trans rfl,(blk_cell BK274.out 2).trans rfl,(blk_cell BK274.out 3).trans rfl,(blk_cell BK274.out 4).trans rfl,(blk_cell BK274.out 5).trans rfl⟩ (fun hHeld => ?_)
   clear hK K
   refine norm_ (a':=?_) ?_ ?_
   rotate_left
   ·show Act.put _ (some 10) _ = _
    simp only [Act.put,List.setIfInBounds_toArray,List.set_cons_zero,List.set_cons_succ,i64_w,i32_w]
    rfl
   refine oI 9 (some 12) (fun K hK => ?_)
   refine goes_ Try.func18 (by kernel_rfl) rfl #[.agg #[.int .i64 a0_0,.int .i64 a0_1,.slice A0_2 l0_2.length c0_2,.slice A0_3 l0_3.length c0_3,.slice A0_4 l0_4.length c0_4,.slice A0_5 l0_5.length c0_5]] (by rfl) rfl rfl (by (try simp only [List.map_toArray,List.map_cons,List.map_nil]);first|done|rfl|(simp only [List.length_drop,List.length_take];rfl)) ?_
   with_reducible refine (lane_Validate.calls k a0_0 a0_1 _ _ l0_2 _ _ l0_3 _ _ l0_4 _ _ l0_5 t278 _ ?side1 ?side2 ?side3 ?side4 ?side5 ?side6 ?side7 ?side8 A11.out).mono ?_
   (case side1 => exact Kd.C_up (Kd.C_below HR0_2.out HB.out))
   (case side2 => exact HC0_2.out)
   (case side3 => exact Kd.C_up (Kd.C_below HR0_3.out HB.out))
   (case side4 => exact HC0_3.out)
   (case side5 => exact Kd.C_up (Kd.C_below HR0_4.out HB.out))
   (case side6 => exact HC0_4.out)
   (case side7 => exact Kd.C_up (Kd.C_below HR0_5.out HB.out))
   (case side8 => exact HC0_5.out)
   rintro e w19 ⟨rfl,hb⟩
   refine ⟨_,rfl,?_⟩
   have n0_:=bkb BK274 hb
   have n1_:=Aside0.mk (below_step (hb_) hb)
   clear BK274
   clear HB
   have BK274:=n0_
   have HB:=n1_
   clear n0_ n1_
   (try clear hb)
   (try clear hb2)
   (try clear hk)
   (try clear hi)
   refine hK.out _ _ ⟨(blk_cell BK274.out 0).trans rfl,(blk_cell BK274.out 1).trans rfl,(blk_cell BK274.out 2).trans rfl,(blk_cell BK274.out 3).trans rfl,(blk_cell BK274.out 4).trans rfl,(blk_cell BK274.out 5).trans rfl⟩ (fun hHeld => ?_)
   clear hK K
   refine norm_ (a':=?_) ?_ ?_
   rotate_left
   ·show Act.put _ (some 12) _ = _
    simp only [Act.put,List.setIfInBounds_toArray,List.set_cons_zero,List.set_cons_succ,i64_w,i32_w]
    rfl
   refine pI 10 (some 13) ?_
   refine pI 11 (some 14) ?_
   refine oI 12 (some 15) (fun K hK => ?_)
   refine goes_ Try.func13 (by kernel_rfl) rfl #[] (by rfl) rfl rfl (by (try simp only [List.map_toArray,List.map_cons,List.map_nil]);first|done|rfl|(simp only [List.length_drop,List.length_take];rfl)) ?_
   with_reducible refine (hinterlandlaw17_known.calls k  t279 _ A13.out).mono ?_
   rintro e w20 ⟨rfl,hb⟩
   refine ⟨_,rfl,?_⟩
   have n0_:=bkb BK274 hb
   have n1_:=Aside0.mk (below_step (hb_) hb)
   clear BK274
   clear HB
   have BK274:=n0_
   have HB:=n1_
   clear n0_ n1_
   (try clear hb)
   (try clear hb2)
   (try clear hk)
   (try clear hi)
   refine hK.out _ _ ⟨(blk_cell BK274.out 0).trans rfl,(blk_cell BK274.out 1).trans rfl,(blk_cell BK274.out 2).trans rfl,(blk_cell BK274.out 3).trans rfl,(blk_cell BK274.out 4).trans rfl,(blk_cell BK274.out 5).trans rfl⟩ (fun hHeld => ?_)
   clear hK K
   refine norm_ (a':=?_) ?_ ?_
   rotate_left
   ·show Act.put _ (some 15) _ = _
    simp only [Act.put,List.setIfInBounds_toArray,List.set_cons_zero,List.set_cons_succ,i64_w,i32_w]
    rfl
   refine pI 13 (some 16) ?_
   refine pI 14 (some 17) ?_
   refine pI 15 (some 2) ?_
   refine done_ (done_of HT_.out (by kernel_rfl)) ?_
   try go_wp2
   go_ret
   exact ⟨by first|rfl|(simp [errW_none,errW_some] <;> rfl)|(simp [*,errW_none,errW_some] <;> rfl),hb_⟩
 ·replace c3:=Bool.eq_false_iff.mpr c3
  subst c3
  have H1 : ((hinterlandref17_Validate.f k a0_0 a0_1 l0_2 l0_3 l0_4 l0_5).bind fun t280 => ((lane_Validate.f k a0_0 a0_1 l0_2 l0_3 l0_4 l0_5).bind fun t281 => (if t280 = t281 then ((hinterlandlaw17_known.f k).bind fun t282 => (some t282)) else (some false)))) = some r:=by rw [if_neg (show ¬ (false = true) by decide)] at H;exact H
  clear H
  have H:=H1
  clear H1
  replace H:=Option.bind_eq_some_iff.mp H
  obtain ⟨t280,A270,H⟩:=H
  replace H : ((lane_Validate.f k a0_0 a0_1 l0_2 l0_3 l0_4 l0_5).bind fun t281 => (if t280 = t281 then ((hinterlandlaw17_known.f k).bind fun t282 => (some t282)) else (some false))) = some r:=H
  have A27:=Aside0.mk A270
  clear A270
  replace H:=Option.bind_eq_some_iff.mp H
  obtain ⟨t281,A280,H⟩:=H
  replace H : (if t280 = t281 then ((hinterlandlaw17_known.f k).bind fun t282 => (some t282)) else (some false)) = some r:=H
  have A28:=Aside0.mk A280
  clear A280
  by_cases c29 : t280 = t281
  rotate_left
  ·rw [if_neg c29] at H
   have c29b0 : (t280 == t281) = false:=beq_eq_false_iff_ne.mpr c29
   have c29b1 : (t280 != t281) = true:=bne_iff_ne.mpr c29
   obtain rfl:=Option.some.inj H
   go_enter Try.func4,Try.ntmps4
   try go_wp2_with (first|((with_reducible refine gate_dst (N:=1) rfl ?_);refine box_ev (N:=1) (cs:=#[.int .i64 a0_0,.int .i64 a0_1,.slice A0_2 l0_2.length c0_2,.slice A0_3 l0_3.length c0_3,.slice A0_4 l0_4.length c0_4,.slice A0_5 l0_5.length c0_5]) (t:=33) ?_;intro gb274 hg w37 hbox hb;have BK274:=Aside0.mk (hbox);have GW274 : Aside0 (w.heap.size ≤ gb274):=gsz hg;have GE274:=GW274;replace HB:=Aside0.mk (below_step (hb_) hb);clear hb hbox hg))
   replace BK274:=Aside0.mk (blk_drew BK274.out)
   replace HB:=Aside0.mk (below_drew1 HB.out)
   refine start_ (n:=16) (S:=fun w' => w'.cell? ⟨gb274,0,none⟩ = some (.int .i64 a0_0) ∧ w'.cell? ⟨gb274,1,none⟩ = some (.int .i64 a0_1) ∧ w'.cell? ⟨gb274,2,none⟩ = some (.slice A0_2 l0_2.length c0_2) ∧ w'.cell? ⟨gb274,3,none⟩ = some (.slice A0_3 l0_3.length c0_3) ∧ w'.cell? ⟨gb274,4,none⟩ = some (.slice A0_4 l0_4.length c0_4) ∧ w'.cell? ⟨gb274,5,none⟩ = some (.slice A0_5 l0_5.length c0_5)) (ds:=[]) #[false,false,false,false,false,false,false,false,false,false,false,false,false,false,false,false] (by kernel_rfl) rfl rfl ⟨(blk_cell BK274.out 0).trans rfl,(blk_cell BK274.out 1).trans rfl,(blk_cell BK274.out 2).trans rfl,(blk_cell BK274.out 3).trans rfl,(blk_cell BK274.out 4).trans rfl,(blk_cell BK274.out 5).trans rfl⟩ (fun hHeld => ?_);refine with_tabW hinterlandlaw17_LaneValidates.tab1 hinterlandlaw17_LaneValidates.bits1 (fun HT_ HW_ => ?_)
   generalize w37.drew = w38 at BK274 HB hHeld ⊢
   refine tI6 0 (some 3) hHeld ?_
   refine oI 1 (some 4) (fun K hK => ?_)
   refine goes_ Try.func16 (by kernel_rfl) rfl #[.agg #[.int .i64 a0_0,.int .i64 a0_1,.slice A0_2 l0_2.length c0_2,.slice A0_3 l0_3.length c0_3,.slice A0_4 l0_4.length c0_4,.slice A0_5 l0_5.length c0_5]] (by rfl) rfl rfl (by (try simp only [List.map_toArray,List.map_cons,List.map_nil]);first|done|rfl|(simp only [List.length_drop,List.length_take];rfl)) ?_
   with_reducible refine (hinterlandlaw17_far.calls a0_0 a0_1 _ _ l0_2 _ _ l0_3 _ _ l0_4 _ _ l0_5 false _ ?side1 ?side2 ?side3 ?side4 ?side5 ?side6 ?side7 ?side8 A2.out).mono ?_
   (case side1 => exact Kd.C_up (Kd.C_below HR0_2.out HB.out))
   (case side2 => exact HC0_2.out)
   (case side3 => exact Kd.C_up (Kd.C_below HR0_3.out HB.out))
   (case side4 => exact HC0_3.out)
   (case side5 => exact Kd.C_up (Kd.C_below HR0_4.out HB.out))
   (case side6 => exact HC0_4.out)
   (case side7 => exact Kd.C_up (Kd.C_below HR0_5.out HB.out))
   (case side8 => exact HC0_5.out)
   rintro e w39 ⟨rfl,hb⟩
   refine ⟨_,rfl,?_⟩
   have n0_:=bkb BK274 hb
   have n1_:=Aside0.mk (below_step (hb_) hb)
   clear BK274
   clear HB
   have BK274:=n0_
   have HB:=n1_
   clear n0_ n1_
   (try clear hb)
   (try clear hb2)
   (try clear hk)
   (try clear hi)
   refine hK.out _ _ ⟨(blk_cell BK274.out 0).trans rfl,(blk_cell BK274.out 1).trans rfl,(blk_cell BK274.out 2).trans rfl,(blk_cell BK274.out 3).trans rfl,(blk_cell BK274.out 4).trans rfl,(blk_cell BK274.out 5).trans rfl⟩ (fun hHeld => ?_)
   clear hK K
   refine norm_ (a':=?_) ?_ ?_
   rotate_left
   ·show Act.put _ (some 4) _ = _
    simp only [Act.put,List.setIfInBounds_toArray,List.set_cons_zero,List.set_cons_succ,i64_w,i32_w]
    rfl
   refine pI 2 (some 5) ?_
   refine pU 3 (some 6) ?_
   refine pI 4 (some 7) ?_
   refine pI 5 (some 8) ?_
   refine tI6 6 (some 9) hHeld ?_
   refine tI6 8 (some 11) hHeld ?_
   refine oI 7 (some 10) (fun K hK => ?_)
   refine goes_ Try.func17 (by kernel_rfl) rfl #[.agg #[.int .i64 a0_0,.int .i64 a0_1,.slice A0_2 l0_2.length c0_2,.slice A0_3 l0_3.length c0_3,.slice A0_4 l0_4.length c0_4,.slice A0_5 l0_5.length c0_5]] (by rfl) rfl rfl (by (try simp only [List.map_toArray,List.map_cons,List.map_nil]);first|done|rfl|(simp only [List.length_drop,List.length_take];rfl)) ?_
   with_reducible refine (hinterlandref17_Validate.calls k a0_0 a0_1 _ _ l0_2 _ _ l0_3 _ _ l0_4 _ _ l0_5 t280 _ ?side1 ?side2 ?side3 ?side4 ?side5 ?side6 ?side7 ?side8 A27.out).mono ?_
   (case side1 => exact Kd.C_up (Kd.C_below HR0_2.out HB.out))
   (case side2 => exact HC0_2.out)
   (case side3 => exact Kd.C_up (Kd.C_below HR0_3.out HB.out))
   (case side4 => exact HC0_3.out)
   (case side5 => exact Kd.C_up (Kd.C_below HR0_4.out HB.out))
   (case side6 => exact HC0_4.out)
   (case side7 => exact Kd.C_up (Kd.C_below HR0_5.out HB.out))
   (case side8 => exact HC0_5.out)
   rintro e w40 ⟨rfl,hb⟩
   refine ⟨_,rfl,?_⟩
   have n0_:=bkb BK274 hb
   have n1_:=Aside0.mk (below_step (hb_) hb)
   clear BK274
   clear HB
   have BK274:=n0_
   have HB:=n1_
   clear n0_ n1_
   (try clear hb)
   (try clear hb2)
   (try clear hk)
   (try clear hi)
   refine hK.out _ _ ⟨(blk_cell BK274.out 0).trans rfl,(blk_cell BK274.out 1).trans rfl,(blk_cell BK274.out 2).trans rfl,(blk_cell BK274.out 3).trans rfl,(blk_cell BK274.out 4).trans rfl,(blk_cell BK274.out 5).trans rfl⟩ (fun hHeld => ?_)
   clear hK K
   refine norm_ (a':=?_) ?_ ?_
   rotate_left
   ·show Act.put _ (some 10) _ = _
    simp only [Act.put,List.setIfInBounds_toArray,List.set_cons_zero,List.set_cons_succ,i64_w,i32_w]
    rfl
   refine oI 9 (some 12) (fun K hK => ?_)
   refine goes_ Try.func18 (by kernel_rfl) rfl #[.agg #[.int .i64 a0_0,.int .i64 a0_1,.slice A0_2 l0_2.length c0_2,.slice A0_3 l0_3.length c0_3,.slice A0_4 l0_4.length c0_4,.slice A0_5 l0_5.length c0_5]] (by rfl) rfl rfl (by (try simp only [List.map_toArray,List.map_cons,List.map_nil]);first|done|rfl|(simp only [List.length_drop,List.length_take];rfl)) ?_
   with_reducible refine (lane_Validate.calls k a0_0 a0_1 _ _ l0_2 _ _ l0_3 _ _ l0_4 _ _ l0_5 t281 _ ?side1 ?side2 ?side3 ?side4 ?side5 ?side6 ?side7 ?side8 A28.out).mono ?_
   (case side1 => exact Kd.C_up (Kd.C_below HR0_2.out HB.out))
   (case side2 => exact HC0_2.out)
   (case side3 => exact Kd.C_up (Kd.C_below HR0_3.out HB.out))
   (case side4 => exact HC0_3.out)
   (case side5 => exact Kd.C_up (Kd.C_below HR0_4.out HB.out))
   (case side6 => exact HC0_4.out)
   (case side7 => exact Kd.C_up (Kd.C_below HR0_5.out HB.out))
   (case side8 => exact HC0_5.out)
   rintro e w41 ⟨rfl,hb⟩
   refine ⟨_,rfl,?_⟩
   have n0_:=bkb BK274 hb
   have n1_:=Aside0.mk (below_step (hb_) hb)
   clear BK274
   clear HB
   have BK274:=n0_
   have HB:=n1_
   clear n0_ n1_
   (try clear hb)
   (try clear hb2)
   (try clear hk)
   (try clear hi)
   refine hK.out _ _ ⟨(blk_cell BK274.out 0).trans rfl,(blk_cell BK274.out 1).trans rfl,(blk_cell BK274.out 2).trans rfl,(blk_cell BK274.out 3).trans rfl,(blk_cell BK274.out 4).trans rfl,(blk_cell BK274.out 5).trans rfl⟩ (fun hHeld => ?_)
   clear hK K
   refine norm_ (a':=?_) ?_ ?_
   rotate_left
   ·show Act.put _ (some 12) _ = _
    simp only [Act.put,List.setIfInBounds_toArray,List.set_cons_zero,List.set_cons_succ,i64_w,i32_w]
    rfl
   refine pI 10 (some 13) ?_
   refine pI 11 (some 14) ?_
   refine pU 12 (some 15) ?_
   refine pI 13 (some 16) ?_
   refine pI 14 (some 17) ?_
   refine pI 15 (some 2) ?_
   refine done_ (done_of HT_.out (by kernel_rfl)) ?_
   try go_wp2
   go_ret
   exact ⟨by first|rfl|(simp [errW_none,errW_some] <;> rfl)|(simp [*,errW_none,errW_some] <;> rfl),hb_⟩
  rw [if_pos c29] at H
  have c29b0 : (t280 == t281) = true:=beq_iff_eq.mpr c29
  have c29b1 : (t280 != t281) = false:=bne_eq_false_iff_eq.mpr c29
  clear c29
  replace H:=Option.bind_eq_some_iff.mp H
  obtain ⟨t282,A300,H⟩:=H
  replace H : (some t282) = some r:=H
  have A30:=Aside0.mk A300
  clear A300
  obtain rfl:=Option.some.inj H
  go_enter Try.func4,Try.ntmps4
  try go_wp2_with (first|((with_reducible refine gate_dst (N:=1) rfl ?_);refine box_ev (N:=1) (cs:=#[.int .i64 a0_0,.int .i64 a0_1,.slice A0_2 l0_2.length c0_2,.slice A0_3 l0_3.length c0_3,.slice A0_4 l0_4.length c0_4,.slice A0_5 l0_5.length c0_5]) (t:=33) ?_;intro gb274 hg w31 hbox hb;have BK274:=Aside0.mk (hbox);have GW274 : Aside0 (w.heap.size ≤ gb274):=gsz hg;have GE274:=GW274;replace HB:=Aside0.mk (below_step (hb_) hb);clear hb hbox hg))
  replace BK274:=Aside0.mk (blk_drew BK274.out)
  replace HB:=Aside0.mk (below_drew1 HB.out)
  refine start_ (n:=16) (S:=fun w' => w'.cell? ⟨gb274,0,none⟩ = some (.int .i64 a0_0) ∧ w'.cell? ⟨gb274,1,none⟩ = some (.int .i64 a0_1) ∧ w'.cell? ⟨gb274,2,none⟩ = some (.slice A0_2 l0_2.length c0_2) ∧ w'.cell? ⟨gb274,3,none⟩ = some (.slice A0_3 l0_3.length c0_3) ∧ w'.cell? ⟨gb274,4,none⟩ = some (.slice A0_4 l0_4.length c0_4) ∧ w'.cell? ⟨gb274,5,none⟩ = some (.slice A0_5 l0_5.length c0_5)) (ds:=[]) #[false,false,false,false,false,false,false,false,false,false,false,false,false,false,false,false] (by kernel_rfl) rfl rfl ⟨(blk_cell BK274.out 0).trans rfl,(blk_cell BK274.out 1).trans rfl,(blk_cell BK274.out 2).trans rfl,(blk_cell BK274.out 3).trans rfl,(blk_cell BK274.out 4).trans rfl,(blk_cell BK274.out 5).trans rfl⟩ (fun hHeld => ?_);refine with_tabW hinterlandlaw17_LaneValidates.tab1 hinterlandlaw17_LaneValidates.bits1 (fun HT_ HW_ => ?_)
  generalize w31.drew = w32 at BK274 HB hHeld ⊢
  refine tI6 0 (some 3) hHeld ?_
  refine oI 1 (some 4) (fun K hK => ?_)
  refine goes_ Try.func16 (by kernel_rfl) rfl #[.agg #[.int .i64 a0_0,.int .i64 a0_1,.slice A0_2 l0_2.length c0_2,.slice A0_3 l0_3.length c0_3,.slice A0_4 l0_4.length c0_4,.slice A0_5 l0_5.length c0_5]] (by rfl) rfl rfl (by (try simp only [List.map_toArray,List.map_cons,List.map_nil]);first|done|rfl|(simp only [List.length_drop,List.length_take];rfl)) ?_
  with_reducible refine (hinterlandlaw17_far.calls a0_0 a0_1 _ _ l0_2 _ _ l0_3 _ _ l0_4 _ _ l0_5 false _ ?side1 ?side2 ?side3 ?side4 ?side5 ?side6 ?side7 ?side8 A2.out).mono ?_
  (case side1 => exact Kd.C_up (Kd.C_below HR0_2.out HB.out))
  (case side2 => exact HC0_2.out)
  (case side3 => exact Kd.C_up (Kd.C_below HR0_3.out HB.out))
  (case side4 => exact HC0_3.out)
  (case side5 => exact Kd.C_up (Kd.C_below HR0_4.out HB.out))
  (case side6 => exact HC0_4.out)
  (case side7 => exact Kd.C_up (Kd.C_below HR0_5.out HB.out))
  (case side8 => exact HC0_5.out)
  rintro e w33 ⟨rfl,hb⟩
  refine ⟨_,rfl,?_⟩
  have n0_:=bkb BK274 hb
  have n1_:=Aside0.mk (below_step (hb_) hb)
  clear BK274
  clear HB
  have BK274:=n0_
  have HB:=n1_
  clear n0_ n1_
  (try clear hb)
  (try clear hb2)
  (try clear hk)
  (try clear hi)
  refine hK.out _ _ ⟨(blk_cell BK274.out 0).trans rfl,(blk_cell BK274.out 1).trans rfl,(blk_cell BK274.out 2).trans rfl,(blk_cell BK274.out 3).trans rfl,(blk_cell BK274.out 4).trans rfl,(blk_cell BK274.out 5).trans rfl⟩ (fun hHeld => ?_)
  clear hK K
  refine norm_ (a':=?_) ?_ ?_
  rotate_left
  ·show Act.put _ (some 4) _ = _
   simp only [Act.put,List.setIfInBounds_toArray,List.set_cons_zero,List.set_cons_succ,i64_w,i32_w]
   rfl
  refine pI 2 (some 5) ?_
  refine pU 3 (some 6) ?_
  refine pI 4 (some 7) ?_
  refine pI 5 (some 8) ?_
  refine tI6 6 (some 9) hHeld ?_
  refine tI6 8 (some 11) hHeld ?_
  refine oI 7 (some 10) (fun K hK => ?_)
  refine goes_ Try.func17 (by kernel_rfl) rfl #[.agg #[.int .i64 a0_0,.int .i64 a0_1,.slice A0_2 l0_2.length c0_2,.slice A0_3 l0_3.length c0_3,.slice A0_4 l0_4.length c0_4,.slice A0_5 l0_5.length c0_5]] (by rfl) rfl rfl (by (try simp only [List.map_toArray,List.map_cons,List.map_nil]);first|done|rfl|(simp only [List.length_drop,List.length_take];rfl)) ?_
  with_reducible refine (hinterlandref17_Validate.calls k a0_0 a0_1 _ _ l0_2 _ _ l0_3 _ _ l0_4 _ _ l0_5 t280 _ ?side1 ?side2 ?side3 ?side4 ?side5 ?side6 ?side7 ?side8 A27.out).mono ?_
  (case side1 => exact Kd.C_up (Kd.C_below HR0_2.out HB.out))
  (case side2 => exact HC0_2.out)
  (case side3 => exact Kd.C_up (Kd.C_below HR0_3.out HB.out))
  (case side4 => exact HC0_3.out)
  (case side5 => exact Kd.C_up (Kd.C_below HR0_4.out HB.out))
  (case side6 => exact HC0_4.out)
  (case side7 => exact Kd.C_up (Kd.C_below HR0_5.out HB.out))
  (case side8 => exact HC0_5.out)
  rintro e w34 ⟨rfl,hb⟩
  refine ⟨_,rfl,?_⟩
  have n0_:=bkb BK274 hb
  have n1_:=Aside0.mk (below_step (hb_) hb)
  clear BK274
  clear HB
  have BK274:=n0_
  have HB:=n1_
  clear n0_ n1_
  (try clear hb)
  (try clear hb2)
  (try clear hk)
  (try clear hi)
  refine hK.out _ _ ⟨(blk_cell BK274.out 0).trans rfl,(blk_cell BK274.out 1).trans rfl,(blk_cell BK274.out 2).trans rfl,(blk_cell BK274.out 3).trans rfl,(blk_cell BK274.out 4).trans rfl,(blk_cell BK274.out 5).trans rfl⟩ (fun hHeld => ?_)
  clear hK K
  refine norm_ (a':=?_) ?_ ?_
  rotate_left
  ·show Act.put _ (some 10) _ = _
   simp only [Act.put,List.setIfInBounds_toArray,List.set_cons_zero,List.set_cons_succ,i64_w,i32_w]
   rfl
  refine oI 9 (some 12) (fun K hK => ?_)
  refine goes_ Try.func18 (by kernel_rfl) rfl #[.agg #[.int .i64 a0_0,.int .i64 a0_1,.slice A0_2 l0_2.length c0_2,.slice A0_3 l0_3.length c0_3,.slice A0_4 l0_4.length c0_4,.slice A0_5 l0_5.length c0_5]] (by rfl) rfl rfl (by (try simp only [List.map_toArray,List.map_cons,List.map_nil]);first|done|rfl|(simp only [List.length_drop,List.length_take];rfl)) ?_
  with_reducible refine (lane_Validate.calls k a0_0 a0_1 _ _ l0_2 _ _ l0_3 _ _ l0_4 _ _ l0_5 t281 _ ?side1 ?side2 ?side3 ?side4 ?side5 ?side6 ?side7 ?side8 A28.out).mono ?_
  (case side1 => exact Kd.C_up (Kd.C_below HR0_2.out HB.out))
  (case side2 => exact HC0_2.out)
  (case side3 => exact Kd.C_up (Kd.C_below HR0_3.out HB.out))
  (case side4 => exact HC0_3.out)
  (case side5 => exact Kd.C_up (Kd.C_below HR0_4.out HB.out))
  (case side6 => exact HC0_4.out)
  (case side7 => exact Kd.C_up (Kd.C_below HR0_5.out HB.out))
  (case side8 => exact HC0_5.out)
  rintro e w35 ⟨rfl,hb⟩
  refine ⟨_,rfl,?_⟩
  have n0_:=bkb BK274 hb
  have n1_:=Aside0.mk (below_step (hb_) hb)
  clear BK274
  clear HB
  have BK274:=n0_
  have HB:=n1_
  clear n0_ n1_
  (try clear hb)
  (try clear hb2)
  (try clear hk)
  (try clear hi)
  refine hK.out _ _ ⟨(blk_cell BK274.out 0).trans rfl,(blk_cell BK274.out 1).trans rfl,(blk_cell BK274.out 2).trans rfl,(blk_cell BK274.out 3).trans rfl,(blk_cell BK274.out 4).trans rfl,(blk_cell BK274.out 5).trans rfl⟩ (fun hHeld => ?_)
  clear hK K
  refine norm_ (a':=?_) ?_ ?_
  rotate_left
  ·show Act.put _ (some 12) _ = _
   simp only [Act.put,List.setIfInBounds_toArray,List.set_cons_zero,List.set_cons_succ,i64_w,i32_w]
   rfl
  refine pI 10 (some 13) ?_
  refine pI 11 (some 14) ?_
  refine oI 12 (some 15) (fun K hK => ?_)
  refine goes_ Try.func13 (by kernel_rfl) rfl #[] (by rfl) rfl rfl (by (try simp only [List.map_toArray,List.map_cons,List.map_nil]);first|done|rfl|(simp only [List.length_drop,List.length_take];rfl)) ?_
  with_reducible refine (hinterlandlaw17_known.calls k  t282 _ A30.out).mono ?_
  rintro e w36 ⟨rfl,hb⟩
  refine ⟨_,rfl,?_⟩
  have n0_:=bkb BK274 hb
  have n1_:=Aside0.mk (below_step (hb_) hb)
  clear BK274
  clear HB
  have BK274:=n0_
  have HB:=n1_
  clear n0_ n1_
  (try clear hb)
  (try clear hb2)
  (try clear hk)
  (try clear hi)
  refine hK.out _ _ ⟨(blk_cell BK274.out 0).trans rfl,(blk_cell BK274.out 1).trans rfl,(blk_cell BK274.out 2).trans rfl,(blk_cell BK274.out 3).trans rfl,(blk_cell BK274.out 4).trans rfl,(blk_cell BK274.out 5).trans rfl⟩ (fun hHeld => ?_)
  clear hK K
  refine norm_ (a':=?_) ?_ ?_
  rotate_left
  ·show Act.put _ (some 15) _ = _
   simp only [Act.put,List.setIfInBounds_toArray,List.set_cons_zero,List.set_cons_succ,i64_w,i32_w]
   rfl
  refine pI 13 (some 16) ?_
  refine pI 14 (some 17) ?_
  refine pI 15 (some 2) ?_
  refine done_ (done_of HT_.out (by kernel_rfl)) ?_
  try go_wp2
  go_ret
  exact ⟨by first|rfl|(simp [errW_none,errW_some] <;> rfl)|(simp [*,errW_none,errW_some] <;> rfl),hb_⟩

end Go.Proofs.Ythjmdpekcleihaa.P

/- Functions of this seat as plain Lean functions, with proofs that the Go code comes to just their answers, or what stands between them and a law's statement; no conditions. (Laid by a program of this session, out of the kit's print.) -/
import Derived.Test.YthjmdpekcleihaaPx0
import Derived.Test.YthjmdpekcleihaaPx5
import Derived.Test.YthjmdpekcleihaaPx12
import Derived.Test.YthjmdpekcleihaaPx17
import Derived.Test.YthjmdpekcleihaaPx24
namespace Go.Proofs.Ythjmdpekcleihaa.P
open Go.RowKit Go.Proofs.YthjmdpekcleihaaW.PrintWords Go.Proofs.YthjmdpekcleihaaW.PrintLast Go.Proofs.YthjmdpekcleihaaW.PrintMore
attribute [local go_sem] max2_int min2_int max_two min_two max_three min_three max_four min_four   -- for this text's walks alone
set_option linter.unusedVariables false
set_option linter.unusedSimpArgs false

/-! ### hinterlandlaw17_LaneRuns: function 7 -/
mutual
def hinterlandlaw17_LaneRuns.j0 : Nat → List Int → Bool → Int → Int → List Int → List Int → List Int → List (S50) → Option (Bool)
 | 0,_,_,_,_,_,_,_,_ => none
 | k + 1,x1,x17,x640000,x640001,x640002,x640003,x640004,x640005 => if x17 = true then ((hinterlandlaw17_known.f k).bind fun t641 => (some t641)) else ((hinterlandref17_Run.f k x640000 x640001 x640002 x640003 x640004 x640005 x1).bind fun bt642 => ((lane_Run.f k x640000 x640001 x640002 x640003 x640004 x640005 x1).bind fun bt661 => (if bt661.2.2.2.2.2.2.2 = bt642.2.2.2.2.2.2.2 then ((hinterlandsame_List_int.f k bt661.2.2.2.2.2.2.1 bt642.2.2.2.2.2.2.1).bind fun t680 => (if t680 = true then ((hinterlandsame_Lane.f k bt661.1 bt661.2.1 bt661.2.2.1 bt661.2.2.2.1 bt661.2.2.2.2.1 bt661.2.2.2.2.2.1 bt642.1 bt642.2.1 bt642.2.2.1 bt642.2.2.2.1 bt642.2.2.2.2.1 bt642.2.2.2.2.2.1).bind fun t681 => (if t681 = true then ((hinterlandlaw17_known.f k).bind fun t682 => (hinterlandlaw17_LaneRuns.j1 k t682)) else (hinterlandlaw17_LaneRuns.j1 k false))) else (hinterlandlaw17_LaneRuns.j1 k false))) else (hinterlandlaw17_LaneRuns.j1 k false))))
def hinterlandlaw17_LaneRuns.j1 : Nat → Bool → Option (Bool)
 | 0,_ => none
 | k + 1,x4 => some x4
end
def hinterlandlaw17_LaneRuns.f (k : Nat) (a0_0 : Int) (a0_1 : Int) (l0_2 : List Int) (l0_3 : List Int) (l0_4 : List Int) (l0_5 : List (S50)) (l1 : List Int) : Option (Bool) := (hinterlandlaw17_far.f a0_0 a0_1 l0_2 l0_3 l0_4 l0_5).bind fun t640 => (if t640 = true then (hinterlandlaw17_LaneRuns.j0 k l1 true a0_0 a0_1 l0_2 l0_3 l0_4 l0_5) else (hinterlandlaw17_LaneRuns.j0 k l1 (decide ((l1.length : Int) > 200)) a0_0 a0_1 l0_2 l0_3 l0_4 l0_5))
theorem hinterlandlaw17_LaneRuns.mono_l : ∀ k, (∀ y0 y1 y2 y3 y4 y5 y6 y7, LeO (hinterlandlaw17_LaneRuns.j0 k y0 y1 y2 y3 y4 y5 y6 y7) (hinterlandlaw17_LaneRuns.j0 (k + 1) y0 y1 y2 y3 y4 y5 y6 y7)) ∧ (∀ y0, LeO (hinterlandlaw17_LaneRuns.j1 k y0) (hinterlandlaw17_LaneRuns.j1 (k + 1) y0))
 | 0 => ⟨fun _ _ _ _ _ _ _ _ r h => by simp [hinterlandlaw17_LaneRuns.j0] at h,fun _ r h => by simp [hinterlandlaw17_LaneRuns.j1] at h⟩
 | k + 1 => by
  obtain ⟨ih0,ih1⟩:=hinterlandlaw17_LaneRuns.mono_l k
  refine ⟨?_,?_⟩
  ·intro y0 y1 y2 y3 y4 y5 y6 y7
   unfold hinterlandlaw17_LaneRuns.j0
   repeat' first
   | (with_reducible exact ih0 _ _ _ _ _ _ _ _)
   | (with_reducible exact ih1 _)
   | (with_reducible exact hinterlandlaw17_known.mono _)
   | (with_reducible exact hinterlandref17_Run.mono _ _ _ _ _ _ _ _)
   | (with_reducible exact hinterlandsame_Lane.mono _ _ _ _ _ _ _ _ _ _ _ _ _)
   | (with_reducible exact hinterlandsame_List_int.mono _ _ _)
   | (with_reducible exact lane_Run.mono _ _ _ _ _ _ _ _)
   | (with_reducible exact LeO.refl _)
   | (with_reducible exact LeO.none _)
   | (with_reducible refine LeO.ite ?_ ?_)
   | (with_reducible refine LeO.bind ?_ (fun _ => ?_))
   | exact ih0 _ _ _ _ _ _ _ _
   | exact ih1 _
   | exact hinterlandlaw17_known.mono _
   | exact hinterlandref17_Run.mono _ _ _ _ _ _ _ _
   | exact hinterlandsame_Lane.mono _ _ _ _ _ _ _ _ _ _ _ _ _
   | exact hinterlandsame_List_int.mono _ _ _
   | exact lane_Run.mono _ _ _ _ _ _ _ _
   | exact LeO.none _
   | refine LeO.ite ?_ ?_
   | refine LeO.bind ?_ (fun _ => ?_)
  ·intro y0
   unfold hinterlandlaw17_LaneRuns.j1
   repeat' first
   | (with_reducible exact ih0 _ _ _ _ _ _ _ _)
   | (with_reducible exact ih1 _)
   | (with_reducible exact hinterlandlaw17_known.mono _)
   | (with_reducible exact hinterlandref17_Run.mono _ _ _ _ _ _ _ _)
   | (with_reducible exact hinterlandsame_Lane.mono _ _ _ _ _ _ _ _ _ _ _ _ _)
   | (with_reducible exact hinterlandsame_List_int.mono _ _ _)
   | (with_reducible exact lane_Run.mono _ _ _ _ _ _ _ _)
   | (with_reducible exact LeO.refl _)
   | (with_reducible exact LeO.none _)
   | (with_reducible refine LeO.ite ?_ ?_)
   | (with_reducible refine LeO.bind ?_ (fun _ => ?_))
   | exact ih0 _ _ _ _ _ _ _ _
   | exact ih1 _
   | exact hinterlandlaw17_known.mono _
   | exact hinterlandref17_Run.mono _ _ _ _ _ _ _ _
   | exact hinterlandsame_Lane.mono _ _ _ _ _ _ _ _ _ _ _ _ _
   | exact hinterlandsame_List_int.mono _ _ _
   | exact lane_Run.mono _ _ _ _ _ _ _ _
   | exact LeO.none _
   | refine LeO.ite ?_ ?_
   | refine LeO.bind ?_ (fun _ => ?_)
theorem hinterlandlaw17_LaneRuns.mono : ∀ a0 a1 a2 a3 a4 a5 a6 k, LeO (hinterlandlaw17_LaneRuns.f k a0 a1 a2 a3 a4 a5 a6) (hinterlandlaw17_LaneRuns.f (k + 1) a0 a1 a2 a3 a4 a5 a6) := by
 intro a0 a1 a2 a3 a4 a5 a6 k
 obtain ⟨ih0,ih1⟩:=hinterlandlaw17_LaneRuns.mono_l k
 unfold hinterlandlaw17_LaneRuns.f
 repeat' first
   | (with_reducible exact ih0 _ _ _ _ _ _ _ _)
   | (with_reducible exact ih1 _)
   | (with_reducible exact hinterlandlaw17_known.mono _)
   | (with_reducible exact hinterlandref17_Run.mono _ _ _ _ _ _ _ _)
   | (with_reducible exact hinterlandsame_Lane.mono _ _ _ _ _ _ _ _ _ _ _ _ _)
   | (with_reducible exact hinterlandsame_List_int.mono _ _ _)
   | (with_reducible exact lane_Run.mono _ _ _ _ _ _ _ _)
   | (with_reducible exact LeO.refl _)
   | (with_reducible exact LeO.none _)
   | (with_reducible refine LeO.ite ?_ ?_)
   | (with_reducible refine LeO.bind ?_ (fun _ => ?_))
   | exact ih0 _ _ _ _ _ _ _ _
   | exact ih1 _
   | exact hinterlandlaw17_known.mono _
   | exact hinterlandref17_Run.mono _ _ _ _ _ _ _ _
   | exact hinterlandsame_Lane.mono _ _ _ _ _ _ _ _ _ _ _ _ _
   | exact hinterlandsame_List_int.mono _ _ _
   | exact lane_Run.mono _ _ _ _ _ _ _ _
   | exact LeO.none _
   | refine LeO.ite ?_ ?_
   | refine LeO.bind ?_ (fun _ => ?_)
set_option maxHeartbeats 8000000 in
set_option maxRecDepth 100000 in
theorem hinterlandlaw17_LaneRuns.calls (k : Nat) (a0_0 : Int) (a0_1 : Int) (A0_2 : Option Addr) (c0_2 : Nat) (l0_2 : List Int) (A0_3 : Option Addr) (c0_3 : Nat) (l0_3 : List Int) (A0_4 : Option Addr) (c0_4 : Nat) (l0_4 : List Int) (A0_5 : Option Addr) (c0_5 : Nat) (l0_5 : List (S50)) (A1 : Option Addr) (c1 : Nat) (l1 : List Int) (r : Bool) (w : World) (hr0_2 : Kd.C (Kd.int .i64) w A0_2 l0_2.length l0_2) (hc0_2 : l0_2.length ≤ c0_2) (hr0_3 : Kd.C (Kd.int .i64) w A0_3 l0_3.length l0_3) (hc0_3 : l0_3.length ≤ c0_3) (hr0_4 : Kd.C (Kd.int .i64) w A0_4 l0_4.length l0_4) (hc0_4 : l0_4.length ≤ c0_4) (hr0_5 : Kd.C k50 w A0_5 l0_5.length l0_5) (hc0_5 : l0_5.length ≤ c0_5) (hr1 : Kd.C (Kd.int .i64) w A1 l1.length l1) (hc1 : l1.length ≤ c1) (h : hinterlandlaw17_LaneRuns.f k a0_0 a0_1 l0_2 l0_3 l0_4 l0_5 l1 = some r) :
  Calls Try.prog 7 #[.agg #[.int .i64 a0_0,.int .i64 a0_1,.slice A0_2 l0_2.length c0_2,.slice A0_3 l0_3.length c0_3,.slice A0_4 l0_4.length c0_4,.slice A0_5 l0_5.length c0_5],.slice A1 l1.length c1] w fun e w' => e = .returned (.bool r) ∧ Below w.heap.size w w':=by
 have hu33:=Try.underlying33
 have HR0_2:=Aside0.mk hr0_2
 have HC0_2:=Aside0.mk hc0_2
 clear hr0_2 hc0_2
 have HR0_3:=Aside0.mk hr0_3
 have HC0_3:=Aside0.mk hc0_3
 clear hr0_3 hc0_3
 have HR0_4:=Aside0.mk hr0_4
 have HC0_4:=Aside0.mk hc0_4
 clear hr0_4 hc0_4
 have HR0_5:=Aside0.mk hr0_5
 have HC0_5:=Aside0.mk hc0_5
 clear hr0_5 hc0_5
 have HR1:=Aside0.mk hr1
 have HC1:=Aside0.mk hc1
 clear hr1 hc1
 have HB:=Aside0.mk (Below.refl w.heap.size w)
 have H : ((hinterlandlaw17_far.f a0_0 a0_1 l0_2 l0_3 l0_4 l0_5).bind fun t640 => (if t640 = true then (hinterlandlaw17_LaneRuns.j0 k l1 true a0_0 a0_1 l0_2 l0_3 l0_4 l0_5) else (hinterlandlaw17_LaneRuns.j0 k l1 (decide ((l1.length : Int) > 200)) a0_0 a0_1 l0_2 l0_3 l0_4 l0_5))) = some r:=h
 clear h
 have HC3:=Aside0.mk H
 clear H
 go_enter Try.func7,Try.ntmps7
 go_upto_region 1 with (first|((with_reducible refine gate_dst (N:=2) rfl ?_);(try (refine gate_guard (by rfl) ?_;dsimp only));refine box_ev (N:=2) (cs:=#[.int .i64 a0_0,.int .i64 a0_1,.slice A0_2 l0_2.length c0_2,.slice A0_3 l0_3.length c0_3,.slice A0_4 l0_4.length c0_4,.slice A0_5 l0_5.length c0_5]) (t:=33) ?_;intro gb639 hg w4 hbox hb;have BK639:=Aside0.mk (hbox);have GW639 : Aside0 (w.heap.size ≤ gb639):=gsz hg;have GE639:=GW639;replace HB:=hbs hb;clear hb hbox hg))
 (try simp only [Act.put,List.setIfInBounds_toArray,List.set_cons_zero,List.set_cons_succ])
 go_cut [17] (fun v17 wc => ∃ (kq : Nat) (x17_2 : Bool),v17 = .bool x17_2 ∧ Aside0 (hinterlandlaw17_LaneRuns.j0 kq l1 x17_2 a0_0 a0_1 l0_2 l0_3 l0_4 l0_5 = some r) ∧ Aside0 (kq ≤ k) ∧ Aside0 (wc.heap[gb639]? = some (.cells #[.int .i64 a0_0,.int .i64 a0_1,(.slice A0_2 l0_2.length c0_2),(.slice A0_3 l0_3.length c0_3),(.slice A0_4 l0_4.length c0_4),(.slice A0_5 l0_5.length c0_5)] 33 (0,0))) ∧ Aside0 (Below w.heap.size w wc))
 case first =>
  have H:=HC3.out
  clear HC3
  replace H:=Option.bind_eq_some_iff.mp H
  obtain ⟨t640,A50,H⟩:=H
  replace H : (if t640 = true then (hinterlandlaw17_LaneRuns.j0 k l1 true a0_0 a0_1 l0_2 l0_3 l0_4 l0_5) else (hinterlandlaw17_LaneRuns.j0 k l1 (decide ((l1.length : Int) > 200)) a0_0 a0_1 l0_2 l0_3 l0_4 l0_5)) = some r:=H
  have A5:=Aside0.mk A50
  clear A50
  by_cases c6 : t640 = true
  ·subst c6
   have H1 : (hinterlandlaw17_LaneRuns.j0 k l1 true a0_0 a0_1 l0_2 l0_3 l0_4 l0_5) = some r:=by rw [if_pos rfl] at H;exact H
   clear H
   have H:=H1
   clear H1
   have H':=Aside0.mk H
   clear H
   obtain ⟨_,_,_,_,_,_,_,_,_,_,_,_⟩:=cells6 BK639.out
   go_wp2_with (first|((with_reducible refine gate_callee (f:=16) rfl ?_);refine goesL_ (some 12) rfl rfl Try.func16 (by kernel_rfl) rfl #[.agg #[.int .i64 a0_0,.int .i64 a0_1,.slice A0_2 l0_2.length c0_2,.slice A0_3 l0_3.length c0_3,.slice A0_4 l0_4.length c0_4,.slice A0_5 l0_5.length c0_5]] rfl ga_ ?_;(with_reducible refine (hinterlandlaw17_far.calls a0_0 a0_1 _ _ l0_2 _ _ l0_3 _ _ l0_4 _ _ l0_5 true _ ?_ ?_ ?_ ?_ ?_ ?_ ?_ ?_ A5.out).mono ?_);exact cq HR0_2;exact HC0_2.out;exact cq HR0_3;exact HC0_3.out;exact cq HR0_4;exact HC0_4.out;exact cq HR0_5;exact HC0_5.out;rintro e w8 ⟨rfl,hb⟩;refine ⟨_,rfl,?_⟩;replace BK639:=bkb BK639 hb;replace HB:=hbs hb))
   go_meet
   case rel => exact ⟨_,(true),(by first|rfl|(simp;done)|(simp [*];done)),H',⟨by first|omega|exact Nat.le_refl _⟩,⟨blk_up BK639.out⟩,⟨hb_⟩⟩
  ·replace c6:=Bool.eq_false_iff.mpr c6
   subst c6
   have H1 : (hinterlandlaw17_LaneRuns.j0 k l1 (decide ((l1.length : Int) > 200)) a0_0 a0_1 l0_2 l0_3 l0_4 l0_5) = some r:=by rw [if_neg (show ¬ (false = true) by decide)] at H;exact H
   clear H
   have H:=H1
   clear H1
   have H':=Aside0.mk H
   clear H
   obtain ⟨_,_,_,_,_,_,_,_,_,_,_,_⟩:=cells6 BK639.out
   go_wp2_with (first|((with_reducible refine gate_callee (f:=16) rfl ?_);refine goesL_ (some 12) rfl rfl Try.func16 (by kernel_rfl) rfl #[.agg #[.int .i64 a0_0,.int .i64 a0_1,.slice A0_2 l0_2.length c0_2,.slice A0_3 l0_3.length c0_3,.slice A0_4 l0_4.length c0_4,.slice A0_5 l0_5.length c0_5]] rfl ga_ ?_;(with_reducible refine (hinterlandlaw17_far.calls a0_0 a0_1 _ _ l0_2 _ _ l0_3 _ _ l0_4 _ _ l0_5 false _ ?_ ?_ ?_ ?_ ?_ ?_ ?_ ?_ A5.out).mono ?_);exact cq HR0_2;exact HC0_2.out;exact cq HR0_3;exact HC0_3.out;exact cq HR0_4;exact HC0_4.out;exact cq HR0_5;exact HC0_5.out;rintro e w10 ⟨rfl,hb⟩;refine ⟨_,rfl,?_⟩;replace BK639:=bkb BK639 hb;replace HB:=hbs hb))
   go_meet
   case rel => exact ⟨_,(decide ((l1.length : Int) > 200)),(by first|rfl|(simp;done)|(simp [*];done)),H',⟨by first|omega|exact Nat.le_refl _⟩,⟨blk_up BK639.out⟩,⟨hb_⟩⟩
 case rest =>
  clear HC3
  obtain ⟨kq,x17_2,rfl,HA,HJ2,BK639,HB⟩:=hcut
  cases kq with
  | zero => exact absurd HA.out (by simp [hinterlandlaw17_LaneRuns.j0])
  | succ kj2 =>
   have H:=HA.out
   clear HA
   simp only [hinterlandlaw17_LaneRuns.j0] at H
   by_cases c11 : x17_2 = true
   ·subst c11
    have H1 : ((hinterlandlaw17_known.f kj2).bind fun t641 => (some t641)) = some r:=by rw [if_pos rfl] at H;exact H
    clear H
    have H:=H1
    clear H1
    replace H:=Option.bind_eq_some_iff.mp H
    obtain ⟨t641,A120,H⟩:=H
    replace H : (some t641) = some r:=H
    have A12:=Aside0.mk A120
    clear A120
    obtain rfl:=Option.some.inj H
    go_wp2_with (first|((with_reducible refine gate_callee (f:=13) rfl ?_);refine goesL_ (some 18) rfl rfl Try.func13 (by kernel_rfl) rfl #[] rfl ga_ ?_;(with_reducible refine (hinterlandlaw17_known.calls kj2  t641 _ A12.out).mono ?_);rintro e w13 ⟨rfl,hb⟩;refine ⟨_,rfl,?_⟩;replace BK639:=bkb BK639 hb;replace HB:=hbs hb))
    go_ret
    exact ⟨er_,hb_⟩
   ·replace c11:=Bool.eq_false_iff.mpr c11
    subst c11
    have H1 : ((hinterlandref17_Run.f kj2 a0_0 a0_1 l0_2 l0_3 l0_4 l0_5 l1).bind fun bt642 => ((lane_Run.f kj2 a0_0 a0_1 l0_2 l0_3 l0_4 l0_5 l1).bind fun bt661 => (if bt661.2.2.2.2.2.2.2 = bt642.2.2.2.2.2.2.2 then ((hinterlandsame_List_int.f kj2 bt661.2.2.2.2.2.2.1 bt642.2.2.2.2.2.2.1).bind fun t680 => (if t680 = true then ((hinterlandsame_Lane.f kj2 bt661.1 bt661.2.1 bt661.2.2.1 bt661.2.2.2.1 bt661.2.2.2.2.1 bt661.2.2.2.2.2.1 bt642.1 bt642.2.1 bt642.2.2.1 bt642.2.2.2.1 bt642.2.2.2.2.1 bt642.2.2.2.2.2.1).bind fun t681 => (if t681 = true then ((hinterlandlaw17_known.f kj2).bind fun t682 => (hinterlandlaw17_LaneRuns.j1 kj2 t682)) else (hinterlandlaw17_LaneRuns.j1 kj2 false))) else (hinterlandlaw17_LaneRuns.j1 kj2 false))) else (hinterlandlaw17_LaneRuns.j1 kj2 false)))) = some r:=by rw [if_neg (show ¬ (false = true) by decide)] at H;exact H
    clear H
    have H:=H1
    clear H1
    replace H:=Option.bind_eq_some_iff.mp H
    obtain ⟨⟨t642,t643,t644,t647,t650,t653,t656,t659⟩,A140,H⟩:=H
    replace H : ((lane_Run.f kj2 a0_0 a0_1 l0_2 l0_3 l0_4 l0_5 l1).bind fun bt661 => (if bt661.2.2.2.2.2.2.2 = t659 then ((hinterlandsame_List_int.f kj2 bt661.2.2.2.2.2.2.1 t656).bind fun t680 => (if t680 = true then ((hinterlandsame_Lane.f kj2 bt661.1 bt661.2.1 bt661.2.2.1 bt661.2.2.2.1 bt661.2.2.2.2.1 bt661.2.2.2.2.2.1 t642 t643 t644 t647 t650 t653).bind fun t681 => (if t681 = true then ((hinterlandlaw17_known.f kj2).bind fun t682 => (hinterlandlaw17_LaneRuns.j1 kj2 t682)) else (hinterlandlaw17_LaneRuns.j1 kj2 false))) else (hinterlandlaw17_LaneRuns.j1 kj2 false))) else (hinterlandlaw17_LaneRuns.j1 kj2 false))) = some r:=H
    have A14:=Aside0.mk A140
    clear A140
    replace H:=Option.bind_eq_some_iff.mp H
    obtain ⟨⟨t661,t662,t663,t666,t669,t672,t675,t678⟩,A150,H⟩:=H
    replace H : (if t678 = t659 then ((hinterlandsame_List_int.f kj2 t675 t656).bind fun t680 => (if t680 = true then ((hinterlandsame_Lane.f kj2 t661 t662 t663 t666 t669 t672 t642 t643 t644 t647 t650 t653).bind fun t681 => (if t681 = true then ((hinterlandlaw17_known.f kj2).bind fun t682 => (hinterlandlaw17_LaneRuns.j1 kj2 t682)) else (hinterlandlaw17_LaneRuns.j1 kj2 false))) else (hinterlandlaw17_LaneRuns.j1 kj2 false))) else (hinterlandlaw17_LaneRuns.j1 kj2 false)) = some r:=H
    have A15:=Aside0.mk A150
    clear A150
    have HC16:=Aside0.mk H
    clear H
    obtain ⟨_,_,_,_,_,_,_,_,_,_,_,_⟩:=cells6 BK639.out
    go_upto_region 5 with (first|((with_reducible refine gate_callee (f:=26) rfl ?_);refine goesL_ (some 22) rfl rfl Try.func26 (by kernel_rfl) rfl #[.agg #[.int .i64 a0_0,.int .i64 a0_1,.slice A0_2 l0_2.length c0_2,.slice A0_3 l0_3.length c0_3,.slice A0_4 l0_4.length c0_4,.slice A0_5 l0_5.length c0_5],.slice A1 l1.length c1] rfl ga_ ?_;(with_reducible refine (hinterlandref17_Run.calls kj2 a0_0 a0_1 _ _ l0_2 _ _ l0_3 _ _ l0_4 _ _ l0_5 _ _ l1 t642 t643 t644 t647 t650 t653 t656 t659 _ ?_ ?_ ?_ ?_ ?_ ?_ ?_ ?_ ?_ ?_ A14.out).mono ?_);exact cq HR0_2;exact HC0_2.out;exact cq HR0_3;exact HC0_3.out;exact cq HR0_4;exact HC0_4.out;exact cq HR0_5;exact HC0_5.out;exact cq HR1;exact HC1.out;rintro e w18 ⟨v645,v648,v651,v654,v657,rfl,ho0,ho1,ho2,ho3,ho4,hb⟩;refine ⟨_,rfl,?_⟩;have HO646:=rlo ho0;have HO649:=rlo ho1;have HO652:=rlo ho2;have HO655:=rlo ho3;have HO658:=rlo ho4;replace BK639:=bkb BK639 hb;replace HB:=hbs hb)|((with_reducible refine gate_dst (N:=5) rfl ?_);(try (refine gate_guard (by rfl) ?_;dsimp only));refine box_ev (N:=5) (cs:=#[.int .i64 0,.int .i64 0,.slice none 0 0,.slice none 0 0,.slice none 0 0,.slice none 0 0]) (t:=33) ?_;intro gb660 hg w19 hbox hb;have BK660:=Aside0.mk (hbox);have GW660 : Aside0 (w.heap.size ≤ gb660):=gsz hg;have GE660:=GW660;have NB639_660:=nbl BK639 hg;have NB660_639:=nbr BK639 hg;replace HO646:=rbw HO646 hb;replace HO649:=rbw HO649 hb;replace HO652:=rbw HO652 hb;replace HO655:=rbw HO655 hb;replace HO658:=rbw HO658 hb;replace BK639:=bkb BK639 hb;replace HB:=hbs hb;clear hb hbox hg;have hnb20:=NB660_639.out;have hnc20:=NB639_660.out;obtain ⟨_,_,_,_,_,_,_,_,_,_,_,_⟩:=cells6 BK660.out;obtain ⟨Ao22,co22,eo22⟩:=Kd.R_slice HO646.out;subst eo22;obtain ⟨Ao23,co23,eo23⟩:=Kd.R_slice HO649.out;subst eo23;obtain ⟨Ao24,co24,eo24⟩:=Kd.R_slice HO652.out;subst eo24;obtain ⟨Ao25,co25,eo25⟩:=Kd.R_slice HO655.out;subst eo25;obtain ⟨_,_,_,_,_,_,_,_,_,_,_,_⟩:=cells6 BK639.out)|((with_reducible refine gate_callee (f:=27) rfl ?_);refine goesL_ (some 29) rfl rfl Try.func27 (by kernel_rfl) rfl #[.agg #[.int .i64 a0_0,.int .i64 a0_1,.slice A0_2 l0_2.length c0_2,.slice A0_3 l0_3.length c0_3,.slice A0_4 l0_4.length c0_4,.slice A0_5 l0_5.length c0_5],.slice A1 l1.length c1] rfl ga_ ?_;(with_reducible refine (lane_Run.calls kj2 a0_0 a0_1 _ _ l0_2 _ _ l0_3 _ _ l0_4 _ _ l0_5 _ _ l1 t661 t662 t663 t666 t669 t672 t675 t678 _ ?_ ?_ ?_ ?_ ?_ ?_ ?_ ?_ ?_ ?_ A15.out).mono ?_);exact Kd.C_below HR0_2.out (hb_);exact HC0_2.out;exact Kd.C_below HR0_3.out (hb_);exact HC0_3.out;exact Kd.C_below HR0_4.out (hb_);exact HC0_4.out;exact Kd.C_below HR0_5.out (hb_);exact HC0_5.out;exact Kd.C_below HR1.out (hb_);exact HC1.out;rintro e w27 ⟨v664,v667,v670,v673,v676,rfl,ho0,ho1,ho2,ho3,ho4,hb⟩;refine ⟨_,rfl,?_⟩;have HO665:=Aside0.mk (Kd.R_lower (Kd.R_new' (Kd.R_new' (Kd.R_new' (Kd.R_new' ho0 (Kd.R_lt (by (with_reducible repeat (first|apply Kd.R_alloc|apply Kd.R_drewN|apply Kd.R_drew));exact (Kd.R_mono (Kd.R_fars gb660 (Kd.R_types HO646.out BK660.out (by decide)) (fun _ hk => hk.2)) (fun _ h_ => h_.1))))) (Kd.R_lt (by (with_reducible repeat (first|apply Kd.R_alloc|apply Kd.R_drewN|apply Kd.R_drew));exact (Kd.R_mono (Kd.R_fars gb660 (Kd.R_types HO649.out BK660.out (by decide)) (fun _ hk => hk.2)) (fun _ h_ => h_.1))))) (Kd.R_lt (by (with_reducible repeat (first|apply Kd.R_alloc|apply Kd.R_drewN|apply Kd.R_drew));exact (Kd.R_mono (Kd.R_fars gb660 (Kd.R_types HO652.out BK660.out (by decide)) (fun _ hk => hk.2)) (fun _ h_ => h_.1))))) (Kd.R_lt (by (with_reducible repeat (first|apply Kd.R_alloc|apply Kd.R_drewN|apply Kd.R_drew));exact (Kd.R_mono (Kd.R_fars gb660 (Kd.R_types HO658.out BK660.out (by decide)) (fun _ hk => hk.2)) (fun _ h_ => h_.1))))) (below_size (hb_)));have HO668:=Aside0.mk (Kd.R_lower (Kd.R_new' (Kd.R_new' (Kd.R_new' (Kd.R_new' ho1 (Kd.R_lt (by (with_reducible repeat (first|apply Kd.R_alloc|apply Kd.R_drewN|apply Kd.R_drew));exact (Kd.R_mono (Kd.R_fars gb660 (Kd.R_types HO646.out BK660.out (by decide)) (fun _ hk => hk.2)) (fun _ h_ => h_.1))))) (Kd.R_lt (by (with_reducible repeat (first|apply Kd.R_alloc|apply Kd.R_drewN|apply Kd.R_drew));exact (Kd.R_mono (Kd.R_fars gb660 (Kd.R_types HO649.out BK660.out (by decide)) (fun _ hk => hk.2)) (fun _ h_ => h_.1))))) (Kd.R_lt (by (with_reducible repeat (first|apply Kd.R_alloc|apply Kd.R_drewN|apply Kd.R_drew));exact (Kd.R_mono (Kd.R_fars gb660 (Kd.R_types HO652.out BK660.out (by decide)) (fun _ hk => hk.2)) (fun _ h_ => h_.1))))) (Kd.R_lt (by (with_reducible repeat (first|apply Kd.R_alloc|apply Kd.R_drewN|apply Kd.R_drew));exact (Kd.R_mono (Kd.R_fars gb660 (Kd.R_types HO658.out BK660.out (by decide)) (fun _ hk => hk.2)) (fun _ h_ => h_.1))))) (below_size (hb_)));have HO671:=Aside0.mk (Kd.R_lower (Kd.R_new' (Kd.R_new' (Kd.R_new' (Kd.R_new' ho2 (Kd.R_lt (by (with_reducible repeat (first|apply Kd.R_alloc|apply Kd.R_drewN|apply Kd.R_drew));exact (Kd.R_mono (Kd.R_fars gb660 (Kd.R_types HO646.out BK660.out (by decide)) (fun _ hk => hk.2)) (fun _ h_ => h_.1))))) (Kd.R_lt (by (with_reducible repeat (first|apply Kd.R_alloc|apply Kd.R_drewN|apply Kd.R_drew));exact (Kd.R_mono (Kd.R_fars gb660 (Kd.R_types HO649.out BK660.out (by decide)) (fun _ hk => hk.2)) (fun _ h_ => h_.1))))) (Kd.R_lt (by (with_reducible repeat (first|apply Kd.R_alloc|apply Kd.R_drewN|apply Kd.R_drew));exact (Kd.R_mono (Kd.R_fars gb660 (Kd.R_types HO652.out BK660.out (by decide)) (fun _ hk => hk.2)) (fun _ h_ => h_.1))))) (Kd.R_lt (by (with_reducible repeat (first|apply Kd.R_alloc|apply Kd.R_drewN|apply Kd.R_drew));exact (Kd.R_mono (Kd.R_fars gb660 (Kd.R_types HO658.out BK660.out (by decide)) (fun _ hk => hk.2)) (fun _ h_ => h_.1))))) (below_size (hb_)));have HO674:=Aside0.mk (Kd.R_lower (Kd.R_new' ho3 (Kd.R_lt (by (with_reducible repeat (first|apply Kd.R_alloc|apply Kd.R_drewN|apply Kd.R_drew));exact (Kd.R_mono (Kd.R_fars gb660 (Kd.R_types HO655.out BK660.out (by decide)) (fun _ hk => hk.2)) (fun _ h_ => h_.1))))) (below_size (hb_)));have HO677:=Aside0.mk (Kd.R_lower (Kd.R_new' (Kd.R_new' (Kd.R_new' (Kd.R_new' ho4 (Kd.R_lt (by (with_reducible repeat (first|apply Kd.R_alloc|apply Kd.R_drewN|apply Kd.R_drew));exact (Kd.R_mono (Kd.R_fars gb660 (Kd.R_types HO646.out BK660.out (by decide)) (fun _ hk => hk.2)) (fun _ h_ => h_.1))))) (Kd.R_lt (by (with_reducible repeat (first|apply Kd.R_alloc|apply Kd.R_drewN|apply Kd.R_drew));exact (Kd.R_mono (Kd.R_fars gb660 (Kd.R_types HO649.out BK660.out (by decide)) (fun _ hk => hk.2)) (fun _ h_ => h_.1))))) (Kd.R_lt (by (with_reducible repeat (first|apply Kd.R_alloc|apply Kd.R_drewN|apply Kd.R_drew));exact (Kd.R_mono (Kd.R_fars gb660 (Kd.R_types HO652.out BK660.out (by decide)) (fun _ hk => hk.2)) (fun _ h_ => h_.1))))) (Kd.R_lt (by (with_reducible repeat (first|apply Kd.R_alloc|apply Kd.R_drewN|apply Kd.R_drew));exact (Kd.R_mono (Kd.R_fars gb660 (Kd.R_types HO658.out BK660.out (by decide)) (fun _ hk => hk.2)) (fun _ h_ => h_.1))))) (below_size (hb_)));replace HO646:=Aside0.mk (Kd.R_mono (Kd.R_told (Kd.R_told (Kd.R_told (Kd.R_told (Kd.R_old (by (with_reducible repeat (first|apply Kd.R_alloc|apply Kd.R_drewN|apply Kd.R_drew));exact (Kd.R_mono (Kd.R_fars gb660 (Kd.R_types HO646.out BK660.out (by decide)) (fun _ hk => hk.2)) (fun _ h_ => h_.1))) hb) (Kd.R_base ho0)) (Kd.R_base ho1)) (Kd.R_base ho2)) (Kd.R_base ho4)) (fun _ h_ => h_.1));replace HO649:=Aside0.mk (Kd.R_mono (Kd.R_told (Kd.R_told (Kd.R_told (Kd.R_told (Kd.R_old (by (with_reducible repeat (first|apply Kd.R_alloc|apply Kd.R_drewN|apply Kd.R_drew));exact (Kd.R_mono (Kd.R_fars gb660 (Kd.R_types HO649.out BK660.out (by decide)) (fun _ hk => hk.2)) (fun _ h_ => h_.1))) hb) (Kd.R_base ho0)) (Kd.R_base ho1)) (Kd.R_base ho2)) (Kd.R_base ho4)) (fun _ h_ => h_.1));replace HO652:=Aside0.mk (Kd.R_mono (Kd.R_told (Kd.R_told (Kd.R_told (Kd.R_told (Kd.R_old (by (with_reducible repeat (first|apply Kd.R_alloc|apply Kd.R_drewN|apply Kd.R_drew));exact (Kd.R_mono (Kd.R_fars gb660 (Kd.R_types HO652.out BK660.out (by decide)) (fun _ hk => hk.2)) (fun _ h_ => h_.1))) hb) (Kd.R_base ho0)) (Kd.R_base ho1)) (Kd.R_base ho2)) (Kd.R_base ho4)) (fun _ h_ => h_.1));replace HO655:=Aside0.mk (Kd.R_elder' (by (with_reducible repeat (first|apply Kd.R_alloc|apply Kd.R_drewN|apply Kd.R_drew));exact (Kd.R_mono (Kd.R_fars gb660 (Kd.R_types HO655.out BK660.out (by decide)) (fun _ hk => hk.2)) (fun _ h_ => h_.1))) (Kd.R_base ho3) hb);replace HO658:=Aside0.mk (Kd.R_mono (Kd.R_told (Kd.R_told (Kd.R_told (Kd.R_told (Kd.R_old (by (with_reducible repeat (first|apply Kd.R_alloc|apply Kd.R_drewN|apply Kd.R_drew));exact (Kd.R_mono (Kd.R_fars gb660 (Kd.R_types HO658.out BK660.out (by decide)) (fun _ hk => hk.2)) (fun _ h_ => h_.1))) hb) (Kd.R_base ho0)) (Kd.R_base ho1)) (Kd.R_base ho2)) (Kd.R_base ho4)) (fun _ h_ => h_.1));replace BK639:=Aside0.mk (blk_below (g:=gb639) (o:=.cells #[.int .i64 a0_0,.int .i64 a0_1,.slice A0_2 l0_2.length c0_2,.slice A0_3 l0_3.length c0_3,.slice A0_4 l0_4.length c0_4,.slice A0_5 l0_5.length c0_5] 33 (0,0)) (by (with_reducible repeat (first|refine blk_drewN ?_ _|refine blk_drew ?_|refine blk_alloc ?_ _));refine blk_far ?_ NB639_660.out _;(with_reducible repeat (first|refine blk_drewN ?_ _|refine blk_drew ?_|refine blk_alloc ?_ _));refine blk_far ?_ NB639_660.out _;(with_reducible repeat (first|refine blk_drewN ?_ _|refine blk_drew ?_|refine blk_alloc ?_ _));refine blk_far ?_ NB639_660.out _;(with_reducible repeat (first|refine blk_drewN ?_ _|refine blk_drew ?_|refine blk_alloc ?_ _));refine blk_far ?_ NB639_660.out _;(with_reducible repeat (first|refine blk_drewN ?_ _|refine blk_drew ?_|refine blk_alloc ?_ _));refine blk_far ?_ NB639_660.out _;(with_reducible repeat (first|refine blk_drewN ?_ _|refine blk_drew ?_|refine blk_alloc ?_ _));refine blk_far ?_ NB639_660.out _;(with_reducible repeat (first|refine blk_drewN ?_ _|refine blk_drew ?_|refine blk_alloc ?_ _));exact BK639.out) hb);replace BK660:=Aside0.mk (blk_below (g:=gb660) (o:=.cells #[.int .i64 t642,.int .i64 t643,.slice Ao22 t644.length co22,.slice Ao23 t647.length co23,.slice Ao24 t650.length co24,.slice Ao25 t653.length co25] 33 (0,0)) (by (with_reducible repeat (first|refine blk_drewN ?_ _|refine blk_drew ?_|refine blk_alloc ?_ _));exact blk_puts6 (blk_up BK660.out)) hb);replace HB:=hbs hb)|((with_reducible refine gate_dst (N:=8) rfl ?_);(try (refine gate_guard (by rfl) ?_;dsimp only));refine box_ev (N:=8) (cs:=#[.int .i64 0,.int .i64 0,.slice none 0 0,.slice none 0 0,.slice none 0 0,.slice none 0 0]) (t:=33) ?_;intro gb679 hg w28 hbox hb;have BK679:=Aside0.mk (hbox);have GW679 : Aside0 (w.heap.size ≤ gb679):=gsz hg;have GE679:=GW679;have NB639_679:=nbl BK639 hg;have NB679_639:=nbr BK639 hg;have NB660_679:=nbl BK660 hg;have NB679_660:=nbr BK660 hg;replace HO646:=rbw HO646 hb;replace HO649:=rbw HO649 hb;replace HO652:=rbw HO652 hb;replace HO655:=rbw HO655 hb;replace HO658:=rbw HO658 hb;replace HO665:=rbw HO665 hb;replace HO668:=rbw HO668 hb;replace HO671:=rbw HO671 hb;replace HO674:=rbw HO674 hb;replace HO677:=rbw HO677 hb;replace BK639:=bkb BK639 hb;replace BK660:=bkb BK660 hb;replace HB:=hbs hb;clear hb hbox hg;have hnb29:=NB679_639.out;have hnc29:=NB639_679.out;have hnb30:=NB679_660.out;have hnc30:=NB660_679.out;obtain ⟨_,_,_,_,_,_,_,_,_,_,_,_⟩:=cells6 BK679.out;obtain ⟨Ao32,co32,eo32⟩:=Kd.R_slice HO665.out;subst eo32;obtain ⟨Ao33,co33,eo33⟩:=Kd.R_slice HO668.out;subst eo33;obtain ⟨Ao34,co34,eo34⟩:=Kd.R_slice HO671.out;subst eo34;obtain ⟨Ao35,co35,eo35⟩:=Kd.R_slice HO674.out;subst eo35))
    (try simp only [Act.put,List.setIfInBounds_toArray,List.set_cons_zero,List.set_cons_succ])
    go_cut [4] (fun v4 wc => ∃ (kq : Nat) (x4_15 : Bool),v4 = .bool x4_15 ∧ Aside0 (hinterlandlaw17_LaneRuns.j1 kq x4_15 = some r) ∧ Aside0 (kq ≤ kj2) ∧ Aside0 (Kd.R (Kd.int .i64) 3 wc w.heap.size (fun k_ => some k_ ≠ ((.slice Ao23 t647.length co23) : Value).ownBlock ∧ some k_ ≠ ((.slice Ao24 t650.length co24) : Value).ownBlock ∧ some k_ ≠ ((.slice Ao32 t663.length co32) : Value).ownBlock ∧ some k_ ≠ ((.slice Ao33 t666.length co33) : Value).ownBlock ∧ some k_ ≠ ((.slice Ao34 t669.length co34) : Value).ownBlock) (.slice Ao22 t644.length co22) t644) ∧ Aside0 (Kd.R (Kd.int .i64) 3 wc w.heap.size (fun k_ => some k_ ≠ ((.slice Ao22 t644.length co22) : Value).ownBlock ∧ some k_ ≠ ((.slice Ao24 t650.length co24) : Value).ownBlock ∧ some k_ ≠ ((.slice Ao32 t663.length co32) : Value).ownBlock ∧ some k_ ≠ ((.slice Ao33 t666.length co33) : Value).ownBlock ∧ some k_ ≠ ((.slice Ao34 t669.length co34) : Value).ownBlock) (.slice Ao23 t647.length co23) t647) ∧ Aside0 (Kd.R (Kd.int .i64) 3 wc w.heap.size (fun k_ => some k_ ≠ ((.slice Ao22 t644.length co22) : Value).ownBlock ∧ some k_ ≠ ((.slice Ao23 t647.length co23) : Value).ownBlock ∧ some k_ ≠ ((.slice Ao32 t663.length co32) : Value).ownBlock ∧ some k_ ≠ ((.slice Ao33 t666.length co33) : Value).ownBlock ∧ some k_ ≠ ((.slice Ao34 t669.length co34) : Value).ownBlock) (.slice Ao24 t650.length co24) t650) ∧ Aside0 (Kd.R k50 50 wc w.heap.size (fun k_ => some k_ ≠ ((.slice Ao35 t672.length co35) : Value).ownBlock) (.slice Ao25 t653.length co25) t653) ∧ Aside0 (Kd.R (Kd.int .i64) 3 wc w.heap.size (fun k_ => some k_ ≠ ((.slice Ao22 t644.length co22) : Value).ownBlock ∧ some k_ ≠ ((.slice Ao23 t647.length co23) : Value).ownBlock ∧ some k_ ≠ ((.slice Ao24 t650.length co24) : Value).ownBlock ∧ some k_ ≠ ((.slice Ao33 t666.length co33) : Value).ownBlock ∧ some k_ ≠ ((.slice Ao34 t669.length co34) : Value).ownBlock) (.slice Ao32 t663.length co32) t663) ∧ Aside0 (Kd.R (Kd.int .i64) 3 wc w.heap.size (fun k_ => some k_ ≠ ((.slice Ao22 t644.length co22) : Value).ownBlock ∧ some k_ ≠ ((.slice Ao23 t647.length co23) : Value).ownBlock ∧ some k_ ≠ ((.slice Ao24 t650.length co24) : Value).ownBlock ∧ some k_ ≠ ((.slice Ao32 t663.length co32) : Value).ownBlock ∧ some k_ ≠ ((.slice Ao34 t669.length co34) : Value).ownBlock) (.slice Ao33 t666.length co33) t666) ∧ Aside0 (Kd.R (Kd.int .i64) 3 wc w.heap.size (fun k_ => some k_ ≠ ((.slice Ao22 t644.length co22) : Value).ownBlock ∧ some k_ ≠ ((.slice Ao23 t647.length co23) : Value).ownBlock ∧ some k_ ≠ ((.slice Ao24 t650.length co24) : Value).ownBlock ∧ some k_ ≠ ((.slice Ao32 t663.length co32) : Value).ownBlock ∧ some k_ ≠ ((.slice Ao33 t666.length co33) : Value).ownBlock) (.slice Ao34 t669.length co34) t669) ∧ Aside0 (Kd.R k50 50 wc w.heap.size (fun k_ => some k_ ≠ ((.slice Ao25 t653.length co25) : Value).ownBlock) (.slice Ao35 t672.length co35) t672) ∧ Aside0 (wc.heap[gb639]? = some (.cells #[.int .i64 a0_0,.int .i64 a0_1,(.slice A0_2 l0_2.length c0_2),(.slice A0_3 l0_3.length c0_3),(.slice A0_4 l0_4.length c0_4),(.slice A0_5 l0_5.length c0_5)] 33 (0,0))) ∧ Aside0 (wc.heap[gb660]? = some (.cells #[.int .i64 t642,.int .i64 t643,(.slice Ao22 t644.length co22),(.slice Ao23 t647.length co23),(.slice Ao24 t650.length co24),(.slice Ao25 t653.length co25)] 33 (0,0))) ∧ Aside0 (wc.heap[gb679]? = some (.cells #[.int .i64 t661,.int .i64 t662,(.slice Ao32 t663.length co32),(.slice Ao33 t666.length co33),(.slice Ao34 t669.length co34),(.slice Ao35 t672.length co35)] 33 (0,0))) ∧ Aside0 (Below w.heap.size w wc))
    case first =>
     have H:=HC16.out
     clear HC16
     by_cases c36 : t678 = t659
     rotate_left
     ·rw [if_neg c36] at H
      have c36b0:=bqf c36
      have c36b1:=bnt c36
      (first|rw [c36b0]|(simp only [i64_w,i32_w];rw [c36b0])|skip)
      have H':=Aside0.mk H
      clear H
      go_wp2
      go_meet
      case rel => exact ⟨_,(false),(by first|rfl|(simp;done)|(simp [*];done)),H',⟨by have:=HJ2.out;first|omega|exact Nat.le_refl _⟩,⟨by (with_reducible repeat (first|apply Kd.R_alloc|apply Kd.R_drewN|apply Kd.R_drew));exact Kd.R_mono (Kd.R_fars gb679 (Kd.R_types HO646.out BK679.out (by decide)) (fun _ hk => hk.2)) (fun _ hk => ⟨hk.1.1.1.1.1.1,⟨hk.1.1.1.1.1.2.1,⟨hk.1.1.1.1.2,⟨hk.1.1.1.2,hk.1.1.2⟩⟩⟩⟩)⟩,⟨by (with_reducible repeat (first|apply Kd.R_alloc|apply Kd.R_drewN|apply Kd.R_drew));exact Kd.R_mono (Kd.R_fars gb679 (Kd.R_types HO649.out BK679.out (by decide)) (fun _ hk => hk.2)) (fun _ hk => ⟨hk.1.1.1.1.1.1,⟨hk.1.1.1.1.1.2.1,⟨hk.1.1.1.1.2,⟨hk.1.1.1.2,hk.1.1.2⟩⟩⟩⟩)⟩,⟨by (with_reducible repeat (first|apply Kd.R_alloc|apply Kd.R_drewN|apply Kd.R_drew));exact Kd.R_mono (Kd.R_fars gb679 (Kd.R_types HO652.out BK679.out (by decide)) (fun _ hk => hk.2)) (fun _ hk => ⟨hk.1.1.1.1.1.1,⟨hk.1.1.1.1.1.2.1,⟨hk.1.1.1.1.2,⟨hk.1.1.1.2,hk.1.1.2⟩⟩⟩⟩)⟩,⟨by (with_reducible repeat (first|apply Kd.R_alloc|apply Kd.R_drewN|apply Kd.R_drew));exact Kd.R_mono (Kd.R_fars gb679 (Kd.R_types HO655.out BK679.out (by decide)) (fun _ hk => hk.2)) (fun _ hk => hk.1.2)⟩,⟨by (with_reducible repeat (first|apply Kd.R_alloc|apply Kd.R_drewN|apply Kd.R_drew));exact Kd.R_mono (Kd.R_fars gb679 (Kd.R_types HO665.out BK679.out (by decide)) (fun _ hk => hk.2)) (fun _ hk => ⟨hk.1.1.1.1.2,⟨hk.1.1.1.2,⟨hk.1.1.2,⟨hk.1.1.1.1.1.1,hk.1.1.1.1.1.2.1⟩⟩⟩⟩)⟩,⟨by (with_reducible repeat (first|apply Kd.R_alloc|apply Kd.R_drewN|apply Kd.R_drew));exact Kd.R_mono (Kd.R_fars gb679 (Kd.R_types HO668.out BK679.out (by decide)) (fun _ hk => hk.2)) (fun _ hk => ⟨hk.1.1.1.1.2,⟨hk.1.1.1.2,⟨hk.1.1.2,⟨hk.1.1.1.1.1.1,hk.1.1.1.1.1.2.1⟩⟩⟩⟩)⟩,⟨by (with_reducible repeat (first|apply Kd.R_alloc|apply Kd.R_drewN|apply Kd.R_drew));exact Kd.R_mono (Kd.R_fars gb679 (Kd.R_types HO671.out BK679.out (by decide)) (fun _ hk => hk.2)) (fun _ hk => ⟨hk.1.1.1.1.2,⟨hk.1.1.1.2,⟨hk.1.1.2,⟨hk.1.1.1.1.1.1,hk.1.1.1.1.1.2.1⟩⟩⟩⟩)⟩,⟨by (with_reducible repeat (first|apply Kd.R_alloc|apply Kd.R_drewN|apply Kd.R_drew));exact Kd.R_mono (Kd.R_fars gb679 (Kd.R_types HO674.out BK679.out (by decide)) (fun _ hk => hk.2)) (fun _ hk => hk.1.2)⟩,⟨by (with_reducible repeat (first|refine blk_drewN ?_ _|refine blk_drew ?_|refine blk_alloc ?_ _));refine blk_far ?_ NB639_679.out _;(with_reducible repeat (first|refine blk_drewN ?_ _|refine blk_drew ?_|refine blk_alloc ?_ _));refine blk_far ?_ NB639_679.out _;(with_reducible repeat (first|refine blk_drewN ?_ _|refine blk_drew ?_|refine blk_alloc ?_ _));refine blk_far ?_ NB639_679.out _;(with_reducible repeat (first|refine blk_drewN ?_ _|refine blk_drew ?_|refine blk_alloc ?_ _));refine blk_far ?_ NB639_679.out _;(with_reducible repeat (first|refine blk_drewN ?_ _|refine blk_drew ?_|refine blk_alloc ?_ _));refine blk_far ?_ NB639_679.out _;(with_reducible repeat (first|refine blk_drewN ?_ _|refine blk_drew ?_|refine blk_alloc ?_ _));refine blk_far ?_ NB639_679.out _;(with_reducible repeat (first|refine blk_drewN ?_ _|refine blk_drew ?_|refine blk_alloc ?_ _));exact BK639.out⟩,⟨by (with_reducible repeat (first|refine blk_drewN ?_ _|refine blk_drew ?_|refine blk_alloc ?_ _));refine blk_far ?_ NB660_679.out _;(with_reducible repeat (first|refine blk_drewN ?_ _|refine blk_drew ?_|refine blk_alloc ?_ _));refine blk_far ?_ NB660_679.out _;(with_reducible repeat (first|refine blk_drewN ?_ _|refine blk_drew ?_|refine blk_alloc ?_ _));refine blk_far ?_ NB660_679.out _;(with_reducible repeat (first|refine blk_drewN ?_ _|refine blk_drew ?_|refine blk_alloc ?_ _));refine blk_far ?_ NB660_679.out _;(with_reducible repeat (first|refine blk_drewN ?_ _|refine blk_drew ?_|refine blk_alloc ?_ _));refine blk_far ?_ NB660_679.out _;(with_reducible repeat (first|refine blk_drewN ?_ _|refine blk_drew ?_|refine blk_alloc ?_ _));refine blk_far ?_ NB660_679.out _;(with_reducible repeat (first|refine blk_drewN ?_ _|refine blk_drew ?_|refine blk_alloc ?_ _));exact BK660.out⟩,⟨by (with_reducible repeat (first|refine blk_drewN ?_ _|refine blk_drew ?_|refine blk_alloc ?_ _));exact blk_puts6 (blk_up BK679.out)⟩,⟨hb_⟩⟩
     rw [if_pos c36] at H
     have c36b0:=bqt c36
     have c36b1:=bnf c36
     clear c36
     (first|rw [c36b0]|(simp only [i64_w,i32_w];rw [c36b0])|skip)
     replace H:=Option.bind_eq_some_iff.mp H
     obtain ⟨t680,A370,H⟩:=H
     replace H : (if t680 = true then ((hinterlandsame_Lane.f kj2 t661 t662 t663 t666 t669 t672 t642 t643 t644 t647 t650 t653).bind fun t681 => (if t681 = true then ((hinterlandlaw17_known.f kj2).bind fun t682 => (hinterlandlaw17_LaneRuns.j1 kj2 t682)) else (hinterlandlaw17_LaneRuns.j1 kj2 false))) else (hinterlandlaw17_LaneRuns.j1 kj2 false)) = some r:=H
     have A37:=Aside0.mk A370
     clear A370
     by_cases c38 : t680 = true
     ·subst c38
      have H1 : ((hinterlandsame_Lane.f kj2 t661 t662 t663 t666 t669 t672 t642 t643 t644 t647 t650 t653).bind fun t681 => (if t681 = true then ((hinterlandlaw17_known.f kj2).bind fun t682 => (hinterlandlaw17_LaneRuns.j1 kj2 t682)) else (hinterlandlaw17_LaneRuns.j1 kj2 false))) = some r:=by rw [if_pos rfl] at H;exact H
      clear H
      have H:=H1
      clear H1
      replace H:=Option.bind_eq_some_iff.mp H
      obtain ⟨t681,A390,H⟩:=H
      replace H : (if t681 = true then ((hinterlandlaw17_known.f kj2).bind fun t682 => (hinterlandlaw17_LaneRuns.j1 kj2 t682)) else (hinterlandlaw17_LaneRuns.j1 kj2 false)) = some r:=H
      have A39:=Aside0.mk A390
      clear A390
      by_cases c40 : t681 = true
      ·subst c40
       have H1 : ((hinterlandlaw17_known.f kj2).bind fun t682 => (hinterlandlaw17_LaneRuns.j1 kj2 t682)) = some r:=by rw [if_pos rfl] at H;exact H
       clear H
       have H:=H1
       clear H1
       replace H:=Option.bind_eq_some_iff.mp H
       obtain ⟨t682,A410,H⟩:=H
       replace H : (hinterlandlaw17_LaneRuns.j1 kj2 t682) = some r:=H
       have A41:=Aside0.mk A410
       clear A410
       have H':=Aside0.mk H
       clear H
       obtain ⟨Ao42,co42,eo42⟩:=Kd.R_slice HO677.out
       subst eo42
       obtain ⟨Ao43,co43,eo43⟩:=Kd.R_slice HO658.out
       subst eo43
       go_wp2_with (first|(go_at_call 28;(with_reducible refine (hinterlandsame_List_int.calls kj2 _ _ t675 _ _ t656 true _ ?_ ?_ ?_ ?_ A37.out).mono ?_);exact rqs gb679 HO677 BK679;exact (Kd.R_reads' HO677.out).2.1;exact rqs gb679 HO658 BK679;exact (Kd.R_reads' HO658.out).2.1;rintro e w' ⟨rfl,⟨nd,rfl⟩⟩;have hnb44:=NB679_639.out;have hnc44:=NB639_679.out;have hnb45:=NB679_660.out;have hnc45:=NB660_679.out;obtain ⟨_,_,_,_,_,_,_,_,_,_,_,_⟩:=cells6 BK679.out;have hnb47:=NB660_639.out;have hnc47:=NB639_660.out;obtain ⟨_,_,_,_,_,_,_,_,_,_,_,_⟩:=cells6 BK660.out)|(go_at_call 23;(with_reducible refine (hinterlandsame_Lane.calls kj2 t661 t662 _ _ t663 _ _ t666 _ _ t669 _ _ t672 t642 t643 _ _ t644 _ _ t647 _ _ t650 _ _ t653 true _ ?_ ?_ ?_ ?_ ?_ ?_ ?_ ?_ ?_ ?_ ?_ ?_ ?_ ?_ ?_ ?_ A39.out).mono ?_);exact rqs gb679 HO665 BK679;exact (Kd.R_reads' HO665.out).2.1;exact rqs gb679 HO668 BK679;exact (Kd.R_reads' HO668.out).2.1;exact rqs gb679 HO671 BK679;exact (Kd.R_reads' HO671.out).2.1;exact rqs gb679 HO674 BK679;exact (Kd.R_reads' HO674.out).2.1;exact rqs gb679 HO646 BK679;exact (Kd.R_reads' HO646.out).2.1;exact rqs gb679 HO649 BK679;exact (Kd.R_reads' HO649.out).2.1;exact rqs gb679 HO652 BK679;exact (Kd.R_reads' HO652.out).2.1;exact rqs gb679 HO655 BK679;exact (Kd.R_reads' HO655.out).2.1;rintro e w49 ⟨rfl,hb⟩;replace HO646:=Aside0.mk (Kd.R_below (by (with_reducible repeat (first|apply Kd.R_alloc|apply Kd.R_drewN|apply Kd.R_drew));exact (Kd.R_mono (Kd.R_fars gb679 (Kd.R_types HO646.out BK679.out (by decide)) (fun _ hk => hk.2)) (fun _ h_ => h_.1))) hb);replace HO649:=Aside0.mk (Kd.R_below (by (with_reducible repeat (first|apply Kd.R_alloc|apply Kd.R_drewN|apply Kd.R_drew));exact (Kd.R_mono (Kd.R_fars gb679 (Kd.R_types HO649.out BK679.out (by decide)) (fun _ hk => hk.2)) (fun _ h_ => h_.1))) hb);replace HO652:=Aside0.mk (Kd.R_below (by (with_reducible repeat (first|apply Kd.R_alloc|apply Kd.R_drewN|apply Kd.R_drew));exact (Kd.R_mono (Kd.R_fars gb679 (Kd.R_types HO652.out BK679.out (by decide)) (fun _ hk => hk.2)) (fun _ h_ => h_.1))) hb);replace HO655:=Aside0.mk (Kd.R_below (by (with_reducible repeat (first|apply Kd.R_alloc|apply Kd.R_drewN|apply Kd.R_drew));exact (Kd.R_mono (Kd.R_fars gb679 (Kd.R_types HO655.out BK679.out (by decide)) (fun _ hk => hk.2)) (fun _ h_ => h_.1))) hb);replace HO658:=Aside0.mk (Kd.R_below (by (with_reducible repeat (first|apply Kd.R_alloc|apply Kd.R_drewN|apply Kd.R_drew));exact (Kd.R_mono (Kd.R_fars gb679 (Kd.R_types HO658.out BK679.out (by decide)) (fun _ hk => hk.2)) (fun _ h_ => h_.1))) hb);replace HO665:=Aside0.mk (Kd.R_below (by (with_reducible repeat (first|apply Kd.R_alloc|apply Kd.R_drewN|apply Kd.R_drew));exact (Kd.R_mono (Kd.R_fars gb679 (Kd.R_types HO665.out BK679.out (by decide)) (fun _ hk => hk.2)) (fun _ h_ => h_.1))) hb);replace HO668:=Aside0.mk (Kd.R_below (by (with_reducible repeat (first|apply Kd.R_alloc|apply Kd.R_drewN|apply Kd.R_drew));exact (Kd.R_mono (Kd.R_fars gb679 (Kd.R_types HO668.out BK679.out (by decide)) (fun _ hk => hk.2)) (fun _ h_ => h_.1))) hb);replace HO671:=Aside0.mk (Kd.R_below (by (with_reducible repeat (first|apply Kd.R_alloc|apply Kd.R_drewN|apply Kd.R_drew));exact (Kd.R_mono (Kd.R_fars gb679 (Kd.R_types HO671.out BK679.out (by decide)) (fun _ hk => hk.2)) (fun _ h_ => h_.1))) hb);replace HO674:=Aside0.mk (Kd.R_below (by (with_reducible repeat (first|apply Kd.R_alloc|apply Kd.R_drewN|apply Kd.R_drew));exact (Kd.R_mono (Kd.R_fars gb679 (Kd.R_types HO674.out BK679.out (by decide)) (fun _ hk => hk.2)) (fun _ h_ => h_.1))) hb);replace HO677:=Aside0.mk (Kd.R_below (by (with_reducible repeat (first|apply Kd.R_alloc|apply Kd.R_drewN|apply Kd.R_drew));exact (Kd.R_mono (Kd.R_fars gb679 (Kd.R_types HO677.out BK679.out (by decide)) (fun _ hk => hk.2)) (fun _ h_ => h_.1))) hb);replace BK639:=Aside0.mk (blk_below (g:=gb639) (o:=.cells #[.int .i64 a0_0,.int .i64 a0_1,.slice A0_2 l0_2.length c0_2,.slice A0_3 l0_3.length c0_3,.slice A0_4 l0_4.length c0_4,.slice A0_5 l0_5.length c0_5] 33 (0,0)) (by (with_reducible repeat (first|refine blk_drewN ?_ _|refine blk_drew ?_|refine blk_alloc ?_ _));refine blk_far ?_ NB639_679.out _;(with_reducible repeat (first|refine blk_drewN ?_ _|refine blk_drew ?_|refine blk_alloc ?_ _));refine blk_far ?_ NB639_679.out _;(with_reducible repeat (first|refine blk_drewN ?_ _|refine blk_drew ?_|refine blk_alloc ?_ _));refine blk_far ?_ NB639_679.out _;(with_reducible repeat (first|refine blk_drewN ?_ _|refine blk_drew ?_|refine blk_alloc ?_ _));refine blk_far ?_ NB639_679.out _;(with_reducible repeat (first|refine blk_drewN ?_ _|refine blk_drew ?_|refine blk_alloc ?_ _));refine blk_far ?_ NB639_679.out _;(with_reducible repeat (first|refine blk_drewN ?_ _|refine blk_drew ?_|refine blk_alloc ?_ _));refine blk_far ?_ NB639_679.out _;(with_reducible repeat (first|refine blk_drewN ?_ _|refine blk_drew ?_|refine blk_alloc ?_ _));exact BK639.out) hb);replace BK660:=Aside0.mk (blk_below (g:=gb660) (o:=.cells #[.int .i64 t642,.int .i64 t643,.slice Ao22 t644.length co22,.slice Ao23 t647.length co23,.slice Ao24 t650.length co24,.slice Ao25 t653.length co25] 33 (0,0)) (by (with_reducible repeat (first|refine blk_drewN ?_ _|refine blk_drew ?_|refine blk_alloc ?_ _));refine blk_far ?_ NB660_679.out _;(with_reducible repeat (first|refine blk_drewN ?_ _|refine blk_drew ?_|refine blk_alloc ?_ _));refine blk_far ?_ NB660_679.out _;(with_reducible repeat (first|refine blk_drewN ?_ _|refine blk_drew ?_|refine blk_alloc ?_ _));refine blk_far ?_ NB660_679.out _;(with_reducible repeat (first|refine blk_drewN ?_ _|refine blk_drew ?_|refine blk_alloc ?_ _));refine blk_far ?_ NB660_679.out _;(with_reducible repeat (first|refine blk_drewN ?_ _|refine blk_drew ?_|refine blk_alloc ?_ _));refine blk_far ?_ NB660_679.out _;(with_reducible repeat (first|refine blk_drewN ?_ _|refine blk_drew ?_|refine blk_alloc ?_ _));refine blk_far ?_ NB660_679.out _;(with_reducible repeat (first|refine blk_drewN ?_ _|refine blk_drew ?_|refine blk_alloc ?_ _));exact BK660.out) hb);replace BK679:=Aside0.mk (blk_below (g:=gb679) (o:=.cells #[.int .i64 t661,.int .i64 t662,.slice Ao32 t663.length co32,.slice Ao33 t666.length co33,.slice Ao34 t669.length co34,.slice Ao35 t672.length co35] 33 (0,0)) (by (with_reducible repeat (first|refine blk_drewN ?_ _|refine blk_drew ?_|refine blk_alloc ?_ _));exact blk_puts6 (blk_up BK679.out)) hb);replace HB:=hbs hb)|(go_at_call 13;(with_reducible refine (hinterlandlaw17_known.calls kj2  t682 _ A41.out).mono ?_);rintro e w50 ⟨rfl,hb⟩;replace HO646:=rbw HO646 hb;replace HO649:=rbw HO649 hb;replace HO652:=rbw HO652 hb;replace HO655:=rbw HO655 hb;replace HO658:=rbw HO658 hb;replace HO665:=rbw HO665 hb;replace HO668:=rbw HO668 hb;replace HO671:=rbw HO671 hb;replace HO674:=rbw HO674 hb;replace HO677:=rbw HO677 hb;replace BK639:=bkb BK639 hb;replace BK660:=bkb BK660 hb;replace BK679:=bkb BK679 hb;replace HB:=hbs hb))
       go_meet
       case rel => exact ⟨_,(t682),(by first|rfl|(simp;done)|(simp [*];done)),H',⟨by have:=HJ2.out;first|omega|exact Nat.le_refl _⟩,⟨by (with_reducible repeat (first|apply Kd.R_alloc|apply Kd.R_drewN|apply Kd.R_drew));exact Kd.R_mono HO646.out (fun _ hk => ⟨hk.1.1.1.1.1,⟨hk.1.1.1.1.2.1,⟨hk.1.1.1.2,⟨hk.1.1.2,hk.1.2⟩⟩⟩⟩)⟩,⟨by (with_reducible repeat (first|apply Kd.R_alloc|apply Kd.R_drewN|apply Kd.R_drew));exact Kd.R_mono HO649.out (fun _ hk => ⟨hk.1.1.1.1.1,⟨hk.1.1.1.1.2.1,⟨hk.1.1.1.2,⟨hk.1.1.2,hk.1.2⟩⟩⟩⟩)⟩,⟨by (with_reducible repeat (first|apply Kd.R_alloc|apply Kd.R_drewN|apply Kd.R_drew));exact Kd.R_mono HO652.out (fun _ hk => ⟨hk.1.1.1.1.1,⟨hk.1.1.1.1.2.1,⟨hk.1.1.1.2,⟨hk.1.1.2,hk.1.2⟩⟩⟩⟩)⟩,⟨by (with_reducible repeat (first|apply Kd.R_alloc|apply Kd.R_drewN|apply Kd.R_drew));exact Kd.R_mono HO655.out (fun _ hk => hk.2)⟩,⟨by (with_reducible repeat (first|apply Kd.R_alloc|apply Kd.R_drewN|apply Kd.R_drew));exact Kd.R_mono HO665.out (fun _ hk => ⟨hk.1.1.1.2,⟨hk.1.1.2,⟨hk.1.2,⟨hk.1.1.1.1.1,hk.1.1.1.1.2.1⟩⟩⟩⟩)⟩,⟨by (with_reducible repeat (first|apply Kd.R_alloc|apply Kd.R_drewN|apply Kd.R_drew));exact Kd.R_mono HO668.out (fun _ hk => ⟨hk.1.1.1.2,⟨hk.1.1.2,⟨hk.1.2,⟨hk.1.1.1.1.1,hk.1.1.1.1.2.1⟩⟩⟩⟩)⟩,⟨by (with_reducible repeat (first|apply Kd.R_alloc|apply Kd.R_drewN|apply Kd.R_drew));exact Kd.R_mono HO671.out (fun _ hk => ⟨hk.1.1.1.2,⟨hk.1.1.2,⟨hk.1.2,⟨hk.1.1.1.1.1,hk.1.1.1.1.2.1⟩⟩⟩⟩)⟩,⟨by (with_reducible repeat (first|apply Kd.R_alloc|apply Kd.R_drewN|apply Kd.R_drew));exact Kd.R_mono HO674.out (fun _ hk => hk.2)⟩,⟨blk_up BK639.out⟩,⟨blk_up BK660.out⟩,⟨blk_up BK679.out⟩,⟨hb_⟩⟩
      ·replace c40:=Bool.eq_false_iff.mpr c40
       subst c40
       have H1 : (hinterlandlaw17_LaneRuns.j1 kj2 false) = some r:=by rw [if_neg (show ¬ (false = true) by decide)] at H;exact H
       clear H
       have H:=H1
       clear H1
       have H':=Aside0.mk H
       clear H
       obtain ⟨Ao51,co51,eo51⟩:=Kd.R_slice HO677.out
       subst eo51
       obtain ⟨Ao52,co52,eo52⟩:=Kd.R_slice HO658.out
       subst eo52
       go_wp2_with (first|(go_at_call 28;(with_reducible refine (hinterlandsame_List_int.calls kj2 _ _ t675 _ _ t656 true _ ?_ ?_ ?_ ?_ A37.out).mono ?_);exact rqs gb679 HO677 BK679;exact (Kd.R_reads' HO677.out).2.1;exact rqs gb679 HO658 BK679;exact (Kd.R_reads' HO658.out).2.1;rintro e w' ⟨rfl,⟨nd,rfl⟩⟩;have hnb53:=NB679_639.out;have hnc53:=NB639_679.out;have hnb54:=NB679_660.out;have hnc54:=NB660_679.out;obtain ⟨_,_,_,_,_,_,_,_,_,_,_,_⟩:=cells6 BK679.out;have hnb56:=NB660_639.out;have hnc56:=NB639_660.out;obtain ⟨_,_,_,_,_,_,_,_,_,_,_,_⟩:=cells6 BK660.out)|(go_at_call 23;(with_reducible refine (hinterlandsame_Lane.calls kj2 t661 t662 _ _ t663 _ _ t666 _ _ t669 _ _ t672 t642 t643 _ _ t644 _ _ t647 _ _ t650 _ _ t653 false _ ?_ ?_ ?_ ?_ ?_ ?_ ?_ ?_ ?_ ?_ ?_ ?_ ?_ ?_ ?_ ?_ A39.out).mono ?_);exact rqs gb679 HO665 BK679;exact (Kd.R_reads' HO665.out).2.1;exact rqs gb679 HO668 BK679;exact (Kd.R_reads' HO668.out).2.1;exact rqs gb679 HO671 BK679;exact (Kd.R_reads' HO671.out).2.1;exact rqs gb679 HO674 BK679;exact (Kd.R_reads' HO674.out).2.1;exact rqs gb679 HO646 BK679;exact (Kd.R_reads' HO646.out).2.1;exact rqs gb679 HO649 BK679;exact (Kd.R_reads' HO649.out).2.1;exact rqs gb679 HO652 BK679;exact (Kd.R_reads' HO652.out).2.1;exact rqs gb679 HO655 BK679;exact (Kd.R_reads' HO655.out).2.1;rintro e w58 ⟨rfl,hb⟩;replace HO646:=Aside0.mk (Kd.R_below (by (with_reducible repeat (first|apply Kd.R_alloc|apply Kd.R_drewN|apply Kd.R_drew));exact (Kd.R_mono (Kd.R_fars gb679 (Kd.R_types HO646.out BK679.out (by decide)) (fun _ hk => hk.2)) (fun _ h_ => h_.1))) hb);replace HO649:=Aside0.mk (Kd.R_below (by (with_reducible repeat (first|apply Kd.R_alloc|apply Kd.R_drewN|apply Kd.R_drew));exact (Kd.R_mono (Kd.R_fars gb679 (Kd.R_types HO649.out BK679.out (by decide)) (fun _ hk => hk.2)) (fun _ h_ => h_.1))) hb);replace HO652:=Aside0.mk (Kd.R_below (by (with_reducible repeat (first|apply Kd.R_alloc|apply Kd.R_drewN|apply Kd.R_drew));exact (Kd.R_mono (Kd.R_fars gb679 (Kd.R_types HO652.out BK679.out (by decide)) (fun _ hk => hk.2)) (fun _ h_ => h_.1))) hb);replace HO655:=Aside0.mk (Kd.R_below (by (with_reducible repeat (first|apply Kd.R_alloc|apply Kd.R_drewN|apply Kd.R_drew));exact (Kd.R_mono (Kd.R_fars gb679 (Kd.R_types HO655.out BK679.out (by decide)) (fun _ hk => hk.2)) (fun _ h_ => h_.1))) hb);replace HO658:=Aside0.mk (Kd.R_below (by (with_reducible repeat (first|apply Kd.R_alloc|apply Kd.R_drewN|apply Kd.R_drew));exact (Kd.R_mono (Kd.R_fars gb679 (Kd.R_types HO658.out BK679.out (by decide)) (fun _ hk => hk.2)) (fun _ h_ => h_.1))) hb);replace HO665:=Aside0.mk (Kd.R_below (by (with_reducible repeat (first|apply Kd.R_alloc|apply Kd.R_drewN|apply Kd.R_drew));exact (Kd.R_mono (Kd.R_fars gb679 (Kd.R_types HO665.out BK679.out (by decide)) (fun _ hk => hk.2)) (fun _ h_ => h_.1))) hb);replace HO668:=Aside0.mk (Kd.R_below (by (with_reducible repeat (first|apply Kd.R_alloc|apply Kd.R_drewN|apply Kd.R_drew));exact (Kd.R_mono (Kd.R_fars gb679 (Kd.R_types HO668.out BK679.out (by decide)) (fun _ hk => hk.2)) (fun _ h_ => h_.1))) hb);replace HO671:=Aside0.mk (Kd.R_below (by (with_reducible repeat (first|apply Kd.R_alloc|apply Kd.R_drewN|apply Kd.R_drew));exact (Kd.R_mono (Kd.R_fars gb679 (Kd.R_types HO671.out BK679.out (by decide)) (fun _ hk => hk.2)) (fun _ h_ => h_.1))) hb);replace HO674:=Aside0.mk (Kd.R_below (by (with_reducible repeat (first|apply Kd.R_alloc|apply Kd.R_drewN|apply Kd.R_drew));exact (Kd.R_mono (Kd.R_fars gb679 (Kd.R_types HO674.out BK679.out (by decide)) (fun _ hk => hk.2)) (fun _ h_ => h_.1))) hb);replace HO677:=Aside0.mk (Kd.R_below (by (with_reducible repeat (first|apply Kd.R_alloc|apply Kd.R_drewN|apply Kd.R_drew));exact (Kd.R_mono (Kd.R_fars gb679 (Kd.R_types HO677.out BK679.out (by decide)) (fun _ hk => hk.2)) (fun _ h_ => h_.1))) hb);replace BK639:=Aside0.mk (blk_below (g:=gb639) (o:=.cells #[.int .i64 a0_0,.int .i64 a0_1,.slice A0_2 l0_2.length c0_2,.slice A0_3 l0_3.length c0_3,.slice A0_4 l0_4.length c0_4,.slice A0_5 l0_5.length c0_5] 33 (0,0)) (by (with_reducible repeat (first|refine blk_drewN ?_ _|refine blk_drew ?_|refine blk_alloc ?_ _));refine blk_far ?_ NB639_679.out _;(with_reducible repeat (first|refine blk_drewN ?_ _|refine blk_drew ?_|refine blk_alloc ?_ _));refine blk_far ?_ NB639_679.out _;(with_reducible repeat (first|refine blk_drewN ?_ _|refine blk_drew ?_|refine blk_alloc ?_ _));refine blk_far ?_ NB639_679.out _;(with_reducible repeat (first|refine blk_drewN ?_ _|refine blk_drew ?_|refine blk_alloc ?_ _));refine blk_far ?_ NB639_679.out _;(with_reducible repeat (first|refine blk_drewN ?_ _|refine blk_drew ?_|refine blk_alloc ?_ _));refine blk_far ?_ NB639_679.out _;(with_reducible repeat (first|refine blk_drewN ?_ _|refine blk_drew ?_|refine blk_alloc ?_ _));refine blk_far ?_ NB639_679.out _;(with_reducible repeat (first|refine blk_drewN ?_ _|refine blk_drew ?_|refine blk_alloc ?_ _));exact BK639.out) hb);replace BK660:=Aside0.mk (blk_below (g:=gb660) (o:=.cells #[.int .i64 t642,.int .i64 t643,.slice Ao22 t644.length co22,.slice Ao23 t647.length co23,.slice Ao24 t650.length co24,.slice Ao25 t653.length co25] 33 (0,0)) (by (with_reducible repeat (first|refine blk_drewN ?_ _|refine blk_drew ?_|refine blk_alloc ?_ _));refine blk_far ?_ NB660_679.out _;(with_reducible repeat (first|refine blk_drewN ?_ _|refine blk_drew ?_|refine blk_alloc ?_ _));refine blk_far ?_ NB660_679.out _;(with_reducible repeat (first|refine blk_drewN ?_ _|refine blk_drew ?_|refine blk_alloc ?_ _));refine blk_far ?_ NB660_679.out _;(with_reducible repeat (first|refine blk_drewN ?_ _|refine blk_drew ?_|refine blk_alloc ?_ _));refine blk_far ?_ NB660_679.out _;(with_reducible repeat (first|refine blk_drewN ?_ _|refine blk_drew ?_|refine blk_alloc ?_ _));refine blk_far ?_ NB660_679.out _;(with_reducible repeat (first|refine blk_drewN ?_ _|refine blk_drew ?_|refine blk_alloc ?_ _));refine blk_far ?_ NB660_679.out _;(with_reducible repeat (first|refine blk_drewN ?_ _|refine blk_drew ?_|refine blk_alloc ?_ _));exact BK660.out) hb);replace BK679:=Aside0.mk (blk_below (g:=gb679) (o:=.cells #[.int .i64 t661,.int .i64 t662,.slice Ao32 t663.length co32,.slice Ao33 t666.length co33,.slice Ao34 t669.length co34,.slice Ao35 t672.length co35] 33 (0,0)) (by (with_reducible repeat (first|refine blk_drewN ?_ _|refine blk_drew ?_|refine blk_alloc ?_ _));exact blk_puts6 (blk_up BK679.out)) hb);replace HB:=hbs hb))
       go_meet
       case rel => exact ⟨_,(false),(by first|rfl|(simp;done)|(simp [*];done)),H',⟨by have:=HJ2.out;first|omega|exact Nat.le_refl _⟩,⟨by (with_reducible repeat (first|apply Kd.R_alloc|apply Kd.R_drewN|apply Kd.R_drew));exact Kd.R_mono HO646.out (fun _ hk => ⟨hk.1.1.1.1.1,⟨hk.1.1.1.1.2.1,⟨hk.1.1.1.2,⟨hk.1.1.2,hk.1.2⟩⟩⟩⟩)⟩,⟨by (with_reducible repeat (first|apply Kd.R_alloc|apply Kd.R_drewN|apply Kd.R_drew));exact Kd.R_mono HO649.out (fun _ hk => ⟨hk.1.1.1.1.1,⟨hk.1.1.1.1.2.1,⟨hk.1.1.1.2,⟨hk.1.1.2,hk.1.2⟩⟩⟩⟩)⟩,⟨by (with_reducible repeat (first|apply Kd.R_alloc|apply Kd.R_drewN|apply Kd.R_drew));exact Kd.R_mono HO652.out (fun _ hk => ⟨hk.1.1.1.1.1,⟨hk.1.1.1.1.2.1,⟨hk.1.1.1.2,⟨hk.1.1.2,hk.1.2⟩⟩⟩⟩)⟩,⟨by (with_reducible repeat (first|apply Kd.R_alloc|apply Kd.R_drewN|apply Kd.R_drew));exact Kd.R_mono HO655.out (fun _ hk => hk.2)⟩,⟨by (with_reducible repeat (first|apply Kd.R_alloc|apply Kd.R_drewN|apply Kd.R_drew));exact Kd.R_mono HO665.out (fun _ hk => ⟨hk.1.1.1.2,⟨hk.1.1.2,⟨hk.1.2,⟨hk.1.1.1.1.1,hk.1.1.1.1.2.1⟩⟩⟩⟩)⟩,⟨by (with_reducible repeat (first|apply Kd.R_alloc|apply Kd.R_drewN|apply Kd.R_drew));exact Kd.R_mono HO668.out (fun _ hk => ⟨hk.1.1.1.2,⟨hk.1.1.2,⟨hk.1.2,⟨hk.1.1.1.1.1,hk.1.1.1.1.2.1⟩⟩⟩⟩)⟩,⟨by (with_reducible repeat (first|apply Kd.R_alloc|apply Kd.R_drewN|apply Kd.R_drew));exact Kd.R_mono HO671.out (fun _ hk => ⟨hk.1.1.1.2,⟨hk.1.1.2,⟨hk.1.2,⟨hk.1.1.1.1.1,hk.1.1.1.1.2.1⟩⟩⟩⟩)⟩,⟨by (with_reducible repeat (first|apply Kd.R_alloc|apply Kd.R_drewN|apply Kd.R_drew));exact Kd.R_mono HO674.out (fun _ hk => hk.2)⟩,⟨blk_up BK639.out⟩,⟨blk_up BK660.out⟩,⟨blk_up BK679.out⟩,⟨hb_⟩⟩
     ·replace c38:=Bool.eq_false_iff.mpr c38
      subst c38
      have H1 : (hinterlandlaw17_LaneRuns.j1 kj2 false) = some r:=by rw [if_neg (show ¬ (false = true) by decide)] at H;exact H
      clear H
      have H:=H1
      clear H1
      have H':=Aside0.mk H
      clear H
      obtain ⟨Ao59,co59,eo59⟩:=Kd.R_slice HO677.out
      subst eo59
      obtain ⟨Ao60,co60,eo60⟩:=Kd.R_slice HO658.out
      subst eo60
      go_wp2_with (first|(go_at_call 28;(with_reducible refine (hinterlandsame_List_int.calls kj2 _ _ t675 _ _ t656 false _ ?_ ?_ ?_ ?_ A37.out).mono ?_);exact rqs gb679 HO677 BK679;exact (Kd.R_reads' HO677.out).2.1;exact rqs gb679 HO658 BK679;exact (Kd.R_reads' HO658.out).2.1;rintro e w' ⟨rfl,⟨nd,rfl⟩⟩))
      go_meet
      case rel => exact ⟨_,(false),(by first|rfl|(simp;done)|(simp [*];done)),H',⟨by have:=HJ2.out;first|omega|exact Nat.le_refl _⟩,⟨by (with_reducible repeat (first|apply Kd.R_alloc|apply Kd.R_drewN|apply Kd.R_drew));exact Kd.R_mono (Kd.R_fars gb679 (Kd.R_types HO646.out BK679.out (by decide)) (fun _ hk => hk.2)) (fun _ hk => ⟨hk.1.1.1.1.1.1,⟨hk.1.1.1.1.1.2.1,⟨hk.1.1.1.1.2,⟨hk.1.1.1.2,hk.1.1.2⟩⟩⟩⟩)⟩,⟨by (with_reducible repeat (first|apply Kd.R_alloc|apply Kd.R_drewN|apply Kd.R_drew));exact Kd.R_mono (Kd.R_fars gb679 (Kd.R_types HO649.out BK679.out (by decide)) (fun _ hk => hk.2)) (fun _ hk => ⟨hk.1.1.1.1.1.1,⟨hk.1.1.1.1.1.2.1,⟨hk.1.1.1.1.2,⟨hk.1.1.1.2,hk.1.1.2⟩⟩⟩⟩)⟩,⟨by (with_reducible repeat (first|apply Kd.R_alloc|apply Kd.R_drewN|apply Kd.R_drew));exact Kd.R_mono (Kd.R_fars gb679 (Kd.R_types HO652.out BK679.out (by decide)) (fun _ hk => hk.2)) (fun _ hk => ⟨hk.1.1.1.1.1.1,⟨hk.1.1.1.1.1.2.1,⟨hk.1.1.1.1.2,⟨hk.1.1.1.2,hk.1.1.2⟩⟩⟩⟩)⟩,⟨by (with_reducible repeat (first|apply Kd.R_alloc|apply Kd.R_drewN|apply Kd.R_drew));exact Kd.R_mono (Kd.R_fars gb679 (Kd.R_types HO655.out BK679.out (by decide)) (fun _ hk => hk.2)) (fun _ hk => hk.1.2)⟩,⟨by (with_reducible repeat (first|apply Kd.R_alloc|apply Kd.R_drewN|apply Kd.R_drew));exact Kd.R_mono (Kd.R_fars gb679 (Kd.R_types HO665.out BK679.out (by decide)) (fun _ hk => hk.2)) (fun _ hk => ⟨hk.1.1.1.1.2,⟨hk.1.1.1.2,⟨hk.1.1.2,⟨hk.1.1.1.1.1.1,hk.1.1.1.1.1.2.1⟩⟩⟩⟩)⟩,⟨by (with_reducible repeat (first|apply Kd.R_alloc|apply Kd.R_drewN|apply Kd.R_drew));exact Kd.R_mono (Kd.R_fars gb679 (Kd.R_types HO668.out BK679.out (by decide)) (fun _ hk => hk.2)) (fun _ hk => ⟨hk.1.1.1.1.2,⟨hk.1.1.1.2,⟨hk.1.1.2,⟨hk.1.1.1.1.1.1,hk.1.1.1.1.1.2.1⟩⟩⟩⟩)⟩,⟨by (with_reducible repeat (first|apply Kd.R_alloc|apply Kd.R_drewN|apply Kd.R_drew));exact Kd.R_mono (Kd.R_fars gb679 (Kd.R_types HO671.out BK679.out (by decide)) (fun _ hk => hk.2)) (fun _ hk => ⟨hk.1.1.1.1.2,⟨hk.1.1.1.2,⟨hk.1.1.2,⟨hk.1.1.1.1.1.1,hk.1.1.1.1.1.2.1⟩⟩⟩⟩)⟩,⟨by (with_reducible repeat (first|apply Kd.R_alloc|apply Kd.R_drewN|apply Kd.R_drew));exact Kd.R_mono (Kd.R_fars gb679 (Kd.R_types HO674.out BK679.out (by decide)) (fun _ hk => hk.2)) (fun _ hk => hk.1.2)⟩,⟨by (with_reducible repeat (first|refine blk_drewN ?_ _|refine blk_drew ?_|refine blk_alloc ?_ _));refine blk_far ?_ NB639_679.out _;(with_reducible repeat (first|refine blk_drewN ?_ _|refine blk_drew ?_|refine blk_alloc ?_ _));refine blk_far ?_ NB639_679.out _;(with_reducible repeat (first|refine blk_drewN ?_ _|refine blk_drew ?_|refine blk_alloc ?_ _));refine blk_far ?_ NB639_679.out _;(with_reducible repeat (first|refine blk_drewN ?_ _|refine blk_drew ?_|refine blk_alloc ?_ _));refine blk_far ?_ NB639_679.out _;(with_reducible repeat (first|refine blk_drewN ?_ _|refine blk_drew ?_|refine blk_alloc ?_ _));refine blk_far ?_ NB639_679.out _;(with_reducible repeat (first|refine blk_drewN ?_ _|refine blk_drew ?_|refine blk_alloc ?_ _));refine blk_far ?_ NB639_679.out _;(with_reducible repeat (first|refine blk_drewN ?_ _|refine blk_drew ?_|refine blk_alloc ?_ _));exact BK639.out⟩,⟨by (with_reducible repeat (first|refine blk_drewN ?_ _|refine blk_drew ?_|refine blk_alloc ?_ _));refine blk_far ?_ NB660_679.out _;(with_reducible repeat (first|refine blk_drewN ?_ _|refine blk_drew ?_|refine blk_alloc ?_ _));refine blk_far ?_ NB660_679.out _;(with_reducible repeat (first|refine blk_drewN ?_ _|refine blk_drew ?_|refine blk_alloc ?_ _));refine blk_far ?_ NB660_679.out _;(with_reducible repeat (first|refine blk_drewN ?_ _|refine blk_drew ?_|refine blk_alloc ?_ _));refine blk_far ?_ NB660_679.out _;(with_reducible repeat (first|refine blk_drewN ?_ _|refine blk_drew ?_|refine blk_alloc ?_ _));refine blk_far ?_ NB660_679.out _;(with_reducible repeat (first|refine blk_drewN ?_ _|refine blk_drew ?_|refine blk_alloc ?_ _));refine blk_far ?_ NB660_679.out _;(with_reducible repeat (first|refine blk_drewN ?_ _|refine blk_drew ?_|refine blk_alloc ?_ _));exact BK660.out⟩,⟨by (with_reducible repeat (first|refine blk_drewN ?_ _|refine blk_drew ?_|refine blk_alloc ?_ _));exact blk_puts6 (blk_up BK679.out)⟩,⟨hb_⟩⟩
    case rest =>
     clear HC16
     obtain ⟨kq,x4_15,rfl,HA,HJ15,HO_661002,HO_661003,HO_661004,HO_661005,HO_680002,HO_680003,HO_680004,HO_680005,BK639,BK660,BK679,HB⟩:=hcut
     cases kq with
     | zero => exact absurd HA.out (by simp [hinterlandlaw17_LaneRuns.j1])
     | succ kj15 =>
      have H:=HA.out
      clear HA
      simp only [hinterlandlaw17_LaneRuns.j1] at H
      obtain rfl:=Option.some.inj H
      go_wp2
      go_ret
      exact ⟨er_,hb_⟩

end Go.Proofs.Ythjmdpekcleihaa.P

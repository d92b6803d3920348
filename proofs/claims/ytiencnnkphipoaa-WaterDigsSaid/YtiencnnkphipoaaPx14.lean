/- Functions of this seat as plain Lean functions, with proofs that the Go code comes to just their answers, or what stands between them and a law's statement; no conditions. (Laid by a program of this session, out of the kit's print.) -/
import Derived.Test.YtiencnnkphipoaaPx0
import Derived.Test.YtiencnnkphipoaaPx1
import Derived.Test.YtiencnnkphipoaaPx5
import Derived.Test.YtiencnnkphipoaaPx13
namespace Go.Proofs.Ytiencnnkphipoaa.P
open Go.RowKit Go.Proofs.YtiencnnkphipoaaW.PrintWords Go.Proofs.YtiencnnkphipoaaW.PrintLast Go.Proofs.YtiencnnkphipoaaW.PrintMore
attribute [local go_sem] max2_int min2_int max_two min_two max_three min_three max_four min_four   -- for this text's walks alone
set_option linter.unusedVariables false
set_option linter.unusedSimpArgs false

/-! ### water_Dig: function 28 -/
def water_Dig.j0 : Nat → Int → Int → Bool → List Int → List Int → Int → Int → List Int → List Int → List Bool → Option (List Int × List Int × Int × Int)
 | 0,_,_,_,_,_,_,_,_,_,_ => none
 | k + 1,x2,x3,x31,x375000,x375001,x389000,x389001,x389002,x389003,x389004 => if x31 = true then (some (([] : List Int),([] : List Int),0,1)) else (if 0 ≤ x2 then (if x2 < (x375000.length : Int) then (if (rd x375000 x2) = 0 then ((water_ground_may.f k x389000 x389001 x389002 x389003 x389004 x2 x3).bind fun t390 => (if t390 = 0 then ((water_clone.f x375000 x375001).bind fun bt391 => (if x2 < (bt391.1.length : Int) then (if 0 ≤ x3 then (if x3 < 4 then (some ((bt391.1.set (x2 : Int).toNat x3),bt391.2,wrap64 ((ix71 (⟨0,1,4,2⟩ : S71) x3) * 500),0)) else (none)) else (none)) else (none))) else (some (([] : List Int),([] : List Int),0,t390)))) else (some (([] : List Int),([] : List Int),0,7))) else (none)) else (none))
def water_Dig.f (k : Nat) (a0_0 : Int) (a0_1 : Int) (l0_2 : List Int) (l1_0 : List Int) (l1_1 : List Int) (a2 : Int) (a3 : Int) : Option (List Int × List Int × Int × Int) := (water_at.f k a0_0 a0_1 l0_2 l1_0 l1_1 a2).bind fun bt376 => (if bt376.2.2.2.2.2 = 0 then (if a3 < 1 then (water_Dig.j0 k a2 a3 true l1_0 l1_1 bt376.1 bt376.2.1 bt376.2.2.1 bt376.2.2.2.1 bt376.2.2.2.2.1) else (water_Dig.j0 k a2 a3 (decide (a3 > 3)) l1_0 l1_1 bt376.1 bt376.2.1 bt376.2.2.1 bt376.2.2.2.1 bt376.2.2.2.2.1)) else (some (([] : List Int), ([] : List Int), 0, bt376.2.2.2.2.2)))
theorem water_Dig.mono_l : ∀ k, (∀ y0 y1 y2 y3 y4 y5 y6 y7 y8 y9, LeO (water_Dig.j0 k y0 y1 y2 y3 y4 y5 y6 y7 y8 y9) (water_Dig.j0 (k + 1) y0 y1 y2 y3 y4 y5 y6 y7 y8 y9))
 | 0 => fun _ _ _ _ _ _ _ _ _ _ r h => by simp [water_Dig.j0] at h
 | k + 1 => by
  have ih0:=water_Dig.mono_l k
  ·intro y0 y1 y2 y3 y4 y5 y6 y7 y8 y9
   unfold water_Dig.j0
   repeat' first
   | (with_reducible exact ih0 _ _ _ _ _ _ _ _ _ _)
   | (with_reducible exact water_at.mono _ _ _ _ _ _ _)
   | (with_reducible exact water_ground_may.mono _ _ _ _ _ _ _ _)
   | (with_reducible exact LeO.refl _)
   | (with_reducible exact LeO.none _)
   | (with_reducible refine LeO.ite ?_ ?_)
   | (with_reducible refine LeO.bind ?_ (fun _ => ?_))
   | exact ih0 _ _ _ _ _ _ _ _ _ _
   | exact water_at.mono _ _ _ _ _ _ _
   | exact water_ground_may.mono _ _ _ _ _ _ _ _
   | exact LeO.none _
   | refine LeO.ite ?_ ?_
   | refine LeO.bind ?_ (fun _ => ?_)
theorem water_Dig.mono : ∀ a0 a1 a2 a3 a4 a5 a6 k, LeO (water_Dig.f k a0 a1 a2 a3 a4 a5 a6) (water_Dig.f (k + 1) a0 a1 a2 a3 a4 a5 a6) := by
 intro a0 a1 a2 a3 a4 a5 a6 k
 have ih0:=water_Dig.mono_l k
 unfold water_Dig.f
 repeat' first
   | (with_reducible exact ih0 _ _ _ _ _ _ _ _ _ _)
   | (with_reducible exact water_at.mono _ _ _ _ _ _ _)
   | (with_reducible exact water_ground_may.mono _ _ _ _ _ _ _ _)
   | (with_reducible exact LeO.refl _)
   | (with_reducible exact LeO.none _)
   | (with_reducible refine LeO.ite ?_ ?_)
   | (with_reducible refine LeO.bind ?_ (fun _ => ?_))
   | exact ih0 _ _ _ _ _ _ _ _ _ _
   | exact water_at.mono _ _ _ _ _ _ _
   | exact water_ground_may.mono _ _ _ _ _ _ _ _
   | exact LeO.none _
   | refine LeO.ite ?_ ?_
   | refine LeO.bind ?_ (fun _ => ?_)
def water_Dig.T13 : Bool × List (List Nat × List Nat) := (true, [([], []), ([], []), ([], []), ([1, 2], [1, 2]), ([3], [3]), ([0, 0], [0]), ([4, 5, 0, 1, 2, 3, 4, 5], [4]), ([6, 0, 1, 2, 3, 4, 5, 6], [])])
def water_Dig.B13 : List Nat := [0, 0, 0, 6, 14, 1, 63, 127]
theorem water_Dig.tab13 : rtab .any (opsOf Try.f28 13) = water_Dig.T13 := by kernel_rfl
theorem water_Dig.bits13 : waitsOk water_Dig.T13.2 water_Dig.B13 = true := by kernel_rfl
set_option maxHeartbeats 8000000 in
set_option maxRecDepth 100000 in
theorem water_Dig.calls (k : Nat) (a0_0 : Int) (a0_1 : Int) (A0_2 : Option Addr) (c0_2 : Nat) (l0_2 : List Int) (A1_0 : Option Addr) (c1_0 : Nat) (l1_0 : List Int) (A1_1 : Option Addr) (c1_1 : Nat) (l1_1 : List Int) (a2 : Int) (a3 : Int) (r1 : List Int) (r2 : List Int) (r3 : Int) (r4 : Int) (w : World) (hr0_2 : Kd.C (Kd.int .i64) w A0_2 l0_2.length l0_2) (hc0_2 : l0_2.length ≤ c0_2) (hr1_0 : Kd.C (Kd.int .i64) w A1_0 l1_0.length l1_0) (hc1_0 : l1_0.length ≤ c1_0) (hr1_1 : Kd.C (Kd.int .i64) w A1_1 l1_1.length l1_1) (hc1_1 : l1_1.length ≤ c1_1) (h : water_Dig.f k a0_0 a0_1 l0_2 l1_0 l1_1 a2 a3 = some (r1, r2, r3, r4)) :
  Calls Try.prog 28 #[.agg #[.int .i64 a0_0,.int .i64 a0_1,.slice A0_2 l0_2.length c0_2],.agg #[.slice A1_0 l1_0.length c1_0,.slice A1_1 l1_1.length c1_1],.int .i64 a2,.int .i64 a3] w fun e w' => ∃ v0_ v1_ : Value,e = .returned (.tuple #[.agg #[v0_,v1_],.int .i64 r3,.int .i64 r4]) ∧ Kd.R (Kd.int .i64) 3 w' w.heap.size (fun k_ => some k_ ≠ (v1_ : Value).ownBlock) v0_ r1 ∧ Kd.R (Kd.int .i64) 3 w' w.heap.size (fun k_ => some k_ ≠ (v0_ : Value).ownBlock) v1_ r2 ∧ Below w.heap.size w w':=by
 have hu24:=Try.underlying24
 have hu26:=Try.underlying26
 have hu52:=Try.underlying52
 have hu71:=Try.underlying71
 have HR0_2:=Aside0.mk hr0_2
 have HC0_2:=Aside0.mk hc0_2
 clear hr0_2 hc0_2
 have HR1_0:=Aside0.mk hr1_0
 have HC1_0:=Aside0.mk hc1_0
 clear hr1_0 hc1_0
 have HR1_1:=Aside0.mk hr1_1
 have HC1_1:=Aside0.mk hc1_1
 clear hr1_1 hc1_1
 have HB:=Aside0.mk (Below.refl w.heap.size w)
 have H : ((water_at.f k a0_0 a0_1 l0_2 l1_0 l1_1 a2).bind fun bt376 => (if bt376.2.2.2.2.2 = 0 then (if a3 < 1 then (water_Dig.j0 k a2 a3 true l1_0 l1_1 bt376.1 bt376.2.1 bt376.2.2.1 bt376.2.2.2.1 bt376.2.2.2.2.1) else (water_Dig.j0 k a2 a3 (decide (a3 > 3)) l1_0 l1_1 bt376.1 bt376.2.1 bt376.2.2.1 bt376.2.2.2.1 bt376.2.2.2.2.1)) else (some (([] : List Int),([] : List Int),0,bt376.2.2.2.2.2)))) = some (r1,r2,r3,r4):=h
 clear h
 replace H:=Option.bind_eq_some_iff.mp H
 obtain ⟨⟨t376,t377,t378,t381,t384,t387⟩,A50,H⟩:=H
 replace H : (if t387 = 0 then (if a3 < 1 then (water_Dig.j0 k a2 a3 true l1_0 l1_1 t376 t377 t378 t381 t384) else (water_Dig.j0 k a2 a3 (decide (a3 > 3)) l1_0 l1_1 t376 t377 t378 t381 t384)) else (some (([] : List Int),([] : List Int),0,t387))) = some (r1,r2,r3,r4):=H
 have A5:=Aside0.mk A50
 clear A50
 by_cases c6 : t387 = 0
 ·rw [if_pos c6] at H
  have c6b0 : (t387 == 0) = true:=beq_iff_eq.mpr c6
  have c6b1 : (t387 != 0) = false:=bne_eq_false_iff_eq.mpr c6
  clear c6
  have HC7:=Aside0.mk H
  clear H
  go_enter Try.func28,Try.ntmps28
  go_upto_region 4 with (first|((with_reducible refine gate_dst (N:=4) rfl ?_);refine box_ev (N:=4) (cs:=#[.int .i64 a0_0,.int .i64 a0_1,.slice A0_2 l0_2.length c0_2]) (t:=24) ?_;intro gb373 hg w8 hbox hb;have BK373:=Aside0.mk (hbox);have GW373 : Aside0 (w.heap.size ≤ gb373):=gsz hg;have GE373:=GW373;replace HB:=Aside0.mk (below_step (hb_) hb);clear hb hbox hg)|((with_reducible refine gate_dst (N:=5) rfl ?_);refine box_ev (N:=5) (cs:=#[.slice A1_0 l1_0.length c1_0,.slice A1_1 l1_1.length c1_1]) (t:=26) ?_;intro gb374 hg w9 hbox hb;have BK374:=Aside0.mk (hbox);have GW374 : Aside0 (w.heap.size ≤ gb374):=gsz hg;have GE374:=GW374;have NB373_374:=nbl BK373 hg;have NB374_373:=nbr BK373 hg;replace BK373:=bkb BK373 hb;replace HB:=Aside0.mk (below_step (hb_) hb);clear hb hbox hg)|((with_reducible refine gate_dst (N:=8) rfl ?_);refine box_ev (N:=8) (cs:=#[.slice none 0 0,.slice none 0 0]) (t:=26) ?_;intro gb375 hg w10 hbox hb;have BK375:=Aside0.mk (hbox);have GW375 : Aside0 (w.heap.size ≤ gb375):=gsz hg;have GE375:=GW375;have NB373_375:=nbl BK373 hg;have NB375_373:=nbr BK373 hg;have NB374_375:=nbl BK374 hg;have NB375_374:=nbr BK374 hg;replace BK373:=bkb BK373 hb;replace BK374:=bkb BK374 hb;replace HB:=Aside0.mk (below_step (hb_) hb);clear hb hbox hg;have hnb11:=NB373_374.out;have hnc11:=NB374_373.out;have hnb12:=NB373_375.out;have hnc12:=NB375_373.out;obtain ⟨hcz13_0,hcz13_1,hcz13_2,hfz13_0,hfz13_1,hfz13_2⟩:=cells3 BK373.out;have hnb14:=NB374_375.out;have hnc14:=NB375_374.out;obtain ⟨hcz15_0,hcz15_1,hfz15_0,hfz15_1⟩:=cells2 BK374.out)|((with_reducible refine gate_callee (f:=40) rfl ?_);refine goesL_ (some 19) rfl rfl Try.func40 (by kernel_rfl) rfl #[.agg #[.int .i64 a0_0,.int .i64 a0_1,.slice A0_2 l0_2.length c0_2],.agg #[.slice A1_0 l1_0.length c1_0,.slice A1_1 l1_1.length c1_1],.int .i64 a2] rfl (by (try simp only [List.map_toArray,List.map_cons,List.map_nil]);first|done|rfl|(simp only [List.length_drop,List.length_take];rfl)) ?_;(with_reducible refine (water_at.calls k a0_0 a0_1 _ _ l0_2 _ _ l1_0 _ _ l1_1 a2 t376 t377 t378 t381 t384 t387 _ ?side1 ?side2 ?side3 ?side4 ?side5 ?side6 A5.out).mono ?_);(case side1 => exact Kd.C_up (Kd.C_below HR0_2.out HB.out));(case side2 => exact HC0_2.out);(case side3 => exact Kd.C_up (Kd.C_below HR1_0.out HB.out));(case side4 => exact HC1_0.out);(case side5 => exact Kd.C_up (Kd.C_below HR1_1.out HB.out));(case side6 => exact HC1_1.out);rintro e w16 ⟨v379,v382,v385,rfl,ho0,ho1,ho2,hb⟩;refine ⟨_,rfl,?_⟩;have HO380:=rlo ho0;have HO383:=rlo ho1;have HO386:=rlo ho2;replace BK373:=bkb BK373 hb;replace BK374:=bkb BK374 hb;replace BK375:=bkb BK375 hb;replace HB:=Aside0.mk (below_step (hb_) hb))|((with_reducible refine gate_dst (N:=11) rfl ?_);refine box_ev (N:=11) (cs:=#[.int .i64 0,.int .i64 0,.slice none 0 0,.slice none 0 0,.slice none 0 0]) (t:=52) ?_;intro gb388 hg w17 hbox hb;have BK388:=Aside0.mk (hbox);have GW388 : Aside0 (w.heap.size ≤ gb388):=gsz hg;have GE388:=GW388;have NB373_388:=nbl BK373 hg;have NB388_373:=nbr BK373 hg;have NB374_388:=nbl BK374 hg;have NB388_374:=nbr BK374 hg;have NB375_388:=nbl BK375 hg;have NB388_375:=nbr BK375 hg;replace HO380:=rbw HO380 hb;replace HO383:=rbw HO383 hb;replace HO386:=rbw HO386 hb;replace BK373:=bkb BK373 hb;replace BK374:=bkb BK374 hb;replace BK375:=bkb BK375 hb;replace HB:=Aside0.mk (below_step (hb_) hb);clear hb hbox hg;have hnb18:=NB388_373.out;have hnc18:=NB373_388.out;have hnb19:=NB388_374.out;have hnc19:=NB374_388.out;have hnb20:=NB388_375.out;have hnc20:=NB375_388.out;obtain ⟨hcz21_0,hcz21_1,hcz21_2,hcz21_3,hcz21_4,hfz21_0,hfz21_1,hfz21_2,hfz21_3,hfz21_4⟩:=cells5 BK388.out;obtain ⟨Ao22,co22,eo22⟩:=Kd.R_slice HO380.out;subst eo22;obtain ⟨Ao23,co23,eo23⟩:=Kd.R_slice HO383.out;subst eo23;obtain ⟨Ao24,co24,eo24⟩:=Kd.R_slice HO386.out;subst eo24))
  (try simp only [Act.put,List.setIfInBounds_toArray,List.set_cons_zero,List.set_cons_succ])
  go_cut [31] (fun v31 wc => ∃ (kq : Nat) (x31_6 : Bool),v31 = .bool x31_6 ∧ Aside0 (water_Dig.j0 kq a2 a3 x31_6 l1_0 l1_1 t376 t377 t378 t381 t384 = some (r1,r2,r3,r4)) ∧ Aside0 (kq ≤ k) ∧ Aside0 (Kd.R (Kd.int .i64) 3 wc w.heap.size (fun k_ => some k_ ≠ ((.slice Ao23 t381.length co23) : Value).ownBlock) (.slice Ao22 t378.length co22) t378) ∧ Aside0 (Kd.R (Kd.int .i64) 3 wc w.heap.size (fun k_ => some k_ ≠ ((.slice Ao22 t378.length co22) : Value).ownBlock) (.slice Ao23 t381.length co23) t381) ∧ Aside0 (Kd.R Kd.bool 4 wc w.heap.size (fun _ => True) (.slice Ao24 t384.length co24) t384) ∧ Aside0 (wc.heap[gb373]? = some (.cells #[.int .i64 a0_0,.int .i64 a0_1,(.slice A0_2 l0_2.length c0_2)] 24 (0,0))) ∧ Aside0 (wc.heap[gb374]? = some (.cells #[(.slice A1_0 l1_0.length c1_0),(.slice A1_1 l1_1.length c1_1)] 26 (0,0))) ∧ Aside0 (wc.heap[gb375]? = some (.cells #[(.slice none 0 0),(.slice none 0 0)] 26 (0,0))) ∧ Aside0 (wc.heap[gb388]? = some (.cells #[.int .i64 t376,.int .i64 t377,(.slice Ao22 t378.length co22),(.slice Ao23 t381.length co23),(.slice Ao24 t384.length co24)] 52 (0,0))) ∧ Aside0 (Below w.heap.size w wc))
  case first =>
   have H:=HC7.out
   clear HC7
   by_cases c25 : a3 < 1
   ·rw [if_pos c25] at H
    have c25b0 : decide (a3 < 1) = true:=decide_eq_true c25
    clear c25
    (first|rw [c25b0]|(simp only [i64_w,i32_w];rw [c25b0])|skip)
    have H':=Aside0.mk H
    clear H
    go_wp2
    go_meet
    case rel => exact ⟨_,(true),(by first|rfl|(simp;done)|(simp [*];done)),H',⟨by first|omega|exact Nat.le_refl _⟩,⟨by (with_reducible repeat (first|apply Kd.R_alloc|apply Kd.R_drewN|apply Kd.R_drew));exact Kd.R_mono (Kd.R_fars gb388 (Kd.R_types HO380.out BK388.out (by decide)) (fun _ hk => hk.2)) (fun _ hk => hk.1)⟩,⟨by (with_reducible repeat (first|apply Kd.R_alloc|apply Kd.R_drewN|apply Kd.R_drew));exact Kd.R_mono (Kd.R_fars gb388 (Kd.R_types HO383.out BK388.out (by decide)) (fun _ hk => hk.2)) (fun _ hk => hk.1)⟩,⟨by (with_reducible repeat (first|apply Kd.R_alloc|apply Kd.R_drewN|apply Kd.R_drew));exact Kd.R_mono (Kd.R_fars gb388 (Kd.R_types HO386.out BK388.out (by decide)) (fun _ hk => hk.2)) (fun _ hk => trivial)⟩,⟨by (with_reducible repeat (first|refine blk_drewN ?_ _|refine blk_drew ?_|refine blk_alloc ?_ _));refine blk_far ?_ NB373_388.out _;(with_reducible repeat (first|refine blk_drewN ?_ _|refine blk_drew ?_|refine blk_alloc ?_ _));refine blk_far ?_ NB373_388.out _;(with_reducible repeat (first|refine blk_drewN ?_ _|refine blk_drew ?_|refine blk_alloc ?_ _));refine blk_far ?_ NB373_388.out _;(with_reducible repeat (first|refine blk_drewN ?_ _|refine blk_drew ?_|refine blk_alloc ?_ _));refine blk_far ?_ NB373_388.out _;(with_reducible repeat (first|refine blk_drewN ?_ _|refine blk_drew ?_|refine blk_alloc ?_ _));refine blk_far ?_ NB373_388.out _;(with_reducible repeat (first|refine blk_drewN ?_ _|refine blk_drew ?_|refine blk_alloc ?_ _));exact BK373.out⟩,⟨by (with_reducible repeat (first|refine blk_drewN ?_ _|refine blk_drew ?_|refine blk_alloc ?_ _));refine blk_far ?_ NB374_388.out _;(with_reducible repeat (first|refine blk_drewN ?_ _|refine blk_drew ?_|refine blk_alloc ?_ _));refine blk_far ?_ NB374_388.out _;(with_reducible repeat (first|refine blk_drewN ?_ _|refine blk_drew ?_|refine blk_alloc ?_ _));refine blk_far ?_ NB374_388.out _;(with_reducible repeat (first|refine blk_drewN ?_ _|refine blk_drew ?_|refine blk_alloc ?_ _));refine blk_far ?_ NB374_388.out _;(with_reducible repeat (first|refine blk_drewN ?_ _|refine blk_drew ?_|refine blk_alloc ?_ _));refine blk_far ?_ NB374_388.out _;(with_reducible repeat (first|refine blk_drewN ?_ _|refine blk_drew ?_|refine blk_alloc ?_ _));exact BK374.out⟩,⟨by (with_reducible repeat (first|refine blk_drewN ?_ _|refine blk_drew ?_|refine blk_alloc ?_ _));refine blk_far ?_ NB375_388.out _;(with_reducible repeat (first|refine blk_drewN ?_ _|refine blk_drew ?_|refine blk_alloc ?_ _));refine blk_far ?_ NB375_388.out _;(with_reducible repeat (first|refine blk_drewN ?_ _|refine blk_drew ?_|refine blk_alloc ?_ _));refine blk_far ?_ NB375_388.out _;(with_reducible repeat (first|refine blk_drewN ?_ _|refine blk_drew ?_|refine blk_alloc ?_ _));refine blk_far ?_ NB375_388.out _;(with_reducible repeat (first|refine blk_drewN ?_ _|refine blk_drew ?_|refine blk_alloc ?_ _));refine blk_far ?_ NB375_388.out _;(with_reducible repeat (first|refine blk_drewN ?_ _|refine blk_drew ?_|refine blk_alloc ?_ _));exact BK375.out⟩,⟨by (with_reducible repeat (first|refine blk_drewN ?_ _|refine blk_drew ?_|refine blk_alloc ?_ _));exact blk_puts5 (blk_up BK388.out)⟩,⟨hb_⟩⟩
   ·rw [if_neg c25] at H
    have c25b0 : decide (a3 < 1) = false:=decide_eq_false c25
    clear c25
    (first|rw [c25b0]|(simp only [i64_w,i32_w];rw [c25b0])|skip)
    have H':=Aside0.mk H
    clear H
    go_wp2
    go_meet
    case rel => exact ⟨_,(decide (a3 > 3)),(by first|rfl|(simp;done)|(simp [*];done)),H',⟨by first|omega|exact Nat.le_refl _⟩,⟨by (with_reducible repeat (first|apply Kd.R_alloc|apply Kd.R_drewN|apply Kd.R_drew));exact Kd.R_mono (Kd.R_fars gb388 (Kd.R_types HO380.out BK388.out (by decide)) (fun _ hk => hk.2)) (fun _ hk => hk.1)⟩,⟨by (with_reducible repeat (first|apply Kd.R_alloc|apply Kd.R_drewN|apply Kd.R_drew));exact Kd.R_mono (Kd.R_fars gb388 (Kd.R_types HO383.out BK388.out (by decide)) (fun _ hk => hk.2)) (fun _ hk => hk.1)⟩,⟨by (with_reducible repeat (first|apply Kd.R_alloc|apply Kd.R_drewN|apply Kd.R_drew));exact Kd.R_mono (Kd.R_fars gb388 (Kd.R_types HO386.out BK388.out (by decide)) (fun _ hk => hk.2)) (fun _ hk => trivial)⟩,⟨by (with_reducible repeat (first|refine blk_drewN ?_ _|refine blk_drew ?_|refine blk_alloc ?_ _));refine blk_far ?_ NB373_388.out _;(with_reducible repeat (first|refine blk_drewN ?_ _|refine blk_drew ?_|refine blk_alloc ?_ _));refine blk_far ?_ NB373_388.out _;(with_reducible repeat (first|refine blk_drewN ?_ _|refine blk_drew ?_|refine blk_alloc ?_ _));refine blk_far ?_ NB373_388.out _;(with_reducible repeat (first|refine blk_drewN ?_ _|refine blk_drew ?_|refine blk_alloc ?_ _));refine blk_far ?_ NB373_388.out _;(with_reducible repeat (first|refine blk_drewN ?_ _|refine blk_drew ?_|refine blk_alloc ?_ _));refine blk_far ?_ NB373_388.out _;(with_reducible repeat (first|refine blk_drewN ?_ _|refine blk_drew ?_|refine blk_alloc ?_ _));exact BK373.out⟩,⟨by (with_reducible repeat (first|refine blk_drewN ?_ _|refine blk_drew ?_|refine blk_alloc ?_ _));refine blk_far ?_ NB374_388.out _;(with_reducible repeat (first|refine blk_drewN ?_ _|refine blk_drew ?_|refine blk_alloc ?_ _));refine blk_far ?_ NB374_388.out _;(with_reducible repeat (first|refine blk_drewN ?_ _|refine blk_drew ?_|refine blk_alloc ?_ _));refine blk_far ?_ NB374_388.out _;(with_reducible repeat (first|refine blk_drewN ?_ _|refine blk_drew ?_|refine blk_alloc ?_ _));refine blk_far ?_ NB374_388.out _;(with_reducible repeat (first|refine blk_drewN ?_ _|refine blk_drew ?_|refine blk_alloc ?_ _));refine blk_far ?_ NB374_388.out _;(with_reducible repeat (first|refine blk_drewN ?_ _|refine blk_drew ?_|refine blk_alloc ?_ _));exact BK374.out⟩,⟨by (with_reducible repeat (first|refine blk_drewN ?_ _|refine blk_drew ?_|refine blk_alloc ?_ _));refine blk_far ?_ NB375_388.out _;(with_reducible repeat (first|refine blk_drewN ?_ _|refine blk_drew ?_|refine blk_alloc ?_ _));refine blk_far ?_ NB375_388.out _;(with_reducible repeat (first|refine blk_drewN ?_ _|refine blk_drew ?_|refine blk_alloc ?_ _));refine blk_far ?_ NB375_388.out _;(with_reducible repeat (first|refine blk_drewN ?_ _|refine blk_drew ?_|refine blk_alloc ?_ _));refine blk_far ?_ NB375_388.out _;(with_reducible repeat (first|refine blk_drewN ?_ _|refine blk_drew ?_|refine blk_alloc ?_ _));refine blk_far ?_ NB375_388.out _;(with_reducible repeat (first|refine blk_drewN ?_ _|refine blk_drew ?_|refine blk_alloc ?_ _));exact BK375.out⟩,⟨by (with_reducible repeat (first|refine blk_drewN ?_ _|refine blk_drew ?_|refine blk_alloc ?_ _));exact blk_puts5 (blk_up BK388.out)⟩,⟨hb_⟩⟩
  case rest =>
   clear HC7
   obtain ⟨kq,x31_6,rfl,HA,HJ6,HO_389002,HO_389003,HO_389004,BK373,BK374,BK375,BK388,HB⟩:=hcut
   cases kq with
   | zero => exact absurd HA.out (by simp [water_Dig.j0])
   | succ kj6 =>
    have H:=HA.out
    clear HA
    simp only [water_Dig.j0] at H
    by_cases c26 : x31_6 = true
    ·subst c26
     have H1 : (some (([] : List Int),([] : List Int),0,1)) = some (r1,r2,r3,r4):=by rw [if_pos rfl] at H;exact H
     clear H
     have H:=H1
     clear H1
     simp only [Option.some.injEq,Prod.mk.injEq] at H
     obtain ⟨rfl,rfl,rfl,rfl⟩:=H
     have hnb27:=NB375_373.out
     have hnc27:=NB373_375.out
     have hnb28:=NB375_374.out
     have hnc28:=NB374_375.out
     have hnb29:=NB375_388.out
     have hnc29:=NB388_375.out
     obtain ⟨hcz30_0,hcz30_1,hfz30_0,hfz30_1⟩:=cells2 BK375.out
     go_wp2
     refine bodyPost_ret (results_ctt rfl _ _ gb375 26 #[.slice none 0 0,.slice none 0 0] (0,0) _ rfl (by (with_reducible repeat (first|refine blk_drewN ?_ _|refine blk_drew ?_|refine blk_alloc ?_ _));exact blk_puts2 (blk_up BK375.out)) Try.underlying26 rfl (by kernel_rfl)) rfl ?_
     exact ⟨_,_,by first|rfl|(simp [errW_none,errW_some] <;> rfl)|(simp [*,errW_none,errW_some] <;> rfl),by first|exact Kd.R_nil _ _ _ _ _|exact Kd.N_nil _ _ _ _ _|exact Kd.V_nil _ _ _ _ _|exact Kd.Q_nil _ _ _ _ _|exact Kd.S_nil _ _ _ _ _,by first|exact Kd.R_nil _ _ _ _ _|exact Kd.N_nil _ _ _ _ _|exact Kd.V_nil _ _ _ _ _|exact Kd.Q_nil _ _ _ _ _|exact Kd.S_nil _ _ _ _ _,hb_⟩
    ·replace c26:=Bool.eq_false_iff.mpr c26
     subst c26
     have H1 : (if 0 ≤ a2 then (if a2 < (l1_0.length : Int) then (if (rd l1_0 a2) = 0 then ((water_ground_may.f kj6 t376 t377 t378 t381 t384 a2 a3).bind fun t390 => (if t390 = 0 then ((water_clone.f l1_0 l1_1).bind fun bt391 => (if a2 < (bt391.1.length : Int) then (if 0 ≤ a3 then (if a3 < 4 then (some ((bt391.1.set (a2 : Int).toNat a3),bt391.2,wrap64 ((ix71 (⟨0,1,4,2⟩ : S71) a3) * 500),0)) else (none)) else (none)) else (none))) else (some (([] : List Int),([] : List Int),0,t390)))) else (some (([] : List Int),([] : List Int),0,7))) else (none)) else (none)) = some (r1,r2,r3,r4):=by rw [if_neg (show ¬ (false = true) by decide)] at H;exact H
     clear H
     have H:=H1
     clear H1
     by_cases c31 : 0 ≤ a2
     ·rw [if_pos c31] at H
      have c31b0 : decide (0 ≤ a2) = true:=decide_eq_true c31
      clear c31
      by_cases c32 : a2 < (l1_0.length : Int)
      ·rw [if_pos c32] at H
       have c32b0 : decide (a2 < (l1_0.length : Int)) = true:=decide_eq_true c32
       clear c32
       by_cases c33 : (rd l1_0 a2) = 0
       ·rw [if_pos c33] at H
        have c33b0 : ((rd l1_0 a2) == 0) = true:=beq_iff_eq.mpr c33
        have c33b1 : ((rd l1_0 a2) != 0) = false:=bne_eq_false_iff_eq.mpr c33
        clear c33
        replace H:=Option.bind_eq_some_iff.mp H
        obtain ⟨t390,A340,H⟩:=H
        replace H : (if t390 = 0 then ((water_clone.f l1_0 l1_1).bind fun bt391 => (if a2 < (bt391.1.length : Int) then (if 0 ≤ a3 then (if a3 < 4 then (some ((bt391.1.set (a2 : Int).toNat a3),bt391.2,wrap64 ((ix71 (⟨0,1,4,2⟩ : S71) a3) * 500),0)) else (none)) else (none)) else (none))) else (some (([] : List Int),([] : List Int),0,t390))) = some (r1,r2,r3,r4):=H
        have A34:=Aside0.mk A340
        clear A340
        by_cases c35 : t390 = 0
        ·rw [if_pos c35] at H
         have c35b0 : (t390 == 0) = true:=beq_iff_eq.mpr c35
         have c35b1 : (t390 != 0) = false:=bne_eq_false_iff_eq.mpr c35
         clear c35
         replace H:=Option.bind_eq_some_iff.mp H
         obtain ⟨⟨t391,t394⟩,A360,H⟩:=H
         replace H : (if a2 < (t391.length : Int) then (if 0 ≤ a3 then (if a3 < 4 then (some ((t391.set (a2 : Int).toNat a3),t394,wrap64 ((ix71 (⟨0,1,4,2⟩ : S71) a3) * 500),0)) else (none)) else (none)) else (none)) = some (r1,r2,r3,r4):=H
         have A36:=Aside0.mk A360
         clear A360
         by_cases c37 : a2 < (t391.length : Int)
         ·rw [if_pos c37] at H
          have c37b0 : decide (a2 < (t391.length : Int)) = true:=decide_eq_true c37
          clear c37
          obtain ⟨y398,hy398⟩ : ∃ y_ : List Int,y_ = (t391.set (a2 : Int).toNat a3):=⟨_,rfl⟩
          replace H : (if 0 ≤ a3 then (if a3 < 4 then (some (y398,t394,wrap64 ((ix71 (⟨0,1,4,2⟩ : S71) a3) * 500),0)) else (none)) else (none)) = some (r1,r2,r3,r4):=by first|(rw [hy398];with_reducible exact H)|(have H2_:=(Option.bind_some _ _).symm.trans H;rw [hy398];with_reducible exact H2_)|(have H2_:=(Option.bind_some _ _).symm.trans H;with_reducible exact H2_)|with_reducible exact H|(rw [hy398];exact H)|exact H
          have Ny398:=Aside0.mk hy398
          clear hy398
          by_cases c39 : 0 ≤ a3
          ·rw [if_pos c39] at H
           have c39b0 : decide (0 ≤ a3) = true:=decide_eq_true c39
           clear c39
           by_cases c40 : a3 < 4
           ·rw [if_pos c40] at H
            have c40b0 : decide (a3 < 4) = true:=decide_eq_true c40
            clear c40
            have hix41:=fun (W_ : World) => (ix71_run 0 1 4 2 a3 (of_decide_eq_true (by first|(with_reducible assumption)|assumption)) (of_decide_eq_true (by first|(with_reducible assumption)|assumption)) W_ : (Instr.index 71 (.agg #[.int .i64 0,.int .i64 1,.int .i64 4,.int .i64 2]) (.int .i64 a3)).run Try.prog W_ = .ok (.int .i64 (ix71 (⟨0,1,4,2⟩ : S71) a3)) W_)
            simp only [Option.some.injEq,Prod.mk.injEq] at H
            obtain ⟨rfl,rfl,rfl,rfl⟩:=H
            have hnb42:=NB374_373.out
            have hnc42:=NB373_374.out
            have hnb43:=NB374_375.out
            have hnc43:=NB375_374.out
            have hnb44:=NB374_388.out
            have hnc44:=NB388_374.out
            obtain ⟨hcz45_0,hcz45_1,hfz45_0,hfz45_1⟩:=cells2 BK374.out
            have p389 : 0 ≤ (a2 : Int):=of_decide_eq_true (by first|(with_reducible assumption)|assumption)
            have q389 : a2 < (l1_0.length : Int):=of_decide_eq_true (by first|(with_reducible assumption)|assumption)
            obtain ⟨ad389,e389,hx389_0⟩:=Kd.at_int HR1_0.out a2 p389 q389
            cases e389
            replace hx389_0:=(HB.out.cell (World.block_lt_of_cell? w _ hx389_0)).trans hx389_0
            replace p389:=eq_true p389
            replace q389:=eq_true q389
            have hnb46:=NB388_373.out
            have hnc46:=NB373_388.out
            have hnb47:=NB388_375.out
            have hnc47:=NB375_388.out
            obtain ⟨hcz48_0,hcz48_1,hcz48_2,hcz48_3,hcz48_4,hfz48_0,hfz48_1,hfz48_2,hfz48_3,hfz48_4⟩:=cells5 BK388.out
            try go_wp2_with (first|((with_reducible refine gate_callee (f:=52) rfl ?_);refine goesL_ (some 43) rfl rfl Try.func52 (by kernel_rfl) rfl #[.agg #[.int .i64 t376,.int .i64 t377,.slice Ao22 t378.length co22,.slice Ao23 t381.length co23,.slice Ao24 t384.length co24],.int .i64 a2,.int .i64 a3] rfl (by (try simp only [List.map_toArray,List.map_cons,List.map_nil]);first|done|rfl|(simp only [List.length_drop,List.length_take];rfl)) ?_;(with_reducible refine (water_ground_may.calls kj6 t376 t377 _ _ t378 _ _ t381 _ _ t384 a2 a3 t390 _ ?side1 ?side2 ?side3 ?side4 ?side5 ?side6 A34.out).mono ?_);(case side1 => exact Kd.C_up (Kd.R_reads' HO_389002.out).2.2);(case side2 => exact (Kd.R_reads' HO_389002.out).2.1);(case side3 => exact Kd.C_up (Kd.R_reads' HO_389003.out).2.2);(case side4 => exact (Kd.R_reads' HO_389003.out).2.1);(case side5 => exact Kd.C_up (Kd.R_reads' HO_389004.out).2.2);(case side6 => exact (Kd.R_reads' HO_389004.out).2.1);rintro e w49 ⟨rfl,hb⟩;refine ⟨_,rfl,?_⟩;replace HO_389002:=rbw HO_389002 hb;replace HO_389003:=rbw HO_389003 hb;replace HO_389004:=rbw HO_389004 hb;replace BK373:=bkb BK373 hb;replace BK374:=bkb BK374 hb;replace BK375:=bkb BK375 hb;replace BK388:=bkb BK388 hb;replace HB:=Aside0.mk (below_step (hb_) hb);obtain ⟨hcz50_0,hcz50_1,hfz50_0,hfz50_1⟩:=cells2 BK374.out)|((with_reducible refine gate_callee (f:=53) rfl ?_);refine goesL_ (some 49) rfl rfl Try.func53 (by kernel_rfl) rfl #[.agg #[.slice (some ad389) l1_0.length c1_0,.slice A1_1 l1_1.length c1_1]] rfl (by (try simp only [List.map_toArray,List.map_cons,List.map_nil]);first|done|rfl|(simp only [List.length_drop,List.length_take];rfl)) ?_;(with_reducible refine (water_clone.calls _ _ l1_0 _ _ l1_1 t391 t394 _ ?side1 ?side2 ?side3 ?side4 A36.out).mono ?_);(case side1 => exact Kd.C_up (Kd.C_below HR1_0.out HB.out));(case side2 => exact HC1_0.out);(case side3 => exact Kd.C_up (Kd.C_below HR1_1.out HB.out));(case side4 => exact HC1_1.out);rintro e w51 ⟨v392,v395,rfl,ho0,ho1,hb⟩;refine ⟨_,rfl,?_⟩;have HO393:=Aside0.mk (Kd.R_lower (Kd.R_new' (Kd.R_new' ho0 (Kd.R_lt (Kd.R_up HO_389002.out))) (Kd.R_lt (Kd.R_up HO_389003.out))) (below_size (hb_)));have HO396:=Aside0.mk (Kd.R_lower (Kd.R_new' (Kd.R_new' ho1 (Kd.R_lt (Kd.R_up HO_389002.out))) (Kd.R_lt (Kd.R_up HO_389003.out))) (below_size (hb_)));replace HO_389002:=Aside0.mk (Kd.R_mono (Kd.R_told (Kd.R_told (Kd.R_old (Kd.R_up HO_389002.out) hb) (Kd.R_base ho0)) (Kd.R_base ho1)) (fun _ h_ => h_.1));replace HO_389003:=Aside0.mk (Kd.R_mono (Kd.R_told (Kd.R_told (Kd.R_old (Kd.R_up HO_389003.out) hb) (Kd.R_base ho0)) (Kd.R_base ho1)) (fun _ h_ => h_.1));replace HO_389004:=rbw HO_389004 hb;replace BK373:=bkb BK373 hb;replace BK374:=bkb BK374 hb;replace BK375:=bkb BK375 hb;replace BK388:=bkb BK388 hb;replace HB:=Aside0.mk (below_step (hb_) hb))|((with_reducible refine gate_dst (N:=14) rfl ?_);refine box_ev (N:=14) (cs:=#[.slice none 0 0,.slice none 0 0]) (t:=26) ?_;intro gb397 hg w52 hbox hb;have BK397:=Aside0.mk (hbox);have GW397 : Aside0 (w.heap.size ≤ gb397):=gsz hg;have GE397:=GW397;have NB373_397:=nbl BK373 hg;have NB397_373:=nbr BK373 hg;have NB374_397:=nbl BK374 hg;have NB397_374:=nbr BK374 hg;have NB375_397:=nbl BK375 hg;have NB397_375:=nbr BK375 hg;have NB388_397:=nbl BK388 hg;have NB397_388:=nbr BK388 hg;replace HO_389002:=rbw HO_389002 hb;replace HO_389003:=rbw HO_389003 hb;replace HO_389004:=rbw HO_389004 hb;replace HO393:=rbw HO393 hb;replace HO396:=rbw HO396 hb;replace BK373:=bkb BK373 hb;replace BK374:=bkb BK374 hb;replace BK375:=bkb BK375 hb;replace BK388:=bkb BK388 hb;replace HB:=Aside0.mk (below_step (hb_) hb);clear hb hbox hg;obtain ⟨Ao53,co53,eo53⟩:=Kd.R_slice HO393.out;subst eo53;have hnb54:=NB397_373.out;have hnc54:=NB373_397.out;have hnb55:=NB397_374.out;have hnc55:=NB374_397.out;have hnb56:=NB397_375.out;have hnc56:=NB375_397.out;have hnb57:=NB397_388.out;have hnc57:=NB388_397.out;obtain ⟨hcz58_0,hcz58_1,hfz58_0,hfz58_1⟩:=cells2 BK397.out;obtain ⟨Ao59,co59,eo59⟩:=Kd.R_slice HO396.out;subst eo59)|((with_reducible refine gate_store (t:=26) (p:=14) rfl ?_);refine store_event (t:=26) (p:=14) (v:=?vo_w60) (w1:=((w52.setCell ⟨gb397,0,none⟩ (.slice Ao53 t391.length co53)).setCell ⟨gb397,1,none⟩ (.slice Ao59 t394.length co59))) ?hg ?ho ?hn ?hr ?_;(case ho => rfl);(case hg => rfl);(case hn => rfl);(case hr => first|(go_simp;done)|(go_simp;rfl));intro w60 hw;have n0_ : Aside0 (Kd.R (Kd.int .i64) 3 w60 w.heap.size (fun k_ => some k_ ≠ (.slice Ao23 t381.length co23 : Value).ownBlock ∧ some k_ ≠ (.slice Ao53 t391.length co53 : Value).ownBlock ∧ some k_ ≠ (.slice Ao59 t394.length co59 : Value).ownBlock) (.slice Ao22 t378.length co22) t378):=⟨(by rw [hw];exact (by (with_reducible repeat (first|apply Kd.R_alloc|apply Kd.R_drewN|apply Kd.R_drew));exact Kd.R_mono (Kd.R_fars gb397 (Kd.R_types HO_389002.out BK397.out (by decide)) (fun _ hk => hk.2)) (fun _ hk => ⟨hk.1.1.1,⟨hk.1.1.2,hk.1.2⟩⟩)))⟩;have n1_ : Aside0 (Kd.R (Kd.int .i64) 3 w60 w.heap.size (fun k_ => some k_ ≠ (.slice Ao22 t378.length co22 : Value).ownBlock ∧ some k_ ≠ (.slice Ao53 t391.length co53 : Value).ownBlock ∧ some k_ ≠ (.slice Ao59 t394.length co59 : Value).ownBlock) (.slice Ao23 t381.length co23) t381):=⟨(by rw [hw];exact (by (with_reducible repeat (first|apply Kd.R_alloc|apply Kd.R_drewN|apply Kd.R_drew));exact Kd.R_mono (Kd.R_fars gb397 (Kd.R_types HO_389003.out BK397.out (by decide)) (fun _ hk => hk.2)) (fun _ hk => ⟨hk.1.1.1,⟨hk.1.1.2,hk.1.2⟩⟩)))⟩;have n2_ : Aside0 (Kd.R Kd.bool 4 w60 w.heap.size (fun _ => True) (.slice Ao24 t384.length co24) t384):=⟨(by rw [hw];exact (by (with_reducible repeat (first|apply Kd.R_alloc|apply Kd.R_drewN|apply Kd.R_drew));exact Kd.R_mono (Kd.R_fars gb397 (Kd.R_types HO_389004.out BK397.out (by decide)) (fun _ hk => hk.2)) (fun _ hk => trivial)))⟩;have n3_ : Aside0 (Kd.R (Kd.int .i64) 3 w60 w.heap.size (fun k_ => some k_ ≠ (.slice Ao22 t378.length co22 : Value).ownBlock ∧ some k_ ≠ (.slice Ao23 t381.length co23 : Value).ownBlock ∧ some k_ ≠ (.slice Ao59 t394.length co59 : Value).ownBlock) (.slice Ao53 t391.length co53) t391):=⟨(by rw [hw];exact (by (with_reducible repeat (first|apply Kd.R_alloc|apply Kd.R_drewN|apply Kd.R_drew));exact Kd.R_mono (Kd.R_fars gb397 (Kd.R_types HO393.out BK397.out (by decide)) (fun _ hk => hk.2)) (fun _ hk => ⟨hk.1.1.2,⟨hk.1.2,hk.1.1.1⟩⟩)))⟩;have n4_ : Aside0 (Kd.R (Kd.int .i64) 3 w60 w.heap.size (fun k_ => some k_ ≠ (.slice Ao22 t378.length co22 : Value).ownBlock ∧ some k_ ≠ (.slice Ao23 t381.length co23 : Value).ownBlock ∧ some k_ ≠ (.slice Ao53 t391.length co53 : Value).ownBlock) (.slice Ao59 t394.length co59) t394):=⟨(by rw [hw];exact (by (with_reducible repeat (first|apply Kd.R_alloc|apply Kd.R_drewN|apply Kd.R_drew));exact Kd.R_mono (Kd.R_fars gb397 (Kd.R_types HO396.out BK397.out (by decide)) (fun _ hk => hk.2)) (fun _ hk => ⟨hk.1.1.2,⟨hk.1.2,hk.1.1.1⟩⟩)))⟩;have n5_ : Aside0 (w60.heap[gb373]? = some (.cells #[.int .i64 a0_0,.int .i64 a0_1,.slice A0_2 l0_2.length c0_2] 24 (0,0))):=⟨(by rw [hw];exact (by (with_reducible repeat (first|refine blk_drewN ?_ _|refine blk_drew ?_|refine blk_alloc ?_ _));refine blk_far ?_ NB373_397.out _;(with_reducible repeat (first|refine blk_drewN ?_ _|refine blk_drew ?_|refine blk_alloc ?_ _));refine blk_far ?_ NB373_397.out _;(with_reducible repeat (first|refine blk_drewN ?_ _|refine blk_drew ?_|refine blk_alloc ?_ _));exact BK373.out))⟩;have n6_ : Aside0 (w60.heap[gb374]? = some (.cells #[.slice (some ad389) l1_0.length c1_0,.slice A1_1 l1_1.length c1_1] 26 (0,0))):=⟨(by rw [hw];exact (by (with_reducible repeat (first|refine blk_drewN ?_ _|refine blk_drew ?_|refine blk_alloc ?_ _));refine blk_far ?_ NB374_397.out _;(with_reducible repeat (first|refine blk_drewN ?_ _|refine blk_drew ?_|refine blk_alloc ?_ _));refine blk_far ?_ NB374_397.out _;(with_reducible repeat (first|refine blk_drewN ?_ _|refine blk_drew ?_|refine blk_alloc ?_ _));exact BK374.out))⟩;have n7_ : Aside0 (w60.heap[gb375]? = some (.cells #[.slice none 0 0,.slice none 0 0] 26 (0,0))):=⟨(by rw [hw];exact (by (with_reducible repeat (first|refine blk_drewN ?_ _|refine blk_drew ?_|refine blk_alloc ?_ _));refine blk_far ?_ NB375_397.out _;(with_reducible repeat (first|refine blk_drewN ?_ _|refine blk_drew ?_|refine blk_alloc ?_ _));refine blk_far ?_ NB375_397.out _;(with_reducible repeat (first|refine blk_drewN ?_ _|refine blk_drew ?_|refine blk_alloc ?_ _));exact BK375.out))⟩;have n8_ : Aside0 (w60.heap[gb388]? = some (.cells #[.int .i64 t376,.int .i64 t377,.slice Ao22 t378.length co22,.slice Ao23 t381.length co23,.slice Ao24 t384.length co24] 52 (0,0))):=⟨(by rw [hw];exact (by (with_reducible repeat (first|refine blk_drewN ?_ _|refine blk_drew ?_|refine blk_alloc ?_ _));refine blk_far ?_ NB388_397.out _;(with_reducible repeat (first|refine blk_drewN ?_ _|refine blk_drew ?_|refine blk_alloc ?_ _));refine blk_far ?_ NB388_397.out _;(with_reducible repeat (first|refine blk_drewN ?_ _|refine blk_drew ?_|refine blk_alloc ?_ _));exact BK388.out))⟩;have n9_ : Aside0 (w60.heap[gb397]? = some (.cells #[.slice Ao53 t391.length co53,.slice Ao59 t394.length co59] 26 (0,0))):=⟨(by rw [hw];exact (by (with_reducible repeat (first|refine blk_drewN ?_ _|refine blk_drew ?_|refine blk_alloc ?_ _));exact blk_puts2 (blk_up BK397.out)))⟩;have n10_ : Aside0 (Below w.heap.size w w60):=⟨(by rw [hw];exact (hb_))⟩;clear hw;clear HO_389002;clear HO_389003;clear HO_389004;clear HO393;clear HO396;clear BK373;clear BK374;clear BK375;clear BK388;clear BK397;clear HB;have HO_389002:=n0_;have HO_389003:=n1_;have HO_389004:=n2_;have HO393:=n3_;have HO396:=n4_;have BK373:=n5_;have BK374:=n6_;have BK375:=n7_;have BK388:=n8_;have BK397:=n9_;have HB:=n10_;clear n0_ n1_ n2_ n3_ n4_ n5_ n6_ n7_ n8_ n9_ n10_;obtain ⟨hcz61_0,hcz61_1,hfz61_0,hfz61_1⟩:=cells2 BK397.out;have p38 : 0 ≤ (a2 : Int):=of_decide_eq_true (by first|(with_reducible assumption)|assumption);have q38 : (a2 : Int) < ((t391.length : Int) : Int):=of_decide_eq_true (by first|(with_reducible assumption)|assumption);obtain ⟨go38,co38,eo38,gb38,gl38,cl38,HG38⟩:=Kd.R_form HO393.out (by omega);(first|cases eo38|(injection eo38 with ea_ en_ ec_;(first|subst ea_|(injection ea_ with ea_;subst ea_));subst ec_;clear en_));have GB38:=Aside0.mk gb38;have GG38:=Aside0.mk HG38;clear gb38 gl38 HG38;obtain ⟨hx38_0,hf38_0⟩:=Kd.R_celln 0 HO393.out (a2 : Int) p38 q38;replace p38:=eq_true p38;replace q38:=eq_true q38;obtain ⟨hy62_,hz62_⟩:=Kd.R_celln 0 HO393.out (a2 : Int) (of_decide_eq_true (by first|(with_reducible assumption)|assumption)) (of_decide_eq_true (by first|(with_reducible assumption)|assumption));have HP62:=Kd.R_putg HO393.out (a2 : Int) a3)|((with_reducible refine gate_store (t:=3) (p:=54) rfl ?_);refine store_event (t:=3) (p:=54) (v:=?vo_w63) (w1:=(w60.setCell ⟨go38,(a2 : Int).toNat,none⟩ (.int .i64 a3))) ?hg ?ho ?hn ?hr ?_;(case ho => rfl);(case hg => rfl);(case hn => rfl);(case hr => first|(go_simp;done)|(go_simp;rfl));intro w63 hw;have hg : w60.grownBy w63 (some go38):=(by rw [hw];exact HP62.2);have hp_ : Kd.R (Kd.int .i64) 3 w63 w.heap.size (fun k_ => some k_ ≠ (.slice Ao22 t378.length co22 : Value).ownBlock ∧ some k_ ≠ (.slice Ao23 t381.length co23 : Value).ownBlock ∧ some k_ ≠ (.slice Ao59 t394.length co59 : Value).ownBlock) (.slice (some ⟨go38,0,none⟩) t391.length co53) y398:=(by rw [hw,Ny398.out];exact HP62.1);clear HP62;replace HO_389002:=Aside0.mk (Kd.R_after (v:=(.slice (some ⟨go38,0,none⟩) t391.length co53)) (v1:=(.slice (some ⟨go38,0,none⟩) t391.length co53)) (ok:=(fun k_ => some k_ ≠ (.slice Ao23 t381.length co23 : Value).ownBlock ∧ some k_ ≠ (.slice Ao59 t394.length co59 : Value).ownBlock)) (by (with_reducible repeat (first|apply Kd.R_alloc|apply Kd.R_drewN|apply Kd.R_drew));exact Kd.R_mono HO_389002.out (fun _ hk => ⟨⟨hk.1,hk.2.2⟩,hk.2.1⟩)) hg (.inl rfl));replace HO_389003:=Aside0.mk (Kd.R_after (v:=(.slice (some ⟨go38,0,none⟩) t391.length co53)) (v1:=(.slice (some ⟨go38,0,none⟩) t391.length co53)) (ok:=(fun k_ => some k_ ≠ (.slice Ao22 t378.length co22 : Value).ownBlock ∧ some k_ ≠ (.slice Ao59 t394.length co59 : Value).ownBlock)) (by (with_reducible repeat (first|apply Kd.R_alloc|apply Kd.R_drewN|apply Kd.R_drew));exact Kd.R_mono HO_389003.out (fun _ hk => ⟨⟨hk.1,hk.2.2⟩,hk.2.1⟩)) hg (.inl rfl));replace HO_389004:=Aside0.mk (Kd.R_over' (v:=(.slice (some ⟨go38,0,none⟩) t391.length co53)) (Kd.R_up HO_389004.out) (Kd.R_typed HO393.out) (by decide) hg);replace BK373:=Aside0.mk (blk_grown (blk_up BK373.out) hg (Kd.R_ne HO393.out BK373.out (by decide)));replace BK374:=Aside0.mk (blk_grown (blk_up BK374.out) hg (Kd.R_ne HO393.out BK374.out (by decide)));replace BK375:=Aside0.mk (blk_grown (blk_up BK375.out) hg (Kd.R_ne HO393.out BK375.out (by decide)));replace BK388:=Aside0.mk (blk_grown (blk_up BK388.out) hg (Kd.R_ne HO393.out BK388.out (by decide)));replace HO396:=Aside0.mk (Kd.R_after (v:=(.slice (some ⟨go38,0,none⟩) t391.length co53)) (v1:=(.slice (some ⟨go38,0,none⟩) t391.length co53)) (ok:=(fun k_ => some k_ ≠ (.slice Ao22 t378.length co22 : Value).ownBlock ∧ some k_ ≠ (.slice Ao23 t381.length co23 : Value).ownBlock)) (by (with_reducible repeat (first|apply Kd.R_alloc|apply Kd.R_drewN|apply Kd.R_drew));exact Kd.R_mono HO396.out (fun _ hk => ⟨⟨hk.1,hk.2.1⟩,hk.2.2⟩)) hg (.inl rfl));replace BK397:=Aside0.mk (blk_grown (blk_up BK397.out) hg (Kd.R_ne HO393.out BK397.out (by decide)));replace HO393:=Aside0.mk (hp_);replace HB:=Aside0.mk ((by rw [hw];exact below_set (HB.out) GB38.out : Below w.heap.size w w63));clear hg hw hp_))
            replace HO_389002:=Aside0.mk (Kd.R_drew HO_389002.out)
            replace HO_389003:=Aside0.mk (Kd.R_drew HO_389003.out)
            replace HO_389004:=Aside0.mk (Kd.R_drew HO_389004.out)
            replace HO393:=Aside0.mk (Kd.R_drew HO393.out)
            replace HO396:=Aside0.mk (Kd.R_drew HO396.out)
            replace BK373:=Aside0.mk (blk_drew BK373.out)
            replace BK374:=Aside0.mk (blk_drew BK374.out)
            replace BK375:=Aside0.mk (blk_drew BK375.out)
            replace BK388:=Aside0.mk (blk_drew BK388.out)
            replace BK397:=Aside0.mk (blk_drew BK397.out)
            replace HB:=Aside0.mk (below_drew1 HB.out)
            refine start_ (n:=8) (S:=fun w' => w'.cell? ⟨gb397,0,none⟩ = some (.slice (some ⟨go38,0,none⟩) t391.length co53) ∧ w'.cell? ⟨gb397,1,none⟩ = some (.slice Ao59 t394.length co59)) (ds:=[]) #[false,false,false,false,false,false,false,false] (by kernel_rfl) rfl rfl ⟨(blk_cell BK397.out 0).trans rfl,(blk_cell BK397.out 1).trans rfl⟩ (fun hHeld => ?_);refine with_tabW water_Dig.tab13 water_Dig.bits13 (fun HT_ HW_ => ?_)
            generalize w63.drew = w64 at HO_389002 HO_389003 HO_389004 HO393 HO396 BK373 BK374 BK375 BK388 BK397 HB hHeld ⊢
            refine pureZ (i:=1) (N:=some 56) #[false,true,false,false,false,false,false,false] ?_
            refine pureZ (i:=2) (N:=some 57) #[false,true,true,false,false,false,false,false] ?_
            refine takeZ2 (i:=0) (N:=some 55) #[true,true,true,false,false,false,false,false] hHeld ?_
            refine takeZ2 (i:=3) (N:=some 58) #[true,true,true,true,false,false,false,false] hHeld ?_
            refine pureZ (i:=4) (N:=some 59) #[true,true,true,true,true,false,false,false] ?_
            refine one_ (i:=5) (N:=none) #[true,true,true,true,true,true,false,false] rfl rfl (one_of HT_.out (by kernel_rfl)) (by decide) (fun K hK => ?_)
            have hs65 : w64.cell? ⟨gb375,0,none⟩ = some (.slice none 0 0):=(blk_cell BK375.out 0).trans rfl
            have hfs65:=blk_frozen BK375.out 0
            have hns65_0:=NB373_375.out
            have hns65_1:=NB374_375.out
            have hns65_3:=NB388_375.out
            have hns65_4:=NB397_375.out
            have hms65_0:=NB375_373.out
            have hms65_1:=NB375_374.out
            have hms65_3:=NB375_388.out
            have hms65_4:=NB375_397.out
            have hs66 : w64.cell? ⟨gb375,1,none⟩ = some (.slice none 0 0):=(blk_cell BK375.out 1).trans rfl
            have hfs66:=blk_frozen BK375.out 1
            have hns66_0:=NB373_375.out
            have hns66_1:=NB374_375.out
            have hns66_3:=NB388_375.out
            have hns66_4:=NB397_375.out
            have hms66_0:=NB375_373.out
            have hms66_1:=NB375_374.out
            have hms66_3:=NB375_388.out
            have hms66_4:=NB375_397.out
            refine skip_ (w1:=?_) (by rfl) rfl ?_ ?_
            rotate_left
            ·go_simp
             rfl
            refine hK.out _ _ ⟨((cell_far (p:=⟨gb375,_,none⟩) NB397_375.out _).trans (((cell_far (p:=⟨gb375,_,none⟩) NB397_375.out _).trans (hHeld.1)))),((cell_far (p:=⟨gb375,_,none⟩) NB397_375.out _).trans (((cell_far (p:=⟨gb375,_,none⟩) NB397_375.out _).trans (hHeld.2))))⟩ (fun hHeld => ?_)
            clear hK K
            refine pureZ (i:=6) (N:=some 9) #[true,true,true,true,true,true,true,false] ?_
            refine pureZ (i:=7) (N:=some 10) #[true,true,true,true,true,true,true,true] ?_
            refine done_ (done_of HT_.out (by kernel_rfl)) ?_
            try go_wp2
            refine bodyPost_ret (results_ctt rfl _ _ gb375 26 #[.slice (some ⟨go38,0,none⟩) t391.length co53,.slice Ao59 t394.length co59] (0,0) _ rfl (by (with_reducible repeat (first|refine blk_drewN ?_ _|refine blk_drew ?_|refine blk_alloc ?_ _));exact blk_puts2 (blk_up BK375.out)) Try.underlying26 rfl (by kernel_rfl)) rfl ?_
            exact ⟨_,_,by first|rfl|(simp [errW_none,errW_some] <;> rfl)|(simp [*,errW_none,errW_some] <;> rfl),by (with_reducible repeat (first|apply Kd.R_alloc|apply Kd.R_drewN|apply Kd.R_drew));exact Kd.R_mono (Kd.R_fars gb375 (Kd.R_types HO393.out BK375.out (by decide)) (fun _ hk => hk.2)) (fun _ hk => hk.1.2.2),by (with_reducible repeat (first|apply Kd.R_alloc|apply Kd.R_drewN|apply Kd.R_drew));exact Kd.R_mono (Kd.R_fars gb375 (Kd.R_types HO396.out BK375.out (by decide)) (fun _ hk => hk.2)) (fun _ hk => hk.1.2),hb_⟩
           ·rw [if_neg c40] at H
            exact absurd H (by simp)
          ·rw [if_neg c39] at H
           exact absurd H (by simp)
         ·rw [if_neg c37] at H
          exact absurd H (by simp)
        ·rw [if_neg c35] at H
         have c35b0 : (t390 == 0) = false:=beq_eq_false_iff_ne.mpr c35
         have c35b1 : (t390 != 0) = true:=bne_iff_ne.mpr c35
         simp only [Option.some.injEq,Prod.mk.injEq] at H
         obtain ⟨rfl,rfl,rfl,rfl⟩:=H
         have hnb67:=NB374_373.out
         have hnc67:=NB373_374.out
         have hnb68:=NB374_375.out
         have hnc68:=NB375_374.out
         have hnb69:=NB374_388.out
         have hnc69:=NB388_374.out
         obtain ⟨hcz70_0,hcz70_1,hfz70_0,hfz70_1⟩:=cells2 BK374.out
         have p389 : 0 ≤ (a2 : Int):=of_decide_eq_true (by first|(with_reducible assumption)|assumption)
         have q389 : a2 < (l1_0.length : Int):=of_decide_eq_true (by first|(with_reducible assumption)|assumption)
         obtain ⟨ad389,e389,hx389_0⟩:=Kd.at_int HR1_0.out a2 p389 q389
         cases e389
         replace hx389_0:=(HB.out.cell (World.block_lt_of_cell? w _ hx389_0)).trans hx389_0
         replace p389:=eq_true p389
         replace q389:=eq_true q389
         have hnb71:=NB388_373.out
         have hnc71:=NB373_388.out
         have hnb72:=NB388_375.out
         have hnc72:=NB375_388.out
         obtain ⟨hcz73_0,hcz73_1,hcz73_2,hcz73_3,hcz73_4,hfz73_0,hfz73_1,hfz73_2,hfz73_3,hfz73_4⟩:=cells5 BK388.out
         go_wp2_with (first|((with_reducible refine gate_callee (f:=52) rfl ?_);refine goesL_ (some 43) rfl rfl Try.func52 (by kernel_rfl) rfl #[.agg #[.int .i64 t376,.int .i64 t377,.slice Ao22 t378.length co22,.slice Ao23 t381.length co23,.slice Ao24 t384.length co24],.int .i64 a2,.int .i64 a3] rfl (by (try simp only [List.map_toArray,List.map_cons,List.map_nil]);first|done|rfl|(simp only [List.length_drop,List.length_take];rfl)) ?_;(with_reducible refine (water_ground_may.calls kj6 t376 t377 _ _ t378 _ _ t381 _ _ t384 a2 a3 t390 _ ?side1 ?side2 ?side3 ?side4 ?side5 ?side6 A34.out).mono ?_);(case side1 => exact Kd.C_up (Kd.R_reads' HO_389002.out).2.2);(case side2 => exact (Kd.R_reads' HO_389002.out).2.1);(case side3 => exact Kd.C_up (Kd.R_reads' HO_389003.out).2.2);(case side4 => exact (Kd.R_reads' HO_389003.out).2.1);(case side5 => exact Kd.C_up (Kd.R_reads' HO_389004.out).2.2);(case side6 => exact (Kd.R_reads' HO_389004.out).2.1);rintro e w74 ⟨rfl,hb⟩;refine ⟨_,rfl,?_⟩;replace HO_389002:=rbw HO_389002 hb;replace HO_389003:=rbw HO_389003 hb;replace HO_389004:=rbw HO_389004 hb;replace BK373:=bkb BK373 hb;replace BK374:=bkb BK374 hb;replace BK375:=bkb BK375 hb;replace BK388:=bkb BK388 hb;replace HB:=Aside0.mk (below_step (hb_) hb);have hnb75:=NB375_373.out;have hnc75:=NB373_375.out;obtain ⟨hcz76_0,hcz76_1,hfz76_0,hfz76_1⟩:=cells2 BK375.out))
         refine bodyPost_ret (results_ctt rfl _ _ gb375 26 #[.slice none 0 0,.slice none 0 0] (0,0) _ rfl (by (with_reducible repeat (first|refine blk_drewN ?_ _|refine blk_drew ?_|refine blk_alloc ?_ _));exact blk_puts2 (blk_up BK375.out)) Try.underlying26 rfl (by kernel_rfl)) rfl ?_
         exact ⟨_,_,by first|rfl|(simp [errW_none,errW_some] <;> rfl)|(simp [*,errW_none,errW_some] <;> rfl),by first|exact Kd.R_nil _ _ _ _ _|exact Kd.N_nil _ _ _ _ _|exact Kd.V_nil _ _ _ _ _|exact Kd.Q_nil _ _ _ _ _|exact Kd.S_nil _ _ _ _ _,by first|exact Kd.R_nil _ _ _ _ _|exact Kd.N_nil _ _ _ _ _|exact Kd.V_nil _ _ _ _ _|exact Kd.Q_nil _ _ _ _ _|exact Kd.S_nil _ _ _ _ _,hb_⟩
       ·rw [if_neg c33] at H
        have c33b0 : ((rd l1_0 a2) == 0) = false:=beq_eq_false_iff_ne.mpr c33
        have c33b1 : ((rd l1_0 a2) != 0) = true:=bne_iff_ne.mpr c33
        simp only [Option.some.injEq,Prod.mk.injEq] at H
        obtain ⟨rfl,rfl,rfl,rfl⟩:=H
        have hnb77:=NB374_373.out
        have hnc77:=NB373_374.out
        have hnb78:=NB374_375.out
        have hnc78:=NB375_374.out
        have hnb79:=NB374_388.out
        have hnc79:=NB388_374.out
        obtain ⟨hcz80_0,hcz80_1,hfz80_0,hfz80_1⟩:=cells2 BK374.out
        have p389 : 0 ≤ (a2 : Int):=of_decide_eq_true (by first|(with_reducible assumption)|assumption)
        have q389 : a2 < (l1_0.length : Int):=of_decide_eq_true (by first|(with_reducible assumption)|assumption)
        obtain ⟨ad389,e389,hx389_0⟩:=Kd.at_int HR1_0.out a2 p389 q389
        cases e389
        replace hx389_0:=(HB.out.cell (World.block_lt_of_cell? w _ hx389_0)).trans hx389_0
        replace p389:=eq_true p389
        replace q389:=eq_true q389
        have hnb81:=NB375_373.out
        have hnc81:=NB373_375.out
        have hnb82:=NB375_388.out
        have hnc82:=NB388_375.out
        obtain ⟨hcz83_0,hcz83_1,hfz83_0,hfz83_1⟩:=cells2 BK375.out
        go_wp2
        refine bodyPost_ret (results_ctt rfl _ _ gb375 26 #[.slice none 0 0,.slice none 0 0] (0,0) _ rfl (by (with_reducible repeat (first|refine blk_drewN ?_ _|refine blk_drew ?_|refine blk_alloc ?_ _));exact blk_puts2 (blk_up BK375.out)) Try.underlying26 rfl (by kernel_rfl)) rfl ?_
        exact ⟨_,_,by first|rfl|(simp [errW_none,errW_some] <;> rfl)|(simp [*,errW_none,errW_some] <;> rfl),by first|exact Kd.R_nil _ _ _ _ _|exact Kd.N_nil _ _ _ _ _|exact Kd.V_nil _ _ _ _ _|exact Kd.Q_nil _ _ _ _ _|exact Kd.S_nil _ _ _ _ _,by first|exact Kd.R_nil _ _ _ _ _|exact Kd.N_nil _ _ _ _ _|exact Kd.V_nil _ _ _ _ _|exact Kd.Q_nil _ _ _ _ _|exact Kd.S_nil _ _ _ _ _,hb_⟩
      ·rw [if_neg c32] at H
       exact absurd H (by simp)
     ·rw [if_neg c31] at H
      exact absurd H (by simp)
 ·rw [if_neg c6] at H
  have c6b0 : (t387 == 0) = false:=beq_eq_false_iff_ne.mpr c6
  have c6b1 : (t387 != 0) = true:=bne_iff_ne.mpr c6
  simp only [Option.some.injEq,Prod.mk.injEq] at H
  obtain ⟨rfl,rfl,rfl,rfl⟩:=H
  go_enter Try.func28,Try.ntmps28
  go_wp2_with (first|((with_reducible refine gate_dst (N:=4) rfl ?_);refine box_ev (N:=4) (cs:=#[.int .i64 a0_0,.int .i64 a0_1,.slice A0_2 l0_2.length c0_2]) (t:=24) ?_;intro gb373 hg w84 hbox hb;have BK373:=Aside0.mk (hbox);have GW373 : Aside0 (w.heap.size ≤ gb373):=gsz hg;have GE373:=GW373;replace HB:=Aside0.mk (below_step (hb_) hb);clear hb hbox hg)|((with_reducible refine gate_dst (N:=5) rfl ?_);refine box_ev (N:=5) (cs:=#[.slice A1_0 l1_0.length c1_0,.slice A1_1 l1_1.length c1_1]) (t:=26) ?_;intro gb374 hg w85 hbox hb;have BK374:=Aside0.mk (hbox);have GW374 : Aside0 (w.heap.size ≤ gb374):=gsz hg;have GE374:=GW374;have NB373_374:=nbl BK373 hg;have NB374_373:=nbr BK373 hg;replace BK373:=bkb BK373 hb;replace HB:=Aside0.mk (below_step (hb_) hb);clear hb hbox hg)|((with_reducible refine gate_dst (N:=8) rfl ?_);refine box_ev (N:=8) (cs:=#[.slice none 0 0,.slice none 0 0]) (t:=26) ?_;intro gb375 hg w86 hbox hb;have BK375:=Aside0.mk (hbox);have GW375 : Aside0 (w.heap.size ≤ gb375):=gsz hg;have GE375:=GW375;have NB373_375:=nbl BK373 hg;have NB375_373:=nbr BK373 hg;have NB374_375:=nbl BK374 hg;have NB375_374:=nbr BK374 hg;replace BK373:=bkb BK373 hb;replace BK374:=bkb BK374 hb;replace HB:=Aside0.mk (below_step (hb_) hb);clear hb hbox hg;have hnb87:=NB373_374.out;have hnc87:=NB374_373.out;have hnb88:=NB373_375.out;have hnc88:=NB375_373.out;obtain ⟨hcz89_0,hcz89_1,hcz89_2,hfz89_0,hfz89_1,hfz89_2⟩:=cells3 BK373.out;have hnb90:=NB374_375.out;have hnc90:=NB375_374.out;obtain ⟨hcz91_0,hcz91_1,hfz91_0,hfz91_1⟩:=cells2 BK374.out)|((with_reducible refine gate_callee (f:=40) rfl ?_);refine goesL_ (some 19) rfl rfl Try.func40 (by kernel_rfl) rfl #[.agg #[.int .i64 a0_0,.int .i64 a0_1,.slice A0_2 l0_2.length c0_2],.agg #[.slice A1_0 l1_0.length c1_0,.slice A1_1 l1_1.length c1_1],.int .i64 a2] rfl (by (try simp only [List.map_toArray,List.map_cons,List.map_nil]);first|done|rfl|(simp only [List.length_drop,List.length_take];rfl)) ?_;(with_reducible refine (water_at.calls k a0_0 a0_1 _ _ l0_2 _ _ l1_0 _ _ l1_1 a2 t376 t377 t378 t381 t384 t387 _ ?side1 ?side2 ?side3 ?side4 ?side5 ?side6 A5.out).mono ?_);(case side1 => exact Kd.C_up (Kd.C_below HR0_2.out HB.out));(case side2 => exact HC0_2.out);(case side3 => exact Kd.C_up (Kd.C_below HR1_0.out HB.out));(case side4 => exact HC1_0.out);(case side5 => exact Kd.C_up (Kd.C_below HR1_1.out HB.out));(case side6 => exact HC1_1.out);rintro e w92 ⟨v379,v382,v385,rfl,ho0,ho1,ho2,hb⟩;refine ⟨_,rfl,?_⟩;have HO380:=rlo ho0;have HO383:=rlo ho1;have HO386:=rlo ho2;replace BK373:=bkb BK373 hb;replace BK374:=bkb BK374 hb;replace BK375:=bkb BK375 hb;replace HB:=Aside0.mk (below_step (hb_) hb))|((with_reducible refine gate_dst (N:=11) rfl ?_);refine box_ev (N:=11) (cs:=#[.int .i64 0,.int .i64 0,.slice none 0 0,.slice none 0 0,.slice none 0 0]) (t:=52) ?_;intro gb388 hg w93 hbox hb;have BK388:=Aside0.mk (hbox);have GW388 : Aside0 (w.heap.size ≤ gb388):=gsz hg;have GE388:=GW388;have NB373_388:=nbl BK373 hg;have NB388_373:=nbr BK373 hg;have NB374_388:=nbl BK374 hg;have NB388_374:=nbr BK374 hg;have NB375_388:=nbl BK375 hg;have NB388_375:=nbr BK375 hg;replace HO380:=rbw HO380 hb;replace HO383:=rbw HO383 hb;replace HO386:=rbw HO386 hb;replace BK373:=bkb BK373 hb;replace BK374:=bkb BK374 hb;replace BK375:=bkb BK375 hb;replace HB:=Aside0.mk (below_step (hb_) hb);clear hb hbox hg;have hnb94:=NB388_373.out;have hnc94:=NB373_388.out;have hnb95:=NB388_374.out;have hnc95:=NB374_388.out;have hnb96:=NB388_375.out;have hnc96:=NB375_388.out;obtain ⟨hcz97_0,hcz97_1,hcz97_2,hcz97_3,hcz97_4,hfz97_0,hfz97_1,hfz97_2,hfz97_3,hfz97_4⟩:=cells5 BK388.out;obtain ⟨Ao98,co98,eo98⟩:=Kd.R_slice HO380.out;subst eo98;obtain ⟨Ao99,co99,eo99⟩:=Kd.R_slice HO383.out;subst eo99;obtain ⟨Ao100,co100,eo100⟩:=Kd.R_slice HO386.out;subst eo100;obtain ⟨hcz101_0,hcz101_1,hfz101_0,hfz101_1⟩:=cells2 BK375.out))
  refine bodyPost_ret (results_ctt rfl _ _ gb375 26 #[.slice none 0 0,.slice none 0 0] (0,0) _ rfl (by (with_reducible repeat (first|refine blk_drewN ?_ _|refine blk_drew ?_|refine blk_alloc ?_ _));refine blk_put (cs:=#[.slice none 0 0,.slice none 0 0]) ?_ 1 _ rfl;(with_reducible repeat (first|refine blk_drewN ?_ _|refine blk_drew ?_|refine blk_alloc ?_ _));refine blk_put (cs:=#[.slice none 0 0,.slice none 0 0]) ?_ 0 _ rfl;(with_reducible repeat (first|refine blk_drewN ?_ _|refine blk_drew ?_|refine blk_alloc ?_ _));refine blk_far ?_ NB375_388.out _;(with_reducible repeat (first|refine blk_drewN ?_ _|refine blk_drew ?_|refine blk_alloc ?_ _));refine blk_far ?_ NB375_388.out _;(with_reducible repeat (first|refine blk_drewN ?_ _|refine blk_drew ?_|refine blk_alloc ?_ _));refine blk_far ?_ NB375_388.out _;(with_reducible repeat (first|refine blk_drewN ?_ _|refine blk_drew ?_|refine blk_alloc ?_ _));refine blk_far ?_ NB375_388.out _;(with_reducible repeat (first|refine blk_drewN ?_ _|refine blk_drew ?_|refine blk_alloc ?_ _));refine blk_far ?_ NB375_388.out _;(with_reducible repeat (first|refine blk_drewN ?_ _|refine blk_drew ?_|refine blk_alloc ?_ _));exact BK375.out) Try.underlying26 rfl (by kernel_rfl)) rfl ?_
  exact ⟨_,_,by first|rfl|(simp [errW_none,errW_some] <;> rfl)|(simp [*,errW_none,errW_some] <;> rfl),by first|exact Kd.R_nil _ _ _ _ _|exact Kd.N_nil _ _ _ _ _|exact Kd.V_nil _ _ _ _ _|exact Kd.Q_nil _ _ _ _ _|exact Kd.S_nil _ _ _ _ _,by first|exact Kd.R_nil _ _ _ _ _|exact Kd.N_nil _ _ _ _ _|exact Kd.V_nil _ _ _ _ _|exact Kd.Q_nil _ _ _ _ _|exact Kd.S_nil _ _ _ _ _,hb_⟩

end Go.Proofs.Ytiencnnkphipoaa.P

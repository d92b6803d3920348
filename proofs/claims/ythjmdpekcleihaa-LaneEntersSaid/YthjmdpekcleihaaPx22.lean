/- Functions of this seat as plain Lean functions, with proofs that the Go code comes to just their answers, or what stands between them and a law's statement; no conditions. (Laid by a program of this session, out of the kit's print.) -/
import Derived.Test.YthjmdpekcleihaaPx0
import Derived.Test.YthjmdpekcleihaaPx3
import Derived.Test.YthjmdpekcleihaaPx6
import Derived.Test.YthjmdpekcleihaaPx16
import Derived.Test.YthjmdpekcleihaaPx19
import Derived.Test.YthjmdpekcleihaaPx20
import Derived.Test.YthjmdpekcleihaaPx21
namespace Go.Proofs.Ythjmdpekcleihaa.P
open Go.RowKit Go.Proofs.YthjmdpekcleihaaW.PrintWords Go.Proofs.YthjmdpekcleihaaW.PrintLast Go.Proofs.YthjmdpekcleihaaW.PrintMore
attribute [local go_sem] max2_int min2_int max_two min_two max_three min_three max_four min_four   -- for this text's walks alone
set_option linter.unusedVariables false
set_option linter.unusedSimpArgs false

/-! ### lane_copied: function 46 -/
def lane_copied.f (a0_0 : Int) (a0_1 : Int) (l0_2 : List Int) (l0_3 : List Int) (l0_4 : List Int) (l0_5 : List (S50)) : Option (Int × Int × List Int × List Int × List Int × (List (S50))) := (slices_Clone_int_int.f l0_2).bind fun t355 => ((slices_Clone_int_int.f l0_3).bind fun t358 => ((slices_Clone_int_int.f l0_4).bind fun t361 => ((api_Truck_70.f l0_5).bind fun t364 => (some (a0_0, a0_1, t355, t358, t361, t364)))))
def lane_copied.T1 : Bool × List (List Nat × List Nat) := (true, [([], []), ([0], [0]), ([1], [1]), ([2], [2]), ([], []), ([4], [4]), ([5], [5]), ([6, 3], [6]), ([0, 1, 2, 3, 4, 5, 6], []), ([8, 0, 1, 2, 3, 4, 5, 6], [8]), ([9, 3, 7, 0, 1, 2, 3, 4, 5, 6], [3, 9]), ([0, 1, 2, 3, 4, 5, 6, 7, 8, 9, 10], []), ([11, 0, 1, 2, 3, 4, 5, 6, 7, 8, 9, 10], [11]), ([12, 7, 10, 0, 1, 2, 3, 4, 5, 6, 7, 8, 9, 10], [7, 12])])
def lane_copied.B1 : List Nat := [0, 1, 3, 7, 0, 16, 48, 127, 127, 383, 1023, 2047, 4095, 8191]
theorem lane_copied.tab1 : rtab .any (opsOf Try.f46 1) = lane_copied.T1 := by kernel_rfl
theorem lane_copied.bits1 : waitsOk lane_copied.T1.2 lane_copied.B1 = true := by kernel_rfl
def lane_copied.T2 : Bool × List (List Nat × List Nat) := (true, [([], []), ([0], [0]), ([1], [1]), ([], []), ([3], [3]), ([4, 2], [4]), ([0, 1, 2, 3, 4], []), ([6, 2, 5, 0, 1, 2, 3, 4], [2, 6]), ([0, 1, 2, 3, 4, 5, 6, 7], []), ([8, 5, 7, 0, 1, 2, 3, 4, 5, 6, 7], [5, 8])])
def lane_copied.B2 : List Nat := [0, 1, 3, 0, 8, 31, 31, 127, 255, 511]
theorem lane_copied.tab2 : rtab .any (opsOf Try.f46 2) = lane_copied.T2 := by kernel_rfl
theorem lane_copied.bits2 : waitsOk lane_copied.T2.2 lane_copied.B2 = true := by kernel_rfl
set_option maxHeartbeats 8000000 in
set_option maxRecDepth 100000 in
theorem lane_copied.calls (a0_0 : Int) (a0_1 : Int) (A0_2 : Option Addr) (c0_2 : Nat) (l0_2 : List Int) (A0_3 : Option Addr) (c0_3 : Nat) (l0_3 : List Int) (A0_4 : Option Addr) (c0_4 : Nat) (l0_4 : List Int) (A0_5 : Option Addr) (c0_5 : Nat) (l0_5 : List (S50)) (r1 : Int) (r2 : Int) (r3 : List Int) (r4 : List Int) (r5 : List Int) (r6 : List (S50)) (w : World) (hr0_2 : Kd.C (Kd.int .i64) w A0_2 l0_2.length l0_2) (hc0_2 : l0_2.length ≤ c0_2) (hr0_3 : Kd.C (Kd.int .i64) w A0_3 l0_3.length l0_3) (hc0_3 : l0_3.length ≤ c0_3) (hr0_4 : Kd.C (Kd.int .i64) w A0_4 l0_4.length l0_4) (hc0_4 : l0_4.length ≤ c0_4) (hr0_5 : Kd.C k50 w A0_5 l0_5.length l0_5) (hc0_5 : l0_5.length ≤ c0_5) (h : lane_copied.f a0_0 a0_1 l0_2 l0_3 l0_4 l0_5 = some (r1, r2, r3, r4, r5, r6)) :
  Calls Try.prog 46 #[.agg #[.int .i64 a0_0,.int .i64 a0_1,.slice A0_2 l0_2.length c0_2,.slice A0_3 l0_3.length c0_3,.slice A0_4 l0_4.length c0_4,.slice A0_5 l0_5.length c0_5]] w fun e w' => ∃ v2_ v3_ v4_ v5_ : Value,e = .returned (.agg #[.int .i64 r1,.int .i64 r2,v2_,v3_,v4_,v5_]) ∧ Kd.R (Kd.int .i64) 3 w' w.heap.size (fun k_ => some k_ ≠ (v3_ : Value).ownBlock ∧ some k_ ≠ (v4_ : Value).ownBlock) v2_ r3 ∧ Kd.R (Kd.int .i64) 3 w' w.heap.size (fun k_ => some k_ ≠ (v2_ : Value).ownBlock ∧ some k_ ≠ (v4_ : Value).ownBlock) v3_ r4 ∧ Kd.R (Kd.int .i64) 3 w' w.heap.size (fun k_ => some k_ ≠ (v2_ : Value).ownBlock ∧ some k_ ≠ (v3_ : Value).ownBlock) v4_ r5 ∧ Kd.R k50 50 w' w.heap.size (fun _ => True) v5_ r6 ∧ Below w.heap.size w w':=by
 have hu33:=Try.underlying33
 have HR0_2:=Aside0.mk hr0_2
 have HC0_2:=Aside0.mk hc0_2
 clear hr0_2 hc0_2
 have HR0_3:=Aside0.mk hr0_3
 have HC0_3:=Aside0.mk hc0_3
 clear hr0_3 hc0_3
 have HR0_4:=Aside0.mk hr0_4
 have HC0_4:=Aside0.mk hc0_4
 clear hr0_4 hc0_4
 have HR0_5:=Aside0.mk hr0_5
 have HC0_5:=Aside0.mk hc0_5
 clear hr0_5 hc0_5
 have HB:=Aside0.mk (Below.refl w.heap.size w)
 have H : ((slices_Clone_int_int.f l0_2).bind fun t355 => ((slices_Clone_int_int.f l0_3).bind fun t358 => ((slices_Clone_int_int.f l0_4).bind fun t361 => ((api_Truck_70.f l0_5).bind fun t364 => (some (a0_0,a0_1,t355,t358,t361,t364)))))) = some (r1,r2,r3,r4,r5,r6):=h
 clear h
 replace H:=Option.bind_eq_some_iff.mp H
 obtain ⟨t355,A20,H⟩:=H
 replace H : ((slices_Clone_int_int.f l0_3).bind fun t358 => ((slices_Clone_int_int.f l0_4).bind fun t361 => ((api_Truck_70.f l0_5).bind fun t364 => (some (a0_0,a0_1,t355,t358,t361,t364))))) = some (r1,r2,r3,r4,r5,r6):=H
 have A2:=Aside0.mk A20
 clear A20
 replace H:=Option.bind_eq_some_iff.mp H
 obtain ⟨t358,A30,H⟩:=H
 replace H : ((slices_Clone_int_int.f l0_4).bind fun t361 => ((api_Truck_70.f l0_5).bind fun t364 => (some (a0_0,a0_1,t355,t358,t361,t364)))) = some (r1,r2,r3,r4,r5,r6):=H
 have A3:=Aside0.mk A30
 clear A30
 replace H:=Option.bind_eq_some_iff.mp H
 obtain ⟨t361,A40,H⟩:=H
 replace H : ((api_Truck_70.f l0_5).bind fun t364 => (some (a0_0,a0_1,t355,t358,t361,t364))) = some (r1,r2,r3,r4,r5,r6):=H
 have A4:=Aside0.mk A40
 clear A40
 replace H:=Option.bind_eq_some_iff.mp H
 obtain ⟨t364,A50,H⟩:=H
 replace H : (some (a0_0,a0_1,t355,t358,t361,t364)) = some (r1,r2,r3,r4,r5,r6):=H
 have A5:=Aside0.mk A50
 clear A50
 simp only [Option.some.injEq,Prod.mk.injEq] at H
 obtain ⟨rfl,rfl,rfl,rfl,rfl,rfl⟩:=H
 go_enter Try.func46,Try.ntmps46
 try go_wp2_with (first|((with_reducible refine gate_dst (N:=1) rfl ?_);refine box_ev (N:=1) (cs:=#[.int .i64 a0_0,.int .i64 a0_1,.slice A0_2 l0_2.length c0_2,.slice A0_3 l0_3.length c0_3,.slice A0_4 l0_4.length c0_4,.slice A0_5 l0_5.length c0_5]) (t:=33) ?_;intro gb353 hg w6 hbox hb;have BK353:=Aside0.mk (hbox);have GW353 : Aside0 (w.heap.size ≤ gb353):=gsz hg;have GE353:=GW353;replace HB:=hbs hb;clear hb hbox hg)|((with_reducible refine gate_dst (N:=2) rfl ?_);refine box_ev (N:=2) (cs:=#[.int .i64 0,.int .i64 0,.slice none 0 0,.slice none 0 0,.slice none 0 0,.slice none 0 0]) (t:=33) ?_;intro gb354 hg w7 hbox hb;have BK354:=Aside0.mk (hbox);have GW354 : Aside0 (w.heap.size ≤ gb354):=gsz hg;have GE354:=GW354;have NB353_354:=nbl BK353 hg;have NB354_353:=nbr BK353 hg;replace BK353:=bkb BK353 hb;replace HB:=hbs hb;clear hb hbox hg))
 replace BK353:=Aside0.mk (blk_drew BK353.out)
 replace BK354:=Aside0.mk (blk_drew BK354.out)
 replace HB:=Aside0.mk (below_drew1 HB.out)
 refine start_ (n:=14) (S:=fun w' => w'.cell? ⟨gb353,0,none⟩ = some (.int .i64 a0_0) ∧ w'.cell? ⟨gb353,1,none⟩ = some (.int .i64 a0_1) ∧ w'.cell? ⟨gb353,2,none⟩ = some (.slice A0_2 l0_2.length c0_2) ∧ w'.cell? ⟨gb353,3,none⟩ = some (.slice A0_3 l0_3.length c0_3) ∧ w'.cell? ⟨gb353,4,none⟩ = some (.slice A0_4 l0_4.length c0_4) ∧ w'.cell? ⟨gb353,5,none⟩ = some (.slice A0_5 l0_5.length c0_5)) (ds:=[10,13]) #[false,false,false,false,false,false,false,false,false,false,false,false,false,false] (by kernel_rfl) rfl rfl ⟨(blk_cell BK353.out 0).trans rfl,(blk_cell BK353.out 1).trans rfl,(blk_cell BK353.out 2).trans rfl,(blk_cell BK353.out 3).trans rfl,(blk_cell BK353.out 4).trans rfl,(blk_cell BK353.out 5).trans rfl⟩ (fun hHeld => ?_);refine with_tabW lane_copied.tab1 lane_copied.bits1 (fun HT_ HW_ => ?_)
 generalize w7.drew = w8 at BK353 BK354 HB hHeld ⊢
 refine pI 0 (some 3) ?_
 refine pI 1 (some 4) ?_
 refine pI 4 (some 7) ?_
 refine pI 5 (some 8) ?_
 refine tI6 2 (some 5) hHeld ?_
 refine tI6 6 (some 9) hHeld ?_
 refine oI 3 (some 6) (fun K hK => ?_)
 refine goes_ Try.func69 (by kernel_rfl) rfl #[.slice A0_2 l0_2.length c0_2] (by rfl) rfl rfl ga_ ?_
 with_reducible refine (slices_Clone_int_int.calls _ _ l0_2 t355 _ ?side1 ?side2 A2.out).mono ?_
 (case side1 => exact cq HR0_2)
 (case side2 => exact HC0_2.out)
 rintro e w9 ⟨v356,rfl,ho0,hb⟩
 refine ⟨_,rfl,?_⟩
 have n0_:=rlo ho0
 have n1_:=bkb BK353 hb
 have n2_:=bkb BK354 hb
 have n3_:=Aside0.mk (below_step (hb_) hb)
 clear BK353
 clear BK354
 clear HB
 have HO357:=n0_
 have BK353:=n1_
 have BK354:=n2_
 have HB:=n3_
 clear n0_ n1_ n2_ n3_
 (try clear hb)
 (try clear hb2)
 (try clear hk)
 (try clear hi)
 (try clear ho0)
 refine hK.out _ _ ⟨(blk_cell BK353.out 0).trans rfl,(blk_cell BK353.out 1).trans rfl,(blk_cell BK353.out 2).trans rfl,(blk_cell BK353.out 3).trans rfl,(blk_cell BK353.out 4).trans rfl,(blk_cell BK353.out 5).trans rfl⟩ (fun hHeld => ?_)
 clear hK K
 refine norm_ (a':=?_) ?_ ?_
 rotate_left
 ·show Act.put _ (some 6) _ = _
  simp only [Act.put,List.setIfInBounds_toArray,List.set_cons_zero,List.set_cons_succ,i64_w,i32_w]
  rfl
 refine pI 8 (some 11) ?_
 refine pI 9 (some 12) ?_
 refine oI 7 (some 10) (fun K hK => ?_)
 refine goes_ Try.func69 (by kernel_rfl) rfl #[.slice A0_3 l0_3.length c0_3] (by rfl) rfl rfl ga_ ?_
 with_reducible refine (slices_Clone_int_int.calls _ _ l0_3 t358 _ ?side1 ?side2 A3.out).mono ?_
 (case side1 => exact cq HR0_3)
 (case side2 => exact HC0_3.out)
 rintro e w10 ⟨v359,rfl,ho0,hb⟩
 refine ⟨_,rfl,?_⟩
 have n0_:=Aside0.mk (Kd.R_elder' (Kd.R_up HO357.out) (Kd.R_base ho0) hb)
 have n1_:=Aside0.mk (Kd.R_lower (Kd.R_new' ho0 (Kd.R_lt (Kd.R_up HO357.out))) (below_size (hb_)))
 have n2_:=bkb BK353 hb
 have n3_:=bkb BK354 hb
 have n4_:=Aside0.mk (below_step (hb_) hb)
 clear HO357
 clear BK353
 clear BK354
 clear HB
 have HO357:=n0_
 have HO360:=n1_
 have BK353:=n2_
 have BK354:=n3_
 have HB:=n4_
 clear n0_ n1_ n2_ n3_ n4_
 (try clear hb)
 (try clear hb2)
 (try clear hk)
 (try clear hi)
 (try clear ho0)
 obtain ⟨Ao11,co11,eo11⟩:=Kd.R_slice HO357.out
 (first|subst eo11|(injection eo11 with f1_ f2_ f3_;have f4_:=f1_.symm;have f5_:=f3_.symm;clear f1_ f2_ f3_;subst f4_;subst f5_))
 obtain ⟨Ao13,co13,eo13⟩:=Kd.R_slice HO360.out
 (first|subst eo13|(injection eo13 with f1_ f2_ f3_;have f4_:=f1_.symm;have f5_:=f3_.symm;clear f1_ f2_ f3_;subst f4_;subst f5_))
 refine hK.out _ _ ⟨(blk_cell BK353.out 0).trans rfl,(blk_cell BK353.out 1).trans rfl,(blk_cell BK353.out 2).trans rfl,(blk_cell BK353.out 3).trans rfl,(blk_cell BK353.out 4).trans rfl,(blk_cell BK353.out 5).trans rfl⟩ (fun hHeld => ?_)
 clear hK K
 refine norm_ (a':=?_) ?_ ?_
 rotate_left
 ·show Act.put _ (some 10) _ = _
  simp only [Act.put,List.setIfInBounds_toArray,List.set_cons_zero,List.set_cons_succ,i64_w,i32_w]
  rfl
 refine last_ (i:=10) (N:=none) #[true,true,true,true,true,true,true,true,true,true,true,false,false,false] rfl rfl (one_of HT_.out (by kernel_rfl)) (by decide) (fun K hK => ?_)
 have hs12 : w10.cell? ⟨gb353,2,none⟩ = some (.slice A0_2 l0_2.length c0_2):=(blk_cell BK353.out 2).trans rfl
 have hfs12:=blk_frozen BK353.out 2
 have hns12_1:=NB354_353.out
 have hms12_1:=NB353_354.out
 refine skip_ (w1:=?_) (by rfl) rfl ?_ ?_
 rotate_left
 ·go_simp
  rfl
 refine hK.out _ _ ?_
 clear hK K
 refine pI 11 (some 13) ?_
 refine pI 12 (some 14) ?_
 refine last_ (i:=13) (N:=none) #[true,true,true,true,true,true,true,true,true,true,true,true,true,true] rfl rfl (one_of HT_.out (by kernel_rfl)) (by decide) (fun K hK => ?_)
 have hs14 : w10.cell? ⟨gb353,3,none⟩ = some (.slice A0_3 l0_3.length c0_3):=(blk_cell BK353.out 3).trans rfl
 have hfs14:=blk_frozen BK353.out 3
 have hns14_1:=NB354_353.out
 have hms14_1:=NB353_354.out
 refine skip_ (w1:=?_) (by rfl) rfl ?_ ?_
 rotate_left
 ·go_simp
  rfl
 refine hK.out _ _ ?_
 clear hK K
 refine done_ (done_of HT_.out (by kernel_rfl)) ?_
 try go_wp2
 have n0_ : Aside0 (Kd.R (Kd.int .i64) 3 ((w10.setCell ⟨gb353,2,none⟩ (.slice Ao11 t355.length co11)).setCell ⟨gb353,3,none⟩ (.slice Ao13 t358.length co13)) w.heap.size (fun k_ => some k_ ≠ (.slice Ao13 t358.length co13 : Value).ownBlock) (.slice Ao11 t355.length co11) t355):=⟨by (with_reducible repeat (first|apply Kd.R_alloc|apply Kd.R_drewN|apply Kd.R_drew));exact Kd.R_mono (Kd.R_fars gb353 (Kd.R_types HO357.out BK353.out (by decide)) (fun _ hk => hk.2)) (fun _ hk => hk.1.2)⟩
 have n1_ : Aside0 (Kd.R (Kd.int .i64) 3 ((w10.setCell ⟨gb353,2,none⟩ (.slice Ao11 t355.length co11)).setCell ⟨gb353,3,none⟩ (.slice Ao13 t358.length co13)) w.heap.size (fun k_ => some k_ ≠ (.slice Ao11 t355.length co11 : Value).ownBlock) (.slice Ao13 t358.length co13) t358):=⟨by (with_reducible repeat (first|apply Kd.R_alloc|apply Kd.R_drewN|apply Kd.R_drew));exact Kd.R_mono (Kd.R_fars gb353 (Kd.R_types HO360.out BK353.out (by decide)) (fun _ hk => hk.2)) (fun _ hk => hk.1.2)⟩
 have n2_ : Aside0 (((w10.setCell ⟨gb353,2,none⟩ (.slice Ao11 t355.length co11)).setCell ⟨gb353,3,none⟩ (.slice Ao13 t358.length co13)).heap[gb353]? = some (.cells #[.int .i64 a0_0,.int .i64 a0_1,.slice Ao11 t355.length co11,.slice Ao13 t358.length co13,.slice A0_4 l0_4.length c0_4,.slice A0_5 l0_5.length c0_5] 33 (0,0))):=⟨by (with_reducible repeat (first|refine blk_drewN ?_ _|refine blk_drew ?_|refine blk_alloc ?_ _));refine blk_put (cs:=#[.int .i64 a0_0,.int .i64 a0_1,.slice Ao11 t355.length co11,.slice A0_3 l0_3.length c0_3,.slice A0_4 l0_4.length c0_4,.slice A0_5 l0_5.length c0_5]) ?_ 3 _ rfl;(with_reducible repeat (first|refine blk_drewN ?_ _|refine blk_drew ?_|refine blk_alloc ?_ _));refine blk_put (cs:=#[.int .i64 a0_0,.int .i64 a0_1,.slice A0_2 l0_2.length c0_2,.slice A0_3 l0_3.length c0_3,.slice A0_4 l0_4.length c0_4,.slice A0_5 l0_5.length c0_5]) ?_ 2 _ rfl;(with_reducible repeat (first|refine blk_drewN ?_ _|refine blk_drew ?_|refine blk_alloc ?_ _));exact BK353.out⟩
 have n3_ : Aside0 (((w10.setCell ⟨gb353,2,none⟩ (.slice Ao11 t355.length co11)).setCell ⟨gb353,3,none⟩ (.slice Ao13 t358.length co13)).heap[gb354]? = some (.cells #[.int .i64 0,.int .i64 0,.slice none 0 0,.slice none 0 0,.slice none 0 0,.slice none 0 0] 33 (0,0))):=⟨by (with_reducible repeat (first|refine blk_drewN ?_ _|refine blk_drew ?_|refine blk_alloc ?_ _));refine blk_far ?_ NB354_353.out _;(with_reducible repeat (first|refine blk_drewN ?_ _|refine blk_drew ?_|refine blk_alloc ?_ _));refine blk_far ?_ NB354_353.out _;(with_reducible repeat (first|refine blk_drewN ?_ _|refine blk_drew ?_|refine blk_alloc ?_ _));exact BK354.out⟩
 have n4_ : Aside0 (Below w.heap.size w ((w10.setCell ⟨gb353,2,none⟩ (.slice Ao11 t355.length co11)).setCell ⟨gb353,3,none⟩ (.slice Ao13 t358.length co13))):=⟨hb_⟩
 (try clear HO357)
 (try clear HO360)
 (try clear BK353)
 (try clear BK354)
 (try clear HB)
 generalize ((w10.setCell ⟨gb353,2,none⟩ (.slice Ao11 t355.length co11)).setCell ⟨gb353,3,none⟩ (.slice Ao13 t358.length co13)) = w15 at n0_ n1_ n2_ n3_ n4_ ⊢
 have HO357:=n0_
 have HO360:=n1_
 have BK353:=n2_
 have BK354:=n3_
 have HB:=n4_
 clear n0_ n1_ n2_ n3_ n4_
 replace HO357:=Aside0.mk (Kd.R_drew HO357.out)
 replace HO360:=Aside0.mk (Kd.R_drew HO360.out)
 replace BK353:=Aside0.mk (blk_drew BK353.out)
 replace BK354:=Aside0.mk (blk_drew BK354.out)
 replace HB:=Aside0.mk (below_drew1 HB.out)
 refine start_ (n:=10) (S:=fun w' => w'.cell? ⟨gb353,0,none⟩ = some (.int .i64 a0_0) ∧ w'.cell? ⟨gb353,1,none⟩ = some (.int .i64 a0_1) ∧ w'.cell? ⟨gb353,2,none⟩ = some (.slice Ao11 t355.length co11) ∧ w'.cell? ⟨gb353,3,none⟩ = some (.slice Ao13 t358.length co13) ∧ w'.cell? ⟨gb353,4,none⟩ = some (.slice A0_4 l0_4.length c0_4) ∧ w'.cell? ⟨gb353,5,none⟩ = some (.slice A0_5 l0_5.length c0_5)) (ds:=[7,9]) #[false,false,false,false,false,false,false,false,false,false] (by kernel_rfl) rfl rfl ⟨(blk_cell BK353.out 0).trans rfl,(blk_cell BK353.out 1).trans rfl,(blk_cell BK353.out 2).trans rfl,(blk_cell BK353.out 3).trans rfl,(blk_cell BK353.out 4).trans rfl,(blk_cell BK353.out 5).trans rfl⟩ (fun hHeld => ?_);refine with_tabW lane_copied.tab2 lane_copied.bits2 (fun HT_ HW_ => ?_)
 generalize w15.drew = w16 at HO357 HO360 BK353 BK354 HB HO357 HO360 hHeld ⊢
 refine pI 0 (some 15) ?_
 refine pI 3 (some 18) ?_
 refine tI6 1 (some 16) hHeld ?_
 refine tI6 4 (some 19) hHeld ?_
 refine oI 2 (some 17) (fun K hK => ?_)
 refine goes_ Try.func69 (by kernel_rfl) rfl #[.slice A0_4 l0_4.length c0_4] (by rfl) rfl rfl ga_ ?_
 with_reducible refine (slices_Clone_int_int.calls _ _ l0_4 t361 _ ?side1 ?side2 A4.out).mono ?_
 (case side1 => exact cq HR0_4)
 (case side2 => exact HC0_4.out)
 rintro e w17 ⟨v362,rfl,ho0,hb⟩
 refine ⟨_,rfl,?_⟩
 have n0_:=Aside0.mk (Kd.R_elder' (Kd.R_up HO357.out) (Kd.R_base ho0) hb)
 have n1_:=Aside0.mk (Kd.R_elder' (Kd.R_up HO360.out) (Kd.R_base ho0) hb)
 have n2_:=Aside0.mk (Kd.R_lower (Kd.R_new' (Kd.R_new' ho0 (Kd.R_lt (Kd.R_up HO357.out))) (Kd.R_lt (Kd.R_up HO360.out))) (below_size (hb_)))
 have n3_:=bkb BK353 hb
 have n4_:=bkb BK354 hb
 have n5_:=Aside0.mk (below_step (hb_) hb)
 clear HO357
 clear HO360
 clear BK353
 clear BK354
 clear HB
 have HO357:=n0_
 have HO360:=n1_
 have HO363:=n2_
 have BK353:=n3_
 have BK354:=n4_
 have HB:=n5_
 clear n0_ n1_ n2_ n3_ n4_ n5_
 (try clear hb)
 (try clear hb2)
 (try clear hk)
 (try clear hi)
 (try clear ho0)
 refine hK.out _ _ ⟨(blk_cell BK353.out 0).trans rfl,(blk_cell BK353.out 1).trans rfl,(blk_cell BK353.out 2).trans rfl,(blk_cell BK353.out 3).trans rfl,(blk_cell BK353.out 4).trans rfl,(blk_cell BK353.out 5).trans rfl⟩ (fun hHeld => ?_)
 clear hK K
 refine norm_ (a':=?_) ?_ ?_
 rotate_left
 ·show Act.put _ (some 17) _ = _
  simp only [Act.put,List.setIfInBounds_toArray,List.set_cons_zero,List.set_cons_succ,i64_w,i32_w]
  rfl
 refine pI 6 (some 21) ?_
 refine oI 5 (some 20) (fun K hK => ?_)
 refine goes_ Try.func70 (by kernel_rfl) rfl #[.slice A0_5 l0_5.length c0_5] (by rfl) rfl rfl ga_ ?_
 with_reducible refine (api_Truck_70.calls _ _ l0_5 t364 _ ?side1 ?side2 A5.out).mono ?_
 (case side1 => exact cq HR0_5)
 (case side2 => exact HC0_5.out)
 rintro e w18 ⟨v365,rfl,ho0,hb⟩
 refine ⟨_,rfl,?_⟩
 have n0_:=rbw HO357 hb
 have n1_:=rbw HO360 hb
 have n2_:=rbw HO363 hb
 have n3_:=rlo ho0
 have n4_:=bkb BK353 hb
 have n5_:=bkb BK354 hb
 have n6_:=Aside0.mk (below_step (hb_) hb)
 clear HO357
 clear HO360
 clear HO363
 clear BK353
 clear BK354
 clear HB
 have HO357:=n0_
 have HO360:=n1_
 have HO363:=n2_
 have HO366:=n3_
 have BK353:=n4_
 have BK354:=n5_
 have HB:=n6_
 clear n0_ n1_ n2_ n3_ n4_ n5_ n6_
 (try clear hb)
 (try clear hb2)
 (try clear hk)
 (try clear hi)
 (try clear ho0)
 obtain ⟨Ao19,co19,eo19⟩:=Kd.R_slice HO363.out
 (first|subst eo19|(injection eo19 with f1_ f2_ f3_;have f4_:=f1_.symm;have f5_:=f3_.symm;clear f1_ f2_ f3_;subst f4_;subst f5_))
 obtain ⟨Ao21,co21,eo21⟩:=Kd.R_slice HO366.out
 (first|subst eo21|(injection eo21 with f1_ f2_ f3_;have f4_:=f1_.symm;have f5_:=f3_.symm;clear f1_ f2_ f3_;subst f4_;subst f5_))
 refine hK.out _ _ ⟨(blk_cell BK353.out 0).trans rfl,(blk_cell BK353.out 1).trans rfl,(blk_cell BK353.out 2).trans rfl,(blk_cell BK353.out 3).trans rfl,(blk_cell BK353.out 4).trans rfl,(blk_cell BK353.out 5).trans rfl⟩ (fun hHeld => ?_)
 clear hK K
 refine norm_ (a':=?_) ?_ ?_
 rotate_left
 ·show Act.put _ (some 20) _ = _
  simp only [Act.put,List.setIfInBounds_toArray,List.set_cons_zero,List.set_cons_succ,i64_w,i32_w]
  rfl
 refine last_ (i:=7) (N:=none) #[true,true,true,true,true,true,true,true,false,false] rfl rfl (one_of HT_.out (by kernel_rfl)) (by decide) (fun K hK => ?_)
 have hs20 : w18.cell? ⟨gb353,4,none⟩ = some (.slice A0_4 l0_4.length c0_4):=(blk_cell BK353.out 4).trans rfl
 have hfs20:=blk_frozen BK353.out 4
 have hns20_1:=NB354_353.out
 have hms20_1:=NB353_354.out
 refine skip_ (w1:=?_) (by rfl) rfl ?_ ?_
 rotate_left
 ·go_simp
  rfl
 refine hK.out _ _ ?_
 clear hK K
 refine pI 8 (some 22) ?_
 refine last_ (i:=9) (N:=none) #[true,true,true,true,true,true,true,true,true,true] rfl rfl (one_of HT_.out (by kernel_rfl)) (by decide) (fun K hK => ?_)
 have hs22 : w18.cell? ⟨gb353,5,none⟩ = some (.slice A0_5 l0_5.length c0_5):=(blk_cell BK353.out 5).trans rfl
 have hfs22:=blk_frozen BK353.out 5
 have hns22_1:=NB354_353.out
 have hms22_1:=NB353_354.out
 refine skip_ (w1:=?_) (by rfl) rfl ?_ ?_
 rotate_left
 ·go_simp
  rfl
 refine hK.out _ _ ?_
 clear hK K
 refine done_ (done_of HT_.out (by kernel_rfl)) ?_
 have hnb23:=NB353_354.out
 have hnc23:=NB354_353.out
 obtain ⟨_,_,_,_,_,_,_,_,_,_,_,_⟩:=cells6 BK353.out
 obtain ⟨_,_,_,_,_,_,_,_,_,_,_,_⟩:=cells6 BK354.out
 try go_wp2
 refine bodyPost_ret (results_cell_row rfl _ _ gb354 33 #[.int .i64 a0_0,.int .i64 a0_1,.slice Ao11 t355.length co11,.slice Ao13 t358.length co13,.slice Ao19 t361.length co19,.slice Ao21 t364.length co21] (0,0) _ rfl (by (with_reducible repeat (first|refine blk_drewN ?_ _|refine blk_drew ?_|refine blk_alloc ?_ _));refine blk_put (cs:=#[.int .i64 a0_0,.int .i64 a0_1,.slice Ao11 t355.length co11,.slice Ao13 t358.length co13,.slice Ao19 t361.length co19,.slice none 0 0]) ?_ 5 _ rfl;(with_reducible repeat (first|refine blk_drewN ?_ _|refine blk_drew ?_|refine blk_alloc ?_ _));refine blk_put (cs:=#[.int .i64 a0_0,.int .i64 a0_1,.slice Ao11 t355.length co11,.slice Ao13 t358.length co13,.slice none 0 0,.slice none 0 0]) ?_ 4 _ rfl;(with_reducible repeat (first|refine blk_drewN ?_ _|refine blk_drew ?_|refine blk_alloc ?_ _));refine blk_put (cs:=#[.int .i64 a0_0,.int .i64 a0_1,.slice Ao11 t355.length co11,.slice none 0 0,.slice none 0 0,.slice none 0 0]) ?_ 3 _ rfl;(with_reducible repeat (first|refine blk_drewN ?_ _|refine blk_drew ?_|refine blk_alloc ?_ _));refine blk_put (cs:=#[.int .i64 a0_0,.int .i64 a0_1,.slice none 0 0,.slice none 0 0,.slice none 0 0,.slice none 0 0]) ?_ 2 _ rfl;(with_reducible repeat (first|refine blk_drewN ?_ _|refine blk_drew ?_|refine blk_alloc ?_ _));refine blk_put (cs:=#[.int .i64 a0_0,.int .i64 0,.slice none 0 0,.slice none 0 0,.slice none 0 0,.slice none 0 0]) ?_ 1 _ rfl;(with_reducible repeat (first|refine blk_drewN ?_ _|refine blk_drew ?_|refine blk_alloc ?_ _));refine blk_put (cs:=#[.int .i64 0,.int .i64 0,.slice none 0 0,.slice none 0 0,.slice none 0 0,.slice none 0 0]) ?_ 0 _ rfl;(with_reducible repeat (first|refine blk_drewN ?_ _|refine blk_drew ?_|refine blk_alloc ?_ _));refine blk_far ?_ NB354_353.out _;(with_reducible repeat (first|refine blk_drewN ?_ _|refine blk_drew ?_|refine blk_alloc ?_ _));refine blk_far ?_ NB354_353.out _;(with_reducible repeat (first|refine blk_drewN ?_ _|refine blk_drew ?_|refine blk_alloc ?_ _));exact BK354.out) Try.underlying33 rfl (by kernel_rfl)) rfl ?_
 exact ⟨_,_,_,_,er_,by (with_reducible repeat (first|apply Kd.R_alloc|apply Kd.R_drewN|apply Kd.R_drew));exact Kd.R_mono (Kd.R_fars gb354 (Kd.R_far (p:=⟨gb353,5,none⟩) (Kd.R_far (p:=⟨gb353,4,none⟩) (Kd.R_types (Kd.R_types HO357.out BK353.out (by decide)) BK354.out (by decide)) (fun _ hk => hk.1.2) (.slice Ao19 t361.length co19)) (fun _ hk => hk.1.2) (.slice Ao21 t364.length co21)) (fun _ hk => hk.2)) (fun _ hk => ⟨hk.1.1.1,hk.1.1.2⟩),by (with_reducible repeat (first|apply Kd.R_alloc|apply Kd.R_drewN|apply Kd.R_drew));exact Kd.R_mono (Kd.R_fars gb354 (Kd.R_far (p:=⟨gb353,5,none⟩) (Kd.R_far (p:=⟨gb353,4,none⟩) (Kd.R_types (Kd.R_types HO360.out BK353.out (by decide)) BK354.out (by decide)) (fun _ hk => hk.1.2) (.slice Ao19 t361.length co19)) (fun _ hk => hk.1.2) (.slice Ao21 t364.length co21)) (fun _ hk => hk.2)) (fun _ hk => ⟨hk.1.1.1,hk.1.1.2⟩),by (with_reducible repeat (first|apply Kd.R_alloc|apply Kd.R_drewN|apply Kd.R_drew));exact Kd.R_mono (Kd.R_fars gb354 (Kd.R_far (p:=⟨gb353,5,none⟩) (Kd.R_far (p:=⟨gb353,4,none⟩) (Kd.R_types (Kd.R_types HO363.out BK353.out (by decide)) BK354.out (by decide)) (fun _ hk => hk.1.2) (.slice Ao19 t361.length co19)) (fun _ hk => hk.1.2) (.slice Ao21 t364.length co21)) (fun _ hk => hk.2)) (fun _ hk => ⟨hk.1.1.1.2,hk.1.1.2⟩),by (with_reducible repeat (first|apply Kd.R_alloc|apply Kd.R_drewN|apply Kd.R_drew));exact Kd.R_mono (Kd.R_fars gb354 (Kd.R_far (p:=⟨gb353,5,none⟩) (Kd.R_far (p:=⟨gb353,4,none⟩) (Kd.R_types (Kd.R_types HO366.out BK353.out (by decide)) BK354.out (by decide)) (fun _ hk => hk.1.2) (.slice Ao19 t361.length co19)) (fun _ hk => hk.1.2) (.slice Ao21 t364.length co21)) (fun _ hk => hk.2)) (fun _ hk => trivial),hb_⟩

/-! ### lane_Enter: function 21 -/
def lane_Enter.f (k : Nat) (a0_0 : Int) (a0_1 : Int) (l0_2 : List Int) (l0_3 : List Int) (l0_4 : List Int) (l0_5 : List (S50)) (a1 : Int) (a2 : Int) (a3 : Int) : Option (Int × Int × List Int × List Int × List Int × (List (S50)) × Int) := (lane_Validate.f k a0_0 a0_1 l0_2 l0_3 l0_4 l0_5).bind fun t369 => (if t369 = 0 then ((lane_within.f a1 (wrap64 ((l0_5.length : Int) - 1))).bind fun t370 => (if t370 = true then (if 0 ≤ a1 then (if a1 < (l0_5.length : Int) then (if ((rd_T50 l0_5 a1).f0) = (-1) then ((lane_within.f a2 (wrap64 ((wrap64 (a0_0 * a0_1)) - 1))).bind fun t372 => (if t372 = true then ((lane_choose.f k a0_0 a0_1 l0_2 l0_3 a2 (-1) a3).bind fun bt373 => (if bt373.2 = true then ((lane_held.f k a0_0 a0_1 l0_2 l0_3 l0_4 l0_5 a1 a2 bt373.1).bind fun t375 => (if t375 = true then (some (0, 0, ([] : List Int), ([] : List Int), ([] : List Int), ([] : List (S50)), 7)) else ((lane_copied.f a0_0 a0_1 l0_2 l0_3 l0_4 l0_5).bind fun bt376 => (if a1 < (bt376.2.2.2.2.2.length : Int) then (some (bt376.1, bt376.2.1, bt376.2.2.1, bt376.2.2.2.1, bt376.2.2.2.2.1, (bt376.2.2.2.2.2.set (a1 : Int).toNat (⟨a2, (-1), bt373.1, 0, 0⟩ : S50)), 0)) else (none))))) else (some (0, 0, ([] : List Int), ([] : List Int), ([] : List Int), ([] : List (S50)), 2)))) else (some (0, 0, ([] : List Int), ([] : List Int), ([] : List Int), ([] : List (S50)), 2)))) else (some (0, 0, ([] : List Int), ([] : List Int), ([] : List Int), ([] : List (S50)), 13))) else (none)) else (none)) else (some (0, 0, ([] : List Int), ([] : List Int), ([] : List Int), ([] : List (S50)), 2)))) else (some (0, 0, ([] : List Int), ([] : List Int), ([] : List Int), ([] : List (S50)), t369)))
theorem lane_Enter.mono : ∀ a0 a1 a2 a3 a4 a5 a6 a7 a8 k, LeO (lane_Enter.f k a0 a1 a2 a3 a4 a5 a6 a7 a8) (lane_Enter.f (k + 1) a0 a1 a2 a3 a4 a5 a6 a7 a8) := by
 intro a0 a1 a2 a3 a4 a5 a6 a7 a8 k
 unfold lane_Enter.f
 repeat' first
   | (with_reducible exact lane_Validate.mono _ _ _ _ _ _ _)
   | (with_reducible exact lane_choose.mono _ _ _ _ _ _ _ _)
   | (with_reducible exact lane_held.mono _ _ _ _ _ _ _ _ _ _)
   | (with_reducible exact LeO.refl _)
   | (with_reducible exact LeO.none _)
   | (with_reducible refine LeO.ite ?_ ?_)
   | (with_reducible refine LeO.bind ?_ (fun _ => ?_))
   | exact lane_Validate.mono _ _ _ _ _ _ _
   | exact lane_choose.mono _ _ _ _ _ _ _ _
   | exact lane_held.mono _ _ _ _ _ _ _ _ _ _
   | exact LeO.none _
   | refine LeO.ite ?_ ?_
   | refine LeO.bind ?_ (fun _ => ?_)
set_option maxHeartbeats 8000000 in
set_option maxRecDepth 100000 in
theorem lane_Enter.calls (k : Nat) (a0_0 : Int) (a0_1 : Int) (A0_2 : Option Addr) (c0_2 : Nat) (l0_2 : List Int) (A0_3 : Option Addr) (c0_3 : Nat) (l0_3 : List Int) (A0_4 : Option Addr) (c0_4 : Nat) (l0_4 : List Int) (A0_5 : Option Addr) (c0_5 : Nat) (l0_5 : List (S50)) (a1 : Int) (a2 : Int) (a3 : Int) (r1 : Int) (r2 : Int) (r3 : List Int) (r4 : List Int) (r5 : List Int) (r6 : List (S50)) (r7 : Int) (w : World) (hr0_2 : Kd.C (Kd.int .i64) w A0_2 l0_2.length l0_2) (hc0_2 : l0_2.length ≤ c0_2) (hr0_3 : Kd.C (Kd.int .i64) w A0_3 l0_3.length l0_3) (hc0_3 : l0_3.length ≤ c0_3) (hr0_4 : Kd.C (Kd.int .i64) w A0_4 l0_4.length l0_4) (hc0_4 : l0_4.length ≤ c0_4) (hr0_5 : Kd.C k50 w A0_5 l0_5.length l0_5) (hc0_5 : l0_5.length ≤ c0_5) (h : lane_Enter.f k a0_0 a0_1 l0_2 l0_3 l0_4 l0_5 a1 a2 a3 = some (r1, r2, r3, r4, r5, r6, r7)) :
  Calls Try.prog 21 #[.agg #[.int .i64 a0_0,.int .i64 a0_1,.slice A0_2 l0_2.length c0_2,.slice A0_3 l0_3.length c0_3,.slice A0_4 l0_4.length c0_4,.slice A0_5 l0_5.length c0_5],.int .i64 a1,.int .i64 a2,.int .i64 a3] w fun e w' => ∃ v2_ v3_ v4_ v5_ : Value,e = .returned (.tuple #[.agg #[.int .i64 r1,.int .i64 r2,v2_,v3_,v4_,v5_],.int .i64 r7]) ∧ Kd.R (Kd.int .i64) 3 w' w.heap.size (fun k_ => some k_ ≠ (v3_ : Value).ownBlock ∧ some k_ ≠ (v4_ : Value).ownBlock) v2_ r3 ∧ Kd.R (Kd.int .i64) 3 w' w.heap.size (fun k_ => some k_ ≠ (v2_ : Value).ownBlock ∧ some k_ ≠ (v4_ : Value).ownBlock) v3_ r4 ∧ Kd.R (Kd.int .i64) 3 w' w.heap.size (fun k_ => some k_ ≠ (v2_ : Value).ownBlock ∧ some k_ ≠ (v3_ : Value).ownBlock) v4_ r5 ∧ Kd.R k50 50 w' w.heap.size (fun _ => True) v5_ r6 ∧ Below w.heap.size w w':=by
 have hu33:=Try.underlying33
 have hu24:=Try.underlying24
 have hu73:=Try.underlying73
 have hu50:=Try.underlying50
 have HR0_2:=Aside0.mk hr0_2
 have HC0_2:=Aside0.mk hc0_2
 clear hr0_2 hc0_2
 have HR0_3:=Aside0.mk hr0_3
 have HC0_3:=Aside0.mk hc0_3
 clear hr0_3 hc0_3
 have HR0_4:=Aside0.mk hr0_4
 have HC0_4:=Aside0.mk hc0_4
 clear hr0_4 hc0_4
 have HR0_5:=Aside0.mk hr0_5
 have HC0_5:=Aside0.mk hc0_5
 clear hr0_5 hc0_5
 have HB:=Aside0.mk (Below.refl w.heap.size w)
 have H : ((lane_Validate.f k a0_0 a0_1 l0_2 l0_3 l0_4 l0_5).bind fun t369 => (if t369 = 0 then ((lane_within.f a1 (wrap64 ((l0_5.length : Int) - 1))).bind fun t370 => (if t370 = true then (if 0 ≤ a1 then (if a1 < (l0_5.length : Int) then (if ((rd_T50 l0_5 a1).f0) = (-1) then ((lane_within.f a2 (wrap64 ((wrap64 (a0_0 * a0_1)) - 1))).bind fun t372 => (if t372 = true then ((lane_choose.f k a0_0 a0_1 l0_2 l0_3 a2 (-1) a3).bind fun bt373 => (if bt373.2 = true then ((lane_held.f k a0_0 a0_1 l0_2 l0_3 l0_4 l0_5 a1 a2 bt373.1).bind fun t375 => (if t375 = true then (some (0,0,([] : List Int),([] : List Int),([] : List Int),([] : List (S50)),7)) else ((lane_copied.f a0_0 a0_1 l0_2 l0_3 l0_4 l0_5).bind fun bt376 => (if a1 < (bt376.2.2.2.2.2.length : Int) then (some (bt376.1,bt376.2.1,bt376.2.2.1,bt376.2.2.2.1,bt376.2.2.2.2.1,(bt376.2.2.2.2.2.set (a1 : Int).toNat (⟨a2,(-1),bt373.1,0,0⟩ : S50)),0)) else (none))))) else (some (0,0,([] : List Int),([] : List Int),([] : List Int),([] : List (S50)),2)))) else (some (0,0,([] : List Int),([] : List Int),([] : List Int),([] : List (S50)),2)))) else (some (0,0,([] : List Int),([] : List Int),([] : List Int),([] : List (S50)),13))) else (none)) else (none)) else (some (0,0,([] : List Int),([] : List Int),([] : List Int),([] : List (S50)),2)))) else (some (0,0,([] : List Int),([] : List Int),([] : List Int),([] : List (S50)),t369)))) = some (r1,r2,r3,r4,r5,r6,r7):=h
 clear h
 replace H:=Option.bind_eq_some_iff.mp H
 obtain ⟨t369,A50,H⟩:=H
 replace H : (if t369 = 0 then ((lane_within.f a1 (wrap64 ((l0_5.length : Int) - 1))).bind fun t370 => (if t370 = true then (if 0 ≤ a1 then (if a1 < (l0_5.length : Int) then (if ((rd_T50 l0_5 a1).f0) = (-1) then ((lane_within.f a2 (wrap64 ((wrap64 (a0_0 * a0_1)) - 1))).bind fun t372 => (if t372 = true then ((lane_choose.f k a0_0 a0_1 l0_2 l0_3 a2 (-1) a3).bind fun bt373 => (if bt373.2 = true then ((lane_held.f k a0_0 a0_1 l0_2 l0_3 l0_4 l0_5 a1 a2 bt373.1).bind fun t375 => (if t375 = true then (some (0,0,([] : List Int),([] : List Int),([] : List Int),([] : List (S50)),7)) else ((lane_copied.f a0_0 a0_1 l0_2 l0_3 l0_4 l0_5).bind fun bt376 => (if a1 < (bt376.2.2.2.2.2.length : Int) then (some (bt376.1,bt376.2.1,bt376.2.2.1,bt376.2.2.2.1,bt376.2.2.2.2.1,(bt376.2.2.2.2.2.set (a1 : Int).toNat (⟨a2,(-1),bt373.1,0,0⟩ : S50)),0)) else (none))))) else (some (0,0,([] : List Int),([] : List Int),([] : List Int),([] : List (S50)),2)))) else (some (0,0,([] : List Int),([] : List Int),([] : List Int),([] : List (S50)),2)))) else (some (0,0,([] : List Int),([] : List Int),([] : List Int),([] : List (S50)),13))) else (none)) else (none)) else (some (0,0,([] : List Int),([] : List Int),([] : List Int),([] : List (S50)),2)))) else (some (0,0,([] : List Int),([] : List Int),([] : List Int),([] : List (S50)),t369))) = some (r1,r2,r3,r4,r5,r6,r7):=H
 have A5:=Aside0.mk A50
 clear A50
 by_cases c6 : t369 = 0
 rotate_left
 ·rw [if_neg c6] at H
  have c6b0:=bqf c6
  have c6b1:=bnt c6
  simp only [Option.some.injEq,Prod.mk.injEq] at H
  obtain ⟨rfl,rfl,rfl,rfl,rfl,rfl,rfl⟩:=H
  go_enter Try.func21,Try.ntmps21
  go_wp2_with (first|((with_reducible refine gate_dst (N:=4) rfl ?_);refine box_ev (N:=4) (cs:=#[.int .i64 a0_0,.int .i64 a0_1,.slice A0_2 l0_2.length c0_2,.slice A0_3 l0_3.length c0_3,.slice A0_4 l0_4.length c0_4,.slice A0_5 l0_5.length c0_5]) (t:=33) ?_;intro gb367 hg w82 hbox hb;have BK367:=Aside0.mk (hbox);have GW367 : Aside0 (w.heap.size ≤ gb367):=gsz hg;have GE367:=GW367;replace HB:=hbs hb;clear hb hbox hg)|((with_reducible refine gate_dst (N:=8) rfl ?_);refine box_ev (N:=8) (cs:=#[.int .i64 0,.int .i64 0,.slice none 0 0,.slice none 0 0,.slice none 0 0,.slice none 0 0]) (t:=33) ?_;intro gb368 hg w83 hbox hb;have BK368:=Aside0.mk (hbox);have GW368 : Aside0 (w.heap.size ≤ gb368):=gsz hg;have GE368:=GW368;have NB367_368:=nbl BK367 hg;have NB368_367:=nbr BK367 hg;replace BK367:=bkb BK367 hb;replace HB:=hbs hb;clear hb hbox hg;have hnb84:=NB367_368.out;have hnc84:=NB368_367.out;obtain ⟨_,_,_,_,_,_,_,_,_,_,_,_⟩:=cells6 BK367.out)|((with_reducible refine gate_callee (f:=18) rfl ?_);refine goesL_ (some 14) rfl rfl Try.func18 (by kernel_rfl) rfl #[.agg #[.int .i64 a0_0,.int .i64 a0_1,.slice A0_2 l0_2.length c0_2,.slice A0_3 l0_3.length c0_3,.slice A0_4 l0_4.length c0_4,.slice A0_5 l0_5.length c0_5]] rfl ga_ ?_;(with_reducible refine (lane_Validate.calls k a0_0 a0_1 _ _ l0_2 _ _ l0_3 _ _ l0_4 _ _ l0_5 t369 _ ?_ ?_ ?_ ?_ ?_ ?_ ?_ ?_ A5.out).mono ?_);exact cq HR0_2;exact HC0_2.out;exact cq HR0_3;exact HC0_3.out;exact cq HR0_4;exact HC0_4.out;exact cq HR0_5;exact HC0_5.out;rintro e w86 ⟨rfl,hb⟩;refine ⟨_,rfl,?_⟩;replace BK367:=bkb BK367 hb;replace BK368:=bkb BK368 hb;replace HB:=hbs hb;obtain ⟨_,_,_,_,_,_,_,_,_,_,_,_⟩:=cells6 BK368.out))
  refine bodyPost_ret (results_ct rfl _ _ gb368 33 #[.int .i64 0,.int .i64 0,.slice none 0 0,.slice none 0 0,.slice none 0 0,.slice none 0 0] (0,0) _ rfl (by (with_reducible repeat (first|refine blk_drewN ?_ _|refine blk_drew ?_|refine blk_alloc ?_ _));exact blk_puts6 (blk_up BK368.out)) Try.underlying33 rfl (by kernel_rfl)) rfl ?_
  exact ⟨_,_,_,_,er_,nl_,nl_,nl_,nl_,hb_⟩
 rw [if_pos c6] at H
 have c6b0:=bqt c6
 have c6b1:=bnf c6
 clear c6
 replace H:=Option.bind_eq_some_iff.mp H
 obtain ⟨t370,A70,H⟩:=H
 replace H : (if t370 = true then (if 0 ≤ a1 then (if a1 < (l0_5.length : Int) then (if ((rd_T50 l0_5 a1).f0) = (-1) then ((lane_within.f a2 (wrap64 ((wrap64 (a0_0 * a0_1)) - 1))).bind fun t372 => (if t372 = true then ((lane_choose.f k a0_0 a0_1 l0_2 l0_3 a2 (-1) a3).bind fun bt373 => (if bt373.2 = true then ((lane_held.f k a0_0 a0_1 l0_2 l0_3 l0_4 l0_5 a1 a2 bt373.1).bind fun t375 => (if t375 = true then (some (0,0,([] : List Int),([] : List Int),([] : List Int),([] : List (S50)),7)) else ((lane_copied.f a0_0 a0_1 l0_2 l0_3 l0_4 l0_5).bind fun bt376 => (if a1 < (bt376.2.2.2.2.2.length : Int) then (some (bt376.1,bt376.2.1,bt376.2.2.1,bt376.2.2.2.1,bt376.2.2.2.2.1,(bt376.2.2.2.2.2.set (a1 : Int).toNat (⟨a2,(-1),bt373.1,0,0⟩ : S50)),0)) else (none))))) else (some (0,0,([] : List Int),([] : List Int),([] : List Int),([] : List (S50)),2)))) else (some (0,0,([] : List Int),([] : List Int),([] : List Int),([] : List (S50)),2)))) else (some (0,0,([] : List Int),([] : List Int),([] : List Int),([] : List (S50)),13))) else (none)) else (none)) else (some (0,0,([] : List Int),([] : List Int),([] : List Int),([] : List (S50)),2))) = some (r1,r2,r3,r4,r5,r6,r7):=H
 have A7:=Aside0.mk A70
 clear A70
 by_cases c8 : t370 = true
 ·subst c8
  have H1 : (if 0 ≤ a1 then (if a1 < (l0_5.length : Int) then (if ((rd_T50 l0_5 a1).f0) = (-1) then ((lane_within.f a2 (wrap64 ((wrap64 (a0_0 * a0_1)) - 1))).bind fun t372 => (if t372 = true then ((lane_choose.f k a0_0 a0_1 l0_2 l0_3 a2 (-1) a3).bind fun bt373 => (if bt373.2 = true then ((lane_held.f k a0_0 a0_1 l0_2 l0_3 l0_4 l0_5 a1 a2 bt373.1).bind fun t375 => (if t375 = true then (some (0,0,([] : List Int),([] : List Int),([] : List Int),([] : List (S50)),7)) else ((lane_copied.f a0_0 a0_1 l0_2 l0_3 l0_4 l0_5).bind fun bt376 => (if a1 < (bt376.2.2.2.2.2.length : Int) then (some (bt376.1,bt376.2.1,bt376.2.2.1,bt376.2.2.2.1,bt376.2.2.2.2.1,(bt376.2.2.2.2.2.set (a1 : Int).toNat (⟨a2,(-1),bt373.1,0,0⟩ : S50)),0)) else (none))))) else (some (0,0,([] : List Int),([] : List Int),([] : List Int),([] : List (S50)),2)))) else (some (0,0,([] : List Int),([] : List Int),([] : List Int),([] : List (S50)),2)))) else (some (0,0,([] : List Int),([] : List Int),([] : List Int),([] : List (S50)),13))) else (none)) else (none)) = some (r1,r2,r3,r4,r5,r6,r7):=by rw [if_pos rfl] at H;exact H
  clear H
  have H:=H1
  clear H1
  replace H:=ifp_ H;obtain ⟨c9,H⟩:=H
  have c9b0 : decide (0 ≤ a1) = true:=decide_eq_true c9
  clear c9
  replace H:=ifp_ H;obtain ⟨c10,H⟩:=H
  have c10b0 : decide (a1 < (l0_5.length : Int)) = true:=decide_eq_true c10
  clear c10
  by_cases c11 : ((rd_T50 l0_5 a1).f0) = (-1)
  rotate_left
  ·rw [if_neg c11] at H
   have c11b0:=bqf c11
   have c11b1:=bnt c11
   simp only [Option.some.injEq,Prod.mk.injEq] at H
   obtain ⟨rfl,rfl,rfl,rfl,rfl,rfl,rfl⟩:=H
   go_enter Try.func21,Try.ntmps21
   go_wp2_with (first|((with_reducible refine gate_dst (N:=4) rfl ?_);refine box_ev (N:=4) (cs:=#[.int .i64 a0_0,.int .i64 a0_1,.slice A0_2 l0_2.length c0_2,.slice A0_3 l0_3.length c0_3,.slice A0_4 l0_4.length c0_4,.slice A0_5 l0_5.length c0_5]) (t:=33) ?_;intro gb367 hg w68 hbox hb;have BK367:=Aside0.mk (hbox);have GW367 : Aside0 (w.heap.size ≤ gb367):=gsz hg;have GE367:=GW367;replace HB:=hbs hb;clear hb hbox hg)|((with_reducible refine gate_dst (N:=8) rfl ?_);refine box_ev (N:=8) (cs:=#[.int .i64 0,.int .i64 0,.slice none 0 0,.slice none 0 0,.slice none 0 0,.slice none 0 0]) (t:=33) ?_;intro gb368 hg w69 hbox hb;have BK368:=Aside0.mk (hbox);have GW368 : Aside0 (w.heap.size ≤ gb368):=gsz hg;have GE368:=GW368;have NB367_368:=nbl BK367 hg;have NB368_367:=nbr BK367 hg;replace BK367:=bkb BK367 hb;replace HB:=hbs hb;clear hb hbox hg;have hnb70:=NB367_368.out;have hnc70:=NB368_367.out;obtain ⟨_,_,_,_,_,_,_,_,_,_,_,_⟩:=cells6 BK367.out)|((with_reducible refine gate_callee (f:=18) rfl ?_);refine goesL_ (some 14) rfl rfl Try.func18 (by kernel_rfl) rfl #[.agg #[.int .i64 a0_0,.int .i64 a0_1,.slice A0_2 l0_2.length c0_2,.slice A0_3 l0_3.length c0_3,.slice A0_4 l0_4.length c0_4,.slice A0_5 l0_5.length c0_5]] rfl ga_ ?_;(with_reducible refine (lane_Validate.calls k a0_0 a0_1 _ _ l0_2 _ _ l0_3 _ _ l0_4 _ _ l0_5 t369 _ ?_ ?_ ?_ ?_ ?_ ?_ ?_ ?_ A5.out).mono ?_);exact cq HR0_2;exact HC0_2.out;exact cq HR0_3;exact HC0_3.out;exact cq HR0_4;exact HC0_4.out;exact cq HR0_5;exact HC0_5.out;rintro e w72 ⟨rfl,hb⟩;refine ⟨_,rfl,?_⟩;replace BK367:=bkb BK367 hb;replace BK368:=bkb BK368 hb;replace HB:=hbs hb;obtain ⟨_,_,_,_,_,_,_,_,_,_,_,_⟩:=cells6 BK367.out)|((with_reducible refine gate_callee (f:=37) rfl ?_);refine goesL_ (some 25) rfl rfl Try.func37 (by kernel_rfl) rfl #[.int .i64 a1,.int .i64 (wrap64 ((l0_5.length : Int) - 1))] rfl ga_ ?_;(with_reducible refine (lane_within.calls a1 (wrap64 ((l0_5.length : Int) - 1)) true _ A7.out).mono ?_);rintro e w' ⟨rfl,⟨nd,rfl⟩⟩;refine ⟨_,rfl,?_⟩;(try (rw [drewN_self w72];generalize hq_ : World.drewN w72 _ = w72;have n0_ : Aside0 (w72.heap[gb367]? = some (.cells #[.int .i64 a0_0,.int .i64 a0_1,.slice A0_2 l0_2.length c0_2,.slice A0_3 l0_3.length c0_3,.slice A0_4 l0_4.length c0_4,.slice A0_5 l0_5.length c0_5] 33 (0,0))):=⟨by rw [← hq_];exact (blk_up BK367.out)⟩;have n1_ : Aside0 (w72.heap[gb368]? = some (.cells #[.int .i64 0,.int .i64 0,.slice none 0 0,.slice none 0 0,.slice none 0 0,.slice none 0 0] 33 (0,0))):=⟨by rw [← hq_];exact (blk_up BK368.out)⟩;have n2_ : Aside0 (Below w.heap.size w w72):=⟨by rw [← hq_];exact (hb_)⟩;clear BK367 BK368 HB hq_;have BK367:=n0_;have BK368:=n1_;have HB:=n2_;clear n0_ n1_ n2_;obtain ⟨_,_,_,_,_,_,_,_,_,_,_,_⟩:=cells6 BK367.out));have p371 : 0 ≤ (a1 : Int):=of_decide_eq_true (by first|(with_reducible assumption)|assumption);have q371 : a1 < (l0_5.length : Int):=of_decide_eq_true (by first|(with_reducible assumption)|assumption);obtain ⟨ad371,e371,hx371_0,hx371_1,hx371_2,hx371_3,hx371_4⟩:=at_T50 HR0_5.out a1 p371 q371;cases e371;replace hx371_0:=(HB.out.cell (World.block_lt_of_cell? w _ hx371_0)).trans hx371_0;replace hx371_1:=(HB.out.cell (World.block_lt_of_cell? w _ hx371_1)).trans hx371_1;replace hx371_2:=(HB.out.cell (World.block_lt_of_cell? w _ hx371_2)).trans hx371_2;replace hx371_3:=(HB.out.cell (World.block_lt_of_cell? w _ hx371_3)).trans hx371_3;replace hx371_4:=(HB.out.cell (World.block_lt_of_cell? w _ hx371_4)).trans hx371_4;replace p371:=eq_true p371;replace q371:=eq_true q371;obtain ⟨_,_,_,_,_,_,_,_,_,_,_,_⟩:=cells6 BK368.out))
   refine bodyPost_ret (results_ct rfl _ _ gb368 33 #[.int .i64 0,.int .i64 0,.slice none 0 0,.slice none 0 0,.slice none 0 0,.slice none 0 0] (0,0) _ rfl (by (with_reducible repeat (first|refine blk_drewN ?_ _|refine blk_drew ?_|refine blk_alloc ?_ _));exact blk_puts6 (blk_up BK368.out)) Try.underlying33 rfl (by kernel_rfl)) rfl ?_
   exact ⟨_,_,_,_,er_,nl_,nl_,nl_,nl_,hb_⟩
  rw [if_pos c11] at H
  have c11b0:=bqt c11
  have c11b1:=bnf c11
  clear c11
  replace H:=Option.bind_eq_some_iff.mp H
  obtain ⟨t372,A120,H⟩:=H
  replace H : (if t372 = true then ((lane_choose.f k a0_0 a0_1 l0_2 l0_3 a2 (-1) a3).bind fun bt373 => (if bt373.2 = true then ((lane_held.f k a0_0 a0_1 l0_2 l0_3 l0_4 l0_5 a1 a2 bt373.1).bind fun t375 => (if t375 = true then (some (0,0,([] : List Int),([] : List Int),([] : List Int),([] : List (S50)),7)) else ((lane_copied.f a0_0 a0_1 l0_2 l0_3 l0_4 l0_5).bind fun bt376 => (if a1 < (bt376.2.2.2.2.2.length : Int) then (some (bt376.1,bt376.2.1,bt376.2.2.1,bt376.2.2.2.1,bt376.2.2.2.2.1,(bt376.2.2.2.2.2.set (a1 : Int).toNat (⟨a2,(-1),bt373.1,0,0⟩ : S50)),0)) else (none))))) else (some (0,0,([] : List Int),([] : List Int),([] : List Int),([] : List (S50)),2)))) else (some (0,0,([] : List Int),([] : List Int),([] : List Int),([] : List (S50)),2))) = some (r1,r2,r3,r4,r5,r6,r7):=H
  have A12:=Aside0.mk A120
  clear A120
  by_cases c13 : t372 = true
  ·subst c13
   have H1 : ((lane_choose.f k a0_0 a0_1 l0_2 l0_3 a2 (-1) a3).bind fun bt373 => (if bt373.2 = true then ((lane_held.f k a0_0 a0_1 l0_2 l0_3 l0_4 l0_5 a1 a2 bt373.1).bind fun t375 => (if t375 = true then (some (0,0,([] : List Int),([] : List Int),([] : List Int),([] : List (S50)),7)) else ((lane_copied.f a0_0 a0_1 l0_2 l0_3 l0_4 l0_5).bind fun bt376 => (if a1 < (bt376.2.2.2.2.2.length : Int) then (some (bt376.1,bt376.2.1,bt376.2.2.1,bt376.2.2.2.1,bt376.2.2.2.2.1,(bt376.2.2.2.2.2.set (a1 : Int).toNat (⟨a2,(-1),bt373.1,0,0⟩ : S50)),0)) else (none))))) else (some (0,0,([] : List Int),([] : List Int),([] : List Int),([] : List (S50)),2)))) = some (r1,r2,r3,r4,r5,r6,r7):=by rw [if_pos rfl] at H;exact H
   clear H
   have H:=H1
   clear H1
   replace H:=Option.bind_eq_some_iff.mp H
   obtain ⟨⟨t373,t374⟩,A140,H⟩:=H
   replace H : (if t374 = true then ((lane_held.f k a0_0 a0_1 l0_2 l0_3 l0_4 l0_5 a1 a2 t373).bind fun t375 => (if t375 = true then (some (0,0,([] : List Int),([] : List Int),([] : List Int),([] : List (S50)),7)) else ((lane_copied.f a0_0 a0_1 l0_2 l0_3 l0_4 l0_5).bind fun bt376 => (if a1 < (bt376.2.2.2.2.2.length : Int) then (some (bt376.1,bt376.2.1,bt376.2.2.1,bt376.2.2.2.1,bt376.2.2.2.2.1,(bt376.2.2.2.2.2.set (a1 : Int).toNat (⟨a2,(-1),t373,0,0⟩ : S50)),0)) else (none))))) else (some (0,0,([] : List Int),([] : List Int),([] : List Int),([] : List (S50)),2))) = some (r1,r2,r3,r4,r5,r6,r7):=H
   have A14:=Aside0.mk A140
   clear A140
   by_cases c15 : t374 = true
   ·subst c15
    have H1 : ((lane_held.f k a0_0 a0_1 l0_2 l0_3 l0_4 l0_5 a1 a2 t373).bind fun t375 => (if t375 = true then (some (0,0,([] : List Int),([] : List Int),([] : List Int),([] : List (S50)),7)) else ((lane_copied.f a0_0 a0_1 l0_2 l0_3 l0_4 l0_5).bind fun bt376 => (if a1 < (bt376.2.2.2.2.2.length : Int) then (some (bt376.1,bt376.2.1,bt376.2.2.1,bt376.2.2.2.1,bt376.2.2.2.2.1,(bt376.2.2.2.2.2.set (a1 : Int).toNat (⟨a2,(-1),t373,0,0⟩ : S50)),0)) else (none))))) = some (r1,r2,r3,r4,r5,r6,r7):=by rw [if_pos rfl] at H;exact H
    clear H
    have H:=H1
    clear H1
    replace H:=Option.bind_eq_some_iff.mp H
    obtain ⟨t375,A160,H⟩:=H
    replace H : (if t375 = true then (some (0,0,([] : List Int),([] : List Int),([] : List Int),([] : List (S50)),7)) else ((lane_copied.f a0_0 a0_1 l0_2 l0_3 l0_4 l0_5).bind fun bt376 => (if a1 < (bt376.2.2.2.2.2.length : Int) then (some (bt376.1,bt376.2.1,bt376.2.2.1,bt376.2.2.2.1,bt376.2.2.2.2.1,(bt376.2.2.2.2.2.set (a1 : Int).toNat (⟨a2,(-1),t373,0,0⟩ : S50)),0)) else (none)))) = some (r1,r2,r3,r4,r5,r6,r7):=H
    have A16:=Aside0.mk A160
    clear A160
    by_cases c17 : t375 = true
    ·subst c17
     have H1 : (some (0,0,([] : List Int),([] : List Int),([] : List Int),([] : List (S50)),7)) = some (r1,r2,r3,r4,r5,r6,r7):=by rw [if_pos rfl] at H;exact H
     clear H
     have H:=H1
     clear H1
     simp only [Option.some.injEq,Prod.mk.injEq] at H
     obtain ⟨rfl,rfl,rfl,rfl,rfl,rfl,rfl⟩:=H
     go_enter Try.func21,Try.ntmps21
     go_wp2_with (first|((with_reducible refine gate_dst (N:=4) rfl ?_);refine box_ev (N:=4) (cs:=#[.int .i64 a0_0,.int .i64 a0_1,.slice A0_2 l0_2.length c0_2,.slice A0_3 l0_3.length c0_3,.slice A0_4 l0_4.length c0_4,.slice A0_5 l0_5.length c0_5]) (t:=33) ?_;intro gb367 hg w18 hbox hb;have BK367:=Aside0.mk (hbox);have GW367 : Aside0 (w.heap.size ≤ gb367):=gsz hg;have GE367:=GW367;replace HB:=hbs hb;clear hb hbox hg)|((with_reducible refine gate_dst (N:=8) rfl ?_);refine box_ev (N:=8) (cs:=#[.int .i64 0,.int .i64 0,.slice none 0 0,.slice none 0 0,.slice none 0 0,.slice none 0 0]) (t:=33) ?_;intro gb368 hg w19 hbox hb;have BK368:=Aside0.mk (hbox);have GW368 : Aside0 (w.heap.size ≤ gb368):=gsz hg;have GE368:=GW368;have NB367_368:=nbl BK367 hg;have NB368_367:=nbr BK367 hg;replace BK367:=bkb BK367 hb;replace HB:=hbs hb;clear hb hbox hg;have hnb20:=NB367_368.out;have hnc20:=NB368_367.out;obtain ⟨_,_,_,_,_,_,_,_,_,_,_,_⟩:=cells6 BK367.out)|((with_reducible refine gate_callee (f:=18) rfl ?_);refine goesL_ (some 14) rfl rfl Try.func18 (by kernel_rfl) rfl #[.agg #[.int .i64 a0_0,.int .i64 a0_1,.slice A0_2 l0_2.length c0_2,.slice A0_3 l0_3.length c0_3,.slice A0_4 l0_4.length c0_4,.slice A0_5 l0_5.length c0_5]] rfl ga_ ?_;(with_reducible refine (lane_Validate.calls k a0_0 a0_1 _ _ l0_2 _ _ l0_3 _ _ l0_4 _ _ l0_5 t369 _ ?_ ?_ ?_ ?_ ?_ ?_ ?_ ?_ A5.out).mono ?_);exact cq HR0_2;exact HC0_2.out;exact cq HR0_3;exact HC0_3.out;exact cq HR0_4;exact HC0_4.out;exact cq HR0_5;exact HC0_5.out;rintro e w22 ⟨rfl,hb⟩;refine ⟨_,rfl,?_⟩;replace BK367:=bkb BK367 hb;replace BK368:=bkb BK368 hb;replace HB:=hbs hb;obtain ⟨_,_,_,_,_,_,_,_,_,_,_,_⟩:=cells6 BK367.out)|((with_reducible refine gate_callee (f:=37) rfl ?_);refine goesL_ (some 25) rfl rfl Try.func37 (by kernel_rfl) rfl #[.int .i64 a1,.int .i64 (wrap64 ((l0_5.length : Int) - 1))] rfl ga_ ?_;(with_reducible refine (lane_within.calls a1 (wrap64 ((l0_5.length : Int) - 1)) true _ A7.out).mono ?_);rintro e w' ⟨rfl,⟨nd,rfl⟩⟩;refine ⟨_,rfl,?_⟩;(try (rw [drewN_self w22];generalize hq_ : World.drewN w22 _ = w22;have n0_ : Aside0 (w22.heap[gb367]? = some (.cells #[.int .i64 a0_0,.int .i64 a0_1,.slice A0_2 l0_2.length c0_2,.slice A0_3 l0_3.length c0_3,.slice A0_4 l0_4.length c0_4,.slice A0_5 l0_5.length c0_5] 33 (0,0))):=⟨by rw [← hq_];exact (blk_up BK367.out)⟩;have n1_ : Aside0 (w22.heap[gb368]? = some (.cells #[.int .i64 0,.int .i64 0,.slice none 0 0,.slice none 0 0,.slice none 0 0,.slice none 0 0] 33 (0,0))):=⟨by rw [← hq_];exact (blk_up BK368.out)⟩;have n2_ : Aside0 (Below w.heap.size w w22):=⟨by rw [← hq_];exact (hb_)⟩;clear BK367 BK368 HB hq_;have BK367:=n0_;have BK368:=n1_;have HB:=n2_;clear n0_ n1_ n2_;obtain ⟨_,_,_,_,_,_,_,_,_,_,_,_⟩:=cells6 BK367.out));have p371 : 0 ≤ (a1 : Int):=of_decide_eq_true (by first|(with_reducible assumption)|assumption);have q371 : a1 < (l0_5.length : Int):=of_decide_eq_true (by first|(with_reducible assumption)|assumption);obtain ⟨ad371,e371,hx371_0,hx371_1,hx371_2,hx371_3,hx371_4⟩:=at_T50 HR0_5.out a1 p371 q371;cases e371;replace hx371_0:=(HB.out.cell (World.block_lt_of_cell? w _ hx371_0)).trans hx371_0;replace hx371_1:=(HB.out.cell (World.block_lt_of_cell? w _ hx371_1)).trans hx371_1;replace hx371_2:=(HB.out.cell (World.block_lt_of_cell? w _ hx371_2)).trans hx371_2;replace hx371_3:=(HB.out.cell (World.block_lt_of_cell? w _ hx371_3)).trans hx371_3;replace hx371_4:=(HB.out.cell (World.block_lt_of_cell? w _ hx371_4)).trans hx371_4;replace p371:=eq_true p371;replace q371:=eq_true q371)|((with_reducible refine gate_callee (f:=37) rfl ?_);refine goesL_ (some 47) rfl rfl Try.func37 (by kernel_rfl) rfl #[.int .i64 a2,.int .i64 (wrap64 ((wrap64 (a0_0 * a0_1)) - 1))] rfl ga_ ?_;(with_reducible refine (lane_within.calls a2 (wrap64 ((wrap64 (a0_0 * a0_1)) - 1)) true _ A12.out).mono ?_);rintro e w' ⟨rfl,⟨nd,rfl⟩⟩;refine ⟨_,rfl,?_⟩;(try (rw [drewN_self w22];generalize hq_ : World.drewN w22 _ = w22;have n0_ : Aside0 (w22.heap[gb367]? = some (.cells #[.int .i64 a0_0,.int .i64 a0_1,.slice A0_2 l0_2.length c0_2,.slice A0_3 l0_3.length c0_3,.slice A0_4 l0_4.length c0_4,.slice (some ad371) l0_5.length c0_5] 33 (0,0))):=⟨by rw [← hq_];exact (blk_up BK367.out)⟩;have n1_ : Aside0 (w22.heap[gb368]? = some (.cells #[.int .i64 0,.int .i64 0,.slice none 0 0,.slice none 0 0,.slice none 0 0,.slice none 0 0] 33 (0,0))):=⟨by rw [← hq_];exact (blk_up BK368.out)⟩;have n2_ : Aside0 (Below w.heap.size w w22):=⟨by rw [← hq_];exact (hb_)⟩;clear BK367 BK368 HB hq_;have BK367:=n0_;have BK368:=n1_;have HB:=n2_;clear n0_ n1_ n2_;obtain ⟨_,_,_,_,_,_,_,_,_,_,_,_⟩:=cells6 BK367.out)))|((with_reducible refine gate_callee (f:=38) rfl ?_);refine goesL_ (some 55) rfl rfl Try.func38 (by kernel_rfl) rfl #[.agg #[.int .i64 a0_0,.int .i64 a0_1,.slice A0_2 l0_2.length c0_2,.slice A0_3 l0_3.length c0_3],.int .i64 a2,.int .i64 (-1),.int .i64 a3] rfl ga_ ?_;(with_reducible refine (lane_choose.calls k a0_0 a0_1 _ _ l0_2 _ _ l0_3 a2 (-1) a3 t373 true _ ?_ ?_ ?_ ?_ A14.out).mono ?_);exact cq HR0_2;exact HC0_2.out;exact cq HR0_3;exact HC0_3.out;rintro e w24 ⟨rfl,hb⟩;refine ⟨_,rfl,?_⟩;replace BK367:=bkb BK367 hb;replace BK368:=bkb BK368 hb;replace HB:=hbs hb;obtain ⟨_,_,_,_,_,_,_,_,_,_,_,_⟩:=cells6 BK367.out)|((with_reducible refine gate_callee (f:=45) rfl ?_);refine goesL_ (some 68) rfl rfl Try.func45 (by kernel_rfl) rfl #[.agg #[.int .i64 a0_0,.int .i64 a0_1,.slice A0_2 l0_2.length c0_2,.slice A0_3 l0_3.length c0_3,.slice A0_4 l0_4.length c0_4,.slice (some ad371) l0_5.length c0_5],.int .i64 a1,.agg #[.int .i64 a2,.int .i64 t373]] rfl ga_ ?_;(with_reducible refine (lane_held.calls k a0_0 a0_1 _ _ l0_2 _ _ l0_3 _ _ l0_4 _ _ l0_5 a1 a2 t373 true _ ?_ ?_ ?_ ?_ ?_ ?_ ?_ ?_ A16.out).mono ?_);exact cq HR0_2;exact HC0_2.out;exact cq HR0_3;exact HC0_3.out;exact cq HR0_4;exact HC0_4.out;exact cq HR0_5;exact HC0_5.out;rintro e w26 ⟨rfl,hb⟩;refine ⟨_,rfl,?_⟩;replace BK367:=bkb BK367 hb;replace BK368:=bkb BK368 hb;replace HB:=hbs hb;obtain ⟨_,_,_,_,_,_,_,_,_,_,_,_⟩:=cells6 BK368.out))
     refine bodyPost_ret (results_ct rfl _ _ gb368 33 #[.int .i64 0,.int .i64 0,.slice none 0 0,.slice none 0 0,.slice none 0 0,.slice none 0 0] (0,0) _ rfl (by (with_reducible repeat (first|refine blk_drewN ?_ _|refine blk_drew ?_|refine blk_alloc ?_ _));exact blk_puts6 (blk_up BK368.out)) Try.underlying33 rfl (by kernel_rfl)) rfl ?_
     exact ⟨_,_,_,_,er_,nl_,nl_,nl_,nl_,hb_⟩
    ·replace c17:=Bool.eq_false_iff.mpr c17
     subst c17
     have H1 : ((lane_copied.f a0_0 a0_1 l0_2 l0_3 l0_4 l0_5).bind fun bt376 => (if a1 < (bt376.2.2.2.2.2.length : Int) then (some (bt376.1,bt376.2.1,bt376.2.2.1,bt376.2.2.2.1,bt376.2.2.2.2.1,(bt376.2.2.2.2.2.set (a1 : Int).toNat (⟨a2,(-1),t373,0,0⟩ : S50)),0)) else (none))) = some (r1,r2,r3,r4,r5,r6,r7):=by rw [if_neg (show ¬ (false = true) by decide)] at H;exact H
     clear H
     have H:=H1
     clear H1
     replace H:=Option.bind_eq_some_iff.mp H
     obtain ⟨⟨t376,t377,t378,t381,t384,t387⟩,A280,H⟩:=H
     replace H : (if a1 < (t387.length : Int) then (some (t376,t377,t378,t381,t384,(t387.set (a1 : Int).toNat (⟨a2,(-1),t373,0,0⟩ : S50)),0)) else (none)) = some (r1,r2,r3,r4,r5,r6,r7):=H
     have A28:=Aside0.mk A280
     clear A280
     replace H:=ifp_ H;obtain ⟨c29,H⟩:=H
     have c29b0 : decide (a1 < (t387.length : Int)) = true:=decide_eq_true c29
     clear c29
     obtain ⟨y390,hy390⟩ : ∃ y_ : List (S50),y_ = (t387.set (a1 : Int).toNat (⟨a2,(-1),t373,0,0⟩ : S50)):=⟨_,rfl⟩
     replace H : (some (t376,t377,t378,t381,t384,y390,0)) = some (r1,r2,r3,r4,r5,r6,r7):=by first|(rw [hy390];with_reducible exact H)|(have H2_:=(Option.bind_some _ _).symm.trans H;rw [hy390];with_reducible exact H2_)|(have H2_:=(Option.bind_some _ _).symm.trans H;with_reducible exact H2_)|with_reducible exact H|(rw [hy390];exact H)|exact H
     have Ny390:=Aside0.mk hy390
     clear hy390
     simp only [Option.some.injEq,Prod.mk.injEq] at H
     obtain ⟨rfl,rfl,rfl,rfl,rfl,rfl,rfl⟩:=H
     go_enter Try.func21,Try.ntmps21
     go_wp2_with (first|((with_reducible refine gate_dst (N:=4) rfl ?_);refine box_ev (N:=4) (cs:=#[.int .i64 a0_0,.int .i64 a0_1,.slice A0_2 l0_2.length c0_2,.slice A0_3 l0_3.length c0_3,.slice A0_4 l0_4.length c0_4,.slice A0_5 l0_5.length c0_5]) (t:=33) ?_;intro gb367 hg w31 hbox hb;have BK367:=Aside0.mk (hbox);have GW367 : Aside0 (w.heap.size ≤ gb367):=gsz hg;have GE367:=GW367;replace HB:=hbs hb;clear hb hbox hg)|((with_reducible refine gate_dst (N:=8) rfl ?_);refine box_ev (N:=8) (cs:=#[.int .i64 0,.int .i64 0,.slice none 0 0,.slice none 0 0,.slice none 0 0,.slice none 0 0]) (t:=33) ?_;intro gb368 hg w32 hbox hb;have BK368:=Aside0.mk (hbox);have GW368 : Aside0 (w.heap.size ≤ gb368):=gsz hg;have GE368:=GW368;have NB367_368:=nbl BK367 hg;have NB368_367:=nbr BK367 hg;replace BK367:=bkb BK367 hb;replace HB:=hbs hb;clear hb hbox hg;have hnb33:=NB367_368.out;have hnc33:=NB368_367.out;obtain ⟨_,_,_,_,_,_,_,_,_,_,_,_⟩:=cells6 BK367.out)|((with_reducible refine gate_callee (f:=18) rfl ?_);refine goesL_ (some 14) rfl rfl Try.func18 (by kernel_rfl) rfl #[.agg #[.int .i64 a0_0,.int .i64 a0_1,.slice A0_2 l0_2.length c0_2,.slice A0_3 l0_3.length c0_3,.slice A0_4 l0_4.length c0_4,.slice A0_5 l0_5.length c0_5]] rfl ga_ ?_;(with_reducible refine (lane_Validate.calls k a0_0 a0_1 _ _ l0_2 _ _ l0_3 _ _ l0_4 _ _ l0_5 t369 _ ?_ ?_ ?_ ?_ ?_ ?_ ?_ ?_ A5.out).mono ?_);exact cq HR0_2;exact HC0_2.out;exact cq HR0_3;exact HC0_3.out;exact cq HR0_4;exact HC0_4.out;exact cq HR0_5;exact HC0_5.out;rintro e w35 ⟨rfl,hb⟩;refine ⟨_,rfl,?_⟩;replace BK367:=bkb BK367 hb;replace BK368:=bkb BK368 hb;replace HB:=hbs hb;obtain ⟨_,_,_,_,_,_,_,_,_,_,_,_⟩:=cells6 BK367.out)|((with_reducible refine gate_callee (f:=37) rfl ?_);refine goesL_ (some 25) rfl rfl Try.func37 (by kernel_rfl) rfl #[.int .i64 a1,.int .i64 (wrap64 ((l0_5.length : Int) - 1))] rfl ga_ ?_;(with_reducible refine (lane_within.calls a1 (wrap64 ((l0_5.length : Int) - 1)) true _ A7.out).mono ?_);rintro e w' ⟨rfl,⟨nd,rfl⟩⟩;refine ⟨_,rfl,?_⟩;(try (rw [drewN_self w35];generalize hq_ : World.drewN w35 _ = w35;have n0_ : Aside0 (w35.heap[gb367]? = some (.cells #[.int .i64 a0_0,.int .i64 a0_1,.slice A0_2 l0_2.length c0_2,.slice A0_3 l0_3.length c0_3,.slice A0_4 l0_4.length c0_4,.slice A0_5 l0_5.length c0_5] 33 (0,0))):=⟨by rw [← hq_];exact (blk_up BK367.out)⟩;have n1_ : Aside0 (w35.heap[gb368]? = some (.cells #[.int .i64 0,.int .i64 0,.slice none 0 0,.slice none 0 0,.slice none 0 0,.slice none 0 0] 33 (0,0))):=⟨by rw [← hq_];exact (blk_up BK368.out)⟩;have n2_ : Aside0 (Below w.heap.size w w35):=⟨by rw [← hq_];exact (hb_)⟩;clear BK367 BK368 HB hq_;have BK367:=n0_;have BK368:=n1_;have HB:=n2_;clear n0_ n1_ n2_;obtain ⟨_,_,_,_,_,_,_,_,_,_,_,_⟩:=cells6 BK367.out));have p371 : 0 ≤ (a1 : Int):=of_decide_eq_true (by first|(with_reducible assumption)|assumption);have q371 : a1 < (l0_5.length : Int):=of_decide_eq_true (by first|(with_reducible assumption)|assumption);obtain ⟨ad371,e371,hx371_0,hx371_1,hx371_2,hx371_3,hx371_4⟩:=at_T50 HR0_5.out a1 p371 q371;cases e371;replace hx371_0:=(HB.out.cell (World.block_lt_of_cell? w _ hx371_0)).trans hx371_0;replace hx371_1:=(HB.out.cell (World.block_lt_of_cell? w _ hx371_1)).trans hx371_1;replace hx371_2:=(HB.out.cell (World.block_lt_of_cell? w _ hx371_2)).trans hx371_2;replace hx371_3:=(HB.out.cell (World.block_lt_of_cell? w _ hx371_3)).trans hx371_3;replace hx371_4:=(HB.out.cell (World.block_lt_of_cell? w _ hx371_4)).trans hx371_4;replace p371:=eq_true p371;replace q371:=eq_true q371)|((with_reducible refine gate_callee (f:=37) rfl ?_);refine goesL_ (some 47) rfl rfl Try.func37 (by kernel_rfl) rfl #[.int .i64 a2,.int .i64 (wrap64 ((wrap64 (a0_0 * a0_1)) - 1))] rfl ga_ ?_;(with_reducible refine (lane_within.calls a2 (wrap64 ((wrap64 (a0_0 * a0_1)) - 1)) true _ A12.out).mono ?_);rintro e w' ⟨rfl,⟨nd,rfl⟩⟩;refine ⟨_,rfl,?_⟩;(try (rw [drewN_self w35];generalize hq_ : World.drewN w35 _ = w35;have n0_ : Aside0 (w35.heap[gb367]? = some (.cells #[.int .i64 a0_0,.int .i64 a0_1,.slice A0_2 l0_2.length c0_2,.slice A0_3 l0_3.length c0_3,.slice A0_4 l0_4.length c0_4,.slice (some ad371) l0_5.length c0_5] 33 (0,0))):=⟨by rw [← hq_];exact (blk_up BK367.out)⟩;have n1_ : Aside0 (w35.heap[gb368]? = some (.cells #[.int .i64 0,.int .i64 0,.slice none 0 0,.slice none 0 0,.slice none 0 0,.slice none 0 0] 33 (0,0))):=⟨by rw [← hq_];exact (blk_up BK368.out)⟩;have n2_ : Aside0 (Below w.heap.size w w35):=⟨by rw [← hq_];exact (hb_)⟩;clear BK367 BK368 HB hq_;have BK367:=n0_;have BK368:=n1_;have HB:=n2_;clear n0_ n1_ n2_;obtain ⟨_,_,_,_,_,_,_,_,_,_,_,_⟩:=cells6 BK367.out)))|((with_reducible refine gate_callee (f:=38) rfl ?_);refine goesL_ (some 55) rfl rfl Try.func38 (by kernel_rfl) rfl #[.agg #[.int .i64 a0_0,.int .i64 a0_1,.slice A0_2 l0_2.length c0_2,.slice A0_3 l0_3.length c0_3],.int .i64 a2,.int .i64 (-1),.int .i64 a3] rfl ga_ ?_;(with_reducible refine (lane_choose.calls k a0_0 a0_1 _ _ l0_2 _ _ l0_3 a2 (-1) a3 t373 true _ ?_ ?_ ?_ ?_ A14.out).mono ?_);exact cq HR0_2;exact HC0_2.out;exact cq HR0_3;exact HC0_3.out;rintro e w37 ⟨rfl,hb⟩;refine ⟨_,rfl,?_⟩;replace BK367:=bkb BK367 hb;replace BK368:=bkb BK368 hb;replace HB:=hbs hb;obtain ⟨_,_,_,_,_,_,_,_,_,_,_,_⟩:=cells6 BK367.out)|((with_reducible refine gate_callee (f:=45) rfl ?_);refine goesL_ (some 68) rfl rfl Try.func45 (by kernel_rfl) rfl #[.agg #[.int .i64 a0_0,.int .i64 a0_1,.slice A0_2 l0_2.length c0_2,.slice A0_3 l0_3.length c0_3,.slice A0_4 l0_4.length c0_4,.slice (some ad371) l0_5.length c0_5],.int .i64 a1,.agg #[.int .i64 a2,.int .i64 t373]] rfl ga_ ?_;(with_reducible refine (lane_held.calls k a0_0 a0_1 _ _ l0_2 _ _ l0_3 _ _ l0_4 _ _ l0_5 a1 a2 t373 false _ ?_ ?_ ?_ ?_ ?_ ?_ ?_ ?_ A16.out).mono ?_);exact cq HR0_2;exact HC0_2.out;exact cq HR0_3;exact HC0_3.out;exact cq HR0_4;exact HC0_4.out;exact cq HR0_5;exact HC0_5.out;rintro e w39 ⟨rfl,hb⟩;refine ⟨_,rfl,?_⟩;replace BK367:=bkb BK367 hb;replace BK368:=bkb BK368 hb;replace HB:=hbs hb;obtain ⟨_,_,_,_,_,_,_,_,_,_,_,_⟩:=cells6 BK367.out)|((with_reducible refine gate_callee (f:=46) rfl ?_);refine goesL_ (some 71) rfl rfl Try.func46 (by kernel_rfl) rfl #[.agg #[.int .i64 a0_0,.int .i64 a0_1,.slice A0_2 l0_2.length c0_2,.slice A0_3 l0_3.length c0_3,.slice A0_4 l0_4.length c0_4,.slice (some ad371) l0_5.length c0_5]] rfl ga_ ?_;(with_reducible refine (lane_copied.calls a0_0 a0_1 _ _ l0_2 _ _ l0_3 _ _ l0_4 _ _ l0_5 t376 t377 t378 t381 t384 t387 _ ?_ ?_ ?_ ?_ ?_ ?_ ?_ ?_ A28.out).mono ?_);exact cq HR0_2;exact HC0_2.out;exact cq HR0_3;exact HC0_3.out;exact cq HR0_4;exact HC0_4.out;exact cq HR0_5;exact HC0_5.out;rintro e w41 ⟨v379,v382,v385,v388,rfl,ho0,ho1,ho2,ho3,hb⟩;refine ⟨_,rfl,?_⟩;have HO380:=rlo ho0;have HO383:=rlo ho1;have HO386:=rlo ho2;have HO389:=rlo ho3;replace BK367:=bkb BK367 hb;replace BK368:=bkb BK368 hb;replace HB:=hbs hb;obtain ⟨_,_,_,_,_,_,_,_,_,_,_,_⟩:=cells6 BK367.out;obtain ⟨Ao43,co43,eo43⟩:=Kd.R_slice HO380.out;subst eo43;obtain ⟨Ao44,co44,eo44⟩:=Kd.R_slice HO383.out;subst eo44;obtain ⟨Ao45,co45,eo45⟩:=Kd.R_slice HO386.out;subst eo45;obtain ⟨Ao46,co46,eo46⟩:=Kd.R_slice HO389.out;subst eo46)|((with_reducible refine gate_store (t:=33) (p:=4) rfl ?_);refine store_event (t:=33) (p:=4) (v:=?vo_w47) (w1:=((((((w41.setCell ⟨gb367,0,none⟩ (.int .i64 t376)).setCell ⟨gb367,1,none⟩ (.int .i64 t377)).setCell ⟨gb367,2,none⟩ (.slice Ao43 t378.length co43)).setCell ⟨gb367,3,none⟩ (.slice Ao44 t381.length co44)).setCell ⟨gb367,4,none⟩ (.slice Ao45 t384.length co45)).setCell ⟨gb367,5,none⟩ (.slice Ao46 t387.length co46))) ?hg ?ho ?hn ?hr ?_;(case ho => rfl);(case hg => rfl);(case hn => rfl);(case hr => first|(go_simp;done)|(go_simp;rfl));intro w47 hw;have n0_ : Aside0 (Kd.R (Kd.int .i64) 3 w47 w.heap.size (fun k_ => some k_ ≠ (.slice Ao44 t381.length co44 : Value).ownBlock ∧ some k_ ≠ (.slice Ao45 t384.length co45 : Value).ownBlock) (.slice Ao43 t378.length co43) t378):=⟨(by rw [hw];exact (by (with_reducible repeat (first|apply Kd.R_alloc|apply Kd.R_drewN|apply Kd.R_drew));exact Kd.R_mono (Kd.R_fars gb367 (Kd.R_types HO380.out BK367.out (by decide)) (fun _ hk => hk.2)) (fun _ hk => ⟨hk.1.1,hk.1.2⟩)))⟩;have n1_ : Aside0 (Kd.R (Kd.int .i64) 3 w47 w.heap.size (fun k_ => some k_ ≠ (.slice Ao43 t378.length co43 : Value).ownBlock ∧ some k_ ≠ (.slice Ao45 t384.length co45 : Value).ownBlock) (.slice Ao44 t381.length co44) t381):=⟨(by rw [hw];exact (by (with_reducible repeat (first|apply Kd.R_alloc|apply Kd.R_drewN|apply Kd.R_drew));exact Kd.R_mono (Kd.R_fars gb367 (Kd.R_types HO383.out BK367.out (by decide)) (fun _ hk => hk.2)) (fun _ hk => ⟨hk.1.1,hk.1.2⟩)))⟩;have n2_ : Aside0 (Kd.R (Kd.int .i64) 3 w47 w.heap.size (fun k_ => some k_ ≠ (.slice Ao43 t378.length co43 : Value).ownBlock ∧ some k_ ≠ (.slice Ao44 t381.length co44 : Value).ownBlock) (.slice Ao45 t384.length co45) t384):=⟨(by rw [hw];exact (by (with_reducible repeat (first|apply Kd.R_alloc|apply Kd.R_drewN|apply Kd.R_drew));exact Kd.R_mono (Kd.R_fars gb367 (Kd.R_types HO386.out BK367.out (by decide)) (fun _ hk => hk.2)) (fun _ hk => ⟨hk.1.1,hk.1.2⟩)))⟩;have n3_ : Aside0 (Kd.R k50 50 w47 w.heap.size (fun _ => True) (.slice Ao46 t387.length co46) t387):=⟨(by rw [hw];exact (by (with_reducible repeat (first|apply Kd.R_alloc|apply Kd.R_drewN|apply Kd.R_drew));exact Kd.R_mono (Kd.R_fars gb367 (Kd.R_types HO389.out BK367.out (by decide)) (fun _ hk => hk.2)) (fun _ hk => trivial)))⟩;have n4_ : Aside0 (w47.heap[gb367]? = some (.cells #[.int .i64 t376,.int .i64 t377,.slice Ao43 t378.length co43,.slice Ao44 t381.length co44,.slice Ao45 t384.length co45,.slice Ao46 t387.length co46] 33 (0,0))):=⟨(by rw [hw];exact (by (with_reducible repeat (first|refine blk_drewN ?_ _|refine blk_drew ?_|refine blk_alloc ?_ _));exact blk_puts6 (blk_up BK367.out)))⟩;have n5_ : Aside0 (w47.heap[gb368]? = some (.cells #[.int .i64 0,.int .i64 0,.slice none 0 0,.slice none 0 0,.slice none 0 0,.slice none 0 0] 33 (0,0))):=⟨(by rw [hw];exact (by (with_reducible repeat (first|refine blk_drewN ?_ _|refine blk_drew ?_|refine blk_alloc ?_ _));refine blk_far ?_ NB368_367.out _;(with_reducible repeat (first|refine blk_drewN ?_ _|refine blk_drew ?_|refine blk_alloc ?_ _));refine blk_far ?_ NB368_367.out _;(with_reducible repeat (first|refine blk_drewN ?_ _|refine blk_drew ?_|refine blk_alloc ?_ _));refine blk_far ?_ NB368_367.out _;(with_reducible repeat (first|refine blk_drewN ?_ _|refine blk_drew ?_|refine blk_alloc ?_ _));refine blk_far ?_ NB368_367.out _;(with_reducible repeat (first|refine blk_drewN ?_ _|refine blk_drew ?_|refine blk_alloc ?_ _));refine blk_far ?_ NB368_367.out _;(with_reducible repeat (first|refine blk_drewN ?_ _|refine blk_drew ?_|refine blk_alloc ?_ _));refine blk_far ?_ NB368_367.out _;(with_reducible repeat (first|refine blk_drewN ?_ _|refine blk_drew ?_|refine blk_alloc ?_ _));exact BK368.out))⟩;have n6_ : Aside0 (Below w.heap.size w w47):=⟨(by rw [hw];exact (hb_))⟩;clear hw;clear HO380;clear HO383;clear HO386;clear HO389;clear BK367;clear BK368;clear HB;have HO380:=n0_;have HO383:=n1_;have HO386:=n2_;have HO389:=n3_;have BK367:=n4_;have BK368:=n5_;have HB:=n6_;clear n0_ n1_ n2_ n3_ n4_ n5_ n6_;obtain ⟨_,_,_,_,_,_,_,_,_,_,_,_⟩:=cells6 BK367.out;have p30 : 0 ≤ (a1 : Int):=of_decide_eq_true (by first|(with_reducible assumption)|assumption);have q30 : (a1 : Int) < ((t387.length : Int) : Int):=of_decide_eq_true (by first|(with_reducible assumption)|assumption);obtain ⟨go30,co30,eo30,gb30,gl30,cl30,HG30⟩:=Kd.R_form HO389.out (by omega);(first|cases eo30|(injection eo30 with ea_ en_ ec_;(first|subst ea_|(injection ea_ with ea_;subst ea_));subst ec_;clear en_));have GB30:=Aside0.mk gb30;have GG30:=Aside0.mk HG30;clear gb30 gl30 HG30;obtain ⟨ce30,hcl30,hM30,hcc30,hfr30⟩:=Kd.R_elem HO389.out z50 (a1 : Int) p30 q30;obtain rfl:=k50_openM hM30;have hx30_0 : w47.cell? ⟨go30,(a1 : Int).toNat * 5,none⟩ = some (.int .i64 ((rd_T50 t387 a1).f0)):=hcc30 0 _ rfl;have hx30_1 : w47.cell? ⟨go30,(a1 : Int).toNat * 5 + 1,none⟩ = some (.int .i64 ((rd_T50 t387 a1).f1)):=hcc30 1 _ rfl;have hx30_2 : w47.cell? ⟨go30,(a1 : Int).toNat * 5 + 2,none⟩ = some (.int .i64 ((rd_T50 t387 a1).f2)):=hcc30 2 _ rfl;have hx30_3 : w47.cell? ⟨go30,(a1 : Int).toNat * 5 + 3,none⟩ = some (.int .i64 ((rd_T50 t387 a1).f3)):=hcc30 3 _ rfl;have hx30_4 : w47.cell? ⟨go30,(a1 : Int).toNat * 5 + 4,none⟩ = some (.int .i64 ((rd_T50 t387 a1).f4)):=hcc30 4 _ rfl;have hf30_0 : w47.frozen? ⟨go30,(a1 : Int).toNat * 5,none⟩ = false:=hfr30 0;have hf30_1 : w47.frozen? ⟨go30,(a1 : Int).toNat * 5 + 1,none⟩ = false:=hfr30 1;have hf30_2 : w47.frozen? ⟨go30,(a1 : Int).toNat * 5 + 2,none⟩ = false:=hfr30 2;have hf30_3 : w47.frozen? ⟨go30,(a1 : Int).toNat * 5 + 3,none⟩ = false:=hfr30 3;have hf30_4 : w47.frozen? ⟨go30,(a1 : Int).toNat * 5 + 4,none⟩ = false:=hfr30 4;clear hcl30 hcc30 hfr30 hM30;replace p30:=eq_true p30;replace q30:=eq_true q30;have HX49:=Aside0.mk (show Kd.R k50 50 w47 w.heap.size (fun _ => True) (.slice (some ⟨go30,0,none⟩) t387.length co46) t387 from (Kd.R_up HO389.out));obtain ⟨ce49,hcl49,hM49,hcc49,hfr49⟩:=Kd.R_elem HX49.out z50 (a1 : Int) (of_decide_eq_true (by first|(with_reducible assumption)|assumption)) (by have h_ : (a1 : Int) < ((t387.length : Int) : Int):=of_decide_eq_true (by first|(with_reducible assumption)|assumption);first|exact h_|(have e_:=(Kd.R_reads' HO389.out).1;omega)|simpa using h_);obtain rfl:=k50_openM hM49;have HP49:=Kd.R_seg HX49.out (a1 : Int) (of_decide_eq_true (by first|(with_reducible assumption)|assumption)) (by have h_ : (a1 : Int) < ((t387.length : Int) : Int):=of_decide_eq_true (by first|(with_reducible assumption)|assumption);first|exact h_|(have e_:=(Kd.R_reads' HO389.out).1;omega)|simpa using h_) (seg:=[.int .i64 a2,.int .i64 (-1),.int .i64 t373,.int .i64 0,.int .i64 0]) (j:=0) hcl49 hcc49 (show 5 ≤ 5 from by decide) (x':=(⟨a2,(-1),t373,0,0⟩ : S50)) (k50_mkM _ _ _ (⟨a2,(-1),t373,0,0⟩ : S50) ) (fun _ hk => hk);have hx49_0:=hcc49 0 _ rfl;(try simp only [show (k50).sz = 5 from rfl,Nat.mul_one,Nat.add_zero] at hx49_0);have hf49_0:=hfr49 0;(try simp only [show (k50).sz = 5 from rfl,Nat.mul_one,Nat.add_zero] at hf49_0);have hx49_1:=hcc49 1 _ rfl;(try simp only [show (k50).sz = 5 from rfl,Nat.mul_one,Nat.add_zero] at hx49_1);have hf49_1:=hfr49 1;(try simp only [show (k50).sz = 5 from rfl,Nat.mul_one,Nat.add_zero] at hf49_1);have hx49_2:=hcc49 2 _ rfl;(try simp only [show (k50).sz = 5 from rfl,Nat.mul_one,Nat.add_zero] at hx49_2);have hf49_2:=hfr49 2;(try simp only [show (k50).sz = 5 from rfl,Nat.mul_one,Nat.add_zero] at hf49_2);have hx49_3:=hcc49 3 _ rfl;(try simp only [show (k50).sz = 5 from rfl,Nat.mul_one,Nat.add_zero] at hx49_3);have hf49_3:=hfr49 3;(try simp only [show (k50).sz = 5 from rfl,Nat.mul_one,Nat.add_zero] at hf49_3);have hx49_4:=hcc49 4 _ rfl;(try simp only [show (k50).sz = 5 from rfl,Nat.mul_one,Nat.add_zero] at hx49_4);have hf49_4:=hfr49 4;(try simp only [show (k50).sz = 5 from rfl,Nat.mul_one,Nat.add_zero] at hf49_4);clear hcl49 hcc49 hfr49 hM49)|((with_reducible refine gate_store (t:=50) (p:=78) rfl ?_);refine store_event (t:=50) (p:=78) (v:=?vo_w50) (w1:=(((((w47.setCell ⟨go30,(a1 : Int).toNat * 5,none⟩ (.int .i64 a2)).setCell ⟨go30,(a1 : Int).toNat * 5 + 1,none⟩ (.int .i64 (-1))).setCell ⟨go30,(a1 : Int).toNat * 5 + 2,none⟩ (.int .i64 t373)).setCell ⟨go30,(a1 : Int).toNat * 5 + 3,none⟩ (.int .i64 0)).setCell ⟨go30,(a1 : Int).toNat * 5 + 4,none⟩ (.int .i64 0))) ?hg ?ho ?hn ?hr ?_;(case ho => rfl);(case hg => rfl);(case hn => rfl);(case hr => first|(go_simp;done)|(go_simp;rfl));intro w50 hw;have hg : w47.grownBy w50 (some go30):=(by rw [hw];exact HP49.2);have hp_ : Kd.R k50 50 w50 w.heap.size (fun _ => True) (.slice (some ⟨go30,0,none⟩) t387.length co46) y390:=(by rw [hw,Ny390.out];exact HP49.1);clear HP49;replace BK367:=Aside0.mk (blk_grown (blk_up BK367.out) hg (Kd.R_ne HO389.out BK367.out (by decide)));replace BK368:=Aside0.mk (blk_grown (blk_up BK368.out) hg (Kd.R_ne HO389.out BK368.out (by decide)));replace HO380:=Aside0.mk (Kd.R_over' (v:=(.slice (some ⟨go30,0,none⟩) t387.length co46)) (Kd.R_up HO380.out) (Kd.R_typed HO389.out) (by decide) hg);replace HO383:=Aside0.mk (Kd.R_over' (v:=(.slice (some ⟨go30,0,none⟩) t387.length co46)) (Kd.R_up HO383.out) (Kd.R_typed HO389.out) (by decide) hg);replace HO386:=Aside0.mk (Kd.R_over' (v:=(.slice (some ⟨go30,0,none⟩) t387.length co46)) (Kd.R_up HO386.out) (Kd.R_typed HO389.out) (by decide) hg);replace HO389:=Aside0.mk (hp_);replace HB:=Aside0.mk ((by rw [hw];exact below_set (below_set (below_set (below_set (below_set (HB.out) GB30.out) GB30.out) GB30.out) GB30.out) GB30.out : Below w.heap.size w w50));clear hg hw hp_;obtain ⟨_,_,_,_,_,_,_,_,_,_,_,_⟩:=cells6 BK367.out;obtain ⟨_,_,_,_,_,_,_,_,_,_,_,_⟩:=cells6 BK368.out))
     refine bodyPost_ret (results_ct rfl _ _ gb368 33 #[.int .i64 t376,.int .i64 t377,.slice Ao43 t378.length co43,.slice Ao44 t381.length co44,.slice Ao45 t384.length co45,.slice (some ⟨go30,0,none⟩) t387.length co46] (0,0) _ rfl (by (with_reducible repeat (first|refine blk_drewN ?_ _|refine blk_drew ?_|refine blk_alloc ?_ _));exact blk_puts6 (blk_up BK368.out)) Try.underlying33 rfl (by kernel_rfl)) rfl ?_
     exact ⟨_,_,_,_,er_,by (with_reducible repeat (first|apply Kd.R_alloc|apply Kd.R_drewN|apply Kd.R_drew));exact Kd.R_mono (Kd.R_fars gb368 (Kd.R_types HO380.out BK368.out (by decide)) (fun _ hk => hk.2)) (fun _ hk => ⟨hk.1.1,hk.1.2⟩),by (with_reducible repeat (first|apply Kd.R_alloc|apply Kd.R_drewN|apply Kd.R_drew));exact Kd.R_mono (Kd.R_fars gb368 (Kd.R_types HO383.out BK368.out (by decide)) (fun _ hk => hk.2)) (fun _ hk => ⟨hk.1.1,hk.1.2⟩),by (with_reducible repeat (first|apply Kd.R_alloc|apply Kd.R_drewN|apply Kd.R_drew));exact Kd.R_mono (Kd.R_fars gb368 (Kd.R_types HO386.out BK368.out (by decide)) (fun _ hk => hk.2)) (fun _ hk => ⟨hk.1.1,hk.1.2⟩),by (with_reducible repeat (first|apply Kd.R_alloc|apply Kd.R_drewN|apply Kd.R_drew));exact Kd.R_mono (Kd.R_fars gb368 (Kd.R_types HO389.out BK368.out (by decide)) (fun _ hk => hk.2)) (fun _ hk => trivial),hb_⟩
   ·replace c15:=Bool.eq_false_iff.mpr c15
    subst c15
    have H1 : (some (0,0,([] : List Int),([] : List Int),([] : List Int),([] : List (S50)),2)) = some (r1,r2,r3,r4,r5,r6,r7):=by rw [if_neg (show ¬ (false = true) by decide)] at H;exact H
    clear H
    have H:=H1
    clear H1
    simp only [Option.some.injEq,Prod.mk.injEq] at H
    obtain ⟨rfl,rfl,rfl,rfl,rfl,rfl,rfl⟩:=H
    go_enter Try.func21,Try.ntmps21
    go_wp2_with (first|((with_reducible refine gate_dst (N:=4) rfl ?_);refine box_ev (N:=4) (cs:=#[.int .i64 a0_0,.int .i64 a0_1,.slice A0_2 l0_2.length c0_2,.slice A0_3 l0_3.length c0_3,.slice A0_4 l0_4.length c0_4,.slice A0_5 l0_5.length c0_5]) (t:=33) ?_;intro gb367 hg w53 hbox hb;have BK367:=Aside0.mk (hbox);have GW367 : Aside0 (w.heap.size ≤ gb367):=gsz hg;have GE367:=GW367;replace HB:=hbs hb;clear hb hbox hg)|((with_reducible refine gate_dst (N:=8) rfl ?_);refine box_ev (N:=8) (cs:=#[.int .i64 0,.int .i64 0,.slice none 0 0,.slice none 0 0,.slice none 0 0,.slice none 0 0]) (t:=33) ?_;intro gb368 hg w54 hbox hb;have BK368:=Aside0.mk (hbox);have GW368 : Aside0 (w.heap.size ≤ gb368):=gsz hg;have GE368:=GW368;have NB367_368:=nbl BK367 hg;have NB368_367:=nbr BK367 hg;replace BK367:=bkb BK367 hb;replace HB:=hbs hb;clear hb hbox hg;have hnb55:=NB367_368.out;have hnc55:=NB368_367.out;obtain ⟨_,_,_,_,_,_,_,_,_,_,_,_⟩:=cells6 BK367.out)|((with_reducible refine gate_callee (f:=18) rfl ?_);refine goesL_ (some 14) rfl rfl Try.func18 (by kernel_rfl) rfl #[.agg #[.int .i64 a0_0,.int .i64 a0_1,.slice A0_2 l0_2.length c0_2,.slice A0_3 l0_3.length c0_3,.slice A0_4 l0_4.length c0_4,.slice A0_5 l0_5.length c0_5]] rfl ga_ ?_;(with_reducible refine (lane_Validate.calls k a0_0 a0_1 _ _ l0_2 _ _ l0_3 _ _ l0_4 _ _ l0_5 t369 _ ?_ ?_ ?_ ?_ ?_ ?_ ?_ ?_ A5.out).mono ?_);exact cq HR0_2;exact HC0_2.out;exact cq HR0_3;exact HC0_3.out;exact cq HR0_4;exact HC0_4.out;exact cq HR0_5;exact HC0_5.out;rintro e w57 ⟨rfl,hb⟩;refine ⟨_,rfl,?_⟩;replace BK367:=bkb BK367 hb;replace BK368:=bkb BK368 hb;replace HB:=hbs hb;obtain ⟨_,_,_,_,_,_,_,_,_,_,_,_⟩:=cells6 BK367.out)|((with_reducible refine gate_callee (f:=37) rfl ?_);refine goesL_ (some 25) rfl rfl Try.func37 (by kernel_rfl) rfl #[.int .i64 a1,.int .i64 (wrap64 ((l0_5.length : Int) - 1))] rfl ga_ ?_;(with_reducible refine (lane_within.calls a1 (wrap64 ((l0_5.length : Int) - 1)) true _ A7.out).mono ?_);rintro e w' ⟨rfl,⟨nd,rfl⟩⟩;refine ⟨_,rfl,?_⟩;(try (rw [drewN_self w57];generalize hq_ : World.drewN w57 _ = w57;have n0_ : Aside0 (w57.heap[gb367]? = some (.cells #[.int .i64 a0_0,.int .i64 a0_1,.slice A0_2 l0_2.length c0_2,.slice A0_3 l0_3.length c0_3,.slice A0_4 l0_4.length c0_4,.slice A0_5 l0_5.length c0_5] 33 (0,0))):=⟨by rw [← hq_];exact (blk_up BK367.out)⟩;have n1_ : Aside0 (w57.heap[gb368]? = some (.cells #[.int .i64 0,.int .i64 0,.slice none 0 0,.slice none 0 0,.slice none 0 0,.slice none 0 0] 33 (0,0))):=⟨by rw [← hq_];exact (blk_up BK368.out)⟩;have n2_ : Aside0 (Below w.heap.size w w57):=⟨by rw [← hq_];exact (hb_)⟩;clear BK367 BK368 HB hq_;have BK367:=n0_;have BK368:=n1_;have HB:=n2_;clear n0_ n1_ n2_;obtain ⟨_,_,_,_,_,_,_,_,_,_,_,_⟩:=cells6 BK367.out));have p371 : 0 ≤ (a1 : Int):=of_decide_eq_true (by first|(with_reducible assumption)|assumption);have q371 : a1 < (l0_5.length : Int):=of_decide_eq_true (by first|(with_reducible assumption)|assumption);obtain ⟨ad371,e371,hx371_0,hx371_1,hx371_2,hx371_3,hx371_4⟩:=at_T50 HR0_5.out a1 p371 q371;cases e371;replace hx371_0:=(HB.out.cell (World.block_lt_of_cell? w _ hx371_0)).trans hx371_0;replace hx371_1:=(HB.out.cell (World.block_lt_of_cell? w _ hx371_1)).trans hx371_1;replace hx371_2:=(HB.out.cell (World.block_lt_of_cell? w _ hx371_2)).trans hx371_2;replace hx371_3:=(HB.out.cell (World.block_lt_of_cell? w _ hx371_3)).trans hx371_3;replace hx371_4:=(HB.out.cell (World.block_lt_of_cell? w _ hx371_4)).trans hx371_4;replace p371:=eq_true p371;replace q371:=eq_true q371)|((with_reducible refine gate_callee (f:=37) rfl ?_);refine goesL_ (some 47) rfl rfl Try.func37 (by kernel_rfl) rfl #[.int .i64 a2,.int .i64 (wrap64 ((wrap64 (a0_0 * a0_1)) - 1))] rfl ga_ ?_;(with_reducible refine (lane_within.calls a2 (wrap64 ((wrap64 (a0_0 * a0_1)) - 1)) true _ A12.out).mono ?_);rintro e w' ⟨rfl,⟨nd,rfl⟩⟩;refine ⟨_,rfl,?_⟩;(try (rw [drewN_self w57];generalize hq_ : World.drewN w57 _ = w57;have n0_ : Aside0 (w57.heap[gb367]? = some (.cells #[.int .i64 a0_0,.int .i64 a0_1,.slice A0_2 l0_2.length c0_2,.slice A0_3 l0_3.length c0_3,.slice A0_4 l0_4.length c0_4,.slice (some ad371) l0_5.length c0_5] 33 (0,0))):=⟨by rw [← hq_];exact (blk_up BK367.out)⟩;have n1_ : Aside0 (w57.heap[gb368]? = some (.cells #[.int .i64 0,.int .i64 0,.slice none 0 0,.slice none 0 0,.slice none 0 0,.slice none 0 0] 33 (0,0))):=⟨by rw [← hq_];exact (blk_up BK368.out)⟩;have n2_ : Aside0 (Below w.heap.size w w57):=⟨by rw [← hq_];exact (hb_)⟩;clear BK367 BK368 HB hq_;have BK367:=n0_;have BK368:=n1_;have HB:=n2_;clear n0_ n1_ n2_;obtain ⟨_,_,_,_,_,_,_,_,_,_,_,_⟩:=cells6 BK367.out)))|((with_reducible refine gate_callee (f:=38) rfl ?_);refine goesL_ (some 55) rfl rfl Try.func38 (by kernel_rfl) rfl #[.agg #[.int .i64 a0_0,.int .i64 a0_1,.slice A0_2 l0_2.length c0_2,.slice A0_3 l0_3.length c0_3],.int .i64 a2,.int .i64 (-1),.int .i64 a3] rfl ga_ ?_;(with_reducible refine (lane_choose.calls k a0_0 a0_1 _ _ l0_2 _ _ l0_3 a2 (-1) a3 t373 false _ ?_ ?_ ?_ ?_ A14.out).mono ?_);exact cq HR0_2;exact HC0_2.out;exact cq HR0_3;exact HC0_3.out;rintro e w59 ⟨rfl,hb⟩;refine ⟨_,rfl,?_⟩;replace BK367:=bkb BK367 hb;replace BK368:=bkb BK368 hb;replace HB:=hbs hb;obtain ⟨_,_,_,_,_,_,_,_,_,_,_,_⟩:=cells6 BK368.out))
    refine bodyPost_ret (results_ct rfl _ _ gb368 33 #[.int .i64 0,.int .i64 0,.slice none 0 0,.slice none 0 0,.slice none 0 0,.slice none 0 0] (0,0) _ rfl (by (with_reducible repeat (first|refine blk_drewN ?_ _|refine blk_drew ?_|refine blk_alloc ?_ _));exact blk_puts6 (blk_up BK368.out)) Try.underlying33 rfl (by kernel_rfl)) rfl ?_
    exact ⟨_,_,_,_,er_,nl_,nl_,nl_,nl_,hb_⟩
  ·replace c13:=Bool.eq_false_iff.mpr c13
   subst c13
   have H1 : (some (0,0,([] : List Int),([] : List Int),([] : List Int),([] : List (S50)),2)) = some (r1,r2,r3,r4,r5,r6,r7):=by rw [if_neg (show ¬ (false = true) by decide)] at H;exact H
   clear H
   have H:=H1
   clear H1
   simp only [Option.some.injEq,Prod.mk.injEq] at H
   obtain ⟨rfl,rfl,rfl,rfl,rfl,rfl,rfl⟩:=H
   go_enter Try.func21,Try.ntmps21
   go_wp2_with (first|((with_reducible refine gate_dst (N:=4) rfl ?_);refine box_ev (N:=4) (cs:=#[.int .i64 a0_0,.int .i64 a0_1,.slice A0_2 l0_2.length c0_2,.slice A0_3 l0_3.length c0_3,.slice A0_4 l0_4.length c0_4,.slice A0_5 l0_5.length c0_5]) (t:=33) ?_;intro gb367 hg w61 hbox hb;have BK367:=Aside0.mk (hbox);have GW367 : Aside0 (w.heap.size ≤ gb367):=gsz hg;have GE367:=GW367;replace HB:=hbs hb;clear hb hbox hg)|((with_reducible refine gate_dst (N:=8) rfl ?_);refine box_ev (N:=8) (cs:=#[.int .i64 0,.int .i64 0,.slice none 0 0,.slice none 0 0,.slice none 0 0,.slice none 0 0]) (t:=33) ?_;intro gb368 hg w62 hbox hb;have BK368:=Aside0.mk (hbox);have GW368 : Aside0 (w.heap.size ≤ gb368):=gsz hg;have GE368:=GW368;have NB367_368:=nbl BK367 hg;have NB368_367:=nbr BK367 hg;replace BK367:=bkb BK367 hb;replace HB:=hbs hb;clear hb hbox hg;have hnb63:=NB367_368.out;have hnc63:=NB368_367.out;obtain ⟨_,_,_,_,_,_,_,_,_,_,_,_⟩:=cells6 BK367.out)|((with_reducible refine gate_callee (f:=18) rfl ?_);refine goesL_ (some 14) rfl rfl Try.func18 (by kernel_rfl) rfl #[.agg #[.int .i64 a0_0,.int .i64 a0_1,.slice A0_2 l0_2.length c0_2,.slice A0_3 l0_3.length c0_3,.slice A0_4 l0_4.length c0_4,.slice A0_5 l0_5.length c0_5]] rfl ga_ ?_;(with_reducible refine (lane_Validate.calls k a0_0 a0_1 _ _ l0_2 _ _ l0_3 _ _ l0_4 _ _ l0_5 t369 _ ?_ ?_ ?_ ?_ ?_ ?_ ?_ ?_ A5.out).mono ?_);exact cq HR0_2;exact HC0_2.out;exact cq HR0_3;exact HC0_3.out;exact cq HR0_4;exact HC0_4.out;exact cq HR0_5;exact HC0_5.out;rintro e w65 ⟨rfl,hb⟩;refine ⟨_,rfl,?_⟩;replace BK367:=bkb BK367 hb;replace BK368:=bkb BK368 hb;replace HB:=hbs hb;obtain ⟨_,_,_,_,_,_,_,_,_,_,_,_⟩:=cells6 BK367.out)|((with_reducible refine gate_callee (f:=37) rfl ?_);refine goesL_ (some 25) rfl rfl Try.func37 (by kernel_rfl) rfl #[.int .i64 a1,.int .i64 (wrap64 ((l0_5.length : Int) - 1))] rfl ga_ ?_;(with_reducible refine (lane_within.calls a1 (wrap64 ((l0_5.length : Int) - 1)) true _ A7.out).mono ?_);rintro e w' ⟨rfl,⟨nd,rfl⟩⟩;refine ⟨_,rfl,?_⟩;(try (rw [drewN_self w65];generalize hq_ : World.drewN w65 _ = w65;have n0_ : Aside0 (w65.heap[gb367]? = some (.cells #[.int .i64 a0_0,.int .i64 a0_1,.slice A0_2 l0_2.length c0_2,.slice A0_3 l0_3.length c0_3,.slice A0_4 l0_4.length c0_4,.slice A0_5 l0_5.length c0_5] 33 (0,0))):=⟨by rw [← hq_];exact (blk_up BK367.out)⟩;have n1_ : Aside0 (w65.heap[gb368]? = some (.cells #[.int .i64 0,.int .i64 0,.slice none 0 0,.slice none 0 0,.slice none 0 0,.slice none 0 0] 33 (0,0))):=⟨by rw [← hq_];exact (blk_up BK368.out)⟩;have n2_ : Aside0 (Below w.heap.size w w65):=⟨by rw [← hq_];exact (hb_)⟩;clear BK367 BK368 HB hq_;have BK367:=n0_;have BK368:=n1_;have HB:=n2_;clear n0_ n1_ n2_;obtain ⟨_,_,_,_,_,_,_,_,_,_,_,_⟩:=cells6 BK367.out));have p371 : 0 ≤ (a1 : Int):=of_decide_eq_true (by first|(with_reducible assumption)|assumption);have q371 : a1 < (l0_5.length : Int):=of_decide_eq_true (by first|(with_reducible assumption)|assumption);obtain ⟨ad371,e371,hx371_0,hx371_1,hx371_2,hx371_3,hx371_4⟩:=at_T50 HR0_5.out a1 p371 q371;cases e371;replace hx371_0:=(HB.out.cell (World.block_lt_of_cell? w _ hx371_0)).trans hx371_0;replace hx371_1:=(HB.out.cell (World.block_lt_of_cell? w _ hx371_1)).trans hx371_1;replace hx371_2:=(HB.out.cell (World.block_lt_of_cell? w _ hx371_2)).trans hx371_2;replace hx371_3:=(HB.out.cell (World.block_lt_of_cell? w _ hx371_3)).trans hx371_3;replace hx371_4:=(HB.out.cell (World.block_lt_of_cell? w _ hx371_4)).trans hx371_4;replace p371:=eq_true p371;replace q371:=eq_true q371)|((with_reducible refine gate_callee (f:=37) rfl ?_);refine goesL_ (some 47) rfl rfl Try.func37 (by kernel_rfl) rfl #[.int .i64 a2,.int .i64 (wrap64 ((wrap64 (a0_0 * a0_1)) - 1))] rfl ga_ ?_;(with_reducible refine (lane_within.calls a2 (wrap64 ((wrap64 (a0_0 * a0_1)) - 1)) false _ A12.out).mono ?_);rintro e w' ⟨rfl,⟨nd,rfl⟩⟩;refine ⟨_,rfl,?_⟩;(try (rw [drewN_self w65];generalize hq_ : World.drewN w65 _ = w65;have n0_ : Aside0 (w65.heap[gb367]? = some (.cells #[.int .i64 a0_0,.int .i64 a0_1,.slice A0_2 l0_2.length c0_2,.slice A0_3 l0_3.length c0_3,.slice A0_4 l0_4.length c0_4,.slice (some ad371) l0_5.length c0_5] 33 (0,0))):=⟨by rw [← hq_];exact (blk_up BK367.out)⟩;have n1_ : Aside0 (w65.heap[gb368]? = some (.cells #[.int .i64 0,.int .i64 0,.slice none 0 0,.slice none 0 0,.slice none 0 0,.slice none 0 0] 33 (0,0))):=⟨by rw [← hq_];exact (blk_up BK368.out)⟩;have n2_ : Aside0 (Below w.heap.size w w65):=⟨by rw [← hq_];exact (hb_)⟩;clear BK367 BK368 HB hq_;have BK367:=n0_;have BK368:=n1_;have HB:=n2_;clear n0_ n1_ n2_;obtain ⟨_,_,_,_,_,_,_,_,_,_,_,_⟩:=cells6 BK367.out));obtain ⟨_,_,_,_,_,_,_,_,_,_,_,_⟩:=cells6 BK368.out))
   refine bodyPost_ret (results_ct rfl _ _ gb368 33 #[.int .i64 0,.int .i64 0,.slice none 0 0,.slice none 0 0,.slice none 0 0,.slice none 0 0] (0,0) _ rfl (by (with_reducible repeat (first|refine blk_drewN ?_ _|refine blk_drew ?_|refine blk_alloc ?_ _));exact blk_puts6 (blk_up BK368.out)) Try.underlying33 rfl (by kernel_rfl)) rfl ?_
   exact ⟨_,_,_,_,er_,nl_,nl_,nl_,nl_,hb_⟩
 ·replace c8:=Bool.eq_false_iff.mpr c8
  subst c8
  have H1 : (some (0,0,([] : List Int),([] : List Int),([] : List Int),([] : List (S50)),2)) = some (r1,r2,r3,r4,r5,r6,r7):=by rw [if_neg (show ¬ (false = true) by decide)] at H;exact H
  clear H
  have H:=H1
  clear H1
  simp only [Option.some.injEq,Prod.mk.injEq] at H
  obtain ⟨rfl,rfl,rfl,rfl,rfl,rfl,rfl⟩:=H
  go_enter Try.func21,Try.ntmps21
  go_wp2_with (first|((with_reducible refine gate_dst (N:=4) rfl ?_);refine box_ev (N:=4) (cs:=#[.int .i64 a0_0,.int .i64 a0_1,.slice A0_2 l0_2.length c0_2,.slice A0_3 l0_3.length c0_3,.slice A0_4 l0_4.length c0_4,.slice A0_5 l0_5.length c0_5]) (t:=33) ?_;intro gb367 hg w75 hbox hb;have BK367:=Aside0.mk (hbox);have GW367 : Aside0 (w.heap.size ≤ gb367):=gsz hg;have GE367:=GW367;replace HB:=hbs hb;clear hb hbox hg)|((with_reducible refine gate_dst (N:=8) rfl ?_);refine box_ev (N:=8) (cs:=#[.int .i64 0,.int .i64 0,.slice none 0 0,.slice none 0 0,.slice none 0 0,.slice none 0 0]) (t:=33) ?_;intro gb368 hg w76 hbox hb;have BK368:=Aside0.mk (hbox);have GW368 : Aside0 (w.heap.size ≤ gb368):=gsz hg;have GE368:=GW368;have NB367_368:=nbl BK367 hg;have NB368_367:=nbr BK367 hg;replace BK367:=bkb BK367 hb;replace HB:=hbs hb;clear hb hbox hg;have hnb77:=NB367_368.out;have hnc77:=NB368_367.out;obtain ⟨_,_,_,_,_,_,_,_,_,_,_,_⟩:=cells6 BK367.out)|((with_reducible refine gate_callee (f:=18) rfl ?_);refine goesL_ (some 14) rfl rfl Try.func18 (by kernel_rfl) rfl #[.agg #[.int .i64 a0_0,.int .i64 a0_1,.slice A0_2 l0_2.length c0_2,.slice A0_3 l0_3.length c0_3,.slice A0_4 l0_4.length c0_4,.slice A0_5 l0_5.length c0_5]] rfl ga_ ?_;(with_reducible refine (lane_Validate.calls k a0_0 a0_1 _ _ l0_2 _ _ l0_3 _ _ l0_4 _ _ l0_5 t369 _ ?_ ?_ ?_ ?_ ?_ ?_ ?_ ?_ A5.out).mono ?_);exact cq HR0_2;exact HC0_2.out;exact cq HR0_3;exact HC0_3.out;exact cq HR0_4;exact HC0_4.out;exact cq HR0_5;exact HC0_5.out;rintro e w79 ⟨rfl,hb⟩;refine ⟨_,rfl,?_⟩;replace BK367:=bkb BK367 hb;replace BK368:=bkb BK368 hb;replace HB:=hbs hb;obtain ⟨_,_,_,_,_,_,_,_,_,_,_,_⟩:=cells6 BK367.out)|((with_reducible refine gate_callee (f:=37) rfl ?_);refine goesL_ (some 25) rfl rfl Try.func37 (by kernel_rfl) rfl #[.int .i64 a1,.int .i64 (wrap64 ((l0_5.length : Int) - 1))] rfl ga_ ?_;(with_reducible refine (lane_within.calls a1 (wrap64 ((l0_5.length : Int) - 1)) false _ A7.out).mono ?_);rintro e w' ⟨rfl,⟨nd,rfl⟩⟩;refine ⟨_,rfl,?_⟩;(try (rw [drewN_self w79];generalize hq_ : World.drewN w79 _ = w79;have n0_ : Aside0 (w79.heap[gb367]? = some (.cells #[.int .i64 a0_0,.int .i64 a0_1,.slice A0_2 l0_2.length c0_2,.slice A0_3 l0_3.length c0_3,.slice A0_4 l0_4.length c0_4,.slice A0_5 l0_5.length c0_5] 33 (0,0))):=⟨by rw [← hq_];exact (blk_up BK367.out)⟩;have n1_ : Aside0 (w79.heap[gb368]? = some (.cells #[.int .i64 0,.int .i64 0,.slice none 0 0,.slice none 0 0,.slice none 0 0,.slice none 0 0] 33 (0,0))):=⟨by rw [← hq_];exact (blk_up BK368.out)⟩;have n2_ : Aside0 (Below w.heap.size w w79):=⟨by rw [← hq_];exact (hb_)⟩;clear BK367 BK368 HB hq_;have BK367:=n0_;have BK368:=n1_;have HB:=n2_;clear n0_ n1_ n2_;obtain ⟨_,_,_,_,_,_,_,_,_,_,_,_⟩:=cells6 BK367.out));obtain ⟨_,_,_,_,_,_,_,_,_,_,_,_⟩:=cells6 BK368.out))
  refine bodyPost_ret (results_ct rfl _ _ gb368 33 #[.int .i64 0,.int .i64 0,.slice none 0 0,.slice none 0 0,.slice none 0 0,.slice none 0 0] (0,0) _ rfl (by (with_reducible repeat (first|refine blk_drewN ?_ _|refine blk_drew ?_|refine blk_alloc ?_ _));exact blk_puts6 (blk_up BK368.out)) Try.underlying33 rfl (by kernel_rfl)) rfl ?_
  exact ⟨_,_,_,_,er_,nl_,nl_,nl_,nl_,hb_⟩

end Go.Proofs.Ythjmdpekcleihaa.P

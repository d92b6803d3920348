/- Functions of this seat as plain Lean functions, with proofs that the Go code comes to just their answers, or what stands between them and a law's statement; no conditions. (Laid by a program of this session, out of the kit's print.) -/
import Derived.Test.YthjmdpekcleihaaPx0
import Derived.Test.YthjmdpekcleihaaPx1
import Derived.Test.YthjmdpekcleihaaPx15
import Derived.Test.YthjmdpekcleihaaPx16
namespace Go.Proofs.Ythjmdpekcleihaa.P
open Go.RowKit Go.Proofs.YthjmdpekcleihaaW.PrintWords Go.Proofs.YthjmdpekcleihaaW.PrintLast Go.Proofs.YthjmdpekcleihaaW.PrintMore
attribute [local go_sem] max2_int min2_int max_two min_two max_three min_three max_four min_four   -- for this text's walks alone
set_option linter.unusedVariables false
set_option linter.unusedSimpArgs false

attribute [local go_sem high] eqA50
/-! ### lane_copied: function 46 -/
def lane_copied.f (a0_0 : Int) (a0_1 : Int) (l0_2 : List Int) (l0_3 : List Int) (l0_4 : List Int) (l0_5 : List (S50)) : Option (Int × Int × List Int × List Int × List Int × (List (S50))) := (slices_Clone_int_int.f l0_2).bind fun t355 => ((slices_Clone_int_int.f l0_3).bind fun t358 => ((slices_Clone_int_int.f l0_4).bind fun t361 => ((api_Truck_70.f l0_5).bind fun t364 => (some (a0_0, a0_1, t355, t358, t361, t364)))))
def lane_copied.T1 : Bool × List (List Nat × List Nat) := (true, [([], []), ([0], [0]), ([1], [1]), ([2], [2]), ([], []), ([4], [4]), ([5], [5]), ([6, 3], [6]), ([0, 1, 2, 3, 4, 5, 6], []), ([8, 0, 1, 2, 3, 4, 5, 6], [8]), ([9, 3, 7, 0, 1, 2, 3, 4, 5, 6], [3, 9]), ([0, 1, 2, 3, 4, 5, 6, 7, 8, 9, 10], []), ([11, 0, 1, 2, 3, 4, 5, 6, 7, 8, 9, 10], [11]), ([12, 7, 10, 0, 1, 2, 3, 4, 5, 6, 7, 8, 9, 10], [7, 12])])
def lane_copied.B1 : List Nat := [0, 1, 3, 7, 0, 16, 48, 127, 127, 383, 1023, 2047, 4095, 8191]
theorem lane_copied.tab1 : rtab .any (opsOf Try.f46 1) = lane_copied.T1 := by kernel_rfl
theorem lane_copied.bits1 : waitsOk lane_copied.T1.2 lane_copied.B1 = true := by kernel_rfl
def lane_copied.T2 : Bool × List (List Nat × List Nat) := (true, [([], []), ([0], [0]), ([1], [1]), ([], []), ([3], [3]), ([4, 2], [4]), ([0, 1, 2, 3, 4], []), ([6, 2, 5, 0, 1, 2, 3, 4], [2, 6]), ([0, 1, 2, 3, 4, 5, 6, 7], []), ([8, 5, 7, 0, 1, 2, 3, 4, 5, 6, 7], [5, 8])])
def lane_copied.B2 : List Nat := [0, 1, 3, 0, 8, 31, 31, 127, 255, 511]
theorem lane_copied.tab2 : rtab .any (opsOf Try.f46 2) = lane_copied.T2 := by kernel_rfl
theorem lane_copied.bits2 : waitsOk lane_copied.T2.2 lane_copied.B2 = true := by kernel_rfl
set_option maxHeartbeats 8000000 in
set_option maxRecDepth 100000 in
theorem lane_copied.calls (a0_0 : Int) (a0_1 : Int) (A0_2 : Option Addr) (c0_2 : Nat) (l0_2 : List Int) (A0_3 : Option Addr) (c0_3 : Nat) (l0_3 : List Int) (A0_4 : Option Addr) (c0_4 : Nat) (l0_4 : List Int) (A0_5 : Option Addr) (c0_5 : Nat) (l0_5 : List (S50)) (r1 : Int) (r2 : Int) (r3 : List Int) (r4 : List Int) (r5 : List Int) (r6 : List (S50)) (w : World) (hr0_2 : Kd.C (Kd.int .i64) w A0_2 l0_2.length l0_2) (hc0_2 : l0_2.length ≤ c0_2) (hr0_3 : Kd.C (Kd.int .i64) w A0_3 l0_3.length l0_3) (hc0_3 : l0_3.length ≤ c0_3) (hr0_4 : Kd.C (Kd.int .i64) w A0_4 l0_4.length l0_4) (hc0_4 : l0_4.length ≤ c0_4) (hr0_5 : Kd.C k50 w A0_5 l0_5.length l0_5) (hc0_5 : l0_5.length ≤ c0_5) (h : lane_copied.f a0_0 a0_1 l0_2 l0_3 l0_4 l0_5 = some (r1, r2, r3, r4, r5, r6)) :
  Calls Try.prog 46 #[.agg #[.int .i64 a0_0,.int .i64 a0_1,.slice A0_2 l0_2.length c0_2,.slice A0_3 l0_3.length c0_3,.slice A0_4 l0_4.length c0_4,.slice A0_5 l0_5.length c0_5]] w fun e w' => ∃ v2_ v3_ v4_ v5_ : Value,e = .returned (.agg #[.int .i64 r1,.int .i64 r2,v2_,v3_,v4_,v5_]) ∧ Kd.R (Kd.int .i64) 3 w' w.heap.size (fun k_ => some k_ ≠ (v3_ : Value).ownBlock ∧ some k_ ≠ (v4_ : Value).ownBlock) v2_ r3 ∧ Kd.R (Kd.int .i64) 3 w' w.heap.size (fun k_ => some k_ ≠ (v2_ : Value).ownBlock ∧ some k_ ≠ (v4_ : Value).ownBlock) v3_ r4 ∧ Kd.R (Kd.int .i64) 3 w' w.heap.size (fun k_ => some k_ ≠ (v2_ : Value).ownBlock ∧ some k_ ≠ (v3_ : Value).ownBlock) v4_ r5 ∧ Kd.R k50 50 w' w.heap.size (fun _ => True) v5_ r6 ∧ Below w.heap.size w w':=by
 have hu33:=Try.underlying33
 have HR0_2:=Aside0.mk hr0_2
 have HC0_2:=Aside0.mk hc0_2
 clear hr0_2 hc0_2
 have HR0_3:=Aside0.mk hr0_3
 have HC0_3:=Aside0.mk hc0_3
 clear hr0_3 hc0_3
 have HR0_4:=Aside0.mk hr0_4
 have HC0_4:=Aside0.mk hc0_4
 clear hr0_4 hc0_4
 have HR0_5:=Aside0.mk hr0_5
 have HC0_5:=Aside0.mk hc0_5
 clear hr0_5 hc0_5
 have HB:=Aside0.mk (Below.refl w.heap.size w)
 have H : ((slices_Clone_int_int.f l0_2).bind fun t355 => ((slices_Clone_int_int.f l0_3).bind fun t358 => ((slices_Clone_int_int.f l0_4).bind fun t361 => ((api_Truck_70.f l0_5).bind fun t364 => (some (a0_0,a0_1,t355,t358,t361,t364)))))) = some (r1,r2,r3,r4,r5,r6):=h
 clear h
 replace H:=Option.bind_eq_some_iff.mp H
 obtain ⟨t355,A20,H⟩:=H
 replace H : ((slices_Clone_int_int.f l0_3).bind fun t358 => ((slices_Clone_int_int.f l0_4).bind fun t361 => ((api_Truck_70.f l0_5).bind fun t364 => (some (a0_0,a0_1,t355,t358,t361,t364))))) = some (r1,r2,r3,r4,r5,r6):=H
 have A2:=Aside0.mk A20
 clear A20
 replace H:=Option.bind_eq_some_iff.mp H
 obtain ⟨t358,A30,H⟩:=H
 replace H : ((slices_Clone_int_int.f l0_4).bind fun t361 => ((api_Truck_70.f l0_5).bind fun t364 => (some (a0_0,a0_1,t355,t358,t361,t364)))) = some (r1,r2,r3,r4,r5,r6):=H
 have A3:=Aside0.mk A30
 clear A30
 replace H:=Option.bind_eq_some_iff.mp H
 obtain ⟨t361,A40,H⟩:=H
 replace H : ((api_Truck_70.f l0_5).bind fun t364 => (some (a0_0,a0_1,t355,t358,t361,t364))) = some (r1,r2,r3,r4,r5,r6):=H
 have A4:=Aside0.mk A40
 clear A40
 replace H:=Option.bind_eq_some_iff.mp H
 obtain ⟨t364,A50,H⟩:=H
 replace H : (some (a0_0,a0_1,t355,t358,t361,t364)) = some (r1,r2,r3,r4,r5,r6):=H
 have A5:=Aside0.mk A50
 clear A50
 simp only [Option.some.injEq,Prod.mk.injEq] at H
 obtain ⟨rfl,rfl,rfl,rfl,rfl,rfl⟩:=H
 go_enter Try.func46,Try.ntmps46
 try go_wp2_with (first|((with_reducible refine gate_dst (N:=1) rfl ?_);refine box_ev (N:=1) (cs:=#[.int .i64 a0_0,.int .i64 a0_1,.slice A0_2 l0_2.length c0_2,.slice A0_3 l0_3.length c0_3,.slice A0_4 l0_4.length c0_4,.slice A0_5 l0_5.length c0_5]) (t:=33) ?_;intro gb353 hg w6 hbox hb;have BK353:=Aside0.mk (hbox);have GW353 : Aside0 (w.heap.size ≤ gb353):=gsz hg;have GE353:=GW353;replace HB:=hbs hb;clear hb hbox hg)|((with_reducible refine gate_dst (N:=2) rfl ?_);refine box_ev (N:=2) (cs:=#[.int .i64 0,.int .i64 0,.slice none 0 0,.slice none 0 0,.slice none 0 0,.slice none 0 0]) (t:=33) ?_;intro gb354 hg w7 hbox hb;have BK354:=Aside0.mk (hbox);have GW354 : Aside0 (w.heap.size ≤ gb354):=gsz hg;have GE354:=GW354;have NB353_354:=nbl BK353 hg;have NB354_353:=nbr BK353 hg;replace BK353:=bkb BK353 hb;replace HB:=hbs hb;clear hb hbox hg))
 replace BK353:=Aside0.mk (blk_drew BK353.out)
 replace BK354:=Aside0.mk (blk_drew BK354.out)
 replace HB:=Aside0.mk (below_drew1 HB.out)
 refine start_ (n:=14) (S:=fun w' => w'.cell? ⟨gb353,0,none⟩ = some (.int .i64 a0_0) ∧ w'.cell? ⟨gb353,1,none⟩ = some (.int .i64 a0_1) ∧ w'.cell? ⟨gb353,2,none⟩ = some (.slice A0_2 l0_2.length c0_2) ∧ w'.cell? ⟨gb353,3,none⟩ = some (.slice A0_3 l0_3.length c0_3) ∧ w'.cell? ⟨gb353,4,none⟩ = some (.slice A0_4 l0_4.length c0_4) ∧ w'.cell? ⟨gb353,5,none⟩ = some (.slice A0_5 l0_5.length c0_5)) (ds:=[10,13]) #[false,false,false,false,false,false,false,false,false,false,false,false,false,false] (by kernel_rfl) rfl rfl ⟨(blk_cell BK353.out 0).trans rfl,(blk_cell BK353.out 1).trans rfl,(blk_cell BK353.out 2).trans rfl,(blk_cell BK353.out 3).trans rfl,(blk_cell BK353.out 4).trans rfl,(blk_cell BK353.out 5).trans rfl⟩ (fun hHeld => ?_);refine with_tabW lane_copied.tab1 lane_copied.bits1 (fun HT_ HW_ => ?_)
 generalize w7.drew = w8 at BK353 BK354 HB hHeld ⊢
 refine pI 0 (some 3) ?_
 refine pI 1 (some 4) ?_
 refine pI 4 (some 7) ?_
 refine pI 5 (some 8) ?_
 refine tI6 2 (some 5) hHeld ?_
 refine tI6 6 (some 9) hHeld ?_
 refine oI 3 (some 6) (fun K hK => ?_)
 refine goes_ Try.func69 (by kernel_rfl) rfl #[.slice A0_2 l0_2.length c0_2] (by rfl) rfl rfl ga_ ?_
 with_reducible refine (slices_Clone_int_int.calls _ _ l0_2 t355 _ ?side1 ?side2 A2.out).mono ?_
 (case side1 => exact cq HR0_2)
 (case side2 => exact HC0_2.out)
 rintro e w9 ⟨v356,rfl,ho0,hb⟩
 refine ⟨_,rfl,?_⟩
 have n0_:=rlo ho0
 have n1_:=bkb BK353 hb
 have n2_:=bkb BK354 hb
 have n3_:=Aside0.mk (below_step (hb_) hb)
 clear BK353
 clear BK354
 clear HB
 have HO357:=n0_
 have BK353:=n1_
 have BK354:=n2_
 have HB:=n3_
 clear n0_ n1_ n2_ n3_
 (try clear hb)
 (try clear hb2)
 (try clear hk)
 (try clear hi)
 (try clear ho0)
 refine hK.out _ _ ⟨(blk_cell BK353.out 0).trans rfl,(blk_cell BK353.out 1).trans rfl,(blk_cell BK353.out 2).trans rfl,(blk_cell BK353.out 3).trans rfl,(blk_cell BK353.out 4).trans rfl,(blk_cell BK353.out 5).trans rfl⟩ (fun hHeld => ?_)
 clear hK K
 refine norm_ (a':=?_) ?_ ?_
 rotate_left
 ·show Act.put _ (some 6) _ = _
  simp only [Act.put,List.setIfInBounds_toArray,List.set_cons_zero,List.set_cons_succ,i64_w,i32_w]
  rfl
 refine pI 8 (some 11) ?_
 refine pI 9 (some 12) ?_
 refine oI 7 (some 10) (fun K hK => ?_)
 refine goes_ Try.func69 (by kernel_rfl) rfl #[.slice A0_3 l0_3.length c0_3] (by rfl) rfl rfl ga_ ?_
 with_reducible refine (slices_Clone_int_int.calls _ _ l0_3 t358 _ ?side1 ?side2 A3.out).mono ?_
 (case side1 => exact cq HR0_3)
 (case side2 => exact HC0_3.out)
 rintro e w10 ⟨v359,rfl,ho0,hb⟩
 refine ⟨_,rfl,?_⟩
 have n0_:=Aside0.mk (Kd.R_elder' (Kd.R_up HO357.out) (Kd.R_base ho0) hb)
 have n1_:=Aside0.mk (Kd.R_lower (Kd.R_new' ho0 (Kd.R_lt (Kd.R_up HO357.out))) (below_size (hb_)))
 have n2_:=bkb BK353 hb
 have n3_:=bkb BK354 hb
 have n4_:=Aside0.mk (below_step (hb_) hb)
 clear HO357
 clear BK353
 clear BK354
 clear HB
 have HO357:=n0_
 have HO360:=n1_
 have BK353:=n2_
 have BK354:=n3_
 have HB:=n4_
 clear n0_ n1_ n2_ n3_ n4_
 (try clear hb)
 (try clear hb2)
 (try clear hk)
 (try clear hi)
 (try clear ho0)
 obtain ⟨Ao11,co11,eo11⟩:=Kd.R_slice HO357.out
 (first|subst eo11|(injection eo11 with f1_ f2_ f3_;have f4_:=f1_.symm;have f5_:=f3_.symm;clear f1_ f2_ f3_;subst f4_;subst f5_))
 obtain ⟨Ao13,co13,eo13⟩:=Kd.R_slice HO360.out
 (first|subst eo13|(injection eo13 with f1_ f2_ f3_;have f4_:=f1_.symm;have f5_:=f3_.symm;clear f1_ f2_ f3_;subst f4_;subst f5_))
 refine hK.out _ _ ⟨(blk_cell BK353.out 0).trans rfl,(blk_cell BK353.out 1).trans rfl,(blk_cell BK353.out 2).trans rfl,(blk_cell BK353.out 3).trans rfl,(blk_cell BK353.out 4).trans rfl,(blk_cell BK353.out 5).trans rfl⟩ (fun hHeld => ?_)
 clear hK K
 refine norm_ (a':=?_) ?_ ?_
 rotate_left
 ·show Act.put _ (some 10) _ = _
  simp only [Act.put,List.setIfInBounds_toArray,List.set_cons_zero,List.set_cons_succ,i64_w,i32_w]
  rfl
 refine last_ (i:=10) (N:=none) #[true,true,true,true,true,true,true,true,true,true,true,false,false,false] rfl rfl (one_of HT_.out (by kernel_rfl)) (by decide) (fun K hK => ?_)
 have hs12 : w10.cell? ⟨gb353,2,none⟩ = some (.slice A0_2 l0_2.length c0_2):=(blk_cell BK353.out 2).trans rfl
 have hfs12:=blk_frozen BK353.out 2
 have hns12_1:=NB354_353.out
 have hms12_1:=NB353_354.out
 refine skip_ (w1:=?_) (by rfl) rfl ?_ ?_
 rotate_left
 ·go_simp
  rfl
 refine hK.out _ _ ?_
 clear hK K
 refine pI 11 (some 13) ?_
 refine pI 12 (some 14) ?_
 refine last_ (i:=13) (N:=none) #[true,true,true,true,true,true,true,true,true,true,true,true,true,true] rfl rfl (one_of HT_.out (by kernel_rfl)) (by decide) (fun K hK => ?_)
 have hs14 : w10.cell? ⟨gb353,3,none⟩ = some (.slice A0_3 l0_3.length c0_3):=(blk_cell BK353.out 3).trans rfl
 have hfs14:=blk_frozen BK353.out 3
 have hns14_1:=NB354_353.out
 have hms14_1:=NB353_354.out
 refine skip_ (w1:=?_) (by rfl) rfl ?_ ?_
 rotate_left
 ·go_simp
  rfl
 refine hK.out _ _ ?_
 clear hK K
 refine done_ (done_of HT_.out (by kernel_rfl)) ?_
 try go_wp2
 have n0_ : Aside0 (Kd.R (Kd.int .i64) 3 ((w10.setCell ⟨gb353,2,none⟩ (.slice Ao11 t355.length co11)).setCell ⟨gb353,3,none⟩ (.slice Ao13 t358.length co13)) w.heap.size (fun k_ => some k_ ≠ (.slice Ao13 t358.length co13 : Value).ownBlock) (.slice Ao11 t355.length co11) t355):=⟨by (with_reducible repeat (first|apply Kd.R_alloc|apply Kd.R_drewN|apply Kd.R_drew));exact Kd.R_mono (Kd.R_fars gb353 (Kd.R_types HO357.out BK353.out (by decide)) (fun _ hk => hk.2)) (fun _ hk => hk.1.2)⟩
 have n1_ : Aside0 (Kd.R (Kd.int .i64) 3 ((w10.setCell ⟨gb353,2,none⟩ (.slice Ao11 t355.length co11)).setCell ⟨gb353,3,none⟩ (.slice Ao13 t358.length co13)) w.heap.size (fun k_ => some k_ ≠ (.slice Ao11 t355.length co11 : Value).ownBlock) (.slice Ao13 t358.length co13) t358):=⟨by (with_reducible repeat (first|apply Kd.R_alloc|apply Kd.R_drewN|apply Kd.R_drew));exact Kd.R_mono (Kd.R_fars gb353 (Kd.R_types HO360.out BK353.out (by decide)) (fun _ hk => hk.2)) (fun _ hk => hk.1.2)⟩
 have n2_ : Aside0 (((w10.setCell ⟨gb353,2,none⟩ (.slice Ao11 t355.length co11)).setCell ⟨gb353,3,none⟩ (.slice Ao13 t358.length co13)).heap[gb353]? = some (.cells #[.int .i64 a0_0,.int .i64 a0_1,.slice Ao11 t355.length co11,.slice Ao13 t358.length co13,.slice A0_4 l0_4.length c0_4,.slice A0_5 l0_5.length c0_5] 33 (0,0))):=⟨by (with_reducible repeat (first|refine blk_drewN ?_ _|refine blk_drew ?_|refine blk_alloc ?_ _));refine blk_put (cs:=#[.int .i64 a0_0,.int .i64 a0_1,.slice Ao11 t355.length co11,.slice A0_3 l0_3.length c0_3,.slice A0_4 l0_4.length c0_4,.slice A0_5 l0_5.length c0_5]) ?_ 3 _ rfl;(with_reducible repeat (first|refine blk_drewN ?_ _|refine blk_drew ?_|refine blk_alloc ?_ _));refine blk_put (cs:=#[.int .i64 a0_0,.int .i64 a0_1,.slice A0_2 l0_2.length c0_2,.slice A0_3 l0_3.length c0_3,.slice A0_4 l0_4.length c0_4,.slice A0_5 l0_5.length c0_5]) ?_ 2 _ rfl;(with_reducible repeat (first|refine blk_drewN ?_ _|refine blk_drew ?_|refine blk_alloc ?_ _));exact BK353.out⟩
 have n3_ : Aside0 (((w10.setCell ⟨gb353,2,none⟩ (.slice Ao11 t355.length co11)).setCell ⟨gb353,3,none⟩ (.slice Ao13 t358.length co13)).heap[gb354]? = some (.cells #[.int .i64 0,.int .i64 0,.slice none 0 0,.slice none 0 0,.slice none 0 0,.slice none 0 0] 33 (0,0))):=⟨by (with_reducible repeat (first|refine blk_drewN ?_ _|refine blk_drew ?_|refine blk_alloc ?_ _));refine blk_far ?_ NB354_353.out _;(with_reducible repeat (first|refine blk_drewN ?_ _|refine blk_drew ?_|refine blk_alloc ?_ _));refine blk_far ?_ NB354_353.out _;(with_reducible repeat (first|refine blk_drewN ?_ _|refine blk_drew ?_|refine blk_alloc ?_ _));exact BK354.out⟩
 have n4_ : Aside0 (Below w.heap.size w ((w10.setCell ⟨gb353,2,none⟩ (.slice Ao11 t355.length co11)).setCell ⟨gb353,3,none⟩ (.slice Ao13 t358.length co13))):=⟨hb_⟩
 (try clear HO357)
 (try clear HO360)
 (try clear BK353)
 (try clear BK354)
 (try clear HB)
 generalize ((w10.setCell ⟨gb353,2,none⟩ (.slice Ao11 t355.length co11)).setCell ⟨gb353,3,none⟩ (.slice Ao13 t358.length co13)) = w15 at n0_ n1_ n2_ n3_ n4_ ⊢
 have HO357:=n0_
 have HO360:=n1_
 have BK353:=n2_
 have BK354:=n3_
 have HB:=n4_
 clear n0_ n1_ n2_ n3_ n4_
 replace HO357:=Aside0.mk (Kd.R_drew HO357.out)
 replace HO360:=Aside0.mk (Kd.R_drew HO360.out)
 replace BK353:=Aside0.mk (blk_drew BK353.out)
 replace BK354:=Aside0.mk (blk_drew BK354.out)
 replace HB:=Aside0.mk (below_drew1 HB.out)
 refine start_ (n:=10) (S:=fun w' => w'.cell? ⟨gb353,0,none⟩ = some (.int .i64 a0_0) ∧ w'.cell? ⟨gb353,1,none⟩ = some (.int .i64 a0_1) ∧ w'.cell? ⟨gb353,2,none⟩ = some (.slice Ao11 t355.length co11) ∧ w'.cell? ⟨gb353,3,none⟩ = some (.slice Ao13 t358.length co13) ∧ w'.cell? ⟨gb353,4,none⟩ = some (.slice A0_4 l0_4.length c0_4) ∧ w'.cell? ⟨gb353,5,none⟩ = some (.slice A0_5 l0_5.length c0_5)) (ds:=[7,9]) #[false,false,false,false,false,false,false,false,false,false] (by kernel_rfl) rfl rfl ⟨(blk_cell BK353.out 0).trans rfl,(blk_cell BK353.out 1).trans rfl,(blk_cell BK353.out 2).trans rfl,(blk_cell BK353.out 3).trans rfl,(blk_cell BK353.out 4).trans rfl,(blk_cell BK353.out 5).trans rfl⟩ (fun hHeld => ?_);refine with_tabW lane_copied.tab2 lane_copied.bits2 (fun HT_ HW_ => ?_)
 generalize w15.drew = w16 at HO357 HO360 BK353 BK354 HB HO357 HO360 hHeld ⊢
 refine pI 0 (some 15) ?_
 refine pI 3 (some 18) ?_
 refine tI6 1 (some 16) hHeld ?_
 refine tI6 4 (some 19) hHeld ?_
 refine oI 2 (some 17) (fun K hK => ?_)
 refine goes_ Try.func69 (by kernel_rfl) rfl #[.slice A0_4 l0_4.length c0_4] (by rfl) rfl rfl ga_ ?_
 with_reducible refine (slices_Clone_int_int.calls _ _ l0_4 t361 _ ?side1 ?side2 A4.out).mono ?_
 (case side1 => exact cq HR0_4)
 (case side2 => exact HC0_4.out)
 rintro e w17 ⟨v362,rfl,ho0,hb⟩
 refine ⟨_,rfl,?_⟩
 have n0_:=Aside0.mk (Kd.R_elder' (Kd.R_up HO357.out) (Kd.R_base ho0) hb)
 have n1_:=Aside0.mk (Kd.R_elder' (Kd.R_up HO360.out) (Kd.R_base ho0) hb)
 have n2_:=Aside0.mk (Kd.R_lower (Kd.R_new' (Kd.R_new' ho0 (Kd.R_lt (Kd.R_up HO357.out))) (Kd.R_lt (Kd.R_up HO360.out))) (below_size (hb_)))
 have n3_:=bkb BK353 hb
 have n4_:=bkb BK354 hb
 have n5_:=Aside0.mk (below_step (hb_) hb)
 clear HO357
 clear HO360
 clear BK353
 clear BK354
 clear HB
 have HO357:=n0_
 have HO360:=n1_
 have HO363:=n2_
 have BK353:=n3_
 have BK354:=n4_
 have HB:=n5_
 clear n0_ n1_ n2_ n3_ n4_ n5_
 (try clear hb)
 (try clear hb2)
 (try clear hk)
 (try clear hi)
 (try clear ho0)
 refine hK.out _ _ ⟨(blk_cell BK353.out 0).trans rfl,(blk_cell BK353.out 1).trans rfl,(blk_cell BK353.out 2).trans rfl,(blk_cell BK353.out 3).trans rfl,(blk_cell BK353.out 4).trans rfl,(blk_cell BK353.out 5).trans rfl⟩ (fun hHeld => ?_)
 clear hK K
 refine norm_ (a':=?_) ?_ ?_
 rotate_left
 ·show Act.put _ (some 17) _ = _
  simp only [Act.put,List.setIfInBounds_toArray,List.set_cons_zero,List.set_cons_succ,i64_w,i32_w]
  rfl
 refine pI 6 (some 21) ?_
 refine oI 5 (some 20) (fun K hK => ?_)
 refine goes_ Try.func70 (by kernel_rfl) rfl #[.slice A0_5 l0_5.length c0_5] (by rfl) rfl rfl ga_ ?_
 with_reducible refine (api_Truck_70.calls _ _ l0_5 t364 _ ?side1 ?side2 A5.out).mono ?_
 (case side1 => exact cq HR0_5)
 (case side2 => exact HC0_5.out)
 rintro e w18 ⟨v365,rfl,ho0,hb⟩
 refine ⟨_,rfl,?_⟩
 have n0_:=rbw HO357 hb
 have n1_:=rbw HO360 hb
 have n2_:=rbw HO363 hb
 have n3_:=rlo ho0
 have n4_:=bkb BK353 hb
 have n5_:=bkb BK354 hb
 have n6_:=Aside0.mk (below_step (hb_) hb)
 clear HO357
 clear HO360
 clear HO363
 clear BK353
 clear BK354
 clear HB
 have HO357:=n0_
 have HO360:=n1_
 have HO363:=n2_
 have HO366:=n3_
 have BK353:=n4_
 have BK354:=n5_
 have HB:=n6_
 clear n0_ n1_ n2_ n3_ n4_ n5_ n6_
 (try clear hb)
 (try clear hb2)
 (try clear hk)
 (try clear hi)
 (try clear ho0)
 obtain ⟨Ao19,co19,eo19⟩:=Kd.R_slice HO363.out
 (first|subst eo19|(injection eo19 with f1_ f2_ f3_;have f4_:=f1_.symm;have f5_:=f3_.symm;clear f1_ f2_ f3_;subst f4_;subst f5_))
 obtain ⟨Ao21,co21,eo21⟩:=Kd.R_slice HO366.out
 (first|subst eo21|(injection eo21 with f1_ f2_ f3_;have f4_:=f1_.symm;have f5_:=f3_.symm;clear f1_ f2_ f3_;subst f4_;subst f5_))
 refine hK.out _ _ ⟨(blk_cell BK353.out 0).trans rfl,(blk_cell BK353.out 1).trans rfl,(blk_cell BK353.out 2).trans rfl,(blk_cell BK353.out 3).trans rfl,(blk_cell BK353.out 4).trans rfl,(blk_cell BK353.out 5).trans rfl⟩ (fun hHeld => ?_)
 clear hK K
 refine norm_ (a':=?_) ?_ ?_
 rotate_left
 ·show Act.put _ (some 20) _ = _
  simp only [Act.put,List.setIfInBounds_toArray,List.set_cons_zero,List.set_cons_succ,i64_w,i32_w]
  rfl
 refine last_ (i:=7) (N:=none) #[true,true,true,true,true,true,true,true,false,false] rfl rfl (one_of HT_.out (by kernel_rfl)) (by decide) (fun K hK => ?_)
 have hs20 : w18.cell? ⟨gb353,4,none⟩ = some (.slice A0_4 l0_4.length c0_4):=(blk_cell BK353.out 4).trans rfl
 have hfs20:=blk_frozen BK353.out 4
 have hns20_1:=NB354_353.out
 have hms20_1:=NB353_354.out
 refine skip_ (w1:=?_) (by rfl) rfl ?_ ?_
 rotate_left
 ·go_simp
  rfl
 refine hK.out _ _ ?_
 clear hK K
 refine pI 8 (some 22) ?_
 refine last_ (i:=9) (N:=none) #[true,true,true,true,true,true,true,true,true,true] rfl rfl (one_of HT_.out (by kernel_rfl)) (by decide) (fun K hK => ?_)
 have hs22 : w18.cell? ⟨gb353,5,none⟩ = some (.slice A0_5 l0_5.length c0_5):=(blk_cell BK353.out 5).trans rfl
 have hfs22:=blk_frozen BK353.out 5
 have hns22_1:=NB354_353.out
 have hms22_1:=NB353_354.out
 refine skip_ (w1:=?_) (by rfl) rfl ?_ ?_
 rotate_left
 ·go_simp
  rfl
 refine hK.out _ _ ?_
 clear hK K
 refine done_ (done_of HT_.out (by kernel_rfl)) ?_
 have hnb23:=NB353_354.out
 have hnc23:=NB354_353.out
 obtain ⟨_,_,_,_,_,_,_,_,_,_,_,_⟩:=cells6 BK353.out
 obtain ⟨_,_,_,_,_,_,_,_,_,_,_,_⟩:=cells6 BK354.out
 try go_wp2
 refine bodyPost_ret (results_cell_row rfl _ _ gb354 33 #[.int .i64 a0_0,.int .i64 a0_1,.slice Ao11 t355.length co11,.slice Ao13 t358.length co13,.slice Ao19 t361.length co19,.slice Ao21 t364.length co21] (0,0) _ rfl (by (with_reducible repeat (first|refine blk_drewN ?_ _|refine blk_drew ?_|refine blk_alloc ?_ _));refine blk_put (cs:=#[.int .i64 a0_0,.int .i64 a0_1,.slice Ao11 t355.length co11,.slice Ao13 t358.length co13,.slice Ao19 t361.length co19,.slice none 0 0]) ?_ 5 _ rfl;(with_reducible repeat (first|refine blk_drewN ?_ _|refine blk_drew ?_|refine blk_alloc ?_ _));refine blk_put (cs:=#[.int .i64 a0_0,.int .i64 a0_1,.slice Ao11 t355.length co11,.slice Ao13 t358.length co13,.slice none 0 0,.slice none 0 0]) ?_ 4 _ rfl;(with_reducible repeat (first|refine blk_drewN ?_ _|refine blk_drew ?_|refine blk_alloc ?_ _));refine blk_put (cs:=#[.int .i64 a0_0,.int .i64 a0_1,.slice Ao11 t355.length co11,.slice none 0 0,.slice none 0 0,.slice none 0 0]) ?_ 3 _ rfl;(with_reducible repeat (first|refine blk_drewN ?_ _|refine blk_drew ?_|refine blk_alloc ?_ _));refine blk_put (cs:=#[.int .i64 a0_0,.int .i64 a0_1,.slice none 0 0,.slice none 0 0,.slice none 0 0,.slice none 0 0]) ?_ 2 _ rfl;(with_reducible repeat (first|refine blk_drewN ?_ _|refine blk_drew ?_|refine blk_alloc ?_ _));refine blk_put (cs:=#[.int .i64 a0_0,.int .i64 0,.slice none 0 0,.slice none 0 0,.slice none 0 0,.slice none 0 0]) ?_ 1 _ rfl;(with_reducible repeat (first|refine blk_drewN ?_ _|refine blk_drew ?_|refine blk_alloc ?_ _));refine blk_put (cs:=#[.int .i64 0,.int .i64 0,.slice none 0 0,.slice none 0 0,.slice none 0 0,.slice none 0 0]) ?_ 0 _ rfl;(with_reducible repeat (first|refine blk_drewN ?_ _|refine blk_drew ?_|refine blk_alloc ?_ _));refine blk_far ?_ NB354_353.out _;(with_reducible repeat (first|refine blk_drewN ?_ _|refine blk_drew ?_|refine blk_alloc ?_ _));refine blk_far ?_ NB354_353.out _;(with_reducible repeat (first|refine blk_drewN ?_ _|refine blk_drew ?_|refine blk_alloc ?_ _));exact BK354.out) Try.underlying33 rfl (by kernel_rfl)) rfl ?_
 exact ⟨_,_,_,_,er_,by (with_reducible repeat (first|apply Kd.R_alloc|apply Kd.R_drewN|apply Kd.R_drew));exact Kd.R_mono (Kd.R_fars gb354 (Kd.R_far (p:=⟨gb353,5,none⟩) (Kd.R_far (p:=⟨gb353,4,none⟩) (Kd.R_types (Kd.R_types HO357.out BK353.out (by decide)) BK354.out (by decide)) (fun _ hk => hk.1.2) (.slice Ao19 t361.length co19)) (fun _ hk => hk.1.2) (.slice Ao21 t364.length co21)) (fun _ hk => hk.2)) (fun _ hk => ⟨hk.1.1.1,hk.1.1.2⟩),by (with_reducible repeat (first|apply Kd.R_alloc|apply Kd.R_drewN|apply Kd.R_drew));exact Kd.R_mono (Kd.R_fars gb354 (Kd.R_far (p:=⟨gb353,5,none⟩) (Kd.R_far (p:=⟨gb353,4,none⟩) (Kd.R_types (Kd.R_types HO360.out BK353.out (by decide)) BK354.out (by decide)) (fun _ hk => hk.1.2) (.slice Ao19 t361.length co19)) (fun _ hk => hk.1.2) (.slice Ao21 t364.length co21)) (fun _ hk => hk.2)) (fun _ hk => ⟨hk.1.1.1,hk.1.1.2⟩),by (with_reducible repeat (first|apply Kd.R_alloc|apply Kd.R_drewN|apply Kd.R_drew));exact Kd.R_mono (Kd.R_fars gb354 (Kd.R_far (p:=⟨gb353,5,none⟩) (Kd.R_far (p:=⟨gb353,4,none⟩) (Kd.R_types (Kd.R_types HO363.out BK353.out (by decide)) BK354.out (by decide)) (fun _ hk => hk.1.2) (.slice Ao19 t361.length co19)) (fun _ hk => hk.1.2) (.slice Ao21 t364.length co21)) (fun _ hk => hk.2)) (fun _ hk => ⟨hk.1.1.1.2,hk.1.1.2⟩),by (with_reducible repeat (first|apply Kd.R_alloc|apply Kd.R_drewN|apply Kd.R_drew));exact Kd.R_mono (Kd.R_fars gb354 (Kd.R_far (p:=⟨gb353,5,none⟩) (Kd.R_far (p:=⟨gb353,4,none⟩) (Kd.R_types (Kd.R_types HO366.out BK353.out (by decide)) BK354.out (by decide)) (fun _ hk => hk.1.2) (.slice Ao19 t361.length co19)) (fun _ hk => hk.1.2) (.slice Ao21 t364.length co21)) (fun _ hk => hk.2)) (fun _ hk => trivial),hb_⟩

/-! ### hinterlandsame_List_int: function 28 -/
def hinterlandsame_List_int.l0 : Nat → List Int → List Int → Int → Option (Bool)
 | 0,_,_,_ => none
 | k + 1,x0,x1,x5 => if x5 < (x0.length : Int) then (if 0 ≤ x5 then (if x5 < (x1.length : Int) then (if (rd x0 x5) = (rd x1 x5) then (hinterlandsame_List_int.l0 k x0 x1 (wrap64 (x5 + 1))) else (some false)) else (none)) else (none)) else (some true)
def hinterlandsame_List_int.f (k : Nat) (l0 : List Int) (l1 : List Int) : Option (Bool) := if (l0.length : Int) = (l1.length : Int) then (hinterlandsame_List_int.l0 k l0 l1 0) else (some false)
theorem hinterlandsame_List_int.mono_l : ∀ k, (∀ y0 y1 y2, LeO (hinterlandsame_List_int.l0 k y0 y1 y2) (hinterlandsame_List_int.l0 (k + 1) y0 y1 y2))
 | 0 => fun _ _ _ r h => by simp [hinterlandsame_List_int.l0] at h
 | k + 1 => by
  have ih0:=hinterlandsame_List_int.mono_l k
  ·intro y0 y1 y2
   unfold hinterlandsame_List_int.l0
   repeat' first
   | (with_reducible exact ih0 _ _ _)
   | (with_reducible exact LeO.refl _)
   | (with_reducible exact LeO.none _)
   | (with_reducible refine LeO.ite ?_ ?_)
   | (with_reducible refine LeO.bind ?_ (fun _ => ?_))
   | exact ih0 _ _ _
   | exact LeO.none _
   | refine LeO.ite ?_ ?_
   | refine LeO.bind ?_ (fun _ => ?_)
theorem hinterlandsame_List_int.mono : ∀ a0 a1 k, LeO (hinterlandsame_List_int.f k a0 a1) (hinterlandsame_List_int.f (k + 1) a0 a1) := by
 intro a0 a1 k
 have ih0:=hinterlandsame_List_int.mono_l k
 unfold hinterlandsame_List_int.f
 repeat' first
   | (with_reducible exact ih0 _ _ _)
   | (with_reducible exact LeO.refl _)
   | (with_reducible exact LeO.none _)
   | (with_reducible refine LeO.ite ?_ ?_)
   | (with_reducible refine LeO.bind ?_ (fun _ => ?_))
   | exact ih0 _ _ _
   | exact LeO.none _
   | refine LeO.ite ?_ ?_
   | refine LeO.bind ?_ (fun _ => ?_)
set_option maxHeartbeats 8000000 in
set_option maxRecDepth 100000 in
theorem hinterlandsame_List_int.calls (k : Nat) (A0 : Option Addr) (c0 : Nat) (l0 : List Int) (A1 : Option Addr) (c1 : Nat) (l1 : List Int) (r : Bool) (w : World) (hr0 : Kd.C (Kd.int .i64) w A0 l0.length l0) (hc0 : l0.length ≤ c0) (hr1 : Kd.C (Kd.int .i64) w A1 l1.length l1) (hc1 : l1.length ≤ c1) (h : hinterlandsame_List_int.f k l0 l1 = some r) :
  Calls Try.prog 28 #[.slice A0 l0.length c0,.slice A1 l1.length c1] w fun e w' => e = .returned (.bool r) ∧ Drawn0 w w':=by
 have HR0:=Aside0.mk hr0
 have HC0:=Aside0.mk hc0
 clear hr0 hc0
 have HR1:=Aside0.mk hr1
 have HC1:=Aside0.mk hc1
 clear hr1 hc1
 have H : (if (l0.length : Int) = (l1.length : Int) then (hinterlandsame_List_int.l0 k l0 l1 0) else (some false)) = some r:=h
 clear h
 by_cases c3 : (l0.length : Int) = (l1.length : Int)
 rotate_left
 ·rw [if_neg c3] at H
  have c3b0:=bqf c3
  have c3b1:=bnt c3
  have c3b2 : (l0.length == l1.length) = false:=by first|simpa using c3|(simp at c3 ⊢;omega)
  obtain rfl:=Option.some.inj H
  go_enter Try.func28,Try.ntmps28
  go_wp2
  go_ret
  exact ⟨by first|rfl|(simp;done)|(simp [*];done),by repeat (first|exact Drawn0.refl _|apply Drawn0.step)⟩
 rw [if_pos c3] at H
 have c3b0:=bqt c3
 have c3b1:=bnf c3
 have c3b2 : (l0.length == l1.length) = true:=by first|simpa using c3|(simp at c3 ⊢;omega)
 clear c3
 have H':=Aside0.mk H
 clear H
 go_enter Try.func28,Try.ntmps28
 go_wp2
 go_loopg [5] k (fun kq v5 w' => ∃ (x5_1 : Int),v5 = .int .i64 x5_1 ∧ Aside0 (hinterlandsame_List_int.l0 kq l0 l1 x5_1 = some r) ∧ Aside0 (kq ≤ k) ∧ Drawn0 w w')
 case atStart => exact ⟨(0),(by first|rfl|(simp;done)|(simp [*];done)),H',⟨Nat.le_refl _⟩,by repeat (first|exact Drawn0.refl _|apply Drawn0.step)⟩
 case round =>
  clear H'
  obtain ⟨x5_1,rfl,HA,HK1,⟨m1,rfl⟩⟩:=hrel
  cases gk with
  | zero => exact absurd HA.out (by simp [hinterlandsame_List_int.l0])
  | succ k1 =>
   have H:=HA.out
   clear HA
   simp only [hinterlandsame_List_int.l0] at H
   by_cases c4 : x5_1 < (l0.length : Int)
   rotate_left
   ·rw [if_neg c4] at H
    have c4b0 : decide (x5_1 < (l0.length : Int)) = false:=decide_eq_false c4
    clear c4
    obtain rfl:=Option.some.inj H
    go_wp2
    go_ret
    exact ⟨by first|rfl|(simp;done)|(simp [*];done),by repeat (first|exact Drawn0.refl _|apply Drawn0.step)⟩
   rw [if_pos c4] at H
   have c4b0 : decide (x5_1 < (l0.length : Int)) = true:=decide_eq_true c4
   clear c4
   replace H:=ifp_ H;obtain ⟨c5,H⟩:=H
   have c5b0 : decide (0 ≤ x5_1) = true:=decide_eq_true c5
   clear c5
   replace H:=ifp_ H;obtain ⟨c6,H⟩:=H
   have c6b0 : decide (x5_1 < (l1.length : Int)) = true:=decide_eq_true c6
   clear c6
   by_cases c7 : (rd l0 x5_1) = (rd l1 x5_1)
   ·rw [if_pos c7] at H
    have c7b0:=bqt c7
    have c7b1:=bnf c7
    clear c7
    have H':=Aside0.mk H
    clear H
    have p410 : 0 ≤ (x5_1 : Int):=of_decide_eq_true (by first|(with_reducible assumption)|assumption)
    have q410 : x5_1 < (l0.length : Int):=of_decide_eq_true (by first|(with_reducible assumption)|assumption)
    obtain ⟨ad410,e410,hx410_0⟩:=Kd.at_int HR0.out x5_1 p410 q410
    cases e410
    replace p410:=eq_true p410
    replace q410:=eq_true q410
    have p411 : 0 ≤ (x5_1 : Int):=of_decide_eq_true (by first|(with_reducible assumption)|assumption)
    have q411 : x5_1 < (l1.length : Int):=of_decide_eq_true (by first|(with_reducible assumption)|assumption)
    obtain ⟨ad411,e411,hx411_0⟩:=Kd.at_int HR1.out x5_1 p411 q411
    cases e411
    replace p411:=eq_true p411
    replace q411:=eq_true q411
    go_wp2
    go_quiet (fail)
    go_wp2
    go_roundg k1
    case measure => have:=HK1.out;omega
    case rel => exact ⟨(wrap64 (x5_1 + 1)),(by first|rfl|(simp;done)|(simp [*];done)),H',⟨by have:=HK1.out;omega⟩,by repeat (first|exact Drawn0.refl _|apply Drawn0.step)⟩
   ·rw [if_neg c7] at H
    have c7b0:=bqf c7
    have c7b1:=bnt c7
    obtain rfl:=Option.some.inj H
    have p410 : 0 ≤ (x5_1 : Int):=of_decide_eq_true (by first|(with_reducible assumption)|assumption)
    have q410 : x5_1 < (l0.length : Int):=of_decide_eq_true (by first|(with_reducible assumption)|assumption)
    obtain ⟨ad410,e410,hx410_0⟩:=Kd.at_int HR0.out x5_1 p410 q410
    cases e410
    replace p410:=eq_true p410
    replace q410:=eq_true q410
    have p411 : 0 ≤ (x5_1 : Int):=of_decide_eq_true (by first|(with_reducible assumption)|assumption)
    have q411 : x5_1 < (l1.length : Int):=of_decide_eq_true (by first|(with_reducible assumption)|assumption)
    obtain ⟨ad411,e411,hx411_0⟩:=Kd.at_int HR1.out x5_1 p411 q411
    cases e411
    replace p411:=eq_true p411
    replace q411:=eq_true q411
    go_wp2
    go_quiet (fail)
    go_wp2
    go_ret
    exact ⟨by first|rfl|(simp;done)|(simp [*];done),by repeat (first|exact Drawn0.refl _|apply Drawn0.step)⟩

/-! ### hinterlandsame_Streets: function 47 -/
def hinterlandsame_Streets.f (k : Nat) (a0_0 : Int) (a0_1 : Int) (l0_2 : List Int) (l0_3 : List Int) (a1_0 : Int) (a1_1 : Int) (l1_2 : List Int) (l1_3 : List Int) : Option (Bool) := if a0_0 = a1_0 then (if a0_1 = a1_1 then ((hinterlandsame_List_int.f k l0_2 l1_2).bind fun t414 => (if t414 = true then ((hinterlandsame_List_int.f k l0_3 l1_3).bind fun t415 => (some t415)) else (some false))) else (some false)) else (some false)
theorem hinterlandsame_Streets.mono : ∀ a0 a1 a2 a3 a4 a5 a6 a7 k, LeO (hinterlandsame_Streets.f k a0 a1 a2 a3 a4 a5 a6 a7) (hinterlandsame_Streets.f (k + 1) a0 a1 a2 a3 a4 a5 a6 a7) := by
 intro a0 a1 a2 a3 a4 a5 a6 a7 k
 unfold hinterlandsame_Streets.f
 repeat' first
   | (with_reducible exact hinterlandsame_List_int.mono _ _ _)
   | (with_reducible exact LeO.refl _)
   | (with_reducible exact LeO.none _)
   | (with_reducible refine LeO.ite ?_ ?_)
   | (with_reducible refine LeO.bind ?_ (fun _ => ?_))
   | exact hinterlandsame_List_int.mono _ _ _
   | exact LeO.none _
   | refine LeO.ite ?_ ?_
   | refine LeO.bind ?_ (fun _ => ?_)
set_option maxHeartbeats 8000000 in
set_option maxRecDepth 100000 in
theorem hinterlandsame_Streets.calls (k : Nat) (a0_0 : Int) (a0_1 : Int) (A0_2 : Option Addr) (c0_2 : Nat) (l0_2 : List Int) (A0_3 : Option Addr) (c0_3 : Nat) (l0_3 : List Int) (a1_0 : Int) (a1_1 : Int) (A1_2 : Option Addr) (c1_2 : Nat) (l1_2 : List Int) (A1_3 : Option Addr) (c1_3 : Nat) (l1_3 : List Int) (r : Bool) (w : World) (hr0_2 : Kd.C (Kd.int .i64) w A0_2 l0_2.length l0_2) (hc0_2 : l0_2.length ≤ c0_2) (hr0_3 : Kd.C (Kd.int .i64) w A0_3 l0_3.length l0_3) (hc0_3 : l0_3.length ≤ c0_3) (hr1_2 : Kd.C (Kd.int .i64) w A1_2 l1_2.length l1_2) (hc1_2 : l1_2.length ≤ c1_2) (hr1_3 : Kd.C (Kd.int .i64) w A1_3 l1_3.length l1_3) (hc1_3 : l1_3.length ≤ c1_3) (h : hinterlandsame_Streets.f k a0_0 a0_1 l0_2 l0_3 a1_0 a1_1 l1_2 l1_3 = some r) :
  Calls Try.prog 47 #[.agg #[.int .i64 a0_0,.int .i64 a0_1,.slice A0_2 l0_2.length c0_2,.slice A0_3 l0_3.length c0_3],.agg #[.int .i64 a1_0,.int .i64 a1_1,.slice A1_2 l1_2.length c1_2,.slice A1_3 l1_3.length c1_3]] w fun e w' => e = .returned (.bool r) ∧ Below w.heap.size w w':=by
 have hu24:=Try.underlying24
 have HR0_2:=Aside0.mk hr0_2
 have HC0_2:=Aside0.mk hc0_2
 clear hr0_2 hc0_2
 have HR0_3:=Aside0.mk hr0_3
 have HC0_3:=Aside0.mk hc0_3
 clear hr0_3 hc0_3
 have HR1_2:=Aside0.mk hr1_2
 have HC1_2:=Aside0.mk hc1_2
 clear hr1_2 hc1_2
 have HR1_3:=Aside0.mk hr1_3
 have HC1_3:=Aside0.mk hc1_3
 clear hr1_3 hc1_3
 have HB:=Aside0.mk (Below.refl w.heap.size w)
 have H : (if a0_0 = a1_0 then (if a0_1 = a1_1 then ((hinterlandsame_List_int.f k l0_2 l1_2).bind fun t414 => (if t414 = true then ((hinterlandsame_List_int.f k l0_3 l1_3).bind fun t415 => (some t415)) else (some false))) else (some false)) else (some false)) = some r:=h
 clear h
 by_cases c3 : a0_0 = a1_0
 rotate_left
 ·rw [if_neg c3] at H
  have c3b0:=bqf c3
  have c3b1:=bnt c3
  obtain rfl:=Option.some.inj H
  go_enter Try.func47,Try.ntmps47
  go_wp2_with (first|((with_reducible refine gate_dst (N:=2) rfl ?_);refine box_ev (N:=2) (cs:=#[.int .i64 a0_0,.int .i64 a0_1,.slice A0_2 l0_2.length c0_2,.slice A0_3 l0_3.length c0_3]) (t:=24) ?_;intro gb412 hg w23 hbox hb;have BK412:=Aside0.mk (hbox);have GW412 : Aside0 (w.heap.size ≤ gb412):=gsz hg;have GE412:=GW412;replace HB:=hbs hb;clear hb hbox hg)|((with_reducible refine gate_dst (N:=3) rfl ?_);refine box_ev (N:=3) (cs:=#[.int .i64 a1_0,.int .i64 a1_1,.slice A1_2 l1_2.length c1_2,.slice A1_3 l1_3.length c1_3]) (t:=24) ?_;intro gb413 hg w24 hbox hb;have BK413:=Aside0.mk (hbox);have GW413 : Aside0 (w.heap.size ≤ gb413):=gsz hg;have GE413:=GW413;have NB412_413:=nbl BK412 hg;have NB413_412:=nbr BK412 hg;replace BK412:=bkb BK412 hb;replace HB:=hbs hb;clear hb hbox hg;have hnb25:=NB412_413.out;have hnc25:=NB413_412.out;obtain ⟨_,_,_,_,_,_,_,_⟩:=cells4 BK412.out;obtain ⟨_,_,_,_,_,_,_,_⟩:=cells4 BK413.out))
  go_ret
  exact ⟨er_,hb_⟩
 rw [if_pos c3] at H
 have c3b0:=bqt c3
 have c3b1:=bnf c3
 clear c3
 by_cases c4 : a0_1 = a1_1
 rotate_left
 ·rw [if_neg c4] at H
  have c4b0:=bqf c4
  have c4b1:=bnt c4
  obtain rfl:=Option.some.inj H
  go_enter Try.func47,Try.ntmps47
  go_wp2_with (first|((with_reducible refine gate_dst (N:=2) rfl ?_);refine box_ev (N:=2) (cs:=#[.int .i64 a0_0,.int .i64 a0_1,.slice A0_2 l0_2.length c0_2,.slice A0_3 l0_3.length c0_3]) (t:=24) ?_;intro gb412 hg w18 hbox hb;have BK412:=Aside0.mk (hbox);have GW412 : Aside0 (w.heap.size ≤ gb412):=gsz hg;have GE412:=GW412;replace HB:=hbs hb;clear hb hbox hg)|((with_reducible refine gate_dst (N:=3) rfl ?_);refine box_ev (N:=3) (cs:=#[.int .i64 a1_0,.int .i64 a1_1,.slice A1_2 l1_2.length c1_2,.slice A1_3 l1_3.length c1_3]) (t:=24) ?_;intro gb413 hg w19 hbox hb;have BK413:=Aside0.mk (hbox);have GW413 : Aside0 (w.heap.size ≤ gb413):=gsz hg;have GE413:=GW413;have NB412_413:=nbl BK412 hg;have NB413_412:=nbr BK412 hg;replace BK412:=bkb BK412 hb;replace HB:=hbs hb;clear hb hbox hg;have hnb20:=NB412_413.out;have hnc20:=NB413_412.out;obtain ⟨_,_,_,_,_,_,_,_⟩:=cells4 BK412.out;obtain ⟨_,_,_,_,_,_,_,_⟩:=cells4 BK413.out))
  go_ret
  exact ⟨er_,hb_⟩
 rw [if_pos c4] at H
 have c4b0:=bqt c4
 have c4b1:=bnf c4
 clear c4
 replace H:=Option.bind_eq_some_iff.mp H
 obtain ⟨t414,A50,H⟩:=H
 replace H : (if t414 = true then ((hinterlandsame_List_int.f k l0_3 l1_3).bind fun t415 => (some t415)) else (some false)) = some r:=H
 have A5:=Aside0.mk A50
 clear A50
 by_cases c6 : t414 = true
 ·subst c6
  have H1 : ((hinterlandsame_List_int.f k l0_3 l1_3).bind fun t415 => (some t415)) = some r:=by rw [if_pos rfl] at H;exact H
  clear H
  have H:=H1
  clear H1
  replace H:=Option.bind_eq_some_iff.mp H
  obtain ⟨t415,A70,H⟩:=H
  replace H : (some t415) = some r:=H
  have A7:=Aside0.mk A70
  clear A70
  obtain rfl:=Option.some.inj H
  go_enter Try.func47,Try.ntmps47
  go_wp2_with (first|((with_reducible refine gate_dst (N:=2) rfl ?_);refine box_ev (N:=2) (cs:=#[.int .i64 a0_0,.int .i64 a0_1,.slice A0_2 l0_2.length c0_2,.slice A0_3 l0_3.length c0_3]) (t:=24) ?_;intro gb412 hg w8 hbox hb;have BK412:=Aside0.mk (hbox);have GW412 : Aside0 (w.heap.size ≤ gb412):=gsz hg;have GE412:=GW412;replace HB:=hbs hb;clear hb hbox hg)|((with_reducible refine gate_dst (N:=3) rfl ?_);refine box_ev (N:=3) (cs:=#[.int .i64 a1_0,.int .i64 a1_1,.slice A1_2 l1_2.length c1_2,.slice A1_3 l1_3.length c1_3]) (t:=24) ?_;intro gb413 hg w9 hbox hb;have BK413:=Aside0.mk (hbox);have GW413 : Aside0 (w.heap.size ≤ gb413):=gsz hg;have GE413:=GW413;have NB412_413:=nbl BK412 hg;have NB413_412:=nbr BK412 hg;replace BK412:=bkb BK412 hb;replace HB:=hbs hb;clear hb hbox hg;have hnb10:=NB412_413.out;have hnc10:=NB413_412.out;obtain ⟨_,_,_,_,_,_,_,_⟩:=cells4 BK412.out;obtain ⟨_,_,_,_,_,_,_,_⟩:=cells4 BK413.out)|(go_at_call 28;(with_reducible refine (hinterlandsame_List_int.calls k _ _ l0_2 _ _ l1_2 true _ ?_ ?_ ?_ ?_ A5.out).mono ?_);exact cq HR0_2;exact HC0_2.out;exact cq HR1_2;exact HC1_2.out;rintro e w' ⟨rfl,⟨nd,rfl⟩⟩)|(go_at_call 28;(with_reducible refine (hinterlandsame_List_int.calls k _ _ l0_3 _ _ l1_3 t415 _ ?_ ?_ ?_ ?_ A7.out).mono ?_);(focus (repeat (first|exact (Kd.C_below HR0_3.out (hb_))|(with_reducible refine Kd.C_alloc ?_ _)|(with_reducible refine Kd.C_drewN ?_ _)|(with_reducible refine Kd.C_drew ?_))));exact HC0_3.out;(focus (repeat (first|exact (Kd.C_below HR1_3.out (hb_))|(with_reducible refine Kd.C_alloc ?_ _)|(with_reducible refine Kd.C_drewN ?_ _)|(with_reducible refine Kd.C_drew ?_))));exact HC1_3.out;rintro e w' ⟨rfl,⟨nd,rfl⟩⟩))
  go_ret
  exact ⟨er_,hb_⟩
 ·replace c6:=Bool.eq_false_iff.mpr c6
  subst c6
  have H1 : (some false) = some r:=by rw [if_neg (show ¬ (false = true) by decide)] at H;exact H
  clear H
  have H:=H1
  clear H1
  obtain rfl:=Option.some.inj H
  go_enter Try.func47,Try.ntmps47
  go_wp2_with (first|((with_reducible refine gate_dst (N:=2) rfl ?_);refine box_ev (N:=2) (cs:=#[.int .i64 a0_0,.int .i64 a0_1,.slice A0_2 l0_2.length c0_2,.slice A0_3 l0_3.length c0_3]) (t:=24) ?_;intro gb412 hg w13 hbox hb;have BK412:=Aside0.mk (hbox);have GW412 : Aside0 (w.heap.size ≤ gb412):=gsz hg;have GE412:=GW412;replace HB:=hbs hb;clear hb hbox hg)|((with_reducible refine gate_dst (N:=3) rfl ?_);refine box_ev (N:=3) (cs:=#[.int .i64 a1_0,.int .i64 a1_1,.slice A1_2 l1_2.length c1_2,.slice A1_3 l1_3.length c1_3]) (t:=24) ?_;intro gb413 hg w14 hbox hb;have BK413:=Aside0.mk (hbox);have GW413 : Aside0 (w.heap.size ≤ gb413):=gsz hg;have GE413:=GW413;have NB412_413:=nbl BK412 hg;have NB413_412:=nbr BK412 hg;replace BK412:=bkb BK412 hb;replace HB:=hbs hb;clear hb hbox hg;have hnb15:=NB412_413.out;have hnc15:=NB413_412.out;obtain ⟨_,_,_,_,_,_,_,_⟩:=cells4 BK412.out;obtain ⟨_,_,_,_,_,_,_,_⟩:=cells4 BK413.out)|(go_at_call 28;(with_reducible refine (hinterlandsame_List_int.calls k _ _ l0_2 _ _ l1_2 false _ ?_ ?_ ?_ ?_ A5.out).mono ?_);exact cq HR0_2;exact HC0_2.out;exact cq HR1_2;exact HC1_2.out;rintro e w' ⟨rfl,⟨nd,rfl⟩⟩))
  go_ret
  exact ⟨er_,hb_⟩

/-! ### api_Truck_48: function 48 -/
def api_Truck_48.l0 : Nat → List (S50) → List (S50) → Int → Option (Bool)
 | 0,_,_,_ => none
 | k + 1,x0,x1,x5 => if x5 < (x0.length : Int) then (if 0 ≤ x5 then (if x5 < (x1.length : Int) then (if (!(((rd_T50 x0 x5).f0) == ((rd_T50 x1 x5).f0)) || (!(((rd_T50 x0 x5).f1) == ((rd_T50 x1 x5).f1)) || (!(((rd_T50 x0 x5).f2) == ((rd_T50 x1 x5).f2)) || (!(((rd_T50 x0 x5).f3) == ((rd_T50 x1 x5).f3)) || (!(((rd_T50 x0 x5).f4) == ((rd_T50 x1 x5).f4))))))) = true then (some false) else (api_Truck_48.l0 k x0 x1 (wrap64 (x5 + 1)))) else (none)) else (none)) else (some true)
def api_Truck_48.f (k : Nat) (l0 : List (S50)) (l1 : List (S50)) : Option (Bool) := if (l0.length : Int) = (l1.length : Int) then (api_Truck_48.l0 k l0 l1 0) else (some false)
theorem api_Truck_48.mono_l : ∀ k, (∀ y0 y1 y2, LeO (api_Truck_48.l0 k y0 y1 y2) (api_Truck_48.l0 (k + 1) y0 y1 y2))
 | 0 => fun _ _ _ r h => by simp [api_Truck_48.l0] at h
 | k + 1 => by
  have ih0:=api_Truck_48.mono_l k
  ·intro y0 y1 y2
   unfold api_Truck_48.l0
   repeat' first
   | (with_reducible exact ih0 _ _ _)
   | (with_reducible exact LeO.refl _)
   | (with_reducible exact LeO.none _)
   | (with_reducible refine LeO.ite ?_ ?_)
   | (with_reducible refine LeO.bind ?_ (fun _ => ?_))
   | exact ih0 _ _ _
   | exact LeO.none _
   | refine LeO.ite ?_ ?_
   | refine LeO.bind ?_ (fun _ => ?_)
theorem api_Truck_48.mono : ∀ a0 a1 k, LeO (api_Truck_48.f k a0 a1) (api_Truck_48.f (k + 1) a0 a1) := by
 intro a0 a1 k
 have ih0:=api_Truck_48.mono_l k
 unfold api_Truck_48.f
 repeat' first
   | (with_reducible exact ih0 _ _ _)
   | (with_reducible exact LeO.refl _)
   | (with_reducible exact LeO.none _)
   | (with_reducible refine LeO.ite ?_ ?_)
   | (with_reducible refine LeO.bind ?_ (fun _ => ?_))
   | exact ih0 _ _ _
   | exact LeO.none _
   | refine LeO.ite ?_ ?_
   | refine LeO.bind ?_ (fun _ => ?_)
set_option maxHeartbeats 8000000 in
set_option maxRecDepth 100000 in
theorem api_Truck_48.calls (k : Nat) (A0 : Option Addr) (c0 : Nat) (l0 : List (S50)) (A1 : Option Addr) (c1 : Nat) (l1 : List (S50)) (r : Bool) (w : World) (hr0 : Kd.C k50 w A0 l0.length l0) (hc0 : l0.length ≤ c0) (hr1 : Kd.C k50 w A1 l1.length l1) (hc1 : l1.length ≤ c1) (h : api_Truck_48.f k l0 l1 = some r) :
  Calls Try.prog 48 #[.slice A0 l0.length c0,.slice A1 l1.length c1] w fun e w' => e = .returned (.bool r) ∧ Drawn0 w w':=by
 have hu50:=Try.underlying50
 have HR0:=Aside0.mk hr0
 have HC0:=Aside0.mk hc0
 clear hr0 hc0
 have HR1:=Aside0.mk hr1
 have HC1:=Aside0.mk hc1
 clear hr1 hc1
 have H : (if (l0.length : Int) = (l1.length : Int) then (api_Truck_48.l0 k l0 l1 0) else (some false)) = some r:=h
 clear h
 by_cases c3 : (l0.length : Int) = (l1.length : Int)
 rotate_left
 ·rw [if_neg c3] at H
  have c3b0:=bqf c3
  have c3b1:=bnt c3
  have c3b2 : (l0.length == l1.length) = false:=by first|simpa using c3|(simp at c3 ⊢;omega)
  obtain rfl:=Option.some.inj H
  go_enter Try.func48,Try.ntmps48
  go_wp2
  go_ret
  exact ⟨by first|rfl|(simp;done)|(simp [*];done),by repeat (first|exact Drawn0.refl _|apply Drawn0.step)⟩
 rw [if_pos c3] at H
 have c3b0:=bqt c3
 have c3b1:=bnf c3
 have c3b2 : (l0.length == l1.length) = true:=by first|simpa using c3|(simp at c3 ⊢;omega)
 clear c3
 have H':=Aside0.mk H
 clear H
 go_enter Try.func48,Try.ntmps48
 go_wp2
 go_loopg [5] k (fun kq v5 w' => ∃ (x5_1 : Int),v5 = .int .i64 x5_1 ∧ Aside0 (api_Truck_48.l0 kq l0 l1 x5_1 = some r) ∧ Aside0 (kq ≤ k) ∧ Drawn0 w w')
 case atStart => exact ⟨(0),(by first|rfl|(simp;done)|(simp [*];done)),H',⟨Nat.le_refl _⟩,by repeat (first|exact Drawn0.refl _|apply Drawn0.step)⟩
 case round =>
  clear H'
  obtain ⟨x5_1,rfl,HA,HK1,⟨m1,rfl⟩⟩:=hrel
  cases gk with
  | zero => exact absurd HA.out (by simp [api_Truck_48.l0])
  | succ k1 =>
   have H:=HA.out
   clear HA
   simp only [api_Truck_48.l0] at H
   by_cases c4 : x5_1 < (l0.length : Int)
   rotate_left
   ·rw [if_neg c4] at H
    have c4b0 : decide (x5_1 < (l0.length : Int)) = false:=decide_eq_false c4
    clear c4
    obtain rfl:=Option.some.inj H
    go_wp2
    go_ret
    exact ⟨by first|rfl|(simp;done)|(simp [*];done),by repeat (first|exact Drawn0.refl _|apply Drawn0.step)⟩
   rw [if_pos c4] at H
   have c4b0 : decide (x5_1 < (l0.length : Int)) = true:=decide_eq_true c4
   clear c4
   replace H:=ifp_ H;obtain ⟨c5,H⟩:=H
   have c5b0 : decide (0 ≤ x5_1) = true:=decide_eq_true c5
   clear c5
   replace H:=ifp_ H;obtain ⟨c6,H⟩:=H
   have c6b0 : decide (x5_1 < (l1.length : Int)) = true:=decide_eq_true c6
   clear c6
   by_cases c7 : (!(((rd_T50 l0 x5_1).f0) == ((rd_T50 l1 x5_1).f0)) || (!(((rd_T50 l0 x5_1).f1) == ((rd_T50 l1 x5_1).f1)) || (!(((rd_T50 l0 x5_1).f2) == ((rd_T50 l1 x5_1).f2)) || (!(((rd_T50 l0 x5_1).f3) == ((rd_T50 l1 x5_1).f3)) || (!(((rd_T50 l0 x5_1).f4) == ((rd_T50 l1 x5_1).f4))))))) = true
   ·rw [if_pos c7] at H
    have c7b0 : (!(((rd_T50 l0 x5_1).f0) == ((rd_T50 l1 x5_1).f0)) || (!(((rd_T50 l0 x5_1).f1) == ((rd_T50 l1 x5_1).f1)) || (!(((rd_T50 l0 x5_1).f2) == ((rd_T50 l1 x5_1).f2)) || (!(((rd_T50 l0 x5_1).f3) == ((rd_T50 l1 x5_1).f3)) || (!(((rd_T50 l0 x5_1).f4) == ((rd_T50 l1 x5_1).f4))))))) = true:=c7
    clear c7
    obtain rfl:=Option.some.inj H
    have p416 : 0 ≤ (x5_1 : Int):=of_decide_eq_true (by first|(with_reducible assumption)|assumption)
    have q416 : x5_1 < (l0.length : Int):=of_decide_eq_true (by first|(with_reducible assumption)|assumption)
    obtain ⟨ad416,e416,hx416_0,hx416_1,hx416_2,hx416_3,hx416_4⟩:=at_T50 HR0.out x5_1 p416 q416
    cases e416
    replace p416:=eq_true p416
    replace q416:=eq_true q416
    have p417 : 0 ≤ (x5_1 : Int):=of_decide_eq_true (by first|(with_reducible assumption)|assumption)
    have q417 : x5_1 < (l1.length : Int):=of_decide_eq_true (by first|(with_reducible assumption)|assumption)
    obtain ⟨ad417,e417,hx417_0,hx417_1,hx417_2,hx417_3,hx417_4⟩:=at_T50 HR1.out x5_1 p417 q417
    cases e417
    replace p417:=eq_true p417
    replace q417:=eq_true q417
    go_wp2
    go_quiet (fail)
    go_wp2
    go_ret
    exact ⟨by first|rfl|(simp;done)|(simp [*];done),by repeat (first|exact Drawn0.refl _|apply Drawn0.step)⟩
   ·rw [if_neg c7] at H
    have c7b0 : (!(((rd_T50 l0 x5_1).f0) == ((rd_T50 l1 x5_1).f0)) || (!(((rd_T50 l0 x5_1).f1) == ((rd_T50 l1 x5_1).f1)) || (!(((rd_T50 l0 x5_1).f2) == ((rd_T50 l1 x5_1).f2)) || (!(((rd_T50 l0 x5_1).f3) == ((rd_T50 l1 x5_1).f3)) || (!(((rd_T50 l0 x5_1).f4) == ((rd_T50 l1 x5_1).f4))))))) = false:=by simpa using c7
    clear c7
    have H':=Aside0.mk H
    clear H
    have p416 : 0 ≤ (x5_1 : Int):=of_decide_eq_true (by first|(with_reducible assumption)|assumption)
    have q416 : x5_1 < (l0.length : Int):=of_decide_eq_true (by first|(with_reducible assumption)|assumption)
    obtain ⟨ad416,e416,hx416_0,hx416_1,hx416_2,hx416_3,hx416_4⟩:=at_T50 HR0.out x5_1 p416 q416
    cases e416
    replace p416:=eq_true p416
    replace q416:=eq_true q416
    have p417 : 0 ≤ (x5_1 : Int):=of_decide_eq_true (by first|(with_reducible assumption)|assumption)
    have q417 : x5_1 < (l1.length : Int):=of_decide_eq_true (by first|(with_reducible assumption)|assumption)
    obtain ⟨ad417,e417,hx417_0,hx417_1,hx417_2,hx417_3,hx417_4⟩:=at_T50 HR1.out x5_1 p417 q417
    cases e417
    replace p417:=eq_true p417
    replace q417:=eq_true q417
    go_wp2
    go_quiet (fail)
    go_wp2
    go_roundg k1
    case measure => have:=HK1.out;omega
    case rel => exact ⟨(wrap64 (x5_1 + 1)),(by first|rfl|(simp;done)|(simp [*];done)),H',⟨by have:=HK1.out;omega⟩,by repeat (first|exact Drawn0.refl _|apply Drawn0.step)⟩

/-! ### hinterlandsame_Lane: function 23 -/
def hinterlandsame_Lane.f (k : Nat) (a0_0 : Int) (a0_1 : Int) (l0_2 : List Int) (l0_3 : List Int) (l0_4 : List Int) (l0_5 : List (S50)) (a1_0 : Int) (a1_1 : Int) (l1_2 : List Int) (l1_3 : List Int) (l1_4 : List Int) (l1_5 : List (S50)) : Option (Bool) := (hinterlandsame_Streets.f k a0_0 a0_1 l0_2 l0_3 a1_0 a1_1 l1_2 l1_3).bind fun t420 => (if t420 = true then ((hinterlandsame_List_int.f k l0_4 l1_4).bind fun t421 => (if t421 = true then ((api_Truck_48.f k l0_5 l1_5).bind fun t422 => (some t422)) else (some false))) else (some false))
theorem hinterlandsame_Lane.mono : ∀ a0 a1 a2 a3 a4 a5 a6 a7 a8 a9 a10 a11 k, LeO (hinterlandsame_Lane.f k a0 a1 a2 a3 a4 a5 a6 a7 a8 a9 a10 a11) (hinterlandsame_Lane.f (k + 1) a0 a1 a2 a3 a4 a5 a6 a7 a8 a9 a10 a11) := by
 intro a0 a1 a2 a3 a4 a5 a6 a7 a8 a9 a10 a11 k
 unfold hinterlandsame_Lane.f
 repeat' first
   | (with_reducible exact api_Truck_48.mono _ _ _)
   | (with_reducible exact hinterlandsame_List_int.mono _ _ _)
   | (with_reducible exact hinterlandsame_Streets.mono _ _ _ _ _ _ _ _ _)
   | (with_reducible exact LeO.refl _)
   | (with_reducible exact LeO.none _)
   | (with_reducible refine LeO.ite ?_ ?_)
   | (with_reducible refine LeO.bind ?_ (fun _ => ?_))
   | exact api_Truck_48.mono _ _ _
   | exact hinterlandsame_List_int.mono _ _ _
   | exact hinterlandsame_Streets.mono _ _ _ _ _ _ _ _ _
   | exact LeO.none _
   | refine LeO.ite ?_ ?_
   | refine LeO.bind ?_ (fun _ => ?_)
set_option maxHeartbeats 8000000 in
set_option maxRecDepth 100000 in
theorem hinterlandsame_Lane.calls (k : Nat) (a0_0 : Int) (a0_1 : Int) (A0_2 : Option Addr) (c0_2 : Nat) (l0_2 : List Int) (A0_3 : Option Addr) (c0_3 : Nat) (l0_3 : List Int) (A0_4 : Option Addr) (c0_4 : Nat) (l0_4 : List Int) (A0_5 : Option Addr) (c0_5 : Nat) (l0_5 : List (S50)) (a1_0 : Int) (a1_1 : Int) (A1_2 : Option Addr) (c1_2 : Nat) (l1_2 : List Int) (A1_3 : Option Addr) (c1_3 : Nat) (l1_3 : List Int) (A1_4 : Option Addr) (c1_4 : Nat) (l1_4 : List Int) (A1_5 : Option Addr) (c1_5 : Nat) (l1_5 : List (S50)) (r : Bool) (w : World) (hr0_2 : Kd.C (Kd.int .i64) w A0_2 l0_2.length l0_2) (hc0_2 : l0_2.length ≤ c0_2) (hr0_3 : Kd.C (Kd.int .i64) w A0_3 l0_3.length l0_3) (hc0_3 : l0_3.length ≤ c0_3) (hr0_4 : Kd.C (Kd.int .i64) w A0_4 l0_4.length l0_4) (hc0_4 : l0_4.length ≤ c0_4) (hr0_5 : Kd.C k50 w A0_5 l0_5.length l0_5) (hc0_5 : l0_5.length ≤ c0_5) (hr1_2 : Kd.C (Kd.int .i64) w A1_2 l1_2.length l1_2) (hc1_2 : l1_2.length ≤ c1_2) (hr1_3 : Kd.C (Kd.int .i64) w A1_3 l1_3.length l1_3) (hc1_3 : l1_3.length ≤ c1_3) (hr1_4 : Kd.C (Kd.int .i64) w A1_4 l1_4.length l1_4) (hc1_4 : l1_4.length ≤ c1_4) (hr1_5 : Kd.C k50 w A1_5 l1_5.length l1_5) (hc1_5 : l1_5.length ≤ c1_5) (h : hinterlandsame_Lane.f k a0_0 a0_1 l0_2 l0_3 l0_4 l0_5 a1_0 a1_1 l1_2 l1_3 l1_4 l1_5 = some r) :
  Calls Try.prog 23 #[.agg #[.int .i64 a0_0,.int .i64 a0_1,.slice A0_2 l0_2.length c0_2,.slice A0_3 l0_3.length c0_3,.slice A0_4 l0_4.length c0_4,.slice A0_5 l0_5.length c0_5],.agg #[.int .i64 a1_0,.int .i64 a1_1,.slice A1_2 l1_2.length c1_2,.slice A1_3 l1_3.length c1_3,.slice A1_4 l1_4.length c1_4,.slice A1_5 l1_5.length c1_5]] w fun e w' => e = .returned (.bool r) ∧ Below w.heap.size w w':=by
 have hu33:=Try.underlying33
 have hu24:=Try.underlying24
 have HR0_2:=Aside0.mk hr0_2
 have HC0_2:=Aside0.mk hc0_2
 clear hr0_2 hc0_2
 have HR0_3:=Aside0.mk hr0_3
 have HC0_3:=Aside0.mk hc0_3
 clear hr0_3 hc0_3
 have HR0_4:=Aside0.mk hr0_4
 have HC0_4:=Aside0.mk hc0_4
 clear hr0_4 hc0_4
 have HR0_5:=Aside0.mk hr0_5
 have HC0_5:=Aside0.mk hc0_5
 clear hr0_5 hc0_5
 have HR1_2:=Aside0.mk hr1_2
 have HC1_2:=Aside0.mk hc1_2
 clear hr1_2 hc1_2
 have HR1_3:=Aside0.mk hr1_3
 have HC1_3:=Aside0.mk hc1_3
 clear hr1_3 hc1_3
 have HR1_4:=Aside0.mk hr1_4
 have HC1_4:=Aside0.mk hc1_4
 clear hr1_4 hc1_4
 have HR1_5:=Aside0.mk hr1_5
 have HC1_5:=Aside0.mk hc1_5
 clear hr1_5 hc1_5
 have HB:=Aside0.mk (Below.refl w.heap.size w)
 have H : ((hinterlandsame_Streets.f k a0_0 a0_1 l0_2 l0_3 a1_0 a1_1 l1_2 l1_3).bind fun t420 => (if t420 = true then ((hinterlandsame_List_int.f k l0_4 l1_4).bind fun t421 => (if t421 = true then ((api_Truck_48.f k l0_5 l1_5).bind fun t422 => (some t422)) else (some false))) else (some false))) = some r:=h
 clear h
 replace H:=Option.bind_eq_some_iff.mp H
 obtain ⟨t420,A30,H⟩:=H
 replace H : (if t420 = true then ((hinterlandsame_List_int.f k l0_4 l1_4).bind fun t421 => (if t421 = true then ((api_Truck_48.f k l0_5 l1_5).bind fun t422 => (some t422)) else (some false))) else (some false)) = some r:=H
 have A3:=Aside0.mk A30
 clear A30
 by_cases c4 : t420 = true
 ·subst c4
  have H1 : ((hinterlandsame_List_int.f k l0_4 l1_4).bind fun t421 => (if t421 = true then ((api_Truck_48.f k l0_5 l1_5).bind fun t422 => (some t422)) else (some false))) = some r:=by rw [if_pos rfl] at H;exact H
  clear H
  have H:=H1
  clear H1
  replace H:=Option.bind_eq_some_iff.mp H
  obtain ⟨t421,A50,H⟩:=H
  replace H : (if t421 = true then ((api_Truck_48.f k l0_5 l1_5).bind fun t422 => (some t422)) else (some false)) = some r:=H
  have A5:=Aside0.mk A50
  clear A50
  by_cases c6 : t421 = true
  ·subst c6
   have H1 : ((api_Truck_48.f k l0_5 l1_5).bind fun t422 => (some t422)) = some r:=by rw [if_pos rfl] at H;exact H
   clear H
   have H:=H1
   clear H1
   replace H:=Option.bind_eq_some_iff.mp H
   obtain ⟨t422,A70,H⟩:=H
   replace H : (some t422) = some r:=H
   have A7:=Aside0.mk A70
   clear A70
   obtain rfl:=Option.some.inj H
   go_enter Try.func23,Try.ntmps23
   go_wp2_with (first|((with_reducible refine gate_dst (N:=2) rfl ?_);refine box_ev (N:=2) (cs:=#[.int .i64 a0_0,.int .i64 a0_1,.slice A0_2 l0_2.length c0_2,.slice A0_3 l0_3.length c0_3,.slice A0_4 l0_4.length c0_4,.slice A0_5 l0_5.length c0_5]) (t:=33) ?_;intro gb418 hg w8 hbox hb;have BK418:=Aside0.mk (hbox);have GW418 : Aside0 (w.heap.size ≤ gb418):=gsz hg;have GE418:=GW418;replace HB:=hbs hb;clear hb hbox hg)|((with_reducible refine gate_dst (N:=3) rfl ?_);refine box_ev (N:=3) (cs:=#[.int .i64 a1_0,.int .i64 a1_1,.slice A1_2 l1_2.length c1_2,.slice A1_3 l1_3.length c1_3,.slice A1_4 l1_4.length c1_4,.slice A1_5 l1_5.length c1_5]) (t:=33) ?_;intro gb419 hg w9 hbox hb;have BK419:=Aside0.mk (hbox);have GW419 : Aside0 (w.heap.size ≤ gb419):=gsz hg;have GE419:=GW419;have NB418_419:=nbl BK418 hg;have NB419_418:=nbr BK418 hg;replace BK418:=bkb BK418 hb;replace HB:=hbs hb;clear hb hbox hg;have hnb10:=NB418_419.out;have hnc10:=NB419_418.out;obtain ⟨_,_,_,_,_,_,_,_,_,_,_,_⟩:=cells6 BK418.out;obtain ⟨_,_,_,_,_,_,_,_,_,_,_,_⟩:=cells6 BK419.out)|((with_reducible refine gate_callee (f:=47) rfl ?_);refine goesL_ (some 9) rfl rfl Try.func47 (by kernel_rfl) rfl #[.agg #[.int .i64 a0_0,.int .i64 a0_1,.slice A0_2 l0_2.length c0_2,.slice A0_3 l0_3.length c0_3],.agg #[.int .i64 a1_0,.int .i64 a1_1,.slice A1_2 l1_2.length c1_2,.slice A1_3 l1_3.length c1_3]] rfl ga_ ?_;(with_reducible refine (hinterlandsame_Streets.calls k a0_0 a0_1 _ _ l0_2 _ _ l0_3 a1_0 a1_1 _ _ l1_2 _ _ l1_3 true _ ?_ ?_ ?_ ?_ ?_ ?_ ?_ ?_ A3.out).mono ?_);exact cq HR0_2;exact HC0_2.out;exact cq HR0_3;exact HC0_3.out;exact cq HR1_2;exact HC1_2.out;exact cq HR1_3;exact HC1_3.out;rintro e w13 ⟨rfl,hb⟩;refine ⟨_,rfl,?_⟩;replace BK418:=bkb BK418 hb;replace BK419:=bkb BK419 hb;replace HB:=hbs hb;obtain ⟨_,_,_,_,_,_,_,_,_,_,_,_⟩:=cells6 BK418.out;obtain ⟨_,_,_,_,_,_,_,_,_,_,_,_⟩:=cells6 BK419.out)|(go_at_call 28;(with_reducible refine (hinterlandsame_List_int.calls k _ _ l0_4 _ _ l1_4 true _ ?_ ?_ ?_ ?_ A5.out).mono ?_);exact cq HR0_4;exact HC0_4.out;exact cq HR1_4;exact HC1_4.out;rintro e w' ⟨rfl,⟨nd,rfl⟩⟩)|(go_at_call 48;(with_reducible refine (api_Truck_48.calls k _ _ l0_5 _ _ l1_5 t422 _ ?_ ?_ ?_ ?_ A7.out).mono ?_);(focus (repeat (first|exact (Kd.C_below HR0_5.out (hb_))|(with_reducible refine Kd.C_alloc ?_ _)|(with_reducible refine Kd.C_drewN ?_ _)|(with_reducible refine Kd.C_drew ?_))));exact HC0_5.out;(focus (repeat (first|exact (Kd.C_below HR1_5.out (hb_))|(with_reducible refine Kd.C_alloc ?_ _)|(with_reducible refine Kd.C_drewN ?_ _)|(with_reducible refine Kd.C_drew ?_))));exact HC1_5.out;rintro e w' ⟨rfl,⟨nd,rfl⟩⟩))
   go_ret
   exact ⟨er_,hb_⟩
  ·replace c6:=Bool.eq_false_iff.mpr c6
   subst c6
   have H1 : (some false) = some r:=by rw [if_neg (show ¬ (false = true) by decide)] at H;exact H
   clear H
   have H:=H1
   clear H1
   obtain rfl:=Option.some.inj H
   go_enter Try.func23,Try.ntmps23
   go_wp2_with (first|((with_reducible refine gate_dst (N:=2) rfl ?_);refine box_ev (N:=2) (cs:=#[.int .i64 a0_0,.int .i64 a0_1,.slice A0_2 l0_2.length c0_2,.slice A0_3 l0_3.length c0_3,.slice A0_4 l0_4.length c0_4,.slice A0_5 l0_5.length c0_5]) (t:=33) ?_;intro gb418 hg w16 hbox hb;have BK418:=Aside0.mk (hbox);have GW418 : Aside0 (w.heap.size ≤ gb418):=gsz hg;have GE418:=GW418;replace HB:=hbs hb;clear hb hbox hg)|((with_reducible refine gate_dst (N:=3) rfl ?_);refine box_ev (N:=3) (cs:=#[.int .i64 a1_0,.int .i64 a1_1,.slice A1_2 l1_2.length c1_2,.slice A1_3 l1_3.length c1_3,.slice A1_4 l1_4.length c1_4,.slice A1_5 l1_5.length c1_5]) (t:=33) ?_;intro gb419 hg w17 hbox hb;have BK419:=Aside0.mk (hbox);have GW419 : Aside0 (w.heap.size ≤ gb419):=gsz hg;have GE419:=GW419;have NB418_419:=nbl BK418 hg;have NB419_418:=nbr BK418 hg;replace BK418:=bkb BK418 hb;replace HB:=hbs hb;clear hb hbox hg;have hnb18:=NB418_419.out;have hnc18:=NB419_418.out;obtain ⟨_,_,_,_,_,_,_,_,_,_,_,_⟩:=cells6 BK418.out;obtain ⟨_,_,_,_,_,_,_,_,_,_,_,_⟩:=cells6 BK419.out)|((with_reducible refine gate_callee (f:=47) rfl ?_);refine goesL_ (some 9) rfl rfl Try.func47 (by kernel_rfl) rfl #[.agg #[.int .i64 a0_0,.int .i64 a0_1,.slice A0_2 l0_2.length c0_2,.slice A0_3 l0_3.length c0_3],.agg #[.int .i64 a1_0,.int .i64 a1_1,.slice A1_2 l1_2.length c1_2,.slice A1_3 l1_3.length c1_3]] rfl ga_ ?_;(with_reducible refine (hinterlandsame_Streets.calls k a0_0 a0_1 _ _ l0_2 _ _ l0_3 a1_0 a1_1 _ _ l1_2 _ _ l1_3 true _ ?_ ?_ ?_ ?_ ?_ ?_ ?_ ?_ A3.out).mono ?_);exact cq HR0_2;exact HC0_2.out;exact cq HR0_3;exact HC0_3.out;exact cq HR1_2;exact HC1_2.out;exact cq HR1_3;exact HC1_3.out;rintro e w21 ⟨rfl,hb⟩;refine ⟨_,rfl,?_⟩;replace BK418:=bkb BK418 hb;replace BK419:=bkb BK419 hb;replace HB:=hbs hb;obtain ⟨_,_,_,_,_,_,_,_,_,_,_,_⟩:=cells6 BK418.out;obtain ⟨_,_,_,_,_,_,_,_,_,_,_,_⟩:=cells6 BK419.out)|(go_at_call 28;(with_reducible refine (hinterlandsame_List_int.calls k _ _ l0_4 _ _ l1_4 false _ ?_ ?_ ?_ ?_ A5.out).mono ?_);exact cq HR0_4;exact HC0_4.out;exact cq HR1_4;exact HC1_4.out;rintro e w' ⟨rfl,⟨nd,rfl⟩⟩))
   go_ret
   exact ⟨er_,hb_⟩
 ·replace c4:=Bool.eq_false_iff.mpr c4
  subst c4
  have H1 : (some false) = some r:=by rw [if_neg (show ¬ (false = true) by decide)] at H;exact H
  clear H
  have H:=H1
  clear H1
  obtain rfl:=Option.some.inj H
  go_enter Try.func23,Try.ntmps23
  go_wp2_with (first|((with_reducible refine gate_dst (N:=2) rfl ?_);refine box_ev (N:=2) (cs:=#[.int .i64 a0_0,.int .i64 a0_1,.slice A0_2 l0_2.length c0_2,.slice A0_3 l0_3.length c0_3,.slice A0_4 l0_4.length c0_4,.slice A0_5 l0_5.length c0_5]) (t:=33) ?_;intro gb418 hg w24 hbox hb;have BK418:=Aside0.mk (hbox);have GW418 : Aside0 (w.heap.size ≤ gb418):=gsz hg;have GE418:=GW418;replace HB:=hbs hb;clear hb hbox hg)|((with_reducible refine gate_dst (N:=3) rfl ?_);refine box_ev (N:=3) (cs:=#[.int .i64 a1_0,.int .i64 a1_1,.slice A1_2 l1_2.length c1_2,.slice A1_3 l1_3.length c1_3,.slice A1_4 l1_4.length c1_4,.slice A1_5 l1_5.length c1_5]) (t:=33) ?_;intro gb419 hg w25 hbox hb;have BK419:=Aside0.mk (hbox);have GW419 : Aside0 (w.heap.size ≤ gb419):=gsz hg;have GE419:=GW419;have NB418_419:=nbl BK418 hg;have NB419_418:=nbr BK418 hg;replace BK418:=bkb BK418 hb;replace HB:=hbs hb;clear hb hbox hg;have hnb26:=NB418_419.out;have hnc26:=NB419_418.out;obtain ⟨_,_,_,_,_,_,_,_,_,_,_,_⟩:=cells6 BK418.out;obtain ⟨_,_,_,_,_,_,_,_,_,_,_,_⟩:=cells6 BK419.out)|((with_reducible refine gate_callee (f:=47) rfl ?_);refine goesL_ (some 9) rfl rfl Try.func47 (by kernel_rfl) rfl #[.agg #[.int .i64 a0_0,.int .i64 a0_1,.slice A0_2 l0_2.length c0_2,.slice A0_3 l0_3.length c0_3],.agg #[.int .i64 a1_0,.int .i64 a1_1,.slice A1_2 l1_2.length c1_2,.slice A1_3 l1_3.length c1_3]] rfl ga_ ?_;(with_reducible refine (hinterlandsame_Streets.calls k a0_0 a0_1 _ _ l0_2 _ _ l0_3 a1_0 a1_1 _ _ l1_2 _ _ l1_3 false _ ?_ ?_ ?_ ?_ ?_ ?_ ?_ ?_ A3.out).mono ?_);exact cq HR0_2;exact HC0_2.out;exact cq HR0_3;exact HC0_3.out;exact cq HR1_2;exact HC1_2.out;exact cq HR1_3;exact HC1_3.out;rintro e w29 ⟨rfl,hb⟩;refine ⟨_,rfl,?_⟩;replace BK418:=bkb BK418 hb;replace BK419:=bkb BK419 hb;replace HB:=hbs hb))
  go_ret
  exact ⟨er_,hb_⟩

end Go.Proofs.Ythjmdpekcleihaa.P

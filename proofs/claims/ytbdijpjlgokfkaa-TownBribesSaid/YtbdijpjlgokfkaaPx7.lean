/- Functions of this seat as plain Lean functions, with proofs that the Go code comes to just their answers, or what stands between them and a law's statement; no conditions. (Laid by a program of this session, out of the kit's print.) -/
import Derived.Test.YtbdijpjlgokfkaaPx0
import Derived.Test.YtbdijpjlgokfkaaPx4
import Derived.Test.YtbdijpjlgokfkaaPx5
import Derived.Test.YtbdijpjlgokfkaaPx6
namespace Go.Proofs.Ytbdijpjlgokfkaa.P
open Go.RowKit Go.Proofs.YtbdijpjlgokfkaaW.PrintWords Go.Proofs.YtbdijpjlgokfkaaW.PrintLast Go.Proofs.YtbdijpjlgokfkaaW.PrintMore
attribute [local go_sem] max2_int min2_int max_two min_two max_three min_three max_four min_four   -- for this text's walks alone
set_option linter.unusedVariables false
set_option linter.unusedSimpArgs false

/-! ### town_copied: function 43 -/
def town_copied.f (a0_0 : Int) (l0_1 : List (S68)) (l0_2 : List Int) (a0_3 : Int) (a0_4 : Int) : Option (Int × (List (S68)) × List Int × Int × Int) := (api_House_77.f l0_1).bind fun t115 => ((slices_Clone_int_int.f l0_2).bind fun t118 => (some (a0_0, t115, t118, a0_3, a0_4)))
def town_copied.T1 : Bool × List (List Nat × List Nat) := (true, [([], []), ([0], [0]), ([1], [1]), ([], []), ([3], [3]), ([4, 2], [4]), ([0, 1, 2, 3, 4], []), ([6, 2, 5, 0, 1, 2, 3, 4], [2, 6]), ([0, 1, 2, 3, 4, 5, 6, 7], []), ([8, 5, 7, 0, 1, 2, 3, 4, 5, 6, 7], [5, 8])])
def town_copied.B1 : List Nat := [0, 1, 3, 0, 8, 31, 31, 127, 255, 511]
theorem town_copied.tab1 : rtab .any (opsOf Try.f43 1) = town_copied.T1 := by kernel_rfl
theorem town_copied.bits1 : waitsOk town_copied.T1.2 town_copied.B1 = true := by kernel_rfl
set_option maxHeartbeats 8000000 in
set_option maxRecDepth 100000 in
theorem town_copied.calls (a0_0 : Int) (A0_1 : Option Addr) (c0_1 : Nat) (l0_1 : List (S68)) (A0_2 : Option Addr) (c0_2 : Nat) (l0_2 : List Int) (a0_3 : Int) (a0_4 : Int) (r1 : Int) (r2 : List (S68)) (r3 : List Int) (r4 : Int) (r5 : Int) (w : World) (hr0_1 : Kd.C k68 w A0_1 l0_1.length l0_1) (hc0_1 : l0_1.length ≤ c0_1) (hr0_2 : Kd.C (Kd.int .i64) w A0_2 l0_2.length l0_2) (hc0_2 : l0_2.length ≤ c0_2) (h : town_copied.f a0_0 l0_1 l0_2 a0_3 a0_4 = some (r1, r2, r3, r4, r5)) :
  Calls Try.prog 43 #[.agg #[.int .i64 a0_0,.slice A0_1 l0_1.length c0_1,.slice A0_2 l0_2.length c0_2,.int .i64 a0_3,.int .i64 a0_4]] w fun e w' => ∃ v1_ v2_ : Value,e = .returned (.agg #[.int .i64 r1,v1_,v2_,.int .i64 r4,.int .i64 r5]) ∧ Kd.R k68 68 w' w.heap.size (fun _ => True) v1_ r2 ∧ Kd.R (Kd.int .i64) 3 w' w.heap.size (fun _ => True) v2_ r3 ∧ Below w.heap.size w w':=by
 have hu25:=Try.underlying25
 have HR0_1:=Aside0.mk hr0_1
 have HC0_1:=Aside0.mk hc0_1
 clear hr0_1 hc0_1
 have HR0_2:=Aside0.mk hr0_2
 have HC0_2:=Aside0.mk hc0_2
 clear hr0_2 hc0_2
 have HB:=Aside0.mk (Below.refl w.heap.size w)
 have H : ((api_House_77.f l0_1).bind fun t115 => ((slices_Clone_int_int.f l0_2).bind fun t118 => (some (a0_0,t115,t118,a0_3,a0_4)))) = some (r1,r2,r3,r4,r5):=h
 clear h
 replace H:=Option.bind_eq_some_iff.mp H
 obtain ⟨t115,A20,H⟩:=H
 replace H : ((slices_Clone_int_int.f l0_2).bind fun t118 => (some (a0_0,t115,t118,a0_3,a0_4))) = some (r1,r2,r3,r4,r5):=H
 have A2:=Aside0.mk A20
 clear A20
 replace H:=Option.bind_eq_some_iff.mp H
 obtain ⟨t118,A30,H⟩:=H
 replace H : (some (a0_0,t115,t118,a0_3,a0_4)) = some (r1,r2,r3,r4,r5):=H
 have A3:=Aside0.mk A30
 clear A30
 simp only [Option.some.injEq,Prod.mk.injEq] at H
 obtain ⟨rfl,rfl,rfl,rfl,rfl⟩:=H
 go_enter Try.func43,Try.ntmps43
 try go_wp2_with (first|((with_reducible refine gate_dst (N:=1) rfl ?_);refine box_event ?hg (N:=1) ?hd (cs:=#[.int .i64 a0_0,.slice A0_1 l0_1.length c0_1,.slice A0_2 l0_2.length c0_2,.int .i64 a0_3,.int .i64 a0_4]) (t:=25) ?hr ?_;(case hd => rfl);(case hg => rfl);(case hr => first|(go_simp;done)|(go_simp;rfl));intro gb113 hg w4 hbox hb;have n0_:=Aside0.mk (below_step (by repeat (first|(with_reducible first|exact HB.out|apply below_alloc|apply pw_below_drewN|apply below_drew1)|exact HB.out)) hb);have n1_:=Aside0.mk (hbox);have n2_:=Aside0.mk ((by rw [hg];exact (below_size (by repeat (first|(with_reducible first|exact HB.out|apply below_alloc|apply pw_below_drewN|apply below_drew1)|exact HB.out))) : w.heap.size ≤ gb113));have n3_:=Aside0.mk ((by rw [hg];exact (below_size (by repeat (first|(with_reducible first|exact HB.out|apply below_alloc|apply pw_below_drewN|apply below_drew1)|exact HB.out))) : w.heap.size ≤ gb113));clear HB;have HB:=n0_;have BK113:=n1_;have GW113:=n2_;have GE113:=n3_;clear n0_ n1_ n2_ n3_;clear hb hbox hg)|((with_reducible refine gate_dst (N:=2) rfl ?_);refine box_event ?hg (N:=2) ?hd (cs:=#[.int .i64 0,.slice none 0 0,.slice none 0 0,.int .i64 0,.int .i64 0]) (t:=25) ?hr ?_;(case hd => rfl);(case hg => rfl);(case hr => first|(go_simp;done)|(go_simp;rfl));intro gb114 hg w5 hbox hb;have n0_:=Aside0.mk (blk_below (g:=gb113) (o:=.cells #[.int .i64 a0_0,.slice A0_1 l0_1.length c0_1,.slice A0_2 l0_2.length c0_2,.int .i64 a0_3,.int .i64 a0_4] 25 (0,0)) (by (with_reducible repeat (first|refine blk_drewN ?_ _|refine blk_drew ?_|refine blk_alloc ?_ _));exact BK113.out) hb);have n1_:=Aside0.mk (below_step (by repeat (first|(with_reducible first|exact HB.out|apply below_alloc|apply pw_below_drewN|apply below_drew1|refine below_set ?_ GE113.out)|exact HB.out)) hb);have n2_:=Aside0.mk (hbox);have n3_:=Aside0.mk ((by rw [hg];exact (below_size (by repeat (first|(with_reducible first|exact HB.out|apply below_alloc|apply pw_below_drewN|apply below_drew1|refine below_set ?_ GE113.out)|exact HB.out))) : w.heap.size ≤ gb114));have n4_:=Aside0.mk ((by rw [hg];exact (below_size (by repeat (first|(with_reducible first|exact HB.out|apply below_alloc|apply pw_below_drewN|apply below_drew1|refine below_set ?_ GE113.out)|exact HB.out))) : w.heap.size ≤ gb114));have n5_:=Aside0.mk ((by rw [hg];exact Nat.ne_of_lt (blk_lt (g:=gb113) (o:=.cells #[.int .i64 a0_0,.slice A0_1 l0_1.length c0_1,.slice A0_2 l0_2.length c0_2,.int .i64 a0_3,.int .i64 a0_4] 25 (0,0)) (by (with_reducible repeat (first|refine blk_drewN ?_ _|refine blk_drew ?_|refine blk_alloc ?_ _));exact BK113.out)) : gb113 ≠ gb114));have n6_:=Aside0.mk ((by rw [hg];exact Nat.ne_of_gt (blk_lt (g:=gb113) (o:=.cells #[.int .i64 a0_0,.slice A0_1 l0_1.length c0_1,.slice A0_2 l0_2.length c0_2,.int .i64 a0_3,.int .i64 a0_4] 25 (0,0)) (by (with_reducible repeat (first|refine blk_drewN ?_ _|refine blk_drew ?_|refine blk_alloc ?_ _));exact BK113.out)) : gb114 ≠ gb113));clear BK113;clear HB;have BK113:=n0_;have HB:=n1_;have BK114:=n2_;have GW114:=n3_;have GE114:=n4_;have NB113_114:=n5_;have NB114_113:=n6_;clear n0_ n1_ n2_ n3_ n4_ n5_ n6_;clear hb hbox hg))
 have n0_:=Aside0.mk (blk_drew BK113.out)
 have n1_:=Aside0.mk (blk_drew BK114.out)
 have n2_:=Aside0.mk (below_drew1 HB.out)
 clear BK113
 clear BK114
 clear HB
 have BK113:=n0_
 have BK114:=n1_
 have HB:=n2_
 clear n0_ n1_ n2_
 refine start_ (n:=10) (S:=fun w' => w'.cell? ⟨gb113,0,none⟩ = some (.int .i64 a0_0) ∧ w'.cell? ⟨gb113,1,none⟩ = some (.slice A0_1 l0_1.length c0_1) ∧ w'.cell? ⟨gb113,2,none⟩ = some (.slice A0_2 l0_2.length c0_2) ∧ w'.cell? ⟨gb113,3,none⟩ = some (.int .i64 a0_3) ∧ w'.cell? ⟨gb113,4,none⟩ = some (.int .i64 a0_4)) (ds:=[7,9]) #[false,false,false,false,false,false,false,false,false,false] (by kernel_rfl) rfl rfl ⟨(blk_cell BK113.out 0).trans rfl,(blk_cell BK113.out 1).trans rfl,(blk_cell BK113.out 2).trans rfl,(blk_cell BK113.out 3).trans rfl,(blk_cell BK113.out 4).trans rfl⟩ (fun hHeld => ?_);refine with_tabW town_copied.tab1 town_copied.bits1 (fun HT_ HW_ => ?_)
 generalize w5.drew = w6 at BK113 BK114 HB hHeld ⊢
 refine pure_ (i:=0) (N:=some 3) (v:=?_) (a':=?_) #[true,false,false,false,false,false,false,false,false,false] rfl rfl (any_of HT_.out (by kernel_rfl)) (fun _ _ _ h => h) (Or.inl ⟨by rfl,?_⟩) ?_ ?_
 rotate_left
 ·intro w'
  go_simp
  with_reducible rfl
 rotate_left
 ·simp only [Act.put,List.setIfInBounds_toArray,List.set_cons_zero,List.set_cons_succ,i64_w,i32_w]
  rfl
 refine pure_ (i:=3) (N:=some 6) (v:=?_) (a':=?_) #[true,false,false,true,false,false,false,false,false,false] rfl rfl (any_of HT_.out (by kernel_rfl)) (fun _ _ _ h => h) (Or.inl ⟨by rfl,?_⟩) ?_ ?_
 rotate_left
 ·intro w'
  go_simp
  with_reducible rfl
 rotate_left
 ·simp only [Act.put,List.setIfInBounds_toArray,List.set_cons_zero,List.set_cons_succ,i64_w,i32_w]
  rfl
 refine take_ (i:=1) (N:=some 4) (v:=?_) (a':=?_) #[true,true,false,true,false,false,false,false,false,false] rfl rfl (take_ofW HT_.out HW_.out (by kernel_rfl)) (fun _ _ _ h => h) (Or.inl ⟨by rfl,?_⟩) hHeld ?_ ?_
 rotate_left
 ·rintro w' ⟨s0,s1,s2,s3,s4⟩
  go_simp
  with_reducible rfl
 rotate_left
 ·simp only [Act.put,List.setIfInBounds_toArray,List.set_cons_zero,List.set_cons_succ,i64_w,i32_w]
  rfl
 refine take_ (i:=4) (N:=some 7) (v:=?_) (a':=?_) #[true,true,false,true,true,false,false,false,false,false] rfl rfl (take_ofW HT_.out HW_.out (by kernel_rfl)) (fun _ _ _ h => h) (Or.inl ⟨by rfl,?_⟩) hHeld ?_ ?_
 rotate_left
 ·rintro w' ⟨s0,s1,s2,s3,s4⟩
  go_simp
  with_reducible rfl
 rotate_left
 ·simp only [Act.put,List.setIfInBounds_toArray,List.set_cons_zero,List.set_cons_succ,i64_w,i32_w]
  rfl
 refine one_ (i:=2) (N:=some 5) #[true,true,true,true,true,false,false,false,false,false] rfl rfl (one_of HT_.out (by kernel_rfl)) (by decide) (fun K hK => ?_)
 refine goes_ Try.func77 (by kernel_rfl) rfl #[.slice A0_1 l0_1.length c0_1] (by rfl) rfl rfl (by (try simp only [List.map_toArray,List.map_cons,List.map_nil]);first|done|rfl|(simp only [List.length_drop,List.length_take];rfl)) ?_
 with_reducible refine (api_House_77.calls _ _ l0_1 t115 _ ?side1 ?side2 A2.out).mono ?_
 (case side1 => repeat (first|exact (Kd.C_below HR0_1.out HB.out)|(with_reducible refine Kd.C_alloc ?_ _)|(with_reducible refine Kd.C_drewN ?_ _)|(with_reducible refine Kd.C_drew ?_)))
 (case side2 => exact HC0_1.out)
 rintro e w7 ⟨v116,rfl,ho0,hb⟩
 refine ⟨_,rfl,?_⟩
 have n0_:=Aside0.mk (Kd.R_lower ho0 (below_size (by repeat (first|(with_reducible first|exact HB.out|apply below_alloc|apply pw_below_drewN|apply below_drew1|refine below_set ?_ GE113.out|refine below_set ?_ GE114.out)|exact HB.out))))
 have n1_:=Aside0.mk (blk_below (g:=gb113) (o:=.cells #[.int .i64 a0_0,.slice A0_1 l0_1.length c0_1,.slice A0_2 l0_2.length c0_2,.int .i64 a0_3,.int .i64 a0_4] 25 (0,0)) (by (with_reducible repeat (first|refine blk_drewN ?_ _|refine blk_drew ?_|refine blk_alloc ?_ _));exact BK113.out) hb)
 have n2_:=Aside0.mk (blk_below (g:=gb114) (o:=.cells #[.int .i64 0,.slice none 0 0,.slice none 0 0,.int .i64 0,.int .i64 0] 25 (0,0)) (by (with_reducible repeat (first|refine blk_drewN ?_ _|refine blk_drew ?_|refine blk_alloc ?_ _));exact BK114.out) hb)
 have n3_:=Aside0.mk (below_step (by repeat (first|(with_reducible first|exact HB.out|apply below_alloc|apply pw_below_drewN|apply below_drew1|refine below_set ?_ GE113.out|refine below_set ?_ GE114.out)|exact HB.out)) hb)
 clear BK113
 clear BK114
 clear HB
 have HO117:=n0_
 have BK113:=n1_
 have BK114:=n2_
 have HB:=n3_
 clear n0_ n1_ n2_ n3_
 (try clear hb)
 (try clear hb2)
 (try clear hk)
 (try clear hi)
 (try clear ho0)
 refine hK.out _ _ ⟨(blk_cell BK113.out 0).trans rfl,(blk_cell BK113.out 1).trans rfl,(blk_cell BK113.out 2).trans rfl,(blk_cell BK113.out 3).trans rfl,(blk_cell BK113.out 4).trans rfl⟩ (fun hHeld => ?_)
 clear hK K
 refine norm_ (a':=?_) ?_ ?_
 rotate_left
 ·show Act.put _ (some 5) _ = _
  simp only [Act.put,List.setIfInBounds_toArray,List.set_cons_zero,List.set_cons_succ,i64_w,i32_w]
  rfl
 refine pure_ (i:=6) (N:=some 9) (v:=?_) (a':=?_) #[true,true,true,true,true,false,true,false,false,false] rfl rfl (any_of HT_.out (by kernel_rfl)) (fun _ _ _ h => h) (Or.inl ⟨by rfl,?_⟩) ?_ ?_
 rotate_left
 ·intro w'
  go_simp
  with_reducible rfl
 rotate_left
 ·simp only [Act.put,List.setIfInBounds_toArray,List.set_cons_zero,List.set_cons_succ,i64_w,i32_w]
  rfl
 refine one_ (i:=5) (N:=some 8) #[true,true,true,true,true,true,true,false,false,false] rfl rfl (one_of HT_.out (by kernel_rfl)) (by decide) (fun K hK => ?_)
 refine goes_ Try.func72 (by kernel_rfl) rfl #[.slice A0_2 l0_2.length c0_2] (by rfl) rfl rfl (by (try simp only [List.map_toArray,List.map_cons,List.map_nil]);first|done|rfl|(simp only [List.length_drop,List.length_take];rfl)) ?_
 with_reducible refine (slices_Clone_int_int.calls _ _ l0_2 t118 _ ?side1 ?side2 A3.out).mono ?_
 (case side1 => repeat (first|exact (Kd.C_below HR0_2.out HB.out)|(with_reducible refine Kd.C_alloc ?_ _)|(with_reducible refine Kd.C_drewN ?_ _)|(with_reducible refine Kd.C_drew ?_)))
 (case side2 => exact HC0_2.out)
 rintro e w8 ⟨v119,rfl,ho0,hb⟩
 refine ⟨_,rfl,?_⟩
 have n0_:=Aside0.mk (Kd.R_below (by (with_reducible repeat (first|apply Kd.R_alloc|apply Kd.R_drewN|apply Kd.R_drew));exact HO117.out) hb)
 have n1_:=Aside0.mk (Kd.R_lower ho0 (below_size (by repeat (first|(with_reducible first|exact HB.out|apply below_alloc|apply pw_below_drewN|apply below_drew1|refine below_set ?_ GE113.out|refine below_set ?_ GE114.out)|exact HB.out))))
 have n2_:=Aside0.mk (blk_below (g:=gb113) (o:=.cells #[.int .i64 a0_0,.slice A0_1 l0_1.length c0_1,.slice A0_2 l0_2.length c0_2,.int .i64 a0_3,.int .i64 a0_4] 25 (0,0)) (by (with_reducible repeat (first|refine blk_drewN ?_ _|refine blk_drew ?_|refine blk_alloc ?_ _));exact BK113.out) hb)
 have n3_:=Aside0.mk (blk_below (g:=gb114) (o:=.cells #[.int .i64 0,.slice none 0 0,.slice none 0 0,.int .i64 0,.int .i64 0] 25 (0,0)) (by (with_reducible repeat (first|refine blk_drewN ?_ _|refine blk_drew ?_|refine blk_alloc ?_ _));exact BK114.out) hb)
 have n4_:=Aside0.mk (below_step (by repeat (first|(with_reducible first|exact HB.out|apply below_alloc|apply pw_below_drewN|apply below_drew1|refine below_set ?_ GE113.out|refine below_set ?_ GE114.out)|exact HB.out)) hb)
 clear HO117
 clear BK113
 clear BK114
 clear HB
 have HO117:=n0_
 have HO120:=n1_
 have BK113:=n2_
 have BK114:=n3_
 have HB:=n4_
 clear n0_ n1_ n2_ n3_ n4_
 (try clear hb)
 (try clear hb2)
 (try clear hk)
 (try clear hi)
 (try clear ho0)
 obtain ⟨Ao9,co9,eo9⟩:=Kd.R_slice HO117.out
 (first|subst eo9|(injection eo9 with f1_ f2_ f3_;have f4_:=f1_.symm;have f5_:=f3_.symm;clear f1_ f2_ f3_;subst f4_;subst f5_))
 obtain ⟨Ao11,co11,eo11⟩:=Kd.R_slice HO120.out
 (first|subst eo11|(injection eo11 with f1_ f2_ f3_;have f4_:=f1_.symm;have f5_:=f3_.symm;clear f1_ f2_ f3_;subst f4_;subst f5_))
 refine hK.out _ _ ⟨(blk_cell BK113.out 0).trans rfl,(blk_cell BK113.out 1).trans rfl,(blk_cell BK113.out 2).trans rfl,(blk_cell BK113.out 3).trans rfl,(blk_cell BK113.out 4).trans rfl⟩ (fun hHeld => ?_)
 clear hK K
 refine norm_ (a':=?_) ?_ ?_
 rotate_left
 ·show Act.put _ (some 8) _ = _
  simp only [Act.put,List.setIfInBounds_toArray,List.set_cons_zero,List.set_cons_succ,i64_w,i32_w]
  rfl
 refine last_ (i:=7) (N:=none) #[true,true,true,true,true,true,true,true,false,false] rfl rfl (one_of HT_.out (by kernel_rfl)) (by decide) (fun K hK => ?_)
 have hs10 : w8.cell? ⟨gb113,1,none⟩ = some (.slice A0_1 l0_1.length c0_1):=(blk_cell BK113.out 1).trans rfl
 have hfs10:=blk_frozen BK113.out 1
 have hns10_1:=NB114_113.out
 have hms10_1:=NB113_114.out
 refine skip_ (w1:=?_) (by rfl) rfl ?_ ?_
 rotate_left
 ·go_simp
  rfl
 refine hK.out _ _ ?_
 clear hK K
 refine pure_ (i:=8) (N:=some 10) (v:=?_) (a':=?_) #[true,true,true,true,true,true,true,true,true,false] rfl rfl (any_of HT_.out (by kernel_rfl)) (fun _ _ _ h => h) (Or.inl ⟨by rfl,?_⟩) ?_ ?_
 rotate_left
 ·intro w'
  go_simp
  with_reducible rfl
 rotate_left
 ·simp only [Act.put,List.setIfInBounds_toArray,List.set_cons_zero,List.set_cons_succ,i64_w,i32_w]
  rfl
 refine last_ (i:=9) (N:=none) #[true,true,true,true,true,true,true,true,true,true] rfl rfl (one_of HT_.out (by kernel_rfl)) (by decide) (fun K hK => ?_)
 have hs12 : w8.cell? ⟨gb113,2,none⟩ = some (.slice A0_2 l0_2.length c0_2):=(blk_cell BK113.out 2).trans rfl
 have hfs12:=blk_frozen BK113.out 2
 have hns12_1:=NB114_113.out
 have hms12_1:=NB113_114.out
 refine skip_ (w1:=?_) (by rfl) rfl ?_ ?_
 rotate_left
 ·go_simp
  rfl
 refine hK.out _ _ ?_
 clear hK K
 refine done_ (done_of HT_.out (by kernel_rfl)) ?_
 have hnb13:=NB113_114.out
 have hnc13:=NB114_113.out
 have hcz14_0 : w8.cell? ⟨gb113,0,none⟩ = some (.int .i64 a0_0):=(blk_cell BK113.out 0).trans rfl
 have hcz14_1 : w8.cell? ⟨gb113,1,none⟩ = some (.slice A0_1 l0_1.length c0_1):=(blk_cell BK113.out 1).trans rfl
 have hcz14_2 : w8.cell? ⟨gb113,2,none⟩ = some (.slice A0_2 l0_2.length c0_2):=(blk_cell BK113.out 2).trans rfl
 have hcz14_3 : w8.cell? ⟨gb113,3,none⟩ = some (.int .i64 a0_3):=(blk_cell BK113.out 3).trans rfl
 have hcz14_4 : w8.cell? ⟨gb113,4,none⟩ = some (.int .i64 a0_4):=(blk_cell BK113.out 4).trans rfl
 have hfz14_0:=blk_frozen BK113.out 0
 have hfz14_1:=blk_frozen BK113.out 1
 have hfz14_2:=blk_frozen BK113.out 2
 have hfz14_3:=blk_frozen BK113.out 3
 have hfz14_4:=blk_frozen BK113.out 4
 have hcz15_0 : w8.cell? ⟨gb114,0,none⟩ = some (.int .i64 0):=(blk_cell BK114.out 0).trans rfl
 have hcz15_1 : w8.cell? ⟨gb114,1,none⟩ = some (.slice none 0 0):=(blk_cell BK114.out 1).trans rfl
 have hcz15_2 : w8.cell? ⟨gb114,2,none⟩ = some (.slice none 0 0):=(blk_cell BK114.out 2).trans rfl
 have hcz15_3 : w8.cell? ⟨gb114,3,none⟩ = some (.int .i64 0):=(blk_cell BK114.out 3).trans rfl
 have hcz15_4 : w8.cell? ⟨gb114,4,none⟩ = some (.int .i64 0):=(blk_cell BK114.out 4).trans rfl
 have hfz15_0:=blk_frozen BK114.out 0
 have hfz15_1:=blk_frozen BK114.out 1
 have hfz15_2:=blk_frozen BK114.out 2
 have hfz15_3:=blk_frozen BK114.out 3
 have hfz15_4:=blk_frozen BK114.out 4
 try go_wp2
 refine bodyPost_ret (results_cell_row rfl _ _ gb114 25 #[.int .i64 a0_0,.slice Ao9 t115.length co9,.slice Ao11 t118.length co11,.int .i64 a0_3,.int .i64 a0_4] (0,0) _ rfl (by (with_reducible repeat (first|refine blk_drewN ?_ _|refine blk_drew ?_|refine blk_alloc ?_ _));refine blk_put (cs:=#[.int .i64 a0_0,.slice Ao9 t115.length co9,.slice Ao11 t118.length co11,.int .i64 a0_3,.int .i64 0]) ?_ 4 _ rfl;(with_reducible repeat (first|refine blk_drewN ?_ _|refine blk_drew ?_|refine blk_alloc ?_ _));refine blk_put (cs:=#[.int .i64 a0_0,.slice Ao9 t115.length co9,.slice Ao11 t118.length co11,.int .i64 0,.int .i64 0]) ?_ 3 _ rfl;(with_reducible repeat (first|refine blk_drewN ?_ _|refine blk_drew ?_|refine blk_alloc ?_ _));refine blk_put (cs:=#[.int .i64 a0_0,.slice Ao9 t115.length co9,.slice none 0 0,.int .i64 0,.int .i64 0]) ?_ 2 _ rfl;(with_reducible repeat (first|refine blk_drewN ?_ _|refine blk_drew ?_|refine blk_alloc ?_ _));refine blk_put (cs:=#[.int .i64 a0_0,.slice none 0 0,.slice none 0 0,.int .i64 0,.int .i64 0]) ?_ 1 _ rfl;(with_reducible repeat (first|refine blk_drewN ?_ _|refine blk_drew ?_|refine blk_alloc ?_ _));refine blk_put (cs:=#[.int .i64 0,.slice none 0 0,.slice none 0 0,.int .i64 0,.int .i64 0]) ?_ 0 _ rfl;(with_reducible repeat (first|refine blk_drewN ?_ _|refine blk_drew ?_|refine blk_alloc ?_ _));refine blk_far ?_ NB114_113.out _;(with_reducible repeat (first|refine blk_drewN ?_ _|refine blk_drew ?_|refine blk_alloc ?_ _));refine blk_far ?_ NB114_113.out _;(with_reducible repeat (first|refine blk_drewN ?_ _|refine blk_drew ?_|refine blk_alloc ?_ _));exact BK114.out) Try.underlying25 rfl (by kernel_rfl)) rfl ?_
 exact ⟨_,_,by first|rfl|(simp [errW_none,errW_some] <;> rfl)|(simp [*,errW_none,errW_some] <;> rfl),by (with_reducible repeat (first|apply Kd.R_alloc|apply Kd.R_drewN|apply Kd.R_drew));exact Kd.R_mono (Kd.R_far (p:=⟨gb114,4,none⟩) (Kd.R_far (p:=⟨gb114,3,none⟩) (Kd.R_far (p:=⟨gb114,2,none⟩) (Kd.R_far (p:=⟨gb114,1,none⟩) (Kd.R_far (p:=⟨gb114,0,none⟩) (Kd.R_far (p:=⟨gb113,2,none⟩) (Kd.R_far (p:=⟨gb113,1,none⟩) (Kd.R_types (Kd.R_types HO117.out BK113.out (by decide)) BK114.out (by decide)) (fun _ hk => hk.1.2) (.slice Ao9 t115.length co9)) (fun _ hk => hk.1.2) (.slice Ao11 t118.length co11)) (fun _ hk => hk.2) (.int .i64 a0_0)) (fun _ hk => hk.2) (.slice Ao9 t115.length co9)) (fun _ hk => hk.2) (.slice Ao11 t118.length co11)) (fun _ hk => hk.2) (.int .i64 a0_3)) (fun _ hk => hk.2) (.int .i64 a0_4)) (fun _ hk => trivial),by (with_reducible repeat (first|apply Kd.R_alloc|apply Kd.R_drewN|apply Kd.R_drew));exact Kd.R_mono (Kd.R_far (p:=⟨gb114,4,none⟩) (Kd.R_far (p:=⟨gb114,3,none⟩) (Kd.R_far (p:=⟨gb114,2,none⟩) (Kd.R_far (p:=⟨gb114,1,none⟩) (Kd.R_far (p:=⟨gb114,0,none⟩) (Kd.R_far (p:=⟨gb113,2,none⟩) (Kd.R_far (p:=⟨gb113,1,none⟩) (Kd.R_types (Kd.R_types HO120.out BK113.out (by decide)) BK114.out (by decide)) (fun _ hk => hk.1.2) (.slice Ao9 t115.length co9)) (fun _ hk => hk.1.2) (.slice Ao11 t118.length co11)) (fun _ hk => hk.2) (.int .i64 a0_0)) (fun _ hk => hk.2) (.slice Ao9 t115.length co9)) (fun _ hk => hk.2) (.slice Ao11 t118.length co11)) (fun _ hk => hk.2) (.int .i64 a0_3)) (fun _ hk => hk.2) (.int .i64 a0_4)) (fun _ hk => trivial),by repeat (first|(with_reducible first|exact HB.out|apply below_alloc|apply pw_below_drewN|apply below_drew1|refine below_set ?_ GE113.out|refine below_set ?_ GE114.out)|exact HB.out)⟩

/-! ### town_Month: function 16 -/
def town_Month.l0 : Nat → Int → Int → Int → List (S68) → List Int → Int → Int → Option (Int × (List (S68)) × List Int × Int × Int × Int)
 | 0,_,_,_,_,_,_,_ => none
 | k + 1,x18,x19,x122000,x122001,x122002,x122003,x122004 => if x19 < x18 then (if 0 ≤ x19 then (if x19 < (x122002.length : Int) then (town_Month.l0 k x18 (wrap64 (x19 + 1)) x122000 x122001 (x122002.set (x19 : Int).toNat (wrap64 ((rd x122002 x19) - (wrap64 (Int.tdiv (rd x122002 x19) 10))))) x122003 x122004) else (none)) else (none)) else (some (x122000,x122001,x122002,x122003,x122004,0))
def town_Month.f (k : Nat) (a0_0 : Int) (l0_1 : List (S68)) (l0_2 : List Int) (a0_3 : Int) (a0_4 : Int) : Option (Int × (List (S68)) × List Int × Int × Int × Int) := (town_sound.f k a0_0 l0_1 l0_2 a0_3 a0_4).bind fun t123 => (if t123 = 0 then ((town_copied.f a0_0 l0_1 l0_2 a0_3 a0_4).bind fun bt124 => (town_Month.l0 k (bt124.2.2.1.length : Int) 0 bt124.1 bt124.2.1 bt124.2.2.1 0 bt124.2.2.2.2)) else (some (0, ([] : List (S68)), ([] : List Int), 0, 0, t123)))
theorem town_Month.mono_l : ∀ k, (∀ y0 y1 y2 y3 y4 y5 y6, LeO (town_Month.l0 k y0 y1 y2 y3 y4 y5 y6) (town_Month.l0 (k + 1) y0 y1 y2 y3 y4 y5 y6))
 | 0 => fun _ _ _ _ _ _ _ r h => by simp [town_Month.l0] at h
 | k + 1 => by
  have ih0:=town_Month.mono_l k
  ·intro y0 y1 y2 y3 y4 y5 y6
   unfold town_Month.l0
   repeat' first
   | (with_reducible exact ih0 _ _ _ _ _ _ _)
   | (with_reducible exact town_sound.mono _ _ _ _ _ _)
   | (with_reducible exact LeO.refl _)
   | (with_reducible exact LeO.none _)
   | (with_reducible refine LeO.ite ?_ ?_)
   | (with_reducible refine LeO.bind ?_ (fun _ => ?_))
   | exact ih0 _ _ _ _ _ _ _
   | exact town_sound.mono _ _ _ _ _ _
   | exact LeO.none _
   | refine LeO.ite ?_ ?_
   | refine LeO.bind ?_ (fun _ => ?_)
theorem town_Month.mono : ∀ a0 a1 a2 a3 a4 k, LeO (town_Month.f k a0 a1 a2 a3 a4) (town_Month.f (k + 1) a0 a1 a2 a3 a4) := by
 intro a0 a1 a2 a3 a4 k
 have ih0:=town_Month.mono_l k
 unfold town_Month.f
 repeat' first
   | (with_reducible exact ih0 _ _ _ _ _ _ _)
   | (with_reducible exact town_sound.mono _ _ _ _ _ _)
   | (with_reducible exact LeO.refl _)
   | (with_reducible exact LeO.none _)
   | (with_reducible refine LeO.ite ?_ ?_)
   | (with_reducible refine LeO.bind ?_ (fun _ => ?_))
   | exact ih0 _ _ _ _ _ _ _
   | exact town_sound.mono _ _ _ _ _ _
   | exact LeO.none _
   | refine LeO.ite ?_ ?_
   | refine LeO.bind ?_ (fun _ => ?_)
set_option maxHeartbeats 8000000 in
set_option maxRecDepth 100000 in
theorem town_Month.calls (k : Nat) (a0_0 : Int) (A0_1 : Option Addr) (c0_1 : Nat) (l0_1 : List (S68)) (A0_2 : Option Addr) (c0_2 : Nat) (l0_2 : List Int) (a0_3 : Int) (a0_4 : Int) (r1 : Int) (r2 : List (S68)) (r3 : List Int) (r4 : Int) (r5 : Int) (r6 : Int) (w : World) (hr0_1 : Kd.C k68 w A0_1 l0_1.length l0_1) (hc0_1 : l0_1.length ≤ c0_1) (hr0_2 : Kd.C (Kd.int .i64) w A0_2 l0_2.length l0_2) (hc0_2 : l0_2.length ≤ c0_2) (h : town_Month.f k a0_0 l0_1 l0_2 a0_3 a0_4 = some (r1, r2, r3, r4, r5, r6)) :
  Calls Try.prog 16 #[.agg #[.int .i64 a0_0,.slice A0_1 l0_1.length c0_1,.slice A0_2 l0_2.length c0_2,.int .i64 a0_3,.int .i64 a0_4]] w fun e w' => ∃ v1_ v2_ : Value,e = .returned (.tuple #[.agg #[.int .i64 r1,v1_,v2_,.int .i64 r4,.int .i64 r5],.int .i64 r6]) ∧ Kd.R k68 68 w' w.heap.size (fun _ => True) v1_ r2 ∧ Kd.R (Kd.int .i64) 3 w' w.heap.size (fun _ => True) v2_ r3 ∧ Below w.heap.size w w':=by
 have hu25:=Try.underlying25
 have HR0_1:=Aside0.mk hr0_1
 have HC0_1:=Aside0.mk hc0_1
 clear hr0_1 hc0_1
 have HR0_2:=Aside0.mk hr0_2
 have HC0_2:=Aside0.mk hc0_2
 clear hr0_2 hc0_2
 have HB:=Aside0.mk (Below.refl w.heap.size w)
 have H : ((town_sound.f k a0_0 l0_1 l0_2 a0_3 a0_4).bind fun t123 => (if t123 = 0 then ((town_copied.f a0_0 l0_1 l0_2 a0_3 a0_4).bind fun bt124 => (town_Month.l0 k (bt124.2.2.1.length : Int) 0 bt124.1 bt124.2.1 bt124.2.2.1 0 bt124.2.2.2.2)) else (some (0,([] : List (S68)),([] : List Int),0,0,t123)))) = some (r1,r2,r3,r4,r5,r6):=h
 clear h
 replace H:=Option.bind_eq_some_iff.mp H
 obtain ⟨t123,A20,H⟩:=H
 replace H : (if t123 = 0 then ((town_copied.f a0_0 l0_1 l0_2 a0_3 a0_4).bind fun bt124 => (town_Month.l0 k (bt124.2.2.1.length : Int) 0 bt124.1 bt124.2.1 bt124.2.2.1 0 bt124.2.2.2.2)) else (some (0,([] : List (S68)),([] : List Int),0,0,t123))) = some (r1,r2,r3,r4,r5,r6):=H
 have A2:=Aside0.mk A20
 clear A20
 by_cases c3 : t123 = 0
 ·rw [if_pos c3] at H
  have c3b0 : (t123 == 0) = true:=beq_iff_eq.mpr c3
  have c3b1 : (t123 != 0) = false:=bne_eq_false_iff_eq.mpr c3
  clear c3
  replace H:=Option.bind_eq_some_iff.mp H
  obtain ⟨⟨t124,t125,t128,t131,t132⟩,A40,H⟩:=H
  replace H : (town_Month.l0 k (t128.length : Int) 0 t124 t125 t128 0 t132) = some (r1,r2,r3,r4,r5,r6):=H
  have A4:=Aside0.mk A40
  clear A40
  have H':=Aside0.mk H
  clear H
  go_enter Try.func16,Try.ntmps16
  go_wp2_with (first|((with_reducible refine gate_dst (N:=1) rfl ?_);refine box_event ?hg (N:=1) ?hd (cs:=#[.int .i64 a0_0,.slice A0_1 l0_1.length c0_1,.slice A0_2 l0_2.length c0_2,.int .i64 a0_3,.int .i64 a0_4]) (t:=25) ?hr ?_;(case hd => rfl);(case hg => rfl);(case hr => first|(go_simp;done)|(go_simp;rfl));intro gb121 hg w5 hbox hb;have n0_:=Aside0.mk (below_step (by repeat (first|(with_reducible first|exact HB.out|apply below_alloc|apply pw_below_drewN|apply below_drew1)|exact HB.out)) hb);have n1_:=Aside0.mk (hbox);have n2_:=Aside0.mk ((by rw [hg];exact (below_size (by repeat (first|(with_reducible first|exact HB.out|apply below_alloc|apply pw_below_drewN|apply below_drew1)|exact HB.out))) : w.heap.size ≤ gb121));have n3_:=Aside0.mk ((by rw [hg];exact (below_size (by repeat (first|(with_reducible first|exact HB.out|apply below_alloc|apply pw_below_drewN|apply below_drew1)|exact HB.out))) : w.heap.size ≤ gb121));clear HB;have HB:=n0_;have BK121:=n1_;have GW121:=n2_;have GE121:=n3_;clear n0_ n1_ n2_ n3_;clear hb hbox hg)|((with_reducible refine gate_dst (N:=2) rfl ?_);refine box_event ?hg (N:=2) ?hd (cs:=#[.int .i64 0,.slice none 0 0,.slice none 0 0,.int .i64 0,.int .i64 0]) (t:=25) ?hr ?_;(case hd => rfl);(case hg => rfl);(case hr => first|(go_simp;done)|(go_simp;rfl));intro gb122 hg w6 hbox hb;have n0_:=Aside0.mk (blk_below (g:=gb121) (o:=.cells #[.int .i64 a0_0,.slice A0_1 l0_1.length c0_1,.slice A0_2 l0_2.length c0_2,.int .i64 a0_3,.int .i64 a0_4] 25 (0,0)) (by (with_reducible repeat (first|refine blk_drewN ?_ _|refine blk_drew ?_|refine blk_alloc ?_ _));exact BK121.out) hb);have n1_:=Aside0.mk (below_step (by repeat (first|(with_reducible first|exact HB.out|apply below_alloc|apply pw_below_drewN|apply below_drew1|refine below_set ?_ GE121.out)|exact HB.out)) hb);have n2_:=Aside0.mk (hbox);have n3_:=Aside0.mk ((by rw [hg];exact (below_size (by repeat (first|(with_reducible first|exact HB.out|apply below_alloc|apply pw_below_drewN|apply below_drew1|refine below_set ?_ GE121.out)|exact HB.out))) : w.heap.size ≤ gb122));have n4_:=Aside0.mk ((by rw [hg];exact (below_size (by repeat (first|(with_reducible first|exact HB.out|apply below_alloc|apply pw_below_drewN|apply below_drew1|refine below_set ?_ GE121.out)|exact HB.out))) : w.heap.size ≤ gb122));have n5_:=Aside0.mk ((by rw [hg];exact Nat.ne_of_lt (blk_lt (g:=gb121) (o:=.cells #[.int .i64 a0_0,.slice A0_1 l0_1.length c0_1,.slice A0_2 l0_2.length c0_2,.int .i64 a0_3,.int .i64 a0_4] 25 (0,0)) (by (with_reducible repeat (first|refine blk_drewN ?_ _|refine blk_drew ?_|refine blk_alloc ?_ _));exact BK121.out)) : gb121 ≠ gb122));have n6_:=Aside0.mk ((by rw [hg];exact Nat.ne_of_gt (blk_lt (g:=gb121) (o:=.cells #[.int .i64 a0_0,.slice A0_1 l0_1.length c0_1,.slice A0_2 l0_2.length c0_2,.int .i64 a0_3,.int .i64 a0_4] 25 (0,0)) (by (with_reducible repeat (first|refine blk_drewN ?_ _|refine blk_drew ?_|refine blk_alloc ?_ _));exact BK121.out)) : gb122 ≠ gb121));clear BK121;clear HB;have BK121:=n0_;have HB:=n1_;have BK122:=n2_;have GW122:=n3_;have GE122:=n4_;have NB121_122:=n5_;have NB122_121:=n6_;clear n0_ n1_ n2_ n3_ n4_ n5_ n6_;clear hb hbox hg;have hnb7:=NB121_122.out;have hnc7:=NB122_121.out;have hcz8_0 : w6.cell? ⟨gb121,0,none⟩ = some (.int .i64 a0_0):=(blk_cell BK121.out 0).trans rfl;have hcz8_1 : w6.cell? ⟨gb121,1,none⟩ = some (.slice A0_1 l0_1.length c0_1):=(blk_cell BK121.out 1).trans rfl;have hcz8_2 : w6.cell? ⟨gb121,2,none⟩ = some (.slice A0_2 l0_2.length c0_2):=(blk_cell BK121.out 2).trans rfl;have hcz8_3 : w6.cell? ⟨gb121,3,none⟩ = some (.int .i64 a0_3):=(blk_cell BK121.out 3).trans rfl;have hcz8_4 : w6.cell? ⟨gb121,4,none⟩ = some (.int .i64 a0_4):=(blk_cell BK121.out 4).trans rfl;have hfz8_0:=blk_frozen BK121.out 0;have hfz8_1:=blk_frozen BK121.out 1;have hfz8_2:=blk_frozen BK121.out 2;have hfz8_3:=blk_frozen BK121.out 3;have hfz8_4:=blk_frozen BK121.out 4)|((with_reducible refine gate_callee (f:=42) rfl ?_);refine goesL_ (some 8) rfl rfl Try.func42 (by kernel_rfl) rfl #[.agg #[.int .i64 a0_0,.slice A0_1 l0_1.length c0_1,.slice A0_2 l0_2.length c0_2,.int .i64 a0_3,.int .i64 a0_4]] rfl (by (try simp only [List.map_toArray,List.map_cons,List.map_nil]);first|done|rfl|(simp only [List.length_drop,List.length_take];rfl)) ?_;(with_reducible refine (town_sound.calls k a0_0 _ _ l0_1 _ _ l0_2 a0_3 a0_4 t123 _ ?side1 ?side2 ?side3 ?side4 A2.out).mono ?_);(case side1 => repeat (first|exact (Kd.C_below HR0_1.out HB.out)|(with_reducible refine Kd.C_alloc ?_ _)|(with_reducible refine Kd.C_drewN ?_ _)|(with_reducible refine Kd.C_drew ?_)));(case side2 => exact HC0_1.out);(case side3 => repeat (first|exact (Kd.C_below HR0_2.out HB.out)|(with_reducible refine Kd.C_alloc ?_ _)|(with_reducible refine Kd.C_drewN ?_ _)|(with_reducible refine Kd.C_drew ?_)));(case side4 => exact HC0_2.out);rintro e w9 ⟨rfl,hb⟩;refine ⟨_,rfl,?_⟩;have n0_:=Aside0.mk (blk_below (g:=gb121) (o:=.cells #[.int .i64 a0_0,.slice A0_1 l0_1.length c0_1,.slice A0_2 l0_2.length c0_2,.int .i64 a0_3,.int .i64 a0_4] 25 (0,0)) (by (with_reducible repeat (first|refine blk_drewN ?_ _|refine blk_drew ?_|refine blk_alloc ?_ _));exact BK121.out) hb);have n1_:=Aside0.mk (blk_below (g:=gb122) (o:=.cells #[.int .i64 0,.slice none 0 0,.slice none 0 0,.int .i64 0,.int .i64 0] 25 (0,0)) (by (with_reducible repeat (first|refine blk_drewN ?_ _|refine blk_drew ?_|refine blk_alloc ?_ _));exact BK122.out) hb);have n2_:=Aside0.mk (below_step (by repeat (first|(with_reducible first|exact HB.out|apply below_alloc|apply pw_below_drewN|apply below_drew1|refine below_set ?_ GE121.out|refine below_set ?_ GE122.out)|exact HB.out)) hb);clear BK121;clear BK122;clear HB;have BK121:=n0_;have BK122:=n1_;have HB:=n2_;clear n0_ n1_ n2_;(try clear hb);(try clear hb2);(try clear hk);(try clear hi);have hcz10_0 : w9.cell? ⟨gb121,0,none⟩ = some (.int .i64 a0_0):=(blk_cell BK121.out 0).trans rfl;have hcz10_1 : w9.cell? ⟨gb121,1,none⟩ = some (.slice A0_1 l0_1.length c0_1):=(blk_cell BK121.out 1).trans rfl;have hcz10_2 : w9.cell? ⟨gb121,2,none⟩ = some (.slice A0_2 l0_2.length c0_2):=(blk_cell BK121.out 2).trans rfl;have hcz10_3 : w9.cell? ⟨gb121,3,none⟩ = some (.int .i64 a0_3):=(blk_cell BK121.out 3).trans rfl;have hcz10_4 : w9.cell? ⟨gb121,4,none⟩ = some (.int .i64 a0_4):=(blk_cell BK121.out 4).trans rfl;have hfz10_0:=blk_frozen BK121.out 0;have hfz10_1:=blk_frozen BK121.out 1;have hfz10_2:=blk_frozen BK121.out 2;have hfz10_3:=blk_frozen BK121.out 3;have hfz10_4:=blk_frozen BK121.out 4)|((with_reducible refine gate_callee (f:=43) rfl ?_);refine goesL_ (some 14) rfl rfl Try.func43 (by kernel_rfl) rfl #[.agg #[.int .i64 a0_0,.slice A0_1 l0_1.length c0_1,.slice A0_2 l0_2.length c0_2,.int .i64 a0_3,.int .i64 a0_4]] rfl (by (try simp only [List.map_toArray,List.map_cons,List.map_nil]);first|done|rfl|(simp only [List.length_drop,List.length_take];rfl)) ?_;(with_reducible refine (town_copied.calls a0_0 _ _ l0_1 _ _ l0_2 a0_3 a0_4 t124 t125 t128 t131 t132 _ ?side1 ?side2 ?side3 ?side4 A4.out).mono ?_);(case side1 => repeat (first|exact (Kd.C_below HR0_1.out HB.out)|(with_reducible refine Kd.C_alloc ?_ _)|(with_reducible refine Kd.C_drewN ?_ _)|(with_reducible refine Kd.C_drew ?_)));(case side2 => exact HC0_1.out);(case side3 => repeat (first|exact (Kd.C_below HR0_2.out HB.out)|(with_reducible refine Kd.C_alloc ?_ _)|(with_reducible refine Kd.C_drewN ?_ _)|(with_reducible refine Kd.C_drew ?_)));(case side4 => exact HC0_2.out);rintro e w11 ⟨v126,v129,rfl,ho0,ho1,hb⟩;refine ⟨_,rfl,?_⟩;have n0_:=Aside0.mk (Kd.R_lower ho0 (below_size (by repeat (first|(with_reducible first|exact HB.out|apply below_alloc|apply pw_below_drewN|apply below_drew1|refine below_set ?_ GE121.out|refine below_set ?_ GE122.out)|exact HB.out))));have n1_:=Aside0.mk (Kd.R_lower ho1 (below_size (by repeat (first|(with_reducible first|exact HB.out|apply below_alloc|apply pw_below_drewN|apply below_drew1|refine below_set ?_ GE121.out|refine below_set ?_ GE122.out)|exact HB.out))));have n2_:=Aside0.mk (blk_below (g:=gb121) (o:=.cells #[.int .i64 a0_0,.slice A0_1 l0_1.length c0_1,.slice A0_2 l0_2.length c0_2,.int .i64 a0_3,.int .i64 a0_4] 25 (0,0)) (by (with_reducible repeat (first|refine blk_drewN ?_ _|refine blk_drew ?_|refine blk_alloc ?_ _));exact BK121.out) hb);have n3_:=Aside0.mk (blk_below (g:=gb122) (o:=.cells #[.int .i64 0,.slice none 0 0,.slice none 0 0,.int .i64 0,.int .i64 0] 25 (0,0)) (by (with_reducible repeat (first|refine blk_drewN ?_ _|refine blk_drew ?_|refine blk_alloc ?_ _));exact BK122.out) hb);have n4_:=Aside0.mk (below_step (by repeat (first|(with_reducible first|exact HB.out|apply below_alloc|apply pw_below_drewN|apply below_drew1|refine below_set ?_ GE121.out|refine below_set ?_ GE122.out)|exact HB.out)) hb);clear BK121;clear BK122;clear HB;have HO127:=n0_;have HO130:=n1_;have BK121:=n2_;have BK122:=n3_;have HB:=n4_;clear n0_ n1_ n2_ n3_ n4_;(try clear hb);(try clear hb2);(try clear hk);(try clear hi);(try clear ho0);(try clear ho1);have hcz12_0 : w11.cell? ⟨gb121,0,none⟩ = some (.int .i64 a0_0):=(blk_cell BK121.out 0).trans rfl;have hcz12_1 : w11.cell? ⟨gb121,1,none⟩ = some (.slice A0_1 l0_1.length c0_1):=(blk_cell BK121.out 1).trans rfl;have hcz12_2 : w11.cell? ⟨gb121,2,none⟩ = some (.slice A0_2 l0_2.length c0_2):=(blk_cell BK121.out 2).trans rfl;have hcz12_3 : w11.cell? ⟨gb121,3,none⟩ = some (.int .i64 a0_3):=(blk_cell BK121.out 3).trans rfl;have hcz12_4 : w11.cell? ⟨gb121,4,none⟩ = some (.int .i64 a0_4):=(blk_cell BK121.out 4).trans rfl;have hfz12_0:=blk_frozen BK121.out 0;have hfz12_1:=blk_frozen BK121.out 1;have hfz12_2:=blk_frozen BK121.out 2;have hfz12_3:=blk_frozen BK121.out 3;have hfz12_4:=blk_frozen BK121.out 4;obtain ⟨Ao13,co13,eo13⟩:=Kd.R_slice HO127.out;subst eo13;obtain ⟨Ao14,co14,eo14⟩:=Kd.R_slice HO130.out;subst eo14))
  go_loopg [19] k (fun kq v19 w' => ∃ (x19_1 : Int) (x122002_1 : List Int),v19 = .int .i64 x19_1 ∧ Aside0 (town_Month.l0 kq (t128.length : Int) x19_1 t124 t125 x122002_1 0 t132 = some (r1,r2,r3,r4,r5,r6)) ∧ Aside0 (kq ≤ k) ∧ Aside0 (Kd.R k68 68 w' w.heap.size (fun _ => True) (.slice Ao13 t125.length co13) t125) ∧ Aside0 (Kd.R (Kd.int .i64) 3 w' w.heap.size (fun _ => True) (.slice Ao14 t128.length co14) x122002_1) ∧ Aside0 (w'.heap[gb121]? = some (.cells #[.int .i64 t124,(.slice Ao13 t125.length co13),(.slice Ao14 t128.length co14),.int .i64 0,.int .i64 t132] 25 (0,0))) ∧ Aside0 (w'.heap[gb122]? = some (.cells #[.int .i64 0,(.slice none 0 0),(.slice none 0 0),.int .i64 0,.int .i64 0] 25 (0,0))) ∧ Aside0 (Below w.heap.size w w'))
  case atStart => exact ⟨(0),(t128),(by first|rfl|(simp;done)|(simp [*];done)),H',⟨Nat.le_refl _⟩,⟨by (with_reducible repeat (first|apply Kd.R_alloc|apply Kd.R_drewN|apply Kd.R_drew));exact Kd.R_mono (Kd.R_far (p:=⟨gb121,3,none⟩) (Kd.R_far (p:=⟨gb121,4,none⟩) (Kd.R_far (p:=⟨gb121,3,none⟩) (Kd.R_far (p:=⟨gb121,2,none⟩) (Kd.R_far (p:=⟨gb121,1,none⟩) (Kd.R_far (p:=⟨gb121,0,none⟩) (Kd.R_types HO127.out BK121.out (by decide)) (fun _ hk => hk.2) (.int .i64 t124)) (fun _ hk => hk.2) (.slice Ao13 t125.length co13)) (fun _ hk => hk.2) (.slice Ao14 t128.length co14)) (fun _ hk => hk.2) (.int .i64 t131)) (fun _ hk => hk.2) (.int .i64 t132)) (fun _ hk => hk.2) (.int .i64 0)) (fun _ hk => trivial)⟩,⟨by (with_reducible repeat (first|apply Kd.R_alloc|apply Kd.R_drewN|apply Kd.R_drew));exact Kd.R_mono (Kd.R_far (p:=⟨gb121,3,none⟩) (Kd.R_far (p:=⟨gb121,4,none⟩) (Kd.R_far (p:=⟨gb121,3,none⟩) (Kd.R_far (p:=⟨gb121,2,none⟩) (Kd.R_far (p:=⟨gb121,1,none⟩) (Kd.R_far (p:=⟨gb121,0,none⟩) (Kd.R_types HO130.out BK121.out (by decide)) (fun _ hk => hk.2) (.int .i64 t124)) (fun _ hk => hk.2) (.slice Ao13 t125.length co13)) (fun _ hk => hk.2) (.slice Ao14 t128.length co14)) (fun _ hk => hk.2) (.int .i64 t131)) (fun _ hk => hk.2) (.int .i64 t132)) (fun _ hk => hk.2) (.int .i64 0)) (fun _ hk => trivial)⟩,⟨by (with_reducible repeat (first|refine blk_drewN ?_ _|refine blk_drew ?_|refine blk_alloc ?_ _));refine blk_put (cs:=#[.int .i64 t124,.slice Ao13 t125.length co13,.slice Ao14 t128.length co14,.int .i64 t131,.int .i64 t132]) ?_ 3 _ rfl;(with_reducible repeat (first|refine blk_drewN ?_ _|refine blk_drew ?_|refine blk_alloc ?_ _));refine blk_put (cs:=#[.int .i64 t124,.slice Ao13 t125.length co13,.slice Ao14 t128.length co14,.int .i64 t131,.int .i64 a0_4]) ?_ 4 _ rfl;(with_reducible repeat (first|refine blk_drewN ?_ _|refine blk_drew ?_|refine blk_alloc ?_ _));refine blk_put (cs:=#[.int .i64 t124,.slice Ao13 t125.length co13,.slice Ao14 t128.length co14,.int .i64 a0_3,.int .i64 a0_4]) ?_ 3 _ rfl;(with_reducible repeat (first|refine blk_drewN ?_ _|refine blk_drew ?_|refine blk_alloc ?_ _));refine blk_put (cs:=#[.int .i64 t124,.slice Ao13 t125.length co13,.slice A0_2 l0_2.length c0_2,.int .i64 a0_3,.int .i64 a0_4]) ?_ 2 _ rfl;(with_reducible repeat (first|refine blk_drewN ?_ _|refine blk_drew ?_|refine blk_alloc ?_ _));refine blk_put (cs:=#[.int .i64 t124,.slice A0_1 l0_1.length c0_1,.slice A0_2 l0_2.length c0_2,.int .i64 a0_3,.int .i64 a0_4]) ?_ 1 _ rfl;(with_reducible repeat (first|refine blk_drewN ?_ _|refine blk_drew ?_|refine blk_alloc ?_ _));refine blk_put (cs:=#[.int .i64 a0_0,.slice A0_1 l0_1.length c0_1,.slice A0_2 l0_2.length c0_2,.int .i64 a0_3,.int .i64 a0_4]) ?_ 0 _ rfl;(with_reducible repeat (first|refine blk_drewN ?_ _|refine blk_drew ?_|refine blk_alloc ?_ _));exact BK121.out⟩,⟨by (with_reducible repeat (first|refine blk_drewN ?_ _|refine blk_drew ?_|refine blk_alloc ?_ _));refine blk_far ?_ NB122_121.out _;(with_reducible repeat (first|refine blk_drewN ?_ _|refine blk_drew ?_|refine blk_alloc ?_ _));refine blk_far ?_ NB122_121.out _;(with_reducible repeat (first|refine blk_drewN ?_ _|refine blk_drew ?_|refine blk_alloc ?_ _));refine blk_far ?_ NB122_121.out _;(with_reducible repeat (first|refine blk_drewN ?_ _|refine blk_drew ?_|refine blk_alloc ?_ _));refine blk_far ?_ NB122_121.out _;(with_reducible repeat (first|refine blk_drewN ?_ _|refine blk_drew ?_|refine blk_alloc ?_ _));refine blk_far ?_ NB122_121.out _;(with_reducible repeat (first|refine blk_drewN ?_ _|refine blk_drew ?_|refine blk_alloc ?_ _));refine blk_far ?_ NB122_121.out _;(with_reducible repeat (first|refine blk_drewN ?_ _|refine blk_drew ?_|refine blk_alloc ?_ _));exact BK122.out⟩,⟨by repeat (first|(with_reducible first|exact HB.out|apply below_alloc|apply pw_below_drewN|apply below_drew1|refine below_set ?_ GE121.out|refine below_set ?_ GE122.out)|exact HB.out)⟩⟩
  case round =>
   clear H'
   try clear c1
   try clear p2
   try clear c3
   try clear c3b0
   try clear c3b1
   try clear c4
   try clear c7
   try clear hcz10_0
   try clear hcz10_1
   try clear hcz10_2
   try clear hcz10_3
   try clear hcz10_4
   try clear hcz12_0
   try clear hcz12_1
   try clear hcz12_2
   try clear hcz12_3
   try clear hcz12_4
   try clear hcz8_0
   try clear hcz8_1
   try clear hcz8_2
   try clear hcz8_3
   try clear hcz8_4
   try clear hfz10_0
   try clear hfz10_1
   try clear hfz10_2
   try clear hfz10_3
   try clear hfz10_4
   try clear hfz12_0
   try clear hfz12_1
   try clear hfz12_2
   try clear hfz12_3
   try clear hfz12_4
   try clear hfz8_0
   try clear hfz8_1
   try clear hfz8_2
   try clear hfz8_3
   try clear hfz8_4
   obtain ⟨x19_1,x122002_1,rfl,HA,HK1,HO_122001,HO_122002,BK121,BK122,HB⟩:=hrel
   have hl122002_1:=(Kd.R_reads' HO_122002.out).1
   rw [hl122002_1] at HO_122002
   (try simp only [hl122002_1])
   (try simp only [hl122002_1] at BK121)
   (try simp only [hl122002_1] at BK122)
   (try simp only [hl122002_1] at HO_122001)
   cases gk with
   | zero => exact absurd HA.out (by simp [town_Month.l0])
   | succ k1 =>
    have H:=HA.out
    clear HA
    simp only [town_Month.l0] at H
    by_cases c15 : x19_1 < (t128.length : Int)
    ·rw [if_pos c15] at H
     have c15b0 : decide (x19_1 < (t128.length : Int)) = true:=decide_eq_true c15
     (try simp only [hl122002_1] at c15b0)
     clear c15
     by_cases c16 : 0 ≤ x19_1
     ·rw [if_pos c16] at H
      have c16b0 : decide (0 ≤ x19_1) = true:=decide_eq_true c16
      clear c16
      by_cases c17 : x19_1 < (x122002_1.length : Int)
      ·rw [if_pos c17] at H
       have c17b0 : decide (x19_1 < (x122002_1.length : Int)) = true:=decide_eq_true c17
       (try simp only [hl122002_1] at c17b0)
       clear c17
       obtain ⟨y134,hy134⟩ : ∃ y_ : List Int,y_ = (x122002_1.set (x19_1 : Int).toNat (wrap64 ((rd x122002_1 x19_1) - (wrap64 (Int.tdiv (rd x122002_1 x19_1) 10))))):=⟨_,rfl⟩
       replace H : (town_Month.l0 k1 (t128.length : Int) (wrap64 (x19_1 + 1)) t124 t125 y134 0 t132) = some (r1,r2,r3,r4,r5,r6):=by first|(rw [hy134];with_reducible exact H)|(have H2_:=(Option.bind_some _ _).symm.trans H;rw [hy134];with_reducible exact H2_)|(have H2_:=(Option.bind_some _ _).symm.trans H;with_reducible exact H2_)|with_reducible exact H|(rw [hy134];exact H)|exact H
       have Ny134:=Aside0.mk hy134
       clear hy134
       have H':=Aside0.mk H
       clear H
       have p133 : 0 ≤ (x19_1 : Int):=of_decide_eq_true (by first|(with_reducible assumption)|assumption)
       have q133 : x19_1 < (x122002_1.length : Int):=of_decide_eq_true (by first|(with_reducible assumption)|assumption)
       obtain ⟨ad133,e133,hx133_0⟩:=Kd.at_int (Kd.R_reads' HO_122002.out).2.2 x19_1 p133 q133
       cases e133
       replace p133:=eq_true p133
       replace q133:=eq_true q133
       have hnb19:=NB121_122.out
       have hnc19:=NB122_121.out
       have hcz20_0 : wr.cell? ⟨gb121,0,none⟩ = some (.int .i64 t124):=(blk_cell BK121.out 0).trans rfl
       have hcz20_1 : wr.cell? ⟨gb121,1,none⟩ = some (.slice Ao13 t125.length co13):=(blk_cell BK121.out 1).trans rfl
       have hcz20_2 : wr.cell? ⟨gb121,2,none⟩ = some (.slice (some ad133) x122002_1.length co14):=(blk_cell BK121.out 2).trans rfl
       have hcz20_3 : wr.cell? ⟨gb121,3,none⟩ = some (.int .i64 0):=(blk_cell BK121.out 3).trans rfl
       have hcz20_4 : wr.cell? ⟨gb121,4,none⟩ = some (.int .i64 t132):=(blk_cell BK121.out 4).trans rfl
       have hfz20_0:=blk_frozen BK121.out 0
       have hfz20_1:=blk_frozen BK121.out 1
       have hfz20_2:=blk_frozen BK121.out 2
       have hfz20_3:=blk_frozen BK121.out 3
       have hfz20_4:=blk_frozen BK121.out 4
       have p18 : 0 ≤ (x19_1 : Int):=of_decide_eq_true (by first|(with_reducible assumption)|assumption)
       have q18 : (x19_1 : Int) < ((x122002_1.length : Int) : Int):=of_decide_eq_true (by first|(with_reducible assumption)|assumption)
       obtain ⟨go18,co18,eo18,gb18,gl18,cl18,HG18⟩:=Kd.R_form HO_122002.out (by omega)
       (first|cases eo18|(injection eo18 with ea_ en_ ec_;(first|subst ea_|(injection ea_ with ea_;subst ea_));subst ec_;clear en_))
       have GB18:=Aside0.mk gb18
       have GG18:=Aside0.mk HG18
       clear gb18 gl18 HG18
       (first|simp only [add_plain] at hx133_0|skip)
       obtain ⟨hx18_0,hf18_0⟩:=Kd.R_celln 0 HO_122002.out (x19_1 : Int) p18 q18
       replace p18:=eq_true p18
       replace q18:=eq_true q18
       have HP21:=Kd.R_putg HO_122002.out (x19_1 : Int) (wrap64 ((rd x122002_1 x19_1) - (wrap64 (Int.tdiv (rd x122002_1 x19_1) 10))))
       go_wp2_with (first|((with_reducible refine gate_store (t:=3) (p:=31) rfl ?_);refine store_event (t:=3) (p:=31) (v:=?vo_w22) (w1:=(wr.setCell ⟨go18,(x19_1 : Int).toNat,none⟩ (.int .i64 (wrap64 ((rd x122002_1 x19_1) - (wrap64 (Int.tdiv (rd x122002_1 x19_1) 10))))))) ?hg ?ho ?hn ?hr ?_;(case ho => rfl);(case hg => rfl);(case hn => rfl);(case hr => first|(go_simp;done)|(go_simp;rfl));intro w22 hw;have hg : wr.grownBy w22 (some go18):=(by rw [hw];exact HP21.2);have hp_ : Kd.R (Kd.int .i64) 3 w22 w.heap.size (fun _ => True) (.slice (some ⟨go18,0,none⟩) x122002_1.length co14) y134:=(by rw [hw,Ny134.out];exact HP21.1);clear HP21;have n0_:=Aside0.mk (Kd.R_over' (v:=(.slice (some ⟨go18,0,none⟩) x122002_1.length co14)) (by (with_reducible repeat (first|apply Kd.R_alloc|apply Kd.R_drewN|apply Kd.R_drew));exact HO_122001.out) (Kd.R_typed HO_122002.out) (by decide) hg);have n1_:=Aside0.mk (hp_);have n2_:=Aside0.mk (blk_grown (g:=gb121) (o:=.cells #[.int .i64 t124,.slice Ao13 t125.length co13,.slice (some ⟨go18,0,none⟩) x122002_1.length co14,.int .i64 0,.int .i64 t132] 25 (0,0)) (by (with_reducible repeat (first|refine blk_drewN ?_ _|refine blk_drew ?_|refine blk_alloc ?_ _));exact BK121.out) hg (Kd.R_ne HO_122002.out BK121.out (by decide)));have n3_:=Aside0.mk (blk_grown (g:=gb122) (o:=.cells #[.int .i64 0,.slice none 0 0,.slice none 0 0,.int .i64 0,.int .i64 0] 25 (0,0)) (by (with_reducible repeat (first|refine blk_drewN ?_ _|refine blk_drew ?_|refine blk_alloc ?_ _));exact BK122.out) hg (Kd.R_ne HO_122002.out BK122.out (by decide)));have n4_:=Aside0.mk ((by rw [hw];exact below_set (HB.out) GB18.out : Below w.heap.size w w22));clear HO_122001;clear HO_122002;clear BK121;clear BK122;clear HB;have HO_122001:=n0_;have HO_122002:=n1_;have BK121:=n2_;have BK122:=n3_;have HB:=n4_;clear n0_ n1_ n2_ n3_ n4_;clear hg hw hp_))
       (try simp only [← hl122002_1])
       go_roundg k1
       case measure => have:=HK1.out;omega
       case rel => exact ⟨(wrap64 (x19_1 + 1)),(y134),(by first|rfl|(simp;done)|(simp [*];done)),H',⟨by have:=HK1.out;omega⟩,⟨by (try simp only [hl122002_1]);(with_reducible repeat (first|apply Kd.R_alloc|apply Kd.R_drewN|apply Kd.R_drew));exact HO_122001.out⟩,⟨by (try simp only [hl122002_1]);(with_reducible repeat (first|apply Kd.R_alloc|apply Kd.R_drewN|apply Kd.R_drew));exact HO_122002.out⟩,⟨by (try simp only [hl122002_1]);(with_reducible repeat (first|refine blk_drewN ?_ _|refine blk_drew ?_|refine blk_alloc ?_ _));exact BK121.out⟩,⟨by (try simp only [hl122002_1]);(with_reducible repeat (first|refine blk_drewN ?_ _|refine blk_drew ?_|refine blk_alloc ?_ _));exact BK122.out⟩,⟨by repeat (first|(with_reducible first|exact HB.out|apply below_alloc|apply pw_below_drewN|apply below_drew1|refine below_set ?_ GE121.out|refine below_set ?_ GE122.out)|exact HB.out)⟩⟩
      ·rw [if_neg c17] at H
       exact absurd H (by simp)
     ·rw [if_neg c16] at H
      exact absurd H (by simp)
    ·rw [if_neg c15] at H
     have c15b0 : decide (x19_1 < (t128.length : Int)) = false:=decide_eq_false c15
     (try simp only [hl122002_1] at c15b0)
     clear c15
     simp only [Option.some.injEq,Prod.mk.injEq] at H
     obtain ⟨rfl,rfl,rfl,rfl,rfl,rfl⟩:=H
     have hnb23:=NB121_122.out
     have hnc23:=NB122_121.out
     have hcz24_0 : wr.cell? ⟨gb121,0,none⟩ = some (.int .i64 t124):=(blk_cell BK121.out 0).trans rfl
     have hcz24_1 : wr.cell? ⟨gb121,1,none⟩ = some (.slice Ao13 t125.length co13):=(blk_cell BK121.out 1).trans rfl
     have hcz24_2 : wr.cell? ⟨gb121,2,none⟩ = some (.slice Ao14 x122002_1.length co14):=(blk_cell BK121.out 2).trans rfl
     have hcz24_3 : wr.cell? ⟨gb121,3,none⟩ = some (.int .i64 0):=(blk_cell BK121.out 3).trans rfl
     have hcz24_4 : wr.cell? ⟨gb121,4,none⟩ = some (.int .i64 t132):=(blk_cell BK121.out 4).trans rfl
     have hfz24_0:=blk_frozen BK121.out 0
     have hfz24_1:=blk_frozen BK121.out 1
     have hfz24_2:=blk_frozen BK121.out 2
     have hfz24_3:=blk_frozen BK121.out 3
     have hfz24_4:=blk_frozen BK121.out 4
     have hcz25_0 : wr.cell? ⟨gb122,0,none⟩ = some (.int .i64 0):=(blk_cell BK122.out 0).trans rfl
     have hcz25_1 : wr.cell? ⟨gb122,1,none⟩ = some (.slice none 0 0):=(blk_cell BK122.out 1).trans rfl
     have hcz25_2 : wr.cell? ⟨gb122,2,none⟩ = some (.slice none 0 0):=(blk_cell BK122.out 2).trans rfl
     have hcz25_3 : wr.cell? ⟨gb122,3,none⟩ = some (.int .i64 0):=(blk_cell BK122.out 3).trans rfl
     have hcz25_4 : wr.cell? ⟨gb122,4,none⟩ = some (.int .i64 0):=(blk_cell BK122.out 4).trans rfl
     have hfz25_0:=blk_frozen BK122.out 0
     have hfz25_1:=blk_frozen BK122.out 1
     have hfz25_2:=blk_frozen BK122.out 2
     have hfz25_3:=blk_frozen BK122.out 3
     have hfz25_4:=blk_frozen BK122.out 4
     go_wp2
     refine bodyPost_ret (results_ct rfl _ _ gb122 25 #[.int .i64 t124,.slice Ao13 t125.length co13,.slice Ao14 x122002_1.length co14,.int .i64 0,.int .i64 t132] (0,0) _ rfl (by (with_reducible repeat (first|refine blk_drewN ?_ _|refine blk_drew ?_|refine blk_alloc ?_ _));refine blk_put (cs:=#[.int .i64 t124,.slice Ao13 t125.length co13,.slice Ao14 x122002_1.length co14,.int .i64 0,.int .i64 0]) ?_ 4 _ rfl;(with_reducible repeat (first|refine blk_drewN ?_ _|refine blk_drew ?_|refine blk_alloc ?_ _));refine blk_put (cs:=#[.int .i64 t124,.slice Ao13 t125.length co13,.slice Ao14 x122002_1.length co14,.int .i64 0,.int .i64 0]) ?_ 3 _ rfl;(with_reducible repeat (first|refine blk_drewN ?_ _|refine blk_drew ?_|refine blk_alloc ?_ _));refine blk_put (cs:=#[.int .i64 t124,.slice Ao13 t125.length co13,.slice none 0 0,.int .i64 0,.int .i64 0]) ?_ 2 _ rfl;(with_reducible repeat (first|refine blk_drewN ?_ _|refine blk_drew ?_|refine blk_alloc ?_ _));refine blk_put (cs:=#[.int .i64 t124,.slice none 0 0,.slice none 0 0,.int .i64 0,.int .i64 0]) ?_ 1 _ rfl;(with_reducible repeat (first|refine blk_drewN ?_ _|refine blk_drew ?_|refine blk_alloc ?_ _));refine blk_put (cs:=#[.int .i64 0,.slice none 0 0,.slice none 0 0,.int .i64 0,.int .i64 0]) ?_ 0 _ rfl;(with_reducible repeat (first|refine blk_drewN ?_ _|refine blk_drew ?_|refine blk_alloc ?_ _));exact BK122.out) Try.underlying25 rfl (by kernel_rfl)) rfl ?_
     exact ⟨_,_,by first|rfl|(simp [errW_none,errW_some] <;> rfl)|(simp [*,errW_none,errW_some] <;> rfl),by (with_reducible repeat (first|apply Kd.R_alloc|apply Kd.R_drewN|apply Kd.R_drew));exact Kd.R_mono (Kd.R_far (p:=⟨gb122,4,none⟩) (Kd.R_far (p:=⟨gb122,3,none⟩) (Kd.R_far (p:=⟨gb122,2,none⟩) (Kd.R_far (p:=⟨gb122,1,none⟩) (Kd.R_far (p:=⟨gb122,0,none⟩) (Kd.R_types HO_122001.out BK122.out (by decide)) (fun _ hk => hk.2) (.int .i64 t124)) (fun _ hk => hk.2) (.slice Ao13 t125.length co13)) (fun _ hk => hk.2) (.slice Ao14 x122002_1.length co14)) (fun _ hk => hk.2) (.int .i64 0)) (fun _ hk => hk.2) (.int .i64 t132)) (fun _ hk => trivial),by (with_reducible repeat (first|apply Kd.R_alloc|apply Kd.R_drewN|apply Kd.R_drew));exact Kd.R_mono (Kd.R_far (p:=⟨gb122,4,none⟩) (Kd.R_far (p:=⟨gb122,3,none⟩) (Kd.R_far (p:=⟨gb122,2,none⟩) (Kd.R_far (p:=⟨gb122,1,none⟩) (Kd.R_far (p:=⟨gb122,0,none⟩) (Kd.R_types HO_122002.out BK122.out (by decide)) (fun _ hk => hk.2) (.int .i64 t124)) (fun _ hk => hk.2) (.slice Ao13 t125.length co13)) (fun _ hk => hk.2) (.slice Ao14 x122002_1.length co14)) (fun _ hk => hk.2) (.int .i64 0)) (fun _ hk => hk.2) (.int .i64 t132)) (fun _ hk => trivial),by repeat (first|(with_reducible first|exact HB.out|apply below_alloc|apply pw_below_drewN|apply below_drew1|refine below_set ?_ GE121.out|refine below_set ?_ GE122.out)|exact HB.out)⟩
 ·rw [if_neg c3] at H
  have c3b0 : (t123 == 0) = false:=beq_eq_false_iff_ne.mpr c3
  have c3b1 : (t123 != 0) = true:=bne_iff_ne.mpr c3
  simp only [Option.some.injEq,Prod.mk.injEq] at H
  obtain ⟨rfl,rfl,rfl,rfl,rfl,rfl⟩:=H
  go_enter Try.func16,Try.ntmps16
  go_wp2_with (first|((with_reducible refine gate_dst (N:=1) rfl ?_);refine box_event ?hg (N:=1) ?hd (cs:=#[.int .i64 a0_0,.slice A0_1 l0_1.length c0_1,.slice A0_2 l0_2.length c0_2,.int .i64 a0_3,.int .i64 a0_4]) (t:=25) ?hr ?_;(case hd => rfl);(case hg => rfl);(case hr => first|(go_simp;done)|(go_simp;rfl));intro gb121 hg w26 hbox hb;have n0_:=Aside0.mk (below_step (by repeat (first|(with_reducible first|exact HB.out|apply below_alloc|apply pw_below_drewN|apply below_drew1)|exact HB.out)) hb);have n1_:=Aside0.mk (hbox);have n2_:=Aside0.mk ((by rw [hg];exact (below_size (by repeat (first|(with_reducible first|exact HB.out|apply below_alloc|apply pw_below_drewN|apply below_drew1)|exact HB.out))) : w.heap.size ≤ gb121));have n3_:=Aside0.mk ((by rw [hg];exact (below_size (by repeat (first|(with_reducible first|exact HB.out|apply below_alloc|apply pw_below_drewN|apply below_drew1)|exact HB.out))) : w.heap.size ≤ gb121));clear HB;have HB:=n0_;have BK121:=n1_;have GW121:=n2_;have GE121:=n3_;clear n0_ n1_ n2_ n3_;clear hb hbox hg)|((with_reducible refine gate_dst (N:=2) rfl ?_);refine box_event ?hg (N:=2) ?hd (cs:=#[.int .i64 0,.slice none 0 0,.slice none 0 0,.int .i64 0,.int .i64 0]) (t:=25) ?hr ?_;(case hd => rfl);(case hg => rfl);(case hr => first|(go_simp;done)|(go_simp;rfl));intro gb122 hg w27 hbox hb;have n0_:=Aside0.mk (blk_below (g:=gb121) (o:=.cells #[.int .i64 a0_0,.slice A0_1 l0_1.length c0_1,.slice A0_2 l0_2.length c0_2,.int .i64 a0_3,.int .i64 a0_4] 25 (0,0)) (by (with_reducible repeat (first|refine blk_drewN ?_ _|refine blk_drew ?_|refine blk_alloc ?_ _));exact BK121.out) hb);have n1_:=Aside0.mk (below_step (by repeat (first|(with_reducible first|exact HB.out|apply below_alloc|apply pw_below_drewN|apply below_drew1|refine below_set ?_ GE121.out)|exact HB.out)) hb);have n2_:=Aside0.mk (hbox);have n3_:=Aside0.mk ((by rw [hg];exact (below_size (by repeat (first|(with_reducible first|exact HB.out|apply below_alloc|apply pw_below_drewN|apply below_drew1|refine below_set ?_ GE121.out)|exact HB.out))) : w.heap.size ≤ gb122));have n4_:=Aside0.mk ((by rw [hg];exact (below_size (by repeat (first|(with_reducible first|exact HB.out|apply below_alloc|apply pw_below_drewN|apply below_drew1|refine below_set ?_ GE121.out)|exact HB.out))) : w.heap.size ≤ gb122));have n5_:=Aside0.mk ((by rw [hg];exact Nat.ne_of_lt (blk_lt (g:=gb121) (o:=.cells #[.int .i64 a0_0,.slice A0_1 l0_1.length c0_1,.slice A0_2 l0_2.length c0_2,.int .i64 a0_3,.int .i64 a0_4] 25 (0,0)) (by (with_reducible repeat (first|refine blk_drewN ?_ _|refine blk_drew ?_|refine blk_alloc ?_ _));exact BK121.out)) : gb121 ≠ gb122));have n6_:=Aside0.mk ((by rw [hg];exact Nat.ne_of_gt (blk_lt (g:=gb121) (o:=.cells #[.int .i64 a0_0,.slice A0_1 l0_1.length c0_1,.slice A0_2 l0_2.length c0_2,.int .i64 a0_3,.int .i64 a0_4] 25 (0,0)) (by (with_reducible repeat (first|refine blk_drewN ?_ _|refine blk_drew ?_|refine blk_alloc ?_ _));exact BK121.out)) : gb122 ≠ gb121));clear BK121;clear HB;have BK121:=n0_;have HB:=n1_;have BK122:=n2_;have GW122:=n3_;have GE122:=n4_;have NB121_122:=n5_;have NB122_121:=n6_;clear n0_ n1_ n2_ n3_ n4_ n5_ n6_;clear hb hbox hg;have hnb28:=NB121_122.out;have hnc28:=NB122_121.out;have hcz29_0 : w27.cell? ⟨gb121,0,none⟩ = some (.int .i64 a0_0):=(blk_cell BK121.out 0).trans rfl;have hcz29_1 : w27.cell? ⟨gb121,1,none⟩ = some (.slice A0_1 l0_1.length c0_1):=(blk_cell BK121.out 1).trans rfl;have hcz29_2 : w27.cell? ⟨gb121,2,none⟩ = some (.slice A0_2 l0_2.length c0_2):=(blk_cell BK121.out 2).trans rfl;have hcz29_3 : w27.cell? ⟨gb121,3,none⟩ = some (.int .i64 a0_3):=(blk_cell BK121.out 3).trans rfl;have hcz29_4 : w27.cell? ⟨gb121,4,none⟩ = some (.int .i64 a0_4):=(blk_cell BK121.out 4).trans rfl;have hfz29_0:=blk_frozen BK121.out 0;have hfz29_1:=blk_frozen BK121.out 1;have hfz29_2:=blk_frozen BK121.out 2;have hfz29_3:=blk_frozen BK121.out 3;have hfz29_4:=blk_frozen BK121.out 4)|((with_reducible refine gate_callee (f:=42) rfl ?_);refine goesL_ (some 8) rfl rfl Try.func42 (by kernel_rfl) rfl #[.agg #[.int .i64 a0_0,.slice A0_1 l0_1.length c0_1,.slice A0_2 l0_2.length c0_2,.int .i64 a0_3,.int .i64 a0_4]] rfl (by (try simp only [List.map_toArray,List.map_cons,List.map_nil]);first|done|rfl|(simp only [List.length_drop,List.length_take];rfl)) ?_;(with_reducible refine (town_sound.calls k a0_0 _ _ l0_1 _ _ l0_2 a0_3 a0_4 t123 _ ?side1 ?side2 ?side3 ?side4 A2.out).mono ?_);(case side1 => repeat (first|exact (Kd.C_below HR0_1.out HB.out)|(with_reducible refine Kd.C_alloc ?_ _)|(with_reducible refine Kd.C_drewN ?_ _)|(with_reducible refine Kd.C_drew ?_)));(case side2 => exact HC0_1.out);(case side3 => repeat (first|exact (Kd.C_below HR0_2.out HB.out)|(with_reducible refine Kd.C_alloc ?_ _)|(with_reducible refine Kd.C_drewN ?_ _)|(with_reducible refine Kd.C_drew ?_)));(case side4 => exact HC0_2.out);rintro e w30 ⟨rfl,hb⟩;refine ⟨_,rfl,?_⟩;have n0_:=Aside0.mk (blk_below (g:=gb121) (o:=.cells #[.int .i64 a0_0,.slice A0_1 l0_1.length c0_1,.slice A0_2 l0_2.length c0_2,.int .i64 a0_3,.int .i64 a0_4] 25 (0,0)) (by (with_reducible repeat (first|refine blk_drewN ?_ _|refine blk_drew ?_|refine blk_alloc ?_ _));exact BK121.out) hb);have n1_:=Aside0.mk (blk_below (g:=gb122) (o:=.cells #[.int .i64 0,.slice none 0 0,.slice none 0 0,.int .i64 0,.int .i64 0] 25 (0,0)) (by (with_reducible repeat (first|refine blk_drewN ?_ _|refine blk_drew ?_|refine blk_alloc ?_ _));exact BK122.out) hb);have n2_:=Aside0.mk (below_step (by repeat (first|(with_reducible first|exact HB.out|apply below_alloc|apply pw_below_drewN|apply below_drew1|refine below_set ?_ GE121.out|refine below_set ?_ GE122.out)|exact HB.out)) hb);clear BK121;clear BK122;clear HB;have BK121:=n0_;have BK122:=n1_;have HB:=n2_;clear n0_ n1_ n2_;(try clear hb);(try clear hb2);(try clear hk);(try clear hi);have hcz31_0 : w30.cell? ⟨gb122,0,none⟩ = some (.int .i64 0):=(blk_cell BK122.out 0).trans rfl;have hcz31_1 : w30.cell? ⟨gb122,1,none⟩ = some (.slice none 0 0):=(blk_cell BK122.out 1).trans rfl;have hcz31_2 : w30.cell? ⟨gb122,2,none⟩ = some (.slice none 0 0):=(blk_cell BK122.out 2).trans rfl;have hcz31_3 : w30.cell? ⟨gb122,3,none⟩ = some (.int .i64 0):=(blk_cell BK122.out 3).trans rfl;have hcz31_4 : w30.cell? ⟨gb122,4,none⟩ = some (.int .i64 0):=(blk_cell BK122.out 4).trans rfl;have hfz31_0:=blk_frozen BK122.out 0;have hfz31_1:=blk_frozen BK122.out 1;have hfz31_2:=blk_frozen BK122.out 2;have hfz31_3:=blk_frozen BK122.out 3;have hfz31_4:=blk_frozen BK122.out 4))
  refine bodyPost_ret (results_ct rfl _ _ gb122 25 #[.int .i64 0,.slice none 0 0,.slice none 0 0,.int .i64 0,.int .i64 0] (0,0) _ rfl (by (with_reducible repeat (first|refine blk_drewN ?_ _|refine blk_drew ?_|refine blk_alloc ?_ _));refine blk_put (cs:=#[.int .i64 0,.slice none 0 0,.slice none 0 0,.int .i64 0,.int .i64 0]) ?_ 4 _ rfl;(with_reducible repeat (first|refine blk_drewN ?_ _|refine blk_drew ?_|refine blk_alloc ?_ _));refine blk_put (cs:=#[.int .i64 0,.slice none 0 0,.slice none 0 0,.int .i64 0,.int .i64 0]) ?_ 3 _ rfl;(with_reducible repeat (first|refine blk_drewN ?_ _|refine blk_drew ?_|refine blk_alloc ?_ _));refine blk_put (cs:=#[.int .i64 0,.slice none 0 0,.slice none 0 0,.int .i64 0,.int .i64 0]) ?_ 2 _ rfl;(with_reducible repeat (first|refine blk_drewN ?_ _|refine blk_drew ?_|refine blk_alloc ?_ _));refine blk_put (cs:=#[.int .i64 0,.slice none 0 0,.slice none 0 0,.int .i64 0,.int .i64 0]) ?_ 1 _ rfl;(with_reducible repeat (first|refine blk_drewN ?_ _|refine blk_drew ?_|refine blk_alloc ?_ _));refine blk_put (cs:=#[.int .i64 0,.slice none 0 0,.slice none 0 0,.int .i64 0,.int .i64 0]) ?_ 0 _ rfl;(with_reducible repeat (first|refine blk_drewN ?_ _|refine blk_drew ?_|refine blk_alloc ?_ _));exact BK122.out) Try.underlying25 rfl (by kernel_rfl)) rfl ?_
  exact ⟨_,_,by first|rfl|(simp [errW_none,errW_some] <;> rfl)|(simp [*,errW_none,errW_some] <;> rfl),by first|exact Kd.R_nil _ _ _ _ _|exact Kd.N_nil _ _ _ _ _|exact Kd.V_nil _ _ _ _ _|exact Kd.Q_nil _ _ _ _ _|exact Kd.S_nil _ _ _ _ _,by first|exact Kd.R_nil _ _ _ _ _|exact Kd.N_nil _ _ _ _ _|exact Kd.V_nil _ _ _ _ _|exact Kd.Q_nil _ _ _ _ _|exact Kd.S_nil _ _ _ _ _,by repeat (first|(with_reducible first|exact HB.out|apply below_alloc|apply pw_below_drewN|apply below_drew1|refine below_set ?_ GE121.out|refine below_set ?_ GE122.out)|exact HB.out)⟩

end Go.Proofs.Ytbdijpjlgokfkaa.P

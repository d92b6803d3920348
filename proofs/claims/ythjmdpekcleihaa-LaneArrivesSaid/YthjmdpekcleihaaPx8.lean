/- Functions of this seat as plain Lean functions, with proofs that the Go code comes to just their answers, or what stands between them and a law's statement; no conditions. (Laid by a program of this session, out of the kit's print.) -/
import Derived.Test.YthjmdpekcleihaaPx0
import Derived.Test.YthjmdpekcleihaaPx4
import Derived.Test.YthjmdpekcleihaaPx6
import Derived.Test.YthjmdpekcleihaaPx7
namespace Go.Proofs.Ythjmdpekcleihaa.P
open Go.RowKit Go.Proofs.YthjmdpekcleihaaW.PrintWords Go.Proofs.YthjmdpekcleihaaW.PrintLast Go.Proofs.YthjmdpekcleihaaW.PrintMore
attribute [local go_sem] max2_int min2_int max_two min_two max_three min_three max_four min_four   -- for this text's walks alone
set_option linter.unusedVariables false
set_option linter.unusedSimpArgs false

/-! ### lane_Launch: function 31 -/
def lane_Launch.f (k : Nat) (a0_0 : Int) (a0_1 : Int) (l0_2 : List Int) (l1_0 : List Int) (l1_1 : List Int) (a2 : Int) (a3 : Int) : Option (Int × Int × Int × Int × Int × Int) := (land_Validate.f k a0_0 a0_1 l0_2).bind fun t319 => ((water_Validate.f k a0_0 a0_1 l0_2 l1_0 l1_1).bind fun t320 => ((lane_wet.f k a0_0 a0_1 l0_2 l1_0 l1_1 a2).bind fun t321 => ((api_Errno.f k (([t319, t320, t321] : List Int))).bind fun t325 => (if t325 = 0 then ((water_Sail.f k a0_0 a0_1 l0_2 l1_0 l1_1 a2 a3).bind fun bt327 => (if bt327.2 = 0 then (if (bt327.1.length : Int) > 1 then (if 0 < (bt327.1.length : Int) then (if 1 < (bt327.1.length : Int) then ((lane_side.f k a0_0 a0_1 l0_2 (rd bt327.1 0) (rd bt327.1 1)).bind fun t333 => (some (a2, (-1), t333, 0, 0, 0))) else (none)) else (none)) else (some (a2, (-1), 0, 0, 0, 0))) else (some (a2, (-1), 0, 0, 0, 0)))) else (some (0, 0, 0, 0, 0, t325))))))
theorem lane_Launch.mono : ∀ a0 a1 a2 a3 a4 a5 a6 k, LeO (lane_Launch.f k a0 a1 a2 a3 a4 a5 a6) (lane_Launch.f (k + 1) a0 a1 a2 a3 a4 a5 a6) := by
 intro a0 a1 a2 a3 a4 a5 a6 k
 unfold lane_Launch.f
 repeat' first
   | (with_reducible exact api_Errno.mono _ _)
   | (with_reducible exact land_Validate.mono _ _ _ _)
   | (with_reducible exact lane_side.mono _ _ _ _ _ _)
   | (with_reducible exact lane_wet.mono _ _ _ _ _ _ _)
   | (with_reducible exact water_Sail.mono _ _ _ _ _ _ _ _)
   | (with_reducible exact water_Validate.mono _ _ _ _ _ _)
   | (with_reducible exact LeO.refl _)
   | (with_reducible exact LeO.none _)
   | (with_reducible refine LeO.ite ?_ ?_)
   | (with_reducible refine LeO.bind ?_ (fun _ => ?_))
   | exact api_Errno.mono _ _
   | exact land_Validate.mono _ _ _ _
   | exact lane_side.mono _ _ _ _ _ _
   | exact lane_wet.mono _ _ _ _ _ _ _
   | exact water_Sail.mono _ _ _ _ _ _ _ _
   | exact water_Validate.mono _ _ _ _ _ _
   | exact LeO.none _
   | refine LeO.ite ?_ ?_
   | refine LeO.bind ?_ (fun _ => ?_)
def lane_Launch.T1 : Bool × List (List Nat × List Nat) := (true, [([], []), ([0], [0]), ([], []), ([], []), ([2, 3, 1], [2, 3]), ([], []), ([], []), ([], []), ([5, 6, 7, 4], [5, 6, 7]), ([1, 4, 8], [1, 4, 8]), ([9, 8], [9]), ([10, 10, 0, 1, 2, 3, 4, 5, 6, 7, 8, 9, 10], [10])])
def lane_Launch.B1 : List Nat := [0, 1, 0, 0, 15, 0, 0, 0, 255, 511, 1023, 2047]
theorem lane_Launch.tab1 : rtab .any (opsOf Try.f31 1) = lane_Launch.T1 := by kernel_rfl
theorem lane_Launch.bits1 : waitsOk lane_Launch.T1.2 lane_Launch.B1 = true := by kernel_rfl
def lane_Launch.T7 : Bool × List (List Nat × List Nat) := (true, [([], []), ([], []), ([1], [1]), ([2], [2]), ([], []), ([4], [4]), ([5], [5]), ([0, 3, 6], [0, 3, 6]), ([0, 1, 2, 3, 4, 5, 6, 7], []), ([8, 7, 7, 0, 1, 2, 3, 4, 5, 6, 7], [7, 8])])
def lane_Launch.B7 : List Nat := [0, 0, 2, 6, 0, 16, 48, 127, 255, 511]
theorem lane_Launch.tab7 : rtab .any (opsOf Try.f31 7) = lane_Launch.T7 := by kernel_rfl
theorem lane_Launch.bits7 : waitsOk lane_Launch.T7.2 lane_Launch.B7 = true := by kernel_rfl
set_option maxHeartbeats 8000000 in
set_option maxRecDepth 100000 in
theorem lane_Launch.calls (k : Nat) (a0_0 : Int) (a0_1 : Int) (A0_2 : Option Addr) (c0_2 : Nat) (l0_2 : List Int) (A1_0 : Option Addr) (c1_0 : Nat) (l1_0 : List Int) (A1_1 : Option Addr) (c1_1 : Nat) (l1_1 : List Int) (a2 : Int) (a3 : Int) (r1 : Int) (r2 : Int) (r3 : Int) (r4 : Int) (r5 : Int) (r6 : Int) (w : World) (hr0_2 : Kd.C (Kd.int .i64) w A0_2 l0_2.length l0_2) (hc0_2 : l0_2.length ≤ c0_2) (hr1_0 : Kd.C (Kd.int .i64) w A1_0 l1_0.length l1_0) (hc1_0 : l1_0.length ≤ c1_0) (hr1_1 : Kd.C (Kd.int .i64) w A1_1 l1_1.length l1_1) (hc1_1 : l1_1.length ≤ c1_1) (h : lane_Launch.f k a0_0 a0_1 l0_2 l1_0 l1_1 a2 a3 = some (r1, r2, r3, r4, r5, r6)) :
  Calls Try.prog 31 #[.agg #[.int .i64 a0_0,.int .i64 a0_1,.slice A0_2 l0_2.length c0_2],.agg #[.slice A1_0 l1_0.length c1_0,.slice A1_1 l1_1.length c1_1],.int .i64 a2,.int .i64 a3] w fun e w' => e = .returned (.tuple #[.agg #[.int .i64 r1,.int .i64 r2,.int .i64 r3,.int .i64 r4,.int .i64 r5],.int .i64 r6]) ∧ Below w.heap.size w w':=by
 have hu53:=Try.underlying53
 have hu55:=Try.underlying55
 have hu57:=Try.underlying57
 have HR0_2:=Aside0.mk hr0_2
 have HC0_2:=Aside0.mk hc0_2
 clear hr0_2 hc0_2
 have HR1_0:=Aside0.mk hr1_0
 have HC1_0:=Aside0.mk hc1_0
 clear hr1_0 hc1_0
 have HR1_1:=Aside0.mk hr1_1
 have HC1_1:=Aside0.mk hc1_1
 clear hr1_1 hc1_1
 have HB:=Aside0.mk (Below.refl w.heap.size w)
 have H : ((land_Validate.f k a0_0 a0_1 l0_2).bind fun t319 => ((water_Validate.f k a0_0 a0_1 l0_2 l1_0 l1_1).bind fun t320 => ((lane_wet.f k a0_0 a0_1 l0_2 l1_0 l1_1 a2).bind fun t321 => ((api_Errno.f k (([t319,t320,t321] : List Int))).bind fun t325 => (if t325 = 0 then ((water_Sail.f k a0_0 a0_1 l0_2 l1_0 l1_1 a2 a3).bind fun bt327 => (if bt327.2 = 0 then (if (bt327.1.length : Int) > 1 then (if 0 < (bt327.1.length : Int) then (if 1 < (bt327.1.length : Int) then ((lane_side.f k a0_0 a0_1 l0_2 (rd bt327.1 0) (rd bt327.1 1)).bind fun t333 => (some (a2,(-1),t333,0,0,0))) else (none)) else (none)) else (some (a2,(-1),0,0,0,0))) else (some (a2,(-1),0,0,0,0)))) else (some (0,0,0,0,0,t325))))))) = some (r1,r2,r3,r4,r5,r6):=h
 clear h
 replace H:=Option.bind_eq_some_iff.mp H
 obtain ⟨t319,A50,H⟩:=H
 replace H : ((water_Validate.f k a0_0 a0_1 l0_2 l1_0 l1_1).bind fun t320 => ((lane_wet.f k a0_0 a0_1 l0_2 l1_0 l1_1 a2).bind fun t321 => ((api_Errno.f k (([t319,t320,t321] : List Int))).bind fun t325 => (if t325 = 0 then ((water_Sail.f k a0_0 a0_1 l0_2 l1_0 l1_1 a2 a3).bind fun bt327 => (if bt327.2 = 0 then (if (bt327.1.length : Int) > 1 then (if 0 < (bt327.1.length : Int) then (if 1 < (bt327.1.length : Int) then ((lane_side.f k a0_0 a0_1 l0_2 (rd bt327.1 0) (rd bt327.1 1)).bind fun t333 => (some (a2,(-1),t333,0,0,0))) else (none)) else (none)) else (some (a2,(-1),0,0,0,0))) else (some (a2,(-1),0,0,0,0)))) else (some (0,0,0,0,0,t325)))))) = some (r1,r2,r3,r4,r5,r6):=H
 have A5:=Aside0.mk A50
 clear A50
 replace H:=Option.bind_eq_some_iff.mp H
 obtain ⟨t320,A60,H⟩:=H
 replace H : ((lane_wet.f k a0_0 a0_1 l0_2 l1_0 l1_1 a2).bind fun t321 => ((api_Errno.f k (([t319,t320,t321] : List Int))).bind fun t325 => (if t325 = 0 then ((water_Sail.f k a0_0 a0_1 l0_2 l1_0 l1_1 a2 a3).bind fun bt327 => (if bt327.2 = 0 then (if (bt327.1.length : Int) > 1 then (if 0 < (bt327.1.length : Int) then (if 1 < (bt327.1.length : Int) then ((lane_side.f k a0_0 a0_1 l0_2 (rd bt327.1 0) (rd bt327.1 1)).bind fun t333 => (some (a2,(-1),t333,0,0,0))) else (none)) else (none)) else (some (a2,(-1),0,0,0,0))) else (some (a2,(-1),0,0,0,0)))) else (some (0,0,0,0,0,t325))))) = some (r1,r2,r3,r4,r5,r6):=H
 have A6:=Aside0.mk A60
 clear A60
 replace H:=Option.bind_eq_some_iff.mp H
 obtain ⟨t321,A70,H⟩:=H
 replace H : ((api_Errno.f k (([t319,t320,t321] : List Int))).bind fun t325 => (if t325 = 0 then ((water_Sail.f k a0_0 a0_1 l0_2 l1_0 l1_1 a2 a3).bind fun bt327 => (if bt327.2 = 0 then (if (bt327.1.length : Int) > 1 then (if 0 < (bt327.1.length : Int) then (if 1 < (bt327.1.length : Int) then ((lane_side.f k a0_0 a0_1 l0_2 (rd bt327.1 0) (rd bt327.1 1)).bind fun t333 => (some (a2,(-1),t333,0,0,0))) else (none)) else (none)) else (some (a2,(-1),0,0,0,0))) else (some (a2,(-1),0,0,0,0)))) else (some (0,0,0,0,0,t325)))) = some (r1,r2,r3,r4,r5,r6):=H
 have A7:=Aside0.mk A70
 clear A70
 obtain ⟨y322,hy322⟩ : ∃ y_ : List Int,y_ = (([t319,t320,t321] : List Int)):=⟨_,rfl⟩
 replace H : ((api_Errno.f k y322).bind fun t325 => (if t325 = 0 then ((water_Sail.f k a0_0 a0_1 l0_2 l1_0 l1_1 a2 a3).bind fun bt327 => (if bt327.2 = 0 then (if (bt327.1.length : Int) > 1 then (if 0 < (bt327.1.length : Int) then (if 1 < (bt327.1.length : Int) then ((lane_side.f k a0_0 a0_1 l0_2 (rd bt327.1 0) (rd bt327.1 1)).bind fun t333 => (some (a2,(-1),t333,0,0,0))) else (none)) else (none)) else (some (a2,(-1),0,0,0,0))) else (some (a2,(-1),0,0,0,0)))) else (some (0,0,0,0,0,t325)))) = some (r1,r2,r3,r4,r5,r6):=by first|(rw [hy322];with_reducible exact H)|(have H2_:=(Option.bind_some _ _).symm.trans H;rw [hy322];with_reducible exact H2_)|(have H2_:=(Option.bind_some _ _).symm.trans H;with_reducible exact H2_)|with_reducible exact H|(rw [hy322];exact H)|exact H
 have Ny322:=Aside0.mk hy322
 clear hy322
 replace H:=Option.bind_eq_some_iff.mp H
 obtain ⟨t325,A80,H⟩:=H
 replace H : (if t325 = 0 then ((water_Sail.f k a0_0 a0_1 l0_2 l1_0 l1_1 a2 a3).bind fun bt327 => (if bt327.2 = 0 then (if (bt327.1.length : Int) > 1 then (if 0 < (bt327.1.length : Int) then (if 1 < (bt327.1.length : Int) then ((lane_side.f k a0_0 a0_1 l0_2 (rd bt327.1 0) (rd bt327.1 1)).bind fun t333 => (some (a2,(-1),t333,0,0,0))) else (none)) else (none)) else (some (a2,(-1),0,0,0,0))) else (some (a2,(-1),0,0,0,0)))) else (some (0,0,0,0,0,t325))) = some (r1,r2,r3,r4,r5,r6):=H
 have A8:=Aside0.mk A80
 clear A80
 by_cases c9 : t325 = 0
 rotate_left
 ·rw [if_neg c9] at H
  have c9b0:=bqf c9
  have c9b1:=bnt c9
  simp only [Option.some.injEq,Prod.mk.injEq] at H
  obtain ⟨rfl,rfl,rfl,rfl,rfl,rfl⟩:=H
  go_enter Try.func31,Try.ntmps31
  try go_wp2_with (first|((with_reducible refine gate_dst (N:=4) rfl ?_);(try (refine gate_guard (by rfl) ?_;dsimp only));refine box_ev (N:=4) (cs:=#[.int .i64 a0_0,.int .i64 a0_1,.slice A0_2 l0_2.length c0_2]) (t:=53) ?_;intro gb316 hg w90 hbox hb;have BK316:=Aside0.mk (hbox);have GW316 : Aside0 (w.heap.size ≤ gb316):=gsz hg;have GE316:=GW316;replace HB:=hbs hb;clear hb hbox hg)|((with_reducible refine gate_dst (N:=5) rfl ?_);(try (refine gate_guard (by rfl) ?_;dsimp only));refine box_ev (N:=5) (cs:=#[.slice A1_0 l1_0.length c1_0,.slice A1_1 l1_1.length c1_1]) (t:=55) ?_;intro gb317 hg w91 hbox hb;have BK317:=Aside0.mk (hbox);have GW317 : Aside0 (w.heap.size ≤ gb317):=gsz hg;have GE317:=GW317;have NB316_317:=nbl BK316 hg;have NB317_316:=nbr BK316 hg;replace BK316:=bkb BK316 hb;replace HB:=hbs hb;clear hb hbox hg)|((with_reducible refine gate_dst (N:=8) rfl ?_);(try (refine gate_guard (by rfl) ?_;dsimp only));refine box_ev (N:=8) (cs:=#[.int .i64 0,.int .i64 0,.int .i64 0,.int .i64 0,.int .i64 0]) (t:=57) ?_;intro gb318 hg w92 hbox hb;have BK318:=Aside0.mk (hbox);have GW318 : Aside0 (w.heap.size ≤ gb318):=gsz hg;have GE318:=GW318;have NB316_318:=nbl BK316 hg;have NB318_316:=nbr BK316 hg;have NB317_318:=nbl BK317 hg;have NB318_317:=nbr BK317 hg;replace BK316:=bkb BK316 hb;replace BK317:=bkb BK317 hb;replace HB:=hbs hb;clear hb hbox hg))
  replace BK316:=Aside0.mk (blk_drew BK316.out)
  replace BK317:=Aside0.mk (blk_drew BK317.out)
  replace BK318:=Aside0.mk (blk_drew BK318.out)
  replace HB:=Aside0.mk (below_drew1 HB.out)
  refine start_ (n:=12) (S:=fun w' => w'.cell? ⟨gb316,0,none⟩ = some (.int .i64 a0_0) ∧ w'.cell? ⟨gb316,1,none⟩ = some (.int .i64 a0_1) ∧ w'.cell? ⟨gb316,2,none⟩ = some (.slice A0_2 l0_2.length c0_2) ∧ w'.cell? ⟨gb317,0,none⟩ = some (.slice A1_0 l1_0.length c1_0) ∧ w'.cell? ⟨gb317,1,none⟩ = some (.slice A1_1 l1_1.length c1_1)) (ds:=[]) #[false,false,false,false,false,false,false,false,false,false,false,false] (by kernel_rfl) rfl rfl ⟨(blk_cell BK316.out 0).trans rfl,(blk_cell BK316.out 1).trans rfl,(blk_cell BK316.out 2).trans rfl,(blk_cell BK317.out 0).trans rfl,(blk_cell BK317.out 1).trans rfl⟩ (fun hHeld => ?_);refine with_tabW lane_Launch.tab1 lane_Launch.bits1 (fun HT_ HW_ => ?_)
  generalize w92.drew = w93 at BK316 BK317 BK318 HB hHeld ⊢
  refine pI 7 (some 21) ?_
  refine tI5 0 (some 14) hHeld ?_
  refine tI5 2 (some 16) hHeld ?_
  refine tI5 3 (some 17) hHeld ?_
  refine tI5 5 (some 19) hHeld ?_
  refine tI5 6 (some 20) hHeld ?_
  refine oI 1 (some 15) (fun K hK => ?_)
  refine goes_ Try.func55 (by kernel_rfl) rfl #[.agg #[.int .i64 a0_0,.int .i64 a0_1,.slice A0_2 l0_2.length c0_2]] (by rfl) rfl rfl ga_ ?_
  with_reducible refine (land_Validate.calls k a0_0 a0_1 _ _ l0_2 t319 _ ?side1 ?side2 A5.out).mono ?_
  (case side1 => exact cq HR0_2)
  (case side2 => exact HC0_2.out)
  rintro e w94 ⟨rfl,hb⟩
  refine ⟨_,rfl,?_⟩
  have n0_:=bkb BK316 hb
  have n1_:=bkb BK317 hb
  have n2_:=bkb BK318 hb
  have n3_:=Aside0.mk (below_step (hb_) hb)
  clear BK316
  clear BK317
  clear BK318
  clear HB
  have BK316:=n0_
  have BK317:=n1_
  have BK318:=n2_
  have HB:=n3_
  clear n0_ n1_ n2_ n3_
  (try clear hb)
  (try clear hb2)
  (try clear hk)
  (try clear hi)
  refine hK.out _ _ ⟨(blk_cell BK316.out 0).trans rfl,(blk_cell BK316.out 1).trans rfl,(blk_cell BK316.out 2).trans rfl,(blk_cell BK317.out 0).trans rfl,(blk_cell BK317.out 1).trans rfl⟩ (fun hHeld => ?_)
  clear hK K
  refine norm_ (a':=?_) ?_ ?_
  rotate_left
  ·show Act.put _ (some 15) _ = _
   simp only [Act.put,List.setIfInBounds_toArray,List.set_cons_zero,List.set_cons_succ,i64_w,i32_w]
   rfl
  refine oI 4 (some 18) (fun K hK => ?_)
  refine goes_ Try.func56 (by kernel_rfl) rfl #[.agg #[.int .i64 a0_0,.int .i64 a0_1,.slice A0_2 l0_2.length c0_2],.agg #[.slice A1_0 l1_0.length c1_0,.slice A1_1 l1_1.length c1_1]] (by rfl) rfl rfl ga_ ?_
  with_reducible refine (water_Validate.calls k a0_0 a0_1 _ _ l0_2 _ _ l1_0 _ _ l1_1 t320 _ ?side1 ?side2 ?side3 ?side4 ?side5 ?side6 A6.out).mono ?_
  (case side1 => exact cq HR0_2)
  (case side2 => exact HC0_2.out)
  (case side3 => exact cq HR1_0)
  (case side4 => exact HC1_0.out)
  (case side5 => exact cq HR1_1)
  (case side6 => exact HC1_1.out)
  rintro e w95 ⟨rfl,hb⟩
  refine ⟨_,rfl,?_⟩
  have n0_:=bkb BK316 hb
  have n1_:=bkb BK317 hb
  have n2_:=bkb BK318 hb
  have n3_:=Aside0.mk (below_step (hb_) hb)
  clear BK316
  clear BK317
  clear BK318
  clear HB
  have BK316:=n0_
  have BK317:=n1_
  have BK318:=n2_
  have HB:=n3_
  clear n0_ n1_ n2_ n3_
  (try clear hb)
  (try clear hb2)
  (try clear hk)
  (try clear hi)
  refine hK.out _ _ ⟨(blk_cell BK316.out 0).trans rfl,(blk_cell BK316.out 1).trans rfl,(blk_cell BK316.out 2).trans rfl,(blk_cell BK317.out 0).trans rfl,(blk_cell BK317.out 1).trans rfl⟩ (fun hHeld => ?_)
  clear hK K
  refine norm_ (a':=?_) ?_ ?_
  rotate_left
  ·show Act.put _ (some 18) _ = _
   simp only [Act.put,List.setIfInBounds_toArray,List.set_cons_zero,List.set_cons_succ,i64_w,i32_w]
   rfl
  refine oI 8 (some 22) (fun K hK => ?_)
  refine goes_ Try.func57 (by kernel_rfl) rfl #[.agg #[.int .i64 a0_0,.int .i64 a0_1,.slice A0_2 l0_2.length c0_2],.agg #[.slice A1_0 l1_0.length c1_0,.slice A1_1 l1_1.length c1_1],.int .i64 a2] (by rfl) rfl rfl ga_ ?_
  with_reducible refine (lane_wet.calls k a0_0 a0_1 _ _ l0_2 _ _ l1_0 _ _ l1_1 a2 t321 _ ?side1 ?side2 ?side3 ?side4 ?side5 ?side6 A7.out).mono ?_
  (case side1 => exact cq HR0_2)
  (case side2 => exact HC0_2.out)
  (case side3 => exact cq HR1_0)
  (case side4 => exact HC1_0.out)
  (case side5 => exact cq HR1_1)
  (case side6 => exact HC1_1.out)
  rintro e w96 ⟨rfl,hb⟩
  refine ⟨_,rfl,?_⟩
  have n0_:=bkb BK316 hb
  have n1_:=bkb BK317 hb
  have n2_:=bkb BK318 hb
  have n3_:=Aside0.mk (below_step (hb_) hb)
  clear BK316
  clear BK317
  clear BK318
  clear HB
  have BK316:=n0_
  have BK317:=n1_
  have BK318:=n2_
  have HB:=n3_
  clear n0_ n1_ n2_ n3_
  (try clear hb)
  (try clear hb2)
  (try clear hk)
  (try clear hi)
  refine hK.out _ _ ⟨(blk_cell BK316.out 0).trans rfl,(blk_cell BK316.out 1).trans rfl,(blk_cell BK316.out 2).trans rfl,(blk_cell BK317.out 0).trans rfl,(blk_cell BK317.out 1).trans rfl⟩ (fun hHeld => ?_)
  clear hK K
  refine norm_ (a':=?_) ?_ ?_
  rotate_left
  ·show Act.put _ (some 22) _ = _
   simp only [Act.put,List.setIfInBounds_toArray,List.set_cons_zero,List.set_cons_succ,i64_w,i32_w]
   rfl
  refine oI 9 (some 23) (fun K hK => ?_)
  refine Kd.R_lit_step (Kd.int .i64) _ 27 ?hg (N:=23) ?hd (xs:=([t319,t320,t321] : List Int)) (inner:=[.int .i64 t319,.int .i64 t320,.int .i64 t321]) (ok:=fun _ => True) (okp:=fun _ => True) ?hr ?hp (fun _ hk => hk) trivial (Below.refl _ _) (Nat.le_refl _) (by simp) ?_;(case hd => rfl);(case hg => rfl);(case hr => first|(go_simp;done)|(go_simp;rfl));(case hp => exact (Reps.one (show Kd.M (Kd.int .i64) _ _ _ t319 [.int .i64 t319] from rfl) (Reps.one (show Kd.M (Kd.int .i64) _ _ _ t320 [.int .i64 t320] from rfl) (Reps.one (show Kd.M (Kd.int .i64) _ _ _ t321 [.int .i64 t321] from rfl) (Reps.none _ _)))))
  intro v323 w97 ho98 hb hg_ hnew_
  clear hg_ hnew_
  (first|rw [← Ny322.out] at ho98|(simp only [Int.reduceToNat] at ho98;rw [← Ny322.out] at ho98))
  have n0_:=rlo ho98
  have n1_:=bkb BK316 hb
  have n2_:=bkb BK317 hb
  have n3_:=bkb BK318 hb
  have n4_:=Aside0.mk (below_step (hb_) hb)
  clear BK316
  clear BK317
  clear BK318
  clear HB
  have HO324:=n0_
  have BK316:=n1_
  have BK317:=n2_
  have BK318:=n3_
  have HB:=n4_
  clear n0_ n1_ n2_ n3_ n4_
  clear hb ho98
  obtain ⟨Ao99,co99,eo99⟩:=Kd.R_slice HO324.out
  (first|subst eo99|(injection eo99 with f1_ f2_ f3_;have f4_:=f1_.symm;have f5_:=f3_.symm;clear f1_ f2_ f3_;subst f4_;subst f5_))
  refine hK.out _ _ ⟨(blk_cell BK316.out 0).trans rfl,(blk_cell BK316.out 1).trans rfl,(blk_cell BK316.out 2).trans rfl,(blk_cell BK317.out 0).trans rfl,(blk_cell BK317.out 1).trans rfl⟩ (fun hHeld => ?_)
  clear hK K
  refine norm_ (a':=?_) ?_ ?_
  rotate_left
  ·show Act.put _ (some 23) _ = _
   simp only [Act.put,List.setIfInBounds_toArray,List.set_cons_zero,List.set_cons_succ,i64_w,i32_w]
   rfl
  refine oI 10 (some 24) (fun K hK => ?_)
  refine goes_ Try.func54 (by kernel_rfl) rfl #[.slice Ao99 y322.length co99] (by rfl) rfl rfl ga_ ?_
  with_reducible refine (api_Errno.calls k _ _ y322 t325 _ ?side1 ?side2 A8.out).mono ?_
  (case side1 => exact Kd.C_up (Kd.R_reads' HO324.out).2.2)
  (case side2 => exact (Kd.R_reads' HO324.out).2.1)
  rintro e w' ⟨rfl,⟨nd,rfl⟩⟩
  refine ⟨_,rfl,?_⟩
  refine hK.out _ _ ⟨(blk_cell BK316.out 0).trans rfl,(blk_cell BK316.out 1).trans rfl,(blk_cell BK316.out 2).trans rfl,(blk_cell BK317.out 0).trans rfl,(blk_cell BK317.out 1).trans rfl⟩ (fun hHeld => ?_)
  clear hK K
  refine norm_ (a':=?_) ?_ ?_
  rotate_left
  ·show Act.put _ (some 24) _ = _
   simp only [Act.put,List.setIfInBounds_toArray,List.set_cons_zero,List.set_cons_succ,i64_w,i32_w]
   rfl
  refine pI 11 (some 10) ?_
  refine done_ (done_of HT_.out (by kernel_rfl)) ?_
  have hnb100:=NB318_316.out
  have hnc100:=NB316_318.out
  have hnb101:=NB318_317.out
  have hnc101:=NB317_318.out
  obtain ⟨_,_,_,_,_,_,_,_,_,_⟩:=cells5 BK318.out
  try go_wp2
  refine bodyPost_ret (results_ct rfl _ _ gb318 57 #[.int .i64 0,.int .i64 0,.int .i64 0,.int .i64 0,.int .i64 0] (0,0) _ rfl (by (with_reducible repeat (first|refine blk_drewN ?_ _|refine blk_drew ?_|refine blk_alloc ?_ _));exact blk_puts5 (blk_up BK318.out)) Try.underlying57 rfl (by kernel_rfl)) rfl ?_
  exact ⟨er_,hb_⟩
 rw [if_pos c9] at H
 have c9b0:=bqt c9
 have c9b1:=bnf c9
 clear c9
 replace H:=Option.bind_eq_some_iff.mp H
 obtain ⟨⟨t327,t330⟩,A100,H⟩:=H
 replace H : (if t330 = 0 then (if (t327.length : Int) > 1 then (if 0 < (t327.length : Int) then (if 1 < (t327.length : Int) then ((lane_side.f k a0_0 a0_1 l0_2 (rd t327 0) (rd t327 1)).bind fun t333 => (some (a2,(-1),t333,0,0,0))) else (none)) else (none)) else (some (a2,(-1),0,0,0,0))) else (some (a2,(-1),0,0,0,0))) = some (r1,r2,r3,r4,r5,r6):=H
 have A10:=Aside0.mk A100
 clear A100
 by_cases c11 : t330 = 0
 rotate_left
 ·rw [if_neg c11] at H
  have c11b0:=bqf c11
  have c11b1:=bnt c11
  simp only [Option.some.injEq,Prod.mk.injEq] at H
  obtain ⟨rfl,rfl,rfl,rfl,rfl,rfl⟩:=H
  go_enter Try.func31,Try.ntmps31
  try go_wp2_with (first|((with_reducible refine gate_dst (N:=4) rfl ?_);(try (refine gate_guard (by rfl) ?_;dsimp only));refine box_ev (N:=4) (cs:=#[.int .i64 a0_0,.int .i64 a0_1,.slice A0_2 l0_2.length c0_2]) (t:=53) ?_;intro gb316 hg w67 hbox hb;have BK316:=Aside0.mk (hbox);have GW316 : Aside0 (w.heap.size ≤ gb316):=gsz hg;have GE316:=GW316;replace HB:=hbs hb;clear hb hbox hg)|((with_reducible refine gate_dst (N:=5) rfl ?_);(try (refine gate_guard (by rfl) ?_;dsimp only));refine box_ev (N:=5) (cs:=#[.slice A1_0 l1_0.length c1_0,.slice A1_1 l1_1.length c1_1]) (t:=55) ?_;intro gb317 hg w68 hbox hb;have BK317:=Aside0.mk (hbox);have GW317 : Aside0 (w.heap.size ≤ gb317):=gsz hg;have GE317:=GW317;have NB316_317:=nbl BK316 hg;have NB317_316:=nbr BK316 hg;replace BK316:=bkb BK316 hb;replace HB:=hbs hb;clear hb hbox hg)|((with_reducible refine gate_dst (N:=8) rfl ?_);(try (refine gate_guard (by rfl) ?_;dsimp only));refine box_ev (N:=8) (cs:=#[.int .i64 0,.int .i64 0,.int .i64 0,.int .i64 0,.int .i64 0]) (t:=57) ?_;intro gb318 hg w69 hbox hb;have BK318:=Aside0.mk (hbox);have GW318 : Aside0 (w.heap.size ≤ gb318):=gsz hg;have GE318:=GW318;have NB316_318:=nbl BK316 hg;have NB318_316:=nbr BK316 hg;have NB317_318:=nbl BK317 hg;have NB318_317:=nbr BK317 hg;replace BK316:=bkb BK316 hb;replace BK317:=bkb BK317 hb;replace HB:=hbs hb;clear hb hbox hg))
  replace BK316:=Aside0.mk (blk_drew BK316.out)
  replace BK317:=Aside0.mk (blk_drew BK317.out)
  replace BK318:=Aside0.mk (blk_drew BK318.out)
  replace HB:=Aside0.mk (below_drew1 HB.out)
  refine start_ (n:=12) (S:=fun w' => w'.cell? ⟨gb316,0,none⟩ = some (.int .i64 a0_0) ∧ w'.cell? ⟨gb316,1,none⟩ = some (.int .i64 a0_1) ∧ w'.cell? ⟨gb316,2,none⟩ = some (.slice A0_2 l0_2.length c0_2) ∧ w'.cell? ⟨gb317,0,none⟩ = some (.slice A1_0 l1_0.length c1_0) ∧ w'.cell? ⟨gb317,1,none⟩ = some (.slice A1_1 l1_1.length c1_1)) (ds:=[]) #[false,false,false,false,false,false,false,false,false,false,false,false] (by kernel_rfl) rfl rfl ⟨(blk_cell BK316.out 0).trans rfl,(blk_cell BK316.out 1).trans rfl,(blk_cell BK316.out 2).trans rfl,(blk_cell BK317.out 0).trans rfl,(blk_cell BK317.out 1).trans rfl⟩ (fun hHeld => ?_);refine with_tabW lane_Launch.tab1 lane_Launch.bits1 (fun HT_ HW_ => ?_)
  generalize w69.drew = w70 at BK316 BK317 BK318 HB hHeld ⊢
  refine pI 7 (some 21) ?_
  refine tI5 0 (some 14) hHeld ?_
  refine tI5 2 (some 16) hHeld ?_
  refine tI5 3 (some 17) hHeld ?_
  refine tI5 5 (some 19) hHeld ?_
  refine tI5 6 (some 20) hHeld ?_
  refine oI 1 (some 15) (fun K hK => ?_)
  refine goes_ Try.func55 (by kernel_rfl) rfl #[.agg #[.int .i64 a0_0,.int .i64 a0_1,.slice A0_2 l0_2.length c0_2]] (by rfl) rfl rfl ga_ ?_
  with_reducible refine (land_Validate.calls k a0_0 a0_1 _ _ l0_2 t319 _ ?side1 ?side2 A5.out).mono ?_
  (case side1 => exact cq HR0_2)
  (case side2 => exact HC0_2.out)
  rintro e w71 ⟨rfl,hb⟩
  refine ⟨_,rfl,?_⟩
  have n0_:=bkb BK316 hb
  have n1_:=bkb BK317 hb
  have n2_:=bkb BK318 hb
  have n3_:=Aside0.mk (below_step (hb_) hb)
  clear BK316
  clear BK317
  clear BK318
  clear HB
  have BK316:=n0_
  have BK317:=n1_
  have BK318:=n2_
  have HB:=n3_
  clear n0_ n1_ n2_ n3_
  (try clear hb)
  (try clear hb2)
  (try clear hk)
  (try clear hi)
  refine hK.out _ _ ⟨(blk_cell BK316.out 0).trans rfl,(blk_cell BK316.out 1).trans rfl,(blk_cell BK316.out 2).trans rfl,(blk_cell BK317.out 0).trans rfl,(blk_cell BK317.out 1).trans rfl⟩ (fun hHeld => ?_)
  clear hK K
  refine norm_ (a':=?_) ?_ ?_
  rotate_left
  ·show Act.put _ (some 15) _ = _
   simp only [Act.put,List.setIfInBounds_toArray,List.set_cons_zero,List.set_cons_succ,i64_w,i32_w]
   rfl
  refine oI 4 (some 18) (fun K hK => ?_)
  refine goes_ Try.func56 (by kernel_rfl) rfl #[.agg #[.int .i64 a0_0,.int .i64 a0_1,.slice A0_2 l0_2.length c0_2],.agg #[.slice A1_0 l1_0.length c1_0,.slice A1_1 l1_1.length c1_1]] (by rfl) rfl rfl ga_ ?_
  with_reducible refine (water_Validate.calls k a0_0 a0_1 _ _ l0_2 _ _ l1_0 _ _ l1_1 t320 _ ?side1 ?side2 ?side3 ?side4 ?side5 ?side6 A6.out).mono ?_
  (case side1 => exact cq HR0_2)
  (case side2 => exact HC0_2.out)
  (case side3 => exact cq HR1_0)
  (case side4 => exact HC1_0.out)
  (case side5 => exact cq HR1_1)
  (case side6 => exact HC1_1.out)
  rintro e w72 ⟨rfl,hb⟩
  refine ⟨_,rfl,?_⟩
  have n0_:=bkb BK316 hb
  have n1_:=bkb BK317 hb
  have n2_:=bkb BK318 hb
  have n3_:=Aside0.mk (below_step (hb_) hb)
  clear BK316
  clear BK317
  clear BK318
  clear HB
  have BK316:=n0_
  have BK317:=n1_
  have BK318:=n2_
  have HB:=n3_
  clear n0_ n1_ n2_ n3_
  (try clear hb)
  (try clear hb2)
  (try clear hk)
  (try clear hi)
  refine hK.out _ _ ⟨(blk_cell BK316.out 0).trans rfl,(blk_cell BK316.out 1).trans rfl,(blk_cell BK316.out 2).trans rfl,(blk_cell BK317.out 0).trans rfl,(blk_cell BK317.out 1).trans rfl⟩ (fun hHeld => ?_)
  clear hK K
  refine norm_ (a':=?_) ?_ ?_
  rotate_left
  ·show Act.put _ (some 18) _ = _
   simp only [Act.put,List.setIfInBounds_toArray,List.set_cons_zero,List.set_cons_succ,i64_w,i32_w]
   rfl
  refine oI 8 (some 22) (fun K hK => ?_)
  refine goes_ Try.func57 (by kernel_rfl) rfl #[.agg #[.int .i64 a0_0,.int .i64 a0_1,.slice A0_2 l0_2.length c0_2],.agg #[.slice A1_0 l1_0.length c1_0,.slice A1_1 l1_1.length c1_1],.int .i64 a2] (by rfl) rfl rfl ga_ ?_
  with_reducible refine (lane_wet.calls k a0_0 a0_1 _ _ l0_2 _ _ l1_0 _ _ l1_1 a2 t321 _ ?side1 ?side2 ?side3 ?side4 ?side5 ?side6 A7.out).mono ?_
  (case side1 => exact cq HR0_2)
  (case side2 => exact HC0_2.out)
  (case side3 => exact cq HR1_0)
  (case side4 => exact HC1_0.out)
  (case side5 => exact cq HR1_1)
  (case side6 => exact HC1_1.out)
  rintro e w73 ⟨rfl,hb⟩
  refine ⟨_,rfl,?_⟩
  have n0_:=bkb BK316 hb
  have n1_:=bkb BK317 hb
  have n2_:=bkb BK318 hb
  have n3_:=Aside0.mk (below_step (hb_) hb)
  clear BK316
  clear BK317
  clear BK318
  clear HB
  have BK316:=n0_
  have BK317:=n1_
  have BK318:=n2_
  have HB:=n3_
  clear n0_ n1_ n2_ n3_
  (try clear hb)
  (try clear hb2)
  (try clear hk)
  (try clear hi)
  refine hK.out _ _ ⟨(blk_cell BK316.out 0).trans rfl,(blk_cell BK316.out 1).trans rfl,(blk_cell BK316.out 2).trans rfl,(blk_cell BK317.out 0).trans rfl,(blk_cell BK317.out 1).trans rfl⟩ (fun hHeld => ?_)
  clear hK K
  refine norm_ (a':=?_) ?_ ?_
  rotate_left
  ·show Act.put _ (some 22) _ = _
   simp only [Act.put,List.setIfInBounds_toArray,List.set_cons_zero,List.set_cons_succ,i64_w,i32_w]
   rfl
  refine oI 9 (some 23) (fun K hK => ?_)
  refine Kd.R_lit_step (Kd.int .i64) _ 27 ?hg (N:=23) ?hd (xs:=([t319,t320,t321] : List Int)) (inner:=[.int .i64 t319,.int .i64 t320,.int .i64 t321]) (ok:=fun _ => True) (okp:=fun _ => True) ?hr ?hp (fun _ hk => hk) trivial (Below.refl _ _) (Nat.le_refl _) (by simp) ?_;(case hd => rfl);(case hg => rfl);(case hr => first|(go_simp;done)|(go_simp;rfl));(case hp => exact (Reps.one (show Kd.M (Kd.int .i64) _ _ _ t319 [.int .i64 t319] from rfl) (Reps.one (show Kd.M (Kd.int .i64) _ _ _ t320 [.int .i64 t320] from rfl) (Reps.one (show Kd.M (Kd.int .i64) _ _ _ t321 [.int .i64 t321] from rfl) (Reps.none _ _)))))
  intro v323 w74 ho75 hb hg_ hnew_
  clear hg_ hnew_
  (first|rw [← Ny322.out] at ho75|(simp only [Int.reduceToNat] at ho75;rw [← Ny322.out] at ho75))
  have n0_:=rlo ho75
  have n1_:=bkb BK316 hb
  have n2_:=bkb BK317 hb
  have n3_:=bkb BK318 hb
  have n4_:=Aside0.mk (below_step (hb_) hb)
  clear BK316
  clear BK317
  clear BK318
  clear HB
  have HO324:=n0_
  have BK316:=n1_
  have BK317:=n2_
  have BK318:=n3_
  have HB:=n4_
  clear n0_ n1_ n2_ n3_ n4_
  clear hb ho75
  obtain ⟨Ao76,co76,eo76⟩:=Kd.R_slice HO324.out
  (first|subst eo76|(injection eo76 with f1_ f2_ f3_;have f4_:=f1_.symm;have f5_:=f3_.symm;clear f1_ f2_ f3_;subst f4_;subst f5_))
  refine hK.out _ _ ⟨(blk_cell BK316.out 0).trans rfl,(blk_cell BK316.out 1).trans rfl,(blk_cell BK316.out 2).trans rfl,(blk_cell BK317.out 0).trans rfl,(blk_cell BK317.out 1).trans rfl⟩ (fun hHeld => ?_)
  clear hK K
  refine norm_ (a':=?_) ?_ ?_
  rotate_left
  ·show Act.put _ (some 23) _ = _
   simp only [Act.put,List.setIfInBounds_toArray,List.set_cons_zero,List.set_cons_succ,i64_w,i32_w]
   rfl
  refine oI 10 (some 24) (fun K hK => ?_)
  refine goes_ Try.func54 (by kernel_rfl) rfl #[.slice Ao76 y322.length co76] (by rfl) rfl rfl ga_ ?_
  with_reducible refine (api_Errno.calls k _ _ y322 t325 _ ?side1 ?side2 A8.out).mono ?_
  (case side1 => exact Kd.C_up (Kd.R_reads' HO324.out).2.2)
  (case side2 => exact (Kd.R_reads' HO324.out).2.1)
  rintro e w' ⟨rfl,⟨nd,rfl⟩⟩
  refine ⟨_,rfl,?_⟩
  refine hK.out _ _ ⟨(blk_cell BK316.out 0).trans rfl,(blk_cell BK316.out 1).trans rfl,(blk_cell BK316.out 2).trans rfl,(blk_cell BK317.out 0).trans rfl,(blk_cell BK317.out 1).trans rfl⟩ (fun hHeld => ?_)
  clear hK K
  refine norm_ (a':=?_) ?_ ?_
  rotate_left
  ·show Act.put _ (some 24) _ = _
   simp only [Act.put,List.setIfInBounds_toArray,List.set_cons_zero,List.set_cons_succ,i64_w,i32_w]
   rfl
  refine pI 11 (some 10) ?_
  refine done_ (done_of HT_.out (by kernel_rfl)) ?_
  try go_wp2_with (first|((with_reducible refine gate_dst (N:=11) rfl ?_);(try (refine gate_guard (by rfl) ?_;dsimp only));refine box_ev (N:=11) (cs:=#[.int .i64 0,.int .i64 0,.int .i64 0,.int .i64 0,.int .i64 0]) (t:=57) ?_;intro gb326 hg w77 hbox hb;have BK326:=Aside0.mk (hbox);have GW326 : Aside0 (w.heap.size ≤ gb326):=gsz hg;have GE326:=GW326;have NB316_326:=nbl BK316 hg;have NB326_316:=nbr BK316 hg;have NB317_326:=nbl BK317 hg;have NB326_317:=nbr BK317 hg;have NB318_326:=nbl BK318 hg;have NB326_318:=nbr BK318 hg;replace HO324:=rbw HO324 hb;replace BK316:=bkb BK316 hb;replace BK317:=bkb BK317 hb;replace BK318:=bkb BK318 hb;replace HB:=hbs hb;clear hb hbox hg;have hnb78:=NB326_316.out;have hnc78:=NB316_326.out;have hnb79:=NB326_317.out;have hnc79:=NB317_326.out;have hnb80:=NB326_318.out;have hnc80:=NB318_326.out;obtain ⟨_,_,_,_,_,_,_,_,_,_⟩:=cells5 BK326.out;have hnb82:=NB316_317.out;have hnc82:=NB317_316.out;have hnb83:=NB316_318.out;have hnc83:=NB318_316.out;obtain ⟨_,_,_,_,_,_⟩:=cells3 BK316.out;have hnb85:=NB317_318.out;have hnc85:=NB318_317.out;obtain ⟨_,_,_,_⟩:=cells2 BK317.out)|((with_reducible refine gate_callee (f:=58) rfl ?_);refine goesL_ (some 36) rfl rfl Try.func58 (by kernel_rfl) rfl #[.agg #[.int .i64 a0_0,.int .i64 a0_1,.slice A0_2 l0_2.length c0_2],.agg #[.slice A1_0 l1_0.length c1_0,.slice A1_1 l1_1.length c1_1],.int .i64 a2,.int .i64 a3] rfl ga_ ?_;(with_reducible refine (water_Sail.calls k a0_0 a0_1 _ _ l0_2 _ _ l1_0 _ _ l1_1 a2 a3 t327 t330 _ ?_ ?_ ?_ ?_ ?_ ?_ A10.out).mono ?_);exact Kd.C_below HR0_2.out (hb_);exact HC0_2.out;exact Kd.C_below HR1_0.out (hb_);exact HC1_0.out;exact Kd.C_below HR1_1.out (hb_);exact HC1_1.out;rintro e w87 ⟨v328,rfl,ho0,hb⟩;refine ⟨_,rfl,?_⟩;have HO329:=rlo ho0;replace HO324:=Aside0.mk (Kd.R_below (by (with_reducible repeat (first|apply Kd.R_alloc|apply Kd.R_drewN|apply Kd.R_drew));exact (Kd.R_mono (Kd.R_fars gb326 (Kd.R_types HO324.out BK326.out (by decide)) (fun _ hk => hk.2)) (fun _ h_ => h_.1))) hb);replace BK316:=Aside0.mk (blk_below (g:=gb316) (o:=.cells #[.int .i64 a0_0,.int .i64 a0_1,.slice A0_2 l0_2.length c0_2] 53 (0,0)) (by (with_reducible repeat (first|refine blk_drewN ?_ _|refine blk_drew ?_|refine blk_alloc ?_ _));refine blk_far ?_ NB316_326.out _;(with_reducible repeat (first|refine blk_drewN ?_ _|refine blk_drew ?_|refine blk_alloc ?_ _));refine blk_far ?_ NB316_326.out _;(with_reducible repeat (first|refine blk_drewN ?_ _|refine blk_drew ?_|refine blk_alloc ?_ _));refine blk_far ?_ NB316_326.out _;(with_reducible repeat (first|refine blk_drewN ?_ _|refine blk_drew ?_|refine blk_alloc ?_ _));refine blk_far ?_ NB316_326.out _;(with_reducible repeat (first|refine blk_drewN ?_ _|refine blk_drew ?_|refine blk_alloc ?_ _));refine blk_far ?_ NB316_326.out _;(with_reducible repeat (first|refine blk_drewN ?_ _|refine blk_drew ?_|refine blk_alloc ?_ _));exact BK316.out) hb);replace BK317:=Aside0.mk (blk_below (g:=gb317) (o:=.cells #[.slice A1_0 l1_0.length c1_0,.slice A1_1 l1_1.length c1_1] 55 (0,0)) (by (with_reducible repeat (first|refine blk_drewN ?_ _|refine blk_drew ?_|refine blk_alloc ?_ _));refine blk_far ?_ NB317_326.out _;(with_reducible repeat (first|refine blk_drewN ?_ _|refine blk_drew ?_|refine blk_alloc ?_ _));refine blk_far ?_ NB317_326.out _;(with_reducible repeat (first|refine blk_drewN ?_ _|refine blk_drew ?_|refine blk_alloc ?_ _));refine blk_far ?_ NB317_326.out _;(with_reducible repeat (first|refine blk_drewN ?_ _|refine blk_drew ?_|refine blk_alloc ?_ _));refine blk_far ?_ NB317_326.out _;(with_reducible repeat (first|refine blk_drewN ?_ _|refine blk_drew ?_|refine blk_alloc ?_ _));refine blk_far ?_ NB317_326.out _;(with_reducible repeat (first|refine blk_drewN ?_ _|refine blk_drew ?_|refine blk_alloc ?_ _));exact BK317.out) hb);replace BK318:=Aside0.mk (blk_below (g:=gb318) (o:=.cells #[.int .i64 0,.int .i64 0,.int .i64 0,.int .i64 0,.int .i64 0] 57 (0,0)) (by (with_reducible repeat (first|refine blk_drewN ?_ _|refine blk_drew ?_|refine blk_alloc ?_ _));refine blk_far ?_ NB318_326.out _;(with_reducible repeat (first|refine blk_drewN ?_ _|refine blk_drew ?_|refine blk_alloc ?_ _));refine blk_far ?_ NB318_326.out _;(with_reducible repeat (first|refine blk_drewN ?_ _|refine blk_drew ?_|refine blk_alloc ?_ _));refine blk_far ?_ NB318_326.out _;(with_reducible repeat (first|refine blk_drewN ?_ _|refine blk_drew ?_|refine blk_alloc ?_ _));refine blk_far ?_ NB318_326.out _;(with_reducible repeat (first|refine blk_drewN ?_ _|refine blk_drew ?_|refine blk_alloc ?_ _));refine blk_far ?_ NB318_326.out _;(with_reducible repeat (first|refine blk_drewN ?_ _|refine blk_drew ?_|refine blk_alloc ?_ _));exact BK318.out) hb);replace BK326:=Aside0.mk (blk_below (g:=gb326) (o:=.cells #[.int .i64 a2,.int .i64 (-1),.int .i64 0,.int .i64 0,.int .i64 0] 57 (0,0)) (by (with_reducible repeat (first|refine blk_drewN ?_ _|refine blk_drew ?_|refine blk_alloc ?_ _));exact blk_puts5 (blk_up BK326.out)) hb);replace HB:=hbs hb;obtain ⟨_,_,_,_,_,_,_,_,_,_⟩:=cells5 BK326.out;obtain ⟨_,_,_,_,_,_,_,_,_,_⟩:=cells5 BK318.out))
  refine bodyPost_ret (results_ct rfl _ _ gb318 57 #[.int .i64 a2,.int .i64 (-1),.int .i64 0,.int .i64 0,.int .i64 0] (0,0) _ rfl (by (with_reducible repeat (first|refine blk_drewN ?_ _|refine blk_drew ?_|refine blk_alloc ?_ _));exact blk_puts5 (blk_up BK318.out)) Try.underlying57 rfl (by kernel_rfl)) rfl ?_
  exact ⟨er_,hb_⟩
 rw [if_pos c11] at H
 have c11b0:=bqt c11
 have c11b1:=bnf c11
 clear c11
 by_cases c12 : (t327.length : Int) > 1
 rotate_left
 ·rw [if_neg c12] at H
  have c12b0 : decide (1 < (t327.length : Int)) = false:=decide_eq_false c12
  have c12b1 : decide (1 < t327.length) = false:=decide_eq_false (by omega)
  clear c12
  simp only [Option.some.injEq,Prod.mk.injEq] at H
  obtain ⟨rfl,rfl,rfl,rfl,rfl,rfl⟩:=H
  go_enter Try.func31,Try.ntmps31
  try go_wp2_with (first|((with_reducible refine gate_dst (N:=4) rfl ?_);(try (refine gate_guard (by rfl) ?_;dsimp only));refine box_ev (N:=4) (cs:=#[.int .i64 a0_0,.int .i64 a0_1,.slice A0_2 l0_2.length c0_2]) (t:=53) ?_;intro gb316 hg w43 hbox hb;have BK316:=Aside0.mk (hbox);have GW316 : Aside0 (w.heap.size ≤ gb316):=gsz hg;have GE316:=GW316;replace HB:=hbs hb;clear hb hbox hg)|((with_reducible refine gate_dst (N:=5) rfl ?_);(try (refine gate_guard (by rfl) ?_;dsimp only));refine box_ev (N:=5) (cs:=#[.slice A1_0 l1_0.length c1_0,.slice A1_1 l1_1.length c1_1]) (t:=55) ?_;intro gb317 hg w44 hbox hb;have BK317:=Aside0.mk (hbox);have GW317 : Aside0 (w.heap.size ≤ gb317):=gsz hg;have GE317:=GW317;have NB316_317:=nbl BK316 hg;have NB317_316:=nbr BK316 hg;replace BK316:=bkb BK316 hb;replace HB:=hbs hb;clear hb hbox hg)|((with_reducible refine gate_dst (N:=8) rfl ?_);(try (refine gate_guard (by rfl) ?_;dsimp only));refine box_ev (N:=8) (cs:=#[.int .i64 0,.int .i64 0,.int .i64 0,.int .i64 0,.int .i64 0]) (t:=57) ?_;intro gb318 hg w45 hbox hb;have BK318:=Aside0.mk (hbox);have GW318 : Aside0 (w.heap.size ≤ gb318):=gsz hg;have GE318:=GW318;have NB316_318:=nbl BK316 hg;have NB318_316:=nbr BK316 hg;have NB317_318:=nbl BK317 hg;have NB318_317:=nbr BK317 hg;replace BK316:=bkb BK316 hb;replace BK317:=bkb BK317 hb;replace HB:=hbs hb;clear hb hbox hg))
  replace BK316:=Aside0.mk (blk_drew BK316.out)
  replace BK317:=Aside0.mk (blk_drew BK317.out)
  replace BK318:=Aside0.mk (blk_drew BK318.out)
  replace HB:=Aside0.mk (below_drew1 HB.out)
  refine start_ (n:=12) (S:=fun w' => w'.cell? ⟨gb316,0,none⟩ = some (.int .i64 a0_0) ∧ w'.cell? ⟨gb316,1,none⟩ = some (.int .i64 a0_1) ∧ w'.cell? ⟨gb316,2,none⟩ = some (.slice A0_2 l0_2.length c0_2) ∧ w'.cell? ⟨gb317,0,none⟩ = some (.slice A1_0 l1_0.length c1_0) ∧ w'.cell? ⟨gb317,1,none⟩ = some (.slice A1_1 l1_1.length c1_1)) (ds:=[]) #[false,false,false,false,false,false,false,false,false,false,false,false] (by kernel_rfl) rfl rfl ⟨(blk_cell BK316.out 0).trans rfl,(blk_cell BK316.out 1).trans rfl,(blk_cell BK316.out 2).trans rfl,(blk_cell BK317.out 0).trans rfl,(blk_cell BK317.out 1).trans rfl⟩ (fun hHeld => ?_);refine with_tabW lane_Launch.tab1 lane_Launch.bits1 (fun HT_ HW_ => ?_)
  generalize w45.drew = w46 at BK316 BK317 BK318 HB hHeld ⊢
  refine pI 7 (some 21) ?_
  refine tI5 0 (some 14) hHeld ?_
  refine tI5 2 (some 16) hHeld ?_
  refine tI5 3 (some 17) hHeld ?_
  refine tI5 5 (some 19) hHeld ?_
  refine tI5 6 (some 20) hHeld ?_
  refine oI 1 (some 15) (fun K hK => ?_)
  refine goes_ Try.func55 (by kernel_rfl) rfl #[.agg #[.int .i64 a0_0,.int .i64 a0_1,.slice A0_2 l0_2.length c0_2]] (by rfl) rfl rfl ga_ ?_
  with_reducible refine (land_Validate.calls k a0_0 a0_1 _ _ l0_2 t319 _ ?side1 ?side2 A5.out).mono ?_
  (case side1 => exact cq HR0_2)
  (case side2 => exact HC0_2.out)
  rintro e w47 ⟨rfl,hb⟩
  refine ⟨_,rfl,?_⟩
  have n0_:=bkb BK316 hb
  have n1_:=bkb BK317 hb
  have n2_:=bkb BK318 hb
  have n3_:=Aside0.mk (below_step (hb_) hb)
  clear BK316
  clear BK317
  clear BK318
  clear HB
  have BK316:=n0_
  have BK317:=n1_
  have BK318:=n2_
  have HB:=n3_
  clear n0_ n1_ n2_ n3_
  (try clear hb)
  (try clear hb2)
  (try clear hk)
  (try clear hi)
  refine hK.out _ _ ⟨(blk_cell BK316.out 0).trans rfl,(blk_cell BK316.out 1).trans rfl,(blk_cell BK316.out 2).trans rfl,(blk_cell BK317.out 0).trans rfl,(blk_cell BK317.out 1).trans rfl⟩ (fun hHeld => ?_)
  clear hK K
  refine norm_ (a':=?_) ?_ ?_
  rotate_left
  ·show Act.put _ (some 15) _ = _
   simp only [Act.put,List.setIfInBounds_toArray,List.set_cons_zero,List.set_cons_succ,i64_w,i32_w]
   rfl
  refine oI 4 (some 18) (fun K hK => ?_)
  refine goes_ Try.func56 (by kernel_rfl) rfl #[.agg #[.int .i64 a0_0,.int .i64 a0_1,.slice A0_2 l0_2.length c0_2],.agg #[.slice A1_0 l1_0.length c1_0,.slice A1_1 l1_1.length c1_1]] (by rfl) rfl rfl ga_ ?_
  with_reducible refine (water_Validate.calls k a0_0 a0_1 _ _ l0_2 _ _ l1_0 _ _ l1_1 t320 _ ?side1 ?side2 ?side3 ?side4 ?side5 ?side6 A6.out).mono ?_
  (case side1 => exact cq HR0_2)
  (case side2 => exact HC0_2.out)
  (case side3 => exact cq HR1_0)
  (case side4 => exact HC1_0.out)
  (case side5 => exact cq HR1_1)
  (case side6 => exact HC1_1.out)
  rintro e w48 ⟨rfl,hb⟩
  refine ⟨_,rfl,?_⟩
  have n0_:=bkb BK316 hb
  have n1_:=bkb BK317 hb
  have n2_:=bkb BK318 hb
  have n3_:=Aside0.mk (below_step (hb_) hb)
  clear BK316
  clear BK317
  clear BK318
  clear HB
  have BK316:=n0_
  have BK317:=n1_
  have BK318:=n2_
  have HB:=n3_
  clear n0_ n1_ n2_ n3_
  (try clear hb)
  (try clear hb2)
  (try clear hk)
  (try clear hi)
  refine hK.out _ _ ⟨(blk_cell BK316.out 0).trans rfl,(blk_cell BK316.out 1).trans rfl,(blk_cell BK316.out 2).trans rfl,(blk_cell BK317.out 0).trans rfl,(blk_cell BK317.out 1).trans rfl⟩ (fun hHeld => ?_)
  clear hK K
  refine norm_ (a':=?_) ?_ ?_
  rotate_left
  ·show Act.put _ (some 18) _ = _
   simp only [Act.put,List.setIfInBounds_toArray,List.set_cons_zero,List.set_cons_succ,i64_w,i32_w]
   rfl
  refine oI 8 (some 22) (fun K hK => ?_)
  refine goes_ Try.func57 (by kernel_rfl) rfl #[.agg #[.int .i64 a0_0,.int .i64 a0_1,.slice A0_2 l0_2.length c0_2],.agg #[.slice A1_0 l1_0.length c1_0,.slice A1_1 l1_1.length c1_1],.int .i64 a2] (by rfl) rfl rfl ga_ ?_
  with_reducible refine (lane_wet.calls k a0_0 a0_1 _ _ l0_2 _ _ l1_0 _ _ l1_1 a2 t321 _ ?side1 ?side2 ?side3 ?side4 ?side5 ?side6 A7.out).mono ?_
  (case side1 => exact cq HR0_2)
  (case side2 => exact HC0_2.out)
  (case side3 => exact cq HR1_0)
  (case side4 => exact HC1_0.out)
  (case side5 => exact cq HR1_1)
  (case side6 => exact HC1_1.out)
  rintro e w49 ⟨rfl,hb⟩
  refine ⟨_,rfl,?_⟩
  have n0_:=bkb BK316 hb
  have n1_:=bkb BK317 hb
  have n2_:=bkb BK318 hb
  have n3_:=Aside0.mk (below_step (hb_) hb)
  clear BK316
  clear BK317
  clear BK318
  clear HB
  have BK316:=n0_
  have BK317:=n1_
  have BK318:=n2_
  have HB:=n3_
  clear n0_ n1_ n2_ n3_
  (try clear hb)
  (try clear hb2)
  (try clear hk)
  (try clear hi)
  refine hK.out _ _ ⟨(blk_cell BK316.out 0).trans rfl,(blk_cell BK316.out 1).trans rfl,(blk_cell BK316.out 2).trans rfl,(blk_cell BK317.out 0).trans rfl,(blk_cell BK317.out 1).trans rfl⟩ (fun hHeld => ?_)
  clear hK K
  refine norm_ (a':=?_) ?_ ?_
  rotate_left
  ·show Act.put _ (some 22) _ = _
   simp only [Act.put,List.setIfInBounds_toArray,List.set_cons_zero,List.set_cons_succ,i64_w,i32_w]
   rfl
  refine oI 9 (some 23) (fun K hK => ?_)
  refine Kd.R_lit_step (Kd.int .i64) _ 27 ?hg (N:=23) ?hd (xs:=([t319,t320,t321] : List Int)) (inner:=[.int .i64 t319,.int .i64 t320,.int .i64 t321]) (ok:=fun _ => True) (okp:=fun _ => True) ?hr ?hp (fun _ hk => hk) trivial (Below.refl _ _) (Nat.le_refl _) (by simp) ?_;(case hd => rfl);(case hg => rfl);(case hr => first|(go_simp;done)|(go_simp;rfl));(case hp => exact (Reps.one (show Kd.M (Kd.int .i64) _ _ _ t319 [.int .i64 t319] from rfl) (Reps.one (show Kd.M (Kd.int .i64) _ _ _ t320 [.int .i64 t320] from rfl) (Reps.one (show Kd.M (Kd.int .i64) _ _ _ t321 [.int .i64 t321] from rfl) (Reps.none _ _)))))
  intro v323 w50 ho51 hb hg_ hnew_
  clear hg_ hnew_
  (first|rw [← Ny322.out] at ho51|(simp only [Int.reduceToNat] at ho51;rw [← Ny322.out] at ho51))
  have n0_:=rlo ho51
  have n1_:=bkb BK316 hb
  have n2_:=bkb BK317 hb
  have n3_:=bkb BK318 hb
  have n4_:=Aside0.mk (below_step (hb_) hb)
  clear BK316
  clear BK317
  clear BK318
  clear HB
  have HO324:=n0_
  have BK316:=n1_
  have BK317:=n2_
  have BK318:=n3_
  have HB:=n4_
  clear n0_ n1_ n2_ n3_ n4_
  clear hb ho51
  obtain ⟨Ao52,co52,eo52⟩:=Kd.R_slice HO324.out
  (first|subst eo52|(injection eo52 with f1_ f2_ f3_;have f4_:=f1_.symm;have f5_:=f3_.symm;clear f1_ f2_ f3_;subst f4_;subst f5_))
  refine hK.out _ _ ⟨(blk_cell BK316.out 0).trans rfl,(blk_cell BK316.out 1).trans rfl,(blk_cell BK316.out 2).trans rfl,(blk_cell BK317.out 0).trans rfl,(blk_cell BK317.out 1).trans rfl⟩ (fun hHeld => ?_)
  clear hK K
  refine norm_ (a':=?_) ?_ ?_
  rotate_left
  ·show Act.put _ (some 23) _ = _
   simp only [Act.put,List.setIfInBounds_toArray,List.set_cons_zero,List.set_cons_succ,i64_w,i32_w]
   rfl
  refine oI 10 (some 24) (fun K hK => ?_)
  refine goes_ Try.func54 (by kernel_rfl) rfl #[.slice Ao52 y322.length co52] (by rfl) rfl rfl ga_ ?_
  with_reducible refine (api_Errno.calls k _ _ y322 t325 _ ?side1 ?side2 A8.out).mono ?_
  (case side1 => exact Kd.C_up (Kd.R_reads' HO324.out).2.2)
  (case side2 => exact (Kd.R_reads' HO324.out).2.1)
  rintro e w' ⟨rfl,⟨nd,rfl⟩⟩
  refine ⟨_,rfl,?_⟩
  refine hK.out _ _ ⟨(blk_cell BK316.out 0).trans rfl,(blk_cell BK316.out 1).trans rfl,(blk_cell BK316.out 2).trans rfl,(blk_cell BK317.out 0).trans rfl,(blk_cell BK317.out 1).trans rfl⟩ (fun hHeld => ?_)
  clear hK K
  refine norm_ (a':=?_) ?_ ?_
  rotate_left
  ·show Act.put _ (some 24) _ = _
   simp only [Act.put,List.setIfInBounds_toArray,List.set_cons_zero,List.set_cons_succ,i64_w,i32_w]
   rfl
  refine pI 11 (some 10) ?_
  refine done_ (done_of HT_.out (by kernel_rfl)) ?_
  try go_wp2_with (first|((with_reducible refine gate_dst (N:=11) rfl ?_);(try (refine gate_guard (by rfl) ?_;dsimp only));refine box_ev (N:=11) (cs:=#[.int .i64 0,.int .i64 0,.int .i64 0,.int .i64 0,.int .i64 0]) (t:=57) ?_;intro gb326 hg w53 hbox hb;have BK326:=Aside0.mk (hbox);have GW326 : Aside0 (w.heap.size ≤ gb326):=gsz hg;have GE326:=GW326;have NB316_326:=nbl BK316 hg;have NB326_316:=nbr BK316 hg;have NB317_326:=nbl BK317 hg;have NB326_317:=nbr BK317 hg;have NB318_326:=nbl BK318 hg;have NB326_318:=nbr BK318 hg;replace HO324:=rbw HO324 hb;replace BK316:=bkb BK316 hb;replace BK317:=bkb BK317 hb;replace BK318:=bkb BK318 hb;replace HB:=hbs hb;clear hb hbox hg;have hnb54:=NB326_316.out;have hnc54:=NB316_326.out;have hnb55:=NB326_317.out;have hnc55:=NB317_326.out;have hnb56:=NB326_318.out;have hnc56:=NB318_326.out;obtain ⟨_,_,_,_,_,_,_,_,_,_⟩:=cells5 BK326.out;have hnb58:=NB316_317.out;have hnc58:=NB317_316.out;have hnb59:=NB316_318.out;have hnc59:=NB318_316.out;obtain ⟨_,_,_,_,_,_⟩:=cells3 BK316.out;have hnb61:=NB317_318.out;have hnc61:=NB318_317.out;obtain ⟨_,_,_,_⟩:=cells2 BK317.out)|((with_reducible refine gate_callee (f:=58) rfl ?_);refine goesL_ (some 36) rfl rfl Try.func58 (by kernel_rfl) rfl #[.agg #[.int .i64 a0_0,.int .i64 a0_1,.slice A0_2 l0_2.length c0_2],.agg #[.slice A1_0 l1_0.length c1_0,.slice A1_1 l1_1.length c1_1],.int .i64 a2,.int .i64 a3] rfl ga_ ?_;(with_reducible refine (water_Sail.calls k a0_0 a0_1 _ _ l0_2 _ _ l1_0 _ _ l1_1 a2 a3 t327 t330 _ ?_ ?_ ?_ ?_ ?_ ?_ A10.out).mono ?_);exact Kd.C_below HR0_2.out (hb_);exact HC0_2.out;exact Kd.C_below HR1_0.out (hb_);exact HC1_0.out;exact Kd.C_below HR1_1.out (hb_);exact HC1_1.out;rintro e w63 ⟨v328,rfl,ho0,hb⟩;refine ⟨_,rfl,?_⟩;have HO329:=rlo ho0;replace HO324:=Aside0.mk (Kd.R_below (by (with_reducible repeat (first|apply Kd.R_alloc|apply Kd.R_drewN|apply Kd.R_drew));exact (Kd.R_mono (Kd.R_fars gb326 (Kd.R_types HO324.out BK326.out (by decide)) (fun _ hk => hk.2)) (fun _ h_ => h_.1))) hb);replace BK316:=Aside0.mk (blk_below (g:=gb316) (o:=.cells #[.int .i64 a0_0,.int .i64 a0_1,.slice A0_2 l0_2.length c0_2] 53 (0,0)) (by (with_reducible repeat (first|refine blk_drewN ?_ _|refine blk_drew ?_|refine blk_alloc ?_ _));refine blk_far ?_ NB316_326.out _;(with_reducible repeat (first|refine blk_drewN ?_ _|refine blk_drew ?_|refine blk_alloc ?_ _));refine blk_far ?_ NB316_326.out _;(with_reducible repeat (first|refine blk_drewN ?_ _|refine blk_drew ?_|refine blk_alloc ?_ _));refine blk_far ?_ NB316_326.out _;(with_reducible repeat (first|refine blk_drewN ?_ _|refine blk_drew ?_|refine blk_alloc ?_ _));refine blk_far ?_ NB316_326.out _;(with_reducible repeat (first|refine blk_drewN ?_ _|refine blk_drew ?_|refine blk_alloc ?_ _));refine blk_far ?_ NB316_326.out _;(with_reducible repeat (first|refine blk_drewN ?_ _|refine blk_drew ?_|refine blk_alloc ?_ _));exact BK316.out) hb);replace BK317:=Aside0.mk (blk_below (g:=gb317) (o:=.cells #[.slice A1_0 l1_0.length c1_0,.slice A1_1 l1_1.length c1_1] 55 (0,0)) (by (with_reducible repeat (first|refine blk_drewN ?_ _|refine blk_drew ?_|refine blk_alloc ?_ _));refine blk_far ?_ NB317_326.out _;(with_reducible repeat (first|refine blk_drewN ?_ _|refine blk_drew ?_|refine blk_alloc ?_ _));refine blk_far ?_ NB317_326.out _;(with_reducible repeat (first|refine blk_drewN ?_ _|refine blk_drew ?_|refine blk_alloc ?_ _));refine blk_far ?_ NB317_326.out _;(with_reducible repeat (first|refine blk_drewN ?_ _|refine blk_drew ?_|refine blk_alloc ?_ _));refine blk_far ?_ NB317_326.out _;(with_reducible repeat (first|refine blk_drewN ?_ _|refine blk_drew ?_|refine blk_alloc ?_ _));refine blk_far ?_ NB317_326.out _;(with_reducible repeat (first|refine blk_drewN ?_ _|refine blk_drew ?_|refine blk_alloc ?_ _));exact BK317.out) hb);replace BK318:=Aside0.mk (blk_below (g:=gb318) (o:=.cells #[.int .i64 0,.int .i64 0,.int .i64 0,.int .i64 0,.int .i64 0] 57 (0,0)) (by (with_reducible repeat (first|refine blk_drewN ?_ _|refine blk_drew ?_|refine blk_alloc ?_ _));refine blk_far ?_ NB318_326.out _;(with_reducible repeat (first|refine blk_drewN ?_ _|refine blk_drew ?_|refine blk_alloc ?_ _));refine blk_far ?_ NB318_326.out _;(with_reducible repeat (first|refine blk_drewN ?_ _|refine blk_drew ?_|refine blk_alloc ?_ _));refine blk_far ?_ NB318_326.out _;(with_reducible repeat (first|refine blk_drewN ?_ _|refine blk_drew ?_|refine blk_alloc ?_ _));refine blk_far ?_ NB318_326.out _;(with_reducible repeat (first|refine blk_drewN ?_ _|refine blk_drew ?_|refine blk_alloc ?_ _));refine blk_far ?_ NB318_326.out _;(with_reducible repeat (first|refine blk_drewN ?_ _|refine blk_drew ?_|refine blk_alloc ?_ _));exact BK318.out) hb);replace BK326:=Aside0.mk (blk_below (g:=gb326) (o:=.cells #[.int .i64 a2,.int .i64 (-1),.int .i64 0,.int .i64 0,.int .i64 0] 57 (0,0)) (by (with_reducible repeat (first|refine blk_drewN ?_ _|refine blk_drew ?_|refine blk_alloc ?_ _));exact blk_puts5 (blk_up BK326.out)) hb);replace HB:=hbs hb;obtain ⟨Ao64,co64,eo64⟩:=Kd.R_slice HO329.out;subst eo64;obtain ⟨_,_,_,_,_,_,_,_,_,_⟩:=cells5 BK326.out;obtain ⟨_,_,_,_,_,_,_,_,_,_⟩:=cells5 BK318.out))
  refine bodyPost_ret (results_ct rfl _ _ gb318 57 #[.int .i64 a2,.int .i64 (-1),.int .i64 0,.int .i64 0,.int .i64 0] (0,0) _ rfl (by (with_reducible repeat (first|refine blk_drewN ?_ _|refine blk_drew ?_|refine blk_alloc ?_ _));exact blk_puts5 (blk_up BK318.out)) Try.underlying57 rfl (by kernel_rfl)) rfl ?_
  exact ⟨er_,hb_⟩
 rw [if_pos c12] at H
 have c12b0 : decide (1 < (t327.length : Int)) = true:=decide_eq_true c12
 have c12b1 : decide (1 < t327.length) = true:=decide_eq_true (by omega)
 clear c12
 replace H:=ifp_ H;obtain ⟨c13,H⟩:=H
 have c13b0 : decide (0 < (t327.length : Int)) = true:=decide_eq_true c13
 have c13b1 : decide (0 < t327.length) = true:=decide_eq_true (by omega)
 clear c13
 replace H:=ifp_ H;obtain ⟨c14,H⟩:=H
 have c14b0 : decide (1 < (t327.length : Int)) = true:=decide_eq_true c14
 have c14b1 : decide (1 < t327.length) = true:=decide_eq_true (by omega)
 clear c14
 replace H:=Option.bind_eq_some_iff.mp H
 obtain ⟨t333,A150,H⟩:=H
 replace H : (some (a2,(-1),t333,0,0,0)) = some (r1,r2,r3,r4,r5,r6):=H
 have A15:=Aside0.mk A150
 clear A150
 simp only [Option.some.injEq,Prod.mk.injEq] at H
 obtain ⟨rfl,rfl,rfl,rfl,rfl,rfl⟩:=H
 go_enter Try.func31,Try.ntmps31
 try go_wp2_with (first|((with_reducible refine gate_dst (N:=4) rfl ?_);(try (refine gate_guard (by rfl) ?_;dsimp only));refine box_ev (N:=4) (cs:=#[.int .i64 a0_0,.int .i64 a0_1,.slice A0_2 l0_2.length c0_2]) (t:=53) ?_;intro gb316 hg w16 hbox hb;have BK316:=Aside0.mk (hbox);have GW316 : Aside0 (w.heap.size ≤ gb316):=gsz hg;have GE316:=GW316;replace HB:=hbs hb;clear hb hbox hg)|((with_reducible refine gate_dst (N:=5) rfl ?_);(try (refine gate_guard (by rfl) ?_;dsimp only));refine box_ev (N:=5) (cs:=#[.slice A1_0 l1_0.length c1_0,.slice A1_1 l1_1.length c1_1]) (t:=55) ?_;intro gb317 hg w17 hbox hb;have BK317:=Aside0.mk (hbox);have GW317 : Aside0 (w.heap.size ≤ gb317):=gsz hg;have GE317:=GW317;have NB316_317:=nbl BK316 hg;have NB317_316:=nbr BK316 hg;replace BK316:=bkb BK316 hb;replace HB:=hbs hb;clear hb hbox hg)|((with_reducible refine gate_dst (N:=8) rfl ?_);(try (refine gate_guard (by rfl) ?_;dsimp only));refine box_ev (N:=8) (cs:=#[.int .i64 0,.int .i64 0,.int .i64 0,.int .i64 0,.int .i64 0]) (t:=57) ?_;intro gb318 hg w18 hbox hb;have BK318:=Aside0.mk (hbox);have GW318 : Aside0 (w.heap.size ≤ gb318):=gsz hg;have GE318:=GW318;have NB316_318:=nbl BK316 hg;have NB318_316:=nbr BK316 hg;have NB317_318:=nbl BK317 hg;have NB318_317:=nbr BK317 hg;replace BK316:=bkb BK316 hb;replace BK317:=bkb BK317 hb;replace HB:=hbs hb;clear hb hbox hg))
 replace BK316:=Aside0.mk (blk_drew BK316.out)
 replace BK317:=Aside0.mk (blk_drew BK317.out)
 replace BK318:=Aside0.mk (blk_drew BK318.out)
 replace HB:=Aside0.mk (below_drew1 HB.out)
 refine start_ (n:=12) (S:=fun w' => w'.cell? ⟨gb316,0,none⟩ = some (.int .i64 a0_0) ∧ w'.cell? ⟨gb316,1,none⟩ = some (.int .i64 a0_1) ∧ w'.cell? ⟨gb316,2,none⟩ = some (.slice A0_2 l0_2.length c0_2) ∧ w'.cell? ⟨gb317,0,none⟩ = some (.slice A1_0 l1_0.length c1_0) ∧ w'.cell? ⟨gb317,1,none⟩ = some (.slice A1_1 l1_1.length c1_1)) (ds:=[]) #[false,false,false,false,false,false,false,false,false,false,false,false] (by kernel_rfl) rfl rfl ⟨(blk_cell BK316.out 0).trans rfl,(blk_cell BK316.out 1).trans rfl,(blk_cell BK316.out 2).trans rfl,(blk_cell BK317.out 0).trans rfl,(blk_cell BK317.out 1).trans rfl⟩ (fun hHeld => ?_);refine with_tabW lane_Launch.tab1 lane_Launch.bits1 (fun HT_ HW_ => ?_)
 generalize w18.drew = w19 at BK316 BK317 BK318 HB hHeld ⊢
 refine pI 7 (some 21) ?_
 refine tI5 0 (some 14) hHeld ?_
 refine tI5 2 (some 16) hHeld ?_
 refine tI5 3 (some 17) hHeld ?_
 refine tI5 5 (some 19) hHeld ?_
 refine tI5 6 (some 20) hHeld ?_
 refine oI 1 (some 15) (fun K hK => ?_)
 refine goes_ Try.func55 (by kernel_rfl) rfl #[.agg #[.int .i64 a0_0,.int .i64 a0_1,.slice A0_2 l0_2.length c0_2]] (by rfl) rfl rfl ga_ ?_
 with_reducible refine (land_Validate.calls k a0_0 a0_1 _ _ l0_2 t319 _ ?side1 ?side2 A5.out).mono ?_
 (case side1 => exact cq HR0_2)
 (case side2 => exact HC0_2.out)
 rintro e w20 ⟨rfl,hb⟩
 refine ⟨_,rfl,?_⟩
 have n0_:=bkb BK316 hb
 have n1_:=bkb BK317 hb
 have n2_:=bkb BK318 hb
 have n3_:=Aside0.mk (below_step (hb_) hb)
 clear BK316
 clear BK317
 clear BK318
 clear HB
 have BK316:=n0_
 have BK317:=n1_
 have BK318:=n2_
 have HB:=n3_
 clear n0_ n1_ n2_ n3_
 (try clear hb)
 (try clear hb2)
 (try clear hk)
 (try clear hi)
 refine hK.out _ _ ⟨(blk_cell BK316.out 0).trans rfl,(blk_cell BK316.out 1).trans rfl,(blk_cell BK316.out 2).trans rfl,(blk_cell BK317.out 0).trans rfl,(blk_cell BK317.out 1).trans rfl⟩ (fun hHeld => ?_)
 clear hK K
 refine norm_ (a':=?_) ?_ ?_
 rotate_left
 ·show Act.put _ (some 15) _ = _
  simp only [Act.put,List.setIfInBounds_toArray,List.set_cons_zero,List.set_cons_succ,i64_w,i32_w]
  rfl
 refine oI 4 (some 18) (fun K hK => ?_)
 refine goes_ Try.func56 (by kernel_rfl) rfl #[.agg #[.int .i64 a0_0,.int .i64 a0_1,.slice A0_2 l0_2.length c0_2],.agg #[.slice A1_0 l1_0.length c1_0,.slice A1_1 l1_1.length c1_1]] (by rfl) rfl rfl ga_ ?_
 with_reducible refine (water_Validate.calls k a0_0 a0_1 _ _ l0_2 _ _ l1_0 _ _ l1_1 t320 _ ?side1 ?side2 ?side3 ?side4 ?side5 ?side6 A6.out).mono ?_
 (case side1 => exact cq HR0_2)
 (case side2 => exact HC0_2.out)
 (case side3 => exact cq HR1_0)
 (case side4 => exact HC1_0.out)
 (case side5 => exact cq HR1_1)
 (case side6 => exact HC1_1.out)
 rintro e w21 ⟨rfl,hb⟩
 refine ⟨_,rfl,?_⟩
 have n0_:=bkb BK316 hb
 have n1_:=bkb BK317 hb
 have n2_:=bkb BK318 hb
 have n3_:=Aside0.mk (below_step (hb_) hb)
 clear BK316
 clear BK317
 clear BK318
 clear HB
 have BK316:=n0_
 have BK317:=n1_
 have BK318:=n2_
 have HB:=n3_
 clear n0_ n1_ n2_ n3_
 (try clear hb)
 (try clear hb2)
 (try clear hk)
 (try clear hi)
 refine hK.out _ _ ⟨(blk_cell BK316.out 0).trans rfl,(blk_cell BK316.out 1).trans rfl,(blk_cell BK316.out 2).trans rfl,(blk_cell BK317.out 0).trans rfl,(blk_cell BK317.out 1).trans rfl⟩ (fun hHeld => ?_)
 clear hK K
 refine norm_ (a':=?_) ?_ ?_
 rotate_left
 ·show Act.put _ (some 18) _ = _
  simp only [Act.put,List.setIfInBounds_toArray,List.set_cons_zero,List.set_cons_succ,i64_w,i32_w]
  rfl
 refine oI 8 (some 22) (fun K hK => ?_)
 refine goes_ Try.func57 (by kernel_rfl) rfl #[.agg #[.int .i64 a0_0,.int .i64 a0_1,.slice A0_2 l0_2.length c0_2],.agg #[.slice A1_0 l1_0.length c1_0,.slice A1_1 l1_1.length c1_1],.int .i64 a2] (by rfl) rfl rfl ga_ ?_
 with_reducible refine (lane_wet.calls k a0_0 a0_1 _ _ l0_2 _ _ l1_0 _ _ l1_1 a2 t321 _ ?side1 ?side2 ?side3 ?side4 ?side5 ?side6 A7.out).mono ?_
 (case side1 => exact cq HR0_2)
 (case side2 => exact HC0_2.out)
 (case side3 => exact cq HR1_0)
 (case side4 => exact HC1_0.out)
 (case side5 => exact cq HR1_1)
 (case side6 => exact HC1_1.out)
 rintro e w22 ⟨rfl,hb⟩
 refine ⟨_,rfl,?_⟩
 have n0_:=bkb BK316 hb
 have n1_:=bkb BK317 hb
 have n2_:=bkb BK318 hb
 have n3_:=Aside0.mk (below_step (hb_) hb)
 clear BK316
 clear BK317
 clear BK318
 clear HB
 have BK316:=n0_
 have BK317:=n1_
 have BK318:=n2_
 have HB:=n3_
 clear n0_ n1_ n2_ n3_
 (try clear hb)
 (try clear hb2)
 (try clear hk)
 (try clear hi)
 refine hK.out _ _ ⟨(blk_cell BK316.out 0).trans rfl,(blk_cell BK316.out 1).trans rfl,(blk_cell BK316.out 2).trans rfl,(blk_cell BK317.out 0).trans rfl,(blk_cell BK317.out 1).trans rfl⟩ (fun hHeld => ?_)
 clear hK K
 refine norm_ (a':=?_) ?_ ?_
 rotate_left
 ·show Act.put _ (some 22) _ = _
  simp only [Act.put,List.setIfInBounds_toArray,List.set_cons_zero,List.set_cons_succ,i64_w,i32_w]
  rfl
 refine oI 9 (some 23) (fun K hK => ?_)
 refine Kd.R_lit_step (Kd.int .i64) _ 27 ?hg (N:=23) ?hd (xs:=([t319,t320,t321] : List Int)) (inner:=[.int .i64 t319,.int .i64 t320,.int .i64 t321]) (ok:=fun _ => True) (okp:=fun _ => True) ?hr ?hp (fun _ hk => hk) trivial (Below.refl _ _) (Nat.le_refl _) (by simp) ?_;(case hd => rfl);(case hg => rfl);(case hr => first|(go_simp;done)|(go_simp;rfl));(case hp => exact (Reps.one (show Kd.M (Kd.int .i64) _ _ _ t319 [.int .i64 t319] from rfl) (Reps.one (show Kd.M (Kd.int .i64) _ _ _ t320 [.int .i64 t320] from rfl) (Reps.one (show Kd.M (Kd.int .i64) _ _ _ t321 [.int .i64 t321] from rfl) (Reps.none _ _)))))
 intro v323 w23 ho24 hb hg_ hnew_
 clear hg_ hnew_
 (first|rw [← Ny322.out] at ho24|(simp only [Int.reduceToNat] at ho24;rw [← Ny322.out] at ho24))
 have n0_:=rlo ho24
 have n1_:=bkb BK316 hb
 have n2_:=bkb BK317 hb
 have n3_:=bkb BK318 hb
 have n4_:=Aside0.mk (below_step (hb_) hb)
 clear BK316
 clear BK317
 clear BK318
 clear HB
 have HO324:=n0_
 have BK316:=n1_
 have BK317:=n2_
 have BK318:=n3_
 have HB:=n4_
 clear n0_ n1_ n2_ n3_ n4_
 clear hb ho24
 obtain ⟨Ao25,co25,eo25⟩:=Kd.R_slice HO324.out
 (first|subst eo25|(injection eo25 with f1_ f2_ f3_;have f4_:=f1_.symm;have f5_:=f3_.symm;clear f1_ f2_ f3_;subst f4_;subst f5_))
 refine hK.out _ _ ⟨(blk_cell BK316.out 0).trans rfl,(blk_cell BK316.out 1).trans rfl,(blk_cell BK316.out 2).trans rfl,(blk_cell BK317.out 0).trans rfl,(blk_cell BK317.out 1).trans rfl⟩ (fun hHeld => ?_)
 clear hK K
 refine norm_ (a':=?_) ?_ ?_
 rotate_left
 ·show Act.put _ (some 23) _ = _
  simp only [Act.put,List.setIfInBounds_toArray,List.set_cons_zero,List.set_cons_succ,i64_w,i32_w]
  rfl
 refine oI 10 (some 24) (fun K hK => ?_)
 refine goes_ Try.func54 (by kernel_rfl) rfl #[.slice Ao25 y322.length co25] (by rfl) rfl rfl ga_ ?_
 with_reducible refine (api_Errno.calls k _ _ y322 t325 _ ?side1 ?side2 A8.out).mono ?_
 (case side1 => exact Kd.C_up (Kd.R_reads' HO324.out).2.2)
 (case side2 => exact (Kd.R_reads' HO324.out).2.1)
 rintro e w' ⟨rfl,⟨nd,rfl⟩⟩
 refine ⟨_,rfl,?_⟩
 refine hK.out _ _ ⟨(blk_cell BK316.out 0).trans rfl,(blk_cell BK316.out 1).trans rfl,(blk_cell BK316.out 2).trans rfl,(blk_cell BK317.out 0).trans rfl,(blk_cell BK317.out 1).trans rfl⟩ (fun hHeld => ?_)
 clear hK K
 refine norm_ (a':=?_) ?_ ?_
 rotate_left
 ·show Act.put _ (some 24) _ = _
  simp only [Act.put,List.setIfInBounds_toArray,List.set_cons_zero,List.set_cons_succ,i64_w,i32_w]
  rfl
 refine pI 11 (some 10) ?_
 refine done_ (done_of HT_.out (by kernel_rfl)) ?_
 try go_wp2_with (first|((with_reducible refine gate_dst (N:=11) rfl ?_);(try (refine gate_guard (by rfl) ?_;dsimp only));refine box_ev (N:=11) (cs:=#[.int .i64 0,.int .i64 0,.int .i64 0,.int .i64 0,.int .i64 0]) (t:=57) ?_;intro gb326 hg w26 hbox hb;have BK326:=Aside0.mk (hbox);have GW326 : Aside0 (w.heap.size ≤ gb326):=gsz hg;have GE326:=GW326;have NB316_326:=nbl BK316 hg;have NB326_316:=nbr BK316 hg;have NB317_326:=nbl BK317 hg;have NB326_317:=nbr BK317 hg;have NB318_326:=nbl BK318 hg;have NB326_318:=nbr BK318 hg;replace HO324:=rbw HO324 hb;replace BK316:=bkb BK316 hb;replace BK317:=bkb BK317 hb;replace BK318:=bkb BK318 hb;replace HB:=hbs hb;clear hb hbox hg;have hnb27:=NB326_316.out;have hnc27:=NB316_326.out;have hnb28:=NB326_317.out;have hnc28:=NB317_326.out;have hnb29:=NB326_318.out;have hnc29:=NB318_326.out;obtain ⟨_,_,_,_,_,_,_,_,_,_⟩:=cells5 BK326.out;have hnb31:=NB316_317.out;have hnc31:=NB317_316.out;have hnb32:=NB316_318.out;have hnc32:=NB318_316.out;obtain ⟨_,_,_,_,_,_⟩:=cells3 BK316.out;have hnb34:=NB317_318.out;have hnc34:=NB318_317.out;obtain ⟨_,_,_,_⟩:=cells2 BK317.out)|((with_reducible refine gate_callee (f:=58) rfl ?_);refine goesL_ (some 36) rfl rfl Try.func58 (by kernel_rfl) rfl #[.agg #[.int .i64 a0_0,.int .i64 a0_1,.slice A0_2 l0_2.length c0_2],.agg #[.slice A1_0 l1_0.length c1_0,.slice A1_1 l1_1.length c1_1],.int .i64 a2,.int .i64 a3] rfl ga_ ?_;(with_reducible refine (water_Sail.calls k a0_0 a0_1 _ _ l0_2 _ _ l1_0 _ _ l1_1 a2 a3 t327 t330 _ ?_ ?_ ?_ ?_ ?_ ?_ A10.out).mono ?_);exact Kd.C_below HR0_2.out (hb_);exact HC0_2.out;exact Kd.C_below HR1_0.out (hb_);exact HC1_0.out;exact Kd.C_below HR1_1.out (hb_);exact HC1_1.out;rintro e w36 ⟨v328,rfl,ho0,hb⟩;refine ⟨_,rfl,?_⟩;have HO329:=rlo ho0;replace HO324:=Aside0.mk (Kd.R_below (by (with_reducible repeat (first|apply Kd.R_alloc|apply Kd.R_drewN|apply Kd.R_drew));exact (Kd.R_mono (Kd.R_fars gb326 (Kd.R_types HO324.out BK326.out (by decide)) (fun _ hk => hk.2)) (fun _ h_ => h_.1))) hb);replace BK316:=Aside0.mk (blk_below (g:=gb316) (o:=.cells #[.int .i64 a0_0,.int .i64 a0_1,.slice A0_2 l0_2.length c0_2] 53 (0,0)) (by (with_reducible repeat (first|refine blk_drewN ?_ _|refine blk_drew ?_|refine blk_alloc ?_ _));refine blk_far ?_ NB316_326.out _;(with_reducible repeat (first|refine blk_drewN ?_ _|refine blk_drew ?_|refine blk_alloc ?_ _));refine blk_far ?_ NB316_326.out _;(with_reducible repeat (first|refine blk_drewN ?_ _|refine blk_drew ?_|refine blk_alloc ?_ _));refine blk_far ?_ NB316_326.out _;(with_reducible repeat (first|refine blk_drewN ?_ _|refine blk_drew ?_|refine blk_alloc ?_ _));refine blk_far ?_ NB316_326.out _;(with_reducible repeat (first|refine blk_drewN ?_ _|refine blk_drew ?_|refine blk_alloc ?_ _));refine blk_far ?_ NB316_326.out _;(with_reducible repeat (first|refine blk_drewN ?_ _|refine blk_drew ?_|refine blk_alloc ?_ _));exact BK316.out) hb);replace BK317:=Aside0.mk (blk_below (g:=gb317) (o:=.cells #[.slice A1_0 l1_0.length c1_0,.slice A1_1 l1_1.length c1_1] 55 (0,0)) (by (with_reducible repeat (first|refine blk_drewN ?_ _|refine blk_drew ?_|refine blk_alloc ?_ _));refine blk_far ?_ NB317_326.out _;(with_reducible repeat (first|refine blk_drewN ?_ _|refine blk_drew ?_|refine blk_alloc ?_ _));refine blk_far ?_ NB317_326.out _;(with_reducible repeat (first|refine blk_drewN ?_ _|refine blk_drew ?_|refine blk_alloc ?_ _));refine blk_far ?_ NB317_326.out _;(with_reducible repeat (first|refine blk_drewN ?_ _|refine blk_drew ?_|refine blk_alloc ?_ _));refine blk_far ?_ NB317_326.out _;(with_reducible repeat (first|refine blk_drewN ?_ _|refine blk_drew ?_|refine blk_alloc ?_ _));refine blk_far ?_ NB317_326.out _;(with_reducible repeat (first|refine blk_drewN ?_ _|refine blk_drew ?_|refine blk_alloc ?_ _));exact BK317.out) hb);replace BK318:=Aside0.mk (blk_below (g:=gb318) (o:=.cells #[.int .i64 0,.int .i64 0,.int .i64 0,.int .i64 0,.int .i64 0] 57 (0,0)) (by (with_reducible repeat (first|refine blk_drewN ?_ _|refine blk_drew ?_|refine blk_alloc ?_ _));refine blk_far ?_ NB318_326.out _;(with_reducible repeat (first|refine blk_drewN ?_ _|refine blk_drew ?_|refine blk_alloc ?_ _));refine blk_far ?_ NB318_326.out _;(with_reducible repeat (first|refine blk_drewN ?_ _|refine blk_drew ?_|refine blk_alloc ?_ _));refine blk_far ?_ NB318_326.out _;(with_reducible repeat (first|refine blk_drewN ?_ _|refine blk_drew ?_|refine blk_alloc ?_ _));refine blk_far ?_ NB318_326.out _;(with_reducible repeat (first|refine blk_drewN ?_ _|refine blk_drew ?_|refine blk_alloc ?_ _));refine blk_far ?_ NB318_326.out _;(with_reducible repeat (first|refine blk_drewN ?_ _|refine blk_drew ?_|refine blk_alloc ?_ _));exact BK318.out) hb);replace BK326:=Aside0.mk (blk_below (g:=gb326) (o:=.cells #[.int .i64 a2,.int .i64 (-1),.int .i64 0,.int .i64 0,.int .i64 0] 57 (0,0)) (by (with_reducible repeat (first|refine blk_drewN ?_ _|refine blk_drew ?_|refine blk_alloc ?_ _));exact blk_puts5 (blk_up BK326.out)) hb);replace HB:=hbs hb;obtain ⟨Ao37,co37,eo37⟩:=Kd.R_slice HO329.out;subst eo37))
 replace HO324:=Aside0.mk (Kd.R_drew HO324.out)
 replace HO329:=Aside0.mk (Kd.R_drew HO329.out)
 replace BK316:=Aside0.mk (blk_drew BK316.out)
 replace BK317:=Aside0.mk (blk_drew BK317.out)
 replace BK318:=Aside0.mk (blk_drew BK318.out)
 replace BK326:=Aside0.mk (blk_drew BK326.out)
 replace HB:=Aside0.mk (below_drew1 HB.out)
 have p331 : 0 ≤ (0 : Int):=(by omega)
 have q331 : 0 < (t327.length : Int):=of_decide_eq_true (by first|(with_reducible assumption)|assumption)
 obtain ⟨ad331,e331,hx331_0⟩:=Kd.at_int (Kd.R_reads' HO329.out).2.2 0 p331 q331
 cases e331
 have qi331 : (0 < t327.length) = True:=eq_true (by omega)
 (try rw [show ((0 : Int)).toNat = 0 from rfl] at hx331_0)
 (try rw [Addr.add_zero'] at hx331_0)
 replace p331:=eq_true p331
 replace q331:=eq_true q331
 have p332 : 0 ≤ (1 : Int):=(by omega)
 have q332 : 1 < (t327.length : Int):=of_decide_eq_true (by first|(with_reducible assumption)|assumption)
 obtain ⟨ad332,e332,hx332_0⟩:=Kd.at_int (Kd.R_reads' HO329.out).2.2 1 p332 q332
 obtain rfl : ad331 = ad332:=(by injection e332)
 (try simp only [show (1 : Int).toNat = 1 from rfl,Nat.reduceMul,Nat.reduceEqDiff,Go.Addr.add,↓reduceIte] at hx332_0)
 have qi332 : (1 < t327.length) = True:=eq_true (by omega)
 (try rw [show ((1 : Int)).toNat = 1 from rfl] at hx332_0)
 replace p332:=eq_true p332
 replace q332:=eq_true q332
 refine start_ (n:=10) (S:=fun w' => w'.cell? ⟨gb316,0,none⟩ = some (.int .i64 a0_0) ∧ w'.cell? ⟨gb316,1,none⟩ = some (.int .i64 a0_1) ∧ w'.cell? ⟨gb316,2,none⟩ = some (.slice A0_2 l0_2.length c0_2) ∧ w'.cell? ad331 = some (.int .i64 (rd t327 0)) ∧ w'.cell? ⟨ad331.block,ad331.off + 1,none⟩ = some (.int .i64 (rd t327 1))) (ds:=[]) #[false,false,false,false,false,false,false,false,false,false] (by kernel_rfl) rfl rfl ⟨(blk_cell BK316.out 0).trans rfl,(blk_cell BK316.out 1).trans rfl,(blk_cell BK316.out 2).trans rfl,hx331_0,hx332_0⟩ (fun hHeld => ?_);refine with_tabW lane_Launch.tab7 lane_Launch.bits7 (fun HT_ HW_ => ?_)
 generalize w36.drew = w38 at HO324 HO329 BK316 BK317 BK318 BK326 HB hx331_0 hx332_0 hHeld ⊢
 refine pI 1 (some 47) ?_
 refine pI 2 (some 48) ?_
 refine pI 4 (some 50) ?_
 refine pI 5 (some 51) ?_
 refine tI5 0 (some 46) hHeld ?_
 refine tI5 3 (some 49) hHeld ?_
 refine tI5 6 (some 52) hHeld ?_
 refine oI 7 (some 53) (fun K hK => ?_)
 refine goes_ Try.func59 (by kernel_rfl) rfl #[.agg #[.int .i64 a0_0,.int .i64 a0_1,.slice A0_2 l0_2.length c0_2],.int .i64 (rd t327 0),.int .i64 (rd t327 1)] (by rfl) rfl rfl ga_ ?_
 with_reducible refine (lane_side.calls k a0_0 a0_1 _ _ l0_2 (rd t327 0) (rd t327 1) t333 _ ?side1 ?side2 A15.out).mono ?_
 (case side1 => exact cq HR0_2)
 (case side2 => exact HC0_2.out)
 rintro e w39 ⟨rfl,hb⟩
 have HS3_:=(hb.cell (World.block_lt_of_cell? _ _ (hHeld.2.2.2.1))).trans (hHeld.2.2.2.1)
 have HS4_:=(hb.cell (World.block_lt_of_cell? _ _ (hHeld.2.2.2.2))).trans (hHeld.2.2.2.2)
 refine ⟨_,rfl,?_⟩
 have n0_:=rbw HO324 hb
 have n1_:=rbw HO329 hb
 have n2_:=bkb BK316 hb
 have n3_:=bkb BK317 hb
 have n4_:=bkb BK318 hb
 have n5_:=bkb BK326 hb
 have n6_:=Aside0.mk (below_step (hb_) hb)
 clear HO324
 clear HO329
 clear BK316
 clear BK317
 clear BK318
 clear BK326
 clear HB
 have HO324:=n0_
 have HO329:=n1_
 have BK316:=n2_
 have BK317:=n3_
 have BK318:=n4_
 have BK326:=n5_
 have HB:=n6_
 clear n0_ n1_ n2_ n3_ n4_ n5_ n6_
 (try clear hb)
 (try clear hb2)
 (try clear hk)
 (try clear hi)
 refine hK.out _ _ ⟨(blk_cell BK316.out 0).trans rfl,(blk_cell BK316.out 1).trans rfl,(blk_cell BK316.out 2).trans rfl,HS3_,HS4_⟩ (fun hHeld => ?_)
 clear hK K
 refine norm_ (a':=?_) ?_ ?_
 rotate_left
 ·show Act.put _ (some 53) _ = _
  simp only [Act.put,List.setIfInBounds_toArray,List.set_cons_zero,List.set_cons_succ,i64_w,i32_w]
  rfl
 refine pI 8 (some 54) ?_
 refine oI 9 (none) (fun K hK => ?_)
 have hs40 : w39.cell? ⟨gb326,2,none⟩ = some (.int .i64 0):=(blk_cell BK326.out 2).trans rfl
 have hfs40:=blk_frozen BK326.out 2
 have hns40_0:=NB316_326.out
 have hns40_1:=NB317_326.out
 have hns40_2:=NB318_326.out
 have hms40_0:=NB326_316.out
 have hms40_1:=NB326_317.out
 have hms40_2:=NB326_318.out
 refine skip_ (w1:=?_) (by rfl) rfl ?_ ?_
 rotate_left
 ·go_simp
  rfl
 refine hK.out _ _ ⟨((cell_far (p:=⟨gb326,_,none⟩) NB316_326.out _).trans (hHeld.1)),((cell_far (p:=⟨gb326,_,none⟩) NB316_326.out _).trans (hHeld.2.1)),((cell_far (p:=⟨gb326,_,none⟩) NB316_326.out _).trans (hHeld.2.2.1)),((cell_far (p:=⟨gb326,_,none⟩) (by first|exact Kd.own_blk (Kd.R_ne HO329.out BK326.out (by decide))|(rw [add_block];exact Kd.own_blk (Kd.R_ne HO329.out BK326.out (by decide)))|(show (Addr.add _ _).block ≠ _;rw [add_block];exact Kd.own_blk (Kd.R_ne HO329.out BK326.out (by decide)))|(dsimp only;exact Kd.own_blk (Kd.R_ne HO329.out BK326.out (by decide)))) _).trans (hHeld.2.2.2.1)),((cell_far (p:=⟨gb326,_,none⟩) (by first|exact Kd.own_blk (Kd.R_ne HO329.out BK326.out (by decide))|(rw [add_block];exact Kd.own_blk (Kd.R_ne HO329.out BK326.out (by decide)))|(show (Addr.add _ _).block ≠ _;rw [add_block];exact Kd.own_blk (Kd.R_ne HO329.out BK326.out (by decide)))|(dsimp only;exact Kd.own_blk (Kd.R_ne HO329.out BK326.out (by decide)))) _).trans (hHeld.2.2.2.2))⟩ (fun hHeld => ?_)
 clear hK K
 refine done_ (done_of HT_.out (by kernel_rfl)) ?_
 obtain ⟨_,_,_,_,_,_,_,_,_,_⟩:=cells5 BK326.out
 obtain ⟨_,_,_,_,_,_,_,_,_,_⟩:=cells5 BK318.out
 try go_wp2
 refine bodyPost_ret (results_ct rfl _ _ gb318 57 #[.int .i64 a2,.int .i64 (-1),.int .i64 t333,.int .i64 0,.int .i64 0] (0,0) _ rfl (by (with_reducible repeat (first|refine blk_drewN ?_ _|refine blk_drew ?_|refine blk_alloc ?_ _));refine blk_put (cs:=#[.int .i64 a2,.int .i64 (-1),.int .i64 t333,.int .i64 0,.int .i64 0]) ?_ 4 _ rfl;(with_reducible repeat (first|refine blk_drewN ?_ _|refine blk_drew ?_|refine blk_alloc ?_ _));refine blk_put (cs:=#[.int .i64 a2,.int .i64 (-1),.int .i64 t333,.int .i64 0,.int .i64 0]) ?_ 3 _ rfl;(with_reducible repeat (first|refine blk_drewN ?_ _|refine blk_drew ?_|refine blk_alloc ?_ _));refine blk_put (cs:=#[.int .i64 a2,.int .i64 (-1),.int .i64 0,.int .i64 0,.int .i64 0]) ?_ 2 _ rfl;(with_reducible repeat (first|refine blk_drewN ?_ _|refine blk_drew ?_|refine blk_alloc ?_ _));refine blk_put (cs:=#[.int .i64 a2,.int .i64 0,.int .i64 0,.int .i64 0,.int .i64 0]) ?_ 1 _ rfl;(with_reducible repeat (first|refine blk_drewN ?_ _|refine blk_drew ?_|refine blk_alloc ?_ _));refine blk_put (cs:=#[.int .i64 0,.int .i64 0,.int .i64 0,.int .i64 0,.int .i64 0]) ?_ 0 _ rfl;(with_reducible repeat (first|refine blk_drewN ?_ _|refine blk_drew ?_|refine blk_alloc ?_ _));refine blk_far ?_ NB318_326.out _;(with_reducible repeat (first|refine blk_drewN ?_ _|refine blk_drew ?_|refine blk_alloc ?_ _));exact BK318.out) Try.underlying57 rfl (by kernel_rfl)) rfl ?_
 exact ⟨er_,hb_⟩

end Go.Proofs.Ythjmdpekcleihaa.P

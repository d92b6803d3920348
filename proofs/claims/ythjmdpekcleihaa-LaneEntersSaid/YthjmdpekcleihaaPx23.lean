/- Functions of this seat as plain Lean functions, with proofs that the Go code comes to just their answers, or what stands between them and a law's statement; no conditions. (Laid by a program of this session, out of the kit's print.) -/
import Derived.Test.YthjmdpekcleihaaPx0
import Derived.Test.YthjmdpekcleihaaPx1
import Derived.Test.YthjmdpekcleihaaPx3
import Derived.Test.YthjmdpekcleihaaPx16
import Derived.Test.YthjmdpekcleihaaPx22
namespace Go.Proofs.Ythjmdpekcleihaa.P
open Go.RowKit Go.Proofs.YthjmdpekcleihaaW.PrintWords Go.Proofs.YthjmdpekcleihaaW.PrintLast Go.Proofs.YthjmdpekcleihaaW.PrintMore
attribute [local go_sem] max2_int min2_int max_two min_two max_three min_three max_four min_four   -- for this text's walks alone
set_option linter.unusedVariables false
set_option linter.unusedSimpArgs false

attribute [local go_sem high] eqA50
/-! ### lane_Leave: function 22 -/
def lane_Leave.f (k : Nat) (a0_0 : Int) (a0_1 : Int) (l0_2 : List Int) (l0_3 : List Int) (l0_4 : List Int) (l0_5 : List (S50)) (a1 : Int) : Option (Int × Int × List Int × List Int × List Int × (List (S50)) × Int) := (lane_Validate.f k a0_0 a0_1 l0_2 l0_3 l0_4 l0_5).bind fun t393 => (if t393 = 0 then ((lane_within.f a1 (wrap64 ((l0_5.length : Int) - 1))).bind fun t394 => (if t394 = true then ((lane_copied.f a0_0 a0_1 l0_2 l0_3 l0_4 l0_5).bind fun bt395 => (if 0 ≤ a1 then (if a1 < (bt395.2.2.2.2.2.length : Int) then (some (bt395.1, bt395.2.1, bt395.2.2.1, bt395.2.2.2.1, bt395.2.2.2.2.1, (bt395.2.2.2.2.2.set (a1 : Int).toNat (⟨(-1), (-1), 0, 0, 0⟩ : S50)), 0)) else (none)) else (none))) else (some (0, 0, ([] : List Int), ([] : List Int), ([] : List Int), ([] : List (S50)), 2)))) else (some (0, 0, ([] : List Int), ([] : List Int), ([] : List Int), ([] : List (S50)), t393)))
theorem lane_Leave.mono : ∀ a0 a1 a2 a3 a4 a5 a6 k, LeO (lane_Leave.f k a0 a1 a2 a3 a4 a5 a6) (lane_Leave.f (k + 1) a0 a1 a2 a3 a4 a5 a6) := by
 intro a0 a1 a2 a3 a4 a5 a6 k
 unfold lane_Leave.f
 repeat' first
   | (with_reducible exact lane_Validate.mono _ _ _ _ _ _ _)
   | (with_reducible exact LeO.refl _)
   | (with_reducible exact LeO.none _)
   | (with_reducible refine LeO.ite ?_ ?_)
   | (with_reducible refine LeO.bind ?_ (fun _ => ?_))
   | exact lane_Validate.mono _ _ _ _ _ _ _
   | exact LeO.none _
   | refine LeO.ite ?_ ?_
   | refine LeO.bind ?_ (fun _ => ?_)
set_option maxHeartbeats 8000000 in
set_option maxRecDepth 100000 in
theorem lane_Leave.calls (k : Nat) (a0_0 : Int) (a0_1 : Int) (A0_2 : Option Addr) (c0_2 : Nat) (l0_2 : List Int) (A0_3 : Option Addr) (c0_3 : Nat) (l0_3 : List Int) (A0_4 : Option Addr) (c0_4 : Nat) (l0_4 : List Int) (A0_5 : Option Addr) (c0_5 : Nat) (l0_5 : List (S50)) (a1 : Int) (r1 : Int) (r2 : Int) (r3 : List Int) (r4 : List Int) (r5 : List Int) (r6 : List (S50)) (r7 : Int) (w : World) (hr0_2 : Kd.C (Kd.int .i64) w A0_2 l0_2.length l0_2) (hc0_2 : l0_2.length ≤ c0_2) (hr0_3 : Kd.C (Kd.int .i64) w A0_3 l0_3.length l0_3) (hc0_3 : l0_3.length ≤ c0_3) (hr0_4 : Kd.C (Kd.int .i64) w A0_4 l0_4.length l0_4) (hc0_4 : l0_4.length ≤ c0_4) (hr0_5 : Kd.C k50 w A0_5 l0_5.length l0_5) (hc0_5 : l0_5.length ≤ c0_5) (h : lane_Leave.f k a0_0 a0_1 l0_2 l0_3 l0_4 l0_5 a1 = some (r1, r2, r3, r4, r5, r6, r7)) :
  Calls Try.prog 22 #[.agg #[.int .i64 a0_0,.int .i64 a0_1,.slice A0_2 l0_2.length c0_2,.slice A0_3 l0_3.length c0_3,.slice A0_4 l0_4.length c0_4,.slice A0_5 l0_5.length c0_5],.int .i64 a1] w fun e w' => ∃ v2_ v3_ v4_ v5_ : Value,e = .returned (.tuple #[.agg #[.int .i64 r1,.int .i64 r2,v2_,v3_,v4_,v5_],.int .i64 r7]) ∧ Kd.R (Kd.int .i64) 3 w' w.heap.size (fun k_ => some k_ ≠ (v3_ : Value).ownBlock ∧ some k_ ≠ (v4_ : Value).ownBlock) v2_ r3 ∧ Kd.R (Kd.int .i64) 3 w' w.heap.size (fun k_ => some k_ ≠ (v2_ : Value).ownBlock ∧ some k_ ≠ (v4_ : Value).ownBlock) v3_ r4 ∧ Kd.R (Kd.int .i64) 3 w' w.heap.size (fun k_ => some k_ ≠ (v2_ : Value).ownBlock ∧ some k_ ≠ (v3_ : Value).ownBlock) v4_ r5 ∧ Kd.R k50 50 w' w.heap.size (fun _ => True) v5_ r6 ∧ Below w.heap.size w w':=by
 have hu33:=Try.underlying33
 have hu50:=Try.underlying50
 have HR0_2:=Aside0.mk hr0_2
 have HC0_2:=Aside0.mk hc0_2
 clear hr0_2 hc0_2
 have HR0_3:=Aside0.mk hr0_3
 have HC0_3:=Aside0.mk hc0_3
 clear hr0_3 hc0_3
 have HR0_4:=Aside0.mk hr0_4
 have HC0_4:=Aside0.mk hc0_4
 clear hr0_4 hc0_4
 have HR0_5:=Aside0.mk hr0_5
 have HC0_5:=Aside0.mk hc0_5
 clear hr0_5 hc0_5
 have HB:=Aside0.mk (Below.refl w.heap.size w)
 have H : ((lane_Validate.f k a0_0 a0_1 l0_2 l0_3 l0_4 l0_5).bind fun t393 => (if t393 = 0 then ((lane_within.f a1 (wrap64 ((l0_5.length : Int) - 1))).bind fun t394 => (if t394 = true then ((lane_copied.f a0_0 a0_1 l0_2 l0_3 l0_4 l0_5).bind fun bt395 => (if 0 ≤ a1 then (if a1 < (bt395.2.2.2.2.2.length : Int) then (some (bt395.1,bt395.2.1,bt395.2.2.1,bt395.2.2.2.1,bt395.2.2.2.2.1,(bt395.2.2.2.2.2.set (a1 : Int).toNat (⟨(-1),(-1),0,0,0⟩ : S50)),0)) else (none)) else (none))) else (some (0,0,([] : List Int),([] : List Int),([] : List Int),([] : List (S50)),2)))) else (some (0,0,([] : List Int),([] : List Int),([] : List Int),([] : List (S50)),t393)))) = some (r1,r2,r3,r4,r5,r6,r7):=h
 clear h
 replace H:=Option.bind_eq_some_iff.mp H
 obtain ⟨t393,A30,H⟩:=H
 replace H : (if t393 = 0 then ((lane_within.f a1 (wrap64 ((l0_5.length : Int) - 1))).bind fun t394 => (if t394 = true then ((lane_copied.f a0_0 a0_1 l0_2 l0_3 l0_4 l0_5).bind fun bt395 => (if 0 ≤ a1 then (if a1 < (bt395.2.2.2.2.2.length : Int) then (some (bt395.1,bt395.2.1,bt395.2.2.1,bt395.2.2.2.1,bt395.2.2.2.2.1,(bt395.2.2.2.2.2.set (a1 : Int).toNat (⟨(-1),(-1),0,0,0⟩ : S50)),0)) else (none)) else (none))) else (some (0,0,([] : List Int),([] : List Int),([] : List Int),([] : List (S50)),2)))) else (some (0,0,([] : List Int),([] : List Int),([] : List Int),([] : List (S50)),t393))) = some (r1,r2,r3,r4,r5,r6,r7):=H
 have A3:=Aside0.mk A30
 clear A30
 by_cases c4 : t393 = 0
 rotate_left
 ·rw [if_neg c4] at H
  have c4b0:=bqf c4
  have c4b1:=bnt c4
  simp only [Option.some.injEq,Prod.mk.injEq] at H
  obtain ⟨rfl,rfl,rfl,rfl,rfl,rfl,rfl⟩:=H
  go_enter Try.func22,Try.ntmps22
  go_wp2_with (first|((with_reducible refine gate_dst (N:=2) rfl ?_);refine box_ev (N:=2) (cs:=#[.int .i64 a0_0,.int .i64 a0_1,.slice A0_2 l0_2.length c0_2,.slice A0_3 l0_3.length c0_3,.slice A0_4 l0_4.length c0_4,.slice A0_5 l0_5.length c0_5]) (t:=33) ?_;intro gb391 hg w36 hbox hb;have BK391:=Aside0.mk (hbox);have GW391 : Aside0 (w.heap.size ≤ gb391):=gsz hg;have GE391:=GW391;replace HB:=hbs hb;clear hb hbox hg)|((with_reducible refine gate_dst (N:=4) rfl ?_);refine box_ev (N:=4) (cs:=#[.int .i64 0,.int .i64 0,.slice none 0 0,.slice none 0 0,.slice none 0 0,.slice none 0 0]) (t:=33) ?_;intro gb392 hg w37 hbox hb;have BK392:=Aside0.mk (hbox);have GW392 : Aside0 (w.heap.size ≤ gb392):=gsz hg;have GE392:=GW392;have NB391_392:=nbl BK391 hg;have NB392_391:=nbr BK391 hg;replace BK391:=bkb BK391 hb;replace HB:=hbs hb;clear hb hbox hg;have hnb38:=NB391_392.out;have hnc38:=NB392_391.out;obtain ⟨_,_,_,_,_,_,_,_,_,_,_,_⟩:=cells6 BK391.out)|((with_reducible refine gate_callee (f:=18) rfl ?_);refine goesL_ (some 8) rfl rfl Try.func18 (by kernel_rfl) rfl #[.agg #[.int .i64 a0_0,.int .i64 a0_1,.slice A0_2 l0_2.length c0_2,.slice A0_3 l0_3.length c0_3,.slice A0_4 l0_4.length c0_4,.slice A0_5 l0_5.length c0_5]] rfl ga_ ?_;(with_reducible refine (lane_Validate.calls k a0_0 a0_1 _ _ l0_2 _ _ l0_3 _ _ l0_4 _ _ l0_5 t393 _ ?_ ?_ ?_ ?_ ?_ ?_ ?_ ?_ A3.out).mono ?_);exact cq HR0_2;exact HC0_2.out;exact cq HR0_3;exact HC0_3.out;exact cq HR0_4;exact HC0_4.out;exact cq HR0_5;exact HC0_5.out;rintro e w40 ⟨rfl,hb⟩;refine ⟨_,rfl,?_⟩;replace BK391:=bkb BK391 hb;replace BK392:=bkb BK392 hb;replace HB:=hbs hb;obtain ⟨_,_,_,_,_,_,_,_,_,_,_,_⟩:=cells6 BK392.out))
  refine bodyPost_ret (results_ct rfl _ _ gb392 33 #[.int .i64 0,.int .i64 0,.slice none 0 0,.slice none 0 0,.slice none 0 0,.slice none 0 0] (0,0) _ rfl (by (with_reducible repeat (first|refine blk_drewN ?_ _|refine blk_drew ?_|refine blk_alloc ?_ _));exact blk_puts6 (blk_up BK392.out)) Try.underlying33 rfl (by kernel_rfl)) rfl ?_
  exact ⟨_,_,_,_,er_,nl_,nl_,nl_,nl_,hb_⟩
 rw [if_pos c4] at H
 have c4b0:=bqt c4
 have c4b1:=bnf c4
 clear c4
 replace H:=Option.bind_eq_some_iff.mp H
 obtain ⟨t394,A50,H⟩:=H
 replace H : (if t394 = true then ((lane_copied.f a0_0 a0_1 l0_2 l0_3 l0_4 l0_5).bind fun bt395 => (if 0 ≤ a1 then (if a1 < (bt395.2.2.2.2.2.length : Int) then (some (bt395.1,bt395.2.1,bt395.2.2.1,bt395.2.2.2.1,bt395.2.2.2.2.1,(bt395.2.2.2.2.2.set (a1 : Int).toNat (⟨(-1),(-1),0,0,0⟩ : S50)),0)) else (none)) else (none))) else (some (0,0,([] : List Int),([] : List Int),([] : List Int),([] : List (S50)),2))) = some (r1,r2,r3,r4,r5,r6,r7):=H
 have A5:=Aside0.mk A50
 clear A50
 by_cases c6 : t394 = true
 ·subst c6
  have H1 : ((lane_copied.f a0_0 a0_1 l0_2 l0_3 l0_4 l0_5).bind fun bt395 => (if 0 ≤ a1 then (if a1 < (bt395.2.2.2.2.2.length : Int) then (some (bt395.1,bt395.2.1,bt395.2.2.1,bt395.2.2.2.1,bt395.2.2.2.2.1,(bt395.2.2.2.2.2.set (a1 : Int).toNat (⟨(-1),(-1),0,0,0⟩ : S50)),0)) else (none)) else (none))) = some (r1,r2,r3,r4,r5,r6,r7):=by rw [if_pos rfl] at H;exact H
  clear H
  have H:=H1
  clear H1
  replace H:=Option.bind_eq_some_iff.mp H
  obtain ⟨⟨t395,t396,t397,t400,t403,t406⟩,A70,H⟩:=H
  replace H : (if 0 ≤ a1 then (if a1 < (t406.length : Int) then (some (t395,t396,t397,t400,t403,(t406.set (a1 : Int).toNat (⟨(-1),(-1),0,0,0⟩ : S50)),0)) else (none)) else (none)) = some (r1,r2,r3,r4,r5,r6,r7):=H
  have A7:=Aside0.mk A70
  clear A70
  replace H:=ifp_ H;obtain ⟨c8,H⟩:=H
  have c8b0 : decide (0 ≤ a1) = true:=decide_eq_true c8
  clear c8
  replace H:=ifp_ H;obtain ⟨c9,H⟩:=H
  have c9b0 : decide (a1 < (t406.length : Int)) = true:=decide_eq_true c9
  clear c9
  obtain ⟨y409,hy409⟩ : ∃ y_ : List (S50),y_ = (t406.set (a1 : Int).toNat (⟨(-1),(-1),0,0,0⟩ : S50)):=⟨_,rfl⟩
  replace H : (some (t395,t396,t397,t400,t403,y409,0)) = some (r1,r2,r3,r4,r5,r6,r7):=by first|(rw [hy409];with_reducible exact H)|(have H2_:=(Option.bind_some _ _).symm.trans H;rw [hy409];with_reducible exact H2_)|(have H2_:=(Option.bind_some _ _).symm.trans H;with_reducible exact H2_)|with_reducible exact H|(rw [hy409];exact H)|exact H
  have Ny409:=Aside0.mk hy409
  clear hy409
  simp only [Option.some.injEq,Prod.mk.injEq] at H
  obtain ⟨rfl,rfl,rfl,rfl,rfl,rfl,rfl⟩:=H
  go_enter Try.func22,Try.ntmps22
  go_wp2_with (first|((with_reducible refine gate_dst (N:=2) rfl ?_);refine box_ev (N:=2) (cs:=#[.int .i64 a0_0,.int .i64 a0_1,.slice A0_2 l0_2.length c0_2,.slice A0_3 l0_3.length c0_3,.slice A0_4 l0_4.length c0_4,.slice A0_5 l0_5.length c0_5]) (t:=33) ?_;intro gb391 hg w11 hbox hb;have BK391:=Aside0.mk (hbox);have GW391 : Aside0 (w.heap.size ≤ gb391):=gsz hg;have GE391:=GW391;replace HB:=hbs hb;clear hb hbox hg)|((with_reducible refine gate_dst (N:=4) rfl ?_);refine box_ev (N:=4) (cs:=#[.int .i64 0,.int .i64 0,.slice none 0 0,.slice none 0 0,.slice none 0 0,.slice none 0 0]) (t:=33) ?_;intro gb392 hg w12 hbox hb;have BK392:=Aside0.mk (hbox);have GW392 : Aside0 (w.heap.size ≤ gb392):=gsz hg;have GE392:=GW392;have NB391_392:=nbl BK391 hg;have NB392_391:=nbr BK391 hg;replace BK391:=bkb BK391 hb;replace HB:=hbs hb;clear hb hbox hg;have hnb13:=NB391_392.out;have hnc13:=NB392_391.out;obtain ⟨_,_,_,_,_,_,_,_,_,_,_,_⟩:=cells6 BK391.out)|((with_reducible refine gate_callee (f:=18) rfl ?_);refine goesL_ (some 8) rfl rfl Try.func18 (by kernel_rfl) rfl #[.agg #[.int .i64 a0_0,.int .i64 a0_1,.slice A0_2 l0_2.length c0_2,.slice A0_3 l0_3.length c0_3,.slice A0_4 l0_4.length c0_4,.slice A0_5 l0_5.length c0_5]] rfl ga_ ?_;(with_reducible refine (lane_Validate.calls k a0_0 a0_1 _ _ l0_2 _ _ l0_3 _ _ l0_4 _ _ l0_5 t393 _ ?_ ?_ ?_ ?_ ?_ ?_ ?_ ?_ A3.out).mono ?_);exact cq HR0_2;exact HC0_2.out;exact cq HR0_3;exact HC0_3.out;exact cq HR0_4;exact HC0_4.out;exact cq HR0_5;exact HC0_5.out;rintro e w15 ⟨rfl,hb⟩;refine ⟨_,rfl,?_⟩;replace BK391:=bkb BK391 hb;replace BK392:=bkb BK392 hb;replace HB:=hbs hb;obtain ⟨_,_,_,_,_,_,_,_,_,_,_,_⟩:=cells6 BK391.out)|((with_reducible refine gate_callee (f:=37) rfl ?_);refine goesL_ (some 18) rfl rfl Try.func37 (by kernel_rfl) rfl #[.int .i64 a1,.int .i64 (wrap64 ((l0_5.length : Int) - 1))] rfl ga_ ?_;(with_reducible refine (lane_within.calls a1 (wrap64 ((l0_5.length : Int) - 1)) true _ A5.out).mono ?_);rintro e w' ⟨rfl,⟨nd,rfl⟩⟩;refine ⟨_,rfl,?_⟩;(try (rw [drewN_self w15];generalize hq_ : World.drewN w15 _ = w15;have n0_ : Aside0 (w15.heap[gb391]? = some (.cells #[.int .i64 a0_0,.int .i64 a0_1,.slice A0_2 l0_2.length c0_2,.slice A0_3 l0_3.length c0_3,.slice A0_4 l0_4.length c0_4,.slice A0_5 l0_5.length c0_5] 33 (0,0))):=⟨by rw [← hq_];exact (blk_up BK391.out)⟩;have n1_ : Aside0 (w15.heap[gb392]? = some (.cells #[.int .i64 0,.int .i64 0,.slice none 0 0,.slice none 0 0,.slice none 0 0,.slice none 0 0] 33 (0,0))):=⟨by rw [← hq_];exact (blk_up BK392.out)⟩;have n2_ : Aside0 (Below w.heap.size w w15):=⟨by rw [← hq_];exact (hb_)⟩;clear BK391 BK392 HB hq_;have BK391:=n0_;have BK392:=n1_;have HB:=n2_;clear n0_ n1_ n2_;obtain ⟨_,_,_,_,_,_,_,_,_,_,_,_⟩:=cells6 BK391.out)))|((with_reducible refine gate_callee (f:=46) rfl ?_);refine goesL_ (some 22) rfl rfl Try.func46 (by kernel_rfl) rfl #[.agg #[.int .i64 a0_0,.int .i64 a0_1,.slice A0_2 l0_2.length c0_2,.slice A0_3 l0_3.length c0_3,.slice A0_4 l0_4.length c0_4,.slice A0_5 l0_5.length c0_5]] rfl ga_ ?_;(with_reducible refine (lane_copied.calls a0_0 a0_1 _ _ l0_2 _ _ l0_3 _ _ l0_4 _ _ l0_5 t395 t396 t397 t400 t403 t406 _ ?_ ?_ ?_ ?_ ?_ ?_ ?_ ?_ A7.out).mono ?_);exact cq HR0_2;exact HC0_2.out;exact cq HR0_3;exact HC0_3.out;exact cq HR0_4;exact HC0_4.out;exact cq HR0_5;exact HC0_5.out;rintro e w17 ⟨v398,v401,v404,v407,rfl,ho0,ho1,ho2,ho3,hb⟩;refine ⟨_,rfl,?_⟩;have HO399:=rlo ho0;have HO402:=rlo ho1;have HO405:=rlo ho2;have HO408:=rlo ho3;replace BK391:=bkb BK391 hb;replace BK392:=bkb BK392 hb;replace HB:=hbs hb;obtain ⟨_,_,_,_,_,_,_,_,_,_,_,_⟩:=cells6 BK391.out;obtain ⟨Ao19,co19,eo19⟩:=Kd.R_slice HO399.out;subst eo19;obtain ⟨Ao20,co20,eo20⟩:=Kd.R_slice HO402.out;subst eo20;obtain ⟨Ao21,co21,eo21⟩:=Kd.R_slice HO405.out;subst eo21;obtain ⟨Ao22,co22,eo22⟩:=Kd.R_slice HO408.out;subst eo22)|((with_reducible refine gate_store (t:=33) (p:=2) rfl ?_);refine store_event (t:=33) (p:=2) (v:=?vo_w23) (w1:=((((((w17.setCell ⟨gb391,0,none⟩ (.int .i64 t395)).setCell ⟨gb391,1,none⟩ (.int .i64 t396)).setCell ⟨gb391,2,none⟩ (.slice Ao19 t397.length co19)).setCell ⟨gb391,3,none⟩ (.slice Ao20 t400.length co20)).setCell ⟨gb391,4,none⟩ (.slice Ao21 t403.length co21)).setCell ⟨gb391,5,none⟩ (.slice Ao22 t406.length co22))) ?hg ?ho ?hn ?hr ?_;(case ho => rfl);(case hg => rfl);(case hn => rfl);(case hr => first|(go_simp;done)|(go_simp;rfl));intro w23 hw;have n0_ : Aside0 (Kd.R (Kd.int .i64) 3 w23 w.heap.size (fun k_ => some k_ ≠ (.slice Ao20 t400.length co20 : Value).ownBlock ∧ some k_ ≠ (.slice Ao21 t403.length co21 : Value).ownBlock) (.slice Ao19 t397.length co19) t397):=⟨(by rw [hw];exact (by (with_reducible repeat (first|apply Kd.R_alloc|apply Kd.R_drewN|apply Kd.R_drew));exact Kd.R_mono (Kd.R_fars gb391 (Kd.R_types HO399.out BK391.out (by decide)) (fun _ hk => hk.2)) (fun _ hk => ⟨hk.1.1,hk.1.2⟩)))⟩;have n1_ : Aside0 (Kd.R (Kd.int .i64) 3 w23 w.heap.size (fun k_ => some k_ ≠ (.slice Ao19 t397.length co19 : Value).ownBlock ∧ some k_ ≠ (.slice Ao21 t403.length co21 : Value).ownBlock) (.slice Ao20 t400.length co20) t400):=⟨(by rw [hw];exact (by (with_reducible repeat (first|apply Kd.R_alloc|apply Kd.R_drewN|apply Kd.R_drew));exact Kd.R_mono (Kd.R_fars gb391 (Kd.R_types HO402.out BK391.out (by decide)) (fun _ hk => hk.2)) (fun _ hk => ⟨hk.1.1,hk.1.2⟩)))⟩;have n2_ : Aside0 (Kd.R (Kd.int .i64) 3 w23 w.heap.size (fun k_ => some k_ ≠ (.slice Ao19 t397.length co19 : Value).ownBlock ∧ some k_ ≠ (.slice Ao20 t400.length co20 : Value).ownBlock) (.slice Ao21 t403.length co21) t403):=⟨(by rw [hw];exact (by (with_reducible repeat (first|apply Kd.R_alloc|apply Kd.R_drewN|apply Kd.R_drew));exact Kd.R_mono (Kd.R_fars gb391 (Kd.R_types HO405.out BK391.out (by decide)) (fun _ hk => hk.2)) (fun _ hk => ⟨hk.1.1,hk.1.2⟩)))⟩;have n3_ : Aside0 (Kd.R k50 50 w23 w.heap.size (fun _ => True) (.slice Ao22 t406.length co22) t406):=⟨(by rw [hw];exact (by (with_reducible repeat (first|apply Kd.R_alloc|apply Kd.R_drewN|apply Kd.R_drew));exact Kd.R_mono (Kd.R_fars gb391 (Kd.R_types HO408.out BK391.out (by decide)) (fun _ hk => hk.2)) (fun _ hk => trivial)))⟩;have n4_ : Aside0 (w23.heap[gb391]? = some (.cells #[.int .i64 t395,.int .i64 t396,.slice Ao19 t397.length co19,.slice Ao20 t400.length co20,.slice Ao21 t403.length co21,.slice Ao22 t406.length co22] 33 (0,0))):=⟨(by rw [hw];exact (by (with_reducible repeat (first|refine blk_drewN ?_ _|refine blk_drew ?_|refine blk_alloc ?_ _));exact blk_puts6 (blk_up BK391.out)))⟩;have n5_ : Aside0 (w23.heap[gb392]? = some (.cells #[.int .i64 0,.int .i64 0,.slice none 0 0,.slice none 0 0,.slice none 0 0,.slice none 0 0] 33 (0,0))):=⟨(by rw [hw];exact (by (with_reducible repeat (first|refine blk_drewN ?_ _|refine blk_drew ?_|refine blk_alloc ?_ _));refine blk_far ?_ NB392_391.out _;(with_reducible repeat (first|refine blk_drewN ?_ _|refine blk_drew ?_|refine blk_alloc ?_ _));refine blk_far ?_ NB392_391.out _;(with_reducible repeat (first|refine blk_drewN ?_ _|refine blk_drew ?_|refine blk_alloc ?_ _));refine blk_far ?_ NB392_391.out _;(with_reducible repeat (first|refine blk_drewN ?_ _|refine blk_drew ?_|refine blk_alloc ?_ _));refine blk_far ?_ NB392_391.out _;(with_reducible repeat (first|refine blk_drewN ?_ _|refine blk_drew ?_|refine blk_alloc ?_ _));refine blk_far ?_ NB392_391.out _;(with_reducible repeat (first|refine blk_drewN ?_ _|refine blk_drew ?_|refine blk_alloc ?_ _));refine blk_far ?_ NB392_391.out _;(with_reducible repeat (first|refine blk_drewN ?_ _|refine blk_drew ?_|refine blk_alloc ?_ _));exact BK392.out))⟩;have n6_ : Aside0 (Below w.heap.size w w23):=⟨(by rw [hw];exact (hb_))⟩;clear hw;clear HO399;clear HO402;clear HO405;clear HO408;clear BK391;clear BK392;clear HB;have HO399:=n0_;have HO402:=n1_;have HO405:=n2_;have HO408:=n3_;have BK391:=n4_;have BK392:=n5_;have HB:=n6_;clear n0_ n1_ n2_ n3_ n4_ n5_ n6_;obtain ⟨_,_,_,_,_,_,_,_,_,_,_,_⟩:=cells6 BK391.out;have p10 : 0 ≤ (a1 : Int):=of_decide_eq_true (by first|(with_reducible assumption)|assumption);have q10 : (a1 : Int) < ((t406.length : Int) : Int):=of_decide_eq_true (by first|(with_reducible assumption)|assumption);obtain ⟨go10,co10,eo10,gb10,gl10,cl10,HG10⟩:=Kd.R_form HO408.out (by omega);(first|cases eo10|(injection eo10 with ea_ en_ ec_;(first|subst ea_|(injection ea_ with ea_;subst ea_));subst ec_;clear en_));have GB10:=Aside0.mk gb10;have GG10:=Aside0.mk HG10;clear gb10 gl10 HG10;obtain ⟨ce10,hcl10,hM10,hcc10,hfr10⟩:=Kd.R_elem HO408.out z50 (a1 : Int) p10 q10;obtain rfl:=k50_openM hM10;have hx10_0 : w23.cell? ⟨go10,(a1 : Int).toNat * 5,none⟩ = some (.int .i64 ((rd_T50 t406 a1).f0)):=hcc10 0 _ rfl;have hx10_1 : w23.cell? ⟨go10,(a1 : Int).toNat * 5 + 1,none⟩ = some (.int .i64 ((rd_T50 t406 a1).f1)):=hcc10 1 _ rfl;have hx10_2 : w23.cell? ⟨go10,(a1 : Int).toNat * 5 + 2,none⟩ = some (.int .i64 ((rd_T50 t406 a1).f2)):=hcc10 2 _ rfl;have hx10_3 : w23.cell? ⟨go10,(a1 : Int).toNat * 5 + 3,none⟩ = some (.int .i64 ((rd_T50 t406 a1).f3)):=hcc10 3 _ rfl;have hx10_4 : w23.cell? ⟨go10,(a1 : Int).toNat * 5 + 4,none⟩ = some (.int .i64 ((rd_T50 t406 a1).f4)):=hcc10 4 _ rfl;have hf10_0 : w23.frozen? ⟨go10,(a1 : Int).toNat * 5,none⟩ = false:=hfr10 0;have hf10_1 : w23.frozen? ⟨go10,(a1 : Int).toNat * 5 + 1,none⟩ = false:=hfr10 1;have hf10_2 : w23.frozen? ⟨go10,(a1 : Int).toNat * 5 + 2,none⟩ = false:=hfr10 2;have hf10_3 : w23.frozen? ⟨go10,(a1 : Int).toNat * 5 + 3,none⟩ = false:=hfr10 3;have hf10_4 : w23.frozen? ⟨go10,(a1 : Int).toNat * 5 + 4,none⟩ = false:=hfr10 4;clear hcl10 hcc10 hfr10 hM10;replace p10:=eq_true p10;replace q10:=eq_true q10;have HX25:=Aside0.mk (show Kd.R k50 50 w23 w.heap.size (fun _ => True) (.slice (some ⟨go10,0,none⟩) t406.length co22) t406 from (Kd.R_up HO408.out));obtain ⟨ce25,hcl25,hM25,hcc25,hfr25⟩:=Kd.R_elem HX25.out z50 (a1 : Int) (of_decide_eq_true (by first|(with_reducible assumption)|assumption)) (by have h_ : (a1 : Int) < ((t406.length : Int) : Int):=of_decide_eq_true (by first|(with_reducible assumption)|assumption);first|exact h_|(have e_:=(Kd.R_reads' HO408.out).1;omega)|simpa using h_);obtain rfl:=k50_openM hM25;have HP25:=Kd.R_seg HX25.out (a1 : Int) (of_decide_eq_true (by first|(with_reducible assumption)|assumption)) (by have h_ : (a1 : Int) < ((t406.length : Int) : Int):=of_decide_eq_true (by first|(with_reducible assumption)|assumption);first|exact h_|(have e_:=(Kd.R_reads' HO408.out).1;omega)|simpa using h_) (seg:=[.int .i64 (-1),.int .i64 (-1),.int .i64 0,.int .i64 0,.int .i64 0]) (j:=0) hcl25 hcc25 (show 5 ≤ 5 from by decide) (x':=(⟨(-1),(-1),0,0,0⟩ : S50)) (k50_mkM _ _ _ (⟨(-1),(-1),0,0,0⟩ : S50) ) (fun _ hk => hk);have hx25_0:=hcc25 0 _ rfl;(try simp only [show (k50).sz = 5 from rfl,Nat.mul_one,Nat.add_zero] at hx25_0);have hf25_0:=hfr25 0;(try simp only [show (k50).sz = 5 from rfl,Nat.mul_one,Nat.add_zero] at hf25_0);have hx25_1:=hcc25 1 _ rfl;(try simp only [show (k50).sz = 5 from rfl,Nat.mul_one,Nat.add_zero] at hx25_1);have hf25_1:=hfr25 1;(try simp only [show (k50).sz = 5 from rfl,Nat.mul_one,Nat.add_zero] at hf25_1);have hx25_2:=hcc25 2 _ rfl;(try simp only [show (k50).sz = 5 from rfl,Nat.mul_one,Nat.add_zero] at hx25_2);have hf25_2:=hfr25 2;(try simp only [show (k50).sz = 5 from rfl,Nat.mul_one,Nat.add_zero] at hf25_2);have hx25_3:=hcc25 3 _ rfl;(try simp only [show (k50).sz = 5 from rfl,Nat.mul_one,Nat.add_zero] at hx25_3);have hf25_3:=hfr25 3;(try simp only [show (k50).sz = 5 from rfl,Nat.mul_one,Nat.add_zero] at hf25_3);have hx25_4:=hcc25 4 _ rfl;(try simp only [show (k50).sz = 5 from rfl,Nat.mul_one,Nat.add_zero] at hx25_4);have hf25_4:=hfr25 4;(try simp only [show (k50).sz = 5 from rfl,Nat.mul_one,Nat.add_zero] at hf25_4);clear hcl25 hcc25 hfr25 hM25)|((with_reducible refine gate_store (t:=50) (p:=27) rfl ?_);refine store_event (t:=50) (p:=27) (v:=?vo_w26) (w1:=(((((w23.setCell ⟨go10,(a1 : Int).toNat * 5,none⟩ (.int .i64 (-1))).setCell ⟨go10,(a1 : Int).toNat * 5 + 1,none⟩ (.int .i64 (-1))).setCell ⟨go10,(a1 : Int).toNat * 5 + 2,none⟩ (.int .i64 0)).setCell ⟨go10,(a1 : Int).toNat * 5 + 3,none⟩ (.int .i64 0)).setCell ⟨go10,(a1 : Int).toNat * 5 + 4,none⟩ (.int .i64 0))) ?hg ?ho ?hn ?hr ?_;(case ho => rfl);(case hg => rfl);(case hn => rfl);(case hr => first|(go_simp;done)|(go_simp;rfl));intro w26 hw;have hg : w23.grownBy w26 (some go10):=(by rw [hw];exact HP25.2);have hp_ : Kd.R k50 50 w26 w.heap.size (fun _ => True) (.slice (some ⟨go10,0,none⟩) t406.length co22) y409:=(by rw [hw,Ny409.out];exact HP25.1);clear HP25;replace BK391:=Aside0.mk (blk_grown (blk_up BK391.out) hg (Kd.R_ne HO408.out BK391.out (by decide)));replace BK392:=Aside0.mk (blk_grown (blk_up BK392.out) hg (Kd.R_ne HO408.out BK392.out (by decide)));replace HO399:=Aside0.mk (Kd.R_over' (v:=(.slice (some ⟨go10,0,none⟩) t406.length co22)) (Kd.R_up HO399.out) (Kd.R_typed HO408.out) (by decide) hg);replace HO402:=Aside0.mk (Kd.R_over' (v:=(.slice (some ⟨go10,0,none⟩) t406.length co22)) (Kd.R_up HO402.out) (Kd.R_typed HO408.out) (by decide) hg);replace HO405:=Aside0.mk (Kd.R_over' (v:=(.slice (some ⟨go10,0,none⟩) t406.length co22)) (Kd.R_up HO405.out) (Kd.R_typed HO408.out) (by decide) hg);replace HO408:=Aside0.mk (hp_);replace HB:=Aside0.mk ((by rw [hw];exact below_set (below_set (below_set (below_set (below_set (HB.out) GB10.out) GB10.out) GB10.out) GB10.out) GB10.out : Below w.heap.size w w26));clear hg hw hp_;obtain ⟨_,_,_,_,_,_,_,_,_,_,_,_⟩:=cells6 BK391.out;obtain ⟨_,_,_,_,_,_,_,_,_,_,_,_⟩:=cells6 BK392.out))
  refine bodyPost_ret (results_ct rfl _ _ gb392 33 #[.int .i64 t395,.int .i64 t396,.slice Ao19 t397.length co19,.slice Ao20 t400.length co20,.slice Ao21 t403.length co21,.slice (some ⟨go10,0,none⟩) t406.length co22] (0,0) _ rfl (by (with_reducible repeat (first|refine blk_drewN ?_ _|refine blk_drew ?_|refine blk_alloc ?_ _));exact blk_puts6 (blk_up BK392.out)) Try.underlying33 rfl (by kernel_rfl)) rfl ?_
  exact ⟨_,_,_,_,er_,by (with_reducible repeat (first|apply Kd.R_alloc|apply Kd.R_drewN|apply Kd.R_drew));exact Kd.R_mono (Kd.R_fars gb392 (Kd.R_types HO399.out BK392.out (by decide)) (fun _ hk => hk.2)) (fun _ hk => ⟨hk.1.1,hk.1.2⟩),by (with_reducible repeat (first|apply Kd.R_alloc|apply Kd.R_drewN|apply Kd.R_drew));exact Kd.R_mono (Kd.R_fars gb392 (Kd.R_types HO402.out BK392.out (by decide)) (fun _ hk => hk.2)) (fun _ hk => ⟨hk.1.1,hk.1.2⟩),by (with_reducible repeat (first|apply Kd.R_alloc|apply Kd.R_drewN|apply Kd.R_drew));exact Kd.R_mono (Kd.R_fars gb392 (Kd.R_types HO405.out BK392.out (by decide)) (fun _ hk => hk.2)) (fun _ hk => ⟨hk.1.1,hk.1.2⟩),by (with_reducible repeat (first|apply Kd.R_alloc|apply Kd.R_drewN|apply Kd.R_drew));exact Kd.R_mono (Kd.R_fars gb392 (Kd.R_types HO408.out BK392.out (by decide)) (fun _ hk => hk.2)) (fun _ hk => trivial),hb_⟩
 ·replace c6:=Bool.eq_false_iff.mpr c6
  subst c6
  have H1 : (some (0,0,([] : List Int),([] : List Int),([] : List Int),([] : List (S50)),2)) = some (r1,r2,r3,r4,r5,r6,r7):=by rw [if_neg (show ¬ (false = true) by decide)] at H;exact H
  clear H
  have H:=H1
  clear H1
  simp only [Option.some.injEq,Prod.mk.injEq] at H
  obtain ⟨rfl,rfl,rfl,rfl,rfl,rfl,rfl⟩:=H
  go_enter Try.func22,Try.ntmps22
  go_wp2_with (first|((with_reducible refine gate_dst (N:=2) rfl ?_);refine box_ev (N:=2) (cs:=#[.int .i64 a0_0,.int .i64 a0_1,.slice A0_2 l0_2.length c0_2,.slice A0_3 l0_3.length c0_3,.slice A0_4 l0_4.length c0_4,.slice A0_5 l0_5.length c0_5]) (t:=33) ?_;intro gb391 hg w29 hbox hb;have BK391:=Aside0.mk (hbox);have GW391 : Aside0 (w.heap.size ≤ gb391):=gsz hg;have GE391:=GW391;replace HB:=hbs hb;clear hb hbox hg)|((with_reducible refine gate_dst (N:=4) rfl ?_);refine box_ev (N:=4) (cs:=#[.int .i64 0,.int .i64 0,.slice none 0 0,.slice none 0 0,.slice none 0 0,.slice none 0 0]) (t:=33) ?_;intro gb392 hg w30 hbox hb;have BK392:=Aside0.mk (hbox);have GW392 : Aside0 (w.heap.size ≤ gb392):=gsz hg;have GE392:=GW392;have NB391_392:=nbl BK391 hg;have NB392_391:=nbr BK391 hg;replace BK391:=bkb BK391 hb;replace HB:=hbs hb;clear hb hbox hg;have hnb31:=NB391_392.out;have hnc31:=NB392_391.out;obtain ⟨_,_,_,_,_,_,_,_,_,_,_,_⟩:=cells6 BK391.out)|((with_reducible refine gate_callee (f:=18) rfl ?_);refine goesL_ (some 8) rfl rfl Try.func18 (by kernel_rfl) rfl #[.agg #[.int .i64 a0_0,.int .i64 a0_1,.slice A0_2 l0_2.length c0_2,.slice A0_3 l0_3.length c0_3,.slice A0_4 l0_4.length c0_4,.slice A0_5 l0_5.length c0_5]] rfl ga_ ?_;(with_reducible refine (lane_Validate.calls k a0_0 a0_1 _ _ l0_2 _ _ l0_3 _ _ l0_4 _ _ l0_5 t393 _ ?_ ?_ ?_ ?_ ?_ ?_ ?_ ?_ A3.out).mono ?_);exact cq HR0_2;exact HC0_2.out;exact cq HR0_3;exact HC0_3.out;exact cq HR0_4;exact HC0_4.out;exact cq HR0_5;exact HC0_5.out;rintro e w33 ⟨rfl,hb⟩;refine ⟨_,rfl,?_⟩;replace BK391:=bkb BK391 hb;replace BK392:=bkb BK392 hb;replace HB:=hbs hb;obtain ⟨_,_,_,_,_,_,_,_,_,_,_,_⟩:=cells6 BK391.out)|((with_reducible refine gate_callee (f:=37) rfl ?_);refine goesL_ (some 18) rfl rfl Try.func37 (by kernel_rfl) rfl #[.int .i64 a1,.int .i64 (wrap64 ((l0_5.length : Int) - 1))] rfl ga_ ?_;(with_reducible refine (lane_within.calls a1 (wrap64 ((l0_5.length : Int) - 1)) false _ A5.out).mono ?_);rintro e w' ⟨rfl,⟨nd,rfl⟩⟩;refine ⟨_,rfl,?_⟩;(try (rw [drewN_self w33];generalize hq_ : World.drewN w33 _ = w33;have n0_ : Aside0 (w33.heap[gb391]? = some (.cells #[.int .i64 a0_0,.int .i64 a0_1,.slice A0_2 l0_2.length c0_2,.slice A0_3 l0_3.length c0_3,.slice A0_4 l0_4.length c0_4,.slice A0_5 l0_5.length c0_5] 33 (0,0))):=⟨by rw [← hq_];exact (blk_up BK391.out)⟩;have n1_ : Aside0 (w33.heap[gb392]? = some (.cells #[.int .i64 0,.int .i64 0,.slice none 0 0,.slice none 0 0,.slice none 0 0,.slice none 0 0] 33 (0,0))):=⟨by rw [← hq_];exact (blk_up BK392.out)⟩;have n2_ : Aside0 (Below w.heap.size w w33):=⟨by rw [← hq_];exact (hb_)⟩;clear BK391 BK392 HB hq_;have BK391:=n0_;have BK392:=n1_;have HB:=n2_;clear n0_ n1_ n2_;obtain ⟨_,_,_,_,_,_,_,_,_,_,_,_⟩:=cells6 BK391.out));obtain ⟨_,_,_,_,_,_,_,_,_,_,_,_⟩:=cells6 BK392.out))
  refine bodyPost_ret (results_ct rfl _ _ gb392 33 #[.int .i64 0,.int .i64 0,.slice none 0 0,.slice none 0 0,.slice none 0 0,.slice none 0 0] (0,0) _ rfl (by (with_reducible repeat (first|refine blk_drewN ?_ _|refine blk_drew ?_|refine blk_alloc ?_ _));exact blk_puts6 (blk_up BK392.out)) Try.underlying33 rfl (by kernel_rfl)) rfl ?_
  exact ⟨_,_,_,_,er_,nl_,nl_,nl_,nl_,hb_⟩

/-! ### hinterlandsame_List_int: function 28 -/
def hinterlandsame_List_int.l0 : Nat → List Int → List Int → Int → Option (Bool)
 | 0,_,_,_ => none
 | k + 1,x0,x1,x5 => if x5 < (x0.length : Int) then (if 0 ≤ x5 then (if x5 < (x1.length : Int) then (if (rd x0 x5) = (rd x1 x5) then (hinterlandsame_List_int.l0 k x0 x1 (wrap64 (x5 + 1))) else (some false)) else (none)) else (none)) else (some true)
def hinterlandsame_List_int.f (k : Nat) (l0 : List Int) (l1 : List Int) : Option (Bool) := if (l0.length : Int) = (l1.length : Int) then (hinterlandsame_List_int.l0 k l0 l1 0) else (some false)
theorem hinterlandsame_List_int.mono_l : ∀ k, (∀ y0 y1 y2, LeO (hinterlandsame_List_int.l0 k y0 y1 y2) (hinterlandsame_List_int.l0 (k + 1) y0 y1 y2))
 | 0 => fun _ _ _ r h => by simp [hinterlandsame_List_int.l0] at h
 | k + 1 => by
  have ih0:=hinterlandsame_List_int.mono_l k
  ·intro y0 y1 y2
   unfold hinterlandsame_List_int.l0
   repeat' first
   | (with_reducible exact ih0 _ _ _)
   | (with_reducible exact LeO.refl _)
   | (with_reducible exact LeO.none _)
   | (with_reducible refine LeO.ite ?_ ?_)
   | (with_reducible refine LeO.bind ?_ (fun _ => ?_))
   | exact ih0 _ _ _
   | exact LeO.none _
   | refine LeO.ite ?_ ?_
   | refine LeO.bind ?_ (fun _ => ?_)
theorem hinterlandsame_List_int.mono : ∀ a0 a1 k, LeO (hinterlandsame_List_int.f k a0 a1) (hinterlandsame_List_int.f (k + 1) a0 a1) := by
 intro a0 a1 k
 have ih0:=hinterlandsame_List_int.mono_l k
 unfold hinterlandsame_List_int.f
 repeat' first
   | (with_reducible exact ih0 _ _ _)
   | (with_reducible exact LeO.refl _)
   | (with_reducible exact LeO.none _)
   | (with_reducible refine LeO.ite ?_ ?_)
   | (with_reducible refine LeO.bind ?_ (fun _ => ?_))
   | exact ih0 _ _ _
   | exact LeO.none _
   | refine LeO.ite ?_ ?_
   | refine LeO.bind ?_ (fun _ => ?_)
set_option maxHeartbeats 8000000 in
set_option maxRecDepth 100000 in
theorem hinterlandsame_List_int.calls (k : Nat) (A0 : Option Addr) (c0 : Nat) (l0 : List Int) (A1 : Option Addr) (c1 : Nat) (l1 : List Int) (r : Bool) (w : World) (hr0 : Kd.C (Kd.int .i64) w A0 l0.length l0) (hc0 : l0.length ≤ c0) (hr1 : Kd.C (Kd.int .i64) w A1 l1.length l1) (hc1 : l1.length ≤ c1) (h : hinterlandsame_List_int.f k l0 l1 = some r) :
  Calls Try.prog 28 #[.slice A0 l0.length c0,.slice A1 l1.length c1] w fun e w' => e = .returned (.bool r) ∧ Drawn0 w w':=by
 have HR0:=Aside0.mk hr0
 have HC0:=Aside0.mk hc0
 clear hr0 hc0
 have HR1:=Aside0.mk hr1
 have HC1:=Aside0.mk hc1
 clear hr1 hc1
 have H : (if (l0.length : Int) = (l1.length : Int) then (hinterlandsame_List_int.l0 k l0 l1 0) else (some false)) = some r:=h
 clear h
 by_cases c3 : (l0.length : Int) = (l1.length : Int)
 rotate_left
 ·rw [if_neg c3] at H
  have c3b0:=bqf c3
  have c3b1:=bnt c3
  have c3b2 : (l0.length == l1.length) = false:=by first|simpa using c3|(simp at c3 ⊢;omega)
  obtain rfl:=Option.some.inj H
  go_enter Try.func28,Try.ntmps28
  go_wp2
  go_ret
  exact ⟨by first|rfl|(simp;done)|(simp [*];done),by repeat (first|exact Drawn0.refl _|apply Drawn0.step)⟩
 rw [if_pos c3] at H
 have c3b0:=bqt c3
 have c3b1:=bnf c3
 have c3b2 : (l0.length == l1.length) = true:=by first|simpa using c3|(simp at c3 ⊢;omega)
 clear c3
 have H':=Aside0.mk H
 clear H
 go_enter Try.func28,Try.ntmps28
 go_wp2
 go_loopg [5] k (fun kq v5 w' => ∃ (x5_1 : Int),v5 = .int .i64 x5_1 ∧ Aside0 (hinterlandsame_List_int.l0 kq l0 l1 x5_1 = some r) ∧ Aside0 (kq ≤ k) ∧ Drawn0 w w')
 case atStart => exact ⟨(0),(by first|rfl|(simp;done)|(simp [*];done)),H',⟨Nat.le_refl _⟩,by repeat (first|exact Drawn0.refl _|apply Drawn0.step)⟩
 case round =>
  clear H'
  obtain ⟨x5_1,rfl,HA,HK1,⟨m1,rfl⟩⟩:=hrel
  cases gk with
  | zero => exact absurd HA.out (by simp [hinterlandsame_List_int.l0])
  | succ k1 =>
   have H:=HA.out
   clear HA
   simp only [hinterlandsame_List_int.l0] at H
   by_cases c4 : x5_1 < (l0.length : Int)
   rotate_left
   ·rw [if_neg c4] at H
    have c4b0 : decide (x5_1 < (l0.length : Int)) = false:=decide_eq_false c4
    clear c4
    obtain rfl:=Option.some.inj H
    go_wp2
    go_ret
    exact ⟨by first|rfl|(simp;done)|(simp [*];done),by repeat (first|exact Drawn0.refl _|apply Drawn0.step)⟩
   rw [if_pos c4] at H
   have c4b0 : decide (x5_1 < (l0.length : Int)) = true:=decide_eq_true c4
   clear c4
   replace H:=ifp_ H;obtain ⟨c5,H⟩:=H
   have c5b0 : decide (0 ≤ x5_1) = true:=decide_eq_true c5
   clear c5
   replace H:=ifp_ H;obtain ⟨c6,H⟩:=H
   have c6b0 : decide (x5_1 < (l1.length : Int)) = true:=decide_eq_true c6
   clear c6
   by_cases c7 : (rd l0 x5_1) = (rd l1 x5_1)
   ·rw [if_pos c7] at H
    have c7b0:=bqt c7
    have c7b1:=bnf c7
    clear c7
    have H':=Aside0.mk H
    clear H
    have p410 : 0 ≤ (x5_1 : Int):=of_decide_eq_true (by first|(with_reducible assumption)|assumption)
    have q410 : x5_1 < (l0.length : Int):=of_decide_eq_true (by first|(with_reducible assumption)|assumption)
    obtain ⟨ad410,e410,hx410_0⟩:=Kd.at_int HR0.out x5_1 p410 q410
    cases e410
    replace p410:=eq_true p410
    replace q410:=eq_true q410
    have p411 : 0 ≤ (x5_1 : Int):=of_decide_eq_true (by first|(with_reducible assumption)|assumption)
    have q411 : x5_1 < (l1.length : Int):=of_decide_eq_true (by first|(with_reducible assumption)|assumption)
    obtain ⟨ad411,e411,hx411_0⟩:=Kd.at_int HR1.out x5_1 p411 q411
    cases e411
    replace p411:=eq_true p411
    replace q411:=eq_true q411
    go_wp2
    go_quiet (fail)
    go_wp2
    go_roundg k1
    case measure => have:=HK1.out;omega
    case rel => exact ⟨(wrap64 (x5_1 + 1)),(by first|rfl|(simp;done)|(simp [*];done)),H',⟨by have:=HK1.out;omega⟩,by repeat (first|exact Drawn0.refl _|apply Drawn0.step)⟩
   ·rw [if_neg c7] at H
    have c7b0:=bqf c7
    have c7b1:=bnt c7
    obtain rfl:=Option.some.inj H
    have p410 : 0 ≤ (x5_1 : Int):=of_decide_eq_true (by first|(with_reducible assumption)|assumption)
    have q410 : x5_1 < (l0.length : Int):=of_decide_eq_true (by first|(with_reducible assumption)|assumption)
    obtain ⟨ad410,e410,hx410_0⟩:=Kd.at_int HR0.out x5_1 p410 q410
    cases e410
    replace p410:=eq_true p410
    replace q410:=eq_true q410
    have p411 : 0 ≤ (x5_1 : Int):=of_decide_eq_true (by first|(with_reducible assumption)|assumption)
    have q411 : x5_1 < (l1.length : Int):=of_decide_eq_true (by first|(with_reducible assumption)|assumption)
    obtain ⟨ad411,e411,hx411_0⟩:=Kd.at_int HR1.out x5_1 p411 q411
    cases e411
    replace p411:=eq_true p411
    replace q411:=eq_true q411
    go_wp2
    go_quiet (fail)
    go_wp2
    go_ret
    exact ⟨by first|rfl|(simp;done)|(simp [*];done),by repeat (first|exact Drawn0.refl _|apply Drawn0.step)⟩

/-! ### hinterlandsame_Streets: function 47 -/
def hinterlandsame_Streets.f (k : Nat) (a0_0 : Int) (a0_1 : Int) (l0_2 : List Int) (l0_3 : List Int) (a1_0 : Int) (a1_1 : Int) (l1_2 : List Int) (l1_3 : List Int) : Option (Bool) := if a0_0 = a1_0 then (if a0_1 = a1_1 then ((hinterlandsame_List_int.f k l0_2 l1_2).bind fun t414 => (if t414 = true then ((hinterlandsame_List_int.f k l0_3 l1_3).bind fun t415 => (some t415)) else (some false))) else (some false)) else (some false)
theorem hinterlandsame_Streets.mono : ∀ a0 a1 a2 a3 a4 a5 a6 a7 k, LeO (hinterlandsame_Streets.f k a0 a1 a2 a3 a4 a5 a6 a7) (hinterlandsame_Streets.f (k + 1) a0 a1 a2 a3 a4 a5 a6 a7) := by
 intro a0 a1 a2 a3 a4 a5 a6 a7 k
 unfold hinterlandsame_Streets.f
 repeat' first
   | (with_reducible exact hinterlandsame_List_int.mono _ _ _)
   | (with_reducible exact LeO.refl _)
   | (with_reducible exact LeO.none _)
   | (with_reducible refine LeO.ite ?_ ?_)
   | (with_reducible refine LeO.bind ?_ (fun _ => ?_))
   | exact hinterlandsame_List_int.mono _ _ _
   | exact LeO.none _
   | refine LeO.ite ?_ ?_
   | refine LeO.bind ?_ (fun _ => ?_)
set_option maxHeartbeats 8000000 in
set_option maxRecDepth 100000 in
theorem hinterlandsame_Streets.calls (k : Nat) (a0_0 : Int) (a0_1 : Int) (A0_2 : Option Addr) (c0_2 : Nat) (l0_2 : List Int) (A0_3 : Option Addr) (c0_3 : Nat) (l0_3 : List Int) (a1_0 : Int) (a1_1 : Int) (A1_2 : Option Addr) (c1_2 : Nat) (l1_2 : List Int) (A1_3 : Option Addr) (c1_3 : Nat) (l1_3 : List Int) (r : Bool) (w : World) (hr0_2 : Kd.C (Kd.int .i64) w A0_2 l0_2.length l0_2) (hc0_2 : l0_2.length ≤ c0_2) (hr0_3 : Kd.C (Kd.int .i64) w A0_3 l0_3.length l0_3) (hc0_3 : l0_3.length ≤ c0_3) (hr1_2 : Kd.C (Kd.int .i64) w A1_2 l1_2.length l1_2) (hc1_2 : l1_2.length ≤ c1_2) (hr1_3 : Kd.C (Kd.int .i64) w A1_3 l1_3.length l1_3) (hc1_3 : l1_3.length ≤ c1_3) (h : hinterlandsame_Streets.f k a0_0 a0_1 l0_2 l0_3 a1_0 a1_1 l1_2 l1_3 = some r) :
  Calls Try.prog 47 #[.agg #[.int .i64 a0_0,.int .i64 a0_1,.slice A0_2 l0_2.length c0_2,.slice A0_3 l0_3.length c0_3],.agg #[.int .i64 a1_0,.int .i64 a1_1,.slice A1_2 l1_2.length c1_2,.slice A1_3 l1_3.length c1_3]] w fun e w' => e = .returned (.bool r) ∧ Below w.heap.size w w':=by
 have hu24:=Try.underlying24
 have HR0_2:=Aside0.mk hr0_2
 have HC0_2:=Aside0.mk hc0_2
 clear hr0_2 hc0_2
 have HR0_3:=Aside0.mk hr0_3
 have HC0_3:=Aside0.mk hc0_3
 clear hr0_3 hc0_3
 have HR1_2:=Aside0.mk hr1_2
 have HC1_2:=Aside0.mk hc1_2
 clear hr1_2 hc1_2
 have HR1_3:=Aside0.mk hr1_3
 have HC1_3:=Aside0.mk hc1_3
 clear hr1_3 hc1_3
 have HB:=Aside0.mk (Below.refl w.heap.size w)
 have H : (if a0_0 = a1_0 then (if a0_1 = a1_1 then ((hinterlandsame_List_int.f k l0_2 l1_2).bind fun t414 => (if t414 = true then ((hinterlandsame_List_int.f k l0_3 l1_3).bind fun t415 => (some t415)) else (some false))) else (some false)) else (some false)) = some r:=h
 clear h
 by_cases c3 : a0_0 = a1_0
 rotate_left
 ·rw [if_neg c3] at H
  have c3b0:=bqf c3
  have c3b1:=bnt c3
  obtain rfl:=Option.some.inj H
  go_enter Try.func47,Try.ntmps47
  go_wp2_with (first|((with_reducible refine gate_dst (N:=2) rfl ?_);refine box_ev (N:=2) (cs:=#[.int .i64 a0_0,.int .i64 a0_1,.slice A0_2 l0_2.length c0_2,.slice A0_3 l0_3.length c0_3]) (t:=24) ?_;intro gb412 hg w23 hbox hb;have BK412:=Aside0.mk (hbox);have GW412 : Aside0 (w.heap.size ≤ gb412):=gsz hg;have GE412:=GW412;replace HB:=hbs hb;clear hb hbox hg)|((with_reducible refine gate_dst (N:=3) rfl ?_);refine box_ev (N:=3) (cs:=#[.int .i64 a1_0,.int .i64 a1_1,.slice A1_2 l1_2.length c1_2,.slice A1_3 l1_3.length c1_3]) (t:=24) ?_;intro gb413 hg w24 hbox hb;have BK413:=Aside0.mk (hbox);have GW413 : Aside0 (w.heap.size ≤ gb413):=gsz hg;have GE413:=GW413;have NB412_413:=nbl BK412 hg;have NB413_412:=nbr BK412 hg;replace BK412:=bkb BK412 hb;replace HB:=hbs hb;clear hb hbox hg;have hnb25:=NB412_413.out;have hnc25:=NB413_412.out;obtain ⟨_,_,_,_,_,_,_,_⟩:=cells4 BK412.out;obtain ⟨_,_,_,_,_,_,_,_⟩:=cells4 BK413.out))
  go_ret
  exact ⟨er_,hb_⟩
 rw [if_pos c3] at H
 have c3b0:=bqt c3
 have c3b1:=bnf c3
 clear c3
 by_cases c4 : a0_1 = a1_1
 rotate_left
 ·rw [if_neg c4] at H
  have c4b0:=bqf c4
  have c4b1:=bnt c4
  obtain rfl:=Option.some.inj H
  go_enter Try.func47,Try.ntmps47
  go_wp2_with (first|((with_reducible refine gate_dst (N:=2) rfl ?_);refine box_ev (N:=2) (cs:=#[.int .i64 a0_0,.int .i64 a0_1,.slice A0_2 l0_2.length c0_2,.slice A0_3 l0_3.length c0_3]) (t:=24) ?_;intro gb412 hg w18 hbox hb;have BK412:=Aside0.mk (hbox);have GW412 : Aside0 (w.heap.size ≤ gb412):=gsz hg;have GE412:=GW412;replace HB:=hbs hb;clear hb hbox hg)|((with_reducible refine gate_dst (N:=3) rfl ?_);refine box_ev (N:=3) (cs:=#[.int .i64 a1_0,.int .i64 a1_1,.slice A1_2 l1_2.length c1_2,.slice A1_3 l1_3.length c1_3]) (t:=24) ?_;intro gb413 hg w19 hbox hb;have BK413:=Aside0.mk (hbox);have GW413 : Aside0 (w.heap.size ≤ gb413):=gsz hg;have GE413:=GW413;have NB412_413:=nbl BK412 hg;have NB413_412:=nbr BK412 hg;replace BK412:=bkb BK412 hb;replace HB:=hbs hb;clear hb hbox hg;have hnb20:=NB412_413.out;have hnc20:=NB413_412.out;obtain ⟨_,_,_,_,_,_,_,_⟩:=cells4 BK412.out;obtain ⟨_,_,_,_,_,_,_,_⟩:=cells4 BK413.out))
  go_ret
  exact ⟨er_,hb_⟩
 rw [if_pos c4] at H
 have c4b0:=bqt c4
 have c4b1:=bnf c4
 clear c4
 replace H:=Option.bind_eq_some_iff.mp H
 obtain ⟨t414,A50,H⟩:=H
 replace H : (if t414 = true then ((hinterlandsame_List_int.f k l0_3 l1_3).bind fun t415 => (some t415)) else (some false)) = some r:=H
 have A5:=Aside0.mk A50
 clear A50
 by_cases c6 : t414 = true
 ·subst c6
  have H1 : ((hinterlandsame_List_int.f k l0_3 l1_3).bind fun t415 => (some t415)) = some r:=by rw [if_pos rfl] at H;exact H
  clear H
  have H:=H1
  clear H1
  replace H:=Option.bind_eq_some_iff.mp H
  obtain ⟨t415,A70,H⟩:=H
  replace H : (some t415) = some r:=H
  have A7:=Aside0.mk A70
  clear A70
  obtain rfl:=Option.some.inj H
  go_enter Try.func47,Try.ntmps47
  go_wp2_with (first|((with_reducible refine gate_dst (N:=2) rfl ?_);refine box_ev (N:=2) (cs:=#[.int .i64 a0_0,.int .i64 a0_1,.slice A0_2 l0_2.length c0_2,.slice A0_3 l0_3.length c0_3]) (t:=24) ?_;intro gb412 hg w8 hbox hb;have BK412:=Aside0.mk (hbox);have GW412 : Aside0 (w.heap.size ≤ gb412):=gsz hg;have GE412:=GW412;replace HB:=hbs hb;clear hb hbox hg)|((with_reducible refine gate_dst (N:=3) rfl ?_);refine box_ev (N:=3) (cs:=#[.int .i64 a1_0,.int .i64 a1_1,.slice A1_2 l1_2.length c1_2,.slice A1_3 l1_3.length c1_3]) (t:=24) ?_;intro gb413 hg w9 hbox hb;have BK413:=Aside0.mk (hbox);have GW413 : Aside0 (w.heap.size ≤ gb413):=gsz hg;have GE413:=GW413;have NB412_413:=nbl BK412 hg;have NB413_412:=nbr BK412 hg;replace BK412:=bkb BK412 hb;replace HB:=hbs hb;clear hb hbox hg;have hnb10:=NB412_413.out;have hnc10:=NB413_412.out;obtain ⟨_,_,_,_,_,_,_,_⟩:=cells4 BK412.out;obtain ⟨_,_,_,_,_,_,_,_⟩:=cells4 BK413.out)|(go_at_call 28;(with_reducible refine (hinterlandsame_List_int.calls k _ _ l0_2 _ _ l1_2 true _ ?_ ?_ ?_ ?_ A5.out).mono ?_);exact cq HR0_2;exact HC0_2.out;exact cq HR1_2;exact HC1_2.out;rintro e w' ⟨rfl,⟨nd,rfl⟩⟩)|(go_at_call 28;(with_reducible refine (hinterlandsame_List_int.calls k _ _ l0_3 _ _ l1_3 t415 _ ?_ ?_ ?_ ?_ A7.out).mono ?_);(focus (repeat (first|exact (Kd.C_below HR0_3.out (hb_))|(with_reducible refine Kd.C_alloc ?_ _)|(with_reducible refine Kd.C_drewN ?_ _)|(with_reducible refine Kd.C_drew ?_))));exact HC0_3.out;(focus (repeat (first|exact (Kd.C_below HR1_3.out (hb_))|(with_reducible refine Kd.C_alloc ?_ _)|(with_reducible refine Kd.C_drewN ?_ _)|(with_reducible refine Kd.C_drew ?_))));exact HC1_3.out;rintro e w' ⟨rfl,⟨nd,rfl⟩⟩))
  go_ret
  exact ⟨er_,hb_⟩
 ·replace c6:=Bool.eq_false_iff.mpr c6
  subst c6
  have H1 : (some false) = some r:=by rw [if_neg (show ¬ (false = true) by decide)] at H;exact H
  clear H
  have H:=H1
  clear H1
  obtain rfl:=Option.some.inj H
  go_enter Try.func47,Try.ntmps47
  go_wp2_with (first|((with_reducible refine gate_dst (N:=2) rfl ?_);refine box_ev (N:=2) (cs:=#[.int .i64 a0_0,.int .i64 a0_1,.slice A0_2 l0_2.length c0_2,.slice A0_3 l0_3.length c0_3]) (t:=24) ?_;intro gb412 hg w13 hbox hb;have BK412:=Aside0.mk (hbox);have GW412 : Aside0 (w.heap.size ≤ gb412):=gsz hg;have GE412:=GW412;replace HB:=hbs hb;clear hb hbox hg)|((with_reducible refine gate_dst (N:=3) rfl ?_);refine box_ev (N:=3) (cs:=#[.int .i64 a1_0,.int .i64 a1_1,.slice A1_2 l1_2.length c1_2,.slice A1_3 l1_3.length c1_3]) (t:=24) ?_;intro gb413 hg w14 hbox hb;have BK413:=Aside0.mk (hbox);have GW413 : Aside0 (w.heap.size ≤ gb413):=gsz hg;have GE413:=GW413;have NB412_413:=nbl BK412 hg;have NB413_412:=nbr BK412 hg;replace BK412:=bkb BK412 hb;replace HB:=hbs hb;clear hb hbox hg;have hnb15:=NB412_413.out;have hnc15:=NB413_412.out;obtain ⟨_,_,_,_,_,_,_,_⟩:=cells4 BK412.out;obtain ⟨_,_,_,_,_,_,_,_⟩:=cells4 BK413.out)|(go_at_call 28;(with_reducible refine (hinterlandsame_List_int.calls k _ _ l0_2 _ _ l1_2 false _ ?_ ?_ ?_ ?_ A5.out).mono ?_);exact cq HR0_2;exact HC0_2.out;exact cq HR1_2;exact HC1_2.out;rintro e w' ⟨rfl,⟨nd,rfl⟩⟩))
  go_ret
  exact ⟨er_,hb_⟩

/-! ### api_Truck_48: function 48 -/
def api_Truck_48.l0 : Nat → List (S50) → List (S50) → Int → Option (Bool)
 | 0,_,_,_ => none
 | k + 1,x0,x1,x5 => if x5 < (x0.length : Int) then (if 0 ≤ x5 then (if x5 < (x1.length : Int) then (if (!(((rd_T50 x0 x5).f0) == ((rd_T50 x1 x5).f0)) || (!(((rd_T50 x0 x5).f1) == ((rd_T50 x1 x5).f1)) || (!(((rd_T50 x0 x5).f2) == ((rd_T50 x1 x5).f2)) || (!(((rd_T50 x0 x5).f3) == ((rd_T50 x1 x5).f3)) || (!(((rd_T50 x0 x5).f4) == ((rd_T50 x1 x5).f4))))))) = true then (some false) else (api_Truck_48.l0 k x0 x1 (wrap64 (x5 + 1)))) else (none)) else (none)) else (some true)
def api_Truck_48.f (k : Nat) (l0 : List (S50)) (l1 : List (S50)) : Option (Bool) := if (l0.length : Int) = (l1.length : Int) then (api_Truck_48.l0 k l0 l1 0) else (some false)
theorem api_Truck_48.mono_l : ∀ k, (∀ y0 y1 y2, LeO (api_Truck_48.l0 k y0 y1 y2) (api_Truck_48.l0 (k + 1) y0 y1 y2))
 | 0 => fun _ _ _ r h => by simp [api_Truck_48.l0] at h
 | k + 1 => by
  have ih0:=api_Truck_48.mono_l k
  ·intro y0 y1 y2
   unfold api_Truck_48.l0
   repeat' first
   | (with_reducible exact ih0 _ _ _)
   | (with_reducible exact LeO.refl _)
   | (with_reducible exact LeO.none _)
   | (with_reducible refine LeO.ite ?_ ?_)
   | (with_reducible refine LeO.bind ?_ (fun _ => ?_))
   | exact ih0 _ _ _
   | exact LeO.none _
   | refine LeO.ite ?_ ?_
   | refine LeO.bind ?_ (fun _ => ?_)
theorem api_Truck_48.mono : ∀ a0 a1 k, LeO (api_Truck_48.f k a0 a1) (api_Truck_48.f (k + 1) a0 a1) := by
 intro a0 a1 k
 have ih0:=api_Truck_48.mono_l k
 unfold api_Truck_48.f
 repeat' first
   | (with_reducible exact ih0 _ _ _)
   | (with_reducible exact LeO.refl _)
   | (with_reducible exact LeO.none _)
   | (with_reducible refine LeO.ite ?_ ?_)
   | (with_reducible refine LeO.bind ?_ (fun _ => ?_))
   | exact ih0 _ _ _
   | exact LeO.none _
   | refine LeO.ite ?_ ?_
   | refine LeO.bind ?_ (fun _ => ?_)
set_option maxHeartbeats 8000000 in
set_option maxRecDepth 100000 in
theorem api_Truck_48.calls (k : Nat) (A0 : Option Addr) (c0 : Nat) (l0 : List (S50)) (A1 : Option Addr) (c1 : Nat) (l1 : List (S50)) (r : Bool) (w : World) (hr0 : Kd.C k50 w A0 l0.length l0) (hc0 : l0.length ≤ c0) (hr1 : Kd.C k50 w A1 l1.length l1) (hc1 : l1.length ≤ c1) (h : api_Truck_48.f k l0 l1 = some r) :
  Calls Try.prog 48 #[.slice A0 l0.length c0,.slice A1 l1.length c1] w fun e w' => e = .returned (.bool r) ∧ Drawn0 w w':=by
 have hu50:=Try.underlying50
 have HR0:=Aside0.mk hr0
 have HC0:=Aside0.mk hc0
 clear hr0 hc0
 have HR1:=Aside0.mk hr1
 have HC1:=Aside0.mk hc1
 clear hr1 hc1
 have H : (if (l0.length : Int) = (l1.length : Int) then (api_Truck_48.l0 k l0 l1 0) else (some false)) = some r:=h
 clear h
 by_cases c3 : (l0.length : Int) = (l1.length : Int)
 rotate_left
 ·rw [if_neg c3] at H
  have c3b0:=bqf c3
  have c3b1:=bnt c3
  have c3b2 : (l0.length == l1.length) = false:=by first|simpa using c3|(simp at c3 ⊢;omega)
  obtain rfl:=Option.some.inj H
  go_enter Try.func48,Try.ntmps48
  go_wp2
  go_ret
  exact ⟨by first|rfl|(simp;done)|(simp [*];done),by repeat (first|exact Drawn0.refl _|apply Drawn0.step)⟩
 rw [if_pos c3] at H
 have c3b0:=bqt c3
 have c3b1:=bnf c3
 have c3b2 : (l0.length == l1.length) = true:=by first|simpa using c3|(simp at c3 ⊢;omega)
 clear c3
 have H':=Aside0.mk H
 clear H
 go_enter Try.func48,Try.ntmps48
 go_wp2
 go_loopg [5] k (fun kq v5 w' => ∃ (x5_1 : Int),v5 = .int .i64 x5_1 ∧ Aside0 (api_Truck_48.l0 kq l0 l1 x5_1 = some r) ∧ Aside0 (kq ≤ k) ∧ Drawn0 w w')
 case atStart => exact ⟨(0),(by first|rfl|(simp;done)|(simp [*];done)),H',⟨Nat.le_refl _⟩,by repeat (first|exact Drawn0.refl _|apply Drawn0.step)⟩
 case round =>
  clear H'
  obtain ⟨x5_1,rfl,HA,HK1,⟨m1,rfl⟩⟩:=hrel
  cases gk with
  | zero => exact absurd HA.out (by simp [api_Truck_48.l0])
  | succ k1 =>
   have H:=HA.out
   clear HA
   simp only [api_Truck_48.l0] at H
   by_cases c4 : x5_1 < (l0.length : Int)
   rotate_left
   ·rw [if_neg c4] at H
    have c4b0 : decide (x5_1 < (l0.length : Int)) = false:=decide_eq_false c4
    clear c4
    obtain rfl:=Option.some.inj H
    go_wp2
    go_ret
    exact ⟨by first|rfl|(simp;done)|(simp [*];done),by repeat (first|exact Drawn0.refl _|apply Drawn0.step)⟩
   rw [if_pos c4] at H
   have c4b0 : decide (x5_1 < (l0.length : Int)) = true:=decide_eq_true c4
   clear c4
   replace H:=ifp_ H;obtain ⟨c5,H⟩:=H
   have c5b0 : decide (0 ≤ x5_1) = true:=decide_eq_true c5
   clear c5
   replace H:=ifp_ H;obtain ⟨c6,H⟩:=H
   have c6b0 : decide (x5_1 < (l1.length : Int)) = true:=decide_eq_true c6
   clear c6
   by_cases c7 : (!(((rd_T50 l0 x5_1).f0) == ((rd_T50 l1 x5_1).f0)) || (!(((rd_T50 l0 x5_1).f1) == ((rd_T50 l1 x5_1).f1)) || (!(((rd_T50 l0 x5_1).f2) == ((rd_T50 l1 x5_1).f2)) || (!(((rd_T50 l0 x5_1).f3) == ((rd_T50 l1 x5_1).f3)) || (!(((rd_T50 l0 x5_1).f4) == ((rd_T50 l1 x5_1).f4))))))) = true
   ·rw [if_pos c7] at H
    have c7b0 : (!(((rd_T50 l0 x5_1).f0) == ((rd_T50 l1 x5_1).f0)) || (!(((rd_T50 l0 x5_1).f1) == ((rd_T50 l1 x5_1).f1)) || (!(((rd_T50 l0 x5_1).f2) == ((rd_T50 l1 x5_1).f2)) || (!(((rd_T50 l0 x5_1).f3) == ((rd_T50 l1 x5_1).f3)) || (!(((rd_T50 l0 x5_1).f4) == ((rd_T50 l1 x5_1).f4))))))) = true:=c7
    clear c7
    obtain rfl:=Option.some.inj H
    have p416 : 0 ≤ (x5_1 : Int):=of_decide_eq_true (by first|(with_reducible assumption)|assumption)
    have q416 : x5_1 < (l0.length : Int):=of_decide_eq_true (by first|(with_reducible assumption)|assumption)
    obtain ⟨ad416,e416,hx416_0,hx416_1,hx416_2,hx416_3,hx416_4⟩:=at_T50 HR0.out x5_1 p416 q416
    cases e416
    replace p416:=eq_true p416
    replace q416:=eq_true q416
    have p417 : 0 ≤ (x5_1 : Int):=of_decide_eq_true (by first|(with_reducible assumption)|assumption)
    have q417 : x5_1 < (l1.length : Int):=of_decide_eq_true (by first|(with_reducible assumption)|assumption)
    obtain ⟨ad417,e417,hx417_0,hx417_1,hx417_2,hx417_3,hx417_4⟩:=at_T50 HR1.out x5_1 p417 q417
    cases e417
    replace p417:=eq_true p417
    replace q417:=eq_true q417
    go_wp2
    go_quiet (fail)
    go_wp2
    go_ret
    exact ⟨by first|rfl|(simp;done)|(simp [*];done),by repeat (first|exact Drawn0.refl _|apply Drawn0.step)⟩
   ·rw [if_neg c7] at H
    have c7b0 : (!(((rd_T50 l0 x5_1).f0) == ((rd_T50 l1 x5_1).f0)) || (!(((rd_T50 l0 x5_1).f1) == ((rd_T50 l1 x5_1).f1)) || (!(((rd_T50 l0 x5_1).f2) == ((rd_T50 l1 x5_1).f2)) || (!(((rd_T50 l0 x5_1).f3) == ((rd_T50 l1 x5_1).f3)) || (!(((rd_T50 l0 x5_1).f4) == ((rd_T50 l1 x5_1).f4))))))) = false:=by simpa using c7
    clear c7
    have H':=Aside0.mk H
    clear H
    have p416 : 0 ≤ (x5_1 : Int):=of_decide_eq_true (by first|(with_reducible assumption)|assumption)
    have q416 : x5_1 < (l0.length : Int):=of_decide_eq_true (by first|(with_reducible assumption)|assumption)
    obtain ⟨ad416,e416,hx416_0,hx416_1,hx416_2,hx416_3,hx416_4⟩:=at_T50 HR0.out x5_1 p416 q416
    cases e416
    replace p416:=eq_true p416
    replace q416:=eq_true q416
    have p417 : 0 ≤ (x5_1 : Int):=of_decide_eq_true (by first|(with_reducible assumption)|assumption)
    have q417 : x5_1 < (l1.length : Int):=of_decide_eq_true (by first|(with_reducible assumption)|assumption)
    obtain ⟨ad417,e417,hx417_0,hx417_1,hx417_2,hx417_3,hx417_4⟩:=at_T50 HR1.out x5_1 p417 q417
    cases e417
    replace p417:=eq_true p417
    replace q417:=eq_true q417
    go_wp2
    go_quiet (fail)
    go_wp2
    go_roundg k1
    case measure => have:=HK1.out;omega
    case rel => exact ⟨(wrap64 (x5_1 + 1)),(by first|rfl|(simp;done)|(simp [*];done)),H',⟨by have:=HK1.out;omega⟩,by repeat (first|exact Drawn0.refl _|apply Drawn0.step)⟩

/-! ### hinterlandsame_Lane: function 23 -/
def hinterlandsame_Lane.f (k : Nat) (a0_0 : Int) (a0_1 : Int) (l0_2 : List Int) (l0_3 : List Int) (l0_4 : List Int) (l0_5 : List (S50)) (a1_0 : Int) (a1_1 : Int) (l1_2 : List Int) (l1_3 : List Int) (l1_4 : List Int) (l1_5 : List (S50)) : Option (Bool) := (hinterlandsame_Streets.f k a0_0 a0_1 l0_2 l0_3 a1_0 a1_1 l1_2 l1_3).bind fun t420 => (if t420 = true then ((hinterlandsame_List_int.f k l0_4 l1_4).bind fun t421 => (if t421 = true then ((api_Truck_48.f k l0_5 l1_5).bind fun t422 => (some t422)) else (some false))) else (some false))
theorem hinterlandsame_Lane.mono : ∀ a0 a1 a2 a3 a4 a5 a6 a7 a8 a9 a10 a11 k, LeO (hinterlandsame_Lane.f k a0 a1 a2 a3 a4 a5 a6 a7 a8 a9 a10 a11) (hinterlandsame_Lane.f (k + 1) a0 a1 a2 a3 a4 a5 a6 a7 a8 a9 a10 a11) := by
 intro a0 a1 a2 a3 a4 a5 a6 a7 a8 a9 a10 a11 k
 unfold hinterlandsame_Lane.f
 repeat' first
   | (with_reducible exact api_Truck_48.mono _ _ _)
   | (with_reducible exact hinterlandsame_List_int.mono _ _ _)
   | (with_reducible exact hinterlandsame_Streets.mono _ _ _ _ _ _ _ _ _)
   | (with_reducible exact LeO.refl _)
   | (with_reducible exact LeO.none _)
   | (with_reducible refine LeO.ite ?_ ?_)
   | (with_reducible refine LeO.bind ?_ (fun _ => ?_))
   | exact api_Truck_48.mono _ _ _
   | exact hinterlandsame_List_int.mono _ _ _
   | exact hinterlandsame_Streets.mono _ _ _ _ _ _ _ _ _
   | exact LeO.none _
   | refine LeO.ite ?_ ?_
   | refine LeO.bind ?_ (fun _ => ?_)
set_option maxHeartbeats 8000000 in
set_option maxRecDepth 100000 in
theorem hinterlandsame_Lane.calls (k : Nat) (a0_0 : Int) (a0_1 : Int) (A0_2 : Option Addr) (c0_2 : Nat) (l0_2 : List Int) (A0_3 : Option Addr) (c0_3 : Nat) (l0_3 : List Int) (A0_4 : Option Addr) (c0_4 : Nat) (l0_4 : List Int) (A0_5 : Option Addr) (c0_5 : Nat) (l0_5 : List (S50)) (a1_0 : Int) (a1_1 : Int) (A1_2 : Option Addr) (c1_2 : Nat) (l1_2 : List Int) (A1_3 : Option Addr) (c1_3 : Nat) (l1_3 : List Int) (A1_4 : Option Addr) (c1_4 : Nat) (l1_4 : List Int) (A1_5 : Option Addr) (c1_5 : Nat) (l1_5 : List (S50)) (r : Bool) (w : World) (hr0_2 : Kd.C (Kd.int .i64) w A0_2 l0_2.length l0_2) (hc0_2 : l0_2.length ≤ c0_2) (hr0_3 : Kd.C (Kd.int .i64) w A0_3 l0_3.length l0_3) (hc0_3 : l0_3.length ≤ c0_3) (hr0_4 : Kd.C (Kd.int .i64) w A0_4 l0_4.length l0_4) (hc0_4 : l0_4.length ≤ c0_4) (hr0_5 : Kd.C k50 w A0_5 l0_5.length l0_5) (hc0_5 : l0_5.length ≤ c0_5) (hr1_2 : Kd.C (Kd.int .i64) w A1_2 l1_2.length l1_2) (hc1_2 : l1_2.length ≤ c1_2) (hr1_3 : Kd.C (Kd.int .i64) w A1_3 l1_3.length l1_3) (hc1_3 : l1_3.length ≤ c1_3) (hr1_4 : Kd.C (Kd.int .i64) w A1_4 l1_4.length l1_4) (hc1_4 : l1_4.length ≤ c1_4) (hr1_5 : Kd.C k50 w A1_5 l1_5.length l1_5) (hc1_5 : l1_5.length ≤ c1_5) (h : hinterlandsame_Lane.f k a0_0 a0_1 l0_2 l0_3 l0_4 l0_5 a1_0 a1_1 l1_2 l1_3 l1_4 l1_5 = some r) :
  Calls Try.prog 23 #[.agg #[.int .i64 a0_0,.int .i64 a0_1,.slice A0_2 l0_2.length c0_2,.slice A0_3 l0_3.length c0_3,.slice A0_4 l0_4.length c0_4,.slice A0_5 l0_5.length c0_5],.agg #[.int .i64 a1_0,.int .i64 a1_1,.slice A1_2 l1_2.length c1_2,.slice A1_3 l1_3.length c1_3,.slice A1_4 l1_4.length c1_4,.slice A1_5 l1_5.length c1_5]] w fun e w' => e = .returned (.bool r) ∧ Below w.heap.size w w':=by
 have hu33:=Try.underlying33
 have hu24:=Try.underlying24
 have HR0_2:=Aside0.mk hr0_2
 have HC0_2:=Aside0.mk hc0_2
 clear hr0_2 hc0_2
 have HR0_3:=Aside0.mk hr0_3
 have HC0_3:=Aside0.mk hc0_3
 clear hr0_3 hc0_3
 have HR0_4:=Aside0.mk hr0_4
 have HC0_4:=Aside0.mk hc0_4
 clear hr0_4 hc0_4
 have HR0_5:=Aside0.mk hr0_5
 have HC0_5:=Aside0.mk hc0_5
 clear hr0_5 hc0_5
 have HR1_2:=Aside0.mk hr1_2
 have HC1_2:=Aside0.mk hc1_2
 clear hr1_2 hc1_2
 have HR1_3:=Aside0.mk hr1_3
 have HC1_3:=Aside0.mk hc1_3
 clear hr1_3 hc1_3
 have HR1_4:=Aside0.mk hr1_4
 have HC1_4:=Aside0.mk hc1_4
 clear hr1_4 hc1_4
 have HR1_5:=Aside0.mk hr1_5
 have HC1_5:=Aside0.mk hc1_5
 clear hr1_5 hc1_5
 have HB:=Aside0.mk (Below.refl w.heap.size w)
 have H : ((hinterlandsame_Streets.f k a0_0 a0_1 l0_2 l0_3 a1_0 a1_1 l1_2 l1_3).bind fun t420 => (if t420 = true then ((hinterlandsame_List_int.f k l0_4 l1_4).bind fun t421 => (if t421 = true then ((api_Truck_48.f k l0_5 l1_5).bind fun t422 => (some t422)) else (some false))) else (some false))) = some r:=h
 clear h
 replace H:=Option.bind_eq_some_iff.mp H
 obtain ⟨t420,A30,H⟩:=H
 replace H : (if t420 = true then ((hinterlandsame_List_int.f k l0_4 l1_4).bind fun t421 => (if t421 = true then ((api_Truck_48.f k l0_5 l1_5).bind fun t422 => (some t422)) else (some false))) else (some false)) = some r:=H
 have A3:=Aside0.mk A30
 clear A30
 by_cases c4 : t420 = true
 ·subst c4
  have H1 : ((hinterlandsame_List_int.f k l0_4 l1_4).bind fun t421 => (if t421 = true then ((api_Truck_48.f k l0_5 l1_5).bind fun t422 => (some t422)) else (some false))) = some r:=by rw [if_pos rfl] at H;exact H
  clear H
  have H:=H1
  clear H1
  replace H:=Option.bind_eq_some_iff.mp H
  obtain ⟨t421,A50,H⟩:=H
  replace H : (if t421 = true then ((api_Truck_48.f k l0_5 l1_5).bind fun t422 => (some t422)) else (some false)) = some r:=H
  have A5:=Aside0.mk A50
  clear A50
  by_cases c6 : t421 = true
  ·subst c6
   have H1 : ((api_Truck_48.f k l0_5 l1_5).bind fun t422 => (some t422)) = some r:=by rw [if_pos rfl] at H;exact H
   clear H
   have H:=H1
   clear H1
   replace H:=Option.bind_eq_some_iff.mp H
   obtain ⟨t422,A70,H⟩:=H
   replace H : (some t422) = some r:=H
   have A7:=Aside0.mk A70
   clear A70
   obtain rfl:=Option.some.inj H
   go_enter Try.func23,Try.ntmps23
   go_wp2_with (first|((with_reducible refine gate_dst (N:=2) rfl ?_);refine box_ev (N:=2) (cs:=#[.int .i64 a0_0,.int .i64 a0_1,.slice A0_2 l0_2.length c0_2,.slice A0_3 l0_3.length c0_3,.slice A0_4 l0_4.length c0_4,.slice A0_5 l0_5.length c0_5]) (t:=33) ?_;intro gb418 hg w8 hbox hb;have BK418:=Aside0.mk (hbox);have GW418 : Aside0 (w.heap.size ≤ gb418):=gsz hg;have GE418:=GW418;replace HB:=hbs hb;clear hb hbox hg)|((with_reducible refine gate_dst (N:=3) rfl ?_);refine box_ev (N:=3) (cs:=#[.int .i64 a1_0,.int .i64 a1_1,.slice A1_2 l1_2.length c1_2,.slice A1_3 l1_3.length c1_3,.slice A1_4 l1_4.length c1_4,.slice A1_5 l1_5.length c1_5]) (t:=33) ?_;intro gb419 hg w9 hbox hb;have BK419:=Aside0.mk (hbox);have GW419 : Aside0 (w.heap.size ≤ gb419):=gsz hg;have GE419:=GW419;have NB418_419:=nbl BK418 hg;have NB419_418:=nbr BK418 hg;replace BK418:=bkb BK418 hb;replace HB:=hbs hb;clear hb hbox hg;have hnb10:=NB418_419.out;have hnc10:=NB419_418.out;obtain ⟨_,_,_,_,_,_,_,_,_,_,_,_⟩:=cells6 BK418.out;obtain ⟨_,_,_,_,_,_,_,_,_,_,_,_⟩:=cells6 BK419.out)|((with_reducible refine gate_callee (f:=47) rfl ?_);refine goesL_ (some 9) rfl rfl Try.func47 (by kernel_rfl) rfl #[.agg #[.int .i64 a0_0,.int .i64 a0_1,.slice A0_2 l0_2.length c0_2,.slice A0_3 l0_3.length c0_3],.agg #[.int .i64 a1_0,.int .i64 a1_1,.slice A1_2 l1_2.length c1_2,.slice A1_3 l1_3.length c1_3]] rfl ga_ ?_;(with_reducible refine (hinterlandsame_Streets.calls k a0_0 a0_1 _ _ l0_2 _ _ l0_3 a1_0 a1_1 _ _ l1_2 _ _ l1_3 true _ ?_ ?_ ?_ ?_ ?_ ?_ ?_ ?_ A3.out).mono ?_);exact cq HR0_2;exact HC0_2.out;exact cq HR0_3;exact HC0_3.out;exact cq HR1_2;exact HC1_2.out;exact cq HR1_3;exact HC1_3.out;rintro e w13 ⟨rfl,hb⟩;refine ⟨_,rfl,?_⟩;replace BK418:=bkb BK418 hb;replace BK419:=bkb BK419 hb;replace HB:=hbs hb;obtain ⟨_,_,_,_,_,_,_,_,_,_,_,_⟩:=cells6 BK418.out;obtain ⟨_,_,_,_,_,_,_,_,_,_,_,_⟩:=cells6 BK419.out)|(go_at_call 28;(with_reducible refine (hinterlandsame_List_int.calls k _ _ l0_4 _ _ l1_4 true _ ?_ ?_ ?_ ?_ A5.out).mono ?_);exact cq HR0_4;exact HC0_4.out;exact cq HR1_4;exact HC1_4.out;rintro e w' ⟨rfl,⟨nd,rfl⟩⟩)|(go_at_call 48;(with_reducible refine (api_Truck_48.calls k _ _ l0_5 _ _ l1_5 t422 _ ?_ ?_ ?_ ?_ A7.out).mono ?_);(focus (repeat (first|exact (Kd.C_below HR0_5.out (hb_))|(with_reducible refine Kd.C_alloc ?_ _)|(with_reducible refine Kd.C_drewN ?_ _)|(with_reducible refine Kd.C_drew ?_))));exact HC0_5.out;(focus (repeat (first|exact (Kd.C_below HR1_5.out (hb_))|(with_reducible refine Kd.C_alloc ?_ _)|(with_reducible refine Kd.C_drewN ?_ _)|(with_reducible refine Kd.C_drew ?_))));exact HC1_5.out;rintro e w' ⟨rfl,⟨nd,rfl⟩⟩))
   go_ret
   exact ⟨er_,hb_⟩
  ·replace c6:=Bool.eq_false_iff.mpr c6
   subst c6
   have H1 : (some false) = some r:=by rw [if_neg (show ¬ (false = true) by decide)] at H;exact H
   clear H
   have H:=H1
   clear H1
   obtain rfl:=Option.some.inj H
   go_enter Try.func23,Try.ntmps23
   go_wp2_with (first|((with_reducible refine gate_dst (N:=2) rfl ?_);refine box_ev (N:=2) (cs:=#[.int .i64 a0_0,.int .i64 a0_1,.slice A0_2 l0_2.length c0_2,.slice A0_3 l0_3.length c0_3,.slice A0_4 l0_4.length c0_4,.slice A0_5 l0_5.length c0_5]) (t:=33) ?_;intro gb418 hg w16 hbox hb;have BK418:=Aside0.mk (hbox);have GW418 : Aside0 (w.heap.size ≤ gb418):=gsz hg;have GE418:=GW418;replace HB:=hbs hb;clear hb hbox hg)|((with_reducible refine gate_dst (N:=3) rfl ?_);refine box_ev (N:=3) (cs:=#[.int .i64 a1_0,.int .i64 a1_1,.slice A1_2 l1_2.length c1_2,.slice A1_3 l1_3.length c1_3,.slice A1_4 l1_4.length c1_4,.slice A1_5 l1_5.length c1_5]) (t:=33) ?_;intro gb419 hg w17 hbox hb;have BK419:=Aside0.mk (hbox);have GW419 : Aside0 (w.heap.size ≤ gb419):=gsz hg;have GE419:=GW419;have NB418_419:=nbl BK418 hg;have NB419_418:=nbr BK418 hg;replace BK418:=bkb BK418 hb;replace HB:=hbs hb;clear hb hbox hg;have hnb18:=NB418_419.out;have hnc18:=NB419_418.out;obtain ⟨_,_,_,_,_,_,_,_,_,_,_,_⟩:=cells6 BK418.out;obtain ⟨_,_,_,_,_,_,_,_,_,_,_,_⟩:=cells6 BK419.out)|((with_reducible refine gate_callee (f:=47) rfl ?_);refine goesL_ (some 9) rfl rfl Try.func47 (by kernel_rfl) rfl #[.agg #[.int .i64 a0_0,.int .i64 a0_1,.slice A0_2 l0_2.length c0_2,.slice A0_3 l0_3.length c0_3],.agg #[.int .i64 a1_0,.int .i64 a1_1,.slice A1_2 l1_2.length c1_2,.slice A1_3 l1_3.length c1_3]] rfl ga_ ?_;(with_reducible refine (hinterlandsame_Streets.calls k a0_0 a0_1 _ _ l0_2 _ _ l0_3 a1_0 a1_1 _ _ l1_2 _ _ l1_3 true _ ?_ ?_ ?_ ?_ ?_ ?_ ?_ ?_ A3.out).mono ?_);exact cq HR0_2;exact HC0_2.out;exact cq HR0_3;exact HC0_3.out;exact cq HR1_2;exact HC1_2.out;exact cq HR1_3;exact HC1_3.out;rintro e w21 ⟨rfl,hb⟩;refine ⟨_,rfl,?_⟩;replace BK418:=bkb BK418 hb;replace BK419:=bkb BK419 hb;replace HB:=hbs hb;obtain ⟨_,_,_,_,_,_,_,_,_,_,_,_⟩:=cells6 BK418.out;obtain ⟨_,_,_,_,_,_,_,_,_,_,_,_⟩:=cells6 BK419.out)|(go_at_call 28;(with_reducible refine (hinterlandsame_List_int.calls k _ _ l0_4 _ _ l1_4 false _ ?_ ?_ ?_ ?_ A5.out).mono ?_);exact cq HR0_4;exact HC0_4.out;exact cq HR1_4;exact HC1_4.out;rintro e w' ⟨rfl,⟨nd,rfl⟩⟩))
   go_ret
   exact ⟨er_,hb_⟩
 ·replace c4:=Bool.eq_false_iff.mpr c4
  subst c4
  have H1 : (some false) = some r:=by rw [if_neg (show ¬ (false = true) by decide)] at H;exact H
  clear H
  have H:=H1
  clear H1
  obtain rfl:=Option.some.inj H
  go_enter Try.func23,Try.ntmps23
  go_wp2_with (first|((with_reducible refine gate_dst (N:=2) rfl ?_);refine box_ev (N:=2) (cs:=#[.int .i64 a0_0,.int .i64 a0_1,.slice A0_2 l0_2.length c0_2,.slice A0_3 l0_3.length c0_3,.slice A0_4 l0_4.length c0_4,.slice A0_5 l0_5.length c0_5]) (t:=33) ?_;intro gb418 hg w24 hbox hb;have BK418:=Aside0.mk (hbox);have GW418 : Aside0 (w.heap.size ≤ gb418):=gsz hg;have GE418:=GW418;replace HB:=hbs hb;clear hb hbox hg)|((with_reducible refine gate_dst (N:=3) rfl ?_);refine box_ev (N:=3) (cs:=#[.int .i64 a1_0,.int .i64 a1_1,.slice A1_2 l1_2.length c1_2,.slice A1_3 l1_3.length c1_3,.slice A1_4 l1_4.length c1_4,.slice A1_5 l1_5.length c1_5]) (t:=33) ?_;intro gb419 hg w25 hbox hb;have BK419:=Aside0.mk (hbox);have GW419 : Aside0 (w.heap.size ≤ gb419):=gsz hg;have GE419:=GW419;have NB418_419:=nbl BK418 hg;have NB419_418:=nbr BK418 hg;replace BK418:=bkb BK418 hb;replace HB:=hbs hb;clear hb hbox hg;have hnb26:=NB418_419.out;have hnc26:=NB419_418.out;obtain ⟨_,_,_,_,_,_,_,_,_,_,_,_⟩:=cells6 BK418.out;obtain ⟨_,_,_,_,_,_,_,_,_,_,_,_⟩:=cells6 BK419.out)|((with_reducible refine gate_callee (f:=47) rfl ?_);refine goesL_ (some 9) rfl rfl Try.func47 (by kernel_rfl) rfl #[.agg #[.int .i64 a0_0,.int .i64 a0_1,.slice A0_2 l0_2.length c0_2,.slice A0_3 l0_3.length c0_3],.agg #[.int .i64 a1_0,.int .i64 a1_1,.slice A1_2 l1_2.length c1_2,.slice A1_3 l1_3.length c1_3]] rfl ga_ ?_;(with_reducible refine (hinterlandsame_Streets.calls k a0_0 a0_1 _ _ l0_2 _ _ l0_3 a1_0 a1_1 _ _ l1_2 _ _ l1_3 false _ ?_ ?_ ?_ ?_ ?_ ?_ ?_ ?_ A3.out).mono ?_);exact cq HR0_2;exact HC0_2.out;exact cq HR0_3;exact HC0_3.out;exact cq HR1_2;exact HC1_2.out;exact cq HR1_3;exact HC1_3.out;rintro e w29 ⟨rfl,hb⟩;refine ⟨_,rfl,?_⟩;replace BK418:=bkb BK418 hb;replace BK419:=bkb BK419 hb;replace HB:=hbs hb))
  go_ret
  exact ⟨er_,hb_⟩

end Go.Proofs.Ythjmdpekcleihaa.P

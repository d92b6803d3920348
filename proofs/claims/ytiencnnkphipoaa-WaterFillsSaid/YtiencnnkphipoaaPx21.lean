/- Functions of this seat as plain Lean functions, with proofs that the Go code comes to just their answers, or what stands between them and a law's statement; no conditions. (Laid by a program of this session, out of the kit's print.) -/
import Derived.Test.YtiencnnkphipoaaPx0
import Derived.Test.YtiencnnkphipoaaPx5
import Derived.Test.YtiencnnkphipoaaPx13
import Derived.Test.YtiencnnkphipoaaPx20
namespace Go.Proofs.Ytiencnnkphipoaa.P
open Go.RowKit Go.Proofs.YtiencnnkphipoaaW.PrintWords Go.Proofs.YtiencnnkphipoaaW.PrintLast Go.Proofs.YtiencnnkphipoaaW.PrintMore
attribute [local go_sem] max2_int min2_int max_two min_two max_three min_three max_four min_four   -- for this text's walks alone
set_option linter.unusedVariables false
set_option linter.unusedSimpArgs false

/-! ### water_Fill: function 35 -/
def water_Fill.j0 : Nat → Int → Bool → List Int → List Int → Option (List Int × List Int × Int × Int)
 | 0,_,_,_,_ => none
 | k + 1,x2,x41,x476000,x476001 => if x41 = true then (some (([] : List Int),([] : List Int),0,7)) else ((water_clone.f x476000 x476001).bind fun bt493 => (if 0 ≤ x2 then (if x2 < (bt493.1.length : Int) then (some ((bt493.1.set (x2 : Int).toNat 0),bt493.2,250,0)) else (none)) else (none)))
def water_Fill.f (k : Nat) (a0_0 : Int) (a0_1 : Int) (l0_2 : List Int) (l1_0 : List Int) (l1_1 : List Int) (a2 : Int) : Option (List Int × List Int × Int × Int) := (water_at.f k a0_0 a0_1 l0_2 l1_0 l1_1 a2).bind fun bt477 => (if bt477.2.2.2.2.2 = 0 then (if 0 ≤ a2 then (if a2 < (l1_0.length : Int) then (if (rd l1_0 a2) = 0 then (some (([] : List Int), ([] : List Int), 0, 2)) else (if a2 < (bt477.2.2.2.2.1.length : Int) then (if rdOf false bt477.2.2.2.2.1 a2 = true then (water_Fill.j0 k a2 false l1_0 l1_1) else ((slices_Contains_int_int.f k l1_1 a2).bind fun t492 => (water_Fill.j0 k a2 t492 l1_0 l1_1))) else (none))) else (none)) else (none)) else (some (([] : List Int), ([] : List Int), 0, bt477.2.2.2.2.2)))
theorem water_Fill.mono_l : ∀ k, (∀ y0 y1 y2 y3, LeO (water_Fill.j0 k y0 y1 y2 y3) (water_Fill.j0 (k + 1) y0 y1 y2 y3))
 | 0 => fun _ _ _ _ r h => by simp [water_Fill.j0] at h
 | k + 1 => by
  have ih0:=water_Fill.mono_l k
  ·intro y0 y1 y2 y3
   unfold water_Fill.j0
   repeat' first
   | (with_reducible exact ih0 _ _ _ _)
   | (with_reducible exact slices_Contains_int_int.mono _ _ _)
   | (with_reducible exact water_at.mono _ _ _ _ _ _ _)
   | (with_reducible exact LeO.refl _)
   | (with_reducible exact LeO.none _)
   | (with_reducible refine LeO.ite ?_ ?_)
   | (with_reducible refine LeO.bind ?_ (fun _ => ?_))
   | exact ih0 _ _ _ _
   | exact slices_Contains_int_int.mono _ _ _
   | exact water_at.mono _ _ _ _ _ _ _
   | exact LeO.none _
   | refine LeO.ite ?_ ?_
   | refine LeO.bind ?_ (fun _ => ?_)
theorem water_Fill.mono : ∀ a0 a1 a2 a3 a4 a5 k, LeO (water_Fill.f k a0 a1 a2 a3 a4 a5) (water_Fill.f (k + 1) a0 a1 a2 a3 a4 a5) := by
 intro a0 a1 a2 a3 a4 a5 k
 have ih0:=water_Fill.mono_l k
 unfold water_Fill.f
 repeat' first
   | (with_reducible exact ih0 _ _ _ _)
   | (with_reducible exact slices_Contains_int_int.mono _ _ _)
   | (with_reducible exact water_at.mono _ _ _ _ _ _ _)
   | (with_reducible exact LeO.refl _)
   | (with_reducible exact LeO.none _)
   | (with_reducible refine LeO.ite ?_ ?_)
   | (with_reducible refine LeO.bind ?_ (fun _ => ?_))
   | exact ih0 _ _ _ _
   | exact slices_Contains_int_int.mono _ _ _
   | exact water_at.mono _ _ _ _ _ _ _
   | exact LeO.none _
   | refine LeO.ite ?_ ?_
   | refine LeO.bind ?_ (fun _ => ?_)
set_option maxHeartbeats 8000000 in
set_option maxRecDepth 100000 in
theorem water_Fill.calls (k : Nat) (a0_0 : Int) (a0_1 : Int) (A0_2 : Option Addr) (c0_2 : Nat) (l0_2 : List Int) (A1_0 : Option Addr) (c1_0 : Nat) (l1_0 : List Int) (A1_1 : Option Addr) (c1_1 : Nat) (l1_1 : List Int) (a2 : Int) (r1 : List Int) (r2 : List Int) (r3 : Int) (r4 : Int) (w : World) (hr0_2 : Kd.C (Kd.int .i64) w A0_2 l0_2.length l0_2) (hc0_2 : l0_2.length ≤ c0_2) (hr1_0 : Kd.C (Kd.int .i64) w A1_0 l1_0.length l1_0) (hc1_0 : l1_0.length ≤ c1_0) (hr1_1 : Kd.C (Kd.int .i64) w A1_1 l1_1.length l1_1) (hc1_1 : l1_1.length ≤ c1_1) (h : water_Fill.f k a0_0 a0_1 l0_2 l1_0 l1_1 a2 = some (r1, r2, r3, r4)) :
  Calls Try.prog 35 #[.agg #[.int .i64 a0_0,.int .i64 a0_1,.slice A0_2 l0_2.length c0_2],.agg #[.slice A1_0 l1_0.length c1_0,.slice A1_1 l1_1.length c1_1],.int .i64 a2] w fun e w' => ∃ v0_ v1_ : Value,e = .returned (.tuple #[.agg #[v0_,v1_],.int .i64 r3,.int .i64 r4]) ∧ Kd.R (Kd.int .i64) 3 w' w.heap.size (fun k_ => some k_ ≠ (v1_ : Value).ownBlock) v0_ r1 ∧ Kd.R (Kd.int .i64) 3 w' w.heap.size (fun k_ => some k_ ≠ (v0_ : Value).ownBlock) v1_ r2 ∧ Below w.heap.size w w':=by
 have hu24:=Try.underlying24
 have hu26:=Try.underlying26
 have hu52:=Try.underlying52
 have HR0_2:=Aside0.mk hr0_2
 have HC0_2:=Aside0.mk hc0_2
 clear hr0_2 hc0_2
 have HR1_0:=Aside0.mk hr1_0
 have HC1_0:=Aside0.mk hc1_0
 clear hr1_0 hc1_0
 have HR1_1:=Aside0.mk hr1_1
 have HC1_1:=Aside0.mk hc1_1
 clear hr1_1 hc1_1
 have HB:=Aside0.mk (Below.refl w.heap.size w)
 have H : ((water_at.f k a0_0 a0_1 l0_2 l1_0 l1_1 a2).bind fun bt477 => (if bt477.2.2.2.2.2 = 0 then (if 0 ≤ a2 then (if a2 < (l1_0.length : Int) then (if (rd l1_0 a2) = 0 then (some (([] : List Int),([] : List Int),0,2)) else (if a2 < (bt477.2.2.2.2.1.length : Int) then (if rdOf false bt477.2.2.2.2.1 a2 = true then (water_Fill.j0 k a2 false l1_0 l1_1) else ((slices_Contains_int_int.f k l1_1 a2).bind fun t492 => (water_Fill.j0 k a2 t492 l1_0 l1_1))) else (none))) else (none)) else (none)) else (some (([] : List Int),([] : List Int),0,bt477.2.2.2.2.2)))) = some (r1,r2,r3,r4):=h
 clear h
 replace H:=Option.bind_eq_some_iff.mp H
 obtain ⟨⟨t477,t478,t479,t482,t485,t488⟩,A40,H⟩:=H
 replace H : (if t488 = 0 then (if 0 ≤ a2 then (if a2 < (l1_0.length : Int) then (if (rd l1_0 a2) = 0 then (some (([] : List Int),([] : List Int),0,2)) else (if a2 < (t485.length : Int) then (if rdOf false t485 a2 = true then (water_Fill.j0 k a2 false l1_0 l1_1) else ((slices_Contains_int_int.f k l1_1 a2).bind fun t492 => (water_Fill.j0 k a2 t492 l1_0 l1_1))) else (none))) else (none)) else (none)) else (some (([] : List Int),([] : List Int),0,t488))) = some (r1,r2,r3,r4):=H
 have A4:=Aside0.mk A40
 clear A40
 by_cases c5 : t488 = 0
 ·rw [if_pos c5] at H
  have c5b0 : (t488 == 0) = true:=beq_iff_eq.mpr c5
  have c5b1 : (t488 != 0) = false:=bne_eq_false_iff_eq.mpr c5
  clear c5
  by_cases c6 : 0 ≤ a2
  ·rw [if_pos c6] at H
   have c6b0 : decide (0 ≤ a2) = true:=decide_eq_true c6
   clear c6
   by_cases c7 : a2 < (l1_0.length : Int)
   ·rw [if_pos c7] at H
    have c7b0 : decide (a2 < (l1_0.length : Int)) = true:=decide_eq_true c7
    clear c7
    by_cases c8 : (rd l1_0 a2) = 0
    ·rw [if_pos c8] at H
     have c8b0 : ((rd l1_0 a2) == 0) = true:=beq_iff_eq.mpr c8
     have c8b1 : ((rd l1_0 a2) != 0) = false:=bne_eq_false_iff_eq.mpr c8
     clear c8
     simp only [Option.some.injEq,Prod.mk.injEq] at H
     obtain ⟨rfl,rfl,rfl,rfl⟩:=H
     go_enter Try.func35,Try.ntmps35
     go_wp2_with (first|((with_reducible refine gate_dst (N:=3) rfl ?_);refine box_ev (N:=3) (cs:=#[.int .i64 a0_0,.int .i64 a0_1,.slice A0_2 l0_2.length c0_2]) (t:=24) ?_;intro gb474 hg w9 hbox hb;have BK474:=Aside0.mk (hbox);have GW474 : Aside0 (w.heap.size ≤ gb474):=gsz hg;have GE474:=GW474;replace HB:=Aside0.mk (below_step (hb_) hb);clear hb hbox hg)|((with_reducible refine gate_dst (N:=4) rfl ?_);refine box_ev (N:=4) (cs:=#[.slice A1_0 l1_0.length c1_0,.slice A1_1 l1_1.length c1_1]) (t:=26) ?_;intro gb475 hg w10 hbox hb;have BK475:=Aside0.mk (hbox);have GW475 : Aside0 (w.heap.size ≤ gb475):=gsz hg;have GE475:=GW475;have NB474_475:=nbl BK474 hg;have NB475_474:=nbr BK474 hg;replace BK474:=bkb BK474 hb;replace HB:=Aside0.mk (below_step (hb_) hb);clear hb hbox hg)|((with_reducible refine gate_dst (N:=6) rfl ?_);refine box_ev (N:=6) (cs:=#[.slice none 0 0,.slice none 0 0]) (t:=26) ?_;intro gb476 hg w11 hbox hb;have BK476:=Aside0.mk (hbox);have GW476 : Aside0 (w.heap.size ≤ gb476):=gsz hg;have GE476:=GW476;have NB474_476:=nbl BK474 hg;have NB476_474:=nbr BK474 hg;have NB475_476:=nbl BK475 hg;have NB476_475:=nbr BK475 hg;replace BK474:=bkb BK474 hb;replace BK475:=bkb BK475 hb;replace HB:=Aside0.mk (below_step (hb_) hb);clear hb hbox hg;have hnb12:=NB474_475.out;have hnc12:=NB475_474.out;have hnb13:=NB474_476.out;have hnc13:=NB476_474.out;obtain ⟨hcz14_0,hcz14_1,hcz14_2,hfz14_0,hfz14_1,hfz14_2⟩:=cells3 BK474.out;have hnb15:=NB475_476.out;have hnc15:=NB476_475.out;obtain ⟨hcz16_0,hcz16_1,hfz16_0,hfz16_1⟩:=cells2 BK475.out)|((with_reducible refine gate_callee (f:=40) rfl ?_);refine goesL_ (some 16) rfl rfl Try.func40 (by kernel_rfl) rfl #[.agg #[.int .i64 a0_0,.int .i64 a0_1,.slice A0_2 l0_2.length c0_2],.agg #[.slice A1_0 l1_0.length c1_0,.slice A1_1 l1_1.length c1_1],.int .i64 a2] rfl (by (try simp only [List.map_toArray,List.map_cons,List.map_nil]);first|done|rfl|(simp only [List.length_drop,List.length_take];rfl)) ?_;(with_reducible refine (water_at.calls k a0_0 a0_1 _ _ l0_2 _ _ l1_0 _ _ l1_1 a2 t477 t478 t479 t482 t485 t488 _ ?side1 ?side2 ?side3 ?side4 ?side5 ?side6 A4.out).mono ?_);(case side1 => exact Kd.C_up (Kd.C_below HR0_2.out HB.out));(case side2 => exact HC0_2.out);(case side3 => exact Kd.C_up (Kd.C_below HR1_0.out HB.out));(case side4 => exact HC1_0.out);(case side5 => exact Kd.C_up (Kd.C_below HR1_1.out HB.out));(case side6 => exact HC1_1.out);rintro e w17 ⟨v480,v483,v486,rfl,ho0,ho1,ho2,hb⟩;refine ⟨_,rfl,?_⟩;have HO481:=rlo ho0;have HO484:=rlo ho1;have HO487:=rlo ho2;replace BK474:=bkb BK474 hb;replace BK475:=bkb BK475 hb;replace BK476:=bkb BK476 hb;replace HB:=Aside0.mk (below_step (hb_) hb))|((with_reducible refine gate_dst (N:=9) rfl ?_);refine box_ev (N:=9) (cs:=#[.int .i64 0,.int .i64 0,.slice none 0 0,.slice none 0 0,.slice none 0 0]) (t:=52) ?_;intro gb489 hg w18 hbox hb;have BK489:=Aside0.mk (hbox);have GW489 : Aside0 (w.heap.size ≤ gb489):=gsz hg;have GE489:=GW489;have NB474_489:=nbl BK474 hg;have NB489_474:=nbr BK474 hg;have NB475_489:=nbl BK475 hg;have NB489_475:=nbr BK475 hg;have NB476_489:=nbl BK476 hg;have NB489_476:=nbr BK476 hg;replace HO481:=rbw HO481 hb;replace HO484:=rbw HO484 hb;replace HO487:=rbw HO487 hb;replace BK474:=bkb BK474 hb;replace BK475:=bkb BK475 hb;replace BK476:=bkb BK476 hb;replace HB:=Aside0.mk (below_step (hb_) hb);clear hb hbox hg;have hnb19:=NB489_474.out;have hnc19:=NB474_489.out;have hnb20:=NB489_475.out;have hnc20:=NB475_489.out;have hnb21:=NB489_476.out;have hnc21:=NB476_489.out;obtain ⟨hcz22_0,hcz22_1,hcz22_2,hcz22_3,hcz22_4,hfz22_0,hfz22_1,hfz22_2,hfz22_3,hfz22_4⟩:=cells5 BK489.out;obtain ⟨Ao23,co23,eo23⟩:=Kd.R_slice HO481.out;subst eo23;obtain ⟨Ao24,co24,eo24⟩:=Kd.R_slice HO484.out;subst eo24;obtain ⟨Ao25,co25,eo25⟩:=Kd.R_slice HO487.out;subst eo25;obtain ⟨hcz26_0,hcz26_1,hfz26_0,hfz26_1⟩:=cells2 BK475.out;have p490 : 0 ≤ (a2 : Int):=of_decide_eq_true (by first|(with_reducible assumption)|assumption);have q490 : a2 < (l1_0.length : Int):=of_decide_eq_true (by first|(with_reducible assumption)|assumption);obtain ⟨ad490,e490,hx490_0⟩:=Kd.at_int HR1_0.out a2 p490 q490;cases e490;have hn490_0 : ad490.block ≠ gb489:=Nat.ne_of_lt (Nat.lt_of_lt_of_le (by have:=World.block_lt_of_cell? _ _ hx490_0;first|rwa [add_block] at this|exact this) GW489.out);have hn490_1 : ad490.block ≠ gb489:=Nat.ne_of_lt (Nat.lt_of_lt_of_le (by have:=World.block_lt_of_cell? _ _ hx490_0;first|rwa [add_block] at this|exact this) GW489.out);have hn490_2 : ad490.block ≠ gb489:=Nat.ne_of_lt (Nat.lt_of_lt_of_le (by have:=World.block_lt_of_cell? _ _ hx490_0;first|rwa [add_block] at this|exact this) GW489.out);have hn490_3 : ad490.block ≠ gb489:=Nat.ne_of_lt (Nat.lt_of_lt_of_le (by have:=World.block_lt_of_cell? _ _ hx490_0;first|rwa [add_block] at this|exact this) GW489.out);have hn490_4 : ad490.block ≠ gb489:=Nat.ne_of_lt (Nat.lt_of_lt_of_le (by have:=World.block_lt_of_cell? _ _ hx490_0;first|rwa [add_block] at this|exact this) GW489.out);replace hx490_0:=(HB.out.cell (World.block_lt_of_cell? w _ hx490_0)).trans hx490_0;replace hx490_0:=(cell_far (p:=⟨gb489,0,none⟩) (by first|(rw [add_block];exact hn490_0)|(show (Addr.add _ _).block ≠ _;rw [add_block];exact hn490_0)|exact hn490_0) (.int .i64 t477)).trans hx490_0;replace hx490_0:=(cell_far (p:=⟨gb489,1,none⟩) (by first|(rw [add_block];exact hn490_1)|(show (Addr.add _ _).block ≠ _;rw [add_block];exact hn490_1)|exact hn490_1) (.int .i64 t478)).trans hx490_0;replace hx490_0:=(cell_far (p:=⟨gb489,2,none⟩) (by first|(rw [add_block];exact hn490_2)|(show (Addr.add _ _).block ≠ _;rw [add_block];exact hn490_2)|exact hn490_2) (.slice Ao23 t479.length co23)).trans hx490_0;replace hx490_0:=(cell_far (p:=⟨gb489,3,none⟩) (by first|(rw [add_block];exact hn490_3)|(show (Addr.add _ _).block ≠ _;rw [add_block];exact hn490_3)|exact hn490_3) (.slice Ao24 t482.length co24)).trans hx490_0;replace hx490_0:=(cell_far (p:=⟨gb489,4,none⟩) (by first|(rw [add_block];exact hn490_4)|(show (Addr.add _ _).block ≠ _;rw [add_block];exact hn490_4)|exact hn490_4) (.slice Ao25 t485.length co25)).trans hx490_0;clear hn490_0;clear hn490_1;clear hn490_2;clear hn490_3;clear hn490_4;replace p490:=eq_true p490;replace q490:=eq_true q490;obtain ⟨hcz27_0,hcz27_1,hfz27_0,hfz27_1⟩:=cells2 BK476.out))
     refine bodyPost_ret (results_ctt rfl _ _ gb476 26 #[.slice none 0 0,.slice none 0 0] (0,0) _ rfl (by (with_reducible repeat (first|refine blk_drewN ?_ _|refine blk_drew ?_|refine blk_alloc ?_ _));refine blk_put (cs:=#[.slice none 0 0,.slice none 0 0]) ?_ 1 _ rfl;(with_reducible repeat (first|refine blk_drewN ?_ _|refine blk_drew ?_|refine blk_alloc ?_ _));refine blk_put (cs:=#[.slice none 0 0,.slice none 0 0]) ?_ 0 _ rfl;(with_reducible repeat (first|refine blk_drewN ?_ _|refine blk_drew ?_|refine blk_alloc ?_ _));refine blk_far ?_ NB476_489.out _;(with_reducible repeat (first|refine blk_drewN ?_ _|refine blk_drew ?_|refine blk_alloc ?_ _));refine blk_far ?_ NB476_489.out _;(with_reducible repeat (first|refine blk_drewN ?_ _|refine blk_drew ?_|refine blk_alloc ?_ _));refine blk_far ?_ NB476_489.out _;(with_reducible repeat (first|refine blk_drewN ?_ _|refine blk_drew ?_|refine blk_alloc ?_ _));refine blk_far ?_ NB476_489.out _;(with_reducible repeat (first|refine blk_drewN ?_ _|refine blk_drew ?_|refine blk_alloc ?_ _));refine blk_far ?_ NB476_489.out _;(with_reducible repeat (first|refine blk_drewN ?_ _|refine blk_drew ?_|refine blk_alloc ?_ _));exact BK476.out) Try.underlying26 rfl (by kernel_rfl)) rfl ?_
     exact ⟨_,_,by first|rfl|(simp [errW_none,errW_some] <;> rfl)|(simp [*,errW_none,errW_some] <;> rfl),by first|exact Kd.R_nil _ _ _ _ _|exact Kd.N_nil _ _ _ _ _|exact Kd.V_nil _ _ _ _ _|exact Kd.Q_nil _ _ _ _ _|exact Kd.S_nil _ _ _ _ _,by first|exact Kd.R_nil _ _ _ _ _|exact Kd.N_nil _ _ _ _ _|exact Kd.V_nil _ _ _ _ _|exact Kd.Q_nil _ _ _ _ _|exact Kd.S_nil _ _ _ _ _,hb_⟩
    ·rw [if_neg c8] at H
     have c8b0 : ((rd l1_0 a2) == 0) = false:=beq_eq_false_iff_ne.mpr c8
     have c8b1 : ((rd l1_0 a2) != 0) = true:=bne_iff_ne.mpr c8
     have HC28:=Aside0.mk H
     clear H
     go_enter Try.func35,Try.ntmps35
     go_upto_region 6 with (first|((with_reducible refine gate_dst (N:=3) rfl ?_);refine box_ev (N:=3) (cs:=#[.int .i64 a0_0,.int .i64 a0_1,.slice A0_2 l0_2.length c0_2]) (t:=24) ?_;intro gb474 hg w29 hbox hb;have BK474:=Aside0.mk (hbox);have GW474 : Aside0 (w.heap.size ≤ gb474):=gsz hg;have GE474:=GW474;replace HB:=Aside0.mk (below_step (hb_) hb);clear hb hbox hg)|((with_reducible refine gate_dst (N:=4) rfl ?_);refine box_ev (N:=4) (cs:=#[.slice A1_0 l1_0.length c1_0,.slice A1_1 l1_1.length c1_1]) (t:=26) ?_;intro gb475 hg w30 hbox hb;have BK475:=Aside0.mk (hbox);have GW475 : Aside0 (w.heap.size ≤ gb475):=gsz hg;have GE475:=GW475;have NB474_475:=nbl BK474 hg;have NB475_474:=nbr BK474 hg;replace BK474:=bkb BK474 hb;replace HB:=Aside0.mk (below_step (hb_) hb);clear hb hbox hg)|((with_reducible refine gate_dst (N:=6) rfl ?_);refine box_ev (N:=6) (cs:=#[.slice none 0 0,.slice none 0 0]) (t:=26) ?_;intro gb476 hg w31 hbox hb;have BK476:=Aside0.mk (hbox);have GW476 : Aside0 (w.heap.size ≤ gb476):=gsz hg;have GE476:=GW476;have NB474_476:=nbl BK474 hg;have NB476_474:=nbr BK474 hg;have NB475_476:=nbl BK475 hg;have NB476_475:=nbr BK475 hg;replace BK474:=bkb BK474 hb;replace BK475:=bkb BK475 hb;replace HB:=Aside0.mk (below_step (hb_) hb);clear hb hbox hg;have hnb32:=NB474_475.out;have hnc32:=NB475_474.out;have hnb33:=NB474_476.out;have hnc33:=NB476_474.out;obtain ⟨hcz34_0,hcz34_1,hcz34_2,hfz34_0,hfz34_1,hfz34_2⟩:=cells3 BK474.out;have hnb35:=NB475_476.out;have hnc35:=NB476_475.out;obtain ⟨hcz36_0,hcz36_1,hfz36_0,hfz36_1⟩:=cells2 BK475.out)|((with_reducible refine gate_callee (f:=40) rfl ?_);refine goesL_ (some 16) rfl rfl Try.func40 (by kernel_rfl) rfl #[.agg #[.int .i64 a0_0,.int .i64 a0_1,.slice A0_2 l0_2.length c0_2],.agg #[.slice A1_0 l1_0.length c1_0,.slice A1_1 l1_1.length c1_1],.int .i64 a2] rfl (by (try simp only [List.map_toArray,List.map_cons,List.map_nil]);first|done|rfl|(simp only [List.length_drop,List.length_take];rfl)) ?_;(with_reducible refine (water_at.calls k a0_0 a0_1 _ _ l0_2 _ _ l1_0 _ _ l1_1 a2 t477 t478 t479 t482 t485 t488 _ ?side1 ?side2 ?side3 ?side4 ?side5 ?side6 A4.out).mono ?_);(case side1 => exact Kd.C_up (Kd.C_below HR0_2.out HB.out));(case side2 => exact HC0_2.out);(case side3 => exact Kd.C_up (Kd.C_below HR1_0.out HB.out));(case side4 => exact HC1_0.out);(case side5 => exact Kd.C_up (Kd.C_below HR1_1.out HB.out));(case side6 => exact HC1_1.out);rintro e w37 ⟨v480,v483,v486,rfl,ho0,ho1,ho2,hb⟩;refine ⟨_,rfl,?_⟩;have HO481:=rlo ho0;have HO484:=rlo ho1;have HO487:=rlo ho2;replace BK474:=bkb BK474 hb;replace BK475:=bkb BK475 hb;replace BK476:=bkb BK476 hb;replace HB:=Aside0.mk (below_step (hb_) hb))|((with_reducible refine gate_dst (N:=9) rfl ?_);refine box_ev (N:=9) (cs:=#[.int .i64 0,.int .i64 0,.slice none 0 0,.slice none 0 0,.slice none 0 0]) (t:=52) ?_;intro gb489 hg w38 hbox hb;have BK489:=Aside0.mk (hbox);have GW489 : Aside0 (w.heap.size ≤ gb489):=gsz hg;have GE489:=GW489;have NB474_489:=nbl BK474 hg;have NB489_474:=nbr BK474 hg;have NB475_489:=nbl BK475 hg;have NB489_475:=nbr BK475 hg;have NB476_489:=nbl BK476 hg;have NB489_476:=nbr BK476 hg;replace HO481:=rbw HO481 hb;replace HO484:=rbw HO484 hb;replace HO487:=rbw HO487 hb;replace BK474:=bkb BK474 hb;replace BK475:=bkb BK475 hb;replace BK476:=bkb BK476 hb;replace HB:=Aside0.mk (below_step (hb_) hb);clear hb hbox hg;have hnb39:=NB489_474.out;have hnc39:=NB474_489.out;have hnb40:=NB489_475.out;have hnc40:=NB475_489.out;have hnb41:=NB489_476.out;have hnc41:=NB476_489.out;obtain ⟨hcz42_0,hcz42_1,hcz42_2,hcz42_3,hcz42_4,hfz42_0,hfz42_1,hfz42_2,hfz42_3,hfz42_4⟩:=cells5 BK489.out;obtain ⟨Ao43,co43,eo43⟩:=Kd.R_slice HO481.out;subst eo43;obtain ⟨Ao44,co44,eo44⟩:=Kd.R_slice HO484.out;subst eo44;obtain ⟨Ao45,co45,eo45⟩:=Kd.R_slice HO487.out;subst eo45;obtain ⟨hcz46_0,hcz46_1,hfz46_0,hfz46_1⟩:=cells2 BK475.out;have p490 : 0 ≤ (a2 : Int):=of_decide_eq_true (by first|(with_reducible assumption)|assumption);have q490 : a2 < (l1_0.length : Int):=of_decide_eq_true (by first|(with_reducible assumption)|assumption);obtain ⟨ad490,e490,hx490_0⟩:=Kd.at_int HR1_0.out a2 p490 q490;cases e490;have hn490_0 : ad490.block ≠ gb489:=Nat.ne_of_lt (Nat.lt_of_lt_of_le (by have:=World.block_lt_of_cell? _ _ hx490_0;first|rwa [add_block] at this|exact this) GW489.out);have hn490_1 : ad490.block ≠ gb489:=Nat.ne_of_lt (Nat.lt_of_lt_of_le (by have:=World.block_lt_of_cell? _ _ hx490_0;first|rwa [add_block] at this|exact this) GW489.out);have hn490_2 : ad490.block ≠ gb489:=Nat.ne_of_lt (Nat.lt_of_lt_of_le (by have:=World.block_lt_of_cell? _ _ hx490_0;first|rwa [add_block] at this|exact this) GW489.out);have hn490_3 : ad490.block ≠ gb489:=Nat.ne_of_lt (Nat.lt_of_lt_of_le (by have:=World.block_lt_of_cell? _ _ hx490_0;first|rwa [add_block] at this|exact this) GW489.out);have hn490_4 : ad490.block ≠ gb489:=Nat.ne_of_lt (Nat.lt_of_lt_of_le (by have:=World.block_lt_of_cell? _ _ hx490_0;first|rwa [add_block] at this|exact this) GW489.out);replace hx490_0:=(HB.out.cell (World.block_lt_of_cell? w _ hx490_0)).trans hx490_0;replace hx490_0:=(cell_far (p:=⟨gb489,0,none⟩) (by first|(rw [add_block];exact hn490_0)|(show (Addr.add _ _).block ≠ _;rw [add_block];exact hn490_0)|exact hn490_0) (.int .i64 t477)).trans hx490_0;replace hx490_0:=(cell_far (p:=⟨gb489,1,none⟩) (by first|(rw [add_block];exact hn490_1)|(show (Addr.add _ _).block ≠ _;rw [add_block];exact hn490_1)|exact hn490_1) (.int .i64 t478)).trans hx490_0;replace hx490_0:=(cell_far (p:=⟨gb489,2,none⟩) (by first|(rw [add_block];exact hn490_2)|(show (Addr.add _ _).block ≠ _;rw [add_block];exact hn490_2)|exact hn490_2) (.slice Ao43 t479.length co43)).trans hx490_0;replace hx490_0:=(cell_far (p:=⟨gb489,3,none⟩) (by first|(rw [add_block];exact hn490_3)|(show (Addr.add _ _).block ≠ _;rw [add_block];exact hn490_3)|exact hn490_3) (.slice Ao44 t482.length co44)).trans hx490_0;replace hx490_0:=(cell_far (p:=⟨gb489,4,none⟩) (by first|(rw [add_block];exact hn490_4)|(show (Addr.add _ _).block ≠ _;rw [add_block];exact hn490_4)|exact hn490_4) (.slice Ao45 t485.length co45)).trans hx490_0;clear hn490_0;clear hn490_1;clear hn490_2;clear hn490_3;clear hn490_4;replace p490:=eq_true p490;replace q490:=eq_true q490))
     (try simp only [Act.put,List.setIfInBounds_toArray,List.set_cons_zero,List.set_cons_succ])
     go_cut [41] (fun v41 wc => ∃ (kq : Nat) (x41_27 : Bool),v41 = .bool x41_27 ∧ Aside0 (water_Fill.j0 kq a2 x41_27 l1_0 l1_1 = some (r1,r2,r3,r4)) ∧ Aside0 (kq ≤ k) ∧ Aside0 (Kd.R (Kd.int .i64) 3 wc w.heap.size (fun k_ => some k_ ≠ ((.slice Ao44 t482.length co44) : Value).ownBlock) (.slice Ao43 t479.length co43) t479) ∧ Aside0 (Kd.R (Kd.int .i64) 3 wc w.heap.size (fun k_ => some k_ ≠ ((.slice Ao43 t479.length co43) : Value).ownBlock) (.slice Ao44 t482.length co44) t482) ∧ Aside0 (Kd.R Kd.bool 4 wc w.heap.size (fun _ => True) (.slice Ao45 t485.length co45) t485) ∧ Aside0 (wc.heap[gb474]? = some (.cells #[.int .i64 a0_0,.int .i64 a0_1,(.slice A0_2 l0_2.length c0_2)] 24 (0,0))) ∧ Aside0 (wc.heap[gb475]? = some (.cells #[(.slice (some ad490) l1_0.length c1_0),(.slice A1_1 l1_1.length c1_1)] 26 (0,0))) ∧ Aside0 (wc.heap[gb476]? = some (.cells #[(.slice none 0 0),(.slice none 0 0)] 26 (0,0))) ∧ Aside0 (wc.heap[gb489]? = some (.cells #[.int .i64 t477,.int .i64 t478,(.slice Ao43 t479.length co43),(.slice Ao44 t482.length co44),(.slice Ao45 t485.length co45)] 52 (0,0))) ∧ Aside0 (Below w.heap.size w wc))
     case first =>
      have H:=HC28.out
      clear HC28
      by_cases c47 : a2 < (t485.length : Int)
      ·rw [if_pos c47] at H
       have c47b0 : decide (a2 < (t485.length : Int)) = true:=decide_eq_true c47
       clear c47
       (first|rw [c47b0]|(simp only [i64_w,i32_w];rw [c47b0])|skip)
       obtain ⟨bq48,hbq48⟩ : ∃ b_ : Bool,b_ = (rdOf false t485 a2):=⟨_,rfl⟩
       replace H : (if bq48 = true then (water_Fill.j0 k a2 false l1_0 l1_1) else ((slices_Contains_int_int.f k l1_1 a2).bind fun t492 => (water_Fill.j0 k a2 t492 l1_0 l1_1))) = some (r1,r2,r3,r4):=by rw [← hbq48] at H;exact H
       have Nbq48:=Aside0.mk hbq48
       clear hbq48
       by_cases c49 : bq48 = true
       ·subst c49
        have H1 : (water_Fill.j0 k a2 false l1_0 l1_1) = some (r1,r2,r3,r4):=by rw [if_pos rfl] at H;exact H
        clear H
        have H:=H1
        clear H1
        have H':=Aside0.mk H
        clear H
        have hnb50:=NB489_474.out
        have hnc50:=NB474_489.out
        have hnb51:=NB489_475.out
        have hnc51:=NB475_489.out
        have hnb52:=NB489_476.out
        have hnc52:=NB476_489.out
        obtain ⟨hcz53_0,hcz53_1,hcz53_2,hcz53_3,hcz53_4,hfz53_0,hfz53_1,hfz53_2,hfz53_3,hfz53_4⟩:=cells5 BK489.out
        have p491 : 0 ≤ (a2 : Int):=of_decide_eq_true (by first|(with_reducible assumption)|assumption)
        have q491 : a2 < (t485.length : Int):=of_decide_eq_true (by first|(with_reducible assumption)|assumption)
        obtain ⟨ad491,e491,hx491_0⟩:=Kd.at_bool (Kd.R_reads' HO487.out).2.2 a2 p491 q491
        (try rw [← Nbq48.out] at hx491_0)
        cases e491
        have hn491_0 : ad491.block ≠ gb489:=Kd.own_blk (Kd.R_ne HO487.out BK489.out (by decide))
        have hn491_1 : ad491.block ≠ gb489:=Kd.own_blk (Kd.R_ne HO487.out BK489.out (by decide))
        have hn491_2 : ad491.block ≠ gb489:=Kd.own_blk (Kd.R_ne HO487.out BK489.out (by decide))
        have hn491_3 : ad491.block ≠ gb489:=Kd.own_blk (Kd.R_ne HO487.out BK489.out (by decide))
        have hn491_4 : ad491.block ≠ gb489:=Kd.own_blk (Kd.R_ne HO487.out BK489.out (by decide))
        replace hx491_0:=(cell_far (p:=⟨gb489,0,none⟩) (by first|(rw [add_block];exact hn491_0)|(show (Addr.add _ _).block ≠ _;rw [add_block];exact hn491_0)|exact hn491_0) (.int .i64 t477)).trans hx491_0
        replace hx491_0:=(cell_far (p:=⟨gb489,1,none⟩) (by first|(rw [add_block];exact hn491_1)|(show (Addr.add _ _).block ≠ _;rw [add_block];exact hn491_1)|exact hn491_1) (.int .i64 t478)).trans hx491_0
        replace hx491_0:=(cell_far (p:=⟨gb489,2,none⟩) (by first|(rw [add_block];exact hn491_2)|(show (Addr.add _ _).block ≠ _;rw [add_block];exact hn491_2)|exact hn491_2) (.slice Ao43 t479.length co43)).trans hx491_0
        replace hx491_0:=(cell_far (p:=⟨gb489,3,none⟩) (by first|(rw [add_block];exact hn491_3)|(show (Addr.add _ _).block ≠ _;rw [add_block];exact hn491_3)|exact hn491_3) (.slice Ao44 t482.length co44)).trans hx491_0
        replace hx491_0:=(cell_far (p:=⟨gb489,4,none⟩) (by first|(rw [add_block];exact hn491_4)|(show (Addr.add _ _).block ≠ _;rw [add_block];exact hn491_4)|exact hn491_4) (.slice (some ad491) t485.length co45)).trans hx491_0
        clear hn491_0
        clear hn491_1
        clear hn491_2
        clear hn491_3
        clear hn491_4
        replace p491:=eq_true p491
        replace q491:=eq_true q491
        go_wp2
        go_meet
        case rel => exact ⟨_,(false),(by first|rfl|(simp;done)|(simp [*];done)),H',⟨by first|omega|exact Nat.le_refl _⟩,⟨by (with_reducible repeat (first|apply Kd.R_alloc|apply Kd.R_drewN|apply Kd.R_drew));exact Kd.R_mono (Kd.R_fars gb489 (Kd.R_types HO481.out BK489.out (by decide)) (fun _ hk => hk.2)) (fun _ hk => hk.1)⟩,⟨by (with_reducible repeat (first|apply Kd.R_alloc|apply Kd.R_drewN|apply Kd.R_drew));exact Kd.R_mono (Kd.R_fars gb489 (Kd.R_types HO484.out BK489.out (by decide)) (fun _ hk => hk.2)) (fun _ hk => hk.1)⟩,⟨by (with_reducible repeat (first|apply Kd.R_alloc|apply Kd.R_drewN|apply Kd.R_drew));exact Kd.R_mono (Kd.R_fars gb489 (Kd.R_types HO487.out BK489.out (by decide)) (fun _ hk => hk.2)) (fun _ hk => trivial)⟩,⟨by (with_reducible repeat (first|refine blk_drewN ?_ _|refine blk_drew ?_|refine blk_alloc ?_ _));refine blk_far ?_ NB474_489.out _;(with_reducible repeat (first|refine blk_drewN ?_ _|refine blk_drew ?_|refine blk_alloc ?_ _));refine blk_far ?_ NB474_489.out _;(with_reducible repeat (first|refine blk_drewN ?_ _|refine blk_drew ?_|refine blk_alloc ?_ _));refine blk_far ?_ NB474_489.out _;(with_reducible repeat (first|refine blk_drewN ?_ _|refine blk_drew ?_|refine blk_alloc ?_ _));refine blk_far ?_ NB474_489.out _;(with_reducible repeat (first|refine blk_drewN ?_ _|refine blk_drew ?_|refine blk_alloc ?_ _));refine blk_far ?_ NB474_489.out _;(with_reducible repeat (first|refine blk_drewN ?_ _|refine blk_drew ?_|refine blk_alloc ?_ _));exact BK474.out⟩,⟨by (with_reducible repeat (first|refine blk_drewN ?_ _|refine blk_drew ?_|refine blk_alloc ?_ _));refine blk_far ?_ NB475_489.out _;(with_reducible repeat (first|refine blk_drewN ?_ _|refine blk_drew ?_|refine blk_alloc ?_ _));refine blk_far ?_ NB475_489.out _;(with_reducible repeat (first|refine blk_drewN ?_ _|refine blk_drew ?_|refine blk_alloc ?_ _));refine blk_far ?_ NB475_489.out _;(with_reducible repeat (first|refine blk_drewN ?_ _|refine blk_drew ?_|refine blk_alloc ?_ _));refine blk_far ?_ NB475_489.out _;(with_reducible repeat (first|refine blk_drewN ?_ _|refine blk_drew ?_|refine blk_alloc ?_ _));refine blk_far ?_ NB475_489.out _;(with_reducible repeat (first|refine blk_drewN ?_ _|refine blk_drew ?_|refine blk_alloc ?_ _));exact BK475.out⟩,⟨by (with_reducible repeat (first|refine blk_drewN ?_ _|refine blk_drew ?_|refine blk_alloc ?_ _));refine blk_far ?_ NB476_489.out _;(with_reducible repeat (first|refine blk_drewN ?_ _|refine blk_drew ?_|refine blk_alloc ?_ _));refine blk_far ?_ NB476_489.out _;(with_reducible repeat (first|refine blk_drewN ?_ _|refine blk_drew ?_|refine blk_alloc ?_ _));refine blk_far ?_ NB476_489.out _;(with_reducible repeat (first|refine blk_drewN ?_ _|refine blk_drew ?_|refine blk_alloc ?_ _));refine blk_far ?_ NB476_489.out _;(with_reducible repeat (first|refine blk_drewN ?_ _|refine blk_drew ?_|refine blk_alloc ?_ _));refine blk_far ?_ NB476_489.out _;(with_reducible repeat (first|refine blk_drewN ?_ _|refine blk_drew ?_|refine blk_alloc ?_ _));exact BK476.out⟩,⟨by (with_reducible repeat (first|refine blk_drewN ?_ _|refine blk_drew ?_|refine blk_alloc ?_ _));exact blk_puts5 (blk_up BK489.out)⟩,⟨hb_⟩⟩
       ·replace c49:=Bool.eq_false_iff.mpr c49
        subst c49
        have H1 : ((slices_Contains_int_int.f k l1_1 a2).bind fun t492 => (water_Fill.j0 k a2 t492 l1_0 l1_1)) = some (r1,r2,r3,r4):=by rw [if_neg (show ¬ (false = true) by decide)] at H;exact H
        clear H
        have H:=H1
        clear H1
        replace H:=Option.bind_eq_some_iff.mp H
        obtain ⟨t492,A540,H⟩:=H
        replace H : (water_Fill.j0 k a2 t492 l1_0 l1_1) = some (r1,r2,r3,r4):=H
        have A54:=Aside0.mk A540
        clear A540
        have H':=Aside0.mk H
        clear H
        have hnb55:=NB489_474.out
        have hnc55:=NB474_489.out
        have hnb56:=NB489_475.out
        have hnc56:=NB475_489.out
        have hnb57:=NB489_476.out
        have hnc57:=NB476_489.out
        obtain ⟨hcz58_0,hcz58_1,hcz58_2,hcz58_3,hcz58_4,hfz58_0,hfz58_1,hfz58_2,hfz58_3,hfz58_4⟩:=cells5 BK489.out
        have p491 : 0 ≤ (a2 : Int):=of_decide_eq_true (by first|(with_reducible assumption)|assumption)
        have q491 : a2 < (t485.length : Int):=of_decide_eq_true (by first|(with_reducible assumption)|assumption)
        obtain ⟨ad491,e491,hx491_0⟩:=Kd.at_bool (Kd.R_reads' HO487.out).2.2 a2 p491 q491
        (try rw [← Nbq48.out] at hx491_0)
        cases e491
        have hn491_0 : ad491.block ≠ gb489:=Kd.own_blk (Kd.R_ne HO487.out BK489.out (by decide))
        have hn491_1 : ad491.block ≠ gb489:=Kd.own_blk (Kd.R_ne HO487.out BK489.out (by decide))
        have hn491_2 : ad491.block ≠ gb489:=Kd.own_blk (Kd.R_ne HO487.out BK489.out (by decide))
        have hn491_3 : ad491.block ≠ gb489:=Kd.own_blk (Kd.R_ne HO487.out BK489.out (by decide))
        have hn491_4 : ad491.block ≠ gb489:=Kd.own_blk (Kd.R_ne HO487.out BK489.out (by decide))
        replace hx491_0:=(cell_far (p:=⟨gb489,0,none⟩) (by first|(rw [add_block];exact hn491_0)|(show (Addr.add _ _).block ≠ _;rw [add_block];exact hn491_0)|exact hn491_0) (.int .i64 t477)).trans hx491_0
        replace hx491_0:=(cell_far (p:=⟨gb489,1,none⟩) (by first|(rw [add_block];exact hn491_1)|(show (Addr.add _ _).block ≠ _;rw [add_block];exact hn491_1)|exact hn491_1) (.int .i64 t478)).trans hx491_0
        replace hx491_0:=(cell_far (p:=⟨gb489,2,none⟩) (by first|(rw [add_block];exact hn491_2)|(show (Addr.add _ _).block ≠ _;rw [add_block];exact hn491_2)|exact hn491_2) (.slice Ao43 t479.length co43)).trans hx491_0
        replace hx491_0:=(cell_far (p:=⟨gb489,3,none⟩) (by first|(rw [add_block];exact hn491_3)|(show (Addr.add _ _).block ≠ _;rw [add_block];exact hn491_3)|exact hn491_3) (.slice Ao44 t482.length co44)).trans hx491_0
        replace hx491_0:=(cell_far (p:=⟨gb489,4,none⟩) (by first|(rw [add_block];exact hn491_4)|(show (Addr.add _ _).block ≠ _;rw [add_block];exact hn491_4)|exact hn491_4) (.slice (some ad491) t485.length co45)).trans hx491_0
        clear hn491_0
        clear hn491_1
        clear hn491_2
        clear hn491_3
        clear hn491_4
        replace p491:=eq_true p491
        replace q491:=eq_true q491
        have hnb59:=NB475_474.out
        have hnc59:=NB474_475.out
        have hnb60:=NB475_476.out
        have hnc60:=NB476_475.out
        obtain ⟨hcz61_0,hcz61_1,hfz61_0,hfz61_1⟩:=cells2 BK475.out
        go_wp2_with (first|(go_at_call 56;(with_reducible refine (slices_Contains_int_int.calls k _ _ l1_1 a2 t492 _ ?side1 ?side2 A54.out).mono ?_);(case side1 => exact Kd.C_below HR1_1.out (hb_));(case side2 => exact HC1_1.out);rintro e w' ⟨rfl,⟨nd,rfl⟩⟩))
        go_meet
        case rel => exact ⟨_,(t492),(by first|rfl|(simp;done)|(simp [*];done)),H',⟨by first|omega|exact Nat.le_refl _⟩,⟨by (with_reducible repeat (first|apply Kd.R_alloc|apply Kd.R_drewN|apply Kd.R_drew));exact Kd.R_mono (Kd.R_fars gb489 (Kd.R_types HO481.out BK489.out (by decide)) (fun _ hk => hk.2)) (fun _ hk => hk.1)⟩,⟨by (with_reducible repeat (first|apply Kd.R_alloc|apply Kd.R_drewN|apply Kd.R_drew));exact Kd.R_mono (Kd.R_fars gb489 (Kd.R_types HO484.out BK489.out (by decide)) (fun _ hk => hk.2)) (fun _ hk => hk.1)⟩,⟨by (with_reducible repeat (first|apply Kd.R_alloc|apply Kd.R_drewN|apply Kd.R_drew));exact Kd.R_mono (Kd.R_fars gb489 (Kd.R_types HO487.out BK489.out (by decide)) (fun _ hk => hk.2)) (fun _ hk => trivial)⟩,⟨by (with_reducible repeat (first|refine blk_drewN ?_ _|refine blk_drew ?_|refine blk_alloc ?_ _));refine blk_far ?_ NB474_489.out _;(with_reducible repeat (first|refine blk_drewN ?_ _|refine blk_drew ?_|refine blk_alloc ?_ _));refine blk_far ?_ NB474_489.out _;(with_reducible repeat (first|refine blk_drewN ?_ _|refine blk_drew ?_|refine blk_alloc ?_ _));refine blk_far ?_ NB474_489.out _;(with_reducible repeat (first|refine blk_drewN ?_ _|refine blk_drew ?_|refine blk_alloc ?_ _));refine blk_far ?_ NB474_489.out _;(with_reducible repeat (first|refine blk_drewN ?_ _|refine blk_drew ?_|refine blk_alloc ?_ _));refine blk_far ?_ NB474_489.out _;(with_reducible repeat (first|refine blk_drewN ?_ _|refine blk_drew ?_|refine blk_alloc ?_ _));exact BK474.out⟩,⟨by (with_reducible repeat (first|refine blk_drewN ?_ _|refine blk_drew ?_|refine blk_alloc ?_ _));refine blk_far ?_ NB475_489.out _;(with_reducible repeat (first|refine blk_drewN ?_ _|refine blk_drew ?_|refine blk_alloc ?_ _));refine blk_far ?_ NB475_489.out _;(with_reducible repeat (first|refine blk_drewN ?_ _|refine blk_drew ?_|refine blk_alloc ?_ _));refine blk_far ?_ NB475_489.out _;(with_reducible repeat (first|refine blk_drewN ?_ _|refine blk_drew ?_|refine blk_alloc ?_ _));refine blk_far ?_ NB475_489.out _;(with_reducible repeat (first|refine blk_drewN ?_ _|refine blk_drew ?_|refine blk_alloc ?_ _));refine blk_far ?_ NB475_489.out _;(with_reducible repeat (first|refine blk_drewN ?_ _|refine blk_drew ?_|refine blk_alloc ?_ _));exact BK475.out⟩,⟨by (with_reducible repeat (first|refine blk_drewN ?_ _|refine blk_drew ?_|refine blk_alloc ?_ _));refine blk_far ?_ NB476_489.out _;(with_reducible repeat (first|refine blk_drewN ?_ _|refine blk_drew ?_|refine blk_alloc ?_ _));refine blk_far ?_ NB476_489.out _;(with_reducible repeat (first|refine blk_drewN ?_ _|refine blk_drew ?_|refine blk_alloc ?_ _));refine blk_far ?_ NB476_489.out _;(with_reducible repeat (first|refine blk_drewN ?_ _|refine blk_drew ?_|refine blk_alloc ?_ _));refine blk_far ?_ NB476_489.out _;(with_reducible repeat (first|refine blk_drewN ?_ _|refine blk_drew ?_|refine blk_alloc ?_ _));refine blk_far ?_ NB476_489.out _;(with_reducible repeat (first|refine blk_drewN ?_ _|refine blk_drew ?_|refine blk_alloc ?_ _));exact BK476.out⟩,⟨by (with_reducible repeat (first|refine blk_drewN ?_ _|refine blk_drew ?_|refine blk_alloc ?_ _));exact blk_puts5 (blk_up BK489.out)⟩,⟨hb_⟩⟩
      ·rw [if_neg c47] at H
       exact absurd H (by simp)
     case rest =>
      clear HC28
      obtain ⟨kq,x41_27,rfl,HA,HJ27,HO_490002,HO_490003,HO_490004,BK474,BK475,BK476,BK489,HB⟩:=hcut
      cases kq with
      | zero => exact absurd HA.out (by simp [water_Fill.j0])
      | succ kj27 =>
       have H:=HA.out
       clear HA
       simp only [water_Fill.j0] at H
       by_cases c62 : x41_27 = true
       ·subst c62
        have H1 : (some (([] : List Int),([] : List Int),0,7)) = some (r1,r2,r3,r4):=by rw [if_pos rfl] at H;exact H
        clear H
        have H:=H1
        clear H1
        simp only [Option.some.injEq,Prod.mk.injEq] at H
        obtain ⟨rfl,rfl,rfl,rfl⟩:=H
        have hnb63:=NB476_474.out
        have hnc63:=NB474_476.out
        have hnb64:=NB476_475.out
        have hnc64:=NB475_476.out
        have hnb65:=NB476_489.out
        have hnc65:=NB489_476.out
        obtain ⟨hcz66_0,hcz66_1,hfz66_0,hfz66_1⟩:=cells2 BK476.out
        go_wp2
        refine bodyPost_ret (results_ctt rfl _ _ gb476 26 #[.slice none 0 0,.slice none 0 0] (0,0) _ rfl (by (with_reducible repeat (first|refine blk_drewN ?_ _|refine blk_drew ?_|refine blk_alloc ?_ _));exact blk_puts2 (blk_up BK476.out)) Try.underlying26 rfl (by kernel_rfl)) rfl ?_
        exact ⟨_,_,by first|rfl|(simp [errW_none,errW_some] <;> rfl)|(simp [*,errW_none,errW_some] <;> rfl),by first|exact Kd.R_nil _ _ _ _ _|exact Kd.N_nil _ _ _ _ _|exact Kd.V_nil _ _ _ _ _|exact Kd.Q_nil _ _ _ _ _|exact Kd.S_nil _ _ _ _ _,by first|exact Kd.R_nil _ _ _ _ _|exact Kd.N_nil _ _ _ _ _|exact Kd.V_nil _ _ _ _ _|exact Kd.Q_nil _ _ _ _ _|exact Kd.S_nil _ _ _ _ _,hb_⟩
       ·replace c62:=Bool.eq_false_iff.mpr c62
        subst c62
        have H1 : ((water_clone.f l1_0 l1_1).bind fun bt493 => (if 0 ≤ a2 then (if a2 < (bt493.1.length : Int) then (some ((bt493.1.set (a2 : Int).toNat 0),bt493.2,250,0)) else (none)) else (none))) = some (r1,r2,r3,r4):=by rw [if_neg (show ¬ (false = true) by decide)] at H;exact H
        clear H
        have H:=H1
        clear H1
        replace H:=Option.bind_eq_some_iff.mp H
        obtain ⟨⟨t493,t496⟩,A670,H⟩:=H
        replace H : (if 0 ≤ a2 then (if a2 < (t493.length : Int) then (some ((t493.set (a2 : Int).toNat 0),t496,250,0)) else (none)) else (none)) = some (r1,r2,r3,r4):=H
        have A67:=Aside0.mk A670
        clear A670
        by_cases c68 : 0 ≤ a2
        ·rw [if_pos c68] at H
         have c68b0 : decide (0 ≤ a2) = true:=decide_eq_true c68
         clear c68
         by_cases c69 : a2 < (t493.length : Int)
         ·rw [if_pos c69] at H
          have c69b0 : decide (a2 < (t493.length : Int)) = true:=decide_eq_true c69
          clear c69
          obtain ⟨y500,hy500⟩ : ∃ y_ : List Int,y_ = (t493.set (a2 : Int).toNat 0):=⟨_,rfl⟩
          replace H : (some (y500,t496,250,0)) = some (r1,r2,r3,r4):=by first|(rw [hy500];with_reducible exact H)|(have H2_:=(Option.bind_some _ _).symm.trans H;rw [hy500];with_reducible exact H2_)|(have H2_:=(Option.bind_some _ _).symm.trans H;with_reducible exact H2_)|with_reducible exact H|(rw [hy500];exact H)|exact H
          have Ny500:=Aside0.mk hy500
          clear hy500
          simp only [Option.some.injEq,Prod.mk.injEq] at H
          obtain ⟨rfl,rfl,rfl,rfl⟩:=H
          have hnb71:=NB475_474.out
          have hnc71:=NB474_475.out
          have hnb72:=NB475_476.out
          have hnc72:=NB476_475.out
          have hnb73:=NB475_489.out
          have hnc73:=NB489_475.out
          obtain ⟨hcz74_0,hcz74_1,hfz74_0,hfz74_1⟩:=cells2 BK475.out
          go_wp2_with (first|((with_reducible refine gate_callee (f:=53) rfl ?_);refine goesL_ (some 44) rfl rfl Try.func53 (by kernel_rfl) rfl #[.agg #[.slice (some ad490) l1_0.length c1_0,.slice A1_1 l1_1.length c1_1]] rfl (by (try simp only [List.map_toArray,List.map_cons,List.map_nil]);first|done|rfl|(simp only [List.length_drop,List.length_take];rfl)) ?_;(with_reducible refine (water_clone.calls _ _ l1_0 _ _ l1_1 t493 t496 _ ?side1 ?side2 ?side3 ?side4 A67.out).mono ?_);(case side1 => exact Kd.C_up (Kd.C_below HR1_0.out HB.out));(case side2 => exact HC1_0.out);(case side3 => exact Kd.C_up (Kd.C_below HR1_1.out HB.out));(case side4 => exact HC1_1.out);rintro e w75 ⟨v494,v497,rfl,ho0,ho1,hb⟩;refine ⟨_,rfl,?_⟩;have HO495:=Aside0.mk (Kd.R_lower (Kd.R_new' (Kd.R_new' ho0 (Kd.R_lt (Kd.R_up HO_490002.out))) (Kd.R_lt (Kd.R_up HO_490003.out))) (below_size (hb_)));have HO498:=Aside0.mk (Kd.R_lower (Kd.R_new' (Kd.R_new' ho1 (Kd.R_lt (Kd.R_up HO_490002.out))) (Kd.R_lt (Kd.R_up HO_490003.out))) (below_size (hb_)));replace HO_490002:=Aside0.mk (Kd.R_mono (Kd.R_told (Kd.R_told (Kd.R_old (Kd.R_up HO_490002.out) hb) (Kd.R_base ho0)) (Kd.R_base ho1)) (fun _ h_ => h_.1));replace HO_490003:=Aside0.mk (Kd.R_mono (Kd.R_told (Kd.R_told (Kd.R_old (Kd.R_up HO_490003.out) hb) (Kd.R_base ho0)) (Kd.R_base ho1)) (fun _ h_ => h_.1));replace HO_490004:=rbw HO_490004 hb;replace BK474:=bkb BK474 hb;replace BK475:=bkb BK475 hb;replace BK476:=bkb BK476 hb;replace BK489:=bkb BK489 hb;replace HB:=Aside0.mk (below_step (hb_) hb))|((with_reducible refine gate_dst (N:=11) rfl ?_);refine box_ev (N:=11) (cs:=#[.slice none 0 0,.slice none 0 0]) (t:=26) ?_;intro gb499 hg w76 hbox hb;have BK499:=Aside0.mk (hbox);have GW499 : Aside0 (w.heap.size ≤ gb499):=gsz hg;have GE499:=GW499;have NB474_499:=nbl BK474 hg;have NB499_474:=nbr BK474 hg;have NB475_499:=nbl BK475 hg;have NB499_475:=nbr BK475 hg;have NB476_499:=nbl BK476 hg;have NB499_476:=nbr BK476 hg;have NB489_499:=nbl BK489 hg;have NB499_489:=nbr BK489 hg;replace HO_490002:=rbw HO_490002 hb;replace HO_490003:=rbw HO_490003 hb;replace HO_490004:=rbw HO_490004 hb;replace HO495:=rbw HO495 hb;replace HO498:=rbw HO498 hb;replace BK474:=bkb BK474 hb;replace BK475:=bkb BK475 hb;replace BK476:=bkb BK476 hb;replace BK489:=bkb BK489 hb;replace HB:=Aside0.mk (below_step (hb_) hb);clear hb hbox hg;obtain ⟨Ao77,co77,eo77⟩:=Kd.R_slice HO495.out;subst eo77;have hnb78:=NB499_474.out;have hnc78:=NB474_499.out;have hnb79:=NB499_475.out;have hnc79:=NB475_499.out;have hnb80:=NB499_476.out;have hnc80:=NB476_499.out;have hnb81:=NB499_489.out;have hnc81:=NB489_499.out;obtain ⟨hcz82_0,hcz82_1,hfz82_0,hfz82_1⟩:=cells2 BK499.out;obtain ⟨Ao83,co83,eo83⟩:=Kd.R_slice HO498.out;subst eo83)|((with_reducible refine gate_store (t:=26) (p:=11) rfl ?_);refine store_event (t:=26) (p:=11) (v:=?vo_w84) (w1:=((w76.setCell ⟨gb499,0,none⟩ (.slice Ao77 t493.length co77)).setCell ⟨gb499,1,none⟩ (.slice Ao83 t496.length co83))) ?hg ?ho ?hn ?hr ?_;(case ho => rfl);(case hg => rfl);(case hn => rfl);(case hr => first|(go_simp;done)|(go_simp;rfl));intro w84 hw;have n0_ : Aside0 (Kd.R (Kd.int .i64) 3 w84 w.heap.size (fun k_ => some k_ ≠ (.slice Ao44 t482.length co44 : Value).ownBlock ∧ some k_ ≠ (.slice Ao77 t493.length co77 : Value).ownBlock ∧ some k_ ≠ (.slice Ao83 t496.length co83 : Value).ownBlock) (.slice Ao43 t479.length co43) t479):=⟨(by rw [hw];exact (by (with_reducible repeat (first|apply Kd.R_alloc|apply Kd.R_drewN|apply Kd.R_drew));exact Kd.R_mono (Kd.R_fars gb499 (Kd.R_types HO_490002.out BK499.out (by decide)) (fun _ hk => hk.2)) (fun _ hk => ⟨hk.1.1.1,⟨hk.1.1.2,hk.1.2⟩⟩)))⟩;have n1_ : Aside0 (Kd.R (Kd.int .i64) 3 w84 w.heap.size (fun k_ => some k_ ≠ (.slice Ao43 t479.length co43 : Value).ownBlock ∧ some k_ ≠ (.slice Ao77 t493.length co77 : Value).ownBlock ∧ some k_ ≠ (.slice Ao83 t496.length co83 : Value).ownBlock) (.slice Ao44 t482.length co44) t482):=⟨(by rw [hw];exact (by (with_reducible repeat (first|apply Kd.R_alloc|apply Kd.R_drewN|apply Kd.R_drew));exact Kd.R_mono (Kd.R_fars gb499 (Kd.R_types HO_490003.out BK499.out (by decide)) (fun _ hk => hk.2)) (fun _ hk => ⟨hk.1.1.1,⟨hk.1.1.2,hk.1.2⟩⟩)))⟩;have n2_ : Aside0 (Kd.R Kd.bool 4 w84 w.heap.size (fun _ => True) (.slice Ao45 t485.length co45) t485):=⟨(by rw [hw];exact (by (with_reducible repeat (first|apply Kd.R_alloc|apply Kd.R_drewN|apply Kd.R_drew));exact Kd.R_mono (Kd.R_fars gb499 (Kd.R_types HO_490004.out BK499.out (by decide)) (fun _ hk => hk.2)) (fun _ hk => trivial)))⟩;have n3_ : Aside0 (Kd.R (Kd.int .i64) 3 w84 w.heap.size (fun k_ => some k_ ≠ (.slice Ao43 t479.length co43 : Value).ownBlock ∧ some k_ ≠ (.slice Ao44 t482.length co44 : Value).ownBlock ∧ some k_ ≠ (.slice Ao83 t496.length co83 : Value).ownBlock) (.slice Ao77 t493.length co77) t493):=⟨(by rw [hw];exact (by (with_reducible repeat (first|apply Kd.R_alloc|apply Kd.R_drewN|apply Kd.R_drew));exact Kd.R_mono (Kd.R_fars gb499 (Kd.R_types HO495.out BK499.out (by decide)) (fun _ hk => hk.2)) (fun _ hk => ⟨hk.1.1.2,⟨hk.1.2,hk.1.1.1⟩⟩)))⟩;have n4_ : Aside0 (Kd.R (Kd.int .i64) 3 w84 w.heap.size (fun k_ => some k_ ≠ (.slice Ao43 t479.length co43 : Value).ownBlock ∧ some k_ ≠ (.slice Ao44 t482.length co44 : Value).ownBlock ∧ some k_ ≠ (.slice Ao77 t493.length co77 : Value).ownBlock) (.slice Ao83 t496.length co83) t496):=⟨(by rw [hw];exact (by (with_reducible repeat (first|apply Kd.R_alloc|apply Kd.R_drewN|apply Kd.R_drew));exact Kd.R_mono (Kd.R_fars gb499 (Kd.R_types HO498.out BK499.out (by decide)) (fun _ hk => hk.2)) (fun _ hk => ⟨hk.1.1.2,⟨hk.1.2,hk.1.1.1⟩⟩)))⟩;have n5_ : Aside0 (w84.heap[gb474]? = some (.cells #[.int .i64 a0_0,.int .i64 a0_1,.slice A0_2 l0_2.length c0_2] 24 (0,0))):=⟨(by rw [hw];exact (by (with_reducible repeat (first|refine blk_drewN ?_ _|refine blk_drew ?_|refine blk_alloc ?_ _));refine blk_far ?_ NB474_499.out _;(with_reducible repeat (first|refine blk_drewN ?_ _|refine blk_drew ?_|refine blk_alloc ?_ _));refine blk_far ?_ NB474_499.out _;(with_reducible repeat (first|refine blk_drewN ?_ _|refine blk_drew ?_|refine blk_alloc ?_ _));exact BK474.out))⟩;have n6_ : Aside0 (w84.heap[gb475]? = some (.cells #[.slice (some ad490) l1_0.length c1_0,.slice A1_1 l1_1.length c1_1] 26 (0,0))):=⟨(by rw [hw];exact (by (with_reducible repeat (first|refine blk_drewN ?_ _|refine blk_drew ?_|refine blk_alloc ?_ _));refine blk_far ?_ NB475_499.out _;(with_reducible repeat (first|refine blk_drewN ?_ _|refine blk_drew ?_|refine blk_alloc ?_ _));refine blk_far ?_ NB475_499.out _;(with_reducible repeat (first|refine blk_drewN ?_ _|refine blk_drew ?_|refine blk_alloc ?_ _));exact BK475.out))⟩;have n7_ : Aside0 (w84.heap[gb476]? = some (.cells #[.slice none 0 0,.slice none 0 0] 26 (0,0))):=⟨(by rw [hw];exact (by (with_reducible repeat (first|refine blk_drewN ?_ _|refine blk_drew ?_|refine blk_alloc ?_ _));refine blk_far ?_ NB476_499.out _;(with_reducible repeat (first|refine blk_drewN ?_ _|refine blk_drew ?_|refine blk_alloc ?_ _));refine blk_far ?_ NB476_499.out _;(with_reducible repeat (first|refine blk_drewN ?_ _|refine blk_drew ?_|refine blk_alloc ?_ _));exact BK476.out))⟩;have n8_ : Aside0 (w84.heap[gb489]? = some (.cells #[.int .i64 t477,.int .i64 t478,.slice Ao43 t479.length co43,.slice Ao44 t482.length co44,.slice Ao45 t485.length co45] 52 (0,0))):=⟨(by rw [hw];exact (by (with_reducible repeat (first|refine blk_drewN ?_ _|refine blk_drew ?_|refine blk_alloc ?_ _));refine blk_far ?_ NB489_499.out _;(with_reducible repeat (first|refine blk_drewN ?_ _|refine blk_drew ?_|refine blk_alloc ?_ _));refine blk_far ?_ NB489_499.out _;(with_reducible repeat (first|refine blk_drewN ?_ _|refine blk_drew ?_|refine blk_alloc ?_ _));exact BK489.out))⟩;have n9_ : Aside0 (w84.heap[gb499]? = some (.cells #[.slice Ao77 t493.length co77,.slice Ao83 t496.length co83] 26 (0,0))):=⟨(by rw [hw];exact (by (with_reducible repeat (first|refine blk_drewN ?_ _|refine blk_drew ?_|refine blk_alloc ?_ _));exact blk_puts2 (blk_up BK499.out)))⟩;have n10_ : Aside0 (Below w.heap.size w w84):=⟨(by rw [hw];exact (hb_))⟩;clear hw;clear HO_490002;clear HO_490003;clear HO_490004;clear HO495;clear HO498;clear BK474;clear BK475;clear BK476;clear BK489;clear BK499;clear HB;have HO_490002:=n0_;have HO_490003:=n1_;have HO_490004:=n2_;have HO495:=n3_;have HO498:=n4_;have BK474:=n5_;have BK475:=n6_;have BK476:=n7_;have BK489:=n8_;have BK499:=n9_;have HB:=n10_;clear n0_ n1_ n2_ n3_ n4_ n5_ n6_ n7_ n8_ n9_ n10_;obtain ⟨hcz85_0,hcz85_1,hfz85_0,hfz85_1⟩:=cells2 BK499.out;have p70 : 0 ≤ (a2 : Int):=of_decide_eq_true (by first|(with_reducible assumption)|assumption);have q70 : (a2 : Int) < ((t493.length : Int) : Int):=of_decide_eq_true (by first|(with_reducible assumption)|assumption);obtain ⟨go70,co70,eo70,gb70,gl70,cl70,HG70⟩:=Kd.R_form HO495.out (by omega);(first|cases eo70|(injection eo70 with ea_ en_ ec_;(first|subst ea_|(injection ea_ with ea_;subst ea_));subst ec_;clear en_));have GB70:=Aside0.mk gb70;have GG70:=Aside0.mk HG70;clear gb70 gl70 HG70;obtain ⟨hx70_0,hf70_0⟩:=Kd.R_celln 0 HO495.out (a2 : Int) p70 q70;replace p70:=eq_true p70;replace q70:=eq_true q70;obtain ⟨hy86_,hz86_⟩:=Kd.R_celln 0 HO495.out (a2 : Int) (of_decide_eq_true (by first|(with_reducible assumption)|assumption)) (of_decide_eq_true (by first|(with_reducible assumption)|assumption));have HP86:=Kd.R_putg HO495.out (a2 : Int) 0)|((with_reducible refine gate_store (t:=3) (p:=48) rfl ?_);refine store_event (t:=3) (p:=48) (v:=?vo_w87) (w1:=(w84.setCell ⟨go70,(a2 : Int).toNat,none⟩ (.int .i64 0))) ?hg ?ho ?hn ?hr ?_;(case ho => rfl);(case hg => rfl);(case hn => rfl);(case hr => first|(go_simp;done)|(go_simp;rfl));intro w87 hw;have hg : w84.grownBy w87 (some go70):=(by rw [hw];exact HP86.2);have hp_ : Kd.R (Kd.int .i64) 3 w87 w.heap.size (fun k_ => some k_ ≠ (.slice Ao43 t479.length co43 : Value).ownBlock ∧ some k_ ≠ (.slice Ao44 t482.length co44 : Value).ownBlock ∧ some k_ ≠ (.slice Ao83 t496.length co83 : Value).ownBlock) (.slice (some ⟨go70,0,none⟩) t493.length co77) y500:=(by rw [hw,Ny500.out];exact HP86.1);clear HP86;replace HO_490002:=Aside0.mk (Kd.R_after (v:=(.slice (some ⟨go70,0,none⟩) t493.length co77)) (v1:=(.slice (some ⟨go70,0,none⟩) t493.length co77)) (ok:=(fun k_ => some k_ ≠ (.slice Ao44 t482.length co44 : Value).ownBlock ∧ some k_ ≠ (.slice Ao83 t496.length co83 : Value).ownBlock)) (by (with_reducible repeat (first|apply Kd.R_alloc|apply Kd.R_drewN|apply Kd.R_drew));exact Kd.R_mono HO_490002.out (fun _ hk => ⟨⟨hk.1,hk.2.2⟩,hk.2.1⟩)) hg (.inl rfl));replace HO_490003:=Aside0.mk (Kd.R_after (v:=(.slice (some ⟨go70,0,none⟩) t493.length co77)) (v1:=(.slice (some ⟨go70,0,none⟩) t493.length co77)) (ok:=(fun k_ => some k_ ≠ (.slice Ao43 t479.length co43 : Value).ownBlock ∧ some k_ ≠ (.slice Ao83 t496.length co83 : Value).ownBlock)) (by (with_reducible repeat (first|apply Kd.R_alloc|apply Kd.R_drewN|apply Kd.R_drew));exact Kd.R_mono HO_490003.out (fun _ hk => ⟨⟨hk.1,hk.2.2⟩,hk.2.1⟩)) hg (.inl rfl));replace HO_490004:=Aside0.mk (Kd.R_over' (v:=(.slice (some ⟨go70,0,none⟩) t493.length co77)) (Kd.R_up HO_490004.out) (Kd.R_typed HO495.out) (by decide) hg);replace BK474:=Aside0.mk (blk_grown (blk_up BK474.out) hg (Kd.R_ne HO495.out BK474.out (by decide)));replace BK475:=Aside0.mk (blk_grown (blk_up BK475.out) hg (Kd.R_ne HO495.out BK475.out (by decide)));replace BK476:=Aside0.mk (blk_grown (blk_up BK476.out) hg (Kd.R_ne HO495.out BK476.out (by decide)));replace BK489:=Aside0.mk (blk_grown (blk_up BK489.out) hg (Kd.R_ne HO495.out BK489.out (by decide)));replace HO498:=Aside0.mk (Kd.R_after (v:=(.slice (some ⟨go70,0,none⟩) t493.length co77)) (v1:=(.slice (some ⟨go70,0,none⟩) t493.length co77)) (ok:=(fun k_ => some k_ ≠ (.slice Ao43 t479.length co43 : Value).ownBlock ∧ some k_ ≠ (.slice Ao44 t482.length co44 : Value).ownBlock)) (by (with_reducible repeat (first|apply Kd.R_alloc|apply Kd.R_drewN|apply Kd.R_drew));exact Kd.R_mono HO498.out (fun _ hk => ⟨⟨hk.1,hk.2.1⟩,hk.2.2⟩)) hg (.inl rfl));replace BK499:=Aside0.mk (blk_grown (blk_up BK499.out) hg (Kd.R_ne HO495.out BK499.out (by decide)));replace HO495:=Aside0.mk (hp_);replace HB:=Aside0.mk ((by rw [hw];exact below_set (HB.out) GB70.out : Below w.heap.size w w87));clear hg hw hp_;obtain ⟨hcz88_0,hcz88_1,hfz88_0,hfz88_1⟩:=cells2 BK499.out;have hnb89:=NB476_474.out;have hnc89:=NB474_476.out;have hnb90:=NB476_489.out;have hnc90:=NB489_476.out;obtain ⟨hcz91_0,hcz91_1,hfz91_0,hfz91_1⟩:=cells2 BK476.out))
          refine bodyPost_ret (results_ctt rfl _ _ gb476 26 #[.slice (some ⟨go70,0,none⟩) t493.length co77,.slice Ao83 t496.length co83] (0,0) _ rfl (by (with_reducible repeat (first|refine blk_drewN ?_ _|refine blk_drew ?_|refine blk_alloc ?_ _));exact blk_puts2 (blk_up BK476.out)) Try.underlying26 rfl (by kernel_rfl)) rfl ?_
          exact ⟨_,_,by first|rfl|(simp [errW_none,errW_some] <;> rfl)|(simp [*,errW_none,errW_some] <;> rfl),by (with_reducible repeat (first|apply Kd.R_alloc|apply Kd.R_drewN|apply Kd.R_drew));exact Kd.R_mono (Kd.R_fars gb476 (Kd.R_types HO495.out BK476.out (by decide)) (fun _ hk => hk.2)) (fun _ hk => hk.1.2.2),by (with_reducible repeat (first|apply Kd.R_alloc|apply Kd.R_drewN|apply Kd.R_drew));exact Kd.R_mono (Kd.R_fars gb476 (Kd.R_types HO498.out BK476.out (by decide)) (fun _ hk => hk.2)) (fun _ hk => hk.1.2),hb_⟩
         ·rw [if_neg c69] at H
          exact absurd H (by simp)
        ·rw [if_neg c68] at H
         exact absurd H (by simp)
   ·rw [if_neg c7] at H
    exact absurd H (by simp)
  ·rw [if_neg c6] at H
   exact absurd H (by simp)
 ·rw [if_neg c5] at H
  have c5b0 : (t488 == 0) = false:=beq_eq_false_iff_ne.mpr c5
  have c5b1 : (t488 != 0) = true:=bne_iff_ne.mpr c5
  simp only [Option.some.injEq,Prod.mk.injEq] at H
  obtain ⟨rfl,rfl,rfl,rfl⟩:=H
  go_enter Try.func35,Try.ntmps35
  go_wp2_with (first|((with_reducible refine gate_dst (N:=3) rfl ?_);refine box_ev (N:=3) (cs:=#[.int .i64 a0_0,.int .i64 a0_1,.slice A0_2 l0_2.length c0_2]) (t:=24) ?_;intro gb474 hg w92 hbox hb;have BK474:=Aside0.mk (hbox);have GW474 : Aside0 (w.heap.size ≤ gb474):=gsz hg;have GE474:=GW474;replace HB:=Aside0.mk (below_step (hb_) hb);clear hb hbox hg)|((with_reducible refine gate_dst (N:=4) rfl ?_);refine box_ev (N:=4) (cs:=#[.slice A1_0 l1_0.length c1_0,.slice A1_1 l1_1.length c1_1]) (t:=26) ?_;intro gb475 hg w93 hbox hb;have BK475:=Aside0.mk (hbox);have GW475 : Aside0 (w.heap.size ≤ gb475):=gsz hg;have GE475:=GW475;have NB474_475:=nbl BK474 hg;have NB475_474:=nbr BK474 hg;replace BK474:=bkb BK474 hb;replace HB:=Aside0.mk (below_step (hb_) hb);clear hb hbox hg)|((with_reducible refine gate_dst (N:=6) rfl ?_);refine box_ev (N:=6) (cs:=#[.slice none 0 0,.slice none 0 0]) (t:=26) ?_;intro gb476 hg w94 hbox hb;have BK476:=Aside0.mk (hbox);have GW476 : Aside0 (w.heap.size ≤ gb476):=gsz hg;have GE476:=GW476;have NB474_476:=nbl BK474 hg;have NB476_474:=nbr BK474 hg;have NB475_476:=nbl BK475 hg;have NB476_475:=nbr BK475 hg;replace BK474:=bkb BK474 hb;replace BK475:=bkb BK475 hb;replace HB:=Aside0.mk (below_step (hb_) hb);clear hb hbox hg;have hnb95:=NB474_475.out;have hnc95:=NB475_474.out;have hnb96:=NB474_476.out;have hnc96:=NB476_474.out;obtain ⟨hcz97_0,hcz97_1,hcz97_2,hfz97_0,hfz97_1,hfz97_2⟩:=cells3 BK474.out;have hnb98:=NB475_476.out;have hnc98:=NB476_475.out;obtain ⟨hcz99_0,hcz99_1,hfz99_0,hfz99_1⟩:=cells2 BK475.out)|((with_reducible refine gate_callee (f:=40) rfl ?_);refine goesL_ (some 16) rfl rfl Try.func40 (by kernel_rfl) rfl #[.agg #[.int .i64 a0_0,.int .i64 a0_1,.slice A0_2 l0_2.length c0_2],.agg #[.slice A1_0 l1_0.length c1_0,.slice A1_1 l1_1.length c1_1],.int .i64 a2] rfl (by (try simp only [List.map_toArray,List.map_cons,List.map_nil]);first|done|rfl|(simp only [List.length_drop,List.length_take];rfl)) ?_;(with_reducible refine (water_at.calls k a0_0 a0_1 _ _ l0_2 _ _ l1_0 _ _ l1_1 a2 t477 t478 t479 t482 t485 t488 _ ?side1 ?side2 ?side3 ?side4 ?side5 ?side6 A4.out).mono ?_);(case side1 => exact Kd.C_up (Kd.C_below HR0_2.out HB.out));(case side2 => exact HC0_2.out);(case side3 => exact Kd.C_up (Kd.C_below HR1_0.out HB.out));(case side4 => exact HC1_0.out);(case side5 => exact Kd.C_up (Kd.C_below HR1_1.out HB.out));(case side6 => exact HC1_1.out);rintro e w100 ⟨v480,v483,v486,rfl,ho0,ho1,ho2,hb⟩;refine ⟨_,rfl,?_⟩;have HO481:=rlo ho0;have HO484:=rlo ho1;have HO487:=rlo ho2;replace BK474:=bkb BK474 hb;replace BK475:=bkb BK475 hb;replace BK476:=bkb BK476 hb;replace HB:=Aside0.mk (below_step (hb_) hb))|((with_reducible refine gate_dst (N:=9) rfl ?_);refine box_ev (N:=9) (cs:=#[.int .i64 0,.int .i64 0,.slice none 0 0,.slice none 0 0,.slice none 0 0]) (t:=52) ?_;intro gb489 hg w101 hbox hb;have BK489:=Aside0.mk (hbox);have GW489 : Aside0 (w.heap.size ≤ gb489):=gsz hg;have GE489:=GW489;have NB474_489:=nbl BK474 hg;have NB489_474:=nbr BK474 hg;have NB475_489:=nbl BK475 hg;have NB489_475:=nbr BK475 hg;have NB476_489:=nbl BK476 hg;have NB489_476:=nbr BK476 hg;replace HO481:=rbw HO481 hb;replace HO484:=rbw HO484 hb;replace HO487:=rbw HO487 hb;replace BK474:=bkb BK474 hb;replace BK475:=bkb BK475 hb;replace BK476:=bkb BK476 hb;replace HB:=Aside0.mk (below_step (hb_) hb);clear hb hbox hg;have hnb102:=NB489_474.out;have hnc102:=NB474_489.out;have hnb103:=NB489_475.out;have hnc103:=NB475_489.out;have hnb104:=NB489_476.out;have hnc104:=NB476_489.out;obtain ⟨hcz105_0,hcz105_1,hcz105_2,hcz105_3,hcz105_4,hfz105_0,hfz105_1,hfz105_2,hfz105_3,hfz105_4⟩:=cells5 BK489.out;obtain ⟨Ao106,co106,eo106⟩:=Kd.R_slice HO481.out;subst eo106;obtain ⟨Ao107,co107,eo107⟩:=Kd.R_slice HO484.out;subst eo107;obtain ⟨Ao108,co108,eo108⟩:=Kd.R_slice HO487.out;subst eo108;obtain ⟨hcz109_0,hcz109_1,hfz109_0,hfz109_1⟩:=cells2 BK476.out))
  refine bodyPost_ret (results_ctt rfl _ _ gb476 26 #[.slice none 0 0,.slice none 0 0] (0,0) _ rfl (by (with_reducible repeat (first|refine blk_drewN ?_ _|refine blk_drew ?_|refine blk_alloc ?_ _));refine blk_put (cs:=#[.slice none 0 0,.slice none 0 0]) ?_ 1 _ rfl;(with_reducible repeat (first|refine blk_drewN ?_ _|refine blk_drew ?_|refine blk_alloc ?_ _));refine blk_put (cs:=#[.slice none 0 0,.slice none 0 0]) ?_ 0 _ rfl;(with_reducible repeat (first|refine blk_drewN ?_ _|refine blk_drew ?_|refine blk_alloc ?_ _));refine blk_far ?_ NB476_489.out _;(with_reducible repeat (first|refine blk_drewN ?_ _|refine blk_drew ?_|refine blk_alloc ?_ _));refine blk_far ?_ NB476_489.out _;(with_reducible repeat (first|refine blk_drewN ?_ _|refine blk_drew ?_|refine blk_alloc ?_ _));refine blk_far ?_ NB476_489.out _;(with_reducible repeat (first|refine blk_drewN ?_ _|refine blk_drew ?_|refine blk_alloc ?_ _));refine blk_far ?_ NB476_489.out _;(with_reducible repeat (first|refine blk_drewN ?_ _|refine blk_drew ?_|refine blk_alloc ?_ _));refine blk_far ?_ NB476_489.out _;(with_reducible repeat (first|refine blk_drewN ?_ _|refine blk_drew ?_|refine blk_alloc ?_ _));exact BK476.out) Try.underlying26 rfl (by kernel_rfl)) rfl ?_
  exact ⟨_,_,by first|rfl|(simp [errW_none,errW_some] <;> rfl)|(simp [*,errW_none,errW_some] <;> rfl),by first|exact Kd.R_nil _ _ _ _ _|exact Kd.N_nil _ _ _ _ _|exact Kd.V_nil _ _ _ _ _|exact Kd.Q_nil _ _ _ _ _|exact Kd.S_nil _ _ _ _ _,by first|exact Kd.R_nil _ _ _ _ _|exact Kd.N_nil _ _ _ _ _|exact Kd.V_nil _ _ _ _ _|exact Kd.Q_nil _ _ _ _ _|exact Kd.S_nil _ _ _ _ _,hb_⟩

end Go.Proofs.Ytiencnnkphipoaa.P

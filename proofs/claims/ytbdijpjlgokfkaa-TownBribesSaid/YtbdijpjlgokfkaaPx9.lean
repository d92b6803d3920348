/- Functions of this seat as plain Lean functions, with proofs that the Go code comes to just their answers, or what stands between them and a law's statement; no conditions. (Laid by a program of this session, out of the kit's print.) -/
import Derived.Test.YtbdijpjlgokfkaaPx0
namespace Go.Proofs.Ytbdijpjlgokfkaa.P
open Go.RowKit Go.Proofs.YtbdijpjlgokfkaaW.PrintWords Go.Proofs.YtbdijpjlgokfkaaW.PrintLast Go.Proofs.YtbdijpjlgokfkaaW.PrintMore
attribute [local go_sem] max2_int min2_int max_two min_two max_three min_three max_four min_four   -- for this text's walks alone
set_option linter.unusedVariables false
set_option linter.unusedSimpArgs false

/-! ### hinterlandref11_Copy: function 41 -/
def hinterlandref11_Copy.f (a0_0 : Int) (l0_1 : List (S68)) (l0_2 : List Int) (a0_3 : Int) (a0_4 : Int) : Option (Int × (List (S68)) × List Int × Int × Int) := (some (([] : List (S68)) : List (S68))).bind fun y161 => (if y161.length + l0_1.length < 5864062014805 then ((some (([] : List Int) : List Int)).bind fun y167 => (if y167.length + l0_2.length < 17592186044416 then (some (a0_0, (y161 ++ l0_1), (y167 ++ l0_2), a0_3, a0_4)) else (none))) else (none))
set_option maxHeartbeats 8000000 in
set_option maxRecDepth 100000 in
theorem hinterlandref11_Copy.calls (a0_0 : Int) (A0_1 : Option Addr) (c0_1 : Nat) (l0_1 : List (S68)) (A0_2 : Option Addr) (c0_2 : Nat) (l0_2 : List Int) (a0_3 : Int) (a0_4 : Int) (r1 : Int) (r2 : List (S68)) (r3 : List Int) (r4 : Int) (r5 : Int) (w : World) (hr0_1 : Kd.C k68 w A0_1 l0_1.length l0_1) (hc0_1 : l0_1.length ≤ c0_1) (hr0_2 : Kd.C (Kd.int .i64) w A0_2 l0_2.length l0_2) (hc0_2 : l0_2.length ≤ c0_2) (h : hinterlandref11_Copy.f a0_0 l0_1 l0_2 a0_3 a0_4 = some (r1, r2, r3, r4, r5)) :
  Calls Try.prog 41 #[.agg #[.int .i64 a0_0,.slice A0_1 l0_1.length c0_1,.slice A0_2 l0_2.length c0_2,.int .i64 a0_3,.int .i64 a0_4]] w fun e w' => ∃ v1_ v2_ : Value,e = .returned (.agg #[.int .i64 r1,v1_,v2_,.int .i64 r4,.int .i64 r5]) ∧ Kd.R k68 68 w' w.heap.size (fun _ => True) v1_ r2 ∧ Kd.R (Kd.int .i64) 3 w' w.heap.size (fun _ => True) v2_ r3 ∧ Below w.heap.size w w':=by
 have hu25:=Try.underlying25
 have HR0_1:=Aside0.mk hr0_1
 have HC0_1:=Aside0.mk hc0_1
 clear hr0_1 hc0_1
 have HR0_2:=Aside0.mk hr0_2
 have HC0_2:=Aside0.mk hc0_2
 clear hr0_2 hc0_2
 have HB:=Aside0.mk (Below.refl w.heap.size w)
 have H : ((some (([] : List (S68)) : List (S68))).bind fun y161 => (if y161.length + l0_1.length < 5864062014805 then ((some (([] : List Int) : List Int)).bind fun y167 => (if y167.length + l0_2.length < 17592186044416 then (some (a0_0,(y161 ++ l0_1),(y167 ++ l0_2),a0_3,a0_4)) else (none))) else (none))) = some (r1,r2,r3,r4,r5):=h
 clear h
 obtain ⟨y161,hy161⟩ : ∃ y_ : List (S68),y_ = (([] : List (S68))):=⟨_,rfl⟩
 replace H : (if y161.length + l0_1.length < 5864062014805 then ((some (([] : List Int) : List Int)).bind fun y167 => (if y167.length + l0_2.length < 17592186044416 then (some (a0_0,(y161 ++ l0_1),(y167 ++ l0_2),a0_3,a0_4)) else (none))) else (none)) = some (r1,r2,r3,r4,r5):=by first|(rw [hy161];with_reducible exact H)|(have H2_:=(Option.bind_some _ _).symm.trans H;rw [hy161];with_reducible exact H2_)|(have H2_:=(Option.bind_some _ _).symm.trans H;with_reducible exact H2_)|with_reducible exact H|(rw [hy161];exact H)|exact H
 have Ny161:=Aside0.mk hy161
 clear hy161
 by_cases c2 : y161.length + l0_1.length < 5864062014805
 ·rw [if_pos c2] at H
  have LMc2:=Aside0.mk c2
  clear c2
  obtain ⟨y164,hy164⟩ : ∃ y_ : List (S68),y_ = (y161 ++ l0_1):=⟨_,rfl⟩
  replace H : ((some (([] : List Int) : List Int)).bind fun y167 => (if y167.length + l0_2.length < 17592186044416 then (some (a0_0,y164,(y167 ++ l0_2),a0_3,a0_4)) else (none))) = some (r1,r2,r3,r4,r5):=by first|(rw [hy164];with_reducible exact H)|(have H2_:=(Option.bind_some _ _).symm.trans H;rw [hy164];with_reducible exact H2_)|(have H2_:=(Option.bind_some _ _).symm.trans H;with_reducible exact H2_)|with_reducible exact H|(rw [hy164];exact H)|exact H
  have Ny164:=Aside0.mk hy164
  clear hy164
  obtain ⟨y167,hy167⟩ : ∃ y_ : List Int,y_ = (([] : List Int)):=⟨_,rfl⟩
  replace H : (if y167.length + l0_2.length < 17592186044416 then (some (a0_0,y164,(y167 ++ l0_2),a0_3,a0_4)) else (none)) = some (r1,r2,r3,r4,r5):=by first|(rw [hy167];with_reducible exact H)|(have H2_:=(Option.bind_some _ _).symm.trans H;rw [hy167];with_reducible exact H2_)|(have H2_:=(Option.bind_some _ _).symm.trans H;with_reducible exact H2_)|with_reducible exact H|(rw [hy167];exact H)|exact H
  have Ny167:=Aside0.mk hy167
  clear hy167
  by_cases c3 : y167.length + l0_2.length < 17592186044416
  ·rw [if_pos c3] at H
   have LMc3:=Aside0.mk c3
   clear c3
   obtain ⟨y170,hy170⟩ : ∃ y_ : List Int,y_ = (y167 ++ l0_2):=⟨_,rfl⟩
   replace H : (some (a0_0,y164,y170,a0_3,a0_4)) = some (r1,r2,r3,r4,r5):=by first|(rw [hy170];with_reducible exact H)|(have H2_:=(Option.bind_some _ _).symm.trans H;rw [hy170];with_reducible exact H2_)|(have H2_:=(Option.bind_some _ _).symm.trans H;with_reducible exact H2_)|with_reducible exact H|(rw [hy170];exact H)|exact H
   have Ny170:=Aside0.mk hy170
   clear hy170
   simp only [Option.some.injEq,Prod.mk.injEq] at H
   obtain ⟨rfl,rfl,rfl,rfl,rfl⟩:=H
   go_enter Try.func41,Try.ntmps41
   go_wp2_with (first|((with_reducible refine gate_dst (N:=1) rfl ?_);refine box_event ?hg (N:=1) ?hd (cs:=#[.int .i64 a0_0,.slice A0_1 l0_1.length c0_1,.slice A0_2 l0_2.length c0_2,.int .i64 a0_3,.int .i64 a0_4]) (t:=25) ?hr ?_;(case hd => rfl);(case hg => rfl);(case hr => first|(go_simp;done)|(go_simp;rfl));intro gb159 hg w4 hbox hb;have n0_:=Aside0.mk (below_step (by repeat (first|(with_reducible first|exact HB.out|apply below_alloc|apply pw_below_drewN|apply below_drew1)|exact HB.out)) hb);have n1_:=Aside0.mk (hbox);have n2_:=Aside0.mk ((by rw [hg];exact (below_size (by repeat (first|(with_reducible first|exact HB.out|apply below_alloc|apply pw_below_drewN|apply below_drew1)|exact HB.out))) : w.heap.size ≤ gb159));have n3_:=Aside0.mk ((by rw [hg];exact (below_size (by repeat (first|(with_reducible first|exact HB.out|apply below_alloc|apply pw_below_drewN|apply below_drew1)|exact HB.out))) : w.heap.size ≤ gb159));clear HB;have HB:=n0_;have BK159:=n1_;have GW159:=n2_;have GE159:=n3_;clear n0_ n1_ n2_ n3_;clear hb hbox hg)|((with_reducible refine gate_dst (N:=2) rfl ?_);refine box_event ?hg (N:=2) ?hd (cs:=#[.int .i64 0,.slice none 0 0,.slice none 0 0,.int .i64 0,.int .i64 0]) (t:=25) ?hr ?_;(case hd => rfl);(case hg => rfl);(case hr => first|(go_simp;done)|(go_simp;rfl));intro gb160 hg w5 hbox hb;have n0_:=Aside0.mk (blk_below (g:=gb159) (o:=.cells #[.int .i64 a0_0,.slice A0_1 l0_1.length c0_1,.slice A0_2 l0_2.length c0_2,.int .i64 a0_3,.int .i64 a0_4] 25 (0,0)) (by (with_reducible repeat (first|refine blk_drewN ?_ _|refine blk_drew ?_|refine blk_alloc ?_ _));exact BK159.out) hb);have n1_:=Aside0.mk (below_step (by repeat (first|(with_reducible first|exact HB.out|apply below_alloc|apply pw_below_drewN|apply below_drew1|refine below_set ?_ GE159.out)|exact HB.out)) hb);have n2_:=Aside0.mk (hbox);have n3_:=Aside0.mk ((by rw [hg];exact (below_size (by repeat (first|(with_reducible first|exact HB.out|apply below_alloc|apply pw_below_drewN|apply below_drew1|refine below_set ?_ GE159.out)|exact HB.out))) : w.heap.size ≤ gb160));have n4_:=Aside0.mk ((by rw [hg];exact (below_size (by repeat (first|(with_reducible first|exact HB.out|apply below_alloc|apply pw_below_drewN|apply below_drew1|refine below_set ?_ GE159.out)|exact HB.out))) : w.heap.size ≤ gb160));have n5_:=Aside0.mk ((by rw [hg];exact Nat.ne_of_lt (blk_lt (g:=gb159) (o:=.cells #[.int .i64 a0_0,.slice A0_1 l0_1.length c0_1,.slice A0_2 l0_2.length c0_2,.int .i64 a0_3,.int .i64 a0_4] 25 (0,0)) (by (with_reducible repeat (first|refine blk_drewN ?_ _|refine blk_drew ?_|refine blk_alloc ?_ _));exact BK159.out)) : gb159 ≠ gb160));have n6_:=Aside0.mk ((by rw [hg];exact Nat.ne_of_gt (blk_lt (g:=gb159) (o:=.cells #[.int .i64 a0_0,.slice A0_1 l0_1.length c0_1,.slice A0_2 l0_2.length c0_2,.int .i64 a0_3,.int .i64 a0_4] 25 (0,0)) (by (with_reducible repeat (first|refine blk_drewN ?_ _|refine blk_drew ?_|refine blk_alloc ?_ _));exact BK159.out)) : gb160 ≠ gb159));clear BK159;clear HB;have BK159:=n0_;have HB:=n1_;have BK160:=n2_;have GW160:=n3_;have GE160:=n4_;have NB159_160:=n5_;have NB160_159:=n6_;clear n0_ n1_ n2_ n3_ n4_ n5_ n6_;clear hb hbox hg)|((with_reducible refine gate_dst (N:=3) rfl ?_);refine Kd.R_lit k68 _ 68 ?hg (N:=3) ?hd (xs:=([] : List (S68))) (inner:=[]) (ok:=fun _ => True) (okp:=fun _ => True) ?hr ?hp (fun _ hk => hk) trivial (Below.refl _ _) (Nat.le_refl _) (by simp) ?_;(case hd => rfl);(case hg => rfl);(case hr => first|(go_simp;done)|(go_simp;rfl));(case hp => exact (Reps.none _ _));intro v162 w6 ho7 hb hg_ hnew_;clear hg_ hnew_;(first|rw [← Ny161.out] at ho7|(simp only [Int.reduceToNat] at ho7;rw [← Ny161.out] at ho7));have n0_:=Aside0.mk (Kd.R_lower ho7 (below_size (by repeat (first|(with_reducible first|exact HB.out|apply below_alloc|apply pw_below_drewN|apply below_drew1|refine below_set ?_ GE159.out|refine below_set ?_ GE160.out)|exact HB.out))));have n1_:=Aside0.mk (blk_below (g:=gb159) (o:=.cells #[.int .i64 a0_0,.slice A0_1 l0_1.length c0_1,.slice A0_2 l0_2.length c0_2,.int .i64 a0_3,.int .i64 a0_4] 25 (0,0)) (by (with_reducible repeat (first|refine blk_drewN ?_ _|refine blk_drew ?_|refine blk_alloc ?_ _));exact BK159.out) hb);have n2_:=Aside0.mk (blk_below (g:=gb160) (o:=.cells #[.int .i64 0,.slice none 0 0,.slice none 0 0,.int .i64 0,.int .i64 0] 25 (0,0)) (by (with_reducible repeat (first|refine blk_drewN ?_ _|refine blk_drew ?_|refine blk_alloc ?_ _));exact BK160.out) hb);have n3_:=Aside0.mk (below_step (by repeat (first|(with_reducible first|exact HB.out|apply below_alloc|apply pw_below_drewN|apply below_drew1|refine below_set ?_ GE159.out|refine below_set ?_ GE160.out)|exact HB.out)) hb);clear BK159;clear BK160;clear HB;have HO163:=n0_;have BK159:=n1_;have BK160:=n2_;have HB:=n3_;clear n0_ n1_ n2_ n3_;clear hb ho7;have hnb8:=NB159_160.out;have hnc8:=NB160_159.out;have hcz9_0 : w6.cell? ⟨gb159,0,none⟩ = some (.int .i64 a0_0):=(blk_cell BK159.out 0).trans rfl;have hcz9_1 : w6.cell? ⟨gb159,1,none⟩ = some (.slice A0_1 l0_1.length c0_1):=(blk_cell BK159.out 1).trans rfl;have hcz9_2 : w6.cell? ⟨gb159,2,none⟩ = some (.slice A0_2 l0_2.length c0_2):=(blk_cell BK159.out 2).trans rfl;have hcz9_3 : w6.cell? ⟨gb159,3,none⟩ = some (.int .i64 a0_3):=(blk_cell BK159.out 3).trans rfl;have hcz9_4 : w6.cell? ⟨gb159,4,none⟩ = some (.int .i64 a0_4):=(blk_cell BK159.out 4).trans rfl;have hfz9_0:=blk_frozen BK159.out 0;have hfz9_1:=blk_frozen BK159.out 1;have hfz9_2:=blk_frozen BK159.out 2;have hfz9_3:=blk_frozen BK159.out 3;have hfz9_4:=blk_frozen BK159.out 4)|((with_reducible refine gate_builtin (b:=.append) (xs:=#[.tmp 3,.tmp 5]) rfl ?_);at_builtin;refine Kd.R_append_rows k68 (w0:=w) w.heap.size rfl (.tmp 3) (.tmp 5) 22 68 (.agg #[(.int .i64 0),(.int .i64 0),(.int .i64 0)]) 24 rfl Try.underlying22 info68 rfl (by decide) (by omega) v162 y161 l0_1 _ _ _ (fun _ => True) (fun _ => False) rfl rfl ?aO ?aR (fun _ _ h => h) (fun _ h => h.elim) ?aF ?aB ?aS ?aL ?_;(case aR => repeat (first|exact (Kd.C_below HR0_1.out HB.out)|(with_reducible refine Kd.C_alloc ?_ _)|(with_reducible refine Kd.C_drewN ?_ _)|(with_reducible refine Kd.C_drew ?_)));(case aB => exact (by repeat (first|(with_reducible first|exact HB.out|apply below_alloc|apply pw_below_drewN|apply below_drew1|refine below_set ?_ GE159.out|refine below_set ?_ GE160.out)|exact HB.out)));(case aF => exact (fun _ _ => trivial));(case aO => exact (by (with_reducible repeat (first|apply Kd.R_alloc|apply Kd.R_drewN|apply Kd.R_drew));exact HO163.out));(case aS => exact (below_size (by repeat (first|(with_reducible first|exact HB.out|apply below_alloc|apply pw_below_drewN|apply below_drew1|refine below_set ?_ GE159.out|refine below_set ?_ GE160.out)|exact HB.out))));(case aL => have:=LMc2.out;omega);intro v165 w10 ho hb hg hat;rw [← Ny164.out] at ho;have n0_:=Aside0.mk (blk_grown (g:=gb159) (o:=.cells #[.int .i64 a0_0,.slice A0_1 l0_1.length c0_1,.slice A0_2 l0_2.length c0_2,.int .i64 a0_3,.int .i64 a0_4] 25 (0,0)) (by (with_reducible repeat (first|refine blk_drewN ?_ _|refine blk_drew ?_|refine blk_alloc ?_ _));exact BK159.out) hg (Kd.R_ne HO163.out BK159.out (by decide)));have n1_:=Aside0.mk (blk_grown (g:=gb160) (o:=.cells #[.int .i64 0,.slice none 0 0,.slice none 0 0,.int .i64 0,.int .i64 0] 25 (0,0)) (by (with_reducible repeat (first|refine blk_drewN ?_ _|refine blk_drew ?_|refine blk_alloc ?_ _));exact BK160.out) hg (Kd.R_ne HO163.out BK160.out (by decide)));have n2_:=Aside0.mk (hb);have n3_:=Aside0.mk (ho);clear BK159;clear BK160;clear HB;clear HO163;have BK159:=n0_;have BK160:=n1_;have HB:=n2_;have HO166:=n3_;clear n0_ n1_ n2_ n3_;clear ho hb hg hat;obtain ⟨Ao11,co11,eo11⟩:=Kd.R_slice HO166.out;subst eo11;have hcz12_0 : w10.cell? ⟨gb159,0,none⟩ = some (.int .i64 a0_0):=(blk_cell BK159.out 0).trans rfl;have hcz12_1 : w10.cell? ⟨gb159,1,none⟩ = some (.slice A0_1 l0_1.length c0_1):=(blk_cell BK159.out 1).trans rfl;have hcz12_2 : w10.cell? ⟨gb159,2,none⟩ = some (.slice A0_2 l0_2.length c0_2):=(blk_cell BK159.out 2).trans rfl;have hcz12_3 : w10.cell? ⟨gb159,3,none⟩ = some (.int .i64 a0_3):=(blk_cell BK159.out 3).trans rfl;have hcz12_4 : w10.cell? ⟨gb159,4,none⟩ = some (.int .i64 a0_4):=(blk_cell BK159.out 4).trans rfl;have hfz12_0:=blk_frozen BK159.out 0;have hfz12_1:=blk_frozen BK159.out 1;have hfz12_2:=blk_frozen BK159.out 2;have hfz12_3:=blk_frozen BK159.out 3;have hfz12_4:=blk_frozen BK159.out 4)|((with_reducible refine gate_dst (N:=8) rfl ?_);refine Kd.R_lit (Kd.int .i64) _ 3 ?hg (N:=8) ?hd (xs:=([] : List Int)) (inner:=[]) (ok:=fun _ => True) (okp:=fun _ => True) ?hr ?hp (fun _ hk => hk) trivial (Below.refl _ _) (Nat.le_refl _) (by simp) ?_;(case hd => rfl);(case hg => rfl);(case hr => first|(go_simp;done)|(go_simp;rfl));(case hp => exact (Reps.none _ _));intro v168 w13 ho14 hb hg_ hnew_;clear hg_ hnew_;(first|rw [← Ny167.out] at ho14|(simp only [Int.reduceToNat] at ho14;rw [← Ny167.out] at ho14));have n0_:=Aside0.mk (Kd.R_below (by (with_reducible repeat (first|apply Kd.R_alloc|apply Kd.R_drewN|apply Kd.R_drew));exact (Kd.R_mono (Kd.R_far (p:=⟨gb159,1,none⟩) (Kd.R_types HO166.out BK159.out (by decide)) (fun _ hk => hk.2) (.slice Ao11 y164.length co11)) (fun _ h_ => h_.1))) hb);have n1_:=Aside0.mk (Kd.R_lower ho14 (below_size (by repeat (first|(with_reducible first|exact HB.out|apply below_alloc|apply pw_below_drewN|apply below_drew1|refine below_set ?_ GE159.out|refine below_set ?_ GE160.out)|exact HB.out))));have n2_:=Aside0.mk (blk_below (g:=gb159) (o:=.cells #[.int .i64 a0_0,.slice Ao11 y164.length co11,.slice A0_2 l0_2.length c0_2,.int .i64 a0_3,.int .i64 a0_4] 25 (0,0)) (by (with_reducible repeat (first|refine blk_drewN ?_ _|refine blk_drew ?_|refine blk_alloc ?_ _));refine blk_put (cs:=#[.int .i64 a0_0,.slice A0_1 l0_1.length c0_1,.slice A0_2 l0_2.length c0_2,.int .i64 a0_3,.int .i64 a0_4]) ?_ 1 _ rfl;(with_reducible repeat (first|refine blk_drewN ?_ _|refine blk_drew ?_|refine blk_alloc ?_ _));exact BK159.out) hb);have n3_:=Aside0.mk (blk_below (g:=gb160) (o:=.cells #[.int .i64 0,.slice none 0 0,.slice none 0 0,.int .i64 0,.int .i64 0] 25 (0,0)) (by (with_reducible repeat (first|refine blk_drewN ?_ _|refine blk_drew ?_|refine blk_alloc ?_ _));refine blk_far ?_ NB160_159.out _;(with_reducible repeat (first|refine blk_drewN ?_ _|refine blk_drew ?_|refine blk_alloc ?_ _));exact BK160.out) hb);have n4_:=Aside0.mk (below_step (by repeat (first|(with_reducible first|exact HB.out|apply below_alloc|apply pw_below_drewN|apply below_drew1|refine below_set ?_ GE159.out|refine below_set ?_ GE160.out)|exact HB.out)) hb);clear HO166;clear BK159;clear BK160;clear HB;have HO166:=n0_;have HO169:=n1_;have BK159:=n2_;have BK160:=n3_;have HB:=n4_;clear n0_ n1_ n2_ n3_ n4_;clear hb ho14;have hcz15_0 : w13.cell? ⟨gb159,0,none⟩ = some (.int .i64 a0_0):=(blk_cell BK159.out 0).trans rfl;have hcz15_1 : w13.cell? ⟨gb159,1,none⟩ = some (.slice Ao11 y164.length co11):=(blk_cell BK159.out 1).trans rfl;have hcz15_2 : w13.cell? ⟨gb159,2,none⟩ = some (.slice A0_2 l0_2.length c0_2):=(blk_cell BK159.out 2).trans rfl;have hcz15_3 : w13.cell? ⟨gb159,3,none⟩ = some (.int .i64 a0_3):=(blk_cell BK159.out 3).trans rfl;have hcz15_4 : w13.cell? ⟨gb159,4,none⟩ = some (.int .i64 a0_4):=(blk_cell BK159.out 4).trans rfl;have hfz15_0:=blk_frozen BK159.out 0;have hfz15_1:=blk_frozen BK159.out 1;have hfz15_2:=blk_frozen BK159.out 2;have hfz15_3:=blk_frozen BK159.out 3;have hfz15_4:=blk_frozen BK159.out 4)|((with_reducible refine gate_builtin (b:=.append) (xs:=#[.tmp 8,.tmp 10]) rfl ?_);at_builtin;refine Kd.R_append_rows (Kd.int .i64) (w0:=w) w.heap.size rfl (.tmp 8) (.tmp 10) 23 3 (.int .i64 0) 8 rfl Try.underlying23 info3 rfl (by decide) (by omega) v168 y167 l0_2 _ _ _ (fun _ => True) (fun _ => False) rfl rfl ?aO ?aR (fun _ _ h => h) (fun _ h => h.elim) ?aF ?aB ?aS ?aL ?_;(case aR => repeat (first|exact (Kd.C_below HR0_2.out HB.out)|(with_reducible refine Kd.C_alloc ?_ _)|(with_reducible refine Kd.C_drewN ?_ _)|(with_reducible refine Kd.C_drew ?_)));(case aB => exact (by repeat (first|(with_reducible first|exact HB.out|apply below_alloc|apply pw_below_drewN|apply below_drew1|refine below_set ?_ GE159.out|refine below_set ?_ GE160.out)|exact HB.out)));(case aF => exact (fun _ _ => trivial));(case aO => exact (by (with_reducible repeat (first|apply Kd.R_alloc|apply Kd.R_drewN|apply Kd.R_drew));exact HO169.out));(case aS => exact (below_size (by repeat (first|(with_reducible first|exact HB.out|apply below_alloc|apply pw_below_drewN|apply below_drew1|refine below_set ?_ GE159.out|refine below_set ?_ GE160.out)|exact HB.out))));(case aL => have:=LMc3.out;omega);intro v171 w16 ho hb hg hat;rw [← Ny170.out] at ho;have n0_:=Aside0.mk (blk_grown (g:=gb159) (o:=.cells #[.int .i64 a0_0,.slice Ao11 y164.length co11,.slice A0_2 l0_2.length c0_2,.int .i64 a0_3,.int .i64 a0_4] 25 (0,0)) (by (with_reducible repeat (first|refine blk_drewN ?_ _|refine blk_drew ?_|refine blk_alloc ?_ _));exact BK159.out) hg (Kd.R_ne HO169.out BK159.out (by decide)));have n1_:=Aside0.mk (blk_grown (g:=gb160) (o:=.cells #[.int .i64 0,.slice none 0 0,.slice none 0 0,.int .i64 0,.int .i64 0] 25 (0,0)) (by (with_reducible repeat (first|refine blk_drewN ?_ _|refine blk_drew ?_|refine blk_alloc ?_ _));exact BK160.out) hg (Kd.R_ne HO169.out BK160.out (by decide)));have n2_:=Aside0.mk (Kd.R_over' (by (with_reducible repeat (first|apply Kd.R_alloc|apply Kd.R_drewN|apply Kd.R_drew));exact HO166.out) (Kd.R_typed (by (with_reducible repeat (first|apply Kd.R_alloc|apply Kd.R_drewN|apply Kd.R_drew));exact HO169.out)) (by decide) hg);have n3_:=Aside0.mk (hb);have n4_:=Aside0.mk (ho);clear BK159;clear BK160;clear HO166;clear HB;clear HO169;have BK159:=n0_;have BK160:=n1_;have HO166:=n2_;have HB:=n3_;have HO172:=n4_;clear n0_ n1_ n2_ n3_ n4_;clear ho hb hg hat;obtain ⟨Ao17,co17,eo17⟩:=Kd.R_slice HO172.out;subst eo17;have hcz18_0 : w16.cell? ⟨gb159,0,none⟩ = some (.int .i64 a0_0):=(blk_cell BK159.out 0).trans rfl;have hcz18_1 : w16.cell? ⟨gb159,1,none⟩ = some (.slice Ao11 y164.length co11):=(blk_cell BK159.out 1).trans rfl;have hcz18_2 : w16.cell? ⟨gb159,2,none⟩ = some (.slice A0_2 l0_2.length c0_2):=(blk_cell BK159.out 2).trans rfl;have hcz18_3 : w16.cell? ⟨gb159,3,none⟩ = some (.int .i64 a0_3):=(blk_cell BK159.out 3).trans rfl;have hcz18_4 : w16.cell? ⟨gb159,4,none⟩ = some (.int .i64 a0_4):=(blk_cell BK159.out 4).trans rfl;have hfz18_0:=blk_frozen BK159.out 0;have hfz18_1:=blk_frozen BK159.out 1;have hfz18_2:=blk_frozen BK159.out 2;have hfz18_3:=blk_frozen BK159.out 3;have hfz18_4:=blk_frozen BK159.out 4;have hcz19_0 : w16.cell? ⟨gb160,0,none⟩ = some (.int .i64 0):=(blk_cell BK160.out 0).trans rfl;have hcz19_1 : w16.cell? ⟨gb160,1,none⟩ = some (.slice none 0 0):=(blk_cell BK160.out 1).trans rfl;have hcz19_2 : w16.cell? ⟨gb160,2,none⟩ = some (.slice none 0 0):=(blk_cell BK160.out 2).trans rfl;have hcz19_3 : w16.cell? ⟨gb160,3,none⟩ = some (.int .i64 0):=(blk_cell BK160.out 3).trans rfl;have hcz19_4 : w16.cell? ⟨gb160,4,none⟩ = some (.int .i64 0):=(blk_cell BK160.out 4).trans rfl;have hfz19_0:=blk_frozen BK160.out 0;have hfz19_1:=blk_frozen BK160.out 1;have hfz19_2:=blk_frozen BK160.out 2;have hfz19_3:=blk_frozen BK160.out 3;have hfz19_4:=blk_frozen BK160.out 4))
   refine bodyPost_ret (results_cell_row rfl _ _ gb160 25 #[.int .i64 a0_0,.slice Ao11 y164.length co11,.slice Ao17 y170.length co17,.int .i64 a0_3,.int .i64 a0_4] (0,0) _ rfl (by (with_reducible repeat (first|refine blk_drewN ?_ _|refine blk_drew ?_|refine blk_alloc ?_ _));refine blk_put (cs:=#[.int .i64 a0_0,.slice Ao11 y164.length co11,.slice Ao17 y170.length co17,.int .i64 a0_3,.int .i64 0]) ?_ 4 _ rfl;(with_reducible repeat (first|refine blk_drewN ?_ _|refine blk_drew ?_|refine blk_alloc ?_ _));refine blk_put (cs:=#[.int .i64 a0_0,.slice Ao11 y164.length co11,.slice Ao17 y170.length co17,.int .i64 0,.int .i64 0]) ?_ 3 _ rfl;(with_reducible repeat (first|refine blk_drewN ?_ _|refine blk_drew ?_|refine blk_alloc ?_ _));refine blk_put (cs:=#[.int .i64 a0_0,.slice Ao11 y164.length co11,.slice none 0 0,.int .i64 0,.int .i64 0]) ?_ 2 _ rfl;(with_reducible repeat (first|refine blk_drewN ?_ _|refine blk_drew ?_|refine blk_alloc ?_ _));refine blk_put (cs:=#[.int .i64 a0_0,.slice none 0 0,.slice none 0 0,.int .i64 0,.int .i64 0]) ?_ 1 _ rfl;(with_reducible repeat (first|refine blk_drewN ?_ _|refine blk_drew ?_|refine blk_alloc ?_ _));refine blk_put (cs:=#[.int .i64 0,.slice none 0 0,.slice none 0 0,.int .i64 0,.int .i64 0]) ?_ 0 _ rfl;(with_reducible repeat (first|refine blk_drewN ?_ _|refine blk_drew ?_|refine blk_alloc ?_ _));refine blk_far ?_ NB160_159.out _;(with_reducible repeat (first|refine blk_drewN ?_ _|refine blk_drew ?_|refine blk_alloc ?_ _));exact BK160.out) Try.underlying25 rfl (by kernel_rfl)) rfl ?_
   exact ⟨_,_,by first|rfl|(simp [errW_none,errW_some] <;> rfl)|(simp [*,errW_none,errW_some] <;> rfl),by (with_reducible repeat (first|apply Kd.R_alloc|apply Kd.R_drewN|apply Kd.R_drew));exact Kd.R_mono (Kd.R_far (p:=⟨gb160,4,none⟩) (Kd.R_far (p:=⟨gb160,3,none⟩) (Kd.R_far (p:=⟨gb160,2,none⟩) (Kd.R_far (p:=⟨gb160,1,none⟩) (Kd.R_far (p:=⟨gb160,0,none⟩) (Kd.R_far (p:=⟨gb159,2,none⟩) (Kd.R_types (Kd.R_types HO166.out BK159.out (by decide)) BK160.out (by decide)) (fun _ hk => hk.1.2) (.slice Ao17 y170.length co17)) (fun _ hk => hk.2) (.int .i64 a0_0)) (fun _ hk => hk.2) (.slice Ao11 y164.length co11)) (fun _ hk => hk.2) (.slice Ao17 y170.length co17)) (fun _ hk => hk.2) (.int .i64 a0_3)) (fun _ hk => hk.2) (.int .i64 a0_4)) (fun _ hk => trivial),by (with_reducible repeat (first|apply Kd.R_alloc|apply Kd.R_drewN|apply Kd.R_drew));exact Kd.R_mono (Kd.R_far (p:=⟨gb160,4,none⟩) (Kd.R_far (p:=⟨gb160,3,none⟩) (Kd.R_far (p:=⟨gb160,2,none⟩) (Kd.R_far (p:=⟨gb160,1,none⟩) (Kd.R_far (p:=⟨gb160,0,none⟩) (Kd.R_far (p:=⟨gb159,2,none⟩) (Kd.R_types (Kd.R_types HO172.out BK159.out (by decide)) BK160.out (by decide)) (fun _ hk => hk.1.2) (.slice Ao17 y170.length co17)) (fun _ hk => hk.2) (.int .i64 a0_0)) (fun _ hk => hk.2) (.slice Ao11 y164.length co11)) (fun _ hk => hk.2) (.slice Ao17 y170.length co17)) (fun _ hk => hk.2) (.int .i64 a0_3)) (fun _ hk => hk.2) (.int .i64 a0_4)) (fun _ hk => trivial),by repeat (first|(with_reducible first|exact HB.out|apply below_alloc|apply pw_below_drewN|apply below_drew1|refine below_set ?_ GE159.out|refine below_set ?_ GE160.out)|exact HB.out)⟩
  ·rw [if_neg c3] at H
   exact absurd H (by simp)
 ·rw [if_neg c2] at H
  exact absurd H (by simp)

/-! ### hinterlandref09_Out: function 51 -/
def hinterlandref09_Out.f (a0 : Int) (a1 : Int) : Option (Bool) := if a0 < 0 then (some true) else (some (decide (a0 > a1)))
set_option maxHeartbeats 8000000 in
set_option maxRecDepth 100000 in
theorem hinterlandref09_Out.calls (a0 : Int) (a1 : Int) (r : Bool) (w : World) (h : hinterlandref09_Out.f a0 a1 = some r) :
  Calls Try.prog 51 #[.int .i64 a0,.int .i64 a1] w fun e w' => e = .returned (.bool r) ∧ Drawn0 w w':=by
 have H : (if a0 < 0 then (some true) else (some (decide (a0 > a1)))) = some r:=h
 clear h
 by_cases c3 : a0 < 0
 ·rw [if_pos c3] at H
  have c3b0 : decide (a0 < 0) = true:=decide_eq_true c3
  clear c3
  obtain rfl:=Option.some.inj H
  go_enter Try.func51,Try.ntmps51
  go_wp2
  go_ret
  exact ⟨by first|rfl|(simp;done)|(simp [*];done),by repeat (first|exact Drawn0.refl _|apply Drawn0.step)⟩
 ·rw [if_neg c3] at H
  have c3b0 : decide (a0 < 0) = false:=decide_eq_false c3
  clear c3
  obtain rfl:=Option.some.inj H
  go_enter Try.func51,Try.ntmps51
  go_wp2
  go_ret
  exact ⟨by first|rfl|(simp;done)|(simp [*];done),by repeat (first|exact Drawn0.refl _|apply Drawn0.step)⟩

/-! ### hinterlandref11_moods: function 75 -/
def hinterlandref11_moods.l0 : Nat → Int → Int → List (S68) → List Int → Int → Int → Option (Bool)
 | 0,_,_,_,_,_,_ => none
 | k + 1,x3,x174000,x174001,x174002,x174003,x174004 => if x3 < (x174002.length : Int) then (if 0 ≤ x3 then (if (rd x174002 x3) < (-1000) then (some false) else (if (rd x174002 x3) > 1000 then (some false) else (hinterlandref11_moods.l0 k (wrap64 (x3 + 1)) x174000 x174001 x174002 x174003 x174004))) else (none)) else (some true)
def hinterlandref11_moods.f (k : Nat) (a0_0 : Int) (l0_1 : List (S68)) (l0_2 : List Int) (a0_3 : Int) (a0_4 : Int) : Option (Bool) := if (l0_2.length : Int) = 12 then (hinterlandref11_moods.l0 k 0 a0_0 l0_1 l0_2 a0_3 a0_4) else (some false)
theorem hinterlandref11_moods.mono_l : ∀ k, (∀ y0 y1 y2 y3 y4 y5, LeO (hinterlandref11_moods.l0 k y0 y1 y2 y3 y4 y5) (hinterlandref11_moods.l0 (k + 1) y0 y1 y2 y3 y4 y5))
 | 0 => fun _ _ _ _ _ _ r h => by simp [hinterlandref11_moods.l0] at h
 | k + 1 => by
  have ih0:=hinterlandref11_moods.mono_l k
  ·intro y0 y1 y2 y3 y4 y5
   unfold hinterlandref11_moods.l0
   repeat' first
   | (with_reducible exact ih0 _ _ _ _ _ _)
   | (with_reducible exact LeO.refl _)
   | (with_reducible exact LeO.none _)
   | (with_reducible refine LeO.ite ?_ ?_)
   | (with_reducible refine LeO.bind ?_ (fun _ => ?_))
   | exact ih0 _ _ _ _ _ _
   | exact LeO.none _
   | refine LeO.ite ?_ ?_
   | refine LeO.bind ?_ (fun _ => ?_)
theorem hinterlandref11_moods.mono : ∀ a0 a1 a2 a3 a4 k, LeO (hinterlandref11_moods.f k a0 a1 a2 a3 a4) (hinterlandref11_moods.f (k + 1) a0 a1 a2 a3 a4) := by
 intro a0 a1 a2 a3 a4 k
 have ih0:=hinterlandref11_moods.mono_l k
 unfold hinterlandref11_moods.f
 repeat' first
   | (with_reducible exact ih0 _ _ _ _ _ _)
   | (with_reducible exact LeO.refl _)
   | (with_reducible exact LeO.none _)
   | (with_reducible refine LeO.ite ?_ ?_)
   | (with_reducible refine LeO.bind ?_ (fun _ => ?_))
   | exact ih0 _ _ _ _ _ _
   | exact LeO.none _
   | refine LeO.ite ?_ ?_
   | refine LeO.bind ?_ (fun _ => ?_)
set_option maxHeartbeats 8000000 in
set_option maxRecDepth 100000 in
theorem hinterlandref11_moods.calls (k : Nat) (a0_0 : Int) (A0_1 : Option Addr) (c0_1 : Nat) (l0_1 : List (S68)) (A0_2 : Option Addr) (c0_2 : Nat) (l0_2 : List Int) (a0_3 : Int) (a0_4 : Int) (r : Bool) (w : World) (hr0_1 : Kd.C k68 w A0_1 l0_1.length l0_1) (hc0_1 : l0_1.length ≤ c0_1) (hr0_2 : Kd.C (Kd.int .i64) w A0_2 l0_2.length l0_2) (hc0_2 : l0_2.length ≤ c0_2) (h : hinterlandref11_moods.f k a0_0 l0_1 l0_2 a0_3 a0_4 = some r) :
  Calls Try.prog 75 #[.agg #[.int .i64 a0_0,.slice A0_1 l0_1.length c0_1,.slice A0_2 l0_2.length c0_2,.int .i64 a0_3,.int .i64 a0_4]] w fun e w' => e = .returned (.bool r) ∧ Below w.heap.size w w':=by
 have hu25:=Try.underlying25
 have HR0_1:=Aside0.mk hr0_1
 have HC0_1:=Aside0.mk hc0_1
 clear hr0_1 hc0_1
 have HR0_2:=Aside0.mk hr0_2
 have HC0_2:=Aside0.mk hc0_2
 clear hr0_2 hc0_2
 have HB:=Aside0.mk (Below.refl w.heap.size w)
 have H : (if (l0_2.length : Int) = 12 then (hinterlandref11_moods.l0 k 0 a0_0 l0_1 l0_2 a0_3 a0_4) else (some false)) = some r:=h
 clear h
 by_cases c2 : (l0_2.length : Int) = 12
 ·rw [if_pos c2] at H
  have c2b0 : ((l0_2.length : Int) == 12) = true:=beq_iff_eq.mpr c2
  have c2b1 : ((l0_2.length : Int) != 12) = false:=bne_eq_false_iff_eq.mpr c2
  clear c2
  have H':=Aside0.mk H
  clear H
  go_enter Try.func75,Try.ntmps75
  go_wp2_with (first|((with_reducible refine gate_dst (N:=1) rfl ?_);refine box_event ?hg (N:=1) ?hd (cs:=#[.int .i64 a0_0,.slice A0_1 l0_1.length c0_1,.slice A0_2 l0_2.length c0_2,.int .i64 a0_3,.int .i64 a0_4]) (t:=25) ?hr ?_;(case hd => rfl);(case hg => rfl);(case hr => first|(go_simp;done)|(go_simp;rfl));intro gb173 hg w3 hbox hb;have n0_:=Aside0.mk (below_step (by repeat (first|(with_reducible first|exact HB.out|apply below_alloc|apply pw_below_drewN|apply below_drew1)|exact HB.out)) hb);have n1_:=Aside0.mk (hbox);have n2_:=Aside0.mk ((by rw [hg];exact (below_size (by repeat (first|(with_reducible first|exact HB.out|apply below_alloc|apply pw_below_drewN|apply below_drew1)|exact HB.out))) : w.heap.size ≤ gb173));have n3_:=Aside0.mk ((by rw [hg];exact (below_size (by repeat (first|(with_reducible first|exact HB.out|apply below_alloc|apply pw_below_drewN|apply below_drew1)|exact HB.out))) : w.heap.size ≤ gb173));clear HB;have HB:=n0_;have BK173:=n1_;have GW173:=n2_;have GE173:=n3_;clear n0_ n1_ n2_ n3_;clear hb hbox hg;have hcz4_0 : w3.cell? ⟨gb173,0,none⟩ = some (.int .i64 a0_0):=(blk_cell BK173.out 0).trans rfl;have hcz4_1 : w3.cell? ⟨gb173,1,none⟩ = some (.slice A0_1 l0_1.length c0_1):=(blk_cell BK173.out 1).trans rfl;have hcz4_2 : w3.cell? ⟨gb173,2,none⟩ = some (.slice A0_2 l0_2.length c0_2):=(blk_cell BK173.out 2).trans rfl;have hcz4_3 : w3.cell? ⟨gb173,3,none⟩ = some (.int .i64 a0_3):=(blk_cell BK173.out 3).trans rfl;have hcz4_4 : w3.cell? ⟨gb173,4,none⟩ = some (.int .i64 a0_4):=(blk_cell BK173.out 4).trans rfl;have hfz4_0:=blk_frozen BK173.out 0;have hfz4_1:=blk_frozen BK173.out 1;have hfz4_2:=blk_frozen BK173.out 2;have hfz4_3:=blk_frozen BK173.out 3;have hfz4_4:=blk_frozen BK173.out 4))
  go_loopg [3] k (fun kq v3 w' => ∃ (x3_1 : Int),v3 = .int .i64 x3_1 ∧ Aside0 (hinterlandref11_moods.l0 kq x3_1 a0_0 l0_1 l0_2 a0_3 a0_4 = some r) ∧ Aside0 (kq ≤ k) ∧ Aside0 (w'.heap[gb173]? = some (.cells #[.int .i64 a0_0,(.slice A0_1 l0_1.length c0_1),(.slice A0_2 l0_2.length c0_2),.int .i64 a0_3,.int .i64 a0_4] 25 (0,0))) ∧ Aside0 (Below w.heap.size w w'))
  case atStart => exact ⟨(0),(by first|rfl|(simp;done)|(simp [*];done)),H',⟨Nat.le_refl _⟩,⟨by (with_reducible repeat (first|refine blk_drewN ?_ _|refine blk_drew ?_|refine blk_alloc ?_ _));exact BK173.out⟩,⟨by repeat (first|(with_reducible first|exact HB.out|apply below_alloc|apply pw_below_drewN|apply below_drew1|refine below_set ?_ GE173.out)|exact HB.out)⟩⟩
  case round =>
   clear H'
   try clear c2
   try clear c2b0
   try clear c2b1
   try clear p2
   try clear hcz4_0
   try clear hcz4_1
   try clear hcz4_2
   try clear hcz4_3
   try clear hcz4_4
   try clear hfz4_0
   try clear hfz4_1
   try clear hfz4_2
   try clear hfz4_3
   try clear hfz4_4
   obtain ⟨x3_1,rfl,HA,HK1,BK173,HB⟩:=hrel
   cases gk with
   | zero => exact absurd HA.out (by simp [hinterlandref11_moods.l0])
   | succ k1 =>
    have H:=HA.out
    clear HA
    simp only [hinterlandref11_moods.l0] at H
    by_cases c5 : x3_1 < (l0_2.length : Int)
    ·rw [if_pos c5] at H
     have c5b0 : decide (x3_1 < (l0_2.length : Int)) = true:=decide_eq_true c5
     clear c5
     by_cases c6 : 0 ≤ x3_1
     ·rw [if_pos c6] at H
      have c6b0 : decide (0 ≤ x3_1) = true:=decide_eq_true c6
      clear c6
      by_cases c7 : (rd l0_2 x3_1) < (-1000)
      ·rw [if_pos c7] at H
       have c7b0 : decide ((rd l0_2 x3_1) < (-1000)) = true:=decide_eq_true c7
       clear c7
       obtain rfl:=Option.some.inj H
       have hcz8_0 : wr.cell? ⟨gb173,0,none⟩ = some (.int .i64 a0_0):=(blk_cell BK173.out 0).trans rfl
       have hcz8_1 : wr.cell? ⟨gb173,1,none⟩ = some (.slice A0_1 l0_1.length c0_1):=(blk_cell BK173.out 1).trans rfl
       have hcz8_2 : wr.cell? ⟨gb173,2,none⟩ = some (.slice A0_2 l0_2.length c0_2):=(blk_cell BK173.out 2).trans rfl
       have hcz8_3 : wr.cell? ⟨gb173,3,none⟩ = some (.int .i64 a0_3):=(blk_cell BK173.out 3).trans rfl
       have hcz8_4 : wr.cell? ⟨gb173,4,none⟩ = some (.int .i64 a0_4):=(blk_cell BK173.out 4).trans rfl
       have hfz8_0:=blk_frozen BK173.out 0
       have hfz8_1:=blk_frozen BK173.out 1
       have hfz8_2:=blk_frozen BK173.out 2
       have hfz8_3:=blk_frozen BK173.out 3
       have hfz8_4:=blk_frozen BK173.out 4
       have p174 : 0 ≤ (x3_1 : Int):=of_decide_eq_true (by first|(with_reducible assumption)|assumption)
       have q174 : x3_1 < (l0_2.length : Int):=of_decide_eq_true (by first|(with_reducible assumption)|assumption)
       obtain ⟨ad174,e174,hx174_0⟩:=Kd.at_int HR0_2.out x3_1 p174 q174
       cases e174
       replace hx174_0:=(HB.out.cell (World.block_lt_of_cell? w _ hx174_0)).trans hx174_0
       replace p174:=eq_true p174
       replace q174:=eq_true q174
       go_wp2
       go_ret
       exact ⟨by first|rfl|(simp [errW_none,errW_some] <;> rfl)|(simp [*,errW_none,errW_some] <;> rfl),by repeat (first|(with_reducible first|exact HB.out|apply below_alloc|apply pw_below_drewN|apply below_drew1|refine below_set ?_ GE173.out)|exact HB.out)⟩
      ·rw [if_neg c7] at H
       have c7b0 : decide ((rd l0_2 x3_1) < (-1000)) = false:=decide_eq_false c7
       clear c7
       by_cases c9 : (rd l0_2 x3_1) > 1000
       ·rw [if_pos c9] at H
        have c9b0 : decide (1000 < (rd l0_2 x3_1)) = true:=decide_eq_true c9
        clear c9
        obtain rfl:=Option.some.inj H
        have hcz10_0 : wr.cell? ⟨gb173,0,none⟩ = some (.int .i64 a0_0):=(blk_cell BK173.out 0).trans rfl
        have hcz10_1 : wr.cell? ⟨gb173,1,none⟩ = some (.slice A0_1 l0_1.length c0_1):=(blk_cell BK173.out 1).trans rfl
        have hcz10_2 : wr.cell? ⟨gb173,2,none⟩ = some (.slice A0_2 l0_2.length c0_2):=(blk_cell BK173.out 2).trans rfl
        have hcz10_3 : wr.cell? ⟨gb173,3,none⟩ = some (.int .i64 a0_3):=(blk_cell BK173.out 3).trans rfl
        have hcz10_4 : wr.cell? ⟨gb173,4,none⟩ = some (.int .i64 a0_4):=(blk_cell BK173.out 4).trans rfl
        have hfz10_0:=blk_frozen BK173.out 0
        have hfz10_1:=blk_frozen BK173.out 1
        have hfz10_2:=blk_frozen BK173.out 2
        have hfz10_3:=blk_frozen BK173.out 3
        have hfz10_4:=blk_frozen BK173.out 4
        have p174 : 0 ≤ (x3_1 : Int):=of_decide_eq_true (by first|(with_reducible assumption)|assumption)
        have q174 : x3_1 < (l0_2.length : Int):=of_decide_eq_true (by first|(with_reducible assumption)|assumption)
        obtain ⟨ad174,e174,hx174_0⟩:=Kd.at_int HR0_2.out x3_1 p174 q174
        cases e174
        replace hx174_0:=(HB.out.cell (World.block_lt_of_cell? w _ hx174_0)).trans hx174_0
        replace p174:=eq_true p174
        replace q174:=eq_true q174
        have p175 : 0 ≤ (x3_1 : Int):=of_decide_eq_true (by first|(with_reducible assumption)|assumption)
        have q175 : x3_1 < (l0_2.length : Int):=of_decide_eq_true (by first|(with_reducible assumption)|assumption)
        obtain ⟨ad175,e175,hx175_0⟩:=Kd.at_int HR0_2.out x3_1 p175 q175
        obtain rfl : ad174 = ad175:=(by injection e175)
        replace hx175_0:=(HB.out.cell (World.block_lt_of_cell? w _ hx175_0)).trans hx175_0
        replace p175:=eq_true p175
        replace q175:=eq_true q175
        go_wp2
        go_ret
        exact ⟨by first|rfl|(simp [errW_none,errW_some] <;> rfl)|(simp [*,errW_none,errW_some] <;> rfl),by repeat (first|(with_reducible first|exact HB.out|apply below_alloc|apply pw_below_drewN|apply below_drew1|refine below_set ?_ GE173.out)|exact HB.out)⟩
       ·rw [if_neg c9] at H
        have c9b0 : decide (1000 < (rd l0_2 x3_1)) = false:=decide_eq_false c9
        clear c9
        have H':=Aside0.mk H
        clear H
        have hcz11_0 : wr.cell? ⟨gb173,0,none⟩ = some (.int .i64 a0_0):=(blk_cell BK173.out 0).trans rfl
        have hcz11_1 : wr.cell? ⟨gb173,1,none⟩ = some (.slice A0_1 l0_1.length c0_1):=(blk_cell BK173.out 1).trans rfl
        have hcz11_2 : wr.cell? ⟨gb173,2,none⟩ = some (.slice A0_2 l0_2.length c0_2):=(blk_cell BK173.out 2).trans rfl
        have hcz11_3 : wr.cell? ⟨gb173,3,none⟩ = some (.int .i64 a0_3):=(blk_cell BK173.out 3).trans rfl
        have hcz11_4 : wr.cell? ⟨gb173,4,none⟩ = some (.int .i64 a0_4):=(blk_cell BK173.out 4).trans rfl
        have hfz11_0:=blk_frozen BK173.out 0
        have hfz11_1:=blk_frozen BK173.out 1
        have hfz11_2:=blk_frozen BK173.out 2
        have hfz11_3:=blk_frozen BK173.out 3
        have hfz11_4:=blk_frozen BK173.out 4
        have p174 : 0 ≤ (x3_1 : Int):=of_decide_eq_true (by first|(with_reducible assumption)|assumption)
        have q174 : x3_1 < (l0_2.length : Int):=of_decide_eq_true (by first|(with_reducible assumption)|assumption)
        obtain ⟨ad174,e174,hx174_0⟩:=Kd.at_int HR0_2.out x3_1 p174 q174
        cases e174
        replace hx174_0:=(HB.out.cell (World.block_lt_of_cell? w _ hx174_0)).trans hx174_0
        replace p174:=eq_true p174
        replace q174:=eq_true q174
        have p175 : 0 ≤ (x3_1 : Int):=of_decide_eq_true (by first|(with_reducible assumption)|assumption)
        have q175 : x3_1 < (l0_2.length : Int):=of_decide_eq_true (by first|(with_reducible assumption)|assumption)
        obtain ⟨ad175,e175,hx175_0⟩:=Kd.at_int HR0_2.out x3_1 p175 q175
        obtain rfl : ad174 = ad175:=(by injection e175)
        replace hx175_0:=(HB.out.cell (World.block_lt_of_cell? w _ hx175_0)).trans hx175_0
        replace p175:=eq_true p175
        replace q175:=eq_true q175
        go_wp2
        go_roundg k1
        case measure => have:=HK1.out;omega
        case rel => exact ⟨(wrap64 (x3_1 + 1)),(by first|rfl|(simp;done)|(simp [*];done)),H',⟨by have:=HK1.out;omega⟩,⟨by (with_reducible repeat (first|refine blk_drewN ?_ _|refine blk_drew ?_|refine blk_alloc ?_ _));exact BK173.out⟩,⟨by repeat (first|(with_reducible first|exact HB.out|apply below_alloc|apply pw_below_drewN|apply below_drew1|refine below_set ?_ GE173.out)|exact HB.out)⟩⟩
     ·rw [if_neg c6] at H
      exact absurd H (by simp)
    ·rw [if_neg c5] at H
     have c5b0 : decide (x3_1 < (l0_2.length : Int)) = false:=decide_eq_false c5
     clear c5
     obtain rfl:=Option.some.inj H
     have hcz12_0 : wr.cell? ⟨gb173,0,none⟩ = some (.int .i64 a0_0):=(blk_cell BK173.out 0).trans rfl
     have hcz12_1 : wr.cell? ⟨gb173,1,none⟩ = some (.slice A0_1 l0_1.length c0_1):=(blk_cell BK173.out 1).trans rfl
     have hcz12_2 : wr.cell? ⟨gb173,2,none⟩ = some (.slice A0_2 l0_2.length c0_2):=(blk_cell BK173.out 2).trans rfl
     have hcz12_3 : wr.cell? ⟨gb173,3,none⟩ = some (.int .i64 a0_3):=(blk_cell BK173.out 3).trans rfl
     have hcz12_4 : wr.cell? ⟨gb173,4,none⟩ = some (.int .i64 a0_4):=(blk_cell BK173.out 4).trans rfl
     have hfz12_0:=blk_frozen BK173.out 0
     have hfz12_1:=blk_frozen BK173.out 1
     have hfz12_2:=blk_frozen BK173.out 2
     have hfz12_3:=blk_frozen BK173.out 3
     have hfz12_4:=blk_frozen BK173.out 4
     go_wp2
     go_ret
     exact ⟨by first|rfl|(simp [errW_none,errW_some] <;> rfl)|(simp [*,errW_none,errW_some] <;> rfl),by repeat (first|(with_reducible first|exact HB.out|apply below_alloc|apply pw_below_drewN|apply below_drew1|refine below_set ?_ GE173.out)|exact HB.out)⟩
 ·rw [if_neg c2] at H
  have c2b0 : ((l0_2.length : Int) == 12) = false:=beq_eq_false_iff_ne.mpr c2
  have c2b1 : ((l0_2.length : Int) != 12) = true:=bne_iff_ne.mpr c2
  obtain rfl:=Option.some.inj H
  go_enter Try.func75,Try.ntmps75
  go_wp2_with (first|((with_reducible refine gate_dst (N:=1) rfl ?_);refine box_event ?hg (N:=1) ?hd (cs:=#[.int .i64 a0_0,.slice A0_1 l0_1.length c0_1,.slice A0_2 l0_2.length c0_2,.int .i64 a0_3,.int .i64 a0_4]) (t:=25) ?hr ?_;(case hd => rfl);(case hg => rfl);(case hr => first|(go_simp;done)|(go_simp;rfl));intro gb173 hg w13 hbox hb;have n0_:=Aside0.mk (below_step (by repeat (first|(with_reducible first|exact HB.out|apply below_alloc|apply pw_below_drewN|apply below_drew1)|exact HB.out)) hb);have n1_:=Aside0.mk (hbox);have n2_:=Aside0.mk ((by rw [hg];exact (below_size (by repeat (first|(with_reducible first|exact HB.out|apply below_alloc|apply pw_below_drewN|apply below_drew1)|exact HB.out))) : w.heap.size ≤ gb173));have n3_:=Aside0.mk ((by rw [hg];exact (below_size (by repeat (first|(with_reducible first|exact HB.out|apply below_alloc|apply pw_below_drewN|apply below_drew1)|exact HB.out))) : w.heap.size ≤ gb173));clear HB;have HB:=n0_;have BK173:=n1_;have GW173:=n2_;have GE173:=n3_;clear n0_ n1_ n2_ n3_;clear hb hbox hg;have hcz14_0 : w13.cell? ⟨gb173,0,none⟩ = some (.int .i64 a0_0):=(blk_cell BK173.out 0).trans rfl;have hcz14_1 : w13.cell? ⟨gb173,1,none⟩ = some (.slice A0_1 l0_1.length c0_1):=(blk_cell BK173.out 1).trans rfl;have hcz14_2 : w13.cell? ⟨gb173,2,none⟩ = some (.slice A0_2 l0_2.length c0_2):=(blk_cell BK173.out 2).trans rfl;have hcz14_3 : w13.cell? ⟨gb173,3,none⟩ = some (.int .i64 a0_3):=(blk_cell BK173.out 3).trans rfl;have hcz14_4 : w13.cell? ⟨gb173,4,none⟩ = some (.int .i64 a0_4):=(blk_cell BK173.out 4).trans rfl;have hfz14_0:=blk_frozen BK173.out 0;have hfz14_1:=blk_frozen BK173.out 1;have hfz14_2:=blk_frozen BK173.out 2;have hfz14_3:=blk_frozen BK173.out 3;have hfz14_4:=blk_frozen BK173.out 4))
  go_ret
  exact ⟨by first|rfl|(simp [errW_none,errW_some] <;> rfl)|(simp [*,errW_none,errW_some] <;> rfl),by repeat (first|(with_reducible first|exact HB.out|apply below_alloc|apply pw_below_drewN|apply below_drew1|refine below_set ?_ GE173.out)|exact HB.out)⟩

end Go.Proofs.Ytbdijpjlgokfkaa.P

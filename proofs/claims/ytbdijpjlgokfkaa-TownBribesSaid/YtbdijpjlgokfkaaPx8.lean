/- Functions of this seat as plain Lean functions, with proofs that the Go code comes to just their answers, or what stands between them and a law's statement; no conditions. (Laid by a program of this session, out of the kit's print.) -/
import Derived.Test.YtbdijpjlgokfkaaPx0
import Derived.Test.YtbdijpjlgokfkaaPx2
import Derived.Test.YtbdijpjlgokfkaaPx7
namespace Go.Proofs.Ytbdijpjlgokfkaa.P
open Go.RowKit Go.Proofs.YtbdijpjlgokfkaaW.PrintWords Go.Proofs.YtbdijpjlgokfkaaW.PrintLast Go.Proofs.YtbdijpjlgokfkaaW.PrintMore
attribute [local go_sem] max2_int min2_int max_two min_two max_three min_three max_four min_four   -- for this text's walks alone
set_option linter.unusedVariables false
set_option linter.unusedSimpArgs false

attribute [local go_sem high] eqA68
/-! ### hinterlandlaw11_known: function 14 -/
def hinterlandlaw11_known.f (k : Nat)  : Option (Bool) := if 12 ≤ 35184372088832 then ((some (List.replicate 12 0 : List Int)).bind fun y135 => (if 0 < (y135.length : Int) then ((town_Month.f k 0 ([] : List (S68)) (y135.set (0 : Int).toNat 95) 0 0).bind fun bt140 => (if bt140.2.2.2.2.2 = 0 then (if (bt140.2.2.1.length : Int) = 12 then (if 0 < (bt140.2.2.1.length : Int) then (some ((rd bt140.2.2.1 0) == 86)) else (none)) else (some false)) else (some false))) else (none))) else (none)
theorem hinterlandlaw11_known.mono : ∀ k, LeO (hinterlandlaw11_known.f k ) (hinterlandlaw11_known.f (k + 1) ) := by
 intro  k
 unfold hinterlandlaw11_known.f
 repeat' first
   | (with_reducible exact town_Month.mono _ _ _ _ _ _)
   | (with_reducible exact LeO.refl _)
   | (with_reducible exact LeO.none _)
   | (with_reducible refine LeO.ite ?_ ?_)
   | (with_reducible refine LeO.bind ?_ (fun _ => ?_))
   | exact town_Month.mono _ _ _ _ _ _
   | exact LeO.none _
   | refine LeO.ite ?_ ?_
   | refine LeO.bind ?_ (fun _ => ?_)
set_option maxHeartbeats 8000000 in
set_option maxRecDepth 100000 in
theorem hinterlandlaw11_known.calls (k : Nat)  (r : Bool) (w : World) (h : hinterlandlaw11_known.f k  = some r) :
  Calls Try.prog 14 #[] w fun e w' => e = .returned (.bool r) ∧ Below w.heap.size w w':=by
 have hu25:=Try.underlying25
 have HB:=Aside0.mk (Below.refl w.heap.size w)
 have H : (if 12 ≤ 35184372088832 then ((some (List.replicate 12 0 : List Int)).bind fun y135 => (if 0 < (y135.length : Int) then ((town_Month.f k 0 ([] : List (S68)) (y135.set (0 : Int).toNat 95) 0 0).bind fun bt140 => (if bt140.2.2.2.2.2 = 0 then (if (bt140.2.2.1.length : Int) = 12 then (if 0 < (bt140.2.2.1.length : Int) then (some ((rd bt140.2.2.1 0) == 86)) else (none)) else (some false)) else (some false))) else (none))) else (none)) = some r:=h
 clear h
 by_cases c1 : 12 ≤ 35184372088832
 ·rw [if_pos c1] at H
  have c1b0:=eq_true c1
  have c1b1 : decide (12 ≤ 35184372088832) = true:=decide_eq_true c1
  clear c1
  obtain ⟨y135,hy135⟩ : ∃ y_ : List Int,y_ = (List.replicate 12 0):=⟨_,rfl⟩
  replace H : (if 0 < (y135.length : Int) then ((town_Month.f k 0 ([] : List (S68)) (y135.set (0 : Int).toNat 95) 0 0).bind fun bt140 => (if bt140.2.2.2.2.2 = 0 then (if (bt140.2.2.1.length : Int) = 12 then (if 0 < (bt140.2.2.1.length : Int) then (some ((rd bt140.2.2.1 0) == 86)) else (none)) else (some false)) else (some false))) else (none)) = some r:=by first|(rw [hy135];with_reducible exact H)|(have H2_:=(Option.bind_some _ _).symm.trans H;rw [hy135];with_reducible exact H2_)|(have H2_:=(Option.bind_some _ _).symm.trans H;with_reducible exact H2_)|with_reducible exact H|(rw [hy135];exact H)|exact H
  have Ny135:=Aside0.mk hy135
  clear hy135
  by_cases c2 : 0 < (y135.length : Int)
  ·rw [if_pos c2] at H
   have c2b0 : decide (0 < (y135.length : Int)) = true:=decide_eq_true c2
   have c2b1 : decide (0 < y135.length) = true:=decide_eq_true (by omega)
   clear c2
   obtain ⟨y139,hy139⟩ : ∃ y_ : List Int,y_ = (y135.set (0 : Int).toNat 95):=⟨_,rfl⟩
   replace H : ((town_Month.f k 0 ([] : List (S68)) y139 0 0).bind fun bt140 => (if bt140.2.2.2.2.2 = 0 then (if (bt140.2.2.1.length : Int) = 12 then (if 0 < (bt140.2.2.1.length : Int) then (some ((rd bt140.2.2.1 0) == 86)) else (none)) else (some false)) else (some false))) = some r:=by first|(rw [hy139];with_reducible exact H)|(have H2_:=(Option.bind_some _ _).symm.trans H;rw [hy139];with_reducible exact H2_)|(have H2_:=(Option.bind_some _ _).symm.trans H;with_reducible exact H2_)|with_reducible exact H|(rw [hy139];exact H)|exact H
   have Ny139:=Aside0.mk hy139
   clear hy139
   replace H:=Option.bind_eq_some_iff.mp H
   obtain ⟨⟨t140,t141,t144,t147,t148,t149⟩,A40,H⟩:=H
   replace H : (if t149 = 0 then (if (t144.length : Int) = 12 then (if 0 < (t144.length : Int) then (some ((rd t144 0) == 86)) else (none)) else (some false)) else (some false)) = some r:=H
   have A4:=Aside0.mk A40
   clear A40
   by_cases c5 : t149 = 0
   ·rw [if_pos c5] at H
    have c5b0 : (t149 == 0) = true:=beq_iff_eq.mpr c5
    have c5b1 : (t149 != 0) = false:=bne_eq_false_iff_eq.mpr c5
    clear c5
    by_cases c6 : (t144.length : Int) = 12
    ·rw [if_pos c6] at H
     have c6b0 : ((t144.length : Int) == 12) = true:=beq_iff_eq.mpr c6
     have c6b1 : ((t144.length : Int) != 12) = false:=bne_eq_false_iff_eq.mpr c6
     clear c6
     by_cases c7 : 0 < (t144.length : Int)
     ·rw [if_pos c7] at H
      have c7b0 : decide (0 < (t144.length : Int)) = true:=decide_eq_true c7
      have c7b1 : decide (0 < t144.length) = true:=decide_eq_true (by omega)
      clear c7
      obtain rfl:=Option.some.inj H
      go_enter Try.func14,Try.ntmps14
      go_wp2_with (first|((with_reducible refine gate_dst (N:=3) rfl ?_);(try (refine gate_guard (by rfl) ?_;dsimp only));refine Kd.R_make (Kd.int .i64) _ 3 rfl (N:=3) rfl 23 _ _ rfl 12 rfl rfl Try.underlying23 (.int .i64 0) 8 info3 rfl (by decide) (by omega) 0 (ok:=fun _ => True) (okp:=fun _ => True) rfl (fun _ hk => hk) trivial (by omega) (by omega) (Below.refl _ _) (Nat.le_refl _) ?_;intro v136 w8 ho9 hb hg_ hnew_;clear hg_ hnew_;(first|rw [← Ny135.out] at ho9|(simp only [Int.reduceToNat] at ho9;rw [← Ny135.out] at ho9));have n0_:=Aside0.mk (Kd.R_lower ho9 (below_size (by repeat (first|(with_reducible first|exact HB.out|apply below_alloc|apply pw_below_drewN|apply below_drew1)|exact HB.out))));have n1_:=Aside0.mk (below_step (by repeat (first|(with_reducible first|exact HB.out|apply below_alloc|apply pw_below_drewN|apply below_drew1)|exact HB.out)) hb);clear HB;have HO137:=n0_;have HB:=n1_;clear n0_ n1_;clear hb ho9;obtain ⟨Ao10,co10,eo10⟩:=Kd.R_slice HO137.out;subst eo10)|((with_reducible refine gate_dst (N:=1) rfl ?_);(try (refine gate_guard (by rfl) ?_;dsimp only));refine box_event ?hg (N:=1) ?hd (cs:=#[.int .i64 0,.slice none 0 0,.slice none 0 0,.int .i64 0,.int .i64 0]) (t:=25) ?hr ?_;(case hd => rfl);(case hg => rfl);(case hr => first|(go_simp;done)|(go_simp;rfl));intro gb138 hg w11 hbox hb;have n0_:=Aside0.mk (Kd.R_below (by (with_reducible repeat (first|apply Kd.R_alloc|apply Kd.R_drewN|apply Kd.R_drew));exact HO137.out) hb);have n1_:=Aside0.mk (below_step (by repeat (first|(with_reducible first|exact HB.out|apply below_alloc|apply pw_below_drewN|apply below_drew1)|exact HB.out)) hb);have n2_:=Aside0.mk (hbox);have n3_:=Aside0.mk ((by rw [hg];exact (below_size (by repeat (first|(with_reducible first|exact HB.out|apply below_alloc|apply pw_below_drewN|apply below_drew1)|exact HB.out))) : w.heap.size ≤ gb138));have n4_:=Aside0.mk ((by rw [hg];exact (below_size (by repeat (first|(with_reducible first|exact HB.out|apply below_alloc|apply pw_below_drewN|apply below_drew1)|exact HB.out))) : w.heap.size ≤ gb138));clear HO137;clear HB;have HO137:=n0_;have HB:=n1_;have BK138:=n2_;have GW138:=n3_;have GE138:=n4_;clear n0_ n1_ n2_ n3_ n4_;clear hb hbox hg;have hcz12_0 : w11.cell? ⟨gb138,0,none⟩ = some (.int .i64 0):=(blk_cell BK138.out 0).trans rfl;have hcz12_1 : w11.cell? ⟨gb138,1,none⟩ = some (.slice none 0 0):=(blk_cell BK138.out 1).trans rfl;have hcz12_2 : w11.cell? ⟨gb138,2,none⟩ = some (.slice none 0 0):=(blk_cell BK138.out 2).trans rfl;have hcz12_3 : w11.cell? ⟨gb138,3,none⟩ = some (.int .i64 0):=(blk_cell BK138.out 3).trans rfl;have hcz12_4 : w11.cell? ⟨gb138,4,none⟩ = some (.int .i64 0):=(blk_cell BK138.out 4).trans rfl;have hfz12_0:=blk_frozen BK138.out 0;have hfz12_1:=blk_frozen BK138.out 1;have hfz12_2:=blk_frozen BK138.out 2;have hfz12_3:=blk_frozen BK138.out 3;have hfz12_4:=blk_frozen BK138.out 4)|((with_reducible refine gate_store (t:=25) (p:=1) rfl ?_);refine store_event (t:=25) (p:=1) (v:=?vo_w13) (w1:=(((((w11.setCell ⟨gb138,0,none⟩ (.int .i64 0)).setCell ⟨gb138,1,none⟩ (.slice none 0 0)).setCell ⟨gb138,2,none⟩ (.slice Ao10 y135.length co10)).setCell ⟨gb138,3,none⟩ (.int .i64 0)).setCell ⟨gb138,4,none⟩ (.int .i64 0))) ?hg ?ho ?hn ?hr ?_;(case ho => rfl);(case hg => rfl);(case hn => rfl);(case hr => first|(go_simp;done)|(go_simp;rfl));intro w13 hw;have n0_ : Aside0 (Kd.R (Kd.int .i64) 3 w13 w.heap.size (fun _ => True) (.slice Ao10 y135.length co10) y135):=⟨(by rw [hw];exact (by (with_reducible repeat (first|apply Kd.R_alloc|apply Kd.R_drewN|apply Kd.R_drew));exact Kd.R_mono (Kd.R_far (p:=⟨gb138,4,none⟩) (Kd.R_far (p:=⟨gb138,3,none⟩) (Kd.R_far (p:=⟨gb138,2,none⟩) (Kd.R_far (p:=⟨gb138,1,none⟩) (Kd.R_far (p:=⟨gb138,0,none⟩) (Kd.R_types HO137.out BK138.out (by decide)) (fun _ hk => hk.2) (.int .i64 0)) (fun _ hk => hk.2) (.slice none 0 0)) (fun _ hk => hk.2) (.slice Ao10 y135.length co10)) (fun _ hk => hk.2) (.int .i64 0)) (fun _ hk => hk.2) (.int .i64 0)) (fun _ hk => trivial)))⟩;have n1_ : Aside0 (w13.heap[gb138]? = some (.cells #[.int .i64 0,.slice none 0 0,.slice Ao10 y135.length co10,.int .i64 0,.int .i64 0] 25 (0,0))):=⟨(by rw [hw];exact (by (with_reducible repeat (first|refine blk_drewN ?_ _|refine blk_drew ?_|refine blk_alloc ?_ _));refine blk_put (cs:=#[.int .i64 0,.slice none 0 0,.slice Ao10 y135.length co10,.int .i64 0,.int .i64 0]) ?_ 4 _ rfl;(with_reducible repeat (first|refine blk_drewN ?_ _|refine blk_drew ?_|refine blk_alloc ?_ _));refine blk_put (cs:=#[.int .i64 0,.slice none 0 0,.slice Ao10 y135.length co10,.int .i64 0,.int .i64 0]) ?_ 3 _ rfl;(with_reducible repeat (first|refine blk_drewN ?_ _|refine blk_drew ?_|refine blk_alloc ?_ _));refine blk_put (cs:=#[.int .i64 0,.slice none 0 0,.slice none 0 0,.int .i64 0,.int .i64 0]) ?_ 2 _ rfl;(with_reducible repeat (first|refine blk_drewN ?_ _|refine blk_drew ?_|refine blk_alloc ?_ _));refine blk_put (cs:=#[.int .i64 0,.slice none 0 0,.slice none 0 0,.int .i64 0,.int .i64 0]) ?_ 1 _ rfl;(with_reducible repeat (first|refine blk_drewN ?_ _|refine blk_drew ?_|refine blk_alloc ?_ _));refine blk_put (cs:=#[.int .i64 0,.slice none 0 0,.slice none 0 0,.int .i64 0,.int .i64 0]) ?_ 0 _ rfl;(with_reducible repeat (first|refine blk_drewN ?_ _|refine blk_drew ?_|refine blk_alloc ?_ _));exact BK138.out))⟩;have n2_ : Aside0 (Below w.heap.size w w13):=⟨(by rw [hw];exact (by repeat (first|(with_reducible first|exact HB.out|apply below_alloc|apply pw_below_drewN|apply below_drew1|refine below_set ?_ GE138.out)|exact HB.out)))⟩;clear hw;clear HO137;clear BK138;clear HB;have HO137:=n0_;have BK138:=n1_;have HB:=n2_;clear n0_ n1_ n2_;have hcz14_0 : w13.cell? ⟨gb138,0,none⟩ = some (.int .i64 0):=(blk_cell BK138.out 0).trans rfl;have hcz14_1 : w13.cell? ⟨gb138,1,none⟩ = some (.slice none 0 0):=(blk_cell BK138.out 1).trans rfl;have hcz14_2 : w13.cell? ⟨gb138,2,none⟩ = some (.slice Ao10 y135.length co10):=(blk_cell BK138.out 2).trans rfl;have hcz14_3 : w13.cell? ⟨gb138,3,none⟩ = some (.int .i64 0):=(blk_cell BK138.out 3).trans rfl;have hcz14_4 : w13.cell? ⟨gb138,4,none⟩ = some (.int .i64 0):=(blk_cell BK138.out 4).trans rfl;have hfz14_0:=blk_frozen BK138.out 0;have hfz14_1:=blk_frozen BK138.out 1;have hfz14_2:=blk_frozen BK138.out 2;have hfz14_3:=blk_frozen BK138.out 3;have hfz14_4:=blk_frozen BK138.out 4;have p3 : 0 ≤ (0 : Int):=(by omega);have q3 : (0 : Int) < ((y135.length : Int) : Int):=of_decide_eq_true (by first|(with_reducible assumption)|assumption);have qi3 : (0 < y135.length) = True:=eq_true (by omega);obtain ⟨go3,co3,eo3,gb3,gl3,cl3,HG3⟩:=Kd.R_form HO137.out (by omega);(first|cases eo3|(injection eo3 with ea_ en_ ec_;(first|subst ea_|(injection ea_ with ea_;subst ea_));subst ec_;clear en_));have GB3:=Aside0.mk gb3;have GG3:=Aside0.mk HG3;clear gb3 gl3 HG3;obtain ⟨hx3_0,hf3_0⟩:=Kd.R_celln 0 HO137.out (0 : Int) p3 q3;(try rw [show ((0 : Int)).toNat = 0 from rfl] at hx3_0);(try simp only [Nat.reduceMul,Nat.zero_mul,Nat.zero_add,Nat.reduceAdd] at hx3_0);(try rw [show ((0 : Int)).toNat = 0 from rfl] at hf3_0);(try simp only [Nat.reduceMul,Nat.zero_mul,Nat.zero_add,Nat.reduceAdd] at hf3_0);replace p3:=eq_true p3;replace q3:=eq_true q3;obtain ⟨hy15_,hz15_⟩:=Kd.R_celln 0 HO137.out (0 : Int) (by omega) (of_decide_eq_true (by first|(with_reducible assumption)|assumption));(try simp only [Int.reduceToNat,Int.toNat_zero,Int.toNat_ofNat,Nat.reduceMul,Nat.zero_mul,Nat.zero_add] at hy15_ hz15_);(try rw [show ((0 : Int)).toNat = 0 from rfl] at hy15_);(try rw [show ((0 : Int)).toNat = 0 from rfl] at hz15_);have HP15:=Kd.R_putg HO137.out (0 : Int) 95)|((with_reducible refine gate_store (t:=3) (p:=7) rfl ?_);refine store_event (t:=3) (p:=7) (v:=?vo_w16) (w1:=(w13.setCell ⟨go3,(0 : Int).toNat,none⟩ (.int .i64 95))) ?hg ?ho ?hn ?hr ?_;(case ho => rfl);(case hg => rfl);(case hn => rfl);(case hr => first|(go_simp;done)|(go_simp;rfl));intro w16 hw;have hg : w13.grownBy w16 (some go3):=(by rw [hw];exact HP15.2);have hp_ : Kd.R (Kd.int .i64) 3 w16 w.heap.size (fun _ => True) (.slice (some ⟨go3,0,none⟩) y135.length co10) y139:=(by rw [hw,Ny139.out];exact HP15.1);clear HP15;have n0_:=Aside0.mk (hp_);have n1_:=Aside0.mk (blk_grown (g:=gb138) (o:=.cells #[.int .i64 0,.slice none 0 0,.slice (some ⟨go3,0,none⟩) y135.length co10,.int .i64 0,.int .i64 0] 25 (0,0)) (by (with_reducible repeat (first|refine blk_drewN ?_ _|refine blk_drew ?_|refine blk_alloc ?_ _));exact BK138.out) hg (Kd.R_ne HO137.out BK138.out (by decide)));have n2_:=Aside0.mk ((by rw [hw];exact below_set (HB.out) GB3.out : Below w.heap.size w w16));clear HO137;clear BK138;clear HB;have HO137:=n0_;have BK138:=n1_;have HB:=n2_;clear n0_ n1_ n2_;clear hg hw hp_;have hcz17_0 : w16.cell? ⟨gb138,0,none⟩ = some (.int .i64 0):=(blk_cell BK138.out 0).trans rfl;have hcz17_1 : w16.cell? ⟨gb138,1,none⟩ = some (.slice none 0 0):=(blk_cell BK138.out 1).trans rfl;have hcz17_2 : w16.cell? ⟨gb138,2,none⟩ = some (.slice (some ⟨go3,0,none⟩) y135.length co10):=(blk_cell BK138.out 2).trans rfl;have hcz17_3 : w16.cell? ⟨gb138,3,none⟩ = some (.int .i64 0):=(blk_cell BK138.out 3).trans rfl;have hcz17_4 : w16.cell? ⟨gb138,4,none⟩ = some (.int .i64 0):=(blk_cell BK138.out 4).trans rfl;have hfz17_0:=blk_frozen BK138.out 0;have hfz17_1:=blk_frozen BK138.out 1;have hfz17_2:=blk_frozen BK138.out 2;have hfz17_3:=blk_frozen BK138.out 3;have hfz17_4:=blk_frozen BK138.out 4)|((with_reducible refine gate_callee (f:=16) rfl ?_);refine goesL_ (some 10) rfl rfl Try.func16 (by kernel_rfl) rfl #[.agg #[.int .i64 0,.slice none 0 0,.slice (some ⟨go3,0,none⟩) y139.length co10,.int .i64 0,.int .i64 0]] rfl (by (try simp only [List.map_toArray,List.map_cons,List.map_nil]);first|done|(rw [show y139.length = y135.length from (Kd.R_reads' HO137.out).1.symm] <;> rfl)|rfl|(simp only [List.length_drop,List.length_take];rfl)) ?_;(refine (town_Month.calls k 0 _ _ ([] : List (S68)) _ _ y139 0 0 t140 t141 t144 t147 t148 t149 _ ?side1 ?side2 ?side3 ?side4 A4.out).mono ?_);(case side1 => exact Kd.C_nil _ _);(case side2 => exact Nat.le_refl _);(case side3 => repeat (first|exact (Kd.R_reads' HO137.out).2.2|(with_reducible refine Kd.C_alloc ?_ _)|(with_reducible refine Kd.C_drewN ?_ _)|(with_reducible refine Kd.C_drew ?_)));(case side4 => rw [show y139.length = y135.length from (Kd.R_reads' HO137.out).1.symm];exact (Kd.R_reads' HO137.out).2.1);rintro e w18 ⟨v142,v145,rfl,ho0,ho1,hb⟩;refine ⟨_,rfl,?_⟩;have n0_:=Aside0.mk (Kd.R_elder' (by (with_reducible repeat (first|apply Kd.R_alloc|apply Kd.R_drewN|apply Kd.R_drew));exact HO137.out) (Kd.R_base ho1) hb);have n1_:=Aside0.mk (Kd.R_lower ho0 (below_size (by repeat (first|(with_reducible first|exact HB.out|apply below_alloc|apply pw_below_drewN|apply below_drew1|refine below_set ?_ GE138.out)|exact HB.out))));have n2_:=Aside0.mk (Kd.R_lower (Kd.R_new' ho1 (Kd.R_lt (by (with_reducible repeat (first|apply Kd.R_alloc|apply Kd.R_drewN|apply Kd.R_drew));exact HO137.out))) (below_size (by repeat (first|(with_reducible first|exact HB.out|apply below_alloc|apply pw_below_drewN|apply below_drew1|refine below_set ?_ GE138.out)|exact HB.out))));have n3_:=Aside0.mk (blk_below (g:=gb138) (o:=.cells #[.int .i64 0,.slice none 0 0,.slice (some ⟨go3,0,none⟩) y135.length co10,.int .i64 0,.int .i64 0] 25 (0,0)) (by (with_reducible repeat (first|refine blk_drewN ?_ _|refine blk_drew ?_|refine blk_alloc ?_ _));exact BK138.out) hb);have n4_:=Aside0.mk (below_step (by repeat (first|(with_reducible first|exact HB.out|apply below_alloc|apply pw_below_drewN|apply below_drew1|refine below_set ?_ GE138.out)|exact HB.out)) hb);clear HO137;clear BK138;clear HB;have HO137:=n0_;have HO143:=n1_;have HO146:=n2_;have BK138:=n3_;have HB:=n4_;clear n0_ n1_ n2_ n3_ n4_;(try clear hb);(try clear hb2);(try clear hk);(try clear hi);(try clear ho0);(try clear ho1);have hcz19_0 : w18.cell? ⟨gb138,0,none⟩ = some (.int .i64 0):=(blk_cell BK138.out 0).trans rfl;have hcz19_1 : w18.cell? ⟨gb138,1,none⟩ = some (.slice none 0 0):=(blk_cell BK138.out 1).trans rfl;have hcz19_2 : w18.cell? ⟨gb138,2,none⟩ = some (.slice (some ⟨go3,0,none⟩) y135.length co10):=(blk_cell BK138.out 2).trans rfl;have hcz19_3 : w18.cell? ⟨gb138,3,none⟩ = some (.int .i64 0):=(blk_cell BK138.out 3).trans rfl;have hcz19_4 : w18.cell? ⟨gb138,4,none⟩ = some (.int .i64 0):=(blk_cell BK138.out 4).trans rfl;have hfz19_0:=blk_frozen BK138.out 0;have hfz19_1:=blk_frozen BK138.out 1;have hfz19_2:=blk_frozen BK138.out 2;have hfz19_3:=blk_frozen BK138.out 3;have hfz19_4:=blk_frozen BK138.out 4;obtain ⟨Ao20,co20,eo20⟩:=Kd.R_slice HO143.out;subst eo20;obtain ⟨Ao21,co21,eo21⟩:=Kd.R_slice HO146.out;subst eo21;have p150 : 0 ≤ (0 : Int):=(by omega);have q150 : 0 < (t144.length : Int):=of_decide_eq_true (by first|(with_reducible assumption)|assumption);obtain ⟨ad150,e150,hx150_0⟩:=Kd.at_int (Kd.R_reads' HO146.out).2.2 0 p150 q150;cases e150;have qi150 : (0 < t144.length) = True:=eq_true (by omega);(try rw [show ((0 : Int)).toNat = 0 from rfl] at hx150_0);(try rw [Addr.add_zero'] at hx150_0);have hn150_0 : ad150.block ≠ gb138:=Kd.own_blk (Kd.R_ne HO146.out BK138.out (by decide));have hn150_1 : ad150.block ≠ gb138:=Kd.own_blk (Kd.R_ne HO146.out BK138.out (by decide));have hn150_2 : ad150.block ≠ gb138:=Kd.own_blk (Kd.R_ne HO146.out BK138.out (by decide));have hn150_3 : ad150.block ≠ gb138:=Kd.own_blk (Kd.R_ne HO146.out BK138.out (by decide));have hn150_4 : ad150.block ≠ gb138:=Kd.own_blk (Kd.R_ne HO146.out BK138.out (by decide));replace hx150_0:=(cell_far (p:=⟨gb138,0,none⟩) (by first|(rw [add_block];exact hn150_0)|(show (Addr.add _ _).block ≠ _;rw [add_block];exact hn150_0)|exact hn150_0) (.int .i64 t140)).trans hx150_0;replace hx150_0:=(cell_far (p:=⟨gb138,1,none⟩) (by first|(rw [add_block];exact hn150_1)|(show (Addr.add _ _).block ≠ _;rw [add_block];exact hn150_1)|exact hn150_1) (.slice Ao20 t141.length co20)).trans hx150_0;replace hx150_0:=(cell_far (p:=⟨gb138,2,none⟩) (by first|(rw [add_block];exact hn150_2)|(show (Addr.add _ _).block ≠ _;rw [add_block];exact hn150_2)|exact hn150_2) (.slice (some ad150) t144.length co21)).trans hx150_0;replace hx150_0:=(cell_far (p:=⟨gb138,3,none⟩) (by first|(rw [add_block];exact hn150_3)|(show (Addr.add _ _).block ≠ _;rw [add_block];exact hn150_3)|exact hn150_3) (.int .i64 t147)).trans hx150_0;replace hx150_0:=(cell_far (p:=⟨gb138,4,none⟩) (by first|(rw [add_block];exact hn150_4)|(show (Addr.add _ _).block ≠ _;rw [add_block];exact hn150_4)|exact hn150_4) (.int .i64 t148)).trans hx150_0;clear hn150_0;clear hn150_1;clear hn150_2;clear hn150_3;clear hn150_4;replace p150:=eq_true p150;replace q150:=eq_true q150))
      go_ret
      exact ⟨by first|rfl|(simp [errW_none,errW_some] <;> rfl)|(simp [*,errW_none,errW_some] <;> rfl),by repeat (first|(with_reducible first|exact HB.out|apply below_alloc|apply pw_below_drewN|apply below_drew1|refine below_set ?_ GE138.out)|exact HB.out)⟩
     ·rw [if_neg c7] at H
      exact absurd H (by simp)
    ·rw [if_neg c6] at H
     have c6b0 : ((t144.length : Int) == 12) = false:=beq_eq_false_iff_ne.mpr c6
     have c6b1 : ((t144.length : Int) != 12) = true:=bne_iff_ne.mpr c6
     obtain rfl:=Option.some.inj H
     go_enter Try.func14,Try.ntmps14
     go_wp2_with (first|((with_reducible refine gate_dst (N:=3) rfl ?_);(try (refine gate_guard (by rfl) ?_;dsimp only));refine Kd.R_make (Kd.int .i64) _ 3 rfl (N:=3) rfl 23 _ _ rfl 12 rfl rfl Try.underlying23 (.int .i64 0) 8 info3 rfl (by decide) (by omega) 0 (ok:=fun _ => True) (okp:=fun _ => True) rfl (fun _ hk => hk) trivial (by omega) (by omega) (Below.refl _ _) (Nat.le_refl _) ?_;intro v136 w22 ho23 hb hg_ hnew_;clear hg_ hnew_;(first|rw [← Ny135.out] at ho23|(simp only [Int.reduceToNat] at ho23;rw [← Ny135.out] at ho23));have n0_:=Aside0.mk (Kd.R_lower ho23 (below_size (by repeat (first|(with_reducible first|exact HB.out|apply below_alloc|apply pw_below_drewN|apply below_drew1)|exact HB.out))));have n1_:=Aside0.mk (below_step (by repeat (first|(with_reducible first|exact HB.out|apply below_alloc|apply pw_below_drewN|apply below_drew1)|exact HB.out)) hb);clear HB;have HO137:=n0_;have HB:=n1_;clear n0_ n1_;clear hb ho23;obtain ⟨Ao24,co24,eo24⟩:=Kd.R_slice HO137.out;subst eo24)|((with_reducible refine gate_dst (N:=1) rfl ?_);(try (refine gate_guard (by rfl) ?_;dsimp only));refine box_event ?hg (N:=1) ?hd (cs:=#[.int .i64 0,.slice none 0 0,.slice none 0 0,.int .i64 0,.int .i64 0]) (t:=25) ?hr ?_;(case hd => rfl);(case hg => rfl);(case hr => first|(go_simp;done)|(go_simp;rfl));intro gb138 hg w25 hbox hb;have n0_:=Aside0.mk (Kd.R_below (by (with_reducible repeat (first|apply Kd.R_alloc|apply Kd.R_drewN|apply Kd.R_drew));exact HO137.out) hb);have n1_:=Aside0.mk (below_step (by repeat (first|(with_reducible first|exact HB.out|apply below_alloc|apply pw_below_drewN|apply below_drew1)|exact HB.out)) hb);have n2_:=Aside0.mk (hbox);have n3_:=Aside0.mk ((by rw [hg];exact (below_size (by repeat (first|(with_reducible first|exact HB.out|apply below_alloc|apply pw_below_drewN|apply below_drew1)|exact HB.out))) : w.heap.size ≤ gb138));have n4_:=Aside0.mk ((by rw [hg];exact (below_size (by repeat (first|(with_reducible first|exact HB.out|apply below_alloc|apply pw_below_drewN|apply below_drew1)|exact HB.out))) : w.heap.size ≤ gb138));clear HO137;clear HB;have HO137:=n0_;have HB:=n1_;have BK138:=n2_;have GW138:=n3_;have GE138:=n4_;clear n0_ n1_ n2_ n3_ n4_;clear hb hbox hg;have hcz26_0 : w25.cell? ⟨gb138,0,none⟩ = some (.int .i64 0):=(blk_cell BK138.out 0).trans rfl;have hcz26_1 : w25.cell? ⟨gb138,1,none⟩ = some (.slice none 0 0):=(blk_cell BK138.out 1).trans rfl;have hcz26_2 : w25.cell? ⟨gb138,2,none⟩ = some (.slice none 0 0):=(blk_cell BK138.out 2).trans rfl;have hcz26_3 : w25.cell? ⟨gb138,3,none⟩ = some (.int .i64 0):=(blk_cell BK138.out 3).trans rfl;have hcz26_4 : w25.cell? ⟨gb138,4,none⟩ = some (.int .i64 0):=(blk_cell BK138.out 4).trans rfl;have hfz26_0:=blk_frozen BK138.out 0;have hfz26_1:=blk_frozen BK138.out 1;have hfz26_2:=blk_frozen BK138.out 2;have hfz26_3:=blk_frozen BK138.out 3;have hfz26_4:=blk_frozen BK138.out 4)|((with_reducible refine gate_store (t:=25) (p:=1) rfl ?_);refine store_event (t:=25) (p:=1) (v:=?vo_w27) (w1:=(((((w25.setCell ⟨gb138,0,none⟩ (.int .i64 0)).setCell ⟨gb138,1,none⟩ (.slice none 0 0)).setCell ⟨gb138,2,none⟩ (.slice Ao24 y135.length co24)).setCell ⟨gb138,3,none⟩ (.int .i64 0)).setCell ⟨gb138,4,none⟩ (.int .i64 0))) ?hg ?ho ?hn ?hr ?_;(case ho => rfl);(case hg => rfl);(case hn => rfl);(case hr => first|(go_simp;done)|(go_simp;rfl));intro w27 hw;have n0_ : Aside0 (Kd.R (Kd.int .i64) 3 w27 w.heap.size (fun _ => True) (.slice Ao24 y135.length co24) y135):=⟨(by rw [hw];exact (by (with_reducible repeat (first|apply Kd.R_alloc|apply Kd.R_drewN|apply Kd.R_drew));exact Kd.R_mono (Kd.R_far (p:=⟨gb138,4,none⟩) (Kd.R_far (p:=⟨gb138,3,none⟩) (Kd.R_far (p:=⟨gb138,2,none⟩) (Kd.R_far (p:=⟨gb138,1,none⟩) (Kd.R_far (p:=⟨gb138,0,none⟩) (Kd.R_types HO137.out BK138.out (by decide)) (fun _ hk => hk.2) (.int .i64 0)) (fun _ hk => hk.2) (.slice none 0 0)) (fun _ hk => hk.2) (.slice Ao24 y135.length co24)) (fun _ hk => hk.2) (.int .i64 0)) (fun _ hk => hk.2) (.int .i64 0)) (fun _ hk => trivial)))⟩;have n1_ : Aside0 (w27.heap[gb138]? = some (.cells #[.int .i64 0,.slice none 0 0,.slice Ao24 y135.length co24,.int .i64 0,.int .i64 0] 25 (0,0))):=⟨(by rw [hw];exact (by (with_reducible repeat (first|refine blk_drewN ?_ _|refine blk_drew ?_|refine blk_alloc ?_ _));refine blk_put (cs:=#[.int .i64 0,.slice none 0 0,.slice Ao24 y135.length co24,.int .i64 0,.int .i64 0]) ?_ 4 _ rfl;(with_reducible repeat (first|refine blk_drewN ?_ _|refine blk_drew ?_|refine blk_alloc ?_ _));refine blk_put (cs:=#[.int .i64 0,.slice none 0 0,.slice Ao24 y135.length co24,.int .i64 0,.int .i64 0]) ?_ 3 _ rfl;(with_reducible repeat (first|refine blk_drewN ?_ _|refine blk_drew ?_|refine blk_alloc ?_ _));refine blk_put (cs:=#[.int .i64 0,.slice none 0 0,.slice none 0 0,.int .i64 0,.int .i64 0]) ?_ 2 _ rfl;(with_reducible repeat (first|refine blk_drewN ?_ _|refine blk_drew ?_|refine blk_alloc ?_ _));refine blk_put (cs:=#[.int .i64 0,.slice none 0 0,.slice none 0 0,.int .i64 0,.int .i64 0]) ?_ 1 _ rfl;(with_reducible repeat (first|refine blk_drewN ?_ _|refine blk_drew ?_|refine blk_alloc ?_ _));refine blk_put (cs:=#[.int .i64 0,.slice none 0 0,.slice none 0 0,.int .i64 0,.int .i64 0]) ?_ 0 _ rfl;(with_reducible repeat (first|refine blk_drewN ?_ _|refine blk_drew ?_|refine blk_alloc ?_ _));exact BK138.out))⟩;have n2_ : Aside0 (Below w.heap.size w w27):=⟨(by rw [hw];exact (by repeat (first|(with_reducible first|exact HB.out|apply below_alloc|apply pw_below_drewN|apply below_drew1|refine below_set ?_ GE138.out)|exact HB.out)))⟩;clear hw;clear HO137;clear BK138;clear HB;have HO137:=n0_;have BK138:=n1_;have HB:=n2_;clear n0_ n1_ n2_;have hcz28_0 : w27.cell? ⟨gb138,0,none⟩ = some (.int .i64 0):=(blk_cell BK138.out 0).trans rfl;have hcz28_1 : w27.cell? ⟨gb138,1,none⟩ = some (.slice none 0 0):=(blk_cell BK138.out 1).trans rfl;have hcz28_2 : w27.cell? ⟨gb138,2,none⟩ = some (.slice Ao24 y135.length co24):=(blk_cell BK138.out 2).trans rfl;have hcz28_3 : w27.cell? ⟨gb138,3,none⟩ = some (.int .i64 0):=(blk_cell BK138.out 3).trans rfl;have hcz28_4 : w27.cell? ⟨gb138,4,none⟩ = some (.int .i64 0):=(blk_cell BK138.out 4).trans rfl;have hfz28_0:=blk_frozen BK138.out 0;have hfz28_1:=blk_frozen BK138.out 1;have hfz28_2:=blk_frozen BK138.out 2;have hfz28_3:=blk_frozen BK138.out 3;have hfz28_4:=blk_frozen BK138.out 4;have p3 : 0 ≤ (0 : Int):=(by omega);have q3 : (0 : Int) < ((y135.length : Int) : Int):=of_decide_eq_true (by first|(with_reducible assumption)|assumption);have qi3 : (0 < y135.length) = True:=eq_true (by omega);obtain ⟨go3,co3,eo3,gb3,gl3,cl3,HG3⟩:=Kd.R_form HO137.out (by omega);(first|cases eo3|(injection eo3 with ea_ en_ ec_;(first|subst ea_|(injection ea_ with ea_;subst ea_));subst ec_;clear en_));have GB3:=Aside0.mk gb3;have GG3:=Aside0.mk HG3;clear gb3 gl3 HG3;obtain ⟨hx3_0,hf3_0⟩:=Kd.R_celln 0 HO137.out (0 : Int) p3 q3;(try rw [show ((0 : Int)).toNat = 0 from rfl] at hx3_0);(try simp only [Nat.reduceMul,Nat.zero_mul,Nat.zero_add,Nat.reduceAdd] at hx3_0);(try rw [show ((0 : Int)).toNat = 0 from rfl] at hf3_0);(try simp only [Nat.reduceMul,Nat.zero_mul,Nat.zero_add,Nat.reduceAdd] at hf3_0);replace p3:=eq_true p3;replace q3:=eq_true q3;obtain ⟨hy29_,hz29_⟩:=Kd.R_celln 0 HO137.out (0 : Int) (by omega) (of_decide_eq_true (by first|(with_reducible assumption)|assumption));(try simp only [Int.reduceToNat,Int.toNat_zero,Int.toNat_ofNat,Nat.reduceMul,Nat.zero_mul,Nat.zero_add] at hy29_ hz29_);(try rw [show ((0 : Int)).toNat = 0 from rfl] at hy29_);(try rw [show ((0 : Int)).toNat = 0 from rfl] at hz29_);have HP29:=Kd.R_putg HO137.out (0 : Int) 95)|((with_reducible refine gate_store (t:=3) (p:=7) rfl ?_);refine store_event (t:=3) (p:=7) (v:=?vo_w30) (w1:=(w27.setCell ⟨go3,(0 : Int).toNat,none⟩ (.int .i64 95))) ?hg ?ho ?hn ?hr ?_;(case ho => rfl);(case hg => rfl);(case hn => rfl);(case hr => first|(go_simp;done)|(go_simp;rfl));intro w30 hw;have hg : w27.grownBy w30 (some go3):=(by rw [hw];exact HP29.2);have hp_ : Kd.R (Kd.int .i64) 3 w30 w.heap.size (fun _ => True) (.slice (some ⟨go3,0,none⟩) y135.length co24) y139:=(by rw [hw,Ny139.out];exact HP29.1);clear HP29;have n0_:=Aside0.mk (hp_);have n1_:=Aside0.mk (blk_grown (g:=gb138) (o:=.cells #[.int .i64 0,.slice none 0 0,.slice (some ⟨go3,0,none⟩) y135.length co24,.int .i64 0,.int .i64 0] 25 (0,0)) (by (with_reducible repeat (first|refine blk_drewN ?_ _|refine blk_drew ?_|refine blk_alloc ?_ _));exact BK138.out) hg (Kd.R_ne HO137.out BK138.out (by decide)));have n2_:=Aside0.mk ((by rw [hw];exact below_set (HB.out) GB3.out : Below w.heap.size w w30));clear HO137;clear BK138;clear HB;have HO137:=n0_;have BK138:=n1_;have HB:=n2_;clear n0_ n1_ n2_;clear hg hw hp_;have hcz31_0 : w30.cell? ⟨gb138,0,none⟩ = some (.int .i64 0):=(blk_cell BK138.out 0).trans rfl;have hcz31_1 : w30.cell? ⟨gb138,1,none⟩ = some (.slice none 0 0):=(blk_cell BK138.out 1).trans rfl;have hcz31_2 : w30.cell? ⟨gb138,2,none⟩ = some (.slice (some ⟨go3,0,none⟩) y135.length co24):=(blk_cell BK138.out 2).trans rfl;have hcz31_3 : w30.cell? ⟨gb138,3,none⟩ = some (.int .i64 0):=(blk_cell BK138.out 3).trans rfl;have hcz31_4 : w30.cell? ⟨gb138,4,none⟩ = some (.int .i64 0):=(blk_cell BK138.out 4).trans rfl;have hfz31_0:=blk_frozen BK138.out 0;have hfz31_1:=blk_frozen BK138.out 1;have hfz31_2:=blk_frozen BK138.out 2;have hfz31_3:=blk_frozen BK138.out 3;have hfz31_4:=blk_frozen BK138.out 4)|((with_reducible refine gate_callee (f:=16) rfl ?_);refine goesL_ (some 10) rfl rfl Try.func16 (by kernel_rfl) rfl #[.agg #[.int .i64 0,.slice none 0 0,.slice (some ⟨go3,0,none⟩) y139.length co24,.int .i64 0,.int .i64 0]] rfl (by (try simp only [List.map_toArray,List.map_cons,List.map_nil]);first|done|(rw [show y139.length = y135.length from (Kd.R_reads' HO137.out).1.symm] <;> rfl)|rfl|(simp only [List.length_drop,List.length_take];rfl)) ?_;(refine (town_Month.calls k 0 _ _ ([] : List (S68)) _ _ y139 0 0 t140 t141 t144 t147 t148 t149 _ ?side1 ?side2 ?side3 ?side4 A4.out).mono ?_);(case side1 => exact Kd.C_nil _ _);(case side2 => exact Nat.le_refl _);(case side3 => repeat (first|exact (Kd.R_reads' HO137.out).2.2|(with_reducible refine Kd.C_alloc ?_ _)|(with_reducible refine Kd.C_drewN ?_ _)|(with_reducible refine Kd.C_drew ?_)));(case side4 => rw [show y139.length = y135.length from (Kd.R_reads' HO137.out).1.symm];exact (Kd.R_reads' HO137.out).2.1);rintro e w32 ⟨v142,v145,rfl,ho0,ho1,hb⟩;refine ⟨_,rfl,?_⟩;have n0_:=Aside0.mk (Kd.R_elder' (by (with_reducible repeat (first|apply Kd.R_alloc|apply Kd.R_drewN|apply Kd.R_drew));exact HO137.out) (Kd.R_base ho1) hb);have n1_:=Aside0.mk (Kd.R_lower ho0 (below_size (by repeat (first|(with_reducible first|exact HB.out|apply below_alloc|apply pw_below_drewN|apply below_drew1|refine below_set ?_ GE138.out)|exact HB.out))));have n2_:=Aside0.mk (Kd.R_lower (Kd.R_new' ho1 (Kd.R_lt (by (with_reducible repeat (first|apply Kd.R_alloc|apply Kd.R_drewN|apply Kd.R_drew));exact HO137.out))) (below_size (by repeat (first|(with_reducible first|exact HB.out|apply below_alloc|apply pw_below_drewN|apply below_drew1|refine below_set ?_ GE138.out)|exact HB.out))));have n3_:=Aside0.mk (blk_below (g:=gb138) (o:=.cells #[.int .i64 0,.slice none 0 0,.slice (some ⟨go3,0,none⟩) y135.length co24,.int .i64 0,.int .i64 0] 25 (0,0)) (by (with_reducible repeat (first|refine blk_drewN ?_ _|refine blk_drew ?_|refine blk_alloc ?_ _));exact BK138.out) hb);have n4_:=Aside0.mk (below_step (by repeat (first|(with_reducible first|exact HB.out|apply below_alloc|apply pw_below_drewN|apply below_drew1|refine below_set ?_ GE138.out)|exact HB.out)) hb);clear HO137;clear BK138;clear HB;have HO137:=n0_;have HO143:=n1_;have HO146:=n2_;have BK138:=n3_;have HB:=n4_;clear n0_ n1_ n2_ n3_ n4_;(try clear hb);(try clear hb2);(try clear hk);(try clear hi);(try clear ho0);(try clear ho1);have hcz33_0 : w32.cell? ⟨gb138,0,none⟩ = some (.int .i64 0):=(blk_cell BK138.out 0).trans rfl;have hcz33_1 : w32.cell? ⟨gb138,1,none⟩ = some (.slice none 0 0):=(blk_cell BK138.out 1).trans rfl;have hcz33_2 : w32.cell? ⟨gb138,2,none⟩ = some (.slice (some ⟨go3,0,none⟩) y135.length co24):=(blk_cell BK138.out 2).trans rfl;have hcz33_3 : w32.cell? ⟨gb138,3,none⟩ = some (.int .i64 0):=(blk_cell BK138.out 3).trans rfl;have hcz33_4 : w32.cell? ⟨gb138,4,none⟩ = some (.int .i64 0):=(blk_cell BK138.out 4).trans rfl;have hfz33_0:=blk_frozen BK138.out 0;have hfz33_1:=blk_frozen BK138.out 1;have hfz33_2:=blk_frozen BK138.out 2;have hfz33_3:=blk_frozen BK138.out 3;have hfz33_4:=blk_frozen BK138.out 4;obtain ⟨Ao34,co34,eo34⟩:=Kd.R_slice HO143.out;subst eo34;obtain ⟨Ao35,co35,eo35⟩:=Kd.R_slice HO146.out;subst eo35))
     go_ret
     exact ⟨by first|rfl|(simp [errW_none,errW_some] <;> rfl)|(simp [*,errW_none,errW_some] <;> rfl),by repeat (first|(with_reducible first|exact HB.out|apply below_alloc|apply pw_below_drewN|apply below_drew1|refine below_set ?_ GE138.out)|exact HB.out)⟩
   ·rw [if_neg c5] at H
    have c5b0 : (t149 == 0) = false:=beq_eq_false_iff_ne.mpr c5
    have c5b1 : (t149 != 0) = true:=bne_iff_ne.mpr c5
    obtain rfl:=Option.some.inj H
    go_enter Try.func14,Try.ntmps14
    go_wp2_with (first|((with_reducible refine gate_dst (N:=3) rfl ?_);(try (refine gate_guard (by rfl) ?_;dsimp only));refine Kd.R_make (Kd.int .i64) _ 3 rfl (N:=3) rfl 23 _ _ rfl 12 rfl rfl Try.underlying23 (.int .i64 0) 8 info3 rfl (by decide) (by omega) 0 (ok:=fun _ => True) (okp:=fun _ => True) rfl (fun _ hk => hk) trivial (by omega) (by omega) (Below.refl _ _) (Nat.le_refl _) ?_;intro v136 w36 ho37 hb hg_ hnew_;clear hg_ hnew_;(first|rw [← Ny135.out] at ho37|(simp only [Int.reduceToNat] at ho37;rw [← Ny135.out] at ho37));have n0_:=Aside0.mk (Kd.R_lower ho37 (below_size (by repeat (first|(with_reducible first|exact HB.out|apply below_alloc|apply pw_below_drewN|apply below_drew1)|exact HB.out))));have n1_:=Aside0.mk (below_step (by repeat (first|(with_reducible first|exact HB.out|apply below_alloc|apply pw_below_drewN|apply below_drew1)|exact HB.out)) hb);clear HB;have HO137:=n0_;have HB:=n1_;clear n0_ n1_;clear hb ho37;obtain ⟨Ao38,co38,eo38⟩:=Kd.R_slice HO137.out;subst eo38)|((with_reducible refine gate_dst (N:=1) rfl ?_);(try (refine gate_guard (by rfl) ?_;dsimp only));refine box_event ?hg (N:=1) ?hd (cs:=#[.int .i64 0,.slice none 0 0,.slice none 0 0,.int .i64 0,.int .i64 0]) (t:=25) ?hr ?_;(case hd => rfl);(case hg => rfl);(case hr => first|(go_simp;done)|(go_simp;rfl));intro gb138 hg w39 hbox hb;have n0_:=Aside0.mk (Kd.R_below (by (with_reducible repeat (first|apply Kd.R_alloc|apply Kd.R_drewN|apply Kd.R_drew));exact HO137.out) hb);have n1_:=Aside0.mk (below_step (by repeat (first|(with_reducible first|exact HB.out|apply below_alloc|apply pw_below_drewN|apply below_drew1)|exact HB.out)) hb);have n2_:=Aside0.mk (hbox);have n3_:=Aside0.mk ((by rw [hg];exact (below_size (by repeat (first|(with_reducible first|exact HB.out|apply below_alloc|apply pw_below_drewN|apply below_drew1)|exact HB.out))) : w.heap.size ≤ gb138));have n4_:=Aside0.mk ((by rw [hg];exact (below_size (by repeat (first|(with_reducible first|exact HB.out|apply below_alloc|apply pw_below_drewN|apply below_drew1)|exact HB.out))) : w.heap.size ≤ gb138));clear HO137;clear HB;have HO137:=n0_;have HB:=n1_;have BK138:=n2_;have GW138:=n3_;have GE138:=n4_;clear n0_ n1_ n2_ n3_ n4_;clear hb hbox hg;have hcz40_0 : w39.cell? ⟨gb138,0,none⟩ = some (.int .i64 0):=(blk_cell BK138.out 0).trans rfl;have hcz40_1 : w39.cell? ⟨gb138,1,none⟩ = some (.slice none 0 0):=(blk_cell BK138.out 1).trans rfl;have hcz40_2 : w39.cell? ⟨gb138,2,none⟩ = some (.slice none 0 0):=(blk_cell BK138.out 2).trans rfl;have hcz40_3 : w39.cell? ⟨gb138,3,none⟩ = some (.int .i64 0):=(blk_cell BK138.out 3).trans rfl;have hcz40_4 : w39.cell? ⟨gb138,4,none⟩ = some (.int .i64 0):=(blk_cell BK138.out 4).trans rfl;have hfz40_0:=blk_frozen BK138.out 0;have hfz40_1:=blk_frozen BK138.out 1;have hfz40_2:=blk_frozen BK138.out 2;have hfz40_3:=blk_frozen BK138.out 3;have hfz40_4:=blk_frozen BK138.out 4)|((with_reducible refine gate_store (t:=25) (p:=1) rfl ?_);refine store_event (t:=25) (p:=1) (v:=?vo_w41) (w1:=(((((w39.setCell ⟨gb138,0,none⟩ (.int .i64 0)).setCell ⟨gb138,1,none⟩ (.slice none 0 0)).setCell ⟨gb138,2,none⟩ (.slice Ao38 y135.length co38)).setCell ⟨gb138,3,none⟩ (.int .i64 0)).setCell ⟨gb138,4,none⟩ (.int .i64 0))) ?hg ?ho ?hn ?hr ?_;(case ho => rfl);(case hg => rfl);(case hn => rfl);(case hr => first|(go_simp;done)|(go_simp;rfl));intro w41 hw;have n0_ : Aside0 (Kd.R (Kd.int .i64) 3 w41 w.heap.size (fun _ => True) (.slice Ao38 y135.length co38) y135):=⟨(by rw [hw];exact (by (with_reducible repeat (first|apply Kd.R_alloc|apply Kd.R_drewN|apply Kd.R_drew));exact Kd.R_mono (Kd.R_far (p:=⟨gb138,4,none⟩) (Kd.R_far (p:=⟨gb138,3,none⟩) (Kd.R_far (p:=⟨gb138,2,none⟩) (Kd.R_far (p:=⟨gb138,1,none⟩) (Kd.R_far (p:=⟨gb138,0,none⟩) (Kd.R_types HO137.out BK138.out (by decide)) (fun _ hk => hk.2) (.int .i64 0)) (fun _ hk => hk.2) (.slice none 0 0)) (fun _ hk => hk.2) (.slice Ao38 y135.length co38)) (fun _ hk => hk.2) (.int .i64 0)) (fun _ hk => hk.2) (.int .i64 0)) (fun _ hk => trivial)))⟩;have n1_ : Aside0 (w41.heap[gb138]? = some (.cells #[.int .i64 0,.slice none 0 0,.slice Ao38 y135.length co38,.int .i64 0,.int .i64 0] 25 (0,0))):=⟨(by rw [hw];exact (by (with_reducible repeat (first|refine blk_drewN ?_ _|refine blk_drew ?_|refine blk_alloc ?_ _));refine blk_put (cs:=#[.int .i64 0,.slice none 0 0,.slice Ao38 y135.length co38,.int .i64 0,.int .i64 0]) ?_ 4 _ rfl;(with_reducible repeat (first|refine blk_drewN ?_ _|refine blk_drew ?_|refine blk_alloc ?_ _));refine blk_put (cs:=#[.int .i64 0,.slice none 0 0,.slice Ao38 y135.length co38,.int .i64 0,.int .i64 0]) ?_ 3 _ rfl;(with_reducible repeat (first|refine blk_drewN ?_ _|refine blk_drew ?_|refine blk_alloc ?_ _));refine blk_put (cs:=#[.int .i64 0,.slice none 0 0,.slice none 0 0,.int .i64 0,.int .i64 0]) ?_ 2 _ rfl;(with_reducible repeat (first|refine blk_drewN ?_ _|refine blk_drew ?_|refine blk_alloc ?_ _));refine blk_put (cs:=#[.int .i64 0,.slice none 0 0,.slice none 0 0,.int .i64 0,.int .i64 0]) ?_ 1 _ rfl;(with_reducible repeat (first|refine blk_drewN ?_ _|refine blk_drew ?_|refine blk_alloc ?_ _));refine blk_put (cs:=#[.int .i64 0,.slice none 0 0,.slice none 0 0,.int .i64 0,.int .i64 0]) ?_ 0 _ rfl;(with_reducible repeat (first|refine blk_drewN ?_ _|refine blk_drew ?_|refine blk_alloc ?_ _));exact BK138.out))⟩;have n2_ : Aside0 (Below w.heap.size w w41):=⟨(by rw [hw];exact (by repeat (first|(with_reducible first|exact HB.out|apply below_alloc|apply pw_below_drewN|apply below_drew1|refine below_set ?_ GE138.out)|exact HB.out)))⟩;clear hw;clear HO137;clear BK138;clear HB;have HO137:=n0_;have BK138:=n1_;have HB:=n2_;clear n0_ n1_ n2_;have hcz42_0 : w41.cell? ⟨gb138,0,none⟩ = some (.int .i64 0):=(blk_cell BK138.out 0).trans rfl;have hcz42_1 : w41.cell? ⟨gb138,1,none⟩ = some (.slice none 0 0):=(blk_cell BK138.out 1).trans rfl;have hcz42_2 : w41.cell? ⟨gb138,2,none⟩ = some (.slice Ao38 y135.length co38):=(blk_cell BK138.out 2).trans rfl;have hcz42_3 : w41.cell? ⟨gb138,3,none⟩ = some (.int .i64 0):=(blk_cell BK138.out 3).trans rfl;have hcz42_4 : w41.cell? ⟨gb138,4,none⟩ = some (.int .i64 0):=(blk_cell BK138.out 4).trans rfl;have hfz42_0:=blk_frozen BK138.out 0;have hfz42_1:=blk_frozen BK138.out 1;have hfz42_2:=blk_frozen BK138.out 2;have hfz42_3:=blk_frozen BK138.out 3;have hfz42_4:=blk_frozen BK138.out 4;have p3 : 0 ≤ (0 : Int):=(by omega);have q3 : (0 : Int) < ((y135.length : Int) : Int):=of_decide_eq_true (by first|(with_reducible assumption)|assumption);have qi3 : (0 < y135.length) = True:=eq_true (by omega);obtain ⟨go3,co3,eo3,gb3,gl3,cl3,HG3⟩:=Kd.R_form HO137.out (by omega);(first|cases eo3|(injection eo3 with ea_ en_ ec_;(first|subst ea_|(injection ea_ with ea_;subst ea_));subst ec_;clear en_));have GB3:=Aside0.mk gb3;have GG3:=Aside0.mk HG3;clear gb3 gl3 HG3;obtain ⟨hx3_0,hf3_0⟩:=Kd.R_celln 0 HO137.out (0 : Int) p3 q3;(try rw [show ((0 : Int)).toNat = 0 from rfl] at hx3_0);(try simp only [Nat.reduceMul,Nat.zero_mul,Nat.zero_add,Nat.reduceAdd] at hx3_0);(try rw [show ((0 : Int)).toNat = 0 from rfl] at hf3_0);(try simp only [Nat.reduceMul,Nat.zero_mul,Nat.zero_add,Nat.reduceAdd] at hf3_0);replace p3:=eq_true p3;replace q3:=eq_true q3;obtain ⟨hy43_,hz43_⟩:=Kd.R_celln 0 HO137.out (0 : Int) (by omega) (of_decide_eq_true (by first|(with_reducible assumption)|assumption));(try simp only [Int.reduceToNat,Int.toNat_zero,Int.toNat_ofNat,Nat.reduceMul,Nat.zero_mul,Nat.zero_add] at hy43_ hz43_);(try rw [show ((0 : Int)).toNat = 0 from rfl] at hy43_);(try rw [show ((0 : Int)).toNat = 0 from rfl] at hz43_);have HP43:=Kd.R_putg HO137.out (0 : Int) 95)|((with_reducible refine gate_store (t:=3) (p:=7) rfl ?_);refine store_event (t:=3) (p:=7) (v:=?vo_w44) (w1:=(w41.setCell ⟨go3,(0 : Int).toNat,none⟩ (.int .i64 95))) ?hg ?ho ?hn ?hr ?_;(case ho => rfl);(case hg => rfl);(case hn => rfl);(case hr => first|(go_simp;done)|(go_simp;rfl));intro w44 hw;have hg : w41.grownBy w44 (some go3):=(by rw [hw];exact HP43.2);have hp_ : Kd.R (Kd.int .i64) 3 w44 w.heap.size (fun _ => True) (.slice (some ⟨go3,0,none⟩) y135.length co38) y139:=(by rw [hw,Ny139.out];exact HP43.1);clear HP43;have n0_:=Aside0.mk (hp_);have n1_:=Aside0.mk (blk_grown (g:=gb138) (o:=.cells #[.int .i64 0,.slice none 0 0,.slice (some ⟨go3,0,none⟩) y135.length co38,.int .i64 0,.int .i64 0] 25 (0,0)) (by (with_reducible repeat (first|refine blk_drewN ?_ _|refine blk_drew ?_|refine blk_alloc ?_ _));exact BK138.out) hg (Kd.R_ne HO137.out BK138.out (by decide)));have n2_:=Aside0.mk ((by rw [hw];exact below_set (HB.out) GB3.out : Below w.heap.size w w44));clear HO137;clear BK138;clear HB;have HO137:=n0_;have BK138:=n1_;have HB:=n2_;clear n0_ n1_ n2_;clear hg hw hp_;have hcz45_0 : w44.cell? ⟨gb138,0,none⟩ = some (.int .i64 0):=(blk_cell BK138.out 0).trans rfl;have hcz45_1 : w44.cell? ⟨gb138,1,none⟩ = some (.slice none 0 0):=(blk_cell BK138.out 1).trans rfl;have hcz45_2 : w44.cell? ⟨gb138,2,none⟩ = some (.slice (some ⟨go3,0,none⟩) y135.length co38):=(blk_cell BK138.out 2).trans rfl;have hcz45_3 : w44.cell? ⟨gb138,3,none⟩ = some (.int .i64 0):=(blk_cell BK138.out 3).trans rfl;have hcz45_4 : w44.cell? ⟨gb138,4,none⟩ = some (.int .i64 0):=(blk_cell BK138.out 4).trans rfl;have hfz45_0:=blk_frozen BK138.out 0;have hfz45_1:=blk_frozen BK138.out 1;have hfz45_2:=blk_frozen BK138.out 2;have hfz45_3:=blk_frozen BK138.out 3;have hfz45_4:=blk_frozen BK138.out 4)|((with_reducible refine gate_callee (f:=16) rfl ?_);refine goesL_ (some 10) rfl rfl Try.func16 (by kernel_rfl) rfl #[.agg #[.int .i64 0,.slice none 0 0,.slice (some ⟨go3,0,none⟩) y139.length co38,.int .i64 0,.int .i64 0]] rfl (by (try simp only [List.map_toArray,List.map_cons,List.map_nil]);first|done|(rw [show y139.length = y135.length from (Kd.R_reads' HO137.out).1.symm] <;> rfl)|rfl|(simp only [List.length_drop,List.length_take];rfl)) ?_;(refine (town_Month.calls k 0 _ _ ([] : List (S68)) _ _ y139 0 0 t140 t141 t144 t147 t148 t149 _ ?side1 ?side2 ?side3 ?side4 A4.out).mono ?_);(case side1 => exact Kd.C_nil _ _);(case side2 => exact Nat.le_refl _);(case side3 => repeat (first|exact (Kd.R_reads' HO137.out).2.2|(with_reducible refine Kd.C_alloc ?_ _)|(with_reducible refine Kd.C_drewN ?_ _)|(with_reducible refine Kd.C_drew ?_)));(case side4 => rw [show y139.length = y135.length from (Kd.R_reads' HO137.out).1.symm];exact (Kd.R_reads' HO137.out).2.1);rintro e w46 ⟨v142,v145,rfl,ho0,ho1,hb⟩;refine ⟨_,rfl,?_⟩;have n0_:=Aside0.mk (Kd.R_elder' (by (with_reducible repeat (first|apply Kd.R_alloc|apply Kd.R_drewN|apply Kd.R_drew));exact HO137.out) (Kd.R_base ho1) hb);have n1_:=Aside0.mk (Kd.R_lower ho0 (below_size (by repeat (first|(with_reducible first|exact HB.out|apply below_alloc|apply pw_below_drewN|apply below_drew1|refine below_set ?_ GE138.out)|exact HB.out))));have n2_:=Aside0.mk (Kd.R_lower (Kd.R_new' ho1 (Kd.R_lt (by (with_reducible repeat (first|apply Kd.R_alloc|apply Kd.R_drewN|apply Kd.R_drew));exact HO137.out))) (below_size (by repeat (first|(with_reducible first|exact HB.out|apply below_alloc|apply pw_below_drewN|apply below_drew1|refine below_set ?_ GE138.out)|exact HB.out))));have n3_:=Aside0.mk (blk_below (g:=gb138) (o:=.cells #[.int .i64 0,.slice none 0 0,.slice (some ⟨go3,0,none⟩) y135.length co38,.int .i64 0,.int .i64 0] 25 (0,0)) (by (with_reducible repeat (first|refine blk_drewN ?_ _|refine blk_drew ?_|refine blk_alloc ?_ _));exact BK138.out) hb);have n4_:=Aside0.mk (below_step (by repeat (first|(with_reducible first|exact HB.out|apply below_alloc|apply pw_below_drewN|apply below_drew1|refine below_set ?_ GE138.out)|exact HB.out)) hb);clear HO137;clear BK138;clear HB;have HO137:=n0_;have HO143:=n1_;have HO146:=n2_;have BK138:=n3_;have HB:=n4_;clear n0_ n1_ n2_ n3_ n4_;(try clear hb);(try clear hb2);(try clear hk);(try clear hi);(try clear ho0);(try clear ho1);have hcz47_0 : w46.cell? ⟨gb138,0,none⟩ = some (.int .i64 0):=(blk_cell BK138.out 0).trans rfl;have hcz47_1 : w46.cell? ⟨gb138,1,none⟩ = some (.slice none 0 0):=(blk_cell BK138.out 1).trans rfl;have hcz47_2 : w46.cell? ⟨gb138,2,none⟩ = some (.slice (some ⟨go3,0,none⟩) y135.length co38):=(blk_cell BK138.out 2).trans rfl;have hcz47_3 : w46.cell? ⟨gb138,3,none⟩ = some (.int .i64 0):=(blk_cell BK138.out 3).trans rfl;have hcz47_4 : w46.cell? ⟨gb138,4,none⟩ = some (.int .i64 0):=(blk_cell BK138.out 4).trans rfl;have hfz47_0:=blk_frozen BK138.out 0;have hfz47_1:=blk_frozen BK138.out 1;have hfz47_2:=blk_frozen BK138.out 2;have hfz47_3:=blk_frozen BK138.out 3;have hfz47_4:=blk_frozen BK138.out 4;obtain ⟨Ao48,co48,eo48⟩:=Kd.R_slice HO143.out;subst eo48;obtain ⟨Ao49,co49,eo49⟩:=Kd.R_slice HO146.out;subst eo49))
    go_ret
    exact ⟨by first|rfl|(simp [errW_none,errW_some] <;> rfl)|(simp [*,errW_none,errW_some] <;> rfl),by repeat (first|(with_reducible first|exact HB.out|apply below_alloc|apply pw_below_drewN|apply below_drew1|refine below_set ?_ GE138.out)|exact HB.out)⟩
  ·rw [if_neg c2] at H
   exact absurd H (by simp)
 ·rw [if_neg c1] at H
  exact absurd H (by simp)

/-! ### api_House_44: function 44 -/
def api_House_44.l0 : Nat → List (S68) → List (S68) → Int → Option (Bool)
 | 0,_,_,_ => none
 | k + 1,x0,x1,x5 => if x5 < (x0.length : Int) then (if 0 ≤ x5 then (if x5 < (x1.length : Int) then (if (!(((rd_T68 x0 x5).f0) == ((rd_T68 x1 x5).f0)) || (!(((rd_T68 x0 x5).f1) == ((rd_T68 x1 x5).f1)) || (!(((rd_T68 x0 x5).f2) == ((rd_T68 x1 x5).f2))))) = true then (some false) else (api_House_44.l0 k x0 x1 (wrap64 (x5 + 1)))) else (none)) else (none)) else (some true)
def api_House_44.f (k : Nat) (l0 : List (S68)) (l1 : List (S68)) : Option (Bool) := if (l0.length : Int) = (l1.length : Int) then (api_House_44.l0 k l0 l1 0) else (some false)
theorem api_House_44.mono_l : ∀ k, (∀ y0 y1 y2, LeO (api_House_44.l0 k y0 y1 y2) (api_House_44.l0 (k + 1) y0 y1 y2))
 | 0 => fun _ _ _ r h => by simp [api_House_44.l0] at h
 | k + 1 => by
  have ih0:=api_House_44.mono_l k
  ·intro y0 y1 y2
   unfold api_House_44.l0
   repeat' first
   | (with_reducible exact ih0 _ _ _)
   | (with_reducible exact LeO.refl _)
   | (with_reducible exact LeO.none _)
   | (with_reducible refine LeO.ite ?_ ?_)
   | (with_reducible refine LeO.bind ?_ (fun _ => ?_))
   | exact ih0 _ _ _
   | exact LeO.none _
   | refine LeO.ite ?_ ?_
   | refine LeO.bind ?_ (fun _ => ?_)
theorem api_House_44.mono : ∀ a0 a1 k, LeO (api_House_44.f k a0 a1) (api_House_44.f (k + 1) a0 a1) := by
 intro a0 a1 k
 have ih0:=api_House_44.mono_l k
 unfold api_House_44.f
 repeat' first
   | (with_reducible exact ih0 _ _ _)
   | (with_reducible exact LeO.refl _)
   | (with_reducible exact LeO.none _)
   | (with_reducible refine LeO.ite ?_ ?_)
   | (with_reducible refine LeO.bind ?_ (fun _ => ?_))
   | exact ih0 _ _ _
   | exact LeO.none _
   | refine LeO.ite ?_ ?_
   | refine LeO.bind ?_ (fun _ => ?_)
set_option maxHeartbeats 8000000 in
set_option maxRecDepth 100000 in
theorem api_House_44.calls (k : Nat) (A0 : Option Addr) (c0 : Nat) (l0 : List (S68)) (A1 : Option Addr) (c1 : Nat) (l1 : List (S68)) (r : Bool) (w : World) (hr0 : Kd.C k68 w A0 l0.length l0) (hc0 : l0.length ≤ c0) (hr1 : Kd.C k68 w A1 l1.length l1) (hc1 : l1.length ≤ c1) (h : api_House_44.f k l0 l1 = some r) :
  Calls Try.prog 44 #[.slice A0 l0.length c0,.slice A1 l1.length c1] w fun e w' => e = .returned (.bool r) ∧ Drawn0 w w':=by
 have hu68:=Try.underlying68
 have HR0:=Aside0.mk hr0
 have HC0:=Aside0.mk hc0
 clear hr0 hc0
 have HR1:=Aside0.mk hr1
 have HC1:=Aside0.mk hc1
 clear hr1 hc1
 have H : (if (l0.length : Int) = (l1.length : Int) then (api_House_44.l0 k l0 l1 0) else (some false)) = some r:=h
 clear h
 by_cases c3 : (l0.length : Int) = (l1.length : Int)
 ·rw [if_pos c3] at H
  have c3b0 : ((l0.length : Int) == (l1.length : Int)) = true:=beq_iff_eq.mpr c3
  have c3b1 : ((l0.length : Int) != (l1.length : Int)) = false:=bne_eq_false_iff_eq.mpr c3
  have c3b2 : (l0.length == l1.length) = true:=by first|simpa using c3|(simp at c3 ⊢;omega)
  clear c3
  have H':=Aside0.mk H
  clear H
  go_enter Try.func44,Try.ntmps44
  go_wp2
  repeat (go_quiet (fail);try go_wp2)
  go_loopg [5] k (fun kq v5 w' => ∃ (x5_1 : Int),v5 = .int .i64 x5_1 ∧ Aside0 (api_House_44.l0 kq l0 l1 x5_1 = some r) ∧ Aside0 (kq ≤ k) ∧ Drawn0 w w')
  case atStart => exact ⟨(0),(by first|rfl|(simp;done)|(simp [*];done)),H',⟨Nat.le_refl _⟩,by repeat (first|exact Drawn0.refl _|apply Drawn0.step)⟩
  case round =>
   clear H'
   try clear c1
   try clear p2
   try clear c3
   try clear c3b0
   try clear c3b1
   try clear c3b2
   obtain ⟨x5_1,rfl,HA,HK1,⟨m1,rfl⟩⟩:=hrel
   cases gk with
   | zero => exact absurd HA.out (by simp [api_House_44.l0])
   | succ k1 =>
    have H:=HA.out
    clear HA
    simp only [api_House_44.l0] at H
    by_cases c4 : x5_1 < (l0.length : Int)
    ·rw [if_pos c4] at H
     have c4b0 : decide (x5_1 < (l0.length : Int)) = true:=decide_eq_true c4
     clear c4
     by_cases c5 : 0 ≤ x5_1
     ·rw [if_pos c5] at H
      have c5b0 : decide (0 ≤ x5_1) = true:=decide_eq_true c5
      clear c5
      by_cases c6 : x5_1 < (l1.length : Int)
      ·rw [if_pos c6] at H
       have c6b0 : decide (x5_1 < (l1.length : Int)) = true:=decide_eq_true c6
       clear c6
       by_cases c7 : (!(((rd_T68 l0 x5_1).f0) == ((rd_T68 l1 x5_1).f0)) || (!(((rd_T68 l0 x5_1).f1) == ((rd_T68 l1 x5_1).f1)) || (!(((rd_T68 l0 x5_1).f2) == ((rd_T68 l1 x5_1).f2))))) = true
       ·rw [if_pos c7] at H
        have c7b0 : (!(((rd_T68 l0 x5_1).f0) == ((rd_T68 l1 x5_1).f0)) || (!(((rd_T68 l0 x5_1).f1) == ((rd_T68 l1 x5_1).f1)) || (!(((rd_T68 l0 x5_1).f2) == ((rd_T68 l1 x5_1).f2))))) = true:=c7
        clear c7
        obtain rfl:=Option.some.inj H
        have p151 : 0 ≤ (x5_1 : Int):=of_decide_eq_true (by first|(with_reducible assumption)|assumption)
        have q151 : x5_1 < (l0.length : Int):=of_decide_eq_true (by first|(with_reducible assumption)|assumption)
        obtain ⟨ad151,e151,hx151_0,hx151_1,hx151_2⟩:=at_T68 HR0.out x5_1 p151 q151
        cases e151
        replace p151:=eq_true p151
        replace q151:=eq_true q151
        have p152 : 0 ≤ (x5_1 : Int):=of_decide_eq_true (by first|(with_reducible assumption)|assumption)
        have q152 : x5_1 < (l1.length : Int):=of_decide_eq_true (by first|(with_reducible assumption)|assumption)
        obtain ⟨ad152,e152,hx152_0,hx152_1,hx152_2⟩:=at_T68 HR1.out x5_1 p152 q152
        cases e152
        replace p152:=eq_true p152
        replace q152:=eq_true q152
        go_wp2
        repeat (go_quiet (fail);try go_wp2)
        go_ret
        exact ⟨by first|rfl|(simp;done)|(simp [*];done),by repeat (first|exact Drawn0.refl _|apply Drawn0.step)⟩
       ·rw [if_neg c7] at H
        have c7b0 : (!(((rd_T68 l0 x5_1).f0) == ((rd_T68 l1 x5_1).f0)) || (!(((rd_T68 l0 x5_1).f1) == ((rd_T68 l1 x5_1).f1)) || (!(((rd_T68 l0 x5_1).f2) == ((rd_T68 l1 x5_1).f2))))) = false:=by simpa using c7
        clear c7
        have H':=Aside0.mk H
        clear H
        have p151 : 0 ≤ (x5_1 : Int):=of_decide_eq_true (by first|(with_reducible assumption)|assumption)
        have q151 : x5_1 < (l0.length : Int):=of_decide_eq_true (by first|(with_reducible assumption)|assumption)
        obtain ⟨ad151,e151,hx151_0,hx151_1,hx151_2⟩:=at_T68 HR0.out x5_1 p151 q151
        cases e151
        replace p151:=eq_true p151
        replace q151:=eq_true q151
        have p152 : 0 ≤ (x5_1 : Int):=of_decide_eq_true (by first|(with_reducible assumption)|assumption)
        have q152 : x5_1 < (l1.length : Int):=of_decide_eq_true (by first|(with_reducible assumption)|assumption)
        obtain ⟨ad152,e152,hx152_0,hx152_1,hx152_2⟩:=at_T68 HR1.out x5_1 p152 q152
        cases e152
        replace p152:=eq_true p152
        replace q152:=eq_true q152
        go_wp2
        repeat (go_quiet (fail);try go_wp2)
        go_roundg k1
        case measure => have:=HK1.out;omega
        case rel => exact ⟨(wrap64 (x5_1 + 1)),(by first|rfl|(simp;done)|(simp [*];done)),H',⟨by have:=HK1.out;omega⟩,by repeat (first|exact Drawn0.refl _|apply Drawn0.step)⟩
      ·rw [if_neg c6] at H
       exact absurd H (by simp)
     ·rw [if_neg c5] at H
      exact absurd H (by simp)
    ·rw [if_neg c4] at H
     have c4b0 : decide (x5_1 < (l0.length : Int)) = false:=decide_eq_false c4
     clear c4
     obtain rfl:=Option.some.inj H
     go_wp2
     repeat (go_quiet (fail);try go_wp2)
     go_ret
     exact ⟨by first|rfl|(simp;done)|(simp [*];done),by repeat (first|exact Drawn0.refl _|apply Drawn0.step)⟩
 ·rw [if_neg c3] at H
  have c3b0 : ((l0.length : Int) == (l1.length : Int)) = false:=beq_eq_false_iff_ne.mpr c3
  have c3b1 : ((l0.length : Int) != (l1.length : Int)) = true:=bne_iff_ne.mpr c3
  have c3b2 : (l0.length == l1.length) = false:=by first|simpa using c3|(simp at c3 ⊢;omega)
  obtain rfl:=Option.some.inj H
  go_enter Try.func44,Try.ntmps44
  go_wp2
  repeat (go_quiet (fail);try go_wp2)
  go_ret
  exact ⟨by first|rfl|(simp;done)|(simp [*];done),by repeat (first|exact Drawn0.refl _|apply Drawn0.step)⟩

/-! ### hinterlandsame_List_int: function 45 -/
def hinterlandsame_List_int.l0 : Nat → List Int → List Int → Int → Option (Bool)
 | 0,_,_,_ => none
 | k + 1,x0,x1,x5 => if x5 < (x0.length : Int) then (if 0 ≤ x5 then (if x5 < (x1.length : Int) then (if (rd x0 x5) = (rd x1 x5) then (hinterlandsame_List_int.l0 k x0 x1 (wrap64 (x5 + 1))) else (some false)) else (none)) else (none)) else (some true)
def hinterlandsame_List_int.f (k : Nat) (l0 : List Int) (l1 : List Int) : Option (Bool) := if (l0.length : Int) = (l1.length : Int) then (hinterlandsame_List_int.l0 k l0 l1 0) else (some false)
theorem hinterlandsame_List_int.mono_l : ∀ k, (∀ y0 y1 y2, LeO (hinterlandsame_List_int.l0 k y0 y1 y2) (hinterlandsame_List_int.l0 (k + 1) y0 y1 y2))
 | 0 => fun _ _ _ r h => by simp [hinterlandsame_List_int.l0] at h
 | k + 1 => by
  have ih0:=hinterlandsame_List_int.mono_l k
  ·intro y0 y1 y2
   unfold hinterlandsame_List_int.l0
   repeat' first
   | (with_reducible exact ih0 _ _ _)
   | (with_reducible exact LeO.refl _)
   | (with_reducible exact LeO.none _)
   | (with_reducible refine LeO.ite ?_ ?_)
   | (with_reducible refine LeO.bind ?_ (fun _ => ?_))
   | exact ih0 _ _ _
   | exact LeO.none _
   | refine LeO.ite ?_ ?_
   | refine LeO.bind ?_ (fun _ => ?_)
theorem hinterlandsame_List_int.mono : ∀ a0 a1 k, LeO (hinterlandsame_List_int.f k a0 a1) (hinterlandsame_List_int.f (k + 1) a0 a1) := by
 intro a0 a1 k
 have ih0:=hinterlandsame_List_int.mono_l k
 unfold hinterlandsame_List_int.f
 repeat' first
   | (with_reducible exact ih0 _ _ _)
   | (with_reducible exact LeO.refl _)
   | (with_reducible exact LeO.none _)
   | (with_reducible refine LeO.ite ?_ ?_)
   | (with_reducible refine LeO.bind ?_ (fun _ => ?_))
   | exact ih0 _ _ _
   | exact LeO.none _
   | refine LeO.ite ?_ ?_
   | refine LeO.bind ?_ (fun _ => ?_)
set_option maxHeartbeats 8000000 in
set_option maxRecDepth 100000 in
theorem hinterlandsame_List_int.calls (k : Nat) (A0 : Option Addr) (c0 : Nat) (l0 : List Int) (A1 : Option Addr) (c1 : Nat) (l1 : List Int) (r : Bool) (w : World) (hr0 : Kd.C (Kd.int .i64) w A0 l0.length l0) (hc0 : l0.length ≤ c0) (hr1 : Kd.C (Kd.int .i64) w A1 l1.length l1) (hc1 : l1.length ≤ c1) (h : hinterlandsame_List_int.f k l0 l1 = some r) :
  Calls Try.prog 45 #[.slice A0 l0.length c0,.slice A1 l1.length c1] w fun e w' => e = .returned (.bool r) ∧ Drawn0 w w':=by
 have HR0:=Aside0.mk hr0
 have HC0:=Aside0.mk hc0
 clear hr0 hc0
 have HR1:=Aside0.mk hr1
 have HC1:=Aside0.mk hc1
 clear hr1 hc1
 have H : (if (l0.length : Int) = (l1.length : Int) then (hinterlandsame_List_int.l0 k l0 l1 0) else (some false)) = some r:=h
 clear h
 by_cases c3 : (l0.length : Int) = (l1.length : Int)
 ·rw [if_pos c3] at H
  have c3b0 : ((l0.length : Int) == (l1.length : Int)) = true:=beq_iff_eq.mpr c3
  have c3b1 : ((l0.length : Int) != (l1.length : Int)) = false:=bne_eq_false_iff_eq.mpr c3
  have c3b2 : (l0.length == l1.length) = true:=by first|simpa using c3|(simp at c3 ⊢;omega)
  clear c3
  have H':=Aside0.mk H
  clear H
  go_enter Try.func45,Try.ntmps45
  go_wp2
  repeat (go_quiet (fail);try go_wp2)
  go_loopg [5] k (fun kq v5 w' => ∃ (x5_1 : Int),v5 = .int .i64 x5_1 ∧ Aside0 (hinterlandsame_List_int.l0 kq l0 l1 x5_1 = some r) ∧ Aside0 (kq ≤ k) ∧ Drawn0 w w')
  case atStart => exact ⟨(0),(by first|rfl|(simp;done)|(simp [*];done)),H',⟨Nat.le_refl _⟩,by repeat (first|exact Drawn0.refl _|apply Drawn0.step)⟩
  case round =>
   clear H'
   try clear c1
   try clear p2
   try clear c3
   try clear c3b0
   try clear c3b1
   try clear c3b2
   obtain ⟨x5_1,rfl,HA,HK1,⟨m1,rfl⟩⟩:=hrel
   cases gk with
   | zero => exact absurd HA.out (by simp [hinterlandsame_List_int.l0])
   | succ k1 =>
    have H:=HA.out
    clear HA
    simp only [hinterlandsame_List_int.l0] at H
    by_cases c4 : x5_1 < (l0.length : Int)
    ·rw [if_pos c4] at H
     have c4b0 : decide (x5_1 < (l0.length : Int)) = true:=decide_eq_true c4
     clear c4
     by_cases c5 : 0 ≤ x5_1
     ·rw [if_pos c5] at H
      have c5b0 : decide (0 ≤ x5_1) = true:=decide_eq_true c5
      clear c5
      by_cases c6 : x5_1 < (l1.length : Int)
      ·rw [if_pos c6] at H
       have c6b0 : decide (x5_1 < (l1.length : Int)) = true:=decide_eq_true c6
       clear c6
       by_cases c7 : (rd l0 x5_1) = (rd l1 x5_1)
       ·rw [if_pos c7] at H
        have c7b0 : ((rd l0 x5_1) == (rd l1 x5_1)) = true:=beq_iff_eq.mpr c7
        have c7b1 : ((rd l0 x5_1) != (rd l1 x5_1)) = false:=bne_eq_false_iff_eq.mpr c7
        clear c7
        have H':=Aside0.mk H
        clear H
        have p153 : 0 ≤ (x5_1 : Int):=of_decide_eq_true (by first|(with_reducible assumption)|assumption)
        have q153 : x5_1 < (l0.length : Int):=of_decide_eq_true (by first|(with_reducible assumption)|assumption)
        obtain ⟨ad153,e153,hx153_0⟩:=Kd.at_int HR0.out x5_1 p153 q153
        cases e153
        replace p153:=eq_true p153
        replace q153:=eq_true q153
        have p154 : 0 ≤ (x5_1 : Int):=of_decide_eq_true (by first|(with_reducible assumption)|assumption)
        have q154 : x5_1 < (l1.length : Int):=of_decide_eq_true (by first|(with_reducible assumption)|assumption)
        obtain ⟨ad154,e154,hx154_0⟩:=Kd.at_int HR1.out x5_1 p154 q154
        cases e154
        replace p154:=eq_true p154
        replace q154:=eq_true q154
        go_wp2
        repeat (go_quiet (fail);try go_wp2)
        go_roundg k1
        case measure => have:=HK1.out;omega
        case rel => exact ⟨(wrap64 (x5_1 + 1)),(by first|rfl|(simp;done)|(simp [*];done)),H',⟨by have:=HK1.out;omega⟩,by repeat (first|exact Drawn0.refl _|apply Drawn0.step)⟩
       ·rw [if_neg c7] at H
        have c7b0 : ((rd l0 x5_1) == (rd l1 x5_1)) = false:=beq_eq_false_iff_ne.mpr c7
        have c7b1 : ((rd l0 x5_1) != (rd l1 x5_1)) = true:=bne_iff_ne.mpr c7
        obtain rfl:=Option.some.inj H
        have p153 : 0 ≤ (x5_1 : Int):=of_decide_eq_true (by first|(with_reducible assumption)|assumption)
        have q153 : x5_1 < (l0.length : Int):=of_decide_eq_true (by first|(with_reducible assumption)|assumption)
        obtain ⟨ad153,e153,hx153_0⟩:=Kd.at_int HR0.out x5_1 p153 q153
        cases e153
        replace p153:=eq_true p153
        replace q153:=eq_true q153
        have p154 : 0 ≤ (x5_1 : Int):=of_decide_eq_true (by first|(with_reducible assumption)|assumption)
        have q154 : x5_1 < (l1.length : Int):=of_decide_eq_true (by first|(with_reducible assumption)|assumption)
        obtain ⟨ad154,e154,hx154_0⟩:=Kd.at_int HR1.out x5_1 p154 q154
        cases e154
        replace p154:=eq_true p154
        replace q154:=eq_true q154
        go_wp2
        repeat (go_quiet (fail);try go_wp2)
        go_ret
        exact ⟨by first|rfl|(simp;done)|(simp [*];done),by repeat (first|exact Drawn0.refl _|apply Drawn0.step)⟩
      ·rw [if_neg c6] at H
       exact absurd H (by simp)
     ·rw [if_neg c5] at H
      exact absurd H (by simp)
    ·rw [if_neg c4] at H
     have c4b0 : decide (x5_1 < (l0.length : Int)) = false:=decide_eq_false c4
     clear c4
     obtain rfl:=Option.some.inj H
     go_wp2
     repeat (go_quiet (fail);try go_wp2)
     go_ret
     exact ⟨by first|rfl|(simp;done)|(simp [*];done),by repeat (first|exact Drawn0.refl _|apply Drawn0.step)⟩
 ·rw [if_neg c3] at H
  have c3b0 : ((l0.length : Int) == (l1.length : Int)) = false:=beq_eq_false_iff_ne.mpr c3
  have c3b1 : ((l0.length : Int) != (l1.length : Int)) = true:=bne_iff_ne.mpr c3
  have c3b2 : (l0.length == l1.length) = false:=by first|simpa using c3|(simp at c3 ⊢;omega)
  obtain rfl:=Option.some.inj H
  go_enter Try.func45,Try.ntmps45
  go_wp2
  repeat (go_quiet (fail);try go_wp2)
  go_ret
  exact ⟨by first|rfl|(simp;done)|(simp [*];done),by repeat (first|exact Drawn0.refl _|apply Drawn0.step)⟩

/-! ### hinterlandsame_Town: function 17 -/
def hinterlandsame_Town.f (k : Nat) (a0_0 : Int) (l0_1 : List (S68)) (l0_2 : List Int) (a0_3 : Int) (a0_4 : Int) (a1_0 : Int) (l1_1 : List (S68)) (l1_2 : List Int) (a1_3 : Int) (a1_4 : Int) : Option (Bool) := if a0_0 = a1_0 then ((api_House_44.f k l0_1 l1_1).bind fun t157 => (if t157 = true then ((hinterlandsame_List_int.f k l0_2 l1_2).bind fun t158 => (if t158 = true then (if a0_3 = a1_3 then (some (a0_4 == a1_4)) else (some false)) else (some false))) else (some false))) else (some false)
theorem hinterlandsame_Town.mono : ∀ a0 a1 a2 a3 a4 a5 a6 a7 a8 a9 k, LeO (hinterlandsame_Town.f k a0 a1 a2 a3 a4 a5 a6 a7 a8 a9) (hinterlandsame_Town.f (k + 1) a0 a1 a2 a3 a4 a5 a6 a7 a8 a9) := by
 intro a0 a1 a2 a3 a4 a5 a6 a7 a8 a9 k
 unfold hinterlandsame_Town.f
 repeat' first
   | (with_reducible exact api_House_44.mono _ _ _)
   | (with_reducible exact hinterlandsame_List_int.mono _ _ _)
   | (with_reducible exact LeO.refl _)
   | (with_reducible exact LeO.none _)
   | (with_reducible refine LeO.ite ?_ ?_)
   | (with_reducible refine LeO.bind ?_ (fun _ => ?_))
   | exact api_House_44.mono _ _ _
   | exact hinterlandsame_List_int.mono _ _ _
   | exact LeO.none _
   | refine LeO.ite ?_ ?_
   | refine LeO.bind ?_ (fun _ => ?_)
set_option maxHeartbeats 8000000 in
set_option maxRecDepth 100000 in
theorem hinterlandsame_Town.calls (k : Nat) (a0_0 : Int) (A0_1 : Option Addr) (c0_1 : Nat) (l0_1 : List (S68)) (A0_2 : Option Addr) (c0_2 : Nat) (l0_2 : List Int) (a0_3 : Int) (a0_4 : Int) (a1_0 : Int) (A1_1 : Option Addr) (c1_1 : Nat) (l1_1 : List (S68)) (A1_2 : Option Addr) (c1_2 : Nat) (l1_2 : List Int) (a1_3 : Int) (a1_4 : Int) (r : Bool) (w : World) (hr0_1 : Kd.C k68 w A0_1 l0_1.length l0_1) (hc0_1 : l0_1.length ≤ c0_1) (hr0_2 : Kd.C (Kd.int .i64) w A0_2 l0_2.length l0_2) (hc0_2 : l0_2.length ≤ c0_2) (hr1_1 : Kd.C k68 w A1_1 l1_1.length l1_1) (hc1_1 : l1_1.length ≤ c1_1) (hr1_2 : Kd.C (Kd.int .i64) w A1_2 l1_2.length l1_2) (hc1_2 : l1_2.length ≤ c1_2) (h : hinterlandsame_Town.f k a0_0 l0_1 l0_2 a0_3 a0_4 a1_0 l1_1 l1_2 a1_3 a1_4 = some r) :
  Calls Try.prog 17 #[.agg #[.int .i64 a0_0,.slice A0_1 l0_1.length c0_1,.slice A0_2 l0_2.length c0_2,.int .i64 a0_3,.int .i64 a0_4],.agg #[.int .i64 a1_0,.slice A1_1 l1_1.length c1_1,.slice A1_2 l1_2.length c1_2,.int .i64 a1_3,.int .i64 a1_4]] w fun e w' => e = .returned (.bool r) ∧ Below w.heap.size w w':=by
 have hu25:=Try.underlying25
 have HR0_1:=Aside0.mk hr0_1
 have HC0_1:=Aside0.mk hc0_1
 clear hr0_1 hc0_1
 have HR0_2:=Aside0.mk hr0_2
 have HC0_2:=Aside0.mk hc0_2
 clear hr0_2 hc0_2
 have HR1_1:=Aside0.mk hr1_1
 have HC1_1:=Aside0.mk hc1_1
 clear hr1_1 hc1_1
 have HR1_2:=Aside0.mk hr1_2
 have HC1_2:=Aside0.mk hc1_2
 clear hr1_2 hc1_2
 have HB:=Aside0.mk (Below.refl w.heap.size w)
 have H : (if a0_0 = a1_0 then ((api_House_44.f k l0_1 l1_1).bind fun t157 => (if t157 = true then ((hinterlandsame_List_int.f k l0_2 l1_2).bind fun t158 => (if t158 = true then (if a0_3 = a1_3 then (some (a0_4 == a1_4)) else (some false)) else (some false))) else (some false))) else (some false)) = some r:=h
 clear h
 by_cases c3 : a0_0 = a1_0
 ·rw [if_pos c3] at H
  have c3b0 : (a0_0 == a1_0) = true:=beq_iff_eq.mpr c3
  have c3b1 : (a0_0 != a1_0) = false:=bne_eq_false_iff_eq.mpr c3
  clear c3
  replace H:=Option.bind_eq_some_iff.mp H
  obtain ⟨t157,A40,H⟩:=H
  replace H : (if t157 = true then ((hinterlandsame_List_int.f k l0_2 l1_2).bind fun t158 => (if t158 = true then (if a0_3 = a1_3 then (some (a0_4 == a1_4)) else (some false)) else (some false))) else (some false)) = some r:=H
  have A4:=Aside0.mk A40
  clear A40
  by_cases c5 : t157 = true
  ·subst c5
   have H1 : ((hinterlandsame_List_int.f k l0_2 l1_2).bind fun t158 => (if t158 = true then (if a0_3 = a1_3 then (some (a0_4 == a1_4)) else (some false)) else (some false))) = some r:=by rw [if_pos rfl] at H;exact H
   clear H
   have H:=H1
   clear H1
   replace H:=Option.bind_eq_some_iff.mp H
   obtain ⟨t158,A60,H⟩:=H
   replace H : (if t158 = true then (if a0_3 = a1_3 then (some (a0_4 == a1_4)) else (some false)) else (some false)) = some r:=H
   have A6:=Aside0.mk A60
   clear A60
   by_cases c7 : t158 = true
   ·subst c7
    have H1 : (if a0_3 = a1_3 then (some (a0_4 == a1_4)) else (some false)) = some r:=by rw [if_pos rfl] at H;exact H
    clear H
    have H:=H1
    clear H1
    by_cases c8 : a0_3 = a1_3
    ·rw [if_pos c8] at H
     have c8b0 : (a0_3 == a1_3) = true:=beq_iff_eq.mpr c8
     have c8b1 : (a0_3 != a1_3) = false:=bne_eq_false_iff_eq.mpr c8
     clear c8
     obtain rfl:=Option.some.inj H
     go_enter Try.func17,Try.ntmps17
     go_wp2_with (first|((with_reducible refine gate_dst (N:=2) rfl ?_);refine box_event ?hg (N:=2) ?hd (cs:=#[.int .i64 a0_0,.slice A0_1 l0_1.length c0_1,.slice A0_2 l0_2.length c0_2,.int .i64 a0_3,.int .i64 a0_4]) (t:=25) ?hr ?_;(case hd => rfl);(case hg => rfl);(case hr => first|(go_simp;done)|(go_simp;rfl));intro gb155 hg w9 hbox hb;have n0_:=Aside0.mk (below_step (by repeat (first|(with_reducible first|exact HB.out|apply below_alloc|apply pw_below_drewN|apply below_drew1)|exact HB.out)) hb);have n1_:=Aside0.mk (hbox);have n2_:=Aside0.mk ((by rw [hg];exact (below_size (by repeat (first|(with_reducible first|exact HB.out|apply below_alloc|apply pw_below_drewN|apply below_drew1)|exact HB.out))) : w.heap.size ≤ gb155));have n3_:=Aside0.mk ((by rw [hg];exact (below_size (by repeat (first|(with_reducible first|exact HB.out|apply below_alloc|apply pw_below_drewN|apply below_drew1)|exact HB.out))) : w.heap.size ≤ gb155));clear HB;have HB:=n0_;have BK155:=n1_;have GW155:=n2_;have GE155:=n3_;clear n0_ n1_ n2_ n3_;clear hb hbox hg)|((with_reducible refine gate_dst (N:=3) rfl ?_);refine box_event ?hg (N:=3) ?hd (cs:=#[.int .i64 a1_0,.slice A1_1 l1_1.length c1_1,.slice A1_2 l1_2.length c1_2,.int .i64 a1_3,.int .i64 a1_4]) (t:=25) ?hr ?_;(case hd => rfl);(case hg => rfl);(case hr => first|(go_simp;done)|(go_simp;rfl));intro gb156 hg w10 hbox hb;have n0_:=Aside0.mk (blk_below (g:=gb155) (o:=.cells #[.int .i64 a0_0,.slice A0_1 l0_1.length c0_1,.slice A0_2 l0_2.length c0_2,.int .i64 a0_3,.int .i64 a0_4] 25 (0,0)) (by (with_reducible repeat (first|refine blk_drewN ?_ _|refine blk_drew ?_|refine blk_alloc ?_ _));exact BK155.out) hb);have n1_:=Aside0.mk (below_step (by repeat (first|(with_reducible first|exact HB.out|apply below_alloc|apply pw_below_drewN|apply below_drew1|refine below_set ?_ GE155.out)|exact HB.out)) hb);have n2_:=Aside0.mk (hbox);have n3_:=Aside0.mk ((by rw [hg];exact (below_size (by repeat (first|(with_reducible first|exact HB.out|apply below_alloc|apply pw_below_drewN|apply below_drew1|refine below_set ?_ GE155.out)|exact HB.out))) : w.heap.size ≤ gb156));have n4_:=Aside0.mk ((by rw [hg];exact (below_size (by repeat (first|(with_reducible first|exact HB.out|apply below_alloc|apply pw_below_drewN|apply below_drew1|refine below_set ?_ GE155.out)|exact HB.out))) : w.heap.size ≤ gb156));have n5_:=Aside0.mk ((by rw [hg];exact Nat.ne_of_lt (blk_lt (g:=gb155) (o:=.cells #[.int .i64 a0_0,.slice A0_1 l0_1.length c0_1,.slice A0_2 l0_2.length c0_2,.int .i64 a0_3,.int .i64 a0_4] 25 (0,0)) (by (with_reducible repeat (first|refine blk_drewN ?_ _|refine blk_drew ?_|refine blk_alloc ?_ _));exact BK155.out)) : gb155 ≠ gb156));have n6_:=Aside0.mk ((by rw [hg];exact Nat.ne_of_gt (blk_lt (g:=gb155) (o:=.cells #[.int .i64 a0_0,.slice A0_1 l0_1.length c0_1,.slice A0_2 l0_2.length c0_2,.int .i64 a0_3,.int .i64 a0_4] 25 (0,0)) (by (with_reducible repeat (first|refine blk_drewN ?_ _|refine blk_drew ?_|refine blk_alloc ?_ _));exact BK155.out)) : gb156 ≠ gb155));clear BK155;clear HB;have BK155:=n0_;have HB:=n1_;have BK156:=n2_;have GW156:=n3_;have GE156:=n4_;have NB155_156:=n5_;have NB156_155:=n6_;clear n0_ n1_ n2_ n3_ n4_ n5_ n6_;clear hb hbox hg;have hnb11:=NB155_156.out;have hnc11:=NB156_155.out;have hcz12_0 : w10.cell? ⟨gb155,0,none⟩ = some (.int .i64 a0_0):=(blk_cell BK155.out 0).trans rfl;have hcz12_1 : w10.cell? ⟨gb155,1,none⟩ = some (.slice A0_1 l0_1.length c0_1):=(blk_cell BK155.out 1).trans rfl;have hcz12_2 : w10.cell? ⟨gb155,2,none⟩ = some (.slice A0_2 l0_2.length c0_2):=(blk_cell BK155.out 2).trans rfl;have hcz12_3 : w10.cell? ⟨gb155,3,none⟩ = some (.int .i64 a0_3):=(blk_cell BK155.out 3).trans rfl;have hcz12_4 : w10.cell? ⟨gb155,4,none⟩ = some (.int .i64 a0_4):=(blk_cell BK155.out 4).trans rfl;have hfz12_0:=blk_frozen BK155.out 0;have hfz12_1:=blk_frozen BK155.out 1;have hfz12_2:=blk_frozen BK155.out 2;have hfz12_3:=blk_frozen BK155.out 3;have hfz12_4:=blk_frozen BK155.out 4;have hcz13_0 : w10.cell? ⟨gb156,0,none⟩ = some (.int .i64 a1_0):=(blk_cell BK156.out 0).trans rfl;have hcz13_1 : w10.cell? ⟨gb156,1,none⟩ = some (.slice A1_1 l1_1.length c1_1):=(blk_cell BK156.out 1).trans rfl;have hcz13_2 : w10.cell? ⟨gb156,2,none⟩ = some (.slice A1_2 l1_2.length c1_2):=(blk_cell BK156.out 2).trans rfl;have hcz13_3 : w10.cell? ⟨gb156,3,none⟩ = some (.int .i64 a1_3):=(blk_cell BK156.out 3).trans rfl;have hcz13_4 : w10.cell? ⟨gb156,4,none⟩ = some (.int .i64 a1_4):=(blk_cell BK156.out 4).trans rfl;have hfz13_0:=blk_frozen BK156.out 0;have hfz13_1:=blk_frozen BK156.out 1;have hfz13_2:=blk_frozen BK156.out 2;have hfz13_3:=blk_frozen BK156.out 3;have hfz13_4:=blk_frozen BK156.out 4)|(go_at_call 44;(with_reducible refine (api_House_44.calls k _ _ l0_1 _ _ l1_1 true _ ?side1 ?side2 ?side3 ?side4 A4.out).mono ?_);(case side1 => repeat (first|exact (Kd.C_below HR0_1.out HB.out)|(with_reducible refine Kd.C_alloc ?_ _)|(with_reducible refine Kd.C_drewN ?_ _)|(with_reducible refine Kd.C_drew ?_)));(case side2 => exact HC0_1.out);(case side3 => repeat (first|exact (Kd.C_below HR1_1.out HB.out)|(with_reducible refine Kd.C_alloc ?_ _)|(with_reducible refine Kd.C_drewN ?_ _)|(with_reducible refine Kd.C_drew ?_)));(case side4 => exact HC1_1.out);rintro e w' ⟨rfl,⟨nd,rfl⟩⟩)|(go_at_call 45;(with_reducible refine (hinterlandsame_List_int.calls k _ _ l0_2 _ _ l1_2 true _ ?side1 ?side2 ?side3 ?side4 A6.out).mono ?_);(case side1 => repeat (first|exact (Kd.C_below HR0_2.out (by repeat (first|(with_reducible first|exact HB.out|apply below_alloc|apply pw_below_drewN|apply below_drew1|refine below_set ?_ GE155.out|refine below_set ?_ GE156.out)|exact HB.out)))|(with_reducible refine Kd.C_alloc ?_ _)|(with_reducible refine Kd.C_drewN ?_ _)|(with_reducible refine Kd.C_drew ?_)));(case side2 => exact HC0_2.out);(case side3 => repeat (first|exact (Kd.C_below HR1_2.out (by repeat (first|(with_reducible first|exact HB.out|apply below_alloc|apply pw_below_drewN|apply below_drew1|refine below_set ?_ GE155.out|refine below_set ?_ GE156.out)|exact HB.out)))|(with_reducible refine Kd.C_alloc ?_ _)|(with_reducible refine Kd.C_drewN ?_ _)|(with_reducible refine Kd.C_drew ?_)));(case side4 => exact HC1_2.out);rintro e w' ⟨rfl,⟨nd,rfl⟩⟩))
     go_ret
     exact ⟨by first|rfl|(simp [errW_none,errW_some] <;> rfl)|(simp [*,errW_none,errW_some] <;> rfl),by repeat (first|(with_reducible first|exact HB.out|apply below_alloc|apply pw_below_drewN|apply below_drew1|refine below_set ?_ GE155.out|refine below_set ?_ GE156.out)|exact HB.out)⟩
    ·rw [if_neg c8] at H
     have c8b0 : (a0_3 == a1_3) = false:=beq_eq_false_iff_ne.mpr c8
     have c8b1 : (a0_3 != a1_3) = true:=bne_iff_ne.mpr c8
     obtain rfl:=Option.some.inj H
     go_enter Try.func17,Try.ntmps17
     go_wp2_with (first|((with_reducible refine gate_dst (N:=2) rfl ?_);refine box_event ?hg (N:=2) ?hd (cs:=#[.int .i64 a0_0,.slice A0_1 l0_1.length c0_1,.slice A0_2 l0_2.length c0_2,.int .i64 a0_3,.int .i64 a0_4]) (t:=25) ?hr ?_;(case hd => rfl);(case hg => rfl);(case hr => first|(go_simp;done)|(go_simp;rfl));intro gb155 hg w14 hbox hb;have n0_:=Aside0.mk (below_step (by repeat (first|(with_reducible first|exact HB.out|apply below_alloc|apply pw_below_drewN|apply below_drew1)|exact HB.out)) hb);have n1_:=Aside0.mk (hbox);have n2_:=Aside0.mk ((by rw [hg];exact (below_size (by repeat (first|(with_reducible first|exact HB.out|apply below_alloc|apply pw_below_drewN|apply below_drew1)|exact HB.out))) : w.heap.size ≤ gb155));have n3_:=Aside0.mk ((by rw [hg];exact (below_size (by repeat (first|(with_reducible first|exact HB.out|apply below_alloc|apply pw_below_drewN|apply below_drew1)|exact HB.out))) : w.heap.size ≤ gb155));clear HB;have HB:=n0_;have BK155:=n1_;have GW155:=n2_;have GE155:=n3_;clear n0_ n1_ n2_ n3_;clear hb hbox hg)|((with_reducible refine gate_dst (N:=3) rfl ?_);refine box_event ?hg (N:=3) ?hd (cs:=#[.int .i64 a1_0,.slice A1_1 l1_1.length c1_1,.slice A1_2 l1_2.length c1_2,.int .i64 a1_3,.int .i64 a1_4]) (t:=25) ?hr ?_;(case hd => rfl);(case hg => rfl);(case hr => first|(go_simp;done)|(go_simp;rfl));intro gb156 hg w15 hbox hb;have n0_:=Aside0.mk (blk_below (g:=gb155) (o:=.cells #[.int .i64 a0_0,.slice A0_1 l0_1.length c0_1,.slice A0_2 l0_2.length c0_2,.int .i64 a0_3,.int .i64 a0_4] 25 (0,0)) (by (with_reducible repeat (first|refine blk_drewN ?_ _|refine blk_drew ?_|refine blk_alloc ?_ _));exact BK155.out) hb);have n1_:=Aside0.mk (below_step (by repeat (first|(with_reducible first|exact HB.out|apply below_alloc|apply pw_below_drewN|apply below_drew1|refine below_set ?_ GE155.out)|exact HB.out)) hb);have n2_:=Aside0.mk (hbox);have n3_:=Aside0.mk ((by rw [hg];exact (below_size (by repeat (first|(with_reducible first|exact HB.out|apply below_alloc|apply pw_below_drewN|apply below_drew1|refine below_set ?_ GE155.out)|exact HB.out))) : w.heap.size ≤ gb156));have n4_:=Aside0.mk ((by rw [hg];exact (below_size (by repeat (first|(with_reducible first|exact HB.out|apply below_alloc|apply pw_below_drewN|apply below_drew1|refine below_set ?_ GE155.out)|exact HB.out))) : w.heap.size ≤ gb156));have n5_:=Aside0.mk ((by rw [hg];exact Nat.ne_of_lt (blk_lt (g:=gb155) (o:=.cells #[.int .i64 a0_0,.slice A0_1 l0_1.length c0_1,.slice A0_2 l0_2.length c0_2,.int .i64 a0_3,.int .i64 a0_4] 25 (0,0)) (by (with_reducible repeat (first|refine blk_drewN ?_ _|refine blk_drew ?_|refine blk_alloc ?_ _));exact BK155.out)) : gb155 ≠ gb156));have n6_:=Aside0.mk ((by rw [hg];exact Nat.ne_of_gt (blk_lt (g:=gb155) (o:=.cells #[.int .i64 a0_0,.slice A0_1 l0_1.length c0_1,.slice A0_2 l0_2.length c0_2,.int .i64 a0_3,.int .i64 a0_4] 25 (0,0)) (by (with_reducible repeat (first|refine blk_drewN ?_ _|refine blk_drew ?_|refine blk_alloc ?_ _));exact BK155.out)) : gb156 ≠ gb155));clear BK155;clear HB;have BK155:=n0_;have HB:=n1_;have BK156:=n2_;have GW156:=n3_;have GE156:=n4_;have NB155_156:=n5_;have NB156_155:=n6_;clear n0_ n1_ n2_ n3_ n4_ n5_ n6_;clear hb hbox hg;have hnb16:=NB155_156.out;have hnc16:=NB156_155.out;have hcz17_0 : w15.cell? ⟨gb155,0,none⟩ = some (.int .i64 a0_0):=(blk_cell BK155.out 0).trans rfl;have hcz17_1 : w15.cell? ⟨gb155,1,none⟩ = some (.slice A0_1 l0_1.length c0_1):=(blk_cell BK155.out 1).trans rfl;have hcz17_2 : w15.cell? ⟨gb155,2,none⟩ = some (.slice A0_2 l0_2.length c0_2):=(blk_cell BK155.out 2).trans rfl;have hcz17_3 : w15.cell? ⟨gb155,3,none⟩ = some (.int .i64 a0_3):=(blk_cell BK155.out 3).trans rfl;have hcz17_4 : w15.cell? ⟨gb155,4,none⟩ = some (.int .i64 a0_4):=(blk_cell BK155.out 4).trans rfl;have hfz17_0:=blk_frozen BK155.out 0;have hfz17_1:=blk_frozen BK155.out 1;have hfz17_2:=blk_frozen BK155.out 2;have hfz17_3:=blk_frozen BK155.out 3;have hfz17_4:=blk_frozen BK155.out 4;have hcz18_0 : w15.cell? ⟨gb156,0,none⟩ = some (.int .i64 a1_0):=(blk_cell BK156.out 0).trans rfl;have hcz18_1 : w15.cell? ⟨gb156,1,none⟩ = some (.slice A1_1 l1_1.length c1_1):=(blk_cell BK156.out 1).trans rfl;have hcz18_2 : w15.cell? ⟨gb156,2,none⟩ = some (.slice A1_2 l1_2.length c1_2):=(blk_cell BK156.out 2).trans rfl;have hcz18_3 : w15.cell? ⟨gb156,3,none⟩ = some (.int .i64 a1_3):=(blk_cell BK156.out 3).trans rfl;have hcz18_4 : w15.cell? ⟨gb156,4,none⟩ = some (.int .i64 a1_4):=(blk_cell BK156.out 4).trans rfl;have hfz18_0:=blk_frozen BK156.out 0;have hfz18_1:=blk_frozen BK156.out 1;have hfz18_2:=blk_frozen BK156.out 2;have hfz18_3:=blk_frozen BK156.out 3;have hfz18_4:=blk_frozen BK156.out 4)|(go_at_call 44;(with_reducible refine (api_House_44.calls k _ _ l0_1 _ _ l1_1 true _ ?side1 ?side2 ?side3 ?side4 A4.out).mono ?_);(case side1 => repeat (first|exact (Kd.C_below HR0_1.out HB.out)|(with_reducible refine Kd.C_alloc ?_ _)|(with_reducible refine Kd.C_drewN ?_ _)|(with_reducible refine Kd.C_drew ?_)));(case side2 => exact HC0_1.out);(case side3 => repeat (first|exact (Kd.C_below HR1_1.out HB.out)|(with_reducible refine Kd.C_alloc ?_ _)|(with_reducible refine Kd.C_drewN ?_ _)|(with_reducible refine Kd.C_drew ?_)));(case side4 => exact HC1_1.out);rintro e w' ⟨rfl,⟨nd,rfl⟩⟩)|(go_at_call 45;(with_reducible refine (hinterlandsame_List_int.calls k _ _ l0_2 _ _ l1_2 true _ ?side1 ?side2 ?side3 ?side4 A6.out).mono ?_);(case side1 => repeat (first|exact (Kd.C_below HR0_2.out (by repeat (first|(with_reducible first|exact HB.out|apply below_alloc|apply pw_below_drewN|apply below_drew1|refine below_set ?_ GE155.out|refine below_set ?_ GE156.out)|exact HB.out)))|(with_reducible refine Kd.C_alloc ?_ _)|(with_reducible refine Kd.C_drewN ?_ _)|(with_reducible refine Kd.C_drew ?_)));(case side2 => exact HC0_2.out);(case side3 => repeat (first|exact (Kd.C_below HR1_2.out (by repeat (first|(with_reducible first|exact HB.out|apply below_alloc|apply pw_below_drewN|apply below_drew1|refine below_set ?_ GE155.out|refine below_set ?_ GE156.out)|exact HB.out)))|(with_reducible refine Kd.C_alloc ?_ _)|(with_reducible refine Kd.C_drewN ?_ _)|(with_reducible refine Kd.C_drew ?_)));(case side4 => exact HC1_2.out);rintro e w' ⟨rfl,⟨nd,rfl⟩⟩))
     go_ret
     exact ⟨by first|rfl|(simp [errW_none,errW_some] <;> rfl)|(simp [*,errW_none,errW_some] <;> rfl),by repeat (first|(with_reducible first|exact HB.out|apply below_alloc|apply pw_below_drewN|apply below_drew1|refine below_set ?_ GE155.out|refine below_set ?_ GE156.out)|exact HB.out)⟩
   ·replace c7:=Bool.eq_false_iff.mpr c7
    subst c7
    have H1 : (some false) = some r:=by rw [if_neg (show ¬ (false = true) by decide)] at H;exact H
    clear H
    have H:=H1
    clear H1
    obtain rfl:=Option.some.inj H
    go_enter Try.func17,Try.ntmps17
    go_wp2_with (first|((with_reducible refine gate_dst (N:=2) rfl ?_);refine box_event ?hg (N:=2) ?hd (cs:=#[.int .i64 a0_0,.slice A0_1 l0_1.length c0_1,.slice A0_2 l0_2.length c0_2,.int .i64 a0_3,.int .i64 a0_4]) (t:=25) ?hr ?_;(case hd => rfl);(case hg => rfl);(case hr => first|(go_simp;done)|(go_simp;rfl));intro gb155 hg w19 hbox hb;have n0_:=Aside0.mk (below_step (by repeat (first|(with_reducible first|exact HB.out|apply below_alloc|apply pw_below_drewN|apply below_drew1)|exact HB.out)) hb);have n1_:=Aside0.mk (hbox);have n2_:=Aside0.mk ((by rw [hg];exact (below_size (by repeat (first|(with_reducible first|exact HB.out|apply below_alloc|apply pw_below_drewN|apply below_drew1)|exact HB.out))) : w.heap.size ≤ gb155));have n3_:=Aside0.mk ((by rw [hg];exact (below_size (by repeat (first|(with_reducible first|exact HB.out|apply below_alloc|apply pw_below_drewN|apply below_drew1)|exact HB.out))) : w.heap.size ≤ gb155));clear HB;have HB:=n0_;have BK155:=n1_;have GW155:=n2_;have GE155:=n3_;clear n0_ n1_ n2_ n3_;clear hb hbox hg)|((with_reducible refine gate_dst (N:=3) rfl ?_);refine box_event ?hg (N:=3) ?hd (cs:=#[.int .i64 a1_0,.slice A1_1 l1_1.length c1_1,.slice A1_2 l1_2.length c1_2,.int .i64 a1_3,.int .i64 a1_4]) (t:=25) ?hr ?_;(case hd => rfl);(case hg => rfl);(case hr => first|(go_simp;done)|(go_simp;rfl));intro gb156 hg w20 hbox hb;have n0_:=Aside0.mk (blk_below (g:=gb155) (o:=.cells #[.int .i64 a0_0,.slice A0_1 l0_1.length c0_1,.slice A0_2 l0_2.length c0_2,.int .i64 a0_3,.int .i64 a0_4] 25 (0,0)) (by (with_reducible repeat (first|refine blk_drewN ?_ _|refine blk_drew ?_|refine blk_alloc ?_ _));exact BK155.out) hb);have n1_:=Aside0.mk (below_step (by repeat (first|(with_reducible first|exact HB.out|apply below_alloc|apply pw_below_drewN|apply below_drew1|refine below_set ?_ GE155.out)|exact HB.out)) hb);have n2_:=Aside0.mk (hbox);have n3_:=Aside0.mk ((by rw [hg];exact (below_size (by repeat (first|(with_reducible first|exact HB.out|apply below_alloc|apply pw_below_drewN|apply below_drew1|refine below_set ?_ GE155.out)|exact HB.out))) : w.heap.size ≤ gb156));have n4_:=Aside0.mk ((by rw [hg];exact (below_size (by repeat (first|(with_reducible first|exact HB.out|apply below_alloc|apply pw_below_drewN|apply below_drew1|refine below_set ?_ GE155.out)|exact HB.out))) : w.heap.size ≤ gb156));have n5_:=Aside0.mk ((by rw [hg];exact Nat.ne_of_lt (blk_lt (g:=gb155) (o:=.cells #[.int .i64 a0_0,.slice A0_1 l0_1.length c0_1,.slice A0_2 l0_2.length c0_2,.int .i64 a0_3,.int .i64 a0_4] 25 (0,0)) (by (with_reducible repeat (first|refine blk_drewN ?_ _|refine blk_drew ?_|refine blk_alloc ?_ _));exact BK155.out)) : gb155 ≠ gb156));have n6_:=Aside0.mk ((by rw [hg];exact Nat.ne_of_gt (blk_lt (g:=gb155) (o:=.cells #[.int .i64 a0_0,.slice A0_1 l0_1.length c0_1,.slice A0_2 l0_2.length c0_2,.int .i64 a0_3,.int .i64 a0_4] 25 (0,0)) (by (with_reducible repeat (first|refine blk_drewN ?_ _|refine blk_drew ?_|refine blk_alloc ?_ _));exact BK155.out)) : gb156 ≠ gb155));clear BK155;clear HB;have BK155:=n0_;have HB:=n1_;have BK156:=n2_;have GW156:=n3_;have GE156:=n4_;have NB155_156:=n5_;have NB156_155:=n6_;clear n0_ n1_ n2_ n3_ n4_ n5_ n6_;clear hb hbox hg;have hnb21:=NB155_156.out;have hnc21:=NB156_155.out;have hcz22_0 : w20.cell? ⟨gb155,0,none⟩ = some (.int .i64 a0_0):=(blk_cell BK155.out 0).trans rfl;have hcz22_1 : w20.cell? ⟨gb155,1,none⟩ = some (.slice A0_1 l0_1.length c0_1):=(blk_cell BK155.out 1).trans rfl;have hcz22_2 : w20.cell? ⟨gb155,2,none⟩ = some (.slice A0_2 l0_2.length c0_2):=(blk_cell BK155.out 2).trans rfl;have hcz22_3 : w20.cell? ⟨gb155,3,none⟩ = some (.int .i64 a0_3):=(blk_cell BK155.out 3).trans rfl;have hcz22_4 : w20.cell? ⟨gb155,4,none⟩ = some (.int .i64 a0_4):=(blk_cell BK155.out 4).trans rfl;have hfz22_0:=blk_frozen BK155.out 0;have hfz22_1:=blk_frozen BK155.out 1;have hfz22_2:=blk_frozen BK155.out 2;have hfz22_3:=blk_frozen BK155.out 3;have hfz22_4:=blk_frozen BK155.out 4;have hcz23_0 : w20.cell? ⟨gb156,0,none⟩ = some (.int .i64 a1_0):=(blk_cell BK156.out 0).trans rfl;have hcz23_1 : w20.cell? ⟨gb156,1,none⟩ = some (.slice A1_1 l1_1.length c1_1):=(blk_cell BK156.out 1).trans rfl;have hcz23_2 : w20.cell? ⟨gb156,2,none⟩ = some (.slice A1_2 l1_2.length c1_2):=(blk_cell BK156.out 2).trans rfl;have hcz23_3 : w20.cell? ⟨gb156,3,none⟩ = some (.int .i64 a1_3):=(blk_cell BK156.out 3).trans rfl;have hcz23_4 : w20.cell? ⟨gb156,4,none⟩ = some (.int .i64 a1_4):=(blk_cell BK156.out 4).trans rfl;have hfz23_0:=blk_frozen BK156.out 0;have hfz23_1:=blk_frozen BK156.out 1;have hfz23_2:=blk_frozen BK156.out 2;have hfz23_3:=blk_frozen BK156.out 3;have hfz23_4:=blk_frozen BK156.out 4)|(go_at_call 44;(with_reducible refine (api_House_44.calls k _ _ l0_1 _ _ l1_1 true _ ?side1 ?side2 ?side3 ?side4 A4.out).mono ?_);(case side1 => repeat (first|exact (Kd.C_below HR0_1.out HB.out)|(with_reducible refine Kd.C_alloc ?_ _)|(with_reducible refine Kd.C_drewN ?_ _)|(with_reducible refine Kd.C_drew ?_)));(case side2 => exact HC0_1.out);(case side3 => repeat (first|exact (Kd.C_below HR1_1.out HB.out)|(with_reducible refine Kd.C_alloc ?_ _)|(with_reducible refine Kd.C_drewN ?_ _)|(with_reducible refine Kd.C_drew ?_)));(case side4 => exact HC1_1.out);rintro e w' ⟨rfl,⟨nd,rfl⟩⟩)|(go_at_call 45;(with_reducible refine (hinterlandsame_List_int.calls k _ _ l0_2 _ _ l1_2 false _ ?side1 ?side2 ?side3 ?side4 A6.out).mono ?_);(case side1 => repeat (first|exact (Kd.C_below HR0_2.out (by repeat (first|(with_reducible first|exact HB.out|apply below_alloc|apply pw_below_drewN|apply below_drew1|refine below_set ?_ GE155.out|refine below_set ?_ GE156.out)|exact HB.out)))|(with_reducible refine Kd.C_alloc ?_ _)|(with_reducible refine Kd.C_drewN ?_ _)|(with_reducible refine Kd.C_drew ?_)));(case side2 => exact HC0_2.out);(case side3 => repeat (first|exact (Kd.C_below HR1_2.out (by repeat (first|(with_reducible first|exact HB.out|apply below_alloc|apply pw_below_drewN|apply below_drew1|refine below_set ?_ GE155.out|refine below_set ?_ GE156.out)|exact HB.out)))|(with_reducible refine Kd.C_alloc ?_ _)|(with_reducible refine Kd.C_drewN ?_ _)|(with_reducible refine Kd.C_drew ?_)));(case side4 => exact HC1_2.out);rintro e w' ⟨rfl,⟨nd,rfl⟩⟩))
    go_ret
    exact ⟨by first|rfl|(simp [errW_none,errW_some] <;> rfl)|(simp [*,errW_none,errW_some] <;> rfl),by repeat (first|(with_reducible first|exact HB.out|apply below_alloc|apply pw_below_drewN|apply below_drew1|refine below_set ?_ GE155.out|refine below_set ?_ GE156.out)|exact HB.out)⟩
  ·replace c5:=Bool.eq_false_iff.mpr c5
   subst c5
   have H1 : (some false) = some r:=by rw [if_neg (show ¬ (false = true) by decide)] at H;exact H
   clear H
   have H:=H1
   clear H1
   obtain rfl:=Option.some.inj H
   go_enter Try.func17,Try.ntmps17
   go_wp2_with (first|((with_reducible refine gate_dst (N:=2) rfl ?_);refine box_event ?hg (N:=2) ?hd (cs:=#[.int .i64 a0_0,.slice A0_1 l0_1.length c0_1,.slice A0_2 l0_2.length c0_2,.int .i64 a0_3,.int .i64 a0_4]) (t:=25) ?hr ?_;(case hd => rfl);(case hg => rfl);(case hr => first|(go_simp;done)|(go_simp;rfl));intro gb155 hg w24 hbox hb;have n0_:=Aside0.mk (below_step (by repeat (first|(with_reducible first|exact HB.out|apply below_alloc|apply pw_below_drewN|apply below_drew1)|exact HB.out)) hb);have n1_:=Aside0.mk (hbox);have n2_:=Aside0.mk ((by rw [hg];exact (below_size (by repeat (first|(with_reducible first|exact HB.out|apply below_alloc|apply pw_below_drewN|apply below_drew1)|exact HB.out))) : w.heap.size ≤ gb155));have n3_:=Aside0.mk ((by rw [hg];exact (below_size (by repeat (first|(with_reducible first|exact HB.out|apply below_alloc|apply pw_below_drewN|apply below_drew1)|exact HB.out))) : w.heap.size ≤ gb155));clear HB;have HB:=n0_;have BK155:=n1_;have GW155:=n2_;have GE155:=n3_;clear n0_ n1_ n2_ n3_;clear hb hbox hg)|((with_reducible refine gate_dst (N:=3) rfl ?_);refine box_event ?hg (N:=3) ?hd (cs:=#[.int .i64 a1_0,.slice A1_1 l1_1.length c1_1,.slice A1_2 l1_2.length c1_2,.int .i64 a1_3,.int .i64 a1_4]) (t:=25) ?hr ?_;(case hd => rfl);(case hg => rfl);(case hr => first|(go_simp;done)|(go_simp;rfl));intro gb156 hg w25 hbox hb;have n0_:=Aside0.mk (blk_below (g:=gb155) (o:=.cells #[.int .i64 a0_0,.slice A0_1 l0_1.length c0_1,.slice A0_2 l0_2.length c0_2,.int .i64 a0_3,.int .i64 a0_4] 25 (0,0)) (by (with_reducible repeat (first|refine blk_drewN ?_ _|refine blk_drew ?_|refine blk_alloc ?_ _));exact BK155.out) hb);have n1_:=Aside0.mk (below_step (by repeat (first|(with_reducible first|exact HB.out|apply below_alloc|apply pw_below_drewN|apply below_drew1|refine below_set ?_ GE155.out)|exact HB.out)) hb);have n2_:=Aside0.mk (hbox);have n3_:=Aside0.mk ((by rw [hg];exact (below_size (by repeat (first|(with_reducible first|exact HB.out|apply below_alloc|apply pw_below_drewN|apply below_drew1|refine below_set ?_ GE155.out)|exact HB.out))) : w.heap.size ≤ gb156));have n4_:=Aside0.mk ((by rw [hg];exact (below_size (by repeat (first|(with_reducible first|exact HB.out|apply below_alloc|apply pw_below_drewN|apply below_drew1|refine below_set ?_ GE155.out)|exact HB.out))) : w.heap.size ≤ gb156));have n5_:=Aside0.mk ((by rw [hg];exact Nat.ne_of_lt (blk_lt (g:=gb155) (o:=.cells #[.int .i64 a0_0,.slice A0_1 l0_1.length c0_1,.slice A0_2 l0_2.length c0_2,.int .i64 a0_3,.int .i64 a0_4] 25 (0,0)) (by (with_reducible repeat (first|refine blk_drewN ?_ _|refine blk_drew ?_|refine blk_alloc ?_ _));exact BK155.out)) : gb155 ≠ gb156));have n6_:=Aside0.mk ((by rw [hg];exact Nat.ne_of_gt (blk_lt (g:=gb155) (o:=.cells #[.int .i64 a0_0,.slice A0_1 l0_1.length c0_1,.slice A0_2 l0_2.length c0_2,.int .i64 a0_3,.int .i64 a0_4] 25 (0,0)) (by (with_reducible repeat (first|refine blk_drewN ?_ _|refine blk_drew ?_|refine blk_alloc ?_ _));exact BK155.out)) : gb156 ≠ gb155));clear BK155;clear HB;have BK155:=n0_;have HB:=n1_;have BK156:=n2_;have GW156:=n3_;have GE156:=n4_;have NB155_156:=n5_;have NB156_155:=n6_;clear n0_ n1_ n2_ n3_ n4_ n5_ n6_;clear hb hbox hg;have hnb26:=NB155_156.out;have hnc26:=NB156_155.out;have hcz27_0 : w25.cell? ⟨gb155,0,none⟩ = some (.int .i64 a0_0):=(blk_cell BK155.out 0).trans rfl;have hcz27_1 : w25.cell? ⟨gb155,1,none⟩ = some (.slice A0_1 l0_1.length c0_1):=(blk_cell BK155.out 1).trans rfl;have hcz27_2 : w25.cell? ⟨gb155,2,none⟩ = some (.slice A0_2 l0_2.length c0_2):=(blk_cell BK155.out 2).trans rfl;have hcz27_3 : w25.cell? ⟨gb155,3,none⟩ = some (.int .i64 a0_3):=(blk_cell BK155.out 3).trans rfl;have hcz27_4 : w25.cell? ⟨gb155,4,none⟩ = some (.int .i64 a0_4):=(blk_cell BK155.out 4).trans rfl;have hfz27_0:=blk_frozen BK155.out 0;have hfz27_1:=blk_frozen BK155.out 1;have hfz27_2:=blk_frozen BK155.out 2;have hfz27_3:=blk_frozen BK155.out 3;have hfz27_4:=blk_frozen BK155.out 4;have hcz28_0 : w25.cell? ⟨gb156,0,none⟩ = some (.int .i64 a1_0):=(blk_cell BK156.out 0).trans rfl;have hcz28_1 : w25.cell? ⟨gb156,1,none⟩ = some (.slice A1_1 l1_1.length c1_1):=(blk_cell BK156.out 1).trans rfl;have hcz28_2 : w25.cell? ⟨gb156,2,none⟩ = some (.slice A1_2 l1_2.length c1_2):=(blk_cell BK156.out 2).trans rfl;have hcz28_3 : w25.cell? ⟨gb156,3,none⟩ = some (.int .i64 a1_3):=(blk_cell BK156.out 3).trans rfl;have hcz28_4 : w25.cell? ⟨gb156,4,none⟩ = some (.int .i64 a1_4):=(blk_cell BK156.out 4).trans rfl;have hfz28_0:=blk_frozen BK156.out 0;have hfz28_1:=blk_frozen BK156.out 1;have hfz28_2:=blk_frozen BK156.out 2;have hfz28_3:=blk_frozen BK156.out 3;have hfz28_4:=blk_frozen BK156.out 4)|(go_at_call 44;(with_reducible refine (api_House_44.calls k _ _ l0_1 _ _ l1_1 false _ ?side1 ?side2 ?side3 ?side4 A4.out).mono ?_);(case side1 => repeat (first|exact (Kd.C_below HR0_1.out HB.out)|(with_reducible refine Kd.C_alloc ?_ _)|(with_reducible refine Kd.C_drewN ?_ _)|(with_reducible refine Kd.C_drew ?_)));(case side2 => exact HC0_1.out);(case side3 => repeat (first|exact (Kd.C_below HR1_1.out HB.out)|(with_reducible refine Kd.C_alloc ?_ _)|(with_reducible refine Kd.C_drewN ?_ _)|(with_reducible refine Kd.C_drew ?_)));(case side4 => exact HC1_1.out);rintro e w' ⟨rfl,⟨nd,rfl⟩⟩))
   go_ret
   exact ⟨by first|rfl|(simp [errW_none,errW_some] <;> rfl)|(simp [*,errW_none,errW_some] <;> rfl),by repeat (first|(with_reducible first|exact HB.out|apply below_alloc|apply pw_below_drewN|apply below_drew1|refine below_set ?_ GE155.out|refine below_set ?_ GE156.out)|exact HB.out)⟩
 ·rw [if_neg c3] at H
  have c3b0 : (a0_0 == a1_0) = false:=beq_eq_false_iff_ne.mpr c3
  have c3b1 : (a0_0 != a1_0) = true:=bne_iff_ne.mpr c3
  obtain rfl:=Option.some.inj H
  go_enter Try.func17,Try.ntmps17
  go_wp2_with (first|((with_reducible refine gate_dst (N:=2) rfl ?_);refine box_event ?hg (N:=2) ?hd (cs:=#[.int .i64 a0_0,.slice A0_1 l0_1.length c0_1,.slice A0_2 l0_2.length c0_2,.int .i64 a0_3,.int .i64 a0_4]) (t:=25) ?hr ?_;(case hd => rfl);(case hg => rfl);(case hr => first|(go_simp;done)|(go_simp;rfl));intro gb155 hg w29 hbox hb;have n0_:=Aside0.mk (below_step (by repeat (first|(with_reducible first|exact HB.out|apply below_alloc|apply pw_below_drewN|apply below_drew1)|exact HB.out)) hb);have n1_:=Aside0.mk (hbox);have n2_:=Aside0.mk ((by rw [hg];exact (below_size (by repeat (first|(with_reducible first|exact HB.out|apply below_alloc|apply pw_below_drewN|apply below_drew1)|exact HB.out))) : w.heap.size ≤ gb155));have n3_:=Aside0.mk ((by rw [hg];exact (below_size (by repeat (first|(with_reducible first|exact HB.out|apply below_alloc|apply pw_below_drewN|apply below_drew1)|exact HB.out))) : w.heap.size ≤ gb155));clear HB;have HB:=n0_;have BK155:=n1_;have GW155:=n2_;have GE155:=n3_;clear n0_ n1_ n2_ n3_;clear hb hbox hg)|((with_reducible refine gate_dst (N:=3) rfl ?_);refine box_event ?hg (N:=3) ?hd (cs:=#[.int .i64 a1_0,.slice A1_1 l1_1.length c1_1,.slice A1_2 l1_2.length c1_2,.int .i64 a1_3,.int .i64 a1_4]) (t:=25) ?hr ?_;(case hd => rfl);(case hg => rfl);(case hr => first|(go_simp;done)|(go_simp;rfl));intro gb156 hg w30 hbox hb;have n0_:=Aside0.mk (blk_below (g:=gb155) (o:=.cells #[.int .i64 a0_0,.slice A0_1 l0_1.length c0_1,.slice A0_2 l0_2.length c0_2,.int .i64 a0_3,.int .i64 a0_4] 25 (0,0)) (by (with_reducible repeat (first|refine blk_drewN ?_ _|refine blk_drew ?_|refine blk_alloc ?_ _));exact BK155.out) hb);have n1_:=Aside0.mk (below_step (by repeat (first|(with_reducible first|exact HB.out|apply below_alloc|apply pw_below_drewN|apply below_drew1|refine below_set ?_ GE155.out)|exact HB.out)) hb);have n2_:=Aside0.mk (hbox);have n3_:=Aside0.mk ((by rw [hg];exact (below_size (by repeat (first|(with_reducible first|exact HB.out|apply below_alloc|apply pw_below_drewN|apply below_drew1|refine below_set ?_ GE155.out)|exact HB.out))) : w.heap.size ≤ gb156));have n4_:=Aside0.mk ((by rw [hg];exact (below_size (by repeat (first|(with_reducible first|exact HB.out|apply below_alloc|apply pw_below_drewN|apply below_drew1|refine below_set ?_ GE155.out)|exact HB.out))) : w.heap.size ≤ gb156));have n5_:=Aside0.mk ((by rw [hg];exact Nat.ne_of_lt (blk_lt (g:=gb155) (o:=.cells #[.int .i64 a0_0,.slice A0_1 l0_1.length c0_1,.slice A0_2 l0_2.length c0_2,.int .i64 a0_3,.int .i64 a0_4] 25 (0,0)) (by (with_reducible repeat (first|refine blk_drewN ?_ _|refine blk_drew ?_|refine blk_alloc ?_ _));exact BK155.out)) : gb155 ≠ gb156));have n6_:=Aside0.mk ((by rw [hg];exact Nat.ne_of_gt (blk_lt (g:=gb155) (o:=.cells #[.int .i64 a0_0,.slice A0_1 l0_1.length c0_1,.slice A0_2 l0_2.length c0_2,.int .i64 a0_3,.int .i64 a0_4] 25 (0,0)) (by (with_reducible repeat (first|refine blk_drewN ?_ _|refine blk_drew ?_|refine blk_alloc ?_ _));exact BK155.out)) : gb156 ≠ gb155));clear BK155;clear HB;have BK155:=n0_;have HB:=n1_;have BK156:=n2_;have GW156:=n3_;have GE156:=n4_;have NB155_156:=n5_;have NB156_155:=n6_;clear n0_ n1_ n2_ n3_ n4_ n5_ n6_;clear hb hbox hg;have hnb31:=NB155_156.out;have hnc31:=NB156_155.out;have hcz32_0 : w30.cell? ⟨gb155,0,none⟩ = some (.int .i64 a0_0):=(blk_cell BK155.out 0).trans rfl;have hcz32_1 : w30.cell? ⟨gb155,1,none⟩ = some (.slice A0_1 l0_1.length c0_1):=(blk_cell BK155.out 1).trans rfl;have hcz32_2 : w30.cell? ⟨gb155,2,none⟩ = some (.slice A0_2 l0_2.length c0_2):=(blk_cell BK155.out 2).trans rfl;have hcz32_3 : w30.cell? ⟨gb155,3,none⟩ = some (.int .i64 a0_3):=(blk_cell BK155.out 3).trans rfl;have hcz32_4 : w30.cell? ⟨gb155,4,none⟩ = some (.int .i64 a0_4):=(blk_cell BK155.out 4).trans rfl;have hfz32_0:=blk_frozen BK155.out 0;have hfz32_1:=blk_frozen BK155.out 1;have hfz32_2:=blk_frozen BK155.out 2;have hfz32_3:=blk_frozen BK155.out 3;have hfz32_4:=blk_frozen BK155.out 4;have hcz33_0 : w30.cell? ⟨gb156,0,none⟩ = some (.int .i64 a1_0):=(blk_cell BK156.out 0).trans rfl;have hcz33_1 : w30.cell? ⟨gb156,1,none⟩ = some (.slice A1_1 l1_1.length c1_1):=(blk_cell BK156.out 1).trans rfl;have hcz33_2 : w30.cell? ⟨gb156,2,none⟩ = some (.slice A1_2 l1_2.length c1_2):=(blk_cell BK156.out 2).trans rfl;have hcz33_3 : w30.cell? ⟨gb156,3,none⟩ = some (.int .i64 a1_3):=(blk_cell BK156.out 3).trans rfl;have hcz33_4 : w30.cell? ⟨gb156,4,none⟩ = some (.int .i64 a1_4):=(blk_cell BK156.out 4).trans rfl;have hfz33_0:=blk_frozen BK156.out 0;have hfz33_1:=blk_frozen BK156.out 1;have hfz33_2:=blk_frozen BK156.out 2;have hfz33_3:=blk_frozen BK156.out 3;have hfz33_4:=blk_frozen BK156.out 4))
  go_ret
  exact ⟨by first|rfl|(simp [errW_none,errW_some] <;> rfl)|(simp [*,errW_none,errW_some] <;> rfl),by repeat (first|(with_reducible first|exact HB.out|apply below_alloc|apply pw_below_drewN|apply below_drew1|refine below_set ?_ GE155.out|refine below_set ?_ GE156.out)|exact HB.out)⟩

end Go.Proofs.Ytbdijpjlgokfkaa.P

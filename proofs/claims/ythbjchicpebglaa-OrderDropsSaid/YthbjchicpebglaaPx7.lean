/- Functions of this seat as plain Lean functions, with proofs that the Go code comes to just their answers, or what stands between them and a law's statement; no conditions. (Laid by a program of this session, out of the kit's print.) -/
import Derived.Test.YthbjchicpebglaaPx0
import Derived.Test.YthbjchicpebglaaPx6
namespace Go.Proofs.Ythbjchicpebglaa.P
open Go.RowKit Go.Proofs.YthbjchicpebglaaW.PrintWords Go.Proofs.YthbjchicpebglaaW.PrintLast Go.Proofs.YthbjchicpebglaaW.PrintMore
attribute [local go_sem] max2_int min2_int max_two min_two max_three min_three max_four min_four   -- for this text's walks alone
set_option linter.unusedVariables false
set_option linter.unusedSimpArgs false

/-! ### hinterlandref15_bad: function 37 -/
def hinterlandref15_bad.j0 : Nat → Bool → Int → Int → Int → Int → Int → Int → Int → Int → Int → Option (Bool)
 | 0,_,_,_,_,_,_,_,_,_,_ => none
 | k + 1,x40,x139000,x139001,x139002,x139003,x139004,x139005,x139006,x139007,x139008 => if x40 = true then (some true) else (if x139000 = 2 then (if x139001 = 0 then (if x139002 = 0 then (if x139003 = 0 then (if x139007 = 0 then (some (x139008 != 0)) else (some true)) else (some true)) else (some true)) else (some true)) else (if x139000 = 1 then (if x139002 = 0 then (if x139003 = 0 then (if x139004 = 0 then (if x139005 = 0 then (some (x139006 != 0)) else (some true)) else (some true)) else (some true)) else (some true)) else (if x139004 = 0 then (if x139005 = 0 then (some (x139006 != 0)) else (some true)) else (some true))))
def hinterlandref15_bad.f (k : Nat) (a0_0 : Int) (a0_1 : Int) (a0_2 : Int) (a0_3 : Int) (a0_4 : Int) (a0_5 : Int) (a0_6 : Int) (a0_7 : Int) (a0_8 : Int) : Option (Bool) := (hinterlandref15_out.f a0_0 2).bind fun t139 => (if t139 = true then (hinterlandref15_bad.j0 k true a0_0 a0_1 a0_2 a0_3 a0_4 a0_5 a0_6 a0_7 a0_8) else ((hinterlandref15_out.f a0_1 1000000).bind fun t140 => (if t140 = true then (hinterlandref15_bad.j0 k true a0_0 a0_1 a0_2 a0_3 a0_4 a0_5 a0_6 a0_7 a0_8) else ((hinterlandref15_out.f a0_2 2).bind fun t141 => (if t141 = true then (hinterlandref15_bad.j0 k true a0_0 a0_1 a0_2 a0_3 a0_4 a0_5 a0_6 a0_7 a0_8) else ((hinterlandref15_out.f a0_3 2).bind fun t142 => (if t142 = true then (hinterlandref15_bad.j0 k true a0_0 a0_1 a0_2 a0_3 a0_4 a0_5 a0_6 a0_7 a0_8) else ((hinterlandref15_out.f a0_4 4).bind fun t143 => (if t143 = true then (hinterlandref15_bad.j0 k true a0_0 a0_1 a0_2 a0_3 a0_4 a0_5 a0_6 a0_7 a0_8) else ((hinterlandref15_out.f a0_5 1000000).bind fun t144 => (if t144 = true then (hinterlandref15_bad.j0 k true a0_0 a0_1 a0_2 a0_3 a0_4 a0_5 a0_6 a0_7 a0_8) else ((hinterlandref15_out.f a0_7 1000000).bind fun t145 => (if t145 = true then (hinterlandref15_bad.j0 k true a0_0 a0_1 a0_2 a0_3 a0_4 a0_5 a0_6 a0_7 a0_8) else ((hinterlandref15_out.f a0_8 1000000).bind fun t146 => (hinterlandref15_bad.j0 k t146 a0_0 a0_1 a0_2 a0_3 a0_4 a0_5 a0_6 a0_7 a0_8)))))))))))))))
theorem hinterlandref15_bad.mono_l : ∀ k, (∀ y0 y1 y2 y3 y4 y5 y6 y7 y8 y9, LeO (hinterlandref15_bad.j0 k y0 y1 y2 y3 y4 y5 y6 y7 y8 y9) (hinterlandref15_bad.j0 (k + 1) y0 y1 y2 y3 y4 y5 y6 y7 y8 y9))
 | 0 => fun _ _ _ _ _ _ _ _ _ _ r h => by simp [hinterlandref15_bad.j0] at h
 | k + 1 => by
  have ih0:=hinterlandref15_bad.mono_l k
  ·intro y0 y1 y2 y3 y4 y5 y6 y7 y8 y9
   unfold hinterlandref15_bad.j0
   repeat' first
   | (with_reducible exact ih0 _ _ _ _ _ _ _ _ _ _)
   | (with_reducible exact LeO.refl _)
   | (with_reducible exact LeO.none _)
   | (with_reducible refine LeO.ite ?_ ?_)
   | (with_reducible refine LeO.bind ?_ (fun _ => ?_))
   | exact ih0 _ _ _ _ _ _ _ _ _ _
   | exact LeO.none _
   | refine LeO.ite ?_ ?_
   | refine LeO.bind ?_ (fun _ => ?_)
theorem hinterlandref15_bad.mono : ∀ a0 a1 a2 a3 a4 a5 a6 a7 a8 k, LeO (hinterlandref15_bad.f k a0 a1 a2 a3 a4 a5 a6 a7 a8) (hinterlandref15_bad.f (k + 1) a0 a1 a2 a3 a4 a5 a6 a7 a8) := by
 intro a0 a1 a2 a3 a4 a5 a6 a7 a8 k
 have ih0:=hinterlandref15_bad.mono_l k
 unfold hinterlandref15_bad.f
 repeat' first
   | (with_reducible exact ih0 _ _ _ _ _ _ _ _ _ _)
   | (with_reducible exact LeO.refl _)
   | (with_reducible exact LeO.none _)
   | (with_reducible refine LeO.ite ?_ ?_)
   | (with_reducible refine LeO.bind ?_ (fun _ => ?_))
   | exact ih0 _ _ _ _ _ _ _ _ _ _
   | exact LeO.none _
   | refine LeO.ite ?_ ?_
   | refine LeO.bind ?_ (fun _ => ?_)
set_option maxHeartbeats 8000000 in
set_option maxRecDepth 100000 in
theorem hinterlandref15_bad.calls (k : Nat) (a0_0 : Int) (a0_1 : Int) (a0_2 : Int) (a0_3 : Int) (a0_4 : Int) (a0_5 : Int) (a0_6 : Int) (a0_7 : Int) (a0_8 : Int) (r : Bool) (w : World) (h : hinterlandref15_bad.f k a0_0 a0_1 a0_2 a0_3 a0_4 a0_5 a0_6 a0_7 a0_8 = some r) :
  Calls Try.prog 37 #[.agg #[.int .i64 a0_0,.int .i64 a0_1,.int .i64 a0_2,.int .i64 a0_3,.int .i64 a0_4,.int .i64 a0_5,.int .i64 a0_6,.int .i64 a0_7,.int .i64 a0_8]] w fun e w' => e = .returned (.bool r) ∧ Below w.heap.size w w':=by
 have hu33:=Try.underlying33
 have HB:=Aside0.mk (Below.refl w.heap.size w)
 have H : ((hinterlandref15_out.f a0_0 2).bind fun t139 => (if t139 = true then (hinterlandref15_bad.j0 k true a0_0 a0_1 a0_2 a0_3 a0_4 a0_5 a0_6 a0_7 a0_8) else ((hinterlandref15_out.f a0_1 1000000).bind fun t140 => (if t140 = true then (hinterlandref15_bad.j0 k true a0_0 a0_1 a0_2 a0_3 a0_4 a0_5 a0_6 a0_7 a0_8) else ((hinterlandref15_out.f a0_2 2).bind fun t141 => (if t141 = true then (hinterlandref15_bad.j0 k true a0_0 a0_1 a0_2 a0_3 a0_4 a0_5 a0_6 a0_7 a0_8) else ((hinterlandref15_out.f a0_3 2).bind fun t142 => (if t142 = true then (hinterlandref15_bad.j0 k true a0_0 a0_1 a0_2 a0_3 a0_4 a0_5 a0_6 a0_7 a0_8) else ((hinterlandref15_out.f a0_4 4).bind fun t143 => (if t143 = true then (hinterlandref15_bad.j0 k true a0_0 a0_1 a0_2 a0_3 a0_4 a0_5 a0_6 a0_7 a0_8) else ((hinterlandref15_out.f a0_5 1000000).bind fun t144 => (if t144 = true then (hinterlandref15_bad.j0 k true a0_0 a0_1 a0_2 a0_3 a0_4 a0_5 a0_6 a0_7 a0_8) else ((hinterlandref15_out.f a0_7 1000000).bind fun t145 => (if t145 = true then (hinterlandref15_bad.j0 k true a0_0 a0_1 a0_2 a0_3 a0_4 a0_5 a0_6 a0_7 a0_8) else ((hinterlandref15_out.f a0_8 1000000).bind fun t146 => (hinterlandref15_bad.j0 k t146 a0_0 a0_1 a0_2 a0_3 a0_4 a0_5 a0_6 a0_7 a0_8)))))))))))))))) = some r:=h
 clear h
 have HC2:=Aside0.mk H
 clear H
 go_enter Try.func37,Try.ntmps37
 go_upto_region 1 with (first|((with_reducible refine gate_dst (N:=1) rfl ?_);refine box_event ?hg (N:=1) ?hd (cs:=#[.int .i64 a0_0,.int .i64 a0_1,.int .i64 a0_2,.int .i64 a0_3,.int .i64 a0_4,.int .i64 a0_5,.int .i64 a0_6,.int .i64 a0_7,.int .i64 a0_8]) (t:=33) ?hr ?_;(case hd => rfl);(case hg => rfl);(case hr => first|(go_simp;done)|(go_simp;rfl));intro gb138 hg w3 hbox hb;have n0_:=Aside0.mk (below_step (by repeat (first|(with_reducible first|exact HB.out|apply below_alloc|apply pw_below_drewN|apply below_drew1)|exact HB.out)) hb);have n1_:=Aside0.mk (hbox);have n2_:=Aside0.mk ((by rw [hg];exact (below_size (by repeat (first|(with_reducible first|exact HB.out|apply below_alloc|apply pw_below_drewN|apply below_drew1)|exact HB.out))) : w.heap.size ≤ gb138));have n3_:=Aside0.mk ((by rw [hg];exact (below_size (by repeat (first|(with_reducible first|exact HB.out|apply below_alloc|apply pw_below_drewN|apply below_drew1)|exact HB.out))) : w.heap.size ≤ gb138));clear HB;have HB:=n0_;have BK138:=n1_;have GW138:=n2_;have GE138:=n3_;clear n0_ n1_ n2_ n3_;clear hb hbox hg))
 (try simp only [Act.put,List.setIfInBounds_toArray,List.set_cons_zero,List.set_cons_succ])
 go_cut [40] (fun v40 wc => ∃ (kq : Nat) (x40_1 : Bool),v40 = .bool x40_1 ∧ Aside0 (hinterlandref15_bad.j0 kq x40_1 a0_0 a0_1 a0_2 a0_3 a0_4 a0_5 a0_6 a0_7 a0_8 = some r) ∧ Aside0 (kq ≤ k) ∧ Aside0 (wc.heap[gb138]? = some (.cells #[.int .i64 a0_0,.int .i64 a0_1,.int .i64 a0_2,.int .i64 a0_3,.int .i64 a0_4,.int .i64 a0_5,.int .i64 a0_6,.int .i64 a0_7,.int .i64 a0_8] 33 (0,0))) ∧ Aside0 (Below w.heap.size w wc))
 case first =>
  have H:=HC2.out
  clear HC2
  replace H:=Option.bind_eq_some_iff.mp H
  obtain ⟨t139,A40,H⟩:=H
  replace H : (if t139 = true then (hinterlandref15_bad.j0 k true a0_0 a0_1 a0_2 a0_3 a0_4 a0_5 a0_6 a0_7 a0_8) else ((hinterlandref15_out.f a0_1 1000000).bind fun t140 => (if t140 = true then (hinterlandref15_bad.j0 k true a0_0 a0_1 a0_2 a0_3 a0_4 a0_5 a0_6 a0_7 a0_8) else ((hinterlandref15_out.f a0_2 2).bind fun t141 => (if t141 = true then (hinterlandref15_bad.j0 k true a0_0 a0_1 a0_2 a0_3 a0_4 a0_5 a0_6 a0_7 a0_8) else ((hinterlandref15_out.f a0_3 2).bind fun t142 => (if t142 = true then (hinterlandref15_bad.j0 k true a0_0 a0_1 a0_2 a0_3 a0_4 a0_5 a0_6 a0_7 a0_8) else ((hinterlandref15_out.f a0_4 4).bind fun t143 => (if t143 = true then (hinterlandref15_bad.j0 k true a0_0 a0_1 a0_2 a0_3 a0_4 a0_5 a0_6 a0_7 a0_8) else ((hinterlandref15_out.f a0_5 1000000).bind fun t144 => (if t144 = true then (hinterlandref15_bad.j0 k true a0_0 a0_1 a0_2 a0_3 a0_4 a0_5 a0_6 a0_7 a0_8) else ((hinterlandref15_out.f a0_7 1000000).bind fun t145 => (if t145 = true then (hinterlandref15_bad.j0 k true a0_0 a0_1 a0_2 a0_3 a0_4 a0_5 a0_6 a0_7 a0_8) else ((hinterlandref15_out.f a0_8 1000000).bind fun t146 => (hinterlandref15_bad.j0 k t146 a0_0 a0_1 a0_2 a0_3 a0_4 a0_5 a0_6 a0_7 a0_8))))))))))))))) = some r:=H
  have A4:=Aside0.mk A40
  clear A40
  by_cases c5 : t139 = true
  ·subst c5
   have H1 : (hinterlandref15_bad.j0 k true a0_0 a0_1 a0_2 a0_3 a0_4 a0_5 a0_6 a0_7 a0_8) = some r:=by rw [if_pos rfl] at H;exact H
   clear H
   have H:=H1
   clear H1
   have H':=Aside0.mk H
   clear H
   have hcz6_0 : w3.cell? ⟨gb138,0,none⟩ = some (.int .i64 a0_0):=(blk_cell BK138.out 0).trans rfl
   have hcz6_1 : w3.cell? ⟨gb138,1,none⟩ = some (.int .i64 a0_1):=(blk_cell BK138.out 1).trans rfl
   have hcz6_2 : w3.cell? ⟨gb138,2,none⟩ = some (.int .i64 a0_2):=(blk_cell BK138.out 2).trans rfl
   have hcz6_3 : w3.cell? ⟨gb138,3,none⟩ = some (.int .i64 a0_3):=(blk_cell BK138.out 3).trans rfl
   have hcz6_4 : w3.cell? ⟨gb138,4,none⟩ = some (.int .i64 a0_4):=(blk_cell BK138.out 4).trans rfl
   have hcz6_5 : w3.cell? ⟨gb138,5,none⟩ = some (.int .i64 a0_5):=(blk_cell BK138.out 5).trans rfl
   have hcz6_6 : w3.cell? ⟨gb138,6,none⟩ = some (.int .i64 a0_6):=(blk_cell BK138.out 6).trans rfl
   have hcz6_7 : w3.cell? ⟨gb138,7,none⟩ = some (.int .i64 a0_7):=(blk_cell BK138.out 7).trans rfl
   have hcz6_8 : w3.cell? ⟨gb138,8,none⟩ = some (.int .i64 a0_8):=(blk_cell BK138.out 8).trans rfl
   have hfz6_0:=blk_frozen BK138.out 0
   have hfz6_1:=blk_frozen BK138.out 1
   have hfz6_2:=blk_frozen BK138.out 2
   have hfz6_3:=blk_frozen BK138.out 3
   have hfz6_4:=blk_frozen BK138.out 4
   have hfz6_5:=blk_frozen BK138.out 5
   have hfz6_6:=blk_frozen BK138.out 6
   have hfz6_7:=blk_frozen BK138.out 7
   have hfz6_8:=blk_frozen BK138.out 8
   go_wp2_with (first|((with_reducible refine gate_callee (f:=43) rfl ?_);refine goesL_ (some 5) rfl rfl Try.func43 (by kernel_rfl) rfl #[.int .i64 a0_0,.int .i64 2] rfl (by (try simp only [List.map_toArray,List.map_cons,List.map_nil]);first|done|rfl|(simp only [List.length_drop,List.length_take];rfl)) ?_;(with_reducible refine (hinterlandref15_out.calls a0_0 2 true _ A4.out).mono ?_);rintro e w' ⟨rfl,⟨nd,rfl⟩⟩;refine ⟨_,rfl,?_⟩))
   go_meet
   case rel => exact ⟨_,(true),(by first|rfl|(simp;done)|(simp [*];done)),H',⟨by first|omega|exact Nat.le_refl _⟩,⟨by (with_reducible repeat (first|refine blk_drewN ?_ _|refine blk_drew ?_|refine blk_alloc ?_ _));exact BK138.out⟩,⟨by repeat (first|(with_reducible first|exact HB.out|apply below_alloc|apply pw_below_drewN|apply below_drew1|refine below_set ?_ GE138.out)|exact HB.out)⟩⟩
  ·replace c5:=Bool.eq_false_iff.mpr c5
   subst c5
   have H1 : ((hinterlandref15_out.f a0_1 1000000).bind fun t140 => (if t140 = true then (hinterlandref15_bad.j0 k true a0_0 a0_1 a0_2 a0_3 a0_4 a0_5 a0_6 a0_7 a0_8) else ((hinterlandref15_out.f a0_2 2).bind fun t141 => (if t141 = true then (hinterlandref15_bad.j0 k true a0_0 a0_1 a0_2 a0_3 a0_4 a0_5 a0_6 a0_7 a0_8) else ((hinterlandref15_out.f a0_3 2).bind fun t142 => (if t142 = true then (hinterlandref15_bad.j0 k true a0_0 a0_1 a0_2 a0_3 a0_4 a0_5 a0_6 a0_7 a0_8) else ((hinterlandref15_out.f a0_4 4).bind fun t143 => (if t143 = true then (hinterlandref15_bad.j0 k true a0_0 a0_1 a0_2 a0_3 a0_4 a0_5 a0_6 a0_7 a0_8) else ((hinterlandref15_out.f a0_5 1000000).bind fun t144 => (if t144 = true then (hinterlandref15_bad.j0 k true a0_0 a0_1 a0_2 a0_3 a0_4 a0_5 a0_6 a0_7 a0_8) else ((hinterlandref15_out.f a0_7 1000000).bind fun t145 => (if t145 = true then (hinterlandref15_bad.j0 k true a0_0 a0_1 a0_2 a0_3 a0_4 a0_5 a0_6 a0_7 a0_8) else ((hinterlandref15_out.f a0_8 1000000).bind fun t146 => (hinterlandref15_bad.j0 k t146 a0_0 a0_1 a0_2 a0_3 a0_4 a0_5 a0_6 a0_7 a0_8)))))))))))))) = some r:=by rw [if_neg (show ¬ (false = true) by decide)] at H;exact H
   clear H
   have H:=H1
   clear H1
   replace H:=Option.bind_eq_some_iff.mp H
   obtain ⟨t140,A70,H⟩:=H
   replace H : (if t140 = true then (hinterlandref15_bad.j0 k true a0_0 a0_1 a0_2 a0_3 a0_4 a0_5 a0_6 a0_7 a0_8) else ((hinterlandref15_out.f a0_2 2).bind fun t141 => (if t141 = true then (hinterlandref15_bad.j0 k true a0_0 a0_1 a0_2 a0_3 a0_4 a0_5 a0_6 a0_7 a0_8) else ((hinterlandref15_out.f a0_3 2).bind fun t142 => (if t142 = true then (hinterlandref15_bad.j0 k true a0_0 a0_1 a0_2 a0_3 a0_4 a0_5 a0_6 a0_7 a0_8) else ((hinterlandref15_out.f a0_4 4).bind fun t143 => (if t143 = true then (hinterlandref15_bad.j0 k true a0_0 a0_1 a0_2 a0_3 a0_4 a0_5 a0_6 a0_7 a0_8) else ((hinterlandref15_out.f a0_5 1000000).bind fun t144 => (if t144 = true then (hinterlandref15_bad.j0 k true a0_0 a0_1 a0_2 a0_3 a0_4 a0_5 a0_6 a0_7 a0_8) else ((hinterlandref15_out.f a0_7 1000000).bind fun t145 => (if t145 = true then (hinterlandref15_bad.j0 k true a0_0 a0_1 a0_2 a0_3 a0_4 a0_5 a0_6 a0_7 a0_8) else ((hinterlandref15_out.f a0_8 1000000).bind fun t146 => (hinterlandref15_bad.j0 k t146 a0_0 a0_1 a0_2 a0_3 a0_4 a0_5 a0_6 a0_7 a0_8))))))))))))) = some r:=H
   have A7:=Aside0.mk A70
   clear A70
   by_cases c8 : t140 = true
   ·subst c8
    have H1 : (hinterlandref15_bad.j0 k true a0_0 a0_1 a0_2 a0_3 a0_4 a0_5 a0_6 a0_7 a0_8) = some r:=by rw [if_pos rfl] at H;exact H
    clear H
    have H:=H1
    clear H1
    have H':=Aside0.mk H
    clear H
    have hcz9_0 : w3.cell? ⟨gb138,0,none⟩ = some (.int .i64 a0_0):=(blk_cell BK138.out 0).trans rfl
    have hcz9_1 : w3.cell? ⟨gb138,1,none⟩ = some (.int .i64 a0_1):=(blk_cell BK138.out 1).trans rfl
    have hcz9_2 : w3.cell? ⟨gb138,2,none⟩ = some (.int .i64 a0_2):=(blk_cell BK138.out 2).trans rfl
    have hcz9_3 : w3.cell? ⟨gb138,3,none⟩ = some (.int .i64 a0_3):=(blk_cell BK138.out 3).trans rfl
    have hcz9_4 : w3.cell? ⟨gb138,4,none⟩ = some (.int .i64 a0_4):=(blk_cell BK138.out 4).trans rfl
    have hcz9_5 : w3.cell? ⟨gb138,5,none⟩ = some (.int .i64 a0_5):=(blk_cell BK138.out 5).trans rfl
    have hcz9_6 : w3.cell? ⟨gb138,6,none⟩ = some (.int .i64 a0_6):=(blk_cell BK138.out 6).trans rfl
    have hcz9_7 : w3.cell? ⟨gb138,7,none⟩ = some (.int .i64 a0_7):=(blk_cell BK138.out 7).trans rfl
    have hcz9_8 : w3.cell? ⟨gb138,8,none⟩ = some (.int .i64 a0_8):=(blk_cell BK138.out 8).trans rfl
    have hfz9_0:=blk_frozen BK138.out 0
    have hfz9_1:=blk_frozen BK138.out 1
    have hfz9_2:=blk_frozen BK138.out 2
    have hfz9_3:=blk_frozen BK138.out 3
    have hfz9_4:=blk_frozen BK138.out 4
    have hfz9_5:=blk_frozen BK138.out 5
    have hfz9_6:=blk_frozen BK138.out 6
    have hfz9_7:=blk_frozen BK138.out 7
    have hfz9_8:=blk_frozen BK138.out 8
    go_wp2_with (first|((with_reducible refine gate_callee (f:=43) rfl ?_);refine goesL_ (some 5) rfl rfl Try.func43 (by kernel_rfl) rfl #[.int .i64 a0_0,.int .i64 2] rfl (by (try simp only [List.map_toArray,List.map_cons,List.map_nil]);first|done|rfl|(simp only [List.length_drop,List.length_take];rfl)) ?_;(with_reducible refine (hinterlandref15_out.calls a0_0 2 false _ A4.out).mono ?_);rintro e w' ⟨rfl,⟨nd,rfl⟩⟩;refine ⟨_,rfl,?_⟩)|(go_at_call 43;(with_reducible refine (hinterlandref15_out.calls a0_1 1000000 true _ A7.out).mono ?_);rintro e w' ⟨rfl,⟨nd,rfl⟩⟩))
    go_meet
    case rel => exact ⟨_,(true),(by first|rfl|(simp;done)|(simp [*];done)),H',⟨by first|omega|exact Nat.le_refl _⟩,⟨by (with_reducible repeat (first|refine blk_drewN ?_ _|refine blk_drew ?_|refine blk_alloc ?_ _));exact BK138.out⟩,⟨by repeat (first|(with_reducible first|exact HB.out|apply below_alloc|apply pw_below_drewN|apply below_drew1|refine below_set ?_ GE138.out)|exact HB.out)⟩⟩
   ·replace c8:=Bool.eq_false_iff.mpr c8
    subst c8
    have H1 : ((hinterlandref15_out.f a0_2 2).bind fun t141 => (if t141 = true then (hinterlandref15_bad.j0 k true a0_0 a0_1 a0_2 a0_3 a0_4 a0_5 a0_6 a0_7 a0_8) else ((hinterlandref15_out.f a0_3 2).bind fun t142 => (if t142 = true then (hinterlandref15_bad.j0 k true a0_0 a0_1 a0_2 a0_3 a0_4 a0_5 a0_6 a0_7 a0_8) else ((hinterlandref15_out.f a0_4 4).bind fun t143 => (if t143 = true then (hinterlandref15_bad.j0 k true a0_0 a0_1 a0_2 a0_3 a0_4 a0_5 a0_6 a0_7 a0_8) else ((hinterlandref15_out.f a0_5 1000000).bind fun t144 => (if t144 = true then (hinterlandref15_bad.j0 k true a0_0 a0_1 a0_2 a0_3 a0_4 a0_5 a0_6 a0_7 a0_8) else ((hinterlandref15_out.f a0_7 1000000).bind fun t145 => (if t145 = true then (hinterlandref15_bad.j0 k true a0_0 a0_1 a0_2 a0_3 a0_4 a0_5 a0_6 a0_7 a0_8) else ((hinterlandref15_out.f a0_8 1000000).bind fun t146 => (hinterlandref15_bad.j0 k t146 a0_0 a0_1 a0_2 a0_3 a0_4 a0_5 a0_6 a0_7 a0_8)))))))))))) = some r:=by rw [if_neg (show ¬ (false = true) by decide)] at H;exact H
    clear H
    have H:=H1
    clear H1
    replace H:=Option.bind_eq_some_iff.mp H
    obtain ⟨t141,A100,H⟩:=H
    replace H : (if t141 = true then (hinterlandref15_bad.j0 k true a0_0 a0_1 a0_2 a0_3 a0_4 a0_5 a0_6 a0_7 a0_8) else ((hinterlandref15_out.f a0_3 2).bind fun t142 => (if t142 = true then (hinterlandref15_bad.j0 k true a0_0 a0_1 a0_2 a0_3 a0_4 a0_5 a0_6 a0_7 a0_8) else ((hinterlandref15_out.f a0_4 4).bind fun t143 => (if t143 = true then (hinterlandref15_bad.j0 k true a0_0 a0_1 a0_2 a0_3 a0_4 a0_5 a0_6 a0_7 a0_8) else ((hinterlandref15_out.f a0_5 1000000).bind fun t144 => (if t144 = true then (hinterlandref15_bad.j0 k true a0_0 a0_1 a0_2 a0_3 a0_4 a0_5 a0_6 a0_7 a0_8) else ((hinterlandref15_out.f a0_7 1000000).bind fun t145 => (if t145 = true then (hinterlandref15_bad.j0 k true a0_0 a0_1 a0_2 a0_3 a0_4 a0_5 a0_6 a0_7 a0_8) else ((hinterlandref15_out.f a0_8 1000000).bind fun t146 => (hinterlandref15_bad.j0 k t146 a0_0 a0_1 a0_2 a0_3 a0_4 a0_5 a0_6 a0_7 a0_8))))))))))) = some r:=H
    have A10:=Aside0.mk A100
    clear A100
    by_cases c11 : t141 = true
    ·subst c11
     have H1 : (hinterlandref15_bad.j0 k true a0_0 a0_1 a0_2 a0_3 a0_4 a0_5 a0_6 a0_7 a0_8) = some r:=by rw [if_pos rfl] at H;exact H
     clear H
     have H:=H1
     clear H1
     have H':=Aside0.mk H
     clear H
     have hcz12_0 : w3.cell? ⟨gb138,0,none⟩ = some (.int .i64 a0_0):=(blk_cell BK138.out 0).trans rfl
     have hcz12_1 : w3.cell? ⟨gb138,1,none⟩ = some (.int .i64 a0_1):=(blk_cell BK138.out 1).trans rfl
     have hcz12_2 : w3.cell? ⟨gb138,2,none⟩ = some (.int .i64 a0_2):=(blk_cell BK138.out 2).trans rfl
     have hcz12_3 : w3.cell? ⟨gb138,3,none⟩ = some (.int .i64 a0_3):=(blk_cell BK138.out 3).trans rfl
     have hcz12_4 : w3.cell? ⟨gb138,4,none⟩ = some (.int .i64 a0_4):=(blk_cell BK138.out 4).trans rfl
     have hcz12_5 : w3.cell? ⟨gb138,5,none⟩ = some (.int .i64 a0_5):=(blk_cell BK138.out 5).trans rfl
     have hcz12_6 : w3.cell? ⟨gb138,6,none⟩ = some (.int .i64 a0_6):=(blk_cell BK138.out 6).trans rfl
     have hcz12_7 : w3.cell? ⟨gb138,7,none⟩ = some (.int .i64 a0_7):=(blk_cell BK138.out 7).trans rfl
     have hcz12_8 : w3.cell? ⟨gb138,8,none⟩ = some (.int .i64 a0_8):=(blk_cell BK138.out 8).trans rfl
     have hfz12_0:=blk_frozen BK138.out 0
     have hfz12_1:=blk_frozen BK138.out 1
     have hfz12_2:=blk_frozen BK138.out 2
     have hfz12_3:=blk_frozen BK138.out 3
     have hfz12_4:=blk_frozen BK138.out 4
     have hfz12_5:=blk_frozen BK138.out 5
     have hfz12_6:=blk_frozen BK138.out 6
     have hfz12_7:=blk_frozen BK138.out 7
     have hfz12_8:=blk_frozen BK138.out 8
     go_wp2_with (first|((with_reducible refine gate_callee (f:=43) rfl ?_);refine goesL_ (some 5) rfl rfl Try.func43 (by kernel_rfl) rfl #[.int .i64 a0_0,.int .i64 2] rfl (by (try simp only [List.map_toArray,List.map_cons,List.map_nil]);first|done|rfl|(simp only [List.length_drop,List.length_take];rfl)) ?_;(with_reducible refine (hinterlandref15_out.calls a0_0 2 false _ A4.out).mono ?_);rintro e w' ⟨rfl,⟨nd,rfl⟩⟩;refine ⟨_,rfl,?_⟩)|(go_at_call 43;(with_reducible refine (hinterlandref15_out.calls a0_1 1000000 false _ A7.out).mono ?_);rintro e w' ⟨rfl,⟨nd,rfl⟩⟩)|(go_at_call 43;(with_reducible refine (hinterlandref15_out.calls a0_2 2 true _ A10.out).mono ?_);rintro e w' ⟨rfl,⟨nd,rfl⟩⟩))
     go_meet
     case rel => exact ⟨_,(true),(by first|rfl|(simp;done)|(simp [*];done)),H',⟨by first|omega|exact Nat.le_refl _⟩,⟨by (with_reducible repeat (first|refine blk_drewN ?_ _|refine blk_drew ?_|refine blk_alloc ?_ _));exact BK138.out⟩,⟨by repeat (first|(with_reducible first|exact HB.out|apply below_alloc|apply pw_below_drewN|apply below_drew1|refine below_set ?_ GE138.out)|exact HB.out)⟩⟩
    ·replace c11:=Bool.eq_false_iff.mpr c11
     subst c11
     have H1 : ((hinterlandref15_out.f a0_3 2).bind fun t142 => (if t142 = true then (hinterlandref15_bad.j0 k true a0_0 a0_1 a0_2 a0_3 a0_4 a0_5 a0_6 a0_7 a0_8) else ((hinterlandref15_out.f a0_4 4).bind fun t143 => (if t143 = true then (hinterlandref15_bad.j0 k true a0_0 a0_1 a0_2 a0_3 a0_4 a0_5 a0_6 a0_7 a0_8) else ((hinterlandref15_out.f a0_5 1000000).bind fun t144 => (if t144 = true then (hinterlandref15_bad.j0 k true a0_0 a0_1 a0_2 a0_3 a0_4 a0_5 a0_6 a0_7 a0_8) else ((hinterlandref15_out.f a0_7 1000000).bind fun t145 => (if t145 = true then (hinterlandref15_bad.j0 k true a0_0 a0_1 a0_2 a0_3 a0_4 a0_5 a0_6 a0_7 a0_8) else ((hinterlandref15_out.f a0_8 1000000).bind fun t146 => (hinterlandref15_bad.j0 k t146 a0_0 a0_1 a0_2 a0_3 a0_4 a0_5 a0_6 a0_7 a0_8)))))))))) = some r:=by rw [if_neg (show ¬ (false = true) by decide)] at H;exact H
     clear H
     have H:=H1
     clear H1
     replace H:=Option.bind_eq_some_iff.mp H
     obtain ⟨t142,A130,H⟩:=H
     replace H : (if t142 = true then (hinterlandref15_bad.j0 k true a0_0 a0_1 a0_2 a0_3 a0_4 a0_5 a0_6 a0_7 a0_8) else ((hinterlandref15_out.f a0_4 4).bind fun t143 => (if t143 = true then (hinterlandref15_bad.j0 k true a0_0 a0_1 a0_2 a0_3 a0_4 a0_5 a0_6 a0_7 a0_8) else ((hinterlandref15_out.f a0_5 1000000).bind fun t144 => (if t144 = true then (hinterlandref15_bad.j0 k true a0_0 a0_1 a0_2 a0_3 a0_4 a0_5 a0_6 a0_7 a0_8) else ((hinterlandref15_out.f a0_7 1000000).bind fun t145 => (if t145 = true then (hinterlandref15_bad.j0 k true a0_0 a0_1 a0_2 a0_3 a0_4 a0_5 a0_6 a0_7 a0_8) else ((hinterlandref15_out.f a0_8 1000000).bind fun t146 => (hinterlandref15_bad.j0 k t146 a0_0 a0_1 a0_2 a0_3 a0_4 a0_5 a0_6 a0_7 a0_8))))))))) = some r:=H
     have A13:=Aside0.mk A130
     clear A130
     by_cases c14 : t142 = true
     ·subst c14
      have H1 : (hinterlandref15_bad.j0 k true a0_0 a0_1 a0_2 a0_3 a0_4 a0_5 a0_6 a0_7 a0_8) = some r:=by rw [if_pos rfl] at H;exact H
      clear H
      have H:=H1
      clear H1
      have H':=Aside0.mk H
      clear H
      have hcz15_0 : w3.cell? ⟨gb138,0,none⟩ = some (.int .i64 a0_0):=(blk_cell BK138.out 0).trans rfl
      have hcz15_1 : w3.cell? ⟨gb138,1,none⟩ = some (.int .i64 a0_1):=(blk_cell BK138.out 1).trans rfl
      have hcz15_2 : w3.cell? ⟨gb138,2,none⟩ = some (.int .i64 a0_2):=(blk_cell BK138.out 2).trans rfl
      have hcz15_3 : w3.cell? ⟨gb138,3,none⟩ = some (.int .i64 a0_3):=(blk_cell BK138.out 3).trans rfl
      have hcz15_4 : w3.cell? ⟨gb138,4,none⟩ = some (.int .i64 a0_4):=(blk_cell BK138.out 4).trans rfl
      have hcz15_5 : w3.cell? ⟨gb138,5,none⟩ = some (.int .i64 a0_5):=(blk_cell BK138.out 5).trans rfl
      have hcz15_6 : w3.cell? ⟨gb138,6,none⟩ = some (.int .i64 a0_6):=(blk_cell BK138.out 6).trans rfl
      have hcz15_7 : w3.cell? ⟨gb138,7,none⟩ = some (.int .i64 a0_7):=(blk_cell BK138.out 7).trans rfl
      have hcz15_8 : w3.cell? ⟨gb138,8,none⟩ = some (.int .i64 a0_8):=(blk_cell BK138.out 8).trans rfl
      have hfz15_0:=blk_frozen BK138.out 0
      have hfz15_1:=blk_frozen BK138.out 1
      have hfz15_2:=blk_frozen BK138.out 2
      have hfz15_3:=blk_frozen BK138.out 3
      have hfz15_4:=blk_frozen BK138.out 4
      have hfz15_5:=blk_frozen BK138.out 5
      have hfz15_6:=blk_frozen BK138.out 6
      have hfz15_7:=blk_frozen BK138.out 7
      have hfz15_8:=blk_frozen BK138.out 8
      go_wp2_with (first|((with_reducible refine gate_callee (f:=43) rfl ?_);refine goesL_ (some 5) rfl rfl Try.func43 (by kernel_rfl) rfl #[.int .i64 a0_0,.int .i64 2] rfl (by (try simp only [List.map_toArray,List.map_cons,List.map_nil]);first|done|rfl|(simp only [List.length_drop,List.length_take];rfl)) ?_;(with_reducible refine (hinterlandref15_out.calls a0_0 2 false _ A4.out).mono ?_);rintro e w' ⟨rfl,⟨nd,rfl⟩⟩;refine ⟨_,rfl,?_⟩)|(go_at_call 43;(with_reducible refine (hinterlandref15_out.calls a0_1 1000000 false _ A7.out).mono ?_);rintro e w' ⟨rfl,⟨nd,rfl⟩⟩)|(go_at_call 43;(with_reducible refine (hinterlandref15_out.calls a0_2 2 false _ A10.out).mono ?_);rintro e w' ⟨rfl,⟨nd,rfl⟩⟩)|(go_at_call 43;(with_reducible refine (hinterlandref15_out.calls a0_3 2 true _ A13.out).mono ?_);rintro e w' ⟨rfl,⟨nd,rfl⟩⟩))
      go_meet
      case rel => exact ⟨_,(true),(by first|rfl|(simp;done)|(simp [*];done)),H',⟨by first|omega|exact Nat.le_refl _⟩,⟨by (with_reducible repeat (first|refine blk_drewN ?_ _|refine blk_drew ?_|refine blk_alloc ?_ _));exact BK138.out⟩,⟨by repeat (first|(with_reducible first|exact HB.out|apply below_alloc|apply pw_below_drewN|apply below_drew1|refine below_set ?_ GE138.out)|exact HB.out)⟩⟩
     ·replace c14:=Bool.eq_false_iff.mpr c14
      subst c14
      have H1 : ((hinterlandref15_out.f a0_4 4).bind fun t143 => (if t143 = true then (hinterlandref15_bad.j0 k true a0_0 a0_1 a0_2 a0_3 a0_4 a0_5 a0_6 a0_7 a0_8) else ((hinterlandref15_out.f a0_5 1000000).bind fun t144 => (if t144 = true then (hinterlandref15_bad.j0 k true a0_0 a0_1 a0_2 a0_3 a0_4 a0_5 a0_6 a0_7 a0_8) else ((hinterlandref15_out.f a0_7 1000000).bind fun t145 => (if t145 = true then (hinterlandref15_bad.j0 k true a0_0 a0_1 a0_2 a0_3 a0_4 a0_5 a0_6 a0_7 a0_8) else ((hinterlandref15_out.f a0_8 1000000).bind fun t146 => (hinterlandref15_bad.j0 k t146 a0_0 a0_1 a0_2 a0_3 a0_4 a0_5 a0_6 a0_7 a0_8)))))))) = some r:=by rw [if_neg (show ¬ (false = true) by decide)] at H;exact H
      clear H
      have H:=H1
      clear H1
      replace H:=Option.bind_eq_some_iff.mp H
      obtain ⟨t143,A160,H⟩:=H
      replace H : (if t143 = true then (hinterlandref15_bad.j0 k true a0_0 a0_1 a0_2 a0_3 a0_4 a0_5 a0_6 a0_7 a0_8) else ((hinterlandref15_out.f a0_5 1000000).bind fun t144 => (if t144 = true then (hinterlandref15_bad.j0 k true a0_0 a0_1 a0_2 a0_3 a0_4 a0_5 a0_6 a0_7 a0_8) else ((hinterlandref15_out.f a0_7 1000000).bind fun t145 => (if t145 = true then (hinterlandref15_bad.j0 k true a0_0 a0_1 a0_2 a0_3 a0_4 a0_5 a0_6 a0_7 a0_8) else ((hinterlandref15_out.f a0_8 1000000).bind fun t146 => (hinterlandref15_bad.j0 k t146 a0_0 a0_1 a0_2 a0_3 a0_4 a0_5 a0_6 a0_7 a0_8))))))) = some r:=H
      have A16:=Aside0.mk A160
      clear A160
      by_cases c17 : t143 = true
      ·subst c17
       have H1 : (hinterlandref15_bad.j0 k true a0_0 a0_1 a0_2 a0_3 a0_4 a0_5 a0_6 a0_7 a0_8) = some r:=by rw [if_pos rfl] at H;exact H
       clear H
       have H:=H1
       clear H1
       have H':=Aside0.mk H
       clear H
       have hcz18_0 : w3.cell? ⟨gb138,0,none⟩ = some (.int .i64 a0_0):=(blk_cell BK138.out 0).trans rfl
       have hcz18_1 : w3.cell? ⟨gb138,1,none⟩ = some (.int .i64 a0_1):=(blk_cell BK138.out 1).trans rfl
       have hcz18_2 : w3.cell? ⟨gb138,2,none⟩ = some (.int .i64 a0_2):=(blk_cell BK138.out 2).trans rfl
       have hcz18_3 : w3.cell? ⟨gb138,3,none⟩ = some (.int .i64 a0_3):=(blk_cell BK138.out 3).trans rfl
       have hcz18_4 : w3.cell? ⟨gb138,4,none⟩ = some (.int .i64 a0_4):=(blk_cell BK138.out 4).trans rfl
       have hcz18_5 : w3.cell? ⟨gb138,5,none⟩ = some (.int .i64 a0_5):=(blk_cell BK138.out 5).trans rfl
       have hcz18_6 : w3.cell? ⟨gb138,6,none⟩ = some (.int .i64 a0_6):=(blk_cell BK138.out 6).trans rfl
       have hcz18_7 : w3.cell? ⟨gb138,7,none⟩ = some (.int .i64 a0_7):=(blk_cell BK138.out 7).trans rfl
       have hcz18_8 : w3.cell? ⟨gb138,8,none⟩ = some (.int .i64 a0_8):=(blk_cell BK138.out 8).trans rfl
       have hfz18_0:=blk_frozen BK138.out 0
       have hfz18_1:=blk_frozen BK138.out 1
       have hfz18_2:=blk_frozen BK138.out 2
       have hfz18_3:=blk_frozen BK138.out 3
       have hfz18_4:=blk_frozen BK138.out 4
       have hfz18_5:=blk_frozen BK138.out 5
       have hfz18_6:=blk_frozen BK138.out 6
       have hfz18_7:=blk_frozen BK138.out 7
       have hfz18_8:=blk_frozen BK138.out 8
       go_wp2_with (first|((with_reducible refine gate_callee (f:=43) rfl ?_);refine goesL_ (some 5) rfl rfl Try.func43 (by kernel_rfl) rfl #[.int .i64 a0_0,.int .i64 2] rfl (by (try simp only [List.map_toArray,List.map_cons,List.map_nil]);first|done|rfl|(simp only [List.length_drop,List.length_take];rfl)) ?_;(with_reducible refine (hinterlandref15_out.calls a0_0 2 false _ A4.out).mono ?_);rintro e w' ⟨rfl,⟨nd,rfl⟩⟩;refine ⟨_,rfl,?_⟩)|(go_at_call 43;(with_reducible refine (hinterlandref15_out.calls a0_1 1000000 false _ A7.out).mono ?_);rintro e w' ⟨rfl,⟨nd,rfl⟩⟩)|(go_at_call 43;(with_reducible refine (hinterlandref15_out.calls a0_2 2 false _ A10.out).mono ?_);rintro e w' ⟨rfl,⟨nd,rfl⟩⟩)|(go_at_call 43;(with_reducible refine (hinterlandref15_out.calls a0_3 2 false _ A13.out).mono ?_);rintro e w' ⟨rfl,⟨nd,rfl⟩⟩)|(go_at_call 43;(with_reducible refine (hinterlandref15_out.calls a0_4 4 true _ A16.out).mono ?_);rintro e w' ⟨rfl,⟨nd,rfl⟩⟩))
       go_meet
       case rel => exact ⟨_,(true),(by first|rfl|(simp;done)|(simp [*];done)),H',⟨by first|omega|exact Nat.le_refl _⟩,⟨by (with_reducible repeat (first|refine blk_drewN ?_ _|refine blk_drew ?_|refine blk_alloc ?_ _));exact BK138.out⟩,⟨by repeat (first|(with_reducible first|exact HB.out|apply below_alloc|apply pw_below_drewN|apply below_drew1|refine below_set ?_ GE138.out)|exact HB.out)⟩⟩
      ·replace c17:=Bool.eq_false_iff.mpr c17
       subst c17
       have H1 : ((hinterlandref15_out.f a0_5 1000000).bind fun t144 => (if t144 = true then (hinterlandref15_bad.j0 k true a0_0 a0_1 a0_2 a0_3 a0_4 a0_5 a0_6 a0_7 a0_8) else ((hinterlandref15_out.f a0_7 1000000).bind fun t145 => (if t145 = true then (hinterlandref15_bad.j0 k true a0_0 a0_1 a0_2 a0_3 a0_4 a0_5 a0_6 a0_7 a0_8) else ((hinterlandref15_out.f a0_8 1000000).bind fun t146 => (hinterlandref15_bad.j0 k t146 a0_0 a0_1 a0_2 a0_3 a0_4 a0_5 a0_6 a0_7 a0_8)))))) = some r:=by rw [if_neg (show ¬ (false = true) by decide)] at H;exact H
       clear H
       have H:=H1
       clear H1
       replace H:=Option.bind_eq_some_iff.mp H
       obtain ⟨t144,A190,H⟩:=H
       replace H : (if t144 = true then (hinterlandref15_bad.j0 k true a0_0 a0_1 a0_2 a0_3 a0_4 a0_5 a0_6 a0_7 a0_8) else ((hinterlandref15_out.f a0_7 1000000).bind fun t145 => (if t145 = true then (hinterlandref15_bad.j0 k true a0_0 a0_1 a0_2 a0_3 a0_4 a0_5 a0_6 a0_7 a0_8) else ((hinterlandref15_out.f a0_8 1000000).bind fun t146 => (hinterlandref15_bad.j0 k t146 a0_0 a0_1 a0_2 a0_3 a0_4 a0_5 a0_6 a0_7 a0_8))))) = some r:=H
       have A19:=Aside0.mk A190
       clear A190
       by_cases c20 : t144 = true
       ·subst c20
        have H1 : (hinterlandref15_bad.j0 k true a0_0 a0_1 a0_2 a0_3 a0_4 a0_5 a0_6 a0_7 a0_8) = some r:=by rw [if_pos rfl] at H;exact H
        clear H
        have H:=H1
        clear H1
        have H':=Aside0.mk H
        clear H
        have hcz21_0 : w3.cell? ⟨gb138,0,none⟩ = some (.int .i64 a0_0):=(blk_cell BK138.out 0).trans rfl
        have hcz21_1 : w3.cell? ⟨gb138,1,none⟩ = some (.int .i64 a0_1):=(blk_cell BK138.out 1).trans rfl
        have hcz21_2 : w3.cell? ⟨gb138,2,none⟩ = some (.int .i64 a0_2):=(blk_cell BK138.out 2).trans rfl
        have hcz21_3 : w3.cell? ⟨gb138,3,none⟩ = some (.int .i64 a0_3):=(blk_cell BK138.out 3).trans rfl
        have hcz21_4 : w3.cell? ⟨gb138,4,none⟩ = some (.int .i64 a0_4):=(blk_cell BK138.out 4).trans rfl
        have hcz21_5 : w3.cell? ⟨gb138,5,none⟩ = some (.int .i64 a0_5):=(blk_cell BK138.out 5).trans rfl
        have hcz21_6 : w3.cell? ⟨gb138,6,none⟩ = some (.int .i64 a0_6):=(blk_cell BK138.out 6).trans rfl
        have hcz21_7 : w3.cell? ⟨gb138,7,none⟩ = some (.int .i64 a0_7):=(blk_cell BK138.out 7).trans rfl
        have hcz21_8 : w3.cell? ⟨gb138,8,none⟩ = some (.int .i64 a0_8):=(blk_cell BK138.out 8).trans rfl
        have hfz21_0:=blk_frozen BK138.out 0
        have hfz21_1:=blk_frozen BK138.out 1
        have hfz21_2:=blk_frozen BK138.out 2
        have hfz21_3:=blk_frozen BK138.out 3
        have hfz21_4:=blk_frozen BK138.out 4
        have hfz21_5:=blk_frozen BK138.out 5
        have hfz21_6:=blk_frozen BK138.out 6
        have hfz21_7:=blk_frozen BK138.out 7
        have hfz21_8:=blk_frozen BK138.out 8
        go_wp2_with (first|((with_reducible refine gate_callee (f:=43) rfl ?_);refine goesL_ (some 5) rfl rfl Try.func43 (by kernel_rfl) rfl #[.int .i64 a0_0,.int .i64 2] rfl (by (try simp only [List.map_toArray,List.map_cons,List.map_nil]);first|done|rfl|(simp only [List.length_drop,List.length_take];rfl)) ?_;(with_reducible refine (hinterlandref15_out.calls a0_0 2 false _ A4.out).mono ?_);rintro e w' ⟨rfl,⟨nd,rfl⟩⟩;refine ⟨_,rfl,?_⟩)|(go_at_call 43;(with_reducible refine (hinterlandref15_out.calls a0_1 1000000 false _ A7.out).mono ?_);rintro e w' ⟨rfl,⟨nd,rfl⟩⟩)|(go_at_call 43;(with_reducible refine (hinterlandref15_out.calls a0_2 2 false _ A10.out).mono ?_);rintro e w' ⟨rfl,⟨nd,rfl⟩⟩)|(go_at_call 43;(with_reducible refine (hinterlandref15_out.calls a0_3 2 false _ A13.out).mono ?_);rintro e w' ⟨rfl,⟨nd,rfl⟩⟩)|(go_at_call 43;(with_reducible refine (hinterlandref15_out.calls a0_4 4 false _ A16.out).mono ?_);rintro e w' ⟨rfl,⟨nd,rfl⟩⟩)|(go_at_call 43;(with_reducible refine (hinterlandref15_out.calls a0_5 1000000 true _ A19.out).mono ?_);rintro e w' ⟨rfl,⟨nd,rfl⟩⟩))
        go_meet
        case rel => exact ⟨_,(true),(by first|rfl|(simp;done)|(simp [*];done)),H',⟨by first|omega|exact Nat.le_refl _⟩,⟨by (with_reducible repeat (first|refine blk_drewN ?_ _|refine blk_drew ?_|refine blk_alloc ?_ _));exact BK138.out⟩,⟨by repeat (first|(with_reducible first|exact HB.out|apply below_alloc|apply pw_below_drewN|apply below_drew1|refine below_set ?_ GE138.out)|exact HB.out)⟩⟩
       ·replace c20:=Bool.eq_false_iff.mpr c20
        subst c20
        have H1 : ((hinterlandref15_out.f a0_7 1000000).bind fun t145 => (if t145 = true then (hinterlandref15_bad.j0 k true a0_0 a0_1 a0_2 a0_3 a0_4 a0_5 a0_6 a0_7 a0_8) else ((hinterlandref15_out.f a0_8 1000000).bind fun t146 => (hinterlandref15_bad.j0 k t146 a0_0 a0_1 a0_2 a0_3 a0_4 a0_5 a0_6 a0_7 a0_8)))) = some r:=by rw [if_neg (show ¬ (false = true) by decide)] at H;exact H
        clear H
        have H:=H1
        clear H1
        replace H:=Option.bind_eq_some_iff.mp H
        obtain ⟨t145,A220,H⟩:=H
        replace H : (if t145 = true then (hinterlandref15_bad.j0 k true a0_0 a0_1 a0_2 a0_3 a0_4 a0_5 a0_6 a0_7 a0_8) else ((hinterlandref15_out.f a0_8 1000000).bind fun t146 => (hinterlandref15_bad.j0 k t146 a0_0 a0_1 a0_2 a0_3 a0_4 a0_5 a0_6 a0_7 a0_8))) = some r:=H
        have A22:=Aside0.mk A220
        clear A220
        by_cases c23 : t145 = true
        ·subst c23
         have H1 : (hinterlandref15_bad.j0 k true a0_0 a0_1 a0_2 a0_3 a0_4 a0_5 a0_6 a0_7 a0_8) = some r:=by rw [if_pos rfl] at H;exact H
         clear H
         have H:=H1
         clear H1
         have H':=Aside0.mk H
         clear H
         have hcz24_0 : w3.cell? ⟨gb138,0,none⟩ = some (.int .i64 a0_0):=(blk_cell BK138.out 0).trans rfl
         have hcz24_1 : w3.cell? ⟨gb138,1,none⟩ = some (.int .i64 a0_1):=(blk_cell BK138.out 1).trans rfl
         have hcz24_2 : w3.cell? ⟨gb138,2,none⟩ = some (.int .i64 a0_2):=(blk_cell BK138.out 2).trans rfl
         have hcz24_3 : w3.cell? ⟨gb138,3,none⟩ = some (.int .i64 a0_3):=(blk_cell BK138.out 3).trans rfl
         have hcz24_4 : w3.cell? ⟨gb138,4,none⟩ = some (.int .i64 a0_4):=(blk_cell BK138.out 4).trans rfl
         have hcz24_5 : w3.cell? ⟨gb138,5,none⟩ = some (.int .i64 a0_5):=(blk_cell BK138.out 5).trans rfl
         have hcz24_6 : w3.cell? ⟨gb138,6,none⟩ = some (.int .i64 a0_6):=(blk_cell BK138.out 6).trans rfl
         have hcz24_7 : w3.cell? ⟨gb138,7,none⟩ = some (.int .i64 a0_7):=(blk_cell BK138.out 7).trans rfl
         have hcz24_8 : w3.cell? ⟨gb138,8,none⟩ = some (.int .i64 a0_8):=(blk_cell BK138.out 8).trans rfl
         have hfz24_0:=blk_frozen BK138.out 0
         have hfz24_1:=blk_frozen BK138.out 1
         have hfz24_2:=blk_frozen BK138.out 2
         have hfz24_3:=blk_frozen BK138.out 3
         have hfz24_4:=blk_frozen BK138.out 4
         have hfz24_5:=blk_frozen BK138.out 5
         have hfz24_6:=blk_frozen BK138.out 6
         have hfz24_7:=blk_frozen BK138.out 7
         have hfz24_8:=blk_frozen BK138.out 8
         go_wp2_with (first|((with_reducible refine gate_callee (f:=43) rfl ?_);refine goesL_ (some 5) rfl rfl Try.func43 (by kernel_rfl) rfl #[.int .i64 a0_0,.int .i64 2] rfl (by (try simp only [List.map_toArray,List.map_cons,List.map_nil]);first|done|rfl|(simp only [List.length_drop,List.length_take];rfl)) ?_;(with_reducible refine (hinterlandref15_out.calls a0_0 2 false _ A4.out).mono ?_);rintro e w' ⟨rfl,⟨nd,rfl⟩⟩;refine ⟨_,rfl,?_⟩)|(go_at_call 43;(with_reducible refine (hinterlandref15_out.calls a0_1 1000000 false _ A7.out).mono ?_);rintro e w' ⟨rfl,⟨nd,rfl⟩⟩)|(go_at_call 43;(with_reducible refine (hinterlandref15_out.calls a0_2 2 false _ A10.out).mono ?_);rintro e w' ⟨rfl,⟨nd,rfl⟩⟩)|(go_at_call 43;(with_reducible refine (hinterlandref15_out.calls a0_3 2 false _ A13.out).mono ?_);rintro e w' ⟨rfl,⟨nd,rfl⟩⟩)|(go_at_call 43;(with_reducible refine (hinterlandref15_out.calls a0_4 4 false _ A16.out).mono ?_);rintro e w' ⟨rfl,⟨nd,rfl⟩⟩)|(go_at_call 43;(with_reducible refine (hinterlandref15_out.calls a0_5 1000000 false _ A19.out).mono ?_);rintro e w' ⟨rfl,⟨nd,rfl⟩⟩)|(go_at_call 43;(with_reducible refine (hinterlandref15_out.calls a0_7 1000000 true _ A22.out).mono ?_);rintro e w' ⟨rfl,⟨nd,rfl⟩⟩))
         go_meet
         case rel => exact ⟨_,(true),(by first|rfl|(simp;done)|(simp [*];done)),H',⟨by first|omega|exact Nat.le_refl _⟩,⟨by (with_reducible repeat (first|refine blk_drewN ?_ _|refine blk_drew ?_|refine blk_alloc ?_ _));exact BK138.out⟩,⟨by repeat (first|(with_reducible first|exact HB.out|apply below_alloc|apply pw_below_drewN|apply below_drew1|refine below_set ?_ GE138.out)|exact HB.out)⟩⟩
        ·replace c23:=Bool.eq_false_iff.mpr c23
         subst c23
         have H1 : ((hinterlandref15_out.f a0_8 1000000).bind fun t146 => (hinterlandref15_bad.j0 k t146 a0_0 a0_1 a0_2 a0_3 a0_4 a0_5 a0_6 a0_7 a0_8)) = some r:=by rw [if_neg (show ¬ (false = true) by decide)] at H;exact H
         clear H
         have H:=H1
         clear H1
         replace H:=Option.bind_eq_some_iff.mp H
         obtain ⟨t146,A250,H⟩:=H
         replace H : (hinterlandref15_bad.j0 k t146 a0_0 a0_1 a0_2 a0_3 a0_4 a0_5 a0_6 a0_7 a0_8) = some r:=H
         have A25:=Aside0.mk A250
         clear A250
         have H':=Aside0.mk H
         clear H
         have hcz26_0 : w3.cell? ⟨gb138,0,none⟩ = some (.int .i64 a0_0):=(blk_cell BK138.out 0).trans rfl
         have hcz26_1 : w3.cell? ⟨gb138,1,none⟩ = some (.int .i64 a0_1):=(blk_cell BK138.out 1).trans rfl
         have hcz26_2 : w3.cell? ⟨gb138,2,none⟩ = some (.int .i64 a0_2):=(blk_cell BK138.out 2).trans rfl
         have hcz26_3 : w3.cell? ⟨gb138,3,none⟩ = some (.int .i64 a0_3):=(blk_cell BK138.out 3).trans rfl
         have hcz26_4 : w3.cell? ⟨gb138,4,none⟩ = some (.int .i64 a0_4):=(blk_cell BK138.out 4).trans rfl
         have hcz26_5 : w3.cell? ⟨gb138,5,none⟩ = some (.int .i64 a0_5):=(blk_cell BK138.out 5).trans rfl
         have hcz26_6 : w3.cell? ⟨gb138,6,none⟩ = some (.int .i64 a0_6):=(blk_cell BK138.out 6).trans rfl
         have hcz26_7 : w3.cell? ⟨gb138,7,none⟩ = some (.int .i64 a0_7):=(blk_cell BK138.out 7).trans rfl
         have hcz26_8 : w3.cell? ⟨gb138,8,none⟩ = some (.int .i64 a0_8):=(blk_cell BK138.out 8).trans rfl
         have hfz26_0:=blk_frozen BK138.out 0
         have hfz26_1:=blk_frozen BK138.out 1
         have hfz26_2:=blk_frozen BK138.out 2
         have hfz26_3:=blk_frozen BK138.out 3
         have hfz26_4:=blk_frozen BK138.out 4
         have hfz26_5:=blk_frozen BK138.out 5
         have hfz26_6:=blk_frozen BK138.out 6
         have hfz26_7:=blk_frozen BK138.out 7
         have hfz26_8:=blk_frozen BK138.out 8
         go_wp2_with (first|((with_reducible refine gate_callee (f:=43) rfl ?_);refine goesL_ (some 5) rfl rfl Try.func43 (by kernel_rfl) rfl #[.int .i64 a0_0,.int .i64 2] rfl (by (try simp only [List.map_toArray,List.map_cons,List.map_nil]);first|done|rfl|(simp only [List.length_drop,List.length_take];rfl)) ?_;(with_reducible refine (hinterlandref15_out.calls a0_0 2 false _ A4.out).mono ?_);rintro e w' ⟨rfl,⟨nd,rfl⟩⟩;refine ⟨_,rfl,?_⟩)|(go_at_call 43;(with_reducible refine (hinterlandref15_out.calls a0_1 1000000 false _ A7.out).mono ?_);rintro e w' ⟨rfl,⟨nd,rfl⟩⟩)|(go_at_call 43;(with_reducible refine (hinterlandref15_out.calls a0_2 2 false _ A10.out).mono ?_);rintro e w' ⟨rfl,⟨nd,rfl⟩⟩)|(go_at_call 43;(with_reducible refine (hinterlandref15_out.calls a0_3 2 false _ A13.out).mono ?_);rintro e w' ⟨rfl,⟨nd,rfl⟩⟩)|(go_at_call 43;(with_reducible refine (hinterlandref15_out.calls a0_4 4 false _ A16.out).mono ?_);rintro e w' ⟨rfl,⟨nd,rfl⟩⟩)|(go_at_call 43;(with_reducible refine (hinterlandref15_out.calls a0_5 1000000 false _ A19.out).mono ?_);rintro e w' ⟨rfl,⟨nd,rfl⟩⟩)|(go_at_call 43;(with_reducible refine (hinterlandref15_out.calls a0_7 1000000 false _ A22.out).mono ?_);rintro e w' ⟨rfl,⟨nd,rfl⟩⟩)|(go_at_call 43;(with_reducible refine (hinterlandref15_out.calls a0_8 1000000 t146 _ A25.out).mono ?_);rintro e w' ⟨rfl,⟨nd,rfl⟩⟩))
         go_meet
         case rel => exact ⟨_,(t146),(by first|rfl|(simp;done)|(simp [*];done)),H',⟨by first|omega|exact Nat.le_refl _⟩,⟨by (with_reducible repeat (first|refine blk_drewN ?_ _|refine blk_drew ?_|refine blk_alloc ?_ _));exact BK138.out⟩,⟨by repeat (first|(with_reducible first|exact HB.out|apply below_alloc|apply pw_below_drewN|apply below_drew1|refine below_set ?_ GE138.out)|exact HB.out)⟩⟩
 case rest =>
  clear HC2
  try clear c1
  try clear c2
  try clear p2
  try clear c3
  try clear c4
  try clear c5
  try clear c8
  try clear c11
  try clear c14
  try clear c17
  try clear c20
  try clear c23
  try clear hcz12_0
  try clear hcz12_1
  try clear hcz12_2
  try clear hcz12_3
  try clear hcz12_4
  try clear hcz12_5
  try clear hcz12_6
  try clear hcz12_7
  try clear hcz12_8
  try clear hcz15_0
  try clear hcz15_1
  try clear hcz15_2
  try clear hcz15_3
  try clear hcz15_4
  try clear hcz15_5
  try clear hcz15_6
  try clear hcz15_7
  try clear hcz15_8
  try clear hcz18_0
  try clear hcz18_1
  try clear hcz18_2
  try clear hcz18_3
  try clear hcz18_4
  try clear hcz18_5
  try clear hcz18_6
  try clear hcz18_7
  try clear hcz18_8
  try clear hcz21_0
  try clear hcz21_1
  try clear hcz21_2
  try clear hcz21_3
  try clear hcz21_4
  try clear hcz21_5
  try clear hcz21_6
  try clear hcz21_7
  try clear hcz21_8
  try clear hcz24_0
  try clear hcz24_1
  try clear hcz24_2
  try clear hcz24_3
  try clear hcz24_4
  try clear hcz24_5
  try clear hcz24_6
  try clear hcz24_7
  try clear hcz24_8
  try clear hcz26_0
  try clear hcz26_1
  try clear hcz26_2
  try clear hcz26_3
  try clear hcz26_4
  try clear hcz26_5
  try clear hcz26_6
  try clear hcz26_7
  try clear hcz26_8
  try clear hcz6_0
  try clear hcz6_1
  try clear hcz6_2
  try clear hcz6_3
  try clear hcz6_4
  try clear hcz6_5
  try clear hcz6_6
  try clear hcz6_7
  try clear hcz6_8
  try clear hcz9_0
  try clear hcz9_1
  try clear hcz9_2
  try clear hcz9_3
  try clear hcz9_4
  try clear hcz9_5
  try clear hcz9_6
  try clear hcz9_7
  try clear hcz9_8
  try clear hfz12_0
  try clear hfz12_1
  try clear hfz12_2
  try clear hfz12_3
  try clear hfz12_4
  try clear hfz12_5
  try clear hfz12_6
  try clear hfz12_7
  try clear hfz12_8
  try clear hfz15_0
  try clear hfz15_1
  try clear hfz15_2
  try clear hfz15_3
  try clear hfz15_4
  try clear hfz15_5
  try clear hfz15_6
  try clear hfz15_7
  try clear hfz15_8
  try clear hfz18_0
  try clear hfz18_1
  try clear hfz18_2
  try clear hfz18_3
  try clear hfz18_4
  try clear hfz18_5
  try clear hfz18_6
  try clear hfz18_7
  try clear hfz18_8
  try clear hfz21_0
  try clear hfz21_1
  try clear hfz21_2
  try clear hfz21_3
  try clear hfz21_4
  try clear hfz21_5
  try clear hfz21_6
  try clear hfz21_7
  try clear hfz21_8
  try clear hfz24_0
  try clear hfz24_1
  try clear hfz24_2
  try clear hfz24_3
  try clear hfz24_4
  try clear hfz24_5
  try clear hfz24_6
  try clear hfz24_7
  try clear hfz24_8
  try clear hfz26_0
  try clear hfz26_1
  try clear hfz26_2
  try clear hfz26_3
  try clear hfz26_4
  try clear hfz26_5
  try clear hfz26_6
  try clear hfz26_7
  try clear hfz26_8
  try clear hfz6_0
  try clear hfz6_1
  try clear hfz6_2
  try clear hfz6_3
  try clear hfz6_4
  try clear hfz6_5
  try clear hfz6_6
  try clear hfz6_7
  try clear hfz6_8
  try clear hfz9_0
  try clear hfz9_1
  try clear hfz9_2
  try clear hfz9_3
  try clear hfz9_4
  try clear hfz9_5
  try clear hfz9_6
  try clear hfz9_7
  try clear hfz9_8
  obtain ⟨kq,x40_1,rfl,HA,HJ1,BK138,HB⟩:=hcut
  cases kq with
  | zero => exact absurd HA.out (by simp [hinterlandref15_bad.j0])
  | succ kj1 =>
   have H:=HA.out
   clear HA
   simp only [hinterlandref15_bad.j0] at H
   by_cases c27 : x40_1 = true
   ·subst c27
    have H1 : (some true) = some r:=by rw [if_pos rfl] at H;exact H
    clear H
    have H:=H1
    clear H1
    obtain rfl:=Option.some.inj H
    go_wp2
    go_ret
    exact ⟨by first|rfl|(simp [errW_none,errW_some] <;> rfl)|(simp [*,errW_none,errW_some] <;> rfl),by repeat (first|(with_reducible first|exact HB.out|apply below_alloc|apply pw_below_drewN|apply below_drew1|refine below_set ?_ GE138.out)|exact HB.out)⟩
   ·replace c27:=Bool.eq_false_iff.mpr c27
    subst c27
    have H1 : (if a0_0 = 2 then (if a0_1 = 0 then (if a0_2 = 0 then (if a0_3 = 0 then (if a0_7 = 0 then (some (a0_8 != 0)) else (some true)) else (some true)) else (some true)) else (some true)) else (if a0_0 = 1 then (if a0_2 = 0 then (if a0_3 = 0 then (if a0_4 = 0 then (if a0_5 = 0 then (some (a0_6 != 0)) else (some true)) else (some true)) else (some true)) else (some true)) else (if a0_4 = 0 then (if a0_5 = 0 then (some (a0_6 != 0)) else (some true)) else (some true)))) = some r:=by rw [if_neg (show ¬ (false = true) by decide)] at H;exact H
    clear H
    have H:=H1
    clear H1
    by_cases c28 : a0_0 = 2
    ·rw [if_pos c28] at H
     have c28b0 : (a0_0 == 2) = true:=beq_iff_eq.mpr c28
     have c28b1 : (a0_0 != 2) = false:=bne_eq_false_iff_eq.mpr c28
     clear c28
     by_cases c29 : a0_1 = 0
     ·rw [if_pos c29] at H
      have c29b0 : (a0_1 == 0) = true:=beq_iff_eq.mpr c29
      have c29b1 : (a0_1 != 0) = false:=bne_eq_false_iff_eq.mpr c29
      clear c29
      by_cases c30 : a0_2 = 0
      ·rw [if_pos c30] at H
       have c30b0 : (a0_2 == 0) = true:=beq_iff_eq.mpr c30
       have c30b1 : (a0_2 != 0) = false:=bne_eq_false_iff_eq.mpr c30
       clear c30
       by_cases c31 : a0_3 = 0
       ·rw [if_pos c31] at H
        have c31b0 : (a0_3 == 0) = true:=beq_iff_eq.mpr c31
        have c31b1 : (a0_3 != 0) = false:=bne_eq_false_iff_eq.mpr c31
        clear c31
        by_cases c32 : a0_7 = 0
        ·rw [if_pos c32] at H
         have c32b0 : (a0_7 == 0) = true:=beq_iff_eq.mpr c32
         have c32b1 : (a0_7 != 0) = false:=bne_eq_false_iff_eq.mpr c32
         clear c32
         obtain rfl:=Option.some.inj H
         have hcz33_0 : wc.cell? ⟨gb138,0,none⟩ = some (.int .i64 a0_0):=(blk_cell BK138.out 0).trans rfl
         have hcz33_1 : wc.cell? ⟨gb138,1,none⟩ = some (.int .i64 a0_1):=(blk_cell BK138.out 1).trans rfl
         have hcz33_2 : wc.cell? ⟨gb138,2,none⟩ = some (.int .i64 a0_2):=(blk_cell BK138.out 2).trans rfl
         have hcz33_3 : wc.cell? ⟨gb138,3,none⟩ = some (.int .i64 a0_3):=(blk_cell BK138.out 3).trans rfl
         have hcz33_4 : wc.cell? ⟨gb138,4,none⟩ = some (.int .i64 a0_4):=(blk_cell BK138.out 4).trans rfl
         have hcz33_5 : wc.cell? ⟨gb138,5,none⟩ = some (.int .i64 a0_5):=(blk_cell BK138.out 5).trans rfl
         have hcz33_6 : wc.cell? ⟨gb138,6,none⟩ = some (.int .i64 a0_6):=(blk_cell BK138.out 6).trans rfl
         have hcz33_7 : wc.cell? ⟨gb138,7,none⟩ = some (.int .i64 a0_7):=(blk_cell BK138.out 7).trans rfl
         have hcz33_8 : wc.cell? ⟨gb138,8,none⟩ = some (.int .i64 a0_8):=(blk_cell BK138.out 8).trans rfl
         have hfz33_0:=blk_frozen BK138.out 0
         have hfz33_1:=blk_frozen BK138.out 1
         have hfz33_2:=blk_frozen BK138.out 2
         have hfz33_3:=blk_frozen BK138.out 3
         have hfz33_4:=blk_frozen BK138.out 4
         have hfz33_5:=blk_frozen BK138.out 5
         have hfz33_6:=blk_frozen BK138.out 6
         have hfz33_7:=blk_frozen BK138.out 7
         have hfz33_8:=blk_frozen BK138.out 8
         go_wp2
         go_ret
         exact ⟨by first|rfl|(simp [errW_none,errW_some] <;> rfl)|(simp [*,errW_none,errW_some] <;> rfl),by repeat (first|(with_reducible first|exact HB.out|apply below_alloc|apply pw_below_drewN|apply below_drew1|refine below_set ?_ GE138.out)|exact HB.out)⟩
        ·rw [if_neg c32] at H
         have c32b0 : (a0_7 == 0) = false:=beq_eq_false_iff_ne.mpr c32
         have c32b1 : (a0_7 != 0) = true:=bne_iff_ne.mpr c32
         obtain rfl:=Option.some.inj H
         have hcz34_0 : wc.cell? ⟨gb138,0,none⟩ = some (.int .i64 a0_0):=(blk_cell BK138.out 0).trans rfl
         have hcz34_1 : wc.cell? ⟨gb138,1,none⟩ = some (.int .i64 a0_1):=(blk_cell BK138.out 1).trans rfl
         have hcz34_2 : wc.cell? ⟨gb138,2,none⟩ = some (.int .i64 a0_2):=(blk_cell BK138.out 2).trans rfl
         have hcz34_3 : wc.cell? ⟨gb138,3,none⟩ = some (.int .i64 a0_3):=(blk_cell BK138.out 3).trans rfl
         have hcz34_4 : wc.cell? ⟨gb138,4,none⟩ = some (.int .i64 a0_4):=(blk_cell BK138.out 4).trans rfl
         have hcz34_5 : wc.cell? ⟨gb138,5,none⟩ = some (.int .i64 a0_5):=(blk_cell BK138.out 5).trans rfl
         have hcz34_6 : wc.cell? ⟨gb138,6,none⟩ = some (.int .i64 a0_6):=(blk_cell BK138.out 6).trans rfl
         have hcz34_7 : wc.cell? ⟨gb138,7,none⟩ = some (.int .i64 a0_7):=(blk_cell BK138.out 7).trans rfl
         have hcz34_8 : wc.cell? ⟨gb138,8,none⟩ = some (.int .i64 a0_8):=(blk_cell BK138.out 8).trans rfl
         have hfz34_0:=blk_frozen BK138.out 0
         have hfz34_1:=blk_frozen BK138.out 1
         have hfz34_2:=blk_frozen BK138.out 2
         have hfz34_3:=blk_frozen BK138.out 3
         have hfz34_4:=blk_frozen BK138.out 4
         have hfz34_5:=blk_frozen BK138.out 5
         have hfz34_6:=blk_frozen BK138.out 6
         have hfz34_7:=blk_frozen BK138.out 7
         have hfz34_8:=blk_frozen BK138.out 8
         go_wp2
         go_ret
         exact ⟨by first|rfl|(simp [errW_none,errW_some] <;> rfl)|(simp [*,errW_none,errW_some] <;> rfl),by repeat (first|(with_reducible first|exact HB.out|apply below_alloc|apply pw_below_drewN|apply below_drew1|refine below_set ?_ GE138.out)|exact HB.out)⟩
       ·rw [if_neg c31] at H
        have c31b0 : (a0_3 == 0) = false:=beq_eq_false_iff_ne.mpr c31
        have c31b1 : (a0_3 != 0) = true:=bne_iff_ne.mpr c31
        obtain rfl:=Option.some.inj H
        have hcz35_0 : wc.cell? ⟨gb138,0,none⟩ = some (.int .i64 a0_0):=(blk_cell BK138.out 0).trans rfl
        have hcz35_1 : wc.cell? ⟨gb138,1,none⟩ = some (.int .i64 a0_1):=(blk_cell BK138.out 1).trans rfl
        have hcz35_2 : wc.cell? ⟨gb138,2,none⟩ = some (.int .i64 a0_2):=(blk_cell BK138.out 2).trans rfl
        have hcz35_3 : wc.cell? ⟨gb138,3,none⟩ = some (.int .i64 a0_3):=(blk_cell BK138.out 3).trans rfl
        have hcz35_4 : wc.cell? ⟨gb138,4,none⟩ = some (.int .i64 a0_4):=(blk_cell BK138.out 4).trans rfl
        have hcz35_5 : wc.cell? ⟨gb138,5,none⟩ = some (.int .i64 a0_5):=(blk_cell BK138.out 5).trans rfl
        have hcz35_6 : wc.cell? ⟨gb138,6,none⟩ = some (.int .i64 a0_6):=(blk_cell BK138.out 6).trans rfl
        have hcz35_7 : wc.cell? ⟨gb138,7,none⟩ = some (.int .i64 a0_7):=(blk_cell BK138.out 7).trans rfl
        have hcz35_8 : wc.cell? ⟨gb138,8,none⟩ = some (.int .i64 a0_8):=(blk_cell BK138.out 8).trans rfl
        have hfz35_0:=blk_frozen BK138.out 0
        have hfz35_1:=blk_frozen BK138.out 1
        have hfz35_2:=blk_frozen BK138.out 2
        have hfz35_3:=blk_frozen BK138.out 3
        have hfz35_4:=blk_frozen BK138.out 4
        have hfz35_5:=blk_frozen BK138.out 5
        have hfz35_6:=blk_frozen BK138.out 6
        have hfz35_7:=blk_frozen BK138.out 7
        have hfz35_8:=blk_frozen BK138.out 8
        go_wp2
        go_ret
        exact ⟨by first|rfl|(simp [errW_none,errW_some] <;> rfl)|(simp [*,errW_none,errW_some] <;> rfl),by repeat (first|(with_reducible first|exact HB.out|apply below_alloc|apply pw_below_drewN|apply below_drew1|refine below_set ?_ GE138.out)|exact HB.out)⟩
      ·rw [if_neg c30] at H
       have c30b0 : (a0_2 == 0) = false:=beq_eq_false_iff_ne.mpr c30
       have c30b1 : (a0_2 != 0) = true:=bne_iff_ne.mpr c30
       obtain rfl:=Option.some.inj H
       have hcz36_0 : wc.cell? ⟨gb138,0,none⟩ = some (.int .i64 a0_0):=(blk_cell BK138.out 0).trans rfl
       have hcz36_1 : wc.cell? ⟨gb138,1,none⟩ = some (.int .i64 a0_1):=(blk_cell BK138.out 1).trans rfl
       have hcz36_2 : wc.cell? ⟨gb138,2,none⟩ = some (.int .i64 a0_2):=(blk_cell BK138.out 2).trans rfl
       have hcz36_3 : wc.cell? ⟨gb138,3,none⟩ = some (.int .i64 a0_3):=(blk_cell BK138.out 3).trans rfl
       have hcz36_4 : wc.cell? ⟨gb138,4,none⟩ = some (.int .i64 a0_4):=(blk_cell BK138.out 4).trans rfl
       have hcz36_5 : wc.cell? ⟨gb138,5,none⟩ = some (.int .i64 a0_5):=(blk_cell BK138.out 5).trans rfl
       have hcz36_6 : wc.cell? ⟨gb138,6,none⟩ = some (.int .i64 a0_6):=(blk_cell BK138.out 6).trans rfl
       have hcz36_7 : wc.cell? ⟨gb138,7,none⟩ = some (.int .i64 a0_7):=(blk_cell BK138.out 7).trans rfl
       have hcz36_8 : wc.cell? ⟨gb138,8,none⟩ = some (.int .i64 a0_8):=(blk_cell BK138.out 8).trans rfl
       have hfz36_0:=blk_frozen BK138.out 0
       have hfz36_1:=blk_frozen BK138.out 1
       have hfz36_2:=blk_frozen BK138.out 2
       have hfz36_3:=blk_frozen BK138.out 3
       have hfz36_4:=blk_frozen BK138.out 4
       have hfz36_5:=blk_frozen BK138.out 5
       have hfz36_6:=blk_frozen BK138.out 6
       have hfz36_7:=blk_frozen BK138.out 7
       have hfz36_8:=blk_frozen BK138.out 8
       go_wp2
       go_ret
       exact ⟨by first|rfl|(simp [errW_none,errW_some] <;> rfl)|(simp [*,errW_none,errW_some] <;> rfl),by repeat (first|(with_reducible first|exact HB.out|apply below_alloc|apply pw_below_drewN|apply below_drew1|refine below_set ?_ GE138.out)|exact HB.out)⟩
     ·rw [if_neg c29] at H
      have c29b0 : (a0_1 == 0) = false:=beq_eq_false_iff_ne.mpr c29
      have c29b1 : (a0_1 != 0) = true:=bne_iff_ne.mpr c29
      obtain rfl:=Option.some.inj H
      have hcz37_0 : wc.cell? ⟨gb138,0,none⟩ = some (.int .i64 a0_0):=(blk_cell BK138.out 0).trans rfl
      have hcz37_1 : wc.cell? ⟨gb138,1,none⟩ = some (.int .i64 a0_1):=(blk_cell BK138.out 1).trans rfl
      have hcz37_2 : wc.cell? ⟨gb138,2,none⟩ = some (.int .i64 a0_2):=(blk_cell BK138.out 2).trans rfl
      have hcz37_3 : wc.cell? ⟨gb138,3,none⟩ = some (.int .i64 a0_3):=(blk_cell BK138.out 3).trans rfl
      have hcz37_4 : wc.cell? ⟨gb138,4,none⟩ = some (.int .i64 a0_4):=(blk_cell BK138.out 4).trans rfl
      have hcz37_5 : wc.cell? ⟨gb138,5,none⟩ = some (.int .i64 a0_5):=(blk_cell BK138.out 5).trans rfl
      have hcz37_6 : wc.cell? ⟨gb138,6,none⟩ = some (.int .i64 a0_6):=(blk_cell BK138.out 6).trans rfl
      have hcz37_7 : wc.cell? ⟨gb138,7,none⟩ = some (.int .i64 a0_7):=(blk_cell BK138.out 7).trans rfl
      have hcz37_8 : wc.cell? ⟨gb138,8,none⟩ = some (.int .i64 a0_8):=(blk_cell BK138.out 8).trans rfl
      have hfz37_0:=blk_frozen BK138.out 0
      have hfz37_1:=blk_frozen BK138.out 1
      have hfz37_2:=blk_frozen BK138.out 2
      have hfz37_3:=blk_frozen BK138.out 3
      have hfz37_4:=blk_frozen BK138.out 4
      have hfz37_5:=blk_frozen BK138.out 5
      have hfz37_6:=blk_frozen BK138.out 6
      have hfz37_7:=blk_frozen BK138.out 7
      have hfz37_8:=blk_frozen BK138.out 8
      go_wp2
      go_ret
      exact ⟨by first|rfl|(simp [errW_none,errW_some] <;> rfl)|(simp [*,errW_none,errW_some] <;> rfl),by repeat (first|(with_reducible first|exact HB.out|apply below_alloc|apply pw_below_drewN|apply below_drew1|refine below_set ?_ GE138.out)|exact HB.out)⟩
    ·rw [if_neg c28] at H
     have c28b0 : (a0_0 == 2) = false:=beq_eq_false_iff_ne.mpr c28
     have c28b1 : (a0_0 != 2) = true:=bne_iff_ne.mpr c28
     by_cases c38 : a0_0 = 1
     ·rw [if_pos c38] at H
      have c38b0 : (a0_0 == 1) = true:=beq_iff_eq.mpr c38
      have c38b1 : (a0_0 != 1) = false:=bne_eq_false_iff_eq.mpr c38
      clear c38
      by_cases c39 : a0_2 = 0
      ·rw [if_pos c39] at H
       have c39b0 : (a0_2 == 0) = true:=beq_iff_eq.mpr c39
       have c39b1 : (a0_2 != 0) = false:=bne_eq_false_iff_eq.mpr c39
       clear c39
       by_cases c40 : a0_3 = 0
       ·rw [if_pos c40] at H
        have c40b0 : (a0_3 == 0) = true:=beq_iff_eq.mpr c40
        have c40b1 : (a0_3 != 0) = false:=bne_eq_false_iff_eq.mpr c40
        clear c40
        by_cases c41 : a0_4 = 0
        ·rw [if_pos c41] at H
         have c41b0 : (a0_4 == 0) = true:=beq_iff_eq.mpr c41
         have c41b1 : (a0_4 != 0) = false:=bne_eq_false_iff_eq.mpr c41
         clear c41
         by_cases c42 : a0_5 = 0
         ·rw [if_pos c42] at H
          have c42b0 : (a0_5 == 0) = true:=beq_iff_eq.mpr c42
          have c42b1 : (a0_5 != 0) = false:=bne_eq_false_iff_eq.mpr c42
          clear c42
          obtain rfl:=Option.some.inj H
          have hcz43_0 : wc.cell? ⟨gb138,0,none⟩ = some (.int .i64 a0_0):=(blk_cell BK138.out 0).trans rfl
          have hcz43_1 : wc.cell? ⟨gb138,1,none⟩ = some (.int .i64 a0_1):=(blk_cell BK138.out 1).trans rfl
          have hcz43_2 : wc.cell? ⟨gb138,2,none⟩ = some (.int .i64 a0_2):=(blk_cell BK138.out 2).trans rfl
          have hcz43_3 : wc.cell? ⟨gb138,3,none⟩ = some (.int .i64 a0_3):=(blk_cell BK138.out 3).trans rfl
          have hcz43_4 : wc.cell? ⟨gb138,4,none⟩ = some (.int .i64 a0_4):=(blk_cell BK138.out 4).trans rfl
          have hcz43_5 : wc.cell? ⟨gb138,5,none⟩ = some (.int .i64 a0_5):=(blk_cell BK138.out 5).trans rfl
          have hcz43_6 : wc.cell? ⟨gb138,6,none⟩ = some (.int .i64 a0_6):=(blk_cell BK138.out 6).trans rfl
          have hcz43_7 : wc.cell? ⟨gb138,7,none⟩ = some (.int .i64 a0_7):=(blk_cell BK138.out 7).trans rfl
          have hcz43_8 : wc.cell? ⟨gb138,8,none⟩ = some (.int .i64 a0_8):=(blk_cell BK138.out 8).trans rfl
          have hfz43_0:=blk_frozen BK138.out 0
          have hfz43_1:=blk_frozen BK138.out 1
          have hfz43_2:=blk_frozen BK138.out 2
          have hfz43_3:=blk_frozen BK138.out 3
          have hfz43_4:=blk_frozen BK138.out 4
          have hfz43_5:=blk_frozen BK138.out 5
          have hfz43_6:=blk_frozen BK138.out 6
          have hfz43_7:=blk_frozen BK138.out 7
          have hfz43_8:=blk_frozen BK138.out 8
          go_wp2
          go_ret
          exact ⟨by first|rfl|(simp [errW_none,errW_some] <;> rfl)|(simp [*,errW_none,errW_some] <;> rfl),by repeat (first|(with_reducible first|exact HB.out|apply below_alloc|apply pw_below_drewN|apply below_drew1|refine below_set ?_ GE138.out)|exact HB.out)⟩
         ·rw [if_neg c42] at H
          have c42b0 : (a0_5 == 0) = false:=beq_eq_false_iff_ne.mpr c42
          have c42b1 : (a0_5 != 0) = true:=bne_iff_ne.mpr c42
          obtain rfl:=Option.some.inj H
          have hcz44_0 : wc.cell? ⟨gb138,0,none⟩ = some (.int .i64 a0_0):=(blk_cell BK138.out 0).trans rfl
          have hcz44_1 : wc.cell? ⟨gb138,1,none⟩ = some (.int .i64 a0_1):=(blk_cell BK138.out 1).trans rfl
          have hcz44_2 : wc.cell? ⟨gb138,2,none⟩ = some (.int .i64 a0_2):=(blk_cell BK138.out 2).trans rfl
          have hcz44_3 : wc.cell? ⟨gb138,3,none⟩ = some (.int .i64 a0_3):=(blk_cell BK138.out 3).trans rfl
          have hcz44_4 : wc.cell? ⟨gb138,4,none⟩ = some (.int .i64 a0_4):=(blk_cell BK138.out 4).trans rfl
          have hcz44_5 : wc.cell? ⟨gb138,5,none⟩ = some (.int .i64 a0_5):=(blk_cell BK138.out 5).trans rfl
          have hcz44_6 : wc.cell? ⟨gb138,6,none⟩ = some (.int .i64 a0_6):=(blk_cell BK138.out 6).trans rfl
          have hcz44_7 : wc.cell? ⟨gb138,7,none⟩ = some (.int .i64 a0_7):=(blk_cell BK138.out 7).trans rfl
          have hcz44_8 : wc.cell? ⟨gb138,8,none⟩ = some (.int .i64 a0_8):=(blk_cell BK138.out 8).trans rfl
          have hfz44_0:=blk_frozen BK138.out 0
          have hfz44_1:=blk_frozen BK138.out 1
          have hfz44_2:=blk_frozen BK138.out 2
          have hfz44_3:=blk_frozen BK138.out 3
          have hfz44_4:=blk_frozen BK138.out 4
          have hfz44_5:=blk_frozen BK138.out 5
          have hfz44_6:=blk_frozen BK138.out 6
          have hfz44_7:=blk_frozen BK138.out 7
          have hfz44_8:=blk_frozen BK138.out 8
          go_wp2
          go_ret
          exact ⟨by first|rfl|(simp [errW_none,errW_some] <;> rfl)|(simp [*,errW_none,errW_some] <;> rfl),by repeat (first|(with_reducible first|exact HB.out|apply below_alloc|apply pw_below_drewN|apply below_drew1|refine below_set ?_ GE138.out)|exact HB.out)⟩
        ·rw [if_neg c41] at H
         have c41b0 : (a0_4 == 0) = false:=beq_eq_false_iff_ne.mpr c41
         have c41b1 : (a0_4 != 0) = true:=bne_iff_ne.mpr c41
         obtain rfl:=Option.some.inj H
         have hcz45_0 : wc.cell? ⟨gb138,0,none⟩ = some (.int .i64 a0_0):=(blk_cell BK138.out 0).trans rfl
         have hcz45_1 : wc.cell? ⟨gb138,1,none⟩ = some (.int .i64 a0_1):=(blk_cell BK138.out 1).trans rfl
         have hcz45_2 : wc.cell? ⟨gb138,2,none⟩ = some (.int .i64 a0_2):=(blk_cell BK138.out 2).trans rfl
         have hcz45_3 : wc.cell? ⟨gb138,3,none⟩ = some (.int .i64 a0_3):=(blk_cell BK138.out 3).trans rfl
         have hcz45_4 : wc.cell? ⟨gb138,4,none⟩ = some (.int .i64 a0_4):=(blk_cell BK138.out 4).trans rfl
         have hcz45_5 : wc.cell? ⟨gb138,5,none⟩ = some (.int .i64 a0_5):=(blk_cell BK138.out 5).trans rfl
         have hcz45_6 : wc.cell? ⟨gb138,6,none⟩ = some (.int .i64 a0_6):=(blk_cell BK138.out 6).trans rfl
         have hcz45_7 : wc.cell? ⟨gb138,7,none⟩ = some (.int .i64 a0_7):=(blk_cell BK138.out 7).trans rfl
         have hcz45_8 : wc.cell? ⟨gb138,8,none⟩ = some (.int .i64 a0_8):=(blk_cell BK138.out 8).trans rfl
         have hfz45_0:=blk_frozen BK138.out 0
         have hfz45_1:=blk_frozen BK138.out 1
         have hfz45_2:=blk_frozen BK138.out 2
         have hfz45_3:=blk_frozen BK138.out 3
         have hfz45_4:=blk_frozen BK138.out 4
         have hfz45_5:=blk_frozen BK138.out 5
         have hfz45_6:=blk_frozen BK138.out 6
         have hfz45_7:=blk_frozen BK138.out 7
         have hfz45_8:=blk_frozen BK138.out 8
         go_wp2
         go_ret
         exact ⟨by first|rfl|(simp [errW_none,errW_some] <;> rfl)|(simp [*,errW_none,errW_some] <;> rfl),by repeat (first|(with_reducible first|exact HB.out|apply below_alloc|apply pw_below_drewN|apply below_drew1|refine below_set ?_ GE138.out)|exact HB.out)⟩
       ·rw [if_neg c40] at H
        have c40b0 : (a0_3 == 0) = false:=beq_eq_false_iff_ne.mpr c40
        have c40b1 : (a0_3 != 0) = true:=bne_iff_ne.mpr c40
        obtain rfl:=Option.some.inj H
        have hcz46_0 : wc.cell? ⟨gb138,0,none⟩ = some (.int .i64 a0_0):=(blk_cell BK138.out 0).trans rfl
        have hcz46_1 : wc.cell? ⟨gb138,1,none⟩ = some (.int .i64 a0_1):=(blk_cell BK138.out 1).trans rfl
        have hcz46_2 : wc.cell? ⟨gb138,2,none⟩ = some (.int .i64 a0_2):=(blk_cell BK138.out 2).trans rfl
        have hcz46_3 : wc.cell? ⟨gb138,3,none⟩ = some (.int .i64 a0_3):=(blk_cell BK138.out 3).trans rfl
        have hcz46_4 : wc.cell? ⟨gb138,4,none⟩ = some (.int .i64 a0_4):=(blk_cell BK138.out 4).trans rfl
        have hcz46_5 : wc.cell? ⟨gb138,5,none⟩ = some (.int .i64 a0_5):=(blk_cell BK138.out 5).trans rfl
        have hcz46_6 : wc.cell? ⟨gb138,6,none⟩ = some (.int .i64 a0_6):=(blk_cell BK138.out 6).trans rfl
        have hcz46_7 : wc.cell? ⟨gb138,7,none⟩ = some (.int .i64 a0_7):=(blk_cell BK138.out 7).trans rfl
        have hcz46_8 : wc.cell? ⟨gb138,8,none⟩ = some (.int .i64 a0_8):=(blk_cell BK138.out 8).trans rfl
        have hfz46_0:=blk_frozen BK138.out 0
        have hfz46_1:=blk_frozen BK138.out 1
        have hfz46_2:=blk_frozen BK138.out 2
        have hfz46_3:=blk_frozen BK138.out 3
        have hfz46_4:=blk_frozen BK138.out 4
        have hfz46_5:=blk_frozen BK138.out 5
        have hfz46_6:=blk_frozen BK138.out 6
        have hfz46_7:=blk_frozen BK138.out 7
        have hfz46_8:=blk_frozen BK138.out 8
        go_wp2
        go_ret
        exact ⟨by first|rfl|(simp [errW_none,errW_some] <;> rfl)|(simp [*,errW_none,errW_some] <;> rfl),by repeat (first|(with_reducible first|exact HB.out|apply below_alloc|apply pw_below_drewN|apply below_drew1|refine below_set ?_ GE138.out)|exact HB.out)⟩
      ·rw [if_neg c39] at H
       have c39b0 : (a0_2 == 0) = false:=beq_eq_false_iff_ne.mpr c39
       have c39b1 : (a0_2 != 0) = true:=bne_iff_ne.mpr c39
       obtain rfl:=Option.some.inj H
       have hcz47_0 : wc.cell? ⟨gb138,0,none⟩ = some (.int .i64 a0_0):=(blk_cell BK138.out 0).trans rfl
       have hcz47_1 : wc.cell? ⟨gb138,1,none⟩ = some (.int .i64 a0_1):=(blk_cell BK138.out 1).trans rfl
       have hcz47_2 : wc.cell? ⟨gb138,2,none⟩ = some (.int .i64 a0_2):=(blk_cell BK138.out 2).trans rfl
       have hcz47_3 : wc.cell? ⟨gb138,3,none⟩ = some (.int .i64 a0_3):=(blk_cell BK138.out 3).trans rfl
       have hcz47_4 : wc.cell? ⟨gb138,4,none⟩ = some (.int .i64 a0_4):=(blk_cell BK138.out 4).trans rfl
       have hcz47_5 : wc.cell? ⟨gb138,5,none⟩ = some (.int .i64 a0_5):=(blk_cell BK138.out 5).trans rfl
       have hcz47_6 : wc.cell? ⟨gb138,6,none⟩ = some (.int .i64 a0_6):=(blk_cell BK138.out 6).trans rfl
       have hcz47_7 : wc.cell? ⟨gb138,7,none⟩ = some (.int .i64 a0_7):=(blk_cell BK138.out 7).trans rfl
       have hcz47_8 : wc.cell? ⟨gb138,8,none⟩ = some (.int .i64 a0_8):=(blk_cell BK138.out 8).trans rfl
       have hfz47_0:=blk_frozen BK138.out 0
       have hfz47_1:=blk_frozen BK138.out 1
       have hfz47_2:=blk_frozen BK138.out 2
       have hfz47_3:=blk_frozen BK138.out 3
       have hfz47_4:=blk_frozen BK138.out 4
       have hfz47_5:=blk_frozen BK138.out 5
       have hfz47_6:=blk_frozen BK138.out 6
       have hfz47_7:=blk_frozen BK138.out 7
       have hfz47_8:=blk_frozen BK138.out 8
       go_wp2
       go_ret
       exact ⟨by first|rfl|(simp [errW_none,errW_some] <;> rfl)|(simp [*,errW_none,errW_some] <;> rfl),by repeat (first|(with_reducible first|exact HB.out|apply below_alloc|apply pw_below_drewN|apply below_drew1|refine below_set ?_ GE138.out)|exact HB.out)⟩
     ·rw [if_neg c38] at H
      have c38b0 : (a0_0 == 1) = false:=beq_eq_false_iff_ne.mpr c38
      have c38b1 : (a0_0 != 1) = true:=bne_iff_ne.mpr c38
      by_cases c48 : a0_4 = 0
      ·rw [if_pos c48] at H
       have c48b0 : (a0_4 == 0) = true:=beq_iff_eq.mpr c48
       have c48b1 : (a0_4 != 0) = false:=bne_eq_false_iff_eq.mpr c48
       clear c48
       by_cases c49 : a0_5 = 0
       ·rw [if_pos c49] at H
        have c49b0 : (a0_5 == 0) = true:=beq_iff_eq.mpr c49
        have c49b1 : (a0_5 != 0) = false:=bne_eq_false_iff_eq.mpr c49
        clear c49
        obtain rfl:=Option.some.inj H
        have hcz50_0 : wc.cell? ⟨gb138,0,none⟩ = some (.int .i64 a0_0):=(blk_cell BK138.out 0).trans rfl
        have hcz50_1 : wc.cell? ⟨gb138,1,none⟩ = some (.int .i64 a0_1):=(blk_cell BK138.out 1).trans rfl
        have hcz50_2 : wc.cell? ⟨gb138,2,none⟩ = some (.int .i64 a0_2):=(blk_cell BK138.out 2).trans rfl
        have hcz50_3 : wc.cell? ⟨gb138,3,none⟩ = some (.int .i64 a0_3):=(blk_cell BK138.out 3).trans rfl
        have hcz50_4 : wc.cell? ⟨gb138,4,none⟩ = some (.int .i64 a0_4):=(blk_cell BK138.out 4).trans rfl
        have hcz50_5 : wc.cell? ⟨gb138,5,none⟩ = some (.int .i64 a0_5):=(blk_cell BK138.out 5).trans rfl
        have hcz50_6 : wc.cell? ⟨gb138,6,none⟩ = some (.int .i64 a0_6):=(blk_cell BK138.out 6).trans rfl
        have hcz50_7 : wc.cell? ⟨gb138,7,none⟩ = some (.int .i64 a0_7):=(blk_cell BK138.out 7).trans rfl
        have hcz50_8 : wc.cell? ⟨gb138,8,none⟩ = some (.int .i64 a0_8):=(blk_cell BK138.out 8).trans rfl
        have hfz50_0:=blk_frozen BK138.out 0
        have hfz50_1:=blk_frozen BK138.out 1
        have hfz50_2:=blk_frozen BK138.out 2
        have hfz50_3:=blk_frozen BK138.out 3
        have hfz50_4:=blk_frozen BK138.out 4
        have hfz50_5:=blk_frozen BK138.out 5
        have hfz50_6:=blk_frozen BK138.out 6
        have hfz50_7:=blk_frozen BK138.out 7
        have hfz50_8:=blk_frozen BK138.out 8
        go_wp2
        go_ret
        exact ⟨by first|rfl|(simp [errW_none,errW_some] <;> rfl)|(simp [*,errW_none,errW_some] <;> rfl),by repeat (first|(with_reducible first|exact HB.out|apply below_alloc|apply pw_below_drewN|apply below_drew1|refine below_set ?_ GE138.out)|exact HB.out)⟩
       ·rw [if_neg c49] at H
        have c49b0 : (a0_5 == 0) = false:=beq_eq_false_iff_ne.mpr c49
        have c49b1 : (a0_5 != 0) = true:=bne_iff_ne.mpr c49
        obtain rfl:=Option.some.inj H
        have hcz51_0 : wc.cell? ⟨gb138,0,none⟩ = some (.int .i64 a0_0):=(blk_cell BK138.out 0).trans rfl
        have hcz51_1 : wc.cell? ⟨gb138,1,none⟩ = some (.int .i64 a0_1):=(blk_cell BK138.out 1).trans rfl
        have hcz51_2 : wc.cell? ⟨gb138,2,none⟩ = some (.int .i64 a0_2):=(blk_cell BK138.out 2).trans rfl
        have hcz51_3 : wc.cell? ⟨gb138,3,none⟩ = some (.int .i64 a0_3):=(blk_cell BK138.out 3).trans rfl
        have hcz51_4 : wc.cell? ⟨gb138,4,none⟩ = some (.int .i64 a0_4):=(blk_cell BK138.out 4).trans rfl
        have hcz51_5 : wc.cell? ⟨gb138,5,none⟩ = some (.int .i64 a0_5):=(blk_cell BK138.out 5).trans rfl
        have hcz51_6 : wc.cell? ⟨gb138,6,none⟩ = some (.int .i64 a0_6):=(blk_cell BK138.out 6).trans rfl
        have hcz51_7 : wc.cell? ⟨gb138,7,none⟩ = some (.int .i64 a0_7):=(blk_cell BK138.out 7).trans rfl
        have hcz51_8 : wc.cell? ⟨gb138,8,none⟩ = some (.int .i64 a0_8):=(blk_cell BK138.out 8).trans rfl
        have hfz51_0:=blk_frozen BK138.out 0
        have hfz51_1:=blk_frozen BK138.out 1
        have hfz51_2:=blk_frozen BK138.out 2
        have hfz51_3:=blk_frozen BK138.out 3
        have hfz51_4:=blk_frozen BK138.out 4
        have hfz51_5:=blk_frozen BK138.out 5
        have hfz51_6:=blk_frozen BK138.out 6
        have hfz51_7:=blk_frozen BK138.out 7
        have hfz51_8:=blk_frozen BK138.out 8
        go_wp2
        go_ret
        exact ⟨by first|rfl|(simp [errW_none,errW_some] <;> rfl)|(simp [*,errW_none,errW_some] <;> rfl),by repeat (first|(with_reducible first|exact HB.out|apply below_alloc|apply pw_below_drewN|apply below_drew1|refine below_set ?_ GE138.out)|exact HB.out)⟩
      ·rw [if_neg c48] at H
       have c48b0 : (a0_4 == 0) = false:=beq_eq_false_iff_ne.mpr c48
       have c48b1 : (a0_4 != 0) = true:=bne_iff_ne.mpr c48
       obtain rfl:=Option.some.inj H
       have hcz52_0 : wc.cell? ⟨gb138,0,none⟩ = some (.int .i64 a0_0):=(blk_cell BK138.out 0).trans rfl
       have hcz52_1 : wc.cell? ⟨gb138,1,none⟩ = some (.int .i64 a0_1):=(blk_cell BK138.out 1).trans rfl
       have hcz52_2 : wc.cell? ⟨gb138,2,none⟩ = some (.int .i64 a0_2):=(blk_cell BK138.out 2).trans rfl
       have hcz52_3 : wc.cell? ⟨gb138,3,none⟩ = some (.int .i64 a0_3):=(blk_cell BK138.out 3).trans rfl
       have hcz52_4 : wc.cell? ⟨gb138,4,none⟩ = some (.int .i64 a0_4):=(blk_cell BK138.out 4).trans rfl
       have hcz52_5 : wc.cell? ⟨gb138,5,none⟩ = some (.int .i64 a0_5):=(blk_cell BK138.out 5).trans rfl
       have hcz52_6 : wc.cell? ⟨gb138,6,none⟩ = some (.int .i64 a0_6):=(blk_cell BK138.out 6).trans rfl
       have hcz52_7 : wc.cell? ⟨gb138,7,none⟩ = some (.int .i64 a0_7):=(blk_cell BK138.out 7).trans rfl
       have hcz52_8 : wc.cell? ⟨gb138,8,none⟩ = some (.int .i64 a0_8):=(blk_cell BK138.out 8).trans rfl
       have hfz52_0:=blk_frozen BK138.out 0
       have hfz52_1:=blk_frozen BK138.out 1
       have hfz52_2:=blk_frozen BK138.out 2
       have hfz52_3:=blk_frozen BK138.out 3
       have hfz52_4:=blk_frozen BK138.out 4
       have hfz52_5:=blk_frozen BK138.out 5
       have hfz52_6:=blk_frozen BK138.out 6
       have hfz52_7:=blk_frozen BK138.out 7
       have hfz52_8:=blk_frozen BK138.out 8
       go_wp2
       go_ret
       exact ⟨by first|rfl|(simp [errW_none,errW_some] <;> rfl)|(simp [*,errW_none,errW_some] <;> rfl),by repeat (first|(with_reducible first|exact HB.out|apply below_alloc|apply pw_below_drewN|apply below_drew1|refine below_set ?_ GE138.out)|exact HB.out)⟩

end Go.Proofs.Ythbjchicpebglaa.P

/- Functions of this seat as plain Lean functions, with proofs that the Go code comes to just their answers, or what stands between them and a law's statement; no conditions. (Laid by a program of this session, out of the kit's print.) -/
import Derived.Test.YtbdijpjlgokfkaaPx0
import Derived.Test.YtbdijpjlgokfkaaPx14
namespace Go.Proofs.Ytbdijpjlgokfkaa.P
open Go.RowKit Go.Proofs.YtbdijpjlgokfkaaW.PrintWords Go.Proofs.YtbdijpjlgokfkaaW.PrintLast Go.Proofs.YtbdijpjlgokfkaaW.PrintMore
attribute [local go_sem] max2_int min2_int max_two min_two max_three min_three max_four min_four   -- for this text's walks alone
set_option linter.unusedVariables false
set_option linter.unusedSimpArgs false

/-! ### roll_Below: function 57 -/
def roll_Below.l0 : Nat → Int → Int → Int → Option (Int × Int)
 | 0,_,_,_ => none
 | k + 1,x6,x7,x260000 => (roll_Next.f x260000).bind fun bt261 => (if bt261.1 ≤ (Go.bits .xor .u64 (if IntKind.u64.signed = true then -1 else IntKind.u64.max) x7) then (if x6 = 0 then (none) else (some (wrap64 (Int.tmod bt261.1 x6),bt261.2))) else (roll_Below.l0 k x6 x7 bt261.2))
def roll_Below.f (k : Nat) (a0_0 : Int) (a1 : Int) : Option (Int × Int) := if a1 < 1 then (some (0, a0_0)) else (if (IntKind.u64.wrap (a1)) = 0 then (none) else (roll_Below.l0 k (IntKind.u64.wrap (a1)) (Int.tmod (IntKind.u64.wrap (-(IntKind.u64.wrap (a1)))) (IntKind.u64.wrap (a1))) a0_0))
theorem roll_Below.mono_l : ∀ k, (∀ y0 y1 y2, LeO (roll_Below.l0 k y0 y1 y2) (roll_Below.l0 (k + 1) y0 y1 y2))
 | 0 => fun _ _ _ r h => by simp [roll_Below.l0] at h
 | k + 1 => by
  have ih0:=roll_Below.mono_l k
  ·intro y0 y1 y2
   unfold roll_Below.l0
   repeat' first
   | (with_reducible exact ih0 _ _ _)
   | (with_reducible exact LeO.refl _)
   | (with_reducible exact LeO.none _)
   | (with_reducible refine LeO.ite ?_ ?_)
   | (with_reducible refine LeO.bind ?_ (fun _ => ?_))
   | exact ih0 _ _ _
   | exact LeO.none _
   | refine LeO.ite ?_ ?_
   | refine LeO.bind ?_ (fun _ => ?_)
theorem roll_Below.mono : ∀ a0 a1 k, LeO (roll_Below.f k a0 a1) (roll_Below.f (k + 1) a0 a1) := by
 intro a0 a1 k
 have ih0:=roll_Below.mono_l k
 unfold roll_Below.f
 repeat' first
   | (with_reducible exact ih0 _ _ _)
   | (with_reducible exact LeO.refl _)
   | (with_reducible exact LeO.none _)
   | (with_reducible refine LeO.ite ?_ ?_)
   | (with_reducible refine LeO.bind ?_ (fun _ => ?_))
   | exact ih0 _ _ _
   | exact LeO.none _
   | refine LeO.ite ?_ ?_
   | refine LeO.bind ?_ (fun _ => ?_)
set_option maxHeartbeats 8000000 in
set_option maxRecDepth 100000 in
theorem roll_Below.calls (k : Nat) (a0_0 : Int) (a1 : Int) (r1 : Int) (r2 : Int) (w : World) (h : roll_Below.f k a0_0 a1 = some (r1, r2)) :
  Calls Try.prog 57 #[.agg #[.int .u64 a0_0],.int .i64 a1] w fun e w' => e = .returned (.tuple #[.int .i64 r1,.agg #[.int .u64 r2]]) ∧ Below w.heap.size w w':=by
 have hu45:=Try.underlying45
 have HB:=Aside0.mk (Below.refl w.heap.size w)
 have H : (if a1 < 1 then (some (0,a0_0)) else (if (IntKind.u64.wrap (a1)) = 0 then (none) else (roll_Below.l0 k (IntKind.u64.wrap (a1)) (Int.tmod (IntKind.u64.wrap (-(IntKind.u64.wrap (a1)))) (IntKind.u64.wrap (a1))) a0_0))) = some (r1,r2):=h
 clear h
 by_cases c3 : a1 < 1
 ·rw [if_pos c3] at H
  have c3b0 : decide (a1 < 1) = true:=decide_eq_true c3
  clear c3
  simp only [Option.some.injEq,Prod.mk.injEq] at H
  obtain ⟨rfl,rfl⟩:=H
  go_enter Try.func57,Try.ntmps57
  try go_wp2_with (first|((with_reducible refine gate_dst (N:=2) rfl ?_);refine box_event ?hg (N:=2) ?hd (cs:=#[.int .u64 a0_0]) (t:=45) ?hr ?_;(case hd => rfl);(case hg => rfl);(case hr => first|(go_simp;done)|(go_simp;rfl));intro gb259 hg w4 hbox hb;have n0_:=Aside0.mk (below_step (by repeat (first|(with_reducible first|exact HB.out|apply below_alloc|apply pw_below_drewN|apply below_drew1)|exact HB.out)) hb);have n1_:=Aside0.mk (hbox);have n2_:=Aside0.mk ((by rw [hg];exact (below_size (by repeat (first|(with_reducible first|exact HB.out|apply below_alloc|apply pw_below_drewN|apply below_drew1)|exact HB.out))) : w.heap.size ≤ gb259));have n3_:=Aside0.mk ((by rw [hg];exact (below_size (by repeat (first|(with_reducible first|exact HB.out|apply below_alloc|apply pw_below_drewN|apply below_drew1)|exact HB.out))) : w.heap.size ≤ gb259));clear HB;have HB:=n0_;have BK259:=n1_;have GW259:=n2_;have GE259:=n3_;clear n0_ n1_ n2_ n3_;clear hb hbox hg)|((with_reducible refine gate_dst (N:=5) rfl ?_);refine box_event ?hg (N:=5) ?hd (cs:=#[.int .u64 0]) (t:=45) ?hr ?_;(case hd => rfl);(case hg => rfl);(case hr => first|(go_simp;done)|(go_simp;rfl));intro gb260 hg w5 hbox hb;have n0_:=Aside0.mk (blk_below (g:=gb259) (o:=.cells #[.int .u64 a0_0] 45 (0,0)) (by (with_reducible repeat (first|refine blk_drewN ?_ _|refine blk_drew ?_|refine blk_alloc ?_ _));exact BK259.out) hb);have n1_:=Aside0.mk (below_step (by repeat (first|(with_reducible first|exact HB.out|apply below_alloc|apply pw_below_drewN|apply below_drew1|refine below_set ?_ GE259.out)|exact HB.out)) hb);have n2_:=Aside0.mk (hbox);have n3_:=Aside0.mk ((by rw [hg];exact (below_size (by repeat (first|(with_reducible first|exact HB.out|apply below_alloc|apply pw_below_drewN|apply below_drew1|refine below_set ?_ GE259.out)|exact HB.out))) : w.heap.size ≤ gb260));have n4_:=Aside0.mk ((by rw [hg];exact (below_size (by repeat (first|(with_reducible first|exact HB.out|apply below_alloc|apply pw_below_drewN|apply below_drew1|refine below_set ?_ GE259.out)|exact HB.out))) : w.heap.size ≤ gb260));have n5_:=Aside0.mk ((by rw [hg];exact Nat.ne_of_lt (blk_lt (g:=gb259) (o:=.cells #[.int .u64 a0_0] 45 (0,0)) (by (with_reducible repeat (first|refine blk_drewN ?_ _|refine blk_drew ?_|refine blk_alloc ?_ _));exact BK259.out)) : gb259 ≠ gb260));have n6_:=Aside0.mk ((by rw [hg];exact Nat.ne_of_gt (blk_lt (g:=gb259) (o:=.cells #[.int .u64 a0_0] 45 (0,0)) (by (with_reducible repeat (first|refine blk_drewN ?_ _|refine blk_drew ?_|refine blk_alloc ?_ _));exact BK259.out)) : gb260 ≠ gb259));clear BK259;clear HB;have BK259:=n0_;have HB:=n1_;have BK260:=n2_;have GW260:=n3_;have GE260:=n4_;have NB259_260:=n5_;have NB260_259:=n6_;clear n0_ n1_ n2_ n3_ n4_ n5_ n6_;clear hb hbox hg))
  have n0_:=Aside0.mk (blk_drew BK259.out)
  have n1_:=Aside0.mk (blk_drew BK260.out)
  have n2_:=Aside0.mk (below_drew1 HB.out)
  clear BK259
  clear BK260
  clear HB
  have BK259:=n0_
  have BK260:=n1_
  have HB:=n2_
  clear n0_ n1_ n2_
  refine start_ (n:=3) (S:=fun w' => w'.cell? ⟨gb259,0,none⟩ = some (.int .u64 a0_0)) (ds:=[]) #[false,false,false] (by kernel_rfl) rfl rfl ((blk_cell BK259.out 0).trans rfl) (fun hHeld => ?_)
  generalize w5.drew = w6 at BK259 BK260 HB hHeld ⊢
  refine pure_ (i:=1) (N:=some 4) (v:=?_) (a':=?_) #[false,true,false] rfl rfl (by kernel_rfl) (fun _ _ _ h => h) (Or.inl ⟨by rfl,?_⟩) ?_ ?_
  rotate_left
  ·intro w'
   go_simp
   with_reducible rfl
  rotate_left
  ·simp only [Act.put,List.setIfInBounds_toArray,List.set_cons_zero,List.set_cons_succ,i64_w,i32_w]
   rfl
  refine take_ (i:=0) (N:=some 12) (v:=?_) (a':=?_) #[true,true,false] rfl rfl (by kernel_rfl) (fun _ _ _ h => h) (Or.inl ⟨by rfl,?_⟩) hHeld ?_ ?_
  rotate_left
  ·intro w' s0
   go_simp
   with_reducible rfl
  rotate_left
  ·simp only [Act.put,List.setIfInBounds_toArray,List.set_cons_zero,List.set_cons_succ,i64_w,i32_w]
   rfl
  refine one_ (i:=2) (N:=none) #[true,true,true] rfl rfl (by kernel_rfl) (by decide) (fun K hK => ?_)
  have hs7 : w6.cell? ⟨gb260,0,none⟩ = some (.int .u64 0):=(blk_cell BK260.out 0).trans rfl
  have hfs7:=blk_frozen BK260.out 0
  have hns7_0:=NB259_260.out
  have hms7_0:=NB260_259.out
  refine skip_ (w1:=?_) (by rfl) rfl ?_ ?_
  rotate_left
  ·go_simp
   rfl
  refine hK.out _ _ (((cell_far (p:=⟨gb260,_,none⟩) NB259_260.out _).trans (hHeld))) (fun hHeld => ?_)
  clear hK K
  refine done_ (by kernel_rfl) ?_
  try go_wp2
  refine bodyPost_ret (results_tc rfl _ _ gb260 45 #[.int .u64 a0_0] (0,0) _ rfl (by (with_reducible repeat (first|refine blk_drewN ?_ _|refine blk_drew ?_|refine blk_alloc ?_ _));refine blk_put (cs:=#[.int .u64 0]) ?_ 0 _ rfl;(with_reducible repeat (first|refine blk_drewN ?_ _|refine blk_drew ?_|refine blk_alloc ?_ _));exact BK260.out) Try.underlying45 rfl (by kernel_rfl)) rfl ?_
  exact ⟨by first|rfl|(simp [errW_none,errW_some] <;> rfl)|(simp [*,errW_none,errW_some] <;> rfl),by repeat (first|(with_reducible first|exact HB.out|apply below_alloc|apply pw_below_drewN|apply below_drew1|refine below_set ?_ GE259.out|refine below_set ?_ GE260.out)|exact HB.out)⟩
 ·rw [if_neg c3] at H
  have c3b0 : decide (a1 < 1) = false:=decide_eq_false c3
  clear c3
  by_cases c8 : (IntKind.u64.wrap (a1)) = 0
  ·rw [if_pos c8] at H
   exact absurd H (by simp)
  ·rw [if_neg c8] at H
   have c8b0 : ((IntKind.u64.wrap (a1)) == 0) = false:=beq_eq_false_iff_ne.mpr c8
   have c8b1 : ((IntKind.u64.wrap (a1)) != 0) = true:=bne_iff_ne.mpr c8
   have H':=Aside0.mk H
   clear H
   go_enter Try.func57,Try.ntmps57
   go_wp2_with (first|((with_reducible refine gate_dst (N:=2) rfl ?_);refine box_event ?hg (N:=2) ?hd (cs:=#[.int .u64 a0_0]) (t:=45) ?hr ?_;(case hd => rfl);(case hg => rfl);(case hr => first|(go_simp;done)|(go_simp;rfl));intro gb259 hg w9 hbox hb;have n0_:=Aside0.mk (below_step (by repeat (first|(with_reducible first|exact HB.out|apply below_alloc|apply pw_below_drewN|apply below_drew1)|exact HB.out)) hb);have n1_:=Aside0.mk (hbox);have n2_:=Aside0.mk ((by rw [hg];exact (below_size (by repeat (first|(with_reducible first|exact HB.out|apply below_alloc|apply pw_below_drewN|apply below_drew1)|exact HB.out))) : w.heap.size ≤ gb259));have n3_:=Aside0.mk ((by rw [hg];exact (below_size (by repeat (first|(with_reducible first|exact HB.out|apply below_alloc|apply pw_below_drewN|apply below_drew1)|exact HB.out))) : w.heap.size ≤ gb259));clear HB;have HB:=n0_;have BK259:=n1_;have GW259:=n2_;have GE259:=n3_;clear n0_ n1_ n2_ n3_;clear hb hbox hg)|((with_reducible refine gate_dst (N:=5) rfl ?_);refine box_event ?hg (N:=5) ?hd (cs:=#[.int .u64 0]) (t:=45) ?hr ?_;(case hd => rfl);(case hg => rfl);(case hr => first|(go_simp;done)|(go_simp;rfl));intro gb260 hg w10 hbox hb;have n0_:=Aside0.mk (blk_below (g:=gb259) (o:=.cells #[.int .u64 a0_0] 45 (0,0)) (by (with_reducible repeat (first|refine blk_drewN ?_ _|refine blk_drew ?_|refine blk_alloc ?_ _));exact BK259.out) hb);have n1_:=Aside0.mk (below_step (by repeat (first|(with_reducible first|exact HB.out|apply below_alloc|apply pw_below_drewN|apply below_drew1|refine below_set ?_ GE259.out)|exact HB.out)) hb);have n2_:=Aside0.mk (hbox);have n3_:=Aside0.mk ((by rw [hg];exact (below_size (by repeat (first|(with_reducible first|exact HB.out|apply below_alloc|apply pw_below_drewN|apply below_drew1|refine below_set ?_ GE259.out)|exact HB.out))) : w.heap.size ≤ gb260));have n4_:=Aside0.mk ((by rw [hg];exact (below_size (by repeat (first|(with_reducible first|exact HB.out|apply below_alloc|apply pw_below_drewN|apply below_drew1|refine below_set ?_ GE259.out)|exact HB.out))) : w.heap.size ≤ gb260));have n5_:=Aside0.mk ((by rw [hg];exact Nat.ne_of_lt (blk_lt (g:=gb259) (o:=.cells #[.int .u64 a0_0] 45 (0,0)) (by (with_reducible repeat (first|refine blk_drewN ?_ _|refine blk_drew ?_|refine blk_alloc ?_ _));exact BK259.out)) : gb259 ≠ gb260));have n6_:=Aside0.mk ((by rw [hg];exact Nat.ne_of_gt (blk_lt (g:=gb259) (o:=.cells #[.int .u64 a0_0] 45 (0,0)) (by (with_reducible repeat (first|refine blk_drewN ?_ _|refine blk_drew ?_|refine blk_alloc ?_ _));exact BK259.out)) : gb260 ≠ gb259));clear BK259;clear HB;have BK259:=n0_;have HB:=n1_;have BK260:=n2_;have GW260:=n3_;have GE260:=n4_;have NB259_260:=n5_;have NB260_259:=n6_;clear n0_ n1_ n2_ n3_ n4_ n5_ n6_;clear hb hbox hg))
   go_loopg [] k (fun kq w' => ∃ (x260000_1 : Int) (x261000_1 : Int),Aside0 (roll_Below.l0 kq (IntKind.u64.wrap (a1)) (Int.tmod (IntKind.u64.wrap (-(IntKind.u64.wrap (a1)))) (IntKind.u64.wrap (a1))) x260000_1 = some (r1,r2)) ∧ Aside0 (kq ≤ k) ∧ Aside0 (w'.heap[gb259]? = some (.cells #[.int .u64 x260000_1] 45 (0,0))) ∧ Aside0 (w'.heap[gb260]? = some (.cells #[.int .u64 x261000_1] 45 (0,0))) ∧ Aside0 (Below w.heap.size w w'))
   case atStart => exact ⟨(a0_0),(0),H',⟨Nat.le_refl _⟩,⟨by (with_reducible repeat (first|refine blk_drewN ?_ _|refine blk_drew ?_|refine blk_alloc ?_ _));exact BK259.out⟩,⟨by (with_reducible repeat (first|refine blk_drewN ?_ _|refine blk_drew ?_|refine blk_alloc ?_ _));exact BK260.out⟩,⟨by repeat (first|(with_reducible first|exact HB.out|apply below_alloc|apply pw_below_drewN|apply below_drew1|refine below_set ?_ GE259.out|refine below_set ?_ GE260.out)|exact HB.out)⟩⟩
   case round =>
    clear H'
    try clear p2
    try clear c3
    try clear c3b0
    try clear c5
    try clear c8
    try clear c8b0
    try clear c8b1
    obtain ⟨x260000_1,x261000_1,HA,HK1,BK259,BK260,HB⟩:=hrel
    cases gk with
    | zero => exact absurd HA.out (by simp [roll_Below.l0])
    | succ k1 =>
     have H:=HA.out
     clear HA
     simp only [roll_Below.l0] at H
     replace H:=Option.bind_eq_some_iff.mp H
     obtain ⟨⟨t261,t262⟩,A110,H⟩:=H
     replace H : (if t261 ≤ (Go.bits .xor .u64 (if IntKind.u64.signed = true then -1 else IntKind.u64.max) (Int.tmod (IntKind.u64.wrap (-(IntKind.u64.wrap (a1)))) (IntKind.u64.wrap (a1)))) then (if (IntKind.u64.wrap (a1)) = 0 then (none) else (some (wrap64 (Int.tmod t261 (IntKind.u64.wrap (a1))),t262))) else (roll_Below.l0 k1 (IntKind.u64.wrap (a1)) (Int.tmod (IntKind.u64.wrap (-(IntKind.u64.wrap (a1)))) (IntKind.u64.wrap (a1))) t262)) = some (r1,r2):=H
     have A11:=Aside0.mk A110
     clear A110
     by_cases c12 : t261 ≤ (Go.bits .xor .u64 (if IntKind.u64.signed = true then -1 else IntKind.u64.max) (Int.tmod (IntKind.u64.wrap (-(IntKind.u64.wrap (a1)))) (IntKind.u64.wrap (a1))))
     ·rw [if_pos c12] at H
      have c12b0 : decide (t261 ≤ (Go.bits .xor .u64 (if IntKind.u64.signed = true then -1 else IntKind.u64.max) (Int.tmod (IntKind.u64.wrap (-(IntKind.u64.wrap (a1)))) (IntKind.u64.wrap (a1))))) = true:=decide_eq_true c12
      clear c12
      by_cases c13 : (IntKind.u64.wrap (a1)) = 0
      ·rw [if_pos c13] at H
       exact absurd H (by simp)
      ·rw [if_neg c13] at H
       have c13b0 : ((IntKind.u64.wrap (a1)) == 0) = false:=beq_eq_false_iff_ne.mpr c13
       have c13b1 : ((IntKind.u64.wrap (a1)) != 0) = true:=bne_iff_ne.mpr c13
       simp only [Option.some.injEq,Prod.mk.injEq] at H
       obtain ⟨rfl,rfl⟩:=H
       have hnb14:=NB259_260.out
       have hnc14:=NB260_259.out
       have hcz15_0 : wr.cell? ⟨gb259,0,none⟩ = some (.int .u64 x260000_1):=(blk_cell BK259.out 0).trans rfl
       have hfz15_0:=blk_frozen BK259.out 0
       try go_wp2_with (first|((with_reducible refine gate_callee (f:=79) rfl ?_);refine goesL_ (some 21) rfl rfl Try.func79 (by kernel_rfl) rfl #[.agg #[.int .u64 x260000_1]] rfl (by (try simp only [List.map_toArray,List.map_cons,List.map_nil]);first|done|rfl|(simp only [List.length_drop,List.length_take];rfl)) ?_;(with_reducible refine (roll_Next.calls x260000_1 t261 t262 _ A11.out).mono ?_);rintro e w16 ⟨rfl,hb⟩;refine ⟨_,rfl,?_⟩;have n0_:=Aside0.mk (blk_below (g:=gb259) (o:=.cells #[.int .u64 x260000_1] 45 (0,0)) (by (with_reducible repeat (first|refine blk_drewN ?_ _|refine blk_drew ?_|refine blk_alloc ?_ _));exact BK259.out) hb);have n1_:=Aside0.mk (blk_below (g:=gb260) (o:=.cells #[.int .u64 x261000_1] 45 (0,0)) (by (with_reducible repeat (first|refine blk_drewN ?_ _|refine blk_drew ?_|refine blk_alloc ?_ _));exact BK260.out) hb);have n2_:=Aside0.mk (below_step (by repeat (first|(with_reducible first|exact HB.out|apply below_alloc|apply pw_below_drewN|apply below_drew1|refine below_set ?_ GE259.out|refine below_set ?_ GE260.out)|exact HB.out)) hb);clear BK259;clear BK260;clear HB;have BK259:=n0_;have BK260:=n1_;have HB:=n2_;clear n0_ n1_ n2_;(try clear hb);(try clear hb2);(try clear hk);(try clear hi))|((with_reducible refine gate_dst (N:=9) rfl ?_);refine box_event ?hg (N:=9) ?hd (cs:=#[.int .u64 0]) (t:=45) ?hr ?_;(case hd => rfl);(case hg => rfl);(case hr => first|(go_simp;done)|(go_simp;rfl));intro gb263 hg w17 hbox hb;have n0_:=Aside0.mk (blk_below (g:=gb259) (o:=.cells #[.int .u64 x260000_1] 45 (0,0)) (by (with_reducible repeat (first|refine blk_drewN ?_ _|refine blk_drew ?_|refine blk_alloc ?_ _));exact BK259.out) hb);have n1_:=Aside0.mk (blk_below (g:=gb260) (o:=.cells #[.int .u64 x261000_1] 45 (0,0)) (by (with_reducible repeat (first|refine blk_drewN ?_ _|refine blk_drew ?_|refine blk_alloc ?_ _));exact BK260.out) hb);have n2_:=Aside0.mk (below_step (by repeat (first|(with_reducible first|exact HB.out|apply below_alloc|apply pw_below_drewN|apply below_drew1|refine below_set ?_ GE259.out|refine below_set ?_ GE260.out)|exact HB.out)) hb);have n3_:=Aside0.mk (hbox);have n4_:=Aside0.mk ((by rw [hg];exact (below_size (by repeat (first|(with_reducible first|exact HB.out|apply below_alloc|apply pw_below_drewN|apply below_drew1|refine below_set ?_ GE259.out|refine below_set ?_ GE260.out)|exact HB.out))) : w.heap.size ≤ gb263));have n5_:=Aside0.mk ((by rw [hg];exact (below_size (by repeat (first|(with_reducible first|exact HB.out|apply below_alloc|apply pw_below_drewN|apply below_drew1|refine below_set ?_ GE259.out|refine below_set ?_ GE260.out)|exact HB.out))) : w.heap.size ≤ gb263));have n6_:=Aside0.mk ((by rw [hg];exact Nat.ne_of_lt (blk_lt (g:=gb259) (o:=.cells #[.int .u64 x260000_1] 45 (0,0)) (by (with_reducible repeat (first|refine blk_drewN ?_ _|refine blk_drew ?_|refine blk_alloc ?_ _));exact BK259.out)) : gb259 ≠ gb263));have n7_:=Aside0.mk ((by rw [hg];exact Nat.ne_of_gt (blk_lt (g:=gb259) (o:=.cells #[.int .u64 x260000_1] 45 (0,0)) (by (with_reducible repeat (first|refine blk_drewN ?_ _|refine blk_drew ?_|refine blk_alloc ?_ _));exact BK259.out)) : gb263 ≠ gb259));have n8_:=Aside0.mk ((by rw [hg];exact Nat.ne_of_lt (blk_lt (g:=gb260) (o:=.cells #[.int .u64 x261000_1] 45 (0,0)) (by (with_reducible repeat (first|refine blk_drewN ?_ _|refine blk_drew ?_|refine blk_alloc ?_ _));exact BK260.out)) : gb260 ≠ gb263));have n9_:=Aside0.mk ((by rw [hg];exact Nat.ne_of_gt (blk_lt (g:=gb260) (o:=.cells #[.int .u64 x261000_1] 45 (0,0)) (by (with_reducible repeat (first|refine blk_drewN ?_ _|refine blk_drew ?_|refine blk_alloc ?_ _));exact BK260.out)) : gb263 ≠ gb260));clear BK259;clear BK260;clear HB;have BK259:=n0_;have BK260:=n1_;have HB:=n2_;have BK263:=n3_;have GW263:=n4_;have GE263:=n5_;have NB259_263:=n6_;have NB263_259:=n7_;have NB260_263:=n8_;have NB263_260:=n9_;clear n0_ n1_ n2_ n3_ n4_ n5_ n6_ n7_ n8_ n9_;clear hb hbox hg;have hnb18:=NB263_259.out;have hnc18:=NB259_263.out;have hnb19:=NB263_260.out;have hnc19:=NB260_263.out;have hcz20_0 : w17.cell? ⟨gb263,0,none⟩ = some (.int .u64 0):=(blk_cell BK263.out 0).trans rfl;have hfz20_0:=blk_frozen BK263.out 0;have hcz21_0 : w17.cell? ⟨gb259,0,none⟩ = some (.int .u64 x260000_1):=(blk_cell BK259.out 0).trans rfl;have hfz21_0:=blk_frozen BK259.out 0))
       have n0_ : Aside0 (((w17.setCell ⟨gb263,0,none⟩ (.int .u64 t262)).setCell ⟨gb259,0,none⟩ (.int .u64 t262)).heap[gb259]? = some (.cells #[.int .u64 t262] 45 (0,0))):=⟨by (with_reducible repeat (first|refine blk_drewN ?_ _|refine blk_drew ?_|refine blk_alloc ?_ _));refine blk_put (cs:=#[.int .u64 x260000_1]) ?_ 0 _ rfl;(with_reducible repeat (first|refine blk_drewN ?_ _|refine blk_drew ?_|refine blk_alloc ?_ _));refine blk_far ?_ NB259_263.out _;(with_reducible repeat (first|refine blk_drewN ?_ _|refine blk_drew ?_|refine blk_alloc ?_ _));exact BK259.out⟩
       have n1_ : Aside0 (((w17.setCell ⟨gb263,0,none⟩ (.int .u64 t262)).setCell ⟨gb259,0,none⟩ (.int .u64 t262)).heap[gb260]? = some (.cells #[.int .u64 x261000_1] 45 (0,0))):=⟨by (with_reducible repeat (first|refine blk_drewN ?_ _|refine blk_drew ?_|refine blk_alloc ?_ _));refine blk_far ?_ NB260_259.out _;(with_reducible repeat (first|refine blk_drewN ?_ _|refine blk_drew ?_|refine blk_alloc ?_ _));refine blk_far ?_ NB260_263.out _;(with_reducible repeat (first|refine blk_drewN ?_ _|refine blk_drew ?_|refine blk_alloc ?_ _));exact BK260.out⟩
       have n2_ : Aside0 (((w17.setCell ⟨gb263,0,none⟩ (.int .u64 t262)).setCell ⟨gb259,0,none⟩ (.int .u64 t262)).heap[gb263]? = some (.cells #[.int .u64 t262] 45 (0,0))):=⟨by (with_reducible repeat (first|refine blk_drewN ?_ _|refine blk_drew ?_|refine blk_alloc ?_ _));refine blk_far ?_ NB263_259.out _;(with_reducible repeat (first|refine blk_drewN ?_ _|refine blk_drew ?_|refine blk_alloc ?_ _));refine blk_put (cs:=#[.int .u64 0]) ?_ 0 _ rfl;(with_reducible repeat (first|refine blk_drewN ?_ _|refine blk_drew ?_|refine blk_alloc ?_ _));exact BK263.out⟩
       have n3_ : Aside0 (Below w.heap.size w ((w17.setCell ⟨gb263,0,none⟩ (.int .u64 t262)).setCell ⟨gb259,0,none⟩ (.int .u64 t262))):=⟨by repeat (first|(with_reducible first|exact HB.out|apply below_alloc|apply pw_below_drewN|apply below_drew1|refine below_set ?_ GE259.out|refine below_set ?_ GE260.out|refine below_set ?_ GE263.out)|exact HB.out)⟩
       (try clear BK259)
       (try clear BK260)
       (try clear BK263)
       (try clear HB)
       generalize ((w17.setCell ⟨gb263,0,none⟩ (.int .u64 t262)).setCell ⟨gb259,0,none⟩ (.int .u64 t262)) = w22 at n0_ n1_ n2_ n3_ ⊢
       have BK259:=n0_
       have BK260:=n1_
       have BK263:=n2_
       have HB:=n3_
       clear n0_ n1_ n2_ n3_
       have n0_:=Aside0.mk (blk_drew BK259.out)
       have n1_:=Aside0.mk (blk_drew BK260.out)
       have n2_:=Aside0.mk (blk_drew BK263.out)
       have n3_:=Aside0.mk (below_drew1 HB.out)
       clear BK259
       clear BK260
       clear BK263
       clear HB
       have BK259:=n0_
       have BK260:=n1_
       have BK263:=n2_
       have HB:=n3_
       clear n0_ n1_ n2_ n3_
       refine start_ (n:=7) (S:=fun w' => w'.cell? ⟨gb259,0,none⟩ = some (.int .u64 t262)) (ds:=[]) #[false,false,false,false,false,false,false] (by kernel_rfl) rfl rfl ((blk_cell BK259.out 0).trans rfl) (fun hHeld => ?_)
       generalize w22.drew = w23 at BK259 BK260 BK263 HB hHeld ⊢
       refine pure_ (i:=0) (N:=some 29) (v:=?_) (a':=?_) #[true,false,false,false,false,false,false] rfl rfl (by kernel_rfl) (fun _ _ _ h => h) (Or.inl ⟨by rfl,?_⟩) ?_ ?_
       rotate_left
       ·intro w'
        go_simp
        with_reducible rfl
       rotate_left
       ·simp only [Act.put,List.setIfInBounds_toArray,List.set_cons_zero,List.set_cons_succ,i64_w,i32_w]
        rfl
       refine pure_ (i:=1) (N:=some 30) (v:=?_) (a':=?_) #[true,true,false,false,false,false,false] rfl rfl (by kernel_rfl) (fun _ _ _ h => h) (Or.inl ⟨by rfl,?_⟩) ?_ ?_
       rotate_left
       ·intro w'
        go_simp
        with_reducible rfl
       rotate_left
       ·simp only [Act.put,List.setIfInBounds_toArray,List.set_cons_zero,List.set_cons_succ,i64_w,i32_w]
        rfl
       refine pure_ (i:=2) (N:=some 31) (v:=?_) (a':=?_) #[true,true,true,false,false,false,false] rfl rfl (by kernel_rfl) (fun _ _ _ h => h) (Or.inl ⟨by rfl,?_⟩) ?_ ?_
       rotate_left
       ·intro w'
        go_simp
        with_reducible rfl
       rotate_left
       ·simp only [Act.put,List.setIfInBounds_toArray,List.set_cons_zero,List.set_cons_succ,i64_w,i32_w]
        rfl
       refine pure_ (i:=3) (N:=some 32) (v:=?_) (a':=?_) #[true,true,true,true,false,false,false] rfl rfl (by kernel_rfl) (fun _ _ _ h => h) (Or.inl ⟨by rfl,?_⟩) ?_ ?_
       rotate_left
       ·intro w'
        go_simp
        with_reducible rfl
       rotate_left
       ·simp only [Act.put,List.setIfInBounds_toArray,List.set_cons_zero,List.set_cons_succ,i64_w,i32_w]
        rfl
       refine pure_ (i:=5) (N:=some 4) (v:=?_) (a':=?_) #[true,true,true,true,false,true,false] rfl rfl (by kernel_rfl) (fun _ _ _ h => h) (Or.inl ⟨by rfl,?_⟩) ?_ ?_
       rotate_left
       ·intro w'
        go_simp
        with_reducible rfl
       rotate_left
       ·simp only [Act.put,List.setIfInBounds_toArray,List.set_cons_zero,List.set_cons_succ,i64_w,i32_w]
        rfl
       refine take_ (i:=4) (N:=some 33) (v:=?_) (a':=?_) #[true,true,true,true,true,true,false] rfl rfl (by kernel_rfl) (fun _ _ _ h => h) (Or.inl ⟨by rfl,?_⟩) hHeld ?_ ?_
       rotate_left
       ·intro w' s0
        go_simp
        with_reducible rfl
       rotate_left
       ·simp only [Act.put,List.setIfInBounds_toArray,List.set_cons_zero,List.set_cons_succ,i64_w,i32_w]
        rfl
       refine one_ (i:=6) (N:=none) #[true,true,true,true,true,true,true] rfl rfl (by kernel_rfl) (by decide) (fun K hK => ?_)
       have hs24 : w23.cell? ⟨gb260,0,none⟩ = some (.int .u64 x261000_1):=(blk_cell BK260.out 0).trans rfl
       have hfs24:=blk_frozen BK260.out 0
       have hns24_0:=NB259_260.out
       have hns24_2:=NB263_260.out
       have hms24_0:=NB260_259.out
       have hms24_2:=NB260_263.out
       refine skip_ (w1:=?_) (by rfl) rfl ?_ ?_
       rotate_left
       ·go_simp
        rfl
       refine hK.out _ _ (((cell_far (p:=⟨gb260,_,none⟩) NB259_260.out _).trans (hHeld))) (fun hHeld => ?_)
       clear hK K
       refine done_ (by kernel_rfl) ?_
       try go_wp2
       refine bodyPost_ret (results_tc rfl _ _ gb260 45 #[.int .u64 t262] (0,0) _ rfl (by (with_reducible repeat (first|refine blk_drewN ?_ _|refine blk_drew ?_|refine blk_alloc ?_ _));refine blk_put (cs:=#[.int .u64 x261000_1]) ?_ 0 _ rfl;(with_reducible repeat (first|refine blk_drewN ?_ _|refine blk_drew ?_|refine blk_alloc ?_ _));exact BK260.out) Try.underlying45 rfl (by kernel_rfl)) rfl ?_
       exact ⟨by first|rfl|(simp [errW_none,errW_some] <;> rfl)|(simp [*,errW_none,errW_some] <;> rfl),by repeat (first|(with_reducible first|exact HB.out|apply below_alloc|apply pw_below_drewN|apply below_drew1|refine below_set ?_ GE259.out|refine below_set ?_ GE260.out|refine below_set ?_ GE263.out)|exact HB.out)⟩
     ·rw [if_neg c12] at H
      have c12b0 : decide (t261 ≤ (Go.bits .xor .u64 (if IntKind.u64.signed = true then -1 else IntKind.u64.max) (Int.tmod (IntKind.u64.wrap (-(IntKind.u64.wrap (a1)))) (IntKind.u64.wrap (a1))))) = false:=decide_eq_false c12
      clear c12
      have H':=Aside0.mk H
      clear H
      have hnb25:=NB259_260.out
      have hnc25:=NB260_259.out
      have hcz26_0 : wr.cell? ⟨gb259,0,none⟩ = some (.int .u64 x260000_1):=(blk_cell BK259.out 0).trans rfl
      have hfz26_0:=blk_frozen BK259.out 0
      go_wp2_with (first|((with_reducible refine gate_callee (f:=79) rfl ?_);refine goesL_ (some 21) rfl rfl Try.func79 (by kernel_rfl) rfl #[.agg #[.int .u64 x260000_1]] rfl (by (try simp only [List.map_toArray,List.map_cons,List.map_nil]);first|done|rfl|(simp only [List.length_drop,List.length_take];rfl)) ?_;(with_reducible refine (roll_Next.calls x260000_1 t261 t262 _ A11.out).mono ?_);rintro e w27 ⟨rfl,hb⟩;refine ⟨_,rfl,?_⟩;have n0_:=Aside0.mk (blk_below (g:=gb259) (o:=.cells #[.int .u64 x260000_1] 45 (0,0)) (by (with_reducible repeat (first|refine blk_drewN ?_ _|refine blk_drew ?_|refine blk_alloc ?_ _));exact BK259.out) hb);have n1_:=Aside0.mk (blk_below (g:=gb260) (o:=.cells #[.int .u64 x261000_1] 45 (0,0)) (by (with_reducible repeat (first|refine blk_drewN ?_ _|refine blk_drew ?_|refine blk_alloc ?_ _));exact BK260.out) hb);have n2_:=Aside0.mk (below_step (by repeat (first|(with_reducible first|exact HB.out|apply below_alloc|apply pw_below_drewN|apply below_drew1|refine below_set ?_ GE259.out|refine below_set ?_ GE260.out)|exact HB.out)) hb);clear BK259;clear BK260;clear HB;have BK259:=n0_;have BK260:=n1_;have HB:=n2_;clear n0_ n1_ n2_;(try clear hb);(try clear hb2);(try clear hk);(try clear hi))|((with_reducible refine gate_dst (N:=9) rfl ?_);refine box_event ?hg (N:=9) ?hd (cs:=#[.int .u64 0]) (t:=45) ?hr ?_;(case hd => rfl);(case hg => rfl);(case hr => first|(go_simp;done)|(go_simp;rfl));intro gb263 hg w28 hbox hb;have n0_:=Aside0.mk (blk_below (g:=gb259) (o:=.cells #[.int .u64 x260000_1] 45 (0,0)) (by (with_reducible repeat (first|refine blk_drewN ?_ _|refine blk_drew ?_|refine blk_alloc ?_ _));exact BK259.out) hb);have n1_:=Aside0.mk (blk_below (g:=gb260) (o:=.cells #[.int .u64 x261000_1] 45 (0,0)) (by (with_reducible repeat (first|refine blk_drewN ?_ _|refine blk_drew ?_|refine blk_alloc ?_ _));exact BK260.out) hb);have n2_:=Aside0.mk (below_step (by repeat (first|(with_reducible first|exact HB.out|apply below_alloc|apply pw_below_drewN|apply below_drew1|refine below_set ?_ GE259.out|refine below_set ?_ GE260.out)|exact HB.out)) hb);have n3_:=Aside0.mk (hbox);have n4_:=Aside0.mk ((by rw [hg];exact (below_size (by repeat (first|(with_reducible first|exact HB.out|apply below_alloc|apply pw_below_drewN|apply below_drew1|refine below_set ?_ GE259.out|refine below_set ?_ GE260.out)|exact HB.out))) : w.heap.size ≤ gb263));have n5_:=Aside0.mk ((by rw [hg];exact (below_size (by repeat (first|(with_reducible first|exact HB.out|apply below_alloc|apply pw_below_drewN|apply below_drew1|refine below_set ?_ GE259.out|refine below_set ?_ GE260.out)|exact HB.out))) : w.heap.size ≤ gb263));have n6_:=Aside0.mk ((by rw [hg];exact Nat.ne_of_lt (blk_lt (g:=gb259) (o:=.cells #[.int .u64 x260000_1] 45 (0,0)) (by (with_reducible repeat (first|refine blk_drewN ?_ _|refine blk_drew ?_|refine blk_alloc ?_ _));exact BK259.out)) : gb259 ≠ gb263));have n7_:=Aside0.mk ((by rw [hg];exact Nat.ne_of_gt (blk_lt (g:=gb259) (o:=.cells #[.int .u64 x260000_1] 45 (0,0)) (by (with_reducible repeat (first|refine blk_drewN ?_ _|refine blk_drew ?_|refine blk_alloc ?_ _));exact BK259.out)) : gb263 ≠ gb259));have n8_:=Aside0.mk ((by rw [hg];exact Nat.ne_of_lt (blk_lt (g:=gb260) (o:=.cells #[.int .u64 x261000_1] 45 (0,0)) (by (with_reducible repeat (first|refine blk_drewN ?_ _|refine blk_drew ?_|refine blk_alloc ?_ _));exact BK260.out)) : gb260 ≠ gb263));have n9_:=Aside0.mk ((by rw [hg];exact Nat.ne_of_gt (blk_lt (g:=gb260) (o:=.cells #[.int .u64 x261000_1] 45 (0,0)) (by (with_reducible repeat (first|refine blk_drewN ?_ _|refine blk_drew ?_|refine blk_alloc ?_ _));exact BK260.out)) : gb263 ≠ gb260));clear BK259;clear BK260;clear HB;have BK259:=n0_;have BK260:=n1_;have HB:=n2_;have BK263:=n3_;have GW263:=n4_;have GE263:=n5_;have NB259_263:=n6_;have NB263_259:=n7_;have NB260_263:=n8_;have NB263_260:=n9_;clear n0_ n1_ n2_ n3_ n4_ n5_ n6_ n7_ n8_ n9_;clear hb hbox hg;have hnb29:=NB263_259.out;have hnc29:=NB259_263.out;have hnb30:=NB263_260.out;have hnc30:=NB260_263.out;have hcz31_0 : w28.cell? ⟨gb263,0,none⟩ = some (.int .u64 0):=(blk_cell BK263.out 0).trans rfl;have hfz31_0:=blk_frozen BK263.out 0;have hcz32_0 : w28.cell? ⟨gb259,0,none⟩ = some (.int .u64 x260000_1):=(blk_cell BK259.out 0).trans rfl;have hfz32_0:=blk_frozen BK259.out 0))
      go_roundg k1
      case measure => have:=HK1.out;omega
      case rel => exact ⟨(t262),(x261000_1),H',⟨by have:=HK1.out;omega⟩,⟨by (with_reducible repeat (first|refine blk_drewN ?_ _|refine blk_drew ?_|refine blk_alloc ?_ _));refine blk_put (cs:=#[.int .u64 x260000_1]) ?_ 0 _ rfl;(with_reducible repeat (first|refine blk_drewN ?_ _|refine blk_drew ?_|refine blk_alloc ?_ _));refine blk_far ?_ NB259_263.out _;(with_reducible repeat (first|refine blk_drewN ?_ _|refine blk_drew ?_|refine blk_alloc ?_ _));exact BK259.out⟩,⟨by (with_reducible repeat (first|refine blk_drewN ?_ _|refine blk_drew ?_|refine blk_alloc ?_ _));refine blk_far ?_ NB260_259.out _;(with_reducible repeat (first|refine blk_drewN ?_ _|refine blk_drew ?_|refine blk_alloc ?_ _));refine blk_far ?_ NB260_263.out _;(with_reducible repeat (first|refine blk_drewN ?_ _|refine blk_drew ?_|refine blk_alloc ?_ _));exact BK260.out⟩,⟨by repeat (first|(with_reducible first|exact HB.out|apply below_alloc|apply pw_below_drewN|apply below_drew1|refine below_set ?_ GE259.out|refine below_set ?_ GE260.out|refine below_set ?_ GE263.out)|exact HB.out)⟩⟩

end Go.Proofs.Ytbdijpjlgokfkaa.P

/- Functions of this seat as plain Lean functions, with proofs that the Go code comes to just their answers, or what stands between them and a law's statement; no conditions. (Laid by a program of this session, out of the kit's print.) -/
import Derived.Test.YthbjchicpebglaaPx0
import Derived.Test.YthbjchicpebglaaPx2
namespace Go.Proofs.Ythbjchicpebglaa.P
open Go.RowKit Go.Proofs.YthbjchicpebglaaW.PrintWords Go.Proofs.YthbjchicpebglaaW.PrintLast Go.Proofs.YthbjchicpebglaaW.PrintMore
attribute [local go_sem] max2_int min2_int max_two min_two max_three min_three max_four min_four   -- for this text's walks alone
set_option linter.unusedVariables false
set_option linter.unusedSimpArgs false

/-! ### order_bounded: function 38 -/
def order_bounded.j0 : Nat → Bool → Int → Int → Int → Int → Int → Int → Int → Int → Int → Option (Bool)
 | 0,_,_,_,_,_,_,_,_,_,_ => none
 | k + 1,x48,x102000,x102001,x102002,x102003,x102004,x102005,x102006,x102007,x102008 => if x48 = true then (some false) else (if x102000 = 2 then (if x102001 = 0 then (if x102002 = 0 then (if x102003 = 0 then (if x102007 = 0 then (some (x102008 == 0)) else (some false)) else (some false)) else (some false)) else (some false)) else (if x102000 = 1 then (if x102002 = 0 then (if x102003 = 0 then (if x102004 = 0 then (if x102005 = 0 then (some (x102006 == 0)) else (some false)) else (some false)) else (some false)) else (some false)) else (if x102004 = 0 then (if x102005 = 0 then (some (x102006 == 0)) else (some false)) else (some false))))
def order_bounded.f (k : Nat) (a0_0 : Int) (a0_1 : Int) (a0_2 : Int) (a0_3 : Int) (a0_4 : Int) (a0_5 : Int) (a0_6 : Int) (a0_7 : Int) (a0_8 : Int) : Option (Bool) := (order_within.f a0_0 2).bind fun t102 => (if t102 = true then ((order_within.f a0_1 1000000).bind fun t103 => (if t103 = true then ((order_within.f a0_2 2).bind fun t104 => (if t104 = true then ((order_within.f a0_3 2).bind fun t105 => (if t105 = true then ((order_within.f a0_4 4).bind fun t106 => (if t106 = true then ((order_within.f a0_5 1000000).bind fun t107 => (if t107 = true then ((order_within.f a0_7 1000000).bind fun t108 => (if t108 = true then ((order_within.f a0_8 1000000).bind fun t109 => (order_bounded.j0 k (!t109) a0_0 a0_1 a0_2 a0_3 a0_4 a0_5 a0_6 a0_7 a0_8)) else (order_bounded.j0 k true a0_0 a0_1 a0_2 a0_3 a0_4 a0_5 a0_6 a0_7 a0_8))) else (order_bounded.j0 k true a0_0 a0_1 a0_2 a0_3 a0_4 a0_5 a0_6 a0_7 a0_8))) else (order_bounded.j0 k true a0_0 a0_1 a0_2 a0_3 a0_4 a0_5 a0_6 a0_7 a0_8))) else (order_bounded.j0 k true a0_0 a0_1 a0_2 a0_3 a0_4 a0_5 a0_6 a0_7 a0_8))) else (order_bounded.j0 k true a0_0 a0_1 a0_2 a0_3 a0_4 a0_5 a0_6 a0_7 a0_8))) else (order_bounded.j0 k true a0_0 a0_1 a0_2 a0_3 a0_4 a0_5 a0_6 a0_7 a0_8))) else (order_bounded.j0 k true a0_0 a0_1 a0_2 a0_3 a0_4 a0_5 a0_6 a0_7 a0_8))
theorem order_bounded.mono_l : ∀ k, (∀ y0 y1 y2 y3 y4 y5 y6 y7 y8 y9, LeO (order_bounded.j0 k y0 y1 y2 y3 y4 y5 y6 y7 y8 y9) (order_bounded.j0 (k + 1) y0 y1 y2 y3 y4 y5 y6 y7 y8 y9))
 | 0 => fun _ _ _ _ _ _ _ _ _ _ r h => by simp [order_bounded.j0] at h
 | k + 1 => by
  have ih0:=order_bounded.mono_l k
  ·intro y0 y1 y2 y3 y4 y5 y6 y7 y8 y9
   unfold order_bounded.j0
   repeat' first
   | (with_reducible exact ih0 _ _ _ _ _ _ _ _ _ _)
   | (with_reducible exact LeO.refl _)
   | (with_reducible exact LeO.none _)
   | (with_reducible refine LeO.ite ?_ ?_)
   | (with_reducible refine LeO.bind ?_ (fun _ => ?_))
   | exact ih0 _ _ _ _ _ _ _ _ _ _
   | exact LeO.none _
   | refine LeO.ite ?_ ?_
   | refine LeO.bind ?_ (fun _ => ?_)
theorem order_bounded.mono : ∀ a0 a1 a2 a3 a4 a5 a6 a7 a8 k, LeO (order_bounded.f k a0 a1 a2 a3 a4 a5 a6 a7 a8) (order_bounded.f (k + 1) a0 a1 a2 a3 a4 a5 a6 a7 a8) := by
 intro a0 a1 a2 a3 a4 a5 a6 a7 a8 k
 have ih0:=order_bounded.mono_l k
 unfold order_bounded.f
 repeat' first
   | (with_reducible exact ih0 _ _ _ _ _ _ _ _ _ _)
   | (with_reducible exact LeO.refl _)
   | (with_reducible exact LeO.none _)
   | (with_reducible refine LeO.ite ?_ ?_)
   | (with_reducible refine LeO.bind ?_ (fun _ => ?_))
   | exact ih0 _ _ _ _ _ _ _ _ _ _
   | exact LeO.none _
   | refine LeO.ite ?_ ?_
   | refine LeO.bind ?_ (fun _ => ?_)
set_option maxHeartbeats 8000000 in
set_option maxRecDepth 100000 in
theorem order_bounded.calls (k : Nat) (a0_0 : Int) (a0_1 : Int) (a0_2 : Int) (a0_3 : Int) (a0_4 : Int) (a0_5 : Int) (a0_6 : Int) (a0_7 : Int) (a0_8 : Int) (r : Bool) (w : World) (h : order_bounded.f k a0_0 a0_1 a0_2 a0_3 a0_4 a0_5 a0_6 a0_7 a0_8 = some r) :
  Calls Try.prog 38 #[.agg #[.int .i64 a0_0,.int .i64 a0_1,.int .i64 a0_2,.int .i64 a0_3,.int .i64 a0_4,.int .i64 a0_5,.int .i64 a0_6,.int .i64 a0_7,.int .i64 a0_8]] w fun e w' => e = .returned (.bool r) ∧ Below w.heap.size w w':=by
 have hu33:=Try.underlying33
 have HB:=Aside0.mk (Below.refl w.heap.size w)
 have H : ((order_within.f a0_0 2).bind fun t102 => (if t102 = true then ((order_within.f a0_1 1000000).bind fun t103 => (if t103 = true then ((order_within.f a0_2 2).bind fun t104 => (if t104 = true then ((order_within.f a0_3 2).bind fun t105 => (if t105 = true then ((order_within.f a0_4 4).bind fun t106 => (if t106 = true then ((order_within.f a0_5 1000000).bind fun t107 => (if t107 = true then ((order_within.f a0_7 1000000).bind fun t108 => (if t108 = true then ((order_within.f a0_8 1000000).bind fun t109 => (order_bounded.j0 k (!t109) a0_0 a0_1 a0_2 a0_3 a0_4 a0_5 a0_6 a0_7 a0_8)) else (order_bounded.j0 k true a0_0 a0_1 a0_2 a0_3 a0_4 a0_5 a0_6 a0_7 a0_8))) else (order_bounded.j0 k true a0_0 a0_1 a0_2 a0_3 a0_4 a0_5 a0_6 a0_7 a0_8))) else (order_bounded.j0 k true a0_0 a0_1 a0_2 a0_3 a0_4 a0_5 a0_6 a0_7 a0_8))) else (order_bounded.j0 k true a0_0 a0_1 a0_2 a0_3 a0_4 a0_5 a0_6 a0_7 a0_8))) else (order_bounded.j0 k true a0_0 a0_1 a0_2 a0_3 a0_4 a0_5 a0_6 a0_7 a0_8))) else (order_bounded.j0 k true a0_0 a0_1 a0_2 a0_3 a0_4 a0_5 a0_6 a0_7 a0_8))) else (order_bounded.j0 k true a0_0 a0_1 a0_2 a0_3 a0_4 a0_5 a0_6 a0_7 a0_8))) = some r:=h
 clear h
 have HC2:=Aside0.mk H
 clear H
 go_enter Try.func38,Try.ntmps38
 go_upto_region 1 with (first|((with_reducible refine gate_dst (N:=1) rfl ?_);refine box_event ?hg (N:=1) ?hd (cs:=#[.int .i64 a0_0,.int .i64 a0_1,.int .i64 a0_2,.int .i64 a0_3,.int .i64 a0_4,.int .i64 a0_5,.int .i64 a0_6,.int .i64 a0_7,.int .i64 a0_8]) (t:=33) ?hr ?_;(case hd => rfl);(case hg => rfl);(case hr => first|(go_simp;done)|(go_simp;rfl));intro gb101 hg w3 hbox hb;have n0_:=Aside0.mk (below_step (by repeat (first|(with_reducible first|exact HB.out|apply below_alloc|apply pw_below_drewN|apply below_drew1)|exact HB.out)) hb);have n1_:=Aside0.mk (hbox);have n2_:=Aside0.mk ((by rw [hg];exact (below_size (by repeat (first|(with_reducible first|exact HB.out|apply below_alloc|apply pw_below_drewN|apply below_drew1)|exact HB.out))) : w.heap.size ≤ gb101));have n3_:=Aside0.mk ((by rw [hg];exact (below_size (by repeat (first|(with_reducible first|exact HB.out|apply below_alloc|apply pw_below_drewN|apply below_drew1)|exact HB.out))) : w.heap.size ≤ gb101));clear HB;have HB:=n0_;have BK101:=n1_;have GW101:=n2_;have GE101:=n3_;clear n0_ n1_ n2_ n3_;clear hb hbox hg))
 (try simp only [Act.put,List.setIfInBounds_toArray,List.set_cons_zero,List.set_cons_succ])
 go_cut [48] (fun v48 wc => ∃ (kq : Nat) (x48_1 : Bool),v48 = .bool x48_1 ∧ Aside0 (order_bounded.j0 kq x48_1 a0_0 a0_1 a0_2 a0_3 a0_4 a0_5 a0_6 a0_7 a0_8 = some r) ∧ Aside0 (kq ≤ k) ∧ Aside0 (wc.heap[gb101]? = some (.cells #[.int .i64 a0_0,.int .i64 a0_1,.int .i64 a0_2,.int .i64 a0_3,.int .i64 a0_4,.int .i64 a0_5,.int .i64 a0_6,.int .i64 a0_7,.int .i64 a0_8] 33 (0,0))) ∧ Aside0 (Below w.heap.size w wc))
 case first =>
  have H:=HC2.out
  clear HC2
  replace H:=Option.bind_eq_some_iff.mp H
  obtain ⟨t102,A40,H⟩:=H
  replace H : (if t102 = true then ((order_within.f a0_1 1000000).bind fun t103 => (if t103 = true then ((order_within.f a0_2 2).bind fun t104 => (if t104 = true then ((order_within.f a0_3 2).bind fun t105 => (if t105 = true then ((order_within.f a0_4 4).bind fun t106 => (if t106 = true then ((order_within.f a0_5 1000000).bind fun t107 => (if t107 = true then ((order_within.f a0_7 1000000).bind fun t108 => (if t108 = true then ((order_within.f a0_8 1000000).bind fun t109 => (order_bounded.j0 k (!t109) a0_0 a0_1 a0_2 a0_3 a0_4 a0_5 a0_6 a0_7 a0_8)) else (order_bounded.j0 k true a0_0 a0_1 a0_2 a0_3 a0_4 a0_5 a0_6 a0_7 a0_8))) else (order_bounded.j0 k true a0_0 a0_1 a0_2 a0_3 a0_4 a0_5 a0_6 a0_7 a0_8))) else (order_bounded.j0 k true a0_0 a0_1 a0_2 a0_3 a0_4 a0_5 a0_6 a0_7 a0_8))) else (order_bounded.j0 k true a0_0 a0_1 a0_2 a0_3 a0_4 a0_5 a0_6 a0_7 a0_8))) else (order_bounded.j0 k true a0_0 a0_1 a0_2 a0_3 a0_4 a0_5 a0_6 a0_7 a0_8))) else (order_bounded.j0 k true a0_0 a0_1 a0_2 a0_3 a0_4 a0_5 a0_6 a0_7 a0_8))) else (order_bounded.j0 k true a0_0 a0_1 a0_2 a0_3 a0_4 a0_5 a0_6 a0_7 a0_8)) = some r:=H
  have A4:=Aside0.mk A40
  clear A40
  by_cases c5 : t102 = true
  ·subst c5
   have H1 : ((order_within.f a0_1 1000000).bind fun t103 => (if t103 = true then ((order_within.f a0_2 2).bind fun t104 => (if t104 = true then ((order_within.f a0_3 2).bind fun t105 => (if t105 = true then ((order_within.f a0_4 4).bind fun t106 => (if t106 = true then ((order_within.f a0_5 1000000).bind fun t107 => (if t107 = true then ((order_within.f a0_7 1000000).bind fun t108 => (if t108 = true then ((order_within.f a0_8 1000000).bind fun t109 => (order_bounded.j0 k (!t109) a0_0 a0_1 a0_2 a0_3 a0_4 a0_5 a0_6 a0_7 a0_8)) else (order_bounded.j0 k true a0_0 a0_1 a0_2 a0_3 a0_4 a0_5 a0_6 a0_7 a0_8))) else (order_bounded.j0 k true a0_0 a0_1 a0_2 a0_3 a0_4 a0_5 a0_6 a0_7 a0_8))) else (order_bounded.j0 k true a0_0 a0_1 a0_2 a0_3 a0_4 a0_5 a0_6 a0_7 a0_8))) else (order_bounded.j0 k true a0_0 a0_1 a0_2 a0_3 a0_4 a0_5 a0_6 a0_7 a0_8))) else (order_bounded.j0 k true a0_0 a0_1 a0_2 a0_3 a0_4 a0_5 a0_6 a0_7 a0_8))) else (order_bounded.j0 k true a0_0 a0_1 a0_2 a0_3 a0_4 a0_5 a0_6 a0_7 a0_8))) = some r:=by rw [if_pos rfl] at H;exact H
   clear H
   have H:=H1
   clear H1
   replace H:=Option.bind_eq_some_iff.mp H
   obtain ⟨t103,A60,H⟩:=H
   replace H : (if t103 = true then ((order_within.f a0_2 2).bind fun t104 => (if t104 = true then ((order_within.f a0_3 2).bind fun t105 => (if t105 = true then ((order_within.f a0_4 4).bind fun t106 => (if t106 = true then ((order_within.f a0_5 1000000).bind fun t107 => (if t107 = true then ((order_within.f a0_7 1000000).bind fun t108 => (if t108 = true then ((order_within.f a0_8 1000000).bind fun t109 => (order_bounded.j0 k (!t109) a0_0 a0_1 a0_2 a0_3 a0_4 a0_5 a0_6 a0_7 a0_8)) else (order_bounded.j0 k true a0_0 a0_1 a0_2 a0_3 a0_4 a0_5 a0_6 a0_7 a0_8))) else (order_bounded.j0 k true a0_0 a0_1 a0_2 a0_3 a0_4 a0_5 a0_6 a0_7 a0_8))) else (order_bounded.j0 k true a0_0 a0_1 a0_2 a0_3 a0_4 a0_5 a0_6 a0_7 a0_8))) else (order_bounded.j0 k true a0_0 a0_1 a0_2 a0_3 a0_4 a0_5 a0_6 a0_7 a0_8))) else (order_bounded.j0 k true a0_0 a0_1 a0_2 a0_3 a0_4 a0_5 a0_6 a0_7 a0_8))) else (order_bounded.j0 k true a0_0 a0_1 a0_2 a0_3 a0_4 a0_5 a0_6 a0_7 a0_8)) = some r:=H
   have A6:=Aside0.mk A60
   clear A60
   by_cases c7 : t103 = true
   ·subst c7
    have H1 : ((order_within.f a0_2 2).bind fun t104 => (if t104 = true then ((order_within.f a0_3 2).bind fun t105 => (if t105 = true then ((order_within.f a0_4 4).bind fun t106 => (if t106 = true then ((order_within.f a0_5 1000000).bind fun t107 => (if t107 = true then ((order_within.f a0_7 1000000).bind fun t108 => (if t108 = true then ((order_within.f a0_8 1000000).bind fun t109 => (order_bounded.j0 k (!t109) a0_0 a0_1 a0_2 a0_3 a0_4 a0_5 a0_6 a0_7 a0_8)) else (order_bounded.j0 k true a0_0 a0_1 a0_2 a0_3 a0_4 a0_5 a0_6 a0_7 a0_8))) else (order_bounded.j0 k true a0_0 a0_1 a0_2 a0_3 a0_4 a0_5 a0_6 a0_7 a0_8))) else (order_bounded.j0 k true a0_0 a0_1 a0_2 a0_3 a0_4 a0_5 a0_6 a0_7 a0_8))) else (order_bounded.j0 k true a0_0 a0_1 a0_2 a0_3 a0_4 a0_5 a0_6 a0_7 a0_8))) else (order_bounded.j0 k true a0_0 a0_1 a0_2 a0_3 a0_4 a0_5 a0_6 a0_7 a0_8))) = some r:=by rw [if_pos rfl] at H;exact H
    clear H
    have H:=H1
    clear H1
    replace H:=Option.bind_eq_some_iff.mp H
    obtain ⟨t104,A80,H⟩:=H
    replace H : (if t104 = true then ((order_within.f a0_3 2).bind fun t105 => (if t105 = true then ((order_within.f a0_4 4).bind fun t106 => (if t106 = true then ((order_within.f a0_5 1000000).bind fun t107 => (if t107 = true then ((order_within.f a0_7 1000000).bind fun t108 => (if t108 = true then ((order_within.f a0_8 1000000).bind fun t109 => (order_bounded.j0 k (!t109) a0_0 a0_1 a0_2 a0_3 a0_4 a0_5 a0_6 a0_7 a0_8)) else (order_bounded.j0 k true a0_0 a0_1 a0_2 a0_3 a0_4 a0_5 a0_6 a0_7 a0_8))) else (order_bounded.j0 k true a0_0 a0_1 a0_2 a0_3 a0_4 a0_5 a0_6 a0_7 a0_8))) else (order_bounded.j0 k true a0_0 a0_1 a0_2 a0_3 a0_4 a0_5 a0_6 a0_7 a0_8))) else (order_bounded.j0 k true a0_0 a0_1 a0_2 a0_3 a0_4 a0_5 a0_6 a0_7 a0_8))) else (order_bounded.j0 k true a0_0 a0_1 a0_2 a0_3 a0_4 a0_5 a0_6 a0_7 a0_8)) = some r:=H
    have A8:=Aside0.mk A80
    clear A80
    by_cases c9 : t104 = true
    ·subst c9
     have H1 : ((order_within.f a0_3 2).bind fun t105 => (if t105 = true then ((order_within.f a0_4 4).bind fun t106 => (if t106 = true then ((order_within.f a0_5 1000000).bind fun t107 => (if t107 = true then ((order_within.f a0_7 1000000).bind fun t108 => (if t108 = true then ((order_within.f a0_8 1000000).bind fun t109 => (order_bounded.j0 k (!t109) a0_0 a0_1 a0_2 a0_3 a0_4 a0_5 a0_6 a0_7 a0_8)) else (order_bounded.j0 k true a0_0 a0_1 a0_2 a0_3 a0_4 a0_5 a0_6 a0_7 a0_8))) else (order_bounded.j0 k true a0_0 a0_1 a0_2 a0_3 a0_4 a0_5 a0_6 a0_7 a0_8))) else (order_bounded.j0 k true a0_0 a0_1 a0_2 a0_3 a0_4 a0_5 a0_6 a0_7 a0_8))) else (order_bounded.j0 k true a0_0 a0_1 a0_2 a0_3 a0_4 a0_5 a0_6 a0_7 a0_8))) = some r:=by rw [if_pos rfl] at H;exact H
     clear H
     have H:=H1
     clear H1
     replace H:=Option.bind_eq_some_iff.mp H
     obtain ⟨t105,A100,H⟩:=H
     replace H : (if t105 = true then ((order_within.f a0_4 4).bind fun t106 => (if t106 = true then ((order_within.f a0_5 1000000).bind fun t107 => (if t107 = true then ((order_within.f a0_7 1000000).bind fun t108 => (if t108 = true then ((order_within.f a0_8 1000000).bind fun t109 => (order_bounded.j0 k (!t109) a0_0 a0_1 a0_2 a0_3 a0_4 a0_5 a0_6 a0_7 a0_8)) else (order_bounded.j0 k true a0_0 a0_1 a0_2 a0_3 a0_4 a0_5 a0_6 a0_7 a0_8))) else (order_bounded.j0 k true a0_0 a0_1 a0_2 a0_3 a0_4 a0_5 a0_6 a0_7 a0_8))) else (order_bounded.j0 k true a0_0 a0_1 a0_2 a0_3 a0_4 a0_5 a0_6 a0_7 a0_8))) else (order_bounded.j0 k true a0_0 a0_1 a0_2 a0_3 a0_4 a0_5 a0_6 a0_7 a0_8)) = some r:=H
     have A10:=Aside0.mk A100
     clear A100
     by_cases c11 : t105 = true
     ·subst c11
      have H1 : ((order_within.f a0_4 4).bind fun t106 => (if t106 = true then ((order_within.f a0_5 1000000).bind fun t107 => (if t107 = true then ((order_within.f a0_7 1000000).bind fun t108 => (if t108 = true then ((order_within.f a0_8 1000000).bind fun t109 => (order_bounded.j0 k (!t109) a0_0 a0_1 a0_2 a0_3 a0_4 a0_5 a0_6 a0_7 a0_8)) else (order_bounded.j0 k true a0_0 a0_1 a0_2 a0_3 a0_4 a0_5 a0_6 a0_7 a0_8))) else (order_bounded.j0 k true a0_0 a0_1 a0_2 a0_3 a0_4 a0_5 a0_6 a0_7 a0_8))) else (order_bounded.j0 k true a0_0 a0_1 a0_2 a0_3 a0_4 a0_5 a0_6 a0_7 a0_8))) = some r:=by rw [if_pos rfl] at H;exact H
      clear H
      have H:=H1
      clear H1
      replace H:=Option.bind_eq_some_iff.mp H
      obtain ⟨t106,A120,H⟩:=H
      replace H : (if t106 = true then ((order_within.f a0_5 1000000).bind fun t107 => (if t107 = true then ((order_within.f a0_7 1000000).bind fun t108 => (if t108 = true then ((order_within.f a0_8 1000000).bind fun t109 => (order_bounded.j0 k (!t109) a0_0 a0_1 a0_2 a0_3 a0_4 a0_5 a0_6 a0_7 a0_8)) else (order_bounded.j0 k true a0_0 a0_1 a0_2 a0_3 a0_4 a0_5 a0_6 a0_7 a0_8))) else (order_bounded.j0 k true a0_0 a0_1 a0_2 a0_3 a0_4 a0_5 a0_6 a0_7 a0_8))) else (order_bounded.j0 k true a0_0 a0_1 a0_2 a0_3 a0_4 a0_5 a0_6 a0_7 a0_8)) = some r:=H
      have A12:=Aside0.mk A120
      clear A120
      by_cases c13 : t106 = true
      ·subst c13
       have H1 : ((order_within.f a0_5 1000000).bind fun t107 => (if t107 = true then ((order_within.f a0_7 1000000).bind fun t108 => (if t108 = true then ((order_within.f a0_8 1000000).bind fun t109 => (order_bounded.j0 k (!t109) a0_0 a0_1 a0_2 a0_3 a0_4 a0_5 a0_6 a0_7 a0_8)) else (order_bounded.j0 k true a0_0 a0_1 a0_2 a0_3 a0_4 a0_5 a0_6 a0_7 a0_8))) else (order_bounded.j0 k true a0_0 a0_1 a0_2 a0_3 a0_4 a0_5 a0_6 a0_7 a0_8))) = some r:=by rw [if_pos rfl] at H;exact H
       clear H
       have H:=H1
       clear H1
       replace H:=Option.bind_eq_some_iff.mp H
       obtain ⟨t107,A140,H⟩:=H
       replace H : (if t107 = true then ((order_within.f a0_7 1000000).bind fun t108 => (if t108 = true then ((order_within.f a0_8 1000000).bind fun t109 => (order_bounded.j0 k (!t109) a0_0 a0_1 a0_2 a0_3 a0_4 a0_5 a0_6 a0_7 a0_8)) else (order_bounded.j0 k true a0_0 a0_1 a0_2 a0_3 a0_4 a0_5 a0_6 a0_7 a0_8))) else (order_bounded.j0 k true a0_0 a0_1 a0_2 a0_3 a0_4 a0_5 a0_6 a0_7 a0_8)) = some r:=H
       have A14:=Aside0.mk A140
       clear A140
       by_cases c15 : t107 = true
       ·subst c15
        have H1 : ((order_within.f a0_7 1000000).bind fun t108 => (if t108 = true then ((order_within.f a0_8 1000000).bind fun t109 => (order_bounded.j0 k (!t109) a0_0 a0_1 a0_2 a0_3 a0_4 a0_5 a0_6 a0_7 a0_8)) else (order_bounded.j0 k true a0_0 a0_1 a0_2 a0_3 a0_4 a0_5 a0_6 a0_7 a0_8))) = some r:=by rw [if_pos rfl] at H;exact H
        clear H
        have H:=H1
        clear H1
        replace H:=Option.bind_eq_some_iff.mp H
        obtain ⟨t108,A160,H⟩:=H
        replace H : (if t108 = true then ((order_within.f a0_8 1000000).bind fun t109 => (order_bounded.j0 k (!t109) a0_0 a0_1 a0_2 a0_3 a0_4 a0_5 a0_6 a0_7 a0_8)) else (order_bounded.j0 k true a0_0 a0_1 a0_2 a0_3 a0_4 a0_5 a0_6 a0_7 a0_8)) = some r:=H
        have A16:=Aside0.mk A160
        clear A160
        by_cases c17 : t108 = true
        ·subst c17
         have H1 : ((order_within.f a0_8 1000000).bind fun t109 => (order_bounded.j0 k (!t109) a0_0 a0_1 a0_2 a0_3 a0_4 a0_5 a0_6 a0_7 a0_8)) = some r:=by rw [if_pos rfl] at H;exact H
         clear H
         have H:=H1
         clear H1
         replace H:=Option.bind_eq_some_iff.mp H
         obtain ⟨t109,A180,H⟩:=H
         replace H : (order_bounded.j0 k (!t109) a0_0 a0_1 a0_2 a0_3 a0_4 a0_5 a0_6 a0_7 a0_8) = some r:=H
         have A18:=Aside0.mk A180
         clear A180
         have H':=Aside0.mk H
         clear H
         have hcz19_0 : w3.cell? ⟨gb101,0,none⟩ = some (.int .i64 a0_0):=(blk_cell BK101.out 0).trans rfl
         have hcz19_1 : w3.cell? ⟨gb101,1,none⟩ = some (.int .i64 a0_1):=(blk_cell BK101.out 1).trans rfl
         have hcz19_2 : w3.cell? ⟨gb101,2,none⟩ = some (.int .i64 a0_2):=(blk_cell BK101.out 2).trans rfl
         have hcz19_3 : w3.cell? ⟨gb101,3,none⟩ = some (.int .i64 a0_3):=(blk_cell BK101.out 3).trans rfl
         have hcz19_4 : w3.cell? ⟨gb101,4,none⟩ = some (.int .i64 a0_4):=(blk_cell BK101.out 4).trans rfl
         have hcz19_5 : w3.cell? ⟨gb101,5,none⟩ = some (.int .i64 a0_5):=(blk_cell BK101.out 5).trans rfl
         have hcz19_6 : w3.cell? ⟨gb101,6,none⟩ = some (.int .i64 a0_6):=(blk_cell BK101.out 6).trans rfl
         have hcz19_7 : w3.cell? ⟨gb101,7,none⟩ = some (.int .i64 a0_7):=(blk_cell BK101.out 7).trans rfl
         have hcz19_8 : w3.cell? ⟨gb101,8,none⟩ = some (.int .i64 a0_8):=(blk_cell BK101.out 8).trans rfl
         have hfz19_0:=blk_frozen BK101.out 0
         have hfz19_1:=blk_frozen BK101.out 1
         have hfz19_2:=blk_frozen BK101.out 2
         have hfz19_3:=blk_frozen BK101.out 3
         have hfz19_4:=blk_frozen BK101.out 4
         have hfz19_5:=blk_frozen BK101.out 5
         have hfz19_6:=blk_frozen BK101.out 6
         have hfz19_7:=blk_frozen BK101.out 7
         have hfz19_8:=blk_frozen BK101.out 8
         go_wp2_with (first|((with_reducible refine gate_callee (f:=39) rfl ?_);refine goesL_ (some 5) rfl rfl Try.func39 (by kernel_rfl) rfl #[.int .i64 a0_0,.int .i64 2] rfl (by (try simp only [List.map_toArray,List.map_cons,List.map_nil]);first|done|rfl|(simp only [List.length_drop,List.length_take];rfl)) ?_;(with_reducible refine (order_within.calls a0_0 2 true _ A4.out).mono ?_);rintro e w' ⟨rfl,⟨nd,rfl⟩⟩;refine ⟨_,rfl,?_⟩)|(go_at_call 39;(with_reducible refine (order_within.calls a0_1 1000000 true _ A6.out).mono ?_);rintro e w' ⟨rfl,⟨nd,rfl⟩⟩)|(go_at_call 39;(with_reducible refine (order_within.calls a0_2 2 true _ A8.out).mono ?_);rintro e w' ⟨rfl,⟨nd,rfl⟩⟩)|(go_at_call 39;(with_reducible refine (order_within.calls a0_3 2 true _ A10.out).mono ?_);rintro e w' ⟨rfl,⟨nd,rfl⟩⟩)|(go_at_call 39;(with_reducible refine (order_within.calls a0_4 4 true _ A12.out).mono ?_);rintro e w' ⟨rfl,⟨nd,rfl⟩⟩)|(go_at_call 39;(with_reducible refine (order_within.calls a0_5 1000000 true _ A14.out).mono ?_);rintro e w' ⟨rfl,⟨nd,rfl⟩⟩)|(go_at_call 39;(with_reducible refine (order_within.calls a0_7 1000000 true _ A16.out).mono ?_);rintro e w' ⟨rfl,⟨nd,rfl⟩⟩)|(go_at_call 39;(with_reducible refine (order_within.calls a0_8 1000000 t109 _ A18.out).mono ?_);rintro e w' ⟨rfl,⟨nd,rfl⟩⟩))
         go_meet
         case rel => exact ⟨_,(!t109),(by first|rfl|(simp;done)|(simp [*];done)),H',⟨by first|omega|exact Nat.le_refl _⟩,⟨by (with_reducible repeat (first|refine blk_drewN ?_ _|refine blk_drew ?_|refine blk_alloc ?_ _));exact BK101.out⟩,⟨by repeat (first|(with_reducible first|exact HB.out|apply below_alloc|apply pw_below_drewN|apply below_drew1|refine below_set ?_ GE101.out)|exact HB.out)⟩⟩
        ·replace c17:=Bool.eq_false_iff.mpr c17
         subst c17
         have H1 : (order_bounded.j0 k true a0_0 a0_1 a0_2 a0_3 a0_4 a0_5 a0_6 a0_7 a0_8) = some r:=by rw [if_neg (show ¬ (false = true) by decide)] at H;exact H
         clear H
         have H:=H1
         clear H1
         have H':=Aside0.mk H
         clear H
         have hcz20_0 : w3.cell? ⟨gb101,0,none⟩ = some (.int .i64 a0_0):=(blk_cell BK101.out 0).trans rfl
         have hcz20_1 : w3.cell? ⟨gb101,1,none⟩ = some (.int .i64 a0_1):=(blk_cell BK101.out 1).trans rfl
         have hcz20_2 : w3.cell? ⟨gb101,2,none⟩ = some (.int .i64 a0_2):=(blk_cell BK101.out 2).trans rfl
         have hcz20_3 : w3.cell? ⟨gb101,3,none⟩ = some (.int .i64 a0_3):=(blk_cell BK101.out 3).trans rfl
         have hcz20_4 : w3.cell? ⟨gb101,4,none⟩ = some (.int .i64 a0_4):=(blk_cell BK101.out 4).trans rfl
         have hcz20_5 : w3.cell? ⟨gb101,5,none⟩ = some (.int .i64 a0_5):=(blk_cell BK101.out 5).trans rfl
         have hcz20_6 : w3.cell? ⟨gb101,6,none⟩ = some (.int .i64 a0_6):=(blk_cell BK101.out 6).trans rfl
         have hcz20_7 : w3.cell? ⟨gb101,7,none⟩ = some (.int .i64 a0_7):=(blk_cell BK101.out 7).trans rfl
         have hcz20_8 : w3.cell? ⟨gb101,8,none⟩ = some (.int .i64 a0_8):=(blk_cell BK101.out 8).trans rfl
         have hfz20_0:=blk_frozen BK101.out 0
         have hfz20_1:=blk_frozen BK101.out 1
         have hfz20_2:=blk_frozen BK101.out 2
         have hfz20_3:=blk_frozen BK101.out 3
         have hfz20_4:=blk_frozen BK101.out 4
         have hfz20_5:=blk_frozen BK101.out 5
         have hfz20_6:=blk_frozen BK101.out 6
         have hfz20_7:=blk_frozen BK101.out 7
         have hfz20_8:=blk_frozen BK101.out 8
         go_wp2_with (first|((with_reducible refine gate_callee (f:=39) rfl ?_);refine goesL_ (some 5) rfl rfl Try.func39 (by kernel_rfl) rfl #[.int .i64 a0_0,.int .i64 2] rfl (by (try simp only [List.map_toArray,List.map_cons,List.map_nil]);first|done|rfl|(simp only [List.length_drop,List.length_take];rfl)) ?_;(with_reducible refine (order_within.calls a0_0 2 true _ A4.out).mono ?_);rintro e w' ⟨rfl,⟨nd,rfl⟩⟩;refine ⟨_,rfl,?_⟩)|(go_at_call 39;(with_reducible refine (order_within.calls a0_1 1000000 true _ A6.out).mono ?_);rintro e w' ⟨rfl,⟨nd,rfl⟩⟩)|(go_at_call 39;(with_reducible refine (order_within.calls a0_2 2 true _ A8.out).mono ?_);rintro e w' ⟨rfl,⟨nd,rfl⟩⟩)|(go_at_call 39;(with_reducible refine (order_within.calls a0_3 2 true _ A10.out).mono ?_);rintro e w' ⟨rfl,⟨nd,rfl⟩⟩)|(go_at_call 39;(with_reducible refine (order_within.calls a0_4 4 true _ A12.out).mono ?_);rintro e w' ⟨rfl,⟨nd,rfl⟩⟩)|(go_at_call 39;(with_reducible refine (order_within.calls a0_5 1000000 true _ A14.out).mono ?_);rintro e w' ⟨rfl,⟨nd,rfl⟩⟩)|(go_at_call 39;(with_reducible refine (order_within.calls a0_7 1000000 false _ A16.out).mono ?_);rintro e w' ⟨rfl,⟨nd,rfl⟩⟩))
         go_meet
         case rel => exact ⟨_,(true),(by first|rfl|(simp;done)|(simp [*];done)),H',⟨by first|omega|exact Nat.le_refl _⟩,⟨by (with_reducible repeat (first|refine blk_drewN ?_ _|refine blk_drew ?_|refine blk_alloc ?_ _));exact BK101.out⟩,⟨by repeat (first|(with_reducible first|exact HB.out|apply below_alloc|apply pw_below_drewN|apply below_drew1|refine below_set ?_ GE101.out)|exact HB.out)⟩⟩
       ·replace c15:=Bool.eq_false_iff.mpr c15
        subst c15
        have H1 : (order_bounded.j0 k true a0_0 a0_1 a0_2 a0_3 a0_4 a0_5 a0_6 a0_7 a0_8) = some r:=by rw [if_neg (show ¬ (false = true) by decide)] at H;exact H
        clear H
        have H:=H1
        clear H1
        have H':=Aside0.mk H
        clear H
        have hcz21_0 : w3.cell? ⟨gb101,0,none⟩ = some (.int .i64 a0_0):=(blk_cell BK101.out 0).trans rfl
        have hcz21_1 : w3.cell? ⟨gb101,1,none⟩ = some (.int .i64 a0_1):=(blk_cell BK101.out 1).trans rfl
        have hcz21_2 : w3.cell? ⟨gb101,2,none⟩ = some (.int .i64 a0_2):=(blk_cell BK101.out 2).trans rfl
        have hcz21_3 : w3.cell? ⟨gb101,3,none⟩ = some (.int .i64 a0_3):=(blk_cell BK101.out 3).trans rfl
        have hcz21_4 : w3.cell? ⟨gb101,4,none⟩ = some (.int .i64 a0_4):=(blk_cell BK101.out 4).trans rfl
        have hcz21_5 : w3.cell? ⟨gb101,5,none⟩ = some (.int .i64 a0_5):=(blk_cell BK101.out 5).trans rfl
        have hcz21_6 : w3.cell? ⟨gb101,6,none⟩ = some (.int .i64 a0_6):=(blk_cell BK101.out 6).trans rfl
        have hcz21_7 : w3.cell? ⟨gb101,7,none⟩ = some (.int .i64 a0_7):=(blk_cell BK101.out 7).trans rfl
        have hcz21_8 : w3.cell? ⟨gb101,8,none⟩ = some (.int .i64 a0_8):=(blk_cell BK101.out 8).trans rfl
        have hfz21_0:=blk_frozen BK101.out 0
        have hfz21_1:=blk_frozen BK101.out 1
        have hfz21_2:=blk_frozen BK101.out 2
        have hfz21_3:=blk_frozen BK101.out 3
        have hfz21_4:=blk_frozen BK101.out 4
        have hfz21_5:=blk_frozen BK101.out 5
        have hfz21_6:=blk_frozen BK101.out 6
        have hfz21_7:=blk_frozen BK101.out 7
        have hfz21_8:=blk_frozen BK101.out 8
        go_wp2_with (first|((with_reducible refine gate_callee (f:=39) rfl ?_);refine goesL_ (some 5) rfl rfl Try.func39 (by kernel_rfl) rfl #[.int .i64 a0_0,.int .i64 2] rfl (by (try simp only [List.map_toArray,List.map_cons,List.map_nil]);first|done|rfl|(simp only [List.length_drop,List.length_take];rfl)) ?_;(with_reducible refine (order_within.calls a0_0 2 true _ A4.out).mono ?_);rintro e w' ⟨rfl,⟨nd,rfl⟩⟩;refine ⟨_,rfl,?_⟩)|(go_at_call 39;(with_reducible refine (order_within.calls a0_1 1000000 true _ A6.out).mono ?_);rintro e w' ⟨rfl,⟨nd,rfl⟩⟩)|(go_at_call 39;(with_reducible refine (order_within.calls a0_2 2 true _ A8.out).mono ?_);rintro e w' ⟨rfl,⟨nd,rfl⟩⟩)|(go_at_call 39;(with_reducible refine (order_within.calls a0_3 2 true _ A10.out).mono ?_);rintro e w' ⟨rfl,⟨nd,rfl⟩⟩)|(go_at_call 39;(with_reducible refine (order_within.calls a0_4 4 true _ A12.out).mono ?_);rintro e w' ⟨rfl,⟨nd,rfl⟩⟩)|(go_at_call 39;(with_reducible refine (order_within.calls a0_5 1000000 false _ A14.out).mono ?_);rintro e w' ⟨rfl,⟨nd,rfl⟩⟩))
        go_meet
        case rel => exact ⟨_,(true),(by first|rfl|(simp;done)|(simp [*];done)),H',⟨by first|omega|exact Nat.le_refl _⟩,⟨by (with_reducible repeat (first|refine blk_drewN ?_ _|refine blk_drew ?_|refine blk_alloc ?_ _));exact BK101.out⟩,⟨by repeat (first|(with_reducible first|exact HB.out|apply below_alloc|apply pw_below_drewN|apply below_drew1|refine below_set ?_ GE101.out)|exact HB.out)⟩⟩
      ·replace c13:=Bool.eq_false_iff.mpr c13
       subst c13
       have H1 : (order_bounded.j0 k true a0_0 a0_1 a0_2 a0_3 a0_4 a0_5 a0_6 a0_7 a0_8) = some r:=by rw [if_neg (show ¬ (false = true) by decide)] at H;exact H
       clear H
       have H:=H1
       clear H1
       have H':=Aside0.mk H
       clear H
       have hcz22_0 : w3.cell? ⟨gb101,0,none⟩ = some (.int .i64 a0_0):=(blk_cell BK101.out 0).trans rfl
       have hcz22_1 : w3.cell? ⟨gb101,1,none⟩ = some (.int .i64 a0_1):=(blk_cell BK101.out 1).trans rfl
       have hcz22_2 : w3.cell? ⟨gb101,2,none⟩ = some (.int .i64 a0_2):=(blk_cell BK101.out 2).trans rfl
       have hcz22_3 : w3.cell? ⟨gb101,3,none⟩ = some (.int .i64 a0_3):=(blk_cell BK101.out 3).trans rfl
       have hcz22_4 : w3.cell? ⟨gb101,4,none⟩ = some (.int .i64 a0_4):=(blk_cell BK101.out 4).trans rfl
       have hcz22_5 : w3.cell? ⟨gb101,5,none⟩ = some (.int .i64 a0_5):=(blk_cell BK101.out 5).trans rfl
       have hcz22_6 : w3.cell? ⟨gb101,6,none⟩ = some (.int .i64 a0_6):=(blk_cell BK101.out 6).trans rfl
       have hcz22_7 : w3.cell? ⟨gb101,7,none⟩ = some (.int .i64 a0_7):=(blk_cell BK101.out 7).trans rfl
       have hcz22_8 : w3.cell? ⟨gb101,8,none⟩ = some (.int .i64 a0_8):=(blk_cell BK101.out 8).trans rfl
       have hfz22_0:=blk_frozen BK101.out 0
       have hfz22_1:=blk_frozen BK101.out 1
       have hfz22_2:=blk_frozen BK101.out 2
       have hfz22_3:=blk_frozen BK101.out 3
       have hfz22_4:=blk_frozen BK101.out 4
       have hfz22_5:=blk_frozen BK101.out 5
       have hfz22_6:=blk_frozen BK101.out 6
       have hfz22_7:=blk_frozen BK101.out 7
       have hfz22_8:=blk_frozen BK101.out 8
       go_wp2_with (first|((with_reducible refine gate_callee (f:=39) rfl ?_);refine goesL_ (some 5) rfl rfl Try.func39 (by kernel_rfl) rfl #[.int .i64 a0_0,.int .i64 2] rfl (by (try simp only [List.map_toArray,List.map_cons,List.map_nil]);first|done|rfl|(simp only [List.length_drop,List.length_take];rfl)) ?_;(with_reducible refine (order_within.calls a0_0 2 true _ A4.out).mono ?_);rintro e w' ⟨rfl,⟨nd,rfl⟩⟩;refine ⟨_,rfl,?_⟩)|(go_at_call 39;(with_reducible refine (order_within.calls a0_1 1000000 true _ A6.out).mono ?_);rintro e w' ⟨rfl,⟨nd,rfl⟩⟩)|(go_at_call 39;(with_reducible refine (order_within.calls a0_2 2 true _ A8.out).mono ?_);rintro e w' ⟨rfl,⟨nd,rfl⟩⟩)|(go_at_call 39;(with_reducible refine (order_within.calls a0_3 2 true _ A10.out).mono ?_);rintro e w' ⟨rfl,⟨nd,rfl⟩⟩)|(go_at_call 39;(with_reducible refine (order_within.calls a0_4 4 false _ A12.out).mono ?_);rintro e w' ⟨rfl,⟨nd,rfl⟩⟩))
       go_meet
       case rel => exact ⟨_,(true),(by first|rfl|(simp;done)|(simp [*];done)),H',⟨by first|omega|exact Nat.le_refl _⟩,⟨by (with_reducible repeat (first|refine blk_drewN ?_ _|refine blk_drew ?_|refine blk_alloc ?_ _));exact BK101.out⟩,⟨by repeat (first|(with_reducible first|exact HB.out|apply below_alloc|apply pw_below_drewN|apply below_drew1|refine below_set ?_ GE101.out)|exact HB.out)⟩⟩
     ·replace c11:=Bool.eq_false_iff.mpr c11
      subst c11
      have H1 : (order_bounded.j0 k true a0_0 a0_1 a0_2 a0_3 a0_4 a0_5 a0_6 a0_7 a0_8) = some r:=by rw [if_neg (show ¬ (false = true) by decide)] at H;exact H
      clear H
      have H:=H1
      clear H1
      have H':=Aside0.mk H
      clear H
      have hcz23_0 : w3.cell? ⟨gb101,0,none⟩ = some (.int .i64 a0_0):=(blk_cell BK101.out 0).trans rfl
      have hcz23_1 : w3.cell? ⟨gb101,1,none⟩ = some (.int .i64 a0_1):=(blk_cell BK101.out 1).trans rfl
      have hcz23_2 : w3.cell? ⟨gb101,2,none⟩ = some (.int .i64 a0_2):=(blk_cell BK101.out 2).trans rfl
      have hcz23_3 : w3.cell? ⟨gb101,3,none⟩ = some (.int .i64 a0_3):=(blk_cell BK101.out 3).trans rfl
      have hcz23_4 : w3.cell? ⟨gb101,4,none⟩ = some (.int .i64 a0_4):=(blk_cell BK101.out 4).trans rfl
      have hcz23_5 : w3.cell? ⟨gb101,5,none⟩ = some (.int .i64 a0_5):=(blk_cell BK101.out 5).trans rfl
      have hcz23_6 : w3.cell? ⟨gb101,6,none⟩ = some (.int .i64 a0_6):=(blk_cell BK101.out 6).trans rfl
      have hcz23_7 : w3.cell? ⟨gb101,7,none⟩ = some (.int .i64 a0_7):=(blk_cell BK101.out 7).trans rfl
      have hcz23_8 : w3.cell? ⟨gb101,8,none⟩ = some (.int .i64 a0_8):=(blk_cell BK101.out 8).trans rfl
      have hfz23_0:=blk_frozen BK101.out 0
      have hfz23_1:=blk_frozen BK101.out 1
      have hfz23_2:=blk_frozen BK101.out 2
      have hfz23_3:=blk_frozen BK101.out 3
      have hfz23_4:=blk_frozen BK101.out 4
      have hfz23_5:=blk_frozen BK101.out 5
      have hfz23_6:=blk_frozen BK101.out 6
      have hfz23_7:=blk_frozen BK101.out 7
      have hfz23_8:=blk_frozen BK101.out 8
      go_wp2_with (first|((with_reducible refine gate_callee (f:=39) rfl ?_);refine goesL_ (some 5) rfl rfl Try.func39 (by kernel_rfl) rfl #[.int .i64 a0_0,.int .i64 2] rfl (by (try simp only [List.map_toArray,List.map_cons,List.map_nil]);first|done|rfl|(simp only [List.length_drop,List.length_take];rfl)) ?_;(with_reducible refine (order_within.calls a0_0 2 true _ A4.out).mono ?_);rintro e w' ⟨rfl,⟨nd,rfl⟩⟩;refine ⟨_,rfl,?_⟩)|(go_at_call 39;(with_reducible refine (order_within.calls a0_1 1000000 true _ A6.out).mono ?_);rintro e w' ⟨rfl,⟨nd,rfl⟩⟩)|(go_at_call 39;(with_reducible refine (order_within.calls a0_2 2 true _ A8.out).mono ?_);rintro e w' ⟨rfl,⟨nd,rfl⟩⟩)|(go_at_call 39;(with_reducible refine (order_within.calls a0_3 2 false _ A10.out).mono ?_);rintro e w' ⟨rfl,⟨nd,rfl⟩⟩))
      go_meet
      case rel => exact ⟨_,(true),(by first|rfl|(simp;done)|(simp [*];done)),H',⟨by first|omega|exact Nat.le_refl _⟩,⟨by (with_reducible repeat (first|refine blk_drewN ?_ _|refine blk_drew ?_|refine blk_alloc ?_ _));exact BK101.out⟩,⟨by repeat (first|(with_reducible first|exact HB.out|apply below_alloc|apply pw_below_drewN|apply below_drew1|refine below_set ?_ GE101.out)|exact HB.out)⟩⟩
    ·replace c9:=Bool.eq_false_iff.mpr c9
     subst c9
     have H1 : (order_bounded.j0 k true a0_0 a0_1 a0_2 a0_3 a0_4 a0_5 a0_6 a0_7 a0_8) = some r:=by rw [if_neg (show ¬ (false = true) by decide)] at H;exact H
     clear H
     have H:=H1
     clear H1
     have H':=Aside0.mk H
     clear H
     have hcz24_0 : w3.cell? ⟨gb101,0,none⟩ = some (.int .i64 a0_0):=(blk_cell BK101.out 0).trans rfl
     have hcz24_1 : w3.cell? ⟨gb101,1,none⟩ = some (.int .i64 a0_1):=(blk_cell BK101.out 1).trans rfl
     have hcz24_2 : w3.cell? ⟨gb101,2,none⟩ = some (.int .i64 a0_2):=(blk_cell BK101.out 2).trans rfl
     have hcz24_3 : w3.cell? ⟨gb101,3,none⟩ = some (.int .i64 a0_3):=(blk_cell BK101.out 3).trans rfl
     have hcz24_4 : w3.cell? ⟨gb101,4,none⟩ = some (.int .i64 a0_4):=(blk_cell BK101.out 4).trans rfl
     have hcz24_5 : w3.cell? ⟨gb101,5,none⟩ = some (.int .i64 a0_5):=(blk_cell BK101.out 5).trans rfl
     have hcz24_6 : w3.cell? ⟨gb101,6,none⟩ = some (.int .i64 a0_6):=(blk_cell BK101.out 6).trans rfl
     have hcz24_7 : w3.cell? ⟨gb101,7,none⟩ = some (.int .i64 a0_7):=(blk_cell BK101.out 7).trans rfl
     have hcz24_8 : w3.cell? ⟨gb101,8,none⟩ = some (.int .i64 a0_8):=(blk_cell BK101.out 8).trans rfl
     have hfz24_0:=blk_frozen BK101.out 0
     have hfz24_1:=blk_frozen BK101.out 1
     have hfz24_2:=blk_frozen BK101.out 2
     have hfz24_3:=blk_frozen BK101.out 3
     have hfz24_4:=blk_frozen BK101.out 4
     have hfz24_5:=blk_frozen BK101.out 5
     have hfz24_6:=blk_frozen BK101.out 6
     have hfz24_7:=blk_frozen BK101.out 7
     have hfz24_8:=blk_frozen BK101.out 8
     go_wp2_with (first|((with_reducible refine gate_callee (f:=39) rfl ?_);refine goesL_ (some 5) rfl rfl Try.func39 (by kernel_rfl) rfl #[.int .i64 a0_0,.int .i64 2] rfl (by (try simp only [List.map_toArray,List.map_cons,List.map_nil]);first|done|rfl|(simp only [List.length_drop,List.length_take];rfl)) ?_;(with_reducible refine (order_within.calls a0_0 2 true _ A4.out).mono ?_);rintro e w' ⟨rfl,⟨nd,rfl⟩⟩;refine ⟨_,rfl,?_⟩)|(go_at_call 39;(with_reducible refine (order_within.calls a0_1 1000000 true _ A6.out).mono ?_);rintro e w' ⟨rfl,⟨nd,rfl⟩⟩)|(go_at_call 39;(with_reducible refine (order_within.calls a0_2 2 false _ A8.out).mono ?_);rintro e w' ⟨rfl,⟨nd,rfl⟩⟩))
     go_meet
     case rel => exact ⟨_,(true),(by first|rfl|(simp;done)|(simp [*];done)),H',⟨by first|omega|exact Nat.le_refl _⟩,⟨by (with_reducible repeat (first|refine blk_drewN ?_ _|refine blk_drew ?_|refine blk_alloc ?_ _));exact BK101.out⟩,⟨by repeat (first|(with_reducible first|exact HB.out|apply below_alloc|apply pw_below_drewN|apply below_drew1|refine below_set ?_ GE101.out)|exact HB.out)⟩⟩
   ·replace c7:=Bool.eq_false_iff.mpr c7
    subst c7
    have H1 : (order_bounded.j0 k true a0_0 a0_1 a0_2 a0_3 a0_4 a0_5 a0_6 a0_7 a0_8) = some r:=by rw [if_neg (show ¬ (false = true) by decide)] at H;exact H
    clear H
    have H:=H1
    clear H1
    have H':=Aside0.mk H
    clear H
    have hcz25_0 : w3.cell? ⟨gb101,0,none⟩ = some (.int .i64 a0_0):=(blk_cell BK101.out 0).trans rfl
    have hcz25_1 : w3.cell? ⟨gb101,1,none⟩ = some (.int .i64 a0_1):=(blk_cell BK101.out 1).trans rfl
    have hcz25_2 : w3.cell? ⟨gb101,2,none⟩ = some (.int .i64 a0_2):=(blk_cell BK101.out 2).trans rfl
    have hcz25_3 : w3.cell? ⟨gb101,3,none⟩ = some (.int .i64 a0_3):=(blk_cell BK101.out 3).trans rfl
    have hcz25_4 : w3.cell? ⟨gb101,4,none⟩ = some (.int .i64 a0_4):=(blk_cell BK101.out 4).trans rfl
    have hcz25_5 : w3.cell? ⟨gb101,5,none⟩ = some (.int .i64 a0_5):=(blk_cell BK101.out 5).trans rfl
    have hcz25_6 : w3.cell? ⟨gb101,6,none⟩ = some (.int .i64 a0_6):=(blk_cell BK101.out 6).trans rfl
    have hcz25_7 : w3.cell? ⟨gb101,7,none⟩ = some (.int .i64 a0_7):=(blk_cell BK101.out 7).trans rfl
    have hcz25_8 : w3.cell? ⟨gb101,8,none⟩ = some (.int .i64 a0_8):=(blk_cell BK101.out 8).trans rfl
    have hfz25_0:=blk_frozen BK101.out 0
    have hfz25_1:=blk_frozen BK101.out 1
    have hfz25_2:=blk_frozen BK101.out 2
    have hfz25_3:=blk_frozen BK101.out 3
    have hfz25_4:=blk_frozen BK101.out 4
    have hfz25_5:=blk_frozen BK101.out 5
    have hfz25_6:=blk_frozen BK101.out 6
    have hfz25_7:=blk_frozen BK101.out 7
    have hfz25_8:=blk_frozen BK101.out 8
    go_wp2_with (first|((with_reducible refine gate_callee (f:=39) rfl ?_);refine goesL_ (some 5) rfl rfl Try.func39 (by kernel_rfl) rfl #[.int .i64 a0_0,.int .i64 2] rfl (by (try simp only [List.map_toArray,List.map_cons,List.map_nil]);first|done|rfl|(simp only [List.length_drop,List.length_take];rfl)) ?_;(with_reducible refine (order_within.calls a0_0 2 true _ A4.out).mono ?_);rintro e w' ⟨rfl,⟨nd,rfl⟩⟩;refine ⟨_,rfl,?_⟩)|(go_at_call 39;(with_reducible refine (order_within.calls a0_1 1000000 false _ A6.out).mono ?_);rintro e w' ⟨rfl,⟨nd,rfl⟩⟩))
    go_meet
    case rel => exact ⟨_,(true),(by first|rfl|(simp;done)|(simp [*];done)),H',⟨by first|omega|exact Nat.le_refl _⟩,⟨by (with_reducible repeat (first|refine blk_drewN ?_ _|refine blk_drew ?_|refine blk_alloc ?_ _));exact BK101.out⟩,⟨by repeat (first|(with_reducible first|exact HB.out|apply below_alloc|apply pw_below_drewN|apply below_drew1|refine below_set ?_ GE101.out)|exact HB.out)⟩⟩
  ·replace c5:=Bool.eq_false_iff.mpr c5
   subst c5
   have H1 : (order_bounded.j0 k true a0_0 a0_1 a0_2 a0_3 a0_4 a0_5 a0_6 a0_7 a0_8) = some r:=by rw [if_neg (show ¬ (false = true) by decide)] at H;exact H
   clear H
   have H:=H1
   clear H1
   have H':=Aside0.mk H
   clear H
   have hcz26_0 : w3.cell? ⟨gb101,0,none⟩ = some (.int .i64 a0_0):=(blk_cell BK101.out 0).trans rfl
   have hcz26_1 : w3.cell? ⟨gb101,1,none⟩ = some (.int .i64 a0_1):=(blk_cell BK101.out 1).trans rfl
   have hcz26_2 : w3.cell? ⟨gb101,2,none⟩ = some (.int .i64 a0_2):=(blk_cell BK101.out 2).trans rfl
   have hcz26_3 : w3.cell? ⟨gb101,3,none⟩ = some (.int .i64 a0_3):=(blk_cell BK101.out 3).trans rfl
   have hcz26_4 : w3.cell? ⟨gb101,4,none⟩ = some (.int .i64 a0_4):=(blk_cell BK101.out 4).trans rfl
   have hcz26_5 : w3.cell? ⟨gb101,5,none⟩ = some (.int .i64 a0_5):=(blk_cell BK101.out 5).trans rfl
   have hcz26_6 : w3.cell? ⟨gb101,6,none⟩ = some (.int .i64 a0_6):=(blk_cell BK101.out 6).trans rfl
   have hcz26_7 : w3.cell? ⟨gb101,7,none⟩ = some (.int .i64 a0_7):=(blk_cell BK101.out 7).trans rfl
   have hcz26_8 : w3.cell? ⟨gb101,8,none⟩ = some (.int .i64 a0_8):=(blk_cell BK101.out 8).trans rfl
   have hfz26_0:=blk_frozen BK101.out 0
   have hfz26_1:=blk_frozen BK101.out 1
   have hfz26_2:=blk_frozen BK101.out 2
   have hfz26_3:=blk_frozen BK101.out 3
   have hfz26_4:=blk_frozen BK101.out 4
   have hfz26_5:=blk_frozen BK101.out 5
   have hfz26_6:=blk_frozen BK101.out 6
   have hfz26_7:=blk_frozen BK101.out 7
   have hfz26_8:=blk_frozen BK101.out 8
   go_wp2_with (first|((with_reducible refine gate_callee (f:=39) rfl ?_);refine goesL_ (some 5) rfl rfl Try.func39 (by kernel_rfl) rfl #[.int .i64 a0_0,.int .i64 2] rfl (by (try simp only [List.map_toArray,List.map_cons,List.map_nil]);first|done|rfl|(simp only [List.length_drop,List.length_take];rfl)) ?_;(with_reducible refine (order_within.calls a0_0 2 false _ A4.out).mono ?_);rintro e w' ⟨rfl,⟨nd,rfl⟩⟩;refine ⟨_,rfl,?_⟩))
   go_meet
   case rel => exact ⟨_,(true),(by first|rfl|(simp;done)|(simp [*];done)),H',⟨by first|omega|exact Nat.le_refl _⟩,⟨by (with_reducible repeat (first|refine blk_drewN ?_ _|refine blk_drew ?_|refine blk_alloc ?_ _));exact BK101.out⟩,⟨by repeat (first|(with_reducible first|exact HB.out|apply below_alloc|apply pw_below_drewN|apply below_drew1|refine below_set ?_ GE101.out)|exact HB.out)⟩⟩
 case rest =>
  clear HC2
  try clear c1
  try clear p2
  try clear c3
  try clear c5
  try clear c7
  try clear c9
  try clear c11
  try clear c13
  try clear c15
  try clear c17
  try clear hcz19_0
  try clear hcz19_1
  try clear hcz19_2
  try clear hcz19_3
  try clear hcz19_4
  try clear hcz19_5
  try clear hcz19_6
  try clear hcz19_7
  try clear hcz19_8
  try clear hcz20_0
  try clear hcz20_1
  try clear hcz20_2
  try clear hcz20_3
  try clear hcz20_4
  try clear hcz20_5
  try clear hcz20_6
  try clear hcz20_7
  try clear hcz20_8
  try clear hcz21_0
  try clear hcz21_1
  try clear hcz21_2
  try clear hcz21_3
  try clear hcz21_4
  try clear hcz21_5
  try clear hcz21_6
  try clear hcz21_7
  try clear hcz21_8
  try clear hcz22_0
  try clear hcz22_1
  try clear hcz22_2
  try clear hcz22_3
  try clear hcz22_4
  try clear hcz22_5
  try clear hcz22_6
  try clear hcz22_7
  try clear hcz22_8
  try clear hcz23_0
  try clear hcz23_1
  try clear hcz23_2
  try clear hcz23_3
  try clear hcz23_4
  try clear hcz23_5
  try clear hcz23_6
  try clear hcz23_7
  try clear hcz23_8
  try clear hcz24_0
  try clear hcz24_1
  try clear hcz24_2
  try clear hcz24_3
  try clear hcz24_4
  try clear hcz24_5
  try clear hcz24_6
  try clear hcz24_7
  try clear hcz24_8
  try clear hcz25_0
  try clear hcz25_1
  try clear hcz25_2
  try clear hcz25_3
  try clear hcz25_4
  try clear hcz25_5
  try clear hcz25_6
  try clear hcz25_7
  try clear hcz25_8
  try clear hcz26_0
  try clear hcz26_1
  try clear hcz26_2
  try clear hcz26_3
  try clear hcz26_4
  try clear hcz26_5
  try clear hcz26_6
  try clear hcz26_7
  try clear hcz26_8
  try clear hfz19_0
  try clear hfz19_1
  try clear hfz19_2
  try clear hfz19_3
  try clear hfz19_4
  try clear hfz19_5
  try clear hfz19_6
  try clear hfz19_7
  try clear hfz19_8
  try clear hfz20_0
  try clear hfz20_1
  try clear hfz20_2
  try clear hfz20_3
  try clear hfz20_4
  try clear hfz20_5
  try clear hfz20_6
  try clear hfz20_7
  try clear hfz20_8
  try clear hfz21_0
  try clear hfz21_1
  try clear hfz21_2
  try clear hfz21_3
  try clear hfz21_4
  try clear hfz21_5
  try clear hfz21_6
  try clear hfz21_7
  try clear hfz21_8
  try clear hfz22_0
  try clear hfz22_1
  try clear hfz22_2
  try clear hfz22_3
  try clear hfz22_4
  try clear hfz22_5
  try clear hfz22_6
  try clear hfz22_7
  try clear hfz22_8
  try clear hfz23_0
  try clear hfz23_1
  try clear hfz23_2
  try clear hfz23_3
  try clear hfz23_4
  try clear hfz23_5
  try clear hfz23_6
  try clear hfz23_7
  try clear hfz23_8
  try clear hfz24_0
  try clear hfz24_1
  try clear hfz24_2
  try clear hfz24_3
  try clear hfz24_4
  try clear hfz24_5
  try clear hfz24_6
  try clear hfz24_7
  try clear hfz24_8
  try clear hfz25_0
  try clear hfz25_1
  try clear hfz25_2
  try clear hfz25_3
  try clear hfz25_4
  try clear hfz25_5
  try clear hfz25_6
  try clear hfz25_7
  try clear hfz25_8
  try clear hfz26_0
  try clear hfz26_1
  try clear hfz26_2
  try clear hfz26_3
  try clear hfz26_4
  try clear hfz26_5
  try clear hfz26_6
  try clear hfz26_7
  try clear hfz26_8
  obtain ⟨kq,x48_1,rfl,HA,HJ1,BK101,HB⟩:=hcut
  cases kq with
  | zero => exact absurd HA.out (by simp [order_bounded.j0])
  | succ kj1 =>
   have H:=HA.out
   clear HA
   simp only [order_bounded.j0] at H
   by_cases c27 : x48_1 = true
   ·subst c27
    have H1 : (some false) = some r:=by rw [if_pos rfl] at H;exact H
    clear H
    have H:=H1
    clear H1
    obtain rfl:=Option.some.inj H
    go_wp2
    go_ret
    exact ⟨by first|rfl|(simp [errW_none,errW_some] <;> rfl)|(simp [*,errW_none,errW_some] <;> rfl),by repeat (first|(with_reducible first|exact HB.out|apply below_alloc|apply pw_below_drewN|apply below_drew1|refine below_set ?_ GE101.out)|exact HB.out)⟩
   ·replace c27:=Bool.eq_false_iff.mpr c27
    subst c27
    have H1 : (if a0_0 = 2 then (if a0_1 = 0 then (if a0_2 = 0 then (if a0_3 = 0 then (if a0_7 = 0 then (some (a0_8 == 0)) else (some false)) else (some false)) else (some false)) else (some false)) else (if a0_0 = 1 then (if a0_2 = 0 then (if a0_3 = 0 then (if a0_4 = 0 then (if a0_5 = 0 then (some (a0_6 == 0)) else (some false)) else (some false)) else (some false)) else (some false)) else (if a0_4 = 0 then (if a0_5 = 0 then (some (a0_6 == 0)) else (some false)) else (some false)))) = some r:=by rw [if_neg (show ¬ (false = true) by decide)] at H;exact H
    clear H
    have H:=H1
    clear H1
    by_cases c28 : a0_0 = 2
    ·rw [if_pos c28] at H
     have c28b0 : (a0_0 == 2) = true:=beq_iff_eq.mpr c28
     have c28b1 : (a0_0 != 2) = false:=bne_eq_false_iff_eq.mpr c28
     clear c28
     by_cases c29 : a0_1 = 0
     ·rw [if_pos c29] at H
      have c29b0 : (a0_1 == 0) = true:=beq_iff_eq.mpr c29
      have c29b1 : (a0_1 != 0) = false:=bne_eq_false_iff_eq.mpr c29
      clear c29
      by_cases c30 : a0_2 = 0
      ·rw [if_pos c30] at H
       have c30b0 : (a0_2 == 0) = true:=beq_iff_eq.mpr c30
       have c30b1 : (a0_2 != 0) = false:=bne_eq_false_iff_eq.mpr c30
       clear c30
       by_cases c31 : a0_3 = 0
       ·rw [if_pos c31] at H
        have c31b0 : (a0_3 == 0) = true:=beq_iff_eq.mpr c31
        have c31b1 : (a0_3 != 0) = false:=bne_eq_false_iff_eq.mpr c31
        clear c31
        by_cases c32 : a0_7 = 0
        ·rw [if_pos c32] at H
         have c32b0 : (a0_7 == 0) = true:=beq_iff_eq.mpr c32
         have c32b1 : (a0_7 != 0) = false:=bne_eq_false_iff_eq.mpr c32
         clear c32
         obtain rfl:=Option.some.inj H
         have hcz33_0 : wc.cell? ⟨gb101,0,none⟩ = some (.int .i64 a0_0):=(blk_cell BK101.out 0).trans rfl
         have hcz33_1 : wc.cell? ⟨gb101,1,none⟩ = some (.int .i64 a0_1):=(blk_cell BK101.out 1).trans rfl
         have hcz33_2 : wc.cell? ⟨gb101,2,none⟩ = some (.int .i64 a0_2):=(blk_cell BK101.out 2).trans rfl
         have hcz33_3 : wc.cell? ⟨gb101,3,none⟩ = some (.int .i64 a0_3):=(blk_cell BK101.out 3).trans rfl
         have hcz33_4 : wc.cell? ⟨gb101,4,none⟩ = some (.int .i64 a0_4):=(blk_cell BK101.out 4).trans rfl
         have hcz33_5 : wc.cell? ⟨gb101,5,none⟩ = some (.int .i64 a0_5):=(blk_cell BK101.out 5).trans rfl
         have hcz33_6 : wc.cell? ⟨gb101,6,none⟩ = some (.int .i64 a0_6):=(blk_cell BK101.out 6).trans rfl
         have hcz33_7 : wc.cell? ⟨gb101,7,none⟩ = some (.int .i64 a0_7):=(blk_cell BK101.out 7).trans rfl
         have hcz33_8 : wc.cell? ⟨gb101,8,none⟩ = some (.int .i64 a0_8):=(blk_cell BK101.out 8).trans rfl
         have hfz33_0:=blk_frozen BK101.out 0
         have hfz33_1:=blk_frozen BK101.out 1
         have hfz33_2:=blk_frozen BK101.out 2
         have hfz33_3:=blk_frozen BK101.out 3
         have hfz33_4:=blk_frozen BK101.out 4
         have hfz33_5:=blk_frozen BK101.out 5
         have hfz33_6:=blk_frozen BK101.out 6
         have hfz33_7:=blk_frozen BK101.out 7
         have hfz33_8:=blk_frozen BK101.out 8
         go_wp2
         go_ret
         exact ⟨by first|rfl|(simp [errW_none,errW_some] <;> rfl)|(simp [*,errW_none,errW_some] <;> rfl),by repeat (first|(with_reducible first|exact HB.out|apply below_alloc|apply pw_below_drewN|apply below_drew1|refine below_set ?_ GE101.out)|exact HB.out)⟩
        ·rw [if_neg c32] at H
         have c32b0 : (a0_7 == 0) = false:=beq_eq_false_iff_ne.mpr c32
         have c32b1 : (a0_7 != 0) = true:=bne_iff_ne.mpr c32
         obtain rfl:=Option.some.inj H
         have hcz34_0 : wc.cell? ⟨gb101,0,none⟩ = some (.int .i64 a0_0):=(blk_cell BK101.out 0).trans rfl
         have hcz34_1 : wc.cell? ⟨gb101,1,none⟩ = some (.int .i64 a0_1):=(blk_cell BK101.out 1).trans rfl
         have hcz34_2 : wc.cell? ⟨gb101,2,none⟩ = some (.int .i64 a0_2):=(blk_cell BK101.out 2).trans rfl
         have hcz34_3 : wc.cell? ⟨gb101,3,none⟩ = some (.int .i64 a0_3):=(blk_cell BK101.out 3).trans rfl
         have hcz34_4 : wc.cell? ⟨gb101,4,none⟩ = some (.int .i64 a0_4):=(blk_cell BK101.out 4).trans rfl
         have hcz34_5 : wc.cell? ⟨gb101,5,none⟩ = some (.int .i64 a0_5):=(blk_cell BK101.out 5).trans rfl
         have hcz34_6 : wc.cell? ⟨gb101,6,none⟩ = some (.int .i64 a0_6):=(blk_cell BK101.out 6).trans rfl
         have hcz34_7 : wc.cell? ⟨gb101,7,none⟩ = some (.int .i64 a0_7):=(blk_cell BK101.out 7).trans rfl
         have hcz34_8 : wc.cell? ⟨gb101,8,none⟩ = some (.int .i64 a0_8):=(blk_cell BK101.out 8).trans rfl
         have hfz34_0:=blk_frozen BK101.out 0
         have hfz34_1:=blk_frozen BK101.out 1
         have hfz34_2:=blk_frozen BK101.out 2
         have hfz34_3:=blk_frozen BK101.out 3
         have hfz34_4:=blk_frozen BK101.out 4
         have hfz34_5:=blk_frozen BK101.out 5
         have hfz34_6:=blk_frozen BK101.out 6
         have hfz34_7:=blk_frozen BK101.out 7
         have hfz34_8:=blk_frozen BK101.out 8
         go_wp2
         go_ret
         exact ⟨by first|rfl|(simp [errW_none,errW_some] <;> rfl)|(simp [*,errW_none,errW_some] <;> rfl),by repeat (first|(with_reducible first|exact HB.out|apply below_alloc|apply pw_below_drewN|apply below_drew1|refine below_set ?_ GE101.out)|exact HB.out)⟩
       ·rw [if_neg c31] at H
        have c31b0 : (a0_3 == 0) = false:=beq_eq_false_iff_ne.mpr c31
        have c31b1 : (a0_3 != 0) = true:=bne_iff_ne.mpr c31
        obtain rfl:=Option.some.inj H
        have hcz35_0 : wc.cell? ⟨gb101,0,none⟩ = some (.int .i64 a0_0):=(blk_cell BK101.out 0).trans rfl
        have hcz35_1 : wc.cell? ⟨gb101,1,none⟩ = some (.int .i64 a0_1):=(blk_cell BK101.out 1).trans rfl
        have hcz35_2 : wc.cell? ⟨gb101,2,none⟩ = some (.int .i64 a0_2):=(blk_cell BK101.out 2).trans rfl
        have hcz35_3 : wc.cell? ⟨gb101,3,none⟩ = some (.int .i64 a0_3):=(blk_cell BK101.out 3).trans rfl
        have hcz35_4 : wc.cell? ⟨gb101,4,none⟩ = some (.int .i64 a0_4):=(blk_cell BK101.out 4).trans rfl
        have hcz35_5 : wc.cell? ⟨gb101,5,none⟩ = some (.int .i64 a0_5):=(blk_cell BK101.out 5).trans rfl
        have hcz35_6 : wc.cell? ⟨gb101,6,none⟩ = some (.int .i64 a0_6):=(blk_cell BK101.out 6).trans rfl
        have hcz35_7 : wc.cell? ⟨gb101,7,none⟩ = some (.int .i64 a0_7):=(blk_cell BK101.out 7).trans rfl
        have hcz35_8 : wc.cell? ⟨gb101,8,none⟩ = some (.int .i64 a0_8):=(blk_cell BK101.out 8).trans rfl
        have hfz35_0:=blk_frozen BK101.out 0
        have hfz35_1:=blk_frozen BK101.out 1
        have hfz35_2:=blk_frozen BK101.out 2
        have hfz35_3:=blk_frozen BK101.out 3
        have hfz35_4:=blk_frozen BK101.out 4
        have hfz35_5:=blk_frozen BK101.out 5
        have hfz35_6:=blk_frozen BK101.out 6
        have hfz35_7:=blk_frozen BK101.out 7
        have hfz35_8:=blk_frozen BK101.out 8
        go_wp2
        go_ret
        exact ⟨by first|rfl|(simp [errW_none,errW_some] <;> rfl)|(simp [*,errW_none,errW_some] <;> rfl),by repeat (first|(with_reducible first|exact HB.out|apply below_alloc|apply pw_below_drewN|apply below_drew1|refine below_set ?_ GE101.out)|exact HB.out)⟩
      ·rw [if_neg c30] at H
       have c30b0 : (a0_2 == 0) = false:=beq_eq_false_iff_ne.mpr c30
       have c30b1 : (a0_2 != 0) = true:=bne_iff_ne.mpr c30
       obtain rfl:=Option.some.inj H
       have hcz36_0 : wc.cell? ⟨gb101,0,none⟩ = some (.int .i64 a0_0):=(blk_cell BK101.out 0).trans rfl
       have hcz36_1 : wc.cell? ⟨gb101,1,none⟩ = some (.int .i64 a0_1):=(blk_cell BK101.out 1).trans rfl
       have hcz36_2 : wc.cell? ⟨gb101,2,none⟩ = some (.int .i64 a0_2):=(blk_cell BK101.out 2).trans rfl
       have hcz36_3 : wc.cell? ⟨gb101,3,none⟩ = some (.int .i64 a0_3):=(blk_cell BK101.out 3).trans rfl
       have hcz36_4 : wc.cell? ⟨gb101,4,none⟩ = some (.int .i64 a0_4):=(blk_cell BK101.out 4).trans rfl
       have hcz36_5 : wc.cell? ⟨gb101,5,none⟩ = some (.int .i64 a0_5):=(blk_cell BK101.out 5).trans rfl
       have hcz36_6 : wc.cell? ⟨gb101,6,none⟩ = some (.int .i64 a0_6):=(blk_cell BK101.out 6).trans rfl
       have hcz36_7 : wc.cell? ⟨gb101,7,none⟩ = some (.int .i64 a0_7):=(blk_cell BK101.out 7).trans rfl
       have hcz36_8 : wc.cell? ⟨gb101,8,none⟩ = some (.int .i64 a0_8):=(blk_cell BK101.out 8).trans rfl
       have hfz36_0:=blk_frozen BK101.out 0
       have hfz36_1:=blk_frozen BK101.out 1
       have hfz36_2:=blk_frozen BK101.out 2
       have hfz36_3:=blk_frozen BK101.out 3
       have hfz36_4:=blk_frozen BK101.out 4
       have hfz36_5:=blk_frozen BK101.out 5
       have hfz36_6:=blk_frozen BK101.out 6
       have hfz36_7:=blk_frozen BK101.out 7
       have hfz36_8:=blk_frozen BK101.out 8
       go_wp2
       go_ret
       exact ⟨by first|rfl|(simp [errW_none,errW_some] <;> rfl)|(simp [*,errW_none,errW_some] <;> rfl),by repeat (first|(with_reducible first|exact HB.out|apply below_alloc|apply pw_below_drewN|apply below_drew1|refine below_set ?_ GE101.out)|exact HB.out)⟩
     ·rw [if_neg c29] at H
      have c29b0 : (a0_1 == 0) = false:=beq_eq_false_iff_ne.mpr c29
      have c29b1 : (a0_1 != 0) = true:=bne_iff_ne.mpr c29
      obtain rfl:=Option.some.inj H
      have hcz37_0 : wc.cell? ⟨gb101,0,none⟩ = some (.int .i64 a0_0):=(blk_cell BK101.out 0).trans rfl
      have hcz37_1 : wc.cell? ⟨gb101,1,none⟩ = some (.int .i64 a0_1):=(blk_cell BK101.out 1).trans rfl
      have hcz37_2 : wc.cell? ⟨gb101,2,none⟩ = some (.int .i64 a0_2):=(blk_cell BK101.out 2).trans rfl
      have hcz37_3 : wc.cell? ⟨gb101,3,none⟩ = some (.int .i64 a0_3):=(blk_cell BK101.out 3).trans rfl
      have hcz37_4 : wc.cell? ⟨gb101,4,none⟩ = some (.int .i64 a0_4):=(blk_cell BK101.out 4).trans rfl
      have hcz37_5 : wc.cell? ⟨gb101,5,none⟩ = some (.int .i64 a0_5):=(blk_cell BK101.out 5).trans rfl
      have hcz37_6 : wc.cell? ⟨gb101,6,none⟩ = some (.int .i64 a0_6):=(blk_cell BK101.out 6).trans rfl
      have hcz37_7 : wc.cell? ⟨gb101,7,none⟩ = some (.int .i64 a0_7):=(blk_cell BK101.out 7).trans rfl
      have hcz37_8 : wc.cell? ⟨gb101,8,none⟩ = some (.int .i64 a0_8):=(blk_cell BK101.out 8).trans rfl
      have hfz37_0:=blk_frozen BK101.out 0
      have hfz37_1:=blk_frozen BK101.out 1
      have hfz37_2:=blk_frozen BK101.out 2
      have hfz37_3:=blk_frozen BK101.out 3
      have hfz37_4:=blk_frozen BK101.out 4
      have hfz37_5:=blk_frozen BK101.out 5
      have hfz37_6:=blk_frozen BK101.out 6
      have hfz37_7:=blk_frozen BK101.out 7
      have hfz37_8:=blk_frozen BK101.out 8
      go_wp2
      go_ret
      exact ⟨by first|rfl|(simp [errW_none,errW_some] <;> rfl)|(simp [*,errW_none,errW_some] <;> rfl),by repeat (first|(with_reducible first|exact HB.out|apply below_alloc|apply pw_below_drewN|apply below_drew1|refine below_set ?_ GE101.out)|exact HB.out)⟩
    ·rw [if_neg c28] at H
     have c28b0 : (a0_0 == 2) = false:=beq_eq_false_iff_ne.mpr c28
     have c28b1 : (a0_0 != 2) = true:=bne_iff_ne.mpr c28
     by_cases c38 : a0_0 = 1
     ·rw [if_pos c38] at H
      have c38b0 : (a0_0 == 1) = true:=beq_iff_eq.mpr c38
      have c38b1 : (a0_0 != 1) = false:=bne_eq_false_iff_eq.mpr c38
      clear c38
      by_cases c39 : a0_2 = 0
      ·rw [if_pos c39] at H
       have c39b0 : (a0_2 == 0) = true:=beq_iff_eq.mpr c39
       have c39b1 : (a0_2 != 0) = false:=bne_eq_false_iff_eq.mpr c39
       clear c39
       by_cases c40 : a0_3 = 0
       ·rw [if_pos c40] at H
        have c40b0 : (a0_3 == 0) = true:=beq_iff_eq.mpr c40
        have c40b1 : (a0_3 != 0) = false:=bne_eq_false_iff_eq.mpr c40
        clear c40
        by_cases c41 : a0_4 = 0
        ·rw [if_pos c41] at H
         have c41b0 : (a0_4 == 0) = true:=beq_iff_eq.mpr c41
         have c41b1 : (a0_4 != 0) = false:=bne_eq_false_iff_eq.mpr c41
         clear c41
         by_cases c42 : a0_5 = 0
         ·rw [if_pos c42] at H
          have c42b0 : (a0_5 == 0) = true:=beq_iff_eq.mpr c42
          have c42b1 : (a0_5 != 0) = false:=bne_eq_false_iff_eq.mpr c42
          clear c42
          obtain rfl:=Option.some.inj H
          have hcz43_0 : wc.cell? ⟨gb101,0,none⟩ = some (.int .i64 a0_0):=(blk_cell BK101.out 0).trans rfl
          have hcz43_1 : wc.cell? ⟨gb101,1,none⟩ = some (.int .i64 a0_1):=(blk_cell BK101.out 1).trans rfl
          have hcz43_2 : wc.cell? ⟨gb101,2,none⟩ = some (.int .i64 a0_2):=(blk_cell BK101.out 2).trans rfl
          have hcz43_3 : wc.cell? ⟨gb101,3,none⟩ = some (.int .i64 a0_3):=(blk_cell BK101.out 3).trans rfl
          have hcz43_4 : wc.cell? ⟨gb101,4,none⟩ = some (.int .i64 a0_4):=(blk_cell BK101.out 4).trans rfl
          have hcz43_5 : wc.cell? ⟨gb101,5,none⟩ = some (.int .i64 a0_5):=(blk_cell BK101.out 5).trans rfl
          have hcz43_6 : wc.cell? ⟨gb101,6,none⟩ = some (.int .i64 a0_6):=(blk_cell BK101.out 6).trans rfl
          have hcz43_7 : wc.cell? ⟨gb101,7,none⟩ = some (.int .i64 a0_7):=(blk_cell BK101.out 7).trans rfl
          have hcz43_8 : wc.cell? ⟨gb101,8,none⟩ = some (.int .i64 a0_8):=(blk_cell BK101.out 8).trans rfl
          have hfz43_0:=blk_frozen BK101.out 0
          have hfz43_1:=blk_frozen BK101.out 1
          have hfz43_2:=blk_frozen BK101.out 2
          have hfz43_3:=blk_frozen BK101.out 3
          have hfz43_4:=blk_frozen BK101.out 4
          have hfz43_5:=blk_frozen BK101.out 5
          have hfz43_6:=blk_frozen BK101.out 6
          have hfz43_7:=blk_frozen BK101.out 7
          have hfz43_8:=blk_frozen BK101.out 8
          go_wp2
          go_ret
          exact ⟨by first|rfl|(simp [errW_none,errW_some] <;> rfl)|(simp [*,errW_none,errW_some] <;> rfl),by repeat (first|(with_reducible first|exact HB.out|apply below_alloc|apply pw_below_drewN|apply below_drew1|refine below_set ?_ GE101.out)|exact HB.out)⟩
         ·rw [if_neg c42] at H
          have c42b0 : (a0_5 == 0) = false:=beq_eq_false_iff_ne.mpr c42
          have c42b1 : (a0_5 != 0) = true:=bne_iff_ne.mpr c42
          obtain rfl:=Option.some.inj H
          have hcz44_0 : wc.cell? ⟨gb101,0,none⟩ = some (.int .i64 a0_0):=(blk_cell BK101.out 0).trans rfl
          have hcz44_1 : wc.cell? ⟨gb101,1,none⟩ = some (.int .i64 a0_1):=(blk_cell BK101.out 1).trans rfl
          have hcz44_2 : wc.cell? ⟨gb101,2,none⟩ = some (.int .i64 a0_2):=(blk_cell BK101.out 2).trans rfl
          have hcz44_3 : wc.cell? ⟨gb101,3,none⟩ = some (.int .i64 a0_3):=(blk_cell BK101.out 3).trans rfl
          have hcz44_4 : wc.cell? ⟨gb101,4,none⟩ = some (.int .i64 a0_4):=(blk_cell BK101.out 4).trans rfl
          have hcz44_5 : wc.cell? ⟨gb101,5,none⟩ = some (.int .i64 a0_5):=(blk_cell BK101.out 5).trans rfl
          have hcz44_6 : wc.cell? ⟨gb101,6,none⟩ = some (.int .i64 a0_6):=(blk_cell BK101.out 6).trans rfl
          have hcz44_7 : wc.cell? ⟨gb101,7,none⟩ = some (.int .i64 a0_7):=(blk_cell BK101.out 7).trans rfl
          have hcz44_8 : wc.cell? ⟨gb101,8,none⟩ = some (.int .i64 a0_8):=(blk_cell BK101.out 8).trans rfl
          have hfz44_0:=blk_frozen BK101.out 0
          have hfz44_1:=blk_frozen BK101.out 1
          have hfz44_2:=blk_frozen BK101.out 2
          have hfz44_3:=blk_frozen BK101.out 3
          have hfz44_4:=blk_frozen BK101.out 4
          have hfz44_5:=blk_frozen BK101.out 5
          have hfz44_6:=blk_frozen BK101.out 6
          have hfz44_7:=blk_frozen BK101.out 7
          have hfz44_8:=blk_frozen BK101.out 8
          go_wp2
          go_ret
          exact ⟨by first|rfl|(simp [errW_none,errW_some] <;> rfl)|(simp [*,errW_none,errW_some] <;> rfl),by repeat (first|(with_reducible first|exact HB.out|apply below_alloc|apply pw_below_drewN|apply below_drew1|refine below_set ?_ GE101.out)|exact HB.out)⟩
        ·rw [if_neg c41] at H
         have c41b0 : (a0_4 == 0) = false:=beq_eq_false_iff_ne.mpr c41
         have c41b1 : (a0_4 != 0) = true:=bne_iff_ne.mpr c41
         obtain rfl:=Option.some.inj H
         have hcz45_0 : wc.cell? ⟨gb101,0,none⟩ = some (.int .i64 a0_0):=(blk_cell BK101.out 0).trans rfl
         have hcz45_1 : wc.cell? ⟨gb101,1,none⟩ = some (.int .i64 a0_1):=(blk_cell BK101.out 1).trans rfl
         have hcz45_2 : wc.cell? ⟨gb101,2,none⟩ = some (.int .i64 a0_2):=(blk_cell BK101.out 2).trans rfl
         have hcz45_3 : wc.cell? ⟨gb101,3,none⟩ = some (.int .i64 a0_3):=(blk_cell BK101.out 3).trans rfl
         have hcz45_4 : wc.cell? ⟨gb101,4,none⟩ = some (.int .i64 a0_4):=(blk_cell BK101.out 4).trans rfl
         have hcz45_5 : wc.cell? ⟨gb101,5,none⟩ = some (.int .i64 a0_5):=(blk_cell BK101.out 5).trans rfl
         have hcz45_6 : wc.cell? ⟨gb101,6,none⟩ = some (.int .i64 a0_6):=(blk_cell BK101.out 6).trans rfl
         have hcz45_7 : wc.cell? ⟨gb101,7,none⟩ = some (.int .i64 a0_7):=(blk_cell BK101.out 7).trans rfl
         have hcz45_8 : wc.cell? ⟨gb101,8,none⟩ = some (.int .i64 a0_8):=(blk_cell BK101.out 8).trans rfl
         have hfz45_0:=blk_frozen BK101.out 0
         have hfz45_1:=blk_frozen BK101.out 1
         have hfz45_2:=blk_frozen BK101.out 2
         have hfz45_3:=blk_frozen BK101.out 3
         have hfz45_4:=blk_frozen BK101.out 4
         have hfz45_5:=blk_frozen BK101.out 5
         have hfz45_6:=blk_frozen BK101.out 6
         have hfz45_7:=blk_frozen BK101.out 7
         have hfz45_8:=blk_frozen BK101.out 8
         go_wp2
         go_ret
         exact ⟨by first|rfl|(simp [errW_none,errW_some] <;> rfl)|(simp [*,errW_none,errW_some] <;> rfl),by repeat (first|(with_reducible first|exact HB.out|apply below_alloc|apply pw_below_drewN|apply below_drew1|refine below_set ?_ GE101.out)|exact HB.out)⟩
       ·rw [if_neg c40] at H
        have c40b0 : (a0_3 == 0) = false:=beq_eq_false_iff_ne.mpr c40
        have c40b1 : (a0_3 != 0) = true:=bne_iff_ne.mpr c40
        obtain rfl:=Option.some.inj H
        have hcz46_0 : wc.cell? ⟨gb101,0,none⟩ = some (.int .i64 a0_0):=(blk_cell BK101.out 0).trans rfl
        have hcz46_1 : wc.cell? ⟨gb101,1,none⟩ = some (.int .i64 a0_1):=(blk_cell BK101.out 1).trans rfl
        have hcz46_2 : wc.cell? ⟨gb101,2,none⟩ = some (.int .i64 a0_2):=(blk_cell BK101.out 2).trans rfl
        have hcz46_3 : wc.cell? ⟨gb101,3,none⟩ = some (.int .i64 a0_3):=(blk_cell BK101.out 3).trans rfl
        have hcz46_4 : wc.cell? ⟨gb101,4,none⟩ = some (.int .i64 a0_4):=(blk_cell BK101.out 4).trans rfl
        have hcz46_5 : wc.cell? ⟨gb101,5,none⟩ = some (.int .i64 a0_5):=(blk_cell BK101.out 5).trans rfl
        have hcz46_6 : wc.cell? ⟨gb101,6,none⟩ = some (.int .i64 a0_6):=(blk_cell BK101.out 6).trans rfl
        have hcz46_7 : wc.cell? ⟨gb101,7,none⟩ = some (.int .i64 a0_7):=(blk_cell BK101.out 7).trans rfl
        have hcz46_8 : wc.cell? ⟨gb101,8,none⟩ = some (.int .i64 a0_8):=(blk_cell BK101.out 8).trans rfl
        have hfz46_0:=blk_frozen BK101.out 0
        have hfz46_1:=blk_frozen BK101.out 1
        have hfz46_2:=blk_frozen BK101.out 2
        have hfz46_3:=blk_frozen BK101.out 3
        have hfz46_4:=blk_frozen BK101.out 4
        have hfz46_5:=blk_frozen BK101.out 5
        have hfz46_6:=blk_frozen BK101.out 6
        have hfz46_7:=blk_frozen BK101.out 7
        have hfz46_8:=blk_frozen BK101.out 8
        go_wp2
        go_ret
        exact ⟨by first|rfl|(simp [errW_none,errW_some] <;> rfl)|(simp [*,errW_none,errW_some] <;> rfl),by repeat (first|(with_reducible first|exact HB.out|apply below_alloc|apply pw_below_drewN|apply below_drew1|refine below_set ?_ GE101.out)|exact HB.out)⟩
      ·rw [if_neg c39] at H
       have c39b0 : (a0_2 == 0) = false:=beq_eq_false_iff_ne.mpr c39
       have c39b1 : (a0_2 != 0) = true:=bne_iff_ne.mpr c39
       obtain rfl:=Option.some.inj H
       have hcz47_0 : wc.cell? ⟨gb101,0,none⟩ = some (.int .i64 a0_0):=(blk_cell BK101.out 0).trans rfl
       have hcz47_1 : wc.cell? ⟨gb101,1,none⟩ = some (.int .i64 a0_1):=(blk_cell BK101.out 1).trans rfl
       have hcz47_2 : wc.cell? ⟨gb101,2,none⟩ = some (.int .i64 a0_2):=(blk_cell BK101.out 2).trans rfl
       have hcz47_3 : wc.cell? ⟨gb101,3,none⟩ = some (.int .i64 a0_3):=(blk_cell BK101.out 3).trans rfl
       have hcz47_4 : wc.cell? ⟨gb101,4,none⟩ = some (.int .i64 a0_4):=(blk_cell BK101.out 4).trans rfl
       have hcz47_5 : wc.cell? ⟨gb101,5,none⟩ = some (.int .i64 a0_5):=(blk_cell BK101.out 5).trans rfl
       have hcz47_6 : wc.cell? ⟨gb101,6,none⟩ = some (.int .i64 a0_6):=(blk_cell BK101.out 6).trans rfl
       have hcz47_7 : wc.cell? ⟨gb101,7,none⟩ = some (.int .i64 a0_7):=(blk_cell BK101.out 7).trans rfl
       have hcz47_8 : wc.cell? ⟨gb101,8,none⟩ = some (.int .i64 a0_8):=(blk_cell BK101.out 8).trans rfl
       have hfz47_0:=blk_frozen BK101.out 0
       have hfz47_1:=blk_frozen BK101.out 1
       have hfz47_2:=blk_frozen BK101.out 2
       have hfz47_3:=blk_frozen BK101.out 3
       have hfz47_4:=blk_frozen BK101.out 4
       have hfz47_5:=blk_frozen BK101.out 5
       have hfz47_6:=blk_frozen BK101.out 6
       have hfz47_7:=blk_frozen BK101.out 7
       have hfz47_8:=blk_frozen BK101.out 8
       go_wp2
       go_ret
       exact ⟨by first|rfl|(simp [errW_none,errW_some] <;> rfl)|(simp [*,errW_none,errW_some] <;> rfl),by repeat (first|(with_reducible first|exact HB.out|apply below_alloc|apply pw_below_drewN|apply below_drew1|refine below_set ?_ GE101.out)|exact HB.out)⟩
     ·rw [if_neg c38] at H
      have c38b0 : (a0_0 == 1) = false:=beq_eq_false_iff_ne.mpr c38
      have c38b1 : (a0_0 != 1) = true:=bne_iff_ne.mpr c38
      by_cases c48 : a0_4 = 0
      ·rw [if_pos c48] at H
       have c48b0 : (a0_4 == 0) = true:=beq_iff_eq.mpr c48
       have c48b1 : (a0_4 != 0) = false:=bne_eq_false_iff_eq.mpr c48
       clear c48
       by_cases c49 : a0_5 = 0
       ·rw [if_pos c49] at H
        have c49b0 : (a0_5 == 0) = true:=beq_iff_eq.mpr c49
        have c49b1 : (a0_5 != 0) = false:=bne_eq_false_iff_eq.mpr c49
        clear c49
        obtain rfl:=Option.some.inj H
        have hcz50_0 : wc.cell? ⟨gb101,0,none⟩ = some (.int .i64 a0_0):=(blk_cell BK101.out 0).trans rfl
        have hcz50_1 : wc.cell? ⟨gb101,1,none⟩ = some (.int .i64 a0_1):=(blk_cell BK101.out 1).trans rfl
        have hcz50_2 : wc.cell? ⟨gb101,2,none⟩ = some (.int .i64 a0_2):=(blk_cell BK101.out 2).trans rfl
        have hcz50_3 : wc.cell? ⟨gb101,3,none⟩ = some (.int .i64 a0_3):=(blk_cell BK101.out 3).trans rfl
        have hcz50_4 : wc.cell? ⟨gb101,4,none⟩ = some (.int .i64 a0_4):=(blk_cell BK101.out 4).trans rfl
        have hcz50_5 : wc.cell? ⟨gb101,5,none⟩ = some (.int .i64 a0_5):=(blk_cell BK101.out 5).trans rfl
        have hcz50_6 : wc.cell? ⟨gb101,6,none⟩ = some (.int .i64 a0_6):=(blk_cell BK101.out 6).trans rfl
        have hcz50_7 : wc.cell? ⟨gb101,7,none⟩ = some (.int .i64 a0_7):=(blk_cell BK101.out 7).trans rfl
        have hcz50_8 : wc.cell? ⟨gb101,8,none⟩ = some (.int .i64 a0_8):=(blk_cell BK101.out 8).trans rfl
        have hfz50_0:=blk_frozen BK101.out 0
        have hfz50_1:=blk_frozen BK101.out 1
        have hfz50_2:=blk_frozen BK101.out 2
        have hfz50_3:=blk_frozen BK101.out 3
        have hfz50_4:=blk_frozen BK101.out 4
        have hfz50_5:=blk_frozen BK101.out 5
        have hfz50_6:=blk_frozen BK101.out 6
        have hfz50_7:=blk_frozen BK101.out 7
        have hfz50_8:=blk_frozen BK101.out 8
        go_wp2
        go_ret
        exact ⟨by first|rfl|(simp [errW_none,errW_some] <;> rfl)|(simp [*,errW_none,errW_some] <;> rfl),by repeat (first|(with_reducible first|exact HB.out|apply below_alloc|apply pw_below_drewN|apply below_drew1|refine below_set ?_ GE101.out)|exact HB.out)⟩
       ·rw [if_neg c49] at H
        have c49b0 : (a0_5 == 0) = false:=beq_eq_false_iff_ne.mpr c49
        have c49b1 : (a0_5 != 0) = true:=bne_iff_ne.mpr c49
        obtain rfl:=Option.some.inj H
        have hcz51_0 : wc.cell? ⟨gb101,0,none⟩ = some (.int .i64 a0_0):=(blk_cell BK101.out 0).trans rfl
        have hcz51_1 : wc.cell? ⟨gb101,1,none⟩ = some (.int .i64 a0_1):=(blk_cell BK101.out 1).trans rfl
        have hcz51_2 : wc.cell? ⟨gb101,2,none⟩ = some (.int .i64 a0_2):=(blk_cell BK101.out 2).trans rfl
        have hcz51_3 : wc.cell? ⟨gb101,3,none⟩ = some (.int .i64 a0_3):=(blk_cell BK101.out 3).trans rfl
        have hcz51_4 : wc.cell? ⟨gb101,4,none⟩ = some (.int .i64 a0_4):=(blk_cell BK101.out 4).trans rfl
        have hcz51_5 : wc.cell? ⟨gb101,5,none⟩ = some (.int .i64 a0_5):=(blk_cell BK101.out 5).trans rfl
        have hcz51_6 : wc.cell? ⟨gb101,6,none⟩ = some (.int .i64 a0_6):=(blk_cell BK101.out 6).trans rfl
        have hcz51_7 : wc.cell? ⟨gb101,7,none⟩ = some (.int .i64 a0_7):=(blk_cell BK101.out 7).trans rfl
        have hcz51_8 : wc.cell? ⟨gb101,8,none⟩ = some (.int .i64 a0_8):=(blk_cell BK101.out 8).trans rfl
        have hfz51_0:=blk_frozen BK101.out 0
        have hfz51_1:=blk_frozen BK101.out 1
        have hfz51_2:=blk_frozen BK101.out 2
        have hfz51_3:=blk_frozen BK101.out 3
        have hfz51_4:=blk_frozen BK101.out 4
        have hfz51_5:=blk_frozen BK101.out 5
        have hfz51_6:=blk_frozen BK101.out 6
        have hfz51_7:=blk_frozen BK101.out 7
        have hfz51_8:=blk_frozen BK101.out 8
        go_wp2
        go_ret
        exact ⟨by first|rfl|(simp [errW_none,errW_some] <;> rfl)|(simp [*,errW_none,errW_some] <;> rfl),by repeat (first|(with_reducible first|exact HB.out|apply below_alloc|apply pw_below_drewN|apply below_drew1|refine below_set ?_ GE101.out)|exact HB.out)⟩
      ·rw [if_neg c48] at H
       have c48b0 : (a0_4 == 0) = false:=beq_eq_false_iff_ne.mpr c48
       have c48b1 : (a0_4 != 0) = true:=bne_iff_ne.mpr c48
       obtain rfl:=Option.some.inj H
       have hcz52_0 : wc.cell? ⟨gb101,0,none⟩ = some (.int .i64 a0_0):=(blk_cell BK101.out 0).trans rfl
       have hcz52_1 : wc.cell? ⟨gb101,1,none⟩ = some (.int .i64 a0_1):=(blk_cell BK101.out 1).trans rfl
       have hcz52_2 : wc.cell? ⟨gb101,2,none⟩ = some (.int .i64 a0_2):=(blk_cell BK101.out 2).trans rfl
       have hcz52_3 : wc.cell? ⟨gb101,3,none⟩ = some (.int .i64 a0_3):=(blk_cell BK101.out 3).trans rfl
       have hcz52_4 : wc.cell? ⟨gb101,4,none⟩ = some (.int .i64 a0_4):=(blk_cell BK101.out 4).trans rfl
       have hcz52_5 : wc.cell? ⟨gb101,5,none⟩ = some (.int .i64 a0_5):=(blk_cell BK101.out 5).trans rfl
       have hcz52_6 : wc.cell? ⟨gb101,6,none⟩ = some (.int .i64 a0_6):=(blk_cell BK101.out 6).trans rfl
       have hcz52_7 : wc.cell? ⟨gb101,7,none⟩ = some (.int .i64 a0_7):=(blk_cell BK101.out 7).trans rfl
       have hcz52_8 : wc.cell? ⟨gb101,8,none⟩ = some (.int .i64 a0_8):=(blk_cell BK101.out 8).trans rfl
       have hfz52_0:=blk_frozen BK101.out 0
       have hfz52_1:=blk_frozen BK101.out 1
       have hfz52_2:=blk_frozen BK101.out 2
       have hfz52_3:=blk_frozen BK101.out 3
       have hfz52_4:=blk_frozen BK101.out 4
       have hfz52_5:=blk_frozen BK101.out 5
       have hfz52_6:=blk_frozen BK101.out 6
       have hfz52_7:=blk_frozen BK101.out 7
       have hfz52_8:=blk_frozen BK101.out 8
       go_wp2
       go_ret
       exact ⟨by first|rfl|(simp [errW_none,errW_some] <;> rfl)|(simp [*,errW_none,errW_some] <;> rfl),by repeat (first|(with_reducible first|exact HB.out|apply below_alloc|apply pw_below_drewN|apply below_drew1|refine below_set ?_ GE101.out)|exact HB.out)⟩

end Go.Proofs.Ythbjchicpebglaa.P

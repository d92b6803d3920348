/- Functions of this seat as plain Lean functions, with proofs that the Go code comes to just their answers, or what stands between them and a law's statement; no conditions. (Laid by a program of this session, out of the kit's print.) -/
import Derived.Test.YthbjchicpebglaaPx0
import Derived.Test.YthbjchicpebglaaPx4
namespace Go.Proofs.Ythbjchicpebglaa.P
open Go.RowKit Go.Proofs.YthbjchicpebglaaW.PrintWords Go.Proofs.YthbjchicpebglaaW.PrintLast Go.Proofs.YthbjchicpebglaaW.PrintMore
attribute [local go_sem] max2_int min2_int max_two min_two max_three min_three max_four min_four   -- for this text's walks alone
set_option linter.unusedVariables false
set_option linter.unusedSimpArgs false

/-! ### hinterlandref15_bad: function 37 -/
def hinterlandref15_bad.j0 : Nat → Bool → Int → Int → Int → Int → Int → Int → Int → Int → Int → Option (Bool)
 | 0,_,_,_,_,_,_,_,_,_,_ => none
 | k + 1,x40,x141000,x141001,x141002,x141003,x141004,x141005,x141006,x141007,x141008 => if x40 = true then (some true) else (if x141000 = 2 then (if x141001 = 0 then (if x141002 = 0 then (if x141003 = 0 then (if x141007 = 0 then (some (x141008 != 0)) else (some true)) else (some true)) else (some true)) else (some true)) else (if x141000 = 1 then (if x141002 = 0 then (if x141003 = 0 then (if x141004 = 0 then (if x141005 = 0 then (some (x141006 != 0)) else (some true)) else (some true)) else (some true)) else (some true)) else (if x141004 = 0 then (if x141005 = 0 then (some (x141006 != 0)) else (some true)) else (some true))))
def hinterlandref15_bad.f (k : Nat) (a0_0 : Int) (a0_1 : Int) (a0_2 : Int) (a0_3 : Int) (a0_4 : Int) (a0_5 : Int) (a0_6 : Int) (a0_7 : Int) (a0_8 : Int) : Option (Bool) := (hinterlandref15_out.f a0_0 2).bind fun t141 => (if t141 = true then (hinterlandref15_bad.j0 k true a0_0 a0_1 a0_2 a0_3 a0_4 a0_5 a0_6 a0_7 a0_8) else ((hinterlandref15_out.f a0_1 1000000).bind fun t142 => (if t142 = true then (hinterlandref15_bad.j0 k true a0_0 a0_1 a0_2 a0_3 a0_4 a0_5 a0_6 a0_7 a0_8) else ((hinterlandref15_out.f a0_2 2).bind fun t143 => (if t143 = true then (hinterlandref15_bad.j0 k true a0_0 a0_1 a0_2 a0_3 a0_4 a0_5 a0_6 a0_7 a0_8) else ((hinterlandref15_out.f a0_3 2).bind fun t144 => (if t144 = true then (hinterlandref15_bad.j0 k true a0_0 a0_1 a0_2 a0_3 a0_4 a0_5 a0_6 a0_7 a0_8) else ((hinterlandref15_out.f a0_4 4).bind fun t145 => (if t145 = true then (hinterlandref15_bad.j0 k true a0_0 a0_1 a0_2 a0_3 a0_4 a0_5 a0_6 a0_7 a0_8) else ((hinterlandref15_out.f a0_5 1000000).bind fun t146 => (if t146 = true then (hinterlandref15_bad.j0 k true a0_0 a0_1 a0_2 a0_3 a0_4 a0_5 a0_6 a0_7 a0_8) else ((hinterlandref15_out.f a0_7 1000000).bind fun t147 => (if t147 = true then (hinterlandref15_bad.j0 k true a0_0 a0_1 a0_2 a0_3 a0_4 a0_5 a0_6 a0_7 a0_8) else ((hinterlandref15_out.f a0_8 1000000).bind fun t148 => (hinterlandref15_bad.j0 k t148 a0_0 a0_1 a0_2 a0_3 a0_4 a0_5 a0_6 a0_7 a0_8)))))))))))))))
theorem hinterlandref15_bad.mono_l : ∀ k, (∀ y0 y1 y2 y3 y4 y5 y6 y7 y8 y9, LeO (hinterlandref15_bad.j0 k y0 y1 y2 y3 y4 y5 y6 y7 y8 y9) (hinterlandref15_bad.j0 (k + 1) y0 y1 y2 y3 y4 y5 y6 y7 y8 y9))
 | 0 => fun _ _ _ _ _ _ _ _ _ _ r h => by simp [hinterlandref15_bad.j0] at h
 | k + 1 => by
  have ih0:=hinterlandref15_bad.mono_l k
  ·intro y0 y1 y2 y3 y4 y5 y6 y7 y8 y9
   unfold hinterlandref15_bad.j0
   repeat' first
   | (with_reducible exact ih0 _ _ _ _ _ _ _ _ _ _)
   | (with_reducible exact LeO.refl _)
   | (with_reducible exact LeO.none _)
   | (with_reducible refine LeO.ite ?_ ?_)
   | (with_reducible refine LeO.bind ?_ (fun _ => ?_))
   | exact ih0 _ _ _ _ _ _ _ _ _ _
   | exact LeO.none _
   | refine LeO.ite ?_ ?_
   | refine LeO.bind ?_ (fun _ => ?_)
theorem hinterlandref15_bad.mono : ∀ a0 a1 a2 a3 a4 a5 a6 a7 a8 k, LeO (hinterlandref15_bad.f k a0 a1 a2 a3 a4 a5 a6 a7 a8) (hinterlandref15_bad.f (k + 1) a0 a1 a2 a3 a4 a5 a6 a7 a8) := by
 intro a0 a1 a2 a3 a4 a5 a6 a7 a8 k
 have ih0:=hinterlandref15_bad.mono_l k
 unfold hinterlandref15_bad.f
 repeat' first
   | (with_reducible exact ih0 _ _ _ _ _ _ _ _ _ _)
   | (with_reducible exact LeO.refl _)
   | (with_reducible exact LeO.none _)
   | (with_reducible refine LeO.ite ?_ ?_)
   | (with_reducible refine LeO.bind ?_ (fun _ => ?_))
   | exact ih0 _ _ _ _ _ _ _ _ _ _
   | exact LeO.none _
   | refine LeO.ite ?_ ?_
   | refine LeO.bind ?_ (fun _ => ?_)
set_option maxHeartbeats 8000000 in
set_option maxRecDepth 100000 in
theorem hinterlandref15_bad.calls (k : Nat) (a0_0 : Int) (a0_1 : Int) (a0_2 : Int) (a0_3 : Int) (a0_4 : Int) (a0_5 : Int) (a0_6 : Int) (a0_7 : Int) (a0_8 : Int) (r : Bool) (w : World) (h : hinterlandref15_bad.f k a0_0 a0_1 a0_2 a0_3 a0_4 a0_5 a0_6 a0_7 a0_8 = some r) :
  Calls Try.prog 37 #[.agg #[.int .i64 a0_0,.int .i64 a0_1,.int .i64 a0_2,.int .i64 a0_3,.int .i64 a0_4,.int .i64 a0_5,.int .i64 a0_6,.int .i64 a0_7,.int .i64 a0_8]] w fun e w' => e = .returned (.bool r) ∧ Below w.heap.size w w':=by
 have hu33:=Try.underlying33
 have HB:=Aside0.mk (Below.refl w.heap.size w)
 have H : ((hinterlandref15_out.f a0_0 2).bind fun t141 => (if t141 = true then (hinterlandref15_bad.j0 k true a0_0 a0_1 a0_2 a0_3 a0_4 a0_5 a0_6 a0_7 a0_8) else ((hinterlandref15_out.f a0_1 1000000).bind fun t142 => (if t142 = true then (hinterlandref15_bad.j0 k true a0_0 a0_1 a0_2 a0_3 a0_4 a0_5 a0_6 a0_7 a0_8) else ((hinterlandref15_out.f a0_2 2).bind fun t143 => (if t143 = true then (hinterlandref15_bad.j0 k true a0_0 a0_1 a0_2 a0_3 a0_4 a0_5 a0_6 a0_7 a0_8) else ((hinterlandref15_out.f a0_3 2).bind fun t144 => (if t144 = true then (hinterlandref15_bad.j0 k true a0_0 a0_1 a0_2 a0_3 a0_4 a0_5 a0_6 a0_7 a0_8) else ((hinterlandref15_out.f a0_4 4).bind fun t145 => (if t145 = true then (hinterlandref15_bad.j0 k true a0_0 a0_1 a0_2 a0_3 a0_4 a0_5 a0_6 a0_7 a0_8) else ((hinterlandref15_out.f a0_5 1000000).bind fun t146 => (if t146 = true then (hinterlandref15_bad.j0 k true a0_0 a0_1 a0_2 a0_3 a0_4 a0_5 a0_6 a0_7 a0_8) else ((hinterlandref15_out.f a0_7 1000000).bind fun t147 => (if t147 = true then (hinterlandref15_bad.j0 k true a0_0 a0_1 a0_2 a0_3 a0_4 a0_5 a0_6 a0_7 a0_8) else ((hinterlandref15_out.f a0_8 1000000).bind fun t148 => (hinterlandref15_bad.j0 k t148 a0_0 a0_1 a0_2 a0_3 a0_4 a0_5 a0_6 a0_7 a0_8)))))))))))))))) = some r:=h
 clear h
 have HC2:=Aside0.mk H
 clear H
 go_enter Try.func37,Try.ntmps37
 go_upto_region 1 with (first|((with_reducible refine gate_dst (N:=1) rfl ?_);refine box_ev (N:=1) (cs:=#[.int .i64 a0_0,.int .i64 a0_1,.int .i64 a0_2,.int .i64 a0_3,.int .i64 a0_4,.int .i64 a0_5,.int .i64 a0_6,.int .i64 a0_7,.int .i64 a0_8]) (t:=33) ?_;intro gb140 hg w3 hbox hb;have BK140:=Aside0.mk (hbox);have GW140 : Aside0 (w.heap.size ≤ gb140):=gsz hg;have GE140:=GW140;replace HB:=Aside0.mk (below_step (hb_) hb);clear hb hbox hg))
 (try simp only [Act.put,List.setIfInBounds_toArray,List.set_cons_zero,List.set_cons_succ])
 go_cut [40] (fun v40 wc => ∃ (kq : Nat) (x40_1 : Bool),v40 = .bool x40_1 ∧ Aside0 (hinterlandref15_bad.j0 kq x40_1 a0_0 a0_1 a0_2 a0_3 a0_4 a0_5 a0_6 a0_7 a0_8 = some r) ∧ Aside0 (kq ≤ k) ∧ Aside0 (wc.heap[gb140]? = some (.cells #[.int .i64 a0_0,.int .i64 a0_1,.int .i64 a0_2,.int .i64 a0_3,.int .i64 a0_4,.int .i64 a0_5,.int .i64 a0_6,.int .i64 a0_7,.int .i64 a0_8] 33 (0,0))) ∧ Aside0 (Below w.heap.size w wc))
 case first =>
  have H:=HC2.out
  clear HC2
  replace H:=Option.bind_eq_some_iff.mp H
  obtain ⟨t141,A40,H⟩:=H
  replace H : (if t141 = true then (hinterlandref15_bad.j0 k true a0_0 a0_1 a0_2 a0_3 a0_4 a0_5 a0_6 a0_7 a0_8) else ((hinterlandref15_out.f a0_1 1000000).bind fun t142 => (if t142 = true then (hinterlandref15_bad.j0 k true a0_0 a0_1 a0_2 a0_3 a0_4 a0_5 a0_6 a0_7 a0_8) else ((hinterlandref15_out.f a0_2 2).bind fun t143 => (if t143 = true then (hinterlandref15_bad.j0 k true a0_0 a0_1 a0_2 a0_3 a0_4 a0_5 a0_6 a0_7 a0_8) else ((hinterlandref15_out.f a0_3 2).bind fun t144 => (if t144 = true then (hinterlandref15_bad.j0 k true a0_0 a0_1 a0_2 a0_3 a0_4 a0_5 a0_6 a0_7 a0_8) else ((hinterlandref15_out.f a0_4 4).bind fun t145 => (if t145 = true then (hinterlandref15_bad.j0 k true a0_0 a0_1 a0_2 a0_3 a0_4 a0_5 a0_6 a0_7 a0_8) else ((hinterlandref15_out.f a0_5 1000000).bind fun t146 => (if t146 = true then (hinterlandref15_bad.j0 k true a0_0 a0_1 a0_2 a0_3 a0_4 a0_5 a0_6 a0_7 a0_8) else ((hinterlandref15_out.f a0_7 1000000).bind fun t147 => (if t147 = true then (hinterlandref15_bad.j0 k true a0_0 a0_1 a0_2 a0_3 a0_4 a0_5 a0_6 a0_7 a0_8) else ((hinterlandref15_out.f a0_8 1000000).bind fun t148 => (hinterlandref15_bad.j0 k t148 a0_0 a0_1 a0_2 a0_3 a0_4 a0_5 a0_6 a0_7 a0_8))))))))))))))) = some r:=H
  have A4:=Aside0.mk A40
  clear A40
  by_cases c5 : t141 = true
  ·subst c5
   have H1 : (hinterlandref15_bad.j0 k true a0_0 a0_1 a0_2 a0_3 a0_4 a0_5 a0_6 a0_7 a0_8) = some r:=by rw [if_pos rfl] at H;exact H
   clear H
   have H:=H1
   clear H1
   have H':=Aside0.mk H
   clear H
   obtain ⟨hcz6_0,hcz6_1,hcz6_2,hcz6_3,hcz6_4,hcz6_5,hcz6_6,hcz6_7,hcz6_8,hfz6_0,hfz6_1,hfz6_2,hfz6_3,hfz6_4,hfz6_5,hfz6_6,hfz6_7,hfz6_8⟩:=cells9 BK140.out
   go_wp2_with (first|((with_reducible refine gate_callee (f:=43) rfl ?_);refine goesL_ (some 5) rfl rfl Try.func43 (by kernel_rfl) rfl #[.int .i64 a0_0,.int .i64 2] rfl (by (try simp only [List.map_toArray,List.map_cons,List.map_nil]);first|done|rfl|(simp only [List.length_drop,List.length_take];rfl)) ?_;(with_reducible refine (hinterlandref15_out.calls a0_0 2 true _ A4.out).mono ?_);rintro e w' ⟨rfl,⟨nd,rfl⟩⟩;refine ⟨_,rfl,?_⟩))
   go_meet
   case rel => exact ⟨_,(true),(by first|rfl|(simp;done)|(simp [*];done)),H',⟨by first|omega|exact Nat.le_refl _⟩,⟨blk_up BK140.out⟩,⟨hb_⟩⟩
  ·replace c5:=Bool.eq_false_iff.mpr c5
   subst c5
   have H1 : ((hinterlandref15_out.f a0_1 1000000).bind fun t142 => (if t142 = true then (hinterlandref15_bad.j0 k true a0_0 a0_1 a0_2 a0_3 a0_4 a0_5 a0_6 a0_7 a0_8) else ((hinterlandref15_out.f a0_2 2).bind fun t143 => (if t143 = true then (hinterlandref15_bad.j0 k true a0_0 a0_1 a0_2 a0_3 a0_4 a0_5 a0_6 a0_7 a0_8) else ((hinterlandref15_out.f a0_3 2).bind fun t144 => (if t144 = true then (hinterlandref15_bad.j0 k true a0_0 a0_1 a0_2 a0_3 a0_4 a0_5 a0_6 a0_7 a0_8) else ((hinterlandref15_out.f a0_4 4).bind fun t145 => (if t145 = true then (hinterlandref15_bad.j0 k true a0_0 a0_1 a0_2 a0_3 a0_4 a0_5 a0_6 a0_7 a0_8) else ((hinterlandref15_out.f a0_5 1000000).bind fun t146 => (if t146 = true then (hinterlandref15_bad.j0 k true a0_0 a0_1 a0_2 a0_3 a0_4 a0_5 a0_6 a0_7 a0_8) else ((hinterlandref15_out.f a0_7 1000000).bind fun t147 => (if t147 = true then (hinterlandref15_bad.j0 k true a0_0 a0_1 a0_2 a0_3 a0_4 a0_5 a0_6 a0_7 a0_8) else ((hinterlandref15_out.f a0_8 1000000).bind fun t148 => (hinterlandref15_bad.j0 k t148 a0_0 a0_1 a0_2 a0_3 a0_4 a0_5 a0_6 a0_7 a0_8)))))))))))))) = some r:=by rw [if_neg (show ¬ (false = true) by decide)] at H;exact H
   clear H
   have H:=H1
   clear H1
   replace H:=Option.bind_eq_some_iff.mp H
   obtain ⟨t142,A70,H⟩:=H
   replace H : (if t142 = true then (hinterlandref15_bad.j0 k true a0_0 a0_1 a0_2 a0_3 a0_4 a0_5 a0_6 a0_7 a0_8) else ((hinterlandref15_out.f a0_2 2).bind fun t143 => (if t143 = true then (hinterlandref15_bad.j0 k true a0_0 a0_1 a0_2 a0_3 a0_4 a0_5 a0_6 a0_7 a0_8) else ((hinterlandref15_out.f a0_3 2).bind fun t144 => (if t144 = true then (hinterlandref15_bad.j0 k true a0_0 a0_1 a0_2 a0_3 a0_4 a0_5 a0_6 a0_7 a0_8) else ((hinterlandref15_out.f a0_4 4).bind fun t145 => (if t145 = true then (hinterlandref15_bad.j0 k true a0_0 a0_1 a0_2 a0_3 a0_4 a0_5 a0_6 a0_7 a0_8) else ((hinterlandref15_out.f a0_5 1000000).bind fun t146 => (if t146 = true then (hinterlandref15_bad.j0 k true a0_0 a0_1 a0_2 a0_3 a0_4 a0_5 a0_6 a0_7 a0_8) else ((hinterlandref15_out.f a0_7 1000000).bind fun t147 => (if t147 = true then (hinterlandref15_bad.j0 k true a0_0 a0_1 a0_2 a0_3 a0_4 a0_5 a0_6 a0_7 a0_8) else ((hinterlandref15_out.f a0_8 1000000).bind fun t148 => (hinterlandref15_bad.j0 k t148 a0_0 a0_1 a0_2 a0_3 a0_4 a0_5 a0_6 a0_7 a0_8))))))))))))) = some r:=H
   have A7:=Aside0.mk A70
   clear A70
   by_cases c8 : t142 = true
   ·subst c8
    have H1 : (hinterlandref15_bad.j0 k true a0_0 a0_1 a0_2 a0_3 a0_4 a0_5 a0_6 a0_7 a0_8) = some r:=by rw [if_pos rfl] at H;exact H
    clear H
    have H:=H1
    clear H1
    have H':=Aside0.mk H
    clear H
    obtain ⟨hcz9_0,hcz9_1,hcz9_2,hcz9_3,hcz9_4,hcz9_5,hcz9_6,hcz9_7,hcz9_8,hfz9_0,hfz9_1,hfz9_2,hfz9_3,hfz9_4,hfz9_5,hfz9_6,hfz9_7,hfz9_8⟩:=cells9 BK140.out
    go_wp2_with (first|((with_reducible refine gate_callee (f:=43) rfl ?_);refine goesL_ (some 5) rfl rfl Try.func43 (by kernel_rfl) rfl #[.int .i64 a0_0,.int .i64 2] rfl (by (try simp only [List.map_toArray,List.map_cons,List.map_nil]);first|done|rfl|(simp only [List.length_drop,List.length_take];rfl)) ?_;(with_reducible refine (hinterlandref15_out.calls a0_0 2 false _ A4.out).mono ?_);rintro e w' ⟨rfl,⟨nd,rfl⟩⟩;refine ⟨_,rfl,?_⟩)|(go_at_call 43;(with_reducible refine (hinterlandref15_out.calls a0_1 1000000 true _ A7.out).mono ?_);rintro e w' ⟨rfl,⟨nd,rfl⟩⟩))
    go_meet
    case rel => exact ⟨_,(true),(by first|rfl|(simp;done)|(simp [*];done)),H',⟨by first|omega|exact Nat.le_refl _⟩,⟨blk_up BK140.out⟩,⟨hb_⟩⟩
   ·replace c8:=Bool.eq_false_iff.mpr c8
    subst c8
    have H1 : ((hinterlandref15_out.f a0_2 2).bind fun t143 => (if t143 = true then (hinterlandref15_bad.j0 k true a0_0 a0_1 a0_2 a0_3 a0_4 a0_5 a0_6 a0_7 a0_8) else ((hinterlandref15_out.f a0_3 2).bind fun t144 => (if t144 = true then (hinterlandref15_bad.j0 k true a0_0 a0_1 a0_2 a0_3 a0_4 a0_5 a0_6 a0_7 a0_8) else ((hinterlandref15_out.f a0_4 4).bind fun t145 => (if t145 = true then (hinterlandref15_bad.j0 k true a0_0 a0_1 a0_2 a0_3 a0_4 a0_5 a0_6 a0_7 a0_8) else ((hinterlandref15_out.f a0_5 1000000).bind fun t146 => (if t146 = true then (hinterlandref15_bad.j0 k true a0_0 a0_1 a0_2 a0_3 a0_4 a0_5 a0_6 a0_7 a0_8) else ((hinterlandref15_out.f a0_7 1000000).bind fun t147 => (if t147 = true then (hinterlandref15_bad.j0 k true a0_0 a0_1 a0_2 a0_3 a0_4 a0_5 a0_6 a0_7 a0_8) else ((hinterlandref15_out.f a0_8 1000000).bind fun t148 => (hinterlandref15_bad.j0 k t148 a0_0 a0_1 a0_2 a0_3 a0_4 a0_5 a0_6 a0_7 a0_8)))))))))))) = some r:=by rw [if_neg (show ¬ (false = true) by decide)] at H;exact H
    clear H
    have H:=H1
    clear H1
    replace H:=Option.bind_eq_some_iff.mp H
    obtain ⟨t143,A100,H⟩:=H
    replace H : (if t143 = true then (hinterlandref15_bad.j0 k true a0_0 a0_1 a0_2 a0_3 a0_4 a0_5 a0_6 a0_7 a0_8) else ((hinterlandref15_out.f a0_3 2).bind fun t144 => (if t144 = true then (hinterlandref15_bad.j0 k true a0_0 a0_1 a0_2 a0_3 a0_4 a0_5 a0_6 a0_7 a0_8) else ((hinterlandref15_out.f a0_4 4).bind fun t145 => (if t145 = true then (hinterlandref15_bad.j0 k true a0_0 a0_1 a0_2 a0_3 a0_4 a0_5 a0_6 a0_7 a0_8) else ((hinterlandref15_out.f a0_5 1000000).bind fun t146 => (if t146 = true then (hinterlandref15_bad.j0 k true a0_0 a0_1 a0_2 a0_3 a0_4 a0_5 a0_6 a0_7 a0_8) else ((hinterlandref15_out.f a0_7 1000000).bind fun t147 => (if t147 = true then (hinterlandref15_bad.j0 k true a0_0 a0_1 a0_2 a0_3 a0_4 a0_5 a0_6 a0_7 a0_8) else ((hinterlandref15_out.f a0_8 1000000).bind fun t148 => (hinterlandref15_bad.j0 k t148 a0_0 a0_1 a0_2 a0_3 a0_4 a0_5 a0_6 a0_7 a0_8))))))))))) = some r:=H
    have A10:=Aside0.mk A100
    clear A100
    by_cases c11 : t143 = true
    ·subst c11
     have H1 : (hinterlandref15_bad.j0 k true a0_0 a0_1 a0_2 a0_3 a0_4 a0_5 a0_6 a0_7 a0_8) = some r:=by rw [if_pos rfl] at H;exact H
     clear H
     have H:=H1
     clear H1
     have H':=Aside0.mk H
     clear H
     obtain ⟨hcz12_0,hcz12_1,hcz12_2,hcz12_3,hcz12_4,hcz12_5,hcz12_6,hcz12_7,hcz12_8,hfz12_0,hfz12_1,hfz12_2,hfz12_3,hfz12_4,hfz12_5,hfz12_6,hfz12_7,hfz12_8⟩:=cells9 BK140.out
     go_wp2_with (first|((with_reducible refine gate_callee (f:=43) rfl ?_);refine goesL_ (some 5) rfl rfl Try.func43 (by kernel_rfl) rfl #[.int .i64 a0_0,.int .i64 2] rfl (by (try simp only [List.map_toArray,List.map_cons,List.map_nil]);first|done|rfl|(simp only [List.length_drop,List.length_take];rfl)) ?_;(with_reducible refine (hinterlandref15_out.calls a0_0 2 false _ A4.out).mono ?_);rintro e w' ⟨rfl,⟨nd,rfl⟩⟩;refine ⟨_,rfl,?_⟩)|(go_at_call 43;(with_reducible refine (hinterlandref15_out.calls a0_1 1000000 false _ A7.out).mono ?_);rintro e w' ⟨rfl,⟨nd,rfl⟩⟩)|(go_at_call 43;(with_reducible refine (hinterlandref15_out.calls a0_2 2 true _ A10.out).mono ?_);rintro e w' ⟨rfl,⟨nd,rfl⟩⟩))
     go_meet
     case rel => exact ⟨_,(true),(by first|rfl|(simp;done)|(simp [*];done)),H',⟨by first|omega|exact Nat.le_refl _⟩,⟨blk_up BK140.out⟩,⟨hb_⟩⟩
    ·replace c11:=Bool.eq_false_iff.mpr c11
     subst c11
     have H1 : ((hinterlandref15_out.f a0_3 2).bind fun t144 => (if t144 = true then (hinterlandref15_bad.j0 k true a0_0 a0_1 a0_2 a0_3 a0_4 a0_5 a0_6 a0_7 a0_8) else ((hinterlandref15_out.f a0_4 4).bind fun t145 => (if t145 = true then (hinterlandref15_bad.j0 k true a0_0 a0_1 a0_2 a0_3 a0_4 a0_5 a0_6 a0_7 a0_8) else ((hinterlandref15_out.f a0_5 1000000).bind fun t146 => (if t146 = true then (hinterlandref15_bad.j0 k true a0_0 a0_1 a0_2 a0_3 a0_4 a0_5 a0_6 a0_7 a0_8) else ((hinterlandref15_out.f a0_7 1000000).bind fun t147 => (if t147 = true then (hinterlandref15_bad.j0 k true a0_0 a0_1 a0_2 a0_3 a0_4 a0_5 a0_6 a0_7 a0_8) else ((hinterlandref15_out.f a0_8 1000000).bind fun t148 => (hinterlandref15_bad.j0 k t148 a0_0 a0_1 a0_2 a0_3 a0_4 a0_5 a0_6 a0_7 a0_8)))))))))) = some r:=by rw [if_neg (show ¬ (false = true) by decide)] at H;exact H
     clear H
     have H:=H1
     clear H1
     replace H:=Option.bind_eq_some_iff.mp H
     obtain ⟨t144,A130,H⟩:=H
     replace H : (if t144 = true then (hinterlandref15_bad.j0 k true a0_0 a0_1 a0_2 a0_3 a0_4 a0_5 a0_6 a0_7 a0_8) else ((hinterlandref15_out.f a0_4 4).bind fun t145 => (if t145 = true then (hinterlandref15_bad.j0 k true a0_0 a0_1 a0_2 a0_3 a0_4 a0_5 a0_6 a0_7 a0_8) else ((hinterlandref15_out.f a0_5 1000000).bind fun t146 => (if t146 = true then (hinterlandref15_bad.j0 k true a0_0 a0_1 a0_2 a0_3 a0_4 a0_5 a0_6 a0_7 a0_8) else ((hinterlandref15_out.f a0_7 1000000).bind fun t147 => (if t147 = true then (hinterlandref15_bad.j0 k true a0_0 a0_1 a0_2 a0_3 a0_4 a0_5 a0_6 a0_7 a0_8) else ((hinterlandref15_out.f a0_8 1000000).bind fun t148 => (hinterlandref15_bad.j0 k t148 a0_0 a0_1 a0_2 a0_3 a0_4 a0_5 a0_6 a0_7 a0_8))))))))) = some r:=H
     have A13:=Aside0.mk A130
     clear A130
     by_cases c14 : t144 = true
     ·subst c14
      have H1 : (hinterlandref15_bad.j0 k true a0_0 a0_1 a0_2 a0_3 a0_4 a0_5 a0_6 a0_7 a0_8) = some r:=by rw [if_pos rfl] at H;exact H
      clear H
      have H:=H1
      clear H1
      have H':=Aside0.mk H
      clear H
      obtain ⟨hcz15_0,hcz15_1,hcz15_2,hcz15_3,hcz15_4,hcz15_5,hcz15_6,hcz15_7,hcz15_8,hfz15_0,hfz15_1,hfz15_2,hfz15_3,hfz15_4,hfz15_5,hfz15_6,hfz15_7,hfz15_8⟩:=cells9 BK140.out
      go_wp2_with (first|((with_reducible refine gate_callee (f:=43) rfl ?_);refine goesL_ (some 5) rfl rfl Try.func43 (by kernel_rfl) rfl #[.int .i64 a0_0,.int .i64 2] rfl (by (try simp only [List.map_toArray,List.map_cons,List.map_nil]);first|done|rfl|(simp only [List.length_drop,List.length_take];rfl)) ?_;(with_reducible refine (hinterlandref15_out.calls a0_0 2 false _ A4.out).mono ?_);rintro e w' ⟨rfl,⟨nd,rfl⟩⟩;refine ⟨_,rfl,?_⟩)|(go_at_call 43;(with_reducible refine (hinterlandref15_out.calls a0_1 1000000 false _ A7.out).mono ?_);rintro e w' ⟨rfl,⟨nd,rfl⟩⟩)|(go_at_call 43;(with_reducible refine (hinterlandref15_out.calls a0_2 2 false _ A10.out).mono ?_);rintro e w' ⟨rfl,⟨nd,rfl⟩⟩)|(go_at_call 43;(with_reducible refine (hinterlandref15_out.calls a0_3 2 true _ A13.out).mono ?_);rintro e w' ⟨rfl,⟨nd,rfl⟩⟩))
      go_meet
      case rel => exact ⟨_,(true),(by first|rfl|(simp;done)|(simp [*];done)),H',⟨by first|omega|exact Nat.le_refl _⟩,⟨blk_up BK140.out⟩,⟨hb_⟩⟩
     ·replace c14:=Bool.eq_false_iff.mpr c14
      subst c14
      have H1 : ((hinterlandref15_out.f a0_4 4).bind fun t145 => (if t145 = true then (hinterlandref15_bad.j0 k true a0_0 a0_1 a0_2 a0_3 a0_4 a0_5 a0_6 a0_7 a0_8) else ((hinterlandref15_out.f a0_5 1000000).bind fun t146 => (if t146 = true then (hinterlandref15_bad.j0 k true a0_0 a0_1 a0_2 a0_3 a0_4 a0_5 a0_6 a0_7 a0_8) else ((hinterlandref15_out.f a0_7 1000000).bind fun t147 => (if t147 = true then (hinterlandref15_bad.j0 k true a0_0 a0_1 a0_2 a0_3 a0_4 a0_5 a0_6 a0_7 a0_8) else ((hinterlandref15_out.f a0_8 1000000).bind fun t148 => (hinterlandref15_bad.j0 k t148 a0_0 a0_1 a0_2 a0_3 a0_4 a0_5 a0_6 a0_7 a0_8)))))))) = some r:=by rw [if_neg (show ¬ (false = true) by decide)] at H;exact H
      clear H
      have H:=H1
      clear H1
      replace H:=Option.bind_eq_some_iff.mp H
      obtain ⟨t145,A160,H⟩:=H
      replace H : (if t145 = true then (hinterlandref15_bad.j0 k true a0_0 a0_1 a0_2 a0_3 a0_4 a0_5 a0_6 a0_7 a0_8) else ((hinterlandref15_out.f a0_5 1000000).bind fun t146 => (if t146 = true then (hinterlandref15_bad.j0 k true a0_0 a0_1 a0_2 a0_3 a0_4 a0_5 a0_6 a0_7 a0_8) else ((hinterlandref15_out.f a0_7 1000000).bind fun t147 => (if t147 = true then (hinterlandref15_bad.j0 k true a0_0 a0_1 a0_2 a0_3 a0_4 a0_5 a0_6 a0_7 a0_8) else ((hinterlandref15_out.f a0_8 1000000).bind fun t148 => (hinterlandref15_bad.j0 k t148 a0_0 a0_1 a0_2 a0_3 a0_4 a0_5 a0_6 a0_7 a0_8))))))) = some r:=H
      have A16:=Aside0.mk A160
      clear A160
      by_cases c17 : t145 = true
      ·subst c17
       have H1 : (hinterlandref15_bad.j0 k true a0_0 a0_1 a0_2 a0_3 a0_4 a0_5 a0_6 a0_7 a0_8) = some r:=by rw [if_pos rfl] at H;exact H
       clear H
       have H:=H1
       clear H1
       have H':=Aside0.mk H
       clear H
       obtain ⟨hcz18_0,hcz18_1,hcz18_2,hcz18_3,hcz18_4,hcz18_5,hcz18_6,hcz18_7,hcz18_8,hfz18_0,hfz18_1,hfz18_2,hfz18_3,hfz18_4,hfz18_5,hfz18_6,hfz18_7,hfz18_8⟩:=cells9 BK140.out
       go_wp2_with (first|((with_reducible refine gate_callee (f:=43) rfl ?_);refine goesL_ (some 5) rfl rfl Try.func43 (by kernel_rfl) rfl #[.int .i64 a0_0,.int .i64 2] rfl (by (try simp only [List.map_toArray,List.map_cons,List.map_nil]);first|done|rfl|(simp only [List.length_drop,List.length_take];rfl)) ?_;(with_reducible refine (hinterlandref15_out.calls a0_0 2 false _ A4.out).mono ?_);rintro e w' ⟨rfl,⟨nd,rfl⟩⟩;refine ⟨_,rfl,?_⟩)|(go_at_call 43;(with_reducible refine (hinterlandref15_out.calls a0_1 1000000 false _ A7.out).mono ?_);rintro e w' ⟨rfl,⟨nd,rfl⟩⟩)|(go_at_call 43;(with_reducible refine (hinterlandref15_out.calls a0_2 2 false _ A10.out).mono ?_);rintro e w' ⟨rfl,⟨nd,rfl⟩⟩)|(go_at_call 43;(with_reducible refine (hinterlandref15_out.calls a0_3 2 false _ A13.out).mono ?_);rintro e w' ⟨rfl,⟨nd,rfl⟩⟩)|(go_at_call 43;(with_reducible refine (hinterlandref15_out.calls a0_4 4 true _ A16.out).mono ?_);rintro e w' ⟨rfl,⟨nd,rfl⟩⟩))
       go_meet
       case rel => exact ⟨_,(true),(by first|rfl|(simp;done)|(simp [*];done)),H',⟨by first|omega|exact Nat.le_refl _⟩,⟨blk_up BK140.out⟩,⟨hb_⟩⟩
      ·replace c17:=Bool.eq_false_iff.mpr c17
       subst c17
       have H1 : ((hinterlandref15_out.f a0_5 1000000).bind fun t146 => (if t146 = true then (hinterlandref15_bad.j0 k true a0_0 a0_1 a0_2 a0_3 a0_4 a0_5 a0_6 a0_7 a0_8) else ((hinterlandref15_out.f a0_7 1000000).bind fun t147 => (if t147 = true then (hinterlandref15_bad.j0 k true a0_0 a0_1 a0_2 a0_3 a0_4 a0_5 a0_6 a0_7 a0_8) else ((hinterlandref15_out.f a0_8 1000000).bind fun t148 => (hinterlandref15_bad.j0 k t148 a0_0 a0_1 a0_2 a0_3 a0_4 a0_5 a0_6 a0_7 a0_8)))))) = some r:=by rw [if_neg (show ¬ (false = true) by decide)] at H;exact H
       clear H
       have H:=H1
       clear H1
       replace H:=Option.bind_eq_some_iff.mp H
       obtain ⟨t146,A190,H⟩:=H
       replace H : (if t146 = true then (hinterlandref15_bad.j0 k true a0_0 a0_1 a0_2 a0_3 a0_4 a0_5 a0_6 a0_7 a0_8) else ((hinterlandref15_out.f a0_7 1000000).bind fun t147 => (if t147 = true then (hinterlandref15_bad.j0 k true a0_0 a0_1 a0_2 a0_3 a0_4 a0_5 a0_6 a0_7 a0_8) else ((hinterlandref15_out.f a0_8 1000000).bind fun t148 => (hinterlandref15_bad.j0 k t148 a0_0 a0_1 a0_2 a0_3 a0_4 a0_5 a0_6 a0_7 a0_8))))) = some r:=H
       have A19:=Aside0.mk A190
       clear A190
       by_cases c20 : t146 = true
       ·subst c20
        have H1 : (hinterlandref15_bad.j0 k true a0_0 a0_1 a0_2 a0_3 a0_4 a0_5 a0_6 a0_7 a0_8) = some r:=by rw [if_pos rfl] at H;exact H
        clear H
        have H:=H1
        clear H1
        have H':=Aside0.mk H
        clear H
        obtain ⟨hcz21_0,hcz21_1,hcz21_2,hcz21_3,hcz21_4,hcz21_5,hcz21_6,hcz21_7,hcz21_8,hfz21_0,hfz21_1,hfz21_2,hfz21_3,hfz21_4,hfz21_5,hfz21_6,hfz21_7,hfz21_8⟩:=cells9 BK140.out
        go_wp2_with (first|((with_reducible refine gate_callee (f:=43) rfl ?_);refine goesL_ (some 5) rfl rfl Try.func43 (by kernel_rfl) rfl #[.int .i64 a0_0,.int .i64 2] rfl (by (try simp only [List.map_toArray,List.map_cons,List.map_nil]);first|done|rfl|(simp only [List.length_drop,List.length_take];rfl)) ?_;(with_reducible refine (hinterlandref15_out.calls a0_0 2 false _ A4.out).mono ?_);rintro e w' ⟨rfl,⟨nd,rfl⟩⟩;refine ⟨_,rfl,?_⟩)|(go_at_call 43;(with_reducible refine (hinterlandref15_out.calls a0_1 1000000 false _ A7.out).mono ?_);rintro e w' ⟨rfl,⟨nd,rfl⟩⟩)|(go_at_call 43;(with_reducible refine (hinterlandref15_out.calls a0_2 2 false _ A10.out).mono ?_);rintro e w' ⟨rfl,⟨nd,rfl⟩⟩)|(go_at_call 43;(with_reducible refine (hinterlandref15_out.calls a0_3 2 false _ A13.out).mono ?_);rintro e w' ⟨rfl,⟨nd,rfl⟩⟩)|(go_at_call 43;(with_reducible refine (hinterlandref15_out.calls a0_4 4 false _ A16.out).mono ?_);rintro e w' ⟨rfl,⟨nd,rfl⟩⟩)|(go_at_call 43;(with_reducible refine (hinterlandref15_out.calls a0_5 1000000 true _ A19.out).mono ?_);rintro e w' ⟨rfl,⟨nd,rfl⟩⟩))
        go_meet
        case rel => exact ⟨_,(true),(by first|rfl|(simp;done)|(simp [*];done)),H',⟨by first|omega|exact Nat.le_refl _⟩,⟨blk_up BK140.out⟩,⟨hb_⟩⟩
       ·replace c20:=Bool.eq_false_iff.mpr c20
        subst c20
        have H1 : ((hinterlandref15_out.f a0_7 1000000).bind fun t147 => (if t147 = true then (hinterlandref15_bad.j0 k true a0_0 a0_1 a0_2 a0_3 a0_4 a0_5 a0_6 a0_7 a0_8) else ((hinterlandref15_out.f a0_8 1000000).bind fun t148 => (hinterlandref15_bad.j0 k t148 a0_0 a0_1 a0_2 a0_3 a0_4 a0_5 a0_6 a0_7 a0_8)))) = some r:=by rw [if_neg (show ¬ (false = true) by decide)] at H;exact H
        clear H
        have H:=H1
        clear H1
        replace H:=Option.bind_eq_some_iff.mp H
        obtain ⟨t147,A220,H⟩:=H
        replace H : (if t147 = true then (hinterlandref15_bad.j0 k true a0_0 a0_1 a0_2 a0_3 a0_4 a0_5 a0_6 a0_7 a0_8) else ((hinterlandref15_out.f a0_8 1000000).bind fun t148 => (hinterlandref15_bad.j0 k t148 a0_0 a0_1 a0_2 a0_3 a0_4 a0_5 a0_6 a0_7 a0_8))) = some r:=H
        have A22:=Aside0.mk A220
        clear A220
        by_cases c23 : t147 = true
        ·subst c23
         have H1 : (hinterlandref15_bad.j0 k true a0_0 a0_1 a0_2 a0_3 a0_4 a0_5 a0_6 a0_7 a0_8) = some r:=by rw [if_pos rfl] at H;exact H
         clear H
         have H:=H1
         clear H1
         have H':=Aside0.mk H
         clear H
         obtain ⟨hcz24_0,hcz24_1,hcz24_2,hcz24_3,hcz24_4,hcz24_5,hcz24_6,hcz24_7,hcz24_8,hfz24_0,hfz24_1,hfz24_2,hfz24_3,hfz24_4,hfz24_5,hfz24_6,hfz24_7,hfz24_8⟩:=cells9 BK140.out
         go_wp2_with (first|((with_reducible refine gate_callee (f:=43) rfl ?_);refine goesL_ (some 5) rfl rfl Try.func43 (by kernel_rfl) rfl #[.int .i64 a0_0,.int .i64 2] rfl (by (try simp only [List.map_toArray,List.map_cons,List.map_nil]);first|done|rfl|(simp only [List.length_drop,List.length_take];rfl)) ?_;(with_reducible refine (hinterlandref15_out.calls a0_0 2 false _ A4.out).mono ?_);rintro e w' ⟨rfl,⟨nd,rfl⟩⟩;refine ⟨_,rfl,?_⟩)|(go_at_call 43;(with_reducible refine (hinterlandref15_out.calls a0_1 1000000 false _ A7.out).mono ?_);rintro e w' ⟨rfl,⟨nd,rfl⟩⟩)|(go_at_call 43;(with_reducible refine (hinterlandref15_out.calls a0_2 2 false _ A10.out).mono ?_);rintro e w' ⟨rfl,⟨nd,rfl⟩⟩)|(go_at_call 43;(with_reducible refine (hinterlandref15_out.calls a0_3 2 false _ A13.out).mono ?_);rintro e w' ⟨rfl,⟨nd,rfl⟩⟩)|(go_at_call 43;(with_reducible refine (hinterlandref15_out.calls a0_4 4 false _ A16.out).mono ?_);rintro e w' ⟨rfl,⟨nd,rfl⟩⟩)|(go_at_call 43;(with_reducible refine (hinterlandref15_out.calls a0_5 1000000 false _ A19.out).mono ?_);rintro e w' ⟨rfl,⟨nd,rfl⟩⟩)|(go_at_call 43;(with_reducible refine (hinterlandref15_out.calls a0_7 1000000 true _ A22.out).mono ?_);rintro e w' ⟨rfl,⟨nd,rfl⟩⟩))
         go_meet
         case rel => exact ⟨_,(true),(by first|rfl|(simp;done)|(simp [*];done)),H',⟨by first|omega|exact Nat.le_refl _⟩,⟨blk_up BK140.out⟩,⟨hb_⟩⟩
        ·replace c23:=Bool.eq_false_iff.mpr c23
         subst c23
         have H1 : ((hinterlandref15_out.f a0_8 1000000).bind fun t148 => (hinterlandref15_bad.j0 k t148 a0_0 a0_1 a0_2 a0_3 a0_4 a0_5 a0_6 a0_7 a0_8)) = some r:=by rw [if_neg (show ¬ (false = true) by decide)] at H;exact H
         clear H
         have H:=H1
         clear H1
         replace H:=Option.bind_eq_some_iff.mp H
         obtain ⟨t148,A250,H⟩:=H
         replace H : (hinterlandref15_bad.j0 k t148 a0_0 a0_1 a0_2 a0_3 a0_4 a0_5 a0_6 a0_7 a0_8) = some r:=H
         have A25:=Aside0.mk A250
         clear A250
         have H':=Aside0.mk H
         clear H
         obtain ⟨hcz26_0,hcz26_1,hcz26_2,hcz26_3,hcz26_4,hcz26_5,hcz26_6,hcz26_7,hcz26_8,hfz26_0,hfz26_1,hfz26_2,hfz26_3,hfz26_4,hfz26_5,hfz26_6,hfz26_7,hfz26_8⟩:=cells9 BK140.out
         go_wp2_with (first|((with_reducible refine gate_callee (f:=43) rfl ?_);refine goesL_ (some 5) rfl rfl Try.func43 (by kernel_rfl) rfl #[.int .i64 a0_0,.int .i64 2] rfl (by (try simp only [List.map_toArray,List.map_cons,List.map_nil]);first|done|rfl|(simp only [List.length_drop,List.length_take];rfl)) ?_;(with_reducible refine (hinterlandref15_out.calls a0_0 2 false _ A4.out).mono ?_);rintro e w' ⟨rfl,⟨nd,rfl⟩⟩;refine ⟨_,rfl,?_⟩)|(go_at_call 43;(with_reducible refine (hinterlandref15_out.calls a0_1 1000000 false _ A7.out).mono ?_);rintro e w' ⟨rfl,⟨nd,rfl⟩⟩)|(go_at_call 43;(with_reducible refine (hinterlandref15_out.calls a0_2 2 false _ A10.out).mono ?_);rintro e w' ⟨rfl,⟨nd,rfl⟩⟩)|(go_at_call 43;(with_reducible refine (hinterlandref15_out.calls a0_3 2 false _ A13.out).mono ?_);rintro e w' ⟨rfl,⟨nd,rfl⟩⟩)|(go_at_call 43;(with_reducible refine (hinterlandref15_out.calls a0_4 4 false _ A16.out).mono ?_);rintro e w' ⟨rfl,⟨nd,rfl⟩⟩)|(go_at_call 43;(with_reducible refine (hinterlandref15_out.calls a0_5 1000000 false _ A19.out).mono ?_);rintro e w' ⟨rfl,⟨nd,rfl⟩⟩)|(go_at_call 43;(with_reducible refine (hinterlandref15_out.calls a0_7 1000000 false _ A22.out).mono ?_);rintro e w' ⟨rfl,⟨nd,rfl⟩⟩)|(go_at_call 43;(with_reducible refine (hinterlandref15_out.calls a0_8 1000000 t148 _ A25.out).mono ?_);rintro e w' ⟨rfl,⟨nd,rfl⟩⟩))
         go_meet
         case rel => exact ⟨_,(t148),(by first|rfl|(simp;done)|(simp [*];done)),H',⟨by first|omega|exact Nat.le_refl _⟩,⟨blk_up BK140.out⟩,⟨hb_⟩⟩
 case rest =>
  clear HC2
  obtain ⟨kq,x40_1,rfl,HA,HJ1,BK140,HB⟩:=hcut
  cases kq with
  | zero => exact absurd HA.out (by simp [hinterlandref15_bad.j0])
  | succ kj1 =>
   have H:=HA.out
   clear HA
   simp only [hinterlandref15_bad.j0] at H
   by_cases c27 : x40_1 = true
   ·subst c27
    have H1 : (some true) = some r:=by rw [if_pos rfl] at H;exact H
    clear H
    have H:=H1
    clear H1
    obtain rfl:=Option.some.inj H
    go_wp2
    go_ret
    exact ⟨by first|rfl|(simp [errW_none,errW_some] <;> rfl)|(simp [*,errW_none,errW_some] <;> rfl),hb_⟩
   ·replace c27:=Bool.eq_false_iff.mpr c27
    subst c27
    have H1 : (if a0_0 = 2 then (if a0_1 = 0 then (if a0_2 = 0 then (if a0_3 = 0 then (if a0_7 = 0 then (some (a0_8 != 0)) else (some true)) else (some true)) else (some true)) else (some true)) else (if a0_0 = 1 then (if a0_2 = 0 then (if a0_3 = 0 then (if a0_4 = 0 then (if a0_5 = 0 then (some (a0_6 != 0)) else (some true)) else (some true)) else (some true)) else (some true)) else (if a0_4 = 0 then (if a0_5 = 0 then (some (a0_6 != 0)) else (some true)) else (some true)))) = some r:=by rw [if_neg (show ¬ (false = true) by decide)] at H;exact H
    clear H
    have H:=H1
    clear H1
    by_cases c28 : a0_0 = 2
    ·rw [if_pos c28] at H
     have c28b0 : (a0_0 == 2) = true:=beq_iff_eq.mpr c28
     have c28b1 : (a0_0 != 2) = false:=bne_eq_false_iff_eq.mpr c28
     clear c28
     by_cases c29 : a0_1 = 0
     rotate_left
     ·rw [if_neg c29] at H
      have c29b0 : (a0_1 == 0) = false:=beq_eq_false_iff_ne.mpr c29
      have c29b1 : (a0_1 != 0) = true:=bne_iff_ne.mpr c29
      obtain rfl:=Option.some.inj H
      obtain ⟨hcz37_0,hcz37_1,hcz37_2,hcz37_3,hcz37_4,hcz37_5,hcz37_6,hcz37_7,hcz37_8,hfz37_0,hfz37_1,hfz37_2,hfz37_3,hfz37_4,hfz37_5,hfz37_6,hfz37_7,hfz37_8⟩:=cells9 BK140.out
      go_wp2
      go_ret
      exact ⟨by first|rfl|(simp [errW_none,errW_some] <;> rfl)|(simp [*,errW_none,errW_some] <;> rfl),hb_⟩
     rw [if_pos c29] at H
     have c29b0 : (a0_1 == 0) = true:=beq_iff_eq.mpr c29
     have c29b1 : (a0_1 != 0) = false:=bne_eq_false_iff_eq.mpr c29
     clear c29
     by_cases c30 : a0_2 = 0
     ·rw [if_pos c30] at H
      have c30b0 : (a0_2 == 0) = true:=beq_iff_eq.mpr c30
      have c30b1 : (a0_2 != 0) = false:=bne_eq_false_iff_eq.mpr c30
      clear c30
      by_cases c31 : a0_3 = 0
      ·rw [if_pos c31] at H
       have c31b0 : (a0_3 == 0) = true:=beq_iff_eq.mpr c31
       have c31b1 : (a0_3 != 0) = false:=bne_eq_false_iff_eq.mpr c31
       clear c31
       by_cases c32 : a0_7 = 0
       ·rw [if_pos c32] at H
        have c32b0 : (a0_7 == 0) = true:=beq_iff_eq.mpr c32
        have c32b1 : (a0_7 != 0) = false:=bne_eq_false_iff_eq.mpr c32
        clear c32
        obtain rfl:=Option.some.inj H
        obtain ⟨hcz33_0,hcz33_1,hcz33_2,hcz33_3,hcz33_4,hcz33_5,hcz33_6,hcz33_7,hcz33_8,hfz33_0,hfz33_1,hfz33_2,hfz33_3,hfz33_4,hfz33_5,hfz33_6,hfz33_7,hfz33_8⟩:=cells9 BK140.out
        go_wp2
        go_ret
        exact ⟨by first|rfl|(simp [errW_none,errW_some] <;> rfl)|(simp [*,errW_none,errW_some] <;> rfl),hb_⟩
       ·rw [if_neg c32] at H
        have c32b0 : (a0_7 == 0) = false:=beq_eq_false_iff_ne.mpr c32
        have c32b1 : (a0_7 != 0) = true:=bne_iff_ne.mpr c32
        obtain rfl:=Option.some.inj H
        obtain ⟨hcz34_0,hcz34_1,hcz34_2,hcz34_3,hcz34_4,hcz34_5,hcz34_6,hcz34_7,hcz34_8,hfz34_0,hfz34_1,hfz34_2,hfz34_3,hfz34_4,hfz34_5,hfz34_6,hfz34_7,hfz34_8⟩:=cells9 BK140.out
        go_wp2
        go_ret
        exact ⟨by first|rfl|(simp [errW_none,errW_some] <;> rfl)|(simp [*,errW_none,errW_some] <;> rfl),hb_⟩
      ·rw [if_neg c31] at H
       have c31b0 : (a0_3 == 0) = false:=beq_eq_false_iff_ne.mpr c31
       have c31b1 : (a0_3 != 0) = true:=bne_iff_ne.mpr c31
       obtain rfl:=Option.some.inj H
       obtain ⟨hcz35_0,hcz35_1,hcz35_2,hcz35_3,hcz35_4,hcz35_5,hcz35_6,hcz35_7,hcz35_8,hfz35_0,hfz35_1,hfz35_2,hfz35_3,hfz35_4,hfz35_5,hfz35_6,hfz35_7,hfz35_8⟩:=cells9 BK140.out
       go_wp2
       go_ret
       exact ⟨by first|rfl|(simp [errW_none,errW_some] <;> rfl)|(simp [*,errW_none,errW_some] <;> rfl),hb_⟩
     ·rw [if_neg c30] at H
      have c30b0 : (a0_2 == 0) = false:=beq_eq_false_iff_ne.mpr c30
      have c30b1 : (a0_2 != 0) = true:=bne_iff_ne.mpr c30
      obtain rfl:=Option.some.inj H
      obtain ⟨hcz36_0,hcz36_1,hcz36_2,hcz36_3,hcz36_4,hcz36_5,hcz36_6,hcz36_7,hcz36_8,hfz36_0,hfz36_1,hfz36_2,hfz36_3,hfz36_4,hfz36_5,hfz36_6,hfz36_7,hfz36_8⟩:=cells9 BK140.out
      go_wp2
      go_ret
      exact ⟨by first|rfl|(simp [errW_none,errW_some] <;> rfl)|(simp [*,errW_none,errW_some] <;> rfl),hb_⟩
    rw [if_neg c28] at H
    have c28b0 : (a0_0 == 2) = false:=beq_eq_false_iff_ne.mpr c28
    have c28b1 : (a0_0 != 2) = true:=bne_iff_ne.mpr c28
    by_cases c38 : a0_0 = 1
    rotate_left
    ·rw [if_neg c38] at H
     have c38b0 : (a0_0 == 1) = false:=beq_eq_false_iff_ne.mpr c38
     have c38b1 : (a0_0 != 1) = true:=bne_iff_ne.mpr c38
     by_cases c48 : a0_4 = 0
     ·rw [if_pos c48] at H
      have c48b0 : (a0_4 == 0) = true:=beq_iff_eq.mpr c48
      have c48b1 : (a0_4 != 0) = false:=bne_eq_false_iff_eq.mpr c48
      clear c48
      by_cases c49 : a0_5 = 0
      ·rw [if_pos c49] at H
       have c49b0 : (a0_5 == 0) = true:=beq_iff_eq.mpr c49
       have c49b1 : (a0_5 != 0) = false:=bne_eq_false_iff_eq.mpr c49
       clear c49
       obtain rfl:=Option.some.inj H
       obtain ⟨hcz50_0,hcz50_1,hcz50_2,hcz50_3,hcz50_4,hcz50_5,hcz50_6,hcz50_7,hcz50_8,hfz50_0,hfz50_1,hfz50_2,hfz50_3,hfz50_4,hfz50_5,hfz50_6,hfz50_7,hfz50_8⟩:=cells9 BK140.out
       go_wp2
       go_ret
       exact ⟨by first|rfl|(simp [errW_none,errW_some] <;> rfl)|(simp [*,errW_none,errW_some] <;> rfl),hb_⟩
      ·rw [if_neg c49] at H
       have c49b0 : (a0_5 == 0) = false:=beq_eq_false_iff_ne.mpr c49
       have c49b1 : (a0_5 != 0) = true:=bne_iff_ne.mpr c49
       obtain rfl:=Option.some.inj H
       obtain ⟨hcz51_0,hcz51_1,hcz51_2,hcz51_3,hcz51_4,hcz51_5,hcz51_6,hcz51_7,hcz51_8,hfz51_0,hfz51_1,hfz51_2,hfz51_3,hfz51_4,hfz51_5,hfz51_6,hfz51_7,hfz51_8⟩:=cells9 BK140.out
       go_wp2
       go_ret
       exact ⟨by first|rfl|(simp [errW_none,errW_some] <;> rfl)|(simp [*,errW_none,errW_some] <;> rfl),hb_⟩
     ·rw [if_neg c48] at H
      have c48b0 : (a0_4 == 0) = false:=beq_eq_false_iff_ne.mpr c48
      have c48b1 : (a0_4 != 0) = true:=bne_iff_ne.mpr c48
      obtain rfl:=Option.some.inj H
      obtain ⟨hcz52_0,hcz52_1,hcz52_2,hcz52_3,hcz52_4,hcz52_5,hcz52_6,hcz52_7,hcz52_8,hfz52_0,hfz52_1,hfz52_2,hfz52_3,hfz52_4,hfz52_5,hfz52_6,hfz52_7,hfz52_8⟩:=cells9 BK140.out
      go_wp2
      go_ret
      exact ⟨by first|rfl|(simp [errW_none,errW_some] <;> rfl)|(simp [*,errW_none,errW_some] <;> rfl),hb_⟩
    rw [if_pos c38] at H
    have c38b0 : (a0_0 == 1) = true:=beq_iff_eq.mpr c38
    have c38b1 : (a0_0 != 1) = false:=bne_eq_false_iff_eq.mpr c38
    clear c38
    by_cases c39 : a0_2 = 0
    rotate_left
    ·rw [if_neg c39] at H
     have c39b0 : (a0_2 == 0) = false:=beq_eq_false_iff_ne.mpr c39
     have c39b1 : (a0_2 != 0) = true:=bne_iff_ne.mpr c39
     obtain rfl:=Option.some.inj H
     obtain ⟨hcz47_0,hcz47_1,hcz47_2,hcz47_3,hcz47_4,hcz47_5,hcz47_6,hcz47_7,hcz47_8,hfz47_0,hfz47_1,hfz47_2,hfz47_3,hfz47_4,hfz47_5,hfz47_6,hfz47_7,hfz47_8⟩:=cells9 BK140.out
     go_wp2
     go_ret
     exact ⟨by first|rfl|(simp [errW_none,errW_some] <;> rfl)|(simp [*,errW_none,errW_some] <;> rfl),hb_⟩
    rw [if_pos c39] at H
    have c39b0 : (a0_2 == 0) = true:=beq_iff_eq.mpr c39
    have c39b1 : (a0_2 != 0) = false:=bne_eq_false_iff_eq.mpr c39
    clear c39
    by_cases c40 : a0_3 = 0
    ·rw [if_pos c40] at H
     have c40b0 : (a0_3 == 0) = true:=beq_iff_eq.mpr c40
     have c40b1 : (a0_3 != 0) = false:=bne_eq_false_iff_eq.mpr c40
     clear c40
     by_cases c41 : a0_4 = 0
     ·rw [if_pos c41] at H
      have c41b0 : (a0_4 == 0) = true:=beq_iff_eq.mpr c41
      have c41b1 : (a0_4 != 0) = false:=bne_eq_false_iff_eq.mpr c41
      clear c41
      by_cases c42 : a0_5 = 0
      ·rw [if_pos c42] at H
       have c42b0 : (a0_5 == 0) = true:=beq_iff_eq.mpr c42
       have c42b1 : (a0_5 != 0) = false:=bne_eq_false_iff_eq.mpr c42
       clear c42
       obtain rfl:=Option.some.inj H
       obtain ⟨hcz43_0,hcz43_1,hcz43_2,hcz43_3,hcz43_4,hcz43_5,hcz43_6,hcz43_7,hcz43_8,hfz43_0,hfz43_1,hfz43_2,hfz43_3,hfz43_4,hfz43_5,hfz43_6,hfz43_7,hfz43_8⟩:=cells9 BK140.out
       go_wp2
       go_ret
       exact ⟨by first|rfl|(simp [errW_none,errW_some] <;> rfl)|(simp [*,errW_none,errW_some] <;> rfl),hb_⟩
      ·rw [if_neg c42] at H
       have c42b0 : (a0_5 == 0) = false:=beq_eq_false_iff_ne.mpr c42
       have c42b1 : (a0_5 != 0) = true:=bne_iff_ne.mpr c42
       obtain rfl:=Option.some.inj H
       obtain ⟨hcz44_0,hcz44_1,hcz44_2,hcz44_3,hcz44_4,hcz44_5,hcz44_6,hcz44_7,hcz44_8,hfz44_0,hfz44_1,hfz44_2,hfz44_3,hfz44_4,hfz44_5,hfz44_6,hfz44_7,hfz44_8⟩:=cells9 BK140.out
       go_wp2
       go_ret
       exact ⟨by first|rfl|(simp [errW_none,errW_some] <;> rfl)|(simp [*,errW_none,errW_some] <;> rfl),hb_⟩
     ·rw [if_neg c41] at H
      have c41b0 : (a0_4 == 0) = false:=beq_eq_false_iff_ne.mpr c41
      have c41b1 : (a0_4 != 0) = true:=bne_iff_ne.mpr c41
      obtain rfl:=Option.some.inj H
      obtain ⟨hcz45_0,hcz45_1,hcz45_2,hcz45_3,hcz45_4,hcz45_5,hcz45_6,hcz45_7,hcz45_8,hfz45_0,hfz45_1,hfz45_2,hfz45_3,hfz45_4,hfz45_5,hfz45_6,hfz45_7,hfz45_8⟩:=cells9 BK140.out
      go_wp2
      go_ret
      exact ⟨by first|rfl|(simp [errW_none,errW_some] <;> rfl)|(simp [*,errW_none,errW_some] <;> rfl),hb_⟩
    ·rw [if_neg c40] at H
     have c40b0 : (a0_3 == 0) = false:=beq_eq_false_iff_ne.mpr c40
     have c40b1 : (a0_3 != 0) = true:=bne_iff_ne.mpr c40
     obtain rfl:=Option.some.inj H
     obtain ⟨hcz46_0,hcz46_1,hcz46_2,hcz46_3,hcz46_4,hcz46_5,hcz46_6,hcz46_7,hcz46_8,hfz46_0,hfz46_1,hfz46_2,hfz46_3,hfz46_4,hfz46_5,hfz46_6,hfz46_7,hfz46_8⟩:=cells9 BK140.out
     go_wp2
     go_ret
     exact ⟨by first|rfl|(simp [errW_none,errW_some] <;> rfl)|(simp [*,errW_none,errW_some] <;> rfl),hb_⟩

/-! ### hinterlandref15_Validate: function 17 -/
mutual
def hinterlandref15_Validate.l0 : Nat → List (S33) → Int → Option (Int)
 | 0,_,_ => none
 | k + 1,x0,x3 => if x3 < (x0.length : Int) then (if 0 ≤ x3 then ((hinterlandref15_bad.f k ((rd_T33 x0 x3).f0) ((rd_T33 x0 x3).f1) ((rd_T33 x0 x3).f2) ((rd_T33 x0 x3).f3) ((rd_T33 x0 x3).f4) ((rd_T33 x0 x3).f5) ((rd_T33 x0 x3).f6) ((rd_T33 x0 x3).f7) ((rd_T33 x0 x3).f8)).bind fun t150 => (if t150 = true then (some 1) else (hinterlandref15_Validate.l0 k x0 (wrap64 (x3 + 1))))) else (none)) else (hinterlandref15_Validate.l1 k x0 0)
def hinterlandref15_Validate.l1 : Nat → List (S33) → Int → Option (Int)
 | 0,_,_ => none
 | k + 1,x0,x4 => if x4 < (x0.length : Int) then (if 0 ≤ x4 then (if ((rd_T33 x0 x4).f6) < 0 then (some 2) else (if ((rd_T33 x0 x4).f6) ≥ (x0.length : Int) then (some 2) else (hinterlandref15_Validate.l1 k x0 (wrap64 (x4 + 1))))) else (none)) else (some 0)
end
def hinterlandref15_Validate.f (k : Nat) (l0 : List (S33)) : Option (Int) := if (l0.length : Int) > 40 then (some 4) else (hinterlandref15_Validate.l0 k l0 0)
theorem hinterlandref15_Validate.mono_l : ∀ k, (∀ y0 y1, LeO (hinterlandref15_Validate.l0 k y0 y1) (hinterlandref15_Validate.l0 (k + 1) y0 y1)) ∧ (∀ y0 y1, LeO (hinterlandref15_Validate.l1 k y0 y1) (hinterlandref15_Validate.l1 (k + 1) y0 y1))
 | 0 => ⟨fun _ _ r h => by simp [hinterlandref15_Validate.l0] at h,fun _ _ r h => by simp [hinterlandref15_Validate.l1] at h⟩
 | k + 1 => by
  obtain ⟨ih0,ih1⟩:=hinterlandref15_Validate.mono_l k
  refine ⟨?_,?_⟩
  ·intro y0 y1
   unfold hinterlandref15_Validate.l0
   repeat' first
   | (with_reducible exact ih0 _ _)
   | (with_reducible exact ih1 _ _)
   | (with_reducible exact hinterlandref15_bad.mono _ _ _ _ _ _ _ _ _ _)
   | (with_reducible exact LeO.refl _)
   | (with_reducible exact LeO.none _)
   | (with_reducible refine LeO.ite ?_ ?_)
   | (with_reducible refine LeO.bind ?_ (fun _ => ?_))
   | exact ih0 _ _
   | exact ih1 _ _
   | exact hinterlandref15_bad.mono _ _ _ _ _ _ _ _ _ _
   | exact LeO.none _
   | refine LeO.ite ?_ ?_
   | refine LeO.bind ?_ (fun _ => ?_)
  ·intro y0 y1
   unfold hinterlandref15_Validate.l1
   repeat' first
   | (with_reducible exact ih0 _ _)
   | (with_reducible exact ih1 _ _)
   | (with_reducible exact hinterlandref15_bad.mono _ _ _ _ _ _ _ _ _ _)
   | (with_reducible exact LeO.refl _)
   | (with_reducible exact LeO.none _)
   | (with_reducible refine LeO.ite ?_ ?_)
   | (with_reducible refine LeO.bind ?_ (fun _ => ?_))
   | exact ih0 _ _
   | exact ih1 _ _
   | exact hinterlandref15_bad.mono _ _ _ _ _ _ _ _ _ _
   | exact LeO.none _
   | refine LeO.ite ?_ ?_
   | refine LeO.bind ?_ (fun _ => ?_)
theorem hinterlandref15_Validate.mono : ∀ a0 k, LeO (hinterlandref15_Validate.f k a0) (hinterlandref15_Validate.f (k + 1) a0) := by
 intro a0 k
 obtain ⟨ih0,ih1⟩:=hinterlandref15_Validate.mono_l k
 unfold hinterlandref15_Validate.f
 repeat' first
   | (with_reducible exact ih0 _ _)
   | (with_reducible exact ih1 _ _)
   | (with_reducible exact hinterlandref15_bad.mono _ _ _ _ _ _ _ _ _ _)
   | (with_reducible exact LeO.refl _)
   | (with_reducible exact LeO.none _)
   | (with_reducible refine LeO.ite ?_ ?_)
   | (with_reducible refine LeO.bind ?_ (fun _ => ?_))
   | exact ih0 _ _
   | exact ih1 _ _
   | exact hinterlandref15_bad.mono _ _ _ _ _ _ _ _ _ _
   | exact LeO.none _
   | refine LeO.ite ?_ ?_
   | refine LeO.bind ?_ (fun _ => ?_)
set_option maxHeartbeats 8000000 in
set_option maxRecDepth 100000 in
theorem hinterlandref15_Validate.calls (k : Nat) (A0 : Option Addr) (c0 : Nat) (l0 : List (S33)) (r : Int) (w : World) (hr0 : Kd.C k33 w A0 l0.length l0) (hc0 : l0.length ≤ c0) (h : hinterlandref15_Validate.f k l0 = some r) :
  Calls Try.prog 17 #[.slice A0 l0.length c0] w fun e w' => e = .returned (.int .i64 r) ∧ Below w.heap.size w w':=by
 have hu33:=Try.underlying33
 have HR0:=Aside0.mk hr0
 have HC0:=Aside0.mk hc0
 clear hr0 hc0
 have HB:=Aside0.mk (Below.refl w.heap.size w)
 have H : (if (l0.length : Int) > 40 then (some 4) else (hinterlandref15_Validate.l0 k l0 0)) = some r:=h
 clear h
 by_cases c2 : (l0.length : Int) > 40
 ·rw [if_pos c2] at H
  have c2b0 : decide (40 < (l0.length : Int)) = true:=decide_eq_true c2
  have c2b1 : decide (40 < l0.length) = true:=decide_eq_true (by omega)
  clear c2
  obtain rfl:=Option.some.inj H
  go_enter Try.func17,Try.ntmps17
  go_wp2
  go_ret
  exact ⟨by first|rfl|(simp [errW_none,errW_some] <;> rfl)|(simp [*,errW_none,errW_some] <;> rfl),hb_⟩
 rw [if_neg c2] at H
 have c2b0 : decide (40 < (l0.length : Int)) = false:=decide_eq_false c2
 have c2b1 : decide (40 < l0.length) = false:=decide_eq_false (by omega)
 clear c2
 have H':=Aside0.mk H
 clear H
 go_enter Try.func17,Try.ntmps17
 go_wp2
 go_loopg [3] k (fun kq v3 w' => ∃ (x3_1 : Int),v3 = .int .i64 x3_1 ∧ Aside0 (hinterlandref15_Validate.l0 kq l0 x3_1 = some r) ∧ Aside0 (kq ≤ k) ∧ Aside0 (Below w.heap.size w w'))
 case atStart => exact ⟨(0),(by first|rfl|(simp;done)|(simp [*];done)),H',⟨Nat.le_refl _⟩,⟨hb_⟩⟩
 case round =>
  clear H'
  obtain ⟨x3_1,rfl,HA,HK1,HB⟩:=hrel
  cases gk with
  | zero => exact absurd HA.out (by simp [hinterlandref15_Validate.l0])
  | succ k1 =>
   have H:=HA.out
   clear HA
   simp only [hinterlandref15_Validate.l0] at H
   by_cases c3 : x3_1 < (l0.length : Int)
   ·rw [if_pos c3] at H
    have c3b0 : decide (x3_1 < (l0.length : Int)) = true:=decide_eq_true c3
    clear c3
    replace H:=ifp_ H;obtain ⟨c4,H⟩:=H
    have c4b0 : decide (0 ≤ x3_1) = true:=decide_eq_true c4
    clear c4
    replace H:=Option.bind_eq_some_iff.mp H
    obtain ⟨t150,A50,H⟩:=H
    replace H : (if t150 = true then (some 1) else (hinterlandref15_Validate.l0 k1 l0 (wrap64 (x3_1 + 1)))) = some r:=H
    have A5:=Aside0.mk A50
    clear A50
    by_cases c6 : t150 = true
    ·subst c6
     have H1 : (some 1) = some r:=by rw [if_pos rfl] at H;exact H
     clear H
     have H:=H1
     clear H1
     obtain rfl:=Option.some.inj H
     have p149 : 0 ≤ (x3_1 : Int):=of_decide_eq_true (by first|(with_reducible assumption)|assumption)
     have q149 : x3_1 < (l0.length : Int):=of_decide_eq_true (by first|(with_reducible assumption)|assumption)
     obtain ⟨ad149,e149,hx149_0,hx149_1,hx149_2,hx149_3,hx149_4,hx149_5,hx149_6,hx149_7,hx149_8⟩:=at_T33 HR0.out x3_1 p149 q149
     cases e149
     replace hx149_0:=(HB.out.cell (World.block_lt_of_cell? w _ hx149_0)).trans hx149_0
     replace hx149_1:=(HB.out.cell (World.block_lt_of_cell? w _ hx149_1)).trans hx149_1
     replace hx149_2:=(HB.out.cell (World.block_lt_of_cell? w _ hx149_2)).trans hx149_2
     replace hx149_3:=(HB.out.cell (World.block_lt_of_cell? w _ hx149_3)).trans hx149_3
     replace hx149_4:=(HB.out.cell (World.block_lt_of_cell? w _ hx149_4)).trans hx149_4
     replace hx149_5:=(HB.out.cell (World.block_lt_of_cell? w _ hx149_5)).trans hx149_5
     replace hx149_6:=(HB.out.cell (World.block_lt_of_cell? w _ hx149_6)).trans hx149_6
     replace hx149_7:=(HB.out.cell (World.block_lt_of_cell? w _ hx149_7)).trans hx149_7
     replace hx149_8:=(HB.out.cell (World.block_lt_of_cell? w _ hx149_8)).trans hx149_8
     replace p149:=eq_true p149
     replace q149:=eq_true q149
     go_wp2_with (first|((with_reducible refine gate_callee (f:=37) rfl ?_);refine goesL_ (some 18) rfl rfl Try.func37 (by kernel_rfl) rfl #[.agg #[.int .i64 ((rd_T33 l0 x3_1).f0),.int .i64 ((rd_T33 l0 x3_1).f1),.int .i64 ((rd_T33 l0 x3_1).f2),.int .i64 ((rd_T33 l0 x3_1).f3),.int .i64 ((rd_T33 l0 x3_1).f4),.int .i64 ((rd_T33 l0 x3_1).f5),.int .i64 ((rd_T33 l0 x3_1).f6),.int .i64 ((rd_T33 l0 x3_1).f7),.int .i64 ((rd_T33 l0 x3_1).f8)]] rfl (by (try simp only [List.map_toArray,List.map_cons,List.map_nil]);first|done|rfl|(simp only [List.length_drop,List.length_take];rfl)) ?_;(with_reducible refine (hinterlandref15_bad.calls k1 ((rd_T33 l0 x3_1).f0) ((rd_T33 l0 x3_1).f1) ((rd_T33 l0 x3_1).f2) ((rd_T33 l0 x3_1).f3) ((rd_T33 l0 x3_1).f4) ((rd_T33 l0 x3_1).f5) ((rd_T33 l0 x3_1).f6) ((rd_T33 l0 x3_1).f7) ((rd_T33 l0 x3_1).f8) true _ A5.out).mono ?_);rintro e w7 ⟨rfl,hb⟩;refine ⟨_,rfl,?_⟩;replace HB:=Aside0.mk (below_step (hb_) hb)))
     go_ret
     exact ⟨by first|rfl|(simp [errW_none,errW_some] <;> rfl)|(simp [*,errW_none,errW_some] <;> rfl),hb_⟩
    ·replace c6:=Bool.eq_false_iff.mpr c6
     subst c6
     have H1 : (hinterlandref15_Validate.l0 k1 l0 (wrap64 (x3_1 + 1))) = some r:=by rw [if_neg (show ¬ (false = true) by decide)] at H;exact H
     clear H
     have H:=H1
     clear H1
     have H':=Aside0.mk H
     clear H
     have p149 : 0 ≤ (x3_1 : Int):=of_decide_eq_true (by first|(with_reducible assumption)|assumption)
     have q149 : x3_1 < (l0.length : Int):=of_decide_eq_true (by first|(with_reducible assumption)|assumption)
     obtain ⟨ad149,e149,hx149_0,hx149_1,hx149_2,hx149_3,hx149_4,hx149_5,hx149_6,hx149_7,hx149_8⟩:=at_T33 HR0.out x3_1 p149 q149
     cases e149
     replace hx149_0:=(HB.out.cell (World.block_lt_of_cell? w _ hx149_0)).trans hx149_0
     replace hx149_1:=(HB.out.cell (World.block_lt_of_cell? w _ hx149_1)).trans hx149_1
     replace hx149_2:=(HB.out.cell (World.block_lt_of_cell? w _ hx149_2)).trans hx149_2
     replace hx149_3:=(HB.out.cell (World.block_lt_of_cell? w _ hx149_3)).trans hx149_3
     replace hx149_4:=(HB.out.cell (World.block_lt_of_cell? w _ hx149_4)).trans hx149_4
     replace hx149_5:=(HB.out.cell (World.block_lt_of_cell? w _ hx149_5)).trans hx149_5
     replace hx149_6:=(HB.out.cell (World.block_lt_of_cell? w _ hx149_6)).trans hx149_6
     replace hx149_7:=(HB.out.cell (World.block_lt_of_cell? w _ hx149_7)).trans hx149_7
     replace hx149_8:=(HB.out.cell (World.block_lt_of_cell? w _ hx149_8)).trans hx149_8
     replace p149:=eq_true p149
     replace q149:=eq_true q149
     go_wp2_with (first|((with_reducible refine gate_callee (f:=37) rfl ?_);refine goesL_ (some 18) rfl rfl Try.func37 (by kernel_rfl) rfl #[.agg #[.int .i64 ((rd_T33 l0 x3_1).f0),.int .i64 ((rd_T33 l0 x3_1).f1),.int .i64 ((rd_T33 l0 x3_1).f2),.int .i64 ((rd_T33 l0 x3_1).f3),.int .i64 ((rd_T33 l0 x3_1).f4),.int .i64 ((rd_T33 l0 x3_1).f5),.int .i64 ((rd_T33 l0 x3_1).f6),.int .i64 ((rd_T33 l0 x3_1).f7),.int .i64 ((rd_T33 l0 x3_1).f8)]] rfl (by (try simp only [List.map_toArray,List.map_cons,List.map_nil]);first|done|rfl|(simp only [List.length_drop,List.length_take];rfl)) ?_;(with_reducible refine (hinterlandref15_bad.calls k1 ((rd_T33 l0 x3_1).f0) ((rd_T33 l0 x3_1).f1) ((rd_T33 l0 x3_1).f2) ((rd_T33 l0 x3_1).f3) ((rd_T33 l0 x3_1).f4) ((rd_T33 l0 x3_1).f5) ((rd_T33 l0 x3_1).f6) ((rd_T33 l0 x3_1).f7) ((rd_T33 l0 x3_1).f8) false _ A5.out).mono ?_);rintro e w8 ⟨rfl,hb⟩;refine ⟨_,rfl,?_⟩;replace HB:=Aside0.mk (below_step (hb_) hb)))
     go_roundg k1
     case measure => have:=HK1.out;omega
     case rel => exact ⟨(wrap64 (x3_1 + 1)),(by first|rfl|(simp;done)|(simp [*];done)),H',⟨by have:=HK1.out;omega⟩,⟨hb_⟩⟩
   rw [if_neg c3] at H
   have c3b0 : decide (x3_1 < (l0.length : Int)) = false:=decide_eq_false c3
   clear c3
   have H':=Aside0.mk H
   clear H
   go_wp2
   go_loopg [4] k1 (fun kq v4 w' => ∃ (x4_2 : Int),v4 = .int .i64 x4_2 ∧ Aside0 (hinterlandref15_Validate.l1 kq l0 x4_2 = some r) ∧ Aside0 (kq ≤ k1) ∧ Aside0 (Below w.heap.size w w'))
   case atStart => exact ⟨(0),(by first|rfl|(simp;done)|(simp [*];done)),H',⟨Nat.le_refl _⟩,⟨hb_⟩⟩
   case round =>
    clear H'
    obtain ⟨x4_2,rfl,HA,HK2,HB⟩:=hrel
    cases gk with
    | zero => exact absurd HA.out (by simp [hinterlandref15_Validate.l1])
    | succ k2 =>
     have H:=HA.out
     clear HA
     simp only [hinterlandref15_Validate.l1] at H
     by_cases c9 : x4_2 < (l0.length : Int)
     rotate_left
     ·rw [if_neg c9] at H
      have c9b0 : decide (x4_2 < (l0.length : Int)) = false:=decide_eq_false c9
      clear c9
      obtain rfl:=Option.some.inj H
      go_wp2
      go_ret
      exact ⟨by first|rfl|(simp [errW_none,errW_some] <;> rfl)|(simp [*,errW_none,errW_some] <;> rfl),hb_⟩
     rw [if_pos c9] at H
     have c9b0 : decide (x4_2 < (l0.length : Int)) = true:=decide_eq_true c9
     clear c9
     replace H:=ifp_ H;obtain ⟨c10,H⟩:=H
     have c10b0 : decide (0 ≤ x4_2) = true:=decide_eq_true c10
     clear c10
     by_cases c11 : ((rd_T33 l0 x4_2).f6) < 0
     ·rw [if_pos c11] at H
      have c11b0 : decide (((rd_T33 l0 x4_2).f6) < 0) = true:=decide_eq_true c11
      clear c11
      obtain rfl:=Option.some.inj H
      have p151 : 0 ≤ (x4_2 : Int):=of_decide_eq_true (by first|(with_reducible assumption)|assumption)
      have q151 : x4_2 < (l0.length : Int):=of_decide_eq_true (by first|(with_reducible assumption)|assumption)
      obtain ⟨ad151,e151,hx151_0,hx151_1,hx151_2,hx151_3,hx151_4,hx151_5,hx151_6,hx151_7,hx151_8⟩:=at_T33 HR0.out x4_2 p151 q151
      cases e151
      replace hx151_0:=(HB.out.cell (World.block_lt_of_cell? w _ hx151_0)).trans hx151_0
      replace hx151_1:=(HB.out.cell (World.block_lt_of_cell? w _ hx151_1)).trans hx151_1
      replace hx151_2:=(HB.out.cell (World.block_lt_of_cell? w _ hx151_2)).trans hx151_2
      replace hx151_3:=(HB.out.cell (World.block_lt_of_cell? w _ hx151_3)).trans hx151_3
      replace hx151_4:=(HB.out.cell (World.block_lt_of_cell? w _ hx151_4)).trans hx151_4
      replace hx151_5:=(HB.out.cell (World.block_lt_of_cell? w _ hx151_5)).trans hx151_5
      replace hx151_6:=(HB.out.cell (World.block_lt_of_cell? w _ hx151_6)).trans hx151_6
      replace hx151_7:=(HB.out.cell (World.block_lt_of_cell? w _ hx151_7)).trans hx151_7
      replace hx151_8:=(HB.out.cell (World.block_lt_of_cell? w _ hx151_8)).trans hx151_8
      replace p151:=eq_true p151
      replace q151:=eq_true q151
      go_wp2
      go_ret
      exact ⟨by first|rfl|(simp [errW_none,errW_some] <;> rfl)|(simp [*,errW_none,errW_some] <;> rfl),hb_⟩
     rw [if_neg c11] at H
     have c11b0 : decide (((rd_T33 l0 x4_2).f6) < 0) = false:=decide_eq_false c11
     clear c11
     by_cases c12 : ((rd_T33 l0 x4_2).f6) ≥ (l0.length : Int)
     ·rw [if_pos c12] at H
      have c12b0 : decide ((l0.length : Int) ≤ ((rd_T33 l0 x4_2).f6)) = true:=decide_eq_true c12
      clear c12
      obtain rfl:=Option.some.inj H
      have p151 : 0 ≤ (x4_2 : Int):=of_decide_eq_true (by first|(with_reducible assumption)|assumption)
      have q151 : x4_2 < (l0.length : Int):=of_decide_eq_true (by first|(with_reducible assumption)|assumption)
      obtain ⟨ad151,e151,hx151_0,hx151_1,hx151_2,hx151_3,hx151_4,hx151_5,hx151_6,hx151_7,hx151_8⟩:=at_T33 HR0.out x4_2 p151 q151
      cases e151
      replace hx151_0:=(HB.out.cell (World.block_lt_of_cell? w _ hx151_0)).trans hx151_0
      replace hx151_1:=(HB.out.cell (World.block_lt_of_cell? w _ hx151_1)).trans hx151_1
      replace hx151_2:=(HB.out.cell (World.block_lt_of_cell? w _ hx151_2)).trans hx151_2
      replace hx151_3:=(HB.out.cell (World.block_lt_of_cell? w _ hx151_3)).trans hx151_3
      replace hx151_4:=(HB.out.cell (World.block_lt_of_cell? w _ hx151_4)).trans hx151_4
      replace hx151_5:=(HB.out.cell (World.block_lt_of_cell? w _ hx151_5)).trans hx151_5
      replace hx151_6:=(HB.out.cell (World.block_lt_of_cell? w _ hx151_6)).trans hx151_6
      replace hx151_7:=(HB.out.cell (World.block_lt_of_cell? w _ hx151_7)).trans hx151_7
      replace hx151_8:=(HB.out.cell (World.block_lt_of_cell? w _ hx151_8)).trans hx151_8
      replace p151:=eq_true p151
      replace q151:=eq_true q151
      have p152 : 0 ≤ (x4_2 : Int):=of_decide_eq_true (by first|(with_reducible assumption)|assumption)
      have q152 : x4_2 < (l0.length : Int):=of_decide_eq_true (by first|(with_reducible assumption)|assumption)
      obtain ⟨ad152,e152,hx152_0,hx152_1,hx152_2,hx152_3,hx152_4,hx152_5,hx152_6,hx152_7,hx152_8⟩:=at_T33 HR0.out x4_2 p152 q152
      obtain rfl : ad151 = ad152:=(by injection e152)
      replace hx152_0:=(HB.out.cell (World.block_lt_of_cell? w _ hx152_0)).trans hx152_0
      replace hx152_1:=(HB.out.cell (World.block_lt_of_cell? w _ hx152_1)).trans hx152_1
      replace hx152_2:=(HB.out.cell (World.block_lt_of_cell? w _ hx152_2)).trans hx152_2
      replace hx152_3:=(HB.out.cell (World.block_lt_of_cell? w _ hx152_3)).trans hx152_3
      replace hx152_4:=(HB.out.cell (World.block_lt_of_cell? w _ hx152_4)).trans hx152_4
      replace hx152_5:=(HB.out.cell (World.block_lt_of_cell? w _ hx152_5)).trans hx152_5
      replace hx152_6:=(HB.out.cell (World.block_lt_of_cell? w _ hx152_6)).trans hx152_6
      replace hx152_7:=(HB.out.cell (World.block_lt_of_cell? w _ hx152_7)).trans hx152_7
      replace hx152_8:=(HB.out.cell (World.block_lt_of_cell? w _ hx152_8)).trans hx152_8
      replace p152:=eq_true p152
      replace q152:=eq_true q152
      go_wp2
      go_ret
      exact ⟨by first|rfl|(simp [errW_none,errW_some] <;> rfl)|(simp [*,errW_none,errW_some] <;> rfl),hb_⟩
     rw [if_neg c12] at H
     have c12b0 : decide ((l0.length : Int) ≤ ((rd_T33 l0 x4_2).f6)) = false:=decide_eq_false c12
     clear c12
     have H':=Aside0.mk H
     clear H
     have p151 : 0 ≤ (x4_2 : Int):=of_decide_eq_true (by first|(with_reducible assumption)|assumption)
     have q151 : x4_2 < (l0.length : Int):=of_decide_eq_true (by first|(with_reducible assumption)|assumption)
     obtain ⟨ad151,e151,hx151_0,hx151_1,hx151_2,hx151_3,hx151_4,hx151_5,hx151_6,hx151_7,hx151_8⟩:=at_T33 HR0.out x4_2 p151 q151
     cases e151
     replace hx151_0:=(HB.out.cell (World.block_lt_of_cell? w _ hx151_0)).trans hx151_0
     replace hx151_1:=(HB.out.cell (World.block_lt_of_cell? w _ hx151_1)).trans hx151_1
     replace hx151_2:=(HB.out.cell (World.block_lt_of_cell? w _ hx151_2)).trans hx151_2
     replace hx151_3:=(HB.out.cell (World.block_lt_of_cell? w _ hx151_3)).trans hx151_3
     replace hx151_4:=(HB.out.cell (World.block_lt_of_cell? w _ hx151_4)).trans hx151_4
     replace hx151_5:=(HB.out.cell (World.block_lt_of_cell? w _ hx151_5)).trans hx151_5
     replace hx151_6:=(HB.out.cell (World.block_lt_of_cell? w _ hx151_6)).trans hx151_6
     replace hx151_7:=(HB.out.cell (World.block_lt_of_cell? w _ hx151_7)).trans hx151_7
     replace hx151_8:=(HB.out.cell (World.block_lt_of_cell? w _ hx151_8)).trans hx151_8
     replace p151:=eq_true p151
     replace q151:=eq_true q151
     have p152 : 0 ≤ (x4_2 : Int):=of_decide_eq_true (by first|(with_reducible assumption)|assumption)
     have q152 : x4_2 < (l0.length : Int):=of_decide_eq_true (by first|(with_reducible assumption)|assumption)
     obtain ⟨ad152,e152,hx152_0,hx152_1,hx152_2,hx152_3,hx152_4,hx152_5,hx152_6,hx152_7,hx152_8⟩:=at_T33 HR0.out x4_2 p152 q152
     obtain rfl : ad151 = ad152:=(by injection e152)
     replace hx152_0:=(HB.out.cell (World.block_lt_of_cell? w _ hx152_0)).trans hx152_0
     replace hx152_1:=(HB.out.cell (World.block_lt_of_cell? w _ hx152_1)).trans hx152_1
     replace hx152_2:=(HB.out.cell (World.block_lt_of_cell? w _ hx152_2)).trans hx152_2
     replace hx152_3:=(HB.out.cell (World.block_lt_of_cell? w _ hx152_3)).trans hx152_3
     replace hx152_4:=(HB.out.cell (World.block_lt_of_cell? w _ hx152_4)).trans hx152_4
     replace hx152_5:=(HB.out.cell (World.block_lt_of_cell? w _ hx152_5)).trans hx152_5
     replace hx152_6:=(HB.out.cell (World.block_lt_of_cell? w _ hx152_6)).trans hx152_6
     replace hx152_7:=(HB.out.cell (World.block_lt_of_cell? w _ hx152_7)).trans hx152_7
     replace hx152_8:=(HB.out.cell (World.block_lt_of_cell? w _ hx152_8)).trans hx152_8
     replace p152:=eq_true p152
     replace q152:=eq_true q152
     go_wp2
     go_roundg k2
     case measure => have:=HK1.out;have:=HK2.out;omega
     case rel => exact ⟨(wrap64 (x4_2 + 1)),(by first|rfl|(simp;done)|(simp [*];done)),H',⟨by have:=HK1.out;have:=HK2.out;omega⟩,⟨hb_⟩⟩

end Go.Proofs.Ythbjchicpebglaa.P

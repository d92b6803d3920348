/- Functions of this seat as plain Lean functions, with proofs that the Go code comes to just their answers, or what stands between them and a law's statement; no conditions. (Laid by a program of this session, out of the kit's print.) -/
import Derived.Test.YtiencnnkphipoaaPx0
import Derived.Test.YtiencnnkphipoaaPx8
import Derived.Test.YtiencnnkphipoaaPx10
import Derived.Test.YtiencnnkphipoaaPx11
import Derived.Test.YtiencnnkphipoaaPx15
namespace Go.Proofs.Ytiencnnkphipoaa.P
open Go.RowKit Go.Proofs.YtiencnnkphipoaaW.PrintWords Go.Proofs.YtiencnnkphipoaaW.PrintLast Go.Proofs.YtiencnnkphipoaaW.PrintMore
attribute [local go_sem] max2_int min2_int max_two min_two max_three min_three max_four min_four   -- for this text's walks alone
set_option linter.unusedVariables false
set_option linter.unusedSimpArgs false

/-! ### hinterlandref06_Dig: function 29 -/
def hinterlandref06_Dig.j0 : Nat → Int → Int → Bool → Int → Int → List Int → List Int → List Int → Option (List Int × List Int × Int × Int)
 | 0,_,_,_,_,_,_,_,_ => none
 | k + 1,x2,x3,x31,x410000,x410001,x410002,x411000,x411001 => if x31 = true then (some (([] : List Int),([] : List Int),0,1)) else (if 0 ≤ x2 then (if x2 < (x411000.length : Int) then (if (rd x411000 x2) = 0 then ((hinterlandref06_lies.f k x410000 x410001 x410002 x2 x3).bind fun t415 => (if t415 = 0 then (if x3 = 2 then (if x3 = 3 then ((hinterlandref06_with.f x411000 x411001 x2 x3).bind fun bt416 => (some (bt416.1,bt416.2,(500 * 4) * 2,0))) else ((hinterlandref06_with.f x411000 x411001 x2 x3).bind fun bt422 => (some (bt422.1,bt422.2,500 * 4,0)))) else (if x3 = 3 then ((hinterlandref06_with.f x411000 x411001 x2 x3).bind fun bt428 => (some (bt428.1,bt428.2,500 * 2,0))) else ((hinterlandref06_with.f x411000 x411001 x2 x3).bind fun bt434 => (some (bt434.1,bt434.2,500,0))))) else (some (([] : List Int),([] : List Int),0,t415)))) else (some (([] : List Int),([] : List Int),0,7))) else (none)) else (none))
def hinterlandref06_Dig.f (k : Nat) (a0_0 : Int) (a0_1 : Int) (l0_2 : List Int) (l1_0 : List Int) (l1_1 : List Int) (a2 : Int) (a3 : Int) : Option (List Int × List Int × Int × Int) := (hinterlandref06_Validate.f k a0_0 a0_1 l0_2 l1_0 l1_1).bind fun t412 => (if t412 = 0 then ((hinterlandref02_Is.f a0_0 a0_1 l0_2 a2).bind fun t413 => (if t413 = true then (if a3 < 1 then (hinterlandref06_Dig.j0 k a2 a3 true a0_0 a0_1 l0_2 l1_0 l1_1) else (hinterlandref06_Dig.j0 k a2 a3 (decide (a3 > 3)) a0_0 a0_1 l0_2 l1_0 l1_1)) else (some (([] : List Int), ([] : List Int), 0, 2)))) else (some (([] : List Int), ([] : List Int), 0, t412)))
theorem hinterlandref06_Dig.mono_l : ∀ k, (∀ y0 y1 y2 y3 y4 y5 y6 y7, LeO (hinterlandref06_Dig.j0 k y0 y1 y2 y3 y4 y5 y6 y7) (hinterlandref06_Dig.j0 (k + 1) y0 y1 y2 y3 y4 y5 y6 y7))
 | 0 => fun _ _ _ _ _ _ _ _ r h => by simp [hinterlandref06_Dig.j0] at h
 | k + 1 => by
  have ih0:=hinterlandref06_Dig.mono_l k
  ·intro y0 y1 y2 y3 y4 y5 y6 y7
   unfold hinterlandref06_Dig.j0
   repeat' first
   | (with_reducible exact ih0 _ _ _ _ _ _ _ _)
   | (with_reducible exact hinterlandref06_Validate.mono _ _ _ _ _ _)
   | (with_reducible exact hinterlandref06_lies.mono _ _ _ _ _ _)
   | (with_reducible exact LeO.refl _)
   | (with_reducible exact LeO.none _)
   | (with_reducible refine LeO.ite ?_ ?_)
   | (with_reducible refine LeO.bind ?_ (fun _ => ?_))
   | exact ih0 _ _ _ _ _ _ _ _
   | exact hinterlandref06_Validate.mono _ _ _ _ _ _
   | exact hinterlandref06_lies.mono _ _ _ _ _ _
   | exact LeO.none _
   | refine LeO.ite ?_ ?_
   | refine LeO.bind ?_ (fun _ => ?_)
theorem hinterlandref06_Dig.mono : ∀ a0 a1 a2 a3 a4 a5 a6 k, LeO (hinterlandref06_Dig.f k a0 a1 a2 a3 a4 a5 a6) (hinterlandref06_Dig.f (k + 1) a0 a1 a2 a3 a4 a5 a6) := by
 intro a0 a1 a2 a3 a4 a5 a6 k
 have ih0:=hinterlandref06_Dig.mono_l k
 unfold hinterlandref06_Dig.f
 repeat' first
   | (with_reducible exact ih0 _ _ _ _ _ _ _ _)
   | (with_reducible exact hinterlandref06_Validate.mono _ _ _ _ _ _)
   | (with_reducible exact hinterlandref06_lies.mono _ _ _ _ _ _)
   | (with_reducible exact LeO.refl _)
   | (with_reducible exact LeO.none _)
   | (with_reducible refine LeO.ite ?_ ?_)
   | (with_reducible refine LeO.bind ?_ (fun _ => ?_))
   | exact ih0 _ _ _ _ _ _ _ _
   | exact hinterlandref06_Validate.mono _ _ _ _ _ _
   | exact hinterlandref06_lies.mono _ _ _ _ _ _
   | exact LeO.none _
   | refine LeO.ite ?_ ?_
   | refine LeO.bind ?_ (fun _ => ?_)
set_option maxHeartbeats 8000000 in
set_option maxRecDepth 100000 in
theorem hinterlandref06_Dig.calls (k : Nat) (a0_0 : Int) (a0_1 : Int) (A0_2 : Option Addr) (c0_2 : Nat) (l0_2 : List Int) (A1_0 : Option Addr) (c1_0 : Nat) (l1_0 : List Int) (A1_1 : Option Addr) (c1_1 : Nat) (l1_1 : List Int) (a2 : Int) (a3 : Int) (r1 : List Int) (r2 : List Int) (r3 : Int) (r4 : Int) (w : World) (hr0_2 : Kd.C (Kd.int .i64) w A0_2 l0_2.length l0_2) (hc0_2 : l0_2.length ≤ c0_2) (hr1_0 : Kd.C (Kd.int .i64) w A1_0 l1_0.length l1_0) (hc1_0 : l1_0.length ≤ c1_0) (hr1_1 : Kd.C (Kd.int .i64) w A1_1 l1_1.length l1_1) (hc1_1 : l1_1.length ≤ c1_1) (h : hinterlandref06_Dig.f k a0_0 a0_1 l0_2 l1_0 l1_1 a2 a3 = some (r1, r2, r3, r4)) :
  Calls Try.prog 29 #[.agg #[.int .i64 a0_0,.int .i64 a0_1,.slice A0_2 l0_2.length c0_2],.agg #[.slice A1_0 l1_0.length c1_0,.slice A1_1 l1_1.length c1_1],.int .i64 a2,.int .i64 a3] w fun e w' => ∃ v0_ v1_ : Value,e = .returned (.tuple #[.agg #[v0_,v1_],.int .i64 r3,.int .i64 r4]) ∧ Kd.R (Kd.int .i64) 3 w' w.heap.size (fun k_ => some k_ ≠ (v1_ : Value).ownBlock) v0_ r1 ∧ Kd.R (Kd.int .i64) 3 w' w.heap.size (fun k_ => some k_ ≠ (v0_ : Value).ownBlock) v1_ r2 ∧ Below w.heap.size w w':=by
 have hu24:=Try.underlying24
 have hu26:=Try.underlying26
 have HR0_2:=Aside0.mk hr0_2
 have HC0_2:=Aside0.mk hc0_2
 clear hr0_2 hc0_2
 have HR1_0:=Aside0.mk hr1_0
 have HC1_0:=Aside0.mk hc1_0
 clear hr1_0 hc1_0
 have HR1_1:=Aside0.mk hr1_1
 have HC1_1:=Aside0.mk hc1_1
 clear hr1_1 hc1_1
 have HB:=Aside0.mk (Below.refl w.heap.size w)
 have H : ((hinterlandref06_Validate.f k a0_0 a0_1 l0_2 l1_0 l1_1).bind fun t412 => (if t412 = 0 then ((hinterlandref02_Is.f a0_0 a0_1 l0_2 a2).bind fun t413 => (if t413 = true then (if a3 < 1 then (hinterlandref06_Dig.j0 k a2 a3 true a0_0 a0_1 l0_2 l1_0 l1_1) else (hinterlandref06_Dig.j0 k a2 a3 (decide (a3 > 3)) a0_0 a0_1 l0_2 l1_0 l1_1)) else (some (([] : List Int),([] : List Int),0,2)))) else (some (([] : List Int),([] : List Int),0,t412)))) = some (r1,r2,r3,r4):=h
 clear h
 replace H:=Option.bind_eq_some_iff.mp H
 obtain ⟨t412,A50,H⟩:=H
 replace H : (if t412 = 0 then ((hinterlandref02_Is.f a0_0 a0_1 l0_2 a2).bind fun t413 => (if t413 = true then (if a3 < 1 then (hinterlandref06_Dig.j0 k a2 a3 true a0_0 a0_1 l0_2 l1_0 l1_1) else (hinterlandref06_Dig.j0 k a2 a3 (decide (a3 > 3)) a0_0 a0_1 l0_2 l1_0 l1_1)) else (some (([] : List Int),([] : List Int),0,2)))) else (some (([] : List Int),([] : List Int),0,t412))) = some (r1,r2,r3,r4):=H
 have A5:=Aside0.mk A50
 clear A50
 by_cases c6 : t412 = 0
 ·rw [if_pos c6] at H
  have c6b0 : (t412 == 0) = true:=beq_iff_eq.mpr c6
  have c6b1 : (t412 != 0) = false:=bne_eq_false_iff_eq.mpr c6
  clear c6
  replace H:=Option.bind_eq_some_iff.mp H
  obtain ⟨t413,A70,H⟩:=H
  replace H : (if t413 = true then (if a3 < 1 then (hinterlandref06_Dig.j0 k a2 a3 true a0_0 a0_1 l0_2 l1_0 l1_1) else (hinterlandref06_Dig.j0 k a2 a3 (decide (a3 > 3)) a0_0 a0_1 l0_2 l1_0 l1_1)) else (some (([] : List Int),([] : List Int),0,2))) = some (r1,r2,r3,r4):=H
  have A7:=Aside0.mk A70
  clear A70
  by_cases c8 : t413 = true
  ·subst c8
   have H1 : (if a3 < 1 then (hinterlandref06_Dig.j0 k a2 a3 true a0_0 a0_1 l0_2 l1_0 l1_1) else (hinterlandref06_Dig.j0 k a2 a3 (decide (a3 > 3)) a0_0 a0_1 l0_2 l1_0 l1_1)) = some (r1,r2,r3,r4):=by rw [if_pos rfl] at H;exact H
   clear H
   have H:=H1
   clear H1
   have HC9:=Aside0.mk H
   clear H
   go_enter Try.func29,Try.ntmps29
   go_upto_region 6 with (first|((with_reducible refine gate_dst (N:=4) rfl ?_);refine box_ev (N:=4) (cs:=#[.int .i64 a0_0,.int .i64 a0_1,.slice A0_2 l0_2.length c0_2]) (t:=24) ?_;intro gb409 hg w10 hbox hb;have BK409:=Aside0.mk (hbox);have GW409 : Aside0 (w.heap.size ≤ gb409):=gsz hg;have GE409:=GW409;replace HB:=Aside0.mk (below_step (hb_) hb);clear hb hbox hg)|((with_reducible refine gate_dst (N:=5) rfl ?_);refine box_ev (N:=5) (cs:=#[.slice A1_0 l1_0.length c1_0,.slice A1_1 l1_1.length c1_1]) (t:=26) ?_;intro gb410 hg w11 hbox hb;have BK410:=Aside0.mk (hbox);have GW410 : Aside0 (w.heap.size ≤ gb410):=gsz hg;have GE410:=GW410;have NB409_410:=nbl BK409 hg;have NB410_409:=nbr BK409 hg;replace BK409:=bkb BK409 hb;replace HB:=Aside0.mk (below_step (hb_) hb);clear hb hbox hg)|((with_reducible refine gate_dst (N:=8) rfl ?_);refine box_ev (N:=8) (cs:=#[.slice none 0 0,.slice none 0 0]) (t:=26) ?_;intro gb411 hg w12 hbox hb;have BK411:=Aside0.mk (hbox);have GW411 : Aside0 (w.heap.size ≤ gb411):=gsz hg;have GE411:=GW411;have NB409_411:=nbl BK409 hg;have NB411_409:=nbr BK409 hg;have NB410_411:=nbl BK410 hg;have NB411_410:=nbr BK410 hg;replace BK409:=bkb BK409 hb;replace BK410:=bkb BK410 hb;replace HB:=Aside0.mk (below_step (hb_) hb);clear hb hbox hg;have hnb13:=NB409_410.out;have hnc13:=NB410_409.out;have hnb14:=NB409_411.out;have hnc14:=NB411_409.out;obtain ⟨hcz15_0,hcz15_1,hcz15_2,hfz15_0,hfz15_1,hfz15_2⟩:=cells3 BK409.out;have hnb16:=NB410_411.out;have hnc16:=NB411_410.out;obtain ⟨hcz17_0,hcz17_1,hfz17_0,hfz17_1⟩:=cells2 BK410.out)|((with_reducible refine gate_callee (f:=23) rfl ?_);refine goesL_ (some 16) rfl rfl Try.func23 (by kernel_rfl) rfl #[.agg #[.int .i64 a0_0,.int .i64 a0_1,.slice A0_2 l0_2.length c0_2],.agg #[.slice A1_0 l1_0.length c1_0,.slice A1_1 l1_1.length c1_1]] rfl (by (try simp only [List.map_toArray,List.map_cons,List.map_nil]);first|done|rfl|(simp only [List.length_drop,List.length_take];rfl)) ?_;(with_reducible refine (hinterlandref06_Validate.calls k a0_0 a0_1 _ _ l0_2 _ _ l1_0 _ _ l1_1 t412 _ ?side1 ?side2 ?side3 ?side4 ?side5 ?side6 A5.out).mono ?_);(case side1 => exact Kd.C_up (Kd.C_below HR0_2.out HB.out));(case side2 => exact HC0_2.out);(case side3 => exact Kd.C_up (Kd.C_below HR1_0.out HB.out));(case side4 => exact HC1_0.out);(case side5 => exact Kd.C_up (Kd.C_below HR1_1.out HB.out));(case side6 => exact HC1_1.out);rintro e w18 ⟨rfl,hb⟩;refine ⟨_,rfl,?_⟩;replace BK409:=bkb BK409 hb;replace BK410:=bkb BK410 hb;replace BK411:=bkb BK411 hb;replace HB:=Aside0.mk (below_step (hb_) hb);obtain ⟨hcz19_0,hcz19_1,hcz19_2,hfz19_0,hfz19_1,hfz19_2⟩:=cells3 BK409.out)|((with_reducible refine gate_callee (f:=33) rfl ?_);refine goesL_ (some 23) rfl rfl Try.func33 (by kernel_rfl) rfl #[.agg #[.int .i64 a0_0,.int .i64 a0_1,.slice A0_2 l0_2.length c0_2],.int .i64 a2] rfl (by (try simp only [List.map_toArray,List.map_cons,List.map_nil]);first|done|rfl|(simp only [List.length_drop,List.length_take];rfl)) ?_;(with_reducible refine (hinterlandref02_Is.calls a0_0 a0_1 _ _ l0_2 a2 true _ ?side1 ?side2 A7.out).mono ?_);(case side1 => exact Kd.C_up (Kd.C_below HR0_2.out HB.out));(case side2 => exact HC0_2.out);rintro e w20 ⟨rfl,hb⟩;refine ⟨_,rfl,?_⟩;replace BK409:=bkb BK409 hb;replace BK410:=bkb BK410 hb;replace BK411:=bkb BK411 hb;replace HB:=Aside0.mk (below_step (hb_) hb)))
   (try simp only [Act.put,List.setIfInBounds_toArray,List.set_cons_zero,List.set_cons_succ])
   go_cut [31] (fun v31 wc => ∃ (kq : Nat) (x31_8 : Bool),v31 = .bool x31_8 ∧ Aside0 (hinterlandref06_Dig.j0 kq a2 a3 x31_8 a0_0 a0_1 l0_2 l1_0 l1_1 = some (r1,r2,r3,r4)) ∧ Aside0 (kq ≤ k) ∧ Aside0 (wc.heap[gb409]? = some (.cells #[.int .i64 a0_0,.int .i64 a0_1,(.slice A0_2 l0_2.length c0_2)] 24 (0,0))) ∧ Aside0 (wc.heap[gb410]? = some (.cells #[(.slice A1_0 l1_0.length c1_0),(.slice A1_1 l1_1.length c1_1)] 26 (0,0))) ∧ Aside0 (wc.heap[gb411]? = some (.cells #[(.slice none 0 0),(.slice none 0 0)] 26 (0,0))) ∧ Aside0 (Below w.heap.size w wc))
   case first =>
    have H:=HC9.out
    clear HC9
    by_cases c21 : a3 < 1
    ·rw [if_pos c21] at H
     have c21b0 : decide (a3 < 1) = true:=decide_eq_true c21
     clear c21
     (first|rw [c21b0]|(simp only [i64_w,i32_w];rw [c21b0])|skip)
     have H':=Aside0.mk H
     clear H
     go_wp2
     go_meet
     case rel => exact ⟨_,(true),(by first|rfl|(simp;done)|(simp [*];done)),H',⟨by first|omega|exact Nat.le_refl _⟩,⟨blk_up BK409.out⟩,⟨blk_up BK410.out⟩,⟨blk_up BK411.out⟩,⟨hb_⟩⟩
    ·rw [if_neg c21] at H
     have c21b0 : decide (a3 < 1) = false:=decide_eq_false c21
     clear c21
     (first|rw [c21b0]|(simp only [i64_w,i32_w];rw [c21b0])|skip)
     have H':=Aside0.mk H
     clear H
     go_wp2
     go_meet
     case rel => exact ⟨_,(decide (a3 > 3)),(by first|rfl|(simp;done)|(simp [*];done)),H',⟨by first|omega|exact Nat.le_refl _⟩,⟨blk_up BK409.out⟩,⟨blk_up BK410.out⟩,⟨blk_up BK411.out⟩,⟨hb_⟩⟩
   case rest =>
    clear HC9
    obtain ⟨kq,x31_8,rfl,HA,HJ8,BK409,BK410,BK411,HB⟩:=hcut
    cases kq with
    | zero => exact absurd HA.out (by simp [hinterlandref06_Dig.j0])
    | succ kj8 =>
     have H:=HA.out
     clear HA
     simp only [hinterlandref06_Dig.j0] at H
     by_cases c22 : x31_8 = true
     ·subst c22
      have H1 : (some (([] : List Int),([] : List Int),0,1)) = some (r1,r2,r3,r4):=by rw [if_pos rfl] at H;exact H
      clear H
      have H:=H1
      clear H1
      simp only [Option.some.injEq,Prod.mk.injEq] at H
      obtain ⟨rfl,rfl,rfl,rfl⟩:=H
      have hnb23:=NB411_409.out
      have hnc23:=NB409_411.out
      have hnb24:=NB411_410.out
      have hnc24:=NB410_411.out
      obtain ⟨hcz25_0,hcz25_1,hfz25_0,hfz25_1⟩:=cells2 BK411.out
      go_wp2
      refine bodyPost_ret (results_ctt rfl _ _ gb411 26 #[.slice none 0 0,.slice none 0 0] (0,0) _ rfl (by (with_reducible repeat (first|refine blk_drewN ?_ _|refine blk_drew ?_|refine blk_alloc ?_ _));exact blk_puts2 (blk_up BK411.out)) Try.underlying26 rfl (by kernel_rfl)) rfl ?_
      exact ⟨_,_,by first|rfl|(simp [errW_none,errW_some] <;> rfl)|(simp [*,errW_none,errW_some] <;> rfl),by first|exact Kd.R_nil _ _ _ _ _|exact Kd.N_nil _ _ _ _ _|exact Kd.V_nil _ _ _ _ _|exact Kd.Q_nil _ _ _ _ _|exact Kd.S_nil _ _ _ _ _,by first|exact Kd.R_nil _ _ _ _ _|exact Kd.N_nil _ _ _ _ _|exact Kd.V_nil _ _ _ _ _|exact Kd.Q_nil _ _ _ _ _|exact Kd.S_nil _ _ _ _ _,hb_⟩
     ·replace c22:=Bool.eq_false_iff.mpr c22
      subst c22
      have H1 : (if 0 ≤ a2 then (if a2 < (l1_0.length : Int) then (if (rd l1_0 a2) = 0 then ((hinterlandref06_lies.f kj8 a0_0 a0_1 l0_2 a2 a3).bind fun t415 => (if t415 = 0 then (if a3 = 2 then (if a3 = 3 then ((hinterlandref06_with.f l1_0 l1_1 a2 a3).bind fun bt416 => (some (bt416.1,bt416.2,(500 * 4) * 2,0))) else ((hinterlandref06_with.f l1_0 l1_1 a2 a3).bind fun bt422 => (some (bt422.1,bt422.2,500 * 4,0)))) else (if a3 = 3 then ((hinterlandref06_with.f l1_0 l1_1 a2 a3).bind fun bt428 => (some (bt428.1,bt428.2,500 * 2,0))) else ((hinterlandref06_with.f l1_0 l1_1 a2 a3).bind fun bt434 => (some (bt434.1,bt434.2,500,0))))) else (some (([] : List Int),([] : List Int),0,t415)))) else (some (([] : List Int),([] : List Int),0,7))) else (none)) else (none)) = some (r1,r2,r3,r4):=by rw [if_neg (show ¬ (false = true) by decide)] at H;exact H
      clear H
      have H:=H1
      clear H1
      by_cases c26 : 0 ≤ a2
      ·rw [if_pos c26] at H
       have c26b0 : decide (0 ≤ a2) = true:=decide_eq_true c26
       clear c26
       by_cases c27 : a2 < (l1_0.length : Int)
       ·rw [if_pos c27] at H
        have c27b0 : decide (a2 < (l1_0.length : Int)) = true:=decide_eq_true c27
        clear c27
        by_cases c28 : (rd l1_0 a2) = 0
        ·rw [if_pos c28] at H
         have c28b0 : ((rd l1_0 a2) == 0) = true:=beq_iff_eq.mpr c28
         have c28b1 : ((rd l1_0 a2) != 0) = false:=bne_eq_false_iff_eq.mpr c28
         clear c28
         replace H:=Option.bind_eq_some_iff.mp H
         obtain ⟨t415,A290,H⟩:=H
         replace H : (if t415 = 0 then (if a3 = 2 then (if a3 = 3 then ((hinterlandref06_with.f l1_0 l1_1 a2 a3).bind fun bt416 => (some (bt416.1,bt416.2,(500 * 4) * 2,0))) else ((hinterlandref06_with.f l1_0 l1_1 a2 a3).bind fun bt422 => (some (bt422.1,bt422.2,500 * 4,0)))) else (if a3 = 3 then ((hinterlandref06_with.f l1_0 l1_1 a2 a3).bind fun bt428 => (some (bt428.1,bt428.2,500 * 2,0))) else ((hinterlandref06_with.f l1_0 l1_1 a2 a3).bind fun bt434 => (some (bt434.1,bt434.2,500,0))))) else (some (([] : List Int),([] : List Int),0,t415))) = some (r1,r2,r3,r4):=H
         have A29:=Aside0.mk A290
         clear A290
         by_cases c30 : t415 = 0
         ·rw [if_pos c30] at H
          have c30b0 : (t415 == 0) = true:=beq_iff_eq.mpr c30
          have c30b1 : (t415 != 0) = false:=bne_eq_false_iff_eq.mpr c30
          clear c30
          by_cases c31 : a3 = 2
          ·rw [if_pos c31] at H
           have c31b0 : (a3 == 2) = true:=beq_iff_eq.mpr c31
           have c31b1 : (a3 != 2) = false:=bne_eq_false_iff_eq.mpr c31
           clear c31
           by_cases c32 : a3 = 3
           ·rw [if_pos c32] at H
            have c32b0 : (a3 == 3) = true:=beq_iff_eq.mpr c32
            have c32b1 : (a3 != 3) = false:=bne_eq_false_iff_eq.mpr c32
            clear c32
            replace H:=Option.bind_eq_some_iff.mp H
            obtain ⟨⟨t416,t419⟩,A330,H⟩:=H
            replace H : (some (t416,t419,(500 * 4) * 2,0)) = some (r1,r2,r3,r4):=H
            have A33:=Aside0.mk A330
            clear A330
            simp only [Option.some.injEq,Prod.mk.injEq] at H
            obtain ⟨rfl,rfl,rfl,rfl⟩:=H
            have hnb34:=NB410_409.out
            have hnc34:=NB409_410.out
            have hnb35:=NB410_411.out
            have hnc35:=NB411_410.out
            obtain ⟨hcz36_0,hcz36_1,hfz36_0,hfz36_1⟩:=cells2 BK410.out
            have p414 : 0 ≤ (a2 : Int):=of_decide_eq_true (by first|(with_reducible assumption)|assumption)
            have q414 : a2 < (l1_0.length : Int):=of_decide_eq_true (by first|(with_reducible assumption)|assumption)
            obtain ⟨ad414,e414,hx414_0⟩:=Kd.at_int HR1_0.out a2 p414 q414
            cases e414
            replace hx414_0:=(HB.out.cell (World.block_lt_of_cell? w _ hx414_0)).trans hx414_0
            replace p414:=eq_true p414
            replace q414:=eq_true q414
            have hnb37:=NB409_411.out
            have hnc37:=NB411_409.out
            obtain ⟨hcz38_0,hcz38_1,hcz38_2,hfz38_0,hfz38_1,hfz38_2⟩:=cells3 BK409.out
            go_wp2_with (first|((with_reducible refine gate_callee (f:=49) rfl ?_);refine goesL_ (some 43) rfl rfl Try.func49 (by kernel_rfl) rfl #[.agg #[.int .i64 a0_0,.int .i64 a0_1,.slice A0_2 l0_2.length c0_2],.int .i64 a2,.int .i64 a3] rfl (by (try simp only [List.map_toArray,List.map_cons,List.map_nil]);first|done|rfl|(simp only [List.length_drop,List.length_take];rfl)) ?_;(with_reducible refine (hinterlandref06_lies.calls kj8 a0_0 a0_1 _ _ l0_2 a2 a3 t415 _ ?side1 ?side2 A29.out).mono ?_);(case side1 => exact Kd.C_up (Kd.C_below HR0_2.out HB.out));(case side2 => exact HC0_2.out);rintro e w39 ⟨rfl,hb⟩;refine ⟨_,rfl,?_⟩;replace BK409:=bkb BK409 hb;replace BK410:=bkb BK410 hb;replace BK411:=bkb BK411 hb;replace HB:=Aside0.mk (below_step (hb_) hb);obtain ⟨hcz40_0,hcz40_1,hfz40_0,hfz40_1⟩:=cells2 BK410.out)|((with_reducible refine gate_callee (f:=54) rfl ?_);refine goesL_ (some 59) rfl rfl Try.func54 (by kernel_rfl) rfl #[.agg #[.slice (some ad414) l1_0.length c1_0,.slice A1_1 l1_1.length c1_1],.int .i64 a2,.int .i64 a3] rfl (by (try simp only [List.map_toArray,List.map_cons,List.map_nil]);first|done|rfl|(simp only [List.length_drop,List.length_take];rfl)) ?_;(with_reducible refine (hinterlandref06_with.calls _ _ l1_0 _ _ l1_1 a2 a3 t416 t419 _ ?side1 ?side2 ?side3 ?side4 A33.out).mono ?_);(case side1 => exact Kd.C_up (Kd.C_below HR1_0.out HB.out));(case side2 => exact HC1_0.out);(case side3 => exact Kd.C_up (Kd.C_below HR1_1.out HB.out));(case side4 => exact HC1_1.out);rintro e w41 ⟨v417,v420,rfl,ho0,ho1,hb⟩;refine ⟨_,rfl,?_⟩;have HO418:=rlo ho0;have HO421:=rlo ho1;replace BK409:=bkb BK409 hb;replace BK410:=bkb BK410 hb;replace BK411:=bkb BK411 hb;replace HB:=Aside0.mk (below_step (hb_) hb);obtain ⟨Ao42,co42,eo42⟩:=Kd.R_slice HO418.out;subst eo42;obtain ⟨hcz43_0,hcz43_1,hfz43_0,hfz43_1⟩:=cells2 BK411.out;obtain ⟨Ao44,co44,eo44⟩:=Kd.R_slice HO421.out;subst eo44))
            refine bodyPost_ret (results_ctt rfl _ _ gb411 26 #[.slice Ao42 t416.length co42,.slice Ao44 t419.length co44] (0,0) _ rfl (by (with_reducible repeat (first|refine blk_drewN ?_ _|refine blk_drew ?_|refine blk_alloc ?_ _));exact blk_puts2 (blk_up BK411.out)) Try.underlying26 rfl (by kernel_rfl)) rfl ?_
            exact ⟨_,_,by first|rfl|(simp [errW_none,errW_some] <;> rfl)|(simp [*,errW_none,errW_some] <;> rfl),by (with_reducible repeat (first|apply Kd.R_alloc|apply Kd.R_drewN|apply Kd.R_drew));exact Kd.R_mono (Kd.R_fars gb411 (Kd.R_types HO418.out BK411.out (by decide)) (fun _ hk => hk.2)) (fun _ hk => hk.1),by (with_reducible repeat (first|apply Kd.R_alloc|apply Kd.R_drewN|apply Kd.R_drew));exact Kd.R_mono (Kd.R_fars gb411 (Kd.R_types HO421.out BK411.out (by decide)) (fun _ hk => hk.2)) (fun _ hk => hk.1),hb_⟩
           ·rw [if_neg c32] at H
            have c32b0 : (a3 == 3) = false:=beq_eq_false_iff_ne.mpr c32
            have c32b1 : (a3 != 3) = true:=bne_iff_ne.mpr c32
            replace H:=Option.bind_eq_some_iff.mp H
            obtain ⟨⟨t422,t425⟩,A450,H⟩:=H
            replace H : (some (t422,t425,500 * 4,0)) = some (r1,r2,r3,r4):=H
            have A45:=Aside0.mk A450
            clear A450
            simp only [Option.some.injEq,Prod.mk.injEq] at H
            obtain ⟨rfl,rfl,rfl,rfl⟩:=H
            have hnb46:=NB410_409.out
            have hnc46:=NB409_410.out
            have hnb47:=NB410_411.out
            have hnc47:=NB411_410.out
            obtain ⟨hcz48_0,hcz48_1,hfz48_0,hfz48_1⟩:=cells2 BK410.out
            have p414 : 0 ≤ (a2 : Int):=of_decide_eq_true (by first|(with_reducible assumption)|assumption)
            have q414 : a2 < (l1_0.length : Int):=of_decide_eq_true (by first|(with_reducible assumption)|assumption)
            obtain ⟨ad414,e414,hx414_0⟩:=Kd.at_int HR1_0.out a2 p414 q414
            cases e414
            replace hx414_0:=(HB.out.cell (World.block_lt_of_cell? w _ hx414_0)).trans hx414_0
            replace p414:=eq_true p414
            replace q414:=eq_true q414
            have hnb49:=NB409_411.out
            have hnc49:=NB411_409.out
            obtain ⟨hcz50_0,hcz50_1,hcz50_2,hfz50_0,hfz50_1,hfz50_2⟩:=cells3 BK409.out
            go_wp2_with (first|((with_reducible refine gate_callee (f:=49) rfl ?_);refine goesL_ (some 43) rfl rfl Try.func49 (by kernel_rfl) rfl #[.agg #[.int .i64 a0_0,.int .i64 a0_1,.slice A0_2 l0_2.length c0_2],.int .i64 a2,.int .i64 a3] rfl (by (try simp only [List.map_toArray,List.map_cons,List.map_nil]);first|done|rfl|(simp only [List.length_drop,List.length_take];rfl)) ?_;(with_reducible refine (hinterlandref06_lies.calls kj8 a0_0 a0_1 _ _ l0_2 a2 a3 t415 _ ?side1 ?side2 A29.out).mono ?_);(case side1 => exact Kd.C_up (Kd.C_below HR0_2.out HB.out));(case side2 => exact HC0_2.out);rintro e w51 ⟨rfl,hb⟩;refine ⟨_,rfl,?_⟩;replace BK409:=bkb BK409 hb;replace BK410:=bkb BK410 hb;replace BK411:=bkb BK411 hb;replace HB:=Aside0.mk (below_step (hb_) hb);obtain ⟨hcz52_0,hcz52_1,hfz52_0,hfz52_1⟩:=cells2 BK410.out)|((with_reducible refine gate_callee (f:=54) rfl ?_);refine goesL_ (some 59) rfl rfl Try.func54 (by kernel_rfl) rfl #[.agg #[.slice (some ad414) l1_0.length c1_0,.slice A1_1 l1_1.length c1_1],.int .i64 a2,.int .i64 a3] rfl (by (try simp only [List.map_toArray,List.map_cons,List.map_nil]);first|done|rfl|(simp only [List.length_drop,List.length_take];rfl)) ?_;(with_reducible refine (hinterlandref06_with.calls _ _ l1_0 _ _ l1_1 a2 a3 t422 t425 _ ?side1 ?side2 ?side3 ?side4 A45.out).mono ?_);(case side1 => exact Kd.C_up (Kd.C_below HR1_0.out HB.out));(case side2 => exact HC1_0.out);(case side3 => exact Kd.C_up (Kd.C_below HR1_1.out HB.out));(case side4 => exact HC1_1.out);rintro e w53 ⟨v423,v426,rfl,ho0,ho1,hb⟩;refine ⟨_,rfl,?_⟩;have HO424:=rlo ho0;have HO427:=rlo ho1;replace BK409:=bkb BK409 hb;replace BK410:=bkb BK410 hb;replace BK411:=bkb BK411 hb;replace HB:=Aside0.mk (below_step (hb_) hb);obtain ⟨Ao54,co54,eo54⟩:=Kd.R_slice HO424.out;subst eo54;obtain ⟨hcz55_0,hcz55_1,hfz55_0,hfz55_1⟩:=cells2 BK411.out;obtain ⟨Ao56,co56,eo56⟩:=Kd.R_slice HO427.out;subst eo56))
            refine bodyPost_ret (results_ctt rfl _ _ gb411 26 #[.slice Ao54 t422.length co54,.slice Ao56 t425.length co56] (0,0) _ rfl (by (with_reducible repeat (first|refine blk_drewN ?_ _|refine blk_drew ?_|refine blk_alloc ?_ _));exact blk_puts2 (blk_up BK411.out)) Try.underlying26 rfl (by kernel_rfl)) rfl ?_
            exact ⟨_,_,by first|rfl|(simp [errW_none,errW_some] <;> rfl)|(simp [*,errW_none,errW_some] <;> rfl),by (with_reducible repeat (first|apply Kd.R_alloc|apply Kd.R_drewN|apply Kd.R_drew));exact Kd.R_mono (Kd.R_fars gb411 (Kd.R_types HO424.out BK411.out (by decide)) (fun _ hk => hk.2)) (fun _ hk => hk.1),by (with_reducible repeat (first|apply Kd.R_alloc|apply Kd.R_drewN|apply Kd.R_drew));exact Kd.R_mono (Kd.R_fars gb411 (Kd.R_types HO427.out BK411.out (by decide)) (fun _ hk => hk.2)) (fun _ hk => hk.1),hb_⟩
          ·rw [if_neg c31] at H
           have c31b0 : (a3 == 2) = false:=beq_eq_false_iff_ne.mpr c31
           have c31b1 : (a3 != 2) = true:=bne_iff_ne.mpr c31
           by_cases c57 : a3 = 3
           ·rw [if_pos c57] at H
            have c57b0 : (a3 == 3) = true:=beq_iff_eq.mpr c57
            have c57b1 : (a3 != 3) = false:=bne_eq_false_iff_eq.mpr c57
            clear c57
            replace H:=Option.bind_eq_some_iff.mp H
            obtain ⟨⟨t428,t431⟩,A580,H⟩:=H
            replace H : (some (t428,t431,500 * 2,0)) = some (r1,r2,r3,r4):=H
            have A58:=Aside0.mk A580
            clear A580
            simp only [Option.some.injEq,Prod.mk.injEq] at H
            obtain ⟨rfl,rfl,rfl,rfl⟩:=H
            have hnb59:=NB410_409.out
            have hnc59:=NB409_410.out
            have hnb60:=NB410_411.out
            have hnc60:=NB411_410.out
            obtain ⟨hcz61_0,hcz61_1,hfz61_0,hfz61_1⟩:=cells2 BK410.out
            have p414 : 0 ≤ (a2 : Int):=of_decide_eq_true (by first|(with_reducible assumption)|assumption)
            have q414 : a2 < (l1_0.length : Int):=of_decide_eq_true (by first|(with_reducible assumption)|assumption)
            obtain ⟨ad414,e414,hx414_0⟩:=Kd.at_int HR1_0.out a2 p414 q414
            cases e414
            replace hx414_0:=(HB.out.cell (World.block_lt_of_cell? w _ hx414_0)).trans hx414_0
            replace p414:=eq_true p414
            replace q414:=eq_true q414
            have hnb62:=NB409_411.out
            have hnc62:=NB411_409.out
            obtain ⟨hcz63_0,hcz63_1,hcz63_2,hfz63_0,hfz63_1,hfz63_2⟩:=cells3 BK409.out
            go_wp2_with (first|((with_reducible refine gate_callee (f:=49) rfl ?_);refine goesL_ (some 43) rfl rfl Try.func49 (by kernel_rfl) rfl #[.agg #[.int .i64 a0_0,.int .i64 a0_1,.slice A0_2 l0_2.length c0_2],.int .i64 a2,.int .i64 a3] rfl (by (try simp only [List.map_toArray,List.map_cons,List.map_nil]);first|done|rfl|(simp only [List.length_drop,List.length_take];rfl)) ?_;(with_reducible refine (hinterlandref06_lies.calls kj8 a0_0 a0_1 _ _ l0_2 a2 a3 t415 _ ?side1 ?side2 A29.out).mono ?_);(case side1 => exact Kd.C_up (Kd.C_below HR0_2.out HB.out));(case side2 => exact HC0_2.out);rintro e w64 ⟨rfl,hb⟩;refine ⟨_,rfl,?_⟩;replace BK409:=bkb BK409 hb;replace BK410:=bkb BK410 hb;replace BK411:=bkb BK411 hb;replace HB:=Aside0.mk (below_step (hb_) hb);obtain ⟨hcz65_0,hcz65_1,hfz65_0,hfz65_1⟩:=cells2 BK410.out)|((with_reducible refine gate_callee (f:=54) rfl ?_);refine goesL_ (some 59) rfl rfl Try.func54 (by kernel_rfl) rfl #[.agg #[.slice (some ad414) l1_0.length c1_0,.slice A1_1 l1_1.length c1_1],.int .i64 a2,.int .i64 a3] rfl (by (try simp only [List.map_toArray,List.map_cons,List.map_nil]);first|done|rfl|(simp only [List.length_drop,List.length_take];rfl)) ?_;(with_reducible refine (hinterlandref06_with.calls _ _ l1_0 _ _ l1_1 a2 a3 t428 t431 _ ?side1 ?side2 ?side3 ?side4 A58.out).mono ?_);(case side1 => exact Kd.C_up (Kd.C_below HR1_0.out HB.out));(case side2 => exact HC1_0.out);(case side3 => exact Kd.C_up (Kd.C_below HR1_1.out HB.out));(case side4 => exact HC1_1.out);rintro e w66 ⟨v429,v432,rfl,ho0,ho1,hb⟩;refine ⟨_,rfl,?_⟩;have HO430:=rlo ho0;have HO433:=rlo ho1;replace BK409:=bkb BK409 hb;replace BK410:=bkb BK410 hb;replace BK411:=bkb BK411 hb;replace HB:=Aside0.mk (below_step (hb_) hb);obtain ⟨Ao67,co67,eo67⟩:=Kd.R_slice HO430.out;subst eo67;obtain ⟨hcz68_0,hcz68_1,hfz68_0,hfz68_1⟩:=cells2 BK411.out;obtain ⟨Ao69,co69,eo69⟩:=Kd.R_slice HO433.out;subst eo69))
            refine bodyPost_ret (results_ctt rfl _ _ gb411 26 #[.slice Ao67 t428.length co67,.slice Ao69 t431.length co69] (0,0) _ rfl (by (with_reducible repeat (first|refine blk_drewN ?_ _|refine blk_drew ?_|refine blk_alloc ?_ _));exact blk_puts2 (blk_up BK411.out)) Try.underlying26 rfl (by kernel_rfl)) rfl ?_
            exact ⟨_,_,by first|rfl|(simp [errW_none,errW_some] <;> rfl)|(simp [*,errW_none,errW_some] <;> rfl),by (with_reducible repeat (first|apply Kd.R_alloc|apply Kd.R_drewN|apply Kd.R_drew));exact Kd.R_mono (Kd.R_fars gb411 (Kd.R_types HO430.out BK411.out (by decide)) (fun _ hk => hk.2)) (fun _ hk => hk.1),by (with_reducible repeat (first|apply Kd.R_alloc|apply Kd.R_drewN|apply Kd.R_drew));exact Kd.R_mono (Kd.R_fars gb411 (Kd.R_types HO433.out BK411.out (by decide)) (fun _ hk => hk.2)) (fun _ hk => hk.1),hb_⟩
           ·rw [if_neg c57] at H
            have c57b0 : (a3 == 3) = false:=beq_eq_false_iff_ne.mpr c57
            have c57b1 : (a3 != 3) = true:=bne_iff_ne.mpr c57
            replace H:=Option.bind_eq_some_iff.mp H
            obtain ⟨⟨t434,t437⟩,A700,H⟩:=H
            replace H : (some (t434,t437,500,0)) = some (r1,r2,r3,r4):=H
            have A70:=Aside0.mk A700
            clear A700
            simp only [Option.some.injEq,Prod.mk.injEq] at H
            obtain ⟨rfl,rfl,rfl,rfl⟩:=H
            have hnb71:=NB410_409.out
            have hnc71:=NB409_410.out
            have hnb72:=NB410_411.out
            have hnc72:=NB411_410.out
            obtain ⟨hcz73_0,hcz73_1,hfz73_0,hfz73_1⟩:=cells2 BK410.out
            have p414 : 0 ≤ (a2 : Int):=of_decide_eq_true (by first|(with_reducible assumption)|assumption)
            have q414 : a2 < (l1_0.length : Int):=of_decide_eq_true (by first|(with_reducible assumption)|assumption)
            obtain ⟨ad414,e414,hx414_0⟩:=Kd.at_int HR1_0.out a2 p414 q414
            cases e414
            replace hx414_0:=(HB.out.cell (World.block_lt_of_cell? w _ hx414_0)).trans hx414_0
            replace p414:=eq_true p414
            replace q414:=eq_true q414
            have hnb74:=NB409_411.out
            have hnc74:=NB411_409.out
            obtain ⟨hcz75_0,hcz75_1,hcz75_2,hfz75_0,hfz75_1,hfz75_2⟩:=cells3 BK409.out
            go_wp2_with (first|((with_reducible refine gate_callee (f:=49) rfl ?_);refine goesL_ (some 43) rfl rfl Try.func49 (by kernel_rfl) rfl #[.agg #[.int .i64 a0_0,.int .i64 a0_1,.slice A0_2 l0_2.length c0_2],.int .i64 a2,.int .i64 a3] rfl (by (try simp only [List.map_toArray,List.map_cons,List.map_nil]);first|done|rfl|(simp only [List.length_drop,List.length_take];rfl)) ?_;(with_reducible refine (hinterlandref06_lies.calls kj8 a0_0 a0_1 _ _ l0_2 a2 a3 t415 _ ?side1 ?side2 A29.out).mono ?_);(case side1 => exact Kd.C_up (Kd.C_below HR0_2.out HB.out));(case side2 => exact HC0_2.out);rintro e w76 ⟨rfl,hb⟩;refine ⟨_,rfl,?_⟩;replace BK409:=bkb BK409 hb;replace BK410:=bkb BK410 hb;replace BK411:=bkb BK411 hb;replace HB:=Aside0.mk (below_step (hb_) hb);obtain ⟨hcz77_0,hcz77_1,hfz77_0,hfz77_1⟩:=cells2 BK410.out)|((with_reducible refine gate_callee (f:=54) rfl ?_);refine goesL_ (some 59) rfl rfl Try.func54 (by kernel_rfl) rfl #[.agg #[.slice (some ad414) l1_0.length c1_0,.slice A1_1 l1_1.length c1_1],.int .i64 a2,.int .i64 a3] rfl (by (try simp only [List.map_toArray,List.map_cons,List.map_nil]);first|done|rfl|(simp only [List.length_drop,List.length_take];rfl)) ?_;(with_reducible refine (hinterlandref06_with.calls _ _ l1_0 _ _ l1_1 a2 a3 t434 t437 _ ?side1 ?side2 ?side3 ?side4 A70.out).mono ?_);(case side1 => exact Kd.C_up (Kd.C_below HR1_0.out HB.out));(case side2 => exact HC1_0.out);(case side3 => exact Kd.C_up (Kd.C_below HR1_1.out HB.out));(case side4 => exact HC1_1.out);rintro e w78 ⟨v435,v438,rfl,ho0,ho1,hb⟩;refine ⟨_,rfl,?_⟩;have HO436:=rlo ho0;have HO439:=rlo ho1;replace BK409:=bkb BK409 hb;replace BK410:=bkb BK410 hb;replace BK411:=bkb BK411 hb;replace HB:=Aside0.mk (below_step (hb_) hb);obtain ⟨Ao79,co79,eo79⟩:=Kd.R_slice HO436.out;subst eo79;obtain ⟨hcz80_0,hcz80_1,hfz80_0,hfz80_1⟩:=cells2 BK411.out;obtain ⟨Ao81,co81,eo81⟩:=Kd.R_slice HO439.out;subst eo81))
            refine bodyPost_ret (results_ctt rfl _ _ gb411 26 #[.slice Ao79 t434.length co79,.slice Ao81 t437.length co81] (0,0) _ rfl (by (with_reducible repeat (first|refine blk_drewN ?_ _|refine blk_drew ?_|refine blk_alloc ?_ _));exact blk_puts2 (blk_up BK411.out)) Try.underlying26 rfl (by kernel_rfl)) rfl ?_
            exact ⟨_,_,by first|rfl|(simp [errW_none,errW_some] <;> rfl)|(simp [*,errW_none,errW_some] <;> rfl),by (with_reducible repeat (first|apply Kd.R_alloc|apply Kd.R_drewN|apply Kd.R_drew));exact Kd.R_mono (Kd.R_fars gb411 (Kd.R_types HO436.out BK411.out (by decide)) (fun _ hk => hk.2)) (fun _ hk => hk.1),by (with_reducible repeat (first|apply Kd.R_alloc|apply Kd.R_drewN|apply Kd.R_drew));exact Kd.R_mono (Kd.R_fars gb411 (Kd.R_types HO439.out BK411.out (by decide)) (fun _ hk => hk.2)) (fun _ hk => hk.1),hb_⟩
         ·rw [if_neg c30] at H
          have c30b0 : (t415 == 0) = false:=beq_eq_false_iff_ne.mpr c30
          have c30b1 : (t415 != 0) = true:=bne_iff_ne.mpr c30
          simp only [Option.some.injEq,Prod.mk.injEq] at H
          obtain ⟨rfl,rfl,rfl,rfl⟩:=H
          have hnb82:=NB410_409.out
          have hnc82:=NB409_410.out
          have hnb83:=NB410_411.out
          have hnc83:=NB411_410.out
          obtain ⟨hcz84_0,hcz84_1,hfz84_0,hfz84_1⟩:=cells2 BK410.out
          have p414 : 0 ≤ (a2 : Int):=of_decide_eq_true (by first|(with_reducible assumption)|assumption)
          have q414 : a2 < (l1_0.length : Int):=of_decide_eq_true (by first|(with_reducible assumption)|assumption)
          obtain ⟨ad414,e414,hx414_0⟩:=Kd.at_int HR1_0.out a2 p414 q414
          cases e414
          replace hx414_0:=(HB.out.cell (World.block_lt_of_cell? w _ hx414_0)).trans hx414_0
          replace p414:=eq_true p414
          replace q414:=eq_true q414
          have hnb85:=NB409_411.out
          have hnc85:=NB411_409.out
          obtain ⟨hcz86_0,hcz86_1,hcz86_2,hfz86_0,hfz86_1,hfz86_2⟩:=cells3 BK409.out
          go_wp2_with (first|((with_reducible refine gate_callee (f:=49) rfl ?_);refine goesL_ (some 43) rfl rfl Try.func49 (by kernel_rfl) rfl #[.agg #[.int .i64 a0_0,.int .i64 a0_1,.slice A0_2 l0_2.length c0_2],.int .i64 a2,.int .i64 a3] rfl (by (try simp only [List.map_toArray,List.map_cons,List.map_nil]);first|done|rfl|(simp only [List.length_drop,List.length_take];rfl)) ?_;(with_reducible refine (hinterlandref06_lies.calls kj8 a0_0 a0_1 _ _ l0_2 a2 a3 t415 _ ?side1 ?side2 A29.out).mono ?_);(case side1 => exact Kd.C_up (Kd.C_below HR0_2.out HB.out));(case side2 => exact HC0_2.out);rintro e w87 ⟨rfl,hb⟩;refine ⟨_,rfl,?_⟩;replace BK409:=bkb BK409 hb;replace BK410:=bkb BK410 hb;replace BK411:=bkb BK411 hb;replace HB:=Aside0.mk (below_step (hb_) hb);obtain ⟨hcz88_0,hcz88_1,hfz88_0,hfz88_1⟩:=cells2 BK411.out))
          refine bodyPost_ret (results_ctt rfl _ _ gb411 26 #[.slice none 0 0,.slice none 0 0] (0,0) _ rfl (by (with_reducible repeat (first|refine blk_drewN ?_ _|refine blk_drew ?_|refine blk_alloc ?_ _));exact blk_puts2 (blk_up BK411.out)) Try.underlying26 rfl (by kernel_rfl)) rfl ?_
          exact ⟨_,_,by first|rfl|(simp [errW_none,errW_some] <;> rfl)|(simp [*,errW_none,errW_some] <;> rfl),by first|exact Kd.R_nil _ _ _ _ _|exact Kd.N_nil _ _ _ _ _|exact Kd.V_nil _ _ _ _ _|exact Kd.Q_nil _ _ _ _ _|exact Kd.S_nil _ _ _ _ _,by first|exact Kd.R_nil _ _ _ _ _|exact Kd.N_nil _ _ _ _ _|exact Kd.V_nil _ _ _ _ _|exact Kd.Q_nil _ _ _ _ _|exact Kd.S_nil _ _ _ _ _,hb_⟩
        ·rw [if_neg c28] at H
         have c28b0 : ((rd l1_0 a2) == 0) = false:=beq_eq_false_iff_ne.mpr c28
         have c28b1 : ((rd l1_0 a2) != 0) = true:=bne_iff_ne.mpr c28
         simp only [Option.some.injEq,Prod.mk.injEq] at H
         obtain ⟨rfl,rfl,rfl,rfl⟩:=H
         have hnb89:=NB410_409.out
         have hnc89:=NB409_410.out
         have hnb90:=NB410_411.out
         have hnc90:=NB411_410.out
         obtain ⟨hcz91_0,hcz91_1,hfz91_0,hfz91_1⟩:=cells2 BK410.out
         have p414 : 0 ≤ (a2 : Int):=of_decide_eq_true (by first|(with_reducible assumption)|assumption)
         have q414 : a2 < (l1_0.length : Int):=of_decide_eq_true (by first|(with_reducible assumption)|assumption)
         obtain ⟨ad414,e414,hx414_0⟩:=Kd.at_int HR1_0.out a2 p414 q414
         cases e414
         replace hx414_0:=(HB.out.cell (World.block_lt_of_cell? w _ hx414_0)).trans hx414_0
         replace p414:=eq_true p414
         replace q414:=eq_true q414
         have hnb92:=NB411_409.out
         have hnc92:=NB409_411.out
         obtain ⟨hcz93_0,hcz93_1,hfz93_0,hfz93_1⟩:=cells2 BK411.out
         go_wp2
         refine bodyPost_ret (results_ctt rfl _ _ gb411 26 #[.slice none 0 0,.slice none 0 0] (0,0) _ rfl (by (with_reducible repeat (first|refine blk_drewN ?_ _|refine blk_drew ?_|refine blk_alloc ?_ _));exact blk_puts2 (blk_up BK411.out)) Try.underlying26 rfl (by kernel_rfl)) rfl ?_
         exact ⟨_,_,by first|rfl|(simp [errW_none,errW_some] <;> rfl)|(simp [*,errW_none,errW_some] <;> rfl),by first|exact Kd.R_nil _ _ _ _ _|exact Kd.N_nil _ _ _ _ _|exact Kd.V_nil _ _ _ _ _|exact Kd.Q_nil _ _ _ _ _|exact Kd.S_nil _ _ _ _ _,by first|exact Kd.R_nil _ _ _ _ _|exact Kd.N_nil _ _ _ _ _|exact Kd.V_nil _ _ _ _ _|exact Kd.Q_nil _ _ _ _ _|exact Kd.S_nil _ _ _ _ _,hb_⟩
       ·rw [if_neg c27] at H
        exact absurd H (by simp)
      ·rw [if_neg c26] at H
       exact absurd H (by simp)
  ·replace c8:=Bool.eq_false_iff.mpr c8
   subst c8
   have H1 : (some (([] : List Int),([] : List Int),0,2)) = some (r1,r2,r3,r4):=by rw [if_neg (show ¬ (false = true) by decide)] at H;exact H
   clear H
   have H:=H1
   clear H1
   simp only [Option.some.injEq,Prod.mk.injEq] at H
   obtain ⟨rfl,rfl,rfl,rfl⟩:=H
   go_enter Try.func29,Try.ntmps29
   go_wp2_with (first|((with_reducible refine gate_dst (N:=4) rfl ?_);refine box_ev (N:=4) (cs:=#[.int .i64 a0_0,.int .i64 a0_1,.slice A0_2 l0_2.length c0_2]) (t:=24) ?_;intro gb409 hg w94 hbox hb;have BK409:=Aside0.mk (hbox);have GW409 : Aside0 (w.heap.size ≤ gb409):=gsz hg;have GE409:=GW409;replace HB:=Aside0.mk (below_step (hb_) hb);clear hb hbox hg)|((with_reducible refine gate_dst (N:=5) rfl ?_);refine box_ev (N:=5) (cs:=#[.slice A1_0 l1_0.length c1_0,.slice A1_1 l1_1.length c1_1]) (t:=26) ?_;intro gb410 hg w95 hbox hb;have BK410:=Aside0.mk (hbox);have GW410 : Aside0 (w.heap.size ≤ gb410):=gsz hg;have GE410:=GW410;have NB409_410:=nbl BK409 hg;have NB410_409:=nbr BK409 hg;replace BK409:=bkb BK409 hb;replace HB:=Aside0.mk (below_step (hb_) hb);clear hb hbox hg)|((with_reducible refine gate_dst (N:=8) rfl ?_);refine box_ev (N:=8) (cs:=#[.slice none 0 0,.slice none 0 0]) (t:=26) ?_;intro gb411 hg w96 hbox hb;have BK411:=Aside0.mk (hbox);have GW411 : Aside0 (w.heap.size ≤ gb411):=gsz hg;have GE411:=GW411;have NB409_411:=nbl BK409 hg;have NB411_409:=nbr BK409 hg;have NB410_411:=nbl BK410 hg;have NB411_410:=nbr BK410 hg;replace BK409:=bkb BK409 hb;replace BK410:=bkb BK410 hb;replace HB:=Aside0.mk (below_step (hb_) hb);clear hb hbox hg;have hnb97:=NB409_410.out;have hnc97:=NB410_409.out;have hnb98:=NB409_411.out;have hnc98:=NB411_409.out;obtain ⟨hcz99_0,hcz99_1,hcz99_2,hfz99_0,hfz99_1,hfz99_2⟩:=cells3 BK409.out;have hnb100:=NB410_411.out;have hnc100:=NB411_410.out;obtain ⟨hcz101_0,hcz101_1,hfz101_0,hfz101_1⟩:=cells2 BK410.out)|((with_reducible refine gate_callee (f:=23) rfl ?_);refine goesL_ (some 16) rfl rfl Try.func23 (by kernel_rfl) rfl #[.agg #[.int .i64 a0_0,.int .i64 a0_1,.slice A0_2 l0_2.length c0_2],.agg #[.slice A1_0 l1_0.length c1_0,.slice A1_1 l1_1.length c1_1]] rfl (by (try simp only [List.map_toArray,List.map_cons,List.map_nil]);first|done|rfl|(simp only [List.length_drop,List.length_take];rfl)) ?_;(with_reducible refine (hinterlandref06_Validate.calls k a0_0 a0_1 _ _ l0_2 _ _ l1_0 _ _ l1_1 t412 _ ?side1 ?side2 ?side3 ?side4 ?side5 ?side6 A5.out).mono ?_);(case side1 => exact Kd.C_up (Kd.C_below HR0_2.out HB.out));(case side2 => exact HC0_2.out);(case side3 => exact Kd.C_up (Kd.C_below HR1_0.out HB.out));(case side4 => exact HC1_0.out);(case side5 => exact Kd.C_up (Kd.C_below HR1_1.out HB.out));(case side6 => exact HC1_1.out);rintro e w102 ⟨rfl,hb⟩;refine ⟨_,rfl,?_⟩;replace BK409:=bkb BK409 hb;replace BK410:=bkb BK410 hb;replace BK411:=bkb BK411 hb;replace HB:=Aside0.mk (below_step (hb_) hb);obtain ⟨hcz103_0,hcz103_1,hcz103_2,hfz103_0,hfz103_1,hfz103_2⟩:=cells3 BK409.out)|((with_reducible refine gate_callee (f:=33) rfl ?_);refine goesL_ (some 23) rfl rfl Try.func33 (by kernel_rfl) rfl #[.agg #[.int .i64 a0_0,.int .i64 a0_1,.slice A0_2 l0_2.length c0_2],.int .i64 a2] rfl (by (try simp only [List.map_toArray,List.map_cons,List.map_nil]);first|done|rfl|(simp only [List.length_drop,List.length_take];rfl)) ?_;(with_reducible refine (hinterlandref02_Is.calls a0_0 a0_1 _ _ l0_2 a2 false _ ?side1 ?side2 A7.out).mono ?_);(case side1 => exact Kd.C_up (Kd.C_below HR0_2.out HB.out));(case side2 => exact HC0_2.out);rintro e w104 ⟨rfl,hb⟩;refine ⟨_,rfl,?_⟩;replace BK409:=bkb BK409 hb;replace BK410:=bkb BK410 hb;replace BK411:=bkb BK411 hb;replace HB:=Aside0.mk (below_step (hb_) hb);obtain ⟨hcz105_0,hcz105_1,hfz105_0,hfz105_1⟩:=cells2 BK411.out))
   refine bodyPost_ret (results_ctt rfl _ _ gb411 26 #[.slice none 0 0,.slice none 0 0] (0,0) _ rfl (by (with_reducible repeat (first|refine blk_drewN ?_ _|refine blk_drew ?_|refine blk_alloc ?_ _));exact blk_puts2 (blk_up BK411.out)) Try.underlying26 rfl (by kernel_rfl)) rfl ?_
   exact ⟨_,_,by first|rfl|(simp [errW_none,errW_some] <;> rfl)|(simp [*,errW_none,errW_some] <;> rfl),by first|exact Kd.R_nil _ _ _ _ _|exact Kd.N_nil _ _ _ _ _|exact Kd.V_nil _ _ _ _ _|exact Kd.Q_nil _ _ _ _ _|exact Kd.S_nil _ _ _ _ _,by first|exact Kd.R_nil _ _ _ _ _|exact Kd.N_nil _ _ _ _ _|exact Kd.V_nil _ _ _ _ _|exact Kd.Q_nil _ _ _ _ _|exact Kd.S_nil _ _ _ _ _,hb_⟩
 ·rw [if_neg c6] at H
  have c6b0 : (t412 == 0) = false:=beq_eq_false_iff_ne.mpr c6
  have c6b1 : (t412 != 0) = true:=bne_iff_ne.mpr c6
  simp only [Option.some.injEq,Prod.mk.injEq] at H
  obtain ⟨rfl,rfl,rfl,rfl⟩:=H
  go_enter Try.func29,Try.ntmps29
  go_wp2_with (first|((with_reducible refine gate_dst (N:=4) rfl ?_);refine box_ev (N:=4) (cs:=#[.int .i64 a0_0,.int .i64 a0_1,.slice A0_2 l0_2.length c0_2]) (t:=24) ?_;intro gb409 hg w106 hbox hb;have BK409:=Aside0.mk (hbox);have GW409 : Aside0 (w.heap.size ≤ gb409):=gsz hg;have GE409:=GW409;replace HB:=Aside0.mk (below_step (hb_) hb);clear hb hbox hg)|((with_reducible refine gate_dst (N:=5) rfl ?_);refine box_ev (N:=5) (cs:=#[.slice A1_0 l1_0.length c1_0,.slice A1_1 l1_1.length c1_1]) (t:=26) ?_;intro gb410 hg w107 hbox hb;have BK410:=Aside0.mk (hbox);have GW410 : Aside0 (w.heap.size ≤ gb410):=gsz hg;have GE410:=GW410;have NB409_410:=nbl BK409 hg;have NB410_409:=nbr BK409 hg;replace BK409:=bkb BK409 hb;replace HB:=Aside0.mk (below_step (hb_) hb);clear hb hbox hg)|((with_reducible refine gate_dst (N:=8) rfl ?_);refine box_ev (N:=8) (cs:=#[.slice none 0 0,.slice none 0 0]) (t:=26) ?_;intro gb411 hg w108 hbox hb;have BK411:=Aside0.mk (hbox);have GW411 : Aside0 (w.heap.size ≤ gb411):=gsz hg;have GE411:=GW411;have NB409_411:=nbl BK409 hg;have NB411_409:=nbr BK409 hg;have NB410_411:=nbl BK410 hg;have NB411_410:=nbr BK410 hg;replace BK409:=bkb BK409 hb;replace BK410:=bkb BK410 hb;replace HB:=Aside0.mk (below_step (hb_) hb);clear hb hbox hg;have hnb109:=NB409_410.out;have hnc109:=NB410_409.out;have hnb110:=NB409_411.out;have hnc110:=NB411_409.out;obtain ⟨hcz111_0,hcz111_1,hcz111_2,hfz111_0,hfz111_1,hfz111_2⟩:=cells3 BK409.out;have hnb112:=NB410_411.out;have hnc112:=NB411_410.out;obtain ⟨hcz113_0,hcz113_1,hfz113_0,hfz113_1⟩:=cells2 BK410.out)|((with_reducible refine gate_callee (f:=23) rfl ?_);refine goesL_ (some 16) rfl rfl Try.func23 (by kernel_rfl) rfl #[.agg #[.int .i64 a0_0,.int .i64 a0_1,.slice A0_2 l0_2.length c0_2],.agg #[.slice A1_0 l1_0.length c1_0,.slice A1_1 l1_1.length c1_1]] rfl (by (try simp only [List.map_toArray,List.map_cons,List.map_nil]);first|done|rfl|(simp only [List.length_drop,List.length_take];rfl)) ?_;(with_reducible refine (hinterlandref06_Validate.calls k a0_0 a0_1 _ _ l0_2 _ _ l1_0 _ _ l1_1 t412 _ ?side1 ?side2 ?side3 ?side4 ?side5 ?side6 A5.out).mono ?_);(case side1 => exact Kd.C_up (Kd.C_below HR0_2.out HB.out));(case side2 => exact HC0_2.out);(case side3 => exact Kd.C_up (Kd.C_below HR1_0.out HB.out));(case side4 => exact HC1_0.out);(case side5 => exact Kd.C_up (Kd.C_below HR1_1.out HB.out));(case side6 => exact HC1_1.out);rintro e w114 ⟨rfl,hb⟩;refine ⟨_,rfl,?_⟩;replace BK409:=bkb BK409 hb;replace BK410:=bkb BK410 hb;replace BK411:=bkb BK411 hb;replace HB:=Aside0.mk (below_step (hb_) hb);obtain ⟨hcz115_0,hcz115_1,hfz115_0,hfz115_1⟩:=cells2 BK411.out))
  refine bodyPost_ret (results_ctt rfl _ _ gb411 26 #[.slice none 0 0,.slice none 0 0] (0,0) _ rfl (by (with_reducible repeat (first|refine blk_drewN ?_ _|refine blk_drew ?_|refine blk_alloc ?_ _));exact blk_puts2 (blk_up BK411.out)) Try.underlying26 rfl (by kernel_rfl)) rfl ?_
  exact ⟨_,_,by first|rfl|(simp [errW_none,errW_some] <;> rfl)|(simp [*,errW_none,errW_some] <;> rfl),by first|exact Kd.R_nil _ _ _ _ _|exact Kd.N_nil _ _ _ _ _|exact Kd.V_nil _ _ _ _ _|exact Kd.Q_nil _ _ _ _ _|exact Kd.S_nil _ _ _ _ _,by first|exact Kd.R_nil _ _ _ _ _|exact Kd.N_nil _ _ _ _ _|exact Kd.V_nil _ _ _ _ _|exact Kd.Q_nil _ _ _ _ _|exact Kd.S_nil _ _ _ _ _,hb_⟩

end Go.Proofs.Ytiencnnkphipoaa.P

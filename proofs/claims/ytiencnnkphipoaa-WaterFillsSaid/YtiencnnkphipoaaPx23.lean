/- Functions of this seat as plain Lean functions, with proofs that the Go code comes to just their answers, or what stands between them and a law's statement; no conditions. (Laid by a program of this session, out of the kit's print.) -/
import Derived.Test.YtiencnnkphipoaaPx0
import Derived.Test.YtiencnnkphipoaaPx8
import Derived.Test.YtiencnnkphipoaaPx11
import Derived.Test.YtiencnnkphipoaaPx15
import Derived.Test.YtiencnnkphipoaaPx22
namespace Go.Proofs.Ytiencnnkphipoaa.P
open Go.RowKit Go.Proofs.YtiencnnkphipoaaW.PrintWords Go.Proofs.YtiencnnkphipoaaW.PrintLast Go.Proofs.YtiencnnkphipoaaW.PrintMore
attribute [local go_sem] max2_int min2_int max_two min_two max_three min_three max_four min_four   -- for this text's walks alone
set_option linter.unusedVariables false
set_option linter.unusedSimpArgs false

/-! ### hinterlandref06_Fill: function 36 -/
def hinterlandref06_Fill.j0 : Nat → Int → Bool → Int → Int → List Int → List Int → List Int → Option (List Int × List Int × Int × Int)
 | 0,_,_,_,_,_,_,_ => none
 | k + 1,x2,x29,x504000,x504001,x504002,x505000,x505001 => if x29 = true then (some (([] : List Int),([] : List Int),0,2)) else ((hinterlandref06_with.f x505000 x505001 x2 0).bind fun bt509 => ((hinterlandref06_marked.f k x505000 x505001 x2).bind fun t516 => (if t516 = true then ((hinterlandref06_Wet.f k x504000 x504001 x504002 bt509.1 x2).bind fun t517 => (if t517 = true then (some (bt509.1,bt509.2,250,0)) else (some (([] : List Int),([] : List Int),0,7)))) else (some (bt509.1,bt509.2,250,0)))))
def hinterlandref06_Fill.f (k : Nat) (a0_0 : Int) (a0_1 : Int) (l0_2 : List Int) (l1_0 : List Int) (l1_1 : List Int) (a2 : Int) : Option (List Int × List Int × Int × Int) := (hinterlandref06_Validate.f k a0_0 a0_1 l0_2 l1_0 l1_1).bind fun t506 => (if t506 = 0 then ((hinterlandref02_Is.f a0_0 a0_1 l0_2 a2).bind fun t507 => (if t507 = true then (if 0 ≤ a2 then (if a2 < (l1_0.length : Int) then (hinterlandref06_Fill.j0 k a2 ((rd l1_0 a2) == 0) a0_0 a0_1 l0_2 l1_0 l1_1) else (none)) else (none)) else (hinterlandref06_Fill.j0 k a2 true a0_0 a0_1 l0_2 l1_0 l1_1))) else (some (([] : List Int), ([] : List Int), 0, t506)))
theorem hinterlandref06_Fill.mono_l : ∀ k, (∀ y0 y1 y2 y3 y4 y5 y6, LeO (hinterlandref06_Fill.j0 k y0 y1 y2 y3 y4 y5 y6) (hinterlandref06_Fill.j0 (k + 1) y0 y1 y2 y3 y4 y5 y6))
 | 0 => fun _ _ _ _ _ _ _ r h => by simp [hinterlandref06_Fill.j0] at h
 | k + 1 => by
  have ih0:=hinterlandref06_Fill.mono_l k
  ·intro y0 y1 y2 y3 y4 y5 y6
   unfold hinterlandref06_Fill.j0
   repeat' first
   | (with_reducible exact ih0 _ _ _ _ _ _ _)
   | (with_reducible exact hinterlandref06_Validate.mono _ _ _ _ _ _)
   | (with_reducible exact hinterlandref06_Wet.mono _ _ _ _ _ _)
   | (with_reducible exact hinterlandref06_marked.mono _ _ _ _)
   | (with_reducible exact LeO.refl _)
   | (with_reducible exact LeO.none _)
   | (with_reducible refine LeO.ite ?_ ?_)
   | (with_reducible refine LeO.bind ?_ (fun _ => ?_))
   | exact ih0 _ _ _ _ _ _ _
   | exact hinterlandref06_Validate.mono _ _ _ _ _ _
   | exact hinterlandref06_Wet.mono _ _ _ _ _ _
   | exact hinterlandref06_marked.mono _ _ _ _
   | exact LeO.none _
   | refine LeO.ite ?_ ?_
   | refine LeO.bind ?_ (fun _ => ?_)
theorem hinterlandref06_Fill.mono : ∀ a0 a1 a2 a3 a4 a5 k, LeO (hinterlandref06_Fill.f k a0 a1 a2 a3 a4 a5) (hinterlandref06_Fill.f (k + 1) a0 a1 a2 a3 a4 a5) := by
 intro a0 a1 a2 a3 a4 a5 k
 have ih0:=hinterlandref06_Fill.mono_l k
 unfold hinterlandref06_Fill.f
 repeat' first
   | (with_reducible exact ih0 _ _ _ _ _ _ _)
   | (with_reducible exact hinterlandref06_Validate.mono _ _ _ _ _ _)
   | (with_reducible exact hinterlandref06_Wet.mono _ _ _ _ _ _)
   | (with_reducible exact hinterlandref06_marked.mono _ _ _ _)
   | (with_reducible exact LeO.refl _)
   | (with_reducible exact LeO.none _)
   | (with_reducible refine LeO.ite ?_ ?_)
   | (with_reducible refine LeO.bind ?_ (fun _ => ?_))
   | exact ih0 _ _ _ _ _ _ _
   | exact hinterlandref06_Validate.mono _ _ _ _ _ _
   | exact hinterlandref06_Wet.mono _ _ _ _ _ _
   | exact hinterlandref06_marked.mono _ _ _ _
   | exact LeO.none _
   | refine LeO.ite ?_ ?_
   | refine LeO.bind ?_ (fun _ => ?_)
set_option maxHeartbeats 8000000 in
set_option maxRecDepth 100000 in
theorem hinterlandref06_Fill.calls (k : Nat) (a0_0 : Int) (a0_1 : Int) (A0_2 : Option Addr) (c0_2 : Nat) (l0_2 : List Int) (A1_0 : Option Addr) (c1_0 : Nat) (l1_0 : List Int) (A1_1 : Option Addr) (c1_1 : Nat) (l1_1 : List Int) (a2 : Int) (r1 : List Int) (r2 : List Int) (r3 : Int) (r4 : Int) (w : World) (hr0_2 : Kd.C (Kd.int .i64) w A0_2 l0_2.length l0_2) (hc0_2 : l0_2.length ≤ c0_2) (hr1_0 : Kd.C (Kd.int .i64) w A1_0 l1_0.length l1_0) (hc1_0 : l1_0.length ≤ c1_0) (hr1_1 : Kd.C (Kd.int .i64) w A1_1 l1_1.length l1_1) (hc1_1 : l1_1.length ≤ c1_1) (h : hinterlandref06_Fill.f k a0_0 a0_1 l0_2 l1_0 l1_1 a2 = some (r1, r2, r3, r4)) :
  Calls Try.prog 36 #[.agg #[.int .i64 a0_0,.int .i64 a0_1,.slice A0_2 l0_2.length c0_2],.agg #[.slice A1_0 l1_0.length c1_0,.slice A1_1 l1_1.length c1_1],.int .i64 a2] w fun e w' => ∃ v0_ v1_ : Value,e = .returned (.tuple #[.agg #[v0_,v1_],.int .i64 r3,.int .i64 r4]) ∧ Kd.R (Kd.int .i64) 3 w' w.heap.size (fun k_ => some k_ ≠ (v1_ : Value).ownBlock) v0_ r1 ∧ Kd.R (Kd.int .i64) 3 w' w.heap.size (fun k_ => some k_ ≠ (v0_ : Value).ownBlock) v1_ r2 ∧ Below w.heap.size w w':=by
 have hu24:=Try.underlying24
 have hu26:=Try.underlying26
 have HR0_2:=Aside0.mk hr0_2
 have HC0_2:=Aside0.mk hc0_2
 clear hr0_2 hc0_2
 have HR1_0:=Aside0.mk hr1_0
 have HC1_0:=Aside0.mk hc1_0
 clear hr1_0 hc1_0
 have HR1_1:=Aside0.mk hr1_1
 have HC1_1:=Aside0.mk hc1_1
 clear hr1_1 hc1_1
 have HB:=Aside0.mk (Below.refl w.heap.size w)
 have H : ((hinterlandref06_Validate.f k a0_0 a0_1 l0_2 l1_0 l1_1).bind fun t506 => (if t506 = 0 then ((hinterlandref02_Is.f a0_0 a0_1 l0_2 a2).bind fun t507 => (if t507 = true then (if 0 ≤ a2 then (if a2 < (l1_0.length : Int) then (hinterlandref06_Fill.j0 k a2 ((rd l1_0 a2) == 0) a0_0 a0_1 l0_2 l1_0 l1_1) else (none)) else (none)) else (hinterlandref06_Fill.j0 k a2 true a0_0 a0_1 l0_2 l1_0 l1_1))) else (some (([] : List Int),([] : List Int),0,t506)))) = some (r1,r2,r3,r4):=h
 clear h
 replace H:=Option.bind_eq_some_iff.mp H
 obtain ⟨t506,A40,H⟩:=H
 replace H : (if t506 = 0 then ((hinterlandref02_Is.f a0_0 a0_1 l0_2 a2).bind fun t507 => (if t507 = true then (if 0 ≤ a2 then (if a2 < (l1_0.length : Int) then (hinterlandref06_Fill.j0 k a2 ((rd l1_0 a2) == 0) a0_0 a0_1 l0_2 l1_0 l1_1) else (none)) else (none)) else (hinterlandref06_Fill.j0 k a2 true a0_0 a0_1 l0_2 l1_0 l1_1))) else (some (([] : List Int),([] : List Int),0,t506))) = some (r1,r2,r3,r4):=H
 have A4:=Aside0.mk A40
 clear A40
 by_cases c5 : t506 = 0
 ·rw [if_pos c5] at H
  have c5b0 : (t506 == 0) = true:=beq_iff_eq.mpr c5
  have c5b1 : (t506 != 0) = false:=bne_eq_false_iff_eq.mpr c5
  clear c5
  have HC6:=Aside0.mk H
  clear H
  go_enter Try.func36,Try.ntmps36
  go_upto_region 4 with (first|((with_reducible refine gate_dst (N:=3) rfl ?_);refine box_ev (N:=3) (cs:=#[.int .i64 a0_0,.int .i64 a0_1,.slice A0_2 l0_2.length c0_2]) (t:=24) ?_;intro gb503 hg w7 hbox hb;have BK503:=Aside0.mk (hbox);have GW503 : Aside0 (w.heap.size ≤ gb503):=gsz hg;have GE503:=GW503;replace HB:=Aside0.mk (below_step (hb_) hb);clear hb hbox hg)|((with_reducible refine gate_dst (N:=4) rfl ?_);refine box_ev (N:=4) (cs:=#[.slice A1_0 l1_0.length c1_0,.slice A1_1 l1_1.length c1_1]) (t:=26) ?_;intro gb504 hg w8 hbox hb;have BK504:=Aside0.mk (hbox);have GW504 : Aside0 (w.heap.size ≤ gb504):=gsz hg;have GE504:=GW504;have NB503_504:=nbl BK503 hg;have NB504_503:=nbr BK503 hg;replace BK503:=bkb BK503 hb;replace HB:=Aside0.mk (below_step (hb_) hb);clear hb hbox hg)|((with_reducible refine gate_dst (N:=6) rfl ?_);refine box_ev (N:=6) (cs:=#[.slice none 0 0,.slice none 0 0]) (t:=26) ?_;intro gb505 hg w9 hbox hb;have BK505:=Aside0.mk (hbox);have GW505 : Aside0 (w.heap.size ≤ gb505):=gsz hg;have GE505:=GW505;have NB503_505:=nbl BK503 hg;have NB505_503:=nbr BK503 hg;have NB504_505:=nbl BK504 hg;have NB505_504:=nbr BK504 hg;replace BK503:=bkb BK503 hb;replace BK504:=bkb BK504 hb;replace HB:=Aside0.mk (below_step (hb_) hb);clear hb hbox hg;have hnb10:=NB503_504.out;have hnc10:=NB504_503.out;have hnb11:=NB503_505.out;have hnc11:=NB505_503.out;obtain ⟨hcz12_0,hcz12_1,hcz12_2,hfz12_0,hfz12_1,hfz12_2⟩:=cells3 BK503.out;have hnb13:=NB504_505.out;have hnc13:=NB505_504.out;obtain ⟨hcz14_0,hcz14_1,hfz14_0,hfz14_1⟩:=cells2 BK504.out)|((with_reducible refine gate_callee (f:=23) rfl ?_);refine goesL_ (some 13) rfl rfl Try.func23 (by kernel_rfl) rfl #[.agg #[.int .i64 a0_0,.int .i64 a0_1,.slice A0_2 l0_2.length c0_2],.agg #[.slice A1_0 l1_0.length c1_0,.slice A1_1 l1_1.length c1_1]] rfl (by (try simp only [List.map_toArray,List.map_cons,List.map_nil]);first|done|rfl|(simp only [List.length_drop,List.length_take];rfl)) ?_;(with_reducible refine (hinterlandref06_Validate.calls k a0_0 a0_1 _ _ l0_2 _ _ l1_0 _ _ l1_1 t506 _ ?side1 ?side2 ?side3 ?side4 ?side5 ?side6 A4.out).mono ?_);(case side1 => exact Kd.C_up (Kd.C_below HR0_2.out HB.out));(case side2 => exact HC0_2.out);(case side3 => exact Kd.C_up (Kd.C_below HR1_0.out HB.out));(case side4 => exact HC1_0.out);(case side5 => exact Kd.C_up (Kd.C_below HR1_1.out HB.out));(case side6 => exact HC1_1.out);rintro e w15 ⟨rfl,hb⟩;refine ⟨_,rfl,?_⟩;replace BK503:=bkb BK503 hb;replace BK504:=bkb BK504 hb;replace BK505:=bkb BK505 hb;replace HB:=Aside0.mk (below_step (hb_) hb)))
  (try simp only [Act.put,List.setIfInBounds_toArray,List.set_cons_zero,List.set_cons_succ])
  go_cut [29] (fun v29 wc => ∃ (kq : Nat) (x29_5 : Bool),v29 = .bool x29_5 ∧ Aside0 (hinterlandref06_Fill.j0 kq a2 x29_5 a0_0 a0_1 l0_2 l1_0 l1_1 = some (r1,r2,r3,r4)) ∧ Aside0 (kq ≤ k) ∧ Aside0 (wc.heap[gb503]? = some (.cells #[.int .i64 a0_0,.int .i64 a0_1,(.slice A0_2 l0_2.length c0_2)] 24 (0,0))) ∧ Aside0 (wc.heap[gb504]? = some (.cells #[(.slice A1_0 l1_0.length c1_0),(.slice A1_1 l1_1.length c1_1)] 26 (0,0))) ∧ Aside0 (wc.heap[gb505]? = some (.cells #[(.slice none 0 0),(.slice none 0 0)] 26 (0,0))) ∧ Aside0 (Below w.heap.size w wc))
  case first =>
   have H:=HC6.out
   clear HC6
   replace H:=Option.bind_eq_some_iff.mp H
   obtain ⟨t507,A160,H⟩:=H
   replace H : (if t507 = true then (if 0 ≤ a2 then (if a2 < (l1_0.length : Int) then (hinterlandref06_Fill.j0 k a2 ((rd l1_0 a2) == 0) a0_0 a0_1 l0_2 l1_0 l1_1) else (none)) else (none)) else (hinterlandref06_Fill.j0 k a2 true a0_0 a0_1 l0_2 l1_0 l1_1)) = some (r1,r2,r3,r4):=H
   have A16:=Aside0.mk A160
   clear A160
   by_cases c17 : t507 = true
   ·subst c17
    have H1 : (if 0 ≤ a2 then (if a2 < (l1_0.length : Int) then (hinterlandref06_Fill.j0 k a2 ((rd l1_0 a2) == 0) a0_0 a0_1 l0_2 l1_0 l1_1) else (none)) else (none)) = some (r1,r2,r3,r4):=by rw [if_pos rfl] at H;exact H
    clear H
    have H:=H1
    clear H1
    by_cases c18 : 0 ≤ a2
    ·rw [if_pos c18] at H
     have c18b0 : decide (0 ≤ a2) = true:=decide_eq_true c18
     clear c18
     (first|rw [c18b0]|(simp only [i64_w,i32_w];rw [c18b0])|skip)
     by_cases c19 : a2 < (l1_0.length : Int)
     ·rw [if_pos c19] at H
      have c19b0 : decide (a2 < (l1_0.length : Int)) = true:=decide_eq_true c19
      clear c19
      have H':=Aside0.mk H
      clear H
      have hnb20:=NB503_504.out
      have hnc20:=NB504_503.out
      have hnb21:=NB503_505.out
      have hnc21:=NB505_503.out
      obtain ⟨hcz22_0,hcz22_1,hcz22_2,hfz22_0,hfz22_1,hfz22_2⟩:=cells3 BK503.out
      go_wp2_with (first|((with_reducible refine gate_callee (f:=33) rfl ?_);refine goesL_ (some 20) rfl rfl Try.func33 (by kernel_rfl) rfl #[.agg #[.int .i64 a0_0,.int .i64 a0_1,.slice A0_2 l0_2.length c0_2],.int .i64 a2] rfl (by (try simp only [List.map_toArray,List.map_cons,List.map_nil]);first|done|rfl|(simp only [List.length_drop,List.length_take];rfl)) ?_;(with_reducible refine (hinterlandref02_Is.calls a0_0 a0_1 _ _ l0_2 a2 true _ ?side1 ?side2 A16.out).mono ?_);(case side1 => exact Kd.C_up (Kd.C_below HR0_2.out HB.out));(case side2 => exact HC0_2.out);rintro e w23 ⟨rfl,hb⟩;refine ⟨_,rfl,?_⟩;replace BK503:=bkb BK503 hb;replace BK504:=bkb BK504 hb;replace BK505:=bkb BK505 hb;replace HB:=Aside0.mk (below_step (hb_) hb);have hnb24:=NB504_505.out;have hnc24:=NB505_504.out;obtain ⟨hcz25_0,hcz25_1,hfz25_0,hfz25_1⟩:=cells2 BK504.out;have p508 : 0 ≤ (a2 : Int):=of_decide_eq_true (by first|(with_reducible assumption)|assumption);have q508 : a2 < (l1_0.length : Int):=of_decide_eq_true (by first|(with_reducible assumption)|assumption);obtain ⟨ad508,e508,hx508_0⟩:=Kd.at_int HR1_0.out a2 p508 q508;cases e508;replace hx508_0:=(HB.out.cell (World.block_lt_of_cell? w _ hx508_0)).trans hx508_0;replace p508:=eq_true p508;replace q508:=eq_true q508))
      go_meet
      case rel => exact ⟨_,(((rd l1_0 a2) == 0)),(by first|rfl|(simp;done)|(simp [*];done)),H',⟨by first|omega|exact Nat.le_refl _⟩,⟨blk_up BK503.out⟩,⟨blk_up BK504.out⟩,⟨blk_up BK505.out⟩,⟨hb_⟩⟩
     ·rw [if_neg c19] at H
      exact absurd H (by simp)
    ·rw [if_neg c18] at H
     exact absurd H (by simp)
   ·replace c17:=Bool.eq_false_iff.mpr c17
    subst c17
    have H1 : (hinterlandref06_Fill.j0 k a2 true a0_0 a0_1 l0_2 l1_0 l1_1) = some (r1,r2,r3,r4):=by rw [if_neg (show ¬ (false = true) by decide)] at H;exact H
    clear H
    have H:=H1
    clear H1
    have H':=Aside0.mk H
    clear H
    have hnb26:=NB503_504.out
    have hnc26:=NB504_503.out
    have hnb27:=NB503_505.out
    have hnc27:=NB505_503.out
    obtain ⟨hcz28_0,hcz28_1,hcz28_2,hfz28_0,hfz28_1,hfz28_2⟩:=cells3 BK503.out
    go_wp2_with (first|((with_reducible refine gate_callee (f:=33) rfl ?_);refine goesL_ (some 20) rfl rfl Try.func33 (by kernel_rfl) rfl #[.agg #[.int .i64 a0_0,.int .i64 a0_1,.slice A0_2 l0_2.length c0_2],.int .i64 a2] rfl (by (try simp only [List.map_toArray,List.map_cons,List.map_nil]);first|done|rfl|(simp only [List.length_drop,List.length_take];rfl)) ?_;(with_reducible refine (hinterlandref02_Is.calls a0_0 a0_1 _ _ l0_2 a2 false _ ?side1 ?side2 A16.out).mono ?_);(case side1 => exact Kd.C_up (Kd.C_below HR0_2.out HB.out));(case side2 => exact HC0_2.out);rintro e w29 ⟨rfl,hb⟩;refine ⟨_,rfl,?_⟩;replace BK503:=bkb BK503 hb;replace BK504:=bkb BK504 hb;replace BK505:=bkb BK505 hb;replace HB:=Aside0.mk (below_step (hb_) hb)))
    go_meet
    case rel => exact ⟨_,(true),(by first|rfl|(simp;done)|(simp [*];done)),H',⟨by first|omega|exact Nat.le_refl _⟩,⟨blk_up BK503.out⟩,⟨blk_up BK504.out⟩,⟨blk_up BK505.out⟩,⟨hb_⟩⟩
  case rest =>
   clear HC6
   obtain ⟨kq,x29_5,rfl,HA,HJ5,BK503,BK504,BK505,HB⟩:=hcut
   cases kq with
   | zero => exact absurd HA.out (by simp [hinterlandref06_Fill.j0])
   | succ kj5 =>
    have H:=HA.out
    clear HA
    simp only [hinterlandref06_Fill.j0] at H
    by_cases c30 : x29_5 = true
    ·subst c30
     have H1 : (some (([] : List Int),([] : List Int),0,2)) = some (r1,r2,r3,r4):=by rw [if_pos rfl] at H;exact H
     clear H
     have H:=H1
     clear H1
     simp only [Option.some.injEq,Prod.mk.injEq] at H
     obtain ⟨rfl,rfl,rfl,rfl⟩:=H
     have hnb31:=NB505_503.out
     have hnc31:=NB503_505.out
     have hnb32:=NB505_504.out
     have hnc32:=NB504_505.out
     obtain ⟨hcz33_0,hcz33_1,hfz33_0,hfz33_1⟩:=cells2 BK505.out
     go_wp2
     refine bodyPost_ret (results_ctt rfl _ _ gb505 26 #[.slice none 0 0,.slice none 0 0] (0,0) _ rfl (by (with_reducible repeat (first|refine blk_drewN ?_ _|refine blk_drew ?_|refine blk_alloc ?_ _));exact blk_puts2 (blk_up BK505.out)) Try.underlying26 rfl (by kernel_rfl)) rfl ?_
     exact ⟨_,_,by first|rfl|(simp [errW_none,errW_some] <;> rfl)|(simp [*,errW_none,errW_some] <;> rfl),by first|exact Kd.R_nil _ _ _ _ _|exact Kd.N_nil _ _ _ _ _|exact Kd.V_nil _ _ _ _ _|exact Kd.Q_nil _ _ _ _ _|exact Kd.S_nil _ _ _ _ _,by first|exact Kd.R_nil _ _ _ _ _|exact Kd.N_nil _ _ _ _ _|exact Kd.V_nil _ _ _ _ _|exact Kd.Q_nil _ _ _ _ _|exact Kd.S_nil _ _ _ _ _,hb_⟩
    ·replace c30:=Bool.eq_false_iff.mpr c30
     subst c30
     have H1 : ((hinterlandref06_with.f l1_0 l1_1 a2 0).bind fun bt509 => ((hinterlandref06_marked.f kj5 l1_0 l1_1 a2).bind fun t516 => (if t516 = true then ((hinterlandref06_Wet.f kj5 a0_0 a0_1 l0_2 bt509.1 a2).bind fun t517 => (if t517 = true then (some (bt509.1,bt509.2,250,0)) else (some (([] : List Int),([] : List Int),0,7)))) else (some (bt509.1,bt509.2,250,0))))) = some (r1,r2,r3,r4):=by rw [if_neg (show ¬ (false = true) by decide)] at H;exact H
     clear H
     have H:=H1
     clear H1
     replace H:=Option.bind_eq_some_iff.mp H
     obtain ⟨⟨t509,t512⟩,A340,H⟩:=H
     replace H : ((hinterlandref06_marked.f kj5 l1_0 l1_1 a2).bind fun t516 => (if t516 = true then ((hinterlandref06_Wet.f kj5 a0_0 a0_1 l0_2 t509 a2).bind fun t517 => (if t517 = true then (some (t509,t512,250,0)) else (some (([] : List Int),([] : List Int),0,7)))) else (some (t509,t512,250,0)))) = some (r1,r2,r3,r4):=H
     have A34:=Aside0.mk A340
     clear A340
     replace H:=Option.bind_eq_some_iff.mp H
     obtain ⟨t516,A350,H⟩:=H
     replace H : (if t516 = true then ((hinterlandref06_Wet.f kj5 a0_0 a0_1 l0_2 t509 a2).bind fun t517 => (if t517 = true then (some (t509,t512,250,0)) else (some (([] : List Int),([] : List Int),0,7)))) else (some (t509,t512,250,0))) = some (r1,r2,r3,r4):=H
     have A35:=Aside0.mk A350
     clear A350
     by_cases c36 : t516 = true
     ·subst c36
      have H1 : ((hinterlandref06_Wet.f kj5 a0_0 a0_1 l0_2 t509 a2).bind fun t517 => (if t517 = true then (some (t509,t512,250,0)) else (some (([] : List Int),([] : List Int),0,7)))) = some (r1,r2,r3,r4):=by rw [if_pos rfl] at H;exact H
      clear H
      have H:=H1
      clear H1
      replace H:=Option.bind_eq_some_iff.mp H
      obtain ⟨t517,A370,H⟩:=H
      replace H : (if t517 = true then (some (t509,t512,250,0)) else (some (([] : List Int),([] : List Int),0,7))) = some (r1,r2,r3,r4):=H
      have A37:=Aside0.mk A370
      clear A370
      by_cases c38 : t517 = true
      ·subst c38
       have H1 : (some (t509,t512,250,0)) = some (r1,r2,r3,r4):=by rw [if_pos rfl] at H;exact H
       clear H
       have H:=H1
       clear H1
       simp only [Option.some.injEq,Prod.mk.injEq] at H
       obtain ⟨rfl,rfl,rfl,rfl⟩:=H
       have hnb39:=NB504_503.out
       have hnc39:=NB503_504.out
       have hnb40:=NB504_505.out
       have hnc40:=NB505_504.out
       obtain ⟨hcz41_0,hcz41_1,hfz41_0,hfz41_1⟩:=cells2 BK504.out
       go_wp2_with (first|((with_reducible refine gate_callee (f:=54) rfl ?_);refine goesL_ (some 33) rfl rfl Try.func54 (by kernel_rfl) rfl #[.agg #[.slice A1_0 l1_0.length c1_0,.slice A1_1 l1_1.length c1_1],.int .i64 a2,.int .i64 0] rfl (by (try simp only [List.map_toArray,List.map_cons,List.map_nil]);first|done|rfl|(simp only [List.length_drop,List.length_take];rfl)) ?_;(with_reducible refine (hinterlandref06_with.calls _ _ l1_0 _ _ l1_1 a2 0 t509 t512 _ ?side1 ?side2 ?side3 ?side4 A34.out).mono ?_);(case side1 => exact Kd.C_up (Kd.C_below HR1_0.out HB.out));(case side2 => exact HC1_0.out);(case side3 => exact Kd.C_up (Kd.C_below HR1_1.out HB.out));(case side4 => exact HC1_1.out);rintro e w42 ⟨v510,v513,rfl,ho0,ho1,hb⟩;refine ⟨_,rfl,?_⟩;have HO511:=rlo ho0;have HO514:=rlo ho1;replace BK503:=bkb BK503 hb;replace BK504:=bkb BK504 hb;replace BK505:=bkb BK505 hb;replace HB:=Aside0.mk (below_step (hb_) hb))|((with_reducible refine gate_dst (N:=10) rfl ?_);refine box_ev (N:=10) (cs:=#[.slice none 0 0,.slice none 0 0]) (t:=26) ?_;intro gb515 hg w43 hbox hb;have BK515:=Aside0.mk (hbox);have GW515 : Aside0 (w.heap.size ≤ gb515):=gsz hg;have GE515:=GW515;have NB503_515:=nbl BK503 hg;have NB515_503:=nbr BK503 hg;have NB504_515:=nbl BK504 hg;have NB515_504:=nbr BK504 hg;have NB505_515:=nbl BK505 hg;have NB515_505:=nbr BK505 hg;replace HO511:=rbw HO511 hb;replace HO514:=rbw HO514 hb;replace BK503:=bkb BK503 hb;replace BK504:=bkb BK504 hb;replace BK505:=bkb BK505 hb;replace HB:=Aside0.mk (below_step (hb_) hb);clear hb hbox hg;obtain ⟨Ao44,co44,eo44⟩:=Kd.R_slice HO511.out;subst eo44;have hnb45:=NB515_503.out;have hnc45:=NB503_515.out;have hnb46:=NB515_504.out;have hnc46:=NB504_515.out;have hnb47:=NB515_505.out;have hnc47:=NB505_515.out;obtain ⟨hcz48_0,hcz48_1,hfz48_0,hfz48_1⟩:=cells2 BK515.out;obtain ⟨Ao49,co49,eo49⟩:=Kd.R_slice HO514.out;subst eo49;obtain ⟨hcz50_0,hcz50_1,hfz50_0,hfz50_1⟩:=cells2 BK504.out)|((with_reducible refine gate_callee (f:=57) rfl ?_);refine goesL_ (some 36) rfl rfl Try.func57 (by kernel_rfl) rfl #[.agg #[.slice A1_0 l1_0.length c1_0,.slice A1_1 l1_1.length c1_1],.int .i64 a2] rfl (by (try simp only [List.map_toArray,List.map_cons,List.map_nil]);first|done|rfl|(simp only [List.length_drop,List.length_take];rfl)) ?_;(with_reducible refine (hinterlandref06_marked.calls kj5 _ _ l1_0 _ _ l1_1 a2 true _ ?side1 ?side2 ?side3 ?side4 A35.out).mono ?_);(case side1 => exact Kd.C_below HR1_0.out (hb_));(case side2 => exact HC1_0.out);(case side3 => exact Kd.C_below HR1_1.out (hb_));(case side4 => exact HC1_1.out);rintro e w51 ⟨rfl,hb⟩;refine ⟨_,rfl,?_⟩;replace HO511:=Aside0.mk (Kd.R_below (by (with_reducible repeat (first|apply Kd.R_alloc|apply Kd.R_drewN|apply Kd.R_drew));exact (Kd.R_mono (Kd.R_fars gb515 (Kd.R_types HO511.out BK515.out (by decide)) (fun _ hk => hk.2)) (fun _ h_ => h_.1))) hb);replace HO514:=Aside0.mk (Kd.R_below (by (with_reducible repeat (first|apply Kd.R_alloc|apply Kd.R_drewN|apply Kd.R_drew));exact (Kd.R_mono (Kd.R_fars gb515 (Kd.R_types HO514.out BK515.out (by decide)) (fun _ hk => hk.2)) (fun _ h_ => h_.1))) hb);replace BK503:=Aside0.mk (blk_below (g:=gb503) (o:=.cells #[.int .i64 a0_0,.int .i64 a0_1,.slice A0_2 l0_2.length c0_2] 24 (0,0)) (by (with_reducible repeat (first|refine blk_drewN ?_ _|refine blk_drew ?_|refine blk_alloc ?_ _));refine blk_far ?_ NB503_515.out _;(with_reducible repeat (first|refine blk_drewN ?_ _|refine blk_drew ?_|refine blk_alloc ?_ _));refine blk_far ?_ NB503_515.out _;(with_reducible repeat (first|refine blk_drewN ?_ _|refine blk_drew ?_|refine blk_alloc ?_ _));exact BK503.out) hb);replace BK504:=Aside0.mk (blk_below (g:=gb504) (o:=.cells #[.slice A1_0 l1_0.length c1_0,.slice A1_1 l1_1.length c1_1] 26 (0,0)) (by (with_reducible repeat (first|refine blk_drewN ?_ _|refine blk_drew ?_|refine blk_alloc ?_ _));refine blk_far ?_ NB504_515.out _;(with_reducible repeat (first|refine blk_drewN ?_ _|refine blk_drew ?_|refine blk_alloc ?_ _));refine blk_far ?_ NB504_515.out _;(with_reducible repeat (first|refine blk_drewN ?_ _|refine blk_drew ?_|refine blk_alloc ?_ _));exact BK504.out) hb);replace BK505:=Aside0.mk (blk_below (g:=gb505) (o:=.cells #[.slice none 0 0,.slice none 0 0] 26 (0,0)) (by (with_reducible repeat (first|refine blk_drewN ?_ _|refine blk_drew ?_|refine blk_alloc ?_ _));refine blk_far ?_ NB505_515.out _;(with_reducible repeat (first|refine blk_drewN ?_ _|refine blk_drew ?_|refine blk_alloc ?_ _));refine blk_far ?_ NB505_515.out _;(with_reducible repeat (first|refine blk_drewN ?_ _|refine blk_drew ?_|refine blk_alloc ?_ _));exact BK505.out) hb);replace BK515:=Aside0.mk (blk_below (g:=gb515) (o:=.cells #[.slice Ao44 t509.length co44,.slice Ao49 t512.length co49] 26 (0,0)) (by (with_reducible repeat (first|refine blk_drewN ?_ _|refine blk_drew ?_|refine blk_alloc ?_ _));exact blk_puts2 (blk_up BK515.out)) hb);replace HB:=Aside0.mk (below_step (hb_) hb);have hnb52:=NB503_505.out;have hnc52:=NB505_503.out;obtain ⟨hcz53_0,hcz53_1,hcz53_2,hfz53_0,hfz53_1,hfz53_2⟩:=cells3 BK503.out;obtain ⟨hcz54_0,hcz54_1,hfz54_0,hfz54_1⟩:=cells2 BK515.out)|(go_at_call 47;(with_reducible refine (hinterlandref06_Wet.calls kj5 a0_0 a0_1 _ _ l0_2 _ _ t509 a2 true _ ?side1 ?side2 ?side3 ?side4 A37.out).mono ?_);(case side1 => exact Kd.C_up (Kd.C_below HR0_2.out HB.out));(case side2 => exact HC0_2.out);(case side3 => exact Kd.C_up (Kd.R_reads' HO511.out).2.2);(case side4 => exact (Kd.R_reads' HO511.out).2.1);rintro e w55 ⟨rfl,hb⟩;replace HO511:=rbw HO511 hb;replace HO514:=rbw HO514 hb;replace BK503:=bkb BK503 hb;replace BK504:=bkb BK504 hb;replace BK505:=bkb BK505 hb;replace BK515:=bkb BK515 hb;replace HB:=Aside0.mk (below_step (hb_) hb);obtain ⟨hcz56_0,hcz56_1,hfz56_0,hfz56_1⟩:=cells2 BK515.out;obtain ⟨hcz57_0,hcz57_1,hfz57_0,hfz57_1⟩:=cells2 BK505.out))
       refine bodyPost_ret (results_ctt rfl _ _ gb505 26 #[.slice Ao44 t509.length co44,.slice Ao49 t512.length co49] (0,0) _ rfl (by (with_reducible repeat (first|refine blk_drewN ?_ _|refine blk_drew ?_|refine blk_alloc ?_ _));exact blk_puts2 (blk_up BK505.out)) Try.underlying26 rfl (by kernel_rfl)) rfl ?_
       exact ⟨_,_,by first|rfl|(simp [errW_none,errW_some] <;> rfl)|(simp [*,errW_none,errW_some] <;> rfl),by (with_reducible repeat (first|apply Kd.R_alloc|apply Kd.R_drewN|apply Kd.R_drew));exact Kd.R_mono (Kd.R_fars gb505 (Kd.R_types HO511.out BK505.out (by decide)) (fun _ hk => hk.2)) (fun _ hk => hk.1),by (with_reducible repeat (first|apply Kd.R_alloc|apply Kd.R_drewN|apply Kd.R_drew));exact Kd.R_mono (Kd.R_fars gb505 (Kd.R_types HO514.out BK505.out (by decide)) (fun _ hk => hk.2)) (fun _ hk => hk.1),hb_⟩
      ·replace c38:=Bool.eq_false_iff.mpr c38
       subst c38
       have H1 : (some (([] : List Int),([] : List Int),0,7)) = some (r1,r2,r3,r4):=by rw [if_neg (show ¬ (false = true) by decide)] at H;exact H
       clear H
       have H:=H1
       clear H1
       simp only [Option.some.injEq,Prod.mk.injEq] at H
       obtain ⟨rfl,rfl,rfl,rfl⟩:=H
       have hnb58:=NB504_503.out
       have hnc58:=NB503_504.out
       have hnb59:=NB504_505.out
       have hnc59:=NB505_504.out
       obtain ⟨hcz60_0,hcz60_1,hfz60_0,hfz60_1⟩:=cells2 BK504.out
       go_wp2_with (first|((with_reducible refine gate_callee (f:=54) rfl ?_);refine goesL_ (some 33) rfl rfl Try.func54 (by kernel_rfl) rfl #[.agg #[.slice A1_0 l1_0.length c1_0,.slice A1_1 l1_1.length c1_1],.int .i64 a2,.int .i64 0] rfl (by (try simp only [List.map_toArray,List.map_cons,List.map_nil]);first|done|rfl|(simp only [List.length_drop,List.length_take];rfl)) ?_;(with_reducible refine (hinterlandref06_with.calls _ _ l1_0 _ _ l1_1 a2 0 t509 t512 _ ?side1 ?side2 ?side3 ?side4 A34.out).mono ?_);(case side1 => exact Kd.C_up (Kd.C_below HR1_0.out HB.out));(case side2 => exact HC1_0.out);(case side3 => exact Kd.C_up (Kd.C_below HR1_1.out HB.out));(case side4 => exact HC1_1.out);rintro e w61 ⟨v510,v513,rfl,ho0,ho1,hb⟩;refine ⟨_,rfl,?_⟩;have HO511:=rlo ho0;have HO514:=rlo ho1;replace BK503:=bkb BK503 hb;replace BK504:=bkb BK504 hb;replace BK505:=bkb BK505 hb;replace HB:=Aside0.mk (below_step (hb_) hb))|((with_reducible refine gate_dst (N:=10) rfl ?_);refine box_ev (N:=10) (cs:=#[.slice none 0 0,.slice none 0 0]) (t:=26) ?_;intro gb515 hg w62 hbox hb;have BK515:=Aside0.mk (hbox);have GW515 : Aside0 (w.heap.size ≤ gb515):=gsz hg;have GE515:=GW515;have NB503_515:=nbl BK503 hg;have NB515_503:=nbr BK503 hg;have NB504_515:=nbl BK504 hg;have NB515_504:=nbr BK504 hg;have NB505_515:=nbl BK505 hg;have NB515_505:=nbr BK505 hg;replace HO511:=rbw HO511 hb;replace HO514:=rbw HO514 hb;replace BK503:=bkb BK503 hb;replace BK504:=bkb BK504 hb;replace BK505:=bkb BK505 hb;replace HB:=Aside0.mk (below_step (hb_) hb);clear hb hbox hg;obtain ⟨Ao63,co63,eo63⟩:=Kd.R_slice HO511.out;subst eo63;have hnb64:=NB515_503.out;have hnc64:=NB503_515.out;have hnb65:=NB515_504.out;have hnc65:=NB504_515.out;have hnb66:=NB515_505.out;have hnc66:=NB505_515.out;obtain ⟨hcz67_0,hcz67_1,hfz67_0,hfz67_1⟩:=cells2 BK515.out;obtain ⟨Ao68,co68,eo68⟩:=Kd.R_slice HO514.out;subst eo68;obtain ⟨hcz69_0,hcz69_1,hfz69_0,hfz69_1⟩:=cells2 BK504.out)|((with_reducible refine gate_callee (f:=57) rfl ?_);refine goesL_ (some 36) rfl rfl Try.func57 (by kernel_rfl) rfl #[.agg #[.slice A1_0 l1_0.length c1_0,.slice A1_1 l1_1.length c1_1],.int .i64 a2] rfl (by (try simp only [List.map_toArray,List.map_cons,List.map_nil]);first|done|rfl|(simp only [List.length_drop,List.length_take];rfl)) ?_;(with_reducible refine (hinterlandref06_marked.calls kj5 _ _ l1_0 _ _ l1_1 a2 true _ ?side1 ?side2 ?side3 ?side4 A35.out).mono ?_);(case side1 => exact Kd.C_below HR1_0.out (hb_));(case side2 => exact HC1_0.out);(case side3 => exact Kd.C_below HR1_1.out (hb_));(case side4 => exact HC1_1.out);rintro e w70 ⟨rfl,hb⟩;refine ⟨_,rfl,?_⟩;replace HO511:=Aside0.mk (Kd.R_below (by (with_reducible repeat (first|apply Kd.R_alloc|apply Kd.R_drewN|apply Kd.R_drew));exact (Kd.R_mono (Kd.R_fars gb515 (Kd.R_types HO511.out BK515.out (by decide)) (fun _ hk => hk.2)) (fun _ h_ => h_.1))) hb);replace HO514:=Aside0.mk (Kd.R_below (by (with_reducible repeat (first|apply Kd.R_alloc|apply Kd.R_drewN|apply Kd.R_drew));exact (Kd.R_mono (Kd.R_fars gb515 (Kd.R_types HO514.out BK515.out (by decide)) (fun _ hk => hk.2)) (fun _ h_ => h_.1))) hb);replace BK503:=Aside0.mk (blk_below (g:=gb503) (o:=.cells #[.int .i64 a0_0,.int .i64 a0_1,.slice A0_2 l0_2.length c0_2] 24 (0,0)) (by (with_reducible repeat (first|refine blk_drewN ?_ _|refine blk_drew ?_|refine blk_alloc ?_ _));refine blk_far ?_ NB503_515.out _;(with_reducible repeat (first|refine blk_drewN ?_ _|refine blk_drew ?_|refine blk_alloc ?_ _));refine blk_far ?_ NB503_515.out _;(with_reducible repeat (first|refine blk_drewN ?_ _|refine blk_drew ?_|refine blk_alloc ?_ _));exact BK503.out) hb);replace BK504:=Aside0.mk (blk_below (g:=gb504) (o:=.cells #[.slice A1_0 l1_0.length c1_0,.slice A1_1 l1_1.length c1_1] 26 (0,0)) (by (with_reducible repeat (first|refine blk_drewN ?_ _|refine blk_drew ?_|refine blk_alloc ?_ _));refine blk_far ?_ NB504_515.out _;(with_reducible repeat (first|refine blk_drewN ?_ _|refine blk_drew ?_|refine blk_alloc ?_ _));refine blk_far ?_ NB504_515.out _;(with_reducible repeat (first|refine blk_drewN ?_ _|refine blk_drew ?_|refine blk_alloc ?_ _));exact BK504.out) hb);replace BK505:=Aside0.mk (blk_below (g:=gb505) (o:=.cells #[.slice none 0 0,.slice none 0 0] 26 (0,0)) (by (with_reducible repeat (first|refine blk_drewN ?_ _|refine blk_drew ?_|refine blk_alloc ?_ _));refine blk_far ?_ NB505_515.out _;(with_reducible repeat (first|refine blk_drewN ?_ _|refine blk_drew ?_|refine blk_alloc ?_ _));refine blk_far ?_ NB505_515.out _;(with_reducible repeat (first|refine blk_drewN ?_ _|refine blk_drew ?_|refine blk_alloc ?_ _));exact BK505.out) hb);replace BK515:=Aside0.mk (blk_below (g:=gb515) (o:=.cells #[.slice Ao63 t509.length co63,.slice Ao68 t512.length co68] 26 (0,0)) (by (with_reducible repeat (first|refine blk_drewN ?_ _|refine blk_drew ?_|refine blk_alloc ?_ _));exact blk_puts2 (blk_up BK515.out)) hb);replace HB:=Aside0.mk (below_step (hb_) hb);have hnb71:=NB503_505.out;have hnc71:=NB505_503.out;obtain ⟨hcz72_0,hcz72_1,hcz72_2,hfz72_0,hfz72_1,hfz72_2⟩:=cells3 BK503.out;obtain ⟨hcz73_0,hcz73_1,hfz73_0,hfz73_1⟩:=cells2 BK515.out)|(go_at_call 47;(with_reducible refine (hinterlandref06_Wet.calls kj5 a0_0 a0_1 _ _ l0_2 _ _ t509 a2 false _ ?side1 ?side2 ?side3 ?side4 A37.out).mono ?_);(case side1 => exact Kd.C_up (Kd.C_below HR0_2.out HB.out));(case side2 => exact HC0_2.out);(case side3 => exact Kd.C_up (Kd.R_reads' HO511.out).2.2);(case side4 => exact (Kd.R_reads' HO511.out).2.1);rintro e w74 ⟨rfl,hb⟩;replace HO511:=rbw HO511 hb;replace HO514:=rbw HO514 hb;replace BK503:=bkb BK503 hb;replace BK504:=bkb BK504 hb;replace BK505:=bkb BK505 hb;replace BK515:=bkb BK515 hb;replace HB:=Aside0.mk (below_step (hb_) hb);obtain ⟨hcz75_0,hcz75_1,hfz75_0,hfz75_1⟩:=cells2 BK505.out))
       refine bodyPost_ret (results_ctt rfl _ _ gb505 26 #[.slice none 0 0,.slice none 0 0] (0,0) _ rfl (by (with_reducible repeat (first|refine blk_drewN ?_ _|refine blk_drew ?_|refine blk_alloc ?_ _));exact blk_puts2 (blk_up BK505.out)) Try.underlying26 rfl (by kernel_rfl)) rfl ?_
       exact ⟨_,_,by first|rfl|(simp [errW_none,errW_some] <;> rfl)|(simp [*,errW_none,errW_some] <;> rfl),by first|exact Kd.R_nil _ _ _ _ _|exact Kd.N_nil _ _ _ _ _|exact Kd.V_nil _ _ _ _ _|exact Kd.Q_nil _ _ _ _ _|exact Kd.S_nil _ _ _ _ _,by first|exact Kd.R_nil _ _ _ _ _|exact Kd.N_nil _ _ _ _ _|exact Kd.V_nil _ _ _ _ _|exact Kd.Q_nil _ _ _ _ _|exact Kd.S_nil _ _ _ _ _,hb_⟩
     ·replace c36:=Bool.eq_false_iff.mpr c36
      subst c36
      have H1 : (some (t509,t512,250,0)) = some (r1,r2,r3,r4):=by rw [if_neg (show ¬ (false = true) by decide)] at H;exact H
      clear H
      have H:=H1
      clear H1
      simp only [Option.some.injEq,Prod.mk.injEq] at H
      obtain ⟨rfl,rfl,rfl,rfl⟩:=H
      have hnb76:=NB504_503.out
      have hnc76:=NB503_504.out
      have hnb77:=NB504_505.out
      have hnc77:=NB505_504.out
      obtain ⟨hcz78_0,hcz78_1,hfz78_0,hfz78_1⟩:=cells2 BK504.out
      go_wp2_with (first|((with_reducible refine gate_callee (f:=54) rfl ?_);refine goesL_ (some 33) rfl rfl Try.func54 (by kernel_rfl) rfl #[.agg #[.slice A1_0 l1_0.length c1_0,.slice A1_1 l1_1.length c1_1],.int .i64 a2,.int .i64 0] rfl (by (try simp only [List.map_toArray,List.map_cons,List.map_nil]);first|done|rfl|(simp only [List.length_drop,List.length_take];rfl)) ?_;(with_reducible refine (hinterlandref06_with.calls _ _ l1_0 _ _ l1_1 a2 0 t509 t512 _ ?side1 ?side2 ?side3 ?side4 A34.out).mono ?_);(case side1 => exact Kd.C_up (Kd.C_below HR1_0.out HB.out));(case side2 => exact HC1_0.out);(case side3 => exact Kd.C_up (Kd.C_below HR1_1.out HB.out));(case side4 => exact HC1_1.out);rintro e w79 ⟨v510,v513,rfl,ho0,ho1,hb⟩;refine ⟨_,rfl,?_⟩;have HO511:=rlo ho0;have HO514:=rlo ho1;replace BK503:=bkb BK503 hb;replace BK504:=bkb BK504 hb;replace BK505:=bkb BK505 hb;replace HB:=Aside0.mk (below_step (hb_) hb))|((with_reducible refine gate_dst (N:=10) rfl ?_);refine box_ev (N:=10) (cs:=#[.slice none 0 0,.slice none 0 0]) (t:=26) ?_;intro gb515 hg w80 hbox hb;have BK515:=Aside0.mk (hbox);have GW515 : Aside0 (w.heap.size ≤ gb515):=gsz hg;have GE515:=GW515;have NB503_515:=nbl BK503 hg;have NB515_503:=nbr BK503 hg;have NB504_515:=nbl BK504 hg;have NB515_504:=nbr BK504 hg;have NB505_515:=nbl BK505 hg;have NB515_505:=nbr BK505 hg;replace HO511:=rbw HO511 hb;replace HO514:=rbw HO514 hb;replace BK503:=bkb BK503 hb;replace BK504:=bkb BK504 hb;replace BK505:=bkb BK505 hb;replace HB:=Aside0.mk (below_step (hb_) hb);clear hb hbox hg;obtain ⟨Ao81,co81,eo81⟩:=Kd.R_slice HO511.out;subst eo81;have hnb82:=NB515_503.out;have hnc82:=NB503_515.out;have hnb83:=NB515_504.out;have hnc83:=NB504_515.out;have hnb84:=NB515_505.out;have hnc84:=NB505_515.out;obtain ⟨hcz85_0,hcz85_1,hfz85_0,hfz85_1⟩:=cells2 BK515.out;obtain ⟨Ao86,co86,eo86⟩:=Kd.R_slice HO514.out;subst eo86;obtain ⟨hcz87_0,hcz87_1,hfz87_0,hfz87_1⟩:=cells2 BK504.out)|((with_reducible refine gate_callee (f:=57) rfl ?_);refine goesL_ (some 36) rfl rfl Try.func57 (by kernel_rfl) rfl #[.agg #[.slice A1_0 l1_0.length c1_0,.slice A1_1 l1_1.length c1_1],.int .i64 a2] rfl (by (try simp only [List.map_toArray,List.map_cons,List.map_nil]);first|done|rfl|(simp only [List.length_drop,List.length_take];rfl)) ?_;(with_reducible refine (hinterlandref06_marked.calls kj5 _ _ l1_0 _ _ l1_1 a2 false _ ?side1 ?side2 ?side3 ?side4 A35.out).mono ?_);(case side1 => exact Kd.C_below HR1_0.out (hb_));(case side2 => exact HC1_0.out);(case side3 => exact Kd.C_below HR1_1.out (hb_));(case side4 => exact HC1_1.out);rintro e w88 ⟨rfl,hb⟩;refine ⟨_,rfl,?_⟩;replace HO511:=Aside0.mk (Kd.R_below (by (with_reducible repeat (first|apply Kd.R_alloc|apply Kd.R_drewN|apply Kd.R_drew));exact (Kd.R_mono (Kd.R_fars gb515 (Kd.R_types HO511.out BK515.out (by decide)) (fun _ hk => hk.2)) (fun _ h_ => h_.1))) hb);replace HO514:=Aside0.mk (Kd.R_below (by (with_reducible repeat (first|apply Kd.R_alloc|apply Kd.R_drewN|apply Kd.R_drew));exact (Kd.R_mono (Kd.R_fars gb515 (Kd.R_types HO514.out BK515.out (by decide)) (fun _ hk => hk.2)) (fun _ h_ => h_.1))) hb);replace BK503:=Aside0.mk (blk_below (g:=gb503) (o:=.cells #[.int .i64 a0_0,.int .i64 a0_1,.slice A0_2 l0_2.length c0_2] 24 (0,0)) (by (with_reducible repeat (first|refine blk_drewN ?_ _|refine blk_drew ?_|refine blk_alloc ?_ _));refine blk_far ?_ NB503_515.out _;(with_reducible repeat (first|refine blk_drewN ?_ _|refine blk_drew ?_|refine blk_alloc ?_ _));refine blk_far ?_ NB503_515.out _;(with_reducible repeat (first|refine blk_drewN ?_ _|refine blk_drew ?_|refine blk_alloc ?_ _));exact BK503.out) hb);replace BK504:=Aside0.mk (blk_below (g:=gb504) (o:=.cells #[.slice A1_0 l1_0.length c1_0,.slice A1_1 l1_1.length c1_1] 26 (0,0)) (by (with_reducible repeat (first|refine blk_drewN ?_ _|refine blk_drew ?_|refine blk_alloc ?_ _));refine blk_far ?_ NB504_515.out _;(with_reducible repeat (first|refine blk_drewN ?_ _|refine blk_drew ?_|refine blk_alloc ?_ _));refine blk_far ?_ NB504_515.out _;(with_reducible repeat (first|refine blk_drewN ?_ _|refine blk_drew ?_|refine blk_alloc ?_ _));exact BK504.out) hb);replace BK505:=Aside0.mk (blk_below (g:=gb505) (o:=.cells #[.slice none 0 0,.slice none 0 0] 26 (0,0)) (by (with_reducible repeat (first|refine blk_drewN ?_ _|refine blk_drew ?_|refine blk_alloc ?_ _));refine blk_far ?_ NB505_515.out _;(with_reducible repeat (first|refine blk_drewN ?_ _|refine blk_drew ?_|refine blk_alloc ?_ _));refine blk_far ?_ NB505_515.out _;(with_reducible repeat (first|refine blk_drewN ?_ _|refine blk_drew ?_|refine blk_alloc ?_ _));exact BK505.out) hb);replace BK515:=Aside0.mk (blk_below (g:=gb515) (o:=.cells #[.slice Ao81 t509.length co81,.slice Ao86 t512.length co86] 26 (0,0)) (by (with_reducible repeat (first|refine blk_drewN ?_ _|refine blk_drew ?_|refine blk_alloc ?_ _));exact blk_puts2 (blk_up BK515.out)) hb);replace HB:=Aside0.mk (below_step (hb_) hb);obtain ⟨hcz89_0,hcz89_1,hfz89_0,hfz89_1⟩:=cells2 BK515.out;have hnb90:=NB505_503.out;have hnc90:=NB503_505.out;obtain ⟨hcz91_0,hcz91_1,hfz91_0,hfz91_1⟩:=cells2 BK505.out))
      refine bodyPost_ret (results_ctt rfl _ _ gb505 26 #[.slice Ao81 t509.length co81,.slice Ao86 t512.length co86] (0,0) _ rfl (by (with_reducible repeat (first|refine blk_drewN ?_ _|refine blk_drew ?_|refine blk_alloc ?_ _));exact blk_puts2 (blk_up BK505.out)) Try.underlying26 rfl (by kernel_rfl)) rfl ?_
      exact ⟨_,_,by first|rfl|(simp [errW_none,errW_some] <;> rfl)|(simp [*,errW_none,errW_some] <;> rfl),by (with_reducible repeat (first|apply Kd.R_alloc|apply Kd.R_drewN|apply Kd.R_drew));exact Kd.R_mono (Kd.R_fars gb505 (Kd.R_types HO511.out BK505.out (by decide)) (fun _ hk => hk.2)) (fun _ hk => hk.1),by (with_reducible repeat (first|apply Kd.R_alloc|apply Kd.R_drewN|apply Kd.R_drew));exact Kd.R_mono (Kd.R_fars gb505 (Kd.R_types HO514.out BK505.out (by decide)) (fun _ hk => hk.2)) (fun _ hk => hk.1),hb_⟩
 ·rw [if_neg c5] at H
  have c5b0 : (t506 == 0) = false:=beq_eq_false_iff_ne.mpr c5
  have c5b1 : (t506 != 0) = true:=bne_iff_ne.mpr c5
  simp only [Option.some.injEq,Prod.mk.injEq] at H
  obtain ⟨rfl,rfl,rfl,rfl⟩:=H
  go_enter Try.func36,Try.ntmps36
  go_wp2_with (first|((with_reducible refine gate_dst (N:=3) rfl ?_);refine box_ev (N:=3) (cs:=#[.int .i64 a0_0,.int .i64 a0_1,.slice A0_2 l0_2.length c0_2]) (t:=24) ?_;intro gb503 hg w92 hbox hb;have BK503:=Aside0.mk (hbox);have GW503 : Aside0 (w.heap.size ≤ gb503):=gsz hg;have GE503:=GW503;replace HB:=Aside0.mk (below_step (hb_) hb);clear hb hbox hg)|((with_reducible refine gate_dst (N:=4) rfl ?_);refine box_ev (N:=4) (cs:=#[.slice A1_0 l1_0.length c1_0,.slice A1_1 l1_1.length c1_1]) (t:=26) ?_;intro gb504 hg w93 hbox hb;have BK504:=Aside0.mk (hbox);have GW504 : Aside0 (w.heap.size ≤ gb504):=gsz hg;have GE504:=GW504;have NB503_504:=nbl BK503 hg;have NB504_503:=nbr BK503 hg;replace BK503:=bkb BK503 hb;replace HB:=Aside0.mk (below_step (hb_) hb);clear hb hbox hg)|((with_reducible refine gate_dst (N:=6) rfl ?_);refine box_ev (N:=6) (cs:=#[.slice none 0 0,.slice none 0 0]) (t:=26) ?_;intro gb505 hg w94 hbox hb;have BK505:=Aside0.mk (hbox);have GW505 : Aside0 (w.heap.size ≤ gb505):=gsz hg;have GE505:=GW505;have NB503_505:=nbl BK503 hg;have NB505_503:=nbr BK503 hg;have NB504_505:=nbl BK504 hg;have NB505_504:=nbr BK504 hg;replace BK503:=bkb BK503 hb;replace BK504:=bkb BK504 hb;replace HB:=Aside0.mk (below_step (hb_) hb);clear hb hbox hg;have hnb95:=NB503_504.out;have hnc95:=NB504_503.out;have hnb96:=NB503_505.out;have hnc96:=NB505_503.out;obtain ⟨hcz97_0,hcz97_1,hcz97_2,hfz97_0,hfz97_1,hfz97_2⟩:=cells3 BK503.out;have hnb98:=NB504_505.out;have hnc98:=NB505_504.out;obtain ⟨hcz99_0,hcz99_1,hfz99_0,hfz99_1⟩:=cells2 BK504.out)|((with_reducible refine gate_callee (f:=23) rfl ?_);refine goesL_ (some 13) rfl rfl Try.func23 (by kernel_rfl) rfl #[.agg #[.int .i64 a0_0,.int .i64 a0_1,.slice A0_2 l0_2.length c0_2],.agg #[.slice A1_0 l1_0.length c1_0,.slice A1_1 l1_1.length c1_1]] rfl (by (try simp only [List.map_toArray,List.map_cons,List.map_nil]);first|done|rfl|(simp only [List.length_drop,List.length_take];rfl)) ?_;(with_reducible refine (hinterlandref06_Validate.calls k a0_0 a0_1 _ _ l0_2 _ _ l1_0 _ _ l1_1 t506 _ ?side1 ?side2 ?side3 ?side4 ?side5 ?side6 A4.out).mono ?_);(case side1 => exact Kd.C_up (Kd.C_below HR0_2.out HB.out));(case side2 => exact HC0_2.out);(case side3 => exact Kd.C_up (Kd.C_below HR1_0.out HB.out));(case side4 => exact HC1_0.out);(case side5 => exact Kd.C_up (Kd.C_below HR1_1.out HB.out));(case side6 => exact HC1_1.out);rintro e w100 ⟨rfl,hb⟩;refine ⟨_,rfl,?_⟩;replace BK503:=bkb BK503 hb;replace BK504:=bkb BK504 hb;replace BK505:=bkb BK505 hb;replace HB:=Aside0.mk (below_step (hb_) hb);obtain ⟨hcz101_0,hcz101_1,hfz101_0,hfz101_1⟩:=cells2 BK505.out))
  refine bodyPost_ret (results_ctt rfl _ _ gb505 26 #[.slice none 0 0,.slice none 0 0] (0,0) _ rfl (by (with_reducible repeat (first|refine blk_drewN ?_ _|refine blk_drew ?_|refine blk_alloc ?_ _));exact blk_puts2 (blk_up BK505.out)) Try.underlying26 rfl (by kernel_rfl)) rfl ?_
  exact ⟨_,_,by first|rfl|(simp [errW_none,errW_some] <;> rfl)|(simp [*,errW_none,errW_some] <;> rfl),by first|exact Kd.R_nil _ _ _ _ _|exact Kd.N_nil _ _ _ _ _|exact Kd.V_nil _ _ _ _ _|exact Kd.Q_nil _ _ _ _ _|exact Kd.S_nil _ _ _ _ _,by first|exact Kd.R_nil _ _ _ _ _|exact Kd.N_nil _ _ _ _ _|exact Kd.V_nil _ _ _ _ _|exact Kd.Q_nil _ _ _ _ _|exact Kd.S_nil _ _ _ _ _,hb_⟩

end Go.Proofs.Ytiencnnkphipoaa.P

/- Functions of this seat as plain Lean functions, with proofs that the Go code comes to just their answers, or what stands between them and a law's statement; no conditions. (Laid by a program of this session, out of the kit's print.) -/
import Derived.Test.YthjmdpekcleihaaPx0
import Derived.Test.YthjmdpekcleihaaPx3
import Derived.Test.YthjmdpekcleihaaPx12
import Derived.Test.YthjmdpekcleihaaPx14
import Derived.Test.YthjmdpekcleihaaPx17
import Derived.Test.YthjmdpekcleihaaPx20
import Derived.Test.YthjmdpekcleihaaPx21
namespace Go.Proofs.Ythjmdpekcleihaa.P
open Go.RowKit Go.Proofs.YthjmdpekcleihaaW.PrintWords Go.Proofs.YthjmdpekcleihaaW.PrintLast Go.Proofs.YthjmdpekcleihaaW.PrintMore
attribute [local go_sem] max2_int min2_int max_two min_two max_three min_three max_four min_four   -- for this text's walks alone
set_option linter.unusedVariables false
set_option linter.unusedSimpArgs false

/-! ### hinterlandref17_Step: function 24 -/
def hinterlandref17_Step.j0 : Nat → Int → Int → Bool → Int → Int → List Int → List Int → List Int → List (S50) → Option (Int × Int × List Int × List Int × List Int × (List (S50)) × Int × Int)
 | 0,_,_,_,_,_,_,_,_,_ => none
 | k + 1,x1,x2,x25,x507000,x507001,x507002,x507003,x507004,x507005 => if x25 = true then (some (0,0,([] : List Int),([] : List Int),([] : List Int),([] : List (S50)),0,2)) else ((hinterlandref17_Copy.f x507000 x507001 x507002 x507003 x507004 x507005).bind fun bt509 => ((hinterlandref17_step.f k bt509.1 bt509.2.1 bt509.2.2.1 bt509.2.2.2.1 bt509.2.2.2.2.1 bt509.2.2.2.2.2 x1 x2).bind fun bt523 => (some (bt509.1,bt509.2.1,bt509.2.2.1,bt509.2.2.2.1,bt509.2.2.2.2.1,bt523.2,bt523.1,0))))
def hinterlandref17_Step.f (k : Nat) (a0_0 : Int) (a0_1 : Int) (l0_2 : List Int) (l0_3 : List Int) (l0_4 : List Int) (l0_5 : List (S50)) (a1 : Int) (a2 : Int) : Option (Int × Int × List Int × List Int × List Int × (List (S50)) × Int × Int) := (hinterlandref17_Validate.f k a0_0 a0_1 l0_2 l0_3 l0_4 l0_5).bind fun t508 => (if t508 = 0 then (if a1 < 0 then (hinterlandref17_Step.j0 k a1 a2 true a0_0 a0_1 l0_2 l0_3 l0_4 l0_5) else (hinterlandref17_Step.j0 k a1 a2 (decide (a1 ≥ (l0_5.length : Int))) a0_0 a0_1 l0_2 l0_3 l0_4 l0_5)) else (some (0, 0, ([] : List Int), ([] : List Int), ([] : List Int), ([] : List (S50)), 0, t508)))
theorem hinterlandref17_Step.mono_l : ∀ k, (∀ y0 y1 y2 y3 y4 y5 y6 y7 y8, LeO (hinterlandref17_Step.j0 k y0 y1 y2 y3 y4 y5 y6 y7 y8) (hinterlandref17_Step.j0 (k + 1) y0 y1 y2 y3 y4 y5 y6 y7 y8))
 | 0 => fun _ _ _ _ _ _ _ _ _ r h => by simp [hinterlandref17_Step.j0] at h
 | k + 1 => by
  have ih0:=hinterlandref17_Step.mono_l k
  ·intro y0 y1 y2 y3 y4 y5 y6 y7 y8
   unfold hinterlandref17_Step.j0
   repeat' first
   | (with_reducible exact ih0 _ _ _ _ _ _ _ _ _)
   | (with_reducible exact hinterlandref17_Validate.mono _ _ _ _ _ _ _)
   | (with_reducible exact hinterlandref17_step.mono _ _ _ _ _ _ _ _ _)
   | (with_reducible exact LeO.refl _)
   | (with_reducible exact LeO.none _)
   | (with_reducible refine LeO.ite ?_ ?_)
   | (with_reducible refine LeO.bind ?_ (fun _ => ?_))
   | exact ih0 _ _ _ _ _ _ _ _ _
   | exact hinterlandref17_Validate.mono _ _ _ _ _ _ _
   | exact hinterlandref17_step.mono _ _ _ _ _ _ _ _ _
   | exact LeO.none _
   | refine LeO.ite ?_ ?_
   | refine LeO.bind ?_ (fun _ => ?_)
theorem hinterlandref17_Step.mono : ∀ a0 a1 a2 a3 a4 a5 a6 a7 k, LeO (hinterlandref17_Step.f k a0 a1 a2 a3 a4 a5 a6 a7) (hinterlandref17_Step.f (k + 1) a0 a1 a2 a3 a4 a5 a6 a7) := by
 intro a0 a1 a2 a3 a4 a5 a6 a7 k
 have ih0:=hinterlandref17_Step.mono_l k
 unfold hinterlandref17_Step.f
 repeat' first
   | (with_reducible exact ih0 _ _ _ _ _ _ _ _ _)
   | (with_reducible exact hinterlandref17_Validate.mono _ _ _ _ _ _ _)
   | (with_reducible exact hinterlandref17_step.mono _ _ _ _ _ _ _ _ _)
   | (with_reducible exact LeO.refl _)
   | (with_reducible exact LeO.none _)
   | (with_reducible refine LeO.ite ?_ ?_)
   | (with_reducible refine LeO.bind ?_ (fun _ => ?_))
   | exact ih0 _ _ _ _ _ _ _ _ _
   | exact hinterlandref17_Validate.mono _ _ _ _ _ _ _
   | exact hinterlandref17_step.mono _ _ _ _ _ _ _ _ _
   | exact LeO.none _
   | refine LeO.ite ?_ ?_
   | refine LeO.bind ?_ (fun _ => ?_)
set_option maxHeartbeats 8000000 in
set_option maxRecDepth 100000 in
theorem hinterlandref17_Step.calls (k : Nat) (a0_0 : Int) (a0_1 : Int) (A0_2 : Option Addr) (c0_2 : Nat) (l0_2 : List Int) (A0_3 : Option Addr) (c0_3 : Nat) (l0_3 : List Int) (A0_4 : Option Addr) (c0_4 : Nat) (l0_4 : List Int) (A0_5 : Option Addr) (c0_5 : Nat) (l0_5 : List (S50)) (a1 : Int) (a2 : Int) (r1 : Int) (r2 : Int) (r3 : List Int) (r4 : List Int) (r5 : List Int) (r6 : List (S50)) (r7 : Int) (r8 : Int) (w : World) (hr0_2 : Kd.C (Kd.int .i64) w A0_2 l0_2.length l0_2) (hc0_2 : l0_2.length ≤ c0_2) (hr0_3 : Kd.C (Kd.int .i64) w A0_3 l0_3.length l0_3) (hc0_3 : l0_3.length ≤ c0_3) (hr0_4 : Kd.C (Kd.int .i64) w A0_4 l0_4.length l0_4) (hc0_4 : l0_4.length ≤ c0_4) (hr0_5 : Kd.C k50 w A0_5 l0_5.length l0_5) (hc0_5 : l0_5.length ≤ c0_5) (h : hinterlandref17_Step.f k a0_0 a0_1 l0_2 l0_3 l0_4 l0_5 a1 a2 = some (r1, r2, r3, r4, r5, r6, r7, r8)) :
  Calls Try.prog 24 #[.agg #[.int .i64 a0_0,.int .i64 a0_1,.slice A0_2 l0_2.length c0_2,.slice A0_3 l0_3.length c0_3,.slice A0_4 l0_4.length c0_4,.slice A0_5 l0_5.length c0_5],.int .i64 a1,.int .i64 a2] w fun e w' => ∃ v2_ v3_ v4_ v5_ : Value,e = .returned (.tuple #[.agg #[.int .i64 r1,.int .i64 r2,v2_,v3_,v4_,v5_],.int .i64 r7,.int .i64 r8]) ∧ Kd.R (Kd.int .i64) 3 w' w.heap.size (fun k_ => some k_ ≠ (v3_ : Value).ownBlock ∧ some k_ ≠ (v4_ : Value).ownBlock) v2_ r3 ∧ Kd.R (Kd.int .i64) 3 w' w.heap.size (fun k_ => some k_ ≠ (v2_ : Value).ownBlock ∧ some k_ ≠ (v4_ : Value).ownBlock) v3_ r4 ∧ Kd.R (Kd.int .i64) 3 w' w.heap.size (fun k_ => some k_ ≠ (v2_ : Value).ownBlock ∧ some k_ ≠ (v3_ : Value).ownBlock) v4_ r5 ∧ Kd.R k50 50 w' w.heap.size (fun _ => True) v5_ r6 ∧ Below w.heap.size w w':=by
 have hu33:=Try.underlying33
 have HR0_2:=Aside0.mk hr0_2
 have HC0_2:=Aside0.mk hc0_2
 clear hr0_2 hc0_2
 have HR0_3:=Aside0.mk hr0_3
 have HC0_3:=Aside0.mk hc0_3
 clear hr0_3 hc0_3
 have HR0_4:=Aside0.mk hr0_4
 have HC0_4:=Aside0.mk hc0_4
 clear hr0_4 hc0_4
 have HR0_5:=Aside0.mk hr0_5
 have HC0_5:=Aside0.mk hc0_5
 clear hr0_5 hc0_5
 have HB:=Aside0.mk (Below.refl w.heap.size w)
 have H : ((hinterlandref17_Validate.f k a0_0 a0_1 l0_2 l0_3 l0_4 l0_5).bind fun t508 => (if t508 = 0 then (if a1 < 0 then (hinterlandref17_Step.j0 k a1 a2 true a0_0 a0_1 l0_2 l0_3 l0_4 l0_5) else (hinterlandref17_Step.j0 k a1 a2 (decide (a1 ≥ (l0_5.length : Int))) a0_0 a0_1 l0_2 l0_3 l0_4 l0_5)) else (some (0,0,([] : List Int),([] : List Int),([] : List Int),([] : List (S50)),0,t508)))) = some (r1,r2,r3,r4,r5,r6,r7,r8):=h
 clear h
 replace H:=Option.bind_eq_some_iff.mp H
 obtain ⟨t508,A40,H⟩:=H
 replace H : (if t508 = 0 then (if a1 < 0 then (hinterlandref17_Step.j0 k a1 a2 true a0_0 a0_1 l0_2 l0_3 l0_4 l0_5) else (hinterlandref17_Step.j0 k a1 a2 (decide (a1 ≥ (l0_5.length : Int))) a0_0 a0_1 l0_2 l0_3 l0_4 l0_5)) else (some (0,0,([] : List Int),([] : List Int),([] : List Int),([] : List (S50)),0,t508))) = some (r1,r2,r3,r4,r5,r6,r7,r8):=H
 have A4:=Aside0.mk A40
 clear A40
 by_cases c5 : t508 = 0
 rotate_left
 ·rw [if_neg c5] at H
  have c5b0:=bqf c5
  have c5b1:=bnt c5
  simp only [Option.some.injEq,Prod.mk.injEq] at H
  obtain ⟨rfl,rfl,rfl,rfl,rfl,rfl,rfl,rfl⟩:=H
  go_enter Try.func24,Try.ntmps24
  go_wp2_with (first|((with_reducible refine gate_dst (N:=3) rfl ?_);(try (refine gate_guard (by rfl) ?_;dsimp only));refine box_ev (N:=3) (cs:=#[.int .i64 a0_0,.int .i64 a0_1,.slice A0_2 l0_2.length c0_2,.slice A0_3 l0_3.length c0_3,.slice A0_4 l0_4.length c0_4,.slice A0_5 l0_5.length c0_5]) (t:=33) ?_;intro gb506 hg w33 hbox hb;have BK506:=Aside0.mk (hbox);have GW506 : Aside0 (w.heap.size ≤ gb506):=gsz hg;have GE506:=GW506;replace HB:=hbs hb;clear hb hbox hg)|((with_reducible refine gate_dst (N:=6) rfl ?_);(try (refine gate_guard (by rfl) ?_;dsimp only));refine box_ev (N:=6) (cs:=#[.int .i64 0,.int .i64 0,.slice none 0 0,.slice none 0 0,.slice none 0 0,.slice none 0 0]) (t:=33) ?_;intro gb507 hg w34 hbox hb;have BK507:=Aside0.mk (hbox);have GW507 : Aside0 (w.heap.size ≤ gb507):=gsz hg;have GE507:=GW507;have NB506_507:=nbl BK506 hg;have NB507_506:=nbr BK506 hg;replace BK506:=bkb BK506 hb;replace HB:=hbs hb;clear hb hbox hg;have hnb35:=NB506_507.out;have hnc35:=NB507_506.out;obtain ⟨_,_,_,_,_,_,_,_,_,_,_,_⟩:=cells6 BK506.out)|((with_reducible refine gate_callee (f:=17) rfl ?_);refine goesL_ (some 12) rfl rfl Try.func17 (by kernel_rfl) rfl #[.agg #[.int .i64 a0_0,.int .i64 a0_1,.slice A0_2 l0_2.length c0_2,.slice A0_3 l0_3.length c0_3,.slice A0_4 l0_4.length c0_4,.slice A0_5 l0_5.length c0_5]] rfl ga_ ?_;(with_reducible refine (hinterlandref17_Validate.calls k a0_0 a0_1 _ _ l0_2 _ _ l0_3 _ _ l0_4 _ _ l0_5 t508 _ ?_ ?_ ?_ ?_ ?_ ?_ ?_ ?_ A4.out).mono ?_);exact cq HR0_2;exact HC0_2.out;exact cq HR0_3;exact HC0_3.out;exact cq HR0_4;exact HC0_4.out;exact cq HR0_5;exact HC0_5.out;rintro e w37 ⟨rfl,hb⟩;refine ⟨_,rfl,?_⟩;replace BK506:=bkb BK506 hb;replace BK507:=bkb BK507 hb;replace HB:=hbs hb;obtain ⟨_,_,_,_,_,_,_,_,_,_,_,_⟩:=cells6 BK507.out))
  refine bodyPost_ret (results_ctt rfl _ _ gb507 33 #[.int .i64 0,.int .i64 0,.slice none 0 0,.slice none 0 0,.slice none 0 0,.slice none 0 0] (0,0) _ rfl (by (with_reducible repeat (first|refine blk_drewN ?_ _|refine blk_drew ?_|refine blk_alloc ?_ _));exact blk_puts6 (blk_up BK507.out)) Try.underlying33 rfl (by kernel_rfl)) rfl ?_
  exact ⟨_,_,_,_,er_,nl_,nl_,nl_,nl_,hb_⟩
 rw [if_pos c5] at H
 have c5b0:=bqt c5
 have c5b1:=bnf c5
 clear c5
 have HC6:=Aside0.mk H
 clear H
 go_enter Try.func24,Try.ntmps24
 go_upto_region 4 with (first|((with_reducible refine gate_dst (N:=3) rfl ?_);(try (refine gate_guard (by rfl) ?_;dsimp only));refine box_ev (N:=3) (cs:=#[.int .i64 a0_0,.int .i64 a0_1,.slice A0_2 l0_2.length c0_2,.slice A0_3 l0_3.length c0_3,.slice A0_4 l0_4.length c0_4,.slice A0_5 l0_5.length c0_5]) (t:=33) ?_;intro gb506 hg w7 hbox hb;have BK506:=Aside0.mk (hbox);have GW506 : Aside0 (w.heap.size ≤ gb506):=gsz hg;have GE506:=GW506;replace HB:=hbs hb;clear hb hbox hg)|((with_reducible refine gate_dst (N:=6) rfl ?_);(try (refine gate_guard (by rfl) ?_;dsimp only));refine box_ev (N:=6) (cs:=#[.int .i64 0,.int .i64 0,.slice none 0 0,.slice none 0 0,.slice none 0 0,.slice none 0 0]) (t:=33) ?_;intro gb507 hg w8 hbox hb;have BK507:=Aside0.mk (hbox);have GW507 : Aside0 (w.heap.size ≤ gb507):=gsz hg;have GE507:=GW507;have NB506_507:=nbl BK506 hg;have NB507_506:=nbr BK506 hg;replace BK506:=bkb BK506 hb;replace HB:=hbs hb;clear hb hbox hg;have hnb9:=NB506_507.out;have hnc9:=NB507_506.out;obtain ⟨_,_,_,_,_,_,_,_,_,_,_,_⟩:=cells6 BK506.out)|((with_reducible refine gate_callee (f:=17) rfl ?_);refine goesL_ (some 12) rfl rfl Try.func17 (by kernel_rfl) rfl #[.agg #[.int .i64 a0_0,.int .i64 a0_1,.slice A0_2 l0_2.length c0_2,.slice A0_3 l0_3.length c0_3,.slice A0_4 l0_4.length c0_4,.slice A0_5 l0_5.length c0_5]] rfl ga_ ?_;(with_reducible refine (hinterlandref17_Validate.calls k a0_0 a0_1 _ _ l0_2 _ _ l0_3 _ _ l0_4 _ _ l0_5 t508 _ ?_ ?_ ?_ ?_ ?_ ?_ ?_ ?_ A4.out).mono ?_);exact cq HR0_2;exact HC0_2.out;exact cq HR0_3;exact HC0_3.out;exact cq HR0_4;exact HC0_4.out;exact cq HR0_5;exact HC0_5.out;rintro e w11 ⟨rfl,hb⟩;refine ⟨_,rfl,?_⟩;replace BK506:=bkb BK506 hb;replace BK507:=bkb BK507 hb;replace HB:=hbs hb))
 (try simp only [Act.put,List.setIfInBounds_toArray,List.set_cons_zero,List.set_cons_succ])
 go_cut [25] (fun v25 wc => ∃ (kq : Nat) (x25_5 : Bool),v25 = .bool x25_5 ∧ Aside0 (hinterlandref17_Step.j0 kq a1 a2 x25_5 a0_0 a0_1 l0_2 l0_3 l0_4 l0_5 = some (r1,r2,r3,r4,r5,r6,r7,r8)) ∧ Aside0 (kq ≤ k) ∧ Aside0 (wc.heap[gb506]? = some (.cells #[.int .i64 a0_0,.int .i64 a0_1,(.slice A0_2 l0_2.length c0_2),(.slice A0_3 l0_3.length c0_3),(.slice A0_4 l0_4.length c0_4),(.slice A0_5 l0_5.length c0_5)] 33 (0,0))) ∧ Aside0 (wc.heap[gb507]? = some (.cells #[.int .i64 0,.int .i64 0,(.slice none 0 0),(.slice none 0 0),(.slice none 0 0),(.slice none 0 0)] 33 (0,0))) ∧ Aside0 (Below w.heap.size w wc))
 case first =>
  have H:=HC6.out
  clear HC6
  by_cases c12 : a1 < 0
  ·rw [if_pos c12] at H
   have c12b0 : decide (a1 < 0) = true:=decide_eq_true c12
   clear c12
   (first|rw [c12b0]|(simp only [i64_w,i32_w];rw [c12b0])|skip)
   have H':=Aside0.mk H
   clear H
   go_wp2
   go_meet
   case rel => exact ⟨_,(true),(by first|rfl|(simp;done)|(simp [*];done)),H',⟨by first|omega|exact Nat.le_refl _⟩,⟨blk_up BK506.out⟩,⟨blk_up BK507.out⟩,⟨hb_⟩⟩
  ·rw [if_neg c12] at H
   have c12b0 : decide (a1 < 0) = false:=decide_eq_false c12
   clear c12
   (first|rw [c12b0]|(simp only [i64_w,i32_w];rw [c12b0])|skip)
   have H':=Aside0.mk H
   clear H
   have hnb13:=NB506_507.out
   have hnc13:=NB507_506.out
   obtain ⟨_,_,_,_,_,_,_,_,_,_,_,_⟩:=cells6 BK506.out
   go_wp2
   go_meet
   case rel => exact ⟨_,(decide (a1 ≥ (l0_5.length : Int))),(by first|rfl|(simp;done)|(simp [*];done)),H',⟨by first|omega|exact Nat.le_refl _⟩,⟨blk_up BK506.out⟩,⟨blk_up BK507.out⟩,⟨hb_⟩⟩
 case rest =>
  clear HC6
  obtain ⟨kq,x25_5,rfl,HA,HJ5,BK506,BK507,HB⟩:=hcut
  cases kq with
  | zero => exact absurd HA.out (by simp [hinterlandref17_Step.j0])
  | succ kj5 =>
   have H:=HA.out
   clear HA
   simp only [hinterlandref17_Step.j0] at H
   by_cases c15 : x25_5 = true
   ·subst c15
    have H1 : (some (0,0,([] : List Int),([] : List Int),([] : List Int),([] : List (S50)),0,2)) = some (r1,r2,r3,r4,r5,r6,r7,r8):=by rw [if_pos rfl] at H;exact H
    clear H
    have H:=H1
    clear H1
    simp only [Option.some.injEq,Prod.mk.injEq] at H
    obtain ⟨rfl,rfl,rfl,rfl,rfl,rfl,rfl,rfl⟩:=H
    have hnb16:=NB507_506.out
    have hnc16:=NB506_507.out
    obtain ⟨_,_,_,_,_,_,_,_,_,_,_,_⟩:=cells6 BK507.out
    go_wp2
    refine bodyPost_ret (results_ctt rfl _ _ gb507 33 #[.int .i64 0,.int .i64 0,.slice none 0 0,.slice none 0 0,.slice none 0 0,.slice none 0 0] (0,0) _ rfl (by (with_reducible repeat (first|refine blk_drewN ?_ _|refine blk_drew ?_|refine blk_alloc ?_ _));exact blk_puts6 (blk_up BK507.out)) Try.underlying33 rfl (by kernel_rfl)) rfl ?_
    exact ⟨_,_,_,_,er_,nl_,nl_,nl_,nl_,hb_⟩
   ·replace c15:=Bool.eq_false_iff.mpr c15
    subst c15
    have H1 : ((hinterlandref17_Copy.f a0_0 a0_1 l0_2 l0_3 l0_4 l0_5).bind fun bt509 => ((hinterlandref17_step.f kj5 bt509.1 bt509.2.1 bt509.2.2.1 bt509.2.2.2.1 bt509.2.2.2.2.1 bt509.2.2.2.2.2 a1 a2).bind fun bt523 => (some (bt509.1,bt509.2.1,bt509.2.2.1,bt509.2.2.2.1,bt509.2.2.2.2.1,bt523.2,bt523.1,0)))) = some (r1,r2,r3,r4,r5,r6,r7,r8):=by rw [if_neg (show ¬ (false = true) by decide)] at H;exact H
    clear H
    have H:=H1
    clear H1
    replace H:=Option.bind_eq_some_iff.mp H
    obtain ⟨⟨t509,t510,t511,t514,t517,t520⟩,A180,H⟩:=H
    replace H : ((hinterlandref17_step.f kj5 t509 t510 t511 t514 t517 t520 a1 a2).bind fun bt523 => (some (t509,t510,t511,t514,t517,bt523.2,bt523.1,0))) = some (r1,r2,r3,r4,r5,r6,r7,r8):=H
    have A18:=Aside0.mk A180
    clear A180
    replace H:=Option.bind_eq_some_iff.mp H
    obtain ⟨⟨t523,t524⟩,A190,H⟩:=H
    replace H : (some (t509,t510,t511,t514,t517,t524,t523,0)) = some (r1,r2,r3,r4,r5,r6,r7,r8):=H
    have A19:=Aside0.mk A190
    clear A190
    simp only [Option.some.injEq,Prod.mk.injEq] at H
    obtain ⟨rfl,rfl,rfl,rfl,rfl,rfl,rfl,rfl⟩:=H
    have hnb20:=NB506_507.out
    have hnc20:=NB507_506.out
    obtain ⟨_,_,_,_,_,_,_,_,_,_,_,_⟩:=cells6 BK506.out
    go_wp2_with (first|((with_reducible refine gate_callee (f:=44) rfl ?_);refine goesL_ (some 28) rfl rfl Try.func44 (by kernel_rfl) rfl #[.agg #[.int .i64 a0_0,.int .i64 a0_1,.slice A0_2 l0_2.length c0_2,.slice A0_3 l0_3.length c0_3,.slice A0_4 l0_4.length c0_4,.slice A0_5 l0_5.length c0_5]] rfl ga_ ?_;(with_reducible refine (hinterlandref17_Copy.calls a0_0 a0_1 _ _ l0_2 _ _ l0_3 _ _ l0_4 _ _ l0_5 t509 t510 t511 t514 t517 t520 _ ?_ ?_ ?_ ?_ ?_ ?_ ?_ ?_ A18.out).mono ?_);exact cq HR0_2;exact HC0_2.out;exact cq HR0_3;exact HC0_3.out;exact cq HR0_4;exact HC0_4.out;exact cq HR0_5;exact HC0_5.out;rintro e w22 ⟨v512,v515,v518,v521,rfl,ho0,ho1,ho2,ho3,hb⟩;refine ⟨_,rfl,?_⟩;have HO513:=rlo ho0;have HO516:=rlo ho1;have HO519:=rlo ho2;have HO522:=rlo ho3;replace BK506:=bkb BK506 hb;replace BK507:=bkb BK507 hb;replace HB:=hbs hb;obtain ⟨_,_,_,_,_,_,_,_,_,_,_,_⟩:=cells6 BK506.out;obtain ⟨Ao24,co24,eo24⟩:=Kd.R_slice HO513.out;subst eo24;obtain ⟨Ao25,co25,eo25⟩:=Kd.R_slice HO516.out;subst eo25;obtain ⟨Ao26,co26,eo26⟩:=Kd.R_slice HO519.out;subst eo26;obtain ⟨Ao27,co27,eo27⟩:=Kd.R_slice HO522.out;subst eo27)|((with_reducible refine gate_store (t:=33) (p:=3) rfl ?_);refine store_event (t:=33) (p:=3) (v:=?vo_w28) (w1:=((((((w22.setCell ⟨gb506,0,none⟩ (.int .i64 t509)).setCell ⟨gb506,1,none⟩ (.int .i64 t510)).setCell ⟨gb506,2,none⟩ (.slice Ao24 t511.length co24)).setCell ⟨gb506,3,none⟩ (.slice Ao25 t514.length co25)).setCell ⟨gb506,4,none⟩ (.slice Ao26 t517.length co26)).setCell ⟨gb506,5,none⟩ (.slice Ao27 t520.length co27))) ?hg ?ho ?hn ?hr ?_;(case ho => rfl);(case hg => rfl);(case hn => rfl);(case hr => first|(go_simp;done)|(go_simp;rfl));intro w28 hw;have n0_ : Aside0 (Kd.R (Kd.int .i64) 3 w28 w.heap.size (fun k_ => some k_ ≠ (.slice Ao25 t514.length co25 : Value).ownBlock ∧ some k_ ≠ (.slice Ao26 t517.length co26 : Value).ownBlock) (.slice Ao24 t511.length co24) t511):=⟨(by rw [hw];exact (by (with_reducible repeat (first|apply Kd.R_alloc|apply Kd.R_drewN|apply Kd.R_drew));exact Kd.R_mono (Kd.R_fars gb506 (Kd.R_types HO513.out BK506.out (by decide)) (fun _ hk => hk.2)) (fun _ hk => ⟨hk.1.1,hk.1.2⟩)))⟩;have n1_ : Aside0 (Kd.R (Kd.int .i64) 3 w28 w.heap.size (fun k_ => some k_ ≠ (.slice Ao24 t511.length co24 : Value).ownBlock ∧ some k_ ≠ (.slice Ao26 t517.length co26 : Value).ownBlock) (.slice Ao25 t514.length co25) t514):=⟨(by rw [hw];exact (by (with_reducible repeat (first|apply Kd.R_alloc|apply Kd.R_drewN|apply Kd.R_drew));exact Kd.R_mono (Kd.R_fars gb506 (Kd.R_types HO516.out BK506.out (by decide)) (fun _ hk => hk.2)) (fun _ hk => ⟨hk.1.1,hk.1.2⟩)))⟩;have n2_ : Aside0 (Kd.R (Kd.int .i64) 3 w28 w.heap.size (fun k_ => some k_ ≠ (.slice Ao24 t511.length co24 : Value).ownBlock ∧ some k_ ≠ (.slice Ao25 t514.length co25 : Value).ownBlock) (.slice Ao26 t517.length co26) t517):=⟨(by rw [hw];exact (by (with_reducible repeat (first|apply Kd.R_alloc|apply Kd.R_drewN|apply Kd.R_drew));exact Kd.R_mono (Kd.R_fars gb506 (Kd.R_types HO519.out BK506.out (by decide)) (fun _ hk => hk.2)) (fun _ hk => ⟨hk.1.1,hk.1.2⟩)))⟩;have n3_ : Aside0 (Kd.R k50 50 w28 w.heap.size (fun _ => True) (.slice Ao27 t520.length co27) t520):=⟨(by rw [hw];exact (by (with_reducible repeat (first|apply Kd.R_alloc|apply Kd.R_drewN|apply Kd.R_drew));exact Kd.R_mono (Kd.R_fars gb506 (Kd.R_types HO522.out BK506.out (by decide)) (fun _ hk => hk.2)) (fun _ hk => trivial)))⟩;have n4_ : Aside0 (w28.heap[gb506]? = some (.cells #[.int .i64 t509,.int .i64 t510,.slice Ao24 t511.length co24,.slice Ao25 t514.length co25,.slice Ao26 t517.length co26,.slice Ao27 t520.length co27] 33 (0,0))):=⟨(by rw [hw];exact (by (with_reducible repeat (first|refine blk_drewN ?_ _|refine blk_drew ?_|refine blk_alloc ?_ _));exact blk_puts6 (blk_up BK506.out)))⟩;have n5_ : Aside0 (w28.heap[gb507]? = some (.cells #[.int .i64 0,.int .i64 0,.slice none 0 0,.slice none 0 0,.slice none 0 0,.slice none 0 0] 33 (0,0))):=⟨(by rw [hw];exact (by (with_reducible repeat (first|refine blk_drewN ?_ _|refine blk_drew ?_|refine blk_alloc ?_ _));refine blk_far ?_ NB507_506.out _;(with_reducible repeat (first|refine blk_drewN ?_ _|refine blk_drew ?_|refine blk_alloc ?_ _));refine blk_far ?_ NB507_506.out _;(with_reducible repeat (first|refine blk_drewN ?_ _|refine blk_drew ?_|refine blk_alloc ?_ _));refine blk_far ?_ NB507_506.out _;(with_reducible repeat (first|refine blk_drewN ?_ _|refine blk_drew ?_|refine blk_alloc ?_ _));refine blk_far ?_ NB507_506.out _;(with_reducible repeat (first|refine blk_drewN ?_ _|refine blk_drew ?_|refine blk_alloc ?_ _));refine blk_far ?_ NB507_506.out _;(with_reducible repeat (first|refine blk_drewN ?_ _|refine blk_drew ?_|refine blk_alloc ?_ _));refine blk_far ?_ NB507_506.out _;(with_reducible repeat (first|refine blk_drewN ?_ _|refine blk_drew ?_|refine blk_alloc ?_ _));exact BK507.out))⟩;have n6_ : Aside0 (Below w.heap.size w w28):=⟨(by rw [hw];exact (hb_))⟩;clear hw;clear HO513;clear HO516;clear HO519;clear HO522;clear BK506;clear BK507;clear HB;have HO513:=n0_;have HO516:=n1_;have HO519:=n2_;have HO522:=n3_;have BK506:=n4_;have BK507:=n5_;have HB:=n6_;clear n0_ n1_ n2_ n3_ n4_ n5_ n6_;obtain ⟨_,_,_,_,_,_,_,_,_,_,_,_⟩:=cells6 BK506.out)|((with_reducible refine gate_callee (f:=49) rfl ?_);refine goesL_ (some 32) rfl rfl Try.func49 (by kernel_rfl) rfl #[.agg #[.int .i64 t509,.int .i64 t510,.slice Ao24 t511.length co24,.slice Ao25 t514.length co25,.slice Ao26 t517.length co26,.slice Ao27 t520.length co27],.int .i64 a1,.int .i64 a2] rfl ga_ ?_;(with_reducible refine (hinterlandref17_step.calls kj5 t509 t510 _ _ t511 _ _ t514 _ _ t517 (fun k_ => some k_ = (.slice Ao27 t520.length co27 : Value).ownBlock) (.slice Ao27 t520.length co27) t520 a1 a2 t523 t524 w _ ?_ ?_ ?_ ?_ ?_ ?_ ?_ ?_ A19.out).mono ?_);(focus (repeat (first|(with_reducible first|exact HB.out|apply below_alloc|apply pw_below_drewN|apply below_drew1|refine below_set ?_ GE506.out|refine below_set ?_ GE507.out)|exact HB.out)));exact Kd.C_kept_own ((Kd.R_apart' HO513.out (Kd.R_typed HO522.out) (by decide))) (fun k_ hk_ hs_ => (hk_.2) hs_);exact (Kd.R_reads' HO513.out).2.1;exact Kd.C_kept_own ((Kd.R_apart' HO516.out (Kd.R_typed HO522.out) (by decide))) (fun k_ hk_ hs_ => (hk_.2) hs_);exact (Kd.R_reads' HO516.out).2.1;exact Kd.C_kept_own ((Kd.R_apart' HO519.out (Kd.R_typed HO522.out) (by decide))) (fun k_ hk_ hs_ => (hk_.2) hs_);exact (Kd.R_reads' HO519.out).2.1;exact Kd.R_tight rfl HO522.out;rintro e w30 ⟨rfl,hy0,hb,hkp⟩;refine ⟨_,rfl,?_⟩;replace BK506:=Aside0.mk (blk_kept (blk_up BK506.out) hkp (fun hs_ => (fun e_ => (Kd.R_ne HO522.out BK506.out (by decide)) e_) hs_));replace BK507:=Aside0.mk (blk_kept (blk_up BK507.out) hkp (fun hs_ => (fun e_ => (Kd.R_ne HO522.out BK507.out (by decide)) e_) hs_));replace HO513:=Aside0.mk (Kd.R_mono (ok':=fun k_ => some k_ ≠ (.slice Ao25 t514.length co25 : Value).ownBlock ∧ some k_ ≠ (.slice Ao26 t517.length co26 : Value).ownBlock) (Kd.R_keptB ((Kd.R_apart' HO513.out (Kd.R_typed HO522.out) (by decide))) hkp (fun k_ hk_ hs_ => (hk_.2) hs_)) (fun k_ hk_ => ⟨hk_.1.1.1,hk_.1.1.2⟩));replace HO516:=Aside0.mk (Kd.R_mono (ok':=fun k_ => some k_ ≠ (.slice Ao24 t511.length co24 : Value).ownBlock ∧ some k_ ≠ (.slice Ao26 t517.length co26 : Value).ownBlock) (Kd.R_keptB ((Kd.R_apart' HO516.out (Kd.R_typed HO522.out) (by decide))) hkp (fun k_ hk_ hs_ => (hk_.2) hs_)) (fun k_ hk_ => ⟨hk_.1.1.1,hk_.1.1.2⟩));replace HO519:=Aside0.mk (Kd.R_mono (ok':=fun k_ => some k_ ≠ (.slice Ao24 t511.length co24 : Value).ownBlock ∧ some k_ ≠ (.slice Ao25 t514.length co25 : Value).ownBlock) (Kd.R_keptB ((Kd.R_apart' HO519.out (Kd.R_typed HO522.out) (by decide))) hkp (fun k_ hk_ hs_ => (hk_.2) hs_)) (fun k_ hk_ => ⟨hk_.1.1.1,hk_.1.1.2⟩));replace HO522:=Aside0.mk (Kd.R_reok rfl hy0 (fun k_ e_ => HO522.out.1 k_ e_));replace HB:=Aside0.mk (hb);obtain ⟨_,_,_,_,_,_,_,_,_,_,_,_⟩:=cells6 BK506.out;obtain ⟨_,_,_,_,_,_,_,_,_,_,_,_⟩:=cells6 BK507.out))
    refine bodyPost_ret (results_ctt rfl _ _ gb507 33 #[.int .i64 t509,.int .i64 t510,.slice Ao24 t511.length co24,.slice Ao25 t514.length co25,.slice Ao26 t517.length co26,.slice Ao27 t520.length co27] (0,0) _ rfl (by (with_reducible repeat (first|refine blk_drewN ?_ _|refine blk_drew ?_|refine blk_alloc ?_ _));exact blk_puts6 (blk_up BK507.out)) Try.underlying33 rfl (by kernel_rfl)) rfl ?_
    exact ⟨_,_,_,_,er_,by (with_reducible repeat (first|apply Kd.R_alloc|apply Kd.R_drewN|apply Kd.R_drew));exact Kd.R_mono (Kd.R_fars gb507 (Kd.R_types HO513.out BK507.out (by decide)) (fun _ hk => hk.2)) (fun _ hk => ⟨hk.1.1,hk.1.2⟩),by (with_reducible repeat (first|apply Kd.R_alloc|apply Kd.R_drewN|apply Kd.R_drew));exact Kd.R_mono (Kd.R_fars gb507 (Kd.R_types HO516.out BK507.out (by decide)) (fun _ hk => hk.2)) (fun _ hk => ⟨hk.1.1,hk.1.2⟩),by (with_reducible repeat (first|apply Kd.R_alloc|apply Kd.R_drewN|apply Kd.R_drew));exact Kd.R_mono (Kd.R_fars gb507 (Kd.R_types HO519.out BK507.out (by decide)) (fun _ hk => hk.2)) (fun _ hk => ⟨hk.1.1,hk.1.2⟩),by (with_reducible repeat (first|apply Kd.R_alloc|apply Kd.R_drewN|apply Kd.R_drew));exact Kd.R_mono (Kd.R_fars gb507 (Kd.R_types HO522.out BK507.out (by decide)) (fun _ hk => hk.2)) (fun _ hk => trivial),hb_⟩

/-! ### lane_Step: function 25 -/
def lane_Step.f (k : Nat) (a0_0 : Int) (a0_1 : Int) (l0_2 : List Int) (l0_3 : List Int) (l0_4 : List Int) (l0_5 : List (S50)) (a1 : Int) (a2 : Int) : Option (Int × Int × List Int × List Int × List Int × (List (S50)) × Int × Int) := (lane_Validate.f k a0_0 a0_1 l0_2 l0_3 l0_4 l0_5).bind fun t535 => (if t535 = 0 then ((lane_within.f a1 (wrap64 ((l0_5.length : Int) - 1))).bind fun t536 => (if t536 = true then ((lane_copied.f a0_0 a0_1 l0_2 l0_3 l0_4 l0_5).bind fun bt537 => ((lane_step.f k bt537.1 bt537.2.1 bt537.2.2.1 bt537.2.2.2.1 bt537.2.2.2.2.1 bt537.2.2.2.2.2 a1 a2).bind fun bt551 => (some (bt537.1, bt537.2.1, bt537.2.2.1, bt537.2.2.2.1, bt537.2.2.2.2.1, bt551.2, bt551.1, 0)))) else (some (0, 0, ([] : List Int), ([] : List Int), ([] : List Int), ([] : List (S50)), 0, 2)))) else (some (0, 0, ([] : List Int), ([] : List Int), ([] : List Int), ([] : List (S50)), 0, t535)))
theorem lane_Step.mono : ∀ a0 a1 a2 a3 a4 a5 a6 a7 k, LeO (lane_Step.f k a0 a1 a2 a3 a4 a5 a6 a7) (lane_Step.f (k + 1) a0 a1 a2 a3 a4 a5 a6 a7) := by
 intro a0 a1 a2 a3 a4 a5 a6 a7 k
 unfold lane_Step.f
 repeat' first
   | (with_reducible exact lane_Validate.mono _ _ _ _ _ _ _)
   | (with_reducible exact lane_step.mono _ _ _ _ _ _ _ _ _)
   | (with_reducible exact LeO.refl _)
   | (with_reducible exact LeO.none _)
   | (with_reducible refine LeO.ite ?_ ?_)
   | (with_reducible refine LeO.bind ?_ (fun _ => ?_))
   | exact lane_Validate.mono _ _ _ _ _ _ _
   | exact lane_step.mono _ _ _ _ _ _ _ _ _
   | exact LeO.none _
   | refine LeO.ite ?_ ?_
   | refine LeO.bind ?_ (fun _ => ?_)
set_option maxHeartbeats 8000000 in
set_option maxRecDepth 100000 in
theorem lane_Step.calls (k : Nat) (a0_0 : Int) (a0_1 : Int) (A0_2 : Option Addr) (c0_2 : Nat) (l0_2 : List Int) (A0_3 : Option Addr) (c0_3 : Nat) (l0_3 : List Int) (A0_4 : Option Addr) (c0_4 : Nat) (l0_4 : List Int) (A0_5 : Option Addr) (c0_5 : Nat) (l0_5 : List (S50)) (a1 : Int) (a2 : Int) (r1 : Int) (r2 : Int) (r3 : List Int) (r4 : List Int) (r5 : List Int) (r6 : List (S50)) (r7 : Int) (r8 : Int) (w : World) (hr0_2 : Kd.C (Kd.int .i64) w A0_2 l0_2.length l0_2) (hc0_2 : l0_2.length ≤ c0_2) (hr0_3 : Kd.C (Kd.int .i64) w A0_3 l0_3.length l0_3) (hc0_3 : l0_3.length ≤ c0_3) (hr0_4 : Kd.C (Kd.int .i64) w A0_4 l0_4.length l0_4) (hc0_4 : l0_4.length ≤ c0_4) (hr0_5 : Kd.C k50 w A0_5 l0_5.length l0_5) (hc0_5 : l0_5.length ≤ c0_5) (h : lane_Step.f k a0_0 a0_1 l0_2 l0_3 l0_4 l0_5 a1 a2 = some (r1, r2, r3, r4, r5, r6, r7, r8)) :
  Calls Try.prog 25 #[.agg #[.int .i64 a0_0,.int .i64 a0_1,.slice A0_2 l0_2.length c0_2,.slice A0_3 l0_3.length c0_3,.slice A0_4 l0_4.length c0_4,.slice A0_5 l0_5.length c0_5],.int .i64 a1,.int .i64 a2] w fun e w' => ∃ v2_ v3_ v4_ v5_ : Value,e = .returned (.tuple #[.agg #[.int .i64 r1,.int .i64 r2,v2_,v3_,v4_,v5_],.int .i64 r7,.int .i64 r8]) ∧ Kd.R (Kd.int .i64) 3 w' w.heap.size (fun k_ => some k_ ≠ (v3_ : Value).ownBlock ∧ some k_ ≠ (v4_ : Value).ownBlock) v2_ r3 ∧ Kd.R (Kd.int .i64) 3 w' w.heap.size (fun k_ => some k_ ≠ (v2_ : Value).ownBlock ∧ some k_ ≠ (v4_ : Value).ownBlock) v3_ r4 ∧ Kd.R (Kd.int .i64) 3 w' w.heap.size (fun k_ => some k_ ≠ (v2_ : Value).ownBlock ∧ some k_ ≠ (v3_ : Value).ownBlock) v4_ r5 ∧ Kd.R k50 50 w' w.heap.size (fun _ => True) v5_ r6 ∧ Below w.heap.size w w':=by
 have hu33:=Try.underlying33
 have HR0_2:=Aside0.mk hr0_2
 have HC0_2:=Aside0.mk hc0_2
 clear hr0_2 hc0_2
 have HR0_3:=Aside0.mk hr0_3
 have HC0_3:=Aside0.mk hc0_3
 clear hr0_3 hc0_3
 have HR0_4:=Aside0.mk hr0_4
 have HC0_4:=Aside0.mk hc0_4
 clear hr0_4 hc0_4
 have HR0_5:=Aside0.mk hr0_5
 have HC0_5:=Aside0.mk hc0_5
 clear hr0_5 hc0_5
 have HB:=Aside0.mk (Below.refl w.heap.size w)
 have H : ((lane_Validate.f k a0_0 a0_1 l0_2 l0_3 l0_4 l0_5).bind fun t535 => (if t535 = 0 then ((lane_within.f a1 (wrap64 ((l0_5.length : Int) - 1))).bind fun t536 => (if t536 = true then ((lane_copied.f a0_0 a0_1 l0_2 l0_3 l0_4 l0_5).bind fun bt537 => ((lane_step.f k bt537.1 bt537.2.1 bt537.2.2.1 bt537.2.2.2.1 bt537.2.2.2.2.1 bt537.2.2.2.2.2 a1 a2).bind fun bt551 => (some (bt537.1,bt537.2.1,bt537.2.2.1,bt537.2.2.2.1,bt537.2.2.2.2.1,bt551.2,bt551.1,0)))) else (some (0,0,([] : List Int),([] : List Int),([] : List Int),([] : List (S50)),0,2)))) else (some (0,0,([] : List Int),([] : List Int),([] : List Int),([] : List (S50)),0,t535)))) = some (r1,r2,r3,r4,r5,r6,r7,r8):=h
 clear h
 replace H:=Option.bind_eq_some_iff.mp H
 obtain ⟨t535,A40,H⟩:=H
 replace H : (if t535 = 0 then ((lane_within.f a1 (wrap64 ((l0_5.length : Int) - 1))).bind fun t536 => (if t536 = true then ((lane_copied.f a0_0 a0_1 l0_2 l0_3 l0_4 l0_5).bind fun bt537 => ((lane_step.f k bt537.1 bt537.2.1 bt537.2.2.1 bt537.2.2.2.1 bt537.2.2.2.2.1 bt537.2.2.2.2.2 a1 a2).bind fun bt551 => (some (bt537.1,bt537.2.1,bt537.2.2.1,bt537.2.2.2.1,bt537.2.2.2.2.1,bt551.2,bt551.1,0)))) else (some (0,0,([] : List Int),([] : List Int),([] : List Int),([] : List (S50)),0,2)))) else (some (0,0,([] : List Int),([] : List Int),([] : List Int),([] : List (S50)),0,t535))) = some (r1,r2,r3,r4,r5,r6,r7,r8):=H
 have A4:=Aside0.mk A40
 clear A40
 by_cases c5 : t535 = 0
 rotate_left
 ·rw [if_neg c5] at H
  have c5b0:=bqf c5
  have c5b1:=bnt c5
  simp only [Option.some.injEq,Prod.mk.injEq] at H
  obtain ⟨rfl,rfl,rfl,rfl,rfl,rfl,rfl,rfl⟩:=H
  go_enter Try.func25,Try.ntmps25
  go_wp2_with (first|((with_reducible refine gate_dst (N:=3) rfl ?_);refine box_ev (N:=3) (cs:=#[.int .i64 a0_0,.int .i64 a0_1,.slice A0_2 l0_2.length c0_2,.slice A0_3 l0_3.length c0_3,.slice A0_4 l0_4.length c0_4,.slice A0_5 l0_5.length c0_5]) (t:=33) ?_;intro gb533 hg w34 hbox hb;have BK533:=Aside0.mk (hbox);have GW533 : Aside0 (w.heap.size ≤ gb533):=gsz hg;have GE533:=GW533;replace HB:=hbs hb;clear hb hbox hg)|((with_reducible refine gate_dst (N:=6) rfl ?_);refine box_ev (N:=6) (cs:=#[.int .i64 0,.int .i64 0,.slice none 0 0,.slice none 0 0,.slice none 0 0,.slice none 0 0]) (t:=33) ?_;intro gb534 hg w35 hbox hb;have BK534:=Aside0.mk (hbox);have GW534 : Aside0 (w.heap.size ≤ gb534):=gsz hg;have GE534:=GW534;have NB533_534:=nbl BK533 hg;have NB534_533:=nbr BK533 hg;replace BK533:=bkb BK533 hb;replace HB:=hbs hb;clear hb hbox hg;have hnb36:=NB533_534.out;have hnc36:=NB534_533.out;obtain ⟨_,_,_,_,_,_,_,_,_,_,_,_⟩:=cells6 BK533.out)|((with_reducible refine gate_callee (f:=18) rfl ?_);refine goesL_ (some 12) rfl rfl Try.func18 (by kernel_rfl) rfl #[.agg #[.int .i64 a0_0,.int .i64 a0_1,.slice A0_2 l0_2.length c0_2,.slice A0_3 l0_3.length c0_3,.slice A0_4 l0_4.length c0_4,.slice A0_5 l0_5.length c0_5]] rfl ga_ ?_;(with_reducible refine (lane_Validate.calls k a0_0 a0_1 _ _ l0_2 _ _ l0_3 _ _ l0_4 _ _ l0_5 t535 _ ?_ ?_ ?_ ?_ ?_ ?_ ?_ ?_ A4.out).mono ?_);exact cq HR0_2;exact HC0_2.out;exact cq HR0_3;exact HC0_3.out;exact cq HR0_4;exact HC0_4.out;exact cq HR0_5;exact HC0_5.out;rintro e w38 ⟨rfl,hb⟩;refine ⟨_,rfl,?_⟩;replace BK533:=bkb BK533 hb;replace BK534:=bkb BK534 hb;replace HB:=hbs hb;obtain ⟨_,_,_,_,_,_,_,_,_,_,_,_⟩:=cells6 BK534.out))
  refine bodyPost_ret (results_ctt rfl _ _ gb534 33 #[.int .i64 0,.int .i64 0,.slice none 0 0,.slice none 0 0,.slice none 0 0,.slice none 0 0] (0,0) _ rfl (by (with_reducible repeat (first|refine blk_drewN ?_ _|refine blk_drew ?_|refine blk_alloc ?_ _));exact blk_puts6 (blk_up BK534.out)) Try.underlying33 rfl (by kernel_rfl)) rfl ?_
  exact ⟨_,_,_,_,er_,nl_,nl_,nl_,nl_,hb_⟩
 rw [if_pos c5] at H
 have c5b0:=bqt c5
 have c5b1:=bnf c5
 clear c5
 replace H:=Option.bind_eq_some_iff.mp H
 obtain ⟨t536,A60,H⟩:=H
 replace H : (if t536 = true then ((lane_copied.f a0_0 a0_1 l0_2 l0_3 l0_4 l0_5).bind fun bt537 => ((lane_step.f k bt537.1 bt537.2.1 bt537.2.2.1 bt537.2.2.2.1 bt537.2.2.2.2.1 bt537.2.2.2.2.2 a1 a2).bind fun bt551 => (some (bt537.1,bt537.2.1,bt537.2.2.1,bt537.2.2.2.1,bt537.2.2.2.2.1,bt551.2,bt551.1,0)))) else (some (0,0,([] : List Int),([] : List Int),([] : List Int),([] : List (S50)),0,2))) = some (r1,r2,r3,r4,r5,r6,r7,r8):=H
 have A6:=Aside0.mk A60
 clear A60
 by_cases c7 : t536 = true
 ·subst c7
  have H1 : ((lane_copied.f a0_0 a0_1 l0_2 l0_3 l0_4 l0_5).bind fun bt537 => ((lane_step.f k bt537.1 bt537.2.1 bt537.2.2.1 bt537.2.2.2.1 bt537.2.2.2.2.1 bt537.2.2.2.2.2 a1 a2).bind fun bt551 => (some (bt537.1,bt537.2.1,bt537.2.2.1,bt537.2.2.2.1,bt537.2.2.2.2.1,bt551.2,bt551.1,0)))) = some (r1,r2,r3,r4,r5,r6,r7,r8):=by rw [if_pos rfl] at H;exact H
  clear H
  have H:=H1
  clear H1
  replace H:=Option.bind_eq_some_iff.mp H
  obtain ⟨⟨t537,t538,t539,t542,t545,t548⟩,A80,H⟩:=H
  replace H : ((lane_step.f k t537 t538 t539 t542 t545 t548 a1 a2).bind fun bt551 => (some (t537,t538,t539,t542,t545,bt551.2,bt551.1,0))) = some (r1,r2,r3,r4,r5,r6,r7,r8):=H
  have A8:=Aside0.mk A80
  clear A80
  replace H:=Option.bind_eq_some_iff.mp H
  obtain ⟨⟨t551,t552⟩,A90,H⟩:=H
  replace H : (some (t537,t538,t539,t542,t545,t552,t551,0)) = some (r1,r2,r3,r4,r5,r6,r7,r8):=H
  have A9:=Aside0.mk A90
  clear A90
  simp only [Option.some.injEq,Prod.mk.injEq] at H
  obtain ⟨rfl,rfl,rfl,rfl,rfl,rfl,rfl,rfl⟩:=H
  go_enter Try.func25,Try.ntmps25
  go_wp2_with (first|((with_reducible refine gate_dst (N:=3) rfl ?_);refine box_ev (N:=3) (cs:=#[.int .i64 a0_0,.int .i64 a0_1,.slice A0_2 l0_2.length c0_2,.slice A0_3 l0_3.length c0_3,.slice A0_4 l0_4.length c0_4,.slice A0_5 l0_5.length c0_5]) (t:=33) ?_;intro gb533 hg w10 hbox hb;have BK533:=Aside0.mk (hbox);have GW533 : Aside0 (w.heap.size ≤ gb533):=gsz hg;have GE533:=GW533;replace HB:=hbs hb;clear hb hbox hg)|((with_reducible refine gate_dst (N:=6) rfl ?_);refine box_ev (N:=6) (cs:=#[.int .i64 0,.int .i64 0,.slice none 0 0,.slice none 0 0,.slice none 0 0,.slice none 0 0]) (t:=33) ?_;intro gb534 hg w11 hbox hb;have BK534:=Aside0.mk (hbox);have GW534 : Aside0 (w.heap.size ≤ gb534):=gsz hg;have GE534:=GW534;have NB533_534:=nbl BK533 hg;have NB534_533:=nbr BK533 hg;replace BK533:=bkb BK533 hb;replace HB:=hbs hb;clear hb hbox hg;have hnb12:=NB533_534.out;have hnc12:=NB534_533.out;obtain ⟨_,_,_,_,_,_,_,_,_,_,_,_⟩:=cells6 BK533.out)|((with_reducible refine gate_callee (f:=18) rfl ?_);refine goesL_ (some 12) rfl rfl Try.func18 (by kernel_rfl) rfl #[.agg #[.int .i64 a0_0,.int .i64 a0_1,.slice A0_2 l0_2.length c0_2,.slice A0_3 l0_3.length c0_3,.slice A0_4 l0_4.length c0_4,.slice A0_5 l0_5.length c0_5]] rfl ga_ ?_;(with_reducible refine (lane_Validate.calls k a0_0 a0_1 _ _ l0_2 _ _ l0_3 _ _ l0_4 _ _ l0_5 t535 _ ?_ ?_ ?_ ?_ ?_ ?_ ?_ ?_ A4.out).mono ?_);exact cq HR0_2;exact HC0_2.out;exact cq HR0_3;exact HC0_3.out;exact cq HR0_4;exact HC0_4.out;exact cq HR0_5;exact HC0_5.out;rintro e w14 ⟨rfl,hb⟩;refine ⟨_,rfl,?_⟩;replace BK533:=bkb BK533 hb;replace BK534:=bkb BK534 hb;replace HB:=hbs hb;obtain ⟨_,_,_,_,_,_,_,_,_,_,_,_⟩:=cells6 BK533.out)|((with_reducible refine gate_callee (f:=37) rfl ?_);refine goesL_ (some 22) rfl rfl Try.func37 (by kernel_rfl) rfl #[.int .i64 a1,.int .i64 (wrap64 ((l0_5.length : Int) - 1))] rfl ga_ ?_;(with_reducible refine (lane_within.calls a1 (wrap64 ((l0_5.length : Int) - 1)) true _ A6.out).mono ?_);rintro e w' ⟨rfl,⟨nd,rfl⟩⟩;refine ⟨_,rfl,?_⟩;(try (rw [drewN_self w14];generalize hq_ : World.drewN w14 _ = w14;have n0_ : Aside0 (w14.heap[gb533]? = some (.cells #[.int .i64 a0_0,.int .i64 a0_1,.slice A0_2 l0_2.length c0_2,.slice A0_3 l0_3.length c0_3,.slice A0_4 l0_4.length c0_4,.slice A0_5 l0_5.length c0_5] 33 (0,0))):=⟨by rw [← hq_];exact (blk_up BK533.out)⟩;have n1_ : Aside0 (w14.heap[gb534]? = some (.cells #[.int .i64 0,.int .i64 0,.slice none 0 0,.slice none 0 0,.slice none 0 0,.slice none 0 0] 33 (0,0))):=⟨by rw [← hq_];exact (blk_up BK534.out)⟩;have n2_ : Aside0 (Below w.heap.size w w14):=⟨by rw [← hq_];exact (hb_)⟩;clear BK533 BK534 HB hq_;have BK533:=n0_;have BK534:=n1_;have HB:=n2_;clear n0_ n1_ n2_;obtain ⟨_,_,_,_,_,_,_,_,_,_,_,_⟩:=cells6 BK533.out)))|((with_reducible refine gate_callee (f:=46) rfl ?_);refine goesL_ (some 26) rfl rfl Try.func46 (by kernel_rfl) rfl #[.agg #[.int .i64 a0_0,.int .i64 a0_1,.slice A0_2 l0_2.length c0_2,.slice A0_3 l0_3.length c0_3,.slice A0_4 l0_4.length c0_4,.slice A0_5 l0_5.length c0_5]] rfl ga_ ?_;(with_reducible refine (lane_copied.calls a0_0 a0_1 _ _ l0_2 _ _ l0_3 _ _ l0_4 _ _ l0_5 t537 t538 t539 t542 t545 t548 _ ?_ ?_ ?_ ?_ ?_ ?_ ?_ ?_ A8.out).mono ?_);exact cq HR0_2;exact HC0_2.out;exact cq HR0_3;exact HC0_3.out;exact cq HR0_4;exact HC0_4.out;exact cq HR0_5;exact HC0_5.out;rintro e w16 ⟨v540,v543,v546,v549,rfl,ho0,ho1,ho2,ho3,hb⟩;refine ⟨_,rfl,?_⟩;have HO541:=rlo ho0;have HO544:=rlo ho1;have HO547:=rlo ho2;have HO550:=rlo ho3;replace BK533:=bkb BK533 hb;replace BK534:=bkb BK534 hb;replace HB:=hbs hb;obtain ⟨_,_,_,_,_,_,_,_,_,_,_,_⟩:=cells6 BK533.out;obtain ⟨Ao18,co18,eo18⟩:=Kd.R_slice HO541.out;subst eo18;obtain ⟨Ao19,co19,eo19⟩:=Kd.R_slice HO544.out;subst eo19;obtain ⟨Ao20,co20,eo20⟩:=Kd.R_slice HO547.out;subst eo20;obtain ⟨Ao21,co21,eo21⟩:=Kd.R_slice HO550.out;subst eo21)|((with_reducible refine gate_store (t:=33) (p:=3) rfl ?_);refine store_event (t:=33) (p:=3) (v:=?vo_w22) (w1:=((((((w16.setCell ⟨gb533,0,none⟩ (.int .i64 t537)).setCell ⟨gb533,1,none⟩ (.int .i64 t538)).setCell ⟨gb533,2,none⟩ (.slice Ao18 t539.length co18)).setCell ⟨gb533,3,none⟩ (.slice Ao19 t542.length co19)).setCell ⟨gb533,4,none⟩ (.slice Ao20 t545.length co20)).setCell ⟨gb533,5,none⟩ (.slice Ao21 t548.length co21))) ?hg ?ho ?hn ?hr ?_;(case ho => rfl);(case hg => rfl);(case hn => rfl);(case hr => first|(go_simp;done)|(go_simp;rfl));intro w22 hw;have n0_ : Aside0 (Kd.R (Kd.int .i64) 3 w22 w.heap.size (fun k_ => some k_ ≠ (.slice Ao19 t542.length co19 : Value).ownBlock ∧ some k_ ≠ (.slice Ao20 t545.length co20 : Value).ownBlock) (.slice Ao18 t539.length co18) t539):=⟨(by rw [hw];exact (by (with_reducible repeat (first|apply Kd.R_alloc|apply Kd.R_drewN|apply Kd.R_drew));exact Kd.R_mono (Kd.R_fars gb533 (Kd.R_types HO541.out BK533.out (by decide)) (fun _ hk => hk.2)) (fun _ hk => ⟨hk.1.1,hk.1.2⟩)))⟩;have n1_ : Aside0 (Kd.R (Kd.int .i64) 3 w22 w.heap.size (fun k_ => some k_ ≠ (.slice Ao18 t539.length co18 : Value).ownBlock ∧ some k_ ≠ (.slice Ao20 t545.length co20 : Value).ownBlock) (.slice Ao19 t542.length co19) t542):=⟨(by rw [hw];exact (by (with_reducible repeat (first|apply Kd.R_alloc|apply Kd.R_drewN|apply Kd.R_drew));exact Kd.R_mono (Kd.R_fars gb533 (Kd.R_types HO544.out BK533.out (by decide)) (fun _ hk => hk.2)) (fun _ hk => ⟨hk.1.1,hk.1.2⟩)))⟩;have n2_ : Aside0 (Kd.R (Kd.int .i64) 3 w22 w.heap.size (fun k_ => some k_ ≠ (.slice Ao18 t539.length co18 : Value).ownBlock ∧ some k_ ≠ (.slice Ao19 t542.length co19 : Value).ownBlock) (.slice Ao20 t545.length co20) t545):=⟨(by rw [hw];exact (by (with_reducible repeat (first|apply Kd.R_alloc|apply Kd.R_drewN|apply Kd.R_drew));exact Kd.R_mono (Kd.R_fars gb533 (Kd.R_types HO547.out BK533.out (by decide)) (fun _ hk => hk.2)) (fun _ hk => ⟨hk.1.1,hk.1.2⟩)))⟩;have n3_ : Aside0 (Kd.R k50 50 w22 w.heap.size (fun _ => True) (.slice Ao21 t548.length co21) t548):=⟨(by rw [hw];exact (by (with_reducible repeat (first|apply Kd.R_alloc|apply Kd.R_drewN|apply Kd.R_drew));exact Kd.R_mono (Kd.R_fars gb533 (Kd.R_types HO550.out BK533.out (by decide)) (fun _ hk => hk.2)) (fun _ hk => trivial)))⟩;have n4_ : Aside0 (w22.heap[gb533]? = some (.cells #[.int .i64 t537,.int .i64 t538,.slice Ao18 t539.length co18,.slice Ao19 t542.length co19,.slice Ao20 t545.length co20,.slice Ao21 t548.length co21] 33 (0,0))):=⟨(by rw [hw];exact (by (with_reducible repeat (first|refine blk_drewN ?_ _|refine blk_drew ?_|refine blk_alloc ?_ _));exact blk_puts6 (blk_up BK533.out)))⟩;have n5_ : Aside0 (w22.heap[gb534]? = some (.cells #[.int .i64 0,.int .i64 0,.slice none 0 0,.slice none 0 0,.slice none 0 0,.slice none 0 0] 33 (0,0))):=⟨(by rw [hw];exact (by (with_reducible repeat (first|refine blk_drewN ?_ _|refine blk_drew ?_|refine blk_alloc ?_ _));refine blk_far ?_ NB534_533.out _;(with_reducible repeat (first|refine blk_drewN ?_ _|refine blk_drew ?_|refine blk_alloc ?_ _));refine blk_far ?_ NB534_533.out _;(with_reducible repeat (first|refine blk_drewN ?_ _|refine blk_drew ?_|refine blk_alloc ?_ _));refine blk_far ?_ NB534_533.out _;(with_reducible repeat (first|refine blk_drewN ?_ _|refine blk_drew ?_|refine blk_alloc ?_ _));refine blk_far ?_ NB534_533.out _;(with_reducible repeat (first|refine blk_drewN ?_ _|refine blk_drew ?_|refine blk_alloc ?_ _));refine blk_far ?_ NB534_533.out _;(with_reducible repeat (first|refine blk_drewN ?_ _|refine blk_drew ?_|refine blk_alloc ?_ _));refine blk_far ?_ NB534_533.out _;(with_reducible repeat (first|refine blk_drewN ?_ _|refine blk_drew ?_|refine blk_alloc ?_ _));exact BK534.out))⟩;have n6_ : Aside0 (Below w.heap.size w w22):=⟨(by rw [hw];exact (hb_))⟩;clear hw;clear HO541;clear HO544;clear HO547;clear HO550;clear BK533;clear BK534;clear HB;have HO541:=n0_;have HO544:=n1_;have HO547:=n2_;have HO550:=n3_;have BK533:=n4_;have BK534:=n5_;have HB:=n6_;clear n0_ n1_ n2_ n3_ n4_ n5_ n6_;obtain ⟨_,_,_,_,_,_,_,_,_,_,_,_⟩:=cells6 BK533.out)|((with_reducible refine gate_callee (f:=50) rfl ?_);refine goesL_ (some 30) rfl rfl Try.func50 (by kernel_rfl) rfl #[.agg #[.int .i64 t537,.int .i64 t538,.slice Ao18 t539.length co18,.slice Ao19 t542.length co19,.slice Ao20 t545.length co20,.slice Ao21 t548.length co21],.int .i64 a1,.int .i64 a2] rfl ga_ ?_;(with_reducible refine (lane_step.calls k t537 t538 _ _ t539 _ _ t542 _ _ t545 (fun k_ => some k_ = (.slice Ao21 t548.length co21 : Value).ownBlock) (.slice Ao21 t548.length co21) t548 a1 a2 t551 t552 w _ ?_ ?_ ?_ ?_ ?_ ?_ ?_ ?_ A9.out).mono ?_);(focus (repeat (first|(with_reducible first|exact HB.out|apply below_alloc|apply pw_below_drewN|apply below_drew1|refine below_set ?_ GE533.out|refine below_set ?_ GE534.out)|exact HB.out)));exact Kd.C_kept_own ((Kd.R_apart' HO541.out (Kd.R_typed HO550.out) (by decide))) (fun k_ hk_ hs_ => (hk_.2) hs_);exact (Kd.R_reads' HO541.out).2.1;exact Kd.C_kept_own ((Kd.R_apart' HO544.out (Kd.R_typed HO550.out) (by decide))) (fun k_ hk_ hs_ => (hk_.2) hs_);exact (Kd.R_reads' HO544.out).2.1;exact Kd.C_kept_own ((Kd.R_apart' HO547.out (Kd.R_typed HO550.out) (by decide))) (fun k_ hk_ hs_ => (hk_.2) hs_);exact (Kd.R_reads' HO547.out).2.1;exact Kd.R_tight rfl HO550.out;rintro e w24 ⟨rfl,hy0,hb,hkp⟩;refine ⟨_,rfl,?_⟩;replace BK533:=Aside0.mk (blk_kept (blk_up BK533.out) hkp (fun hs_ => (fun e_ => (Kd.R_ne HO550.out BK533.out (by decide)) e_) hs_));replace BK534:=Aside0.mk (blk_kept (blk_up BK534.out) hkp (fun hs_ => (fun e_ => (Kd.R_ne HO550.out BK534.out (by decide)) e_) hs_));replace HO541:=Aside0.mk (Kd.R_mono (ok':=fun k_ => some k_ ≠ (.slice Ao19 t542.length co19 : Value).ownBlock ∧ some k_ ≠ (.slice Ao20 t545.length co20 : Value).ownBlock) (Kd.R_keptB ((Kd.R_apart' HO541.out (Kd.R_typed HO550.out) (by decide))) hkp (fun k_ hk_ hs_ => (hk_.2) hs_)) (fun k_ hk_ => ⟨hk_.1.1.1,hk_.1.1.2⟩));replace HO544:=Aside0.mk (Kd.R_mono (ok':=fun k_ => some k_ ≠ (.slice Ao18 t539.length co18 : Value).ownBlock ∧ some k_ ≠ (.slice Ao20 t545.length co20 : Value).ownBlock) (Kd.R_keptB ((Kd.R_apart' HO544.out (Kd.R_typed HO550.out) (by decide))) hkp (fun k_ hk_ hs_ => (hk_.2) hs_)) (fun k_ hk_ => ⟨hk_.1.1.1,hk_.1.1.2⟩));replace HO547:=Aside0.mk (Kd.R_mono (ok':=fun k_ => some k_ ≠ (.slice Ao18 t539.length co18 : Value).ownBlock ∧ some k_ ≠ (.slice Ao19 t542.length co19 : Value).ownBlock) (Kd.R_keptB ((Kd.R_apart' HO547.out (Kd.R_typed HO550.out) (by decide))) hkp (fun k_ hk_ hs_ => (hk_.2) hs_)) (fun k_ hk_ => ⟨hk_.1.1.1,hk_.1.1.2⟩));replace HO550:=Aside0.mk (Kd.R_reok rfl hy0 (fun k_ e_ => HO550.out.1 k_ e_));replace HB:=Aside0.mk (hb);obtain ⟨_,_,_,_,_,_,_,_,_,_,_,_⟩:=cells6 BK533.out;obtain ⟨_,_,_,_,_,_,_,_,_,_,_,_⟩:=cells6 BK534.out))
  refine bodyPost_ret (results_ctt rfl _ _ gb534 33 #[.int .i64 t537,.int .i64 t538,.slice Ao18 t539.length co18,.slice Ao19 t542.length co19,.slice Ao20 t545.length co20,.slice Ao21 t548.length co21] (0,0) _ rfl (by (with_reducible repeat (first|refine blk_drewN ?_ _|refine blk_drew ?_|refine blk_alloc ?_ _));exact blk_puts6 (blk_up BK534.out)) Try.underlying33 rfl (by kernel_rfl)) rfl ?_
  exact ⟨_,_,_,_,er_,by (with_reducible repeat (first|apply Kd.R_alloc|apply Kd.R_drewN|apply Kd.R_drew));exact Kd.R_mono (Kd.R_fars gb534 (Kd.R_types HO541.out BK534.out (by decide)) (fun _ hk => hk.2)) (fun _ hk => ⟨hk.1.1,hk.1.2⟩),by (with_reducible repeat (first|apply Kd.R_alloc|apply Kd.R_drewN|apply Kd.R_drew));exact Kd.R_mono (Kd.R_fars gb534 (Kd.R_types HO544.out BK534.out (by decide)) (fun _ hk => hk.2)) (fun _ hk => ⟨hk.1.1,hk.1.2⟩),by (with_reducible repeat (first|apply Kd.R_alloc|apply Kd.R_drewN|apply Kd.R_drew));exact Kd.R_mono (Kd.R_fars gb534 (Kd.R_types HO547.out BK534.out (by decide)) (fun _ hk => hk.2)) (fun _ hk => ⟨hk.1.1,hk.1.2⟩),by (with_reducible repeat (first|apply Kd.R_alloc|apply Kd.R_drewN|apply Kd.R_drew));exact Kd.R_mono (Kd.R_fars gb534 (Kd.R_types HO550.out BK534.out (by decide)) (fun _ hk => hk.2)) (fun _ hk => trivial),hb_⟩
 ·replace c7:=Bool.eq_false_iff.mpr c7
  subst c7
  have H1 : (some (0,0,([] : List Int),([] : List Int),([] : List Int),([] : List (S50)),0,2)) = some (r1,r2,r3,r4,r5,r6,r7,r8):=by rw [if_neg (show ¬ (false = true) by decide)] at H;exact H
  clear H
  have H:=H1
  clear H1
  simp only [Option.some.injEq,Prod.mk.injEq] at H
  obtain ⟨rfl,rfl,rfl,rfl,rfl,rfl,rfl,rfl⟩:=H
  go_enter Try.func25,Try.ntmps25
  go_wp2_with (first|((with_reducible refine gate_dst (N:=3) rfl ?_);refine box_ev (N:=3) (cs:=#[.int .i64 a0_0,.int .i64 a0_1,.slice A0_2 l0_2.length c0_2,.slice A0_3 l0_3.length c0_3,.slice A0_4 l0_4.length c0_4,.slice A0_5 l0_5.length c0_5]) (t:=33) ?_;intro gb533 hg w27 hbox hb;have BK533:=Aside0.mk (hbox);have GW533 : Aside0 (w.heap.size ≤ gb533):=gsz hg;have GE533:=GW533;replace HB:=hbs hb;clear hb hbox hg)|((with_reducible refine gate_dst (N:=6) rfl ?_);refine box_ev (N:=6) (cs:=#[.int .i64 0,.int .i64 0,.slice none 0 0,.slice none 0 0,.slice none 0 0,.slice none 0 0]) (t:=33) ?_;intro gb534 hg w28 hbox hb;have BK534:=Aside0.mk (hbox);have GW534 : Aside0 (w.heap.size ≤ gb534):=gsz hg;have GE534:=GW534;have NB533_534:=nbl BK533 hg;have NB534_533:=nbr BK533 hg;replace BK533:=bkb BK533 hb;replace HB:=hbs hb;clear hb hbox hg;have hnb29:=NB533_534.out;have hnc29:=NB534_533.out;obtain ⟨_,_,_,_,_,_,_,_,_,_,_,_⟩:=cells6 BK533.out)|((with_reducible refine gate_callee (f:=18) rfl ?_);refine goesL_ (some 12) rfl rfl Try.func18 (by kernel_rfl) rfl #[.agg #[.int .i64 a0_0,.int .i64 a0_1,.slice A0_2 l0_2.length c0_2,.slice A0_3 l0_3.length c0_3,.slice A0_4 l0_4.length c0_4,.slice A0_5 l0_5.length c0_5]] rfl ga_ ?_;(with_reducible refine (lane_Validate.calls k a0_0 a0_1 _ _ l0_2 _ _ l0_3 _ _ l0_4 _ _ l0_5 t535 _ ?_ ?_ ?_ ?_ ?_ ?_ ?_ ?_ A4.out).mono ?_);exact cq HR0_2;exact HC0_2.out;exact cq HR0_3;exact HC0_3.out;exact cq HR0_4;exact HC0_4.out;exact cq HR0_5;exact HC0_5.out;rintro e w31 ⟨rfl,hb⟩;refine ⟨_,rfl,?_⟩;replace BK533:=bkb BK533 hb;replace BK534:=bkb BK534 hb;replace HB:=hbs hb;obtain ⟨_,_,_,_,_,_,_,_,_,_,_,_⟩:=cells6 BK533.out)|((with_reducible refine gate_callee (f:=37) rfl ?_);refine goesL_ (some 22) rfl rfl Try.func37 (by kernel_rfl) rfl #[.int .i64 a1,.int .i64 (wrap64 ((l0_5.length : Int) - 1))] rfl ga_ ?_;(with_reducible refine (lane_within.calls a1 (wrap64 ((l0_5.length : Int) - 1)) false _ A6.out).mono ?_);rintro e w' ⟨rfl,⟨nd,rfl⟩⟩;refine ⟨_,rfl,?_⟩;(try (rw [drewN_self w31];generalize hq_ : World.drewN w31 _ = w31;have n0_ : Aside0 (w31.heap[gb533]? = some (.cells #[.int .i64 a0_0,.int .i64 a0_1,.slice A0_2 l0_2.length c0_2,.slice A0_3 l0_3.length c0_3,.slice A0_4 l0_4.length c0_4,.slice A0_5 l0_5.length c0_5] 33 (0,0))):=⟨by rw [← hq_];exact (blk_up BK533.out)⟩;have n1_ : Aside0 (w31.heap[gb534]? = some (.cells #[.int .i64 0,.int .i64 0,.slice none 0 0,.slice none 0 0,.slice none 0 0,.slice none 0 0] 33 (0,0))):=⟨by rw [← hq_];exact (blk_up BK534.out)⟩;have n2_ : Aside0 (Below w.heap.size w w31):=⟨by rw [← hq_];exact (hb_)⟩;clear BK533 BK534 HB hq_;have BK533:=n0_;have BK534:=n1_;have HB:=n2_;clear n0_ n1_ n2_;obtain ⟨_,_,_,_,_,_,_,_,_,_,_,_⟩:=cells6 BK533.out));obtain ⟨_,_,_,_,_,_,_,_,_,_,_,_⟩:=cells6 BK534.out))
  refine bodyPost_ret (results_ctt rfl _ _ gb534 33 #[.int .i64 0,.int .i64 0,.slice none 0 0,.slice none 0 0,.slice none 0 0,.slice none 0 0] (0,0) _ rfl (by (with_reducible repeat (first|refine blk_drewN ?_ _|refine blk_drew ?_|refine blk_alloc ?_ _));exact blk_puts6 (blk_up BK534.out)) Try.underlying33 rfl (by kernel_rfl)) rfl ?_
  exact ⟨_,_,_,_,er_,nl_,nl_,nl_,nl_,hb_⟩

end Go.Proofs.Ythjmdpekcleihaa.P

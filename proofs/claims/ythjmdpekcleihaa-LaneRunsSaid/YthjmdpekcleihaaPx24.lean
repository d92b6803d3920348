/- Functions of this seat as plain Lean functions, with proofs that the Go code comes to just their answers, or what stands between them and a law's statement; no conditions. (Laid by a program of this session, out of the kit's print.) -/
import Derived.Test.YthjmdpekcleihaaPx0
import Derived.Test.YthjmdpekcleihaaPx12
import Derived.Test.YthjmdpekcleihaaPx14
import Derived.Test.YthjmdpekcleihaaPx17
import Derived.Test.YthjmdpekcleihaaPx20
import Derived.Test.YthjmdpekcleihaaPx21
namespace Go.Proofs.Ythjmdpekcleihaa.P
open Go.RowKit Go.Proofs.YthjmdpekcleihaaW.PrintWords Go.Proofs.YthjmdpekcleihaaW.PrintLast Go.Proofs.YthjmdpekcleihaaW.PrintMore
attribute [local go_sem] max2_int min2_int max_two min_two max_three min_three max_four min_four   -- for this text's walks alone
set_option linter.unusedVariables false
set_option linter.unusedSimpArgs false

/-! ### hinterlandref17_Run: function 26 -/
def hinterlandref17_Run.l0 : Nat → List Int → List Int → Int → Int → Int → List Int → List Int → List Int → List (S50) → Option (Int × Int × List Int × List Int × List Int × (List (S50)) × List Int × Int)
 | 0,_,_,_,_,_,_,_,_,_ => none
 | k + 1,x1,x8,x9,x593000,x593001,x593002,x593003,x593004,x593005 => if x9 < (x1.length : Int) then (if 0 ≤ x9 then ((hinterlandref17_step.f k x593000 x593001 x593002 x593003 x593004 x593005 x9 (rd x1 x9)).bind fun bt610 => (if x8.length < 17592186044416 then (hinterlandref17_Run.l0 k x1 (x8 ++ [bt610.1]) (wrap64 (x9 + 1)) x593000 x593001 x593002 x593003 x593004 bt610.2) else (none))) else (none)) else (some (x593000,x593001,x593002,x593003,x593004,x593005,x8,0))
def hinterlandref17_Run.f (k : Nat) (a0_0 : Int) (a0_1 : Int) (l0_2 : List Int) (l0_3 : List Int) (l0_4 : List Int) (l0_5 : List (S50)) (l1 : List Int) : Option (Int × Int × List Int × List Int × List Int × (List (S50)) × List Int × Int) := (hinterlandref17_Validate.f k a0_0 a0_1 l0_2 l0_3 l0_4 l0_5).bind fun t594 => (if t594 = 0 then (if (l1.length : Int) = (l0_5.length : Int) then ((hinterlandref17_Copy.f a0_0 a0_1 l0_2 l0_3 l0_4 l0_5).bind fun bt595 => (hinterlandref17_Run.l0 k l1 ([] : List Int) 0 bt595.1 bt595.2.1 bt595.2.2.1 bt595.2.2.2.1 bt595.2.2.2.2.1 bt595.2.2.2.2.2)) else (some (0, 0, ([] : List Int), ([] : List Int), ([] : List Int), ([] : List (S50)), ([] : List Int), 8))) else (some (0, 0, ([] : List Int), ([] : List Int), ([] : List Int), ([] : List (S50)), ([] : List Int), t594)))
theorem hinterlandref17_Run.mono_l : ∀ k, (∀ y0 y1 y2 y3 y4 y5 y6 y7 y8, LeO (hinterlandref17_Run.l0 k y0 y1 y2 y3 y4 y5 y6 y7 y8) (hinterlandref17_Run.l0 (k + 1) y0 y1 y2 y3 y4 y5 y6 y7 y8))
 | 0 => fun _ _ _ _ _ _ _ _ _ r h => by simp [hinterlandref17_Run.l0] at h
 | k + 1 => by
  have ih0:=hinterlandref17_Run.mono_l k
  ·intro y0 y1 y2 y3 y4 y5 y6 y7 y8
   unfold hinterlandref17_Run.l0
   repeat' first
   | (with_reducible exact ih0 _ _ _ _ _ _ _ _ _)
   | (with_reducible exact hinterlandref17_Validate.mono _ _ _ _ _ _ _)
   | (with_reducible exact hinterlandref17_step.mono _ _ _ _ _ _ _ _ _)
   | (with_reducible exact LeO.refl _)
   | (with_reducible exact LeO.none _)
   | (with_reducible refine LeO.ite ?_ ?_)
   | (with_reducible refine LeO.bind ?_ (fun _ => ?_))
   | exact ih0 _ _ _ _ _ _ _ _ _
   | exact hinterlandref17_Validate.mono _ _ _ _ _ _ _
   | exact hinterlandref17_step.mono _ _ _ _ _ _ _ _ _
   | exact LeO.none _
   | refine LeO.ite ?_ ?_
   | refine LeO.bind ?_ (fun _ => ?_)
theorem hinterlandref17_Run.mono : ∀ a0 a1 a2 a3 a4 a5 a6 k, LeO (hinterlandref17_Run.f k a0 a1 a2 a3 a4 a5 a6) (hinterlandref17_Run.f (k + 1) a0 a1 a2 a3 a4 a5 a6) := by
 intro a0 a1 a2 a3 a4 a5 a6 k
 have ih0:=hinterlandref17_Run.mono_l k
 unfold hinterlandref17_Run.f
 repeat' first
   | (with_reducible exact ih0 _ _ _ _ _ _ _ _ _)
   | (with_reducible exact hinterlandref17_Validate.mono _ _ _ _ _ _ _)
   | (with_reducible exact hinterlandref17_step.mono _ _ _ _ _ _ _ _ _)
   | (with_reducible exact LeO.refl _)
   | (with_reducible exact LeO.none _)
   | (with_reducible refine LeO.ite ?_ ?_)
   | (with_reducible refine LeO.bind ?_ (fun _ => ?_))
   | exact ih0 _ _ _ _ _ _ _ _ _
   | exact hinterlandref17_Validate.mono _ _ _ _ _ _ _
   | exact hinterlandref17_step.mono _ _ _ _ _ _ _ _ _
   | exact LeO.none _
   | refine LeO.ite ?_ ?_
   | refine LeO.bind ?_ (fun _ => ?_)
def hinterlandref17_Run.T11 : Bool × List (List Nat × List Nat) := (true, [([], []), ([], []), ([], []), ([], []), ([], []), ([3, 4], [3, 4]), ([5], [5]), ([1, 2, 6], [1, 2, 6]), ([7], [7]), ([0, 8, 7], [0, 8]), ([9, 9, 0, 1, 2, 3, 4, 5, 6, 7, 8, 9], [0, 9])])
def hinterlandref17_Run.B11 : List Nat := [0, 0, 0, 0, 0, 24, 56, 126, 254, 511, 1023]
theorem hinterlandref17_Run.tab11 : rtab .any (opsOf Try.f26 11) = hinterlandref17_Run.T11 := by kernel_rfl
theorem hinterlandref17_Run.bits11 : waitsOk hinterlandref17_Run.T11.2 hinterlandref17_Run.B11 = true := by kernel_rfl
set_option maxHeartbeats 8000000 in
set_option maxRecDepth 100000 in
theorem hinterlandref17_Run.calls (k : Nat) (a0_0 : Int) (a0_1 : Int) (A0_2 : Option Addr) (c0_2 : Nat) (l0_2 : List Int) (A0_3 : Option Addr) (c0_3 : Nat) (l0_3 : List Int) (A0_4 : Option Addr) (c0_4 : Nat) (l0_4 : List Int) (A0_5 : Option Addr) (c0_5 : Nat) (l0_5 : List (S50)) (A1 : Option Addr) (c1 : Nat) (l1 : List Int) (r1 : Int) (r2 : Int) (r3 : List Int) (r4 : List Int) (r5 : List Int) (r6 : List (S50)) (r7 : List Int) (r8 : Int) (w : World) (hr0_2 : Kd.C (Kd.int .i64) w A0_2 l0_2.length l0_2) (hc0_2 : l0_2.length ≤ c0_2) (hr0_3 : Kd.C (Kd.int .i64) w A0_3 l0_3.length l0_3) (hc0_3 : l0_3.length ≤ c0_3) (hr0_4 : Kd.C (Kd.int .i64) w A0_4 l0_4.length l0_4) (hc0_4 : l0_4.length ≤ c0_4) (hr0_5 : Kd.C k50 w A0_5 l0_5.length l0_5) (hc0_5 : l0_5.length ≤ c0_5) (hr1 : Kd.C (Kd.int .i64) w A1 l1.length l1) (hc1 : l1.length ≤ c1) (h : hinterlandref17_Run.f k a0_0 a0_1 l0_2 l0_3 l0_4 l0_5 l1 = some (r1, r2, r3, r4, r5, r6, r7, r8)) :
  Calls Try.prog 26 #[.agg #[.int .i64 a0_0,.int .i64 a0_1,.slice A0_2 l0_2.length c0_2,.slice A0_3 l0_3.length c0_3,.slice A0_4 l0_4.length c0_4,.slice A0_5 l0_5.length c0_5],.slice A1 l1.length c1] w fun e w' => ∃ v2_ v3_ v4_ v5_ v6_ : Value,e = .returned (.tuple #[.agg #[.int .i64 r1,.int .i64 r2,v2_,v3_,v4_,v5_],v6_,.int .i64 r8]) ∧ Kd.R (Kd.int .i64) 3 w' w.heap.size (fun k_ => some k_ ≠ (v3_ : Value).ownBlock ∧ some k_ ≠ (v4_ : Value).ownBlock ∧ some k_ ≠ (v6_ : Value).ownBlock) v2_ r3 ∧ Kd.R (Kd.int .i64) 3 w' w.heap.size (fun k_ => some k_ ≠ (v2_ : Value).ownBlock ∧ some k_ ≠ (v4_ : Value).ownBlock ∧ some k_ ≠ (v6_ : Value).ownBlock) v3_ r4 ∧ Kd.R (Kd.int .i64) 3 w' w.heap.size (fun k_ => some k_ ≠ (v2_ : Value).ownBlock ∧ some k_ ≠ (v3_ : Value).ownBlock ∧ some k_ ≠ (v6_ : Value).ownBlock) v4_ r5 ∧ Kd.R k50 50 w' w.heap.size (fun _ => True) v5_ r6 ∧ Kd.R (Kd.int .i64) 3 w' w.heap.size (fun k_ => some k_ ≠ (v2_ : Value).ownBlock ∧ some k_ ≠ (v3_ : Value).ownBlock ∧ some k_ ≠ (v4_ : Value).ownBlock) v6_ r7 ∧ Below w.heap.size w w':=by
 have hu33:=Try.underlying33
 have HR0_2:=Aside0.mk hr0_2
 have HC0_2:=Aside0.mk hc0_2
 clear hr0_2 hc0_2
 have HR0_3:=Aside0.mk hr0_3
 have HC0_3:=Aside0.mk hc0_3
 clear hr0_3 hc0_3
 have HR0_4:=Aside0.mk hr0_4
 have HC0_4:=Aside0.mk hc0_4
 clear hr0_4 hc0_4
 have HR0_5:=Aside0.mk hr0_5
 have HC0_5:=Aside0.mk hc0_5
 clear hr0_5 hc0_5
 have HR1:=Aside0.mk hr1
 have HC1:=Aside0.mk hc1
 clear hr1 hc1
 have HB:=Aside0.mk (Below.refl w.heap.size w)
 have H : ((hinterlandref17_Validate.f k a0_0 a0_1 l0_2 l0_3 l0_4 l0_5).bind fun t594 => (if t594 = 0 then (if (l1.length : Int) = (l0_5.length : Int) then ((hinterlandref17_Copy.f a0_0 a0_1 l0_2 l0_3 l0_4 l0_5).bind fun bt595 => (hinterlandref17_Run.l0 k l1 ([] : List Int) 0 bt595.1 bt595.2.1 bt595.2.2.1 bt595.2.2.2.1 bt595.2.2.2.2.1 bt595.2.2.2.2.2)) else (some (0,0,([] : List Int),([] : List Int),([] : List Int),([] : List (S50)),([] : List Int),8))) else (some (0,0,([] : List Int),([] : List Int),([] : List Int),([] : List (S50)),([] : List Int),t594)))) = some (r1,r2,r3,r4,r5,r6,r7,r8):=h
 clear h
 replace H:=Option.bind_eq_some_iff.mp H
 obtain ⟨t594,A30,H⟩:=H
 replace H : (if t594 = 0 then (if (l1.length : Int) = (l0_5.length : Int) then ((hinterlandref17_Copy.f a0_0 a0_1 l0_2 l0_3 l0_4 l0_5).bind fun bt595 => (hinterlandref17_Run.l0 k l1 ([] : List Int) 0 bt595.1 bt595.2.1 bt595.2.2.1 bt595.2.2.2.1 bt595.2.2.2.2.1 bt595.2.2.2.2.2)) else (some (0,0,([] : List Int),([] : List Int),([] : List Int),([] : List (S50)),([] : List Int),8))) else (some (0,0,([] : List Int),([] : List Int),([] : List Int),([] : List (S50)),([] : List Int),t594))) = some (r1,r2,r3,r4,r5,r6,r7,r8):=H
 have A3:=Aside0.mk A30
 clear A30
 by_cases c4 : t594 = 0
 rotate_left
 ·rw [if_neg c4] at H
  have c4b0:=bqf c4
  have c4b1:=bnt c4
  simp only [Option.some.injEq,Prod.mk.injEq] at H
  obtain ⟨rfl,rfl,rfl,rfl,rfl,rfl,rfl,rfl⟩:=H
  go_enter Try.func26,Try.ntmps26
  go_wp2_with (first|((with_reducible refine gate_dst (N:=2) rfl ?_);refine box_ev (N:=2) (cs:=#[.int .i64 a0_0,.int .i64 a0_1,.slice A0_2 l0_2.length c0_2,.slice A0_3 l0_3.length c0_3,.slice A0_4 l0_4.length c0_4,.slice A0_5 l0_5.length c0_5]) (t:=33) ?_;intro gb592 hg w38 hbox hb;have BK592:=Aside0.mk (hbox);have GW592 : Aside0 (w.heap.size ≤ gb592):=gsz hg;have GE592:=GW592;replace HB:=hbs hb;clear hb hbox hg)|((with_reducible refine gate_dst (N:=4) rfl ?_);refine box_ev (N:=4) (cs:=#[.int .i64 0,.int .i64 0,.slice none 0 0,.slice none 0 0,.slice none 0 0,.slice none 0 0]) (t:=33) ?_;intro gb593 hg w39 hbox hb;have BK593:=Aside0.mk (hbox);have GW593 : Aside0 (w.heap.size ≤ gb593):=gsz hg;have GE593:=GW593;have NB592_593:=nbl BK592 hg;have NB593_592:=nbr BK592 hg;replace BK592:=bkb BK592 hb;replace HB:=hbs hb;clear hb hbox hg;have hnb40:=NB592_593.out;have hnc40:=NB593_592.out;obtain ⟨_,_,_,_,_,_,_,_,_,_,_,_⟩:=cells6 BK592.out)|((with_reducible refine gate_callee (f:=17) rfl ?_);refine goesL_ (some 11) rfl rfl Try.func17 (by kernel_rfl) rfl #[.agg #[.int .i64 a0_0,.int .i64 a0_1,.slice A0_2 l0_2.length c0_2,.slice A0_3 l0_3.length c0_3,.slice A0_4 l0_4.length c0_4,.slice A0_5 l0_5.length c0_5]] rfl ga_ ?_;(with_reducible refine (hinterlandref17_Validate.calls k a0_0 a0_1 _ _ l0_2 _ _ l0_3 _ _ l0_4 _ _ l0_5 t594 _ ?_ ?_ ?_ ?_ ?_ ?_ ?_ ?_ A3.out).mono ?_);exact cq HR0_2;exact HC0_2.out;exact cq HR0_3;exact HC0_3.out;exact cq HR0_4;exact HC0_4.out;exact cq HR0_5;exact HC0_5.out;rintro e w42 ⟨rfl,hb⟩;refine ⟨_,rfl,?_⟩;replace BK592:=bkb BK592 hb;replace BK593:=bkb BK593 hb;replace HB:=hbs hb;obtain ⟨_,_,_,_,_,_,_,_,_,_,_,_⟩:=cells6 BK593.out))
  refine bodyPost_ret (results_ctt rfl _ _ gb593 33 #[.int .i64 0,.int .i64 0,.slice none 0 0,.slice none 0 0,.slice none 0 0,.slice none 0 0] (0,0) _ rfl (by (with_reducible repeat (first|refine blk_drewN ?_ _|refine blk_drew ?_|refine blk_alloc ?_ _));exact blk_puts6 (blk_up BK593.out)) Try.underlying33 rfl (by kernel_rfl)) rfl ?_
  exact ⟨_,_,_,_,_,er_,nl_,nl_,nl_,nl_,nl_,hb_⟩
 rw [if_pos c4] at H
 have c4b0:=bqt c4
 have c4b1:=bnf c4
 clear c4
 by_cases c5 : (l1.length : Int) = (l0_5.length : Int)
 rotate_left
 ·rw [if_neg c5] at H
  have c5b0:=bqf c5
  have c5b1:=bnt c5
  have c5b2 : (l1.length == l0_5.length) = false:=by first|simpa using c5|(simp at c5 ⊢;omega)
  simp only [Option.some.injEq,Prod.mk.injEq] at H
  obtain ⟨rfl,rfl,rfl,rfl,rfl,rfl,rfl,rfl⟩:=H
  go_enter Try.func26,Try.ntmps26
  go_wp2_with (first|((with_reducible refine gate_dst (N:=2) rfl ?_);refine box_ev (N:=2) (cs:=#[.int .i64 a0_0,.int .i64 a0_1,.slice A0_2 l0_2.length c0_2,.slice A0_3 l0_3.length c0_3,.slice A0_4 l0_4.length c0_4,.slice A0_5 l0_5.length c0_5]) (t:=33) ?_;intro gb592 hg w31 hbox hb;have BK592:=Aside0.mk (hbox);have GW592 : Aside0 (w.heap.size ≤ gb592):=gsz hg;have GE592:=GW592;replace HB:=hbs hb;clear hb hbox hg)|((with_reducible refine gate_dst (N:=4) rfl ?_);refine box_ev (N:=4) (cs:=#[.int .i64 0,.int .i64 0,.slice none 0 0,.slice none 0 0,.slice none 0 0,.slice none 0 0]) (t:=33) ?_;intro gb593 hg w32 hbox hb;have BK593:=Aside0.mk (hbox);have GW593 : Aside0 (w.heap.size ≤ gb593):=gsz hg;have GE593:=GW593;have NB592_593:=nbl BK592 hg;have NB593_592:=nbr BK592 hg;replace BK592:=bkb BK592 hb;replace HB:=hbs hb;clear hb hbox hg;have hnb33:=NB592_593.out;have hnc33:=NB593_592.out;obtain ⟨_,_,_,_,_,_,_,_,_,_,_,_⟩:=cells6 BK592.out)|((with_reducible refine gate_callee (f:=17) rfl ?_);refine goesL_ (some 11) rfl rfl Try.func17 (by kernel_rfl) rfl #[.agg #[.int .i64 a0_0,.int .i64 a0_1,.slice A0_2 l0_2.length c0_2,.slice A0_3 l0_3.length c0_3,.slice A0_4 l0_4.length c0_4,.slice A0_5 l0_5.length c0_5]] rfl ga_ ?_;(with_reducible refine (hinterlandref17_Validate.calls k a0_0 a0_1 _ _ l0_2 _ _ l0_3 _ _ l0_4 _ _ l0_5 t594 _ ?_ ?_ ?_ ?_ ?_ ?_ ?_ ?_ A3.out).mono ?_);exact cq HR0_2;exact HC0_2.out;exact cq HR0_3;exact HC0_3.out;exact cq HR0_4;exact HC0_4.out;exact cq HR0_5;exact HC0_5.out;rintro e w35 ⟨rfl,hb⟩;refine ⟨_,rfl,?_⟩;replace BK592:=bkb BK592 hb;replace BK593:=bkb BK593 hb;replace HB:=hbs hb;obtain ⟨_,_,_,_,_,_,_,_,_,_,_,_⟩:=cells6 BK592.out;obtain ⟨_,_,_,_,_,_,_,_,_,_,_,_⟩:=cells6 BK593.out))
  refine bodyPost_ret (results_ctt rfl _ _ gb593 33 #[.int .i64 0,.int .i64 0,.slice none 0 0,.slice none 0 0,.slice none 0 0,.slice none 0 0] (0,0) _ rfl (by (with_reducible repeat (first|refine blk_drewN ?_ _|refine blk_drew ?_|refine blk_alloc ?_ _));exact blk_puts6 (blk_up BK593.out)) Try.underlying33 rfl (by kernel_rfl)) rfl ?_
  exact ⟨_,_,_,_,_,er_,nl_,nl_,nl_,nl_,nl_,hb_⟩
 rw [if_pos c5] at H
 have c5b0:=bqt c5
 have c5b1:=bnf c5
 have c5b2 : (l1.length == l0_5.length) = true:=by first|simpa using c5|(simp at c5 ⊢;omega)
 clear c5
 replace H:=Option.bind_eq_some_iff.mp H
 obtain ⟨⟨t595,t596,t597,t600,t603,t606⟩,A60,H⟩:=H
 replace H : (hinterlandref17_Run.l0 k l1 ([] : List Int) 0 t595 t596 t597 t600 t603 t606) = some (r1,r2,r3,r4,r5,r6,r7,r8):=H
 have A6:=Aside0.mk A60
 clear A60
 have H':=Aside0.mk H
 clear H
 go_enter Try.func26,Try.ntmps26
 go_wp2_with (first|((with_reducible refine gate_dst (N:=2) rfl ?_);refine box_ev (N:=2) (cs:=#[.int .i64 a0_0,.int .i64 a0_1,.slice A0_2 l0_2.length c0_2,.slice A0_3 l0_3.length c0_3,.slice A0_4 l0_4.length c0_4,.slice A0_5 l0_5.length c0_5]) (t:=33) ?_;intro gb592 hg w7 hbox hb;have BK592:=Aside0.mk (hbox);have GW592 : Aside0 (w.heap.size ≤ gb592):=gsz hg;have GE592:=GW592;replace HB:=hbs hb;clear hb hbox hg)|((with_reducible refine gate_dst (N:=4) rfl ?_);refine box_ev (N:=4) (cs:=#[.int .i64 0,.int .i64 0,.slice none 0 0,.slice none 0 0,.slice none 0 0,.slice none 0 0]) (t:=33) ?_;intro gb593 hg w8 hbox hb;have BK593:=Aside0.mk (hbox);have GW593 : Aside0 (w.heap.size ≤ gb593):=gsz hg;have GE593:=GW593;have NB592_593:=nbl BK592 hg;have NB593_592:=nbr BK592 hg;replace BK592:=bkb BK592 hb;replace HB:=hbs hb;clear hb hbox hg;have hnb9:=NB592_593.out;have hnc9:=NB593_592.out;obtain ⟨_,_,_,_,_,_,_,_,_,_,_,_⟩:=cells6 BK592.out)|((with_reducible refine gate_callee (f:=17) rfl ?_);refine goesL_ (some 11) rfl rfl Try.func17 (by kernel_rfl) rfl #[.agg #[.int .i64 a0_0,.int .i64 a0_1,.slice A0_2 l0_2.length c0_2,.slice A0_3 l0_3.length c0_3,.slice A0_4 l0_4.length c0_4,.slice A0_5 l0_5.length c0_5]] rfl ga_ ?_;(with_reducible refine (hinterlandref17_Validate.calls k a0_0 a0_1 _ _ l0_2 _ _ l0_3 _ _ l0_4 _ _ l0_5 t594 _ ?_ ?_ ?_ ?_ ?_ ?_ ?_ ?_ A3.out).mono ?_);exact cq HR0_2;exact HC0_2.out;exact cq HR0_3;exact HC0_3.out;exact cq HR0_4;exact HC0_4.out;exact cq HR0_5;exact HC0_5.out;rintro e w11 ⟨rfl,hb⟩;refine ⟨_,rfl,?_⟩;replace BK592:=bkb BK592 hb;replace BK593:=bkb BK593 hb;replace HB:=hbs hb;obtain ⟨_,_,_,_,_,_,_,_,_,_,_,_⟩:=cells6 BK592.out)|((with_reducible refine gate_callee (f:=44) rfl ?_);refine goesL_ (some 24) rfl rfl Try.func44 (by kernel_rfl) rfl #[.agg #[.int .i64 a0_0,.int .i64 a0_1,.slice A0_2 l0_2.length c0_2,.slice A0_3 l0_3.length c0_3,.slice A0_4 l0_4.length c0_4,.slice A0_5 l0_5.length c0_5]] rfl ga_ ?_;(with_reducible refine (hinterlandref17_Copy.calls a0_0 a0_1 _ _ l0_2 _ _ l0_3 _ _ l0_4 _ _ l0_5 t595 t596 t597 t600 t603 t606 _ ?_ ?_ ?_ ?_ ?_ ?_ ?_ ?_ A6.out).mono ?_);exact cq HR0_2;exact HC0_2.out;exact cq HR0_3;exact HC0_3.out;exact cq HR0_4;exact HC0_4.out;exact cq HR0_5;exact HC0_5.out;rintro e w13 ⟨v598,v601,v604,v607,rfl,ho0,ho1,ho2,ho3,hb⟩;refine ⟨_,rfl,?_⟩;have HO599:=rlo ho0;have HO602:=rlo ho1;have HO605:=rlo ho2;have HO608:=rlo ho3;replace BK592:=bkb BK592 hb;replace BK593:=bkb BK593 hb;replace HB:=hbs hb;obtain ⟨_,_,_,_,_,_,_,_,_,_,_,_⟩:=cells6 BK592.out;obtain ⟨Ao15,co15,eo15⟩:=Kd.R_slice HO599.out;subst eo15;obtain ⟨Ao16,co16,eo16⟩:=Kd.R_slice HO602.out;subst eo16;obtain ⟨Ao17,co17,eo17⟩:=Kd.R_slice HO605.out;subst eo17;obtain ⟨Ao18,co18,eo18⟩:=Kd.R_slice HO608.out;subst eo18))
 go_loopg [8,9] k (fun kq v8 v9 w' => ∃ (x8_1 : List Int) (x9_1 : Int) (x593005_1 : List (S50)) (u593005 : Value),v9 = .int .i64 x9_1 ∧ Aside0 (hinterlandref17_Run.l0 kq l1 x8_1 x9_1 t595 t596 t597 t600 t603 x593005_1 = some (r1,r2,r3,r4,r5,r6,r7,r8)) ∧ Aside0 (kq ≤ k) ∧ Aside0 (Kd.R (Kd.int .i64) 3 w' w.heap.size (fun k_ => some k_ ≠ ((.slice Ao15 t597.length co15) : Value).ownBlock ∧ some k_ ≠ ((.slice Ao16 t600.length co16) : Value).ownBlock ∧ some k_ ≠ ((.slice Ao17 t603.length co17) : Value).ownBlock) v8 x8_1) ∧ Aside0 (Kd.R (Kd.int .i64) 3 w' w.heap.size (fun k_ => some k_ ≠ (v8 : Value).ownBlock ∧ some k_ ≠ ((.slice Ao16 t600.length co16) : Value).ownBlock ∧ some k_ ≠ ((.slice Ao17 t603.length co17) : Value).ownBlock) (.slice Ao15 t597.length co15) t597) ∧ Aside0 (Kd.R (Kd.int .i64) 3 w' w.heap.size (fun k_ => some k_ ≠ (v8 : Value).ownBlock ∧ some k_ ≠ ((.slice Ao15 t597.length co15) : Value).ownBlock ∧ some k_ ≠ ((.slice Ao17 t603.length co17) : Value).ownBlock) (.slice Ao16 t600.length co16) t600) ∧ Aside0 (Kd.R (Kd.int .i64) 3 w' w.heap.size (fun k_ => some k_ ≠ (v8 : Value).ownBlock ∧ some k_ ≠ ((.slice Ao15 t597.length co15) : Value).ownBlock ∧ some k_ ≠ ((.slice Ao16 t600.length co16) : Value).ownBlock) (.slice Ao17 t603.length co17) t603) ∧ Aside0 (Kd.R k50 50 w' w.heap.size (fun _ => True) u593005 x593005_1) ∧ Aside0 (w'.heap[gb592]? = some (.cells #[.int .i64 t595,.int .i64 t596,(.slice Ao15 t597.length co15),(.slice Ao16 t600.length co16),(.slice Ao17 t603.length co17),u593005] 33 (0,0))) ∧ Aside0 (w'.heap[gb593]? = some (.cells #[.int .i64 0,.int .i64 0,(.slice none 0 0),(.slice none 0 0),(.slice none 0 0),(.slice none 0 0)] 33 (0,0))) ∧ Aside0 (Below w.heap.size w w'))
 case atStart => exact ⟨(([] : List Int)),(0),(t606),(.slice Ao18 t606.length co18),(by first|rfl|(simp;done)|(simp [*];done)),H',⟨Nat.le_refl _⟩,⟨nl_⟩,⟨by (with_reducible repeat (first|apply Kd.R_alloc|apply Kd.R_drewN|apply Kd.R_drew));exact Kd.R_mono (Kd.R_fars gb592 (Kd.R_types HO599.out BK592.out (by decide)) (fun _ hk => hk.2)) (fun _ hk => ⟨(by simp [Value.ownBlock]),⟨hk.1.1,hk.1.2⟩⟩)⟩,⟨by (with_reducible repeat (first|apply Kd.R_alloc|apply Kd.R_drewN|apply Kd.R_drew));exact Kd.R_mono (Kd.R_fars gb592 (Kd.R_types HO602.out BK592.out (by decide)) (fun _ hk => hk.2)) (fun _ hk => ⟨(by simp [Value.ownBlock]),⟨hk.1.1,hk.1.2⟩⟩)⟩,⟨by (with_reducible repeat (first|apply Kd.R_alloc|apply Kd.R_drewN|apply Kd.R_drew));exact Kd.R_mono (Kd.R_fars gb592 (Kd.R_types HO605.out BK592.out (by decide)) (fun _ hk => hk.2)) (fun _ hk => ⟨(by simp [Value.ownBlock]),⟨hk.1.1,hk.1.2⟩⟩)⟩,⟨by (with_reducible repeat (first|apply Kd.R_alloc|apply Kd.R_drewN|apply Kd.R_drew));exact Kd.R_mono (Kd.R_fars gb592 (Kd.R_types HO608.out BK592.out (by decide)) (fun _ hk => hk.2)) (fun _ hk => trivial)⟩,⟨by (with_reducible repeat (first|refine blk_drewN ?_ _|refine blk_drew ?_|refine blk_alloc ?_ _));exact blk_puts6 (blk_up BK592.out)⟩,⟨by (with_reducible repeat (first|refine blk_drewN ?_ _|refine blk_drew ?_|refine blk_alloc ?_ _));refine blk_far ?_ NB593_592.out _;(with_reducible repeat (first|refine blk_drewN ?_ _|refine blk_drew ?_|refine blk_alloc ?_ _));refine blk_far ?_ NB593_592.out _;(with_reducible repeat (first|refine blk_drewN ?_ _|refine blk_drew ?_|refine blk_alloc ?_ _));refine blk_far ?_ NB593_592.out _;(with_reducible repeat (first|refine blk_drewN ?_ _|refine blk_drew ?_|refine blk_alloc ?_ _));refine blk_far ?_ NB593_592.out _;(with_reducible repeat (first|refine blk_drewN ?_ _|refine blk_drew ?_|refine blk_alloc ?_ _));refine blk_far ?_ NB593_592.out _;(with_reducible repeat (first|refine blk_drewN ?_ _|refine blk_drew ?_|refine blk_alloc ?_ _));refine blk_far ?_ NB593_592.out _;(with_reducible repeat (first|refine blk_drewN ?_ _|refine blk_drew ?_|refine blk_alloc ?_ _));exact BK593.out⟩,⟨hb_⟩⟩
 case round =>
  clear H'
  obtain ⟨x8_1,x9_1,x593005_1,u593005,rfl,HA,HK1,HO_8,HO_593002,HO_593003,HO_593004,HO_593005,BK592,BK593,HB⟩:=hrel
  cases gk with
  | zero => exact absurd HA.out (by simp [hinterlandref17_Run.l0])
  | succ k1 =>
   have H:=HA.out
   clear HA
   simp only [hinterlandref17_Run.l0] at H
   by_cases c19 : x9_1 < (l1.length : Int)
   rotate_left
   ·rw [if_neg c19] at H
    have c19b0 : decide (x9_1 < (l1.length : Int)) = false:=decide_eq_false c19
    clear c19
    simp only [Option.some.injEq,Prod.mk.injEq] at H
    obtain ⟨rfl,rfl,rfl,rfl,rfl,rfl,rfl,rfl⟩:=H
    have hnb27:=NB592_593.out
    have hnc27:=NB593_592.out
    obtain ⟨_,_,_,_,_,_,_,_,_,_,_,_⟩:=cells6 BK592.out
    obtain ⟨_,_,_,_,_,_,_,_,_,_,_,_⟩:=cells6 BK593.out
    obtain ⟨Ao30,co30,eo30⟩:=Kd.R_slice HO_593005.out
    subst eo30
    go_wp2
    refine bodyPost_ret (results_ctt rfl _ _ gb593 33 #[.int .i64 t595,.int .i64 t596,.slice Ao15 t597.length co15,.slice Ao16 t600.length co16,.slice Ao17 t603.length co17,.slice Ao30 x593005_1.length co30] (0,0) _ rfl (by (with_reducible repeat (first|refine blk_drewN ?_ _|refine blk_drew ?_|refine blk_alloc ?_ _));exact blk_puts6 (blk_up BK593.out)) Try.underlying33 rfl (by kernel_rfl)) rfl ?_
    exact ⟨_,_,_,_,_,er_,by (with_reducible repeat (first|apply Kd.R_alloc|apply Kd.R_drewN|apply Kd.R_drew));exact Kd.R_mono (Kd.R_fars gb593 (Kd.R_types HO_593002.out BK593.out (by decide)) (fun _ hk => hk.2)) (fun _ hk => ⟨hk.1.2.1,⟨hk.1.2.2,hk.1.1⟩⟩),by (with_reducible repeat (first|apply Kd.R_alloc|apply Kd.R_drewN|apply Kd.R_drew));exact Kd.R_mono (Kd.R_fars gb593 (Kd.R_types HO_593003.out BK593.out (by decide)) (fun _ hk => hk.2)) (fun _ hk => ⟨hk.1.2.1,⟨hk.1.2.2,hk.1.1⟩⟩),by (with_reducible repeat (first|apply Kd.R_alloc|apply Kd.R_drewN|apply Kd.R_drew));exact Kd.R_mono (Kd.R_fars gb593 (Kd.R_types HO_593004.out BK593.out (by decide)) (fun _ hk => hk.2)) (fun _ hk => ⟨hk.1.2.1,⟨hk.1.2.2,hk.1.1⟩⟩),by (with_reducible repeat (first|apply Kd.R_alloc|apply Kd.R_drewN|apply Kd.R_drew));exact Kd.R_mono (Kd.R_fars gb593 (Kd.R_types HO_593005.out BK593.out (by decide)) (fun _ hk => hk.2)) (fun _ hk => trivial),by (with_reducible repeat (first|apply Kd.R_alloc|apply Kd.R_drewN|apply Kd.R_drew));exact Kd.R_mono (Kd.R_fars gb593 (Kd.R_types HO_8.out BK593.out (by decide)) (fun _ hk => hk.2)) (fun _ hk => ⟨hk.1.1,⟨hk.1.2.1,hk.1.2.2⟩⟩),hb_⟩
   rw [if_pos c19] at H
   have c19b0 : decide (x9_1 < (l1.length : Int)) = true:=decide_eq_true c19
   clear c19
   replace H:=ifp_ H;obtain ⟨c20,H⟩:=H
   have c20b0 : decide (0 ≤ x9_1) = true:=decide_eq_true c20
   clear c20
   replace H:=Option.bind_eq_some_iff.mp H
   obtain ⟨⟨t610,t611⟩,A210,H⟩:=H
   replace H : (if x8_1.length < 17592186044416 then (hinterlandref17_Run.l0 k1 l1 (x8_1 ++ [t610]) (wrap64 (x9_1 + 1)) t595 t596 t597 t600 t603 t611) else (none)) = some (r1,r2,r3,r4,r5,r6,r7,r8):=H
   have A21:=Aside0.mk A210
   clear A210
   replace H:=ifp_ H;obtain ⟨c22,H⟩:=H
   have LMc22:=Aside0.mk c22
   clear c22
   obtain ⟨y612,hy612⟩ : ∃ y_ : List Int,y_ = (x8_1 ++ [t610]):=⟨_,rfl⟩
   replace H : (hinterlandref17_Run.l0 k1 l1 y612 (wrap64 (x9_1 + 1)) t595 t596 t597 t600 t603 t611) = some (r1,r2,r3,r4,r5,r6,r7,r8):=by first|(rw [hy612];with_reducible exact H)|(have H2_:=(Option.bind_some _ _).symm.trans H;rw [hy612];with_reducible exact H2_)|(have H2_:=(Option.bind_some _ _).symm.trans H;with_reducible exact H2_)|with_reducible exact H|(rw [hy612];exact H)|exact H
   have Ny612:=Aside0.mk hy612
   clear hy612
   have H':=Aside0.mk H
   clear H
   try go_wp2
   replace HO_8:=Aside0.mk (Kd.R_drew HO_8.out)
   replace HO_593002:=Aside0.mk (Kd.R_drew HO_593002.out)
   replace HO_593003:=Aside0.mk (Kd.R_drew HO_593003.out)
   replace HO_593004:=Aside0.mk (Kd.R_drew HO_593004.out)
   replace HO_593005:=Aside0.mk (Kd.R_drew HO_593005.out)
   replace BK592:=Aside0.mk (blk_drew BK592.out)
   replace BK593:=Aside0.mk (blk_drew BK593.out)
   replace HB:=Aside0.mk (below_drew1 HB.out)
   have p609 : 0 ≤ (x9_1 : Int):=of_decide_eq_true (by first|(with_reducible assumption)|assumption)
   have q609 : x9_1 < (l1.length : Int):=of_decide_eq_true (by first|(with_reducible assumption)|assumption)
   obtain ⟨ad609,e609,hx609_0⟩:=Kd.at_int HR1.out x9_1 p609 q609
   have hw609_0:=hx609_0
   cases e609
   replace hx609_0:=(HB.out.cell (World.block_lt_of_cell? w _ hx609_0)).trans hx609_0
   replace p609:=eq_true p609
   replace q609:=eq_true q609
   obtain ⟨Ao24,co24,eo24⟩:=Kd.R_slice HO_593005.out
   (first|subst eo24|(injection eo24 with f1_ f2_ f3_;have f4_:=f1_.symm;have f5_:=f3_.symm;clear f1_ f2_ f3_;subst f4_;subst f5_))
   refine start_ (n:=11) (S:=fun w' => w'.cell? ⟨gb592,0,none⟩ = some (.int .i64 t595) ∧ w'.cell? ⟨gb592,1,none⟩ = some (.int .i64 t596) ∧ w'.cell? ⟨gb592,2,none⟩ = some (.slice Ao15 t597.length co15) ∧ w'.cell? ⟨gb592,3,none⟩ = some (.slice Ao16 t600.length co16) ∧ w'.cell? ⟨gb592,4,none⟩ = some (.slice Ao17 t603.length co17) ∧ w'.cell? ⟨gb592,5,none⟩ = some (.slice Ao24 x593005_1.length co24) ∧ w'.cell? (ad609.add (x9_1).toNat) = some (.int .i64 (rd l1 x9_1))) (ds:=[]) #[false,false,false,false,false,false,false,false,false,false,false] (by kernel_rfl) rfl rfl ⟨(blk_cell BK592.out 0).trans rfl,(blk_cell BK592.out 1).trans rfl,(blk_cell BK592.out 2).trans rfl,(blk_cell BK592.out 3).trans rfl,(blk_cell BK592.out 4).trans rfl,(blk_cell BK592.out 5).trans rfl,((HB.out.cell (World.block_lt_of_cell? w _ hw609_0)).trans hw609_0)⟩ (fun hHeld => ?_);refine with_tabW hinterlandref17_Run.tab11 hinterlandref17_Run.bits11 (fun HT_ HW_ => ?_)
   generalize wr.drew = w23 at HO_8 HO_593002 HO_593003 HO_593004 HO_593005 BK592 BK593 HB hx609_0 hHeld ⊢
   refine pI 0 (some 31) ?_
   refine pI 2 (some 33) ?_
   refine pI 3 (some 34) ?_
   refine pI 4 (some 35) ?_
   refine pI 5 (some 36) ?_
   refine tI7 1 (some 32) hHeld ?_
   refine tI7 6 (some 37) hHeld ?_
   refine oI 7 (some 38) (fun K hK => ?_)
   refine goes_ Try.func49 (by kernel_rfl) rfl #[.agg #[.int .i64 t595,.int .i64 t596,.slice Ao15 t597.length co15,.slice Ao16 t600.length co16,.slice Ao17 t603.length co17,.slice Ao24 x593005_1.length co24],.int .i64 x9_1,.int .i64 (rd l1 x9_1)] (by rfl) rfl rfl ga_ ?_
   with_reducible refine (hinterlandref17_step.calls k1 t595 t596 _ _ t597 _ _ t600 _ _ t603 (fun k_ => some k_ = (.slice Ao24 x593005_1.length co24 : Value).ownBlock) (.slice Ao24 x593005_1.length co24) x593005_1 x9_1 (rd l1 x9_1) t610 t611 w _ ?side1 ?side2 ?side3 ?side4 ?side5 ?side6 ?side7 ?side8 A21.out).mono ?_
   (case side1 => repeat (first|(with_reducible first|exact HB.out|apply below_alloc|apply pw_below_drewN|apply below_drew1|refine below_set ?_ GE592.out|refine below_set ?_ GE593.out)|exact HB.out))
   (case side2 => exact Kd.C_kept_own ((Kd.R_apart' HO_593002.out (Kd.R_typed HO_593005.out) (by decide))) (fun k_ hk_ hs_ => (hk_.2) hs_))
   (case side3 => exact (Kd.R_reads' HO_593002.out).2.1)
   (case side4 => exact Kd.C_kept_own ((Kd.R_apart' HO_593003.out (Kd.R_typed HO_593005.out) (by decide))) (fun k_ hk_ hs_ => (hk_.2) hs_))
   (case side5 => exact (Kd.R_reads' HO_593003.out).2.1)
   (case side6 => exact Kd.C_kept_own ((Kd.R_apart' HO_593004.out (Kd.R_typed HO_593005.out) (by decide))) (fun k_ hk_ hs_ => (hk_.2) hs_))
   (case side7 => exact (Kd.R_reads' HO_593004.out).2.1)
   (case side8 => exact Kd.R_tight rfl HO_593005.out)
   rintro e w25 ⟨rfl,hy0,hb,hkp⟩
   refine ⟨_,rfl,?_⟩
   have n0_:=Aside0.mk (Kd.R_mono (ok':=fun k_ => some k_ ≠ (.slice Ao15 t597.length co15 : Value).ownBlock ∧ some k_ ≠ (.slice Ao16 t600.length co16 : Value).ownBlock ∧ some k_ ≠ (.slice Ao17 t603.length co17 : Value).ownBlock) (Kd.R_keptB ((Kd.R_apart' HO_8.out (Kd.R_typed HO_593005.out) (by decide))) hkp (fun k_ hk_ hs_ => (hk_.2) hs_)) (fun k_ hk_ => ⟨hk_.1.1.1,hk_.1.1.2.1,hk_.1.1.2.2⟩))
   have n1_:=Aside0.mk (Kd.R_mono (ok':=fun k_ => some k_ ≠ (u8 : Value).ownBlock ∧ some k_ ≠ (.slice Ao16 t600.length co16 : Value).ownBlock ∧ some k_ ≠ (.slice Ao17 t603.length co17 : Value).ownBlock) (Kd.R_keptB ((Kd.R_apart' HO_593002.out (Kd.R_typed HO_593005.out) (by decide))) hkp (fun k_ hk_ hs_ => (hk_.2) hs_)) (fun k_ hk_ => ⟨hk_.1.1.1,hk_.1.1.2.1,hk_.1.1.2.2⟩))
   have n2_:=Aside0.mk (Kd.R_mono (ok':=fun k_ => some k_ ≠ (u8 : Value).ownBlock ∧ some k_ ≠ (.slice Ao15 t597.length co15 : Value).ownBlock ∧ some k_ ≠ (.slice Ao17 t603.length co17 : Value).ownBlock) (Kd.R_keptB ((Kd.R_apart' HO_593003.out (Kd.R_typed HO_593005.out) (by decide))) hkp (fun k_ hk_ hs_ => (hk_.2) hs_)) (fun k_ hk_ => ⟨hk_.1.1.1,hk_.1.1.2.1,hk_.1.1.2.2⟩))
   have n3_:=Aside0.mk (Kd.R_mono (ok':=fun k_ => some k_ ≠ (u8 : Value).ownBlock ∧ some k_ ≠ (.slice Ao15 t597.length co15 : Value).ownBlock ∧ some k_ ≠ (.slice Ao16 t600.length co16 : Value).ownBlock) (Kd.R_keptB ((Kd.R_apart' HO_593004.out (Kd.R_typed HO_593005.out) (by decide))) hkp (fun k_ hk_ hs_ => (hk_.2) hs_)) (fun k_ hk_ => ⟨hk_.1.1.1,hk_.1.1.2.1,hk_.1.1.2.2⟩))
   have n4_:=Aside0.mk (Kd.R_reok rfl hy0 (fun k_ e_ => HO_593005.out.1 k_ e_))
   have n5_:=Aside0.mk (blk_kept (blk_up BK592.out) hkp (fun hs_ => (fun e_ => (Kd.R_ne HO_593005.out BK592.out (by decide)) e_) hs_))
   have n6_:=Aside0.mk (blk_kept (blk_up BK593.out) hkp (fun hs_ => (fun e_ => (Kd.R_ne HO_593005.out BK593.out (by decide)) e_) hs_))
   have n7_:=Aside0.mk (hb)
   clear HO_8
   clear HO_593002
   clear HO_593003
   clear HO_593004
   clear HO_593005
   clear BK592
   clear BK593
   clear HB
   have HO_8:=n0_
   have HO_593002:=n1_
   have HO_593003:=n2_
   have HO_593004:=n3_
   have HO_593005:=n4_
   have BK592:=n5_
   have BK593:=n6_
   have HB:=n7_
   clear n0_ n1_ n2_ n3_ n4_ n5_ n6_ n7_
   (try clear hb)
   (try clear hkp)
   (try clear hy0)
   refine hK.out _ _ ⟨(blk_cell BK592.out 0).trans rfl,(blk_cell BK592.out 1).trans rfl,(blk_cell BK592.out 2).trans rfl,(blk_cell BK592.out 3).trans rfl,(blk_cell BK592.out 4).trans rfl,(blk_cell BK592.out 5).trans rfl,((HB.out.cell (World.block_lt_of_cell? w _ hw609_0)).trans hw609_0)⟩ (fun hHeld => ?_)
   clear hK K
   refine norm_ (a':=?_) ?_ ?_
   rotate_left
   ·show Act.put _ (some 38) _ = _
    simp only [Act.put,List.setIfInBounds_toArray,List.set_cons_zero,List.set_cons_succ,i64_w,i32_w]
    rfl
   refine oI 8 (some 39) (fun K hK => ?_)
   refine value_ (w1:=?_) (v:=?_) (by rfl) rfl ?_ ?_
   rotate_left 2
   ·go_simp
    constructor
    ·rfl
    ·rfl
   refine hK.out _ _ ⟨(blk_cell (blk_alloc BK592.out _) 0).trans rfl,(blk_cell (blk_alloc BK592.out _) 1).trans rfl,(blk_cell (blk_alloc BK592.out _) 2).trans rfl,(blk_cell (blk_alloc BK592.out _) 3).trans rfl,(blk_cell (blk_alloc BK592.out _) 4).trans rfl,(blk_cell (blk_alloc BK592.out _) 5).trans rfl,(World.cell?_alloc_lt _ _ _ (World.block_lt_of_cell? _ _ (((HB.out.cell (World.block_lt_of_cell? w _ hw609_0)).trans hw609_0)))).trans (((HB.out.cell (World.block_lt_of_cell? w _ hw609_0)).trans hw609_0))⟩ (fun hHeld => ?_)
   clear hK K
   refine norm_ (a':=?_) ?_ ?_
   rotate_left
   ·show Act.put _ (some 39) _ = _
    simp only [Act.put,List.setIfInBounds_toArray,List.set_cons_zero,List.set_cons_succ,i64_w,i32_w]
    rfl
   refine oI 9 (some 40) (fun K hK => ?_)
   refine Kd.R_append_step (Kd.int .i64) (w0:=w) w.heap.size (by rfl) (.tmp 31) (.tmp 39) 22 3 (.int .i64 0) 8 rfl Try.underlying22 info3 rfl (by decide) (by omega) u8 x8_1 t610 [.int .i64 t610] (fun k_ => some k_ ≠ (.slice Ao15 t597.length co15 : Value).ownBlock ∧ some k_ ≠ (.slice Ao16 t600.length co16 : Value).ownBlock ∧ some k_ ≠ (.slice Ao17 t603.length co17 : Value).ownBlock) (fun _ => False) rfl rfl ?aP (fun _ hk => hk.elim) ?aF ?aO ?aB ?aS ?aL ?_
   (case aP => exact rfl)
   (case aB => exact (hb_))
   (case aF => exact (fun k_ hk => ⟨Kd.fresh' (Kd.R_lt (Kd.R_up HO_593002.out)) k_ hk,Kd.fresh' (Kd.R_lt (Kd.R_up HO_593003.out)) k_ hk,Kd.fresh' (Kd.R_lt (Kd.R_up HO_593004.out)) k_ hk⟩))
   (case aO => exact (Kd.R_up HO_8.out))
   (case aS => exact (below_size (hb_)))
   (case aL => have:=LMc22.out;omega)
   intro v613 w26 ho hb hg hat
   rw [← Ny612.out] at ho
   have n0_:=Aside0.mk (Kd.R_after (ok:=(fun k_ => some k_ ≠ (.slice Ao16 t600.length co16 : Value).ownBlock ∧ some k_ ≠ (.slice Ao17 t603.length co17 : Value).ownBlock)) (by (with_reducible repeat (first|apply Kd.R_alloc|apply Kd.R_drewN|apply Kd.R_drew));exact Kd.R_mono HO_593002.out (fun _ hk => ⟨⟨hk.2.1,hk.2.2⟩,hk.1⟩)) hg hat)
   have n1_:=Aside0.mk (Kd.R_after (ok:=(fun k_ => some k_ ≠ (.slice Ao15 t597.length co15 : Value).ownBlock ∧ some k_ ≠ (.slice Ao17 t603.length co17 : Value).ownBlock)) (by (with_reducible repeat (first|apply Kd.R_alloc|apply Kd.R_drewN|apply Kd.R_drew));exact Kd.R_mono HO_593003.out (fun _ hk => ⟨⟨hk.2.1,hk.2.2⟩,hk.1⟩)) hg hat)
   have n2_:=Aside0.mk (Kd.R_after (ok:=(fun k_ => some k_ ≠ (.slice Ao15 t597.length co15 : Value).ownBlock ∧ some k_ ≠ (.slice Ao16 t600.length co16 : Value).ownBlock)) (by (with_reducible repeat (first|apply Kd.R_alloc|apply Kd.R_drewN|apply Kd.R_drew));exact Kd.R_mono HO_593004.out (fun _ hk => ⟨⟨hk.2.1,hk.2.2⟩,hk.1⟩)) hg hat)
   have n3_:=Aside0.mk (Kd.R_over' (Kd.R_up HO_593005.out) (Kd.R_typed (Kd.R_up HO_8.out)) (by decide) hg)
   have n4_:=Aside0.mk (blk_grown (blk_up BK592.out) hg (Kd.R_ne HO_8.out BK592.out (by decide)))
   have n5_:=Aside0.mk (blk_grown (blk_up BK593.out) hg (Kd.R_ne HO_8.out BK593.out (by decide)))
   have n6_:=Aside0.mk (hb)
   have n7_:=Aside0.mk (ho)
   clear HO_593002
   clear HO_593003
   clear HO_593004
   clear HO_593005
   clear BK592
   clear BK593
   clear HB
   clear HO_8
   have HO_593002:=n0_
   have HO_593003:=n1_
   have HO_593004:=n2_
   have HO_593005:=n3_
   have BK592:=n4_
   have BK593:=n5_
   have HB:=n6_
   have HO614:=n7_
   clear n0_ n1_ n2_ n3_ n4_ n5_ n6_ n7_
   clear ho hb hg hat
   refine hK.out _ _ ⟨(blk_cell BK592.out 0).trans rfl,(blk_cell BK592.out 1).trans rfl,(blk_cell BK592.out 2).trans rfl,(blk_cell BK592.out 3).trans rfl,(blk_cell BK592.out 4).trans rfl,(blk_cell BK592.out 5).trans rfl,((HB.out.cell (World.block_lt_of_cell? w _ hw609_0)).trans hw609_0)⟩ (fun hHeld => ?_)
   clear hK K
   refine norm_ (a':=?_) ?_ ?_
   rotate_left
   ·show Act.put _ (some 40) _ = _
    simp only [Act.put,List.setIfInBounds_toArray,List.set_cons_zero,List.set_cons_succ,i64_w,i32_w]
    rfl
   refine pI 10 (some 8) ?_
   refine done_ (done_of HT_.out (by kernel_rfl)) ?_
   try go_wp2
   go_roundg k1
   case measure => have:=HK1.out;omega
   case rel => exact ⟨(y612),(wrap64 (x9_1 + 1)),(t611),(.slice Ao24 x593005_1.length co24),(by first|rfl|(simp;done)|(simp [*];done)),H',⟨by have:=HK1.out;omega⟩,⟨Kd.R_up HO614.out⟩,⟨by (with_reducible repeat (first|apply Kd.R_alloc|apply Kd.R_drewN|apply Kd.R_drew));exact Kd.R_mono HO_593002.out (fun _ hk => ⟨hk.2,⟨hk.1.1,hk.1.2⟩⟩)⟩,⟨by (with_reducible repeat (first|apply Kd.R_alloc|apply Kd.R_drewN|apply Kd.R_drew));exact Kd.R_mono HO_593003.out (fun _ hk => ⟨hk.2,⟨hk.1.1,hk.1.2⟩⟩)⟩,⟨by (with_reducible repeat (first|apply Kd.R_alloc|apply Kd.R_drewN|apply Kd.R_drew));exact Kd.R_mono HO_593004.out (fun _ hk => ⟨hk.2,⟨hk.1.1,hk.1.2⟩⟩)⟩,⟨Kd.R_up HO_593005.out⟩,⟨blk_up BK592.out⟩,⟨blk_up BK593.out⟩,⟨hb_⟩⟩

/-! ### lane_Run: function 27 -/
def lane_Run.l0 : Nat → List Int → List Int → Int → Int → Int → Int → List Int → List Int → List Int → List (S50) → Option (Int × Int × List Int × List Int × List Int × (List (S50)) × List Int × Int)
 | 0,_,_,_,_,_,_,_,_,_,_ => none
 | k + 1,x8,x29,x30,x31,x616000,x616001,x616002,x616003,x616004,x616005 => if x31 < x30 then (if 0 ≤ x31 then (if x31 < (x29.length : Int) then ((lane_step.f k x616000 x616001 x616002 x616003 x616004 x616005 x31 (rd x29 x31)).bind fun bt636 => (if x31 < (x8.length : Int) then (lane_Run.l0 k (x8.set (x31 : Int).toNat bt636.1) x29 x30 (wrap64 (x31 + 1)) x616000 x616001 x616002 x616003 x616004 bt636.2) else (none))) else (none)) else (none)) else (some (x616000,x616001,x616002,x616003,x616004,x616005,x8,0))
def lane_Run.f (k : Nat) (a0_0 : Int) (a0_1 : Int) (l0_2 : List Int) (l0_3 : List Int) (l0_4 : List Int) (l0_5 : List (S50)) (l1 : List Int) : Option (Int × Int × List Int × List Int × List Int × (List (S50)) × List Int × Int) := (lane_Validate.f k a0_0 a0_1 l0_2 l0_3 l0_4 l0_5).bind fun t617 => (if t617 = 0 then (if (l1.length : Int) = (l0_5.length : Int) then ((lane_copied.f a0_0 a0_1 l0_2 l0_3 l0_4 l0_5).bind fun bt618 => (if 0 ≤ (l1.length : Int) then (if ((l1.length : Int) : Int).toNat ≤ 35184372088832 then (lane_Run.l0 k (List.replicate ((l1.length : Int) : Int).toNat 0) l1 (l1.length : Int) 0 bt618.1 bt618.2.1 bt618.2.2.1 bt618.2.2.2.1 bt618.2.2.2.2.1 bt618.2.2.2.2.2) else (none)) else (none))) else (some (0, 0, ([] : List Int), ([] : List Int), ([] : List Int), ([] : List (S50)), ([] : List Int), 8))) else (some (0, 0, ([] : List Int), ([] : List Int), ([] : List Int), ([] : List (S50)), ([] : List Int), t617)))
theorem lane_Run.mono_l : ∀ k, (∀ y0 y1 y2 y3 y4 y5 y6 y7 y8 y9, LeO (lane_Run.l0 k y0 y1 y2 y3 y4 y5 y6 y7 y8 y9) (lane_Run.l0 (k + 1) y0 y1 y2 y3 y4 y5 y6 y7 y8 y9))
 | 0 => fun _ _ _ _ _ _ _ _ _ _ r h => by simp [lane_Run.l0] at h
 | k + 1 => by
  have ih0:=lane_Run.mono_l k
  ·intro y0 y1 y2 y3 y4 y5 y6 y7 y8 y9
   unfold lane_Run.l0
   repeat' first
   | (with_reducible exact ih0 _ _ _ _ _ _ _ _ _ _)
   | (with_reducible exact lane_Validate.mono _ _ _ _ _ _ _)
   | (with_reducible exact lane_step.mono _ _ _ _ _ _ _ _ _)
   | (with_reducible exact LeO.refl _)
   | (with_reducible exact LeO.none _)
   | (with_reducible refine LeO.ite ?_ ?_)
   | (with_reducible refine LeO.bind ?_ (fun _ => ?_))
   | exact ih0 _ _ _ _ _ _ _ _ _ _
   | exact lane_Validate.mono _ _ _ _ _ _ _
   | exact lane_step.mono _ _ _ _ _ _ _ _ _
   | exact LeO.none _
   | refine LeO.ite ?_ ?_
   | refine LeO.bind ?_ (fun _ => ?_)
theorem lane_Run.mono : ∀ a0 a1 a2 a3 a4 a5 a6 k, LeO (lane_Run.f k a0 a1 a2 a3 a4 a5 a6) (lane_Run.f (k + 1) a0 a1 a2 a3 a4 a5 a6) := by
 intro a0 a1 a2 a3 a4 a5 a6 k
 have ih0:=lane_Run.mono_l k
 unfold lane_Run.f
 repeat' first
   | (with_reducible exact ih0 _ _ _ _ _ _ _ _ _ _)
   | (with_reducible exact lane_Validate.mono _ _ _ _ _ _ _)
   | (with_reducible exact lane_step.mono _ _ _ _ _ _ _ _ _)
   | (with_reducible exact LeO.refl _)
   | (with_reducible exact LeO.none _)
   | (with_reducible refine LeO.ite ?_ ?_)
   | (with_reducible refine LeO.bind ?_ (fun _ => ?_))
   | exact ih0 _ _ _ _ _ _ _ _ _ _
   | exact lane_Validate.mono _ _ _ _ _ _ _
   | exact lane_step.mono _ _ _ _ _ _ _ _ _
   | exact LeO.none _
   | refine LeO.ite ?_ ?_
   | refine LeO.bind ?_ (fun _ => ?_)
set_option maxHeartbeats 8000000 in
set_option maxRecDepth 100000 in
theorem lane_Run.calls (k : Nat) (a0_0 : Int) (a0_1 : Int) (A0_2 : Option Addr) (c0_2 : Nat) (l0_2 : List Int) (A0_3 : Option Addr) (c0_3 : Nat) (l0_3 : List Int) (A0_4 : Option Addr) (c0_4 : Nat) (l0_4 : List Int) (A0_5 : Option Addr) (c0_5 : Nat) (l0_5 : List (S50)) (A1 : Option Addr) (c1 : Nat) (l1 : List Int) (r1 : Int) (r2 : Int) (r3 : List Int) (r4 : List Int) (r5 : List Int) (r6 : List (S50)) (r7 : List Int) (r8 : Int) (w : World) (hr0_2 : Kd.C (Kd.int .i64) w A0_2 l0_2.length l0_2) (hc0_2 : l0_2.length ≤ c0_2) (hr0_3 : Kd.C (Kd.int .i64) w A0_3 l0_3.length l0_3) (hc0_3 : l0_3.length ≤ c0_3) (hr0_4 : Kd.C (Kd.int .i64) w A0_4 l0_4.length l0_4) (hc0_4 : l0_4.length ≤ c0_4) (hr0_5 : Kd.C k50 w A0_5 l0_5.length l0_5) (hc0_5 : l0_5.length ≤ c0_5) (hr1 : Kd.C (Kd.int .i64) w A1 l1.length l1) (hc1 : l1.length ≤ c1) (h : lane_Run.f k a0_0 a0_1 l0_2 l0_3 l0_4 l0_5 l1 = some (r1, r2, r3, r4, r5, r6, r7, r8)) :
  Calls Try.prog 27 #[.agg #[.int .i64 a0_0,.int .i64 a0_1,.slice A0_2 l0_2.length c0_2,.slice A0_3 l0_3.length c0_3,.slice A0_4 l0_4.length c0_4,.slice A0_5 l0_5.length c0_5],.slice A1 l1.length c1] w fun e w' => ∃ v2_ v3_ v4_ v5_ v6_ : Value,e = .returned (.tuple #[.agg #[.int .i64 r1,.int .i64 r2,v2_,v3_,v4_,v5_],v6_,.int .i64 r8]) ∧ Kd.R (Kd.int .i64) 3 w' w.heap.size (fun k_ => some k_ ≠ (v3_ : Value).ownBlock ∧ some k_ ≠ (v4_ : Value).ownBlock ∧ some k_ ≠ (v6_ : Value).ownBlock) v2_ r3 ∧ Kd.R (Kd.int .i64) 3 w' w.heap.size (fun k_ => some k_ ≠ (v2_ : Value).ownBlock ∧ some k_ ≠ (v4_ : Value).ownBlock ∧ some k_ ≠ (v6_ : Value).ownBlock) v3_ r4 ∧ Kd.R (Kd.int .i64) 3 w' w.heap.size (fun k_ => some k_ ≠ (v2_ : Value).ownBlock ∧ some k_ ≠ (v3_ : Value).ownBlock ∧ some k_ ≠ (v6_ : Value).ownBlock) v4_ r5 ∧ Kd.R k50 50 w' w.heap.size (fun _ => True) v5_ r6 ∧ Kd.R (Kd.int .i64) 3 w' w.heap.size (fun k_ => some k_ ≠ (v2_ : Value).ownBlock ∧ some k_ ≠ (v3_ : Value).ownBlock ∧ some k_ ≠ (v4_ : Value).ownBlock) v6_ r7 ∧ Below w.heap.size w w':=by
 have hu33:=Try.underlying33
 have HR0_2:=Aside0.mk hr0_2
 have HC0_2:=Aside0.mk hc0_2
 clear hr0_2 hc0_2
 have HR0_3:=Aside0.mk hr0_3
 have HC0_3:=Aside0.mk hc0_3
 clear hr0_3 hc0_3
 have HR0_4:=Aside0.mk hr0_4
 have HC0_4:=Aside0.mk hc0_4
 clear hr0_4 hc0_4
 have HR0_5:=Aside0.mk hr0_5
 have HC0_5:=Aside0.mk hc0_5
 clear hr0_5 hc0_5
 have HR1:=Aside0.mk hr1
 have HC1:=Aside0.mk hc1
 clear hr1 hc1
 have HB:=Aside0.mk (Below.refl w.heap.size w)
 have H : ((lane_Validate.f k a0_0 a0_1 l0_2 l0_3 l0_4 l0_5).bind fun t617 => (if t617 = 0 then (if (l1.length : Int) = (l0_5.length : Int) then ((lane_copied.f a0_0 a0_1 l0_2 l0_3 l0_4 l0_5).bind fun bt618 => (if 0 ≤ (l1.length : Int) then (if ((l1.length : Int) : Int).toNat ≤ 35184372088832 then (lane_Run.l0 k (List.replicate ((l1.length : Int) : Int).toNat 0) l1 (l1.length : Int) 0 bt618.1 bt618.2.1 bt618.2.2.1 bt618.2.2.2.1 bt618.2.2.2.2.1 bt618.2.2.2.2.2) else (none)) else (none))) else (some (0,0,([] : List Int),([] : List Int),([] : List Int),([] : List (S50)),([] : List Int),8))) else (some (0,0,([] : List Int),([] : List Int),([] : List Int),([] : List (S50)),([] : List Int),t617)))) = some (r1,r2,r3,r4,r5,r6,r7,r8):=h
 clear h
 replace H:=Option.bind_eq_some_iff.mp H
 obtain ⟨t617,A30,H⟩:=H
 replace H : (if t617 = 0 then (if (l1.length : Int) = (l0_5.length : Int) then ((lane_copied.f a0_0 a0_1 l0_2 l0_3 l0_4 l0_5).bind fun bt618 => (if 0 ≤ (l1.length : Int) then (if ((l1.length : Int) : Int).toNat ≤ 35184372088832 then (lane_Run.l0 k (List.replicate ((l1.length : Int) : Int).toNat 0) l1 (l1.length : Int) 0 bt618.1 bt618.2.1 bt618.2.2.1 bt618.2.2.2.1 bt618.2.2.2.2.1 bt618.2.2.2.2.2) else (none)) else (none))) else (some (0,0,([] : List Int),([] : List Int),([] : List Int),([] : List (S50)),([] : List Int),8))) else (some (0,0,([] : List Int),([] : List Int),([] : List Int),([] : List (S50)),([] : List Int),t617))) = some (r1,r2,r3,r4,r5,r6,r7,r8):=H
 have A3:=Aside0.mk A30
 clear A30
 by_cases c4 : t617 = 0
 rotate_left
 ·rw [if_neg c4] at H
  have c4b0:=bqf c4
  have c4b1:=bnt c4
  simp only [Option.some.injEq,Prod.mk.injEq] at H
  obtain ⟨rfl,rfl,rfl,rfl,rfl,rfl,rfl,rfl⟩:=H
  go_enter Try.func27,Try.ntmps27
  go_wp2_with (first|((with_reducible refine gate_dst (N:=2) rfl ?_);refine box_ev (N:=2) (cs:=#[.int .i64 a0_0,.int .i64 a0_1,.slice A0_2 l0_2.length c0_2,.slice A0_3 l0_3.length c0_3,.slice A0_4 l0_4.length c0_4,.slice A0_5 l0_5.length c0_5]) (t:=33) ?_;intro gb615 hg w46 hbox hb;have BK615:=Aside0.mk (hbox);have GW615 : Aside0 (w.heap.size ≤ gb615):=gsz hg;have GE615:=GW615;replace HB:=hbs hb;clear hb hbox hg)|((with_reducible refine gate_dst (N:=4) rfl ?_);refine box_ev (N:=4) (cs:=#[.int .i64 0,.int .i64 0,.slice none 0 0,.slice none 0 0,.slice none 0 0,.slice none 0 0]) (t:=33) ?_;intro gb616 hg w47 hbox hb;have BK616:=Aside0.mk (hbox);have GW616 : Aside0 (w.heap.size ≤ gb616):=gsz hg;have GE616:=GW616;have NB615_616:=nbl BK615 hg;have NB616_615:=nbr BK615 hg;replace BK615:=bkb BK615 hb;replace HB:=hbs hb;clear hb hbox hg;have hnb48:=NB615_616.out;have hnc48:=NB616_615.out;obtain ⟨_,_,_,_,_,_,_,_,_,_,_,_⟩:=cells6 BK615.out)|((with_reducible refine gate_callee (f:=18) rfl ?_);refine goesL_ (some 12) rfl rfl Try.func18 (by kernel_rfl) rfl #[.agg #[.int .i64 a0_0,.int .i64 a0_1,.slice A0_2 l0_2.length c0_2,.slice A0_3 l0_3.length c0_3,.slice A0_4 l0_4.length c0_4,.slice A0_5 l0_5.length c0_5]] rfl ga_ ?_;(with_reducible refine (lane_Validate.calls k a0_0 a0_1 _ _ l0_2 _ _ l0_3 _ _ l0_4 _ _ l0_5 t617 _ ?_ ?_ ?_ ?_ ?_ ?_ ?_ ?_ A3.out).mono ?_);exact cq HR0_2;exact HC0_2.out;exact cq HR0_3;exact HC0_3.out;exact cq HR0_4;exact HC0_4.out;exact cq HR0_5;exact HC0_5.out;rintro e w50 ⟨rfl,hb⟩;refine ⟨_,rfl,?_⟩;replace BK615:=bkb BK615 hb;replace BK616:=bkb BK616 hb;replace HB:=hbs hb;obtain ⟨_,_,_,_,_,_,_,_,_,_,_,_⟩:=cells6 BK616.out))
  refine bodyPost_ret (results_ctt rfl _ _ gb616 33 #[.int .i64 0,.int .i64 0,.slice none 0 0,.slice none 0 0,.slice none 0 0,.slice none 0 0] (0,0) _ rfl (by (with_reducible repeat (first|refine blk_drewN ?_ _|refine blk_drew ?_|refine blk_alloc ?_ _));exact blk_puts6 (blk_up BK616.out)) Try.underlying33 rfl (by kernel_rfl)) rfl ?_
  exact ⟨_,_,_,_,_,er_,nl_,nl_,nl_,nl_,nl_,hb_⟩
 rw [if_pos c4] at H
 have c4b0:=bqt c4
 have c4b1:=bnf c4
 clear c4
 by_cases c5 : (l1.length : Int) = (l0_5.length : Int)
 rotate_left
 ·rw [if_neg c5] at H
  have c5b0:=bqf c5
  have c5b1:=bnt c5
  have c5b2 : (l1.length == l0_5.length) = false:=by first|simpa using c5|(simp at c5 ⊢;omega)
  simp only [Option.some.injEq,Prod.mk.injEq] at H
  obtain ⟨rfl,rfl,rfl,rfl,rfl,rfl,rfl,rfl⟩:=H
  go_enter Try.func27,Try.ntmps27
  go_wp2_with (first|((with_reducible refine gate_dst (N:=2) rfl ?_);refine box_ev (N:=2) (cs:=#[.int .i64 a0_0,.int .i64 a0_1,.slice A0_2 l0_2.length c0_2,.slice A0_3 l0_3.length c0_3,.slice A0_4 l0_4.length c0_4,.slice A0_5 l0_5.length c0_5]) (t:=33) ?_;intro gb615 hg w39 hbox hb;have BK615:=Aside0.mk (hbox);have GW615 : Aside0 (w.heap.size ≤ gb615):=gsz hg;have GE615:=GW615;replace HB:=hbs hb;clear hb hbox hg)|((with_reducible refine gate_dst (N:=4) rfl ?_);refine box_ev (N:=4) (cs:=#[.int .i64 0,.int .i64 0,.slice none 0 0,.slice none 0 0,.slice none 0 0,.slice none 0 0]) (t:=33) ?_;intro gb616 hg w40 hbox hb;have BK616:=Aside0.mk (hbox);have GW616 : Aside0 (w.heap.size ≤ gb616):=gsz hg;have GE616:=GW616;have NB615_616:=nbl BK615 hg;have NB616_615:=nbr BK615 hg;replace BK615:=bkb BK615 hb;replace HB:=hbs hb;clear hb hbox hg;have hnb41:=NB615_616.out;have hnc41:=NB616_615.out;obtain ⟨_,_,_,_,_,_,_,_,_,_,_,_⟩:=cells6 BK615.out)|((with_reducible refine gate_callee (f:=18) rfl ?_);refine goesL_ (some 12) rfl rfl Try.func18 (by kernel_rfl) rfl #[.agg #[.int .i64 a0_0,.int .i64 a0_1,.slice A0_2 l0_2.length c0_2,.slice A0_3 l0_3.length c0_3,.slice A0_4 l0_4.length c0_4,.slice A0_5 l0_5.length c0_5]] rfl ga_ ?_;(with_reducible refine (lane_Validate.calls k a0_0 a0_1 _ _ l0_2 _ _ l0_3 _ _ l0_4 _ _ l0_5 t617 _ ?_ ?_ ?_ ?_ ?_ ?_ ?_ ?_ A3.out).mono ?_);exact cq HR0_2;exact HC0_2.out;exact cq HR0_3;exact HC0_3.out;exact cq HR0_4;exact HC0_4.out;exact cq HR0_5;exact HC0_5.out;rintro e w43 ⟨rfl,hb⟩;refine ⟨_,rfl,?_⟩;replace BK615:=bkb BK615 hb;replace BK616:=bkb BK616 hb;replace HB:=hbs hb;obtain ⟨_,_,_,_,_,_,_,_,_,_,_,_⟩:=cells6 BK615.out;obtain ⟨_,_,_,_,_,_,_,_,_,_,_,_⟩:=cells6 BK616.out))
  refine bodyPost_ret (results_ctt rfl _ _ gb616 33 #[.int .i64 0,.int .i64 0,.slice none 0 0,.slice none 0 0,.slice none 0 0,.slice none 0 0] (0,0) _ rfl (by (with_reducible repeat (first|refine blk_drewN ?_ _|refine blk_drew ?_|refine blk_alloc ?_ _));exact blk_puts6 (blk_up BK616.out)) Try.underlying33 rfl (by kernel_rfl)) rfl ?_
  exact ⟨_,_,_,_,_,er_,nl_,nl_,nl_,nl_,nl_,hb_⟩
 rw [if_pos c5] at H
 have c5b0:=bqt c5
 have c5b1:=bnf c5
 have c5b2 : (l1.length == l0_5.length) = true:=by first|simpa using c5|(simp at c5 ⊢;omega)
 clear c5
 replace H:=Option.bind_eq_some_iff.mp H
 obtain ⟨⟨t618,t619,t620,t623,t626,t629⟩,A60,H⟩:=H
 replace H : (if 0 ≤ (l1.length : Int) then (if ((l1.length : Int) : Int).toNat ≤ 35184372088832 then (lane_Run.l0 k (List.replicate ((l1.length : Int) : Int).toNat 0) l1 (l1.length : Int) 0 t618 t619 t620 t623 t626 t629) else (none)) else (none)) = some (r1,r2,r3,r4,r5,r6,r7,r8):=H
 have A6:=Aside0.mk A60
 clear A60
 replace H:=ifp_ H;obtain ⟨c7,H⟩:=H
 have c7b0:=eq_true c7
 have c7b1 : decide (0 ≤ (l1.length : Int)) = true:=decide_eq_true c7
 clear c7
 replace H:=ifp_ H;obtain ⟨c8,H⟩:=H
 have c8b0:=eq_true c8
 have c8b1 : decide (((l1.length : Int) : Int).toNat ≤ 35184372088832) = true:=decide_eq_true c8
 clear c8
 obtain ⟨y632,hy632⟩ : ∃ y_ : List Int,y_ = (List.replicate ((l1.length : Int) : Int).toNat 0):=⟨_,rfl⟩
 replace H : (lane_Run.l0 k y632 l1 (l1.length : Int) 0 t618 t619 t620 t623 t626 t629) = some (r1,r2,r3,r4,r5,r6,r7,r8):=by first|(rw [hy632];with_reducible exact H)|(have H2_:=(Option.bind_some _ _).symm.trans H;rw [hy632];with_reducible exact H2_)|(have H2_:=(Option.bind_some _ _).symm.trans H;with_reducible exact H2_)|with_reducible exact H|(rw [hy632];exact H)|exact H
 have Ny632:=Aside0.mk hy632
 clear hy632
 have H':=Aside0.mk H
 clear H
 go_enter Try.func27,Try.ntmps27
 go_wp2_with (first|((with_reducible refine gate_dst (N:=2) rfl ?_);refine box_ev (N:=2) (cs:=#[.int .i64 a0_0,.int .i64 a0_1,.slice A0_2 l0_2.length c0_2,.slice A0_3 l0_3.length c0_3,.slice A0_4 l0_4.length c0_4,.slice A0_5 l0_5.length c0_5]) (t:=33) ?_;intro gb615 hg w9 hbox hb;have BK615:=Aside0.mk (hbox);have GW615 : Aside0 (w.heap.size ≤ gb615):=gsz hg;have GE615:=GW615;replace HB:=hbs hb;clear hb hbox hg)|((with_reducible refine gate_dst (N:=4) rfl ?_);refine box_ev (N:=4) (cs:=#[.int .i64 0,.int .i64 0,.slice none 0 0,.slice none 0 0,.slice none 0 0,.slice none 0 0]) (t:=33) ?_;intro gb616 hg w10 hbox hb;have BK616:=Aside0.mk (hbox);have GW616 : Aside0 (w.heap.size ≤ gb616):=gsz hg;have GE616:=GW616;have NB615_616:=nbl BK615 hg;have NB616_615:=nbr BK615 hg;replace BK615:=bkb BK615 hb;replace HB:=hbs hb;clear hb hbox hg;have hnb11:=NB615_616.out;have hnc11:=NB616_615.out;obtain ⟨_,_,_,_,_,_,_,_,_,_,_,_⟩:=cells6 BK615.out)|((with_reducible refine gate_callee (f:=18) rfl ?_);refine goesL_ (some 12) rfl rfl Try.func18 (by kernel_rfl) rfl #[.agg #[.int .i64 a0_0,.int .i64 a0_1,.slice A0_2 l0_2.length c0_2,.slice A0_3 l0_3.length c0_3,.slice A0_4 l0_4.length c0_4,.slice A0_5 l0_5.length c0_5]] rfl ga_ ?_;(with_reducible refine (lane_Validate.calls k a0_0 a0_1 _ _ l0_2 _ _ l0_3 _ _ l0_4 _ _ l0_5 t617 _ ?_ ?_ ?_ ?_ ?_ ?_ ?_ ?_ A3.out).mono ?_);exact cq HR0_2;exact HC0_2.out;exact cq HR0_3;exact HC0_3.out;exact cq HR0_4;exact HC0_4.out;exact cq HR0_5;exact HC0_5.out;rintro e w13 ⟨rfl,hb⟩;refine ⟨_,rfl,?_⟩;replace BK615:=bkb BK615 hb;replace BK616:=bkb BK616 hb;replace HB:=hbs hb;obtain ⟨_,_,_,_,_,_,_,_,_,_,_,_⟩:=cells6 BK615.out)|((with_reducible refine gate_callee (f:=46) rfl ?_);refine goesL_ (some 25) rfl rfl Try.func46 (by kernel_rfl) rfl #[.agg #[.int .i64 a0_0,.int .i64 a0_1,.slice A0_2 l0_2.length c0_2,.slice A0_3 l0_3.length c0_3,.slice A0_4 l0_4.length c0_4,.slice A0_5 l0_5.length c0_5]] rfl ga_ ?_;(with_reducible refine (lane_copied.calls a0_0 a0_1 _ _ l0_2 _ _ l0_3 _ _ l0_4 _ _ l0_5 t618 t619 t620 t623 t626 t629 _ ?_ ?_ ?_ ?_ ?_ ?_ ?_ ?_ A6.out).mono ?_);exact cq HR0_2;exact HC0_2.out;exact cq HR0_3;exact HC0_3.out;exact cq HR0_4;exact HC0_4.out;exact cq HR0_5;exact HC0_5.out;rintro e w15 ⟨v621,v624,v627,v630,rfl,ho0,ho1,ho2,ho3,hb⟩;refine ⟨_,rfl,?_⟩;have HO622:=rlo ho0;have HO625:=rlo ho1;have HO628:=rlo ho2;have HO631:=rlo ho3;replace BK615:=bkb BK615 hb;replace BK616:=bkb BK616 hb;replace HB:=hbs hb;obtain ⟨_,_,_,_,_,_,_,_,_,_,_,_⟩:=cells6 BK615.out;obtain ⟨Ao17,co17,eo17⟩:=Kd.R_slice HO622.out;subst eo17;obtain ⟨Ao18,co18,eo18⟩:=Kd.R_slice HO625.out;subst eo18;obtain ⟨Ao19,co19,eo19⟩:=Kd.R_slice HO628.out;subst eo19;obtain ⟨Ao20,co20,eo20⟩:=Kd.R_slice HO631.out;subst eo20)|((with_reducible refine gate_dst (N:=28) rfl ?_);refine Kd.R_make (Kd.int .i64) _ 3 rfl (N:=28) rfl 22 _ _ rfl (l1.length : Int) rfl rfl Try.underlying22 (.int .i64 0) 8 info3 rfl (by decide) (by omega) 0 (ok:=fun _ => True) (okp:=fun _ => True) rfl (fun _ hk => hk) trivial (of_decide_eq_true (by first|(with_reducible assumption)|assumption)) (Nat.le_trans (Nat.mul_le_mul_right _ (of_decide_eq_true (by first|(with_reducible assumption)|assumption) : (l1.length : Int).toNat ≤ 35184372088832)) (by omega)) (Below.refl _ _) (Nat.le_refl _) ?_;intro v633 w21 ho22 hb hg_ hnew_;clear hg_ hnew_;(first|rw [← Ny632.out] at ho22|(simp only [Int.reduceToNat] at ho22;rw [← Ny632.out] at ho22));have HO634:=Aside0.mk (Kd.R_lower (Kd.R_new' (Kd.R_new' (Kd.R_new' ho22 (Kd.R_lt (by (with_reducible repeat (first|apply Kd.R_alloc|apply Kd.R_drewN|apply Kd.R_drew));exact (Kd.R_mono (Kd.R_fars gb615 (Kd.R_types HO622.out BK615.out (by decide)) (fun _ hk => hk.2)) (fun _ h_ => h_.1))))) (Kd.R_lt (by (with_reducible repeat (first|apply Kd.R_alloc|apply Kd.R_drewN|apply Kd.R_drew));exact (Kd.R_mono (Kd.R_fars gb615 (Kd.R_types HO625.out BK615.out (by decide)) (fun _ hk => hk.2)) (fun _ h_ => h_.1))))) (Kd.R_lt (by (with_reducible repeat (first|apply Kd.R_alloc|apply Kd.R_drewN|apply Kd.R_drew));exact (Kd.R_mono (Kd.R_fars gb615 (Kd.R_types HO628.out BK615.out (by decide)) (fun _ hk => hk.2)) (fun _ h_ => h_.1))))) (below_size (hb_)));replace HO622:=Aside0.mk (Kd.R_elder' (by (with_reducible repeat (first|apply Kd.R_alloc|apply Kd.R_drewN|apply Kd.R_drew));exact (Kd.R_mono (Kd.R_fars gb615 (Kd.R_types HO622.out BK615.out (by decide)) (fun _ hk => hk.2)) (fun _ h_ => h_.1))) (Kd.R_base ho22) hb);replace HO625:=Aside0.mk (Kd.R_elder' (by (with_reducible repeat (first|apply Kd.R_alloc|apply Kd.R_drewN|apply Kd.R_drew));exact (Kd.R_mono (Kd.R_fars gb615 (Kd.R_types HO625.out BK615.out (by decide)) (fun _ hk => hk.2)) (fun _ h_ => h_.1))) (Kd.R_base ho22) hb);replace HO628:=Aside0.mk (Kd.R_elder' (by (with_reducible repeat (first|apply Kd.R_alloc|apply Kd.R_drewN|apply Kd.R_drew));exact (Kd.R_mono (Kd.R_fars gb615 (Kd.R_types HO628.out BK615.out (by decide)) (fun _ hk => hk.2)) (fun _ h_ => h_.1))) (Kd.R_base ho22) hb);replace HO631:=Aside0.mk (Kd.R_below (by (with_reducible repeat (first|apply Kd.R_alloc|apply Kd.R_drewN|apply Kd.R_drew));exact (Kd.R_mono (Kd.R_fars gb615 (Kd.R_types HO631.out BK615.out (by decide)) (fun _ hk => hk.2)) (fun _ h_ => h_.1))) hb);replace BK615:=Aside0.mk (blk_below (g:=gb615) (o:=.cells #[.int .i64 t618,.int .i64 t619,.slice Ao17 t620.length co17,.slice Ao18 t623.length co18,.slice Ao19 t626.length co19,.slice Ao20 t629.length co20] 33 (0,0)) (by (with_reducible repeat (first|refine blk_drewN ?_ _|refine blk_drew ?_|refine blk_alloc ?_ _));exact blk_puts6 (blk_up BK615.out)) hb);replace BK616:=Aside0.mk (blk_below (g:=gb616) (o:=.cells #[.int .i64 0,.int .i64 0,.slice none 0 0,.slice none 0 0,.slice none 0 0,.slice none 0 0] 33 (0,0)) (by (with_reducible repeat (first|refine blk_drewN ?_ _|refine blk_drew ?_|refine blk_alloc ?_ _));refine blk_far ?_ NB616_615.out _;(with_reducible repeat (first|refine blk_drewN ?_ _|refine blk_drew ?_|refine blk_alloc ?_ _));refine blk_far ?_ NB616_615.out _;(with_reducible repeat (first|refine blk_drewN ?_ _|refine blk_drew ?_|refine blk_alloc ?_ _));refine blk_far ?_ NB616_615.out _;(with_reducible repeat (first|refine blk_drewN ?_ _|refine blk_drew ?_|refine blk_alloc ?_ _));refine blk_far ?_ NB616_615.out _;(with_reducible repeat (first|refine blk_drewN ?_ _|refine blk_drew ?_|refine blk_alloc ?_ _));refine blk_far ?_ NB616_615.out _;(with_reducible repeat (first|refine blk_drewN ?_ _|refine blk_drew ?_|refine blk_alloc ?_ _));refine blk_far ?_ NB616_615.out _;(with_reducible repeat (first|refine blk_drewN ?_ _|refine blk_drew ?_|refine blk_alloc ?_ _));exact BK616.out) hb);replace HB:=hbs hb;clear hb ho22))
 go_loopg [31] k (fun kq v31 w' => ∃ (x8_1 : List Int) (x31_1 : Int) (x616005_1 : List (S50)) (u616005 : Value),v31 = .int .i64 x31_1 ∧ Aside0 (lane_Run.l0 kq x8_1 l1 (l1.length : Int) x31_1 t618 t619 t620 t623 t626 x616005_1 = some (r1,r2,r3,r4,r5,r6,r7,r8)) ∧ Aside0 (kq ≤ k) ∧ Aside0 (Kd.R (Kd.int .i64) 3 w' w.heap.size (fun k_ => some k_ ≠ ((.slice Ao17 t620.length co17) : Value).ownBlock ∧ some k_ ≠ ((.slice Ao18 t623.length co18) : Value).ownBlock ∧ some k_ ≠ ((.slice Ao19 t626.length co19) : Value).ownBlock) v633 x8_1) ∧ Aside0 (Kd.R (Kd.int .i64) 3 w' w.heap.size (fun k_ => some k_ ≠ (v633 : Value).ownBlock ∧ some k_ ≠ ((.slice Ao18 t623.length co18) : Value).ownBlock ∧ some k_ ≠ ((.slice Ao19 t626.length co19) : Value).ownBlock) (.slice Ao17 t620.length co17) t620) ∧ Aside0 (Kd.R (Kd.int .i64) 3 w' w.heap.size (fun k_ => some k_ ≠ (v633 : Value).ownBlock ∧ some k_ ≠ ((.slice Ao17 t620.length co17) : Value).ownBlock ∧ some k_ ≠ ((.slice Ao19 t626.length co19) : Value).ownBlock) (.slice Ao18 t623.length co18) t623) ∧ Aside0 (Kd.R (Kd.int .i64) 3 w' w.heap.size (fun k_ => some k_ ≠ (v633 : Value).ownBlock ∧ some k_ ≠ ((.slice Ao17 t620.length co17) : Value).ownBlock ∧ some k_ ≠ ((.slice Ao18 t623.length co18) : Value).ownBlock) (.slice Ao19 t626.length co19) t626) ∧ Aside0 (Kd.R k50 50 w' w.heap.size (fun _ => True) u616005 x616005_1) ∧ Aside0 (w'.heap[gb615]? = some (.cells #[.int .i64 t618,.int .i64 t619,(.slice Ao17 t620.length co17),(.slice Ao18 t623.length co18),(.slice Ao19 t626.length co19),u616005] 33 (0,0))) ∧ Aside0 (w'.heap[gb616]? = some (.cells #[.int .i64 0,.int .i64 0,(.slice none 0 0),(.slice none 0 0),(.slice none 0 0),(.slice none 0 0)] 33 (0,0))) ∧ Aside0 (Below w.heap.size w w'))
 case atStart => exact ⟨(y632),(0),(t629),(.slice Ao20 t629.length co20),(by first|rfl|(simp;done)|(simp [*];done)),H',⟨Nat.le_refl _⟩,⟨by (with_reducible repeat (first|apply Kd.R_alloc|apply Kd.R_drewN|apply Kd.R_drew));exact Kd.R_mono HO634.out (fun _ hk => ⟨hk.1.1.2,⟨hk.1.2,hk.2⟩⟩)⟩,⟨by (with_reducible repeat (first|apply Kd.R_alloc|apply Kd.R_drewN|apply Kd.R_drew));exact Kd.R_mono HO622.out (fun _ hk => ⟨hk.2,⟨hk.1.1,hk.1.2⟩⟩)⟩,⟨by (with_reducible repeat (first|apply Kd.R_alloc|apply Kd.R_drewN|apply Kd.R_drew));exact Kd.R_mono HO625.out (fun _ hk => ⟨hk.2,⟨hk.1.1,hk.1.2⟩⟩)⟩,⟨by (with_reducible repeat (first|apply Kd.R_alloc|apply Kd.R_drewN|apply Kd.R_drew));exact Kd.R_mono HO628.out (fun _ hk => ⟨hk.2,⟨hk.1.1,hk.1.2⟩⟩)⟩,⟨Kd.R_up HO631.out⟩,⟨blk_up BK615.out⟩,⟨blk_up BK616.out⟩,⟨hb_⟩⟩
 case round =>
  clear H'
  obtain ⟨x8_1,x31_1,x616005_1,u616005,rfl,HA,HK1,HO_8,HO_616002,HO_616003,HO_616004,HO_616005,BK615,BK616,HB⟩:=hrel
  cases gk with
  | zero => exact absurd HA.out (by simp [lane_Run.l0])
  | succ k1 =>
   have H:=HA.out
   clear HA
   simp only [lane_Run.l0] at H
   by_cases c23 : x31_1 < (l1.length : Int)
   ·rw [if_pos c23] at H
    have c23b0 : decide (x31_1 < (l1.length : Int)) = true:=decide_eq_true c23
    clear c23
    replace H:=ifp_ H;obtain ⟨c24,H⟩:=H
    have c24b0 : decide (0 ≤ x31_1) = true:=decide_eq_true c24
    clear c24
    replace H:=ifp_ H;obtain ⟨c25,H⟩:=H
    have c25b0 : decide (x31_1 < (l1.length : Int)) = true:=decide_eq_true c25
    clear c25
    replace H:=Option.bind_eq_some_iff.mp H
    obtain ⟨⟨t636,t637⟩,A260,H⟩:=H
    replace H : (if x31_1 < (x8_1.length : Int) then (lane_Run.l0 k1 (x8_1.set (x31_1 : Int).toNat t636) l1 (l1.length : Int) (wrap64 (x31_1 + 1)) t618 t619 t620 t623 t626 t637) else (none)) = some (r1,r2,r3,r4,r5,r6,r7,r8):=H
    have A26:=Aside0.mk A260
    clear A260
    replace H:=ifp_ H;obtain ⟨c27,H⟩:=H
    have c27b0 : decide (x31_1 < (x8_1.length : Int)) = true:=decide_eq_true c27
    clear c27
    obtain ⟨y638,hy638⟩ : ∃ y_ : List Int,y_ = (x8_1.set (x31_1 : Int).toNat t636):=⟨_,rfl⟩
    replace H : (lane_Run.l0 k1 y638 l1 (l1.length : Int) (wrap64 (x31_1 + 1)) t618 t619 t620 t623 t626 t637) = some (r1,r2,r3,r4,r5,r6,r7,r8):=by first|(rw [hy638];with_reducible exact H)|(have H2_:=(Option.bind_some _ _).symm.trans H;rw [hy638];with_reducible exact H2_)|(have H2_:=(Option.bind_some _ _).symm.trans H;with_reducible exact H2_)|with_reducible exact H|(rw [hy638];exact H)|exact H
    have Ny638:=Aside0.mk hy638
    clear hy638
    have H':=Aside0.mk H
    clear H
    have p635 : 0 ≤ (x31_1 : Int):=of_decide_eq_true (by first|(with_reducible assumption)|assumption)
    have q635 : x31_1 < (l1.length : Int):=of_decide_eq_true (by first|(with_reducible assumption)|assumption)
    obtain ⟨ad635,e635,hx635_0⟩:=Kd.at_int HR1.out x31_1 p635 q635
    cases e635
    replace hx635_0:=(HB.out.cell (World.block_lt_of_cell? w _ hx635_0)).trans hx635_0
    replace p635:=eq_true p635
    replace q635:=eq_true q635
    have hnb29:=NB615_616.out
    have hnc29:=NB616_615.out
    obtain ⟨_,_,_,_,_,_,_,_,_,_,_,_⟩:=cells6 BK615.out
    obtain ⟨Ao31,co31,eo31⟩:=Kd.R_slice HO_616005.out
    subst eo31
    go_wp2_with (first|((with_reducible refine gate_callee (f:=50) rfl ?_);refine goesL_ (some 41) rfl rfl Try.func50 (by kernel_rfl) rfl #[.agg #[.int .i64 t618,.int .i64 t619,.slice Ao17 t620.length co17,.slice Ao18 t623.length co18,.slice Ao19 t626.length co19,.slice Ao31 x616005_1.length co31],.int .i64 x31_1,.int .i64 (rd l1 x31_1)] rfl ga_ ?_;(with_reducible refine (lane_step.calls k1 t618 t619 _ _ t620 _ _ t623 _ _ t626 (fun k_ => some k_ = (.slice Ao31 x616005_1.length co31 : Value).ownBlock) (.slice Ao31 x616005_1.length co31) x616005_1 x31_1 (rd l1 x31_1) t636 t637 w _ ?_ ?_ ?_ ?_ ?_ ?_ ?_ ?_ A26.out).mono ?_);(focus (repeat (first|(with_reducible first|exact HB.out|apply below_alloc|apply pw_below_drewN|apply below_drew1|refine below_set ?_ GE615.out|refine below_set ?_ GE616.out)|exact HB.out)));exact Kd.C_kept_own ((Kd.R_apart' HO_616002.out (Kd.R_typed HO_616005.out) (by decide))) (fun k_ hk_ hs_ => (hk_.2) hs_);exact (Kd.R_reads' HO_616002.out).2.1;exact Kd.C_kept_own ((Kd.R_apart' HO_616003.out (Kd.R_typed HO_616005.out) (by decide))) (fun k_ hk_ hs_ => (hk_.2) hs_);exact (Kd.R_reads' HO_616003.out).2.1;exact Kd.C_kept_own ((Kd.R_apart' HO_616004.out (Kd.R_typed HO_616005.out) (by decide))) (fun k_ hk_ hs_ => (hk_.2) hs_);exact (Kd.R_reads' HO_616004.out).2.1;exact Kd.R_tight rfl HO_616005.out;rintro e w32 ⟨rfl,hy0,hb,hkp⟩;refine ⟨_,rfl,?_⟩;replace HO_8:=Aside0.mk (Kd.R_mono (ok':=fun k_ => some k_ ≠ (.slice Ao17 t620.length co17 : Value).ownBlock ∧ some k_ ≠ (.slice Ao18 t623.length co18 : Value).ownBlock ∧ some k_ ≠ (.slice Ao19 t626.length co19 : Value).ownBlock) (Kd.R_keptB ((Kd.R_apart' HO_8.out (Kd.R_typed HO_616005.out) (by decide))) hkp (fun k_ hk_ hs_ => (hk_.2) hs_)) (fun k_ hk_ => ⟨hk_.1.1.1,hk_.1.1.2.1,hk_.1.1.2.2⟩));replace HO_616002:=Aside0.mk (Kd.R_mono (ok':=fun k_ => some k_ ≠ (v633 : Value).ownBlock ∧ some k_ ≠ (.slice Ao18 t623.length co18 : Value).ownBlock ∧ some k_ ≠ (.slice Ao19 t626.length co19 : Value).ownBlock) (Kd.R_keptB ((Kd.R_apart' HO_616002.out (Kd.R_typed HO_616005.out) (by decide))) hkp (fun k_ hk_ hs_ => (hk_.2) hs_)) (fun k_ hk_ => ⟨hk_.1.1.1,hk_.1.1.2.1,hk_.1.1.2.2⟩));replace HO_616003:=Aside0.mk (Kd.R_mono (ok':=fun k_ => some k_ ≠ (v633 : Value).ownBlock ∧ some k_ ≠ (.slice Ao17 t620.length co17 : Value).ownBlock ∧ some k_ ≠ (.slice Ao19 t626.length co19 : Value).ownBlock) (Kd.R_keptB ((Kd.R_apart' HO_616003.out (Kd.R_typed HO_616005.out) (by decide))) hkp (fun k_ hk_ hs_ => (hk_.2) hs_)) (fun k_ hk_ => ⟨hk_.1.1.1,hk_.1.1.2.1,hk_.1.1.2.2⟩));replace HO_616004:=Aside0.mk (Kd.R_mono (ok':=fun k_ => some k_ ≠ (v633 : Value).ownBlock ∧ some k_ ≠ (.slice Ao17 t620.length co17 : Value).ownBlock ∧ some k_ ≠ (.slice Ao18 t623.length co18 : Value).ownBlock) (Kd.R_keptB ((Kd.R_apart' HO_616004.out (Kd.R_typed HO_616005.out) (by decide))) hkp (fun k_ hk_ hs_ => (hk_.2) hs_)) (fun k_ hk_ => ⟨hk_.1.1.1,hk_.1.1.2.1,hk_.1.1.2.2⟩));replace BK615:=Aside0.mk (blk_kept (blk_up BK615.out) hkp (fun hs_ => (fun e_ => (Kd.R_ne HO_616005.out BK615.out (by decide)) e_) hs_));replace BK616:=Aside0.mk (blk_kept (blk_up BK616.out) hkp (fun hs_ => (fun e_ => (Kd.R_ne HO_616005.out BK616.out (by decide)) e_) hs_));replace HO_616005:=Aside0.mk (Kd.R_reok rfl hy0 (fun k_ e_ => HO_616005.out.1 k_ e_));replace HB:=Aside0.mk (hb);have p28 : 0 ≤ (x31_1 : Int):=of_decide_eq_true (by first|(with_reducible assumption)|assumption);have q28 : (x31_1 : Int) < ((x8_1.length : Int) : Int):=of_decide_eq_true (by first|(with_reducible assumption)|assumption);obtain ⟨go28,co28,eo28,gb28,gl28,cl28,HG28⟩:=Kd.R_form HO_8.out (by omega);(first|cases eo28|(injection eo28 with ea_ en_ ec_;(first|subst ea_|(injection ea_ with ea_;subst ea_));subst ec_;clear en_));have GB28:=Aside0.mk gb28;have GG28:=Aside0.mk HG28;clear gb28 gl28 HG28;obtain ⟨hx28_0,hf28_0⟩:=Kd.R_celln 0 HO_8.out (x31_1 : Int) p28 q28;replace p28:=eq_true p28;replace q28:=eq_true q28;obtain ⟨hy33_,hz33_⟩:=Kd.R_celln 0 HO_8.out (x31_1 : Int) (of_decide_eq_true (by first|(with_reducible assumption)|assumption)) (of_decide_eq_true (by first|(with_reducible assumption)|assumption));have HP33:=Kd.R_putg HO_8.out (x31_1 : Int) t636)|((with_reducible refine gate_store (t:=3) (p:=42) rfl ?_);refine store_event (t:=3) (p:=42) (v:=?vo_w34) (w1:=(w32.setCell ⟨go28,(x31_1 : Int).toNat,none⟩ (.int .i64 t636))) ?hg ?ho ?hn ?hr ?_;(case ho => rfl);(case hg => rfl);(case hn => rfl);(case hr => first|(go_simp;done)|(go_simp;rfl));intro w34 hw;have hg : w32.grownBy w34 (some go28):=(by rw [hw];exact HP33.2);have hp_ : Kd.R (Kd.int .i64) 3 w34 w.heap.size (fun k_ => some k_ ≠ (.slice Ao17 t620.length co17 : Value).ownBlock ∧ some k_ ≠ (.slice Ao18 t623.length co18 : Value).ownBlock ∧ some k_ ≠ (.slice Ao19 t626.length co19 : Value).ownBlock) (.slice (some ⟨go28,0,none⟩) x8_1.length co28) y638:=(by rw [hw,Ny638.out];exact HP33.1);clear HP33;replace HO_616002:=Aside0.mk (Kd.R_after (v:=(.slice (some ⟨go28,0,none⟩) x8_1.length co28)) (v1:=(.slice (some ⟨go28,0,none⟩) x8_1.length co28)) (ok:=(fun k_ => some k_ ≠ (.slice Ao18 t623.length co18 : Value).ownBlock ∧ some k_ ≠ (.slice Ao19 t626.length co19 : Value).ownBlock)) (by (with_reducible repeat (first|apply Kd.R_alloc|apply Kd.R_drewN|apply Kd.R_drew));exact Kd.R_mono HO_616002.out (fun _ hk => ⟨⟨hk.2.1,hk.2.2⟩,hk.1⟩)) hg (.inl rfl));replace HO_616003:=Aside0.mk (Kd.R_after (v:=(.slice (some ⟨go28,0,none⟩) x8_1.length co28)) (v1:=(.slice (some ⟨go28,0,none⟩) x8_1.length co28)) (ok:=(fun k_ => some k_ ≠ (.slice Ao17 t620.length co17 : Value).ownBlock ∧ some k_ ≠ (.slice Ao19 t626.length co19 : Value).ownBlock)) (by (with_reducible repeat (first|apply Kd.R_alloc|apply Kd.R_drewN|apply Kd.R_drew));exact Kd.R_mono HO_616003.out (fun _ hk => ⟨⟨hk.2.1,hk.2.2⟩,hk.1⟩)) hg (.inl rfl));replace HO_616004:=Aside0.mk (Kd.R_after (v:=(.slice (some ⟨go28,0,none⟩) x8_1.length co28)) (v1:=(.slice (some ⟨go28,0,none⟩) x8_1.length co28)) (ok:=(fun k_ => some k_ ≠ (.slice Ao17 t620.length co17 : Value).ownBlock ∧ some k_ ≠ (.slice Ao18 t623.length co18 : Value).ownBlock)) (by (with_reducible repeat (first|apply Kd.R_alloc|apply Kd.R_drewN|apply Kd.R_drew));exact Kd.R_mono HO_616004.out (fun _ hk => ⟨⟨hk.2.1,hk.2.2⟩,hk.1⟩)) hg (.inl rfl));replace HO_616005:=Aside0.mk (Kd.R_over' (v:=(.slice (some ⟨go28,0,none⟩) x8_1.length co28)) (Kd.R_up HO_616005.out) (Kd.R_typed HO_8.out) (by decide) hg);replace BK615:=Aside0.mk (blk_grown (blk_up BK615.out) hg (Kd.R_ne HO_8.out BK615.out (by decide)));replace BK616:=Aside0.mk (blk_grown (blk_up BK616.out) hg (Kd.R_ne HO_8.out BK616.out (by decide)));replace HO_8:=Aside0.mk (hp_);replace HB:=Aside0.mk ((by rw [hw];exact below_set (HB.out) GB28.out : Below w.heap.size w w34));clear hg hw hp_))
    go_roundg k1
    case measure => have:=HK1.out;omega
    case rel => exact ⟨(y638),(wrap64 (x31_1 + 1)),(t637),(.slice Ao31 x616005_1.length co31),(by first|rfl|(simp;done)|(simp [*];done)),H',⟨by have:=HK1.out;omega⟩,⟨Kd.R_up HO_8.out⟩,⟨by (with_reducible repeat (first|apply Kd.R_alloc|apply Kd.R_drewN|apply Kd.R_drew));exact Kd.R_mono HO_616002.out (fun _ hk => ⟨hk.2,⟨hk.1.1,hk.1.2⟩⟩)⟩,⟨by (with_reducible repeat (first|apply Kd.R_alloc|apply Kd.R_drewN|apply Kd.R_drew));exact Kd.R_mono HO_616003.out (fun _ hk => ⟨hk.2,⟨hk.1.1,hk.1.2⟩⟩)⟩,⟨by (with_reducible repeat (first|apply Kd.R_alloc|apply Kd.R_drewN|apply Kd.R_drew));exact Kd.R_mono HO_616004.out (fun _ hk => ⟨hk.2,⟨hk.1.1,hk.1.2⟩⟩)⟩,⟨Kd.R_up HO_616005.out⟩,⟨blk_up BK615.out⟩,⟨blk_up BK616.out⟩,⟨hb_⟩⟩
   ·rw [if_neg c23] at H
    have c23b0 : decide (x31_1 < (l1.length : Int)) = false:=decide_eq_false c23
    clear c23
    simp only [Option.some.injEq,Prod.mk.injEq] at H
    obtain ⟨rfl,rfl,rfl,rfl,rfl,rfl,rfl,rfl⟩:=H
    have hnb35:=NB615_616.out
    have hnc35:=NB616_615.out
    obtain ⟨_,_,_,_,_,_,_,_,_,_,_,_⟩:=cells6 BK615.out
    obtain ⟨_,_,_,_,_,_,_,_,_,_,_,_⟩:=cells6 BK616.out
    obtain ⟨Ao38,co38,eo38⟩:=Kd.R_slice HO_616005.out
    subst eo38
    go_wp2
    refine bodyPost_ret (results_ctt rfl _ _ gb616 33 #[.int .i64 t618,.int .i64 t619,.slice Ao17 t620.length co17,.slice Ao18 t623.length co18,.slice Ao19 t626.length co19,.slice Ao38 x616005_1.length co38] (0,0) _ rfl (by (with_reducible repeat (first|refine blk_drewN ?_ _|refine blk_drew ?_|refine blk_alloc ?_ _));exact blk_puts6 (blk_up BK616.out)) Try.underlying33 rfl (by kernel_rfl)) rfl ?_
    exact ⟨_,_,_,_,_,er_,by (with_reducible repeat (first|apply Kd.R_alloc|apply Kd.R_drewN|apply Kd.R_drew));exact Kd.R_mono (Kd.R_fars gb616 (Kd.R_types HO_616002.out BK616.out (by decide)) (fun _ hk => hk.2)) (fun _ hk => ⟨hk.1.2.1,⟨hk.1.2.2,hk.1.1⟩⟩),by (with_reducible repeat (first|apply Kd.R_alloc|apply Kd.R_drewN|apply Kd.R_drew));exact Kd.R_mono (Kd.R_fars gb616 (Kd.R_types HO_616003.out BK616.out (by decide)) (fun _ hk => hk.2)) (fun _ hk => ⟨hk.1.2.1,⟨hk.1.2.2,hk.1.1⟩⟩),by (with_reducible repeat (first|apply Kd.R_alloc|apply Kd.R_drewN|apply Kd.R_drew));exact Kd.R_mono (Kd.R_fars gb616 (Kd.R_types HO_616004.out BK616.out (by decide)) (fun _ hk => hk.2)) (fun _ hk => ⟨hk.1.2.1,⟨hk.1.2.2,hk.1.1⟩⟩),by (with_reducible repeat (first|apply Kd.R_alloc|apply Kd.R_drewN|apply Kd.R_drew));exact Kd.R_mono (Kd.R_fars gb616 (Kd.R_types HO_616005.out BK616.out (by decide)) (fun _ hk => hk.2)) (fun _ hk => trivial),by (with_reducible repeat (first|apply Kd.R_alloc|apply Kd.R_drewN|apply Kd.R_drew));exact Kd.R_mono (Kd.R_fars gb616 (Kd.R_types HO_8.out BK616.out (by decide)) (fun _ hk => hk.2)) (fun _ hk => ⟨hk.1.1,⟨hk.1.2.1,hk.1.2.2⟩⟩),hb_⟩

end Go.Proofs.Ythjmdpekcleihaa.P

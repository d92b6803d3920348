/- Functions of this seat as plain Lean functions, with proofs that the Go code comes to just their answers, or what stands between them and a law's statement; no conditions. (Laid by a program of this session, out of the kit's print.) -/
import Derived.Test.YtiencnnkphipoaaPx0
namespace Go.Proofs.Ytiencnnkphipoaa.P
open Go.RowKit Go.Proofs.YtiencnnkphipoaaW.PrintWords Go.Proofs.YtiencnnkphipoaaW.PrintLast Go.Proofs.YtiencnnkphipoaaW.PrintMore
attribute [local go_sem] max2_int min2_int max_two min_two max_three min_three max_four min_four   -- for this text's walks alone
set_option linter.unusedVariables false
set_option linter.unusedSimpArgs false

/-! ### hinterlandlaw06_large: function 14 -/
def hinterlandlaw06_large.f (a0_0 : Int) (a0_1 : Int) (l0_2 : List Int) (l1_0 : List Int) (l1_1 : List Int) : Option (Bool) := if (l0_2.length : Int) > 4000 then (some true) else (if (l1_0.length : Int) > 4000 then (some true) else (some (decide ((l1_1.length : Int) > 4000))))
set_option maxHeartbeats 8000000 in
set_option maxRecDepth 100000 in
theorem hinterlandlaw06_large.calls (a0_0 : Int) (a0_1 : Int) (A0_2 : Option Addr) (c0_2 : Nat) (l0_2 : List Int) (A1_0 : Option Addr) (c1_0 : Nat) (l1_0 : List Int) (A1_1 : Option Addr) (c1_1 : Nat) (l1_1 : List Int) (r : Bool) (w : World) (hr0_2 : Kd.C (Kd.int .i64) w A0_2 l0_2.length l0_2) (hc0_2 : l0_2.length ≤ c0_2) (hr1_0 : Kd.C (Kd.int .i64) w A1_0 l1_0.length l1_0) (hc1_0 : l1_0.length ≤ c1_0) (hr1_1 : Kd.C (Kd.int .i64) w A1_1 l1_1.length l1_1) (hc1_1 : l1_1.length ≤ c1_1) (h : hinterlandlaw06_large.f a0_0 a0_1 l0_2 l1_0 l1_1 = some r) :
  Calls Try.prog 14 #[.agg #[.int .i64 a0_0,.int .i64 a0_1,.slice A0_2 l0_2.length c0_2],.agg #[.slice A1_0 l1_0.length c1_0,.slice A1_1 l1_1.length c1_1]] w fun e w' => e = .returned (.bool r) ∧ Below w.heap.size w w':=by
 have hu24:=Try.underlying24
 have hu26:=Try.underlying26
 have HR0_2:=Aside0.mk hr0_2
 have HC0_2:=Aside0.mk hc0_2
 clear hr0_2 hc0_2
 have HR1_0:=Aside0.mk hr1_0
 have HC1_0:=Aside0.mk hc1_0
 clear hr1_0 hc1_0
 have HR1_1:=Aside0.mk hr1_1
 have HC1_1:=Aside0.mk hc1_1
 clear hr1_1 hc1_1
 have HB:=Aside0.mk (Below.refl w.heap.size w)
 have H : (if (l0_2.length : Int) > 4000 then (some true) else (if (l1_0.length : Int) > 4000 then (some true) else (some (decide ((l1_1.length : Int) > 4000))))) = some r:=h
 clear h
 by_cases c3 : (l0_2.length : Int) > 4000
 ·rw [if_pos c3] at H
  have c3b0 : decide (4000 < (l0_2.length : Int)) = true:=decide_eq_true c3
  have c3b1 : decide (4000 < l0_2.length) = true:=decide_eq_true (by omega)
  clear c3
  obtain rfl:=Option.some.inj H
  go_enter Try.func14,Try.ntmps14
  go_wp2_with (first|((with_reducible refine gate_dst (N:=2) rfl ?_);(try (refine gate_guard (by rfl) ?_;dsimp only));refine box_ev (N:=2) (cs:=#[.int .i64 a0_0,.int .i64 a0_1,.slice A0_2 l0_2.length c0_2]) (t:=24) ?_;intro gb101 hg w4 hbox hb;have BK101:=Aside0.mk (hbox);have GW101 : Aside0 (w.heap.size ≤ gb101):=gsz hg;have GE101:=GW101;replace HB:=Aside0.mk (below_step (hb_) hb);clear hb hbox hg)|((with_reducible refine gate_dst (N:=3) rfl ?_);(try (refine gate_guard (by rfl) ?_;dsimp only));refine box_ev (N:=3) (cs:=#[.slice A1_0 l1_0.length c1_0,.slice A1_1 l1_1.length c1_1]) (t:=26) ?_;intro gb102 hg w5 hbox hb;have BK102:=Aside0.mk (hbox);have GW102 : Aside0 (w.heap.size ≤ gb102):=gsz hg;have GE102:=GW102;have NB101_102:=nbl BK101 hg;have NB102_101:=nbr BK101 hg;replace BK101:=bkb BK101 hb;replace HB:=Aside0.mk (below_step (hb_) hb);clear hb hbox hg;have hnb6:=NB101_102.out;have hnc6:=NB102_101.out;obtain ⟨hcz7_0,hcz7_1,hcz7_2,hfz7_0,hfz7_1,hfz7_2⟩:=cells3 BK101.out))
  go_ret
  exact ⟨by first|rfl|(simp [errW_none,errW_some] <;> rfl)|(simp [*,errW_none,errW_some] <;> rfl),hb_⟩
 ·rw [if_neg c3] at H
  have c3b0 : decide (4000 < (l0_2.length : Int)) = false:=decide_eq_false c3
  have c3b1 : decide (4000 < l0_2.length) = false:=decide_eq_false (by omega)
  clear c3
  by_cases c8 : (l1_0.length : Int) > 4000
  ·rw [if_pos c8] at H
   have c8b0 : decide (4000 < (l1_0.length : Int)) = true:=decide_eq_true c8
   have c8b1 : decide (4000 < l1_0.length) = true:=decide_eq_true (by omega)
   clear c8
   obtain rfl:=Option.some.inj H
   go_enter Try.func14,Try.ntmps14
   go_wp2_with (first|((with_reducible refine gate_dst (N:=2) rfl ?_);(try (refine gate_guard (by rfl) ?_;dsimp only));refine box_ev (N:=2) (cs:=#[.int .i64 a0_0,.int .i64 a0_1,.slice A0_2 l0_2.length c0_2]) (t:=24) ?_;intro gb101 hg w9 hbox hb;have BK101:=Aside0.mk (hbox);have GW101 : Aside0 (w.heap.size ≤ gb101):=gsz hg;have GE101:=GW101;replace HB:=Aside0.mk (below_step (hb_) hb);clear hb hbox hg)|((with_reducible refine gate_dst (N:=3) rfl ?_);(try (refine gate_guard (by rfl) ?_;dsimp only));refine box_ev (N:=3) (cs:=#[.slice A1_0 l1_0.length c1_0,.slice A1_1 l1_1.length c1_1]) (t:=26) ?_;intro gb102 hg w10 hbox hb;have BK102:=Aside0.mk (hbox);have GW102 : Aside0 (w.heap.size ≤ gb102):=gsz hg;have GE102:=GW102;have NB101_102:=nbl BK101 hg;have NB102_101:=nbr BK101 hg;replace BK101:=bkb BK101 hb;replace HB:=Aside0.mk (below_step (hb_) hb);clear hb hbox hg;have hnb11:=NB101_102.out;have hnc11:=NB102_101.out;obtain ⟨hcz12_0,hcz12_1,hcz12_2,hfz12_0,hfz12_1,hfz12_2⟩:=cells3 BK101.out;obtain ⟨hcz13_0,hcz13_1,hfz13_0,hfz13_1⟩:=cells2 BK102.out))
   go_ret
   exact ⟨by first|rfl|(simp [errW_none,errW_some] <;> rfl)|(simp [*,errW_none,errW_some] <;> rfl),hb_⟩
  ·rw [if_neg c8] at H
   have c8b0 : decide (4000 < (l1_0.length : Int)) = false:=decide_eq_false c8
   have c8b1 : decide (4000 < l1_0.length) = false:=decide_eq_false (by omega)
   clear c8
   obtain rfl:=Option.some.inj H
   go_enter Try.func14,Try.ntmps14
   go_wp2_with (first|((with_reducible refine gate_dst (N:=2) rfl ?_);(try (refine gate_guard (by rfl) ?_;dsimp only));refine box_ev (N:=2) (cs:=#[.int .i64 a0_0,.int .i64 a0_1,.slice A0_2 l0_2.length c0_2]) (t:=24) ?_;intro gb101 hg w14 hbox hb;have BK101:=Aside0.mk (hbox);have GW101 : Aside0 (w.heap.size ≤ gb101):=gsz hg;have GE101:=GW101;replace HB:=Aside0.mk (below_step (hb_) hb);clear hb hbox hg)|((with_reducible refine gate_dst (N:=3) rfl ?_);(try (refine gate_guard (by rfl) ?_;dsimp only));refine box_ev (N:=3) (cs:=#[.slice A1_0 l1_0.length c1_0,.slice A1_1 l1_1.length c1_1]) (t:=26) ?_;intro gb102 hg w15 hbox hb;have BK102:=Aside0.mk (hbox);have GW102 : Aside0 (w.heap.size ≤ gb102):=gsz hg;have GE102:=GW102;have NB101_102:=nbl BK101 hg;have NB102_101:=nbr BK101 hg;replace BK101:=bkb BK101 hb;replace HB:=Aside0.mk (below_step (hb_) hb);clear hb hbox hg;have hnb16:=NB101_102.out;have hnc16:=NB102_101.out;obtain ⟨hcz17_0,hcz17_1,hcz17_2,hfz17_0,hfz17_1,hfz17_2⟩:=cells3 BK101.out;obtain ⟨hcz18_0,hcz18_1,hfz18_0,hfz18_1⟩:=cells2 BK102.out))
   go_ret
   exact ⟨by first|rfl|(simp [errW_none,errW_some] <;> rfl)|(simp [*,errW_none,errW_some] <;> rfl),hb_⟩

/-! ### water_ground_wet: function 45 -/
def water_ground_wet.f (a0_0 : Int) (a0_1 : Int) (l0_2 : List Int) (l0_3 : List Int) (l0_4 : List Bool) (l1_0 : List Int) (l1_1 : List Int) (a2 : Int) : Option (Bool) := if 0 ≤ a2 then (if a2 < (l0_4.length : Int) then (if rdOf false l0_4 a2 = true then (some true) else (if a2 < (l1_0.length : Int) then (some ((rd l1_0 a2) != 0)) else (none))) else (none)) else (none)
set_option maxHeartbeats 8000000 in
set_option maxRecDepth 100000 in
theorem water_ground_wet.calls (a0_0 : Int) (a0_1 : Int) (A0_2 : Option Addr) (c0_2 : Nat) (l0_2 : List Int) (A0_3 : Option Addr) (c0_3 : Nat) (l0_3 : List Int) (A0_4 : Option Addr) (c0_4 : Nat) (l0_4 : List Bool) (A1_0 : Option Addr) (c1_0 : Nat) (l1_0 : List Int) (A1_1 : Option Addr) (c1_1 : Nat) (l1_1 : List Int) (a2 : Int) (r : Bool) (w : World) (hr0_2 : Kd.C (Kd.int .i64) w A0_2 l0_2.length l0_2) (hc0_2 : l0_2.length ≤ c0_2) (hr0_3 : Kd.C (Kd.int .i64) w A0_3 l0_3.length l0_3) (hc0_3 : l0_3.length ≤ c0_3) (hr0_4 : Kd.C Kd.bool w A0_4 l0_4.length l0_4) (hc0_4 : l0_4.length ≤ c0_4) (hr1_0 : Kd.C (Kd.int .i64) w A1_0 l1_0.length l1_0) (hc1_0 : l1_0.length ≤ c1_0) (hr1_1 : Kd.C (Kd.int .i64) w A1_1 l1_1.length l1_1) (hc1_1 : l1_1.length ≤ c1_1) (h : water_ground_wet.f a0_0 a0_1 l0_2 l0_3 l0_4 l1_0 l1_1 a2 = some r) :
  Calls Try.prog 45 #[.agg #[.int .i64 a0_0,.int .i64 a0_1,.slice A0_2 l0_2.length c0_2,.slice A0_3 l0_3.length c0_3,.slice A0_4 l0_4.length c0_4],.agg #[.slice A1_0 l1_0.length c1_0,.slice A1_1 l1_1.length c1_1],.int .i64 a2] w fun e w' => e = .returned (.bool r) ∧ Below w.heap.size w w':=by
 have hu52:=Try.underlying52
 have hu26:=Try.underlying26
 have HR0_2:=Aside0.mk hr0_2
 have HC0_2:=Aside0.mk hc0_2
 clear hr0_2 hc0_2
 have HR0_3:=Aside0.mk hr0_3
 have HC0_3:=Aside0.mk hc0_3
 clear hr0_3 hc0_3
 have HR0_4:=Aside0.mk hr0_4
 have HC0_4:=Aside0.mk hc0_4
 clear hr0_4 hc0_4
 have HR1_0:=Aside0.mk hr1_0
 have HC1_0:=Aside0.mk hc1_0
 clear hr1_0 hc1_0
 have HR1_1:=Aside0.mk hr1_1
 have HC1_1:=Aside0.mk hc1_1
 clear hr1_1 hc1_1
 have HB:=Aside0.mk (Below.refl w.heap.size w)
 have H : (if 0 ≤ a2 then (if a2 < (l0_4.length : Int) then (if rdOf false l0_4 a2 = true then (some true) else (if a2 < (l1_0.length : Int) then (some ((rd l1_0 a2) != 0)) else (none))) else (none)) else (none)) = some r:=h
 clear h
 replace H:=ifp_ H;obtain ⟨c4,H⟩:=H
 have c4b0 : decide (0 ≤ a2) = true:=decide_eq_true c4
 clear c4
 replace H:=ifp_ H;obtain ⟨c5,H⟩:=H
 have c5b0 : decide (a2 < (l0_4.length : Int)) = true:=decide_eq_true c5
 clear c5
 obtain ⟨bq6,hbq6⟩ : ∃ b_ : Bool,b_ = (rdOf false l0_4 a2):=⟨_,rfl⟩
 replace H : (if bq6 = true then (some true) else (if a2 < (l1_0.length : Int) then (some ((rd l1_0 a2) != 0)) else (none))) = some r:=by rw [← hbq6] at H;exact H
 have Nbq6:=Aside0.mk hbq6
 clear hbq6
 by_cases c7 : bq6 = true
 ·subst c7
  have H1 : (some true) = some r:=by rw [if_pos rfl] at H;exact H
  clear H
  have H:=H1
  clear H1
  obtain rfl:=Option.some.inj H
  go_enter Try.func45,Try.ntmps45
  go_wp2_with (first|((with_reducible refine gate_dst (N:=3) rfl ?_);refine box_ev (N:=3) (cs:=#[.int .i64 a0_0,.int .i64 a0_1,.slice A0_2 l0_2.length c0_2,.slice A0_3 l0_3.length c0_3,.slice A0_4 l0_4.length c0_4]) (t:=52) ?_;intro gb103 hg w8 hbox hb;have BK103:=Aside0.mk (hbox);have GW103 : Aside0 (w.heap.size ≤ gb103):=gsz hg;have GE103:=GW103;replace HB:=Aside0.mk (below_step (hb_) hb);clear hb hbox hg)|((with_reducible refine gate_dst (N:=4) rfl ?_);refine box_ev (N:=4) (cs:=#[.slice A1_0 l1_0.length c1_0,.slice A1_1 l1_1.length c1_1]) (t:=26) ?_;intro gb104 hg w9 hbox hb;have BK104:=Aside0.mk (hbox);have GW104 : Aside0 (w.heap.size ≤ gb104):=gsz hg;have GE104:=GW104;have NB103_104:=nbl BK103 hg;have NB104_103:=nbr BK103 hg;replace BK103:=bkb BK103 hb;replace HB:=Aside0.mk (below_step (hb_) hb);clear hb hbox hg;have hnb10:=NB103_104.out;have hnc10:=NB104_103.out;obtain ⟨hcz11_0,hcz11_1,hcz11_2,hcz11_3,hcz11_4,hfz11_0,hfz11_1,hfz11_2,hfz11_3,hfz11_4⟩:=cells5 BK103.out;have p105 : 0 ≤ (a2 : Int):=of_decide_eq_true (by first|(with_reducible assumption)|assumption);have q105 : a2 < (l0_4.length : Int):=of_decide_eq_true (by first|(with_reducible assumption)|assumption);obtain ⟨ad105,e105,hx105_0⟩:=Kd.at_bool HR0_4.out a2 p105 q105;(try rw [← Nbq6.out] at hx105_0);cases e105;replace hx105_0:=(HB.out.cell (World.block_lt_of_cell? w _ hx105_0)).trans hx105_0;replace p105:=eq_true p105;replace q105:=eq_true q105))
  go_ret
  exact ⟨by first|rfl|(simp [errW_none,errW_some] <;> rfl)|(simp [*,errW_none,errW_some] <;> rfl),hb_⟩
 ·replace c7:=Bool.eq_false_iff.mpr c7
  subst c7
  have H1 : (if a2 < (l1_0.length : Int) then (some ((rd l1_0 a2) != 0)) else (none)) = some r:=by rw [if_neg (show ¬ (false = true) by decide)] at H;exact H
  clear H
  have H:=H1
  clear H1
  replace H:=ifp_ H;obtain ⟨c12,H⟩:=H
  have c12b0 : decide (a2 < (l1_0.length : Int)) = true:=decide_eq_true c12
  clear c12
  obtain rfl:=Option.some.inj H
  go_enter Try.func45,Try.ntmps45
  go_wp2_with (first|((with_reducible refine gate_dst (N:=3) rfl ?_);refine box_ev (N:=3) (cs:=#[.int .i64 a0_0,.int .i64 a0_1,.slice A0_2 l0_2.length c0_2,.slice A0_3 l0_3.length c0_3,.slice A0_4 l0_4.length c0_4]) (t:=52) ?_;intro gb103 hg w13 hbox hb;have BK103:=Aside0.mk (hbox);have GW103 : Aside0 (w.heap.size ≤ gb103):=gsz hg;have GE103:=GW103;replace HB:=Aside0.mk (below_step (hb_) hb);clear hb hbox hg)|((with_reducible refine gate_dst (N:=4) rfl ?_);refine box_ev (N:=4) (cs:=#[.slice A1_0 l1_0.length c1_0,.slice A1_1 l1_1.length c1_1]) (t:=26) ?_;intro gb104 hg w14 hbox hb;have BK104:=Aside0.mk (hbox);have GW104 : Aside0 (w.heap.size ≤ gb104):=gsz hg;have GE104:=GW104;have NB103_104:=nbl BK103 hg;have NB104_103:=nbr BK103 hg;replace BK103:=bkb BK103 hb;replace HB:=Aside0.mk (below_step (hb_) hb);clear hb hbox hg;have hnb15:=NB103_104.out;have hnc15:=NB104_103.out;obtain ⟨hcz16_0,hcz16_1,hcz16_2,hcz16_3,hcz16_4,hfz16_0,hfz16_1,hfz16_2,hfz16_3,hfz16_4⟩:=cells5 BK103.out;have p105 : 0 ≤ (a2 : Int):=of_decide_eq_true (by first|(with_reducible assumption)|assumption);have q105 : a2 < (l0_4.length : Int):=of_decide_eq_true (by first|(with_reducible assumption)|assumption);obtain ⟨ad105,e105,hx105_0⟩:=Kd.at_bool HR0_4.out a2 p105 q105;(try rw [← Nbq6.out] at hx105_0);cases e105;replace hx105_0:=(HB.out.cell (World.block_lt_of_cell? w _ hx105_0)).trans hx105_0;replace p105:=eq_true p105;replace q105:=eq_true q105;obtain ⟨hcz17_0,hcz17_1,hfz17_0,hfz17_1⟩:=cells2 BK104.out;have p106 : 0 ≤ (a2 : Int):=of_decide_eq_true (by first|(with_reducible assumption)|assumption);have q106 : a2 < (l1_0.length : Int):=of_decide_eq_true (by first|(with_reducible assumption)|assumption);obtain ⟨ad106,e106,hx106_0⟩:=Kd.at_int HR1_0.out a2 p106 q106;cases e106;replace hx106_0:=(HB.out.cell (World.block_lt_of_cell? w _ hx106_0)).trans hx106_0;replace p106:=eq_true p106;replace q106:=eq_true q106))
  go_ret
  exact ⟨by first|rfl|(simp [errW_none,errW_some] <;> rfl)|(simp [*,errW_none,errW_some] <;> rfl),hb_⟩

/-! ### water_incline: function 69 -/
def water_incline.f (a0 : Int) : Option (Bool) := if a0 = 3 then (some true) else (if a0 = 6 then (some true) else (if a0 = 9 then (some true) else (some (a0 == 12))))
set_option maxHeartbeats 8000000 in
set_option maxRecDepth 100000 in
theorem water_incline.calls (a0 : Int) (r : Bool) (w : World) (h : water_incline.f a0 = some r) :
  Calls Try.prog 69 #[.int .i64 a0] w fun e w' => e = .returned (.bool r) ∧ Drawn0 w w':=by
 have H : (if a0 = 3 then (some true) else (if a0 = 6 then (some true) else (if a0 = 9 then (some true) else (some (a0 == 12))))) = some r:=h
 clear h
 by_cases c2 : a0 = 3
 ·rw [if_pos c2] at H
  have c2b0 : (a0 == 3) = true:=beq_iff_eq.mpr c2
  have c2b1 : (a0 != 3) = false:=bne_eq_false_iff_eq.mpr c2
  clear c2
  obtain rfl:=Option.some.inj H
  go_enter Try.func69,Try.ntmps69
  go_wp2
  go_ret
  exact ⟨by first|rfl|(simp;done)|(simp [*];done),by repeat (first|exact Drawn0.refl _|apply Drawn0.step)⟩
 rw [if_neg c2] at H
 have c2b0 : (a0 == 3) = false:=beq_eq_false_iff_ne.mpr c2
 have c2b1 : (a0 != 3) = true:=bne_iff_ne.mpr c2
 by_cases c3 : a0 = 6
 ·rw [if_pos c3] at H
  have c3b0 : (a0 == 6) = true:=beq_iff_eq.mpr c3
  have c3b1 : (a0 != 6) = false:=bne_eq_false_iff_eq.mpr c3
  clear c3
  obtain rfl:=Option.some.inj H
  go_enter Try.func69,Try.ntmps69
  go_wp2
  go_ret
  exact ⟨by first|rfl|(simp;done)|(simp [*];done),by repeat (first|exact Drawn0.refl _|apply Drawn0.step)⟩
 ·rw [if_neg c3] at H
  have c3b0 : (a0 == 6) = false:=beq_eq_false_iff_ne.mpr c3
  have c3b1 : (a0 != 6) = true:=bne_iff_ne.mpr c3
  by_cases c4 : a0 = 9
  ·rw [if_pos c4] at H
   have c4b0 : (a0 == 9) = true:=beq_iff_eq.mpr c4
   have c4b1 : (a0 != 9) = false:=bne_eq_false_iff_eq.mpr c4
   clear c4
   obtain rfl:=Option.some.inj H
   go_enter Try.func69,Try.ntmps69
   go_wp2
   go_ret
   exact ⟨by first|rfl|(simp;done)|(simp [*];done),by repeat (first|exact Drawn0.refl _|apply Drawn0.step)⟩
  ·rw [if_neg c4] at H
   have c4b0 : (a0 == 9) = false:=beq_eq_false_iff_ne.mpr c4
   have c4b1 : (a0 != 9) = true:=bne_iff_ne.mpr c4
   obtain rfl:=Option.some.inj H
   go_enter Try.func69,Try.ntmps69
   go_wp2
   go_ret
   exact ⟨by first|rfl|(simp;done)|(simp [*];done),by repeat (first|exact Drawn0.refl _|apply Drawn0.step)⟩

/-! ### water_ground_may: function 52 -/
mutual
def water_ground_may.j0 : Nat → Int → Int → Bool → Int → Int → List Int → List Int → List Bool → Option (Int)
 | 0,_,_,_,_,_,_,_,_ => none
 | k + 1,x1,x2,x7,x108000,x108001,x108002,x108003,x108004 => if x7 = true then (water_ground_may.j1 k x1 x2 x7 x108000 x108001 x108002 x108003 x108004) else (if x2 = 2 then (if 0 ≤ x1 then (if x1 < (x108004.length : Int) then (if rdOf false x108004 x1 = true then (water_ground_may.j1 k x1 x2 (rdOf false x108004 x1) x108000 x108001 x108002 x108003 x108004) else (if x2 = 3 then (if x1 < (x108002.length : Int) then (water_ground_may.j1 k x1 x2 ((rd x108002 x1) != 0) x108000 x108001 x108002 x108003 x108004) else (none)) else (water_ground_may.j1 k x1 x2 false x108000 x108001 x108002 x108003 x108004))) else (none)) else (none)) else (if x2 = 3 then (if 0 ≤ x1 then (if x1 < (x108004.length : Int) then (if rdOf false x108004 x1 = true then (water_ground_may.j1 k x1 x2 false x108000 x108001 x108002 x108003 x108004) else (if x1 < (x108002.length : Int) then (water_ground_may.j1 k x1 x2 ((rd x108002 x1) != 0) x108000 x108001 x108002 x108003 x108004) else (none))) else (none)) else (none)) else (water_ground_may.j1 k x1 x2 false x108000 x108001 x108002 x108003 x108004)))
def water_ground_may.j1 : Nat → Int → Int → Bool → Int → Int → List Int → List Int → List Bool → Option (Int)
 | 0,_,_,_,_,_,_,_,_ => none
 | k + 1,x1,x2,x7,x108000,x108001,x108002,x108003,x108004 => if x7 = true then (some 9) else (if x2 = 1 then (if 0 ≤ x1 then (if x1 < (x108002.length : Int) then (water_ground_may.j2 k x1 x2 ((rd x108002 x1) != 0) x108000 x108001 x108002 x108003 x108004) else (none)) else (none)) else (water_ground_may.j2 k x1 x2 false x108000 x108001 x108002 x108003 x108004))
def water_ground_may.j2 : Nat → Int → Int → Bool → Int → Int → List Int → List Int → List Bool → Option (Int)
 | 0,_,_,_,_,_,_,_,_ => none
 | k + 1,x1,x2,x44,x108000,x108001,x108002,x108003,x108004 => if x44 = true then (some 5) else (if x2 = 2 then (if 0 ≤ x1 then (if x1 < (x108002.length : Int) then ((water_incline.f (rd x108002 x1)).bind fun t116 => (if t116 = true then (some 0) else (some 5))) else (none)) else (none)) else (some 0))
end
def water_ground_may.f (k : Nat) (a0_0 : Int) (a0_1 : Int) (l0_2 : List Int) (l0_3 : List Int) (l0_4 : List Bool) (a1 : Int) (a2 : Int) : Option (Int) := if a2 = 1 then (if 0 ≤ a1 then (if a1 < (l0_4.length : Int) then (water_ground_may.j0 k a1 a2 (rdOf false l0_4 a1) a0_0 a0_1 l0_2 l0_3 l0_4) else (none)) else (none)) else (water_ground_may.j0 k a1 a2 false a0_0 a0_1 l0_2 l0_3 l0_4)
theorem water_ground_may.mono_l : ∀ k, (∀ y0 y1 y2 y3 y4 y5 y6 y7, LeO (water_ground_may.j0 k y0 y1 y2 y3 y4 y5 y6 y7) (water_ground_may.j0 (k + 1) y0 y1 y2 y3 y4 y5 y6 y7)) ∧ (∀ y0 y1 y2 y3 y4 y5 y6 y7, LeO (water_ground_may.j1 k y0 y1 y2 y3 y4 y5 y6 y7) (water_ground_may.j1 (k + 1) y0 y1 y2 y3 y4 y5 y6 y7)) ∧ (∀ y0 y1 y2 y3 y4 y5 y6 y7, LeO (water_ground_may.j2 k y0 y1 y2 y3 y4 y5 y6 y7) (water_ground_may.j2 (k + 1) y0 y1 y2 y3 y4 y5 y6 y7))
 | 0 => ⟨fun _ _ _ _ _ _ _ _ r h => by simp [water_ground_may.j0] at h,fun _ _ _ _ _ _ _ _ r h => by simp [water_ground_may.j1] at h,fun _ _ _ _ _ _ _ _ r h => by simp [water_ground_may.j2] at h⟩
 | k + 1 => by
  obtain ⟨ih0,ih1,ih2⟩:=water_ground_may.mono_l k
  refine ⟨?_,?_,?_⟩
  ·intro y0 y1 y2 y3 y4 y5 y6 y7
   unfold water_ground_may.j0
   repeat' first
   | (with_reducible exact ih0 _ _ _ _ _ _ _ _)
   | (with_reducible exact ih1 _ _ _ _ _ _ _ _)
   | (with_reducible exact ih2 _ _ _ _ _ _ _ _)
   | (with_reducible exact LeO.refl _)
   | (with_reducible exact LeO.none _)
   | (with_reducible refine LeO.ite ?_ ?_)
   | (with_reducible refine LeO.bind ?_ (fun _ => ?_))
   | exact ih0 _ _ _ _ _ _ _ _
   | exact ih1 _ _ _ _ _ _ _ _
   | exact ih2 _ _ _ _ _ _ _ _
   | exact LeO.none _
   | refine LeO.ite ?_ ?_
   | refine LeO.bind ?_ (fun _ => ?_)
  ·intro y0 y1 y2 y3 y4 y5 y6 y7
   unfold water_ground_may.j1
   repeat' first
   | (with_reducible exact ih0 _ _ _ _ _ _ _ _)
   | (with_reducible exact ih1 _ _ _ _ _ _ _ _)
   | (with_reducible exact ih2 _ _ _ _ _ _ _ _)
   | (with_reducible exact LeO.refl _)
   | (with_reducible exact LeO.none _)
   | (with_reducible refine LeO.ite ?_ ?_)
   | (with_reducible refine LeO.bind ?_ (fun _ => ?_))
   | exact ih0 _ _ _ _ _ _ _ _
   | exact ih1 _ _ _ _ _ _ _ _
   | exact ih2 _ _ _ _ _ _ _ _
   | exact LeO.none _
   | refine LeO.ite ?_ ?_
   | refine LeO.bind ?_ (fun _ => ?_)
  ·intro y0 y1 y2 y3 y4 y5 y6 y7
   unfold water_ground_may.j2
   repeat' first
   | (with_reducible exact ih0 _ _ _ _ _ _ _ _)
   | (with_reducible exact ih1 _ _ _ _ _ _ _ _)
   | (with_reducible exact ih2 _ _ _ _ _ _ _ _)
   | (with_reducible exact LeO.refl _)
   | (with_reducible exact LeO.none _)
   | (with_reducible refine LeO.ite ?_ ?_)
   | (with_reducible refine LeO.bind ?_ (fun _ => ?_))
   | exact ih0 _ _ _ _ _ _ _ _
   | exact ih1 _ _ _ _ _ _ _ _
   | exact ih2 _ _ _ _ _ _ _ _
   | exact LeO.none _
   | refine LeO.ite ?_ ?_
   | refine LeO.bind ?_ (fun _ => ?_)
theorem water_ground_may.mono : ∀ a0 a1 a2 a3 a4 a5 a6 k, LeO (water_ground_may.f k a0 a1 a2 a3 a4 a5 a6) (water_ground_may.f (k + 1) a0 a1 a2 a3 a4 a5 a6) := by
 intro a0 a1 a2 a3 a4 a5 a6 k
 obtain ⟨ih0,ih1,ih2⟩:=water_ground_may.mono_l k
 unfold water_ground_may.f
 repeat' first
   | (with_reducible exact ih0 _ _ _ _ _ _ _ _)
   | (with_reducible exact ih1 _ _ _ _ _ _ _ _)
   | (with_reducible exact ih2 _ _ _ _ _ _ _ _)
   | (with_reducible exact LeO.refl _)
   | (with_reducible exact LeO.none _)
   | (with_reducible refine LeO.ite ?_ ?_)
   | (with_reducible refine LeO.bind ?_ (fun _ => ?_))
   | exact ih0 _ _ _ _ _ _ _ _
   | exact ih1 _ _ _ _ _ _ _ _
   | exact ih2 _ _ _ _ _ _ _ _
   | exact LeO.none _
   | refine LeO.ite ?_ ?_
   | refine LeO.bind ?_ (fun _ => ?_)
set_option maxHeartbeats 8000000 in
set_option maxRecDepth 100000 in
theorem water_ground_may.calls (k : Nat) (a0_0 : Int) (a0_1 : Int) (A0_2 : Option Addr) (c0_2 : Nat) (l0_2 : List Int) (A0_3 : Option Addr) (c0_3 : Nat) (l0_3 : List Int) (A0_4 : Option Addr) (c0_4 : Nat) (l0_4 : List Bool) (a1 : Int) (a2 : Int) (r : Int) (w : World) (hr0_2 : Kd.C (Kd.int .i64) w A0_2 l0_2.length l0_2) (hc0_2 : l0_2.length ≤ c0_2) (hr0_3 : Kd.C (Kd.int .i64) w A0_3 l0_3.length l0_3) (hc0_3 : l0_3.length ≤ c0_3) (hr0_4 : Kd.C Kd.bool w A0_4 l0_4.length l0_4) (hc0_4 : l0_4.length ≤ c0_4) (h : water_ground_may.f k a0_0 a0_1 l0_2 l0_3 l0_4 a1 a2 = some r) :
  Calls Try.prog 52 #[.agg #[.int .i64 a0_0,.int .i64 a0_1,.slice A0_2 l0_2.length c0_2,.slice A0_3 l0_3.length c0_3,.slice A0_4 l0_4.length c0_4],.int .i64 a1,.int .i64 a2] w fun e w' => e = .returned (.int .i64 r) ∧ Below w.heap.size w w':=by
 have hu52:=Try.underlying52
 have HR0_2:=Aside0.mk hr0_2
 have HC0_2:=Aside0.mk hc0_2
 clear hr0_2 hc0_2
 have HR0_3:=Aside0.mk hr0_3
 have HC0_3:=Aside0.mk hc0_3
 clear hr0_3 hc0_3
 have HR0_4:=Aside0.mk hr0_4
 have HC0_4:=Aside0.mk hc0_4
 clear hr0_4 hc0_4
 have HB:=Aside0.mk (Below.refl w.heap.size w)
 have H : (if a2 = 1 then (if 0 ≤ a1 then (if a1 < (l0_4.length : Int) then (water_ground_may.j0 k a1 a2 (rdOf false l0_4 a1) a0_0 a0_1 l0_2 l0_3 l0_4) else (none)) else (none)) else (water_ground_may.j0 k a1 a2 false a0_0 a0_1 l0_2 l0_3 l0_4)) = some r:=h
 clear h
 have HC4:=Aside0.mk H
 clear H
 go_enter Try.func52,Try.ntmps52
 go_upto_region 1 with (first|((with_reducible refine gate_dst (N:=3) rfl ?_);refine box_ev (N:=3) (cs:=#[.int .i64 a0_0,.int .i64 a0_1,.slice A0_2 l0_2.length c0_2,.slice A0_3 l0_3.length c0_3,.slice A0_4 l0_4.length c0_4]) (t:=52) ?_;intro gb107 hg w5 hbox hb;have BK107:=Aside0.mk (hbox);have GW107 : Aside0 (w.heap.size ≤ gb107):=gsz hg;have GE107:=GW107;replace HB:=Aside0.mk (below_step (hb_) hb);clear hb hbox hg))
 (try simp only [Act.put,List.setIfInBounds_toArray,List.set_cons_zero,List.set_cons_succ])
 go_cut [7] (fun v7 wc => ∃ (kq : Nat) (x7_3 : Bool),v7 = .bool x7_3 ∧ Aside0 (water_ground_may.j0 kq a1 a2 x7_3 a0_0 a0_1 l0_2 l0_3 l0_4 = some r) ∧ Aside0 (kq ≤ k) ∧ Aside0 (wc.heap[gb107]? = some (.cells #[.int .i64 a0_0,.int .i64 a0_1,(.slice A0_2 l0_2.length c0_2),(.slice A0_3 l0_3.length c0_3),(.slice A0_4 l0_4.length c0_4)] 52 (0,0))) ∧ Aside0 (Below w.heap.size w wc))
 case first =>
  have H:=HC4.out
  clear HC4
  by_cases c6 : a2 = 1
  ·rw [if_pos c6] at H
   have c6b0 : (a2 == 1) = true:=beq_iff_eq.mpr c6
   have c6b1 : (a2 != 1) = false:=bne_eq_false_iff_eq.mpr c6
   clear c6
   (first|rw [c6b0]|(simp only [i64_w,i32_w];rw [c6b0])|skip)
   replace H:=ifp_ H;obtain ⟨c7,H⟩:=H
   have c7b0 : decide (0 ≤ a1) = true:=decide_eq_true c7
   clear c7
   replace H:=ifp_ H;obtain ⟨c8,H⟩:=H
   have c8b0 : decide (a1 < (l0_4.length : Int)) = true:=decide_eq_true c8
   clear c8
   have H':=Aside0.mk H
   clear H
   obtain ⟨hcz9_0,hcz9_1,hcz9_2,hcz9_3,hcz9_4,hfz9_0,hfz9_1,hfz9_2,hfz9_3,hfz9_4⟩:=cells5 BK107.out
   have p108 : 0 ≤ (a1 : Int):=of_decide_eq_true (by first|(with_reducible assumption)|assumption)
   have q108 : a1 < (l0_4.length : Int):=of_decide_eq_true (by first|(with_reducible assumption)|assumption)
   obtain ⟨ad108,e108,hx108_0⟩:=Kd.at_bool HR0_4.out a1 p108 q108
   cases e108
   replace hx108_0:=(HB.out.cell (World.block_lt_of_cell? w _ hx108_0)).trans hx108_0
   replace p108:=eq_true p108
   replace q108:=eq_true q108
   go_wp2
   go_meet
   case rel => exact ⟨_,(rdOf false l0_4 a1),(by first|rfl|(simp;done)|(simp [*];done)),H',⟨by first|omega|exact Nat.le_refl _⟩,⟨blk_up BK107.out⟩,⟨hb_⟩⟩
  ·rw [if_neg c6] at H
   have c6b0 : (a2 == 1) = false:=beq_eq_false_iff_ne.mpr c6
   have c6b1 : (a2 != 1) = true:=bne_iff_ne.mpr c6
   (first|rw [c6b0]|(simp only [i64_w,i32_w];rw [c6b0])|skip)
   have H':=Aside0.mk H
   clear H
   go_wp2
   go_meet
   case rel => exact ⟨_,(false),(by first|rfl|(simp;done)|(simp [*];done)),H',⟨by first|omega|exact Nat.le_refl _⟩,⟨blk_up BK107.out⟩,⟨hb_⟩⟩
 case rest =>
  clear HC4
  obtain ⟨kq,x7_3,rfl,HA,HJ3,BK107,HB⟩:=hcut
  cases kq with
  | zero => exact absurd HA.out (by simp [water_ground_may.j0])
  | succ kj3 =>
   have H:=HA.out
   clear HA
   simp only [water_ground_may.j0] at H
   have HC10:=Aside0.mk H
   clear H
   go_upto_if 7 with (fail)
   go_cut [7] (fun v7 wc => ∃ (kq : Nat) (x7_9 : Bool),v7 = .bool x7_9 ∧ Aside0 (water_ground_may.j1 kq a1 a2 x7_9 a0_0 a0_1 l0_2 l0_3 l0_4 = some r) ∧ Aside0 (kq ≤ kj3) ∧ Aside0 (wc.heap[gb107]? = some (.cells #[.int .i64 a0_0,.int .i64 a0_1,(.slice A0_2 l0_2.length c0_2),(.slice A0_3 l0_3.length c0_3),(.slice A0_4 l0_4.length c0_4)] 52 (0,0))) ∧ Aside0 (Below w.heap.size w wc))
   case first =>
    have H:=HC10.out
    clear HC10
    by_cases c11 : x7_3 = true
    ·subst c11
     have H1 : (water_ground_may.j1 kj3 a1 a2 true a0_0 a0_1 l0_2 l0_3 l0_4) = some r:=by rw [if_pos rfl] at H;exact H
     clear H
     have H:=H1
     clear H1
     have H':=Aside0.mk H
     clear H
     go_wp2
     go_meet
     case rel => exact ⟨_,(true),(by first|rfl|(simp;done)|(simp [*];done)),H',⟨by have:=HJ3.out;first|omega|exact Nat.le_refl _⟩,⟨blk_up BK107.out⟩,⟨hb_⟩⟩
    ·replace c11:=Bool.eq_false_iff.mpr c11
     subst c11
     have H1 : (if a2 = 2 then (if 0 ≤ a1 then (if a1 < (l0_4.length : Int) then (if rdOf false l0_4 a1 = true then (water_ground_may.j1 kj3 a1 a2 (rdOf false l0_4 a1) a0_0 a0_1 l0_2 l0_3 l0_4) else (if a2 = 3 then (if a1 < (l0_2.length : Int) then (water_ground_may.j1 kj3 a1 a2 ((rd l0_2 a1) != 0) a0_0 a0_1 l0_2 l0_3 l0_4) else (none)) else (water_ground_may.j1 kj3 a1 a2 false a0_0 a0_1 l0_2 l0_3 l0_4))) else (none)) else (none)) else (if a2 = 3 then (if 0 ≤ a1 then (if a1 < (l0_4.length : Int) then (if rdOf false l0_4 a1 = true then (water_ground_may.j1 kj3 a1 a2 false a0_0 a0_1 l0_2 l0_3 l0_4) else (if a1 < (l0_2.length : Int) then (water_ground_may.j1 kj3 a1 a2 ((rd l0_2 a1) != 0) a0_0 a0_1 l0_2 l0_3 l0_4) else (none))) else (none)) else (none)) else (water_ground_may.j1 kj3 a1 a2 false a0_0 a0_1 l0_2 l0_3 l0_4))) = some r:=by rw [if_neg (show ¬ (false = true) by decide)] at H;exact H
     clear H
     have H:=H1
     clear H1
     by_cases c12 : a2 = 2
     rotate_left
     ·rw [if_neg c12] at H
      have c12b0 : (a2 == 2) = false:=beq_eq_false_iff_ne.mpr c12
      have c12b1 : (a2 != 2) = true:=bne_iff_ne.mpr c12
      (first|rw [c12b0]|(simp only [i64_w,i32_w];rw [c12b0])|skip)
      by_cases c22 : a2 = 3
      rotate_left
      ·rw [if_neg c22] at H
       have c22b0 : (a2 == 3) = false:=beq_eq_false_iff_ne.mpr c22
       have c22b1 : (a2 != 3) = true:=bne_iff_ne.mpr c22
       have H':=Aside0.mk H
       clear H
       go_wp2
       go_meet
       case rel => exact ⟨_,(false),(by first|rfl|(simp;done)|(simp [*];done)),H',⟨by have:=HJ3.out;first|omega|exact Nat.le_refl _⟩,⟨blk_up BK107.out⟩,⟨hb_⟩⟩
      rw [if_pos c22] at H
      have c22b0 : (a2 == 3) = true:=beq_iff_eq.mpr c22
      have c22b1 : (a2 != 3) = false:=bne_eq_false_iff_eq.mpr c22
      clear c22
      replace H:=ifp_ H;obtain ⟨c23,H⟩:=H
      have c23b0 : decide (0 ≤ a1) = true:=decide_eq_true c23
      clear c23
      replace H:=ifp_ H;obtain ⟨c24,H⟩:=H
      have c24b0 : decide (a1 < (l0_4.length : Int)) = true:=decide_eq_true c24
      clear c24
      obtain ⟨bq25,hbq25⟩ : ∃ b_ : Bool,b_ = (rdOf false l0_4 a1):=⟨_,rfl⟩
      replace H : (if bq25 = true then (water_ground_may.j1 kj3 a1 a2 false a0_0 a0_1 l0_2 l0_3 l0_4) else (if a1 < (l0_2.length : Int) then (water_ground_may.j1 kj3 a1 a2 ((rd l0_2 a1) != 0) a0_0 a0_1 l0_2 l0_3 l0_4) else (none))) = some r:=by rw [← hbq25] at H;exact H
      have Nbq25:=Aside0.mk hbq25
      clear hbq25
      by_cases c26 : bq25 = true
      ·subst c26
       have H1 : (water_ground_may.j1 kj3 a1 a2 false a0_0 a0_1 l0_2 l0_3 l0_4) = some r:=by rw [if_pos rfl] at H;exact H
       clear H
       have H:=H1
       clear H1
       have H':=Aside0.mk H
       clear H
       obtain ⟨hcz27_0,hcz27_1,hcz27_2,hcz27_3,hcz27_4,hfz27_0,hfz27_1,hfz27_2,hfz27_3,hfz27_4⟩:=cells5 BK107.out
       have p112 : 0 ≤ (a1 : Int):=of_decide_eq_true (by first|(with_reducible assumption)|assumption)
       have q112 : a1 < (l0_4.length : Int):=of_decide_eq_true (by first|(with_reducible assumption)|assumption)
       obtain ⟨ad112,e112,hx112_0⟩:=Kd.at_bool HR0_4.out a1 p112 q112
       (try rw [← Nbq25.out] at hx112_0)
       cases e112
       replace hx112_0:=(HB.out.cell (World.block_lt_of_cell? w _ hx112_0)).trans hx112_0
       replace p112:=eq_true p112
       replace q112:=eq_true q112
       go_wp2
       go_meet
       case rel => exact ⟨_,(false),(by first|rfl|(simp;done)|(simp [*];done)),H',⟨by have:=HJ3.out;first|omega|exact Nat.le_refl _⟩,⟨blk_up BK107.out⟩,⟨hb_⟩⟩
      ·replace c26:=Bool.eq_false_iff.mpr c26
       subst c26
       have H1 : (if a1 < (l0_2.length : Int) then (water_ground_may.j1 kj3 a1 a2 ((rd l0_2 a1) != 0) a0_0 a0_1 l0_2 l0_3 l0_4) else (none)) = some r:=by rw [if_neg (show ¬ (false = true) by decide)] at H;exact H
       clear H
       have H:=H1
       clear H1
       replace H:=ifp_ H;obtain ⟨c28,H⟩:=H
       have c28b0 : decide (a1 < (l0_2.length : Int)) = true:=decide_eq_true c28
       clear c28
       have H':=Aside0.mk H
       clear H
       obtain ⟨hcz29_0,hcz29_1,hcz29_2,hcz29_3,hcz29_4,hfz29_0,hfz29_1,hfz29_2,hfz29_3,hfz29_4⟩:=cells5 BK107.out
       have p112 : 0 ≤ (a1 : Int):=of_decide_eq_true (by first|(with_reducible assumption)|assumption)
       have q112 : a1 < (l0_4.length : Int):=of_decide_eq_true (by first|(with_reducible assumption)|assumption)
       obtain ⟨ad112,e112,hx112_0⟩:=Kd.at_bool HR0_4.out a1 p112 q112
       (try rw [← Nbq25.out] at hx112_0)
       cases e112
       replace hx112_0:=(HB.out.cell (World.block_lt_of_cell? w _ hx112_0)).trans hx112_0
       replace p112:=eq_true p112
       replace q112:=eq_true q112
       have p113 : 0 ≤ (a1 : Int):=of_decide_eq_true (by first|(with_reducible assumption)|assumption)
       have q113 : a1 < (l0_2.length : Int):=of_decide_eq_true (by first|(with_reducible assumption)|assumption)
       obtain ⟨ad113,e113,hx113_0⟩:=Kd.at_int HR0_2.out a1 p113 q113
       cases e113
       replace hx113_0:=(HB.out.cell (World.block_lt_of_cell? w _ hx113_0)).trans hx113_0
       replace p113:=eq_true p113
       replace q113:=eq_true q113
       go_wp2
       go_meet
       case rel => exact ⟨_,(((rd l0_2 a1) != 0)),(by first|rfl|(simp;done)|(simp [*];done)),H',⟨by have:=HJ3.out;first|omega|exact Nat.le_refl _⟩,⟨blk_up BK107.out⟩,⟨hb_⟩⟩
     rw [if_pos c12] at H
     have c12b0 : (a2 == 2) = true:=beq_iff_eq.mpr c12
     have c12b1 : (a2 != 2) = false:=bne_eq_false_iff_eq.mpr c12
     clear c12
     (first|rw [c12b0]|(simp only [i64_w,i32_w];rw [c12b0])|skip)
     replace H:=ifp_ H;obtain ⟨c13,H⟩:=H
     have c13b0 : decide (0 ≤ a1) = true:=decide_eq_true c13
     clear c13
     replace H:=ifp_ H;obtain ⟨c14,H⟩:=H
     have c14b0 : decide (a1 < (l0_4.length : Int)) = true:=decide_eq_true c14
     clear c14
     obtain ⟨bq15,hbq15⟩ : ∃ b_ : Bool,b_ = (rdOf false l0_4 a1):=⟨_,rfl⟩
     replace H : (if bq15 = true then (water_ground_may.j1 kj3 a1 a2 bq15 a0_0 a0_1 l0_2 l0_3 l0_4) else (if a2 = 3 then (if a1 < (l0_2.length : Int) then (water_ground_may.j1 kj3 a1 a2 ((rd l0_2 a1) != 0) a0_0 a0_1 l0_2 l0_3 l0_4) else (none)) else (water_ground_may.j1 kj3 a1 a2 false a0_0 a0_1 l0_2 l0_3 l0_4))) = some r:=by rw [← hbq15] at H;exact H
     have Nbq15:=Aside0.mk hbq15
     clear hbq15
     by_cases c16 : bq15 = true
     ·subst c16
      have H1 : (water_ground_may.j1 kj3 a1 a2 true a0_0 a0_1 l0_2 l0_3 l0_4) = some r:=by rw [if_pos rfl] at H;exact H
      clear H
      have H:=H1
      clear H1
      have H':=Aside0.mk H
      clear H
      obtain ⟨hcz17_0,hcz17_1,hcz17_2,hcz17_3,hcz17_4,hfz17_0,hfz17_1,hfz17_2,hfz17_3,hfz17_4⟩:=cells5 BK107.out
      have p109 : 0 ≤ (a1 : Int):=of_decide_eq_true (by first|(with_reducible assumption)|assumption)
      have q109 : a1 < (l0_4.length : Int):=of_decide_eq_true (by first|(with_reducible assumption)|assumption)
      obtain ⟨ad109,e109,hx109_0⟩:=Kd.at_bool HR0_4.out a1 p109 q109
      (try rw [← Nbq15.out] at hx109_0)
      cases e109
      replace hx109_0:=(HB.out.cell (World.block_lt_of_cell? w _ hx109_0)).trans hx109_0
      replace p109:=eq_true p109
      replace q109:=eq_true q109
      go_wp2
      go_meet
      case rel => exact ⟨_,(true),(by first|rfl|(simp;done)|(simp [*];done)),H',⟨by have:=HJ3.out;first|omega|exact Nat.le_refl _⟩,⟨blk_up BK107.out⟩,⟨hb_⟩⟩
     ·replace c16:=Bool.eq_false_iff.mpr c16
      subst c16
      have H1 : (if a2 = 3 then (if a1 < (l0_2.length : Int) then (water_ground_may.j1 kj3 a1 a2 ((rd l0_2 a1) != 0) a0_0 a0_1 l0_2 l0_3 l0_4) else (none)) else (water_ground_may.j1 kj3 a1 a2 false a0_0 a0_1 l0_2 l0_3 l0_4)) = some r:=by rw [if_neg (show ¬ (false = true) by decide)] at H;exact H
      clear H
      have H:=H1
      clear H1
      by_cases c18 : a2 = 3
      ·rw [if_pos c18] at H
       have c18b0 : (a2 == 3) = true:=beq_iff_eq.mpr c18
       have c18b1 : (a2 != 3) = false:=bne_eq_false_iff_eq.mpr c18
       clear c18
       replace H:=ifp_ H;obtain ⟨c19,H⟩:=H
       have c19b0 : decide (a1 < (l0_2.length : Int)) = true:=decide_eq_true c19
       clear c19
       have H':=Aside0.mk H
       clear H
       obtain ⟨hcz20_0,hcz20_1,hcz20_2,hcz20_3,hcz20_4,hfz20_0,hfz20_1,hfz20_2,hfz20_3,hfz20_4⟩:=cells5 BK107.out
       have p109 : 0 ≤ (a1 : Int):=of_decide_eq_true (by first|(with_reducible assumption)|assumption)
       have q109 : a1 < (l0_4.length : Int):=of_decide_eq_true (by first|(with_reducible assumption)|assumption)
       obtain ⟨ad109,e109,hx109_0⟩:=Kd.at_bool HR0_4.out a1 p109 q109
       (try rw [← Nbq15.out] at hx109_0)
       cases e109
       replace hx109_0:=(HB.out.cell (World.block_lt_of_cell? w _ hx109_0)).trans hx109_0
       replace p109:=eq_true p109
       replace q109:=eq_true q109
       have p110 : 0 ≤ (a1 : Int):=of_decide_eq_true (by first|(with_reducible assumption)|assumption)
       have q110 : a1 < (l0_4.length : Int):=of_decide_eq_true (by first|(with_reducible assumption)|assumption)
       obtain ⟨ad110,e110,hx110_0⟩:=Kd.at_bool HR0_4.out a1 p110 q110
       (try rw [← Nbq15.out] at hx110_0)
       obtain rfl : ad109 = ad110:=(by injection e110)
       replace hx110_0:=(HB.out.cell (World.block_lt_of_cell? w _ hx110_0)).trans hx110_0
       replace p110:=eq_true p110
       replace q110:=eq_true q110
       have p111 : 0 ≤ (a1 : Int):=of_decide_eq_true (by first|(with_reducible assumption)|assumption)
       have q111 : a1 < (l0_2.length : Int):=of_decide_eq_true (by first|(with_reducible assumption)|assumption)
       obtain ⟨ad111,e111,hx111_0⟩:=Kd.at_int HR0_2.out a1 p111 q111
       cases e111
       replace hx111_0:=(HB.out.cell (World.block_lt_of_cell? w _ hx111_0)).trans hx111_0
       replace p111:=eq_true p111
       replace q111:=eq_true q111
       go_wp2
       go_meet
       case rel => exact ⟨_,(((rd l0_2 a1) != 0)),(by first|rfl|(simp;done)|(simp [*];done)),H',⟨by have:=HJ3.out;first|omega|exact Nat.le_refl _⟩,⟨blk_up BK107.out⟩,⟨hb_⟩⟩
      ·rw [if_neg c18] at H
       have c18b0 : (a2 == 3) = false:=beq_eq_false_iff_ne.mpr c18
       have c18b1 : (a2 != 3) = true:=bne_iff_ne.mpr c18
       have H':=Aside0.mk H
       clear H
       obtain ⟨hcz21_0,hcz21_1,hcz21_2,hcz21_3,hcz21_4,hfz21_0,hfz21_1,hfz21_2,hfz21_3,hfz21_4⟩:=cells5 BK107.out
       have p109 : 0 ≤ (a1 : Int):=of_decide_eq_true (by first|(with_reducible assumption)|assumption)
       have q109 : a1 < (l0_4.length : Int):=of_decide_eq_true (by first|(with_reducible assumption)|assumption)
       obtain ⟨ad109,e109,hx109_0⟩:=Kd.at_bool HR0_4.out a1 p109 q109
       (try rw [← Nbq15.out] at hx109_0)
       cases e109
       replace hx109_0:=(HB.out.cell (World.block_lt_of_cell? w _ hx109_0)).trans hx109_0
       replace p109:=eq_true p109
       replace q109:=eq_true q109
       go_wp2
       go_meet
       case rel => exact ⟨_,(false),(by first|rfl|(simp;done)|(simp [*];done)),H',⟨by have:=HJ3.out;first|omega|exact Nat.le_refl _⟩,⟨blk_up BK107.out⟩,⟨hb_⟩⟩
   case rest =>
    clear HC10
    obtain ⟨kq,x7_9,rfl,HA,HJ9,BK107,HB⟩:=hcut
    cases kq with
    | zero => exact absurd HA.out (by simp [water_ground_may.j1])
    | succ kj9 =>
     have H:=HA.out
     clear HA
     simp only [water_ground_may.j1] at H
     by_cases c30 : x7_9 = true
     ·subst c30
      have H1 : (some 9) = some r:=by rw [if_pos rfl] at H;exact H
      clear H
      have H:=H1
      clear H1
      obtain rfl:=Option.some.inj H
      go_wp2
      go_ret
      exact ⟨by first|rfl|(simp [errW_none,errW_some] <;> rfl)|(simp [*,errW_none,errW_some] <;> rfl),hb_⟩
     ·replace c30:=Bool.eq_false_iff.mpr c30
      subst c30
      have H1 : (if a2 = 1 then (if 0 ≤ a1 then (if a1 < (l0_2.length : Int) then (water_ground_may.j2 kj9 a1 a2 ((rd l0_2 a1) != 0) a0_0 a0_1 l0_2 l0_3 l0_4) else (none)) else (none)) else (water_ground_may.j2 kj9 a1 a2 false a0_0 a0_1 l0_2 l0_3 l0_4)) = some r:=by rw [if_neg (show ¬ (false = true) by decide)] at H;exact H
      clear H
      have H:=H1
      clear H1
      have HC31:=Aside0.mk H
      clear H
      go_upto_region 5 with (fail)
      go_cut [44] (fun v44 wc => ∃ (kq : Nat) (x44_30 : Bool),v44 = .bool x44_30 ∧ Aside0 (water_ground_may.j2 kq a1 a2 x44_30 a0_0 a0_1 l0_2 l0_3 l0_4 = some r) ∧ Aside0 (kq ≤ kj9) ∧ Aside0 (wc.heap[gb107]? = some (.cells #[.int .i64 a0_0,.int .i64 a0_1,(.slice A0_2 l0_2.length c0_2),(.slice A0_3 l0_3.length c0_3),(.slice A0_4 l0_4.length c0_4)] 52 (0,0))) ∧ Aside0 (Below w.heap.size w wc))
      case first =>
       have H:=HC31.out
       clear HC31
       by_cases c32 : a2 = 1
       ·rw [if_pos c32] at H
        have c32b0 : (a2 == 1) = true:=beq_iff_eq.mpr c32
        have c32b1 : (a2 != 1) = false:=bne_eq_false_iff_eq.mpr c32
        clear c32
        (first|rw [c32b0]|(simp only [i64_w,i32_w];rw [c32b0])|skip)
        replace H:=ifp_ H;obtain ⟨c33,H⟩:=H
        have c33b0 : decide (0 ≤ a1) = true:=decide_eq_true c33
        clear c33
        replace H:=ifp_ H;obtain ⟨c34,H⟩:=H
        have c34b0 : decide (a1 < (l0_2.length : Int)) = true:=decide_eq_true c34
        clear c34
        have H':=Aside0.mk H
        clear H
        obtain ⟨hcz35_0,hcz35_1,hcz35_2,hcz35_3,hcz35_4,hfz35_0,hfz35_1,hfz35_2,hfz35_3,hfz35_4⟩:=cells5 BK107.out
        have p114 : 0 ≤ (a1 : Int):=of_decide_eq_true (by first|(with_reducible assumption)|assumption)
        have q114 : a1 < (l0_2.length : Int):=of_decide_eq_true (by first|(with_reducible assumption)|assumption)
        obtain ⟨ad114,e114,hx114_0⟩:=Kd.at_int HR0_2.out a1 p114 q114
        cases e114
        replace hx114_0:=(HB.out.cell (World.block_lt_of_cell? w _ hx114_0)).trans hx114_0
        replace p114:=eq_true p114
        replace q114:=eq_true q114
        go_wp2
        go_meet
        case rel => exact ⟨_,(((rd l0_2 a1) != 0)),(by first|rfl|(simp;done)|(simp [*];done)),H',⟨by have:=HJ3.out;have:=HJ9.out;first|omega|exact Nat.le_refl _⟩,⟨blk_up BK107.out⟩,⟨hb_⟩⟩
       ·rw [if_neg c32] at H
        have c32b0 : (a2 == 1) = false:=beq_eq_false_iff_ne.mpr c32
        have c32b1 : (a2 != 1) = true:=bne_iff_ne.mpr c32
        (first|rw [c32b0]|(simp only [i64_w,i32_w];rw [c32b0])|skip)
        have H':=Aside0.mk H
        clear H
        go_wp2
        go_meet
        case rel => exact ⟨_,(false),(by first|rfl|(simp;done)|(simp [*];done)),H',⟨by have:=HJ3.out;have:=HJ9.out;first|omega|exact Nat.le_refl _⟩,⟨blk_up BK107.out⟩,⟨hb_⟩⟩
      case rest =>
       clear HC31
       obtain ⟨kq,x44_30,rfl,HA,HJ30,BK107,HB⟩:=hcut
       cases kq with
       | zero => exact absurd HA.out (by simp [water_ground_may.j2])
       | succ kj30 =>
        have H:=HA.out
        clear HA
        simp only [water_ground_may.j2] at H
        by_cases c36 : x44_30 = true
        ·subst c36
         have H1 : (some 5) = some r:=by rw [if_pos rfl] at H;exact H
         clear H
         have H:=H1
         clear H1
         obtain rfl:=Option.some.inj H
         go_wp2
         go_ret
         exact ⟨by first|rfl|(simp [errW_none,errW_some] <;> rfl)|(simp [*,errW_none,errW_some] <;> rfl),hb_⟩
        ·replace c36:=Bool.eq_false_iff.mpr c36
         subst c36
         have H1 : (if a2 = 2 then (if 0 ≤ a1 then (if a1 < (l0_2.length : Int) then ((water_incline.f (rd l0_2 a1)).bind fun t116 => (if t116 = true then (some 0) else (some 5))) else (none)) else (none)) else (some 0)) = some r:=by rw [if_neg (show ¬ (false = true) by decide)] at H;exact H
         clear H
         have H:=H1
         clear H1
         by_cases c37 : a2 = 2
         rotate_left
         ·rw [if_neg c37] at H
          have c37b0 : (a2 == 2) = false:=beq_eq_false_iff_ne.mpr c37
          have c37b1 : (a2 != 2) = true:=bne_iff_ne.mpr c37
          obtain rfl:=Option.some.inj H
          go_wp2
          go_ret
          exact ⟨by first|rfl|(simp [errW_none,errW_some] <;> rfl)|(simp [*,errW_none,errW_some] <;> rfl),hb_⟩
         rw [if_pos c37] at H
         have c37b0 : (a2 == 2) = true:=beq_iff_eq.mpr c37
         have c37b1 : (a2 != 2) = false:=bne_eq_false_iff_eq.mpr c37
         clear c37
         replace H:=ifp_ H;obtain ⟨c38,H⟩:=H
         have c38b0 : decide (0 ≤ a1) = true:=decide_eq_true c38
         clear c38
         replace H:=ifp_ H;obtain ⟨c39,H⟩:=H
         have c39b0 : decide (a1 < (l0_2.length : Int)) = true:=decide_eq_true c39
         clear c39
         replace H:=Option.bind_eq_some_iff.mp H
         obtain ⟨t116,A400,H⟩:=H
         replace H : (if t116 = true then (some 0) else (some 5)) = some r:=H
         have A40:=Aside0.mk A400
         clear A400
         by_cases c41 : t116 = true
         ·subst c41
          have H1 : (some 0) = some r:=by rw [if_pos rfl] at H;exact H
          clear H
          have H:=H1
          clear H1
          obtain rfl:=Option.some.inj H
          obtain ⟨hcz42_0,hcz42_1,hcz42_2,hcz42_3,hcz42_4,hfz42_0,hfz42_1,hfz42_2,hfz42_3,hfz42_4⟩:=cells5 BK107.out
          have p115 : 0 ≤ (a1 : Int):=of_decide_eq_true (by first|(with_reducible assumption)|assumption)
          have q115 : a1 < (l0_2.length : Int):=of_decide_eq_true (by first|(with_reducible assumption)|assumption)
          obtain ⟨ad115,e115,hx115_0⟩:=Kd.at_int HR0_2.out a1 p115 q115
          cases e115
          replace hx115_0:=(HB.out.cell (World.block_lt_of_cell? w _ hx115_0)).trans hx115_0
          replace p115:=eq_true p115
          replace q115:=eq_true q115
          go_wp2_with (first|(go_at_call 69;(with_reducible refine (water_incline.calls (rd l0_2 a1) true _ A40.out).mono ?_);rintro e w' ⟨rfl,⟨nd,rfl⟩⟩))
          go_ret
          exact ⟨by first|rfl|(simp [errW_none,errW_some] <;> rfl)|(simp [*,errW_none,errW_some] <;> rfl),hb_⟩
         ·replace c41:=Bool.eq_false_iff.mpr c41
          subst c41
          have H1 : (some 5) = some r:=by rw [if_neg (show ¬ (false = true) by decide)] at H;exact H
          clear H
          have H:=H1
          clear H1
          obtain rfl:=Option.some.inj H
          obtain ⟨hcz43_0,hcz43_1,hcz43_2,hcz43_3,hcz43_4,hfz43_0,hfz43_1,hfz43_2,hfz43_3,hfz43_4⟩:=cells5 BK107.out
          have p115 : 0 ≤ (a1 : Int):=of_decide_eq_true (by first|(with_reducible assumption)|assumption)
          have q115 : a1 < (l0_2.length : Int):=of_decide_eq_true (by first|(with_reducible assumption)|assumption)
          obtain ⟨ad115,e115,hx115_0⟩:=Kd.at_int HR0_2.out a1 p115 q115
          cases e115
          replace hx115_0:=(HB.out.cell (World.block_lt_of_cell? w _ hx115_0)).trans hx115_0
          replace p115:=eq_true p115
          replace q115:=eq_true q115
          go_wp2_with (first|(go_at_call 69;(with_reducible refine (water_incline.calls (rd l0_2 a1) false _ A40.out).mono ?_);rintro e w' ⟨rfl,⟨nd,rfl⟩⟩))
          go_ret
          exact ⟨by first|rfl|(simp [errW_none,errW_some] <;> rfl)|(simp [*,errW_none,errW_some] <;> rfl),hb_⟩

/-! ### land_apart: function 79 -/
def land_apart.f (a0 : Int) (a1 : Int) : Option (Bool) := if (wrap64 (a0 - a1)) > 1 then (some true) else (some (decide ((wrap64 (a1 - a0)) > 1)))
set_option maxHeartbeats 8000000 in
set_option maxRecDepth 100000 in
theorem land_apart.calls (a0 : Int) (a1 : Int) (r : Bool) (w : World) (h : land_apart.f a0 a1 = some r) :
  Calls Try.prog 79 #[.int .i64 a0,.int .i64 a1] w fun e w' => e = .returned (.bool r) ∧ Drawn0 w w':=by
 have H : (if (wrap64 (a0 - a1)) > 1 then (some true) else (some (decide ((wrap64 (a1 - a0)) > 1)))) = some r:=h
 clear h
 by_cases c3 : (wrap64 (a0 - a1)) > 1
 ·rw [if_pos c3] at H
  have c3b0 : decide (1 < (wrap64 (a0 - a1))) = true:=decide_eq_true c3
  clear c3
  obtain rfl:=Option.some.inj H
  go_enter Try.func79,Try.ntmps79
  go_wp2
  go_ret
  exact ⟨by first|rfl|(simp;done)|(simp [*];done),by repeat (first|exact Drawn0.refl _|apply Drawn0.step)⟩
 ·rw [if_neg c3] at H
  have c3b0 : decide (1 < (wrap64 (a0 - a1))) = false:=decide_eq_false c3
  clear c3
  obtain rfl:=Option.some.inj H
  go_enter Try.func79,Try.ntmps79
  go_wp2
  go_ret
  exact ⟨by first|rfl|(simp;done)|(simp [*];done),by repeat (first|exact Drawn0.refl _|apply Drawn0.step)⟩

end Go.Proofs.Ytiencnnkphipoaa.P

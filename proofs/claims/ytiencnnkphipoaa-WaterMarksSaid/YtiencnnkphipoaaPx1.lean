/- Functions of this seat as plain Lean functions, with proofs that the Go code comes to just their answers, or what stands between them and a law's statement; no conditions. (Laid by a program of this session, out of the kit's print.) -/
import Derived.Test.YtiencnnkphipoaaPx0
namespace Go.Proofs.Ytiencnnkphipoaa.P
open Go.RowKit Go.Proofs.YtiencnnkphipoaaW.PrintWords Go.Proofs.YtiencnnkphipoaaW.PrintLast Go.Proofs.YtiencnnkphipoaaW.PrintMore
attribute [local go_sem] max2_int min2_int max_two min_two max_three min_three max_four min_four   -- for this text's walks alone
set_option linter.unusedVariables false
set_option linter.unusedSimpArgs false

/-! ### hinterlandlaw06_large: function 14 -/
def hinterlandlaw06_large.f (a0_0 : Int) (a0_1 : Int) (l0_2 : List Int) (l1_0 : List Int) (l1_1 : List Int) : Option (Bool) := if (l0_2.length : Int) > 4000 then (some true) else (if (l1_0.length : Int) > 4000 then (some true) else (some (decide ((l1_1.length : Int) > 4000))))
set_option maxHeartbeats 8000000 in
set_option maxRecDepth 100000 in
theorem hinterlandlaw06_large.calls (a0_0 : Int) (a0_1 : Int) (A0_2 : Option Addr) (c0_2 : Nat) (l0_2 : List Int) (A1_0 : Option Addr) (c1_0 : Nat) (l1_0 : List Int) (A1_1 : Option Addr) (c1_1 : Nat) (l1_1 : List Int) (r : Bool) (w : World) (hr0_2 : Kd.C (Kd.int .i64) w A0_2 l0_2.length l0_2) (hc0_2 : l0_2.length ≤ c0_2) (hr1_0 : Kd.C (Kd.int .i64) w A1_0 l1_0.length l1_0) (hc1_0 : l1_0.length ≤ c1_0) (hr1_1 : Kd.C (Kd.int .i64) w A1_1 l1_1.length l1_1) (hc1_1 : l1_1.length ≤ c1_1) (h : hinterlandlaw06_large.f a0_0 a0_1 l0_2 l1_0 l1_1 = some r) :
  Calls Try.prog 14 #[.agg #[.int .i64 a0_0,.int .i64 a0_1,.slice A0_2 l0_2.length c0_2],.agg #[.slice A1_0 l1_0.length c1_0,.slice A1_1 l1_1.length c1_1]] w fun e w' => e = .returned (.bool r) ∧ Below w.heap.size w w':=by
 have hu24:=Try.underlying24
 have hu26:=Try.underlying26
 have HR0_2:=Aside0.mk hr0_2
 have HC0_2:=Aside0.mk hc0_2
 clear hr0_2 hc0_2
 have HR1_0:=Aside0.mk hr1_0
 have HC1_0:=Aside0.mk hc1_0
 clear hr1_0 hc1_0
 have HR1_1:=Aside0.mk hr1_1
 have HC1_1:=Aside0.mk hc1_1
 clear hr1_1 hc1_1
 have HB:=Aside0.mk (Below.refl w.heap.size w)
 have H : (if (l0_2.length : Int) > 4000 then (some true) else (if (l1_0.length : Int) > 4000 then (some true) else (some (decide ((l1_1.length : Int) > 4000))))) = some r:=h
 clear h
 by_cases c3 : (l0_2.length : Int) > 4000
 ·rw [if_pos c3] at H
  have c3b0 : decide (4000 < (l0_2.length : Int)) = true:=decide_eq_true c3
  have c3b1 : decide (4000 < l0_2.length) = true:=decide_eq_true (by omega)
  clear c3
  obtain rfl:=Option.some.inj H
  go_enter Try.func14,Try.ntmps14
  go_wp2_with (first|((with_reducible refine gate_dst (N:=2) rfl ?_);(try (refine gate_guard (by rfl) ?_;dsimp only));refine box_ev (N:=2) (cs:=#[.int .i64 a0_0,.int .i64 a0_1,.slice A0_2 l0_2.length c0_2]) (t:=24) ?_;intro gb101 hg w4 hbox hb;have BK101:=Aside0.mk (hbox);have GW101 : Aside0 (w.heap.size ≤ gb101):=gsz hg;have GE101:=GW101;replace HB:=hbs hb;clear hb hbox hg)|((with_reducible refine gate_dst (N:=3) rfl ?_);(try (refine gate_guard (by rfl) ?_;dsimp only));refine box_ev (N:=3) (cs:=#[.slice A1_0 l1_0.length c1_0,.slice A1_1 l1_1.length c1_1]) (t:=26) ?_;intro gb102 hg w5 hbox hb;have BK102:=Aside0.mk (hbox);have GW102 : Aside0 (w.heap.size ≤ gb102):=gsz hg;have GE102:=GW102;have NB101_102:=nbl BK101 hg;have NB102_101:=nbr BK101 hg;replace BK101:=bkb BK101 hb;replace HB:=hbs hb;clear hb hbox hg;have hnb6:=NB101_102.out;have hnc6:=NB102_101.out;obtain ⟨_,_,_,_,_,_⟩:=cells3 BK101.out))
  go_ret
  exact ⟨er_,hb_⟩
 ·rw [if_neg c3] at H
  have c3b0 : decide (4000 < (l0_2.length : Int)) = false:=decide_eq_false c3
  have c3b1 : decide (4000 < l0_2.length) = false:=decide_eq_false (by omega)
  clear c3
  by_cases c8 : (l1_0.length : Int) > 4000
  ·rw [if_pos c8] at H
   have c8b0 : decide (4000 < (l1_0.length : Int)) = true:=decide_eq_true c8
   have c8b1 : decide (4000 < l1_0.length) = true:=decide_eq_true (by omega)
   clear c8
   obtain rfl:=Option.some.inj H
   go_enter Try.func14,Try.ntmps14
   go_wp2_with (first|((with_reducible refine gate_dst (N:=2) rfl ?_);(try (refine gate_guard (by rfl) ?_;dsimp only));refine box_ev (N:=2) (cs:=#[.int .i64 a0_0,.int .i64 a0_1,.slice A0_2 l0_2.length c0_2]) (t:=24) ?_;intro gb101 hg w9 hbox hb;have BK101:=Aside0.mk (hbox);have GW101 : Aside0 (w.heap.size ≤ gb101):=gsz hg;have GE101:=GW101;replace HB:=hbs hb;clear hb hbox hg)|((with_reducible refine gate_dst (N:=3) rfl ?_);(try (refine gate_guard (by rfl) ?_;dsimp only));refine box_ev (N:=3) (cs:=#[.slice A1_0 l1_0.length c1_0,.slice A1_1 l1_1.length c1_1]) (t:=26) ?_;intro gb102 hg w10 hbox hb;have BK102:=Aside0.mk (hbox);have GW102 : Aside0 (w.heap.size ≤ gb102):=gsz hg;have GE102:=GW102;have NB101_102:=nbl BK101 hg;have NB102_101:=nbr BK101 hg;replace BK101:=bkb BK101 hb;replace HB:=hbs hb;clear hb hbox hg;have hnb11:=NB101_102.out;have hnc11:=NB102_101.out;obtain ⟨_,_,_,_,_,_⟩:=cells3 BK101.out;obtain ⟨_,_,_,_⟩:=cells2 BK102.out))
   go_ret
   exact ⟨er_,hb_⟩
  ·rw [if_neg c8] at H
   have c8b0 : decide (4000 < (l1_0.length : Int)) = false:=decide_eq_false c8
   have c8b1 : decide (4000 < l1_0.length) = false:=decide_eq_false (by omega)
   clear c8
   obtain rfl:=Option.some.inj H
   go_enter Try.func14,Try.ntmps14
   go_wp2_with (first|((with_reducible refine gate_dst (N:=2) rfl ?_);(try (refine gate_guard (by rfl) ?_;dsimp only));refine box_ev (N:=2) (cs:=#[.int .i64 a0_0,.int .i64 a0_1,.slice A0_2 l0_2.length c0_2]) (t:=24) ?_;intro gb101 hg w14 hbox hb;have BK101:=Aside0.mk (hbox);have GW101 : Aside0 (w.heap.size ≤ gb101):=gsz hg;have GE101:=GW101;replace HB:=hbs hb;clear hb hbox hg)|((with_reducible refine gate_dst (N:=3) rfl ?_);(try (refine gate_guard (by rfl) ?_;dsimp only));refine box_ev (N:=3) (cs:=#[.slice A1_0 l1_0.length c1_0,.slice A1_1 l1_1.length c1_1]) (t:=26) ?_;intro gb102 hg w15 hbox hb;have BK102:=Aside0.mk (hbox);have GW102 : Aside0 (w.heap.size ≤ gb102):=gsz hg;have GE102:=GW102;have NB101_102:=nbl BK101 hg;have NB102_101:=nbr BK101 hg;replace BK101:=bkb BK101 hb;replace HB:=hbs hb;clear hb hbox hg;have hnb16:=NB101_102.out;have hnc16:=NB102_101.out;obtain ⟨_,_,_,_,_,_⟩:=cells3 BK101.out;obtain ⟨_,_,_,_⟩:=cells2 BK102.out))
   go_ret
   exact ⟨er_,hb_⟩

/-! ### water_ground_wet: function 45 -/
def water_ground_wet.f (a0_0 : Int) (a0_1 : Int) (l0_2 : List Int) (l0_3 : List Int) (l0_4 : List Bool) (l1_0 : List Int) (l1_1 : List Int) (a2 : Int) : Option (Bool) := if 0 ≤ a2 then (if a2 < (l0_4.length : Int) then (if rdOf false l0_4 a2 = true then (some true) else (if a2 < (l1_0.length : Int) then (some ((rd l1_0 a2) != 0)) else (none))) else (none)) else (none)
set_option maxHeartbeats 8000000 in
set_option maxRecDepth 100000 in
theorem water_ground_wet.calls (a0_0 : Int) (a0_1 : Int) (A0_2 : Option Addr) (c0_2 : Nat) (l0_2 : List Int) (A0_3 : Option Addr) (c0_3 : Nat) (l0_3 : List Int) (A0_4 : Option Addr) (c0_4 : Nat) (l0_4 : List Bool) (A1_0 : Option Addr) (c1_0 : Nat) (l1_0 : List Int) (A1_1 : Option Addr) (c1_1 : Nat) (l1_1 : List Int) (a2 : Int) (r : Bool) (w : World) (hr0_2 : Kd.C (Kd.int .i64) w A0_2 l0_2.length l0_2) (hc0_2 : l0_2.length ≤ c0_2) (hr0_3 : Kd.C (Kd.int .i64) w A0_3 l0_3.length l0_3) (hc0_3 : l0_3.length ≤ c0_3) (hr0_4 : Kd.C Kd.bool w A0_4 l0_4.length l0_4) (hc0_4 : l0_4.length ≤ c0_4) (hr1_0 : Kd.C (Kd.int .i64) w A1_0 l1_0.length l1_0) (hc1_0 : l1_0.length ≤ c1_0) (hr1_1 : Kd.C (Kd.int .i64) w A1_1 l1_1.length l1_1) (hc1_1 : l1_1.length ≤ c1_1) (h : water_ground_wet.f a0_0 a0_1 l0_2 l0_3 l0_4 l1_0 l1_1 a2 = some r) :
  Calls Try.prog 45 #[.agg #[.int .i64 a0_0,.int .i64 a0_1,.slice A0_2 l0_2.length c0_2,.slice A0_3 l0_3.length c0_3,.slice A0_4 l0_4.length c0_4],.agg #[.slice A1_0 l1_0.length c1_0,.slice A1_1 l1_1.length c1_1],.int .i64 a2] w fun e w' => e = .returned (.bool r) ∧ Below w.heap.size w w':=by
 have hu52:=Try.underlying52
 have hu26:=Try.underlying26
 have HR0_2:=Aside0.mk hr0_2
 have HC0_2:=Aside0.mk hc0_2
 clear hr0_2 hc0_2
 have HR0_3:=Aside0.mk hr0_3
 have HC0_3:=Aside0.mk hc0_3
 clear hr0_3 hc0_3
 have HR0_4:=Aside0.mk hr0_4
 have HC0_4:=Aside0.mk hc0_4
 clear hr0_4 hc0_4
 have HR1_0:=Aside0.mk hr1_0
 have HC1_0:=Aside0.mk hc1_0
 clear hr1_0 hc1_0
 have HR1_1:=Aside0.mk hr1_1
 have HC1_1:=Aside0.mk hc1_1
 clear hr1_1 hc1_1
 have HB:=Aside0.mk (Below.refl w.heap.size w)
 have H : (if 0 ≤ a2 then (if a2 < (l0_4.length : Int) then (if rdOf false l0_4 a2 = true then (some true) else (if a2 < (l1_0.length : Int) then (some ((rd l1_0 a2) != 0)) else (none))) else (none)) else (none)) = some r:=h
 clear h
 replace H:=ifp_ H;obtain ⟨c4,H⟩:=H
 have c4b0 : decide (0 ≤ a2) = true:=decide_eq_true c4
 clear c4
 replace H:=ifp_ H;obtain ⟨c5,H⟩:=H
 have c5b0 : decide (a2 < (l0_4.length : Int)) = true:=decide_eq_true c5
 clear c5
 obtain ⟨bq6,hbq6⟩ : ∃ b_ : Bool,b_ = (rdOf false l0_4 a2):=⟨_,rfl⟩
 replace H : (if bq6 = true then (some true) else (if a2 < (l1_0.length : Int) then (some ((rd l1_0 a2) != 0)) else (none))) = some r:=by rw [← hbq6] at H;exact H
 have Nbq6:=Aside0.mk hbq6
 clear hbq6
 by_cases c7 : bq6 = true
 ·subst c7
  have H1 : (some true) = some r:=by rw [if_pos rfl] at H;exact H
  clear H
  have H:=H1
  clear H1
  obtain rfl:=Option.some.inj H
  go_enter Try.func45,Try.ntmps45
  go_wp2_with (first|((with_reducible refine gate_dst (N:=3) rfl ?_);refine box_ev (N:=3) (cs:=#[.int .i64 a0_0,.int .i64 a0_1,.slice A0_2 l0_2.length c0_2,.slice A0_3 l0_3.length c0_3,.slice A0_4 l0_4.length c0_4]) (t:=52) ?_;intro gb103 hg w8 hbox hb;have BK103:=Aside0.mk (hbox);have GW103 : Aside0 (w.heap.size ≤ gb103):=gsz hg;have GE103:=GW103;replace HB:=hbs hb;clear hb hbox hg)|((with_reducible refine gate_dst (N:=4) rfl ?_);refine box_ev (N:=4) (cs:=#[.slice A1_0 l1_0.length c1_0,.slice A1_1 l1_1.length c1_1]) (t:=26) ?_;intro gb104 hg w9 hbox hb;have BK104:=Aside0.mk (hbox);have GW104 : Aside0 (w.heap.size ≤ gb104):=gsz hg;have GE104:=GW104;have NB103_104:=nbl BK103 hg;have NB104_103:=nbr BK103 hg;replace BK103:=bkb BK103 hb;replace HB:=hbs hb;clear hb hbox hg;have hnb10:=NB103_104.out;have hnc10:=NB104_103.out;obtain ⟨_,_,_,_,_,_,_,_,_,_⟩:=cells5 BK103.out;have p105 : 0 ≤ (a2 : Int):=of_decide_eq_true (by first|(with_reducible assumption)|assumption);have q105 : a2 < (l0_4.length : Int):=of_decide_eq_true (by first|(with_reducible assumption)|assumption);obtain ⟨ad105,e105,hx105_0⟩:=Kd.at_bool HR0_4.out a2 p105 q105;(try rw [← Nbq6.out] at hx105_0);cases e105;replace hx105_0:=(HB.out.cell (World.block_lt_of_cell? w _ hx105_0)).trans hx105_0;replace p105:=eq_true p105;replace q105:=eq_true q105))
  go_ret
  exact ⟨er_,hb_⟩
 ·replace c7:=Bool.eq_false_iff.mpr c7
  subst c7
  have H1 : (if a2 < (l1_0.length : Int) then (some ((rd l1_0 a2) != 0)) else (none)) = some r:=by rw [if_neg (show ¬ (false = true) by decide)] at H;exact H
  clear H
  have H:=H1
  clear H1
  replace H:=ifp_ H;obtain ⟨c12,H⟩:=H
  have c12b0 : decide (a2 < (l1_0.length : Int)) = true:=decide_eq_true c12
  clear c12
  obtain rfl:=Option.some.inj H
  go_enter Try.func45,Try.ntmps45
  go_wp2_with (first|((with_reducible refine gate_dst (N:=3) rfl ?_);refine box_ev (N:=3) (cs:=#[.int .i64 a0_0,.int .i64 a0_1,.slice A0_2 l0_2.length c0_2,.slice A0_3 l0_3.length c0_3,.slice A0_4 l0_4.length c0_4]) (t:=52) ?_;intro gb103 hg w13 hbox hb;have BK103:=Aside0.mk (hbox);have GW103 : Aside0 (w.heap.size ≤ gb103):=gsz hg;have GE103:=GW103;replace HB:=hbs hb;clear hb hbox hg)|((with_reducible refine gate_dst (N:=4) rfl ?_);refine box_ev (N:=4) (cs:=#[.slice A1_0 l1_0.length c1_0,.slice A1_1 l1_1.length c1_1]) (t:=26) ?_;intro gb104 hg w14 hbox hb;have BK104:=Aside0.mk (hbox);have GW104 : Aside0 (w.heap.size ≤ gb104):=gsz hg;have GE104:=GW104;have NB103_104:=nbl BK103 hg;have NB104_103:=nbr BK103 hg;replace BK103:=bkb BK103 hb;replace HB:=hbs hb;clear hb hbox hg;have hnb15:=NB103_104.out;have hnc15:=NB104_103.out;obtain ⟨_,_,_,_,_,_,_,_,_,_⟩:=cells5 BK103.out;have p105 : 0 ≤ (a2 : Int):=of_decide_eq_true (by first|(with_reducible assumption)|assumption);have q105 : a2 < (l0_4.length : Int):=of_decide_eq_true (by first|(with_reducible assumption)|assumption);obtain ⟨ad105,e105,hx105_0⟩:=Kd.at_bool HR0_4.out a2 p105 q105;(try rw [← Nbq6.out] at hx105_0);cases e105;replace hx105_0:=(HB.out.cell (World.block_lt_of_cell? w _ hx105_0)).trans hx105_0;replace p105:=eq_true p105;replace q105:=eq_true q105;obtain ⟨_,_,_,_⟩:=cells2 BK104.out;have p106 : 0 ≤ (a2 : Int):=of_decide_eq_true (by first|(with_reducible assumption)|assumption);have q106 : a2 < (l1_0.length : Int):=of_decide_eq_true (by first|(with_reducible assumption)|assumption);obtain ⟨ad106,e106,hx106_0⟩:=Kd.at_int HR1_0.out a2 p106 q106;cases e106;replace hx106_0:=(HB.out.cell (World.block_lt_of_cell? w _ hx106_0)).trans hx106_0;replace p106:=eq_true p106;replace q106:=eq_true q106))
  go_ret
  exact ⟨er_,hb_⟩

/-! ### water_incline: function 69 -/
def water_incline.f (a0 : Int) : Option (Bool) := if a0 = 3 then (some true) else (if a0 = 6 then (some true) else (if a0 = 9 then (some true) else (some (a0 == 12))))
set_option maxHeartbeats 8000000 in
set_option maxRecDepth 100000 in
theorem water_incline.calls (a0 : Int) (r : Bool) (w : World) (h : water_incline.f a0 = some r) :
  Calls Try.prog 69 #[.int .i64 a0] w fun e w' => e = .returned (.bool r) ∧ Drawn0 w w':=by
 have H : (if a0 = 3 then (some true) else (if a0 = 6 then (some true) else (if a0 = 9 then (some true) else (some (a0 == 12))))) = some r:=h
 clear h
 by_cases c2 : a0 = 3
 ·rw [if_pos c2] at H
  have c2b0:=bqt c2
  have c2b1:=bnf c2
  clear c2
  obtain rfl:=Option.some.inj H
  go_enter Try.func69,Try.ntmps69
  go_wp2
  go_ret
  exact ⟨by first|rfl|(simp;done)|(simp [*];done),by repeat (first|exact Drawn0.refl _|apply Drawn0.step)⟩
 rw [if_neg c2] at H
 have c2b0:=bqf c2
 have c2b1:=bnt c2
 by_cases c3 : a0 = 6
 ·rw [if_pos c3] at H
  have c3b0:=bqt c3
  have c3b1:=bnf c3
  clear c3
  obtain rfl:=Option.some.inj H
  go_enter Try.func69,Try.ntmps69
  go_wp2
  go_ret
  exact ⟨by first|rfl|(simp;done)|(simp [*];done),by repeat (first|exact Drawn0.refl _|apply Drawn0.step)⟩
 ·rw [if_neg c3] at H
  have c3b0:=bqf c3
  have c3b1:=bnt c3
  by_cases c4 : a0 = 9
  ·rw [if_pos c4] at H
   have c4b0:=bqt c4
   have c4b1:=bnf c4
   clear c4
   obtain rfl:=Option.some.inj H
   go_enter Try.func69,Try.ntmps69
   go_wp2
   go_ret
   exact ⟨by first|rfl|(simp;done)|(simp [*];done),by repeat (first|exact Drawn0.refl _|apply Drawn0.step)⟩
  ·rw [if_neg c4] at H
   have c4b0:=bqf c4
   have c4b1:=bnt c4
   obtain rfl:=Option.some.inj H
   go_enter Try.func69,Try.ntmps69
   go_wp2
   go_ret
   exact ⟨by first|rfl|(simp;done)|(simp [*];done),by repeat (first|exact Drawn0.refl _|apply Drawn0.step)⟩

/-! ### water_ground_may: function 52 -/
mutual
def water_ground_may.j0 : Nat → Int → Int → Bool → Int → Int → List Int → List Int → List Bool → Option (Int)
 | 0,_,_,_,_,_,_,_,_ => none
 | k + 1,x1,x2,x7,x108000,x108001,x108002,x108003,x108004 => if x7 = true then (water_ground_may.j1 k x1 x2 x7 x108000 x108001 x108002 x108003 x108004) else (if x2 = 2 then (if 0 ≤ x1 then (if x1 < (x108004.length : Int) then (if rdOf false x108004 x1 = true then (water_ground_may.j1 k x1 x2 (rdOf false x108004 x1) x108000 x108001 x108002 x108003 x108004) else (if x2 = 3 then (if x1 < (x108002.length : Int) then (water_ground_may.j1 k x1 x2 ((rd x108002 x1) != 0) x108000 x108001 x108002 x108003 x108004) else (none)) else (water_ground_may.j1 k x1 x2 false x108000 x108001 x108002 x108003 x108004))) else (none)) else (none)) else (if x2 = 3 then (if 0 ≤ x1 then (if x1 < (x108004.length : Int) then (if rdOf false x108004 x1 = true then (water_ground_may.j1 k x1 x2 false x108000 x108001 x108002 x108003 x108004) else (if x1 < (x108002.length : Int) then (water_ground_may.j1 k x1 x2 ((rd x108002 x1) != 0) x108000 x108001 x108002 x108003 x108004) else (none))) else (none)) else (none)) else (water_ground_may.j1 k x1 x2 false x108000 x108001 x108002 x108003 x108004)))
def water_ground_may.j1 : Nat → Int → Int → Bool → Int → Int → List Int → List Int → List Bool → Option (Int)
 | 0,_,_,_,_,_,_,_,_ => none
 | k + 1,x1,x2,x7,x108000,x108001,x108002,x108003,x108004 => if x7 = true then (some 9) else (if x2 = 1 then (if 0 ≤ x1 then (if x1 < (x108002.length : Int) then (water_ground_may.j2 k x1 x2 ((rd x108002 x1) != 0) x108000 x108001 x108002 x108003 x108004) else (none)) else (none)) else (water_ground_may.j2 k x1 x2 false x108000 x108001 x108002 x108003 x108004))
def water_ground_may.j2 : Nat → Int → Int → Bool → Int → Int → List Int → List Int → List Bool → Option (Int)
 | 0,_,_,_,_,_,_,_,_ => none
 | k + 1,x1,x2,x44,x108000,x108001,x108002,x108003,x108004 => if x44 = true then (some 5) else (if x2 = 2 then (if 0 ≤ x1 then (if x1 < (x108002.length : Int) then ((water_incline.f (rd x108002 x1)).bind fun t116 => (if t116 = true then (some 0) else (some 5))) else (none)) else (none)) else (some 0))
end
def water_ground_may.f (k : Nat) (a0_0 : Int) (a0_1 : Int) (l0_2 : List Int) (l0_3 : List Int) (l0_4 : List Bool) (a1 : Int) (a2 : Int) : Option (Int) := if a2 = 1 then (if 0 ≤ a1 then (if a1 < (l0_4.length : Int) then (water_ground_may.j0 k a1 a2 (rdOf false l0_4 a1) a0_0 a0_1 l0_2 l0_3 l0_4) else (none)) else (none)) else (water_ground_may.j0 k a1 a2 false a0_0 a0_1 l0_2 l0_3 l0_4)
theorem water_ground_may.mono_l : ∀ k, (∀ y0 y1 y2 y3 y4 y5 y6 y7, LeO (water_ground_may.j0 k y0 y1 y2 y3 y4 y5 y6 y7) (water_ground_may.j0 (k + 1) y0 y1 y2 y3 y4 y5 y6 y7)) ∧ (∀ y0 y1 y2 y3 y4 y5 y6 y7, LeO (water_ground_may.j1 k y0 y1 y2 y3 y4 y5 y6 y7) (water_ground_may.j1 (k + 1) y0 y1 y2 y3 y4 y5 y6 y7)) ∧ (∀ y0 y1 y2 y3 y4 y5 y6 y7, LeO (water_ground_may.j2 k y0 y1 y2 y3 y4 y5 y6 y7) (water_ground_may.j2 (k + 1) y0 y1 y2 y3 y4 y5 y6 y7))
 | 0 => ⟨fun _ _ _ _ _ _ _ _ r h => by simp [water_ground_may.j0] at h,fun _ _ _ _ _ _ _ _ r h => by simp [water_ground_may.j1] at h,fun _ _ _ _ _ _ _ _ r h => by simp [water_ground_may.j2] at h⟩
 | k + 1 => by
  obtain ⟨ih0,ih1,ih2⟩:=water_ground_may.mono_l k
  refine ⟨?_,?_,?_⟩
  ·intro y0 y1 y2 y3 y4 y5 y6 y7
   unfold water_ground_may.j0
   repeat' first
   | (with_reducible exact ih0 _ _ _ _ _ _ _ _)
   | (with_reducible exact ih1 _ _ _ _ _ _ _ _)
   | (with_reducible exact ih2 _ _ _ _ _ _ _ _)
   | (with_reducible exact LeO.refl _)
   | (with_reducible exact LeO.none _)
   | (with_reducible refine LeO.ite ?_ ?_)
   | (with_reducible refine LeO.bind ?_ (fun _ => ?_))
   | exact ih0 _ _ _ _ _ _ _ _
   | exact ih1 _ _ _ _ _ _ _ _
   | exact ih2 _ _ _ _ _ _ _ _
   | exact LeO.none _
   | refine LeO.ite ?_ ?_
   | refine LeO.bind ?_ (fun _ => ?_)
  ·intro y0 y1 y2 y3 y4 y5 y6 y7
   unfold water_ground_may.j1
   repeat' first
   | (with_reducible exact ih0 _ _ _ _ _ _ _ _)
   | (with_reducible exact ih1 _ _ _ _ _ _ _ _)
   | (with_reducible exact ih2 _ _ _ _ _ _ _ _)
   | (with_reducible exact LeO.refl _)
   | (with_reducible exact LeO.none _)
   | (with_reducible refine LeO.ite ?_ ?_)
   | (with_reducible refine LeO.bind ?_ (fun _ => ?_))
   | exact ih0 _ _ _ _ _ _ _ _
   | exact ih1 _ _ _ _ _ _ _ _
   | exact ih2 _ _ _ _ _ _ _ _
   | exact LeO.none _
   | refine LeO.ite ?_ ?_
   | refine LeO.bind ?_ (fun _ => ?_)
  ·intro y0 y1 y2 y3 y4 y5 y6 y7
   unfold water_ground_may.j2
   repeat' first
   | (with_reducible exact ih0 _ _ _ _ _ _ _ _)
   | (with_reducible exact ih1 _ _ _ _ _ _ _ _)
   | (with_reducible exact ih2 _ _ _ _ _ _ _ _)
   | (with_reducible exact LeO.refl _)
   | (with_reducible exact LeO.none _)
   | (with_reducible refine LeO.ite ?_ ?_)
   | (with_reducible refine LeO.bind ?_ (fun _ => ?_))
   | exact ih0 _ _ _ _ _ _ _ _
   | exact ih1 _ _ _ _ _ _ _ _
   | exact ih2 _ _ _ _ _ _ _ _
   | exact LeO.none _
   | refine LeO.ite ?_ ?_
   | refine LeO.bind ?_ (fun _ => ?_)
theorem water_ground_may.mono : ∀ a0 a1 a2 a3 a4 a5 a6 k, LeO (water_ground_may.f k a0 a1 a2 a3 a4 a5 a6) (water_ground_may.f (k + 1) a0 a1 a2 a3 a4 a5 a6) := by
 intro a0 a1 a2 a3 a4 a5 a6 k
 obtain ⟨ih0,ih1,ih2⟩:=water_ground_may.mono_l k
 unfold water_ground_may.f
 repeat' first
   | (with_reducible exact ih0 _ _ _ _ _ _ _ _)
   | (with_reducible exact ih1 _ _ _ _ _ _ _ _)
   | (with_reducible exact ih2 _ _ _ _ _ _ _ _)
   | (with_reducible exact LeO.refl _)
   | (with_reducible exact LeO.none _)
   | (with_reducible refine LeO.ite ?_ ?_)
   | (with_reducible refine LeO.bind ?_ (fun _ => ?_))
   | exact ih0 _ _ _ _ _ _ _ _
   | exact ih1 _ _ _ _ _ _ _ _
   | exact ih2 _ _ _ _ _ _ _ _
   | exact LeO.none _
   | refine LeO.ite ?_ ?_
   | refine LeO.bind ?_ (fun _ => ?_)
set_option maxHeartbeats 8000000 in
set_option maxRecDepth 100000 in
theorem water_ground_may.calls (k : Nat) (a0_0 : Int) (a0_1 : Int) (A0_2 : Option Addr) (c0_2 : Nat) (l0_2 : List Int) (A0_3 : Option Addr) (c0_3 : Nat) (l0_3 : List Int) (A0_4 : Option Addr) (c0_4 : Nat) (l0_4 : List Bool) (a1 : Int) (a2 : Int) (r : Int) (w : World) (hr0_2 : Kd.C (Kd.int .i64) w A0_2 l0_2.length l0_2) (hc0_2 : l0_2.length ≤ c0_2) (hr0_3 : Kd.C (Kd.int .i64) w A0_3 l0_3.length l0_3) (hc0_3 : l0_3.length ≤ c0_3) (hr0_4 : Kd.C Kd.bool w A0_4 l0_4.length l0_4) (hc0_4 : l0_4.length ≤ c0_4) (h : water_ground_may.f k a0_0 a0_1 l0_2 l0_3 l0_4 a1 a2 = some r) :
  Calls Try.prog 52 #[.agg #[.int .i64 a0_0,.int .i64 a0_1,.slice A0_2 l0_2.length c0_2,.slice A0_3 l0_3.length c0_3,.slice A0_4 l0_4.length c0_4],.int .i64 a1,.int .i64 a2] w fun e w' => e = .returned (.int .i64 r) ∧ Below w.heap.size w w':=by
 have hu52:=Try.underlying52
 have HR0_2:=Aside0.mk hr0_2
 have HC0_2:=Aside0.mk hc0_2
 clear hr0_2 hc0_2
 have HR0_3:=Aside0.mk hr0_3
 have HC0_3:=Aside0.mk hc0_3
 clear hr0_3 hc0_3
 have HR0_4:=Aside0.mk hr0_4
 have HC0_4:=Aside0.mk hc0_4
 clear hr0_4 hc0_4
 have HB:=Aside0.mk (Below.refl w.heap.size w)
 have H : (if a2 = 1 then (if 0 ≤ a1 then (if a1 < (l0_4.length : Int) then (water_ground_may.j0 k a1 a2 (rdOf false l0_4 a1) a0_0 a0_1 l0_2 l0_3 l0_4) else (none)) else (none)) else (water_ground_may.j0 k a1 a2 false a0_0 a0_1 l0_2 l0_3 l0_4)) = some r:=h
 clear h
 have HC4:=Aside0.mk H
 clear H
 go_enter Try.func52,Try.ntmps52
 go_upto_region 1 with (first|((with_reducible refine gate_dst (N:=3) rfl ?_);refine box_ev (N:=3) (cs:=#[.int .i64 a0_0,.int .i64 a0_1,.slice A0_2 l0_2.length c0_2,.slice A0_3 l0_3.length c0_3,.slice A0_4 l0_4.length c0_4]) (t:=52) ?_;intro gb107 hg w5 hbox hb;have BK107:=Aside0.mk (hbox);have GW107 : Aside0 (w.heap.size ≤ gb107):=gsz hg;have GE107:=GW107;replace HB:=hbs hb;clear hb hbox hg))
 (try simp only [Act.put,List.setIfInBounds_toArray,List.set_cons_zero,List.set_cons_succ])
 go_cut [7] (fun v7 wc => ∃ (kq : Nat) (x7_3 : Bool),v7 = .bool x7_3 ∧ Aside0 (water_ground_may.j0 kq a1 a2 x7_3 a0_0 a0_1 l0_2 l0_3 l0_4 = some r) ∧ Aside0 (kq ≤ k) ∧ Aside0 (wc.heap[gb107]? = some (.cells #[.int .i64 a0_0,.int .i64 a0_1,(.slice A0_2 l0_2.length c0_2),(.slice A0_3 l0_3.length c0_3),(.slice A0_4 l0_4.length c0_4)] 52 (0,0))) ∧ Aside0 (Below w.heap.size w wc))
 case first =>
  have H:=HC4.out
  clear HC4
  by_cases c6 : a2 = 1
  ·rw [if_pos c6] at H
   have c6b0:=bqt c6
   have c6b1:=bnf c6
   clear c6
   (first|rw [c6b0]|(simp only [i64_w,i32_w];rw [c6b0])|skip)
   replace H:=ifp_ H;obtain ⟨c7,H⟩:=H
   have c7b0 : decide (0 ≤ a1) = true:=decide_eq_true c7
   clear c7
   replace H:=ifp_ H;obtain ⟨c8,H⟩:=H
   have c8b0 : decide (a1 < (l0_4.length : Int)) = true:=decide_eq_true c8
   clear c8
   have H':=Aside0.mk H
   clear H
   obtain ⟨_,_,_,_,_,_,_,_,_,_⟩:=cells5 BK107.out
   have p108 : 0 ≤ (a1 : Int):=of_decide_eq_true (by first|(with_reducible assumption)|assumption)
   have q108 : a1 < (l0_4.length : Int):=of_decide_eq_true (by first|(with_reducible assumption)|assumption)
   obtain ⟨ad108,e108,hx108_0⟩:=Kd.at_bool HR0_4.out a1 p108 q108
   cases e108
   replace hx108_0:=(HB.out.cell (World.block_lt_of_cell? w _ hx108_0)).trans hx108_0
   replace p108:=eq_true p108
   replace q108:=eq_true q108
   go_wp2
   go_meet
   case rel => exact ⟨_,(rdOf false l0_4 a1),(by first|rfl|(simp;done)|(simp [*];done)),H',⟨by first|omega|exact Nat.le_refl _⟩,⟨blk_up BK107.out⟩,⟨hb_⟩⟩
  ·rw [if_neg c6] at H
   have c6b0:=bqf c6
   have c6b1:=bnt c6
   (first|rw [c6b0]|(simp only [i64_w,i32_w];rw [c6b0])|skip)
   have H':=Aside0.mk H
   clear H
   go_wp2
   go_meet
   case rel => exact ⟨_,(false),(by first|rfl|(simp;done)|(simp [*];done)),H',⟨by first|omega|exact Nat.le_refl _⟩,⟨blk_up BK107.out⟩,⟨hb_⟩⟩
 case rest =>
  clear HC4
  obtain ⟨kq,x7_3,rfl,HA,HJ3,BK107,HB⟩:=hcut
  cases kq with
  | zero => exact absurd HA.out (by simp [water_ground_may.j0])
  | succ kj3 =>
   have H:=HA.out
   clear HA
   simp only [water_ground_may.j0] at H
   have HC10:=Aside0.mk H
   clear H
   go_upto_if 7 with (fail)
   go_cut [7] (fun v7 wc => ∃ (kq : Nat) (x7_9 : Bool),v7 = .bool x7_9 ∧ Aside0 (water_ground_may.j1 kq a1 a2 x7_9 a0_0 a0_1 l0_2 l0_3 l0_4 = some r) ∧ Aside0 (kq ≤ kj3) ∧ Aside0 (wc.heap[gb107]? = some (.cells #[.int .i64 a0_0,.int .i64 a0_1,(.slice A0_2 l0_2.length c0_2),(.slice A0_3 l0_3.length c0_3),(.slice A0_4 l0_4.length c0_4)] 52 (0,0))) ∧ Aside0 (Below w.heap.size w wc))
   case first =>
    have H:=HC10.out
    clear HC10
    by_cases c11 : x7_3 = true
    ·subst c11
     have H1 : (water_ground_may.j1 kj3 a1 a2 true a0_0 a0_1 l0_2 l0_3 l0_4) = some r:=by rw [if_pos rfl] at H;exact H
     clear H
     have H:=H1
     clear H1
     have H':=Aside0.mk H
     clear H
     go_wp2
     go_meet
     case rel => exact ⟨_,(true),(by first|rfl|(simp;done)|(simp [*];done)),H',⟨by have:=HJ3.out;first|omega|exact Nat.le_refl _⟩,⟨blk_up BK107.out⟩,⟨hb_⟩⟩
    ·replace c11:=Bool.eq_false_iff.mpr c11
     subst c11
     have H1 : (if a2 = 2 then (if 0 ≤ a1 then (if a1 < (l0_4.length : Int) then (if rdOf false l0_4 a1 = true then (water_ground_may.j1 kj3 a1 a2 (rdOf false l0_4 a1) a0_0 a0_1 l0_2 l0_3 l0_4) else (if a2 = 3 then (if a1 < (l0_2.length : Int) then (water_ground_may.j1 kj3 a1 a2 ((rd l0_2 a1) != 0) a0_0 a0_1 l0_2 l0_3 l0_4) else (none)) else (water_ground_may.j1 kj3 a1 a2 false a0_0 a0_1 l0_2 l0_3 l0_4))) else (none)) else (none)) else (if a2 = 3 then (if 0 ≤ a1 then (if a1 < (l0_4.length : Int) then (if rdOf false l0_4 a1 = true then (water_ground_may.j1 kj3 a1 a2 false a0_0 a0_1 l0_2 l0_3 l0_4) else (if a1 < (l0_2.length : Int) then (water_ground_may.j1 kj3 a1 a2 ((rd l0_2 a1) != 0) a0_0 a0_1 l0_2 l0_3 l0_4) else (none))) else (none)) else (none)) else (water_ground_may.j1 kj3 a1 a2 false a0_0 a0_1 l0_2 l0_3 l0_4))) = some r:=by rw [if_neg (show ¬ (false = true) by decide)] at H;exact H
     clear H
     have H:=H1
     clear H1
     by_cases c12 : a2 = 2
     rotate_left
     ·rw [if_neg c12] at H
      have c12b0:=bqf c12
      have c12b1:=bnt c12
      (first|rw [c12b0]|(simp only [i64_w,i32_w];rw [c12b0])|skip)
      by_cases c22 : a2 = 3
      rotate_left
      ·rw [if_neg c22] at H
       have c22b0:=bqf c22
       have c22b1:=bnt c22
       have H':=Aside0.mk H
       clear H
       go_wp2
       go_meet
       case rel => exact ⟨_,(false),(by first|rfl|(simp;done)|(simp [*];done)),H',⟨by have:=HJ3.out;first|omega|exact Nat.le_refl _⟩,⟨blk_up BK107.out⟩,⟨hb_⟩⟩
      rw [if_pos c22] at H
      have c22b0:=bqt c22
      have c22b1:=bnf c22
      clear c22
      replace H:=ifp_ H;obtain ⟨c23,H⟩:=H
      have c23b0 : decide (0 ≤ a1) = true:=decide_eq_true c23
      clear c23
      replace H:=ifp_ H;obtain ⟨c24,H⟩:=H
      have c24b0 : decide (a1 < (l0_4.length : Int)) = true:=decide_eq_true c24
      clear c24
      obtain ⟨bq25,hbq25⟩ : ∃ b_ : Bool,b_ = (rdOf false l0_4 a1):=⟨_,rfl⟩
      replace H : (if bq25 = true then (water_ground_may.j1 kj3 a1 a2 false a0_0 a0_1 l0_2 l0_3 l0_4) else (if a1 < (l0_2.length : Int) then (water_ground_may.j1 kj3 a1 a2 ((rd l0_2 a1) != 0) a0_0 a0_1 l0_2 l0_3 l0_4) else (none))) = some r:=by rw [← hbq25] at H;exact H
      have Nbq25:=Aside0.mk hbq25
      clear hbq25
      by_cases c26 : bq25 = true
      ·subst c26
       have H1 : (water_ground_may.j1 kj3 a1 a2 false a0_0 a0_1 l0_2 l0_3 l0_4) = some r:=by rw [if_pos rfl] at H;exact H
       clear H
       have H:=H1
       clear H1
       have H':=Aside0.mk H
       clear H
       obtain ⟨_,_,_,_,_,_,_,_,_,_⟩:=cells5 BK107.out
       have p112 : 0 ≤ (a1 : Int):=of_decide_eq_true (by first|(with_reducible assumption)|assumption)
       have q112 : a1 < (l0_4.length : Int):=of_decide_eq_true (by first|(with_reducible assumption)|assumption)
       obtain ⟨ad112,e112,hx112_0⟩:=Kd.at_bool HR0_4.out a1 p112 q112
       (try rw [← Nbq25.out] at hx112_0)
       cases e112
       replace hx112_0:=(HB.out.cell (World.block_lt_of_cell? w _ hx112_0)).trans hx112_0
       replace p112:=eq_true p112
       replace q112:=eq_true q112
       go_wp2
       go_meet
       case rel => exact ⟨_,(false),(by first|rfl|(simp;done)|(simp [*];done)),H',⟨by have:=HJ3.out;first|omega|exact Nat.le_refl _⟩,⟨blk_up BK107.out⟩,⟨hb_⟩⟩
      ·replace c26:=Bool.eq_false_iff.mpr c26
       subst c26
       have H1 : (if a1 < (l0_2.length : Int) then (water_ground_may.j1 kj3 a1 a2 ((rd l0_2 a1) != 0) a0_0 a0_1 l0_2 l0_3 l0_4) else (none)) = some r:=by rw [if_neg (show ¬ (false = true) by decide)] at H;exact H
       clear H
       have H:=H1
       clear H1
       replace H:=ifp_ H;obtain ⟨c28,H⟩:=H
       have c28b0 : decide (a1 < (l0_2.length : Int)) = true:=decide_eq_true c28
       clear c28
       have H':=Aside0.mk H
       clear H
       obtain ⟨_,_,_,_,_,_,_,_,_,_⟩:=cells5 BK107.out
       have p112 : 0 ≤ (a1 : Int):=of_decide_eq_true (by first|(with_reducible assumption)|assumption)
       have q112 : a1 < (l0_4.length : Int):=of_decide_eq_true (by first|(with_reducible assumption)|assumption)
       obtain ⟨ad112,e112,hx112_0⟩:=Kd.at_bool HR0_4.out a1 p112 q112
       (try rw [← Nbq25.out] at hx112_0)
       cases e112
       replace hx112_0:=(HB.out.cell (World.block_lt_of_cell? w _ hx112_0)).trans hx112_0
       replace p112:=eq_true p112
       replace q112:=eq_true q112
       have p113 : 0 ≤ (a1 : Int):=of_decide_eq_true (by first|(with_reducible assumption)|assumption)
       have q113 : a1 < (l0_2.length : Int):=of_decide_eq_true (by first|(with_reducible assumption)|assumption)
       obtain ⟨ad113,e113,hx113_0⟩:=Kd.at_int HR0_2.out a1 p113 q113
       cases e113
       replace hx113_0:=(HB.out.cell (World.block_lt_of_cell? w _ hx113_0)).trans hx113_0
       replace p113:=eq_true p113
       replace q113:=eq_true q113
       go_wp2
       go_meet
       case rel => exact ⟨_,(((rd l0_2 a1) != 0)),(by first|rfl|(simp;done)|(simp [*];done)),H',⟨by have:=HJ3.out;first|omega|exact Nat.le_refl _⟩,⟨blk_up BK107.out⟩,⟨hb_⟩⟩
     rw [if_pos c12] at H
     have c12b0:=bqt c12
     have c12b1:=bnf c12
     clear c12
     (first|rw [c12b0]|(simp only [i64_w,i32_w];rw [c12b0])|skip)
     replace H:=ifp_ H;obtain ⟨c13,H⟩:=H
     have c13b0 : decide (0 ≤ a1) = true:=decide_eq_true c13
     clear c13
     replace H:=ifp_ H;obtain ⟨c14,H⟩:=H
     have c14b0 : decide (a1 < (l0_4.length : Int)) = true:=decide_eq_true c14
     clear c14
     obtain ⟨bq15,hbq15⟩ : ∃ b_ : Bool,b_ = (rdOf false l0_4 a1):=⟨_,rfl⟩
     replace H : (if bq15 = true then (water_ground_may.j1 kj3 a1 a2 bq15 a0_0 a0_1 l0_2 l0_3 l0_4) else (if a2 = 3 then (if a1 < (l0_2.length : Int) then (water_ground_may.j1 kj3 a1 a2 ((rd l0_2 a1) != 0) a0_0 a0_1 l0_2 l0_3 l0_4) else (none)) else (water_ground_may.j1 kj3 a1 a2 false a0_0 a0_1 l0_2 l0_3 l0_4))) = some r:=by rw [← hbq15] at H;exact H
     have Nbq15:=Aside0.mk hbq15
     clear hbq15
     by_cases c16 : bq15 = true
     ·subst c16
      have H1 : (water_ground_may.j1 kj3 a1 a2 true a0_0 a0_1 l0_2 l0_3 l0_4) = some r:=by rw [if_pos rfl] at H;exact H
      clear H
      have H:=H1
      clear H1
      have H':=Aside0.mk H
      clear H
      obtain ⟨_,_,_,_,_,_,_,_,_,_⟩:=cells5 BK107.out
      have p109 : 0 ≤ (a1 : Int):=of_decide_eq_true (by first|(with_reducible assumption)|assumption)
      have q109 : a1 < (l0_4.length : Int):=of_decide_eq_true (by first|(with_reducible assumption)|assumption)
      obtain ⟨ad109,e109,hx109_0⟩:=Kd.at_bool HR0_4.out a1 p109 q109
      (try rw [← Nbq15.out] at hx109_0)
      cases e109
      replace hx109_0:=(HB.out.cell (World.block_lt_of_cell? w _ hx109_0)).trans hx109_0
      replace p109:=eq_true p109
      replace q109:=eq_true q109
      go_wp2
      go_meet
      case rel => exact ⟨_,(true),(by first|rfl|(simp;done)|(simp [*];done)),H',⟨by have:=HJ3.out;first|omega|exact Nat.le_refl _⟩,⟨blk_up BK107.out⟩,⟨hb_⟩⟩
     ·replace c16:=Bool.eq_false_iff.mpr c16
      subst c16
      have H1 : (if a2 = 3 then (if a1 < (l0_2.length : Int) then (water_ground_may.j1 kj3 a1 a2 ((rd l0_2 a1) != 0) a0_0 a0_1 l0_2 l0_3 l0_4) else (none)) else (water_ground_may.j1 kj3 a1 a2 false a0_0 a0_1 l0_2 l0_3 l0_4)) = some r:=by rw [if_neg (show ¬ (false = true) by decide)] at H;exact H
      clear H
      have H:=H1
      clear H1
      by_cases c18 : a2 = 3
      ·rw [if_pos c18] at H
       have c18b0:=bqt c18
       have c18b1:=bnf c18
       clear c18
       replace H:=ifp_ H;obtain ⟨c19,H⟩:=H
       have c19b0 : decide (a1 < (l0_2.length : Int)) = true:=decide_eq_true c19
       clear c19
       have H':=Aside0.mk H
       clear H
       obtain ⟨_,_,_,_,_,_,_,_,_,_⟩:=cells5 BK107.out
       have p109 : 0 ≤ (a1 : Int):=of_decide_eq_true (by first|(with_reducible assumption)|assumption)
       have q109 : a1 < (l0_4.length : Int):=of_decide_eq_true (by first|(with_reducible assumption)|assumption)
       obtain ⟨ad109,e109,hx109_0⟩:=Kd.at_bool HR0_4.out a1 p109 q109
       (try rw [← Nbq15.out] at hx109_0)
       cases e109
       replace hx109_0:=(HB.out.cell (World.block_lt_of_cell? w _ hx109_0)).trans hx109_0
       replace p109:=eq_true p109
       replace q109:=eq_true q109
       have p110 : 0 ≤ (a1 : Int):=of_decide_eq_true (by first|(with_reducible assumption)|assumption)
       have q110 : a1 < (l0_4.length : Int):=of_decide_eq_true (by first|(with_reducible assumption)|assumption)
       obtain ⟨ad110,e110,hx110_0⟩:=Kd.at_bool HR0_4.out a1 p110 q110
       (try rw [← Nbq15.out] at hx110_0)
       obtain rfl : ad109 = ad110:=(by injection e110)
       replace hx110_0:=(HB.out.cell (World.block_lt_of_cell? w _ hx110_0)).trans hx110_0
       replace p110:=eq_true p110
       replace q110:=eq_true q110
       have p111 : 0 ≤ (a1 : Int):=of_decide_eq_true (by first|(with_reducible assumption)|assumption)
       have q111 : a1 < (l0_2.length : Int):=of_decide_eq_true (by first|(with_reducible assumption)|assumption)
       obtain ⟨ad111,e111,hx111_0⟩:=Kd.at_int HR0_2.out a1 p111 q111
       cases e111
       replace hx111_0:=(HB.out.cell (World.block_lt_of_cell? w _ hx111_0)).trans hx111_0
       replace p111:=eq_true p111
       replace q111:=eq_true q111
       go_wp2
       go_meet
       case rel => exact ⟨_,(((rd l0_2 a1) != 0)),(by first|rfl|(simp;done)|(simp [*];done)),H',⟨by have:=HJ3.out;first|omega|exact Nat.le_refl _⟩,⟨blk_up BK107.out⟩,⟨hb_⟩⟩
      ·rw [if_neg c18] at H
       have c18b0:=bqf c18
       have c18b1:=bnt c18
       have H':=Aside0.mk H
       clear H
       obtain ⟨_,_,_,_,_,_,_,_,_,_⟩:=cells5 BK107.out
       have p109 : 0 ≤ (a1 : Int):=of_decide_eq_true (by first|(with_reducible assumption)|assumption)
       have q109 : a1 < (l0_4.length : Int):=of_decide_eq_true (by first|(with_reducible assumption)|assumption)
       obtain ⟨ad109,e109,hx109_0⟩:=Kd.at_bool HR0_4.out a1 p109 q109
       (try rw [← Nbq15.out] at hx109_0)
       cases e109
       replace hx109_0:=(HB.out.cell (World.block_lt_of_cell? w _ hx109_0)).trans hx109_0
       replace p109:=eq_true p109
       replace q109:=eq_true q109
       go_wp2
       go_meet
       case rel => exact ⟨_,(false),(by first|rfl|(simp;done)|(simp [*];done)),H',⟨by have:=HJ3.out;first|omega|exact Nat.le_refl _⟩,⟨blk_up BK107.out⟩,⟨hb_⟩⟩
   case rest =>
    clear HC10
    obtain ⟨kq,x7_9,rfl,HA,HJ9,BK107,HB⟩:=hcut
    cases kq with
    | zero => exact absurd HA.out (by simp [water_ground_may.j1])
    | succ kj9 =>
     have H:=HA.out
     clear HA
     simp only [water_ground_may.j1] at H
     by_cases c30 : x7_9 = true
     ·subst c30
      have H1 : (some 9) = some r:=by rw [if_pos rfl] at H;exact H
      clear H
      have H:=H1
      clear H1
      obtain rfl:=Option.some.inj H
      go_wp2
      go_ret
      exact ⟨er_,hb_⟩
     ·replace c30:=Bool.eq_false_iff.mpr c30
      subst c30
      have H1 : (if a2 = 1 then (if 0 ≤ a1 then (if a1 < (l0_2.length : Int) then (water_ground_may.j2 kj9 a1 a2 ((rd l0_2 a1) != 0) a0_0 a0_1 l0_2 l0_3 l0_4) else (none)) else (none)) else (water_ground_may.j2 kj9 a1 a2 false a0_0 a0_1 l0_2 l0_3 l0_4)) = some r:=by rw [if_neg (show ¬ (false = true) by decide)] at H;exact H
      clear H
      have H:=H1
      clear H1
      have HC31:=Aside0.mk H
      clear H
      go_upto_region 5 with (fail)
      go_cut [44] (fun v44 wc => ∃ (kq : Nat) (x44_30 : Bool),v44 = .bool x44_30 ∧ Aside0 (water_ground_may.j2 kq a1 a2 x44_30 a0_0 a0_1 l0_2 l0_3 l0_4 = some r) ∧ Aside0 (kq ≤ kj9) ∧ Aside0 (wc.heap[gb107]? = some (.cells #[.int .i64 a0_0,.int .i64 a0_1,(.slice A0_2 l0_2.length c0_2),(.slice A0_3 l0_3.length c0_3),(.slice A0_4 l0_4.length c0_4)] 52 (0,0))) ∧ Aside0 (Below w.heap.size w wc))
      case first =>
       have H:=HC31.out
       clear HC31
       by_cases c32 : a2 = 1
       ·rw [if_pos c32] at H
        have c32b0:=bqt c32
        have c32b1:=bnf c32
        clear c32
        (first|rw [c32b0]|(simp only [i64_w,i32_w];rw [c32b0])|skip)
        replace H:=ifp_ H;obtain ⟨c33,H⟩:=H
        have c33b0 : decide (0 ≤ a1) = true:=decide_eq_true c33
        clear c33
        replace H:=ifp_ H;obtain ⟨c34,H⟩:=H
        have c34b0 : decide (a1 < (l0_2.length : Int)) = true:=decide_eq_true c34
        clear c34
        have H':=Aside0.mk H
        clear H
        obtain ⟨_,_,_,_,_,_,_,_,_,_⟩:=cells5 BK107.out
        have p114 : 0 ≤ (a1 : Int):=of_decide_eq_true (by first|(with_reducible assumption)|assumption)
        have q114 : a1 < (l0_2.length : Int):=of_decide_eq_true (by first|(with_reducible assumption)|assumption)
        obtain ⟨ad114,e114,hx114_0⟩:=Kd.at_int HR0_2.out a1 p114 q114
        cases e114
        replace hx114_0:=(HB.out.cell (World.block_lt_of_cell? w _ hx114_0)).trans hx114_0
        replace p114:=eq_true p114
        replace q114:=eq_true q114
        go_wp2
        go_meet
        case rel => exact ⟨_,(((rd l0_2 a1) != 0)),(by first|rfl|(simp;done)|(simp [*];done)),H',⟨by have:=HJ3.out;have:=HJ9.out;first|omega|exact Nat.le_refl _⟩,⟨blk_up BK107.out⟩,⟨hb_⟩⟩
       ·rw [if_neg c32] at H
        have c32b0:=bqf c32
        have c32b1:=bnt c32
        (first|rw [c32b0]|(simp only [i64_w,i32_w];rw [c32b0])|skip)
        have H':=Aside0.mk H
        clear H
        go_wp2
        go_meet
        case rel => exact ⟨_,(false),(by first|rfl|(simp;done)|(simp [*];done)),H',⟨by have:=HJ3.out;have:=HJ9.out;first|omega|exact Nat.le_refl _⟩,⟨blk_up BK107.out⟩,⟨hb_⟩⟩
      case rest =>
       clear HC31
       obtain ⟨kq,x44_30,rfl,HA,HJ30,BK107,HB⟩:=hcut
       cases kq with
       | zero => exact absurd HA.out (by simp [water_ground_may.j2])
       | succ kj30 =>
        have H:=HA.out
        clear HA
        simp only [water_ground_may.j2] at H
        by_cases c36 : x44_30 = true
        ·subst c36
         have H1 : (some 5) = some r:=by rw [if_pos rfl] at H;exact H
         clear H
         have H:=H1
         clear H1
         obtain rfl:=Option.some.inj H
         go_wp2
         go_ret
         exact ⟨er_,hb_⟩
        ·replace c36:=Bool.eq_false_iff.mpr c36
         subst c36
         have H1 : (if a2 = 2 then (if 0 ≤ a1 then (if a1 < (l0_2.length : Int) then ((water_incline.f (rd l0_2 a1)).bind fun t116 => (if t116 = true then (some 0) else (some 5))) else (none)) else (none)) else (some 0)) = some r:=by rw [if_neg (show ¬ (false = true) by decide)] at H;exact H
         clear H
         have H:=H1
         clear H1
         by_cases c37 : a2 = 2
         rotate_left
         ·rw [if_neg c37] at H
          have c37b0:=bqf c37
          have c37b1:=bnt c37
          obtain rfl:=Option.some.inj H
          go_wp2
          go_ret
          exact ⟨er_,hb_⟩
         rw [if_pos c37] at H
         have c37b0:=bqt c37
         have c37b1:=bnf c37
         clear c37
         replace H:=ifp_ H;obtain ⟨c38,H⟩:=H
         have c38b0 : decide (0 ≤ a1) = true:=decide_eq_true c38
         clear c38
         replace H:=ifp_ H;obtain ⟨c39,H⟩:=H
         have c39b0 : decide (a1 < (l0_2.length : Int)) = true:=decide_eq_true c39
         clear c39
         replace H:=Option.bind_eq_some_iff.mp H
         obtain ⟨t116,A400,H⟩:=H
         replace H : (if t116 = true then (some 0) else (some 5)) = some r:=H
         have A40:=Aside0.mk A400
         clear A400
         by_cases c41 : t116 = true
         ·subst c41
          have H1 : (some 0) = some r:=by rw [if_pos rfl] at H;exact H
          clear H
          have H:=H1
          clear H1
          obtain rfl:=Option.some.inj H
          obtain ⟨_,_,_,_,_,_,_,_,_,_⟩:=cells5 BK107.out
          have p115 : 0 ≤ (a1 : Int):=of_decide_eq_true (by first|(with_reducible assumption)|assumption)
          have q115 : a1 < (l0_2.length : Int):=of_decide_eq_true (by first|(with_reducible assumption)|assumption)
          obtain ⟨ad115,e115,hx115_0⟩:=Kd.at_int HR0_2.out a1 p115 q115
          cases e115
          replace hx115_0:=(HB.out.cell (World.block_lt_of_cell? w _ hx115_0)).trans hx115_0
          replace p115:=eq_true p115
          replace q115:=eq_true q115
          go_wp2_with (first|(go_at_call 69;(with_reducible refine (water_incline.calls (rd l0_2 a1) true _ A40.out).mono ?_);rintro e w' ⟨rfl,⟨nd,rfl⟩⟩))
          go_ret
          exact ⟨er_,hb_⟩
         ·replace c41:=Bool.eq_false_iff.mpr c41
          subst c41
          have H1 : (some 5) = some r:=by rw [if_neg (show ¬ (false = true) by decide)] at H;exact H
          clear H
          have H:=H1
          clear H1
          obtain rfl:=Option.some.inj H
          obtain ⟨_,_,_,_,_,_,_,_,_,_⟩:=cells5 BK107.out
          have p115 : 0 ≤ (a1 : Int):=of_decide_eq_true (by first|(with_reducible assumption)|assumption)
          have q115 : a1 < (l0_2.length : Int):=of_decide_eq_true (by first|(with_reducible assumption)|assumption)
          obtain ⟨ad115,e115,hx115_0⟩:=Kd.at_int HR0_2.out a1 p115 q115
          cases e115
          replace hx115_0:=(HB.out.cell (World.block_lt_of_cell? w _ hx115_0)).trans hx115_0
          replace p115:=eq_true p115
          replace q115:=eq_true q115
          go_wp2_with (first|(go_at_call 69;(with_reducible refine (water_incline.calls (rd l0_2 a1) false _ A40.out).mono ?_);rintro e w' ⟨rfl,⟨nd,rfl⟩⟩))
          go_ret
          exact ⟨er_,hb_⟩

/-! ### land_apart: function 79 -/
def land_apart.f (a0 : Int) (a1 : Int) : Option (Bool) := if (wrap64 (a0 - a1)) > 1 then (some true) else (some (decide ((wrap64 (a1 - a0)) > 1)))
set_option maxHeartbeats 8000000 in
set_option maxRecDepth 100000 in
theorem land_apart.calls (a0 : Int) (a1 : Int) (r : Bool) (w : World) (h : land_apart.f a0 a1 = some r) :
  Calls Try.prog 79 #[.int .i64 a0,.int .i64 a1] w fun e w' => e = .returned (.bool r) ∧ Drawn0 w w':=by
 have H : (if (wrap64 (a0 - a1)) > 1 then (some true) else (some (decide ((wrap64 (a1 - a0)) > 1)))) = some r:=h
 clear h
 by_cases c3 : (wrap64 (a0 - a1)) > 1
 ·rw [if_pos c3] at H
  have c3b0 : decide (1 < (wrap64 (a0 - a1))) = true:=decide_eq_true c3
  clear c3
  obtain rfl:=Option.some.inj H
  go_enter Try.func79,Try.ntmps79
  go_wp2
  go_ret
  exact ⟨by first|rfl|(simp;done)|(simp [*];done),by repeat (first|exact Drawn0.refl _|apply Drawn0.step)⟩
 ·rw [if_neg c3] at H
  have c3b0 : decide (1 < (wrap64 (a0 - a1))) = false:=decide_eq_false c3
  clear c3
  obtain rfl:=Option.some.inj H
  go_enter Try.func79,Try.ntmps79
  go_wp2
  go_ret
  exact ⟨by first|rfl|(simp;done)|(simp [*];done),by repeat (first|exact Drawn0.refl _|apply Drawn0.step)⟩

/-! ### land_Validate: function 76 -/
mutual
def land_Validate.j0 : Nat → Bool → Int → Int → List Int → Option (Int)
 | 0,_,_,_,_ => none
 | k + 1,x38,x118000,x118001,x118002 => if x38 = true then (some 1) else (land_Validate.l0 k x118002 (x118002.length : Int) 0 x118000 x118001 x118002)
def land_Validate.l0 : Nat → List Int → Int → Int → Int → Int → List Int → Option (Int)
 | 0,_,_,_,_,_,_ => none
 | k + 1,x40,x41,x42,x118000,x118001,x118002 => if x42 < x41 then (if 0 ≤ x42 then (if x42 < (x40.length : Int) then (if (rd x40 x42) < 0 then (some 1) else (if (rd x40 x42) > 15 then (some 1) else (land_Validate.l0 k x40 x41 (wrap64 (x42 + 1)) x118000 x118001 x118002))) else (none)) else (none)) else (land_Validate.l1 k 0 x118000 x118001 x118002)
def land_Validate.l1 : Nat → Int → Int → Int → List Int → Option (Int)
 | 0,_,_,_,_ => none
 | k + 1,x5,x118000,x118001,x118002 => if x5 ≤ x118001 then (land_Validate.l2 k x5 0 x118000 x118001 x118002) else (some 0)
def land_Validate.l2 : Nat → Int → Int → Int → Int → List Int → Option (Int)
 | 0,_,_,_,_,_ => none
 | k + 1,x5,x6,x118000,x118001,x118002 => if x6 ≤ x118000 then (if 0 ≤ (wrap64 ((wrap64 (x5 * (wrap64 (x118000 + 1)))) + x6)) then (if (wrap64 ((wrap64 (x5 * (wrap64 (x118000 + 1)))) + x6)) < (x118002.length : Int) then (if x6 < x118000 then (if 0 ≤ (wrap64 ((wrap64 ((wrap64 (x5 * (wrap64 (x118000 + 1)))) + x6)) + 1)) then (if (wrap64 ((wrap64 ((wrap64 (x5 * (wrap64 (x118000 + 1)))) + x6)) + 1)) < (x118002.length : Int) then ((land_apart.f (rd x118002 (wrap64 ((wrap64 (x5 * (wrap64 (x118000 + 1)))) + x6))) (rd x118002 (wrap64 ((wrap64 ((wrap64 (x5 * (wrap64 (x118000 + 1)))) + x6)) + 1)))).bind fun t121 => (if t121 = true then (some 5) else (if x5 < x118001 then (if 0 ≤ (wrap64 ((wrap64 ((wrap64 (x5 + 1)) * (wrap64 (x118000 + 1)))) + x6)) then (if (wrap64 ((wrap64 ((wrap64 (x5 + 1)) * (wrap64 (x118000 + 1)))) + x6)) < (x118002.length : Int) then ((land_apart.f (rd x118002 (wrap64 ((wrap64 (x5 * (wrap64 (x118000 + 1)))) + x6))) (rd x118002 (wrap64 ((wrap64 ((wrap64 (x5 + 1)) * (wrap64 (x118000 + 1)))) + x6)))).bind fun t123 => (if t123 = true then (some 5) else (land_Validate.l2 k x5 (wrap64 (x6 + 1)) x118000 x118001 x118002))) else (none)) else (none)) else (land_Validate.l2 k x5 (wrap64 (x6 + 1)) x118000 x118001 x118002)))) else (none)) else (none)) else (if x5 < x118001 then (if 0 ≤ (wrap64 ((wrap64 ((wrap64 (x5 + 1)) * (wrap64 (x118000 + 1)))) + x6)) then (if (wrap64 ((wrap64 ((wrap64 (x5 + 1)) * (wrap64 (x118000 + 1)))) + x6)) < (x118002.length : Int) then ((land_apart.f (rd x118002 (wrap64 ((wrap64 (x5 * (wrap64 (x118000 + 1)))) + x6))) (rd x118002 (wrap64 ((wrap64 ((wrap64 (x5 + 1)) * (wrap64 (x118000 + 1)))) + x6)))).bind fun t125 => (if t125 = true then (some 5) else (land_Validate.l2 k x5 (wrap64 (x6 + 1)) x118000 x118001 x118002))) else (none)) else (none)) else (land_Validate.l2 k x5 (wrap64 (x6 + 1)) x118000 x118001 x118002))) else (none)) else (none)) else (land_Validate.l1 k (wrap64 (x5 + 1)) x118000 x118001 x118002)
end
def land_Validate.f (k : Nat) (a0_0 : Int) (a0_1 : Int) (l0_2 : List Int) : Option (Int) := if a0_0 < 4 then (land_Validate.j0 k true a0_0 a0_1 l0_2) else (if a0_0 > 32 then (land_Validate.j0 k true a0_0 a0_1 l0_2) else (if a0_1 < 4 then (land_Validate.j0 k true a0_0 a0_1 l0_2) else (if a0_1 > 32 then (land_Validate.j0 k true a0_0 a0_1 l0_2) else (land_Validate.j0 k ((l0_2.length : Int) != (wrap64 ((wrap64 (a0_0 + 1)) * (wrap64 (a0_1 + 1))))) a0_0 a0_1 l0_2))))
theorem land_Validate.mono_l : ∀ k, (∀ y0 y1 y2 y3, LeO (land_Validate.j0 k y0 y1 y2 y3) (land_Validate.j0 (k + 1) y0 y1 y2 y3)) ∧ (∀ y0 y1 y2 y3 y4 y5, LeO (land_Validate.l0 k y0 y1 y2 y3 y4 y5) (land_Validate.l0 (k + 1) y0 y1 y2 y3 y4 y5)) ∧ (∀ y0 y1 y2 y3, LeO (land_Validate.l1 k y0 y1 y2 y3) (land_Validate.l1 (k + 1) y0 y1 y2 y3)) ∧ (∀ y0 y1 y2 y3 y4, LeO (land_Validate.l2 k y0 y1 y2 y3 y4) (land_Validate.l2 (k + 1) y0 y1 y2 y3 y4))
 | 0 => ⟨fun _ _ _ _ r h => by simp [land_Validate.j0] at h,fun _ _ _ _ _ _ r h => by simp [land_Validate.l0] at h,fun _ _ _ _ r h => by simp [land_Validate.l1] at h,fun _ _ _ _ _ r h => by simp [land_Validate.l2] at h⟩
 | k + 1 => by
  obtain ⟨ih0,ih1,ih2,ih3⟩:=land_Validate.mono_l k
  refine ⟨?_,?_,?_,?_⟩
  ·intro y0 y1 y2 y3
   unfold land_Validate.j0
   repeat' first
   | (with_reducible exact ih0 _ _ _ _)
   | (with_reducible exact ih1 _ _ _ _ _ _)
   | (with_reducible exact ih2 _ _ _ _)
   | (with_reducible exact ih3 _ _ _ _ _)
   | (with_reducible exact LeO.refl _)
   | (with_reducible exact LeO.none _)
   | (with_reducible refine LeO.ite ?_ ?_)
   | (with_reducible refine LeO.bind ?_ (fun _ => ?_))
   | exact ih0 _ _ _ _
   | exact ih1 _ _ _ _ _ _
   | exact ih2 _ _ _ _
   | exact ih3 _ _ _ _ _
   | exact LeO.none _
   | refine LeO.ite ?_ ?_
   | refine LeO.bind ?_ (fun _ => ?_)
  ·intro y0 y1 y2 y3 y4 y5
   unfold land_Validate.l0
   repeat' first
   | (with_reducible exact ih0 _ _ _ _)
   | (with_reducible exact ih1 _ _ _ _ _ _)
   | (with_reducible exact ih2 _ _ _ _)
   | (with_reducible exact ih3 _ _ _ _ _)
   | (with_reducible exact LeO.refl _)
   | (with_reducible exact LeO.none _)
   | (with_reducible refine LeO.ite ?_ ?_)
   | (with_reducible refine LeO.bind ?_ (fun _ => ?_))
   | exact ih0 _ _ _ _
   | exact ih1 _ _ _ _ _ _
   | exact ih2 _ _ _ _
   | exact ih3 _ _ _ _ _
   | exact LeO.none _
   | refine LeO.ite ?_ ?_
   | refine LeO.bind ?_ (fun _ => ?_)
  ·intro y0 y1 y2 y3
   unfold land_Validate.l1
   repeat' first
   | (with_reducible exact ih0 _ _ _ _)
   | (with_reducible exact ih1 _ _ _ _ _ _)
   | (with_reducible exact ih2 _ _ _ _)
   | (with_reducible exact ih3 _ _ _ _ _)
   | (with_reducible exact LeO.refl _)
   | (with_reducible exact LeO.none _)
   | (with_reducible refine LeO.ite ?_ ?_)
   | (with_reducible refine LeO.bind ?_ (fun _ => ?_))
   | exact ih0 _ _ _ _
   | exact ih1 _ _ _ _ _ _
   | exact ih2 _ _ _ _
   | exact ih3 _ _ _ _ _
   | exact LeO.none _
   | refine LeO.ite ?_ ?_
   | refine LeO.bind ?_ (fun _ => ?_)
  ·intro y0 y1 y2 y3 y4
   unfold land_Validate.l2
   repeat' first
   | (with_reducible exact ih0 _ _ _ _)
   | (with_reducible exact ih1 _ _ _ _ _ _)
   | (with_reducible exact ih2 _ _ _ _)
   | (with_reducible exact ih3 _ _ _ _ _)
   | (with_reducible exact LeO.refl _)
   | (with_reducible exact LeO.none _)
   | (with_reducible refine LeO.ite ?_ ?_)
   | (with_reducible refine LeO.bind ?_ (fun _ => ?_))
   | exact ih0 _ _ _ _
   | exact ih1 _ _ _ _ _ _
   | exact ih2 _ _ _ _
   | exact ih3 _ _ _ _ _
   | exact LeO.none _
   | refine LeO.ite ?_ ?_
   | refine LeO.bind ?_ (fun _ => ?_)
theorem land_Validate.mono : ∀ a0 a1 a2 k, LeO (land_Validate.f k a0 a1 a2) (land_Validate.f (k + 1) a0 a1 a2) := by
 intro a0 a1 a2 k
 obtain ⟨ih0,ih1,ih2,ih3⟩:=land_Validate.mono_l k
 unfold land_Validate.f
 repeat' first
   | (with_reducible exact ih0 _ _ _ _)
   | (with_reducible exact ih1 _ _ _ _ _ _)
   | (with_reducible exact ih2 _ _ _ _)
   | (with_reducible exact ih3 _ _ _ _ _)
   | (with_reducible exact LeO.refl _)
   | (with_reducible exact LeO.none _)
   | (with_reducible refine LeO.ite ?_ ?_)
   | (with_reducible refine LeO.bind ?_ (fun _ => ?_))
   | exact ih0 _ _ _ _
   | exact ih1 _ _ _ _ _ _
   | exact ih2 _ _ _ _
   | exact ih3 _ _ _ _ _
   | exact LeO.none _
   | refine LeO.ite ?_ ?_
   | refine LeO.bind ?_ (fun _ => ?_)
set_option maxHeartbeats 8000000 in
set_option maxRecDepth 100000 in
theorem land_Validate.calls (k : Nat) (a0_0 : Int) (a0_1 : Int) (A0_2 : Option Addr) (c0_2 : Nat) (l0_2 : List Int) (r : Int) (w : World) (hr0_2 : Kd.C (Kd.int .i64) w A0_2 l0_2.length l0_2) (hc0_2 : l0_2.length ≤ c0_2) (h : land_Validate.f k a0_0 a0_1 l0_2 = some r) :
  Calls Try.prog 76 #[.agg #[.int .i64 a0_0,.int .i64 a0_1,.slice A0_2 l0_2.length c0_2]] w fun e w' => e = .returned (.int .i64 r) ∧ Below w.heap.size w w':=by
 have hu24:=Try.underlying24
 have HR0_2:=Aside0.mk hr0_2
 have HC0_2:=Aside0.mk hc0_2
 clear hr0_2 hc0_2
 have HB:=Aside0.mk (Below.refl w.heap.size w)
 have H : (if a0_0 < 4 then (land_Validate.j0 k true a0_0 a0_1 l0_2) else (if a0_0 > 32 then (land_Validate.j0 k true a0_0 a0_1 l0_2) else (if a0_1 < 4 then (land_Validate.j0 k true a0_0 a0_1 l0_2) else (if a0_1 > 32 then (land_Validate.j0 k true a0_0 a0_1 l0_2) else (land_Validate.j0 k ((l0_2.length : Int) != (wrap64 ((wrap64 (a0_0 + 1)) * (wrap64 (a0_1 + 1))))) a0_0 a0_1 l0_2))))) = some r:=h
 clear h
 have HC2:=Aside0.mk H
 clear H
 go_enter Try.func76,Try.ntmps76
 go_upto_region 1 with (first|((with_reducible refine gate_dst (N:=1) rfl ?_);(try (refine gate_guard (by rfl) ?_;dsimp only));refine box_ev (N:=1) (cs:=#[.int .i64 a0_0,.int .i64 a0_1,.slice A0_2 l0_2.length c0_2]) (t:=24) ?_;intro gb117 hg w3 hbox hb;have BK117:=Aside0.mk (hbox);have GW117 : Aside0 (w.heap.size ≤ gb117):=gsz hg;have GE117:=GW117;replace HB:=hbs hb;clear hb hbox hg))
 (try simp only [Act.put,List.setIfInBounds_toArray,List.set_cons_zero,List.set_cons_succ])
 go_cut [38] (fun v38 wc => ∃ (kq : Nat) (x38_1 : Bool),v38 = .bool x38_1 ∧ Aside0 (land_Validate.j0 kq x38_1 a0_0 a0_1 l0_2 = some r) ∧ Aside0 (kq ≤ k) ∧ Aside0 (wc.heap[gb117]? = some (.cells #[.int .i64 a0_0,.int .i64 a0_1,(.slice A0_2 l0_2.length c0_2)] 24 (0,0))) ∧ Aside0 (Below w.heap.size w wc))
 case first =>
  have H:=HC2.out
  clear HC2
  by_cases c4 : a0_0 < 4
  ·rw [if_pos c4] at H
   have c4b0 : decide (a0_0 < 4) = true:=decide_eq_true c4
   clear c4
   (first|rw [c4b0]|(simp only [i64_w,i32_w];rw [c4b0])|skip)
   have H':=Aside0.mk H
   clear H
   obtain ⟨_,_,_,_,_,_⟩:=cells3 BK117.out
   go_wp2
   go_meet
   case rel => exact ⟨_,(true),(by first|rfl|(simp;done)|(simp [*];done)),H',⟨by first|omega|exact Nat.le_refl _⟩,⟨blk_up BK117.out⟩,⟨hb_⟩⟩
  rw [if_neg c4] at H
  have c4b0 : decide (a0_0 < 4) = false:=decide_eq_false c4
  clear c4
  (first|rw [c4b0]|(simp only [i64_w,i32_w];rw [c4b0])|skip)
  by_cases c6 : a0_0 > 32
  ·rw [if_pos c6] at H
   have c6b0 : decide (32 < a0_0) = true:=decide_eq_true c6
   clear c6
   have H':=Aside0.mk H
   clear H
   obtain ⟨_,_,_,_,_,_⟩:=cells3 BK117.out
   go_wp2
   go_meet
   case rel => exact ⟨_,(true),(by first|rfl|(simp;done)|(simp [*];done)),H',⟨by first|omega|exact Nat.le_refl _⟩,⟨blk_up BK117.out⟩,⟨hb_⟩⟩
  rw [if_neg c6] at H
  have c6b0 : decide (32 < a0_0) = false:=decide_eq_false c6
  clear c6
  by_cases c8 : a0_1 < 4
  ·rw [if_pos c8] at H
   have c8b0 : decide (a0_1 < 4) = true:=decide_eq_true c8
   clear c8
   have H':=Aside0.mk H
   clear H
   obtain ⟨_,_,_,_,_,_⟩:=cells3 BK117.out
   go_wp2
   go_meet
   case rel => exact ⟨_,(true),(by first|rfl|(simp;done)|(simp [*];done)),H',⟨by first|omega|exact Nat.le_refl _⟩,⟨blk_up BK117.out⟩,⟨hb_⟩⟩
  ·rw [if_neg c8] at H
   have c8b0 : decide (a0_1 < 4) = false:=decide_eq_false c8
   clear c8
   by_cases c10 : a0_1 > 32
   ·rw [if_pos c10] at H
    have c10b0 : decide (32 < a0_1) = true:=decide_eq_true c10
    clear c10
    have H':=Aside0.mk H
    clear H
    obtain ⟨_,_,_,_,_,_⟩:=cells3 BK117.out
    go_wp2
    go_meet
    case rel => exact ⟨_,(true),(by first|rfl|(simp;done)|(simp [*];done)),H',⟨by first|omega|exact Nat.le_refl _⟩,⟨blk_up BK117.out⟩,⟨hb_⟩⟩
   ·rw [if_neg c10] at H
    have c10b0 : decide (32 < a0_1) = false:=decide_eq_false c10
    clear c10
    have H':=Aside0.mk H
    clear H
    obtain ⟨_,_,_,_,_,_⟩:=cells3 BK117.out
    go_wp2
    go_meet
    case rel => exact ⟨_,(((l0_2.length : Int) != (wrap64 ((wrap64 (a0_0 + 1)) * (wrap64 (a0_1 + 1)))))),(by first|rfl|(simp;done)|(simp [*];done)),H',⟨by first|omega|exact Nat.le_refl _⟩,⟨blk_up BK117.out⟩,⟨hb_⟩⟩
 case rest =>
  clear HC2
  obtain ⟨kq,x38_1,rfl,HA,HJ1,BK117,HB⟩:=hcut
  cases kq with
  | zero => exact absurd HA.out (by simp [land_Validate.j0])
  | succ kj1 =>
   have H:=HA.out
   clear HA
   simp only [land_Validate.j0] at H
   by_cases c13 : x38_1 = true
   ·subst c13
    have H1 : (some 1) = some r:=by rw [if_pos rfl] at H;exact H
    clear H
    have H:=H1
    clear H1
    obtain rfl:=Option.some.inj H
    go_wp2
    go_ret
    exact ⟨er_,hb_⟩
   ·replace c13:=Bool.eq_false_iff.mpr c13
    subst c13
    have H1 : (land_Validate.l0 kj1 l0_2 (l0_2.length : Int) 0 a0_0 a0_1 l0_2) = some r:=by rw [if_neg (show ¬ (false = true) by decide)] at H;exact H
    clear H
    have H:=H1
    clear H1
    have H':=Aside0.mk H
    clear H
    obtain ⟨_,_,_,_,_,_⟩:=cells3 BK117.out
    go_wp2
    go_loopg [42] kj1 (fun kq v42 w' => ∃ (x42_2 : Int),v42 = .int .i64 x42_2 ∧ Aside0 (land_Validate.l0 kq l0_2 (l0_2.length : Int) x42_2 a0_0 a0_1 l0_2 = some r) ∧ Aside0 (kq ≤ kj1) ∧ Aside0 (w'.heap[gb117]? = some (.cells #[.int .i64 a0_0,.int .i64 a0_1,(.slice A0_2 l0_2.length c0_2)] 24 (0,0))) ∧ Aside0 (Below w.heap.size w w'))
    case atStart => exact ⟨(0),(by first|rfl|(simp;done)|(simp [*];done)),H',⟨Nat.le_refl _⟩,⟨blk_up BK117.out⟩,⟨hb_⟩⟩
    case round =>
     clear H'
     obtain ⟨x42_2,rfl,HA,HK2,BK117,HB⟩:=hrel
     cases gk with
     | zero => exact absurd HA.out (by simp [land_Validate.l0])
     | succ k2 =>
      have H:=HA.out
      clear HA
      simp only [land_Validate.l0] at H
      by_cases c15 : x42_2 < (l0_2.length : Int)
      ·rw [if_pos c15] at H
       have c15b0 : decide (x42_2 < (l0_2.length : Int)) = true:=decide_eq_true c15
       clear c15
       replace H:=ifp_ H;obtain ⟨c16,H⟩:=H
       have c16b0 : decide (0 ≤ x42_2) = true:=decide_eq_true c16
       clear c16
       replace H:=ifp_ H;obtain ⟨c17,H⟩:=H
       have c17b0 : decide (x42_2 < (l0_2.length : Int)) = true:=decide_eq_true c17
       clear c17
       by_cases c18 : (rd l0_2 x42_2) < 0
       ·rw [if_pos c18] at H
        have c18b0 : decide ((rd l0_2 x42_2) < 0) = true:=decide_eq_true c18
        clear c18
        obtain rfl:=Option.some.inj H
        have p118 : 0 ≤ (x42_2 : Int):=of_decide_eq_true (by first|(with_reducible assumption)|assumption)
        have q118 : x42_2 < (l0_2.length : Int):=of_decide_eq_true (by first|(with_reducible assumption)|assumption)
        obtain ⟨ad118,e118,hx118_0⟩:=Kd.at_int HR0_2.out x42_2 p118 q118
        cases e118
        replace hx118_0:=(HB.out.cell (World.block_lt_of_cell? w _ hx118_0)).trans hx118_0
        replace p118:=eq_true p118
        replace q118:=eq_true q118
        go_wp2
        go_ret
        exact ⟨er_,hb_⟩
       rw [if_neg c18] at H
       have c18b0 : decide ((rd l0_2 x42_2) < 0) = false:=decide_eq_false c18
       clear c18
       by_cases c19 : (rd l0_2 x42_2) > 15
       ·rw [if_pos c19] at H
        have c19b0 : decide (15 < (rd l0_2 x42_2)) = true:=decide_eq_true c19
        clear c19
        obtain rfl:=Option.some.inj H
        have p118 : 0 ≤ (x42_2 : Int):=of_decide_eq_true (by first|(with_reducible assumption)|assumption)
        have q118 : x42_2 < (l0_2.length : Int):=of_decide_eq_true (by first|(with_reducible assumption)|assumption)
        obtain ⟨ad118,e118,hx118_0⟩:=Kd.at_int HR0_2.out x42_2 p118 q118
        cases e118
        replace hx118_0:=(HB.out.cell (World.block_lt_of_cell? w _ hx118_0)).trans hx118_0
        replace p118:=eq_true p118
        replace q118:=eq_true q118
        go_wp2
        go_ret
        exact ⟨er_,hb_⟩
       ·rw [if_neg c19] at H
        have c19b0 : decide (15 < (rd l0_2 x42_2)) = false:=decide_eq_false c19
        clear c19
        have H':=Aside0.mk H
        clear H
        have p118 : 0 ≤ (x42_2 : Int):=of_decide_eq_true (by first|(with_reducible assumption)|assumption)
        have q118 : x42_2 < (l0_2.length : Int):=of_decide_eq_true (by first|(with_reducible assumption)|assumption)
        obtain ⟨ad118,e118,hx118_0⟩:=Kd.at_int HR0_2.out x42_2 p118 q118
        cases e118
        replace hx118_0:=(HB.out.cell (World.block_lt_of_cell? w _ hx118_0)).trans hx118_0
        replace p118:=eq_true p118
        replace q118:=eq_true q118
        go_wp2
        go_roundg k2
        case measure => have:=HJ1.out;have:=HK2.out;omega
        case rel => exact ⟨(wrap64 (x42_2 + 1)),(by first|rfl|(simp;done)|(simp [*];done)),H',⟨by have:=HJ1.out;have:=HK2.out;omega⟩,⟨blk_up BK117.out⟩,⟨hb_⟩⟩
      rw [if_neg c15] at H
      have c15b0 : decide (x42_2 < (l0_2.length : Int)) = false:=decide_eq_false c15
      clear c15
      have H':=Aside0.mk H
      clear H
      go_wp2
      go_loopg [5] k2 (fun kq v5 w' => ∃ (x5_3 : Int),v5 = .int .i64 x5_3 ∧ Aside0 (land_Validate.l1 kq x5_3 a0_0 a0_1 l0_2 = some r) ∧ Aside0 (kq ≤ k2) ∧ Aside0 (w'.heap[gb117]? = some (.cells #[.int .i64 a0_0,.int .i64 a0_1,(.slice A0_2 l0_2.length c0_2)] 24 (0,0))) ∧ Aside0 (Below w.heap.size w w'))
      case atStart => exact ⟨(0),(by first|rfl|(simp;done)|(simp [*];done)),H',⟨Nat.le_refl _⟩,⟨blk_up BK117.out⟩,⟨hb_⟩⟩
      case round =>
       clear H'
       obtain ⟨x5_3,rfl,HA,HK3,BK117,HB⟩:=hrel
       cases gk with
       | zero => exact absurd HA.out (by simp [land_Validate.l1])
       | succ k3 =>
        have H:=HA.out
        clear HA
        simp only [land_Validate.l1] at H
        by_cases c20 : x5_3 ≤ a0_1
        rotate_left
        ·rw [if_neg c20] at H
         have c20b0 : decide (x5_3 ≤ a0_1) = false:=decide_eq_false c20
         clear c20
         obtain rfl:=Option.some.inj H
         obtain ⟨_,_,_,_,_,_⟩:=cells3 BK117.out
         go_wp2
         go_ret
         exact ⟨er_,hb_⟩
        rw [if_pos c20] at H
        have c20b0 : decide (x5_3 ≤ a0_1) = true:=decide_eq_true c20
        clear c20
        have H':=Aside0.mk H
        clear H
        obtain ⟨_,_,_,_,_,_⟩:=cells3 BK117.out
        go_wp2
        go_loopg [6] k3 (fun kq v6 w' => ∃ (x6_4 : Int),v6 = .int .i64 x6_4 ∧ Aside0 (land_Validate.l2 kq x5_3 x6_4 a0_0 a0_1 l0_2 = some r) ∧ Aside0 (kq ≤ k3) ∧ Aside0 (w'.heap[gb117]? = some (.cells #[.int .i64 a0_0,.int .i64 a0_1,(.slice A0_2 l0_2.length c0_2)] 24 (0,0))) ∧ Aside0 (Below w.heap.size w w'))
        case atStart => exact ⟨(0),(by first|rfl|(simp;done)|(simp [*];done)),H',⟨Nat.le_refl _⟩,⟨blk_up BK117.out⟩,⟨hb_⟩⟩
        case round =>
         clear H'
         obtain ⟨x6_4,rfl,HA,HK4,BK117,HB⟩:=hrel
         cases gk with
         | zero => exact absurd HA.out (by simp [land_Validate.l2])
         | succ k4 =>
          have H:=HA.out
          clear HA
          simp only [land_Validate.l2] at H
          by_cases c22 : x6_4 ≤ a0_0
          rotate_left
          ·rw [if_neg c22] at H
           have c22b0 : decide (x6_4 ≤ a0_0) = false:=decide_eq_false c22
           clear c22
           have H':=Aside0.mk H
           clear H
           obtain ⟨_,_,_,_,_,_⟩:=cells3 BK117.out
           go_wp2
           go_roundg k4
           case measure => have:=HJ1.out;have:=HK2.out;have:=HK3.out;have:=HK4.out;omega
           case rel => exact ⟨(wrap64 (x5_3 + 1)),(by first|rfl|(simp;done)|(simp [*];done)),H',⟨by have:=HJ1.out;have:=HK2.out;have:=HK3.out;have:=HK4.out;omega⟩,⟨blk_up BK117.out⟩,⟨hb_⟩⟩
          rw [if_pos c22] at H
          have c22b0 : decide (x6_4 ≤ a0_0) = true:=decide_eq_true c22
          clear c22
          obtain ⟨ji23,hji23⟩ : ∃ j_ : Int,(wrap64 ((wrap64 (x5_3 * (wrap64 (a0_0 + 1)))) + x6_4)) = j_:=⟨_,rfl⟩
          replace H : (if 0 ≤ (ji23) then (if (ji23) < (l0_2.length : Int) then (if x6_4 < a0_0 then (if 0 ≤ (wrap64 ((ji23) + 1)) then (if (wrap64 ((ji23) + 1)) < (l0_2.length : Int) then ((land_apart.f (rd l0_2 (ji23)) (rd l0_2 (wrap64 ((ji23) + 1)))).bind fun t121 => (if t121 = true then (some 5) else (if x5_3 < a0_1 then (if 0 ≤ (wrap64 ((wrap64 ((wrap64 (x5_3 + 1)) * (wrap64 (a0_0 + 1)))) + x6_4)) then (if (wrap64 ((wrap64 ((wrap64 (x5_3 + 1)) * (wrap64 (a0_0 + 1)))) + x6_4)) < (l0_2.length : Int) then ((land_apart.f (rd l0_2 (ji23)) (rd l0_2 (wrap64 ((wrap64 ((wrap64 (x5_3 + 1)) * (wrap64 (a0_0 + 1)))) + x6_4)))).bind fun t123 => (if t123 = true then (some 5) else (land_Validate.l2 k4 x5_3 (wrap64 (x6_4 + 1)) a0_0 a0_1 l0_2))) else (none)) else (none)) else (land_Validate.l2 k4 x5_3 (wrap64 (x6_4 + 1)) a0_0 a0_1 l0_2)))) else (none)) else (none)) else (if x5_3 < a0_1 then (if 0 ≤ (wrap64 ((wrap64 ((wrap64 (x5_3 + 1)) * (wrap64 (a0_0 + 1)))) + x6_4)) then (if (wrap64 ((wrap64 ((wrap64 (x5_3 + 1)) * (wrap64 (a0_0 + 1)))) + x6_4)) < (l0_2.length : Int) then ((land_apart.f (rd l0_2 (ji23)) (rd l0_2 (wrap64 ((wrap64 ((wrap64 (x5_3 + 1)) * (wrap64 (a0_0 + 1)))) + x6_4)))).bind fun t125 => (if t125 = true then (some 5) else (land_Validate.l2 k4 x5_3 (wrap64 (x6_4 + 1)) a0_0 a0_1 l0_2))) else (none)) else (none)) else (land_Validate.l2 k4 x5_3 (wrap64 (x6_4 + 1)) a0_0 a0_1 l0_2))) else (none)) else (none)) = some r:=by first|(rw [hji23] at H;exact H)|(simp only [hji23] at H ⊢;exact H)
          have hji23w : (IntKind.i64.wrap ((wrap64 (x5_3 * (wrap64 (a0_0 + 1)))) + x6_4)) = ji23:=(i64_w _).trans hji23
          replace H:=ifp_ H;obtain ⟨c24,H⟩:=H
          have c24b0 : decide (0 ≤ (ji23)) = true:=decide_eq_true c24
          clear c24
          replace H:=ifp_ H;obtain ⟨c25,H⟩:=H
          have c25b0 : decide ((ji23) < (l0_2.length : Int)) = true:=decide_eq_true c25
          clear c25
          by_cases c26 : x6_4 < a0_0
          rotate_left
          ·rw [if_neg c26] at H
           have c26b0 : decide (x6_4 < a0_0) = false:=decide_eq_false c26
           clear c26
           by_cases c42 : x5_3 < a0_1
           rotate_left
           ·rw [if_neg c42] at H
            have c42b0 : decide (x5_3 < a0_1) = false:=decide_eq_false c42
            clear c42
            have H':=Aside0.mk H
            clear H
            obtain ⟨_,_,_,_,_,_⟩:=cells3 BK117.out
            have p119 : 0 ≤ ((ji23) : Int):=of_decide_eq_true (by first|(with_reducible assumption)|assumption)
            have q119 : (ji23) < (l0_2.length : Int):=of_decide_eq_true (by first|(with_reducible assumption)|assumption)
            obtain ⟨ad119,e119,hx119_0⟩:=Kd.at_int HR0_2.out (ji23) p119 q119
            cases e119
            replace hx119_0:=(HB.out.cell (World.block_lt_of_cell? w _ hx119_0)).trans hx119_0
            replace p119:=eq_true p119
            replace q119:=eq_true q119
            go_wp2
            go_roundg k4
            case measure => have:=HJ1.out;have:=HK2.out;have:=HK3.out;have:=HK4.out;omega
            case rel => exact ⟨(wrap64 (x6_4 + 1)),(by first|rfl|(simp;done)|(simp [*];done)),H',⟨by have:=HJ1.out;have:=HK2.out;have:=HK3.out;have:=HK4.out;omega⟩,⟨blk_up BK117.out⟩,⟨hb_⟩⟩
           rw [if_pos c42] at H
           have c42b0 : decide (x5_3 < a0_1) = true:=decide_eq_true c42
           clear c42
           obtain ⟨ji43,hji43⟩ : ∃ j_ : Int,(wrap64 ((wrap64 ((wrap64 (x5_3 + 1)) * (wrap64 (a0_0 + 1)))) + x6_4)) = j_:=⟨_,rfl⟩
           replace H : (if 0 ≤ (ji43) then (if (ji43) < (l0_2.length : Int) then ((land_apart.f (rd l0_2 (ji23)) (rd l0_2 (ji43))).bind fun t125 => (if t125 = true then (some 5) else (land_Validate.l2 k4 x5_3 (wrap64 (x6_4 + 1)) a0_0 a0_1 l0_2))) else (none)) else (none)) = some r:=by first|(rw [hji43] at H;exact H)|(simp only [hji43] at H ⊢;exact H)
           have hji43w : (IntKind.i64.wrap ((wrap64 ((wrap64 (x5_3 + 1)) * (wrap64 (a0_0 + 1)))) + x6_4)) = ji43:=(i64_w _).trans hji43
           replace H:=ifp_ H;obtain ⟨c44,H⟩:=H
           have c44b0 : decide (0 ≤ (ji43)) = true:=decide_eq_true c44
           clear c44
           replace H:=ifp_ H;obtain ⟨c45,H⟩:=H
           have c45b0 : decide ((ji43) < (l0_2.length : Int)) = true:=decide_eq_true c45
           clear c45
           replace H:=Option.bind_eq_some_iff.mp H
           obtain ⟨t125,A460,H⟩:=H
           replace H : (if t125 = true then (some 5) else (land_Validate.l2 k4 x5_3 (wrap64 (x6_4 + 1)) a0_0 a0_1 l0_2)) = some r:=H
           have A46:=Aside0.mk A460
           clear A460
           by_cases c47 : t125 = true
           ·subst c47
            have H1 : (some 5) = some r:=by rw [if_pos rfl] at H;exact H
            clear H
            have H:=H1
            clear H1
            obtain rfl:=Option.some.inj H
            obtain ⟨_,_,_,_,_,_⟩:=cells3 BK117.out
            have p119 : 0 ≤ ((ji23) : Int):=of_decide_eq_true (by first|(with_reducible assumption)|assumption)
            have q119 : (ji23) < (l0_2.length : Int):=of_decide_eq_true (by first|(with_reducible assumption)|assumption)
            obtain ⟨ad119,e119,hx119_0⟩:=Kd.at_int HR0_2.out (ji23) p119 q119
            cases e119
            replace hx119_0:=(HB.out.cell (World.block_lt_of_cell? w _ hx119_0)).trans hx119_0
            replace p119:=eq_true p119
            replace q119:=eq_true q119
            have p124 : 0 ≤ ((ji43) : Int):=of_decide_eq_true (by first|(with_reducible assumption)|assumption)
            have q124 : (ji43) < (l0_2.length : Int):=of_decide_eq_true (by first|(with_reducible assumption)|assumption)
            obtain ⟨ad124,e124,hx124_0⟩:=Kd.at_int HR0_2.out (ji43) p124 q124
            obtain rfl : ad119 = ad124:=(by injection e124)
            replace hx124_0:=(HB.out.cell (World.block_lt_of_cell? w _ hx124_0)).trans hx124_0
            replace p124:=eq_true p124
            replace q124:=eq_true q124
            go_wp2_with (first|(go_at_call 79;(with_reducible refine (land_apart.calls (rd l0_2 (ji23)) (rd l0_2 (ji43)) true _ A46.out).mono ?_);rintro e w' ⟨rfl,⟨nd,rfl⟩⟩))
            go_ret
            exact ⟨by first|rfl|(simp [errW_none,errW_some] <;> rfl)|(simp only [← hji23,← hji43];first|rfl|(simp [errW_none,errW_some] <;> rfl))|(simp [*,errW_none,errW_some] <;> rfl),hb_⟩
           ·replace c47:=Bool.eq_false_iff.mpr c47
            subst c47
            have H1 : (land_Validate.l2 k4 x5_3 (wrap64 (x6_4 + 1)) a0_0 a0_1 l0_2) = some r:=by rw [if_neg (show ¬ (false = true) by decide)] at H;exact H
            clear H
            have H:=H1
            clear H1
            have H':=Aside0.mk H
            clear H
            obtain ⟨_,_,_,_,_,_⟩:=cells3 BK117.out
            have p119 : 0 ≤ ((ji23) : Int):=of_decide_eq_true (by first|(with_reducible assumption)|assumption)
            have q119 : (ji23) < (l0_2.length : Int):=of_decide_eq_true (by first|(with_reducible assumption)|assumption)
            obtain ⟨ad119,e119,hx119_0⟩:=Kd.at_int HR0_2.out (ji23) p119 q119
            cases e119
            replace hx119_0:=(HB.out.cell (World.block_lt_of_cell? w _ hx119_0)).trans hx119_0
            replace p119:=eq_true p119
            replace q119:=eq_true q119
            have p124 : 0 ≤ ((ji43) : Int):=of_decide_eq_true (by first|(with_reducible assumption)|assumption)
            have q124 : (ji43) < (l0_2.length : Int):=of_decide_eq_true (by first|(with_reducible assumption)|assumption)
            obtain ⟨ad124,e124,hx124_0⟩:=Kd.at_int HR0_2.out (ji43) p124 q124
            obtain rfl : ad119 = ad124:=(by injection e124)
            replace hx124_0:=(HB.out.cell (World.block_lt_of_cell? w _ hx124_0)).trans hx124_0
            replace p124:=eq_true p124
            replace q124:=eq_true q124
            go_wp2_with (first|(go_at_call 79;(with_reducible refine (land_apart.calls (rd l0_2 (ji23)) (rd l0_2 (ji43)) false _ A46.out).mono ?_);rintro e w' ⟨rfl,⟨nd,rfl⟩⟩))
            go_roundg k4
            case measure => have:=HJ1.out;have:=HK2.out;have:=HK3.out;have:=HK4.out;omega
            case rel => exact ⟨(wrap64 (x6_4 + 1)),(by first|rfl|(simp;done)|(simp [*];done)),H',⟨by have:=HJ1.out;have:=HK2.out;have:=HK3.out;have:=HK4.out;omega⟩,⟨blk_up BK117.out⟩,⟨hb_⟩⟩
          rw [if_pos c26] at H
          have c26b0 : decide (x6_4 < a0_0) = true:=decide_eq_true c26
          clear c26
          obtain ⟨ji27,hji27⟩ : ∃ j_ : Int,(wrap64 ((ji23) + 1)) = j_:=⟨_,rfl⟩
          replace H : (if 0 ≤ (ji27) then (if (ji27) < (l0_2.length : Int) then ((land_apart.f (rd l0_2 (ji23)) (rd l0_2 (ji27))).bind fun t121 => (if t121 = true then (some 5) else (if x5_3 < a0_1 then (if 0 ≤ (wrap64 ((wrap64 ((wrap64 (x5_3 + 1)) * (wrap64 (a0_0 + 1)))) + x6_4)) then (if (wrap64 ((wrap64 ((wrap64 (x5_3 + 1)) * (wrap64 (a0_0 + 1)))) + x6_4)) < (l0_2.length : Int) then ((land_apart.f (rd l0_2 (ji23)) (rd l0_2 (wrap64 ((wrap64 ((wrap64 (x5_3 + 1)) * (wrap64 (a0_0 + 1)))) + x6_4)))).bind fun t123 => (if t123 = true then (some 5) else (land_Validate.l2 k4 x5_3 (wrap64 (x6_4 + 1)) a0_0 a0_1 l0_2))) else (none)) else (none)) else (land_Validate.l2 k4 x5_3 (wrap64 (x6_4 + 1)) a0_0 a0_1 l0_2)))) else (none)) else (none)) = some r:=by first|(rw [hji27] at H;exact H)|(simp only [hji27] at H ⊢;exact H)
          have hji27w : (IntKind.i64.wrap ((ji23) + 1)) = ji27:=(i64_w _).trans hji27
          replace H:=ifp_ H;obtain ⟨c28,H⟩:=H
          have c28b0 : decide (0 ≤ (ji27)) = true:=decide_eq_true c28
          clear c28
          replace H:=ifp_ H;obtain ⟨c29,H⟩:=H
          have c29b0 : decide ((ji27) < (l0_2.length : Int)) = true:=decide_eq_true c29
          clear c29
          replace H:=Option.bind_eq_some_iff.mp H
          obtain ⟨t121,A300,H⟩:=H
          replace H : (if t121 = true then (some 5) else (if x5_3 < a0_1 then (if 0 ≤ (wrap64 ((wrap64 ((wrap64 (x5_3 + 1)) * (wrap64 (a0_0 + 1)))) + x6_4)) then (if (wrap64 ((wrap64 ((wrap64 (x5_3 + 1)) * (wrap64 (a0_0 + 1)))) + x6_4)) < (l0_2.length : Int) then ((land_apart.f (rd l0_2 (ji23)) (rd l0_2 (wrap64 ((wrap64 ((wrap64 (x5_3 + 1)) * (wrap64 (a0_0 + 1)))) + x6_4)))).bind fun t123 => (if t123 = true then (some 5) else (land_Validate.l2 k4 x5_3 (wrap64 (x6_4 + 1)) a0_0 a0_1 l0_2))) else (none)) else (none)) else (land_Validate.l2 k4 x5_3 (wrap64 (x6_4 + 1)) a0_0 a0_1 l0_2))) = some r:=H
          have A30:=Aside0.mk A300
          clear A300
          by_cases c31 : t121 = true
          ·subst c31
           have H1 : (some 5) = some r:=by rw [if_pos rfl] at H;exact H
           clear H
           have H:=H1
           clear H1
           obtain rfl:=Option.some.inj H
           obtain ⟨_,_,_,_,_,_⟩:=cells3 BK117.out
           have p119 : 0 ≤ ((ji23) : Int):=of_decide_eq_true (by first|(with_reducible assumption)|assumption)
           have q119 : (ji23) < (l0_2.length : Int):=of_decide_eq_true (by first|(with_reducible assumption)|assumption)
           obtain ⟨ad119,e119,hx119_0⟩:=Kd.at_int HR0_2.out (ji23) p119 q119
           cases e119
           replace hx119_0:=(HB.out.cell (World.block_lt_of_cell? w _ hx119_0)).trans hx119_0
           replace p119:=eq_true p119
           replace q119:=eq_true q119
           have p120 : 0 ≤ ((ji27) : Int):=of_decide_eq_true (by first|(with_reducible assumption)|assumption)
           have q120 : (ji27) < (l0_2.length : Int):=of_decide_eq_true (by first|(with_reducible assumption)|assumption)
           obtain ⟨ad120,e120,hx120_0⟩:=Kd.at_int HR0_2.out (ji27) p120 q120
           obtain rfl : ad119 = ad120:=(by injection e120)
           replace hx120_0:=(HB.out.cell (World.block_lt_of_cell? w _ hx120_0)).trans hx120_0
           replace p120:=eq_true p120
           replace q120:=eq_true q120
           go_wp2_with (first|(go_at_call 79;(with_reducible refine (land_apart.calls (rd l0_2 (ji23)) (rd l0_2 (ji27)) true _ A30.out).mono ?_);rintro e w' ⟨rfl,⟨nd,rfl⟩⟩))
           go_ret
           exact ⟨by first|rfl|(simp [errW_none,errW_some] <;> rfl)|(simp only [← hji23,← hji27];first|rfl|(simp [errW_none,errW_some] <;> rfl))|(simp [*,errW_none,errW_some] <;> rfl),hb_⟩
          ·replace c31:=Bool.eq_false_iff.mpr c31
           subst c31
           have H1 : (if x5_3 < a0_1 then (if 0 ≤ (wrap64 ((wrap64 ((wrap64 (x5_3 + 1)) * (wrap64 (a0_0 + 1)))) + x6_4)) then (if (wrap64 ((wrap64 ((wrap64 (x5_3 + 1)) * (wrap64 (a0_0 + 1)))) + x6_4)) < (l0_2.length : Int) then ((land_apart.f (rd l0_2 (ji23)) (rd l0_2 (wrap64 ((wrap64 ((wrap64 (x5_3 + 1)) * (wrap64 (a0_0 + 1)))) + x6_4)))).bind fun t123 => (if t123 = true then (some 5) else (land_Validate.l2 k4 x5_3 (wrap64 (x6_4 + 1)) a0_0 a0_1 l0_2))) else (none)) else (none)) else (land_Validate.l2 k4 x5_3 (wrap64 (x6_4 + 1)) a0_0 a0_1 l0_2)) = some r:=by rw [if_neg (show ¬ (false = true) by decide)] at H;exact H
           clear H
           have H:=H1
           clear H1
           by_cases c33 : x5_3 < a0_1
           rotate_left
           ·rw [if_neg c33] at H
            have c33b0 : decide (x5_3 < a0_1) = false:=decide_eq_false c33
            clear c33
            have H':=Aside0.mk H
            clear H
            obtain ⟨_,_,_,_,_,_⟩:=cells3 BK117.out
            have p119 : 0 ≤ ((ji23) : Int):=of_decide_eq_true (by first|(with_reducible assumption)|assumption)
            have q119 : (ji23) < (l0_2.length : Int):=of_decide_eq_true (by first|(with_reducible assumption)|assumption)
            obtain ⟨ad119,e119,hx119_0⟩:=Kd.at_int HR0_2.out (ji23) p119 q119
            cases e119
            replace hx119_0:=(HB.out.cell (World.block_lt_of_cell? w _ hx119_0)).trans hx119_0
            replace p119:=eq_true p119
            replace q119:=eq_true q119
            have p120 : 0 ≤ ((ji27) : Int):=of_decide_eq_true (by first|(with_reducible assumption)|assumption)
            have q120 : (ji27) < (l0_2.length : Int):=of_decide_eq_true (by first|(with_reducible assumption)|assumption)
            obtain ⟨ad120,e120,hx120_0⟩:=Kd.at_int HR0_2.out (ji27) p120 q120
            obtain rfl : ad119 = ad120:=(by injection e120)
            replace hx120_0:=(HB.out.cell (World.block_lt_of_cell? w _ hx120_0)).trans hx120_0
            replace p120:=eq_true p120
            replace q120:=eq_true q120
            go_wp2_with (first|(go_at_call 79;(with_reducible refine (land_apart.calls (rd l0_2 (ji23)) (rd l0_2 (ji27)) false _ A30.out).mono ?_);rintro e w' ⟨rfl,⟨nd,rfl⟩⟩))
            go_roundg k4
            case measure => have:=HJ1.out;have:=HK2.out;have:=HK3.out;have:=HK4.out;omega
            case rel => exact ⟨(wrap64 (x6_4 + 1)),(by first|rfl|(simp;done)|(simp [*];done)),H',⟨by have:=HJ1.out;have:=HK2.out;have:=HK3.out;have:=HK4.out;omega⟩,⟨blk_up BK117.out⟩,⟨hb_⟩⟩
           rw [if_pos c33] at H
           have c33b0 : decide (x5_3 < a0_1) = true:=decide_eq_true c33
           clear c33
           obtain ⟨ji34,hji34⟩ : ∃ j_ : Int,(wrap64 ((wrap64 ((wrap64 (x5_3 + 1)) * (wrap64 (a0_0 + 1)))) + x6_4)) = j_:=⟨_,rfl⟩
           replace H : (if 0 ≤ (ji34) then (if (ji34) < (l0_2.length : Int) then ((land_apart.f (rd l0_2 (ji23)) (rd l0_2 (ji34))).bind fun t123 => (if t123 = true then (some 5) else (land_Validate.l2 k4 x5_3 (wrap64 (x6_4 + 1)) a0_0 a0_1 l0_2))) else (none)) else (none)) = some r:=by first|(rw [hji34] at H;exact H)|(simp only [hji34] at H ⊢;exact H)
           (try rw [hji34] at A30)
           have hji34w : (IntKind.i64.wrap ((wrap64 ((wrap64 (x5_3 + 1)) * (wrap64 (a0_0 + 1)))) + x6_4)) = ji34:=(i64_w _).trans hji34
           replace H:=ifp_ H;obtain ⟨c35,H⟩:=H
           have c35b0 : decide (0 ≤ (ji34)) = true:=decide_eq_true c35
           clear c35
           replace H:=ifp_ H;obtain ⟨c36,H⟩:=H
           have c36b0 : decide ((ji34) < (l0_2.length : Int)) = true:=decide_eq_true c36
           clear c36
           replace H:=Option.bind_eq_some_iff.mp H
           obtain ⟨t123,A370,H⟩:=H
           replace H : (if t123 = true then (some 5) else (land_Validate.l2 k4 x5_3 (wrap64 (x6_4 + 1)) a0_0 a0_1 l0_2)) = some r:=H
           have A37:=Aside0.mk A370
           clear A370
           by_cases c38 : t123 = true
           ·subst c38
            have H1 : (some 5) = some r:=by rw [if_pos rfl] at H;exact H
            clear H
            have H:=H1
            clear H1
            obtain rfl:=Option.some.inj H
            obtain ⟨_,_,_,_,_,_⟩:=cells3 BK117.out
            have p119 : 0 ≤ ((ji23) : Int):=of_decide_eq_true (by first|(with_reducible assumption)|assumption)
            have q119 : (ji23) < (l0_2.length : Int):=of_decide_eq_true (by first|(with_reducible assumption)|assumption)
            obtain ⟨ad119,e119,hx119_0⟩:=Kd.at_int HR0_2.out (ji23) p119 q119
            cases e119
            replace hx119_0:=(HB.out.cell (World.block_lt_of_cell? w _ hx119_0)).trans hx119_0
            replace p119:=eq_true p119
            replace q119:=eq_true q119
            have p120 : 0 ≤ ((ji27) : Int):=of_decide_eq_true (by first|(with_reducible assumption)|assumption)
            have q120 : (ji27) < (l0_2.length : Int):=of_decide_eq_true (by first|(with_reducible assumption)|assumption)
            obtain ⟨ad120,e120,hx120_0⟩:=Kd.at_int HR0_2.out (ji27) p120 q120
            obtain rfl : ad119 = ad120:=(by injection e120)
            replace hx120_0:=(HB.out.cell (World.block_lt_of_cell? w _ hx120_0)).trans hx120_0
            replace p120:=eq_true p120
            replace q120:=eq_true q120
            go_wp2_with (first|(go_at_call 79;(with_reducible refine (land_apart.calls (rd l0_2 (ji23)) (rd l0_2 (ji27)) false _ A30.out).mono ?_);rintro e w' ⟨rfl,⟨nd,rfl⟩⟩;have p122 : 0 ≤ ((ji34) : Int):=of_decide_eq_true (by first|(with_reducible assumption)|assumption);have q122 : (ji34) < (l0_2.length : Int):=of_decide_eq_true (by first|(with_reducible assumption)|assumption);obtain ⟨ad122,e122,hx122_0⟩:=Kd.at_int HR0_2.out (ji34) p122 q122;obtain rfl : ad119 = ad122:=(by injection e122);replace hx122_0:=(HB.out.cell (World.block_lt_of_cell? w _ hx122_0)).trans hx122_0;replace p122:=eq_true p122;replace q122:=eq_true q122)|(go_at_call 79;(with_reducible refine (land_apart.calls (rd l0_2 (ji23)) (rd l0_2 (ji34)) true _ A37.out).mono ?_);rintro e w' ⟨rfl,⟨nd,rfl⟩⟩))
            go_ret
            exact ⟨by first|rfl|(simp [errW_none,errW_some] <;> rfl)|(simp only [← hji23,← hji27,← hji34];first|rfl|(simp [errW_none,errW_some] <;> rfl))|(simp [*,errW_none,errW_some] <;> rfl),hb_⟩
           ·replace c38:=Bool.eq_false_iff.mpr c38
            subst c38
            have H1 : (land_Validate.l2 k4 x5_3 (wrap64 (x6_4 + 1)) a0_0 a0_1 l0_2) = some r:=by rw [if_neg (show ¬ (false = true) by decide)] at H;exact H
            clear H
            have H:=H1
            clear H1
            have H':=Aside0.mk H
            clear H
            obtain ⟨_,_,_,_,_,_⟩:=cells3 BK117.out
            have p119 : 0 ≤ ((ji23) : Int):=of_decide_eq_true (by first|(with_reducible assumption)|assumption)
            have q119 : (ji23) < (l0_2.length : Int):=of_decide_eq_true (by first|(with_reducible assumption)|assumption)
            obtain ⟨ad119,e119,hx119_0⟩:=Kd.at_int HR0_2.out (ji23) p119 q119
            cases e119
            replace hx119_0:=(HB.out.cell (World.block_lt_of_cell? w _ hx119_0)).trans hx119_0
            replace p119:=eq_true p119
            replace q119:=eq_true q119
            have p120 : 0 ≤ ((ji27) : Int):=of_decide_eq_true (by first|(with_reducible assumption)|assumption)
            have q120 : (ji27) < (l0_2.length : Int):=of_decide_eq_true (by first|(with_reducible assumption)|assumption)
            obtain ⟨ad120,e120,hx120_0⟩:=Kd.at_int HR0_2.out (ji27) p120 q120
            obtain rfl : ad119 = ad120:=(by injection e120)
            replace hx120_0:=(HB.out.cell (World.block_lt_of_cell? w _ hx120_0)).trans hx120_0
            replace p120:=eq_true p120
            replace q120:=eq_true q120
            go_wp2_with (first|(go_at_call 79;(with_reducible refine (land_apart.calls (rd l0_2 (ji23)) (rd l0_2 (ji27)) false _ A30.out).mono ?_);rintro e w' ⟨rfl,⟨nd,rfl⟩⟩;have p122 : 0 ≤ ((ji34) : Int):=of_decide_eq_true (by first|(with_reducible assumption)|assumption);have q122 : (ji34) < (l0_2.length : Int):=of_decide_eq_true (by first|(with_reducible assumption)|assumption);obtain ⟨ad122,e122,hx122_0⟩:=Kd.at_int HR0_2.out (ji34) p122 q122;obtain rfl : ad119 = ad122:=(by injection e122);replace hx122_0:=(HB.out.cell (World.block_lt_of_cell? w _ hx122_0)).trans hx122_0;replace p122:=eq_true p122;replace q122:=eq_true q122)|(go_at_call 79;(with_reducible refine (land_apart.calls (rd l0_2 (ji23)) (rd l0_2 (ji34)) false _ A37.out).mono ?_);rintro e w' ⟨rfl,⟨nd,rfl⟩⟩))
            go_roundg k4
            case measure => have:=HJ1.out;have:=HK2.out;have:=HK3.out;have:=HK4.out;omega
            case rel => exact ⟨(wrap64 (x6_4 + 1)),(by first|rfl|(simp;done)|(simp [*];done)),H',⟨by have:=HJ1.out;have:=HK2.out;have:=HK3.out;have:=HK4.out;omega⟩,⟨blk_up BK117.out⟩,⟨hb_⟩⟩

/-! ### water_groundOf: function 65 -/
mutual
def water_groundOf.l0 : Nat → Int → Int → Int → Int → List Int → Int → Int → List Int → List Int → List Bool → Option (Int × Int × List Int × List Int × List Bool × Int)
 | 0,_,_,_,_,_,_,_,_,_,_ => none
 | k + 1,x30,x31,x127000,x127001,x127002,x130000,x130001,x130002,x130003,x130004 => if x31 < x30 then (if x127000 = 0 then (none) else (if 0 ≤ (wrap64 ((wrap64 ((wrap64 (Int.tdiv x31 x127000)) * (wrap64 (x127000 + 1)))) + (Int.tmod x31 x127000))) then (if (wrap64 ((wrap64 ((wrap64 (Int.tdiv x31 x127000)) * (wrap64 (x127000 + 1)))) + (Int.tmod x31 x127000))) < (x127002.length : Int) then (if 0 ≤ (wrap64 ((wrap64 ((wrap64 ((wrap64 (Int.tdiv x31 x127000)) * (wrap64 (x127000 + 1)))) + (Int.tmod x31 x127000))) + 1)) then (if (wrap64 ((wrap64 ((wrap64 ((wrap64 (Int.tdiv x31 x127000)) * (wrap64 (x127000 + 1)))) + (Int.tmod x31 x127000))) + 1)) < (x127002.length : Int) then (if 0 ≤ (wrap64 ((wrap64 ((wrap64 ((wrap64 ((wrap64 (Int.tdiv x31 x127000)) * (wrap64 (x127000 + 1)))) + (Int.tmod x31 x127000))) + x127000)) + 2)) then (if (wrap64 ((wrap64 ((wrap64 ((wrap64 ((wrap64 (Int.tdiv x31 x127000)) * (wrap64 (x127000 + 1)))) + (Int.tmod x31 x127000))) + x127000)) + 2)) < (x127002.length : Int) then (if 0 ≤ (wrap64 ((wrap64 ((wrap64 ((wrap64 ((wrap64 (Int.tdiv x31 x127000)) * (wrap64 (x127000 + 1)))) + (Int.tmod x31 x127000))) + x127000)) + 1)) then (if (wrap64 ((wrap64 ((wrap64 ((wrap64 ((wrap64 (Int.tdiv x31 x127000)) * (wrap64 (x127000 + 1)))) + (Int.tmod x31 x127000))) + x127000)) + 1)) < (x127002.length : Int) then (water_groundOf.l1 k (mn (mn (mn (rd x127002 (wrap64 ((wrap64 ((wrap64 (Int.tdiv x31 x127000)) * (wrap64 (x127000 + 1)))) + (Int.tmod x31 x127000)))) (rd x127002 (wrap64 ((wrap64 ((wrap64 ((wrap64 (Int.tdiv x31 x127000)) * (wrap64 (x127000 + 1)))) + (Int.tmod x31 x127000))) + 1)))) (rd x127002 (wrap64 ((wrap64 ((wrap64 ((wrap64 ((wrap64 (Int.tdiv x31 x127000)) * (wrap64 (x127000 + 1)))) + (Int.tmod x31 x127000))) + x127000)) + 2)))) (rd x127002 (wrap64 ((wrap64 ((wrap64 ((wrap64 ((wrap64 (Int.tdiv x31 x127000)) * (wrap64 (x127000 + 1)))) + (Int.tmod x31 x127000))) + x127000)) + 1)))) 0 x30 x31 (⟨rd x127002 (wrap64 ((wrap64 ((wrap64 (Int.tdiv x31 x127000)) * (wrap64 (x127000 + 1)))) + (Int.tmod x31 x127000))),rd x127002 (wrap64 ((wrap64 ((wrap64 ((wrap64 (Int.tdiv x31 x127000)) * (wrap64 (x127000 + 1)))) + (Int.tmod x31 x127000))) + 1)),rd x127002 (wrap64 ((wrap64 ((wrap64 ((wrap64 ((wrap64 (Int.tdiv x31 x127000)) * (wrap64 (x127000 + 1)))) + (Int.tmod x31 x127000))) + x127000)) + 2)),rd x127002 (wrap64 ((wrap64 ((wrap64 ((wrap64 ((wrap64 (Int.tdiv x31 x127000)) * (wrap64 (x127000 + 1)))) + (Int.tmod x31 x127000))) + x127000)) + 1))⟩ : S71) 0 x127000 x127001 x127002 x130000 x130001 x130002 x130003 x130004 (rd x127002 (wrap64 ((wrap64 ((wrap64 (Int.tdiv x31 x127000)) * (wrap64 (x127000 + 1)))) + (Int.tmod x31 x127000)))) (rd x127002 (wrap64 ((wrap64 ((wrap64 ((wrap64 (Int.tdiv x31 x127000)) * (wrap64 (x127000 + 1)))) + (Int.tmod x31 x127000))) + 1))) (rd x127002 (wrap64 ((wrap64 ((wrap64 ((wrap64 ((wrap64 (Int.tdiv x31 x127000)) * (wrap64 (x127000 + 1)))) + (Int.tmod x31 x127000))) + x127000)) + 2))) (rd x127002 (wrap64 ((wrap64 ((wrap64 ((wrap64 ((wrap64 (Int.tdiv x31 x127000)) * (wrap64 (x127000 + 1)))) + (Int.tmod x31 x127000))) + x127000)) + 1)))) else (none)) else (none)) else (none)) else (none)) else (none)) else (none)) else (none)) else (none))) else (some (x130000,x130001,x130002,x130003,x130004,0))
def water_groundOf.l1 : Nat → Int → Int → Int → Int → S71 → Int → Int → Int → List Int → Int → Int → List Int → List Int → List Bool → Int → Int → Int → Int → Option (Int × Int × List Int × List Int × List Bool × Int)
 | 0,_,_,_,_,_,_,_,_,_,_,_,_,_,_,_,_,_,_ => none
 | k + 1,x11,x12,x30,x31,x88,x89,x127000,x127001,x127002,x130000,x130001,x130002,x130003,x130004,x135000,x135001,x135002,x135003 => if x89 < 4 then (if 0 ≤ x89 then (if (ix71 x88 x89) > x11 then (if (ix71 x88 x89) > (wrap64 (x11 + 1)) then (water_groundOf.l1 k x11 (Go.bits .or .i64 (Go.bits .or .i64 x12 (shl .i64 1 x89)) 16) x30 x31 x88 (wrap64 (x89 + 1)) x127000 x127001 x127002 x130000 x130001 x130002 x130003 x130004 x135000 x135001 x135002 x135003) else (water_groundOf.l1 k x11 (Go.bits .or .i64 x12 (shl .i64 1 x89)) x30 x31 x88 (wrap64 (x89 + 1)) x127000 x127001 x127002 x130000 x130001 x130002 x130003 x130004 x135000 x135001 x135002 x135003)) else (if (ix71 x88 x89) > (wrap64 (x11 + 1)) then (water_groundOf.l1 k x11 (Go.bits .or .i64 x12 16) x30 x31 x88 (wrap64 (x89 + 1)) x127000 x127001 x127002 x130000 x130001 x130002 x130003 x130004 x135000 x135001 x135002 x135003) else (water_groundOf.l1 k x11 x12 x30 x31 x88 (wrap64 (x89 + 1)) x127000 x127001 x127002 x130000 x130001 x130002 x130003 x130004 x135000 x135001 x135002 x135003))) else (none)) else ((some (([x12] : List Int) : List Int)).bind fun y135 => (if x130002.length + y135.length < 17592186044416 then ((some (([x11] : List Int) : List Int)).bind fun y141 => (if x130003.length + y141.length < 17592186044416 then ((some (([decide ((mx (mx (mx x135000 x135001) x135002) x135003) ≤ 2)] : List Bool) : List Bool)).bind fun y147 => (if x130004.length + y147.length < 140737488355328 then (water_groundOf.l0 k x30 (wrap64 (x31 + 1)) x127000 x127001 x127002 x130000 x130001 (x130002 ++ y135) (x130003 ++ y141) (x130004 ++ y147)) else (none))) else (none))) else (none)))
end
def water_groundOf.f (k : Nat) (a0_0 : Int) (a0_1 : Int) (l0_2 : List Int) : Option (Int × Int × List Int × List Int × List Bool × Int) := (land_Validate.f k a0_0 a0_1 l0_2).bind fun t128 => (if t128 = 0 then (water_groundOf.l0 k (wrap64 (a0_0 * a0_1)) 0 a0_0 a0_1 l0_2 a0_0 a0_1 ([] : List Int) ([] : List Int) ([] : List Bool)) else (some (0, 0, ([] : List Int), ([] : List Int), ([] : List Bool), t128)))
theorem water_groundOf.mono_l : ∀ k, (∀ y0 y1 y2 y3 y4 y5 y6 y7 y8 y9, LeO (water_groundOf.l0 k y0 y1 y2 y3 y4 y5 y6 y7 y8 y9) (water_groundOf.l0 (k + 1) y0 y1 y2 y3 y4 y5 y6 y7 y8 y9)) ∧ (∀ y0 y1 y2 y3 y4 y5 y6 y7 y8 y9 y10 y11 y12 y13 y14 y15 y16 y17, LeO (water_groundOf.l1 k y0 y1 y2 y3 y4 y5 y6 y7 y8 y9 y10 y11 y12 y13 y14 y15 y16 y17) (water_groundOf.l1 (k + 1) y0 y1 y2 y3 y4 y5 y6 y7 y8 y9 y10 y11 y12 y13 y14 y15 y16 y17))
 | 0 => ⟨fun _ _ _ _ _ _ _ _ _ _ r h => by simp [water_groundOf.l0] at h,fun _ _ _ _ _ _ _ _ _ _ _ _ _ _ _ _ _ _ r h => by simp [water_groundOf.l1] at h⟩
 | k + 1 => by
  obtain ⟨ih0,ih1⟩:=water_groundOf.mono_l k
  refine ⟨?_,?_⟩
  ·intro y0 y1 y2 y3 y4 y5 y6 y7 y8 y9
   unfold water_groundOf.l0
   repeat' first
   | (with_reducible exact ih0 _ _ _ _ _ _ _ _ _ _)
   | (with_reducible exact ih1 _ _ _ _ _ _ _ _ _ _ _ _ _ _ _ _ _ _)
   | (with_reducible exact land_Validate.mono _ _ _ _)
   | (with_reducible exact LeO.refl _)
   | (with_reducible exact LeO.none _)
   | (with_reducible refine LeO.ite ?_ ?_)
   | (with_reducible refine LeO.bind ?_ (fun _ => ?_))
   | exact ih0 _ _ _ _ _ _ _ _ _ _
   | exact ih1 _ _ _ _ _ _ _ _ _ _ _ _ _ _ _ _ _ _
   | exact land_Validate.mono _ _ _ _
   | exact LeO.none _
   | refine LeO.ite ?_ ?_
   | refine LeO.bind ?_ (fun _ => ?_)
  ·intro y0 y1 y2 y3 y4 y5 y6 y7 y8 y9 y10 y11 y12 y13 y14 y15 y16 y17
   unfold water_groundOf.l1
   repeat' first
   | (with_reducible exact ih0 _ _ _ _ _ _ _ _ _ _)
   | (with_reducible exact ih1 _ _ _ _ _ _ _ _ _ _ _ _ _ _ _ _ _ _)
   | (with_reducible exact land_Validate.mono _ _ _ _)
   | (with_reducible exact LeO.refl _)
   | (with_reducible exact LeO.none _)
   | (with_reducible refine LeO.ite ?_ ?_)
   | (with_reducible refine LeO.bind ?_ (fun _ => ?_))
   | exact ih0 _ _ _ _ _ _ _ _ _ _
   | exact ih1 _ _ _ _ _ _ _ _ _ _ _ _ _ _ _ _ _ _
   | exact land_Validate.mono _ _ _ _
   | exact LeO.none _
   | refine LeO.ite ?_ ?_
   | refine LeO.bind ?_ (fun _ => ?_)
theorem water_groundOf.mono : ∀ a0 a1 a2 k, LeO (water_groundOf.f k a0 a1 a2) (water_groundOf.f (k + 1) a0 a1 a2) := by
 intro a0 a1 a2 k
 obtain ⟨ih0,ih1⟩:=water_groundOf.mono_l k
 unfold water_groundOf.f
 repeat' first
   | (with_reducible exact ih0 _ _ _ _ _ _ _ _ _ _)
   | (with_reducible exact ih1 _ _ _ _ _ _ _ _ _ _ _ _ _ _ _ _ _ _)
   | (with_reducible exact land_Validate.mono _ _ _ _)
   | (with_reducible exact LeO.refl _)
   | (with_reducible exact LeO.none _)
   | (with_reducible refine LeO.ite ?_ ?_)
   | (with_reducible refine LeO.bind ?_ (fun _ => ?_))
   | exact ih0 _ _ _ _ _ _ _ _ _ _
   | exact ih1 _ _ _ _ _ _ _ _ _ _ _ _ _ _ _ _ _ _
   | exact land_Validate.mono _ _ _ _
   | exact LeO.none _
   | refine LeO.ite ?_ ?_
   | refine LeO.bind ?_ (fun _ => ?_)
def water_groundOf.T8 : Bool × List (List Nat × List Nat) := (true, [([], []), ([], []), ([1], [1]), ([0, 2], [0, 2]), ([], []), ([], []), ([5], [5]), ([4, 6], [4, 6]), ([3, 0, 1, 2, 3], [3]), ([7, 8, 0, 1, 2, 3, 4, 5, 6, 7, 8], [7])])
def water_groundOf.B8 : List Nat := [0, 0, 2, 7, 0, 0, 32, 112, 15, 511]
theorem water_groundOf.tab8 : rtab .any (opsOf Try.f65 8) = water_groundOf.T8 := by kernel_rfl
theorem water_groundOf.bits8 : waitsOk water_groundOf.T8.2 water_groundOf.B8 = true := by kernel_rfl
def water_groundOf.T10 : Bool × List (List Nat × List Nat) := (true, [([], []), ([0], [0]), ([], []), ([1, 2], [1, 2]), ([3], [3]), ([], []), ([5], [5]), ([], []), ([7], [7]), ([6, 8], [6, 8]), ([9], [9]), ([], []), ([11], [11]), ([], []), ([], []), ([14], [14]), ([13, 15], [13, 15]), ([16], [16]), ([12, 17], [12, 17]), ([18], [18]), ([], []), ([20], [20]), ([], []), ([], []), ([23], [23]), ([22, 24], [22, 24]), ([25], [25]), ([21, 26], [21, 26]), ([27], [27]), ([4, 10, 19, 28], [4, 10, 19, 28]), ([], []), ([30, 29, 0, 1, 2, 3, 4, 5, 6, 7, 8, 9, 10, 11, 12, 13, 14, 15, 16, 17, 18, 19, 20, 21, 22, 23, 24, 25, 26, 27, 28, 29, 30], [29, 30])])
def water_groundOf.B10 : List Nat := [0, 1, 0, 7, 15, 0, 32, 0, 128, 480, 992, 0, 2048, 0, 0, 16384, 57344, 122880, 260096, 522240, 0, 1048576, 0, 0, 8388608, 29360128, 62914560, 133169152, 267386880, 536870911, 0, 2147483647]
theorem water_groundOf.tab10 : rtab .any (opsOf Try.f65 10) = water_groundOf.T10 := by kernel_rfl
theorem water_groundOf.bits10 : waitsOk water_groundOf.T10.2 water_groundOf.B10 = true := by kernel_rfl
def water_groundOf.T20 : Bool × List (List Nat × List Nat) := (true, [([], []), ([0], [0]), ([], []), ([2], [2]), ([1, 3], [1, 3]), ([], []), ([5], [5]), ([], []), ([7], [7]), ([6, 8, 4], [6, 8]), ([0, 1, 2, 3, 4, 5, 6], []), ([10, 4, 9, 0, 1, 2, 3, 4, 5, 6], [4, 10]), ([0, 1, 2, 3, 4, 5, 6, 7, 8, 9, 10, 11], []), ([12, 9, 11, 0, 1, 2, 3, 4, 5, 6, 7, 8, 9, 10, 11], [9, 12])])
def water_groundOf.B20 : List Nat := [0, 1, 0, 4, 15, 0, 32, 0, 128, 511, 127, 2047, 4095, 8191]
theorem water_groundOf.tab20 : rtab .any (opsOf Try.f65 20) = water_groundOf.T20 := by kernel_rfl
theorem water_groundOf.bits20 : waitsOk water_groundOf.T20.2 water_groundOf.B20 = true := by kernel_rfl
set_option maxHeartbeats 8000000 in
set_option maxRecDepth 100000 in
theorem water_groundOf.calls (k : Nat) (a0_0 : Int) (a0_1 : Int) (A0_2 : Option Addr) (c0_2 : Nat) (l0_2 : List Int) (r1 : Int) (r2 : Int) (r3 : List Int) (r4 : List Int) (r5 : List Bool) (r6 : Int) (w : World) (hr0_2 : Kd.C (Kd.int .i64) w A0_2 l0_2.length l0_2) (hc0_2 : l0_2.length ≤ c0_2) (h : water_groundOf.f k a0_0 a0_1 l0_2 = some (r1, r2, r3, r4, r5, r6)) :
  Calls Try.prog 65 #[.agg #[.int .i64 a0_0,.int .i64 a0_1,.slice A0_2 l0_2.length c0_2]] w fun e w' => ∃ v2_ v3_ v4_ : Value,e = .returned (.tuple #[.agg #[.int .i64 r1,.int .i64 r2,v2_,v3_,v4_],.int .i64 r6]) ∧ Kd.R (Kd.int .i64) 3 w' w.heap.size (fun k_ => some k_ ≠ (v3_ : Value).ownBlock) v2_ r3 ∧ Kd.R (Kd.int .i64) 3 w' w.heap.size (fun k_ => some k_ ≠ (v2_ : Value).ownBlock) v3_ r4 ∧ Kd.R Kd.bool 4 w' w.heap.size (fun _ => True) v4_ r5 ∧ Below w.heap.size w w':=by
 have hu24:=Try.underlying24
 have hu52:=Try.underlying52
 have hu71:=Try.underlying71
 have HR0_2:=Aside0.mk hr0_2
 have HC0_2:=Aside0.mk hc0_2
 clear hr0_2 hc0_2
 have HB:=Aside0.mk (Below.refl w.heap.size w)
 have H : ((land_Validate.f k a0_0 a0_1 l0_2).bind fun t128 => (if t128 = 0 then (water_groundOf.l0 k (wrap64 (a0_0 * a0_1)) 0 a0_0 a0_1 l0_2 a0_0 a0_1 ([] : List Int) ([] : List Int) ([] : List Bool)) else (some (0,0,([] : List Int),([] : List Int),([] : List Bool),t128)))) = some (r1,r2,r3,r4,r5,r6):=h
 clear h
 replace H:=Option.bind_eq_some_iff.mp H
 obtain ⟨t128,A20,H⟩:=H
 replace H : (if t128 = 0 then (water_groundOf.l0 k (wrap64 (a0_0 * a0_1)) 0 a0_0 a0_1 l0_2 a0_0 a0_1 ([] : List Int) ([] : List Int) ([] : List Bool)) else (some (0,0,([] : List Int),([] : List Int),([] : List Bool),t128))) = some (r1,r2,r3,r4,r5,r6):=H
 have A2:=Aside0.mk A20
 clear A20
 by_cases c3 : t128 = 0
 rotate_left
 ·rw [if_neg c3] at H
  have c3b0:=bqf c3
  have c3b1:=bnt c3
  simp only [Option.some.injEq,Prod.mk.injEq] at H
  obtain ⟨rfl,rfl,rfl,rfl,rfl,rfl⟩:=H
  go_enter Try.func65,Try.ntmps65
  go_wp2_with (first|((with_reducible refine gate_dst (N:=1) rfl ?_);refine box_ev (N:=1) (cs:=#[.int .i64 a0_0,.int .i64 a0_1,.slice A0_2 l0_2.length c0_2]) (t:=24) ?_;intro gb126 hg w97 hbox hb;have BK126:=Aside0.mk (hbox);have GW126 : Aside0 (w.heap.size ≤ gb126):=gsz hg;have GE126:=GW126;replace HB:=hbs hb;clear hb hbox hg)|((with_reducible refine gate_dst (N:=2) rfl ?_);refine box_ev (N:=2) (cs:=#[.int .i64 0,.int .i64 0,.slice none 0 0,.slice none 0 0,.slice none 0 0]) (t:=52) ?_;intro gb127 hg w98 hbox hb;have BK127:=Aside0.mk (hbox);have GW127 : Aside0 (w.heap.size ≤ gb127):=gsz hg;have GE127:=GW127;have NB126_127:=nbl BK126 hg;have NB127_126:=nbr BK126 hg;replace BK126:=bkb BK126 hb;replace HB:=hbs hb;clear hb hbox hg;have hnb99:=NB126_127.out;have hnc99:=NB127_126.out;obtain ⟨_,_,_,_,_,_⟩:=cells3 BK126.out)|((with_reducible refine gate_callee (f:=76) rfl ?_);refine goesL_ (some 16) rfl rfl Try.func76 (by kernel_rfl) rfl #[.agg #[.int .i64 a0_0,.int .i64 a0_1,.slice A0_2 l0_2.length c0_2]] rfl ga_ ?_;(with_reducible refine (land_Validate.calls k a0_0 a0_1 _ _ l0_2 t128 _ ?_ ?_ A2.out).mono ?_);exact cq HR0_2;exact HC0_2.out;rintro e w101 ⟨rfl,hb⟩;refine ⟨_,rfl,?_⟩;replace BK126:=bkb BK126 hb;replace BK127:=bkb BK127 hb;replace HB:=hbs hb;obtain ⟨_,_,_,_,_,_,_,_,_,_⟩:=cells5 BK127.out))
  refine bodyPost_ret (results_ct rfl _ _ gb127 52 #[.int .i64 0,.int .i64 0,.slice none 0 0,.slice none 0 0,.slice none 0 0] (0,0) _ rfl (by (with_reducible repeat (first|refine blk_drewN ?_ _|refine blk_drew ?_|refine blk_alloc ?_ _));exact blk_puts5 (blk_up BK127.out)) Try.underlying52 rfl (by kernel_rfl)) rfl ?_
  exact ⟨_,_,_,er_,nl_,nl_,nl_,hb_⟩
 rw [if_pos c3] at H
 have c3b0:=bqt c3
 have c3b1:=bnf c3
 clear c3
 have H':=Aside0.mk H
 clear H
 go_enter Try.func65,Try.ntmps65
 go_wp2_with (first|((with_reducible refine gate_dst (N:=1) rfl ?_);refine box_ev (N:=1) (cs:=#[.int .i64 a0_0,.int .i64 a0_1,.slice A0_2 l0_2.length c0_2]) (t:=24) ?_;intro gb126 hg w4 hbox hb;have BK126:=Aside0.mk (hbox);have GW126 : Aside0 (w.heap.size ≤ gb126):=gsz hg;have GE126:=GW126;replace HB:=hbs hb;clear hb hbox hg)|((with_reducible refine gate_dst (N:=2) rfl ?_);refine box_ev (N:=2) (cs:=#[.int .i64 0,.int .i64 0,.slice none 0 0,.slice none 0 0,.slice none 0 0]) (t:=52) ?_;intro gb127 hg w5 hbox hb;have BK127:=Aside0.mk (hbox);have GW127 : Aside0 (w.heap.size ≤ gb127):=gsz hg;have GE127:=GW127;have NB126_127:=nbl BK126 hg;have NB127_126:=nbr BK126 hg;replace BK126:=bkb BK126 hb;replace HB:=hbs hb;clear hb hbox hg;have hnb6:=NB126_127.out;have hnc6:=NB127_126.out;obtain ⟨_,_,_,_,_,_⟩:=cells3 BK126.out)|((with_reducible refine gate_callee (f:=76) rfl ?_);refine goesL_ (some 16) rfl rfl Try.func76 (by kernel_rfl) rfl #[.agg #[.int .i64 a0_0,.int .i64 a0_1,.slice A0_2 l0_2.length c0_2]] rfl ga_ ?_;(with_reducible refine (land_Validate.calls k a0_0 a0_1 _ _ l0_2 t128 _ ?_ ?_ A2.out).mono ?_);exact cq HR0_2;exact HC0_2.out;rintro e w8 ⟨rfl,hb⟩;refine ⟨_,rfl,?_⟩;replace BK126:=bkb BK126 hb;replace BK127:=bkb BK127 hb;replace HB:=hbs hb;obtain ⟨_,_,_,_,_,_⟩:=cells3 BK126.out)|((with_reducible refine gate_dst (N:=5) rfl ?_);refine box_ev (N:=5) (cs:=#[.int .i64 0,.int .i64 0,.slice none 0 0,.slice none 0 0,.slice none 0 0]) (t:=52) ?_;intro gb129 hg w10 hbox hb;have BK129:=Aside0.mk (hbox);have GW129 : Aside0 (w.heap.size ≤ gb129):=gsz hg;have GE129:=GW129;have NB126_129:=nbl BK126 hg;have NB129_126:=nbr BK126 hg;have NB127_129:=nbl BK127 hg;have NB129_127:=nbr BK127 hg;replace BK126:=bkb BK126 hb;replace BK127:=bkb BK127 hb;replace HB:=hbs hb;clear hb hbox hg;have hnb11:=NB129_126.out;have hnc11:=NB126_129.out;have hnb12:=NB129_127.out;have hnc12:=NB127_129.out;obtain ⟨_,_,_,_,_,_,_,_,_,_⟩:=cells5 BK129.out;obtain ⟨_,_,_,_,_,_⟩:=cells3 BK126.out))
 go_loopg [31] k (fun kq v31 w' => ∃ (x31_1 : Int) (x130002_1 : List Int) (x130003_1 : List Int) (x130004_1 : List Bool) (u130002 : Value) (u130003 : Value) (u130004 : Value),v31 = .int .i64 x31_1 ∧ Aside0 (water_groundOf.l0 kq (wrap64 (a0_0 * a0_1)) x31_1 a0_0 a0_1 l0_2 a0_0 a0_1 x130002_1 x130003_1 x130004_1 = some (r1,r2,r3,r4,r5,r6)) ∧ Aside0 (kq ≤ k) ∧ Aside0 (Kd.R (Kd.int .i64) 3 w' w.heap.size (fun k_ => some k_ ≠ (u130003 : Value).ownBlock) u130002 x130002_1) ∧ Aside0 (Kd.R (Kd.int .i64) 3 w' w.heap.size (fun k_ => some k_ ≠ (u130002 : Value).ownBlock) u130003 x130003_1) ∧ Aside0 (Kd.R Kd.bool 4 w' w.heap.size (fun _ => True) u130004 x130004_1) ∧ Aside0 (w'.heap[gb126]? = some (.cells #[.int .i64 a0_0,.int .i64 a0_1,(.slice A0_2 l0_2.length c0_2)] 24 (0,0))) ∧ Aside0 (w'.heap[gb127]? = some (.cells #[.int .i64 0,.int .i64 0,(.slice none 0 0),(.slice none 0 0),(.slice none 0 0)] 52 (0,0))) ∧ Aside0 (w'.heap[gb129]? = some (.cells #[.int .i64 a0_0,.int .i64 a0_1,u130002,u130003,u130004] 52 (0,0))) ∧ Aside0 (Below w.heap.size w w'))
 case atStart => exact ⟨(0),(([] : List Int)),(([] : List Int)),(([] : List Bool)),(.slice none 0 0),(.slice none 0 0),(.slice none 0 0),(by first|rfl|(simp;done)|(simp [*];done)),H',⟨Nat.le_refl _⟩,⟨nl_⟩,⟨nl_⟩,⟨nl_⟩,⟨by (with_reducible repeat (first|refine blk_drewN ?_ _|refine blk_drew ?_|refine blk_alloc ?_ _));refine blk_far ?_ NB126_129.out _;(with_reducible repeat (first|refine blk_drewN ?_ _|refine blk_drew ?_|refine blk_alloc ?_ _));refine blk_far ?_ NB126_129.out _;(with_reducible repeat (first|refine blk_drewN ?_ _|refine blk_drew ?_|refine blk_alloc ?_ _));refine blk_far ?_ NB126_129.out _;(with_reducible repeat (first|refine blk_drewN ?_ _|refine blk_drew ?_|refine blk_alloc ?_ _));refine blk_far ?_ NB126_129.out _;(with_reducible repeat (first|refine blk_drewN ?_ _|refine blk_drew ?_|refine blk_alloc ?_ _));refine blk_far ?_ NB126_129.out _;(with_reducible repeat (first|refine blk_drewN ?_ _|refine blk_drew ?_|refine blk_alloc ?_ _));exact BK126.out⟩,⟨by (with_reducible repeat (first|refine blk_drewN ?_ _|refine blk_drew ?_|refine blk_alloc ?_ _));refine blk_far ?_ NB127_129.out _;(with_reducible repeat (first|refine blk_drewN ?_ _|refine blk_drew ?_|refine blk_alloc ?_ _));refine blk_far ?_ NB127_129.out _;(with_reducible repeat (first|refine blk_drewN ?_ _|refine blk_drew ?_|refine blk_alloc ?_ _));refine blk_far ?_ NB127_129.out _;(with_reducible repeat (first|refine blk_drewN ?_ _|refine blk_drew ?_|refine blk_alloc ?_ _));refine blk_far ?_ NB127_129.out _;(with_reducible repeat (first|refine blk_drewN ?_ _|refine blk_drew ?_|refine blk_alloc ?_ _));refine blk_far ?_ NB127_129.out _;(with_reducible repeat (first|refine blk_drewN ?_ _|refine blk_drew ?_|refine blk_alloc ?_ _));exact BK127.out⟩,⟨by (with_reducible repeat (first|refine blk_drewN ?_ _|refine blk_drew ?_|refine blk_alloc ?_ _));exact blk_puts5 (blk_up BK129.out)⟩,⟨hb_⟩⟩
 case round =>
  clear H'
  obtain ⟨x31_1,x130002_1,x130003_1,x130004_1,u130002,u130003,u130004,rfl,HA,HK1,HO_130002,HO_130003,HO_130004,BK126,BK127,BK129,HB⟩:=hrel
  cases gk with
  | zero => exact absurd HA.out (by simp [water_groundOf.l0])
  | succ k1 =>
   have H:=HA.out
   clear HA
   simp only [water_groundOf.l0] at H
   by_cases c15 : x31_1 < (wrap64 (a0_0 * a0_1))
   rotate_left
   ·rw [if_neg c15] at H
    have c15b0 : decide (x31_1 < (wrap64 (a0_0 * a0_1))) = false:=decide_eq_false c15
    clear c15
    simp only [Option.some.injEq,Prod.mk.injEq] at H
    obtain ⟨rfl,rfl,rfl,rfl,rfl,rfl⟩:=H
    have hnb89:=NB129_126.out
    have hnc89:=NB126_129.out
    have hnb90:=NB129_127.out
    have hnc90:=NB127_129.out
    obtain ⟨_,_,_,_,_,_,_,_,_,_⟩:=cells5 BK129.out
    have hnb92:=NB127_126.out
    have hnc92:=NB126_127.out
    obtain ⟨_,_,_,_,_,_,_,_,_,_⟩:=cells5 BK127.out
    obtain ⟨Ao94,co94,eo94⟩:=Kd.R_slice HO_130002.out
    subst eo94
    obtain ⟨Ao95,co95,eo95⟩:=Kd.R_slice HO_130003.out
    subst eo95
    obtain ⟨Ao96,co96,eo96⟩:=Kd.R_slice HO_130004.out
    subst eo96
    go_wp2
    refine bodyPost_ret (results_ct rfl _ _ gb127 52 #[.int .i64 a0_0,.int .i64 a0_1,.slice Ao94 x130002_1.length co94,.slice Ao95 x130003_1.length co95,.slice Ao96 x130004_1.length co96] (0,0) _ rfl (by (with_reducible repeat (first|refine blk_drewN ?_ _|refine blk_drew ?_|refine blk_alloc ?_ _));exact blk_puts5 (blk_up BK127.out)) Try.underlying52 rfl (by kernel_rfl)) rfl ?_
    exact ⟨_,_,_,er_,by (with_reducible repeat (first|apply Kd.R_alloc|apply Kd.R_drewN|apply Kd.R_drew));exact Kd.R_mono (Kd.R_fars gb127 (Kd.R_types HO_130002.out BK127.out (by decide)) (fun _ hk => hk.2)) (fun _ hk => hk.1),by (with_reducible repeat (first|apply Kd.R_alloc|apply Kd.R_drewN|apply Kd.R_drew));exact Kd.R_mono (Kd.R_fars gb127 (Kd.R_types HO_130003.out BK127.out (by decide)) (fun _ hk => hk.2)) (fun _ hk => hk.1),by (with_reducible repeat (first|apply Kd.R_alloc|apply Kd.R_drewN|apply Kd.R_drew));exact Kd.R_mono (Kd.R_fars gb127 (Kd.R_types HO_130004.out BK127.out (by decide)) (fun _ hk => hk.2)) (fun _ hk => trivial),hb_⟩
   rw [if_pos c15] at H
   have c15b0 : decide (x31_1 < (wrap64 (a0_0 * a0_1))) = true:=decide_eq_true c15
   clear c15
   replace H:=ifn_ H;obtain ⟨c16,H⟩:=H
   have c16b0 : (a0_0 == 0) = false:=beq_eq_false_iff_ne.mpr c16
   have c16b1 : (a0_0 != 0) = true:=bne_iff_ne.mpr c16
   obtain ⟨ji17,hji17⟩ : ∃ j_ : Int,(wrap64 ((wrap64 ((wrap64 (Int.tdiv x31_1 a0_0)) * (wrap64 (a0_0 + 1)))) + (Int.tmod x31_1 a0_0))) = j_:=⟨_,rfl⟩
   replace H : (if 0 ≤ (ji17) then (if (ji17) < (l0_2.length : Int) then (if 0 ≤ (wrap64 ((ji17) + 1)) then (if (wrap64 ((ji17) + 1)) < (l0_2.length : Int) then (if 0 ≤ (wrap64 ((wrap64 ((ji17) + a0_0)) + 2)) then (if (wrap64 ((wrap64 ((ji17) + a0_0)) + 2)) < (l0_2.length : Int) then (if 0 ≤ (wrap64 ((wrap64 ((ji17) + a0_0)) + 1)) then (if (wrap64 ((wrap64 ((ji17) + a0_0)) + 1)) < (l0_2.length : Int) then (water_groundOf.l1 k1 (mn (mn (mn (rd l0_2 (ji17)) (rd l0_2 (wrap64 ((ji17) + 1)))) (rd l0_2 (wrap64 ((wrap64 ((ji17) + a0_0)) + 2)))) (rd l0_2 (wrap64 ((wrap64 ((ji17) + a0_0)) + 1)))) 0 (wrap64 (a0_0 * a0_1)) x31_1 (⟨rd l0_2 (ji17),rd l0_2 (wrap64 ((ji17) + 1)),rd l0_2 (wrap64 ((wrap64 ((ji17) + a0_0)) + 2)),rd l0_2 (wrap64 ((wrap64 ((ji17) + a0_0)) + 1))⟩ : S71) 0 a0_0 a0_1 l0_2 a0_0 a0_1 x130002_1 x130003_1 x130004_1 (rd l0_2 (ji17)) (rd l0_2 (wrap64 ((ji17) + 1))) (rd l0_2 (wrap64 ((wrap64 ((ji17) + a0_0)) + 2))) (rd l0_2 (wrap64 ((wrap64 ((ji17) + a0_0)) + 1)))) else (none)) else (none)) else (none)) else (none)) else (none)) else (none)) else (none)) else (none)) = some (r1,r2,r3,r4,r5,r6):=by first|(rw [hji17] at H;exact H)|(simp only [hji17] at H ⊢;exact H)
   have hji17w : (IntKind.i64.wrap ((wrap64 ((wrap64 (Int.tdiv x31_1 a0_0)) * (wrap64 (a0_0 + 1)))) + (Int.tmod x31_1 a0_0))) = ji17:=(i64_w _).trans hji17
   replace H:=ifp_ H;obtain ⟨c18,H⟩:=H
   have c18b0 : decide (0 ≤ (ji17)) = true:=decide_eq_true c18
   clear c18
   replace H:=ifp_ H;obtain ⟨c19,H⟩:=H
   have c19b0 : decide ((ji17) < (l0_2.length : Int)) = true:=decide_eq_true c19
   clear c19
   obtain ⟨ji20,hji20⟩ : ∃ j_ : Int,(wrap64 ((ji17) + 1)) = j_:=⟨_,rfl⟩
   replace H : (if 0 ≤ (ji20) then (if (ji20) < (l0_2.length : Int) then (if 0 ≤ (wrap64 ((wrap64 ((ji17) + a0_0)) + 2)) then (if (wrap64 ((wrap64 ((ji17) + a0_0)) + 2)) < (l0_2.length : Int) then (if 0 ≤ (wrap64 ((wrap64 ((ji17) + a0_0)) + 1)) then (if (wrap64 ((wrap64 ((ji17) + a0_0)) + 1)) < (l0_2.length : Int) then (water_groundOf.l1 k1 (mn (mn (mn (rd l0_2 (ji17)) (rd l0_2 (ji20))) (rd l0_2 (wrap64 ((wrap64 ((ji17) + a0_0)) + 2)))) (rd l0_2 (wrap64 ((wrap64 ((ji17) + a0_0)) + 1)))) 0 (wrap64 (a0_0 * a0_1)) x31_1 (⟨rd l0_2 (ji17),rd l0_2 (ji20),rd l0_2 (wrap64 ((wrap64 ((ji17) + a0_0)) + 2)),rd l0_2 (wrap64 ((wrap64 ((ji17) + a0_0)) + 1))⟩ : S71) 0 a0_0 a0_1 l0_2 a0_0 a0_1 x130002_1 x130003_1 x130004_1 (rd l0_2 (ji17)) (rd l0_2 (ji20)) (rd l0_2 (wrap64 ((wrap64 ((ji17) + a0_0)) + 2))) (rd l0_2 (wrap64 ((wrap64 ((ji17) + a0_0)) + 1)))) else (none)) else (none)) else (none)) else (none)) else (none)) else (none)) = some (r1,r2,r3,r4,r5,r6):=by first|(rw [hji20] at H;exact H)|(simp only [hji20] at H ⊢;exact H)
   have hji20w : (IntKind.i64.wrap ((ji17) + 1)) = ji20:=(i64_w _).trans hji20
   replace H:=ifp_ H;obtain ⟨c21,H⟩:=H
   have c21b0 : decide (0 ≤ (ji20)) = true:=decide_eq_true c21
   clear c21
   replace H:=ifp_ H;obtain ⟨c22,H⟩:=H
   have c22b0 : decide ((ji20) < (l0_2.length : Int)) = true:=decide_eq_true c22
   clear c22
   obtain ⟨ji23,hji23⟩ : ∃ j_ : Int,(wrap64 ((wrap64 ((ji17) + a0_0)) + 2)) = j_:=⟨_,rfl⟩
   replace H : (if 0 ≤ (ji23) then (if (ji23) < (l0_2.length : Int) then (if 0 ≤ (wrap64 ((wrap64 ((ji17) + a0_0)) + 1)) then (if (wrap64 ((wrap64 ((ji17) + a0_0)) + 1)) < (l0_2.length : Int) then (water_groundOf.l1 k1 (mn (mn (mn (rd l0_2 (ji17)) (rd l0_2 (ji20))) (rd l0_2 (ji23))) (rd l0_2 (wrap64 ((wrap64 ((ji17) + a0_0)) + 1)))) 0 (wrap64 (a0_0 * a0_1)) x31_1 (⟨rd l0_2 (ji17),rd l0_2 (ji20),rd l0_2 (ji23),rd l0_2 (wrap64 ((wrap64 ((ji17) + a0_0)) + 1))⟩ : S71) 0 a0_0 a0_1 l0_2 a0_0 a0_1 x130002_1 x130003_1 x130004_1 (rd l0_2 (ji17)) (rd l0_2 (ji20)) (rd l0_2 (ji23)) (rd l0_2 (wrap64 ((wrap64 ((ji17) + a0_0)) + 1)))) else (none)) else (none)) else (none)) else (none)) = some (r1,r2,r3,r4,r5,r6):=by first|(rw [hji23] at H;exact H)|(simp only [hji23] at H ⊢;exact H)
   have hji23w : (IntKind.i64.wrap ((wrap64 ((ji17) + a0_0)) + 2)) = ji23:=(i64_w _).trans hji23
   replace H:=ifp_ H;obtain ⟨c24,H⟩:=H
   have c24b0 : decide (0 ≤ (ji23)) = true:=decide_eq_true c24
   clear c24
   replace H:=ifp_ H;obtain ⟨c25,H⟩:=H
   have c25b0 : decide ((ji23) < (l0_2.length : Int)) = true:=decide_eq_true c25
   clear c25
   obtain ⟨ji26,hji26⟩ : ∃ j_ : Int,(wrap64 ((wrap64 ((ji17) + a0_0)) + 1)) = j_:=⟨_,rfl⟩
   replace H : (if 0 ≤ (ji26) then (if (ji26) < (l0_2.length : Int) then (water_groundOf.l1 k1 (mn (mn (mn (rd l0_2 (ji17)) (rd l0_2 (ji20))) (rd l0_2 (ji23))) (rd l0_2 (ji26))) 0 (wrap64 (a0_0 * a0_1)) x31_1 (⟨rd l0_2 (ji17),rd l0_2 (ji20),rd l0_2 (ji23),rd l0_2 (ji26)⟩ : S71) 0 a0_0 a0_1 l0_2 a0_0 a0_1 x130002_1 x130003_1 x130004_1 (rd l0_2 (ji17)) (rd l0_2 (ji20)) (rd l0_2 (ji23)) (rd l0_2 (ji26))) else (none)) else (none)) = some (r1,r2,r3,r4,r5,r6):=by first|(rw [hji26] at H;exact H)|(simp only [hji26] at H ⊢;exact H)
   have hji26w : (IntKind.i64.wrap ((wrap64 ((ji17) + a0_0)) + 1)) = ji26:=(i64_w _).trans hji26
   replace H:=ifp_ H;obtain ⟨c27,H⟩:=H
   have c27b0 : decide (0 ≤ (ji26)) = true:=decide_eq_true c27
   clear c27
   replace H:=ifp_ H;obtain ⟨c28,H⟩:=H
   have c28b0 : decide ((ji26) < (l0_2.length : Int)) = true:=decide_eq_true c28
   clear c28
   obtain ⟨ji29,hji29⟩ : ∃ j_ : Int,(mn (rd l0_2 (ji17)) (rd l0_2 (ji20))) = j_:=⟨_,rfl⟩
   replace H : (water_groundOf.l1 k1 (mn (mn (ji29) (rd l0_2 (ji23))) (rd l0_2 (ji26))) 0 (wrap64 (a0_0 * a0_1)) x31_1 (⟨rd l0_2 (ji17),rd l0_2 (ji20),rd l0_2 (ji23),rd l0_2 (ji26)⟩ : S71) 0 a0_0 a0_1 l0_2 a0_0 a0_1 x130002_1 x130003_1 x130004_1 (rd l0_2 (ji17)) (rd l0_2 (ji20)) (rd l0_2 (ji23)) (rd l0_2 (ji26))) = some (r1,r2,r3,r4,r5,r6):=by first|(rw [hji29] at H;exact H)|(simp only [hji29] at H ⊢;exact H)
   have hji29_ : (if (rd l0_2 (ji20)) < (rd l0_2 (ji17)) then (rd l0_2 (ji20)) else (rd l0_2 (ji17))) = ji29:=hji29
   obtain ⟨ji30,hji30⟩ : ∃ j_ : Int,(mn (ji29) (rd l0_2 (ji23))) = j_:=⟨_,rfl⟩
   replace H : (water_groundOf.l1 k1 (mn (ji30) (rd l0_2 (ji26))) 0 (wrap64 (a0_0 * a0_1)) x31_1 (⟨rd l0_2 (ji17),rd l0_2 (ji20),rd l0_2 (ji23),rd l0_2 (ji26)⟩ : S71) 0 a0_0 a0_1 l0_2 a0_0 a0_1 x130002_1 x130003_1 x130004_1 (rd l0_2 (ji17)) (rd l0_2 (ji20)) (rd l0_2 (ji23)) (rd l0_2 (ji26))) = some (r1,r2,r3,r4,r5,r6):=by first|(rw [hji30] at H;exact H)|(simp only [hji30] at H ⊢;exact H)
   have hji30_ : (if (rd l0_2 (ji23)) < (ji29) then (rd l0_2 (ji23)) else (ji29)) = ji30:=hji30
   obtain ⟨ji31,hji31⟩ : ∃ j_ : Int,(mn (ji30) (rd l0_2 (ji26))) = j_:=⟨_,rfl⟩
   replace H : (water_groundOf.l1 k1 ji31 0 (wrap64 (a0_0 * a0_1)) x31_1 (⟨rd l0_2 (ji17),rd l0_2 (ji20),rd l0_2 (ji23),rd l0_2 (ji26)⟩ : S71) 0 a0_0 a0_1 l0_2 a0_0 a0_1 x130002_1 x130003_1 x130004_1 (rd l0_2 (ji17)) (rd l0_2 (ji20)) (rd l0_2 (ji23)) (rd l0_2 (ji26))) = some (r1,r2,r3,r4,r5,r6):=by first|(rw [hji31] at H;exact H)|(simp only [hji31] at H ⊢;exact H)
   have hji31_ : (if (rd l0_2 (ji26)) < (ji30) then (rd l0_2 (ji26)) else (ji30)) = ji31:=hji31
   have H':=Aside0.mk H
   clear H
   try go_wp2
   replace HO_130002:=Aside0.mk (Kd.R_drew HO_130002.out)
   replace HO_130003:=Aside0.mk (Kd.R_drew HO_130003.out)
   replace HO_130004:=Aside0.mk (Kd.R_drew HO_130004.out)
   replace BK126:=Aside0.mk (blk_drew BK126.out)
   replace BK127:=Aside0.mk (blk_drew BK127.out)
   replace BK129:=Aside0.mk (blk_drew BK129.out)
   replace HB:=Aside0.mk (below_drew1 HB.out)
   refine start_ (n:=10) (S:=fun w' => w'.cell? ⟨gb126,0,none⟩ = some (.int .i64 a0_0) ∧ w'.cell? ⟨gb126,1,none⟩ = some (.int .i64 a0_1) ∧ w'.cell? ⟨gb126,2,none⟩ = some (.slice A0_2 l0_2.length c0_2)) (ds:=[]) #[false,false,false,false,false,false,false,false,false,false] (by kernel_rfl) rfl rfl ⟨(blk_cell BK126.out 0).trans rfl,(blk_cell BK126.out 1).trans rfl,(blk_cell BK126.out 2).trans rfl⟩ (fun hHeld => ?_);refine with_tabW water_groundOf.tab8 water_groundOf.bits8 (fun HT_ HW_ => ?_)
   generalize wr.drew = w32 at HO_130002 HO_130003 HO_130004 BK126 BK127 BK129 HB hHeld ⊢
   refine pI 0 (some 34) ?_
   refine pI 1 (some 35) ?_
   refine pI 4 (some 38) ?_
   refine pI 5 (some 39) ?_
   refine tI3 2 (some 36) hHeld ?_
   refine pI 3 (some 37) ?_
   refine pI 8 (some 7) ?_
   refine tI3 6 (some 40) hHeld ?_
   refine pI 7 (some 41) ?_
   refine pI 9 (some 8) ?_
   refine done_ (done_of HT_.out (by kernel_rfl)) ?_
   have hnb33:=NB126_127.out
   have hnc33:=NB127_126.out
   have hnb34:=NB126_129.out
   have hnc34:=NB129_126.out
   obtain ⟨_,_,_,_,_,_⟩:=cells3 BK126.out
   try go_wp2
   replace HO_130002:=Aside0.mk (Kd.R_drew HO_130002.out)
   replace HO_130003:=Aside0.mk (Kd.R_drew HO_130003.out)
   replace HO_130004:=Aside0.mk (Kd.R_drew HO_130004.out)
   replace BK126:=Aside0.mk (blk_drew BK126.out)
   replace BK127:=Aside0.mk (blk_drew BK127.out)
   replace BK129:=Aside0.mk (blk_drew BK129.out)
   replace HB:=Aside0.mk (below_drew1 HB.out)
   have p130 : 0 ≤ ((ji17) : Int):=of_decide_eq_true (by first|(with_reducible assumption)|assumption)
   have q130 : (ji17) < (l0_2.length : Int):=of_decide_eq_true (by first|(with_reducible assumption)|assumption)
   obtain ⟨ad130,e130,hx130_0⟩:=Kd.at_int HR0_2.out (ji17) p130 q130
   have hw130_0:=hx130_0
   cases e130
   replace hx130_0:=(HB.out.cell (World.block_lt_of_cell? w _ hx130_0)).trans hx130_0
   replace p130:=eq_true p130
   replace q130:=eq_true q130
   have p131 : 0 ≤ ((ji20) : Int):=of_decide_eq_true (by first|(with_reducible assumption)|assumption)
   have q131 : (ji20) < (l0_2.length : Int):=of_decide_eq_true (by first|(with_reducible assumption)|assumption)
   obtain ⟨ad131,e131,hx131_0⟩:=Kd.at_int HR0_2.out (ji20) p131 q131
   have hw131_0:=hx131_0
   obtain rfl : ad130 = ad131:=(by injection e131)
   replace hx131_0:=(HB.out.cell (World.block_lt_of_cell? w _ hx131_0)).trans hx131_0
   replace p131:=eq_true p131
   replace q131:=eq_true q131
   have p132 : 0 ≤ ((ji23) : Int):=of_decide_eq_true (by first|(with_reducible assumption)|assumption)
   have q132 : (ji23) < (l0_2.length : Int):=of_decide_eq_true (by first|(with_reducible assumption)|assumption)
   obtain ⟨ad132,e132,hx132_0⟩:=Kd.at_int HR0_2.out (ji23) p132 q132
   have hw132_0:=hx132_0
   obtain rfl : ad130 = ad132:=(by injection e132)
   replace hx132_0:=(HB.out.cell (World.block_lt_of_cell? w _ hx132_0)).trans hx132_0
   replace p132:=eq_true p132
   replace q132:=eq_true q132
   have p133 : 0 ≤ ((ji26) : Int):=of_decide_eq_true (by first|(with_reducible assumption)|assumption)
   have q133 : (ji26) < (l0_2.length : Int):=of_decide_eq_true (by first|(with_reducible assumption)|assumption)
   obtain ⟨ad133,e133,hx133_0⟩:=Kd.at_int HR0_2.out (ji26) p133 q133
   have hw133_0:=hx133_0
   obtain rfl : ad130 = ad133:=(by injection e133)
   replace hx133_0:=(HB.out.cell (World.block_lt_of_cell? w _ hx133_0)).trans hx133_0
   replace p133:=eq_true p133
   replace q133:=eq_true q133
   refine start_ (n:=32) (S:=fun w' => w'.cell? ⟨gb126,0,none⟩ = some (.int .i64 a0_0) ∧ w'.cell? ⟨gb126,1,none⟩ = some (.int .i64 a0_1) ∧ w'.cell? ⟨gb126,2,none⟩ = some (.slice (some ad130) l0_2.length c0_2) ∧ w'.cell? (ad130.add ((ji17)).toNat) = some (.int .i64 (rd l0_2 (ji17))) ∧ w'.cell? (ad130.add ((ji20)).toNat) = some (.int .i64 (rd l0_2 (ji20))) ∧ w'.cell? (ad130.add ((ji23)).toNat) = some (.int .i64 (rd l0_2 (ji23))) ∧ w'.cell? (ad130.add ((ji26)).toNat) = some (.int .i64 (rd l0_2 (ji26)))) (ds:=[]) #[false,false,false,false,false,false,false,false,false,false,false,false,false,false,false,false,false,false,false,false,false,false,false,false,false,false,false,false,false,false,false,false] (by kernel_rfl) rfl rfl ⟨(blk_cell BK126.out 0).trans rfl,(blk_cell BK126.out 1).trans rfl,(blk_cell BK126.out 2).trans rfl,((HB.out.cell (World.block_lt_of_cell? w _ hw130_0)).trans hw130_0),((HB.out.cell (World.block_lt_of_cell? w _ hw131_0)).trans hw131_0),((HB.out.cell (World.block_lt_of_cell? w _ hw132_0)).trans hw132_0),((HB.out.cell (World.block_lt_of_cell? w _ hw133_0)).trans hw133_0)⟩ (fun hHeld => ?_);refine with_tabW water_groundOf.tab10 water_groundOf.bits10 (fun HT_ HW_ => ?_)
   generalize w32.drew = w36 at HO_130002 HO_130003 HO_130004 BK126 BK127 BK129 HB hx130_0 hx131_0 hx132_0 hx133_0 hHeld ⊢
   refine pI 0 (some 49) ?_
   refine pI 2 (some 51) ?_
   refine pI 5 (some 54) ?_
   refine pI 7 (some 56) ?_
   refine pI 8 (some 57) ?_
   refine pI 11 (some 60) ?_
   refine pI 13 (some 62) ?_
   refine pI 14 (some 63) ?_
   refine pI 20 (some 69) ?_
   refine pI 22 (some 71) ?_
   refine pI 23 (some 72) ?_
   refine tI7 1 (some 50) hHeld ?_
   refine pI 3 (some 52) ?_
   refine tI7 4 (some 53) hHeld ?_
   refine tI7 6 (some 55) hHeld ?_
   refine pI 9 (some 58) ?_
   refine tI7 10 (some 59) hHeld ?_
   refine tI7 12 (some 61) hHeld ?_
   refine tI7 15 (some 64) hHeld ?_
   refine pI 16 (some 65) ?_
   refine pI 17 (some 66) ?_
   refine pI 18 (some 67) ?_
   refine tI7 19 (some 68) hHeld ?_
   refine tI7 21 (some 70) hHeld ?_
   refine tI7 24 (some 73) hHeld ?_
   refine pI 25 (some 74) ?_
   refine pI 26 (some 75) ?_
   refine pI 27 (some 76) ?_
   refine tI7 28 (some 77) hHeld ?_
   refine pI 29 (some 78) ?_
   refine oI 30 (some 10) (fun K hK => ?_)
   refine box_step ?hg (N:=10) ?hd (cs:=#[.int .i64 0,.int .i64 0,.int .i64 0,.int .i64 0]) (t:=71) ?hr ?_;(case hd => rfl);(case hg => rfl);(case hr => first|(go_simp;done)|(go_simp;rfl))
   intro gb134 hg w37 hbox hb
   have n0_:=rbw HO_130002 hb
   have n1_:=rbw HO_130003 hb
   have n2_:=rbw HO_130004 hb
   have n3_:=bkb BK126 hb
   have n4_:=bkb BK127 hb
   have n5_:=bkb BK129 hb
   have n6_:=Aside0.mk (below_step (hb_) hb)
   have n7_:=Aside0.mk (hbox)
   have n8_:=Aside0.mk ((by rw [hg];exact (below_size (hb_)) : w.heap.size ≤ gb134))
   have n9_:=Aside0.mk ((by rw [hg];exact (below_size (hb_)) : w.heap.size ≤ gb134))
   have n10_:=Aside0.mk ((by rw [hg];exact Nat.ne_of_lt (blk_lt (blk_up BK126.out)) : gb126 ≠ gb134))
   have n11_:=Aside0.mk ((by rw [hg];exact Nat.ne_of_gt (blk_lt (blk_up BK126.out)) : gb134 ≠ gb126))
   have n12_:=Aside0.mk ((by rw [hg];exact Nat.ne_of_lt (blk_lt (blk_up BK127.out)) : gb127 ≠ gb134))
   have n13_:=Aside0.mk ((by rw [hg];exact Nat.ne_of_gt (blk_lt (blk_up BK127.out)) : gb134 ≠ gb127))
   have n14_:=Aside0.mk ((by rw [hg];exact Nat.ne_of_lt (blk_lt (blk_up BK129.out)) : gb129 ≠ gb134))
   have n15_:=Aside0.mk ((by rw [hg];exact Nat.ne_of_gt (blk_lt (blk_up BK129.out)) : gb134 ≠ gb129))
   clear HO_130002
   clear HO_130003
   clear HO_130004
   clear BK126
   clear BK127
   clear BK129
   clear HB
   have HO_130002:=n0_
   have HO_130003:=n1_
   have HO_130004:=n2_
   have BK126:=n3_
   have BK127:=n4_
   have BK129:=n5_
   have HB:=n6_
   have BK134:=n7_
   have GW134:=n8_
   have GE134:=n9_
   have NB126_134:=n10_
   have NB134_126:=n11_
   have NB127_134:=n12_
   have NB134_127:=n13_
   have NB129_134:=n14_
   have NB134_129:=n15_
   clear n0_ n1_ n2_ n3_ n4_ n5_ n6_ n7_ n8_ n9_ n10_ n11_ n12_ n13_ n14_ n15_
   clear hb hbox hg
   refine hK.out _ _ ⟨(blk_cell BK126.out 0).trans rfl,(blk_cell BK126.out 1).trans rfl,(blk_cell BK126.out 2).trans rfl,((HB.out.cell (World.block_lt_of_cell? w _ hw130_0)).trans hw130_0),((HB.out.cell (World.block_lt_of_cell? w _ hw131_0)).trans hw131_0),((HB.out.cell (World.block_lt_of_cell? w _ hw132_0)).trans hw132_0),((HB.out.cell (World.block_lt_of_cell? w _ hw133_0)).trans hw133_0)⟩ (fun hHeld => ?_)
   clear hK K
   refine norm_ (a':=?_) ?_ ?_
   rotate_left
   ·show Act.put _ (some 10) _ = _
    simp only [Act.put,List.setIfInBounds_toArray,List.set_cons_zero,List.set_cons_succ,i64_w,i32_w]
    rfl
   refine oI 31 (none) (fun K hK => ?_)
   have hs38 : w37.cell? ⟨gb134,0,none⟩ = some (.int .i64 0):=(blk_cell BK134.out 0).trans rfl
   have hfs38:=blk_frozen BK134.out 0
   have hns38_0:=NB126_134.out
   have hns38_1:=NB127_134.out
   have hns38_2:=NB129_134.out
   have hms38_0:=NB134_126.out
   have hms38_1:=NB134_127.out
   have hms38_2:=NB134_129.out
   have hs39 : w37.cell? ⟨gb134,1,none⟩ = some (.int .i64 0):=(blk_cell BK134.out 1).trans rfl
   have hfs39:=blk_frozen BK134.out 1
   have hns39_0:=NB126_134.out
   have hns39_1:=NB127_134.out
   have hns39_2:=NB129_134.out
   have hms39_0:=NB134_126.out
   have hms39_1:=NB134_127.out
   have hms39_2:=NB134_129.out
   have hs40 : w37.cell? ⟨gb134,2,none⟩ = some (.int .i64 0):=(blk_cell BK134.out 2).trans rfl
   have hfs40:=blk_frozen BK134.out 2
   have hns40_0:=NB126_134.out
   have hns40_1:=NB127_134.out
   have hns40_2:=NB129_134.out
   have hms40_0:=NB134_126.out
   have hms40_1:=NB134_127.out
   have hms40_2:=NB134_129.out
   have hs41 : w37.cell? ⟨gb134,3,none⟩ = some (.int .i64 0):=(blk_cell BK134.out 3).trans rfl
   have hfs41:=blk_frozen BK134.out 3
   have hns41_0:=NB126_134.out
   have hns41_1:=NB127_134.out
   have hns41_2:=NB129_134.out
   have hms41_0:=NB134_126.out
   have hms41_1:=NB134_127.out
   have hms41_2:=NB134_129.out
   refine skip_ (w1:=?_) (by rfl) rfl ?_ ?_
   rotate_left
   ·go_simp
    rfl
   refine hK.out _ _ ⟨((cell_far (p:=⟨gb134,_,none⟩) NB126_134.out _).trans (((cell_far (p:=⟨gb134,_,none⟩) NB126_134.out _).trans (((cell_far (p:=⟨gb134,_,none⟩) NB126_134.out _).trans (((cell_far (p:=⟨gb134,_,none⟩) NB126_134.out _).trans (hHeld.1)))))))),((cell_far (p:=⟨gb134,_,none⟩) NB126_134.out _).trans (((cell_far (p:=⟨gb134,_,none⟩) NB126_134.out _).trans (((cell_far (p:=⟨gb134,_,none⟩) NB126_134.out _).trans (((cell_far (p:=⟨gb134,_,none⟩) NB126_134.out _).trans (hHeld.2.1)))))))),((cell_far (p:=⟨gb134,_,none⟩) NB126_134.out _).trans (((cell_far (p:=⟨gb134,_,none⟩) NB126_134.out _).trans (((cell_far (p:=⟨gb134,_,none⟩) NB126_134.out _).trans (((cell_far (p:=⟨gb134,_,none⟩) NB126_134.out _).trans (hHeld.2.2.1)))))))),((cell_far (p:=⟨gb134,_,none⟩) (by first|exact Nat.ne_of_lt (Nat.lt_of_lt_of_le (by have:=World.block_lt_of_cell? _ _ hw130_0;first|rwa [add_block] at this|exact this) GW134.out)|(rw [add_block];exact Nat.ne_of_lt (Nat.lt_of_lt_of_le (by have:=World.block_lt_of_cell? _ _ hw130_0;first|rwa [add_block] at this|exact this) GW134.out))|(show (Addr.add _ _).block ≠ _;rw [add_block];exact Nat.ne_of_lt (Nat.lt_of_lt_of_le (by have:=World.block_lt_of_cell? _ _ hw130_0;first|rwa [add_block] at this|exact this) GW134.out))|(dsimp only;exact Nat.ne_of_lt (Nat.lt_of_lt_of_le (by have:=World.block_lt_of_cell? _ _ hw130_0;first|rwa [add_block] at this|exact this) GW134.out))) _).trans (((cell_far (p:=⟨gb134,_,none⟩) (by first|exact Nat.ne_of_lt (Nat.lt_of_lt_of_le (by have:=World.block_lt_of_cell? _ _ hw130_0;first|rwa [add_block] at this|exact this) GW134.out)|(rw [add_block];exact Nat.ne_of_lt (Nat.lt_of_lt_of_le (by have:=World.block_lt_of_cell? _ _ hw130_0;first|rwa [add_block] at this|exact this) GW134.out))|(show (Addr.add _ _).block ≠ _;rw [add_block];exact Nat.ne_of_lt (Nat.lt_of_lt_of_le (by have:=World.block_lt_of_cell? _ _ hw130_0;first|rwa [add_block] at this|exact this) GW134.out))|(dsimp only;exact Nat.ne_of_lt (Nat.lt_of_lt_of_le (by have:=World.block_lt_of_cell? _ _ hw130_0;first|rwa [add_block] at this|exact this) GW134.out))) _).trans (((cell_far (p:=⟨gb134,_,none⟩) (by first|exact Nat.ne_of_lt (Nat.lt_of_lt_of_le (by have:=World.block_lt_of_cell? _ _ hw130_0;first|rwa [add_block] at this|exact this) GW134.out)|(rw [add_block];exact Nat.ne_of_lt (Nat.lt_of_lt_of_le (by have:=World.block_lt_of_cell? _ _ hw130_0;first|rwa [add_block] at this|exact this) GW134.out))|(show (Addr.add _ _).block ≠ _;rw [add_block];exact Nat.ne_of_lt (Nat.lt_of_lt_of_le (by have:=World.block_lt_of_cell? _ _ hw130_0;first|rwa [add_block] at this|exact this) GW134.out))|(dsimp only;exact Nat.ne_of_lt (Nat.lt_of_lt_of_le (by have:=World.block_lt_of_cell? _ _ hw130_0;first|rwa [add_block] at this|exact this) GW134.out))) _).trans (((cell_far (p:=⟨gb134,_,none⟩) (by first|exact Nat.ne_of_lt (Nat.lt_of_lt_of_le (by have:=World.block_lt_of_cell? _ _ hw130_0;first|rwa [add_block] at this|exact this) GW134.out)|(rw [add_block];exact Nat.ne_of_lt (Nat.lt_of_lt_of_le (by have:=World.block_lt_of_cell? _ _ hw130_0;first|rwa [add_block] at this|exact this) GW134.out))|(show (Addr.add _ _).block ≠ _;rw [add_block];exact Nat.ne_of_lt (Nat.lt_of_lt_of_le (by have:=World.block_lt_of_cell? _ _ hw130_0;first|rwa [add_block] at this|exact this) GW134.out))|(dsimp only;exact Nat.ne_of_lt (Nat.lt_of_lt_of_le (by have:=World.block_lt_of_cell? _ _ hw130_0;first|rwa [add_block] at this|exact this) GW134.out))) _).trans (hHeld.2.2.2.1)))))))),((cell_far (p:=⟨gb134,_,none⟩) (by first|exact Nat.ne_of_lt (Nat.lt_of_lt_of_le (by have:=World.block_lt_of_cell? _ _ hw131_0;first|rwa [add_block] at this|exact this) GW134.out)|(rw [add_block];exact Nat.ne_of_lt (Nat.lt_of_lt_of_le (by have:=World.block_lt_of_cell? _ _ hw131_0;first|rwa [add_block] at this|exact this) GW134.out))|(show (Addr.add _ _).block ≠ _;rw [add_block];exact Nat.ne_of_lt (Nat.lt_of_lt_of_le (by have:=World.block_lt_of_cell? _ _ hw131_0;first|rwa [add_block] at this|exact this) GW134.out))|(dsimp only;exact Nat.ne_of_lt (Nat.lt_of_lt_of_le (by have:=World.block_lt_of_cell? _ _ hw131_0;first|rwa [add_block] at this|exact this) GW134.out))) _).trans (((cell_far (p:=⟨gb134,_,none⟩) (by first|exact Nat.ne_of_lt (Nat.lt_of_lt_of_le (by have:=World.block_lt_of_cell? _ _ hw131_0;first|rwa [add_block] at this|exact this) GW134.out)|(rw [add_block];exact Nat.ne_of_lt (Nat.lt_of_lt_of_le (by have:=World.block_lt_of_cell? _ _ hw131_0;first|rwa [add_block] at this|exact this) GW134.out))|(show (Addr.add _ _).block ≠ _;rw [add_block];exact Nat.ne_of_lt (Nat.lt_of_lt_of_le (by have:=World.block_lt_of_cell? _ _ hw131_0;first|rwa [add_block] at this|exact this) GW134.out))|(dsimp only;exact Nat.ne_of_lt (Nat.lt_of_lt_of_le (by have:=World.block_lt_of_cell? _ _ hw131_0;first|rwa [add_block] at this|exact this) GW134.out))) _).trans (((cell_far (p:=⟨gb134,_,none⟩) (by first|exact Nat.ne_of_lt (Nat.lt_of_lt_of_le (by have:=World.block_lt_of_cell? _ _ hw131_0;first|rwa [add_block] at this|exact this) GW134.out)|(rw [add_block];exact Nat.ne_of_lt (Nat.lt_of_lt_of_le (by have:=World.block_lt_of_cell? _ _ hw131_0;first|rwa [add_block] at this|exact this) GW134.out))|(show (Addr.add _ _).block ≠ _;rw [add_block];exact Nat.ne_of_lt (Nat.lt_of_lt_of_le (by have:=World.block_lt_of_cell? _ _ hw131_0;first|rwa [add_block] at this|exact this) GW134.out))|(dsimp only;exact Nat.ne_of_lt (Nat.lt_of_lt_of_le (by have:=World.block_lt_of_cell? _ _ hw131_0;first|rwa [add_block] at this|exact this) GW134.out))) _).trans (((cell_far (p:=⟨gb134,_,none⟩) (by first|exact Nat.ne_of_lt (Nat.lt_of_lt_of_le (by have:=World.block_lt_of_cell? _ _ hw131_0;first|rwa [add_block] at this|exact this) GW134.out)|(rw [add_block];exact Nat.ne_of_lt (Nat.lt_of_lt_of_le (by have:=World.block_lt_of_cell? _ _ hw131_0;first|rwa [add_block] at this|exact this) GW134.out))|(show (Addr.add _ _).block ≠ _;rw [add_block];exact Nat.ne_of_lt (Nat.lt_of_lt_of_le (by have:=World.block_lt_of_cell? _ _ hw131_0;first|rwa [add_block] at this|exact this) GW134.out))|(dsimp only;exact Nat.ne_of_lt (Nat.lt_of_lt_of_le (by have:=World.block_lt_of_cell? _ _ hw131_0;first|rwa [add_block] at this|exact this) GW134.out))) _).trans (hHeld.2.2.2.2.1)))))))),((cell_far (p:=⟨gb134,_,none⟩) (by first|exact Nat.ne_of_lt (Nat.lt_of_lt_of_le (by have:=World.block_lt_of_cell? _ _ hw132_0;first|rwa [add_block] at this|exact this) GW134.out)|(rw [add_block];exact Nat.ne_of_lt (Nat.lt_of_lt_of_le (by have:=World.block_lt_of_cell? _ _ hw132_0;first|rwa [add_block] at this|exact this) GW134.out))|(show (Addr.add _ _).block ≠ _;rw [add_block];exact Nat.ne_of_lt (Nat.lt_of_lt_of_le (by have:=World.block_lt_of_cell? _ _ hw132_0;first|rwa [add_block] at this|exact this) GW134.out))|(dsimp only;exact Nat.ne_of_lt (Nat.lt_of_lt_of_le (by have:=World.block_lt_of_cell? _ _ hw132_0;first|rwa [add_block] at this|exact this) GW134.out))) _).trans (((cell_far (p:=⟨gb134,_,none⟩) (by first|exact Nat.ne_of_lt (Nat.lt_of_lt_of_le (by have:=World.block_lt_of_cell? _ _ hw132_0;first|rwa [add_block] at this|exact this) GW134.out)|(rw [add_block];exact Nat.ne_of_lt (Nat.lt_of_lt_of_le (by have:=World.block_lt_of_cell? _ _ hw132_0;first|rwa [add_block] at this|exact this) GW134.out))|(show (Addr.add _ _).block ≠ _;rw [add_block];exact Nat.ne_of_lt (Nat.lt_of_lt_of_le (by have:=World.block_lt_of_cell? _ _ hw132_0;first|rwa [add_block] at this|exact this) GW134.out))|(dsimp only;exact Nat.ne_of_lt (Nat.lt_of_lt_of_le (by have:=World.block_lt_of_cell? _ _ hw132_0;first|rwa [add_block] at this|exact this) GW134.out))) _).trans (((cell_far (p:=⟨gb134,_,none⟩) (by first|exact Nat.ne_of_lt (Nat.lt_of_lt_of_le (by have:=World.block_lt_of_cell? _ _ hw132_0;first|rwa [add_block] at this|exact this) GW134.out)|(rw [add_block];exact Nat.ne_of_lt (Nat.lt_of_lt_of_le (by have:=World.block_lt_of_cell? _ _ hw132_0;first|rwa [add_block] at this|exact this) GW134.out))|(show (Addr.add _ _).block ≠ _;rw [add_block];exact Nat.ne_of_lt (Nat.lt_of_lt_of_le (by have:=World.block_lt_of_cell? _ _ hw132_0;first|rwa [add_block] at this|exact this) GW134.out))|(dsimp only;exact Nat.ne_of_lt (Nat.lt_of_lt_of_le (by have:=World.block_lt_of_cell? _ _ hw132_0;first|rwa [add_block] at this|exact this) GW134.out))) _).trans (((cell_far (p:=⟨gb134,_,none⟩) (by first|exact Nat.ne_of_lt (Nat.lt_of_lt_of_le (by have:=World.block_lt_of_cell? _ _ hw132_0;first|rwa [add_block] at this|exact this) GW134.out)|(rw [add_block];exact Nat.ne_of_lt (Nat.lt_of_lt_of_le (by have:=World.block_lt_of_cell? _ _ hw132_0;first|rwa [add_block] at this|exact this) GW134.out))|(show (Addr.add _ _).block ≠ _;rw [add_block];exact Nat.ne_of_lt (Nat.lt_of_lt_of_le (by have:=World.block_lt_of_cell? _ _ hw132_0;first|rwa [add_block] at this|exact this) GW134.out))|(dsimp only;exact Nat.ne_of_lt (Nat.lt_of_lt_of_le (by have:=World.block_lt_of_cell? _ _ hw132_0;first|rwa [add_block] at this|exact this) GW134.out))) _).trans (hHeld.2.2.2.2.2.1)))))))),((cell_far (p:=⟨gb134,_,none⟩) (by first|exact Nat.ne_of_lt (Nat.lt_of_lt_of_le (by have:=World.block_lt_of_cell? _ _ hw133_0;first|rwa [add_block] at this|exact this) GW134.out)|(rw [add_block];exact Nat.ne_of_lt (Nat.lt_of_lt_of_le (by have:=World.block_lt_of_cell? _ _ hw133_0;first|rwa [add_block] at this|exact this) GW134.out))|(show (Addr.add _ _).block ≠ _;rw [add_block];exact Nat.ne_of_lt (Nat.lt_of_lt_of_le (by have:=World.block_lt_of_cell? _ _ hw133_0;first|rwa [add_block] at this|exact this) GW134.out))|(dsimp only;exact Nat.ne_of_lt (Nat.lt_of_lt_of_le (by have:=World.block_lt_of_cell? _ _ hw133_0;first|rwa [add_block] at this|exact this) GW134.out))) _).trans (((cell_far (p:=⟨gb134,_,none⟩) (by first|exact Nat.ne_of_lt (Nat.lt_of_lt_of_le (by have:=World.block_lt_of_cell? _ _ hw133_0;first|rwa [add_block] at this|exact this) GW134.out)|(rw [add_block];exact Nat.ne_of_lt (Nat.lt_of_lt_of_le (by have:=World.block_lt_of_cell? _ _ hw133_0;first|rwa [add_block] at this|exact this) GW134.out))|(show (Addr.add _ _).block ≠ _;rw [add_block];exact Nat.ne_of_lt (Nat.lt_of_lt_of_le (by have:=World.block_lt_of_cell? _ _ hw133_0;first|rwa [add_block] at this|exact this) GW134.out))|(dsimp only;exact Nat.ne_of_lt (Nat.lt_of_lt_of_le (by have:=World.block_lt_of_cell? _ _ hw133_0;first|rwa [add_block] at this|exact this) GW134.out))) _).trans (((cell_far (p:=⟨gb134,_,none⟩) (by first|exact Nat.ne_of_lt (Nat.lt_of_lt_of_le (by have:=World.block_lt_of_cell? _ _ hw133_0;first|rwa [add_block] at this|exact this) GW134.out)|(rw [add_block];exact Nat.ne_of_lt (Nat.lt_of_lt_of_le (by have:=World.block_lt_of_cell? _ _ hw133_0;first|rwa [add_block] at this|exact this) GW134.out))|(show (Addr.add _ _).block ≠ _;rw [add_block];exact Nat.ne_of_lt (Nat.lt_of_lt_of_le (by have:=World.block_lt_of_cell? _ _ hw133_0;first|rwa [add_block] at this|exact this) GW134.out))|(dsimp only;exact Nat.ne_of_lt (Nat.lt_of_lt_of_le (by have:=World.block_lt_of_cell? _ _ hw133_0;first|rwa [add_block] at this|exact this) GW134.out))) _).trans (((cell_far (p:=⟨gb134,_,none⟩) (by first|exact Nat.ne_of_lt (Nat.lt_of_lt_of_le (by have:=World.block_lt_of_cell? _ _ hw133_0;first|rwa [add_block] at this|exact this) GW134.out)|(rw [add_block];exact Nat.ne_of_lt (Nat.lt_of_lt_of_le (by have:=World.block_lt_of_cell? _ _ hw133_0;first|rwa [add_block] at this|exact this) GW134.out))|(show (Addr.add _ _).block ≠ _;rw [add_block];exact Nat.ne_of_lt (Nat.lt_of_lt_of_le (by have:=World.block_lt_of_cell? _ _ hw133_0;first|rwa [add_block] at this|exact this) GW134.out))|(dsimp only;exact Nat.ne_of_lt (Nat.lt_of_lt_of_le (by have:=World.block_lt_of_cell? _ _ hw133_0;first|rwa [add_block] at this|exact this) GW134.out))) _).trans (hHeld.2.2.2.2.2.2))))))))⟩ (fun hHeld => ?_)
   clear hK K
   refine done_ (done_of HT_.out (by kernel_rfl)) ?_
   have hnb42:=NB134_126.out
   have hnc42:=NB126_134.out
   have hnb43:=NB134_127.out
   have hnc43:=NB127_134.out
   have hnb44:=NB134_129.out
   have hnc44:=NB129_134.out
   obtain ⟨_,_,_,_,_,_,_,_⟩:=cells4 BK134.out
   try go_wp2
   go_loopg [12,89] k1 (fun kq v12 v89 w' => ∃ (x12_2 : Int) (x89_2 : Int),v12 = .int .i64 x12_2 ∧ v89 = .int .i64 x89_2 ∧ Aside0 (water_groundOf.l1 kq ji31 x12_2 (wrap64 (a0_0 * a0_1)) x31_1 (⟨rd l0_2 (ji17),rd l0_2 (ji20),rd l0_2 (ji23),rd l0_2 (ji26)⟩ : S71) x89_2 a0_0 a0_1 l0_2 a0_0 a0_1 x130002_1 x130003_1 x130004_1 (rd l0_2 (ji17)) (rd l0_2 (ji20)) (rd l0_2 (ji23)) (rd l0_2 (ji26)) = some (r1,r2,r3,r4,r5,r6)) ∧ Aside0 (kq ≤ k1) ∧ Aside0 (Kd.R (Kd.int .i64) 3 w' w.heap.size (fun k_ => some k_ ≠ (u130003 : Value).ownBlock) u130002 x130002_1) ∧ Aside0 (Kd.R (Kd.int .i64) 3 w' w.heap.size (fun k_ => some k_ ≠ (u130002 : Value).ownBlock) u130003 x130003_1) ∧ Aside0 (Kd.R Kd.bool 4 w' w.heap.size (fun _ => True) u130004 x130004_1) ∧ Aside0 (w'.heap[gb126]? = some (.cells #[.int .i64 a0_0,.int .i64 a0_1,(.slice (some ad130) l0_2.length c0_2)] 24 (0,0))) ∧ Aside0 (w'.heap[gb127]? = some (.cells #[.int .i64 0,.int .i64 0,(.slice none 0 0),(.slice none 0 0),(.slice none 0 0)] 52 (0,0))) ∧ Aside0 (w'.heap[gb129]? = some (.cells #[.int .i64 a0_0,.int .i64 a0_1,u130002,u130003,u130004] 52 (0,0))) ∧ Aside0 (w'.heap[gb134]? = some (.cells #[.int .i64 (rd l0_2 (ji17)),.int .i64 (rd l0_2 (ji20)),.int .i64 (rd l0_2 (ji23)),.int .i64 (rd l0_2 (ji26))] 71 (0,0))) ∧ Aside0 (Below w.heap.size w w'))
   case atStart => exact ⟨(0),(0),(by first|rfl|(simp;done)|(simp [*];done)),(by first|rfl|(simp;done)|(simp [*];done)),H',⟨Nat.le_refl _⟩,⟨by (with_reducible repeat (first|apply Kd.R_alloc|apply Kd.R_drewN|apply Kd.R_drew));exact Kd.R_mono (Kd.R_fars gb134 (Kd.R_types HO_130002.out BK134.out (by decide)) (fun _ hk => hk.2)) (fun _ hk => hk.1)⟩,⟨by (with_reducible repeat (first|apply Kd.R_alloc|apply Kd.R_drewN|apply Kd.R_drew));exact Kd.R_mono (Kd.R_fars gb134 (Kd.R_types HO_130003.out BK134.out (by decide)) (fun _ hk => hk.2)) (fun _ hk => hk.1)⟩,⟨by (with_reducible repeat (first|apply Kd.R_alloc|apply Kd.R_drewN|apply Kd.R_drew));exact Kd.R_mono (Kd.R_fars gb134 (Kd.R_types HO_130004.out BK134.out (by decide)) (fun _ hk => hk.2)) (fun _ hk => trivial)⟩,⟨by (with_reducible repeat (first|refine blk_drewN ?_ _|refine blk_drew ?_|refine blk_alloc ?_ _));refine blk_far ?_ NB126_134.out _;(with_reducible repeat (first|refine blk_drewN ?_ _|refine blk_drew ?_|refine blk_alloc ?_ _));refine blk_far ?_ NB126_134.out _;(with_reducible repeat (first|refine blk_drewN ?_ _|refine blk_drew ?_|refine blk_alloc ?_ _));refine blk_far ?_ NB126_134.out _;(with_reducible repeat (first|refine blk_drewN ?_ _|refine blk_drew ?_|refine blk_alloc ?_ _));refine blk_far ?_ NB126_134.out _;(with_reducible repeat (first|refine blk_drewN ?_ _|refine blk_drew ?_|refine blk_alloc ?_ _));exact BK126.out⟩,⟨by (with_reducible repeat (first|refine blk_drewN ?_ _|refine blk_drew ?_|refine blk_alloc ?_ _));refine blk_far ?_ NB127_134.out _;(with_reducible repeat (first|refine blk_drewN ?_ _|refine blk_drew ?_|refine blk_alloc ?_ _));refine blk_far ?_ NB127_134.out _;(with_reducible repeat (first|refine blk_drewN ?_ _|refine blk_drew ?_|refine blk_alloc ?_ _));refine blk_far ?_ NB127_134.out _;(with_reducible repeat (first|refine blk_drewN ?_ _|refine blk_drew ?_|refine blk_alloc ?_ _));refine blk_far ?_ NB127_134.out _;(with_reducible repeat (first|refine blk_drewN ?_ _|refine blk_drew ?_|refine blk_alloc ?_ _));exact BK127.out⟩,⟨by (with_reducible repeat (first|refine blk_drewN ?_ _|refine blk_drew ?_|refine blk_alloc ?_ _));refine blk_far ?_ NB129_134.out _;(with_reducible repeat (first|refine blk_drewN ?_ _|refine blk_drew ?_|refine blk_alloc ?_ _));refine blk_far ?_ NB129_134.out _;(with_reducible repeat (first|refine blk_drewN ?_ _|refine blk_drew ?_|refine blk_alloc ?_ _));refine blk_far ?_ NB129_134.out _;(with_reducible repeat (first|refine blk_drewN ?_ _|refine blk_drew ?_|refine blk_alloc ?_ _));refine blk_far ?_ NB129_134.out _;(with_reducible repeat (first|refine blk_drewN ?_ _|refine blk_drew ?_|refine blk_alloc ?_ _));exact BK129.out⟩,⟨by (with_reducible repeat (first|refine blk_drewN ?_ _|refine blk_drew ?_|refine blk_alloc ?_ _));exact blk_puts4 (blk_up BK134.out)⟩,⟨hb_⟩⟩
   case round =>
    clear H'
    obtain ⟨x12_2,x89_2,rfl,rfl,HA,HK2,HO_130002,HO_130003,HO_130004,BK126,BK127,BK129,BK134,HB⟩:=hrel
    cases gk with
    | zero => exact absurd HA.out (by simp [water_groundOf.l1])
    | succ k2 =>
     have H:=HA.out
     clear HA
     simp only [water_groundOf.l1] at H
     by_cases c46 : x89_2 < 4
     ·rw [if_pos c46] at H
      have c46b0 : decide (x89_2 < 4) = true:=decide_eq_true c46
      clear c46
      replace H:=ifp_ H;obtain ⟨c47,H⟩:=H
      have c47b0 : decide (0 ≤ x89_2) = true:=decide_eq_true c47
      clear c47
      have hix48:=fun (W_ : World) => (ix71_run (rd l0_2 (ji17)) (rd l0_2 (ji20)) (rd l0_2 (ji23)) (rd l0_2 (ji26)) x89_2 (of_decide_eq_true (by first|(with_reducible assumption)|assumption)) (of_decide_eq_true (by first|(with_reducible assumption)|assumption)) W_ : (Instr.index 71 (.agg #[.int .i64 (rd l0_2 (ji17)),.int .i64 (rd l0_2 (ji20)),.int .i64 (rd l0_2 (ji23)),.int .i64 (rd l0_2 (ji26))]) (.int .i64 x89_2)).run Try.prog W_ = .ok (.int .i64 (ix71 (⟨rd l0_2 (ji17),rd l0_2 (ji20),rd l0_2 (ji23),rd l0_2 (ji26)⟩ : S71) x89_2)) W_)
      by_cases c49 : (ix71 (⟨rd l0_2 (ji17),rd l0_2 (ji20),rd l0_2 (ji23),rd l0_2 (ji26)⟩ : S71) x89_2) > ji31
      ·rw [if_pos c49] at H
       have c49b0 : decide (ji31 < (ix71 (⟨rd l0_2 (ji17),rd l0_2 (ji20),rd l0_2 (ji23),rd l0_2 (ji26)⟩ : S71) x89_2)) = true:=decide_eq_true c49
       clear c49
       have c50b0:=eq_true (of_decide_eq_true (by first|(with_reducible assumption)|assumption) : 0 ≤ x89_2)
       obtain ⟨ji51,hji51⟩ : ∃ j_ : Int,(shl .i64 1 x89_2) = j_:=⟨_,rfl⟩
       replace H : (if (ix71 (⟨rd l0_2 (ji17),rd l0_2 (ji20),rd l0_2 (ji23),rd l0_2 (ji26)⟩ : S71) x89_2) > (wrap64 (ji31 + 1)) then (water_groundOf.l1 k2 ji31 (Go.bits .or .i64 (Go.bits .or .i64 x12_2 (ji51)) 16) (wrap64 (a0_0 * a0_1)) x31_1 (⟨rd l0_2 (ji17),rd l0_2 (ji20),rd l0_2 (ji23),rd l0_2 (ji26)⟩ : S71) (wrap64 (x89_2 + 1)) a0_0 a0_1 l0_2 a0_0 a0_1 x130002_1 x130003_1 x130004_1 (rd l0_2 (ji17)) (rd l0_2 (ji20)) (rd l0_2 (ji23)) (rd l0_2 (ji26))) else (water_groundOf.l1 k2 ji31 (Go.bits .or .i64 x12_2 (ji51)) (wrap64 (a0_0 * a0_1)) x31_1 (⟨rd l0_2 (ji17),rd l0_2 (ji20),rd l0_2 (ji23),rd l0_2 (ji26)⟩ : S71) (wrap64 (x89_2 + 1)) a0_0 a0_1 l0_2 a0_0 a0_1 x130002_1 x130003_1 x130004_1 (rd l0_2 (ji17)) (rd l0_2 (ji20)) (rd l0_2 (ji23)) (rd l0_2 (ji26)))) = some (r1,r2,r3,r4,r5,r6):=by first|(rw [hji51] at H;exact H)|(simp only [hji51] at H ⊢;exact H)
       have hji51_ : (IntKind.i64.wrap (1 * 2 ^ min x89_2.toNat 64)) = ji51:=hji51
       have hji51z : x89_2 ≤ 64 → (IntKind.i64.wrap (1 * 2 ^ x89_2.toNat)) = ji51:=shl_small hji51
       have hji51u : (IntKind.i64.wrap (2 ^ min x89_2.toNat 64)) = ji51:=by have h_:=hji51_;rw [Int.one_mul] at h_;exact h_
       have hji51v : x89_2 ≤ 64 → (IntKind.i64.wrap (2 ^ x89_2.toNat)) = ji51:=fun hle_ => by have h_:=hji51z hle_;rw [Int.one_mul] at h_;exact h_
       have hji51y : (wrap64 (1 * 2 ^ min x89_2.toNat 64)) = ji51:=(i64_w _).symm.trans hji51_
       have hji51x : x89_2 ≤ 64 → (wrap64 (1 * 2 ^ x89_2.toNat)) = ji51:=fun h_ => (i64_w _).symm.trans (hji51z h_)
       by_cases c52 : (ix71 (⟨rd l0_2 (ji17),rd l0_2 (ji20),rd l0_2 (ji23),rd l0_2 (ji26)⟩ : S71) x89_2) > (wrap64 (ji31 + 1))
       ·rw [if_pos c52] at H
        have c52b0 : decide ((wrap64 (ji31 + 1)) < (ix71 (⟨rd l0_2 (ji17),rd l0_2 (ji20),rd l0_2 (ji23),rd l0_2 (ji26)⟩ : S71) x89_2)) = true:=decide_eq_true c52
        clear c52
        have H':=Aside0.mk H
        clear H
        go_wp2
        go_roundg k2
        case measure => have:=HK1.out;have:=HK2.out;omega
        case rel => exact ⟨(Go.bits .or .i64 (Go.bits .or .i64 x12_2 (ji51)) 16),(wrap64 (x89_2 + 1)),(by first|rfl|(simp;done)|(simp only [← hji51] <;> (first|rfl|simp))|(simp [*];done)),(by first|rfl|(simp;done)|(simp [*];done)),H',⟨by have:=HK1.out;have:=HK2.out;omega⟩,⟨Kd.R_up HO_130002.out⟩,⟨Kd.R_up HO_130003.out⟩,⟨Kd.R_up HO_130004.out⟩,⟨blk_up BK126.out⟩,⟨blk_up BK127.out⟩,⟨blk_up BK129.out⟩,⟨blk_up BK134.out⟩,⟨hb_⟩⟩
       ·rw [if_neg c52] at H
        have c52b0 : decide ((wrap64 (ji31 + 1)) < (ix71 (⟨rd l0_2 (ji17),rd l0_2 (ji20),rd l0_2 (ji23),rd l0_2 (ji26)⟩ : S71) x89_2)) = false:=decide_eq_false c52
        clear c52
        have H':=Aside0.mk H
        clear H
        go_wp2
        go_roundg k2
        case measure => have:=HK1.out;have:=HK2.out;omega
        case rel => exact ⟨(Go.bits .or .i64 x12_2 (ji51)),(wrap64 (x89_2 + 1)),(by first|rfl|(simp;done)|(simp only [← hji51] <;> (first|rfl|simp))|(simp [*];done)),(by first|rfl|(simp;done)|(simp [*];done)),H',⟨by have:=HK1.out;have:=HK2.out;omega⟩,⟨Kd.R_up HO_130002.out⟩,⟨Kd.R_up HO_130003.out⟩,⟨Kd.R_up HO_130004.out⟩,⟨blk_up BK126.out⟩,⟨blk_up BK127.out⟩,⟨blk_up BK129.out⟩,⟨blk_up BK134.out⟩,⟨hb_⟩⟩
      ·rw [if_neg c49] at H
       have c49b0 : decide (ji31 < (ix71 (⟨rd l0_2 (ji17),rd l0_2 (ji20),rd l0_2 (ji23),rd l0_2 (ji26)⟩ : S71) x89_2)) = false:=decide_eq_false c49
       clear c49
       by_cases c53 : (ix71 (⟨rd l0_2 (ji17),rd l0_2 (ji20),rd l0_2 (ji23),rd l0_2 (ji26)⟩ : S71) x89_2) > (wrap64 (ji31 + 1))
       ·rw [if_pos c53] at H
        have c53b0 : decide ((wrap64 (ji31 + 1)) < (ix71 (⟨rd l0_2 (ji17),rd l0_2 (ji20),rd l0_2 (ji23),rd l0_2 (ji26)⟩ : S71) x89_2)) = true:=decide_eq_true c53
        clear c53
        have H':=Aside0.mk H
        clear H
        go_wp2
        go_roundg k2
        case measure => have:=HK1.out;have:=HK2.out;omega
        case rel => exact ⟨(Go.bits .or .i64 x12_2 16),(wrap64 (x89_2 + 1)),(by first|rfl|(simp;done)|(simp [*];done)),(by first|rfl|(simp;done)|(simp [*];done)),H',⟨by have:=HK1.out;have:=HK2.out;omega⟩,⟨Kd.R_up HO_130002.out⟩,⟨Kd.R_up HO_130003.out⟩,⟨Kd.R_up HO_130004.out⟩,⟨blk_up BK126.out⟩,⟨blk_up BK127.out⟩,⟨blk_up BK129.out⟩,⟨blk_up BK134.out⟩,⟨hb_⟩⟩
       ·rw [if_neg c53] at H
        have c53b0 : decide ((wrap64 (ji31 + 1)) < (ix71 (⟨rd l0_2 (ji17),rd l0_2 (ji20),rd l0_2 (ji23),rd l0_2 (ji26)⟩ : S71) x89_2)) = false:=decide_eq_false c53
        clear c53
        have H':=Aside0.mk H
        clear H
        go_wp2
        go_roundg k2
        case measure => have:=HK1.out;have:=HK2.out;omega
        case rel => exact ⟨(x12_2),(wrap64 (x89_2 + 1)),(by first|rfl|(simp;done)|(simp [*];done)),(by first|rfl|(simp;done)|(simp [*];done)),H',⟨by have:=HK1.out;have:=HK2.out;omega⟩,⟨Kd.R_up HO_130002.out⟩,⟨Kd.R_up HO_130003.out⟩,⟨Kd.R_up HO_130004.out⟩,⟨blk_up BK126.out⟩,⟨blk_up BK127.out⟩,⟨blk_up BK129.out⟩,⟨blk_up BK134.out⟩,⟨hb_⟩⟩
     rw [if_neg c46] at H
     have c46b0 : decide (x89_2 < 4) = false:=decide_eq_false c46
     clear c46
     obtain ⟨y135,hy135⟩ : ∃ y_ : List Int,y_ = (([x12_2] : List Int)):=⟨_,rfl⟩
     replace H : (if x130002_1.length + y135.length < 17592186044416 then ((some (([ji31] : List Int) : List Int)).bind fun y141 => (if x130003_1.length + y141.length < 17592186044416 then ((some (([decide ((mx (mx (mx (rd l0_2 (ji17)) (rd l0_2 (ji20))) (rd l0_2 (ji23))) (rd l0_2 (ji26))) ≤ 2)] : List Bool) : List Bool)).bind fun y147 => (if x130004_1.length + y147.length < 140737488355328 then (water_groundOf.l0 k2 (wrap64 (a0_0 * a0_1)) (wrap64 (x31_1 + 1)) a0_0 a0_1 l0_2 a0_0 a0_1 (x130002_1 ++ y135) (x130003_1 ++ y141) (x130004_1 ++ y147)) else (none))) else (none))) else (none)) = some (r1,r2,r3,r4,r5,r6):=by first|(rw [hy135];with_reducible exact H)|(have H2_:=(Option.bind_some _ _).symm.trans H;rw [hy135];with_reducible exact H2_)|(have H2_:=(Option.bind_some _ _).symm.trans H;with_reducible exact H2_)|with_reducible exact H|(rw [hy135];exact H)|exact H
     have Ny135:=Aside0.mk hy135
     clear hy135
     replace H:=ifp_ H;obtain ⟨c54,H⟩:=H
     have LMc54:=Aside0.mk c54
     clear c54
     obtain ⟨y138,hy138⟩ : ∃ y_ : List Int,y_ = (x130002_1 ++ y135):=⟨_,rfl⟩
     replace H : ((some (([ji31] : List Int) : List Int)).bind fun y141 => (if x130003_1.length + y141.length < 17592186044416 then ((some (([decide ((mx (mx (mx (rd l0_2 (ji17)) (rd l0_2 (ji20))) (rd l0_2 (ji23))) (rd l0_2 (ji26))) ≤ 2)] : List Bool) : List Bool)).bind fun y147 => (if x130004_1.length + y147.length < 140737488355328 then (water_groundOf.l0 k2 (wrap64 (a0_0 * a0_1)) (wrap64 (x31_1 + 1)) a0_0 a0_1 l0_2 a0_0 a0_1 y138 (x130003_1 ++ y141) (x130004_1 ++ y147)) else (none))) else (none))) = some (r1,r2,r3,r4,r5,r6):=by first|(rw [hy138];with_reducible exact H)|(have H2_:=(Option.bind_some _ _).symm.trans H;rw [hy138];with_reducible exact H2_)|(have H2_:=(Option.bind_some _ _).symm.trans H;with_reducible exact H2_)|with_reducible exact H|(rw [hy138];exact H)|exact H
     have Ny138:=Aside0.mk hy138
     clear hy138
     obtain ⟨y141,hy141⟩ : ∃ y_ : List Int,y_ = (([ji31] : List Int)):=⟨_,rfl⟩
     replace H : (if x130003_1.length + y141.length < 17592186044416 then ((some (([decide ((mx (mx (mx (rd l0_2 (ji17)) (rd l0_2 (ji20))) (rd l0_2 (ji23))) (rd l0_2 (ji26))) ≤ 2)] : List Bool) : List Bool)).bind fun y147 => (if x130004_1.length + y147.length < 140737488355328 then (water_groundOf.l0 k2 (wrap64 (a0_0 * a0_1)) (wrap64 (x31_1 + 1)) a0_0 a0_1 l0_2 a0_0 a0_1 y138 (x130003_1 ++ y141) (x130004_1 ++ y147)) else (none))) else (none)) = some (r1,r2,r3,r4,r5,r6):=by first|(rw [hy141];with_reducible exact H)|(have H2_:=(Option.bind_some _ _).symm.trans H;rw [hy141];with_reducible exact H2_)|(have H2_:=(Option.bind_some _ _).symm.trans H;with_reducible exact H2_)|with_reducible exact H|(rw [hy141];exact H)|exact H
     have Ny141:=Aside0.mk hy141
     clear hy141
     replace H:=ifp_ H;obtain ⟨c55,H⟩:=H
     have LMc55:=Aside0.mk c55
     clear c55
     obtain ⟨y144,hy144⟩ : ∃ y_ : List Int,y_ = (x130003_1 ++ y141):=⟨_,rfl⟩
     replace H : ((some (([decide ((mx (mx (mx (rd l0_2 (ji17)) (rd l0_2 (ji20))) (rd l0_2 (ji23))) (rd l0_2 (ji26))) ≤ 2)] : List Bool) : List Bool)).bind fun y147 => (if x130004_1.length + y147.length < 140737488355328 then (water_groundOf.l0 k2 (wrap64 (a0_0 * a0_1)) (wrap64 (x31_1 + 1)) a0_0 a0_1 l0_2 a0_0 a0_1 y138 y144 (x130004_1 ++ y147)) else (none))) = some (r1,r2,r3,r4,r5,r6):=by first|(rw [hy144];with_reducible exact H)|(have H2_:=(Option.bind_some _ _).symm.trans H;rw [hy144];with_reducible exact H2_)|(have H2_:=(Option.bind_some _ _).symm.trans H;with_reducible exact H2_)|with_reducible exact H|(rw [hy144];exact H)|exact H
     have Ny144:=Aside0.mk hy144
     clear hy144
     obtain ⟨ji56,hji56⟩ : ∃ j_ : Int,(mx (rd l0_2 (ji17)) (rd l0_2 (ji20))) = j_:=⟨_,rfl⟩
     replace H : ((some (([decide ((mx (mx (ji56) (rd l0_2 (ji23))) (rd l0_2 (ji26))) ≤ 2)] : List Bool) : List Bool)).bind fun y147 => (if x130004_1.length + y147.length < 140737488355328 then (water_groundOf.l0 k2 (wrap64 (a0_0 * a0_1)) (wrap64 (x31_1 + 1)) a0_0 a0_1 l0_2 a0_0 a0_1 y138 y144 (x130004_1 ++ y147)) else (none))) = some (r1,r2,r3,r4,r5,r6):=by first|(rw [hji56] at H;exact H)|(simp only [hji56] at H ⊢;exact H)
     have hji56_ : (if (rd l0_2 (ji17)) < (rd l0_2 (ji20)) then (rd l0_2 (ji20)) else (rd l0_2 (ji17))) = ji56:=hji56
     obtain ⟨ji57,hji57⟩ : ∃ j_ : Int,(mx (ji56) (rd l0_2 (ji23))) = j_:=⟨_,rfl⟩
     replace H : ((some (([decide ((mx (ji57) (rd l0_2 (ji26))) ≤ 2)] : List Bool) : List Bool)).bind fun y147 => (if x130004_1.length + y147.length < 140737488355328 then (water_groundOf.l0 k2 (wrap64 (a0_0 * a0_1)) (wrap64 (x31_1 + 1)) a0_0 a0_1 l0_2 a0_0 a0_1 y138 y144 (x130004_1 ++ y147)) else (none))) = some (r1,r2,r3,r4,r5,r6):=by first|(rw [hji57] at H;exact H)|(simp only [hji57] at H ⊢;exact H)
     have hji57_ : (if (ji56) < (rd l0_2 (ji23)) then (rd l0_2 (ji23)) else (ji56)) = ji57:=hji57
     obtain ⟨ji58,hji58⟩ : ∃ j_ : Int,(mx (ji57) (rd l0_2 (ji26))) = j_:=⟨_,rfl⟩
     replace H : ((some (([decide ((ji58) ≤ 2)] : List Bool) : List Bool)).bind fun y147 => (if x130004_1.length + y147.length < 140737488355328 then (water_groundOf.l0 k2 (wrap64 (a0_0 * a0_1)) (wrap64 (x31_1 + 1)) a0_0 a0_1 l0_2 a0_0 a0_1 y138 y144 (x130004_1 ++ y147)) else (none))) = some (r1,r2,r3,r4,r5,r6):=by first|(rw [hji58] at H;exact H)|(simp only [hji58] at H ⊢;exact H)
     have hji58_ : (if (ji57) < (rd l0_2 (ji26)) then (rd l0_2 (ji26)) else (ji57)) = ji58:=hji58
     obtain ⟨y147,hy147⟩ : ∃ y_ : List Bool,y_ = (([decide ((ji58) ≤ 2)] : List Bool)):=⟨_,rfl⟩
     replace H : (if x130004_1.length + y147.length < 140737488355328 then (water_groundOf.l0 k2 (wrap64 (a0_0 * a0_1)) (wrap64 (x31_1 + 1)) a0_0 a0_1 l0_2 a0_0 a0_1 y138 y144 (x130004_1 ++ y147)) else (none)) = some (r1,r2,r3,r4,r5,r6):=by first|(rw [hy147];with_reducible exact H)|(have H2_:=(Option.bind_some _ _).symm.trans H;rw [hy147];with_reducible exact H2_)|(have H2_:=(Option.bind_some _ _).symm.trans H;with_reducible exact H2_)|with_reducible exact H|(rw [hy147];exact H)|exact H
     have Ny147:=Aside0.mk hy147
     clear hy147
     replace H:=ifp_ H;obtain ⟨c59,H⟩:=H
     have LMc59:=Aside0.mk c59
     clear c59
     obtain ⟨y150,hy150⟩ : ∃ y_ : List Bool,y_ = (x130004_1 ++ y147):=⟨_,rfl⟩
     replace H : (water_groundOf.l0 k2 (wrap64 (a0_0 * a0_1)) (wrap64 (x31_1 + 1)) a0_0 a0_1 l0_2 a0_0 a0_1 y138 y144 y150) = some (r1,r2,r3,r4,r5,r6):=by first|(rw [hy150];with_reducible exact H)|(have H2_:=(Option.bind_some _ _).symm.trans H;rw [hy150];with_reducible exact H2_)|(have H2_:=(Option.bind_some _ _).symm.trans H;with_reducible exact H2_)|with_reducible exact H|(rw [hy150];exact H)|exact H
     have Ny150:=Aside0.mk hy150
     clear hy150
     have H':=Aside0.mk H
     clear H
     obtain ⟨Ao60,co60,eo60⟩:=Kd.R_slice HO_130002.out
     subst eo60
     obtain ⟨Ao61,co61,eo61⟩:=Kd.R_slice HO_130003.out
     subst eo61
     try go_wp2
     replace HO_130002:=Aside0.mk (Kd.R_drew HO_130002.out)
     replace HO_130003:=Aside0.mk (Kd.R_drew HO_130003.out)
     replace HO_130004:=Aside0.mk (Kd.R_drew HO_130004.out)
     replace BK126:=Aside0.mk (blk_drew BK126.out)
     replace BK127:=Aside0.mk (blk_drew BK127.out)
     replace BK129:=Aside0.mk (blk_drew BK129.out)
     replace BK134:=Aside0.mk (blk_drew BK134.out)
     replace HB:=Aside0.mk (below_drew1 HB.out)
     refine start_ (n:=14) (S:=fun w' => w'.cell? ⟨gb129,0,none⟩ = some (.int .i64 a0_0) ∧ w'.cell? ⟨gb129,1,none⟩ = some (.int .i64 a0_1) ∧ w'.cell? ⟨gb129,2,none⟩ = some (.slice Ao60 x130002_1.length co60) ∧ w'.cell? ⟨gb129,3,none⟩ = some (.slice Ao61 x130003_1.length co61) ∧ w'.cell? ⟨gb129,4,none⟩ = some (u130004)) (ds:=[11,13]) #[false,false,false,false,false,false,false,false,false,false,false,false,false,false] (by kernel_rfl) rfl rfl ⟨(blk_cell BK129.out 0).trans rfl,(blk_cell BK129.out 1).trans rfl,(blk_cell BK129.out 2).trans rfl,(blk_cell BK129.out 3).trans rfl,(blk_cell BK129.out 4).trans rfl⟩ (fun hHeld => ?_);refine with_tabW water_groundOf.tab20 water_groundOf.bits20 (fun HT_ HW_ => ?_)
     generalize wr.drew = w62 at HO_130002 HO_130003 HO_130004 BK126 BK127 BK129 BK134 HB hHeld ⊢
     refine pI 0 (some 107) ?_
     refine pI 2 (some 109) ?_
     refine pI 5 (some 112) ?_
     refine pI 7 (some 114) ?_
     refine tI5 1 (some 108) hHeld ?_
     refine tI5 6 (some 113) hHeld ?_
     refine join_ (σ:=Value × Value × Value) 4 #[true,true,true,true,true,true,true,true,true,false,true,false,false,false] (fun s_ => [(110,s_.1),(111,s_.2.1),(115,s_.2.2),(117,.pointer (some ⟨gb129,2,none⟩))]) (fun s_ w' => (w'.cell? ⟨gb129,0,none⟩ = some (.int .i64 a0_0) ∧ w'.cell? ⟨gb129,1,none⟩ = some (.int .i64 a0_1) ∧ w'.cell? ⟨gb129,2,none⟩ = some (.slice Ao60 x130002_1.length co60) ∧ w'.cell? ⟨gb129,3,none⟩ = some (.slice Ao61 x130003_1.length co61) ∧ w'.cell? ⟨gb129,4,none⟩ = some (u130004)) ∧ (Kd.R (Kd.int .i64) 3 w' w.heap.size (fun k_ => some k_ ≠ (s_.2.1 : Value).ownBlock ∧ some k_ ≠ (s_.2.2 : Value).ownBlock ∧ some k_ ≠ (.slice Ao61 x130003_1.length co61 : Value).ownBlock) s_.1 y135) ∧ (Kd.R (Kd.int .i64) 3 w' w.heap.size (fun k_ => some k_ ≠ (s_.1 : Value).ownBlock ∧ some k_ ≠ (s_.2.2 : Value).ownBlock ∧ some k_ ≠ (.slice Ao61 x130003_1.length co61 : Value).ownBlock) s_.2.1 y138) ∧ (Kd.R (Kd.int .i64) 3 w' w.heap.size (fun k_ => some k_ ≠ (s_.1 : Value).ownBlock ∧ some k_ ≠ (s_.2.1 : Value).ownBlock ∧ some k_ ≠ (.slice Ao61 x130003_1.length co61 : Value).ownBlock) s_.2.2 y141) ∧ (Kd.R (Kd.int .i64) 3 w' w.heap.size (fun k_ => some k_ ≠ (s_.1 : Value).ownBlock ∧ some k_ ≠ (s_.2.1 : Value).ownBlock ∧ some k_ ≠ (s_.2.2 : Value).ownBlock) (.slice Ao61 x130003_1.length co61) x130003_1) ∧ (Kd.R Kd.bool 4 w' w.heap.size (fun _ => True) u130004 x130004_1) ∧ (w'.heap[gb126]? = some (.cells #[.int .i64 a0_0,.int .i64 a0_1,.slice (some ad130) l0_2.length c0_2] 24 (0,0))) ∧ (w'.heap[gb127]? = some (.cells #[.int .i64 0,.int .i64 0,.slice none 0 0,.slice none 0 0,.slice none 0 0] 52 (0,0))) ∧ (w'.heap[gb129]? = some (.cells #[.int .i64 a0_0,.int .i64 a0_1,.slice Ao60 x130002_1.length co60,.slice Ao61 x130003_1.length co61,u130004] 52 (0,0))) ∧ (w'.heap[gb134]? = some (.cells #[.int .i64 (rd l0_2 (ji17)),.int .i64 (rd l0_2 (ji20)),.int .i64 (rd l0_2 (ji23)),.int .i64 (rd l0_2 (ji26))] 71 (0,0))) ∧ (Below w.heap.size w w')) ?_ ?_
     rotate_left
     ·intro hCont
      refine two_ (i:=3) (j:=8) (Ni:=some 110) (Nj:=some 115) #[true,true,true,true,false,true,true,true,false,false,false,false,false,false] #[true,true,true,false,false,true,true,true,true,false,false,false,false,false] rfl rfl rfl rfl (two_of HT_.out (by kernel_rfl)) (by decide) (by decide) (fun K hK => ?_) (fun K hK => ?_)
      ·skip
       refine Kd.R_lit_step (Kd.int .i64) _ 3 ?hg (N:=110) ?hd (xs:=([x12_2] : List Int)) (inner:=[.int .i64 x12_2]) (ok:=fun _ => True) (okp:=fun _ => True) ?hr ?hp (fun _ hk => hk) trivial (Below.refl _ _) (Nat.le_refl _) (by simp) ?_;(case hd => rfl);(case hg => rfl);(case hr => first|(go_simp;done)|(go_simp;rfl));(case hp => exact (Reps.one (show Kd.M (Kd.int .i64) _ _ _ x12_2 [.int .i64 x12_2] from rfl) (Reps.none _ _)))
       intro v136 w63 ho64 hb hg_ hnew_
       clear hg_ hnew_
       (first|rw [← Ny135.out] at ho64|(simp only [Int.reduceToNat] at ho64;rw [← Ny135.out] at ho64))
       have n0_:=Aside0.mk (Kd.R_elder' (Kd.R_up HO_130002.out) (Kd.R_base ho64) hb)
       have n1_:=Aside0.mk (Kd.R_elder' (Kd.R_up HO_130003.out) (Kd.R_base ho64) hb)
       have n2_:=rbw HO_130004 hb
       have n3_:=Aside0.mk (Kd.R_lower (Kd.R_new' (Kd.R_new' ho64 (Kd.R_lt (Kd.R_up HO_130002.out))) (Kd.R_lt (Kd.R_up HO_130003.out))) (below_size (hb_)))
       have n4_:=bkb BK126 hb
       have n5_:=bkb BK127 hb
       have n6_:=bkb BK129 hb
       have n7_:=bkb BK134 hb
       have n8_:=Aside0.mk (below_step (hb_) hb)
       clear HO_130002
       clear HO_130003
       clear HO_130004
       clear BK126
       clear BK127
       clear BK129
       clear BK134
       clear HB
       have HO_130002:=n0_
       have HO_130003:=n1_
       have HO_130004:=n2_
       have HO137:=n3_
       have BK126:=n4_
       have BK127:=n5_
       have BK129:=n6_
       have BK134:=n7_
       have HB:=n8_
       clear n0_ n1_ n2_ n3_ n4_ n5_ n6_ n7_ n8_
       clear hb ho64
       obtain ⟨Ao66,co66,eo66⟩:=Kd.R_slice HO137.out
       (first|subst eo66|(injection eo66 with f1_ f2_ f3_;have f4_:=f1_.symm;have f5_:=f3_.symm;clear f1_ f2_ f3_;subst f4_;subst f5_))
       refine hK.out _ _ ⟨(blk_cell BK129.out 0).trans rfl,(blk_cell BK129.out 1).trans rfl,(blk_cell BK129.out 2).trans rfl,(blk_cell BK129.out 3).trans rfl,(blk_cell BK129.out 4).trans rfl⟩ (fun hHeld => ?_)
       clear hK K
       refine norm_ (a':=?_) ?_ ?_
       rotate_left
       ·show Act.put _ (some 110) _ = _
        simp only [Act.put,List.setIfInBounds_toArray,List.set_cons_zero,List.set_cons_succ,i64_w,i32_w]
        rfl
       refine two_ (i:=4) (j:=8) (Ni:=some 111) (Nj:=some 115) #[true,true,true,true,true,true,true,true,false,false,false,false,false,false] #[true,true,true,true,false,true,true,true,true,false,false,false,false,false] rfl rfl rfl rfl (two_of HT_.out (by kernel_rfl)) (by decide) (by decide) (fun K hK => ?_) (fun K hK => ?_)
       ·skip
        refine Kd.R_append_rows_step (Kd.int .i64) (w0:=w) w.heap.size (by rfl) (.tmp 108) (.tmp 110) 22 3 (.int .i64 0) 8 rfl Try.underlying22 info3 rfl (by decide) (by omega) (.slice Ao60 x130002_1.length co60) x130002_1 y135 _ _ _ (fun k_ => some k_ ≠ (.slice Ao61 x130003_1.length co61 : Value).ownBlock ∧ some k_ ≠ (.slice Ao66 y135.length co66 : Value).ownBlock) (fun _ => False) rfl rfl ?aO ?aR (fun _ _ h => h) (fun _ h => h.elim) ?aF ?aB ?aS ?aL ?_
        (case aR => exact Kd.C_up (Kd.R_reads' HO137.out).2.2)
        (case aB => exact (hb_))
        (case aF => exact (fun k_ hk => ⟨Kd.fresh' (Kd.R_lt (Kd.R_up HO_130003.out)) k_ hk,Kd.fresh' (Kd.R_lt (Kd.R_up HO137.out)) k_ hk⟩))
        (case aO => exact (Kd.R_up HO_130002.out))
        (case aS => exact (below_size (hb_)))
        (case aL => have:=LMc54.out;omega)
        intro v139 w65 ho hb hg hat
        rw [← Ny138.out] at ho
        have n0_:=Aside0.mk (Kd.R_after (ok:=(fun k_ => some k_ ≠ (.slice Ao66 y135.length co66 : Value).ownBlock)) (by (with_reducible repeat (first|apply Kd.R_alloc|apply Kd.R_drewN|apply Kd.R_drew));exact Kd.R_mono HO_130003.out (fun _ hk => ⟨hk.2,hk.1⟩)) hg hat)
        have n1_:=Aside0.mk (Kd.R_over' (Kd.R_up HO_130004.out) (Kd.R_typed (Kd.R_up HO_130002.out)) (by decide) hg)
        have n2_:=Aside0.mk (blk_grown (blk_up BK126.out) hg (Kd.R_ne HO_130002.out BK126.out (by decide)))
        have n3_:=Aside0.mk (blk_grown (blk_up BK127.out) hg (Kd.R_ne HO_130002.out BK127.out (by decide)))
        have n4_:=Aside0.mk (blk_grown (blk_up BK129.out) hg (Kd.R_ne HO_130002.out BK129.out (by decide)))
        have n5_:=Aside0.mk (blk_grown (blk_up BK134.out) hg (Kd.R_ne HO_130002.out BK134.out (by decide)))
        have n6_:=Aside0.mk (Kd.R_after (ok:=(fun k_ => some k_ ≠ (.slice Ao61 x130003_1.length co61 : Value).ownBlock)) (by (with_reducible repeat (first|apply Kd.R_alloc|apply Kd.R_drewN|apply Kd.R_drew));exact Kd.R_mono HO137.out (fun _ hk => ⟨hk.2,hk.1.2⟩)) hg hat)
        have n7_:=Aside0.mk (hb)
        have n8_:=Aside0.mk (ho)
        clear HO_130003
        clear HO_130004
        clear BK126
        clear BK127
        clear BK129
        clear BK134
        clear HO137
        clear HB
        clear HO_130002
        have HO_130003:=n0_
        have HO_130004:=n1_
        have BK126:=n2_
        have BK127:=n3_
        have BK129:=n4_
        have BK134:=n5_
        have HO137:=n6_
        have HB:=n7_
        have HO140:=n8_
        clear n0_ n1_ n2_ n3_ n4_ n5_ n6_ n7_ n8_
        clear ho hb hg hat
        refine hK.out _ _ ⟨(blk_cell BK129.out 0).trans rfl,(blk_cell BK129.out 1).trans rfl,(blk_cell BK129.out 2).trans rfl,(blk_cell BK129.out 3).trans rfl,(blk_cell BK129.out 4).trans rfl⟩ (fun hHeld => ?_)
        clear hK K
        refine norm_ (a':=?_) ?_ ?_
        rotate_left
        ·show Act.put _ (some 111) _ = _
         simp only [Act.put,List.setIfInBounds_toArray,List.set_cons_zero,List.set_cons_succ,i64_w,i32_w]
         rfl
        refine pI 10 (some 117) ?_
        refine oI 8 (some 115) (fun K hK => ?_)
        refine Kd.R_lit_step (Kd.int .i64) _ 3 ?hg (N:=115) ?hd (xs:=([ji31] : List Int)) (inner:=[.int .i64 ji31]) (ok:=fun _ => True) (okp:=fun _ => True) ?hr ?hp (fun _ hk => hk) trivial (Below.refl _ _) (Nat.le_refl _) (by simp) ?_;(case hd => rfl);(case hg => rfl);(case hr => first|(go_simp;done)|(go_simp;rfl));(case hp => exact (Reps.one (show Kd.M (Kd.int .i64) _ _ _ ji31 [.int .i64 ji31] from rfl) (Reps.none _ _)))
        intro v142 w67 ho68 hb hg_ hnew_
        clear hg_ hnew_
        (first|rw [← Ny141.out] at ho68|(simp only [Int.reduceToNat] at ho68;rw [← Ny141.out] at ho68))
        have n0_:=Aside0.mk (Kd.R_elder' (Kd.R_up HO_130003.out) (Kd.R_base ho68) hb)
        have n1_:=rbw HO_130004 hb
        have n2_:=Aside0.mk (Kd.R_elder' (Kd.R_up HO137.out) (Kd.R_base ho68) hb)
        have n3_:=Aside0.mk (Kd.R_elder' (Kd.R_up HO140.out) (Kd.R_base ho68) hb)
        have n4_:=Aside0.mk (Kd.R_lower (Kd.R_new' (Kd.R_new' (Kd.R_new' ho68 (Kd.R_lt (Kd.R_up HO_130003.out))) (Kd.R_lt (Kd.R_up HO137.out))) (Kd.R_lt (Kd.R_up HO140.out))) (below_size (hb_)))
        have n5_:=bkb BK126 hb
        have n6_:=bkb BK127 hb
        have n7_:=bkb BK129 hb
        have n8_:=bkb BK134 hb
        have n9_:=Aside0.mk (below_step (hb_) hb)
        clear HO_130003
        clear HO_130004
        clear HO137
        clear HO140
        clear BK126
        clear BK127
        clear BK129
        clear BK134
        clear HB
        have HO_130003:=n0_
        have HO_130004:=n1_
        have HO137:=n2_
        have HO140:=n3_
        have HO143:=n4_
        have BK126:=n5_
        have BK127:=n6_
        have BK129:=n7_
        have BK134:=n8_
        have HB:=n9_
        clear n0_ n1_ n2_ n3_ n4_ n5_ n6_ n7_ n8_ n9_
        clear hb ho68
        refine hK.out _ _ ⟨(blk_cell BK129.out 0).trans rfl,(blk_cell BK129.out 1).trans rfl,(blk_cell BK129.out 2).trans rfl,(blk_cell BK129.out 3).trans rfl,(blk_cell BK129.out 4).trans rfl⟩ (fun hHeld => ?_)
        clear hK K
        refine norm_ (a':=?_) ?_ ?_
        rotate_left
        ·show Act.put _ (some 115) _ = _
         simp only [Act.put,List.setIfInBounds_toArray,List.set_cons_zero,List.set_cons_succ,i64_w,i32_w]
         rfl
        exact norm_ (by simp only [putAll,Act.put,List.setIfInBounds_toArray,List.set_cons_zero,List.set_cons_succ]) (hCont (.slice Ao66 y135.length co66,v139,v142) _ ⟨hHeld,(by (with_reducible repeat (first|apply Kd.R_alloc|apply Kd.R_drewN|apply Kd.R_drew));exact Kd.R_mono HO137.out (fun _ hk => ⟨hk.1.2,⟨hk.2,hk.1.1⟩⟩)),(by (with_reducible repeat (first|apply Kd.R_alloc|apply Kd.R_drewN|apply Kd.R_drew));exact Kd.R_mono HO140.out (fun _ hk => ⟨hk.1.2,⟨hk.2,hk.1.1⟩⟩)),(by (with_reducible repeat (first|apply Kd.R_alloc|apply Kd.R_drewN|apply Kd.R_drew));exact Kd.R_mono HO143.out (fun _ hk => ⟨hk.1.2,⟨hk.2,hk.1.1.2⟩⟩)),(by (with_reducible repeat (first|apply Kd.R_alloc|apply Kd.R_drewN|apply Kd.R_drew));exact Kd.R_mono HO_130003.out (fun _ hk => ⟨hk.1.1,⟨hk.1.2,hk.2⟩⟩)),(Kd.R_up HO_130004.out),(blk_up BK126.out),(blk_up BK127.out),(blk_up BK129.out),(blk_up BK134.out),(hb_)⟩)
       ·skip
        refine Kd.R_lit_step (Kd.int .i64) _ 3 ?hg (N:=115) ?hd (xs:=([ji31] : List Int)) (inner:=[.int .i64 ji31]) (ok:=fun _ => True) (okp:=fun _ => True) ?hr ?hp (fun _ hk => hk) trivial (Below.refl _ _) (Nat.le_refl _) (by simp) ?_;(case hd => rfl);(case hg => rfl);(case hr => first|(go_simp;done)|(go_simp;rfl));(case hp => exact (Reps.one (show Kd.M (Kd.int .i64) _ _ _ ji31 [.int .i64 ji31] from rfl) (Reps.none _ _)))
        intro v142 w65 ho66 hb hg_ hnew_
        clear hg_ hnew_
        (first|rw [← Ny141.out] at ho66|(simp only [Int.reduceToNat] at ho66;rw [← Ny141.out] at ho66))
        have n0_:=Aside0.mk (Kd.R_elder' (Kd.R_up HO_130002.out) (Kd.R_base ho66) hb)
        have n1_:=Aside0.mk (Kd.R_elder' (Kd.R_up HO_130003.out) (Kd.R_base ho66) hb)
        have n2_:=rbw HO_130004 hb
        have n3_:=Aside0.mk (Kd.R_elder' (Kd.R_up HO137.out) (Kd.R_base ho66) hb)
        have n4_:=Aside0.mk (Kd.R_lower (Kd.R_new' (Kd.R_new' (Kd.R_new' ho66 (Kd.R_lt (Kd.R_up HO_130002.out))) (Kd.R_lt (Kd.R_up HO_130003.out))) (Kd.R_lt (Kd.R_up HO137.out))) (below_size (hb_)))
        have n5_:=bkb BK126 hb
        have n6_:=bkb BK127 hb
        have n7_:=bkb BK129 hb
        have n8_:=bkb BK134 hb
        have n9_:=Aside0.mk (below_step (hb_) hb)
        clear HO_130002
        clear HO_130003
        clear HO_130004
        clear HO137
        clear BK126
        clear BK127
        clear BK129
        clear BK134
        clear HB
        have HO_130002:=n0_
        have HO_130003:=n1_
        have HO_130004:=n2_
        have HO137:=n3_
        have HO143:=n4_
        have BK126:=n5_
        have BK127:=n6_
        have BK129:=n7_
        have BK134:=n8_
        have HB:=n9_
        clear n0_ n1_ n2_ n3_ n4_ n5_ n6_ n7_ n8_ n9_
        clear hb ho66
        obtain ⟨Ao68,co68,eo68⟩:=Kd.R_slice HO137.out
        (first|subst eo68|(injection eo68 with f1_ f2_ f3_;have f4_:=f1_.symm;have f5_:=f3_.symm;clear f1_ f2_ f3_;subst f4_;subst f5_))
        refine hK.out _ _ ⟨(blk_cell BK129.out 0).trans rfl,(blk_cell BK129.out 1).trans rfl,(blk_cell BK129.out 2).trans rfl,(blk_cell BK129.out 3).trans rfl,(blk_cell BK129.out 4).trans rfl⟩ (fun hHeld => ?_)
        clear hK K
        refine norm_ (a':=?_) ?_ ?_
        rotate_left
        ·show Act.put _ (some 115) _ = _
         simp only [Act.put,List.setIfInBounds_toArray,List.set_cons_zero,List.set_cons_succ,i64_w,i32_w]
         rfl
        refine oI 4 (some 111) (fun K hK => ?_)
        refine Kd.R_append_rows_step (Kd.int .i64) (w0:=w) w.heap.size (by rfl) (.tmp 108) (.tmp 110) 22 3 (.int .i64 0) 8 rfl Try.underlying22 info3 rfl (by decide) (by omega) (.slice Ao60 x130002_1.length co60) x130002_1 y135 _ _ _ (fun k_ => some k_ ≠ (.slice Ao61 x130003_1.length co61 : Value).ownBlock ∧ some k_ ≠ (.slice Ao68 y135.length co68 : Value).ownBlock ∧ some k_ ≠ (v142 : Value).ownBlock) (fun _ => False) rfl rfl ?aO ?aR (fun _ _ h => h) (fun _ h => h.elim) ?aF ?aB ?aS ?aL ?_
        (case aR => exact Kd.C_up (Kd.R_reads' HO137.out).2.2)
        (case aB => exact (hb_))
        (case aF => exact (fun k_ hk => ⟨Kd.fresh' (Kd.R_lt (Kd.R_up HO_130003.out)) k_ hk,Kd.fresh' (Kd.R_lt (Kd.R_up HO137.out)) k_ hk,Kd.fresh' (Kd.R_lt (Kd.R_up HO143.out)) k_ hk⟩))
        (case aO => exact (by (with_reducible repeat (first|apply Kd.R_alloc|apply Kd.R_drewN|apply Kd.R_drew));exact Kd.R_mono HO_130002.out (fun _ hk => ⟨hk.1.1,⟨hk.1.2,hk.2⟩⟩)))
        (case aS => exact (below_size (hb_)))
        (case aL => have:=LMc54.out;omega)
        intro v139 w67 ho hb hg hat
        rw [← Ny138.out] at ho
        have n0_:=Aside0.mk (Kd.R_after (ok:=(fun k_ => some k_ ≠ (.slice Ao68 y135.length co68 : Value).ownBlock ∧ some k_ ≠ (v142 : Value).ownBlock)) (by (with_reducible repeat (first|apply Kd.R_alloc|apply Kd.R_drewN|apply Kd.R_drew));exact Kd.R_mono HO_130003.out (fun _ hk => ⟨⟨hk.1.2,hk.2⟩,hk.1.1⟩)) hg hat)
        have n1_:=Aside0.mk (Kd.R_over' (Kd.R_up HO_130004.out) (Kd.R_typed (Kd.R_up HO_130002.out)) (by decide) hg)
        have n2_:=Aside0.mk (blk_grown (blk_up BK126.out) hg (Kd.R_ne HO_130002.out BK126.out (by decide)))
        have n3_:=Aside0.mk (blk_grown (blk_up BK127.out) hg (Kd.R_ne HO_130002.out BK127.out (by decide)))
        have n4_:=Aside0.mk (blk_grown (blk_up BK129.out) hg (Kd.R_ne HO_130002.out BK129.out (by decide)))
        have n5_:=Aside0.mk (blk_grown (blk_up BK134.out) hg (Kd.R_ne HO_130002.out BK134.out (by decide)))
        have n6_:=Aside0.mk (Kd.R_after (ok:=(fun k_ => some k_ ≠ (.slice Ao61 x130003_1.length co61 : Value).ownBlock ∧ some k_ ≠ (v142 : Value).ownBlock)) (by (with_reducible repeat (first|apply Kd.R_alloc|apply Kd.R_drewN|apply Kd.R_drew));exact Kd.R_mono HO137.out (fun _ hk => ⟨⟨hk.1.2,hk.2⟩,hk.1.1.2⟩)) hg hat)
        have n7_:=Aside0.mk (Kd.R_after (ok:=(fun k_ => some k_ ≠ (.slice Ao61 x130003_1.length co61 : Value).ownBlock ∧ some k_ ≠ (.slice Ao68 y135.length co68 : Value).ownBlock)) (by (with_reducible repeat (first|apply Kd.R_alloc|apply Kd.R_drewN|apply Kd.R_drew));exact Kd.R_mono HO143.out (fun _ hk => ⟨⟨hk.1.2,hk.2⟩,hk.1.1.2⟩)) hg hat)
        have n8_:=Aside0.mk (hb)
        have n9_:=Aside0.mk (ho)
        clear HO_130003
        clear HO_130004
        clear BK126
        clear BK127
        clear BK129
        clear BK134
        clear HO137
        clear HO143
        clear HB
        clear HO_130002
        have HO_130003:=n0_
        have HO_130004:=n1_
        have BK126:=n2_
        have BK127:=n3_
        have BK129:=n4_
        have BK134:=n5_
        have HO137:=n6_
        have HO143:=n7_
        have HB:=n8_
        have HO140:=n9_
        clear n0_ n1_ n2_ n3_ n4_ n5_ n6_ n7_ n8_ n9_
        clear ho hb hg hat
        refine hK.out _ _ ⟨(blk_cell BK129.out 0).trans rfl,(blk_cell BK129.out 1).trans rfl,(blk_cell BK129.out 2).trans rfl,(blk_cell BK129.out 3).trans rfl,(blk_cell BK129.out 4).trans rfl⟩ (fun hHeld => ?_)
        clear hK K
        refine norm_ (a':=?_) ?_ ?_
        rotate_left
        ·show Act.put _ (some 111) _ = _
         simp only [Act.put,List.setIfInBounds_toArray,List.set_cons_zero,List.set_cons_succ,i64_w,i32_w]
         rfl
        refine pI 10 (some 117) ?_
        exact norm_ (by simp only [putAll,Act.put,List.setIfInBounds_toArray,List.set_cons_zero,List.set_cons_succ]) (hCont (.slice Ao68 y135.length co68,v139,v142) _ ⟨hHeld,(by (with_reducible repeat (first|apply Kd.R_alloc|apply Kd.R_drewN|apply Kd.R_drew));exact Kd.R_mono HO137.out (fun _ hk => ⟨hk.2,⟨hk.1.2,hk.1.1⟩⟩)),(by (with_reducible repeat (first|apply Kd.R_alloc|apply Kd.R_drewN|apply Kd.R_drew));exact Kd.R_mono HO140.out (fun _ hk => ⟨hk.2.1,⟨hk.2.2,hk.1⟩⟩)),(by (with_reducible repeat (first|apply Kd.R_alloc|apply Kd.R_drewN|apply Kd.R_drew));exact Kd.R_mono HO143.out (fun _ hk => ⟨hk.1.2,⟨hk.2,hk.1.1⟩⟩)),(by (with_reducible repeat (first|apply Kd.R_alloc|apply Kd.R_drewN|apply Kd.R_drew));exact Kd.R_mono HO_130003.out (fun _ hk => ⟨hk.1.1,⟨hk.2,hk.1.2⟩⟩)),(Kd.R_up HO_130004.out),(blk_up BK126.out),(blk_up BK127.out),(blk_up BK129.out),(blk_up BK134.out),(hb_)⟩)
      ·skip
       refine Kd.R_lit_step (Kd.int .i64) _ 3 ?hg (N:=115) ?hd (xs:=([ji31] : List Int)) (inner:=[.int .i64 ji31]) (ok:=fun _ => True) (okp:=fun _ => True) ?hr ?hp (fun _ hk => hk) trivial (Below.refl _ _) (Nat.le_refl _) (by simp) ?_;(case hd => rfl);(case hg => rfl);(case hr => first|(go_simp;done)|(go_simp;rfl));(case hp => exact (Reps.one (show Kd.M (Kd.int .i64) _ _ _ ji31 [.int .i64 ji31] from rfl) (Reps.none _ _)))
       intro v142 w63 ho64 hb hg_ hnew_
       clear hg_ hnew_
       (first|rw [← Ny141.out] at ho64|(simp only [Int.reduceToNat] at ho64;rw [← Ny141.out] at ho64))
       have n0_:=Aside0.mk (Kd.R_elder' (Kd.R_up HO_130002.out) (Kd.R_base ho64) hb)
       have n1_:=Aside0.mk (Kd.R_elder' (Kd.R_up HO_130003.out) (Kd.R_base ho64) hb)
       have n2_:=rbw HO_130004 hb
       have n3_:=Aside0.mk (Kd.R_lower (Kd.R_new' (Kd.R_new' ho64 (Kd.R_lt (Kd.R_up HO_130002.out))) (Kd.R_lt (Kd.R_up HO_130003.out))) (below_size (hb_)))
       have n4_:=bkb BK126 hb
       have n5_:=bkb BK127 hb
       have n6_:=bkb BK129 hb
       have n7_:=bkb BK134 hb
       have n8_:=Aside0.mk (below_step (hb_) hb)
       clear HO_130002
       clear HO_130003
       clear HO_130004
       clear BK126
       clear BK127
       clear BK129
       clear BK134
       clear HB
       have HO_130002:=n0_
       have HO_130003:=n1_
       have HO_130004:=n2_
       have HO143:=n3_
       have BK126:=n4_
       have BK127:=n5_
       have BK129:=n6_
       have BK134:=n7_
       have HB:=n8_
       clear n0_ n1_ n2_ n3_ n4_ n5_ n6_ n7_ n8_
       clear hb ho64
       refine hK.out _ _ ⟨(blk_cell BK129.out 0).trans rfl,(blk_cell BK129.out 1).trans rfl,(blk_cell BK129.out 2).trans rfl,(blk_cell BK129.out 3).trans rfl,(blk_cell BK129.out 4).trans rfl⟩ (fun hHeld => ?_)
       clear hK K
       refine norm_ (a':=?_) ?_ ?_
       rotate_left
       ·show Act.put _ (some 115) _ = _
        simp only [Act.put,List.setIfInBounds_toArray,List.set_cons_zero,List.set_cons_succ,i64_w,i32_w]
        rfl
       refine oI 3 (some 110) (fun K hK => ?_)
       refine Kd.R_lit_step (Kd.int .i64) _ 3 ?hg (N:=110) ?hd (xs:=([x12_2] : List Int)) (inner:=[.int .i64 x12_2]) (ok:=fun _ => True) (okp:=fun _ => True) ?hr ?hp (fun _ hk => hk) trivial (Below.refl _ _) (Nat.le_refl _) (by simp) ?_;(case hd => rfl);(case hg => rfl);(case hr => first|(go_simp;done)|(go_simp;rfl));(case hp => exact (Reps.one (show Kd.M (Kd.int .i64) _ _ _ x12_2 [.int .i64 x12_2] from rfl) (Reps.none _ _)))
       intro v136 w65 ho66 hb hg_ hnew_
       clear hg_ hnew_
       (first|rw [← Ny135.out] at ho66|(simp only [Int.reduceToNat] at ho66;rw [← Ny135.out] at ho66))
       have n0_:=Aside0.mk (Kd.R_elder' (Kd.R_up HO_130002.out) (Kd.R_base ho66) hb)
       have n1_:=Aside0.mk (Kd.R_elder' (Kd.R_up HO_130003.out) (Kd.R_base ho66) hb)
       have n2_:=rbw HO_130004 hb
       have n3_:=Aside0.mk (Kd.R_elder' (Kd.R_up HO143.out) (Kd.R_base ho66) hb)
       have n4_:=Aside0.mk (Kd.R_lower (Kd.R_new' (Kd.R_new' (Kd.R_new' ho66 (Kd.R_lt (Kd.R_up HO_130002.out))) (Kd.R_lt (Kd.R_up HO_130003.out))) (Kd.R_lt (Kd.R_up HO143.out))) (below_size (hb_)))
       have n5_:=bkb BK126 hb
       have n6_:=bkb BK127 hb
       have n7_:=bkb BK129 hb
       have n8_:=bkb BK134 hb
       have n9_:=Aside0.mk (below_step (hb_) hb)
       clear HO_130002
       clear HO_130003
       clear HO_130004
       clear HO143
       clear BK126
       clear BK127
       clear BK129
       clear BK134
       clear HB
       have HO_130002:=n0_
       have HO_130003:=n1_
       have HO_130004:=n2_
       have HO143:=n3_
       have HO137:=n4_
       have BK126:=n5_
       have BK127:=n6_
       have BK129:=n7_
       have BK134:=n8_
       have HB:=n9_
       clear n0_ n1_ n2_ n3_ n4_ n5_ n6_ n7_ n8_ n9_
       clear hb ho66
       obtain ⟨Ao68,co68,eo68⟩:=Kd.R_slice HO137.out
       (first|subst eo68|(injection eo68 with f1_ f2_ f3_;have f4_:=f1_.symm;have f5_:=f3_.symm;clear f1_ f2_ f3_;subst f4_;subst f5_))
       refine hK.out _ _ ⟨(blk_cell BK129.out 0).trans rfl,(blk_cell BK129.out 1).trans rfl,(blk_cell BK129.out 2).trans rfl,(blk_cell BK129.out 3).trans rfl,(blk_cell BK129.out 4).trans rfl⟩ (fun hHeld => ?_)
       clear hK K
       refine norm_ (a':=?_) ?_ ?_
       rotate_left
       ·show Act.put _ (some 110) _ = _
        simp only [Act.put,List.setIfInBounds_toArray,List.set_cons_zero,List.set_cons_succ,i64_w,i32_w]
        rfl
       refine oI 4 (some 111) (fun K hK => ?_)
       refine Kd.R_append_rows_step (Kd.int .i64) (w0:=w) w.heap.size (by rfl) (.tmp 108) (.tmp 110) 22 3 (.int .i64 0) 8 rfl Try.underlying22 info3 rfl (by decide) (by omega) (.slice Ao60 x130002_1.length co60) x130002_1 y135 _ _ _ (fun k_ => some k_ ≠ (.slice Ao61 x130003_1.length co61 : Value).ownBlock ∧ some k_ ≠ (v142 : Value).ownBlock ∧ some k_ ≠ (.slice Ao68 y135.length co68 : Value).ownBlock) (fun _ => False) rfl rfl ?aO ?aR (fun _ _ h => h) (fun _ h => h.elim) ?aF ?aB ?aS ?aL ?_
       (case aR => exact Kd.C_up (Kd.R_reads' HO137.out).2.2)
       (case aB => exact (hb_))
       (case aF => exact (fun k_ hk => ⟨Kd.fresh' (Kd.R_lt (Kd.R_up HO_130003.out)) k_ hk,Kd.fresh' (Kd.R_lt (Kd.R_up HO143.out)) k_ hk,Kd.fresh' (Kd.R_lt (Kd.R_up HO137.out)) k_ hk⟩))
       (case aO => exact (by (with_reducible repeat (first|apply Kd.R_alloc|apply Kd.R_drewN|apply Kd.R_drew));exact Kd.R_mono HO_130002.out (fun _ hk => ⟨hk.1.1,⟨hk.1.2,hk.2⟩⟩)))
       (case aS => exact (below_size (hb_)))
       (case aL => have:=LMc54.out;omega)
       intro v139 w67 ho hb hg hat
       rw [← Ny138.out] at ho
       have n0_:=Aside0.mk (Kd.R_after (ok:=(fun k_ => some k_ ≠ (v142 : Value).ownBlock ∧ some k_ ≠ (.slice Ao68 y135.length co68 : Value).ownBlock)) (by (with_reducible repeat (first|apply Kd.R_alloc|apply Kd.R_drewN|apply Kd.R_drew));exact Kd.R_mono HO_130003.out (fun _ hk => ⟨⟨hk.1.2,hk.2⟩,hk.1.1⟩)) hg hat)
       have n1_:=Aside0.mk (Kd.R_over' (Kd.R_up HO_130004.out) (Kd.R_typed (Kd.R_up HO_130002.out)) (by decide) hg)
       have n2_:=Aside0.mk (blk_grown (blk_up BK126.out) hg (Kd.R_ne HO_130002.out BK126.out (by decide)))
       have n3_:=Aside0.mk (blk_grown (blk_up BK127.out) hg (Kd.R_ne HO_130002.out BK127.out (by decide)))
       have n4_:=Aside0.mk (blk_grown (blk_up BK129.out) hg (Kd.R_ne HO_130002.out BK129.out (by decide)))
       have n5_:=Aside0.mk (blk_grown (blk_up BK134.out) hg (Kd.R_ne HO_130002.out BK134.out (by decide)))
       have n6_:=Aside0.mk (Kd.R_after (ok:=(fun k_ => some k_ ≠ (.slice Ao61 x130003_1.length co61 : Value).ownBlock ∧ some k_ ≠ (.slice Ao68 y135.length co68 : Value).ownBlock)) (by (with_reducible repeat (first|apply Kd.R_alloc|apply Kd.R_drewN|apply Kd.R_drew));exact Kd.R_mono HO143.out (fun _ hk => ⟨⟨hk.1.2,hk.2⟩,hk.1.1.2⟩)) hg hat)
       have n7_:=Aside0.mk (Kd.R_after (ok:=(fun k_ => some k_ ≠ (.slice Ao61 x130003_1.length co61 : Value).ownBlock ∧ some k_ ≠ (v142 : Value).ownBlock)) (by (with_reducible repeat (first|apply Kd.R_alloc|apply Kd.R_drewN|apply Kd.R_drew));exact Kd.R_mono HO137.out (fun _ hk => ⟨⟨hk.1.2,hk.2⟩,hk.1.1.2⟩)) hg hat)
       have n8_:=Aside0.mk (hb)
       have n9_:=Aside0.mk (ho)
       clear HO_130003
       clear HO_130004
       clear BK126
       clear BK127
       clear BK129
       clear BK134
       clear HO143
       clear HO137
       clear HB
       clear HO_130002
       have HO_130003:=n0_
       have HO_130004:=n1_
       have BK126:=n2_
       have BK127:=n3_
       have BK129:=n4_
       have BK134:=n5_
       have HO143:=n6_
       have HO137:=n7_
       have HB:=n8_
       have HO140:=n9_
       clear n0_ n1_ n2_ n3_ n4_ n5_ n6_ n7_ n8_ n9_
       clear ho hb hg hat
       refine hK.out _ _ ⟨(blk_cell BK129.out 0).trans rfl,(blk_cell BK129.out 1).trans rfl,(blk_cell BK129.out 2).trans rfl,(blk_cell BK129.out 3).trans rfl,(blk_cell BK129.out 4).trans rfl⟩ (fun hHeld => ?_)
       clear hK K
       refine norm_ (a':=?_) ?_ ?_
       rotate_left
       ·show Act.put _ (some 111) _ = _
        simp only [Act.put,List.setIfInBounds_toArray,List.set_cons_zero,List.set_cons_succ,i64_w,i32_w]
        rfl
       refine pI 10 (some 117) ?_
       exact norm_ (by simp only [putAll,Act.put,List.setIfInBounds_toArray,List.set_cons_zero,List.set_cons_succ]) (hCont (.slice Ao68 y135.length co68,v139,v142) _ ⟨hHeld,(by (with_reducible repeat (first|apply Kd.R_alloc|apply Kd.R_drewN|apply Kd.R_drew));exact Kd.R_mono HO137.out (fun _ hk => ⟨hk.2,⟨hk.1.2,hk.1.1⟩⟩)),(by (with_reducible repeat (first|apply Kd.R_alloc|apply Kd.R_drewN|apply Kd.R_drew));exact Kd.R_mono HO140.out (fun _ hk => ⟨hk.2.2,⟨hk.2.1,hk.1⟩⟩)),(by (with_reducible repeat (first|apply Kd.R_alloc|apply Kd.R_drewN|apply Kd.R_drew));exact Kd.R_mono HO143.out (fun _ hk => ⟨hk.1.2,⟨hk.2,hk.1.1⟩⟩)),(by (with_reducible repeat (first|apply Kd.R_alloc|apply Kd.R_drewN|apply Kd.R_drew));exact Kd.R_mono HO_130003.out (fun _ hk => ⟨hk.1.2,⟨hk.2,hk.1.1⟩⟩)),(Kd.R_up HO_130004.out),(blk_up BK126.out),(blk_up BK127.out),(blk_up BK129.out),(blk_up BK134.out),(hb_)⟩)
     rintro ⟨v136,v139,v142⟩ w69 ⟨hS_,h0_,h1_,h2_,h3_,h4_,h5_,h6_,h7_,h8_,h9_⟩
     have n0_ : Aside0 (Kd.R (Kd.int .i64) 3 w69 w.heap.size (fun k_ => some k_ ≠ (v139 : Value).ownBlock ∧ some k_ ≠ (v142 : Value).ownBlock ∧ some k_ ≠ (.slice Ao61 x130003_1.length co61 : Value).ownBlock) v136 y135):=⟨h0_⟩
     have n1_ : Aside0 (Kd.R (Kd.int .i64) 3 w69 w.heap.size (fun k_ => some k_ ≠ (v136 : Value).ownBlock ∧ some k_ ≠ (v142 : Value).ownBlock ∧ some k_ ≠ (.slice Ao61 x130003_1.length co61 : Value).ownBlock) v139 y138):=⟨h1_⟩
     have n2_ : Aside0 (Kd.R (Kd.int .i64) 3 w69 w.heap.size (fun k_ => some k_ ≠ (v136 : Value).ownBlock ∧ some k_ ≠ (v139 : Value).ownBlock ∧ some k_ ≠ (.slice Ao61 x130003_1.length co61 : Value).ownBlock) v142 y141):=⟨h2_⟩
     have n3_ : Aside0 (Kd.R (Kd.int .i64) 3 w69 w.heap.size (fun k_ => some k_ ≠ (v136 : Value).ownBlock ∧ some k_ ≠ (v139 : Value).ownBlock ∧ some k_ ≠ (v142 : Value).ownBlock) (.slice Ao61 x130003_1.length co61) x130003_1):=⟨h3_⟩
     have n4_ : Aside0 (Kd.R Kd.bool 4 w69 w.heap.size (fun _ => True) u130004 x130004_1):=⟨h4_⟩
     have n5_ : Aside0 (w69.heap[gb126]? = some (.cells #[.int .i64 a0_0,.int .i64 a0_1,.slice (some ad130) l0_2.length c0_2] 24 (0,0))):=⟨h5_⟩
     have n6_ : Aside0 (w69.heap[gb127]? = some (.cells #[.int .i64 0,.int .i64 0,.slice none 0 0,.slice none 0 0,.slice none 0 0] 52 (0,0))):=⟨h6_⟩
     have n7_ : Aside0 (w69.heap[gb129]? = some (.cells #[.int .i64 a0_0,.int .i64 a0_1,.slice Ao60 x130002_1.length co60,.slice Ao61 x130003_1.length co61,u130004] 52 (0,0))):=⟨h7_⟩
     have n8_ : Aside0 (w69.heap[gb134]? = some (.cells #[.int .i64 (rd l0_2 (ji17)),.int .i64 (rd l0_2 (ji20)),.int .i64 (rd l0_2 (ji23)),.int .i64 (rd l0_2 (ji26))] 71 (0,0))):=⟨h8_⟩
     have n9_ : Aside0 (Below w.heap.size w w69):=⟨h9_⟩
     clear HO_130002
     clear HO_130003
     clear HO_130004
     clear BK126
     clear BK127
     clear BK129
     clear BK134
     clear HB
     clear h0_ h1_ h2_ h3_ h4_ h5_ h6_ h7_ h8_ h9_
     have HO137:=n0_
     have HO140:=n1_
     have HO143:=n2_
     have HO_130003:=n3_
     have HO_130004:=n4_
     have BK126:=n5_
     have BK127:=n6_
     have BK129:=n7_
     have BK134:=n8_
     have HB:=n9_
     clear n0_ n1_ n2_ n3_ n4_ n5_ n6_ n7_ n8_ n9_
     have hHeld : w69.cell? ⟨gb129,0,none⟩ = some (.int .i64 a0_0) ∧ w69.cell? ⟨gb129,1,none⟩ = some (.int .i64 a0_1) ∧ w69.cell? ⟨gb129,2,none⟩ = some (.slice Ao60 x130002_1.length co60) ∧ w69.cell? ⟨gb129,3,none⟩ = some (.slice Ao61 x130003_1.length co61) ∧ w69.cell? ⟨gb129,4,none⟩ = some (u130004):=hS_
     obtain ⟨Ao71,co71,eo71⟩:=Kd.R_slice HO143.out
     (first|subst eo71|(injection eo71 with f1_ f2_ f3_;have f4_:=f1_.symm;have f5_:=f3_.symm;clear f1_ f2_ f3_;subst f4_;subst f5_))
     refine norm_ (a':=?_) ?_ ?_
     rotate_left
     ·simp only [putAll,Act.put,List.setIfInBounds_toArray,List.set_cons_zero,List.set_cons_succ]
      rfl
     refine oI 9 (some 116) (fun K hK => ?_)
     refine Kd.R_append_rows_step (Kd.int .i64) (w0:=w) w.heap.size (by rfl) (.tmp 113) (.tmp 115) 22 3 (.int .i64 0) 8 rfl Try.underlying22 info3 rfl (by decide) (by omega) (.slice Ao61 x130003_1.length co61) x130003_1 y141 _ _ _ (fun k_ => some k_ ≠ (v136 : Value).ownBlock ∧ some k_ ≠ (v139 : Value).ownBlock ∧ some k_ ≠ (.slice Ao71 y141.length co71 : Value).ownBlock) (fun _ => False) rfl rfl ?aO ?aR (fun _ _ h => h) (fun _ h => h.elim) ?aF ?aB ?aS ?aL ?_
     (case aR => exact Kd.C_up (Kd.R_reads' HO143.out).2.2)
     (case aB => exact (hb_))
     (case aF => exact (fun k_ hk => ⟨Kd.fresh' (Kd.R_lt (Kd.R_up HO137.out)) k_ hk,Kd.fresh' (Kd.R_lt (Kd.R_up HO140.out)) k_ hk,Kd.fresh' (Kd.R_lt (Kd.R_up HO143.out)) k_ hk⟩))
     (case aO => exact (Kd.R_up HO_130003.out))
     (case aS => exact (below_size (hb_)))
     (case aL => have:=LMc55.out;omega)
     intro v145 w70 ho hb hg hat
     rw [← Ny144.out] at ho
     have n0_:=Aside0.mk (Kd.R_over' (Kd.R_up HO_130004.out) (Kd.R_typed (Kd.R_up HO_130003.out)) (by decide) hg)
     have n1_:=Aside0.mk (blk_grown (blk_up BK126.out) hg (Kd.R_ne HO_130003.out BK126.out (by decide)))
     have n2_:=Aside0.mk (blk_grown (blk_up BK127.out) hg (Kd.R_ne HO_130003.out BK127.out (by decide)))
     have n3_:=Aside0.mk (blk_grown (blk_up BK129.out) hg (Kd.R_ne HO_130003.out BK129.out (by decide)))
     have n4_:=Aside0.mk (blk_grown (blk_up BK134.out) hg (Kd.R_ne HO_130003.out BK134.out (by decide)))
     have n5_:=Aside0.mk (Kd.R_after (ok:=(fun k_ => some k_ ≠ (v139 : Value).ownBlock ∧ some k_ ≠ (.slice Ao71 y141.length co71 : Value).ownBlock)) (by (with_reducible repeat (first|apply Kd.R_alloc|apply Kd.R_drewN|apply Kd.R_drew));exact Kd.R_mono HO137.out (fun _ hk => ⟨⟨hk.1,hk.2.1⟩,hk.2.2⟩)) hg hat)
     have n6_:=Aside0.mk (Kd.R_after (ok:=(fun k_ => some k_ ≠ (v136 : Value).ownBlock ∧ some k_ ≠ (.slice Ao71 y141.length co71 : Value).ownBlock)) (by (with_reducible repeat (first|apply Kd.R_alloc|apply Kd.R_drewN|apply Kd.R_drew));exact Kd.R_mono HO140.out (fun _ hk => ⟨⟨hk.1,hk.2.1⟩,hk.2.2⟩)) hg hat)
     have n7_:=Aside0.mk (Kd.R_after (ok:=(fun k_ => some k_ ≠ (v136 : Value).ownBlock ∧ some k_ ≠ (v139 : Value).ownBlock)) (by (with_reducible repeat (first|apply Kd.R_alloc|apply Kd.R_drewN|apply Kd.R_drew));exact Kd.R_mono HO143.out (fun _ hk => ⟨⟨hk.1,hk.2.1⟩,hk.2.2⟩)) hg hat)
     have n8_:=Aside0.mk (hb)
     have n9_:=Aside0.mk (ho)
     clear HO_130004
     clear BK126
     clear BK127
     clear BK129
     clear BK134
     clear HO137
     clear HO140
     clear HO143
     clear HB
     clear HO_130003
     have HO_130004:=n0_
     have BK126:=n1_
     have BK127:=n2_
     have BK129:=n3_
     have BK134:=n4_
     have HO137:=n5_
     have HO140:=n6_
     have HO143:=n7_
     have HB:=n8_
     have HO146:=n9_
     clear n0_ n1_ n2_ n3_ n4_ n5_ n6_ n7_ n8_ n9_
     clear ho hb hg hat
     obtain ⟨Ao72,co72,eo72⟩:=Kd.R_slice HO140.out
     (first|subst eo72|(injection eo72 with f1_ f2_ f3_;have f4_:=f1_.symm;have f5_:=f3_.symm;clear f1_ f2_ f3_;subst f4_;subst f5_))
     obtain ⟨Ao74,co74,eo74⟩:=Kd.R_slice HO146.out
     (first|subst eo74|(injection eo74 with f1_ f2_ f3_;have f4_:=f1_.symm;have f5_:=f3_.symm;clear f1_ f2_ f3_;subst f4_;subst f5_))
     refine hK.out _ _ ⟨(blk_cell BK129.out 0).trans rfl,(blk_cell BK129.out 1).trans rfl,(blk_cell BK129.out 2).trans rfl,(blk_cell BK129.out 3).trans rfl,(blk_cell BK129.out 4).trans rfl⟩ (fun hHeld => ?_)
     clear hK K
     refine norm_ (a':=?_) ?_ ?_
     rotate_left
     ·show Act.put _ (some 116) _ = _
      simp only [Act.put,List.setIfInBounds_toArray,List.set_cons_zero,List.set_cons_succ,i64_w,i32_w]
      rfl
     refine last_ (i:=11) (N:=none) #[true,true,true,true,true,true,true,true,true,true,true,true,false,false] rfl rfl (one_of HT_.out (by kernel_rfl)) (by decide) (fun K hK => ?_)
     have hs73 : w70.cell? ⟨gb129,2,none⟩ = some (.slice Ao60 x130002_1.length co60):=(blk_cell BK129.out 2).trans rfl
     have hfs73:=blk_frozen BK129.out 2
     have hns73_0:=NB126_129.out
     have hns73_1:=NB127_129.out
     have hns73_3:=NB134_129.out
     have hms73_0:=NB129_126.out
     have hms73_1:=NB129_127.out
     have hms73_3:=NB129_134.out
     refine skip_ (w1:=?_) (by rfl) rfl ?_ ?_
     rotate_left
     ·go_simp
      rfl
     refine hK.out _ _ ?_
     clear hK K
     refine pI 12 (some 118) ?_
     refine last_ (i:=13) (N:=none) #[true,true,true,true,true,true,true,true,true,true,true,true,true,true] rfl rfl (one_of HT_.out (by kernel_rfl)) (by decide) (fun K hK => ?_)
     have hs75 : w70.cell? ⟨gb129,3,none⟩ = some (.slice Ao61 x130003_1.length co61):=(blk_cell BK129.out 3).trans rfl
     have hfs75:=blk_frozen BK129.out 3
     have hns75_0:=NB126_129.out
     have hns75_1:=NB127_129.out
     have hns75_3:=NB134_129.out
     have hms75_0:=NB129_126.out
     have hms75_1:=NB129_127.out
     have hms75_3:=NB129_134.out
     refine skip_ (w1:=?_) (by rfl) rfl ?_ ?_
     rotate_left
     ·go_simp
      rfl
     refine hK.out _ _ ?_
     clear hK K
     refine done_ (done_of HT_.out (by kernel_rfl)) ?_
     have hnb76:=NB129_126.out
     have hnc76:=NB126_129.out
     have hnb77:=NB129_127.out
     have hnc77:=NB127_129.out
     have hnb78:=NB129_134.out
     have hnc78:=NB134_129.out
     obtain ⟨_,_,_,_,_,_,_,_,_,_⟩:=cells5 BK129.out
     have hnb80:=NB134_126.out
     have hnc80:=NB126_134.out
     have hnb81:=NB134_127.out
     have hnc81:=NB127_134.out
     obtain ⟨_,_,_,_,_,_,_,_⟩:=cells4 BK134.out
     try go_wp2_with (first|((with_reducible refine gate_dst (N:=131) rfl ?_);refine Kd.R_lit Kd.bool _ 4 ?hg (N:=131) ?hd (xs:=([decide ((ji58) ≤ 2)] : List Bool)) (inner:=[.bool (decide ((ji58) ≤ 2))]) (ok:=fun _ => True) (okp:=fun _ => True) ?hr ?hp (fun _ hk => hk) trivial (Below.refl _ _) (Nat.le_refl _) (by simp) ?_;(case hd => rfl);(case hg => rfl);(case hr => first|(go_simp;done)|(go_simp;rfl));(case hp => exact (Reps.one (show Kd.M Kd.bool _ _ _ (decide ((ji58) ≤ 2)) [.bool (decide ((ji58) ≤ 2))] from rfl) (Reps.none _ _)));intro v148 w83 ho84 hb hg_ hnew_;clear hg_ hnew_;(first|rw [← Ny147.out] at ho84|(simp only [Int.reduceToNat] at ho84;rw [← Ny147.out] at ho84));have HO149:=Aside0.mk (Kd.R_lower (Kd.R_new' ho84 (Kd.R_lt (by (with_reducible repeat (first|apply Kd.R_alloc|apply Kd.R_drewN|apply Kd.R_drew));exact (Kd.R_mono (Kd.R_fars gb129 (Kd.R_types HO_130004.out BK129.out (by decide)) (fun _ hk => hk.2)) (fun _ h_ => h_.1))))) (below_size (hb_)));replace HO_130004:=Aside0.mk (Kd.R_elder' (by (with_reducible repeat (first|apply Kd.R_alloc|apply Kd.R_drewN|apply Kd.R_drew));exact (Kd.R_mono (Kd.R_fars gb129 (Kd.R_types HO_130004.out BK129.out (by decide)) (fun _ hk => hk.2)) (fun _ h_ => h_.1))) (Kd.R_base ho84) hb);replace HO137:=Aside0.mk (Kd.R_below (by (with_reducible repeat (first|apply Kd.R_alloc|apply Kd.R_drewN|apply Kd.R_drew));exact (Kd.R_mono (Kd.R_fars gb129 (Kd.R_types HO137.out BK129.out (by decide)) (fun _ hk => hk.2)) (fun _ h_ => h_.1))) hb);replace HO140:=Aside0.mk (Kd.R_below (by (with_reducible repeat (first|apply Kd.R_alloc|apply Kd.R_drewN|apply Kd.R_drew));exact (Kd.R_mono (Kd.R_fars gb129 (Kd.R_types HO140.out BK129.out (by decide)) (fun _ hk => hk.2)) (fun _ h_ => h_.1))) hb);replace HO143:=Aside0.mk (Kd.R_below (by (with_reducible repeat (first|apply Kd.R_alloc|apply Kd.R_drewN|apply Kd.R_drew));exact (Kd.R_mono (Kd.R_fars gb129 (Kd.R_types HO143.out BK129.out (by decide)) (fun _ hk => hk.2)) (fun _ h_ => h_.1))) hb);replace HO146:=Aside0.mk (Kd.R_below (by (with_reducible repeat (first|apply Kd.R_alloc|apply Kd.R_drewN|apply Kd.R_drew));exact (Kd.R_mono (Kd.R_fars gb129 (Kd.R_types HO146.out BK129.out (by decide)) (fun _ hk => hk.2)) (fun _ h_ => h_.1))) hb);replace BK126:=Aside0.mk (blk_below (g:=gb126) (o:=.cells #[.int .i64 a0_0,.int .i64 a0_1,.slice (some ad130) l0_2.length c0_2] 24 (0,0)) (by (with_reducible repeat (first|refine blk_drewN ?_ _|refine blk_drew ?_|refine blk_alloc ?_ _));refine blk_far ?_ NB126_129.out _;(with_reducible repeat (first|refine blk_drewN ?_ _|refine blk_drew ?_|refine blk_alloc ?_ _));refine blk_far ?_ NB126_129.out _;(with_reducible repeat (first|refine blk_drewN ?_ _|refine blk_drew ?_|refine blk_alloc ?_ _));exact BK126.out) hb);replace BK127:=Aside0.mk (blk_below (g:=gb127) (o:=.cells #[.int .i64 0,.int .i64 0,.slice none 0 0,.slice none 0 0,.slice none 0 0] 52 (0,0)) (by (with_reducible repeat (first|refine blk_drewN ?_ _|refine blk_drew ?_|refine blk_alloc ?_ _));refine blk_far ?_ NB127_129.out _;(with_reducible repeat (first|refine blk_drewN ?_ _|refine blk_drew ?_|refine blk_alloc ?_ _));refine blk_far ?_ NB127_129.out _;(with_reducible repeat (first|refine blk_drewN ?_ _|refine blk_drew ?_|refine blk_alloc ?_ _));exact BK127.out) hb);replace BK129:=Aside0.mk (blk_below (g:=gb129) (o:=.cells #[.int .i64 a0_0,.int .i64 a0_1,.slice Ao72 y138.length co72,.slice Ao74 y144.length co74,u130004] 52 (0,0)) (by (with_reducible repeat (first|refine blk_drewN ?_ _|refine blk_drew ?_|refine blk_alloc ?_ _));refine blk_put (cs:=#[.int .i64 a0_0,.int .i64 a0_1,.slice Ao72 y138.length co72,.slice Ao61 x130003_1.length co61,u130004]) ?_ 3 _ rfl;(with_reducible repeat (first|refine blk_drewN ?_ _|refine blk_drew ?_|refine blk_alloc ?_ _));refine blk_put (cs:=#[.int .i64 a0_0,.int .i64 a0_1,.slice Ao60 x130002_1.length co60,.slice Ao61 x130003_1.length co61,u130004]) ?_ 2 _ rfl;(with_reducible repeat (first|refine blk_drewN ?_ _|refine blk_drew ?_|refine blk_alloc ?_ _));exact BK129.out) hb);replace BK134:=Aside0.mk (blk_below (g:=gb134) (o:=.cells #[.int .i64 (rd l0_2 (ji17)),.int .i64 (rd l0_2 (ji20)),.int .i64 (rd l0_2 (ji23)),.int .i64 (rd l0_2 (ji26))] 71 (0,0)) (by (with_reducible repeat (first|refine blk_drewN ?_ _|refine blk_drew ?_|refine blk_alloc ?_ _));refine blk_far ?_ NB134_129.out _;(with_reducible repeat (first|refine blk_drewN ?_ _|refine blk_drew ?_|refine blk_alloc ?_ _));refine blk_far ?_ NB134_129.out _;(with_reducible repeat (first|refine blk_drewN ?_ _|refine blk_drew ?_|refine blk_alloc ?_ _));exact BK134.out) hb);replace HB:=hbs hb;clear hb ho84;obtain ⟨Ao86,co86,eo86⟩:=Kd.R_slice HO149.out;subst eo86)|((with_reducible refine gate_builtin (b:=.append) (xs:=#[.tmp 120,.tmp 131]) rfl ?_);at_builtin;refine Kd.R_append_rows Kd.bool (w0:=w) w.heap.size rfl (.tmp 120) (.tmp 131) 50 4 (.bool false) 1 rfl Try.underlying50 info4 rfl (by decide) (by omega) u130004 x130004_1 y147 _ _ _ (fun k_ => some k_ ≠ (.slice Ao86 y147.length co86 : Value).ownBlock) (fun _ => False) rfl rfl ?aO ?aR (fun _ _ h => h) (fun _ h => h.elim) ?aF ?aB ?aS ?aL ?_;(case aR => exact Kd.C_up (Kd.R_reads' HO149.out).2.2);(case aB => exact (hb_));(case aF => exact (fun k_ hk => Kd.fresh' (Kd.R_lt (Kd.R_up HO149.out)) k_ hk));(case aO => exact (by (with_reducible repeat (first|apply Kd.R_alloc|apply Kd.R_drewN|apply Kd.R_drew));exact Kd.R_mono HO_130004.out (fun _ hk => hk.2)));(case aS => exact (below_size (hb_)));(case aL => have:=LMc59.out;omega);intro v151 w85 ho hb hg hat;rw [← Ny150.out] at ho;have HO152:=Aside0.mk (ho);replace BK126:=Aside0.mk (blk_grown (blk_up BK126.out) hg (Kd.R_ne HO_130004.out BK126.out (by decide)));replace BK127:=Aside0.mk (blk_grown (blk_up BK127.out) hg (Kd.R_ne HO_130004.out BK127.out (by decide)));replace BK129:=Aside0.mk (blk_grown (blk_up BK129.out) hg (Kd.R_ne HO_130004.out BK129.out (by decide)));replace BK134:=Aside0.mk (blk_grown (blk_up BK134.out) hg (Kd.R_ne HO_130004.out BK134.out (by decide)));replace HO137:=Aside0.mk (Kd.R_over' (Kd.R_up HO137.out) (Kd.R_typed (Kd.R_up HO_130004.out)) (by decide) hg);replace HO140:=Aside0.mk (Kd.R_over' (Kd.R_up HO140.out) (Kd.R_typed (Kd.R_up HO_130004.out)) (by decide) hg);replace HO143:=Aside0.mk (Kd.R_over' (Kd.R_up HO143.out) (Kd.R_typed (Kd.R_up HO_130004.out)) (by decide) hg);replace HO146:=Aside0.mk (Kd.R_over' (Kd.R_up HO146.out) (Kd.R_typed (Kd.R_up HO_130004.out)) (by decide) hg);replace HO149:=Aside0.mk (Kd.R_after (ok:=(fun _ => True)) (Kd.R_up HO149.out) hg hat);replace HB:=Aside0.mk (hb);clear HO_130004;clear ho hb hg hat;obtain ⟨Ao87,co87,eo87⟩:=Kd.R_slice HO152.out;subst eo87;obtain ⟨_,_,_,_,_,_,_,_,_,_⟩:=cells5 BK129.out))
     go_roundg k2
     case measure => have:=HK1.out;have:=HK2.out;omega
     case rel => exact ⟨(wrap64 (x31_1 + 1)),(y138),(y144),(y150),(.slice Ao72 y138.length co72),(.slice Ao74 y144.length co74),(.slice Ao87 y150.length co87),(by first|rfl|(simp;done)|(simp [*];done)),H',⟨by have:=HK1.out;have:=HK2.out;omega⟩,⟨by (with_reducible repeat (first|apply Kd.R_alloc|apply Kd.R_drewN|apply Kd.R_drew));exact Kd.R_mono (Kd.R_far (p:=⟨gb129,4,none⟩) (Kd.R_types HO140.out BK129.out (by decide)) (fun _ hk => hk.2) (.slice Ao87 y150.length co87)) (fun _ hk => hk.1.2)⟩,⟨by (with_reducible repeat (first|apply Kd.R_alloc|apply Kd.R_drewN|apply Kd.R_drew));exact Kd.R_mono (Kd.R_far (p:=⟨gb129,4,none⟩) (Kd.R_types HO146.out BK129.out (by decide)) (fun _ hk => hk.2) (.slice Ao87 y150.length co87)) (fun _ hk => hk.1.2.1)⟩,⟨by (with_reducible repeat (first|apply Kd.R_alloc|apply Kd.R_drewN|apply Kd.R_drew));exact Kd.R_mono (Kd.R_far (p:=⟨gb129,4,none⟩) (Kd.R_types HO152.out BK129.out (by decide)) (fun _ hk => hk.2) (.slice Ao87 y150.length co87)) (fun _ hk => trivial)⟩,⟨by (with_reducible repeat (first|refine blk_drewN ?_ _|refine blk_drew ?_|refine blk_alloc ?_ _));refine blk_far ?_ NB126_129.out _;(with_reducible repeat (first|refine blk_drewN ?_ _|refine blk_drew ?_|refine blk_alloc ?_ _));exact BK126.out⟩,⟨by (with_reducible repeat (first|refine blk_drewN ?_ _|refine blk_drew ?_|refine blk_alloc ?_ _));refine blk_far ?_ NB127_129.out _;(with_reducible repeat (first|refine blk_drewN ?_ _|refine blk_drew ?_|refine blk_alloc ?_ _));exact BK127.out⟩,⟨by (with_reducible repeat (first|refine blk_drewN ?_ _|refine blk_drew ?_|refine blk_alloc ?_ _));refine blk_put (cs:=#[.int .i64 a0_0,.int .i64 a0_1,.slice Ao72 y138.length co72,.slice Ao74 y144.length co74,u130004]) ?_ 4 _ rfl;(with_reducible repeat (first|refine blk_drewN ?_ _|refine blk_drew ?_|refine blk_alloc ?_ _));exact BK129.out⟩,⟨hb_⟩⟩

end Go.Proofs.Ytiencnnkphipoaa.P

/- Functions of this seat as plain Lean functions, with proofs that the Go code comes to just their answers, or what stands between them and a law's statement; no conditions. (Laid by a program of this session, out of the kit's print.) -/
import Derived.Test.YthjmdpekcleihaaPx0
import Derived.Test.YthjmdpekcleihaaPx3
namespace Go.Proofs.Ythjmdpekcleihaa.P
open Go.RowKit Go.Proofs.YthjmdpekcleihaaW.PrintWords Go.Proofs.YthjmdpekcleihaaW.PrintLast Go.Proofs.YthjmdpekcleihaaW.PrintMore
attribute [local go_sem] max2_int min2_int max_two min_two max_three min_three max_four min_four   -- for this text's walks alone
set_option linter.unusedVariables false
set_option linter.unusedSimpArgs false

/-! ### lane_joined: function 68 -/
def lane_joined.f (a0_0 : Int) (a0_1 : Int) (l0_2 : List Int) (l0_3 : List Int) (a1 : Int) (a2 : Int) : Option (Int × Bool) := (lane_beside.f a0_0 a0_1 a1 a2).bind fun bt111 => (if bt111.2 = true then (if 0 ≤ a1 then (if a1 < (l0_2.length : Int) then (if 0 ≤ a2 then (if (Go.bits .and .i64 (shr .i64 (rd l0_2 a1) a2) 1) = 1 then (if 0 ≤ bt111.1 then (if bt111.1 < (l0_2.length : Int) then (if 0 ≤ (Int.tmod (wrap64 (a2 + 2)) 4) then (some (bt111.1, ((Go.bits .and .i64 (shr .i64 (rd l0_2 bt111.1) (Int.tmod (wrap64 (a2 + 2)) 4)) 1) == 1))) else (none)) else (none)) else (none)) else (some (bt111.1, false))) else (none)) else (none)) else (none)) else (some (bt111.1, false)))
set_option maxHeartbeats 8000000 in
set_option maxRecDepth 100000 in
theorem lane_joined.calls (a0_0 : Int) (a0_1 : Int) (A0_2 : Option Addr) (c0_2 : Nat) (l0_2 : List Int) (A0_3 : Option Addr) (c0_3 : Nat) (l0_3 : List Int) (a1 : Int) (a2 : Int) (r1 : Int) (r2 : Bool) (w : World) (hr0_2 : Kd.C (Kd.int .i64) w A0_2 l0_2.length l0_2) (hc0_2 : l0_2.length ≤ c0_2) (hr0_3 : Kd.C (Kd.int .i64) w A0_3 l0_3.length l0_3) (hc0_3 : l0_3.length ≤ c0_3) (h : lane_joined.f a0_0 a0_1 l0_2 l0_3 a1 a2 = some (r1, r2)) :
  Calls Try.prog 68 #[.agg #[.int .i64 a0_0,.int .i64 a0_1,.slice A0_2 l0_2.length c0_2,.slice A0_3 l0_3.length c0_3],.int .i64 a1,.int .i64 a2] w fun e w' => e = .returned (.tuple #[.int .i64 r1,.bool r2]) ∧ Below w.heap.size w w':=by
 have hu24:=Try.underlying24
 have HR0_2:=Aside0.mk hr0_2
 have HC0_2:=Aside0.mk hc0_2
 clear hr0_2 hc0_2
 have HR0_3:=Aside0.mk hr0_3
 have HC0_3:=Aside0.mk hc0_3
 clear hr0_3 hc0_3
 have HB:=Aside0.mk (Below.refl w.heap.size w)
 have H : ((lane_beside.f a0_0 a0_1 a1 a2).bind fun bt111 => (if bt111.2 = true then (if 0 ≤ a1 then (if a1 < (l0_2.length : Int) then (if 0 ≤ a2 then (if (Go.bits .and .i64 (shr .i64 (rd l0_2 a1) a2) 1) = 1 then (if 0 ≤ bt111.1 then (if bt111.1 < (l0_2.length : Int) then (if 0 ≤ (Int.tmod (wrap64 (a2 + 2)) 4) then (some (bt111.1,((Go.bits .and .i64 (shr .i64 (rd l0_2 bt111.1) (Int.tmod (wrap64 (a2 + 2)) 4)) 1) == 1))) else (none)) else (none)) else (none)) else (some (bt111.1,false))) else (none)) else (none)) else (none)) else (some (bt111.1,false)))) = some (r1,r2):=h
 clear h
 replace H:=Option.bind_eq_some_iff.mp H
 obtain ⟨⟨t111,t112⟩,A40,H⟩:=H
 replace H : (if t112 = true then (if 0 ≤ a1 then (if a1 < (l0_2.length : Int) then (if 0 ≤ a2 then (if (Go.bits .and .i64 (shr .i64 (rd l0_2 a1) a2) 1) = 1 then (if 0 ≤ t111 then (if t111 < (l0_2.length : Int) then (if 0 ≤ (Int.tmod (wrap64 (a2 + 2)) 4) then (some (t111,((Go.bits .and .i64 (shr .i64 (rd l0_2 t111) (Int.tmod (wrap64 (a2 + 2)) 4)) 1) == 1))) else (none)) else (none)) else (none)) else (some (t111,false))) else (none)) else (none)) else (none)) else (some (t111,false))) = some (r1,r2):=H
 have A4:=Aside0.mk A40
 clear A40
 by_cases c5 : t112 = true
 ·subst c5
  have H1 : (if 0 ≤ a1 then (if a1 < (l0_2.length : Int) then (if 0 ≤ a2 then (if (Go.bits .and .i64 (shr .i64 (rd l0_2 a1) a2) 1) = 1 then (if 0 ≤ t111 then (if t111 < (l0_2.length : Int) then (if 0 ≤ (Int.tmod (wrap64 (a2 + 2)) 4) then (some (t111,((Go.bits .and .i64 (shr .i64 (rd l0_2 t111) (Int.tmod (wrap64 (a2 + 2)) 4)) 1) == 1))) else (none)) else (none)) else (none)) else (some (t111,false))) else (none)) else (none)) else (none)) = some (r1,r2):=by rw [if_pos rfl] at H;exact H
  clear H
  have H:=H1
  clear H1
  replace H:=ifp_ H;obtain ⟨c6,H⟩:=H
  have c6b0 : decide (0 ≤ a1) = true:=decide_eq_true c6
  clear c6
  replace H:=ifp_ H;obtain ⟨c7,H⟩:=H
  have c7b0 : decide (a1 < (l0_2.length : Int)) = true:=decide_eq_true c7
  clear c7
  replace H:=ifp_ H;obtain ⟨c8,H⟩:=H
  have c8b0:=eq_true c8
  have c8b1 : decide (0 ≤ a2) = true:=decide_eq_true c8
  clear c8
  obtain ⟨ji9,hji9⟩ : ∃ j_ : Int,(shr .i64 (rd l0_2 a1) a2) = j_:=⟨_,rfl⟩
  replace H : (if (Go.bits .and .i64 (ji9) 1) = 1 then (if 0 ≤ t111 then (if t111 < (l0_2.length : Int) then (if 0 ≤ (Int.tmod (wrap64 (a2 + 2)) 4) then (some (t111,((Go.bits .and .i64 (shr .i64 (rd l0_2 t111) (Int.tmod (wrap64 (a2 + 2)) 4)) 1) == 1))) else (none)) else (none)) else (none)) else (some (t111,false))) = some (r1,r2):=by first|(rw [hji9] at H;exact H)|(simp only [hji9] at H ⊢;exact H)
  (try rw [hji9] at A4)
  have hji9_ : ((rd l0_2 a1) / 2 ^ min a2.toNat 64) = ji9:=hji9
  have hji9z : a2 ≤ 64 → ((rd l0_2 a1) / 2 ^ a2.toNat) = ji9:=shr_small hji9
  by_cases c10 : (Go.bits .and .i64 (ji9) 1) = 1
  ·rw [if_pos c10] at H
   have c10b0:=bqt c10
   have c10b1:=bnf c10
   clear c10
   replace H:=ifp_ H;obtain ⟨c11,H⟩:=H
   have c11b0 : decide (0 ≤ t111) = true:=decide_eq_true c11
   clear c11
   replace H:=ifp_ H;obtain ⟨c12,H⟩:=H
   have c12b0 : decide (t111 < (l0_2.length : Int)) = true:=decide_eq_true c12
   clear c12
   obtain ⟨ji13,hji13⟩ : ∃ j_ : Int,(Int.tmod (wrap64 (a2 + 2)) 4) = j_:=⟨_,rfl⟩
   replace H : (if 0 ≤ (ji13) then (some (t111,((Go.bits .and .i64 (shr .i64 (rd l0_2 t111) (ji13)) 1) == 1))) else (none)) = some (r1,r2):=by first|(rw [hji13] at H;exact H)|(simp only [hji13] at H ⊢;exact H)
   (try rw [hji13] at A4)
   replace H:=ifp_ H;obtain ⟨c14,H⟩:=H
   have c14b0:=eq_true c14
   have c14b1 : decide (0 ≤ (ji13)) = true:=decide_eq_true c14
   clear c14
   obtain ⟨ji15,hji15⟩ : ∃ j_ : Int,(shr .i64 (rd l0_2 t111) (ji13)) = j_:=⟨_,rfl⟩
   replace H : (some (t111,((Go.bits .and .i64 (ji15) 1) == 1))) = some (r1,r2):=by first|(rw [hji15] at H;exact H)|(simp only [hji15] at H ⊢;exact H)
   (try rw [hji15] at A4)
   have hji15_ : ((rd l0_2 t111) / 2 ^ min (ji13).toNat 64) = ji15:=hji15
   have hji15z : (ji13) ≤ 64 → ((rd l0_2 t111) / 2 ^ (ji13).toNat) = ji15:=shr_small hji15
   simp only [Option.some.injEq,Prod.mk.injEq] at H
   obtain ⟨rfl,rfl⟩:=H
   go_enter Try.func68,Try.ntmps68
   go_wp2_with (first|((with_reducible refine gate_dst (N:=3) rfl ?_);refine box_ev (N:=3) (cs:=#[.int .i64 a0_0,.int .i64 a0_1,.slice A0_2 l0_2.length c0_2,.slice A0_3 l0_3.length c0_3]) (t:=24) ?_;intro gb110 hg w16 hbox hb;have BK110:=Aside0.mk (hbox);have GW110 : Aside0 (w.heap.size ≤ gb110):=gsz hg;have GE110:=GW110;replace HB:=hbs hb;clear hb hbox hg;obtain ⟨_,_,_,_,_,_,_,_⟩:=cells4 BK110.out)|(go_at_call 72;(with_reducible refine (lane_beside.calls a0_0 a0_1 a1 a2 t111 true _ A4.out).mono ?_);rintro e w' ⟨rfl,⟨nd,rfl⟩⟩;(try first|exact ⟨rfl,_,World.drewN_drewN _ _ _⟩|exact ⟨rfl,_,Eq.trans (World.drewN_drewN _ _ _) (congrArg (World.drewN _) (Nat.add_assoc _ _ _))⟩);have p113 : 0 ≤ (a1 : Int):=of_decide_eq_true (by first|(with_reducible assumption)|assumption);have q113 : a1 < (l0_2.length : Int):=of_decide_eq_true (by first|(with_reducible assumption)|assumption);obtain ⟨ad113,e113,hx113_0⟩:=Kd.at_int HR0_2.out a1 p113 q113;cases e113;replace hx113_0:=(HB.out.cell (World.block_lt_of_cell? w _ hx113_0)).trans hx113_0;replace p113:=eq_true p113;replace q113:=eq_true q113;have p114 : 0 ≤ (t111 : Int):=of_decide_eq_true (by first|(with_reducible assumption)|assumption);have q114 : t111 < (l0_2.length : Int):=of_decide_eq_true (by first|(with_reducible assumption)|assumption);obtain ⟨ad114,e114,hx114_0⟩:=Kd.at_int HR0_2.out t111 p114 q114;obtain rfl : ad113 = ad114:=(by injection e114);replace hx114_0:=(HB.out.cell (World.block_lt_of_cell? w _ hx114_0)).trans hx114_0;replace p114:=eq_true p114;replace q114:=eq_true q114))
   go_quiet (fail)
   go_wp2
   go_ret2
   exact ⟨by first|rfl|(simp [errW_none,errW_some] <;> rfl)|(simp only [← hji9,← hji13,← hji15];first|rfl|(simp [errW_none,errW_some] <;> rfl))|(simp [*,errW_none,errW_some] <;> rfl),hb_⟩
  ·rw [if_neg c10] at H
   have c10b0:=bqf c10
   have c10b1:=bnt c10
   simp only [Option.some.injEq,Prod.mk.injEq] at H
   obtain ⟨rfl,rfl⟩:=H
   go_enter Try.func68,Try.ntmps68
   go_wp2_with (first|((with_reducible refine gate_dst (N:=3) rfl ?_);refine box_ev (N:=3) (cs:=#[.int .i64 a0_0,.int .i64 a0_1,.slice A0_2 l0_2.length c0_2,.slice A0_3 l0_3.length c0_3]) (t:=24) ?_;intro gb110 hg w18 hbox hb;have BK110:=Aside0.mk (hbox);have GW110 : Aside0 (w.heap.size ≤ gb110):=gsz hg;have GE110:=GW110;replace HB:=hbs hb;clear hb hbox hg;obtain ⟨_,_,_,_,_,_,_,_⟩:=cells4 BK110.out)|(go_at_call 72;(with_reducible refine (lane_beside.calls a0_0 a0_1 a1 a2 t111 true _ A4.out).mono ?_);rintro e w' ⟨rfl,⟨nd,rfl⟩⟩;(try first|exact ⟨rfl,_,World.drewN_drewN _ _ _⟩|exact ⟨rfl,_,Eq.trans (World.drewN_drewN _ _ _) (congrArg (World.drewN _) (Nat.add_assoc _ _ _))⟩);have p113 : 0 ≤ (a1 : Int):=of_decide_eq_true (by first|(with_reducible assumption)|assumption);have q113 : a1 < (l0_2.length : Int):=of_decide_eq_true (by first|(with_reducible assumption)|assumption);obtain ⟨ad113,e113,hx113_0⟩:=Kd.at_int HR0_2.out a1 p113 q113;cases e113;replace hx113_0:=(HB.out.cell (World.block_lt_of_cell? w _ hx113_0)).trans hx113_0;replace p113:=eq_true p113;replace q113:=eq_true q113))
   go_quiet (fail)
   go_wp2
   go_ret2
   exact ⟨by first|rfl|(simp [errW_none,errW_some] <;> rfl)|(simp only [← hji9];first|rfl|(simp [errW_none,errW_some] <;> rfl))|(simp [*,errW_none,errW_some] <;> rfl),hb_⟩
 ·replace c5:=Bool.eq_false_iff.mpr c5
  subst c5
  have H1 : (some (t111,false)) = some (r1,r2):=by rw [if_neg (show ¬ (false = true) by decide)] at H;exact H
  clear H
  have H:=H1
  clear H1
  simp only [Option.some.injEq,Prod.mk.injEq] at H
  obtain ⟨rfl,rfl⟩:=H
  go_enter Try.func68,Try.ntmps68
  go_wp2_with (first|((with_reducible refine gate_dst (N:=3) rfl ?_);refine box_ev (N:=3) (cs:=#[.int .i64 a0_0,.int .i64 a0_1,.slice A0_2 l0_2.length c0_2,.slice A0_3 l0_3.length c0_3]) (t:=24) ?_;intro gb110 hg w20 hbox hb;have BK110:=Aside0.mk (hbox);have GW110 : Aside0 (w.heap.size ≤ gb110):=gsz hg;have GE110:=GW110;replace HB:=hbs hb;clear hb hbox hg;obtain ⟨_,_,_,_,_,_,_,_⟩:=cells4 BK110.out)|(go_at_call 72;(with_reducible refine (lane_beside.calls a0_0 a0_1 a1 a2 t111 false _ A4.out).mono ?_);rintro e w' ⟨rfl,⟨nd,rfl⟩⟩;(try first|exact ⟨rfl,_,World.drewN_drewN _ _ _⟩|exact ⟨rfl,_,Eq.trans (World.drewN_drewN _ _ _) (congrArg (World.drewN _) (Nat.add_assoc _ _ _))⟩)))
  go_quiet (fail)
  go_wp2
  go_ret2
  exact ⟨er_,hb_⟩

/-! ### lane_lets: function 101 -/
def lane_lets.f (a0 : Int) (a1 : Int) : Option (Bool) := if a0 = 0 then (some true) else (some ((a0 == 1) == (decide (a1 < 2))))
set_option maxHeartbeats 8000000 in
set_option maxRecDepth 100000 in
theorem lane_lets.calls (a0 : Int) (a1 : Int) (r : Bool) (w : World) (h : lane_lets.f a0 a1 = some r) :
  Calls Try.prog 101 #[.int .i64 a0,.int .i64 a1] w fun e w' => e = .returned (.bool r) ∧ Drawn0 w w':=by
 have H : (if a0 = 0 then (some true) else (some ((a0 == 1) == (decide (a1 < 2))))) = some r:=h
 clear h
 by_cases c3 : a0 = 0
 ·rw [if_pos c3] at H
  have c3b0:=bqt c3
  have c3b1:=bnf c3
  clear c3
  obtain rfl:=Option.some.inj H
  go_enter Try.func101,Try.ntmps101
  go_wp2
  go_ret
  exact ⟨by first|rfl|(simp;done)|(simp [*];done),by repeat (first|exact Drawn0.refl _|apply Drawn0.step)⟩
 ·rw [if_neg c3] at H
  have c3b0:=bqf c3
  have c3b1:=bnt c3
  obtain rfl:=Option.some.inj H
  go_enter Try.func101,Try.ntmps101
  go_wp2
  go_ret
  exact ⟨by first|rfl|(simp;done)|(simp [*];done),by repeat (first|exact Drawn0.refl _|apply Drawn0.step)⟩

/-! ### lane_may: function 85 -/
def lane_may.f (a0_0 : Int) (a0_1 : Int) (l0_2 : List Int) (l0_3 : List Int) (a1 : Int) (a2 : Int) : Option (Bool) := (lane_joined.f a0_0 a0_1 l0_2 l0_3 a1 a2).bind fun bt116 => (if bt116.2 = true then (if 0 ≤ a1 then (if a1 < (l0_3.length : Int) then ((lane_lets.f (rd l0_3 a1) a2).bind fun t119 => (if t119 = true then (if 0 ≤ bt116.1 then (if bt116.1 < (l0_3.length : Int) then ((lane_lets.f (rd l0_3 bt116.1) a2).bind fun t121 => (some t121)) else (none)) else (none)) else (some false))) else (none)) else (none)) else (some false))
set_option maxHeartbeats 8000000 in
set_option maxRecDepth 100000 in
theorem lane_may.calls (a0_0 : Int) (a0_1 : Int) (A0_2 : Option Addr) (c0_2 : Nat) (l0_2 : List Int) (A0_3 : Option Addr) (c0_3 : Nat) (l0_3 : List Int) (a1 : Int) (a2 : Int) (r : Bool) (w : World) (hr0_2 : Kd.C (Kd.int .i64) w A0_2 l0_2.length l0_2) (hc0_2 : l0_2.length ≤ c0_2) (hr0_3 : Kd.C (Kd.int .i64) w A0_3 l0_3.length l0_3) (hc0_3 : l0_3.length ≤ c0_3) (h : lane_may.f a0_0 a0_1 l0_2 l0_3 a1 a2 = some r) :
  Calls Try.prog 85 #[.agg #[.int .i64 a0_0,.int .i64 a0_1,.slice A0_2 l0_2.length c0_2,.slice A0_3 l0_3.length c0_3],.int .i64 a1,.int .i64 a2] w fun e w' => e = .returned (.bool r) ∧ Below w.heap.size w w':=by
 have hu24:=Try.underlying24
 have HR0_2:=Aside0.mk hr0_2
 have HC0_2:=Aside0.mk hc0_2
 clear hr0_2 hc0_2
 have HR0_3:=Aside0.mk hr0_3
 have HC0_3:=Aside0.mk hc0_3
 clear hr0_3 hc0_3
 have HB:=Aside0.mk (Below.refl w.heap.size w)
 have H : ((lane_joined.f a0_0 a0_1 l0_2 l0_3 a1 a2).bind fun bt116 => (if bt116.2 = true then (if 0 ≤ a1 then (if a1 < (l0_3.length : Int) then ((lane_lets.f (rd l0_3 a1) a2).bind fun t119 => (if t119 = true then (if 0 ≤ bt116.1 then (if bt116.1 < (l0_3.length : Int) then ((lane_lets.f (rd l0_3 bt116.1) a2).bind fun t121 => (some t121)) else (none)) else (none)) else (some false))) else (none)) else (none)) else (some false))) = some r:=h
 clear h
 replace H:=Option.bind_eq_some_iff.mp H
 obtain ⟨⟨t116,t117⟩,A40,H⟩:=H
 replace H : (if t117 = true then (if 0 ≤ a1 then (if a1 < (l0_3.length : Int) then ((lane_lets.f (rd l0_3 a1) a2).bind fun t119 => (if t119 = true then (if 0 ≤ t116 then (if t116 < (l0_3.length : Int) then ((lane_lets.f (rd l0_3 t116) a2).bind fun t121 => (some t121)) else (none)) else (none)) else (some false))) else (none)) else (none)) else (some false)) = some r:=H
 have A4:=Aside0.mk A40
 clear A40
 by_cases c5 : t117 = true
 ·subst c5
  have H1 : (if 0 ≤ a1 then (if a1 < (l0_3.length : Int) then ((lane_lets.f (rd l0_3 a1) a2).bind fun t119 => (if t119 = true then (if 0 ≤ t116 then (if t116 < (l0_3.length : Int) then ((lane_lets.f (rd l0_3 t116) a2).bind fun t121 => (some t121)) else (none)) else (none)) else (some false))) else (none)) else (none)) = some r:=by rw [if_pos rfl] at H;exact H
  clear H
  have H:=H1
  clear H1
  replace H:=ifp_ H;obtain ⟨c6,H⟩:=H
  have c6b0 : decide (0 ≤ a1) = true:=decide_eq_true c6
  clear c6
  replace H:=ifp_ H;obtain ⟨c7,H⟩:=H
  have c7b0 : decide (a1 < (l0_3.length : Int)) = true:=decide_eq_true c7
  clear c7
  replace H:=Option.bind_eq_some_iff.mp H
  obtain ⟨t119,A80,H⟩:=H
  replace H : (if t119 = true then (if 0 ≤ t116 then (if t116 < (l0_3.length : Int) then ((lane_lets.f (rd l0_3 t116) a2).bind fun t121 => (some t121)) else (none)) else (none)) else (some false)) = some r:=H
  have A8:=Aside0.mk A80
  clear A80
  by_cases c9 : t119 = true
  ·subst c9
   have H1 : (if 0 ≤ t116 then (if t116 < (l0_3.length : Int) then ((lane_lets.f (rd l0_3 t116) a2).bind fun t121 => (some t121)) else (none)) else (none)) = some r:=by rw [if_pos rfl] at H;exact H
   clear H
   have H:=H1
   clear H1
   replace H:=ifp_ H;obtain ⟨c10,H⟩:=H
   have c10b0 : decide (0 ≤ t116) = true:=decide_eq_true c10
   clear c10
   replace H:=ifp_ H;obtain ⟨c11,H⟩:=H
   have c11b0 : decide (t116 < (l0_3.length : Int)) = true:=decide_eq_true c11
   clear c11
   replace H:=Option.bind_eq_some_iff.mp H
   obtain ⟨t121,A120,H⟩:=H
   replace H : (some t121) = some r:=H
   have A12:=Aside0.mk A120
   clear A120
   obtain rfl:=Option.some.inj H
   go_enter Try.func85,Try.ntmps85
   go_wp2_with (first|((with_reducible refine gate_dst (N:=3) rfl ?_);refine box_ev (N:=3) (cs:=#[.int .i64 a0_0,.int .i64 a0_1,.slice A0_2 l0_2.length c0_2,.slice A0_3 l0_3.length c0_3]) (t:=24) ?_;intro gb115 hg w13 hbox hb;have BK115:=Aside0.mk (hbox);have GW115 : Aside0 (w.heap.size ≤ gb115):=gsz hg;have GE115:=GW115;replace HB:=hbs hb;clear hb hbox hg;obtain ⟨_,_,_,_,_,_,_,_⟩:=cells4 BK115.out)|((with_reducible refine gate_callee (f:=68) rfl ?_);refine goesL_ (some 13) rfl rfl Try.func68 (by kernel_rfl) rfl #[.agg #[.int .i64 a0_0,.int .i64 a0_1,.slice A0_2 l0_2.length c0_2,.slice A0_3 l0_3.length c0_3],.int .i64 a1,.int .i64 a2] rfl ga_ ?_;(with_reducible refine (lane_joined.calls a0_0 a0_1 _ _ l0_2 _ _ l0_3 a1 a2 t116 true _ ?_ ?_ ?_ ?_ A4.out).mono ?_);exact cq HR0_2;exact HC0_2.out;exact cq HR0_3;exact HC0_3.out;rintro e w15 ⟨rfl,hb⟩;refine ⟨_,rfl,?_⟩;replace BK115:=bkb BK115 hb;replace HB:=hbs hb;obtain ⟨_,_,_,_,_,_,_,_⟩:=cells4 BK115.out;have p118 : 0 ≤ (a1 : Int):=of_decide_eq_true (by first|(with_reducible assumption)|assumption);have q118 : a1 < (l0_3.length : Int):=of_decide_eq_true (by first|(with_reducible assumption)|assumption);obtain ⟨ad118,e118,hx118_0⟩:=Kd.at_int HR0_3.out a1 p118 q118;cases e118;replace hx118_0:=(HB.out.cell (World.block_lt_of_cell? w _ hx118_0)).trans hx118_0;replace p118:=eq_true p118;replace q118:=eq_true q118)|(go_at_call 101;(with_reducible refine (lane_lets.calls (rd l0_3 a1) a2 true _ A8.out).mono ?_);rintro e w' ⟨rfl,⟨nd,rfl⟩⟩;have p120 : 0 ≤ (t116 : Int):=of_decide_eq_true (by first|(with_reducible assumption)|assumption);have q120 : t116 < (l0_3.length : Int):=of_decide_eq_true (by first|(with_reducible assumption)|assumption);obtain ⟨ad120,e120,hx120_0⟩:=Kd.at_int HR0_3.out t116 p120 q120;obtain rfl : ad118 = ad120:=(by injection e120);replace hx120_0:=(HB.out.cell (World.block_lt_of_cell? w _ hx120_0)).trans hx120_0;replace p120:=eq_true p120;replace q120:=eq_true q120)|(go_at_call 101;(with_reducible refine (lane_lets.calls (rd l0_3 t116) a2 t121 _ A12.out).mono ?_);rintro e w' ⟨rfl,⟨nd,rfl⟩⟩))
   go_ret
   exact ⟨er_,hb_⟩
  ·replace c9:=Bool.eq_false_iff.mpr c9
   subst c9
   have H1 : (some false) = some r:=by rw [if_neg (show ¬ (false = true) by decide)] at H;exact H
   clear H
   have H:=H1
   clear H1
   obtain rfl:=Option.some.inj H
   go_enter Try.func85,Try.ntmps85
   go_wp2_with (first|((with_reducible refine gate_dst (N:=3) rfl ?_);refine box_ev (N:=3) (cs:=#[.int .i64 a0_0,.int .i64 a0_1,.slice A0_2 l0_2.length c0_2,.slice A0_3 l0_3.length c0_3]) (t:=24) ?_;intro gb115 hg w17 hbox hb;have BK115:=Aside0.mk (hbox);have GW115 : Aside0 (w.heap.size ≤ gb115):=gsz hg;have GE115:=GW115;replace HB:=hbs hb;clear hb hbox hg;obtain ⟨_,_,_,_,_,_,_,_⟩:=cells4 BK115.out)|((with_reducible refine gate_callee (f:=68) rfl ?_);refine goesL_ (some 13) rfl rfl Try.func68 (by kernel_rfl) rfl #[.agg #[.int .i64 a0_0,.int .i64 a0_1,.slice A0_2 l0_2.length c0_2,.slice A0_3 l0_3.length c0_3],.int .i64 a1,.int .i64 a2] rfl ga_ ?_;(with_reducible refine (lane_joined.calls a0_0 a0_1 _ _ l0_2 _ _ l0_3 a1 a2 t116 true _ ?_ ?_ ?_ ?_ A4.out).mono ?_);exact cq HR0_2;exact HC0_2.out;exact cq HR0_3;exact HC0_3.out;rintro e w19 ⟨rfl,hb⟩;refine ⟨_,rfl,?_⟩;replace BK115:=bkb BK115 hb;replace HB:=hbs hb;obtain ⟨_,_,_,_,_,_,_,_⟩:=cells4 BK115.out;have p118 : 0 ≤ (a1 : Int):=of_decide_eq_true (by first|(with_reducible assumption)|assumption);have q118 : a1 < (l0_3.length : Int):=of_decide_eq_true (by first|(with_reducible assumption)|assumption);obtain ⟨ad118,e118,hx118_0⟩:=Kd.at_int HR0_3.out a1 p118 q118;cases e118;replace hx118_0:=(HB.out.cell (World.block_lt_of_cell? w _ hx118_0)).trans hx118_0;replace p118:=eq_true p118;replace q118:=eq_true q118)|(go_at_call 101;(with_reducible refine (lane_lets.calls (rd l0_3 a1) a2 false _ A8.out).mono ?_);rintro e w' ⟨rfl,⟨nd,rfl⟩⟩))
   go_ret
   exact ⟨er_,hb_⟩
 ·replace c5:=Bool.eq_false_iff.mpr c5
  subst c5
  have H1 : (some false) = some r:=by rw [if_neg (show ¬ (false = true) by decide)] at H;exact H
  clear H
  have H:=H1
  clear H1
  obtain rfl:=Option.some.inj H
  go_enter Try.func85,Try.ntmps85
  go_wp2_with (first|((with_reducible refine gate_dst (N:=3) rfl ?_);refine box_ev (N:=3) (cs:=#[.int .i64 a0_0,.int .i64 a0_1,.slice A0_2 l0_2.length c0_2,.slice A0_3 l0_3.length c0_3]) (t:=24) ?_;intro gb115 hg w21 hbox hb;have BK115:=Aside0.mk (hbox);have GW115 : Aside0 (w.heap.size ≤ gb115):=gsz hg;have GE115:=GW115;replace HB:=hbs hb;clear hb hbox hg;obtain ⟨_,_,_,_,_,_,_,_⟩:=cells4 BK115.out)|((with_reducible refine gate_callee (f:=68) rfl ?_);refine goesL_ (some 13) rfl rfl Try.func68 (by kernel_rfl) rfl #[.agg #[.int .i64 a0_0,.int .i64 a0_1,.slice A0_2 l0_2.length c0_2,.slice A0_3 l0_3.length c0_3],.int .i64 a1,.int .i64 a2] rfl ga_ ?_;(with_reducible refine (lane_joined.calls a0_0 a0_1 _ _ l0_2 _ _ l0_3 a1 a2 t116 false _ ?_ ?_ ?_ ?_ A4.out).mono ?_);exact cq HR0_2;exact HC0_2.out;exact cq HR0_3;exact HC0_3.out;rintro e w23 ⟨rfl,hb⟩;refine ⟨_,rfl,?_⟩;replace BK115:=bkb BK115 hb;replace HB:=hbs hb))
  go_ret
  exact ⟨er_,hb_⟩

/-! ### lane_leaves: function 65 -/
def lane_leaves.l0 : Nat → Int → Int → List Int → Int → Int → Int → List Int → List Int → Option (List Int)
 | 0,_,_,_,_,_,_,_,_ => none
 | k + 1,x1,x2,x7,x9,x123000,x123001,x123002,x123003 => if x9 < 4 then (if x9 = x2 then (lane_leaves.l0 k x1 x2 x7 (wrap64 (x9 + 1)) x123000 x123001 x123002 x123003) else ((lane_may.f x123000 x123001 x123002 x123003 x1 x9).bind fun t123 => (if t123 = true then (if x7.length < 17592186044416 then (lane_leaves.l0 k x1 x2 (x7 ++ [x9]) (wrap64 (x9 + 1)) x123000 x123001 x123002 x123003) else (none)) else (lane_leaves.l0 k x1 x2 x7 (wrap64 (x9 + 1)) x123000 x123001 x123002 x123003)))) else (if (x7.length : Int) = 0 then (if x2 ≥ 0 then ((lane_may.f x123000 x123001 x123002 x123003 x1 x2).bind fun t127 => (if t127 = true then (if x7.length < 17592186044416 then (some (x7 ++ [x2])) else (none)) else (some x7))) else (some x7)) else (some x7))
def lane_leaves.f (k : Nat) (a0_0 : Int) (a0_1 : Int) (l0_2 : List Int) (l0_3 : List Int) (a1 : Int) (a2 : Int) : Option (List Int) := lane_leaves.l0 k a1 a2 ([] : List Int) 0 a0_0 a0_1 l0_2 l0_3
theorem lane_leaves.mono_l : ∀ k, (∀ y0 y1 y2 y3 y4 y5 y6 y7, LeO (lane_leaves.l0 k y0 y1 y2 y3 y4 y5 y6 y7) (lane_leaves.l0 (k + 1) y0 y1 y2 y3 y4 y5 y6 y7))
 | 0 => fun _ _ _ _ _ _ _ _ r h => by simp [lane_leaves.l0] at h
 | k + 1 => by
  have ih0:=lane_leaves.mono_l k
  ·intro y0 y1 y2 y3 y4 y5 y6 y7
   unfold lane_leaves.l0
   repeat' first
   | (with_reducible exact ih0 _ _ _ _ _ _ _ _)
   | (with_reducible exact LeO.refl _)
   | (with_reducible exact LeO.none _)
   | (with_reducible refine LeO.ite ?_ ?_)
   | (with_reducible refine LeO.bind ?_ (fun _ => ?_))
   | exact ih0 _ _ _ _ _ _ _ _
   | exact LeO.none _
   | refine LeO.ite ?_ ?_
   | refine LeO.bind ?_ (fun _ => ?_)
theorem lane_leaves.mono : ∀ a0 a1 a2 a3 a4 a5 k, LeO (lane_leaves.f k a0 a1 a2 a3 a4 a5) (lane_leaves.f (k + 1) a0 a1 a2 a3 a4 a5) := by
 intro a0 a1 a2 a3 a4 a5 k
 have ih0:=lane_leaves.mono_l k
 unfold lane_leaves.f
 repeat' first
   | (with_reducible exact ih0 _ _ _ _ _ _ _ _)
   | (with_reducible exact LeO.refl _)
   | (with_reducible exact LeO.none _)
   | (with_reducible refine LeO.ite ?_ ?_)
   | (with_reducible refine LeO.bind ?_ (fun _ => ?_))
   | exact ih0 _ _ _ _ _ _ _ _
   | exact LeO.none _
   | refine LeO.ite ?_ ?_
   | refine LeO.bind ?_ (fun _ => ?_)
set_option maxHeartbeats 8000000 in
set_option maxRecDepth 100000 in
theorem lane_leaves.calls (k : Nat) (a0_0 : Int) (a0_1 : Int) (A0_2 : Option Addr) (c0_2 : Nat) (l0_2 : List Int) (A0_3 : Option Addr) (c0_3 : Nat) (l0_3 : List Int) (a1 : Int) (a2 : Int) (r : List Int) (w : World) (hr0_2 : Kd.C (Kd.int .i64) w A0_2 l0_2.length l0_2) (hc0_2 : l0_2.length ≤ c0_2) (hr0_3 : Kd.C (Kd.int .i64) w A0_3 l0_3.length l0_3) (hc0_3 : l0_3.length ≤ c0_3) (h : lane_leaves.f k a0_0 a0_1 l0_2 l0_3 a1 a2 = some r) :
  Calls Try.prog 65 #[.agg #[.int .i64 a0_0,.int .i64 a0_1,.slice A0_2 l0_2.length c0_2,.slice A0_3 l0_3.length c0_3],.int .i64 a1,.int .i64 a2] w fun e w' => ∃ v0_ : Value,e = .returned (v0_) ∧ Kd.R (Kd.int .i64) 3 w' w.heap.size (fun _ => True) v0_ r ∧ Below w.heap.size w w':=by
 have hu24:=Try.underlying24
 have HR0_2:=Aside0.mk hr0_2
 have HC0_2:=Aside0.mk hc0_2
 clear hr0_2 hc0_2
 have HR0_3:=Aside0.mk hr0_3
 have HC0_3:=Aside0.mk hc0_3
 clear hr0_3 hc0_3
 have HB:=Aside0.mk (Below.refl w.heap.size w)
 have H : (lane_leaves.l0 k a1 a2 ([] : List Int) 0 a0_0 a0_1 l0_2 l0_3) = some r:=h
 clear h
 have H':=Aside0.mk H
 clear H
 go_enter Try.func65,Try.ntmps65
 go_wp2_with (first|((with_reducible refine gate_dst (N:=3) rfl ?_);refine box_ev (N:=3) (cs:=#[.int .i64 a0_0,.int .i64 a0_1,.slice A0_2 l0_2.length c0_2,.slice A0_3 l0_3.length c0_3]) (t:=24) ?_;intro gb122 hg w4 hbox hb;have BK122:=Aside0.mk (hbox);have GW122 : Aside0 (w.heap.size ≤ gb122):=gsz hg;have GE122:=GW122;replace HB:=hbs hb;clear hb hbox hg))
 go_loopg [7,9] k (fun kq v7 v9 w' => ∃ (x7_1 : List Int) (x9_1 : Int),v9 = .int .i64 x9_1 ∧ Aside0 (lane_leaves.l0 kq a1 a2 x7_1 x9_1 a0_0 a0_1 l0_2 l0_3 = some r) ∧ Aside0 (kq ≤ k) ∧ Aside0 (Kd.R (Kd.int .i64) 3 w' w.heap.size (fun _ => True) v7 x7_1) ∧ Aside0 (w'.heap[gb122]? = some (.cells #[.int .i64 a0_0,.int .i64 a0_1,(.slice A0_2 l0_2.length c0_2),(.slice A0_3 l0_3.length c0_3)] 24 (0,0))) ∧ Aside0 (Below w.heap.size w w'))
 case atStart => exact ⟨(([] : List Int)),(0),(by first|rfl|(simp;done)|(simp [*];done)),H',⟨Nat.le_refl _⟩,⟨nl_⟩,⟨blk_up BK122.out⟩,⟨hb_⟩⟩
 case round =>
  clear H'
  obtain ⟨x7_1,x9_1,rfl,HA,HK1,HO_7,BK122,HB⟩:=hrel
  cases gk with
  | zero => exact absurd HA.out (by simp [lane_leaves.l0])
  | succ k1 =>
   have H:=HA.out
   clear HA
   simp only [lane_leaves.l0] at H
   by_cases c5 : x9_1 < 4
   ·rw [if_pos c5] at H
    have c5b0 : decide (x9_1 < 4) = true:=decide_eq_true c5
    clear c5
    by_cases c6 : x9_1 = a2
    ·rw [if_pos c6] at H
     have c6b0:=bqt c6
     have c6b1:=bnf c6
     clear c6
     have H':=Aside0.mk H
     clear H
     go_wp2
     go_roundg k1
     case measure => have:=HK1.out;omega
     case rel => exact ⟨(x7_1),(wrap64 (x9_1 + 1)),(by first|rfl|(simp;done)|(simp [*];done)),H',⟨by have:=HK1.out;omega⟩,⟨Kd.R_up HO_7.out⟩,⟨blk_up BK122.out⟩,⟨hb_⟩⟩
    rw [if_neg c6] at H
    have c6b0:=bqf c6
    have c6b1:=bnt c6
    replace H:=Option.bind_eq_some_iff.mp H
    obtain ⟨t123,A70,H⟩:=H
    replace H : (if t123 = true then (if x7_1.length < 17592186044416 then (lane_leaves.l0 k1 a1 a2 (x7_1 ++ [x9_1]) (wrap64 (x9_1 + 1)) a0_0 a0_1 l0_2 l0_3) else (none)) else (lane_leaves.l0 k1 a1 a2 x7_1 (wrap64 (x9_1 + 1)) a0_0 a0_1 l0_2 l0_3)) = some r:=H
    have A7:=Aside0.mk A70
    clear A70
    by_cases c8 : t123 = true
    ·subst c8
     have H1 : (if x7_1.length < 17592186044416 then (lane_leaves.l0 k1 a1 a2 (x7_1 ++ [x9_1]) (wrap64 (x9_1 + 1)) a0_0 a0_1 l0_2 l0_3) else (none)) = some r:=by rw [if_pos rfl] at H;exact H
     clear H
     have H:=H1
     clear H1
     replace H:=ifp_ H;obtain ⟨c9,H⟩:=H
     have LMc9:=Aside0.mk c9
     clear c9
     obtain ⟨y124,hy124⟩ : ∃ y_ : List Int,y_ = (x7_1 ++ [x9_1]):=⟨_,rfl⟩
     replace H : (lane_leaves.l0 k1 a1 a2 y124 (wrap64 (x9_1 + 1)) a0_0 a0_1 l0_2 l0_3) = some r:=by first|(rw [hy124];with_reducible exact H)|(have H2_:=(Option.bind_some _ _).symm.trans H;rw [hy124];with_reducible exact H2_)|(have H2_:=(Option.bind_some _ _).symm.trans H;with_reducible exact H2_)|with_reducible exact H|(rw [hy124];exact H)|exact H
     have Ny124:=Aside0.mk hy124
     clear hy124
     have H':=Aside0.mk H
     clear H
     obtain ⟨_,_,_,_,_,_,_,_⟩:=cells4 BK122.out
     go_wp2_with (first|(go_at_call 85;(with_reducible refine (lane_may.calls a0_0 a0_1 _ _ l0_2 _ _ l0_3 a1 x9_1 true _ ?_ ?_ ?_ ?_ A7.out).mono ?_);exact cq HR0_2;exact HC0_2.out;exact cq HR0_3;exact HC0_3.out;rintro e w11 ⟨rfl,hb⟩;replace HO_7:=rbw HO_7 hb;replace BK122:=bkb BK122 hb;replace HB:=hbs hb)|((with_reducible refine gate_builtin (b:=.append) (xs:=#[.tmp 21,.tmp 23]) rfl ?_);at_builtin;refine Kd.R_append (Kd.int .i64) (w0:=w) w.heap.size rfl (.tmp 21) (.tmp 23) 22 3 (.int .i64 0) 8 rfl Try.underlying22 info3 rfl (by decide) (by omega) u7 x7_1 x9_1 [.int .i64 x9_1] (fun _ => True) (fun _ => False) rfl rfl ?aP (fun _ hk => hk.elim) ?aF ?aO ?aB ?aS ?aL ?_;(case aP => exact rfl);(case aB => exact (hb_));(case aF => exact (fun _ _ => trivial));(case aO => exact (Kd.R_up HO_7.out));(case aS => exact (below_size (hb_)));(case aL => have:=LMc9.out;omega);intro v125 w12 ho hb hg hat;rw [← Ny124.out] at ho;have HO126:=Aside0.mk (ho);replace BK122:=Aside0.mk (blk_grown (blk_up BK122.out) hg (Kd.R_ne HO_7.out BK122.out (by decide)));replace HB:=Aside0.mk (hb);clear HO_7;clear ho hb hg hat))
     go_roundg k1
     case measure => have:=HK1.out;omega
     case rel => exact ⟨(y124),(wrap64 (x9_1 + 1)),(by first|rfl|(simp;done)|(simp [*];done)),H',⟨by have:=HK1.out;omega⟩,⟨Kd.R_up HO126.out⟩,⟨blk_up BK122.out⟩,⟨hb_⟩⟩
    ·replace c8:=Bool.eq_false_iff.mpr c8
     subst c8
     have H1 : (lane_leaves.l0 k1 a1 a2 x7_1 (wrap64 (x9_1 + 1)) a0_0 a0_1 l0_2 l0_3) = some r:=by rw [if_neg (show ¬ (false = true) by decide)] at H;exact H
     clear H
     have H:=H1
     clear H1
     have H':=Aside0.mk H
     clear H
     obtain ⟨_,_,_,_,_,_,_,_⟩:=cells4 BK122.out
     go_wp2_with (first|(go_at_call 85;(with_reducible refine (lane_may.calls a0_0 a0_1 _ _ l0_2 _ _ l0_3 a1 x9_1 false _ ?_ ?_ ?_ ?_ A7.out).mono ?_);exact cq HR0_2;exact HC0_2.out;exact cq HR0_3;exact HC0_3.out;rintro e w14 ⟨rfl,hb⟩;replace HO_7:=rbw HO_7 hb;replace BK122:=bkb BK122 hb;replace HB:=hbs hb))
     go_roundg k1
     case measure => have:=HK1.out;omega
     case rel => exact ⟨(x7_1),(wrap64 (x9_1 + 1)),(by first|rfl|(simp;done)|(simp [*];done)),H',⟨by have:=HK1.out;omega⟩,⟨Kd.R_up HO_7.out⟩,⟨blk_up BK122.out⟩,⟨hb_⟩⟩
   rw [if_neg c5] at H
   have c5b0 : decide (x9_1 < 4) = false:=decide_eq_false c5
   clear c5
   by_cases c15 : (x7_1.length : Int) = 0
   rotate_left
   ·rw [if_neg c15] at H
    have c15b0:=bqf c15
    have c15b1:=bnt c15
    have c15b2 : ¬ (x7_1 = []):=fun h_ => c15 (by rw [h_];rfl)
    obtain rfl:=Option.some.inj H
    obtain ⟨Ao28,co28,eo28⟩:=Kd.R_slice HO_7.out
    subst eo28
    go_wp2
    go_ret
    exact ⟨_,er_,Kd.R_up HO_7.out,hb_⟩
   rw [if_pos c15] at H
   have c15b0:=bqt c15
   have c15b1:=bnf c15
   clear c15
   by_cases c16 : a2 ≥ 0
   rotate_left
   ·rw [if_neg c16] at H
    have c16b0 : decide (0 ≤ a2) = false:=decide_eq_false c16
    clear c16
    obtain rfl:=Option.some.inj H
    obtain ⟨Ao27,co27,eo27⟩:=Kd.R_slice HO_7.out
    subst eo27
    go_wp2
    go_ret
    exact ⟨_,er_,Kd.R_up HO_7.out,hb_⟩
   rw [if_pos c16] at H
   have c16b0 : decide (0 ≤ a2) = true:=decide_eq_true c16
   clear c16
   replace H:=Option.bind_eq_some_iff.mp H
   obtain ⟨t127,A170,H⟩:=H
   replace H : (if t127 = true then (if x7_1.length < 17592186044416 then (some (x7_1 ++ [a2])) else (none)) else (some x7_1)) = some r:=H
   have A17:=Aside0.mk A170
   clear A170
   by_cases c18 : t127 = true
   ·subst c18
    have H1 : (if x7_1.length < 17592186044416 then (some (x7_1 ++ [a2])) else (none)) = some r:=by rw [if_pos rfl] at H;exact H
    clear H
    have H:=H1
    clear H1
    replace H:=ifp_ H;obtain ⟨c19,H⟩:=H
    have LMc19:=Aside0.mk c19
    clear c19
    obtain ⟨y128,hy128⟩ : ∃ y_ : List Int,y_ = (x7_1 ++ [a2]):=⟨_,rfl⟩
    replace H : (some y128) = some r:=by first|(rw [hy128];with_reducible exact H)|(have H2_:=(Option.bind_some _ _).symm.trans H;rw [hy128];with_reducible exact H2_)|(have H2_:=(Option.bind_some _ _).symm.trans H;with_reducible exact H2_)|with_reducible exact H|(rw [hy128];exact H)|exact H
    have Ny128:=Aside0.mk hy128
    clear hy128
    obtain rfl:=Option.some.inj H
    obtain ⟨Ao20,co20,eo20⟩:=Kd.R_slice HO_7.out
    subst eo20
    obtain ⟨_,_,_,_,_,_,_,_⟩:=cells4 BK122.out
    go_wp2_with (first|(go_at_call 85;(with_reducible refine (lane_may.calls a0_0 a0_1 _ _ l0_2 _ _ l0_3 a1 a2 true _ ?_ ?_ ?_ ?_ A17.out).mono ?_);exact cq HR0_2;exact HC0_2.out;exact cq HR0_3;exact HC0_3.out;rintro e w22 ⟨rfl,hb⟩;replace HO_7:=rbw HO_7 hb;replace BK122:=bkb BK122 hb;replace HB:=hbs hb)|((with_reducible refine gate_builtin (b:=.append) (xs:=#[.tmp 39,.tmp 41]) rfl ?_);at_builtin;refine Kd.R_append (Kd.int .i64) (w0:=w) w.heap.size rfl (.tmp 39) (.tmp 41) 22 3 (.int .i64 0) 8 rfl Try.underlying22 info3 rfl (by decide) (by omega) (.slice Ao20 x7_1.length co20) x7_1 a2 [.int .i64 a2] (fun _ => True) (fun _ => False) rfl rfl ?aP (fun _ hk => hk.elim) ?aF ?aO ?aB ?aS ?aL ?_;(case aP => exact rfl);(case aB => exact (hb_));(case aF => exact (fun _ _ => trivial));(case aO => exact (Kd.R_up HO_7.out));(case aS => exact (below_size (hb_)));(case aL => have:=LMc19.out;omega);intro v129 w23 ho hb hg hat;rw [← Ny128.out] at ho;have HO130:=Aside0.mk (ho);replace BK122:=Aside0.mk (blk_grown (blk_up BK122.out) hg (Kd.R_ne HO_7.out BK122.out (by decide)));replace HB:=Aside0.mk (hb);clear HO_7;clear ho hb hg hat))
    go_ret
    exact ⟨_,er_,Kd.R_up HO130.out,hb_⟩
   ·replace c18:=Bool.eq_false_iff.mpr c18
    subst c18
    have H1 : (some x7_1) = some r:=by rw [if_neg (show ¬ (false = true) by decide)] at H;exact H
    clear H
    have H:=H1
    clear H1
    obtain rfl:=Option.some.inj H
    obtain ⟨Ao24,co24,eo24⟩:=Kd.R_slice HO_7.out
    subst eo24
    obtain ⟨_,_,_,_,_,_,_,_⟩:=cells4 BK122.out
    go_wp2_with (first|(go_at_call 85;(with_reducible refine (lane_may.calls a0_0 a0_1 _ _ l0_2 _ _ l0_3 a1 a2 false _ ?_ ?_ ?_ ?_ A17.out).mono ?_);exact cq HR0_2;exact HC0_2.out;exact cq HR0_3;exact HC0_3.out;rintro e w26 ⟨rfl,hb⟩;replace HO_7:=rbw HO_7 hb;replace BK122:=bkb BK122 hb;replace HB:=hbs hb))
    go_ret
    exact ⟨_,er_,Kd.R_up HO_7.out,hb_⟩

-- NOT PRINTED: function 86 (lane_far_1)

end Go.Proofs.Ythjmdpekcleihaa.P

/- Functions of this seat as plain Lean functions, with proofs that the Go code comes to just their answers, or what stands between them and a law's statement; no conditions. (Laid by a program of this session, out of the kit's print.) -/
import Derived.Test.YthjmdpekcleihaaPx0
import Derived.Test.YthjmdpekcleihaaPx6
namespace Go.Proofs.Ythjmdpekcleihaa.P
open Go.RowKit Go.Proofs.YthjmdpekcleihaaW.PrintWords Go.Proofs.YthjmdpekcleihaaW.PrintLast Go.Proofs.YthjmdpekcleihaaW.PrintMore
attribute [local go_sem] max2_int min2_int max_two min_two max_three min_three max_four min_four   -- for this text's walks alone
set_option linter.unusedVariables false
set_option linter.unusedSimpArgs false

/-! ### hinterlandref17_free: function 100 -/
def hinterlandref17_free.f (a0 : Int) (a1 : Int) : Option (Bool) := if a0 = 0 then (some true) else (if a0 = 1 then (if a1 < 2 then (some true) else (if a0 = 2 then (some (decide (a1 > 1))) else (some false))) else (if a0 = 2 then (some (decide (a1 > 1))) else (some false)))
set_option maxHeartbeats 8000000 in
set_option maxRecDepth 100000 in
theorem hinterlandref17_free.calls (a0 : Int) (a1 : Int) (r : Bool) (w : World) (h : hinterlandref17_free.f a0 a1 = some r) :
  Calls Try.prog 100 #[.int .i64 a0,.int .i64 a1] w fun e w' => e = .returned (.bool r) ∧ Drawn0 w w':=by
 have H : (if a0 = 0 then (some true) else (if a0 = 1 then (if a1 < 2 then (some true) else (if a0 = 2 then (some (decide (a1 > 1))) else (some false))) else (if a0 = 2 then (some (decide (a1 > 1))) else (some false)))) = some r:=h
 clear h
 by_cases c3 : a0 = 0
 ·rw [if_pos c3] at H
  have c3b0:=bqt c3
  have c3b1:=bnf c3
  clear c3
  obtain rfl:=Option.some.inj H
  go_enter Try.func100,Try.ntmps100
  go_wp2
  go_ret
  exact ⟨by first|rfl|(simp;done)|(simp [*];done),by repeat (first|exact Drawn0.refl _|apply Drawn0.step)⟩
 rw [if_neg c3] at H
 have c3b0:=bqf c3
 have c3b1:=bnt c3
 by_cases c4 : a0 = 1
 rotate_left
 ·rw [if_neg c4] at H
  have c4b0:=bqf c4
  have c4b1:=bnt c4
  by_cases c7 : a0 = 2
  ·rw [if_pos c7] at H
   have c7b0:=bqt c7
   have c7b1:=bnf c7
   clear c7
   obtain rfl:=Option.some.inj H
   go_enter Try.func100,Try.ntmps100
   go_wp2
   go_ret
   exact ⟨by first|rfl|(simp;done)|(simp [*];done),by repeat (first|exact Drawn0.refl _|apply Drawn0.step)⟩
  ·rw [if_neg c7] at H
   have c7b0:=bqf c7
   have c7b1:=bnt c7
   obtain rfl:=Option.some.inj H
   go_enter Try.func100,Try.ntmps100
   go_wp2
   go_ret
   exact ⟨by first|rfl|(simp;done)|(simp [*];done),by repeat (first|exact Drawn0.refl _|apply Drawn0.step)⟩
 rw [if_pos c4] at H
 have c4b0:=bqt c4
 have c4b1:=bnf c4
 clear c4
 by_cases c5 : a1 < 2
 ·rw [if_pos c5] at H
  have c5b0 : decide (a1 < 2) = true:=decide_eq_true c5
  clear c5
  obtain rfl:=Option.some.inj H
  go_enter Try.func100,Try.ntmps100
  go_wp2
  go_ret
  exact ⟨by first|rfl|(simp;done)|(simp [*];done),by repeat (first|exact Drawn0.refl _|apply Drawn0.step)⟩
 ·rw [if_neg c5] at H
  have c5b0 : decide (a1 < 2) = false:=decide_eq_false c5
  clear c5
  by_cases c6 : a0 = 2
  ·rw [if_pos c6] at H
   have c6b0:=bqt c6
   have c6b1:=bnf c6
   clear c6
   obtain rfl:=Option.some.inj H
   go_enter Try.func100,Try.ntmps100
   go_wp2
   go_ret
   exact ⟨by first|rfl|(simp;done)|(simp [*];done),by repeat (first|exact Drawn0.refl _|apply Drawn0.step)⟩
  ·rw [if_neg c6] at H
   have c6b0:=bqf c6
   have c6b1:=bnt c6
   obtain rfl:=Option.some.inj H
   go_enter Try.func100,Try.ntmps100
   go_wp2
   go_ret
   exact ⟨by first|rfl|(simp;done)|(simp [*];done),by repeat (first|exact Drawn0.refl _|apply Drawn0.step)⟩

/-! ### hinterlandref17_joined: function 84 -/
def hinterlandref17_joined.f (k : Nat) (a0_0 : Int) (a0_1 : Int) (l0_2 : List Int) (l0_3 : List Int) (a1 : Int) (a2 : Int) : Option (Bool) := (hinterlandref17_linked.f k a0_0 a0_1 l0_2 l0_3 a1 a2).bind fun t169 => (if t169 = true then (if 0 ≤ a1 then (if a1 < (l0_3.length : Int) then ((hinterlandref17_free.f (rd l0_3 a1) a2).bind fun t171 => (if t171 = true then ((hinterlandref17_beyond.f a0_0 a0_1 l0_2 l0_3 a1 a2).bind fun t172 => (if 0 ≤ t172 then (if t172 < (l0_3.length : Int) then ((hinterlandref17_free.f (rd l0_3 t172) a2).bind fun t174 => (some t174)) else (none)) else (none))) else (some false))) else (none)) else (none)) else (some false))
theorem hinterlandref17_joined.mono : ∀ a0 a1 a2 a3 a4 a5 k, LeO (hinterlandref17_joined.f k a0 a1 a2 a3 a4 a5) (hinterlandref17_joined.f (k + 1) a0 a1 a2 a3 a4 a5) := by
 intro a0 a1 a2 a3 a4 a5 k
 unfold hinterlandref17_joined.f
 repeat' first
   | (with_reducible exact hinterlandref17_linked.mono _ _ _ _ _ _ _)
   | (with_reducible exact LeO.refl _)
   | (with_reducible exact LeO.none _)
   | (with_reducible refine LeO.ite ?_ ?_)
   | (with_reducible refine LeO.bind ?_ (fun _ => ?_))
   | exact hinterlandref17_linked.mono _ _ _ _ _ _ _
   | exact LeO.none _
   | refine LeO.ite ?_ ?_
   | refine LeO.bind ?_ (fun _ => ?_)
def hinterlandref17_joined.T1 : Bool × List (List Nat × List Nat) := (true, [([], []), ([], []), ([], []), ([0, 1, 2], [0, 1, 2]), ([3, 3], [3]), ([4], [4]), ([5, 4], [4, 5]), ([4], [4]), ([6, 7, 4], [4, 6, 7]), ([8, 4], [4, 8]), ([4], [4]), ([9, 10, 4, 4], [4, 9, 10]), ([4, 11], [4, 11]), ([12, 11], [12]), ([13], [13]), ([14, 13], [13, 14]), ([13], [13]), ([13], [13]), ([13], [13]), ([16, 17, 18, 13, 13], [13, 16, 17, 18]), ([15, 19, 13], [13, 15, 19]), ([20, 13], [13, 20]), ([13], [13]), ([21, 22, 19, 13], [13, 21, 22]), ([13, 23], [13, 23]), ([24, 23, 0, 1, 2, 3, 4, 5, 6, 7, 8, 9, 10, 11, 12, 13, 14, 15, 16, 17, 18, 19, 20, 21, 22, 23, 24], [24])])
def hinterlandref17_joined.B1 : List Nat := [0, 0, 0, 7, 15, 31, 63, 31, 255, 511, 31, 2047, 4095, 8191, 16383, 32767, 16383, 16383, 16383, 475135, 1048575, 2097151, 16383, 8388607, 16777215, 33554431]
theorem hinterlandref17_joined.tab1 : rtab .any (opsOf Try.f84 1) = hinterlandref17_joined.T1 := by kernel_rfl
theorem hinterlandref17_joined.bits1 : waitsOk hinterlandref17_joined.T1.2 hinterlandref17_joined.B1 = true := by kernel_rfl
set_option maxHeartbeats 8000000 in
set_option maxRecDepth 100000 in
theorem hinterlandref17_joined.calls (k : Nat) (a0_0 : Int) (a0_1 : Int) (A0_2 : Option Addr) (c0_2 : Nat) (l0_2 : List Int) (A0_3 : Option Addr) (c0_3 : Nat) (l0_3 : List Int) (a1 : Int) (a2 : Int) (r : Bool) (w : World) (hr0_2 : Kd.C (Kd.int .i64) w A0_2 l0_2.length l0_2) (hc0_2 : l0_2.length ≤ c0_2) (hr0_3 : Kd.C (Kd.int .i64) w A0_3 l0_3.length l0_3) (hc0_3 : l0_3.length ≤ c0_3) (h : hinterlandref17_joined.f k a0_0 a0_1 l0_2 l0_3 a1 a2 = some r) :
  Calls Try.prog 84 #[.agg #[.int .i64 a0_0,.int .i64 a0_1,.slice A0_2 l0_2.length c0_2,.slice A0_3 l0_3.length c0_3],.int .i64 a1,.int .i64 a2] w fun e w' => e = .returned (.bool r) ∧ Below w.heap.size w w':=by
 have hu24:=Try.underlying24
 have HR0_2:=Aside0.mk hr0_2
 have HC0_2:=Aside0.mk hc0_2
 clear hr0_2 hc0_2
 have HR0_3:=Aside0.mk hr0_3
 have HC0_3:=Aside0.mk hc0_3
 clear hr0_3 hc0_3
 have HB:=Aside0.mk (Below.refl w.heap.size w)
 have H : ((hinterlandref17_linked.f k a0_0 a0_1 l0_2 l0_3 a1 a2).bind fun t169 => (if t169 = true then (if 0 ≤ a1 then (if a1 < (l0_3.length : Int) then ((hinterlandref17_free.f (rd l0_3 a1) a2).bind fun t171 => (if t171 = true then ((hinterlandref17_beyond.f a0_0 a0_1 l0_2 l0_3 a1 a2).bind fun t172 => (if 0 ≤ t172 then (if t172 < (l0_3.length : Int) then ((hinterlandref17_free.f (rd l0_3 t172) a2).bind fun t174 => (some t174)) else (none)) else (none))) else (some false))) else (none)) else (none)) else (some false))) = some r:=h
 clear h
 replace H:=Option.bind_eq_some_iff.mp H
 obtain ⟨t169,A40,H⟩:=H
 replace H : (if t169 = true then (if 0 ≤ a1 then (if a1 < (l0_3.length : Int) then ((hinterlandref17_free.f (rd l0_3 a1) a2).bind fun t171 => (if t171 = true then ((hinterlandref17_beyond.f a0_0 a0_1 l0_2 l0_3 a1 a2).bind fun t172 => (if 0 ≤ t172 then (if t172 < (l0_3.length : Int) then ((hinterlandref17_free.f (rd l0_3 t172) a2).bind fun t174 => (some t174)) else (none)) else (none))) else (some false))) else (none)) else (none)) else (some false)) = some r:=H
 have A4:=Aside0.mk A40
 clear A40
 by_cases c5 : t169 = true
 ·subst c5
  have H1 : (if 0 ≤ a1 then (if a1 < (l0_3.length : Int) then ((hinterlandref17_free.f (rd l0_3 a1) a2).bind fun t171 => (if t171 = true then ((hinterlandref17_beyond.f a0_0 a0_1 l0_2 l0_3 a1 a2).bind fun t172 => (if 0 ≤ t172 then (if t172 < (l0_3.length : Int) then ((hinterlandref17_free.f (rd l0_3 t172) a2).bind fun t174 => (some t174)) else (none)) else (none))) else (some false))) else (none)) else (none)) = some r:=by rw [if_pos rfl] at H;exact H
  clear H
  have H:=H1
  clear H1
  replace H:=ifp_ H;obtain ⟨c6,H⟩:=H
  have c6b0 : decide (0 ≤ a1) = true:=decide_eq_true c6
  clear c6
  replace H:=ifp_ H;obtain ⟨c7,H⟩:=H
  have c7b0 : decide (a1 < (l0_3.length : Int)) = true:=decide_eq_true c7
  clear c7
  replace H:=Option.bind_eq_some_iff.mp H
  obtain ⟨t171,A80,H⟩:=H
  replace H : (if t171 = true then ((hinterlandref17_beyond.f a0_0 a0_1 l0_2 l0_3 a1 a2).bind fun t172 => (if 0 ≤ t172 then (if t172 < (l0_3.length : Int) then ((hinterlandref17_free.f (rd l0_3 t172) a2).bind fun t174 => (some t174)) else (none)) else (none))) else (some false)) = some r:=H
  have A8:=Aside0.mk A80
  clear A80
  by_cases c9 : t171 = true
  ·subst c9
   have H1 : ((hinterlandref17_beyond.f a0_0 a0_1 l0_2 l0_3 a1 a2).bind fun t172 => (if 0 ≤ t172 then (if t172 < (l0_3.length : Int) then ((hinterlandref17_free.f (rd l0_3 t172) a2).bind fun t174 => (some t174)) else (none)) else (none))) = some r:=by rw [if_pos rfl] at H;exact H
   clear H
   have H:=H1
   clear H1
   replace H:=Option.bind_eq_some_iff.mp H
   obtain ⟨t172,A100,H⟩:=H
   replace H : (if 0 ≤ t172 then (if t172 < (l0_3.length : Int) then ((hinterlandref17_free.f (rd l0_3 t172) a2).bind fun t174 => (some t174)) else (none)) else (none)) = some r:=H
   have A10:=Aside0.mk A100
   clear A100
   replace H:=ifp_ H;obtain ⟨c11,H⟩:=H
   have c11b0 : decide (0 ≤ t172) = true:=decide_eq_true c11
   clear c11
   replace H:=ifp_ H;obtain ⟨c12,H⟩:=H
   have c12b0 : decide (t172 < (l0_3.length : Int)) = true:=decide_eq_true c12
   clear c12
   replace H:=Option.bind_eq_some_iff.mp H
   obtain ⟨t174,A130,H⟩:=H
   replace H : (some t174) = some r:=H
   have A13:=Aside0.mk A130
   clear A130
   obtain rfl:=Option.some.inj H
   go_enter Try.func84,Try.ntmps84
   try go_wp2_with (first|((with_reducible refine gate_dst (N:=3) rfl ?_);refine box_ev (N:=3) (cs:=#[.int .i64 a0_0,.int .i64 a0_1,.slice A0_2 l0_2.length c0_2,.slice A0_3 l0_3.length c0_3]) (t:=24) ?_;intro gb168 hg w14 hbox hb;have BK168:=Aside0.mk (hbox);have GW168 : Aside0 (w.heap.size ≤ gb168):=gsz hg;have GE168:=GW168;replace HB:=hbs hb;clear hb hbox hg))
   replace BK168:=Aside0.mk (blk_drew BK168.out)
   replace HB:=Aside0.mk (below_drew1 HB.out)
   have p170 : 0 ≤ (a1 : Int):=of_decide_eq_true (by first|(with_reducible assumption)|assumption)
   have q170 : a1 < (l0_3.length : Int):=of_decide_eq_true (by first|(with_reducible assumption)|assumption)
   obtain ⟨ad170,e170,hx170_0⟩:=Kd.at_int HR0_3.out a1 p170 q170
   have hw170_0:=hx170_0
   cases e170
   replace hx170_0:=(HB.out.cell (World.block_lt_of_cell? w _ hx170_0)).trans hx170_0
   replace p170:=eq_true p170
   replace q170:=eq_true q170
   have p173 : 0 ≤ (t172 : Int):=of_decide_eq_true (by first|(with_reducible assumption)|assumption)
   have q173 : t172 < (l0_3.length : Int):=of_decide_eq_true (by first|(with_reducible assumption)|assumption)
   obtain ⟨ad173,e173,hx173_0⟩:=Kd.at_int HR0_3.out t172 p173 q173
   have hw173_0:=hx173_0
   obtain rfl : ad170 = ad173:=(by injection e173)
   replace hx173_0:=(HB.out.cell (World.block_lt_of_cell? w _ hx173_0)).trans hx173_0
   replace p173:=eq_true p173
   replace q173:=eq_true q173
   refine start_ (n:=26) (S:=fun w' => w'.cell? ⟨gb168,0,none⟩ = some (.int .i64 a0_0) ∧ w'.cell? ⟨gb168,1,none⟩ = some (.int .i64 a0_1) ∧ w'.cell? ⟨gb168,2,none⟩ = some (.slice A0_2 l0_2.length c0_2) ∧ w'.cell? ⟨gb168,3,none⟩ = some (.slice (some ad170) l0_3.length c0_3) ∧ w'.cell? (ad170.add (a1).toNat) = some (.int .i64 (rd l0_3 a1)) ∧ w'.cell? (ad170.add (t172).toNat) = some (.int .i64 (rd l0_3 t172))) (ds:=[]) #[false,false,false,false,false,false,false,false,false,false,false,false,false,false,false,false,false,false,false,false,false,false,false,false,false,false] (by kernel_rfl) rfl rfl ⟨(blk_cell BK168.out 0).trans rfl,(blk_cell BK168.out 1).trans rfl,(blk_cell BK168.out 2).trans rfl,(blk_cell BK168.out 3).trans rfl,((HB.out.cell (World.block_lt_of_cell? w _ hw170_0)).trans hw170_0),((HB.out.cell (World.block_lt_of_cell? w _ hw173_0)).trans hw173_0)⟩ (fun hHeld => ?_);refine with_tabW hinterlandref17_joined.tab1 hinterlandref17_joined.bits1 (fun HT_ HW_ => ?_)
   generalize w14.drew = w15 at BK168 HB hx170_0 hx173_0 hHeld ⊢
   refine pI 1 (some 8) ?_
   refine pI 2 (some 9) ?_
   refine tI6 0 (some 7) hHeld ?_
   refine oI 3 (some 10) (fun K hK => ?_)
   refine goes_ Try.func40 (by kernel_rfl) rfl #[.agg #[.int .i64 a0_0,.int .i64 a0_1,.slice A0_2 l0_2.length c0_2,.slice (some ad170) l0_3.length c0_3],.int .i64 a1,.int .i64 a2] (by rfl) rfl rfl ga_ ?_
   with_reducible refine (hinterlandref17_linked.calls k a0_0 a0_1 _ _ l0_2 _ _ l0_3 a1 a2 true _ ?side1 ?side2 ?side3 ?side4 A4.out).mono ?_
   (case side1 => exact cq HR0_2)
   (case side2 => exact HC0_2.out)
   (case side3 => exact cq HR0_3)
   (case side4 => exact HC0_3.out)
   rintro e w16 ⟨rfl,hb⟩
   refine ⟨_,rfl,?_⟩
   have n0_:=bkb BK168 hb
   have n1_:=Aside0.mk (below_step (hb_) hb)
   clear BK168
   clear HB
   have BK168:=n0_
   have HB:=n1_
   clear n0_ n1_
   (try clear hb)
   (try clear hb2)
   (try clear hk)
   (try clear hi)
   refine hK.out _ _ ⟨(blk_cell BK168.out 0).trans rfl,(blk_cell BK168.out 1).trans rfl,(blk_cell BK168.out 2).trans rfl,(blk_cell BK168.out 3).trans rfl,((HB.out.cell (World.block_lt_of_cell? w _ hw170_0)).trans hw170_0),((HB.out.cell (World.block_lt_of_cell? w _ hw173_0)).trans hw173_0)⟩ (fun hHeld => ?_)
   clear hK K
   refine norm_ (a':=?_) ?_ ?_
   rotate_left
   ·show Act.put _ (some 10) _ = _
    simp only [Act.put,List.setIfInBounds_toArray,List.set_cons_zero,List.set_cons_succ,i64_w,i32_w]
    rfl
   refine pI 4 (some 11) ?_
   refine pI 5 (some 12) ?_
   refine pI 7 (some 14) ?_
   refine pI 10 (some 17) ?_
   refine tI6 6 (some 13) hHeld ?_
   refine pI 8 (some 15) ?_
   refine tI6 9 (some 16) hHeld ?_
   refine oI 11 (some 18) (fun K hK => ?_)
   refine goes_ Try.func100 (by kernel_rfl) rfl #[.int .i64 (rd l0_3 a1),.int .i64 a2] (by rfl) rfl rfl ga_ ?_
   with_reducible refine (hinterlandref17_free.calls (rd l0_3 a1) a2 true _ A8.out).mono ?_
   rintro e w' ⟨rfl,⟨nd,rfl⟩⟩
   refine ⟨_,rfl,?_⟩
   refine hK.out _ _ ⟨(blk_cell BK168.out 0).trans rfl,(blk_cell BK168.out 1).trans rfl,(blk_cell BK168.out 2).trans rfl,(blk_cell BK168.out 3).trans rfl,((HB.out.cell (World.block_lt_of_cell? w _ hw170_0)).trans hw170_0),((HB.out.cell (World.block_lt_of_cell? w _ hw173_0)).trans hw173_0)⟩ (fun hHeld => ?_)
   clear hK K
   refine norm_ (a':=?_) ?_ ?_
   rotate_left
   ·show Act.put _ (some 18) _ = _
    simp only [Act.put,List.setIfInBounds_toArray,List.set_cons_zero,List.set_cons_succ,i64_w,i32_w]
    rfl
   refine pI 12 (some 19) ?_
   refine pI 13 (some 20) ?_
   refine pI 14 (some 21) ?_
   refine pI 17 (some 24) ?_
   refine pI 18 (some 25) ?_
   refine pI 22 (some 29) ?_
   refine tI6 15 (some 22) hHeld ?_
   refine tI6 16 (some 23) hHeld ?_
   refine oI 19 (some 26) (fun K hK => ?_)
   refine goes_ Try.func67 (by kernel_rfl) rfl #[.agg #[.int .i64 a0_0,.int .i64 a0_1,.slice A0_2 l0_2.length c0_2,.slice (some ad170) l0_3.length c0_3],.int .i64 a1,.int .i64 a2] (by rfl) rfl rfl ga_ ?_
   with_reducible refine (hinterlandref17_beyond.calls a0_0 a0_1 _ _ l0_2 _ _ l0_3 a1 a2 t172 _ ?side1 ?side2 ?side3 ?side4 A10.out).mono ?_
   (case side1 => repeat (first|exact (Kd.C_below HR0_2.out (hb_))|(with_reducible refine Kd.C_alloc ?_ _)|(with_reducible refine Kd.C_drewN ?_ _)|(with_reducible refine Kd.C_drew ?_)))
   (case side2 => exact HC0_2.out)
   (case side3 => repeat (first|exact (Kd.C_below HR0_3.out (hb_))|(with_reducible refine Kd.C_alloc ?_ _)|(with_reducible refine Kd.C_drewN ?_ _)|(with_reducible refine Kd.C_drew ?_)))
   (case side4 => exact HC0_3.out)
   rintro e w17 ⟨rfl,hb⟩
   refine ⟨_,rfl,?_⟩
   have n0_:=bkb BK168 hb
   have n1_:=Aside0.mk (below_step (hb_) hb)
   clear BK168
   clear HB
   have BK168:=n0_
   have HB:=n1_
   clear n0_ n1_
   (try clear hb)
   (try clear hb2)
   (try clear hk)
   (try clear hi)
   refine hK.out _ _ ⟨(blk_cell BK168.out 0).trans rfl,(blk_cell BK168.out 1).trans rfl,(blk_cell BK168.out 2).trans rfl,(blk_cell BK168.out 3).trans rfl,((HB.out.cell (World.block_lt_of_cell? w _ hw170_0)).trans hw170_0),((HB.out.cell (World.block_lt_of_cell? w _ hw173_0)).trans hw173_0)⟩ (fun hHeld => ?_)
   clear hK K
   refine norm_ (a':=?_) ?_ ?_
   rotate_left
   ·show Act.put _ (some 26) _ = _
    simp only [Act.put,List.setIfInBounds_toArray,List.set_cons_zero,List.set_cons_succ,i64_w,i32_w]
    rfl
   refine pI 20 (some 27) ?_
   refine tI6 21 (some 28) hHeld ?_
   refine oI 23 (some 30) (fun K hK => ?_)
   refine goes_ Try.func100 (by kernel_rfl) rfl #[.int .i64 (rd l0_3 t172),.int .i64 a2] (by rfl) rfl rfl ga_ ?_
   with_reducible refine (hinterlandref17_free.calls (rd l0_3 t172) a2 t174 _ A13.out).mono ?_
   rintro e w' ⟨rfl,⟨nd,rfl⟩⟩
   refine ⟨_,rfl,?_⟩
   refine hK.out _ _ ⟨(blk_cell BK168.out 0).trans rfl,(blk_cell BK168.out 1).trans rfl,(blk_cell BK168.out 2).trans rfl,(blk_cell BK168.out 3).trans rfl,((HB.out.cell (World.block_lt_of_cell? w _ hw170_0)).trans hw170_0),((HB.out.cell (World.block_lt_of_cell? w _ hw173_0)).trans hw173_0)⟩ (fun hHeld => ?_)
   clear hK K
   refine norm_ (a':=?_) ?_ ?_
   rotate_left
   ·show Act.put _ (some 30) _ = _
    simp only [Act.put,List.setIfInBounds_toArray,List.set_cons_zero,List.set_cons_succ,i64_w,i32_w]
    rfl
   refine pI 24 (some 31) ?_
   refine pI 25 (some 6) ?_
   refine done_ (done_of HT_.out (by kernel_rfl)) ?_
   try go_wp2
   go_ret
   exact ⟨er_,hb_⟩
  ·replace c9:=Bool.eq_false_iff.mpr c9
   subst c9
   have H1 : (some false) = some r:=by rw [if_neg (show ¬ (false = true) by decide)] at H;exact H
   clear H
   have H:=H1
   clear H1
   obtain rfl:=Option.some.inj H
   go_enter Try.func84,Try.ntmps84
   try go_wp2_with (first|((with_reducible refine gate_dst (N:=3) rfl ?_);refine box_ev (N:=3) (cs:=#[.int .i64 a0_0,.int .i64 a0_1,.slice A0_2 l0_2.length c0_2,.slice A0_3 l0_3.length c0_3]) (t:=24) ?_;intro gb168 hg w18 hbox hb;have BK168:=Aside0.mk (hbox);have GW168 : Aside0 (w.heap.size ≤ gb168):=gsz hg;have GE168:=GW168;replace HB:=hbs hb;clear hb hbox hg))
   replace BK168:=Aside0.mk (blk_drew BK168.out)
   replace HB:=Aside0.mk (below_drew1 HB.out)
   have p170 : 0 ≤ (a1 : Int):=of_decide_eq_true (by first|(with_reducible assumption)|assumption)
   have q170 : a1 < (l0_3.length : Int):=of_decide_eq_true (by first|(with_reducible assumption)|assumption)
   obtain ⟨ad170,e170,hx170_0⟩:=Kd.at_int HR0_3.out a1 p170 q170
   have hw170_0:=hx170_0
   cases e170
   replace hx170_0:=(HB.out.cell (World.block_lt_of_cell? w _ hx170_0)).trans hx170_0
   replace p170:=eq_true p170
   replace q170:=eq_true q170
   refine start_ (n:=26) (S:=fun w' => w'.cell? ⟨gb168,0,none⟩ = some (.int .i64 a0_0) ∧ w'.cell? ⟨gb168,1,none⟩ = some (.int .i64 a0_1) ∧ w'.cell? ⟨gb168,2,none⟩ = some (.slice A0_2 l0_2.length c0_2) ∧ w'.cell? ⟨gb168,3,none⟩ = some (.slice (some ad170) l0_3.length c0_3) ∧ w'.cell? (ad170.add (a1).toNat) = some (.int .i64 (rd l0_3 a1))) (ds:=[]) #[false,false,false,false,false,false,false,false,false,false,false,false,false,false,false,false,false,false,false,false,false,false,false,false,false,false] (by kernel_rfl) rfl rfl ⟨(blk_cell BK168.out 0).trans rfl,(blk_cell BK168.out 1).trans rfl,(blk_cell BK168.out 2).trans rfl,(blk_cell BK168.out 3).trans rfl,((HB.out.cell (World.block_lt_of_cell? w _ hw170_0)).trans hw170_0)⟩ (fun hHeld => ?_);refine with_tabW hinterlandref17_joined.tab1 hinterlandref17_joined.bits1 (fun HT_ HW_ => ?_)
   generalize w18.drew = w19 at BK168 HB hx170_0 hHeld ⊢
   refine pI 1 (some 8) ?_
   refine pI 2 (some 9) ?_
   refine tI5 0 (some 7) hHeld ?_
   refine oI 3 (some 10) (fun K hK => ?_)
   refine goes_ Try.func40 (by kernel_rfl) rfl #[.agg #[.int .i64 a0_0,.int .i64 a0_1,.slice A0_2 l0_2.length c0_2,.slice (some ad170) l0_3.length c0_3],.int .i64 a1,.int .i64 a2] (by rfl) rfl rfl ga_ ?_
   with_reducible refine (hinterlandref17_linked.calls k a0_0 a0_1 _ _ l0_2 _ _ l0_3 a1 a2 true _ ?side1 ?side2 ?side3 ?side4 A4.out).mono ?_
   (case side1 => exact cq HR0_2)
   (case side2 => exact HC0_2.out)
   (case side3 => exact cq HR0_3)
   (case side4 => exact HC0_3.out)
   rintro e w20 ⟨rfl,hb⟩
   refine ⟨_,rfl,?_⟩
   have n0_:=bkb BK168 hb
   have n1_:=Aside0.mk (below_step (hb_) hb)
   clear BK168
   clear HB
   have BK168:=n0_
   have HB:=n1_
   clear n0_ n1_
   (try clear hb)
   (try clear hb2)
   (try clear hk)
   (try clear hi)
   refine hK.out _ _ ⟨(blk_cell BK168.out 0).trans rfl,(blk_cell BK168.out 1).trans rfl,(blk_cell BK168.out 2).trans rfl,(blk_cell BK168.out 3).trans rfl,((HB.out.cell (World.block_lt_of_cell? w _ hw170_0)).trans hw170_0)⟩ (fun hHeld => ?_)
   clear hK K
   refine norm_ (a':=?_) ?_ ?_
   rotate_left
   ·show Act.put _ (some 10) _ = _
    simp only [Act.put,List.setIfInBounds_toArray,List.set_cons_zero,List.set_cons_succ,i64_w,i32_w]
    rfl
   refine pI 4 (some 11) ?_
   refine pI 5 (some 12) ?_
   refine pI 7 (some 14) ?_
   refine pI 10 (some 17) ?_
   refine tI5 6 (some 13) hHeld ?_
   refine pI 8 (some 15) ?_
   refine tI5 9 (some 16) hHeld ?_
   refine oI 11 (some 18) (fun K hK => ?_)
   refine goes_ Try.func100 (by kernel_rfl) rfl #[.int .i64 (rd l0_3 a1),.int .i64 a2] (by rfl) rfl rfl ga_ ?_
   with_reducible refine (hinterlandref17_free.calls (rd l0_3 a1) a2 false _ A8.out).mono ?_
   rintro e w' ⟨rfl,⟨nd,rfl⟩⟩
   refine ⟨_,rfl,?_⟩
   refine hK.out _ _ ⟨(blk_cell BK168.out 0).trans rfl,(blk_cell BK168.out 1).trans rfl,(blk_cell BK168.out 2).trans rfl,(blk_cell BK168.out 3).trans rfl,((HB.out.cell (World.block_lt_of_cell? w _ hw170_0)).trans hw170_0)⟩ (fun hHeld => ?_)
   clear hK K
   refine norm_ (a':=?_) ?_ ?_
   rotate_left
   ·show Act.put _ (some 18) _ = _
    simp only [Act.put,List.setIfInBounds_toArray,List.set_cons_zero,List.set_cons_succ,i64_w,i32_w]
    rfl
   refine pI 12 (some 19) ?_
   refine pI 13 (some 20) ?_
   refine pU 14 (some 21) ?_
   refine pU 15 (some 22) ?_
   refine pU 16 (some 23) ?_
   refine pU 17 (some 24) ?_
   refine pU 18 (some 25) ?_
   refine pU 19 (some 26) ?_
   refine pU 20 (some 27) ?_
   refine pU 21 (some 28) ?_
   refine pU 22 (some 29) ?_
   refine pU 23 (some 30) ?_
   refine pI 24 (some 31) ?_
   refine pI 25 (some 6) ?_
   refine done_ (done_of HT_.out (by kernel_rfl)) ?_
   try go_wp2
   go_ret
   exact ⟨er_,hb_⟩
 ·replace c5:=Bool.eq_false_iff.mpr c5
  subst c5
  have H1 : (some false) = some r:=by rw [if_neg (show ¬ (false = true) by decide)] at H;exact H
  clear H
  have H:=H1
  clear H1
  obtain rfl:=Option.some.inj H
  go_enter Try.func84,Try.ntmps84
  try go_wp2_with (first|((with_reducible refine gate_dst (N:=3) rfl ?_);refine box_ev (N:=3) (cs:=#[.int .i64 a0_0,.int .i64 a0_1,.slice A0_2 l0_2.length c0_2,.slice A0_3 l0_3.length c0_3]) (t:=24) ?_;intro gb168 hg w21 hbox hb;have BK168:=Aside0.mk (hbox);have GW168 : Aside0 (w.heap.size ≤ gb168):=gsz hg;have GE168:=GW168;replace HB:=hbs hb;clear hb hbox hg))
  replace BK168:=Aside0.mk (blk_drew BK168.out)
  replace HB:=Aside0.mk (below_drew1 HB.out)
  refine start_ (n:=26) (S:=fun w' => w'.cell? ⟨gb168,0,none⟩ = some (.int .i64 a0_0) ∧ w'.cell? ⟨gb168,1,none⟩ = some (.int .i64 a0_1) ∧ w'.cell? ⟨gb168,2,none⟩ = some (.slice A0_2 l0_2.length c0_2) ∧ w'.cell? ⟨gb168,3,none⟩ = some (.slice A0_3 l0_3.length c0_3)) (ds:=[]) #[false,false,false,false,false,false,false,false,false,false,false,false,false,false,false,false,false,false,false,false,false,false,false,false,false,false] (by kernel_rfl) rfl rfl ⟨(blk_cell BK168.out 0).trans rfl,(blk_cell BK168.out 1).trans rfl,(blk_cell BK168.out 2).trans rfl,(blk_cell BK168.out 3).trans rfl⟩ (fun hHeld => ?_);refine with_tabW hinterlandref17_joined.tab1 hinterlandref17_joined.bits1 (fun HT_ HW_ => ?_)
  generalize w21.drew = w22 at BK168 HB hHeld ⊢
  refine pI 1 (some 8) ?_
  refine pI 2 (some 9) ?_
  refine tI4 0 (some 7) hHeld ?_
  refine oI 3 (some 10) (fun K hK => ?_)
  refine goes_ Try.func40 (by kernel_rfl) rfl #[.agg #[.int .i64 a0_0,.int .i64 a0_1,.slice A0_2 l0_2.length c0_2,.slice A0_3 l0_3.length c0_3],.int .i64 a1,.int .i64 a2] (by rfl) rfl rfl ga_ ?_
  with_reducible refine (hinterlandref17_linked.calls k a0_0 a0_1 _ _ l0_2 _ _ l0_3 a1 a2 false _ ?side1 ?side2 ?side3 ?side4 A4.out).mono ?_
  (case side1 => exact cq HR0_2)
  (case side2 => exact HC0_2.out)
  (case side3 => exact cq HR0_3)
  (case side4 => exact HC0_3.out)
  rintro e w23 ⟨rfl,hb⟩
  refine ⟨_,rfl,?_⟩
  have n0_:=bkb BK168 hb
  have n1_:=Aside0.mk (below_step (hb_) hb)
  clear BK168
  clear HB
  have BK168:=n0_
  have HB:=n1_
  clear n0_ n1_
  (try clear hb)
  (try clear hb2)
  (try clear hk)
  (try clear hi)
  refine hK.out _ _ ⟨(blk_cell BK168.out 0).trans rfl,(blk_cell BK168.out 1).trans rfl,(blk_cell BK168.out 2).trans rfl,(blk_cell BK168.out 3).trans rfl⟩ (fun hHeld => ?_)
  clear hK K
  refine norm_ (a':=?_) ?_ ?_
  rotate_left
  ·show Act.put _ (some 10) _ = _
   simp only [Act.put,List.setIfInBounds_toArray,List.set_cons_zero,List.set_cons_succ,i64_w,i32_w]
   rfl
  refine pI 4 (some 11) ?_
  refine pU 5 (some 12) ?_
  refine pU 6 (some 13) ?_
  refine pU 7 (some 14) ?_
  refine pU 8 (some 15) ?_
  refine pU 9 (some 16) ?_
  refine pU 10 (some 17) ?_
  refine pU 11 (some 18) ?_
  refine pI 12 (some 19) ?_
  refine pI 13 (some 20) ?_
  refine pU 14 (some 21) ?_
  refine pU 15 (some 22) ?_
  refine pU 16 (some 23) ?_
  refine pU 17 (some 24) ?_
  refine pU 18 (some 25) ?_
  refine pU 19 (some 26) ?_
  refine pU 20 (some 27) ?_
  refine pU 21 (some 28) ?_
  refine pU 22 (some 29) ?_
  refine pU 23 (some 30) ?_
  refine pI 24 (some 31) ?_
  refine pI 25 (some 6) ?_
  refine done_ (done_of HT_.out (by kernel_rfl)) ?_
  try go_wp2
  go_ret
  exact ⟨er_,hb_⟩

/-! ### hinterlandref17_leave: function 63 -/
def hinterlandref17_leave.l0 : Nat → Int → Int → List Int → Int → Int → Int → List Int → List Int → Option (List Int)
 | 0,_,_,_,_,_,_,_,_ => none
 | k + 1,x1,x2,x7,x8,x176000,x176001,x176002,x176003 => if x8 < 4 then (if x8 = x2 then (hinterlandref17_leave.l0 k x1 x2 x7 (wrap64 (x8 + 1)) x176000 x176001 x176002 x176003) else ((hinterlandref17_joined.f k x176000 x176001 x176002 x176003 x1 x8).bind fun t176 => (if t176 = true then (if x7.length < 17592186044416 then (hinterlandref17_leave.l0 k x1 x2 (x7 ++ [x8]) (wrap64 (x8 + 1)) x176000 x176001 x176002 x176003) else (none)) else (hinterlandref17_leave.l0 k x1 x2 x7 (wrap64 (x8 + 1)) x176000 x176001 x176002 x176003)))) else (if (x7.length : Int) = 0 then (if x2 ≥ 0 then ((hinterlandref17_joined.f k x176000 x176001 x176002 x176003 x1 x2).bind fun t180 => (if t180 = true then (if x7.length < 17592186044416 then (some (x7 ++ [x2])) else (none)) else (some x7))) else (some x7)) else (some x7))
def hinterlandref17_leave.f (k : Nat) (a0_0 : Int) (a0_1 : Int) (l0_2 : List Int) (l0_3 : List Int) (a1 : Int) (a2 : Int) : Option (List Int) := hinterlandref17_leave.l0 k a1 a2 ([] : List Int) 0 a0_0 a0_1 l0_2 l0_3
theorem hinterlandref17_leave.mono_l : ∀ k, (∀ y0 y1 y2 y3 y4 y5 y6 y7, LeO (hinterlandref17_leave.l0 k y0 y1 y2 y3 y4 y5 y6 y7) (hinterlandref17_leave.l0 (k + 1) y0 y1 y2 y3 y4 y5 y6 y7))
 | 0 => fun _ _ _ _ _ _ _ _ r h => by simp [hinterlandref17_leave.l0] at h
 | k + 1 => by
  have ih0:=hinterlandref17_leave.mono_l k
  ·intro y0 y1 y2 y3 y4 y5 y6 y7
   unfold hinterlandref17_leave.l0
   repeat' first
   | (with_reducible exact ih0 _ _ _ _ _ _ _ _)
   | (with_reducible exact hinterlandref17_joined.mono _ _ _ _ _ _ _)
   | (with_reducible exact LeO.refl _)
   | (with_reducible exact LeO.none _)
   | (with_reducible refine LeO.ite ?_ ?_)
   | (with_reducible refine LeO.bind ?_ (fun _ => ?_))
   | exact ih0 _ _ _ _ _ _ _ _
   | exact hinterlandref17_joined.mono _ _ _ _ _ _ _
   | exact LeO.none _
   | refine LeO.ite ?_ ?_
   | refine LeO.bind ?_ (fun _ => ?_)
theorem hinterlandref17_leave.mono : ∀ a0 a1 a2 a3 a4 a5 k, LeO (hinterlandref17_leave.f k a0 a1 a2 a3 a4 a5) (hinterlandref17_leave.f (k + 1) a0 a1 a2 a3 a4 a5) := by
 intro a0 a1 a2 a3 a4 a5 k
 have ih0:=hinterlandref17_leave.mono_l k
 unfold hinterlandref17_leave.f
 repeat' first
   | (with_reducible exact ih0 _ _ _ _ _ _ _ _)
   | (with_reducible exact hinterlandref17_joined.mono _ _ _ _ _ _ _)
   | (with_reducible exact LeO.refl _)
   | (with_reducible exact LeO.none _)
   | (with_reducible refine LeO.ite ?_ ?_)
   | (with_reducible refine LeO.bind ?_ (fun _ => ?_))
   | exact ih0 _ _ _ _ _ _ _ _
   | exact hinterlandref17_joined.mono _ _ _ _ _ _ _
   | exact LeO.none _
   | refine LeO.ite ?_ ?_
   | refine LeO.bind ?_ (fun _ => ?_)
set_option maxHeartbeats 8000000 in
set_option maxRecDepth 100000 in
theorem hinterlandref17_leave.calls (k : Nat) (a0_0 : Int) (a0_1 : Int) (A0_2 : Option Addr) (c0_2 : Nat) (l0_2 : List Int) (A0_3 : Option Addr) (c0_3 : Nat) (l0_3 : List Int) (a1 : Int) (a2 : Int) (r : List Int) (w : World) (hr0_2 : Kd.C (Kd.int .i64) w A0_2 l0_2.length l0_2) (hc0_2 : l0_2.length ≤ c0_2) (hr0_3 : Kd.C (Kd.int .i64) w A0_3 l0_3.length l0_3) (hc0_3 : l0_3.length ≤ c0_3) (h : hinterlandref17_leave.f k a0_0 a0_1 l0_2 l0_3 a1 a2 = some r) :
  Calls Try.prog 63 #[.agg #[.int .i64 a0_0,.int .i64 a0_1,.slice A0_2 l0_2.length c0_2,.slice A0_3 l0_3.length c0_3],.int .i64 a1,.int .i64 a2] w fun e w' => ∃ v0_ : Value,e = .returned (v0_) ∧ Kd.R (Kd.int .i64) 3 w' w.heap.size (fun _ => True) v0_ r ∧ Below w.heap.size w w':=by
 have hu24:=Try.underlying24
 have HR0_2:=Aside0.mk hr0_2
 have HC0_2:=Aside0.mk hc0_2
 clear hr0_2 hc0_2
 have HR0_3:=Aside0.mk hr0_3
 have HC0_3:=Aside0.mk hc0_3
 clear hr0_3 hc0_3
 have HB:=Aside0.mk (Below.refl w.heap.size w)
 have H : (hinterlandref17_leave.l0 k a1 a2 ([] : List Int) 0 a0_0 a0_1 l0_2 l0_3) = some r:=h
 clear h
 have H':=Aside0.mk H
 clear H
 go_enter Try.func63,Try.ntmps63
 go_wp2_with (first|((with_reducible refine gate_dst (N:=3) rfl ?_);refine box_ev (N:=3) (cs:=#[.int .i64 a0_0,.int .i64 a0_1,.slice A0_2 l0_2.length c0_2,.slice A0_3 l0_3.length c0_3]) (t:=24) ?_;intro gb175 hg w4 hbox hb;have BK175:=Aside0.mk (hbox);have GW175 : Aside0 (w.heap.size ≤ gb175):=gsz hg;have GE175:=GW175;replace HB:=hbs hb;clear hb hbox hg))
 go_loopg [7,8] k (fun kq v7 v8 w' => ∃ (x7_1 : List Int) (x8_1 : Int),v8 = .int .i64 x8_1 ∧ Aside0 (hinterlandref17_leave.l0 kq a1 a2 x7_1 x8_1 a0_0 a0_1 l0_2 l0_3 = some r) ∧ Aside0 (kq ≤ k) ∧ Aside0 (Kd.R (Kd.int .i64) 3 w' w.heap.size (fun _ => True) v7 x7_1) ∧ Aside0 (w'.heap[gb175]? = some (.cells #[.int .i64 a0_0,.int .i64 a0_1,(.slice A0_2 l0_2.length c0_2),(.slice A0_3 l0_3.length c0_3)] 24 (0,0))) ∧ Aside0 (Below w.heap.size w w'))
 case atStart => exact ⟨(([] : List Int)),(0),(by first|rfl|(simp;done)|(simp [*];done)),H',⟨Nat.le_refl _⟩,⟨nl_⟩,⟨blk_up BK175.out⟩,⟨hb_⟩⟩
 case round =>
  clear H'
  obtain ⟨x7_1,x8_1,rfl,HA,HK1,HO_7,BK175,HB⟩:=hrel
  cases gk with
  | zero => exact absurd HA.out (by simp [hinterlandref17_leave.l0])
  | succ k1 =>
   have H:=HA.out
   clear HA
   simp only [hinterlandref17_leave.l0] at H
   by_cases c5 : x8_1 < 4
   ·rw [if_pos c5] at H
    have c5b0 : decide (x8_1 < 4) = true:=decide_eq_true c5
    clear c5
    by_cases c6 : x8_1 = a2
    ·rw [if_pos c6] at H
     have c6b0:=bqt c6
     have c6b1:=bnf c6
     clear c6
     have H':=Aside0.mk H
     clear H
     go_wp2
     go_roundg k1
     case measure => have:=HK1.out;omega
     case rel => exact ⟨(x7_1),(wrap64 (x8_1 + 1)),(by first|rfl|(simp;done)|(simp [*];done)),H',⟨by have:=HK1.out;omega⟩,⟨Kd.R_up HO_7.out⟩,⟨blk_up BK175.out⟩,⟨hb_⟩⟩
    rw [if_neg c6] at H
    have c6b0:=bqf c6
    have c6b1:=bnt c6
    replace H:=Option.bind_eq_some_iff.mp H
    obtain ⟨t176,A70,H⟩:=H
    replace H : (if t176 = true then (if x7_1.length < 17592186044416 then (hinterlandref17_leave.l0 k1 a1 a2 (x7_1 ++ [x8_1]) (wrap64 (x8_1 + 1)) a0_0 a0_1 l0_2 l0_3) else (none)) else (hinterlandref17_leave.l0 k1 a1 a2 x7_1 (wrap64 (x8_1 + 1)) a0_0 a0_1 l0_2 l0_3)) = some r:=H
    have A7:=Aside0.mk A70
    clear A70
    by_cases c8 : t176 = true
    ·subst c8
     have H1 : (if x7_1.length < 17592186044416 then (hinterlandref17_leave.l0 k1 a1 a2 (x7_1 ++ [x8_1]) (wrap64 (x8_1 + 1)) a0_0 a0_1 l0_2 l0_3) else (none)) = some r:=by rw [if_pos rfl] at H;exact H
     clear H
     have H:=H1
     clear H1
     replace H:=ifp_ H;obtain ⟨c9,H⟩:=H
     have LMc9:=Aside0.mk c9
     clear c9
     obtain ⟨y177,hy177⟩ : ∃ y_ : List Int,y_ = (x7_1 ++ [x8_1]):=⟨_,rfl⟩
     replace H : (hinterlandref17_leave.l0 k1 a1 a2 y177 (wrap64 (x8_1 + 1)) a0_0 a0_1 l0_2 l0_3) = some r:=by first|(rw [hy177];with_reducible exact H)|(have H2_:=(Option.bind_some _ _).symm.trans H;rw [hy177];with_reducible exact H2_)|(have H2_:=(Option.bind_some _ _).symm.trans H;with_reducible exact H2_)|with_reducible exact H|(rw [hy177];exact H)|exact H
     have Ny177:=Aside0.mk hy177
     clear hy177
     have H':=Aside0.mk H
     clear H
     obtain ⟨_,_,_,_,_,_,_,_⟩:=cells4 BK175.out
     go_wp2_with (first|(go_at_call 84;(with_reducible refine (hinterlandref17_joined.calls k1 a0_0 a0_1 _ _ l0_2 _ _ l0_3 a1 x8_1 true _ ?_ ?_ ?_ ?_ A7.out).mono ?_);exact cq HR0_2;exact HC0_2.out;exact cq HR0_3;exact HC0_3.out;rintro e w11 ⟨rfl,hb⟩;replace HO_7:=rbw HO_7 hb;replace BK175:=bkb BK175 hb;replace HB:=hbs hb)|((with_reducible refine gate_builtin (b:=.append) (xs:=#[.tmp 22,.tmp 24]) rfl ?_);at_builtin;refine Kd.R_append (Kd.int .i64) (w0:=w) w.heap.size rfl (.tmp 22) (.tmp 24) 22 3 (.int .i64 0) 8 rfl Try.underlying22 info3 rfl (by decide) (by omega) u7 x7_1 x8_1 [.int .i64 x8_1] (fun _ => True) (fun _ => False) rfl rfl ?aP (fun _ hk => hk.elim) ?aF ?aO ?aB ?aS ?aL ?_;(case aP => exact rfl);(case aB => exact (hb_));(case aF => exact (fun _ _ => trivial));(case aO => exact (Kd.R_up HO_7.out));(case aS => exact (below_size (hb_)));(case aL => have:=LMc9.out;omega);intro v178 w12 ho hb hg hat;rw [← Ny177.out] at ho;have HO179:=Aside0.mk (ho);replace BK175:=Aside0.mk (blk_grown (blk_up BK175.out) hg (Kd.R_ne HO_7.out BK175.out (by decide)));replace HB:=Aside0.mk (hb);clear HO_7;clear ho hb hg hat))
     go_roundg k1
     case measure => have:=HK1.out;omega
     case rel => exact ⟨(y177),(wrap64 (x8_1 + 1)),(by first|rfl|(simp;done)|(simp [*];done)),H',⟨by have:=HK1.out;omega⟩,⟨Kd.R_up HO179.out⟩,⟨blk_up BK175.out⟩,⟨hb_⟩⟩
    ·replace c8:=Bool.eq_false_iff.mpr c8
     subst c8
     have H1 : (hinterlandref17_leave.l0 k1 a1 a2 x7_1 (wrap64 (x8_1 + 1)) a0_0 a0_1 l0_2 l0_3) = some r:=by rw [if_neg (show ¬ (false = true) by decide)] at H;exact H
     clear H
     have H:=H1
     clear H1
     have H':=Aside0.mk H
     clear H
     obtain ⟨_,_,_,_,_,_,_,_⟩:=cells4 BK175.out
     go_wp2_with (first|(go_at_call 84;(with_reducible refine (hinterlandref17_joined.calls k1 a0_0 a0_1 _ _ l0_2 _ _ l0_3 a1 x8_1 false _ ?_ ?_ ?_ ?_ A7.out).mono ?_);exact cq HR0_2;exact HC0_2.out;exact cq HR0_3;exact HC0_3.out;rintro e w14 ⟨rfl,hb⟩;replace HO_7:=rbw HO_7 hb;replace BK175:=bkb BK175 hb;replace HB:=hbs hb))
     go_roundg k1
     case measure => have:=HK1.out;omega
     case rel => exact ⟨(x7_1),(wrap64 (x8_1 + 1)),(by first|rfl|(simp;done)|(simp [*];done)),H',⟨by have:=HK1.out;omega⟩,⟨Kd.R_up HO_7.out⟩,⟨blk_up BK175.out⟩,⟨hb_⟩⟩
   rw [if_neg c5] at H
   have c5b0 : decide (x8_1 < 4) = false:=decide_eq_false c5
   clear c5
   by_cases c15 : (x7_1.length : Int) = 0
   rotate_left
   ·rw [if_neg c15] at H
    have c15b0:=bqf c15
    have c15b1:=bnt c15
    have c15b2 : ¬ (x7_1 = []):=fun h_ => c15 (by rw [h_];rfl)
    obtain rfl:=Option.some.inj H
    obtain ⟨Ao28,co28,eo28⟩:=Kd.R_slice HO_7.out
    subst eo28
    go_wp2
    go_ret
    exact ⟨_,er_,Kd.R_up HO_7.out,hb_⟩
   rw [if_pos c15] at H
   have c15b0:=bqt c15
   have c15b1:=bnf c15
   clear c15
   by_cases c16 : a2 ≥ 0
   rotate_left
   ·rw [if_neg c16] at H
    have c16b0 : decide (0 ≤ a2) = false:=decide_eq_false c16
    clear c16
    obtain rfl:=Option.some.inj H
    obtain ⟨Ao27,co27,eo27⟩:=Kd.R_slice HO_7.out
    subst eo27
    go_wp2
    go_ret
    exact ⟨_,er_,Kd.R_up HO_7.out,hb_⟩
   rw [if_pos c16] at H
   have c16b0 : decide (0 ≤ a2) = true:=decide_eq_true c16
   clear c16
   replace H:=Option.bind_eq_some_iff.mp H
   obtain ⟨t180,A170,H⟩:=H
   replace H : (if t180 = true then (if x7_1.length < 17592186044416 then (some (x7_1 ++ [a2])) else (none)) else (some x7_1)) = some r:=H
   have A17:=Aside0.mk A170
   clear A170
   by_cases c18 : t180 = true
   ·subst c18
    have H1 : (if x7_1.length < 17592186044416 then (some (x7_1 ++ [a2])) else (none)) = some r:=by rw [if_pos rfl] at H;exact H
    clear H
    have H:=H1
    clear H1
    replace H:=ifp_ H;obtain ⟨c19,H⟩:=H
    have LMc19:=Aside0.mk c19
    clear c19
    obtain ⟨y181,hy181⟩ : ∃ y_ : List Int,y_ = (x7_1 ++ [a2]):=⟨_,rfl⟩
    replace H : (some y181) = some r:=by first|(rw [hy181];with_reducible exact H)|(have H2_:=(Option.bind_some _ _).symm.trans H;rw [hy181];with_reducible exact H2_)|(have H2_:=(Option.bind_some _ _).symm.trans H;with_reducible exact H2_)|with_reducible exact H|(rw [hy181];exact H)|exact H
    have Ny181:=Aside0.mk hy181
    clear hy181
    obtain rfl:=Option.some.inj H
    obtain ⟨Ao20,co20,eo20⟩:=Kd.R_slice HO_7.out
    subst eo20
    obtain ⟨_,_,_,_,_,_,_,_⟩:=cells4 BK175.out
    go_wp2_with (first|(go_at_call 84;(with_reducible refine (hinterlandref17_joined.calls k1 a0_0 a0_1 _ _ l0_2 _ _ l0_3 a1 a2 true _ ?_ ?_ ?_ ?_ A17.out).mono ?_);exact cq HR0_2;exact HC0_2.out;exact cq HR0_3;exact HC0_3.out;rintro e w22 ⟨rfl,hb⟩;replace HO_7:=rbw HO_7 hb;replace BK175:=bkb BK175 hb;replace HB:=hbs hb)|((with_reducible refine gate_builtin (b:=.append) (xs:=#[.tmp 39,.tmp 41]) rfl ?_);at_builtin;refine Kd.R_append (Kd.int .i64) (w0:=w) w.heap.size rfl (.tmp 39) (.tmp 41) 22 3 (.int .i64 0) 8 rfl Try.underlying22 info3 rfl (by decide) (by omega) (.slice Ao20 x7_1.length co20) x7_1 a2 [.int .i64 a2] (fun _ => True) (fun _ => False) rfl rfl ?aP (fun _ hk => hk.elim) ?aF ?aO ?aB ?aS ?aL ?_;(case aP => exact rfl);(case aB => exact (hb_));(case aF => exact (fun _ _ => trivial));(case aO => exact (Kd.R_up HO_7.out));(case aS => exact (below_size (hb_)));(case aL => have:=LMc19.out;omega);intro v182 w23 ho hb hg hat;rw [← Ny181.out] at ho;have HO183:=Aside0.mk (ho);replace BK175:=Aside0.mk (blk_grown (blk_up BK175.out) hg (Kd.R_ne HO_7.out BK175.out (by decide)));replace HB:=Aside0.mk (hb);clear HO_7;clear ho hb hg hat))
    go_ret
    exact ⟨_,er_,Kd.R_up HO183.out,hb_⟩
   ·replace c18:=Bool.eq_false_iff.mpr c18
    subst c18
    have H1 : (some x7_1) = some r:=by rw [if_neg (show ¬ (false = true) by decide)] at H;exact H
    clear H
    have H:=H1
    clear H1
    obtain rfl:=Option.some.inj H
    obtain ⟨Ao24,co24,eo24⟩:=Kd.R_slice HO_7.out
    subst eo24
    obtain ⟨_,_,_,_,_,_,_,_⟩:=cells4 BK175.out
    go_wp2_with (first|(go_at_call 84;(with_reducible refine (hinterlandref17_joined.calls k1 a0_0 a0_1 _ _ l0_2 _ _ l0_3 a1 a2 false _ ?_ ?_ ?_ ?_ A17.out).mono ?_);exact cq HR0_2;exact HC0_2.out;exact cq HR0_3;exact HC0_3.out;rintro e w26 ⟨rfl,hb⟩;replace HO_7:=rbw HO_7 hb;replace BK175:=bkb BK175 hb;replace HB:=hbs hb))
    go_ret
    exact ⟨_,er_,Kd.R_up HO_7.out,hb_⟩

/-! ### hinterlandref17_far: function 64 -/
mutual
def hinterlandref17_far.l0 : Nat → Int → List Bool → List Int → Int → Int → Int → List Int → List Int → Option (Int)
 | 0,_,_,_,_,_,_,_,_ => none
 | k + 1,x3,x9,x10,x11,x185000,x185001,x185002,x185003 => if (x10.length : Int) > 0 then (hinterlandref17_far.l1 k x3 x9 x10 x11 ([] : List Int) 0 x185000 x185001 x185002 x185003) else (some (-1))
def hinterlandref17_far.l1 : Nat → Int → List Bool → List Int → Int → List Int → Int → Int → Int → List Int → List Int → Option (Int)
 | 0,_,_,_,_,_,_,_,_,_,_ => none
 | k + 1,x3,x9,x10,x11,x12,x13,x185000,x185001,x185002,x185003 => if x13 < (x10.length : Int) then (if 0 ≤ x13 then (if (wrap64 (Int.tdiv (rd x10 x13) 4)) = x3 then (some x11) else ((hinterlandref17_leave.f k x185000 x185001 x185002 x185003 (wrap64 (Int.tdiv (rd x10 x13) 4)) (Int.tmod (rd x10 x13) 4)).bind fun t197 => (hinterlandref17_far.l2 k x3 x9 x10 x11 x12 x13 t197 0 x185000 x185001 x185002 x185003))) else (none)) else (hinterlandref17_far.l0 k x3 x9 x12 (wrap64 (x11 + 1)) x185000 x185001 x185002 x185003)
def hinterlandref17_far.l2 : Nat → Int → List Bool → List Int → Int → List Int → Int → List Int → Int → Int → Int → List Int → List Int → Option (Int)
 | 0,_,_,_,_,_,_,_,_,_,_,_,_ => none
 | k + 1,x3,x9,x10,x11,x12,x13,x14,x15,x185000,x185001,x185002,x185003 => if x15 < (x14.length : Int) then (if 0 ≤ x13 then (if x13 < (x10.length : Int) then (if 0 ≤ x15 then ((hinterlandref17_beyond.f x185000 x185001 x185002 x185003 (wrap64 (Int.tdiv (rd x10 x13) 4)) (rd x14 x15)).bind fun t202 => (if 0 ≤ (wrap64 ((wrap64 (4 * t202)) + (Int.tmod (wrap64 ((rd x14 x15) + 2)) 4))) then (if (wrap64 ((wrap64 (4 * t202)) + (Int.tmod (wrap64 ((rd x14 x15) + 2)) 4))) < (x9.length : Int) then (if (rdOf false x9 (wrap64 ((wrap64 (4 * t202)) + (Int.tmod (wrap64 ((rd x14 x15) + 2)) 4))) = true) then (hinterlandref17_far.l2 k x3 x9 x10 x11 x12 x13 x14 (wrap64 (x15 + 1)) x185000 x185001 x185002 x185003) else (if x12.length < 17592186044416 then (hinterlandref17_far.l2 k x3 (x9.set ((wrap64 ((wrap64 (4 * t202)) + (Int.tmod (wrap64 ((rd x14 x15) + 2)) 4))) : Int).toNat true) x10 x11 (x12 ++ [wrap64 ((wrap64 (4 * t202)) + (Int.tmod (wrap64 ((rd x14 x15) + 2)) 4))]) x13 x14 (wrap64 (x15 + 1)) x185000 x185001 x185002 x185003) else (none))) else (none)) else (none))) else (none)) else (none)) else (none)) else (hinterlandref17_far.l1 k x3 x9 x10 x11 x12 (wrap64 (x13 + 1)) x185000 x185001 x185002 x185003)
end
def hinterlandref17_far.f (k : Nat) (a0_0 : Int) (a0_1 : Int) (l0_2 : List Int) (l0_3 : List Int) (a1 : Int) (a2 : Int) (a3 : Int) : Option (Int) := if 0 ≤ (wrap64 (4 * (l0_2.length : Int))) then (if (wrap64 (4 * (l0_2.length : Int)) : Int).toNat ≤ 281474976710656 then ((some (List.replicate (wrap64 (4 * (l0_2.length : Int)) : Int).toNat false : List Bool)).bind fun y185 => ((hinterlandref17_beyond.f a0_0 a0_1 l0_2 l0_3 a1 a2).bind fun t188 => ((some (([wrap64 ((wrap64 (4 * t188)) + (Int.tmod (wrap64 (a2 + 2)) 4))] : List Int) : List Int)).bind fun y189 => (if 0 < (y189.length : Int) then (if 0 ≤ (rd y189 0) then (if (rd y189 0) < (y185.length : Int) then (hinterlandref17_far.l0 k a3 (y185.set ((rd y189 0) : Int).toNat true) y189 1 a0_0 a0_1 l0_2 l0_3) else (none)) else (none)) else (none))))) else (none)) else (none)
theorem hinterlandref17_far.mono_l : ∀ k, (∀ y0 y1 y2 y3 y4 y5 y6 y7, LeO (hinterlandref17_far.l0 k y0 y1 y2 y3 y4 y5 y6 y7) (hinterlandref17_far.l0 (k + 1) y0 y1 y2 y3 y4 y5 y6 y7)) ∧ (∀ y0 y1 y2 y3 y4 y5 y6 y7 y8 y9, LeO (hinterlandref17_far.l1 k y0 y1 y2 y3 y4 y5 y6 y7 y8 y9) (hinterlandref17_far.l1 (k + 1) y0 y1 y2 y3 y4 y5 y6 y7 y8 y9)) ∧ (∀ y0 y1 y2 y3 y4 y5 y6 y7 y8 y9 y10 y11, LeO (hinterlandref17_far.l2 k y0 y1 y2 y3 y4 y5 y6 y7 y8 y9 y10 y11) (hinterlandref17_far.l2 (k + 1) y0 y1 y2 y3 y4 y5 y6 y7 y8 y9 y10 y11))
 | 0 => ⟨fun _ _ _ _ _ _ _ _ r h => by simp [hinterlandref17_far.l0] at h,fun _ _ _ _ _ _ _ _ _ _ r h => by simp [hinterlandref17_far.l1] at h,fun _ _ _ _ _ _ _ _ _ _ _ _ r h => by simp [hinterlandref17_far.l2] at h⟩
 | k + 1 => by
  obtain ⟨ih0,ih1,ih2⟩:=hinterlandref17_far.mono_l k
  refine ⟨?_,?_,?_⟩
  ·intro y0 y1 y2 y3 y4 y5 y6 y7
   unfold hinterlandref17_far.l0
   repeat' first
   | (with_reducible exact ih0 _ _ _ _ _ _ _ _)
   | (with_reducible exact ih1 _ _ _ _ _ _ _ _ _ _)
   | (with_reducible exact ih2 _ _ _ _ _ _ _ _ _ _ _ _)
   | (with_reducible exact hinterlandref17_leave.mono _ _ _ _ _ _ _)
   | (with_reducible exact LeO.refl _)
   | (with_reducible exact LeO.none _)
   | (with_reducible refine LeO.ite ?_ ?_)
   | (with_reducible refine LeO.bind ?_ (fun _ => ?_))
   | exact ih0 _ _ _ _ _ _ _ _
   | exact ih1 _ _ _ _ _ _ _ _ _ _
   | exact ih2 _ _ _ _ _ _ _ _ _ _ _ _
   | exact hinterlandref17_leave.mono _ _ _ _ _ _ _
   | exact LeO.none _
   | refine LeO.ite ?_ ?_
   | refine LeO.bind ?_ (fun _ => ?_)
  ·intro y0 y1 y2 y3 y4 y5 y6 y7 y8 y9
   unfold hinterlandref17_far.l1
   repeat' first
   | (with_reducible exact ih0 _ _ _ _ _ _ _ _)
   | (with_reducible exact ih1 _ _ _ _ _ _ _ _ _ _)
   | (with_reducible exact ih2 _ _ _ _ _ _ _ _ _ _ _ _)
   | (with_reducible exact hinterlandref17_leave.mono _ _ _ _ _ _ _)
   | (with_reducible exact LeO.refl _)
   | (with_reducible exact LeO.none _)
   | (with_reducible refine LeO.ite ?_ ?_)
   | (with_reducible refine LeO.bind ?_ (fun _ => ?_))
   | exact ih0 _ _ _ _ _ _ _ _
   | exact ih1 _ _ _ _ _ _ _ _ _ _
   | exact ih2 _ _ _ _ _ _ _ _ _ _ _ _
   | exact hinterlandref17_leave.mono _ _ _ _ _ _ _
   | exact LeO.none _
   | refine LeO.ite ?_ ?_
   | refine LeO.bind ?_ (fun _ => ?_)
  ·intro y0 y1 y2 y3 y4 y5 y6 y7 y8 y9 y10 y11
   unfold hinterlandref17_far.l2
   repeat' first
   | (with_reducible exact ih0 _ _ _ _ _ _ _ _)
   | (with_reducible exact ih1 _ _ _ _ _ _ _ _ _ _)
   | (with_reducible exact ih2 _ _ _ _ _ _ _ _ _ _ _ _)
   | (with_reducible exact hinterlandref17_leave.mono _ _ _ _ _ _ _)
   | (with_reducible exact LeO.refl _)
   | (with_reducible exact LeO.none _)
   | (with_reducible refine LeO.ite ?_ ?_)
   | (with_reducible refine LeO.bind ?_ (fun _ => ?_))
   | exact ih0 _ _ _ _ _ _ _ _
   | exact ih1 _ _ _ _ _ _ _ _ _ _
   | exact ih2 _ _ _ _ _ _ _ _ _ _ _ _
   | exact hinterlandref17_leave.mono _ _ _ _ _ _ _
   | exact LeO.none _
   | refine LeO.ite ?_ ?_
   | refine LeO.bind ?_ (fun _ => ?_)
theorem hinterlandref17_far.mono : ∀ a0 a1 a2 a3 a4 a5 a6 k, LeO (hinterlandref17_far.f k a0 a1 a2 a3 a4 a5 a6) (hinterlandref17_far.f (k + 1) a0 a1 a2 a3 a4 a5 a6) := by
 intro a0 a1 a2 a3 a4 a5 a6 k
 obtain ⟨ih0,ih1,ih2⟩:=hinterlandref17_far.mono_l k
 unfold hinterlandref17_far.f
 repeat' first
   | (with_reducible exact ih0 _ _ _ _ _ _ _ _)
   | (with_reducible exact ih1 _ _ _ _ _ _ _ _ _ _)
   | (with_reducible exact ih2 _ _ _ _ _ _ _ _ _ _ _ _)
   | (with_reducible exact hinterlandref17_leave.mono _ _ _ _ _ _ _)
   | (with_reducible exact LeO.refl _)
   | (with_reducible exact LeO.none _)
   | (with_reducible refine LeO.ite ?_ ?_)
   | (with_reducible refine LeO.bind ?_ (fun _ => ?_))
   | exact ih0 _ _ _ _ _ _ _ _
   | exact ih1 _ _ _ _ _ _ _ _ _ _
   | exact ih2 _ _ _ _ _ _ _ _ _ _ _ _
   | exact hinterlandref17_leave.mono _ _ _ _ _ _ _
   | exact LeO.none _
   | refine LeO.ite ?_ ?_
   | refine LeO.bind ?_ (fun _ => ?_)
def hinterlandref17_far.T13 : Bool × List (List Nat × List Nat) := (true, [([], []), ([], []), ([], []), ([1, 2], [1, 2]), ([3], [3]), ([4], [4]), ([], []), ([], []), ([6, 7], [6, 7]), ([8], [8]), ([9], [9]), ([0, 5, 10], [0, 5, 10]), ([11, 11, 0, 1, 2, 3, 4, 5, 6, 7, 8, 9, 10, 11], [11])])
def hinterlandref17_far.B13 : List Nat := [0, 0, 0, 6, 14, 30, 0, 0, 192, 448, 960, 2047, 4095]
theorem hinterlandref17_far.tab13 : rtab .any (opsOf Try.f64 13) = hinterlandref17_far.T13 := by kernel_rfl
theorem hinterlandref17_far.bits13 : waitsOk hinterlandref17_far.T13.2 hinterlandref17_far.B13 = true := by kernel_rfl
def hinterlandref17_far.T17 : Bool × List (List Nat × List Nat) := (true, [([], []), ([], []), ([], []), ([1, 2], [1, 2]), ([3], [3]), ([4], [4]), ([], []), ([], []), ([6, 7], [6, 7]), ([8], [8]), ([0, 5, 9], [0, 5, 9]), ([10], [10]), ([], []), ([], []), ([12, 13], [12, 13]), ([14], [14]), ([15], [15]), ([16], [16]), ([11, 17], [11, 17]), ([18, 10, 0, 1, 2, 3, 4, 5, 6, 7, 8, 9, 10, 11, 12, 13, 14, 15, 16, 17, 18], [18])])
def hinterlandref17_far.B17 : List Nat := [0, 0, 0, 6, 14, 30, 0, 0, 192, 448, 1023, 2047, 0, 0, 12288, 28672, 61440, 126976, 262143, 524287]
theorem hinterlandref17_far.tab17 : rtab .any (opsOf Try.f64 17) = hinterlandref17_far.T17 := by kernel_rfl
theorem hinterlandref17_far.bits17 : waitsOk hinterlandref17_far.T17.2 hinterlandref17_far.B17 = true := by kernel_rfl
set_option maxHeartbeats 8000000 in
set_option maxRecDepth 100000 in
theorem hinterlandref17_far.calls (k : Nat) (a0_0 : Int) (a0_1 : Int) (A0_2 : Option Addr) (c0_2 : Nat) (l0_2 : List Int) (A0_3 : Option Addr) (c0_3 : Nat) (l0_3 : List Int) (a1 : Int) (a2 : Int) (a3 : Int) (r : Int) (w : World) (hr0_2 : Kd.C (Kd.int .i64) w A0_2 l0_2.length l0_2) (hc0_2 : l0_2.length ≤ c0_2) (hr0_3 : Kd.C (Kd.int .i64) w A0_3 l0_3.length l0_3) (hc0_3 : l0_3.length ≤ c0_3) (h : hinterlandref17_far.f k a0_0 a0_1 l0_2 l0_3 a1 a2 a3 = some r) :
  Calls Try.prog 64 #[.agg #[.int .i64 a0_0,.int .i64 a0_1,.slice A0_2 l0_2.length c0_2,.slice A0_3 l0_3.length c0_3],.int .i64 a1,.int .i64 a2,.int .i64 a3] w fun e w' => e = .returned (.int .i64 r) ∧ Below w.heap.size w w':=by
 have hu24:=Try.underlying24
 have HR0_2:=Aside0.mk hr0_2
 have HC0_2:=Aside0.mk hc0_2
 clear hr0_2 hc0_2
 have HR0_3:=Aside0.mk hr0_3
 have HC0_3:=Aside0.mk hc0_3
 clear hr0_3 hc0_3
 have HB:=Aside0.mk (Below.refl w.heap.size w)
 have H : (if 0 ≤ (wrap64 (4 * (l0_2.length : Int))) then (if (wrap64 (4 * (l0_2.length : Int)) : Int).toNat ≤ 281474976710656 then ((some (List.replicate (wrap64 (4 * (l0_2.length : Int)) : Int).toNat false : List Bool)).bind fun y185 => ((hinterlandref17_beyond.f a0_0 a0_1 l0_2 l0_3 a1 a2).bind fun t188 => ((some (([wrap64 ((wrap64 (4 * t188)) + (Int.tmod (wrap64 (a2 + 2)) 4))] : List Int) : List Int)).bind fun y189 => (if 0 < (y189.length : Int) then (if 0 ≤ (rd y189 0) then (if (rd y189 0) < (y185.length : Int) then (hinterlandref17_far.l0 k a3 (y185.set ((rd y189 0) : Int).toNat true) y189 1 a0_0 a0_1 l0_2 l0_3) else (none)) else (none)) else (none))))) else (none)) else (none)) = some r:=h
 clear h
 obtain ⟨ji5,hji5⟩ : ∃ j_ : Int,(wrap64 (4 * (l0_2.length : Int))) = j_:=⟨_,rfl⟩
 replace H : (if 0 ≤ (ji5) then (if (ji5 : Int).toNat ≤ 281474976710656 then ((some (List.replicate (ji5 : Int).toNat false : List Bool)).bind fun y185 => ((hinterlandref17_beyond.f a0_0 a0_1 l0_2 l0_3 a1 a2).bind fun t188 => ((some (([wrap64 ((wrap64 (4 * t188)) + (Int.tmod (wrap64 (a2 + 2)) 4))] : List Int) : List Int)).bind fun y189 => (if 0 < (y189.length : Int) then (if 0 ≤ (rd y189 0) then (if (rd y189 0) < (y185.length : Int) then (hinterlandref17_far.l0 k a3 (y185.set ((rd y189 0) : Int).toNat true) y189 1 a0_0 a0_1 l0_2 l0_3) else (none)) else (none)) else (none))))) else (none)) else (none)) = some r:=by first|(rw [hji5] at H;exact H)|(simp only [hji5] at H ⊢;exact H)
 have hji5w : (IntKind.i64.wrap (4 * (l0_2.length : Int))) = ji5:=(i64_w _).trans hji5
 replace H:=ifp_ H;obtain ⟨c6,H⟩:=H
 have c6b0:=eq_true c6
 have c6b1 : decide (0 ≤ (ji5)) = true:=decide_eq_true c6
 clear c6
 replace H:=ifp_ H;obtain ⟨c7,H⟩:=H
 have c7b0:=eq_true c7
 have c7b1 : decide ((ji5 : Int).toNat ≤ 281474976710656) = true:=decide_eq_true c7
 clear c7
 obtain ⟨y185,hy185⟩ : ∃ y_ : List Bool,y_ = (List.replicate (ji5 : Int).toNat false):=⟨_,rfl⟩
 replace H : ((hinterlandref17_beyond.f a0_0 a0_1 l0_2 l0_3 a1 a2).bind fun t188 => ((some (([wrap64 ((wrap64 (4 * t188)) + (Int.tmod (wrap64 (a2 + 2)) 4))] : List Int) : List Int)).bind fun y189 => (if 0 < (y189.length : Int) then (if 0 ≤ (rd y189 0) then (if (rd y189 0) < (y185.length : Int) then (hinterlandref17_far.l0 k a3 (y185.set ((rd y189 0) : Int).toNat true) y189 1 a0_0 a0_1 l0_2 l0_3) else (none)) else (none)) else (none)))) = some r:=by first|(rw [hy185];with_reducible exact H)|(have H2_:=(Option.bind_some _ _).symm.trans H;rw [hy185];with_reducible exact H2_)|(have H2_:=(Option.bind_some _ _).symm.trans H;with_reducible exact H2_)|with_reducible exact H|(rw [hy185];exact H)|exact H
 have Ny185:=Aside0.mk hy185
 clear hy185
 replace H:=Option.bind_eq_some_iff.mp H
 obtain ⟨t188,A80,H⟩:=H
 replace H : ((some (([wrap64 ((wrap64 (4 * t188)) + (Int.tmod (wrap64 (a2 + 2)) 4))] : List Int) : List Int)).bind fun y189 => (if 0 < (y189.length : Int) then (if 0 ≤ (rd y189 0) then (if (rd y189 0) < (y185.length : Int) then (hinterlandref17_far.l0 k a3 (y185.set ((rd y189 0) : Int).toNat true) y189 1 a0_0 a0_1 l0_2 l0_3) else (none)) else (none)) else (none))) = some r:=H
 have A8:=Aside0.mk A80
 clear A80
 obtain ⟨y189,hy189⟩ : ∃ y_ : List Int,y_ = (([wrap64 ((wrap64 (4 * t188)) + (Int.tmod (wrap64 (a2 + 2)) 4))] : List Int)):=⟨_,rfl⟩
 replace H : (if 0 < (y189.length : Int) then (if 0 ≤ (rd y189 0) then (if (rd y189 0) < (y185.length : Int) then (hinterlandref17_far.l0 k a3 (y185.set ((rd y189 0) : Int).toNat true) y189 1 a0_0 a0_1 l0_2 l0_3) else (none)) else (none)) else (none)) = some r:=by first|(rw [hy189];with_reducible exact H)|(have H2_:=(Option.bind_some _ _).symm.trans H;rw [hy189];with_reducible exact H2_)|(have H2_:=(Option.bind_some _ _).symm.trans H;with_reducible exact H2_)|with_reducible exact H|(rw [hy189];exact H)|exact H
 have Ny189:=Aside0.mk hy189
 clear hy189
 replace H:=ifp_ H;obtain ⟨c9,H⟩:=H
 have c9b0 : decide (0 < (y189.length : Int)) = true:=decide_eq_true c9
 have c9b1 : decide (0 < y189.length) = true:=decide_eq_true (by omega)
 clear c9
 replace H:=ifp_ H;obtain ⟨c10,H⟩:=H
 have c10b0 : decide (0 ≤ (rd y189 0)) = true:=decide_eq_true c10
 clear c10
 replace H:=ifp_ H;obtain ⟨c11,H⟩:=H
 have c11b0 : decide ((rd y189 0) < (y185.length : Int)) = true:=decide_eq_true c11
 clear c11
 obtain ⟨y193,hy193⟩ : ∃ y_ : List Bool,y_ = (y185.set ((rd y189 0) : Int).toNat true):=⟨_,rfl⟩
 replace H : (hinterlandref17_far.l0 k a3 y193 y189 1 a0_0 a0_1 l0_2 l0_3) = some r:=by first|(rw [hy193];with_reducible exact H)|(have H2_:=(Option.bind_some _ _).symm.trans H;rw [hy193];with_reducible exact H2_)|(have H2_:=(Option.bind_some _ _).symm.trans H;with_reducible exact H2_)|with_reducible exact H|(rw [hy193];exact H)|exact H
 have Ny193:=Aside0.mk hy193
 clear hy193
 have H':=Aside0.mk H
 clear H
 go_enter Try.func64,Try.ntmps64
 go_wp2_with (first|((with_reducible refine gate_dst (N:=4) rfl ?_);refine box_ev (N:=4) (cs:=#[.int .i64 a0_0,.int .i64 a0_1,.slice A0_2 l0_2.length c0_2,.slice A0_3 l0_3.length c0_3]) (t:=24) ?_;intro gb184 hg w13 hbox hb;have BK184:=Aside0.mk (hbox);have GW184 : Aside0 (w.heap.size ≤ gb184):=gsz hg;have GE184:=GW184;replace HB:=hbs hb;clear hb hbox hg;obtain ⟨_,_,_,_,_,_,_,_⟩:=cells4 BK184.out)|((with_reducible refine gate_dst (N:=21) rfl ?_);refine Kd.R_make Kd.bool _ 4 rfl (N:=21) rfl 102 _ _ rfl ji5 rfl rfl Try.underlying102 (.bool false) 1 info4 rfl (by decide) (by omega) false (ok:=fun _ => True) (okp:=fun _ => True) rfl (fun _ hk => hk) trivial (of_decide_eq_true (by first|(with_reducible assumption)|assumption)) (Nat.le_trans (Nat.mul_le_mul_right _ (of_decide_eq_true (by first|(with_reducible assumption)|assumption) : ji5.toNat ≤ 281474976710656)) (by omega)) (Below.refl _ _) (Nat.le_refl _) ?_;intro v186 w15 ho16 hb hg_ hnew_;clear hg_ hnew_;(first|rw [← Ny185.out] at ho16|(simp only [Int.reduceToNat] at ho16;rw [← Ny185.out] at ho16));have HO187:=rlo ho16;replace BK184:=bkb BK184 hb;replace HB:=hbs hb;clear hb ho16;obtain ⟨_,_,_,_,_,_,_,_⟩:=cells4 BK184.out)|((with_reducible refine gate_callee (f:=67) rfl ?_);refine goesL_ (some 25) rfl rfl Try.func67 (by kernel_rfl) rfl #[.agg #[.int .i64 a0_0,.int .i64 a0_1,.slice A0_2 l0_2.length c0_2,.slice A0_3 l0_3.length c0_3],.int .i64 a1,.int .i64 a2] rfl ga_ ?_;(with_reducible refine (hinterlandref17_beyond.calls a0_0 a0_1 _ _ l0_2 _ _ l0_3 a1 a2 t188 _ ?_ ?_ ?_ ?_ A8.out).mono ?_);exact cq HR0_2;exact HC0_2.out;exact cq HR0_3;exact HC0_3.out;rintro e w18 ⟨rfl,hb⟩;refine ⟨_,rfl,?_⟩;replace HO187:=rbw HO187 hb;replace BK184:=bkb BK184 hb;replace HB:=hbs hb)|((with_reducible refine gate_dst (N:=31) rfl ?_);refine Kd.R_lit (Kd.int .i64) _ 3 ?hg (N:=31) ?hd (xs:=([wrap64 ((wrap64 (4 * t188)) + (Int.tmod (wrap64 (a2 + 2)) 4))] : List Int)) (inner:=[.int .i64 (wrap64 ((wrap64 (4 * t188)) + (Int.tmod (wrap64 (a2 + 2)) 4)))]) (ok:=fun _ => True) (okp:=fun _ => True) ?hr ?hp (fun _ hk => hk) trivial (Below.refl _ _) (Nat.le_refl _) (by simp) ?_;(case hd => rfl);(case hg => rfl);(case hr => first|(go_simp;done)|(go_simp;rfl));(case hp => exact (Reps.one (show Kd.M (Kd.int .i64) _ _ _ (wrap64 ((wrap64 (4 * t188)) + (Int.tmod (wrap64 (a2 + 2)) 4))) [.int .i64 (wrap64 ((wrap64 (4 * t188)) + (Int.tmod (wrap64 (a2 + 2)) 4)))] from rfl) (Reps.none _ _)));intro v190 w19 ho20 hb hg_ hnew_;clear hg_ hnew_;(first|rw [← Ny189.out] at ho20|(simp only [Int.reduceToNat] at ho20;rw [← Ny189.out] at ho20));have HO191:=rlo ho20;replace HO187:=rbw HO187 hb;replace BK184:=bkb BK184 hb;replace HB:=hbs hb;clear hb ho20;obtain ⟨Ao21,co21,eo21⟩:=Kd.R_slice HO191.out;subst eo21;have p192 : 0 ≤ (0 : Int):=(by omega);have q192 : 0 < (y189.length : Int):=of_decide_eq_true (by first|(with_reducible assumption)|assumption);obtain ⟨ad192,e192,hx192_0⟩:=Kd.at_int (Kd.R_reads' HO191.out).2.2 0 p192 q192;cases e192;have qi192 : (0 < y189.length) = True:=eq_true (by omega);(try rw [show ((0 : Int)).toNat = 0 from rfl] at hx192_0);(try rw [Addr.add_zero'] at hx192_0);replace p192:=eq_true p192;replace q192:=eq_true q192;have p12 : 0 ≤ ((rd y189 0) : Int):=of_decide_eq_true (by first|(with_reducible assumption)|assumption);have q12 : ((rd y189 0) : Int) < ((y185.length : Int) : Int):=of_decide_eq_true (by first|(with_reducible assumption)|assumption);obtain ⟨go12,co12,eo12,gb12,gl12,cl12,HG12⟩:=Kd.R_form HO187.out (by omega);(first|cases eo12|(injection eo12 with ea_ en_ ec_;(first|subst ea_|(injection ea_ with ea_;subst ea_));subst ec_;clear en_));have GB12:=Aside0.mk gb12;have GG12:=Aside0.mk HG12;clear gb12 gl12 HG12;obtain ⟨hx12_0,hf12_0⟩:=Kd.R_celln false HO187.out ((rd y189 0) : Int) p12 q12;replace p12:=eq_true p12;replace q12:=eq_true q12;obtain ⟨hy22_,hz22_⟩:=Kd.R_celln false HO187.out ((rd y189 0) : Int) (of_decide_eq_true (by first|(with_reducible assumption)|assumption)) (of_decide_eq_true (by first|(with_reducible assumption)|assumption));have HP22:=Kd.R_putg HO187.out ((rd y189 0) : Int) true)|((with_reducible refine gate_store (t:=4) (p:=36) rfl ?_);refine store_event (t:=4) (p:=36) (v:=?vo_w23) (w1:=(w19.setCell ⟨go12,((rd y189 0) : Int).toNat,none⟩ (.bool true))) ?hg ?ho ?hn ?hr ?_;(case ho => rfl);(case hg => rfl);(case hn => rfl);(case hr => first|(go_simp;done)|(go_simp;rfl));intro w23 hw;have hg : w19.grownBy w23 (some go12):=(by rw [hw];exact HP22.2);have hp_ : Kd.R Kd.bool 4 w23 w.heap.size (fun _ => True) (.slice (some ⟨go12,0,none⟩) y185.length co12) y193:=(by rw [hw,Ny193.out];exact HP22.1);clear HP22;replace BK184:=Aside0.mk (blk_grown (blk_up BK184.out) hg (Kd.R_ne HO187.out BK184.out (by decide)));replace HO191:=Aside0.mk (Kd.R_over' (v:=(.slice (some ⟨go12,0,none⟩) y185.length co12)) (Kd.R_up HO191.out) (Kd.R_typed HO187.out) (by decide) hg);replace HO187:=Aside0.mk (hp_);replace HB:=Aside0.mk ((by rw [hw];exact below_set (HB.out) GB12.out : Below w.heap.size w w23));clear hg hw hp_))
 go_loopg [10,11] k (fun kq v10 v11 w' => ∃ (x9_1 : List Bool) (x10_1 : List Int) (x11_1 : Int),v11 = .int .i64 x11_1 ∧ Aside0 (hinterlandref17_far.l0 kq a3 x9_1 x10_1 x11_1 a0_0 a0_1 l0_2 l0_3 = some r) ∧ Aside0 (kq ≤ k) ∧ Aside0 (Kd.R Kd.bool 4 w' w.heap.size (fun _ => True) (.slice (some ⟨go12,0,none⟩) y185.length co12) x9_1) ∧ Aside0 (Kd.R (Kd.int .i64) 3 w' w.heap.size (fun _ => True) v10 x10_1) ∧ Aside0 (w'.heap[gb184]? = some (.cells #[.int .i64 a0_0,.int .i64 a0_1,(.slice A0_2 l0_2.length c0_2),(.slice A0_3 l0_3.length c0_3)] 24 (0,0))) ∧ Aside0 (Below w.heap.size w w'))
 case atStart => exact ⟨(y193),(y189),(1),(by first|rfl|(simp;done)|(simp [*];done)),H',⟨Nat.le_refl _⟩,⟨Kd.R_up HO187.out⟩,⟨Kd.R_up HO191.out⟩,⟨blk_up BK184.out⟩,⟨hb_⟩⟩
 case round =>
  clear H'
  obtain ⟨x9_1,x10_1,x11_1,rfl,HA,HK1,HO_9,HO_10,BK184,HB⟩:=hrel
  have hl9_1:=(Kd.R_reads' HO_9.out).1
  rw [hl9_1] at HO_9
  (try simp only [hl9_1])
  (try simp only [hl9_1] at BK184)
  (try simp only [hl9_1] at HO_10)
  cases gk with
  | zero => exact absurd HA.out (by simp [hinterlandref17_far.l0])
  | succ k1 =>
   have H:=HA.out
   clear HA
   simp only [hinterlandref17_far.l0] at H
   by_cases c24 : (x10_1.length : Int) > 0
   rotate_left
   ·rw [if_neg c24] at H
    have c24b0 : decide (0 < (x10_1.length : Int)) = false:=decide_eq_false c24
    have c24b1 : decide (0 < x10_1.length) = false:=decide_eq_false (by omega)
    clear c24
    obtain rfl:=Option.some.inj H
    obtain ⟨Ao54,co54,eo54⟩:=Kd.R_slice HO_10.out
    subst eo54
    go_wp2
    go_ret
    exact ⟨by first|rfl|(simp [errW_none,errW_some] <;> rfl)|(simp only [← hji5];first|rfl|(simp [errW_none,errW_some] <;> rfl))|(simp [*,errW_none,errW_some] <;> rfl),hb_⟩
   rw [if_pos c24] at H
   have c24b0 : decide (0 < (x10_1.length : Int)) = true:=decide_eq_true c24
   have c24b1 : decide (0 < x10_1.length) = true:=decide_eq_true (by omega)
   clear c24
   have H':=Aside0.mk H
   clear H
   obtain ⟨Ao25,co25,eo25⟩:=Kd.R_slice HO_10.out
   subst eo25
   go_wp2
   go_loopg [12,13] k1 (fun kq v12 v13 w' => ∃ (x9_2 : List Bool) (x12_2 : List Int) (x13_2 : Int),v13 = .int .i64 x13_2 ∧ Aside0 (hinterlandref17_far.l1 kq a3 x9_2 x10_1 x11_1 x12_2 x13_2 a0_0 a0_1 l0_2 l0_3 = some r) ∧ Aside0 (kq ≤ k1) ∧ Aside0 (Kd.R Kd.bool 4 w' w.heap.size (fun _ => True) (.slice (some ⟨go12,0,none⟩) x9_1.length co12) x9_2) ∧ Aside0 (Kd.R (Kd.int .i64) 3 w' w.heap.size (fun k_ => some k_ ≠ (v12 : Value).ownBlock) (.slice Ao25 x10_1.length co25) x10_1) ∧ Aside0 (Kd.R (Kd.int .i64) 3 w' w.heap.size (fun k_ => some k_ ≠ ((.slice Ao25 x10_1.length co25) : Value).ownBlock) v12 x12_2) ∧ Aside0 (w'.heap[gb184]? = some (.cells #[.int .i64 a0_0,.int .i64 a0_1,(.slice A0_2 l0_2.length c0_2),(.slice A0_3 l0_3.length c0_3)] 24 (0,0))) ∧ Aside0 (Below w.heap.size w w'))
   case atStart => exact ⟨(x9_1),(([] : List Int)),(0),(by first|rfl|(simp;done)|(simp [*];done)),H',⟨Nat.le_refl _⟩,⟨by (try simp only [hl9_1]);(with_reducible repeat (first|apply Kd.R_alloc|apply Kd.R_drewN|apply Kd.R_drew));exact HO_9.out⟩,⟨by (try simp only [hl9_1]);(with_reducible repeat (first|apply Kd.R_alloc|apply Kd.R_drewN|apply Kd.R_drew));exact Kd.R_mono HO_10.out (fun _ hk => (by simp [Value.ownBlock]))⟩,⟨by (try simp only [hl9_1]);first|exact Kd.R_nil _ _ _ _ _|exact Kd.N_nil _ _ _ _ _|exact Kd.V_nil _ _ _ _ _|exact Kd.Q_nil _ _ _ _ _|exact Kd.S_nil _ _ _ _ _⟩,⟨by (try simp only [hl9_1]);(with_reducible repeat (first|refine blk_drewN ?_ _|refine blk_drew ?_|refine blk_alloc ?_ _));exact BK184.out⟩,⟨hb_⟩⟩
   case round =>
    clear H'
    obtain ⟨x9_2,x12_2,x13_2,rfl,HA,HK2,HO_9,HO_10,HO_12,BK184,HB⟩:=hrel
    have hl9_2:=(Kd.R_reads' HO_9.out).1
    rw [hl9_2] at HO_9
    (try simp only [hl9_2])
    (try simp only [hl9_2] at BK184)
    (try simp only [hl9_2] at HO_10)
    (try simp only [hl9_2] at HO_12)
    cases gk with
    | zero => exact absurd HA.out (by simp [hinterlandref17_far.l1])
    | succ k2 =>
     have H:=HA.out
     clear HA
     simp only [hinterlandref17_far.l1] at H
     by_cases c26 : x13_2 < (x10_1.length : Int)
     rotate_left
     ·rw [if_neg c26] at H
      have c26b0 : decide (x13_2 < (x10_1.length : Int)) = false:=decide_eq_false c26
      clear c26
      have H':=Aside0.mk H
      clear H
      go_wp2
      (try simp only [← hl9_1,← hl9_2])
      go_roundg k2
      case measure => have:=HK1.out;have:=HK2.out;omega
      case rel => exact ⟨(x9_2),(x12_2),(wrap64 (x11_1 + 1)),(by first|rfl|(simp;done)|(simp [*];done)),H',⟨by have:=HK1.out;have:=HK2.out;omega⟩,⟨by (try simp only [hl9_1]);(try simp only [hl9_2]);(with_reducible repeat (first|apply Kd.R_alloc|apply Kd.R_drewN|apply Kd.R_drew));exact HO_9.out⟩,⟨by (try simp only [hl9_1]);(try simp only [hl9_2]);(with_reducible repeat (first|apply Kd.R_alloc|apply Kd.R_drewN|apply Kd.R_drew));exact Kd.R_mono HO_12.out (fun _ hk => trivial)⟩,⟨by (try simp only [hl9_1]);(try simp only [hl9_2]);(with_reducible repeat (first|refine blk_drewN ?_ _|refine blk_drew ?_|refine blk_alloc ?_ _));exact BK184.out⟩,⟨hb_⟩⟩
     rw [if_pos c26] at H
     have c26b0 : decide (x13_2 < (x10_1.length : Int)) = true:=decide_eq_true c26
     clear c26
     replace H:=ifp_ H;obtain ⟨c27,H⟩:=H
     have c27b0 : decide (0 ≤ x13_2) = true:=decide_eq_true c27
     clear c27
     by_cases c28 : (wrap64 (Int.tdiv (rd x10_1 x13_2) 4)) = a3
     ·rw [if_pos c28] at H
      have c28b0:=bqt c28
      have c28b1:=bnf c28
      clear c28
      obtain rfl:=Option.some.inj H
      have p194 : 0 ≤ (x13_2 : Int):=of_decide_eq_true (by first|(with_reducible assumption)|assumption)
      have q194 : x13_2 < (x10_1.length : Int):=of_decide_eq_true (by first|(with_reducible assumption)|assumption)
      obtain ⟨ad194,e194,hx194_0⟩:=Kd.at_int (Kd.R_reads' HO_10.out).2.2 x13_2 p194 q194
      cases e194
      replace p194:=eq_true p194
      replace q194:=eq_true q194
      go_wp2
      go_ret
      exact ⟨by first|rfl|(simp [errW_none,errW_some] <;> rfl)|(simp only [← hji5];first|rfl|(simp [errW_none,errW_some] <;> rfl))|(simp [*,errW_none,errW_some] <;> rfl),hb_⟩
     rw [if_neg c28] at H
     have c28b0:=bqf c28
     have c28b1:=bnt c28
     replace H:=Option.bind_eq_some_iff.mp H
     obtain ⟨t197,A290,H⟩:=H
     replace H : (hinterlandref17_far.l2 k2 a3 x9_2 x10_1 x11_1 x12_2 x13_2 t197 0 a0_0 a0_1 l0_2 l0_3) = some r:=H
     have A29:=Aside0.mk A290
     clear A290
     have H':=Aside0.mk H
     clear H
     have p194 : 0 ≤ (x13_2 : Int):=of_decide_eq_true (by first|(with_reducible assumption)|assumption)
     have q194 : x13_2 < (x10_1.length : Int):=of_decide_eq_true (by first|(with_reducible assumption)|assumption)
     obtain ⟨ad194,e194,hx194_0⟩:=Kd.at_int (Kd.R_reads' HO_10.out).2.2 x13_2 p194 q194
     cases e194
     replace p194:=eq_true p194
     replace q194:=eq_true q194
     try go_wp2
     replace HO_9:=Aside0.mk (Kd.R_drew HO_9.out)
     replace HO_10:=Aside0.mk (Kd.R_drew HO_10.out)
     replace HO_12:=Aside0.mk (Kd.R_drew HO_12.out)
     replace BK184:=Aside0.mk (blk_drew BK184.out)
     replace HB:=Aside0.mk (below_drew1 HB.out)
     have p195 : 0 ≤ (x13_2 : Int):=of_decide_eq_true (by first|(with_reducible assumption)|assumption)
     have q195 : x13_2 < (x10_1.length : Int):=of_decide_eq_true (by first|(with_reducible assumption)|assumption)
     obtain ⟨ad195,e195,hx195_0⟩:=Kd.at_int (Kd.R_reads' HO_10.out).2.2 x13_2 p195 q195
     obtain rfl : ad194 = ad195:=(by injection e195)
     replace p195:=eq_true p195
     replace q195:=eq_true q195
     have p196 : 0 ≤ (x13_2 : Int):=of_decide_eq_true (by first|(with_reducible assumption)|assumption)
     have q196 : x13_2 < (x10_1.length : Int):=of_decide_eq_true (by first|(with_reducible assumption)|assumption)
     obtain ⟨ad196,e196,hx196_0⟩:=Kd.at_int (Kd.R_reads' HO_10.out).2.2 x13_2 p196 q196
     obtain rfl : ad194 = ad196:=(by injection e196)
     replace p196:=eq_true p196
     replace q196:=eq_true q196
     refine start_ (n:=13) (S:=fun w' => w'.cell? ⟨gb184,0,none⟩ = some (.int .i64 a0_0) ∧ w'.cell? ⟨gb184,1,none⟩ = some (.int .i64 a0_1) ∧ w'.cell? ⟨gb184,2,none⟩ = some (.slice A0_2 l0_2.length c0_2) ∧ w'.cell? ⟨gb184,3,none⟩ = some (.slice A0_3 l0_3.length c0_3) ∧ w'.cell? (ad194.add (x13_2).toNat) = some (.int .i64 (rd x10_1 x13_2)) ∧ w'.cell? (ad194.add (x13_2).toNat) = some (.int .i64 (rd x10_1 x13_2))) (ds:=[]) #[false,false,false,false,false,false,false,false,false,false,false,false,false] (by kernel_rfl) rfl rfl ⟨(blk_cell BK184.out 0).trans rfl,(blk_cell BK184.out 1).trans rfl,(blk_cell BK184.out 2).trans rfl,(blk_cell BK184.out 3).trans rfl,hx195_0,hx196_0⟩ (fun hHeld => ?_);refine with_tabW hinterlandref17_far.tab13 hinterlandref17_far.bits13 (fun HT_ HW_ => ?_)
     generalize wr.drew = w30 at HO_9 HO_10 HO_12 BK184 HB hx195_0 hx196_0 hHeld ⊢
     refine pI 1 (some 57) ?_
     refine pI 2 (some 58) ?_
     refine pI 3 (some 59) ?_
     refine pI 6 (some 62) ?_
     refine pI 7 (some 63) ?_
     refine pI 8 (some 64) ?_
     refine tI6 0 (some 56) hHeld ?_
     refine tI6 4 (some 60) hHeld ?_
     refine pI 5 (some 61) ?_
     refine tI6 9 (some 65) hHeld ?_
     refine pI 10 (some 66) ?_
     refine oI 11 (some 67) (fun K hK => ?_)
     refine goes_ Try.func63 (by kernel_rfl) rfl #[.agg #[.int .i64 a0_0,.int .i64 a0_1,.slice A0_2 l0_2.length c0_2,.slice A0_3 l0_3.length c0_3],.int .i64 (wrap64 (Int.tdiv (rd x10_1 x13_2) 4)),.int .i64 (Int.tmod (rd x10_1 x13_2) 4)] (by rfl) rfl rfl ga_ ?_
     with_reducible refine (hinterlandref17_leave.calls k2 a0_0 a0_1 _ _ l0_2 _ _ l0_3 (wrap64 (Int.tdiv (rd x10_1 x13_2) 4)) (Int.tmod (rd x10_1 x13_2) 4) t197 _ ?side1 ?side2 ?side3 ?side4 A29.out).mono ?_
     (case side1 => exact cq HR0_2)
     (case side2 => exact HC0_2.out)
     (case side3 => exact cq HR0_3)
     (case side4 => exact HC0_3.out)
     rintro e w31 ⟨v198,rfl,ho0,hb⟩
     have HS4_:=(hb.cell (World.block_lt_of_cell? _ _ (hHeld.2.2.2.2.1))).trans (hHeld.2.2.2.2.1)
     have HS5_:=(hb.cell (World.block_lt_of_cell? _ _ (hHeld.2.2.2.2.2))).trans (hHeld.2.2.2.2.2)
     refine ⟨_,rfl,?_⟩
     have n0_:=rbw HO_9 hb
     have n1_:=Aside0.mk (Kd.R_elder' (Kd.R_up HO_10.out) (Kd.R_base ho0) hb)
     have n2_:=Aside0.mk (Kd.R_elder' (Kd.R_up HO_12.out) (Kd.R_base ho0) hb)
     have n3_:=Aside0.mk (Kd.R_lower (Kd.R_new' (Kd.R_new' ho0 (Kd.R_lt (Kd.R_up HO_10.out))) (Kd.R_lt (Kd.R_up HO_12.out))) (below_size (hb_)))
     have n4_:=bkb BK184 hb
     have n5_:=Aside0.mk (below_step (hb_) hb)
     clear HO_9
     clear HO_10
     clear HO_12
     clear BK184
     clear HB
     have HO_9:=n0_
     have HO_10:=n1_
     have HO_12:=n2_
     have HO199:=n3_
     have BK184:=n4_
     have HB:=n5_
     clear n0_ n1_ n2_ n3_ n4_ n5_
     (try clear hb)
     (try clear hb2)
     (try clear hk)
     (try clear hi)
     (try clear ho0)
     refine hK.out _ _ ⟨(blk_cell BK184.out 0).trans rfl,(blk_cell BK184.out 1).trans rfl,(blk_cell BK184.out 2).trans rfl,(blk_cell BK184.out 3).trans rfl,HS4_,HS5_⟩ (fun hHeld => ?_)
     clear hK K
     refine norm_ (a':=?_) ?_ ?_
     rotate_left
     ·show Act.put _ (some 67) _ = _
      simp only [Act.put,List.setIfInBounds_toArray,List.set_cons_zero,List.set_cons_succ,i64_w,i32_w]
      rfl
     refine pI 12 (some 14) ?_
     refine done_ (done_of HT_.out (by kernel_rfl)) ?_
     try go_wp2
     go_loopg [12,15] k2 (fun kq v12 v15 w' => ∃ (x9_3 : List Bool) (x12_3 : List Int) (x15_3 : Int),v15 = .int .i64 x15_3 ∧ Aside0 (hinterlandref17_far.l2 kq a3 x9_3 x10_1 x11_1 x12_3 x13_2 t197 x15_3 a0_0 a0_1 l0_2 l0_3 = some r) ∧ Aside0 (kq ≤ k2) ∧ Aside0 (Kd.R Kd.bool 4 w' w.heap.size (fun _ => True) (.slice (some ⟨go12,0,none⟩) x9_2.length co12) x9_3) ∧ Aside0 (Kd.R (Kd.int .i64) 3 w' w.heap.size (fun k_ => some k_ ≠ (v12 : Value).ownBlock ∧ some k_ ≠ (v198 : Value).ownBlock) (.slice (some ad194) x10_1.length co25) x10_1) ∧ Aside0 (Kd.R (Kd.int .i64) 3 w' w.heap.size (fun k_ => some k_ ≠ ((.slice (some ad194) x10_1.length co25) : Value).ownBlock ∧ some k_ ≠ (v198 : Value).ownBlock) v12 x12_3) ∧ Aside0 (Kd.R (Kd.int .i64) 3 w' w.heap.size (fun k_ => some k_ ≠ ((.slice (some ad194) x10_1.length co25) : Value).ownBlock ∧ some k_ ≠ (v12 : Value).ownBlock) v198 t197) ∧ Aside0 (w'.heap[gb184]? = some (.cells #[.int .i64 a0_0,.int .i64 a0_1,(.slice A0_2 l0_2.length c0_2),(.slice A0_3 l0_3.length c0_3)] 24 (0,0))) ∧ Aside0 (Below w.heap.size w w'))
     case atStart => exact ⟨(x9_2),(x12_2),(0),(by first|rfl|(simp;done)|(simp [*];done)),H',⟨Nat.le_refl _⟩,⟨by (try simp only [hl9_1]);(try simp only [hl9_2]);(with_reducible repeat (first|apply Kd.R_alloc|apply Kd.R_drewN|apply Kd.R_drew));exact HO_9.out⟩,⟨by (try simp only [hl9_1]);(try simp only [hl9_2]);(with_reducible repeat (first|apply Kd.R_alloc|apply Kd.R_drewN|apply Kd.R_drew));exact HO_10.out⟩,⟨by (try simp only [hl9_1]);(try simp only [hl9_2]);(with_reducible repeat (first|apply Kd.R_alloc|apply Kd.R_drewN|apply Kd.R_drew));exact HO_12.out⟩,⟨by (try simp only [hl9_1]);(try simp only [hl9_2]);(with_reducible repeat (first|apply Kd.R_alloc|apply Kd.R_drewN|apply Kd.R_drew));exact Kd.R_mono HO199.out (fun _ hk => ⟨hk.1.2,hk.2⟩)⟩,⟨by (try simp only [hl9_1]);(try simp only [hl9_2]);(with_reducible repeat (first|refine blk_drewN ?_ _|refine blk_drew ?_|refine blk_alloc ?_ _));exact BK184.out⟩,⟨hb_⟩⟩
     case round =>
      clear H'
      obtain ⟨x9_3,x12_3,x15_3,rfl,HA,HK3,HO_9,HO_10,HO_12,HO_14,BK184,HB⟩:=hrel
      have hl9_3:=(Kd.R_reads' HO_9.out).1
      rw [hl9_3] at HO_9
      (try simp only [hl9_3])
      (try simp only [hl9_3] at BK184)
      (try simp only [hl9_3] at HO_10)
      (try simp only [hl9_3] at HO_12)
      (try simp only [hl9_3] at HO_14)
      cases gk with
      | zero => exact absurd HA.out (by simp [hinterlandref17_far.l2])
      | succ k3 =>
       have H:=HA.out
       clear HA
       simp only [hinterlandref17_far.l2] at H
       by_cases c32 : x15_3 < (t197.length : Int)
       rotate_left
       ·rw [if_neg c32] at H
        have c32b0 : decide (x15_3 < (t197.length : Int)) = false:=decide_eq_false c32
        clear c32
        have H':=Aside0.mk H
        clear H
        obtain ⟨Ao53,co53,eo53⟩:=Kd.R_slice HO_14.out
        subst eo53
        go_wp2
        (try simp only [← hl9_2,← hl9_3])
        go_roundg k3
        case measure => have:=HK1.out;have:=HK2.out;have:=HK3.out;omega
        case rel => exact ⟨(x9_3),(x12_3),(wrap64 (x13_2 + 1)),(by first|rfl|(simp;done)|(simp [*];done)),H',⟨by have:=HK1.out;have:=HK2.out;have:=HK3.out;omega⟩,⟨by (try simp only [hl9_1]);(try simp only [hl9_2]);(try simp only [hl9_3]);(with_reducible repeat (first|apply Kd.R_alloc|apply Kd.R_drewN|apply Kd.R_drew));exact HO_9.out⟩,⟨by (try simp only [hl9_1]);(try simp only [hl9_2]);(try simp only [hl9_3]);(with_reducible repeat (first|apply Kd.R_alloc|apply Kd.R_drewN|apply Kd.R_drew));exact Kd.R_mono HO_10.out (fun _ hk => hk.1)⟩,⟨by (try simp only [hl9_1]);(try simp only [hl9_2]);(try simp only [hl9_3]);(with_reducible repeat (first|apply Kd.R_alloc|apply Kd.R_drewN|apply Kd.R_drew));exact Kd.R_mono HO_12.out (fun _ hk => hk.1)⟩,⟨by (try simp only [hl9_1]);(try simp only [hl9_2]);(try simp only [hl9_3]);(with_reducible repeat (first|refine blk_drewN ?_ _|refine blk_drew ?_|refine blk_alloc ?_ _));exact BK184.out⟩,⟨hb_⟩⟩
       rw [if_pos c32] at H
       have c32b0 : decide (x15_3 < (t197.length : Int)) = true:=decide_eq_true c32
       clear c32
       replace H:=ifp_ H;obtain ⟨c33,H⟩:=H
       have c33b0 : decide (0 ≤ x13_2) = true:=decide_eq_true c33
       clear c33
       replace H:=ifp_ H;obtain ⟨c34,H⟩:=H
       have c34b0 : decide (x13_2 < (x10_1.length : Int)) = true:=decide_eq_true c34
       clear c34
       replace H:=ifp_ H;obtain ⟨c35,H⟩:=H
       have c35b0 : decide (0 ≤ x15_3) = true:=decide_eq_true c35
       clear c35
       replace H:=Option.bind_eq_some_iff.mp H
       obtain ⟨t202,A360,H⟩:=H
       replace H : (if 0 ≤ (wrap64 ((wrap64 (4 * t202)) + (Int.tmod (wrap64 ((rd t197 x15_3) + 2)) 4))) then (if (wrap64 ((wrap64 (4 * t202)) + (Int.tmod (wrap64 ((rd t197 x15_3) + 2)) 4))) < (x9_3.length : Int) then (if (rdOf false x9_3 (wrap64 ((wrap64 (4 * t202)) + (Int.tmod (wrap64 ((rd t197 x15_3) + 2)) 4))) = true) then (hinterlandref17_far.l2 k3 a3 x9_3 x10_1 x11_1 x12_3 x13_2 t197 (wrap64 (x15_3 + 1)) a0_0 a0_1 l0_2 l0_3) else (if x12_3.length < 17592186044416 then (hinterlandref17_far.l2 k3 a3 (x9_3.set ((wrap64 ((wrap64 (4 * t202)) + (Int.tmod (wrap64 ((rd t197 x15_3) + 2)) 4))) : Int).toNat true) x10_1 x11_1 (x12_3 ++ [wrap64 ((wrap64 (4 * t202)) + (Int.tmod (wrap64 ((rd t197 x15_3) + 2)) 4))]) x13_2 t197 (wrap64 (x15_3 + 1)) a0_0 a0_1 l0_2 l0_3) else (none))) else (none)) else (none)) = some r:=H
       have A36:=Aside0.mk A360
       clear A360
       obtain ⟨ji37,hji37⟩ : ∃ j_ : Int,(wrap64 ((wrap64 (4 * t202)) + (Int.tmod (wrap64 ((rd t197 x15_3) + 2)) 4))) = j_:=⟨_,rfl⟩
       replace H : (if 0 ≤ (ji37) then (if (ji37) < (x9_3.length : Int) then (if (rdOf false x9_3 (ji37) = true) then (hinterlandref17_far.l2 k3 a3 x9_3 x10_1 x11_1 x12_3 x13_2 t197 (wrap64 (x15_3 + 1)) a0_0 a0_1 l0_2 l0_3) else (if x12_3.length < 17592186044416 then (hinterlandref17_far.l2 k3 a3 (x9_3.set ((ji37) : Int).toNat true) x10_1 x11_1 (x12_3 ++ [ji37]) x13_2 t197 (wrap64 (x15_3 + 1)) a0_0 a0_1 l0_2 l0_3) else (none))) else (none)) else (none)) = some r:=by first|(rw [hji37] at H;exact H)|(simp only [hji37] at H ⊢;exact H)
       (try rw [hji37] at A36)
       have hji37w : (IntKind.i64.wrap ((wrap64 (4 * t202)) + (Int.tmod (wrap64 ((rd t197 x15_3) + 2)) 4))) = ji37:=(i64_w _).trans hji37
       replace H:=ifp_ H;obtain ⟨c38,H⟩:=H
       have c38b0 : decide (0 ≤ (ji37)) = true:=decide_eq_true c38
       clear c38
       replace H:=ifp_ H;obtain ⟨c39,H⟩:=H
       have c39b0 : decide ((ji37) < (x9_3.length : Int)) = true:=decide_eq_true c39
       clear c39
       obtain ⟨bq40,hbq40⟩ : ∃ b_ : Bool,b_ = (rdOf false x9_3 (ji37)):=⟨_,rfl⟩
       replace H : (if (bq40 = true) then (hinterlandref17_far.l2 k3 a3 x9_3 x10_1 x11_1 x12_3 x13_2 t197 (wrap64 (x15_3 + 1)) a0_0 a0_1 l0_2 l0_3) else (if x12_3.length < 17592186044416 then (hinterlandref17_far.l2 k3 a3 (x9_3.set ((ji37) : Int).toNat true) x10_1 x11_1 (x12_3 ++ [ji37]) x13_2 t197 (wrap64 (x15_3 + 1)) a0_0 a0_1 l0_2 l0_3) else (none))) = some r:=by rw [← hbq40] at H;exact H
       have Nbq40:=Aside0.mk hbq40
       clear hbq40
       by_cases c41 : (bq40 = true)
       ·subst c41
        have H1 : (hinterlandref17_far.l2 k3 a3 x9_3 x10_1 x11_1 x12_3 x13_2 t197 (wrap64 (x15_3 + 1)) a0_0 a0_1 l0_2 l0_3) = some r:=by rw [if_pos rfl] at H;exact H
        clear H
        have H:=H1
        clear H1
        have H':=Aside0.mk H
        clear H
        obtain ⟨Ao42,co42,eo42⟩:=Kd.R_slice HO_14.out
        subst eo42
        try go_wp2
        replace HO_9:=Aside0.mk (Kd.R_drew HO_9.out)
        replace HO_10:=Aside0.mk (Kd.R_drew HO_10.out)
        replace HO_12:=Aside0.mk (Kd.R_drew HO_12.out)
        replace HO_14:=Aside0.mk (Kd.R_drew HO_14.out)
        replace BK184:=Aside0.mk (blk_drew BK184.out)
        replace HB:=Aside0.mk (below_drew1 HB.out)
        have p200 : 0 ≤ (x13_2 : Int):=of_decide_eq_true (by first|(with_reducible assumption)|assumption)
        have q200 : x13_2 < (x10_1.length : Int):=of_decide_eq_true (by first|(with_reducible assumption)|assumption)
        obtain ⟨ad200,e200,hx200_0⟩:=Kd.at_int (Kd.R_reads' HO_10.out).2.2 x13_2 p200 q200
        obtain rfl : ad194 = ad200:=(by injection e200)
        replace p200:=eq_true p200
        replace q200:=eq_true q200
        have p201 : 0 ≤ (x15_3 : Int):=of_decide_eq_true (by first|(with_reducible assumption)|assumption)
        have q201 : x15_3 < (t197.length : Int):=of_decide_eq_true (by first|(with_reducible assumption)|assumption)
        obtain ⟨ad201,e201,hx201_0⟩:=Kd.at_int (Kd.R_reads' HO_14.out).2.2 x15_3 p201 q201
        cases e201
        replace p201:=eq_true p201
        replace q201:=eq_true q201
        have p203 : 0 ≤ (x15_3 : Int):=of_decide_eq_true (by first|(with_reducible assumption)|assumption)
        have q203 : x15_3 < (t197.length : Int):=of_decide_eq_true (by first|(with_reducible assumption)|assumption)
        obtain ⟨ad203,e203,hx203_0⟩:=Kd.at_int (Kd.R_reads' HO_14.out).2.2 x15_3 p203 q203
        obtain rfl : ad201 = ad203:=(by injection e203)
        replace p203:=eq_true p203
        replace q203:=eq_true q203
        refine start_ (n:=20) (S:=fun w' => w'.cell? ⟨gb184,0,none⟩ = some (.int .i64 a0_0) ∧ w'.cell? ⟨gb184,1,none⟩ = some (.int .i64 a0_1) ∧ w'.cell? ⟨gb184,2,none⟩ = some (.slice A0_2 l0_2.length c0_2) ∧ w'.cell? ⟨gb184,3,none⟩ = some (.slice A0_3 l0_3.length c0_3) ∧ w'.cell? (ad194.add (x13_2).toNat) = some (.int .i64 (rd x10_1 x13_2)) ∧ w'.cell? (ad201.add (x15_3).toNat) = some (.int .i64 (rd t197 x15_3)) ∧ w'.cell? (ad201.add (x15_3).toNat) = some (.int .i64 (rd t197 x15_3))) (ds:=[]) #[false,false,false,false,false,false,false,false,false,false,false,false,false,false,false,false,false,false,false,false] (by kernel_rfl) rfl rfl ⟨(blk_cell BK184.out 0).trans rfl,(blk_cell BK184.out 1).trans rfl,(blk_cell BK184.out 2).trans rfl,(blk_cell BK184.out 3).trans rfl,hx200_0,hx201_0,hx203_0⟩ (fun hHeld => ?_);refine with_tabW hinterlandref17_far.tab17 hinterlandref17_far.bits17 (fun HT_ HW_ => ?_)
        generalize wr.drew = w43 at HO_9 HO_10 HO_12 HO_14 BK184 HB hx200_0 hx201_0 hx203_0 hHeld ⊢
        refine pI 1 (some 75) ?_
        refine pI 2 (some 76) ?_
        refine pI 3 (some 77) ?_
        refine pI 6 (some 80) ?_
        refine pI 7 (some 81) ?_
        refine pI 8 (some 82) ?_
        refine pI 12 (some 86) ?_
        refine pI 13 (some 87) ?_
        refine pI 14 (some 88) ?_
        refine tI7 0 (some 74) hHeld ?_
        refine tI7 4 (some 78) hHeld ?_
        refine pI 5 (some 79) ?_
        refine tI7 9 (some 83) hHeld ?_
        refine tI7 15 (some 89) hHeld ?_
        refine pI 16 (some 90) ?_
        refine pI 17 (some 91) ?_
        refine oI 10 (some 84) (fun K hK => ?_)
        refine goes_ Try.func67 (by kernel_rfl) rfl #[.agg #[.int .i64 a0_0,.int .i64 a0_1,.slice A0_2 l0_2.length c0_2,.slice A0_3 l0_3.length c0_3],.int .i64 (wrap64 (Int.tdiv (rd x10_1 x13_2) 4)),.int .i64 (rd t197 x15_3)] (by rfl) rfl rfl ga_ ?_
        with_reducible refine (hinterlandref17_beyond.calls a0_0 a0_1 _ _ l0_2 _ _ l0_3 (wrap64 (Int.tdiv (rd x10_1 x13_2) 4)) (rd t197 x15_3) t202 _ ?side1 ?side2 ?side3 ?side4 A36.out).mono ?_
        (case side1 => exact cq HR0_2)
        (case side2 => exact HC0_2.out)
        (case side3 => exact cq HR0_3)
        (case side4 => exact HC0_3.out)
        rintro e w44 ⟨rfl,hb⟩
        have HS4_:=(hb.cell (World.block_lt_of_cell? _ _ (hHeld.2.2.2.2.1))).trans (hHeld.2.2.2.2.1)
        have HS5_:=(hb.cell (World.block_lt_of_cell? _ _ (hHeld.2.2.2.2.2.1))).trans (hHeld.2.2.2.2.2.1)
        have HS6_:=(hb.cell (World.block_lt_of_cell? _ _ (hHeld.2.2.2.2.2.2))).trans (hHeld.2.2.2.2.2.2)
        refine ⟨_,rfl,?_⟩
        have n0_:=rbw HO_9 hb
        have n1_:=rbw HO_10 hb
        have n2_:=rbw HO_12 hb
        have n3_:=rbw HO_14 hb
        have n4_:=bkb BK184 hb
        have n5_:=Aside0.mk (below_step (hb_) hb)
        clear HO_9
        clear HO_10
        clear HO_12
        clear HO_14
        clear BK184
        clear HB
        have HO_9:=n0_
        have HO_10:=n1_
        have HO_12:=n2_
        have HO_14:=n3_
        have BK184:=n4_
        have HB:=n5_
        clear n0_ n1_ n2_ n3_ n4_ n5_
        (try clear hb)
        (try clear hb2)
        (try clear hk)
        (try clear hi)
        refine hK.out _ _ ⟨(blk_cell BK184.out 0).trans rfl,(blk_cell BK184.out 1).trans rfl,(blk_cell BK184.out 2).trans rfl,(blk_cell BK184.out 3).trans rfl,HS4_,HS5_,HS6_⟩ (fun hHeld => ?_)
        clear hK K
        refine norm_ (a':=?_) ?_ ?_
        rotate_left
        ·show Act.put _ (some 84) _ = _
         simp only [Act.put,List.setIfInBounds_toArray,List.set_cons_zero,List.set_cons_succ,i64_w,i32_w]
         rfl
        refine pI 11 (some 85) ?_
        refine pI 18 (some 92) ?_
        refine pI 19 (some 16) ?_
        refine done_ (done_of HT_.out (by kernel_rfl)) ?_
        have p204 : 0 ≤ ((ji37) : Int):=of_decide_eq_true (by first|(with_reducible assumption)|assumption)
        have q204 : (ji37) < (x9_3.length : Int):=of_decide_eq_true (by first|(with_reducible assumption)|assumption)
        obtain ⟨ad204,e204,hx204_0⟩:=Kd.at_bool (Kd.R_reads' HO_9.out).2.2 (ji37) p204 q204
        (try rw [← Nbq40.out] at hx204_0)
        obtain rfl : (⟨go12,0,none⟩ : Addr) = ad204:=(by injection e204)
        (first|simp only [add_plain] at hx204_0|simp only [add_at] at hx204_0|simp only [Addr.add,Nat.zero_add] at hx204_0|skip)
        replace p204:=eq_true p204
        replace q204:=eq_true q204
        try go_wp2
        (try simp only [← hl9_3])
        go_roundg k3
        case measure => have:=HK1.out;have:=HK2.out;have:=HK3.out;omega
        case rel => exact ⟨(x9_3),(x12_3),(wrap64 (x15_3 + 1)),(by first|rfl|(simp;done)|(simp [*];done)),H',⟨by have:=HK1.out;have:=HK2.out;have:=HK3.out;omega⟩,⟨by (try simp only [hl9_1]);(try simp only [hl9_2]);(try simp only [hl9_3]);(with_reducible repeat (first|apply Kd.R_alloc|apply Kd.R_drewN|apply Kd.R_drew));exact HO_9.out⟩,⟨by (try simp only [hl9_1]);(try simp only [hl9_2]);(try simp only [hl9_3]);(with_reducible repeat (first|apply Kd.R_alloc|apply Kd.R_drewN|apply Kd.R_drew));exact HO_10.out⟩,⟨by (try simp only [hl9_1]);(try simp only [hl9_2]);(try simp only [hl9_3]);(with_reducible repeat (first|apply Kd.R_alloc|apply Kd.R_drewN|apply Kd.R_drew));exact HO_12.out⟩,⟨by (try simp only [hl9_1]);(try simp only [hl9_2]);(try simp only [hl9_3]);(with_reducible repeat (first|apply Kd.R_alloc|apply Kd.R_drewN|apply Kd.R_drew));exact HO_14.out⟩,⟨by (try simp only [hl9_1]);(try simp only [hl9_2]);(try simp only [hl9_3]);(with_reducible repeat (first|refine blk_drewN ?_ _|refine blk_drew ?_|refine blk_alloc ?_ _));exact BK184.out⟩,⟨hb_⟩⟩
       ·replace c41:=Bool.eq_false_iff.mpr c41
        subst c41
        have H1 : (if x12_3.length < 17592186044416 then (hinterlandref17_far.l2 k3 a3 (x9_3.set ((ji37) : Int).toNat true) x10_1 x11_1 (x12_3 ++ [ji37]) x13_2 t197 (wrap64 (x15_3 + 1)) a0_0 a0_1 l0_2 l0_3) else (none)) = some r:=by rw [if_neg (show ¬ (false = true) by decide)] at H;exact H
        clear H
        have H:=H1
        clear H1
        obtain ⟨y205,hy205⟩ : ∃ y_ : List Bool,y_ = (x9_3.set ((ji37) : Int).toNat true):=⟨_,rfl⟩
        replace H : (if x12_3.length < 17592186044416 then (hinterlandref17_far.l2 k3 a3 y205 x10_1 x11_1 (x12_3 ++ [ji37]) x13_2 t197 (wrap64 (x15_3 + 1)) a0_0 a0_1 l0_2 l0_3) else (none)) = some r:=by first|(rw [hy205];with_reducible exact H)|(have H2_:=(Option.bind_some _ _).symm.trans H;rw [hy205];with_reducible exact H2_)|(have H2_:=(Option.bind_some _ _).symm.trans H;with_reducible exact H2_)|with_reducible exact H|(rw [hy205];exact H)|exact H
        have Ny205:=Aside0.mk hy205
        clear hy205
        replace H:=ifp_ H;obtain ⟨c46,H⟩:=H
        have LMc46:=Aside0.mk c46
        clear c46
        obtain ⟨y206,hy206⟩ : ∃ y_ : List Int,y_ = (x12_3 ++ [ji37]):=⟨_,rfl⟩
        replace H : (hinterlandref17_far.l2 k3 a3 y205 x10_1 x11_1 y206 x13_2 t197 (wrap64 (x15_3 + 1)) a0_0 a0_1 l0_2 l0_3) = some r:=by first|(rw [hy206];with_reducible exact H)|(have H2_:=(Option.bind_some _ _).symm.trans H;rw [hy206];with_reducible exact H2_)|(have H2_:=(Option.bind_some _ _).symm.trans H;with_reducible exact H2_)|with_reducible exact H|(rw [hy206];exact H)|exact H
        have Ny206:=Aside0.mk hy206
        clear hy206
        have H':=Aside0.mk H
        clear H
        obtain ⟨Ao47,co47,eo47⟩:=Kd.R_slice HO_14.out
        subst eo47
        try go_wp2
        replace HO_9:=Aside0.mk (Kd.R_drew HO_9.out)
        replace HO_10:=Aside0.mk (Kd.R_drew HO_10.out)
        replace HO_12:=Aside0.mk (Kd.R_drew HO_12.out)
        replace HO_14:=Aside0.mk (Kd.R_drew HO_14.out)
        replace BK184:=Aside0.mk (blk_drew BK184.out)
        replace HB:=Aside0.mk (below_drew1 HB.out)
        have p200 : 0 ≤ (x13_2 : Int):=of_decide_eq_true (by first|(with_reducible assumption)|assumption)
        have q200 : x13_2 < (x10_1.length : Int):=of_decide_eq_true (by first|(with_reducible assumption)|assumption)
        obtain ⟨ad200,e200,hx200_0⟩:=Kd.at_int (Kd.R_reads' HO_10.out).2.2 x13_2 p200 q200
        obtain rfl : ad194 = ad200:=(by injection e200)
        replace p200:=eq_true p200
        replace q200:=eq_true q200
        have p201 : 0 ≤ (x15_3 : Int):=of_decide_eq_true (by first|(with_reducible assumption)|assumption)
        have q201 : x15_3 < (t197.length : Int):=of_decide_eq_true (by first|(with_reducible assumption)|assumption)
        obtain ⟨ad201,e201,hx201_0⟩:=Kd.at_int (Kd.R_reads' HO_14.out).2.2 x15_3 p201 q201
        cases e201
        replace p201:=eq_true p201
        replace q201:=eq_true q201
        have p203 : 0 ≤ (x15_3 : Int):=of_decide_eq_true (by first|(with_reducible assumption)|assumption)
        have q203 : x15_3 < (t197.length : Int):=of_decide_eq_true (by first|(with_reducible assumption)|assumption)
        obtain ⟨ad203,e203,hx203_0⟩:=Kd.at_int (Kd.R_reads' HO_14.out).2.2 x15_3 p203 q203
        obtain rfl : ad201 = ad203:=(by injection e203)
        replace p203:=eq_true p203
        replace q203:=eq_true q203
        refine start_ (n:=20) (S:=fun w' => w'.cell? ⟨gb184,0,none⟩ = some (.int .i64 a0_0) ∧ w'.cell? ⟨gb184,1,none⟩ = some (.int .i64 a0_1) ∧ w'.cell? ⟨gb184,2,none⟩ = some (.slice A0_2 l0_2.length c0_2) ∧ w'.cell? ⟨gb184,3,none⟩ = some (.slice A0_3 l0_3.length c0_3) ∧ w'.cell? (ad194.add (x13_2).toNat) = some (.int .i64 (rd x10_1 x13_2)) ∧ w'.cell? (ad201.add (x15_3).toNat) = some (.int .i64 (rd t197 x15_3)) ∧ w'.cell? (ad201.add (x15_3).toNat) = some (.int .i64 (rd t197 x15_3))) (ds:=[]) #[false,false,false,false,false,false,false,false,false,false,false,false,false,false,false,false,false,false,false,false] (by kernel_rfl) rfl rfl ⟨(blk_cell BK184.out 0).trans rfl,(blk_cell BK184.out 1).trans rfl,(blk_cell BK184.out 2).trans rfl,(blk_cell BK184.out 3).trans rfl,hx200_0,hx201_0,hx203_0⟩ (fun hHeld => ?_);refine with_tabW hinterlandref17_far.tab17 hinterlandref17_far.bits17 (fun HT_ HW_ => ?_)
        generalize wr.drew = w48 at HO_9 HO_10 HO_12 HO_14 BK184 HB hx200_0 hx201_0 hx203_0 hHeld ⊢
        refine pI 1 (some 75) ?_
        refine pI 2 (some 76) ?_
        refine pI 3 (some 77) ?_
        refine pI 6 (some 80) ?_
        refine pI 7 (some 81) ?_
        refine pI 8 (some 82) ?_
        refine pI 12 (some 86) ?_
        refine pI 13 (some 87) ?_
        refine pI 14 (some 88) ?_
        refine tI7 0 (some 74) hHeld ?_
        refine tI7 4 (some 78) hHeld ?_
        refine pI 5 (some 79) ?_
        refine tI7 9 (some 83) hHeld ?_
        refine tI7 15 (some 89) hHeld ?_
        refine pI 16 (some 90) ?_
        refine pI 17 (some 91) ?_
        refine oI 10 (some 84) (fun K hK => ?_)
        refine goes_ Try.func67 (by kernel_rfl) rfl #[.agg #[.int .i64 a0_0,.int .i64 a0_1,.slice A0_2 l0_2.length c0_2,.slice A0_3 l0_3.length c0_3],.int .i64 (wrap64 (Int.tdiv (rd x10_1 x13_2) 4)),.int .i64 (rd t197 x15_3)] (by rfl) rfl rfl ga_ ?_
        with_reducible refine (hinterlandref17_beyond.calls a0_0 a0_1 _ _ l0_2 _ _ l0_3 (wrap64 (Int.tdiv (rd x10_1 x13_2) 4)) (rd t197 x15_3) t202 _ ?side1 ?side2 ?side3 ?side4 A36.out).mono ?_
        (case side1 => exact cq HR0_2)
        (case side2 => exact HC0_2.out)
        (case side3 => exact cq HR0_3)
        (case side4 => exact HC0_3.out)
        rintro e w49 ⟨rfl,hb⟩
        have HS4_:=(hb.cell (World.block_lt_of_cell? _ _ (hHeld.2.2.2.2.1))).trans (hHeld.2.2.2.2.1)
        have HS5_:=(hb.cell (World.block_lt_of_cell? _ _ (hHeld.2.2.2.2.2.1))).trans (hHeld.2.2.2.2.2.1)
        have HS6_:=(hb.cell (World.block_lt_of_cell? _ _ (hHeld.2.2.2.2.2.2))).trans (hHeld.2.2.2.2.2.2)
        refine ⟨_,rfl,?_⟩
        have n0_:=rbw HO_9 hb
        have n1_:=rbw HO_10 hb
        have n2_:=rbw HO_12 hb
        have n3_:=rbw HO_14 hb
        have n4_:=bkb BK184 hb
        have n5_:=Aside0.mk (below_step (hb_) hb)
        clear HO_9
        clear HO_10
        clear HO_12
        clear HO_14
        clear BK184
        clear HB
        have HO_9:=n0_
        have HO_10:=n1_
        have HO_12:=n2_
        have HO_14:=n3_
        have BK184:=n4_
        have HB:=n5_
        clear n0_ n1_ n2_ n3_ n4_ n5_
        (try clear hb)
        (try clear hb2)
        (try clear hk)
        (try clear hi)
        refine hK.out _ _ ⟨(blk_cell BK184.out 0).trans rfl,(blk_cell BK184.out 1).trans rfl,(blk_cell BK184.out 2).trans rfl,(blk_cell BK184.out 3).trans rfl,HS4_,HS5_,HS6_⟩ (fun hHeld => ?_)
        clear hK K
        refine norm_ (a':=?_) ?_ ?_
        rotate_left
        ·show Act.put _ (some 84) _ = _
         simp only [Act.put,List.setIfInBounds_toArray,List.set_cons_zero,List.set_cons_succ,i64_w,i32_w]
         rfl
        refine pI 11 (some 85) ?_
        refine pI 18 (some 92) ?_
        refine pI 19 (some 16) ?_
        refine done_ (done_of HT_.out (by kernel_rfl)) ?_
        have p204 : 0 ≤ ((ji37) : Int):=of_decide_eq_true (by first|(with_reducible assumption)|assumption)
        have q204 : (ji37) < (x9_3.length : Int):=of_decide_eq_true (by first|(with_reducible assumption)|assumption)
        obtain ⟨ad204,e204,hx204_0⟩:=Kd.at_bool (Kd.R_reads' HO_9.out).2.2 (ji37) p204 q204
        (try rw [← Nbq40.out] at hx204_0)
        obtain rfl : (⟨go12,0,none⟩ : Addr) = ad204:=(by injection e204)
        (first|simp only [add_plain] at hx204_0|simp only [add_at] at hx204_0|simp only [Addr.add,Nat.zero_add] at hx204_0|skip)
        replace p204:=eq_true p204
        replace q204:=eq_true q204
        have p45 : 0 ≤ ((ji37) : Int):=of_decide_eq_true (by first|(with_reducible assumption)|assumption)
        have q45 : ((ji37) : Int) < ((x9_3.length : Int) : Int):=of_decide_eq_true (by first|(with_reducible assumption)|assumption)
        obtain ⟨hx45_0,hf45_0⟩:=Kd.R_celln false HO_9.out ((ji37) : Int) p45 q45
        replace p45:=eq_true p45
        replace q45:=eq_true q45
        obtain ⟨hy50_,hz50_⟩:=Kd.R_celln false HO_9.out ((ji37) : Int) (of_decide_eq_true (by first|(with_reducible assumption)|assumption)) (of_decide_eq_true (by first|(with_reducible assumption)|assumption))
        have HP50:=Kd.R_putg HO_9.out ((ji37) : Int) true
        try go_wp2_with (first|((with_reducible refine gate_store (t:=4) (p:=100) rfl ?_);refine store_event (t:=4) (p:=100) (v:=?vo_w51) (w1:=(w49.setCell ⟨go12,((ji37) : Int).toNat,none⟩ (.bool true))) ?hg ?ho ?hn ?hr ?_;(case ho => rfl);(case hg => rfl);(case hn => rfl);(case hr => first|(go_simp;done)|(go_simp;rfl));intro w51 hw;have hg : w49.grownBy w51 (some go12):=(by rw [hw];exact HP50.2);have hp_ : Kd.R Kd.bool 4 w51 w.heap.size (fun _ => True) (.slice (some ⟨go12,0,none⟩) x9_3.length co12) y205:=(by rw [hw,Ny205.out];exact HP50.1);clear HP50;replace HO_10:=Aside0.mk (Kd.R_over' (v:=(.slice (some ⟨go12,0,none⟩) x9_3.length co12)) (Kd.R_up HO_10.out) (Kd.R_typed HO_9.out) (by decide) hg);replace HO_12:=Aside0.mk (Kd.R_over' (v:=(.slice (some ⟨go12,0,none⟩) x9_3.length co12)) (Kd.R_up HO_12.out) (Kd.R_typed HO_9.out) (by decide) hg);replace HO_14:=Aside0.mk (Kd.R_over' (v:=(.slice (some ⟨go12,0,none⟩) x9_3.length co12)) (Kd.R_up HO_14.out) (Kd.R_typed HO_9.out) (by decide) hg);replace BK184:=Aside0.mk (blk_grown (blk_up BK184.out) hg (Kd.R_ne HO_9.out BK184.out (by decide)));replace HO_9:=Aside0.mk (hp_);replace HB:=Aside0.mk ((by rw [hw];exact below_set (HB.out) GB12.out : Below w.heap.size w w51));clear hg hw hp_)|((with_reducible refine gate_builtin (b:=.append) (xs:=#[.tmp 101,.tmp 103]) rfl ?_);at_builtin;refine Kd.R_append (Kd.int .i64) (w0:=w) w.heap.size rfl (.tmp 101) (.tmp 103) 22 3 (.int .i64 0) 8 rfl Try.underlying22 info3 rfl (by decide) (by omega) u12 x12_3 ji37 [.int .i64 ji37] (fun k_ => some k_ ≠ (.slice (some ad194) x10_1.length co25 : Value).ownBlock ∧ some k_ ≠ (.slice (some ad201) t197.length co47 : Value).ownBlock) (fun _ => False) rfl rfl ?aP (fun _ hk => hk.elim) ?aF ?aO ?aB ?aS ?aL ?_;(case aP => exact rfl);(case aB => exact (hb_));(case aF => exact (fun k_ hk => ⟨Kd.fresh' (Kd.R_lt (Kd.R_up HO_10.out)) k_ hk,Kd.fresh' (Kd.R_lt (Kd.R_up HO_14.out)) k_ hk⟩));(case aO => exact (Kd.R_up HO_12.out));(case aS => exact (below_size (hb_)));(case aL => have:=LMc46.out;omega);intro v207 w52 ho hb hg hat;rw [← Ny206.out] at ho;have HO208:=Aside0.mk (ho);replace HO_9:=Aside0.mk (Kd.R_over' (Kd.R_up HO_9.out) (Kd.R_typed (Kd.R_up HO_12.out)) (by decide) hg);replace HO_10:=Aside0.mk (Kd.R_after (ok:=(fun k_ => some k_ ≠ (.slice (some ad201) t197.length co47 : Value).ownBlock)) (by (with_reducible repeat (first|apply Kd.R_alloc|apply Kd.R_drewN|apply Kd.R_drew));exact Kd.R_mono HO_10.out (fun _ hk => ⟨hk.2,hk.1⟩)) hg hat);replace HO_14:=Aside0.mk (Kd.R_after (ok:=(fun k_ => some k_ ≠ (.slice (some ad194) x10_1.length co25 : Value).ownBlock)) (Kd.R_up HO_14.out) hg hat);replace BK184:=Aside0.mk (blk_grown (blk_up BK184.out) hg (Kd.R_ne HO_12.out BK184.out (by decide)));replace HB:=Aside0.mk (hb);clear HO_12;clear ho hb hg hat))
        (try simp only [← hl9_3])
        go_roundg k3
        case measure => have:=HK1.out;have:=HK2.out;have:=HK3.out;omega
        case rel => exact ⟨(y205),(y206),(wrap64 (x15_3 + 1)),(by first|rfl|(simp;done)|(simp [*];done)),H',⟨by have:=HK1.out;have:=HK2.out;have:=HK3.out;omega⟩,⟨by (try simp only [hl9_1]);(try simp only [hl9_2]);(try simp only [hl9_3]);(with_reducible repeat (first|apply Kd.R_alloc|apply Kd.R_drewN|apply Kd.R_drew));exact HO_9.out⟩,⟨by (try simp only [hl9_1]);(try simp only [hl9_2]);(try simp only [hl9_3]);(with_reducible repeat (first|apply Kd.R_alloc|apply Kd.R_drewN|apply Kd.R_drew));exact Kd.R_mono HO_10.out (fun _ hk => ⟨hk.2,hk.1⟩)⟩,⟨by (try simp only [hl9_1]);(try simp only [hl9_2]);(try simp only [hl9_3]);(with_reducible repeat (first|apply Kd.R_alloc|apply Kd.R_drewN|apply Kd.R_drew));exact HO208.out⟩,⟨by (try simp only [hl9_1]);(try simp only [hl9_2]);(try simp only [hl9_3]);(with_reducible repeat (first|apply Kd.R_alloc|apply Kd.R_drewN|apply Kd.R_drew));exact HO_14.out⟩,⟨by (try simp only [hl9_1]);(try simp only [hl9_2]);(try simp only [hl9_3]);(with_reducible repeat (first|refine blk_drewN ?_ _|refine blk_drew ?_|refine blk_alloc ?_ _));exact BK184.out⟩,⟨hb_⟩⟩

/-! ### hinterlandref17_choose: function 35 -/
def hinterlandref17_choose.l0 : Nat → Int → Int → List Int → Int → Int → Int → Int → Int → List Int → List Int → Option (Int × Bool)
 | 0,_,_,_,_,_,_,_,_,_,_ => none
 | k + 1,x1,x3,x10,x11,x12,x13,x210000,x210001,x210002,x210003 => if x13 < (x10.length : Int) then (if 0 ≤ x13 then ((hinterlandref17_far.f k x210000 x210001 x210002 x210003 x1 (rd x10 x13) x3).bind fun t215 => (if t215 ≥ 0 then (if x12 < 0 then (hinterlandref17_choose.l0 k x1 x3 x10 (rd x10 x13) t215 (wrap64 (x13 + 1)) x210000 x210001 x210002 x210003) else (if t215 < x12 then (hinterlandref17_choose.l0 k x1 x3 x10 (rd x10 x13) t215 (wrap64 (x13 + 1)) x210000 x210001 x210002 x210003) else (hinterlandref17_choose.l0 k x1 x3 x10 x11 x12 (wrap64 (x13 + 1)) x210000 x210001 x210002 x210003))) else (hinterlandref17_choose.l0 k x1 x3 x10 x11 x12 (wrap64 (x13 + 1)) x210000 x210001 x210002 x210003))) else (none)) else (some (x11,true))
def hinterlandref17_choose.f (k : Nat) (a0_0 : Int) (a0_1 : Int) (l0_2 : List Int) (l0_3 : List Int) (a1 : Int) (a2 : Int) (a3 : Int) : Option (Int × Bool) := (hinterlandref17_leave.f k a0_0 a0_1 l0_2 l0_3 a1 a2).bind fun t210 => (if (t210.length : Int) = 0 then (some (0, false)) else (if 0 < (t210.length : Int) then (hinterlandref17_choose.l0 k a1 a3 t210 (rd t210 0) (-1) 0 a0_0 a0_1 l0_2 l0_3) else (none)))
theorem hinterlandref17_choose.mono_l : ∀ k, (∀ y0 y1 y2 y3 y4 y5 y6 y7 y8 y9, LeO (hinterlandref17_choose.l0 k y0 y1 y2 y3 y4 y5 y6 y7 y8 y9) (hinterlandref17_choose.l0 (k + 1) y0 y1 y2 y3 y4 y5 y6 y7 y8 y9))
 | 0 => fun _ _ _ _ _ _ _ _ _ _ r h => by simp [hinterlandref17_choose.l0] at h
 | k + 1 => by
  have ih0:=hinterlandref17_choose.mono_l k
  ·intro y0 y1 y2 y3 y4 y5 y6 y7 y8 y9
   unfold hinterlandref17_choose.l0
   repeat' first
   | (with_reducible exact ih0 _ _ _ _ _ _ _ _ _ _)
   | (with_reducible exact hinterlandref17_far.mono _ _ _ _ _ _ _ _)
   | (with_reducible exact hinterlandref17_leave.mono _ _ _ _ _ _ _)
   | (with_reducible exact LeO.refl _)
   | (with_reducible exact LeO.none _)
   | (with_reducible refine LeO.ite ?_ ?_)
   | (with_reducible refine LeO.bind ?_ (fun _ => ?_))
   | exact ih0 _ _ _ _ _ _ _ _ _ _
   | exact hinterlandref17_far.mono _ _ _ _ _ _ _ _
   | exact hinterlandref17_leave.mono _ _ _ _ _ _ _
   | exact LeO.none _
   | refine LeO.ite ?_ ?_
   | refine LeO.bind ?_ (fun _ => ?_)
theorem hinterlandref17_choose.mono : ∀ a0 a1 a2 a3 a4 a5 a6 k, LeO (hinterlandref17_choose.f k a0 a1 a2 a3 a4 a5 a6) (hinterlandref17_choose.f (k + 1) a0 a1 a2 a3 a4 a5 a6) := by
 intro a0 a1 a2 a3 a4 a5 a6 k
 have ih0:=hinterlandref17_choose.mono_l k
 unfold hinterlandref17_choose.f
 repeat' first
   | (with_reducible exact ih0 _ _ _ _ _ _ _ _ _ _)
   | (with_reducible exact hinterlandref17_far.mono _ _ _ _ _ _ _ _)
   | (with_reducible exact hinterlandref17_leave.mono _ _ _ _ _ _ _)
   | (with_reducible exact LeO.refl _)
   | (with_reducible exact LeO.none _)
   | (with_reducible refine LeO.ite ?_ ?_)
   | (with_reducible refine LeO.bind ?_ (fun _ => ?_))
   | exact ih0 _ _ _ _ _ _ _ _ _ _
   | exact hinterlandref17_far.mono _ _ _ _ _ _ _ _
   | exact hinterlandref17_leave.mono _ _ _ _ _ _ _
   | exact LeO.none _
   | refine LeO.ite ?_ ?_
   | refine LeO.bind ?_ (fun _ => ?_)
def hinterlandref17_choose.T8 : Bool × List (List Nat × List Nat) := (true, [([], []), ([], []), ([], []), ([], []), ([2, 3], [2, 3]), ([4], [4]), ([], []), ([0, 1, 5, 6], [0, 1, 5, 6]), ([7, 7, 0, 1, 2, 3, 4, 5, 6, 7], [7])])
def hinterlandref17_choose.B8 : List Nat := [0, 0, 0, 0, 12, 28, 0, 127, 255]
theorem hinterlandref17_choose.tab8 : rtab .any (opsOf Try.f35 8) = hinterlandref17_choose.T8 := by kernel_rfl
theorem hinterlandref17_choose.bits8 : waitsOk hinterlandref17_choose.T8.2 hinterlandref17_choose.B8 = true := by kernel_rfl
set_option maxHeartbeats 8000000 in
set_option maxRecDepth 100000 in
theorem hinterlandref17_choose.calls (k : Nat) (a0_0 : Int) (a0_1 : Int) (A0_2 : Option Addr) (c0_2 : Nat) (l0_2 : List Int) (A0_3 : Option Addr) (c0_3 : Nat) (l0_3 : List Int) (a1 : Int) (a2 : Int) (a3 : Int) (r1 : Int) (r2 : Bool) (w : World) (hr0_2 : Kd.C (Kd.int .i64) w A0_2 l0_2.length l0_2) (hc0_2 : l0_2.length ≤ c0_2) (hr0_3 : Kd.C (Kd.int .i64) w A0_3 l0_3.length l0_3) (hc0_3 : l0_3.length ≤ c0_3) (h : hinterlandref17_choose.f k a0_0 a0_1 l0_2 l0_3 a1 a2 a3 = some (r1, r2)) :
  Calls Try.prog 35 #[.agg #[.int .i64 a0_0,.int .i64 a0_1,.slice A0_2 l0_2.length c0_2,.slice A0_3 l0_3.length c0_3],.int .i64 a1,.int .i64 a2,.int .i64 a3] w fun e w' => e = .returned (.tuple #[.int .i64 r1,.bool r2]) ∧ Below w.heap.size w w':=by
 have hu24:=Try.underlying24
 have HR0_2:=Aside0.mk hr0_2
 have HC0_2:=Aside0.mk hc0_2
 clear hr0_2 hc0_2
 have HR0_3:=Aside0.mk hr0_3
 have HC0_3:=Aside0.mk hc0_3
 clear hr0_3 hc0_3
 have HB:=Aside0.mk (Below.refl w.heap.size w)
 have H : ((hinterlandref17_leave.f k a0_0 a0_1 l0_2 l0_3 a1 a2).bind fun t210 => (if (t210.length : Int) = 0 then (some (0,false)) else (if 0 < (t210.length : Int) then (hinterlandref17_choose.l0 k a1 a3 t210 (rd t210 0) (-1) 0 a0_0 a0_1 l0_2 l0_3) else (none)))) = some (r1,r2):=h
 clear h
 replace H:=Option.bind_eq_some_iff.mp H
 obtain ⟨t210,A50,H⟩:=H
 replace H : (if (t210.length : Int) = 0 then (some (0,false)) else (if 0 < (t210.length : Int) then (hinterlandref17_choose.l0 k a1 a3 t210 (rd t210 0) (-1) 0 a0_0 a0_1 l0_2 l0_3) else (none))) = some (r1,r2):=H
 have A5:=Aside0.mk A50
 clear A50
 by_cases c6 : (t210.length : Int) = 0
 ·rw [if_pos c6] at H
  have c6b0:=bqt c6
  have c6b1:=bnf c6
  clear c6
  simp only [Option.some.injEq,Prod.mk.injEq] at H
  obtain ⟨rfl,rfl⟩:=H
  go_enter Try.func35,Try.ntmps35
  go_wp2_with (first|((with_reducible refine gate_dst (N:=4) rfl ?_);refine box_ev (N:=4) (cs:=#[.int .i64 a0_0,.int .i64 a0_1,.slice A0_2 l0_2.length c0_2,.slice A0_3 l0_3.length c0_3]) (t:=24) ?_;intro gb209 hg w7 hbox hb;have BK209:=Aside0.mk (hbox);have GW209 : Aside0 (w.heap.size ≤ gb209):=gsz hg;have GE209:=GW209;replace HB:=hbs hb;clear hb hbox hg;obtain ⟨_,_,_,_,_,_,_,_⟩:=cells4 BK209.out)|((with_reducible refine gate_callee (f:=63) rfl ?_);refine goesL_ (some 18) rfl rfl Try.func63 (by kernel_rfl) rfl #[.agg #[.int .i64 a0_0,.int .i64 a0_1,.slice A0_2 l0_2.length c0_2,.slice A0_3 l0_3.length c0_3],.int .i64 a1,.int .i64 a2] rfl ga_ ?_;(with_reducible refine (hinterlandref17_leave.calls k a0_0 a0_1 _ _ l0_2 _ _ l0_3 a1 a2 t210 _ ?_ ?_ ?_ ?_ A5.out).mono ?_);exact cq HR0_2;exact HC0_2.out;exact cq HR0_3;exact HC0_3.out;rintro e w9 ⟨v211,rfl,ho0,hb⟩;refine ⟨_,rfl,?_⟩;have HO212:=rlo ho0;replace BK209:=bkb BK209 hb;replace HB:=hbs hb;obtain ⟨Ao10,co10,eo10⟩:=Kd.R_slice HO212.out;subst eo10))
  go_ret2
  exact ⟨er_,hb_⟩
 rw [if_neg c6] at H
 have c6b0:=bqf c6
 have c6b1:=bnt c6
 have c6b2 : ¬ (t210 = []):=fun h_ => c6 (by rw [h_];rfl)
 replace H:=ifp_ H;obtain ⟨c11,H⟩:=H
 have c11b0 : decide (0 < (t210.length : Int)) = true:=decide_eq_true c11
 have c11b1 : decide (0 < t210.length) = true:=decide_eq_true (by omega)
 clear c11
 have H':=Aside0.mk H
 clear H
 go_enter Try.func35,Try.ntmps35
 go_wp2_with (first|((with_reducible refine gate_dst (N:=4) rfl ?_);refine box_ev (N:=4) (cs:=#[.int .i64 a0_0,.int .i64 a0_1,.slice A0_2 l0_2.length c0_2,.slice A0_3 l0_3.length c0_3]) (t:=24) ?_;intro gb209 hg w12 hbox hb;have BK209:=Aside0.mk (hbox);have GW209 : Aside0 (w.heap.size ≤ gb209):=gsz hg;have GE209:=GW209;replace HB:=hbs hb;clear hb hbox hg;obtain ⟨_,_,_,_,_,_,_,_⟩:=cells4 BK209.out)|((with_reducible refine gate_callee (f:=63) rfl ?_);refine goesL_ (some 18) rfl rfl Try.func63 (by kernel_rfl) rfl #[.agg #[.int .i64 a0_0,.int .i64 a0_1,.slice A0_2 l0_2.length c0_2,.slice A0_3 l0_3.length c0_3],.int .i64 a1,.int .i64 a2] rfl ga_ ?_;(with_reducible refine (hinterlandref17_leave.calls k a0_0 a0_1 _ _ l0_2 _ _ l0_3 a1 a2 t210 _ ?_ ?_ ?_ ?_ A5.out).mono ?_);exact cq HR0_2;exact HC0_2.out;exact cq HR0_3;exact HC0_3.out;rintro e w14 ⟨v211,rfl,ho0,hb⟩;refine ⟨_,rfl,?_⟩;have HO212:=rlo ho0;replace BK209:=bkb BK209 hb;replace HB:=hbs hb;obtain ⟨Ao15,co15,eo15⟩:=Kd.R_slice HO212.out;subst eo15;have p213 : 0 ≤ (0 : Int):=(by omega);have q213 : 0 < (t210.length : Int):=of_decide_eq_true (by first|(with_reducible assumption)|assumption);obtain ⟨ad213,e213,hx213_0⟩:=Kd.at_int (Kd.R_reads' HO212.out).2.2 0 p213 q213;cases e213;have qi213 : (0 < t210.length) = True:=eq_true (by omega);(try rw [show ((0 : Int)).toNat = 0 from rfl] at hx213_0);(try rw [Addr.add_zero'] at hx213_0);replace p213:=eq_true p213;replace q213:=eq_true q213))
 go_loopg [11,12,13] k (fun kq v11 v12 v13 w' => ∃ (x11_1 : Int) (x12_1 : Int) (x13_1 : Int),v11 = .int .i64 x11_1 ∧ v12 = .int .i64 x12_1 ∧ v13 = .int .i64 x13_1 ∧ Aside0 (hinterlandref17_choose.l0 kq a1 a3 t210 x11_1 x12_1 x13_1 a0_0 a0_1 l0_2 l0_3 = some (r1,r2)) ∧ Aside0 (kq ≤ k) ∧ Aside0 (Kd.R (Kd.int .i64) 3 w' w.heap.size (fun _ => True) (.slice (some ad213) t210.length co15) t210) ∧ Aside0 (w'.heap[gb209]? = some (.cells #[.int .i64 a0_0,.int .i64 a0_1,(.slice A0_2 l0_2.length c0_2),(.slice A0_3 l0_3.length c0_3)] 24 (0,0))) ∧ Aside0 (Below w.heap.size w w'))
 case atStart => exact ⟨(rd t210 0),((-1)),(0),(by first|rfl|(simp;done)|(simp [*];done)),(by first|rfl|(simp;done)|(simp [*];done)),(by first|rfl|(simp;done)|(simp [*];done)),H',⟨Nat.le_refl _⟩,⟨Kd.R_up HO212.out⟩,⟨blk_up BK209.out⟩,⟨hb_⟩⟩
 case round =>
  clear H'
  obtain ⟨x11_1,x12_1,x13_1,rfl,rfl,rfl,HA,HK1,HO_10,BK209,HB⟩:=hrel
  cases gk with
  | zero => exact absurd HA.out (by simp [hinterlandref17_choose.l0])
  | succ k1 =>
   have H:=HA.out
   clear HA
   simp only [hinterlandref17_choose.l0] at H
   by_cases c16 : x13_1 < (t210.length : Int)
   rotate_left
   ·rw [if_neg c16] at H
    have c16b0 : decide (x13_1 < (t210.length : Int)) = false:=decide_eq_false c16
    clear c16
    simp only [Option.some.injEq,Prod.mk.injEq] at H
    obtain ⟨rfl,rfl⟩:=H
    go_wp2
    go_ret2
    exact ⟨er_,hb_⟩
   rw [if_pos c16] at H
   have c16b0 : decide (x13_1 < (t210.length : Int)) = true:=decide_eq_true c16
   clear c16
   replace H:=ifp_ H;obtain ⟨c17,H⟩:=H
   have c17b0 : decide (0 ≤ x13_1) = true:=decide_eq_true c17
   clear c17
   replace H:=Option.bind_eq_some_iff.mp H
   obtain ⟨t215,A180,H⟩:=H
   replace H : (if t215 ≥ 0 then (if x12_1 < 0 then (hinterlandref17_choose.l0 k1 a1 a3 t210 (rd t210 x13_1) t215 (wrap64 (x13_1 + 1)) a0_0 a0_1 l0_2 l0_3) else (if t215 < x12_1 then (hinterlandref17_choose.l0 k1 a1 a3 t210 (rd t210 x13_1) t215 (wrap64 (x13_1 + 1)) a0_0 a0_1 l0_2 l0_3) else (hinterlandref17_choose.l0 k1 a1 a3 t210 x11_1 x12_1 (wrap64 (x13_1 + 1)) a0_0 a0_1 l0_2 l0_3))) else (hinterlandref17_choose.l0 k1 a1 a3 t210 x11_1 x12_1 (wrap64 (x13_1 + 1)) a0_0 a0_1 l0_2 l0_3)) = some (r1,r2):=H
   have A18:=Aside0.mk A180
   clear A180
   by_cases c19 : t215 ≥ 0
   rotate_left
   ·rw [if_neg c19] at H
    have c19b0 : decide (0 ≤ t215) = false:=decide_eq_false c19
    clear c19
    have H':=Aside0.mk H
    clear H
    try go_wp2
    replace HO_10:=Aside0.mk (Kd.R_drew HO_10.out)
    replace BK209:=Aside0.mk (blk_drew BK209.out)
    replace HB:=Aside0.mk (below_drew1 HB.out)
    have p214 : 0 ≤ (x13_1 : Int):=of_decide_eq_true (by first|(with_reducible assumption)|assumption)
    have q214 : x13_1 < (t210.length : Int):=of_decide_eq_true (by first|(with_reducible assumption)|assumption)
    obtain ⟨ad214,e214,hx214_0⟩:=Kd.at_int (Kd.R_reads' HO_10.out).2.2 x13_1 p214 q214
    obtain rfl : ad213 = ad214:=(by injection e214)
    replace p214:=eq_true p214
    replace q214:=eq_true q214
    refine start_ (n:=9) (S:=fun w' => w'.cell? ⟨gb209,0,none⟩ = some (.int .i64 a0_0) ∧ w'.cell? ⟨gb209,1,none⟩ = some (.int .i64 a0_1) ∧ w'.cell? ⟨gb209,2,none⟩ = some (.slice A0_2 l0_2.length c0_2) ∧ w'.cell? ⟨gb209,3,none⟩ = some (.slice A0_3 l0_3.length c0_3) ∧ w'.cell? (ad213.add (x13_1).toNat) = some (.int .i64 (rd t210 x13_1))) (ds:=[]) #[false,false,false,false,false,false,false,false,false] (by kernel_rfl) rfl rfl ⟨(blk_cell BK209.out 0).trans rfl,(blk_cell BK209.out 1).trans rfl,(blk_cell BK209.out 2).trans rfl,(blk_cell BK209.out 3).trans rfl,hx214_0⟩ (fun hHeld => ?_);refine with_tabW hinterlandref17_choose.tab8 hinterlandref17_choose.bits8 (fun HT_ HW_ => ?_)
    generalize wr.drew = w28 at HO_10 BK209 HB hx214_0 hHeld ⊢
    refine pI 1 (some 32) ?_
    refine pI 2 (some 33) ?_
    refine pI 3 (some 34) ?_
    refine pI 4 (some 35) ?_
    refine pI 6 (some 37) ?_
    refine tI5 0 (some 31) hHeld ?_
    refine tI5 5 (some 36) hHeld ?_
    refine oI 7 (some 38) (fun K hK => ?_)
    refine goes_ Try.func64 (by kernel_rfl) rfl #[.agg #[.int .i64 a0_0,.int .i64 a0_1,.slice A0_2 l0_2.length c0_2,.slice A0_3 l0_3.length c0_3],.int .i64 a1,.int .i64 (rd t210 x13_1),.int .i64 a3] (by rfl) rfl rfl ga_ ?_
    with_reducible refine (hinterlandref17_far.calls k1 a0_0 a0_1 _ _ l0_2 _ _ l0_3 a1 (rd t210 x13_1) a3 t215 _ ?side1 ?side2 ?side3 ?side4 A18.out).mono ?_
    (case side1 => exact cq HR0_2)
    (case side2 => exact HC0_2.out)
    (case side3 => exact cq HR0_3)
    (case side4 => exact HC0_3.out)
    rintro e w29 ⟨rfl,hb⟩
    have HS4_:=(hb.cell (World.block_lt_of_cell? _ _ (hHeld.2.2.2.2))).trans (hHeld.2.2.2.2)
    refine ⟨_,rfl,?_⟩
    have n0_:=rbw HO_10 hb
    have n1_:=bkb BK209 hb
    have n2_:=Aside0.mk (below_step (hb_) hb)
    clear HO_10
    clear BK209
    clear HB
    have HO_10:=n0_
    have BK209:=n1_
    have HB:=n2_
    clear n0_ n1_ n2_
    (try clear hb)
    (try clear hb2)
    (try clear hk)
    (try clear hi)
    refine hK.out _ _ ⟨(blk_cell BK209.out 0).trans rfl,(blk_cell BK209.out 1).trans rfl,(blk_cell BK209.out 2).trans rfl,(blk_cell BK209.out 3).trans rfl,HS4_⟩ (fun hHeld => ?_)
    clear hK K
    refine norm_ (a':=?_) ?_ ?_
    rotate_left
    ·show Act.put _ (some 38) _ = _
     simp only [Act.put,List.setIfInBounds_toArray,List.set_cons_zero,List.set_cons_succ,i64_w,i32_w]
     rfl
    refine pI 8 (some 14) ?_
    refine done_ (done_of HT_.out (by kernel_rfl)) ?_
    try go_wp2
    go_roundg k1
    case measure => have:=HK1.out;omega
    case rel => exact ⟨(x11_1),(x12_1),(wrap64 (x13_1 + 1)),(by first|rfl|(simp;done)|(simp [*];done)),(by first|rfl|(simp;done)|(simp [*];done)),(by first|rfl|(simp;done)|(simp [*];done)),H',⟨by have:=HK1.out;omega⟩,⟨Kd.R_up HO_10.out⟩,⟨blk_up BK209.out⟩,⟨hb_⟩⟩
   rw [if_pos c19] at H
   have c19b0 : decide (0 ≤ t215) = true:=decide_eq_true c19
   clear c19
   by_cases c20 : x12_1 < 0
   ·rw [if_pos c20] at H
    have c20b0 : decide (x12_1 < 0) = true:=decide_eq_true c20
    clear c20
    have H':=Aside0.mk H
    clear H
    try go_wp2
    replace HO_10:=Aside0.mk (Kd.R_drew HO_10.out)
    replace BK209:=Aside0.mk (blk_drew BK209.out)
    replace HB:=Aside0.mk (below_drew1 HB.out)
    have p214 : 0 ≤ (x13_1 : Int):=of_decide_eq_true (by first|(with_reducible assumption)|assumption)
    have q214 : x13_1 < (t210.length : Int):=of_decide_eq_true (by first|(with_reducible assumption)|assumption)
    obtain ⟨ad214,e214,hx214_0⟩:=Kd.at_int (Kd.R_reads' HO_10.out).2.2 x13_1 p214 q214
    obtain rfl : ad213 = ad214:=(by injection e214)
    replace p214:=eq_true p214
    replace q214:=eq_true q214
    refine start_ (n:=9) (S:=fun w' => w'.cell? ⟨gb209,0,none⟩ = some (.int .i64 a0_0) ∧ w'.cell? ⟨gb209,1,none⟩ = some (.int .i64 a0_1) ∧ w'.cell? ⟨gb209,2,none⟩ = some (.slice A0_2 l0_2.length c0_2) ∧ w'.cell? ⟨gb209,3,none⟩ = some (.slice A0_3 l0_3.length c0_3) ∧ w'.cell? (ad213.add (x13_1).toNat) = some (.int .i64 (rd t210 x13_1))) (ds:=[]) #[false,false,false,false,false,false,false,false,false] (by kernel_rfl) rfl rfl ⟨(blk_cell BK209.out 0).trans rfl,(blk_cell BK209.out 1).trans rfl,(blk_cell BK209.out 2).trans rfl,(blk_cell BK209.out 3).trans rfl,hx214_0⟩ (fun hHeld => ?_);refine with_tabW hinterlandref17_choose.tab8 hinterlandref17_choose.bits8 (fun HT_ HW_ => ?_)
    generalize wr.drew = w21 at HO_10 BK209 HB hx214_0 hHeld ⊢
    refine pI 1 (some 32) ?_
    refine pI 2 (some 33) ?_
    refine pI 3 (some 34) ?_
    refine pI 4 (some 35) ?_
    refine pI 6 (some 37) ?_
    refine tI5 0 (some 31) hHeld ?_
    refine tI5 5 (some 36) hHeld ?_
    refine oI 7 (some 38) (fun K hK => ?_)
    refine goes_ Try.func64 (by kernel_rfl) rfl #[.agg #[.int .i64 a0_0,.int .i64 a0_1,.slice A0_2 l0_2.length c0_2,.slice A0_3 l0_3.length c0_3],.int .i64 a1,.int .i64 (rd t210 x13_1),.int .i64 a3] (by rfl) rfl rfl ga_ ?_
    with_reducible refine (hinterlandref17_far.calls k1 a0_0 a0_1 _ _ l0_2 _ _ l0_3 a1 (rd t210 x13_1) a3 t215 _ ?side1 ?side2 ?side3 ?side4 A18.out).mono ?_
    (case side1 => exact cq HR0_2)
    (case side2 => exact HC0_2.out)
    (case side3 => exact cq HR0_3)
    (case side4 => exact HC0_3.out)
    rintro e w22 ⟨rfl,hb⟩
    have HS4_:=(hb.cell (World.block_lt_of_cell? _ _ (hHeld.2.2.2.2))).trans (hHeld.2.2.2.2)
    refine ⟨_,rfl,?_⟩
    have n0_:=rbw HO_10 hb
    have n1_:=bkb BK209 hb
    have n2_:=Aside0.mk (below_step (hb_) hb)
    clear HO_10
    clear BK209
    clear HB
    have HO_10:=n0_
    have BK209:=n1_
    have HB:=n2_
    clear n0_ n1_ n2_
    (try clear hb)
    (try clear hb2)
    (try clear hk)
    (try clear hi)
    refine hK.out _ _ ⟨(blk_cell BK209.out 0).trans rfl,(blk_cell BK209.out 1).trans rfl,(blk_cell BK209.out 2).trans rfl,(blk_cell BK209.out 3).trans rfl,HS4_⟩ (fun hHeld => ?_)
    clear hK K
    refine norm_ (a':=?_) ?_ ?_
    rotate_left
    ·show Act.put _ (some 38) _ = _
     simp only [Act.put,List.setIfInBounds_toArray,List.set_cons_zero,List.set_cons_succ,i64_w,i32_w]
     rfl
    refine pI 8 (some 14) ?_
    refine done_ (done_of HT_.out (by kernel_rfl)) ?_
    have p216 : 0 ≤ (x13_1 : Int):=of_decide_eq_true (by first|(with_reducible assumption)|assumption)
    have q216 : x13_1 < (t210.length : Int):=of_decide_eq_true (by first|(with_reducible assumption)|assumption)
    obtain ⟨ad216,e216,hx216_0⟩:=Kd.at_int (Kd.R_reads' HO_10.out).2.2 x13_1 p216 q216
    obtain rfl : ad213 = ad216:=(by injection e216)
    replace p216:=eq_true p216
    replace q216:=eq_true q216
    try go_wp2
    go_roundg k1
    case measure => have:=HK1.out;omega
    case rel => exact ⟨(rd t210 x13_1),(t215),(wrap64 (x13_1 + 1)),(by first|rfl|(simp;done)|(simp [*];done)),(by first|rfl|(simp;done)|(simp [*];done)),(by first|rfl|(simp;done)|(simp [*];done)),H',⟨by have:=HK1.out;omega⟩,⟨Kd.R_up HO_10.out⟩,⟨blk_up BK209.out⟩,⟨hb_⟩⟩
   rw [if_neg c20] at H
   have c20b0 : decide (x12_1 < 0) = false:=decide_eq_false c20
   clear c20
   by_cases c23 : t215 < x12_1
   rotate_left
   ·rw [if_neg c23] at H
    have c23b0 : decide (t215 < x12_1) = false:=decide_eq_false c23
    clear c23
    have H':=Aside0.mk H
    clear H
    try go_wp2
    replace HO_10:=Aside0.mk (Kd.R_drew HO_10.out)
    replace BK209:=Aside0.mk (blk_drew BK209.out)
    replace HB:=Aside0.mk (below_drew1 HB.out)
    have p214 : 0 ≤ (x13_1 : Int):=of_decide_eq_true (by first|(with_reducible assumption)|assumption)
    have q214 : x13_1 < (t210.length : Int):=of_decide_eq_true (by first|(with_reducible assumption)|assumption)
    obtain ⟨ad214,e214,hx214_0⟩:=Kd.at_int (Kd.R_reads' HO_10.out).2.2 x13_1 p214 q214
    obtain rfl : ad213 = ad214:=(by injection e214)
    replace p214:=eq_true p214
    replace q214:=eq_true q214
    refine start_ (n:=9) (S:=fun w' => w'.cell? ⟨gb209,0,none⟩ = some (.int .i64 a0_0) ∧ w'.cell? ⟨gb209,1,none⟩ = some (.int .i64 a0_1) ∧ w'.cell? ⟨gb209,2,none⟩ = some (.slice A0_2 l0_2.length c0_2) ∧ w'.cell? ⟨gb209,3,none⟩ = some (.slice A0_3 l0_3.length c0_3) ∧ w'.cell? (ad213.add (x13_1).toNat) = some (.int .i64 (rd t210 x13_1))) (ds:=[]) #[false,false,false,false,false,false,false,false,false] (by kernel_rfl) rfl rfl ⟨(blk_cell BK209.out 0).trans rfl,(blk_cell BK209.out 1).trans rfl,(blk_cell BK209.out 2).trans rfl,(blk_cell BK209.out 3).trans rfl,hx214_0⟩ (fun hHeld => ?_);refine with_tabW hinterlandref17_choose.tab8 hinterlandref17_choose.bits8 (fun HT_ HW_ => ?_)
    generalize wr.drew = w26 at HO_10 BK209 HB hx214_0 hHeld ⊢
    refine pI 1 (some 32) ?_
    refine pI 2 (some 33) ?_
    refine pI 3 (some 34) ?_
    refine pI 4 (some 35) ?_
    refine pI 6 (some 37) ?_
    refine tI5 0 (some 31) hHeld ?_
    refine tI5 5 (some 36) hHeld ?_
    refine oI 7 (some 38) (fun K hK => ?_)
    refine goes_ Try.func64 (by kernel_rfl) rfl #[.agg #[.int .i64 a0_0,.int .i64 a0_1,.slice A0_2 l0_2.length c0_2,.slice A0_3 l0_3.length c0_3],.int .i64 a1,.int .i64 (rd t210 x13_1),.int .i64 a3] (by rfl) rfl rfl ga_ ?_
    with_reducible refine (hinterlandref17_far.calls k1 a0_0 a0_1 _ _ l0_2 _ _ l0_3 a1 (rd t210 x13_1) a3 t215 _ ?side1 ?side2 ?side3 ?side4 A18.out).mono ?_
    (case side1 => exact cq HR0_2)
    (case side2 => exact HC0_2.out)
    (case side3 => exact cq HR0_3)
    (case side4 => exact HC0_3.out)
    rintro e w27 ⟨rfl,hb⟩
    have HS4_:=(hb.cell (World.block_lt_of_cell? _ _ (hHeld.2.2.2.2))).trans (hHeld.2.2.2.2)
    refine ⟨_,rfl,?_⟩
    have n0_:=rbw HO_10 hb
    have n1_:=bkb BK209 hb
    have n2_:=Aside0.mk (below_step (hb_) hb)
    clear HO_10
    clear BK209
    clear HB
    have HO_10:=n0_
    have BK209:=n1_
    have HB:=n2_
    clear n0_ n1_ n2_
    (try clear hb)
    (try clear hb2)
    (try clear hk)
    (try clear hi)
    refine hK.out _ _ ⟨(blk_cell BK209.out 0).trans rfl,(blk_cell BK209.out 1).trans rfl,(blk_cell BK209.out 2).trans rfl,(blk_cell BK209.out 3).trans rfl,HS4_⟩ (fun hHeld => ?_)
    clear hK K
    refine norm_ (a':=?_) ?_ ?_
    rotate_left
    ·show Act.put _ (some 38) _ = _
     simp only [Act.put,List.setIfInBounds_toArray,List.set_cons_zero,List.set_cons_succ,i64_w,i32_w]
     rfl
    refine pI 8 (some 14) ?_
    refine done_ (done_of HT_.out (by kernel_rfl)) ?_
    try go_wp2
    go_roundg k1
    case measure => have:=HK1.out;omega
    case rel => exact ⟨(x11_1),(x12_1),(wrap64 (x13_1 + 1)),(by first|rfl|(simp;done)|(simp [*];done)),(by first|rfl|(simp;done)|(simp [*];done)),(by first|rfl|(simp;done)|(simp [*];done)),H',⟨by have:=HK1.out;omega⟩,⟨Kd.R_up HO_10.out⟩,⟨blk_up BK209.out⟩,⟨hb_⟩⟩
   rw [if_pos c23] at H
   have c23b0 : decide (t215 < x12_1) = true:=decide_eq_true c23
   clear c23
   have H':=Aside0.mk H
   clear H
   try go_wp2
   replace HO_10:=Aside0.mk (Kd.R_drew HO_10.out)
   replace BK209:=Aside0.mk (blk_drew BK209.out)
   replace HB:=Aside0.mk (below_drew1 HB.out)
   have p214 : 0 ≤ (x13_1 : Int):=of_decide_eq_true (by first|(with_reducible assumption)|assumption)
   have q214 : x13_1 < (t210.length : Int):=of_decide_eq_true (by first|(with_reducible assumption)|assumption)
   obtain ⟨ad214,e214,hx214_0⟩:=Kd.at_int (Kd.R_reads' HO_10.out).2.2 x13_1 p214 q214
   obtain rfl : ad213 = ad214:=(by injection e214)
   replace p214:=eq_true p214
   replace q214:=eq_true q214
   refine start_ (n:=9) (S:=fun w' => w'.cell? ⟨gb209,0,none⟩ = some (.int .i64 a0_0) ∧ w'.cell? ⟨gb209,1,none⟩ = some (.int .i64 a0_1) ∧ w'.cell? ⟨gb209,2,none⟩ = some (.slice A0_2 l0_2.length c0_2) ∧ w'.cell? ⟨gb209,3,none⟩ = some (.slice A0_3 l0_3.length c0_3) ∧ w'.cell? (ad213.add (x13_1).toNat) = some (.int .i64 (rd t210 x13_1))) (ds:=[]) #[false,false,false,false,false,false,false,false,false] (by kernel_rfl) rfl rfl ⟨(blk_cell BK209.out 0).trans rfl,(blk_cell BK209.out 1).trans rfl,(blk_cell BK209.out 2).trans rfl,(blk_cell BK209.out 3).trans rfl,hx214_0⟩ (fun hHeld => ?_);refine with_tabW hinterlandref17_choose.tab8 hinterlandref17_choose.bits8 (fun HT_ HW_ => ?_)
   generalize wr.drew = w24 at HO_10 BK209 HB hx214_0 hHeld ⊢
   refine pI 1 (some 32) ?_
   refine pI 2 (some 33) ?_
   refine pI 3 (some 34) ?_
   refine pI 4 (some 35) ?_
   refine pI 6 (some 37) ?_
   refine tI5 0 (some 31) hHeld ?_
   refine tI5 5 (some 36) hHeld ?_
   refine oI 7 (some 38) (fun K hK => ?_)
   refine goes_ Try.func64 (by kernel_rfl) rfl #[.agg #[.int .i64 a0_0,.int .i64 a0_1,.slice A0_2 l0_2.length c0_2,.slice A0_3 l0_3.length c0_3],.int .i64 a1,.int .i64 (rd t210 x13_1),.int .i64 a3] (by rfl) rfl rfl ga_ ?_
   with_reducible refine (hinterlandref17_far.calls k1 a0_0 a0_1 _ _ l0_2 _ _ l0_3 a1 (rd t210 x13_1) a3 t215 _ ?side1 ?side2 ?side3 ?side4 A18.out).mono ?_
   (case side1 => exact cq HR0_2)
   (case side2 => exact HC0_2.out)
   (case side3 => exact cq HR0_3)
   (case side4 => exact HC0_3.out)
   rintro e w25 ⟨rfl,hb⟩
   have HS4_:=(hb.cell (World.block_lt_of_cell? _ _ (hHeld.2.2.2.2))).trans (hHeld.2.2.2.2)
   refine ⟨_,rfl,?_⟩
   have n0_:=rbw HO_10 hb
   have n1_:=bkb BK209 hb
   have n2_:=Aside0.mk (below_step (hb_) hb)
   clear HO_10
   clear BK209
   clear HB
   have HO_10:=n0_
   have BK209:=n1_
   have HB:=n2_
   clear n0_ n1_ n2_
   (try clear hb)
   (try clear hb2)
   (try clear hk)
   (try clear hi)
   refine hK.out _ _ ⟨(blk_cell BK209.out 0).trans rfl,(blk_cell BK209.out 1).trans rfl,(blk_cell BK209.out 2).trans rfl,(blk_cell BK209.out 3).trans rfl,HS4_⟩ (fun hHeld => ?_)
   clear hK K
   refine norm_ (a':=?_) ?_ ?_
   rotate_left
   ·show Act.put _ (some 38) _ = _
    simp only [Act.put,List.setIfInBounds_toArray,List.set_cons_zero,List.set_cons_succ,i64_w,i32_w]
    rfl
   refine pI 8 (some 14) ?_
   refine done_ (done_of HT_.out (by kernel_rfl)) ?_
   have p217 : 0 ≤ (x13_1 : Int):=of_decide_eq_true (by first|(with_reducible assumption)|assumption)
   have q217 : x13_1 < (t210.length : Int):=of_decide_eq_true (by first|(with_reducible assumption)|assumption)
   obtain ⟨ad217,e217,hx217_0⟩:=Kd.at_int (Kd.R_reads' HO_10.out).2.2 x13_1 p217 q217
   obtain rfl : ad213 = ad217:=(by injection e217)
   replace p217:=eq_true p217
   replace q217:=eq_true q217
   try go_wp2
   go_roundg k1
   case measure => have:=HK1.out;omega
   case rel => exact ⟨(rd t210 x13_1),(t215),(wrap64 (x13_1 + 1)),(by first|rfl|(simp;done)|(simp [*];done)),(by first|rfl|(simp;done)|(simp [*];done)),(by first|rfl|(simp;done)|(simp [*];done)),H',⟨by have:=HK1.out;omega⟩,⟨Kd.R_up HO_10.out⟩,⟨blk_up BK209.out⟩,⟨hb_⟩⟩

end Go.Proofs.Ythjmdpekcleihaa.P

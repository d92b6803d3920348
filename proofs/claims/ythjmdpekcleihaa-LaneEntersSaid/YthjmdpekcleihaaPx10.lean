/- Functions of this seat as plain Lean functions, with proofs that the Go code comes to just their answers, or what stands between them and a law's statement; no conditions. (Laid by a program of this session, out of the kit's print.) -/
import Derived.Test.YthjmdpekcleihaaPx0
import Derived.Test.YthjmdpekcleihaaPx8
import Derived.Test.YthjmdpekcleihaaPx9
namespace Go.Proofs.Ythjmdpekcleihaa.P
open Go.RowKit Go.Proofs.YthjmdpekcleihaaW.PrintWords Go.Proofs.YthjmdpekcleihaaW.PrintLast Go.Proofs.YthjmdpekcleihaaW.PrintMore
attribute [local go_sem] max2_int min2_int max_two min_two max_three min_three max_four min_four   -- for this text's walks alone
set_option linter.unusedVariables false
set_option linter.unusedSimpArgs false

/-! ### hinterlandref17_joined: function 84 -/
def hinterlandref17_joined.f (k : Nat) (a0_0 : Int) (a0_1 : Int) (l0_2 : List Int) (l0_3 : List Int) (a1 : Int) (a2 : Int) : Option (Bool) := (hinterlandref17_linked.f k a0_0 a0_1 l0_2 l0_3 a1 a2).bind fun t169 => (if t169 = true then (if 0 ≤ a1 then (if a1 < (l0_3.length : Int) then ((hinterlandref17_free.f (rd l0_3 a1) a2).bind fun t171 => (if t171 = true then ((hinterlandref17_beyond.f a0_0 a0_1 l0_2 l0_3 a1 a2).bind fun t172 => (if 0 ≤ t172 then (if t172 < (l0_3.length : Int) then ((hinterlandref17_free.f (rd l0_3 t172) a2).bind fun t174 => (some t174)) else (none)) else (none))) else (some false))) else (none)) else (none)) else (some false))
theorem hinterlandref17_joined.mono : ∀ a0 a1 a2 a3 a4 a5 k, LeO (hinterlandref17_joined.f k a0 a1 a2 a3 a4 a5) (hinterlandref17_joined.f (k + 1) a0 a1 a2 a3 a4 a5) := by
 intro a0 a1 a2 a3 a4 a5 k
 unfold hinterlandref17_joined.f
 repeat' first
   | (with_reducible exact hinterlandref17_linked.mono _ _ _ _ _ _ _)
   | (with_reducible exact LeO.refl _)
   | (with_reducible exact LeO.none _)
   | (with_reducible refine LeO.ite ?_ ?_)
   | (with_reducible refine LeO.bind ?_ (fun _ => ?_))
   | exact hinterlandref17_linked.mono _ _ _ _ _ _ _
   | exact LeO.none _
   | refine LeO.ite ?_ ?_
   | refine LeO.bind ?_ (fun _ => ?_)
def hinterlandref17_joined.T1 : Bool × List (List Nat × List Nat) := (true, [([], []), ([], []), ([], []), ([0, 1, 2], [0, 1, 2]), ([3, 3], [3]), ([4], [4]), ([5, 4], [4, 5]), ([4], [4]), ([6, 7, 4], [4, 6, 7]), ([8, 4], [4, 8]), ([4], [4]), ([9, 10, 4, 4], [4, 9, 10]), ([4, 11], [4, 11]), ([12, 11], [12]), ([13], [13]), ([14, 13], [13, 14]), ([13], [13]), ([13], [13]), ([13], [13]), ([16, 17, 18, 13, 13], [13, 16, 17, 18]), ([15, 19, 13], [13, 15, 19]), ([20, 13], [13, 20]), ([13], [13]), ([21, 22, 19, 13], [13, 21, 22]), ([13, 23], [13, 23]), ([24, 23, 0, 1, 2, 3, 4, 5, 6, 7, 8, 9, 10, 11, 12, 13, 14, 15, 16, 17, 18, 19, 20, 21, 22, 23, 24], [24])])
def hinterlandref17_joined.B1 : List Nat := [0, 0, 0, 7, 15, 31, 63, 31, 255, 511, 31, 2047, 4095, 8191, 16383, 32767, 16383, 16383, 16383, 475135, 1048575, 2097151, 16383, 8388607, 16777215, 33554431]
theorem hinterlandref17_joined.tab1 : rtab .any (opsOf Try.f84 1) = hinterlandref17_joined.T1 := by kernel_rfl
theorem hinterlandref17_joined.bits1 : waitsOk hinterlandref17_joined.T1.2 hinterlandref17_joined.B1 = true := by kernel_rfl
set_option maxHeartbeats 8000000 in
set_option maxRecDepth 100000 in
theorem hinterlandref17_joined.calls (k : Nat) (a0_0 : Int) (a0_1 : Int) (A0_2 : Option Addr) (c0_2 : Nat) (l0_2 : List Int) (A0_3 : Option Addr) (c0_3 : Nat) (l0_3 : List Int) (a1 : Int) (a2 : Int) (r : Bool) (w : World) (hr0_2 : Kd.C (Kd.int .i64) w A0_2 l0_2.length l0_2) (hc0_2 : l0_2.length ≤ c0_2) (hr0_3 : Kd.C (Kd.int .i64) w A0_3 l0_3.length l0_3) (hc0_3 : l0_3.length ≤ c0_3) (h : hinterlandref17_joined.f k a0_0 a0_1 l0_2 l0_3 a1 a2 = some r) :
  Calls Try.prog 84 #[.agg #[.int .i64 a0_0,.int .i64 a0_1,.slice A0_2 l0_2.length c0_2,.slice A0_3 l0_3.length c0_3],.int .i64 a1,.int .i64 a2] w fun e w' => e = .returned (.bool r) ∧ Below w.heap.size w w':=by
 have hu24:=Try.underlying24
 have HR0_2:=Aside0.mk hr0_2
 have HC0_2:=Aside0.mk hc0_2
 clear hr0_2 hc0_2
 have HR0_3:=Aside0.mk hr0_3
 have HC0_3:=Aside0.mk hc0_3
 clear hr0_3 hc0_3
 have HB:=Aside0.mk (Below.refl w.heap.size w)
 have H : ((hinterlandref17_linked.f k a0_0 a0_1 l0_2 l0_3 a1 a2).bind fun t169 => (if t169 = true then (if 0 ≤ a1 then (if a1 < (l0_3.length : Int) then ((hinterlandref17_free.f (rd l0_3 a1) a2).bind fun t171 => (if t171 = true then ((hinterlandref17_beyond.f a0_0 a0_1 l0_2 l0_3 a1 a2).bind fun t172 => (if 0 ≤ t172 then (if t172 < (l0_3.length : Int) then ((hinterlandref17_free.f (rd l0_3 t172) a2).bind fun t174 => (some t174)) else (none)) else (none))) else (some false))) else (none)) else (none)) else (some false))) = some r:=h
 clear h
 replace H:=Option.bind_eq_some_iff.mp H
 obtain ⟨t169,A40,H⟩:=H
 replace H : (if t169 = true then (if 0 ≤ a1 then (if a1 < (l0_3.length : Int) then ((hinterlandref17_free.f (rd l0_3 a1) a2).bind fun t171 => (if t171 = true then ((hinterlandref17_beyond.f a0_0 a0_1 l0_2 l0_3 a1 a2).bind fun t172 => (if 0 ≤ t172 then (if t172 < (l0_3.length : Int) then ((hinterlandref17_free.f (rd l0_3 t172) a2).bind fun t174 => (some t174)) else (none)) else (none))) else (some false))) else (none)) else (none)) else (some false)) = some r:=H
 have A4:=Aside0.mk A40
 clear A40
 by_cases c5 : t169 = true
 ·subst c5
  have H1 : (if 0 ≤ a1 then (if a1 < (l0_3.length : Int) then ((hinterlandref17_free.f (rd l0_3 a1) a2).bind fun t171 => (if t171 = true then ((hinterlandref17_beyond.f a0_0 a0_1 l0_2 l0_3 a1 a2).bind fun t172 => (if 0 ≤ t172 then (if t172 < (l0_3.length : Int) then ((hinterlandref17_free.f (rd l0_3 t172) a2).bind fun t174 => (some t174)) else (none)) else (none))) else (some false))) else (none)) else (none)) = some r:=by rw [if_pos rfl] at H;exact H
  clear H
  have H:=H1
  clear H1
  replace H:=ifp_ H;obtain ⟨c6,H⟩:=H
  have c6b0 : decide (0 ≤ a1) = true:=decide_eq_true c6
  clear c6
  replace H:=ifp_ H;obtain ⟨c7,H⟩:=H
  have c7b0 : decide (a1 < (l0_3.length : Int)) = true:=decide_eq_true c7
  clear c7
  replace H:=Option.bind_eq_some_iff.mp H
  obtain ⟨t171,A80,H⟩:=H
  replace H : (if t171 = true then ((hinterlandref17_beyond.f a0_0 a0_1 l0_2 l0_3 a1 a2).bind fun t172 => (if 0 ≤ t172 then (if t172 < (l0_3.length : Int) then ((hinterlandref17_free.f (rd l0_3 t172) a2).bind fun t174 => (some t174)) else (none)) else (none))) else (some false)) = some r:=H
  have A8:=Aside0.mk A80
  clear A80
  by_cases c9 : t171 = true
  ·subst c9
   have H1 : ((hinterlandref17_beyond.f a0_0 a0_1 l0_2 l0_3 a1 a2).bind fun t172 => (if 0 ≤ t172 then (if t172 < (l0_3.length : Int) then ((hinterlandref17_free.f (rd l0_3 t172) a2).bind fun t174 => (some t174)) else (none)) else (none))) = some r:=by rw [if_pos rfl] at H;exact H
   clear H
   have H:=H1
   clear H1
   replace H:=Option.bind_eq_some_iff.mp H
   obtain ⟨t172,A100,H⟩:=H
   replace H : (if 0 ≤ t172 then (if t172 < (l0_3.length : Int) then ((hinterlandref17_free.f (rd l0_3 t172) a2).bind fun t174 => (some t174)) else (none)) else (none)) = some r:=H
   have A10:=Aside0.mk A100
   clear A100
   replace H:=ifp_ H;obtain ⟨c11,H⟩:=H
   have c11b0 : decide (0 ≤ t172) = true:=decide_eq_true c11
   clear c11
   replace H:=ifp_ H;obtain ⟨c12,H⟩:=H
   have c12b0 : decide (t172 < (l0_3.length : Int)) = true:=decide_eq_true c12
   clear c12
   replace H:=Option.bind_eq_some_iff.mp H
   obtain ⟨t174,A130,H⟩:=H
   replace H : (some t174) = some r:=H
   have A13:=Aside0.mk A130
   clear A130
   obtain rfl:=Option.some.inj H
   go_enter Try.func84,Try.ntmps84
   try go_wp2_with (first|((with_reducible refine gate_dst (N:=3) rfl ?_);refine box_ev (N:=3) (cs:=#[.int .i64 a0_0,.int .i64 a0_1,.slice A0_2 l0_2.length c0_2,.slice A0_3 l0_3.length c0_3]) (t:=24) ?_;intro gb168 hg w14 hbox hb;have BK168:=Aside0.mk (hbox);have GW168 : Aside0 (w.heap.size ≤ gb168):=gsz hg;have GE168:=GW168;replace HB:=hbs hb;clear hb hbox hg))
   replace BK168:=Aside0.mk (blk_drew BK168.out)
   replace HB:=Aside0.mk (below_drew1 HB.out)
   have p170 : 0 ≤ (a1 : Int):=of_decide_eq_true (by first|(with_reducible assumption)|assumption)
   have q170 : a1 < (l0_3.length : Int):=of_decide_eq_true (by first|(with_reducible assumption)|assumption)
   obtain ⟨ad170,e170,hx170_0⟩:=Kd.at_int HR0_3.out a1 p170 q170
   have hw170_0:=hx170_0
   cases e170
   replace hx170_0:=(HB.out.cell (World.block_lt_of_cell? w _ hx170_0)).trans hx170_0
   replace p170:=eq_true p170
   replace q170:=eq_true q170
   have p173 : 0 ≤ (t172 : Int):=of_decide_eq_true (by first|(with_reducible assumption)|assumption)
   have q173 : t172 < (l0_3.length : Int):=of_decide_eq_true (by first|(with_reducible assumption)|assumption)
   obtain ⟨ad173,e173,hx173_0⟩:=Kd.at_int HR0_3.out t172 p173 q173
   have hw173_0:=hx173_0
   obtain rfl : ad170 = ad173:=(by injection e173)
   replace hx173_0:=(HB.out.cell (World.block_lt_of_cell? w _ hx173_0)).trans hx173_0
   replace p173:=eq_true p173
   replace q173:=eq_true q173
   refine start_ (n:=26) (S:=fun w' => w'.cell? ⟨gb168,0,none⟩ = some (.int .i64 a0_0) ∧ w'.cell? ⟨gb168,1,none⟩ = some (.int .i64 a0_1) ∧ w'.cell? ⟨gb168,2,none⟩ = some (.slice A0_2 l0_2.length c0_2) ∧ w'.cell? ⟨gb168,3,none⟩ = some (.slice (some ad170) l0_3.length c0_3) ∧ w'.cell? (ad170.add (a1).toNat) = some (.int .i64 (rd l0_3 a1)) ∧ w'.cell? (ad170.add (t172).toNat) = some (.int .i64 (rd l0_3 t172))) (ds:=[]) #[false,false,false,false,false,false,false,false,false,false,false,false,false,false,false,false,false,false,false,false,false,false,false,false,false,false] (by kernel_rfl) rfl rfl ⟨(blk_cell BK168.out 0).trans rfl,(blk_cell BK168.out 1).trans rfl,(blk_cell BK168.out 2).trans rfl,(blk_cell BK168.out 3).trans rfl,((HB.out.cell (World.block_lt_of_cell? w _ hw170_0)).trans hw170_0),((HB.out.cell (World.block_lt_of_cell? w _ hw173_0)).trans hw173_0)⟩ (fun hHeld => ?_);refine with_tabW hinterlandref17_joined.tab1 hinterlandref17_joined.bits1 (fun HT_ HW_ => ?_)
   generalize w14.drew = w15 at BK168 HB hx170_0 hx173_0 hHeld ⊢
   refine pI 1 (some 8) ?_
   refine pI 2 (some 9) ?_
   refine tI6 0 (some 7) hHeld ?_
   refine oI 3 (some 10) (fun K hK => ?_)
   refine goes_ Try.func40 (by kernel_rfl) rfl #[.agg #[.int .i64 a0_0,.int .i64 a0_1,.slice A0_2 l0_2.length c0_2,.slice (some ad170) l0_3.length c0_3],.int .i64 a1,.int .i64 a2] (by rfl) rfl rfl ga_ ?_
   with_reducible refine (hinterlandref17_linked.calls k a0_0 a0_1 _ _ l0_2 _ _ l0_3 a1 a2 true _ ?side1 ?side2 ?side3 ?side4 A4.out).mono ?_
   (case side1 => exact cq HR0_2)
   (case side2 => exact HC0_2.out)
   (case side3 => exact cq HR0_3)
   (case side4 => exact HC0_3.out)
   rintro e w16 ⟨rfl,hb⟩
   refine ⟨_,rfl,?_⟩
   have n0_:=bkb BK168 hb
   have n1_:=Aside0.mk (below_step (hb_) hb)
   clear BK168
   clear HB
   have BK168:=n0_
   have HB:=n1_
   clear n0_ n1_
   (try clear hb)
   (try clear hb2)
   (try clear hk)
   (try clear hi)
   refine hK.out _ _ ⟨(blk_cell BK168.out 0).trans rfl,(blk_cell BK168.out 1).trans rfl,(blk_cell BK168.out 2).trans rfl,(blk_cell BK168.out 3).trans rfl,((HB.out.cell (World.block_lt_of_cell? w _ hw170_0)).trans hw170_0),((HB.out.cell (World.block_lt_of_cell? w _ hw173_0)).trans hw173_0)⟩ (fun hHeld => ?_)
   clear hK K
   refine norm_ (a':=?_) ?_ ?_
   rotate_left
   ·show Act.put _ (some 10) _ = _
    simp only [Act.put,List.setIfInBounds_toArray,List.set_cons_zero,List.set_cons_succ,i64_w,i32_w]
    rfl
   refine pI 4 (some 11) ?_
   refine pI 5 (some 12) ?_
   refine pI 7 (some 14) ?_
   refine pI 10 (some 17) ?_
   refine tI6 6 (some 13) hHeld ?_
   refine pI 8 (some 15) ?_
   refine tI6 9 (some 16) hHeld ?_
   refine oI 11 (some 18) (fun K hK => ?_)
   refine goes_ Try.func100 (by kernel_rfl) rfl #[.int .i64 (rd l0_3 a1),.int .i64 a2] (by rfl) rfl rfl ga_ ?_
   with_reducible refine (hinterlandref17_free.calls (rd l0_3 a1) a2 true _ A8.out).mono ?_
   rintro e w' ⟨rfl,⟨nd,rfl⟩⟩
   refine ⟨_,rfl,?_⟩
   refine hK.out _ _ ⟨(blk_cell BK168.out 0).trans rfl,(blk_cell BK168.out 1).trans rfl,(blk_cell BK168.out 2).trans rfl,(blk_cell BK168.out 3).trans rfl,((HB.out.cell (World.block_lt_of_cell? w _ hw170_0)).trans hw170_0),((HB.out.cell (World.block_lt_of_cell? w _ hw173_0)).trans hw173_0)⟩ (fun hHeld => ?_)
   clear hK K
   refine norm_ (a':=?_) ?_ ?_
   rotate_left
   ·show Act.put _ (some 18) _ = _
    simp only [Act.put,List.setIfInBounds_toArray,List.set_cons_zero,List.set_cons_succ,i64_w,i32_w]
    rfl
   refine pI 12 (some 19) ?_
   refine pI 13 (some 20) ?_
   refine pI 14 (some 21) ?_
   refine pI 17 (some 24) ?_
   refine pI 18 (some 25) ?_
   refine pI 22 (some 29) ?_
   refine tI6 15 (some 22) hHeld ?_
   refine tI6 16 (some 23) hHeld ?_
   refine oI 19 (some 26) (fun K hK => ?_)
   refine goes_ Try.func67 (by kernel_rfl) rfl #[.agg #[.int .i64 a0_0,.int .i64 a0_1,.slice A0_2 l0_2.length c0_2,.slice (some ad170) l0_3.length c0_3],.int .i64 a1,.int .i64 a2] (by rfl) rfl rfl ga_ ?_
   with_reducible refine (hinterlandref17_beyond.calls a0_0 a0_1 _ _ l0_2 _ _ l0_3 a1 a2 t172 _ ?side1 ?side2 ?side3 ?side4 A10.out).mono ?_
   (case side1 => repeat (first|exact (Kd.C_below HR0_2.out (hb_))|(with_reducible refine Kd.C_alloc ?_ _)|(with_reducible refine Kd.C_drewN ?_ _)|(with_reducible refine Kd.C_drew ?_)))
   (case side2 => exact HC0_2.out)
   (case side3 => repeat (first|exact (Kd.C_below HR0_3.out (hb_))|(with_reducible refine Kd.C_alloc ?_ _)|(with_reducible refine Kd.C_drewN ?_ _)|(with_reducible refine Kd.C_drew ?_)))
   (case side4 => exact HC0_3.out)
   rintro e w17 ⟨rfl,hb⟩
   refine ⟨_,rfl,?_⟩
   have n0_:=bkb BK168 hb
   have n1_:=Aside0.mk (below_step (hb_) hb)
   clear BK168
   clear HB
   have BK168:=n0_
   have HB:=n1_
   clear n0_ n1_
   (try clear hb)
   (try clear hb2)
   (try clear hk)
   (try clear hi)
   refine hK.out _ _ ⟨(blk_cell BK168.out 0).trans rfl,(blk_cell BK168.out 1).trans rfl,(blk_cell BK168.out 2).trans rfl,(blk_cell BK168.out 3).trans rfl,((HB.out.cell (World.block_lt_of_cell? w _ hw170_0)).trans hw170_0),((HB.out.cell (World.block_lt_of_cell? w _ hw173_0)).trans hw173_0)⟩ (fun hHeld => ?_)
   clear hK K
   refine norm_ (a':=?_) ?_ ?_
   rotate_left
   ·show Act.put _ (some 26) _ = _
    simp only [Act.put,List.setIfInBounds_toArray,List.set_cons_zero,List.set_cons_succ,i64_w,i32_w]
    rfl
   refine pI 20 (some 27) ?_
   refine tI6 21 (some 28) hHeld ?_
   refine oI 23 (some 30) (fun K hK => ?_)
   refine goes_ Try.func100 (by kernel_rfl) rfl #[.int .i64 (rd l0_3 t172),.int .i64 a2] (by rfl) rfl rfl ga_ ?_
   with_reducible refine (hinterlandref17_free.calls (rd l0_3 t172) a2 t174 _ A13.out).mono ?_
   rintro e w' ⟨rfl,⟨nd,rfl⟩⟩
   refine ⟨_,rfl,?_⟩
   refine hK.out _ _ ⟨(blk_cell BK168.out 0).trans rfl,(blk_cell BK168.out 1).trans rfl,(blk_cell BK168.out 2).trans rfl,(blk_cell BK168.out 3).trans rfl,((HB.out.cell (World.block_lt_of_cell? w _ hw170_0)).trans hw170_0),((HB.out.cell (World.block_lt_of_cell? w _ hw173_0)).trans hw173_0)⟩ (fun hHeld => ?_)
   clear hK K
   refine norm_ (a':=?_) ?_ ?_
   rotate_left
   ·show Act.put _ (some 30) _ = _
    simp only [Act.put,List.setIfInBounds_toArray,List.set_cons_zero,List.set_cons_succ,i64_w,i32_w]
    rfl
   refine pI 24 (some 31) ?_
   refine pI 25 (some 6) ?_
   refine done_ (done_of HT_.out (by kernel_rfl)) ?_
   try go_wp2
   go_ret
   exact ⟨er_,hb_⟩
  ·replace c9:=Bool.eq_false_iff.mpr c9
   subst c9
   have H1 : (some false) = some r:=by rw [if_neg (show ¬ (false = true) by decide)] at H;exact H
   clear H
   have H:=H1
   clear H1
   obtain rfl:=Option.some.inj H
   go_enter Try.func84,Try.ntmps84
   try go_wp2_with (first|((with_reducible refine gate_dst (N:=3) rfl ?_);refine box_ev (N:=3) (cs:=#[.int .i64 a0_0,.int .i64 a0_1,.slice A0_2 l0_2.length c0_2,.slice A0_3 l0_3.length c0_3]) (t:=24) ?_;intro gb168 hg w18 hbox hb;have BK168:=Aside0.mk (hbox);have GW168 : Aside0 (w.heap.size ≤ gb168):=gsz hg;have GE168:=GW168;replace HB:=hbs hb;clear hb hbox hg))
   replace BK168:=Aside0.mk (blk_drew BK168.out)
   replace HB:=Aside0.mk (below_drew1 HB.out)
   have p170 : 0 ≤ (a1 : Int):=of_decide_eq_true (by first|(with_reducible assumption)|assumption)
   have q170 : a1 < (l0_3.length : Int):=of_decide_eq_true (by first|(with_reducible assumption)|assumption)
   obtain ⟨ad170,e170,hx170_0⟩:=Kd.at_int HR0_3.out a1 p170 q170
   have hw170_0:=hx170_0
   cases e170
   replace hx170_0:=(HB.out.cell (World.block_lt_of_cell? w _ hx170_0)).trans hx170_0
   replace p170:=eq_true p170
   replace q170:=eq_true q170
   refine start_ (n:=26) (S:=fun w' => w'.cell? ⟨gb168,0,none⟩ = some (.int .i64 a0_0) ∧ w'.cell? ⟨gb168,1,none⟩ = some (.int .i64 a0_1) ∧ w'.cell? ⟨gb168,2,none⟩ = some (.slice A0_2 l0_2.length c0_2) ∧ w'.cell? ⟨gb168,3,none⟩ = some (.slice (some ad170) l0_3.length c0_3) ∧ w'.cell? (ad170.add (a1).toNat) = some (.int .i64 (rd l0_3 a1))) (ds:=[]) #[false,false,false,false,false,false,false,false,false,false,false,false,false,false,false,false,false,false,false,false,false,false,false,false,false,false] (by kernel_rfl) rfl rfl ⟨(blk_cell BK168.out 0).trans rfl,(blk_cell BK168.out 1).trans rfl,(blk_cell BK168.out 2).trans rfl,(blk_cell BK168.out 3).trans rfl,((HB.out.cell (World.block_lt_of_cell? w _ hw170_0)).trans hw170_0)⟩ (fun hHeld => ?_);refine with_tabW hinterlandref17_joined.tab1 hinterlandref17_joined.bits1 (fun HT_ HW_ => ?_)
   generalize w18.drew = w19 at BK168 HB hx170_0 hHeld ⊢
   refine pI 1 (some 8) ?_
   refine pI 2 (some 9) ?_
   refine tI5 0 (some 7) hHeld ?_
   refine oI 3 (some 10) (fun K hK => ?_)
   refine goes_ Try.func40 (by kernel_rfl) rfl #[.agg #[.int .i64 a0_0,.int .i64 a0_1,.slice A0_2 l0_2.length c0_2,.slice (some ad170) l0_3.length c0_3],.int .i64 a1,.int .i64 a2] (by rfl) rfl rfl ga_ ?_
   with_reducible refine (hinterlandref17_linked.calls k a0_0 a0_1 _ _ l0_2 _ _ l0_3 a1 a2 true _ ?side1 ?side2 ?side3 ?side4 A4.out).mono ?_
   (case side1 => exact cq HR0_2)
   (case side2 => exact HC0_2.out)
   (case side3 => exact cq HR0_3)
   (case side4 => exact HC0_3.out)
   rintro e w20 ⟨rfl,hb⟩
   refine ⟨_,rfl,?_⟩
   have n0_:=bkb BK168 hb
   have n1_:=Aside0.mk (below_step (hb_) hb)
   clear BK168
   clear HB
   have BK168:=n0_
   have HB:=n1_
   clear n0_ n1_
   (try clear hb)
   (try clear hb2)
   (try clear hk)
   (try clear hi)
   refine hK.out _ _ ⟨(blk_cell BK168.out 0).trans rfl,(blk_cell BK168.out 1).trans rfl,(blk_cell BK168.out 2).trans rfl,(blk_cell BK168.out 3).trans rfl,((HB.out.cell (World.block_lt_of_cell? w _ hw170_0)).trans hw170_0)⟩ (fun hHeld => ?_)
   clear hK K
   refine norm_ (a':=?_) ?_ ?_
   rotate_left
   ·show Act.put _ (some 10) _ = _
    simp only [Act.put,List.setIfInBounds_toArray,List.set_cons_zero,List.set_cons_succ,i64_w,i32_w]
    rfl
   refine pI 4 (some 11) ?_
   refine pI 5 (some 12) ?_
   refine pI 7 (some 14) ?_
   refine pI 10 (some 17) ?_
   refine tI5 6 (some 13) hHeld ?_
   refine pI 8 (some 15) ?_
   refine tI5 9 (some 16) hHeld ?_
   refine oI 11 (some 18) (fun K hK => ?_)
   refine goes_ Try.func100 (by kernel_rfl) rfl #[.int .i64 (rd l0_3 a1),.int .i64 a2] (by rfl) rfl rfl ga_ ?_
   with_reducible refine (hinterlandref17_free.calls (rd l0_3 a1) a2 false _ A8.out).mono ?_
   rintro e w' ⟨rfl,⟨nd,rfl⟩⟩
   refine ⟨_,rfl,?_⟩
   refine hK.out _ _ ⟨(blk_cell BK168.out 0).trans rfl,(blk_cell BK168.out 1).trans rfl,(blk_cell BK168.out 2).trans rfl,(blk_cell BK168.out 3).trans rfl,((HB.out.cell (World.block_lt_of_cell? w _ hw170_0)).trans hw170_0)⟩ (fun hHeld => ?_)
   clear hK K
   refine norm_ (a':=?_) ?_ ?_
   rotate_left
   ·show Act.put _ (some 18) _ = _
    simp only [Act.put,List.setIfInBounds_toArray,List.set_cons_zero,List.set_cons_succ,i64_w,i32_w]
    rfl
   refine pI 12 (some 19) ?_
   refine pI 13 (some 20) ?_
   refine pU 14 (some 21) ?_
   refine pU 15 (some 22) ?_
   refine pU 16 (some 23) ?_
   refine pU 17 (some 24) ?_
   refine pU 18 (some 25) ?_
   refine pU 19 (some 26) ?_
   refine pU 20 (some 27) ?_
   refine pU 21 (some 28) ?_
   refine pU 22 (some 29) ?_
   refine pU 23 (some 30) ?_
   refine pI 24 (some 31) ?_
   refine pI 25 (some 6) ?_
   refine done_ (done_of HT_.out (by kernel_rfl)) ?_
   try go_wp2
   go_ret
   exact ⟨er_,hb_⟩
 ·replace c5:=Bool.eq_false_iff.mpr c5
  subst c5
  have H1 : (some false) = some r:=by rw [if_neg (show ¬ (false = true) by decide)] at H;exact H
  clear H
  have H:=H1
  clear H1
  obtain rfl:=Option.some.inj H
  go_enter Try.func84,Try.ntmps84
  try go_wp2_with (first|((with_reducible refine gate_dst (N:=3) rfl ?_);refine box_ev (N:=3) (cs:=#[.int .i64 a0_0,.int .i64 a0_1,.slice A0_2 l0_2.length c0_2,.slice A0_3 l0_3.length c0_3]) (t:=24) ?_;intro gb168 hg w21 hbox hb;have BK168:=Aside0.mk (hbox);have GW168 : Aside0 (w.heap.size ≤ gb168):=gsz hg;have GE168:=GW168;replace HB:=hbs hb;clear hb hbox hg))
  replace BK168:=Aside0.mk (blk_drew BK168.out)
  replace HB:=Aside0.mk (below_drew1 HB.out)
  refine start_ (n:=26) (S:=fun w' => w'.cell? ⟨gb168,0,none⟩ = some (.int .i64 a0_0) ∧ w'.cell? ⟨gb168,1,none⟩ = some (.int .i64 a0_1) ∧ w'.cell? ⟨gb168,2,none⟩ = some (.slice A0_2 l0_2.length c0_2) ∧ w'.cell? ⟨gb168,3,none⟩ = some (.slice A0_3 l0_3.length c0_3)) (ds:=[]) #[false,false,false,false,false,false,false,false,false,false,false,false,false,false,false,false,false,false,false,false,false,false,false,false,false,false] (by kernel_rfl) rfl rfl ⟨(blk_cell BK168.out 0).trans rfl,(blk_cell BK168.out 1).trans rfl,(blk_cell BK168.out 2).trans rfl,(blk_cell BK168.out 3).trans rfl⟩ (fun hHeld => ?_);refine with_tabW hinterlandref17_joined.tab1 hinterlandref17_joined.bits1 (fun HT_ HW_ => ?_)
  generalize w21.drew = w22 at BK168 HB hHeld ⊢
  refine pI 1 (some 8) ?_
  refine pI 2 (some 9) ?_
  refine tI4 0 (some 7) hHeld ?_
  refine oI 3 (some 10) (fun K hK => ?_)
  refine goes_ Try.func40 (by kernel_rfl) rfl #[.agg #[.int .i64 a0_0,.int .i64 a0_1,.slice A0_2 l0_2.length c0_2,.slice A0_3 l0_3.length c0_3],.int .i64 a1,.int .i64 a2] (by rfl) rfl rfl ga_ ?_
  with_reducible refine (hinterlandref17_linked.calls k a0_0 a0_1 _ _ l0_2 _ _ l0_3 a1 a2 false _ ?side1 ?side2 ?side3 ?side4 A4.out).mono ?_
  (case side1 => exact cq HR0_2)
  (case side2 => exact HC0_2.out)
  (case side3 => exact cq HR0_3)
  (case side4 => exact HC0_3.out)
  rintro e w23 ⟨rfl,hb⟩
  refine ⟨_,rfl,?_⟩
  have n0_:=bkb BK168 hb
  have n1_:=Aside0.mk (below_step (hb_) hb)
  clear BK168
  clear HB
  have BK168:=n0_
  have HB:=n1_
  clear n0_ n1_
  (try clear hb)
  (try clear hb2)
  (try clear hk)
  (try clear hi)
  refine hK.out _ _ ⟨(blk_cell BK168.out 0).trans rfl,(blk_cell BK168.out 1).trans rfl,(blk_cell BK168.out 2).trans rfl,(blk_cell BK168.out 3).trans rfl⟩ (fun hHeld => ?_)
  clear hK K
  refine norm_ (a':=?_) ?_ ?_
  rotate_left
  ·show Act.put _ (some 10) _ = _
   simp only [Act.put,List.setIfInBounds_toArray,List.set_cons_zero,List.set_cons_succ,i64_w,i32_w]
   rfl
  refine pI 4 (some 11) ?_
  refine pU 5 (some 12) ?_
  refine pU 6 (some 13) ?_
  refine pU 7 (some 14) ?_
  refine pU 8 (some 15) ?_
  refine pU 9 (some 16) ?_
  refine pU 10 (some 17) ?_
  refine pU 11 (some 18) ?_
  refine pI 12 (some 19) ?_
  refine pI 13 (some 20) ?_
  refine pU 14 (some 21) ?_
  refine pU 15 (some 22) ?_
  refine pU 16 (some 23) ?_
  refine pU 17 (some 24) ?_
  refine pU 18 (some 25) ?_
  refine pU 19 (some 26) ?_
  refine pU 20 (some 27) ?_
  refine pU 21 (some 28) ?_
  refine pU 22 (some 29) ?_
  refine pU 23 (some 30) ?_
  refine pI 24 (some 31) ?_
  refine pI 25 (some 6) ?_
  refine done_ (done_of HT_.out (by kernel_rfl)) ?_
  try go_wp2
  go_ret
  exact ⟨er_,hb_⟩

/-! ### hinterlandref17_leave: function 63 -/
def hinterlandref17_leave.l0 : Nat → Int → Int → List Int → Int → Int → Int → List Int → List Int → Option (List Int)
 | 0,_,_,_,_,_,_,_,_ => none
 | k + 1,x1,x2,x7,x8,x176000,x176001,x176002,x176003 => if x8 < 4 then (if x8 = x2 then (hinterlandref17_leave.l0 k x1 x2 x7 (wrap64 (x8 + 1)) x176000 x176001 x176002 x176003) else ((hinterlandref17_joined.f k x176000 x176001 x176002 x176003 x1 x8).bind fun t176 => (if t176 = true then (if x7.length < 17592186044416 then (hinterlandref17_leave.l0 k x1 x2 (x7 ++ [x8]) (wrap64 (x8 + 1)) x176000 x176001 x176002 x176003) else (none)) else (hinterlandref17_leave.l0 k x1 x2 x7 (wrap64 (x8 + 1)) x176000 x176001 x176002 x176003)))) else (if (x7.length : Int) = 0 then (if x2 ≥ 0 then ((hinterlandref17_joined.f k x176000 x176001 x176002 x176003 x1 x2).bind fun t180 => (if t180 = true then (if x7.length < 17592186044416 then (some (x7 ++ [x2])) else (none)) else (some x7))) else (some x7)) else (some x7))
def hinterlandref17_leave.f (k : Nat) (a0_0 : Int) (a0_1 : Int) (l0_2 : List Int) (l0_3 : List Int) (a1 : Int) (a2 : Int) : Option (List Int) := hinterlandref17_leave.l0 k a1 a2 ([] : List Int) 0 a0_0 a0_1 l0_2 l0_3
theorem hinterlandref17_leave.mono_l : ∀ k, (∀ y0 y1 y2 y3 y4 y5 y6 y7, LeO (hinterlandref17_leave.l0 k y0 y1 y2 y3 y4 y5 y6 y7) (hinterlandref17_leave.l0 (k + 1) y0 y1 y2 y3 y4 y5 y6 y7))
 | 0 => fun _ _ _ _ _ _ _ _ r h => by simp [hinterlandref17_leave.l0] at h
 | k + 1 => by
  have ih0:=hinterlandref17_leave.mono_l k
  ·intro y0 y1 y2 y3 y4 y5 y6 y7
   unfold hinterlandref17_leave.l0
   repeat' first
   | (with_reducible exact ih0 _ _ _ _ _ _ _ _)
   | (with_reducible exact hinterlandref17_joined.mono _ _ _ _ _ _ _)
   | (with_reducible exact LeO.refl _)
   | (with_reducible exact LeO.none _)
   | (with_reducible refine LeO.ite ?_ ?_)
   | (with_reducible refine LeO.bind ?_ (fun _ => ?_))
   | exact ih0 _ _ _ _ _ _ _ _
   | exact hinterlandref17_joined.mono _ _ _ _ _ _ _
   | exact LeO.none _
   | refine LeO.ite ?_ ?_
   | refine LeO.bind ?_ (fun _ => ?_)
theorem hinterlandref17_leave.mono : ∀ a0 a1 a2 a3 a4 a5 k, LeO (hinterlandref17_leave.f k a0 a1 a2 a3 a4 a5) (hinterlandref17_leave.f (k + 1) a0 a1 a2 a3 a4 a5) := by
 intro a0 a1 a2 a3 a4 a5 k
 have ih0:=hinterlandref17_leave.mono_l k
 unfold hinterlandref17_leave.f
 repeat' first
   | (with_reducible exact ih0 _ _ _ _ _ _ _ _)
   | (with_reducible exact hinterlandref17_joined.mono _ _ _ _ _ _ _)
   | (with_reducible exact LeO.refl _)
   | (with_reducible exact LeO.none _)
   | (with_reducible refine LeO.ite ?_ ?_)
   | (with_reducible refine LeO.bind ?_ (fun _ => ?_))
   | exact ih0 _ _ _ _ _ _ _ _
   | exact hinterlandref17_joined.mono _ _ _ _ _ _ _
   | exact LeO.none _
   | refine LeO.ite ?_ ?_
   | refine LeO.bind ?_ (fun _ => ?_)
set_option maxHeartbeats 8000000 in
set_option maxRecDepth 100000 in
theorem hinterlandref17_leave.calls (k : Nat) (a0_0 : Int) (a0_1 : Int) (A0_2 : Option Addr) (c0_2 : Nat) (l0_2 : List Int) (A0_3 : Option Addr) (c0_3 : Nat) (l0_3 : List Int) (a1 : Int) (a2 : Int) (r : List Int) (w : World) (hr0_2 : Kd.C (Kd.int .i64) w A0_2 l0_2.length l0_2) (hc0_2 : l0_2.length ≤ c0_2) (hr0_3 : Kd.C (Kd.int .i64) w A0_3 l0_3.length l0_3) (hc0_3 : l0_3.length ≤ c0_3) (h : hinterlandref17_leave.f k a0_0 a0_1 l0_2 l0_3 a1 a2 = some r) :
  Calls Try.prog 63 #[.agg #[.int .i64 a0_0,.int .i64 a0_1,.slice A0_2 l0_2.length c0_2,.slice A0_3 l0_3.length c0_3],.int .i64 a1,.int .i64 a2] w fun e w' => ∃ v0_ : Value,e = .returned (v0_) ∧ Kd.R (Kd.int .i64) 3 w' w.heap.size (fun _ => True) v0_ r ∧ Below w.heap.size w w':=by
 have hu24:=Try.underlying24
 have HR0_2:=Aside0.mk hr0_2
 have HC0_2:=Aside0.mk hc0_2
 clear hr0_2 hc0_2
 have HR0_3:=Aside0.mk hr0_3
 have HC0_3:=Aside0.mk hc0_3
 clear hr0_3 hc0_3
 have HB:=Aside0.mk (Below.refl w.heap.size w)
 have H : (hinterlandref17_leave.l0 k a1 a2 ([] : List Int) 0 a0_0 a0_1 l0_2 l0_3) = some r:=h
 clear h
 have H':=Aside0.mk H
 clear H
 go_enter Try.func63,Try.ntmps63
 go_wp2_with (first|((with_reducible refine gate_dst (N:=3) rfl ?_);refine box_ev (N:=3) (cs:=#[.int .i64 a0_0,.int .i64 a0_1,.slice A0_2 l0_2.length c0_2,.slice A0_3 l0_3.length c0_3]) (t:=24) ?_;intro gb175 hg w4 hbox hb;have BK175:=Aside0.mk (hbox);have GW175 : Aside0 (w.heap.size ≤ gb175):=gsz hg;have GE175:=GW175;replace HB:=hbs hb;clear hb hbox hg))
 go_loopg [7,8] k (fun kq v7 v8 w' => ∃ (x7_1 : List Int) (x8_1 : Int),v8 = .int .i64 x8_1 ∧ Aside0 (hinterlandref17_leave.l0 kq a1 a2 x7_1 x8_1 a0_0 a0_1 l0_2 l0_3 = some r) ∧ Aside0 (kq ≤ k) ∧ Aside0 (Kd.R (Kd.int .i64) 3 w' w.heap.size (fun _ => True) v7 x7_1) ∧ Aside0 (w'.heap[gb175]? = some (.cells #[.int .i64 a0_0,.int .i64 a0_1,(.slice A0_2 l0_2.length c0_2),(.slice A0_3 l0_3.length c0_3)] 24 (0,0))) ∧ Aside0 (Below w.heap.size w w'))
 case atStart => exact ⟨(([] : List Int)),(0),(by first|rfl|(simp;done)|(simp [*];done)),H',⟨Nat.le_refl _⟩,⟨nl_⟩,⟨blk_up BK175.out⟩,⟨hb_⟩⟩
 case round =>
  clear H'
  obtain ⟨x7_1,x8_1,rfl,HA,HK1,HO_7,BK175,HB⟩:=hrel
  cases gk with
  | zero => exact absurd HA.out (by simp [hinterlandref17_leave.l0])
  | succ k1 =>
   have H:=HA.out
   clear HA
   simp only [hinterlandref17_leave.l0] at H
   by_cases c5 : x8_1 < 4
   ·rw [if_pos c5] at H
    have c5b0 : decide (x8_1 < 4) = true:=decide_eq_true c5
    clear c5
    by_cases c6 : x8_1 = a2
    ·rw [if_pos c6] at H
     have c6b0:=bqt c6
     have c6b1:=bnf c6
     clear c6
     have H':=Aside0.mk H
     clear H
     go_wp2
     go_roundg k1
     case measure => have:=HK1.out;omega
     case rel => exact ⟨(x7_1),(wrap64 (x8_1 + 1)),(by first|rfl|(simp;done)|(simp [*];done)),H',⟨by have:=HK1.out;omega⟩,⟨Kd.R_up HO_7.out⟩,⟨blk_up BK175.out⟩,⟨hb_⟩⟩
    rw [if_neg c6] at H
    have c6b0:=bqf c6
    have c6b1:=bnt c6
    replace H:=Option.bind_eq_some_iff.mp H
    obtain ⟨t176,A70,H⟩:=H
    replace H : (if t176 = true then (if x7_1.length < 17592186044416 then (hinterlandref17_leave.l0 k1 a1 a2 (x7_1 ++ [x8_1]) (wrap64 (x8_1 + 1)) a0_0 a0_1 l0_2 l0_3) else (none)) else (hinterlandref17_leave.l0 k1 a1 a2 x7_1 (wrap64 (x8_1 + 1)) a0_0 a0_1 l0_2 l0_3)) = some r:=H
    have A7:=Aside0.mk A70
    clear A70
    by_cases c8 : t176 = true
    ·subst c8
     have H1 : (if x7_1.length < 17592186044416 then (hinterlandref17_leave.l0 k1 a1 a2 (x7_1 ++ [x8_1]) (wrap64 (x8_1 + 1)) a0_0 a0_1 l0_2 l0_3) else (none)) = some r:=by rw [if_pos rfl] at H;exact H
     clear H
     have H:=H1
     clear H1
     replace H:=ifp_ H;obtain ⟨c9,H⟩:=H
     have LMc9:=Aside0.mk c9
     clear c9
     obtain ⟨y177,hy177⟩ : ∃ y_ : List Int,y_ = (x7_1 ++ [x8_1]):=⟨_,rfl⟩
     replace H : (hinterlandref17_leave.l0 k1 a1 a2 y177 (wrap64 (x8_1 + 1)) a0_0 a0_1 l0_2 l0_3) = some r:=by first|(rw [hy177];with_reducible exact H)|(have H2_:=(Option.bind_some _ _).symm.trans H;rw [hy177];with_reducible exact H2_)|(have H2_:=(Option.bind_some _ _).symm.trans H;with_reducible exact H2_)|with_reducible exact H|(rw [hy177];exact H)|exact H
     have Ny177:=Aside0.mk hy177
     clear hy177
     have H':=Aside0.mk H
     clear H
     obtain ⟨_,_,_,_,_,_,_,_⟩:=cells4 BK175.out
     go_wp2_with (first|(go_at_call 84;(with_reducible refine (hinterlandref17_joined.calls k1 a0_0 a0_1 _ _ l0_2 _ _ l0_3 a1 x8_1 true _ ?_ ?_ ?_ ?_ A7.out).mono ?_);exact cq HR0_2;exact HC0_2.out;exact cq HR0_3;exact HC0_3.out;rintro e w11 ⟨rfl,hb⟩;replace HO_7:=rbw HO_7 hb;replace BK175:=bkb BK175 hb;replace HB:=hbs hb)|((with_reducible refine gate_builtin (b:=.append) (xs:=#[.tmp 22,.tmp 24]) rfl ?_);at_builtin;refine Kd.R_append (Kd.int .i64) (w0:=w) w.heap.size rfl (.tmp 22) (.tmp 24) 22 3 (.int .i64 0) 8 rfl Try.underlying22 info3 rfl (by decide) (by omega) u7 x7_1 x8_1 [.int .i64 x8_1] (fun _ => True) (fun _ => False) rfl rfl ?aP (fun _ hk => hk.elim) ?aF ?aO ?aB ?aS ?aL ?_;(case aP => exact rfl);(case aB => exact (hb_));(case aF => exact (fun _ _ => trivial));(case aO => exact (Kd.R_up HO_7.out));(case aS => exact (below_size (hb_)));(case aL => have:=LMc9.out;omega);intro v178 w12 ho hb hg hat;rw [← Ny177.out] at ho;have HO179:=Aside0.mk (ho);replace BK175:=Aside0.mk (blk_grown (blk_up BK175.out) hg (Kd.R_ne HO_7.out BK175.out (by decide)));replace HB:=Aside0.mk (hb);clear HO_7;clear ho hb hg hat))
     go_roundg k1
     case measure => have:=HK1.out;omega
     case rel => exact ⟨(y177),(wrap64 (x8_1 + 1)),(by first|rfl|(simp;done)|(simp [*];done)),H',⟨by have:=HK1.out;omega⟩,⟨Kd.R_up HO179.out⟩,⟨blk_up BK175.out⟩,⟨hb_⟩⟩
    ·replace c8:=Bool.eq_false_iff.mpr c8
     subst c8
     have H1 : (hinterlandref17_leave.l0 k1 a1 a2 x7_1 (wrap64 (x8_1 + 1)) a0_0 a0_1 l0_2 l0_3) = some r:=by rw [if_neg (show ¬ (false = true) by decide)] at H;exact H
     clear H
     have H:=H1
     clear H1
     have H':=Aside0.mk H
     clear H
     obtain ⟨_,_,_,_,_,_,_,_⟩:=cells4 BK175.out
     go_wp2_with (first|(go_at_call 84;(with_reducible refine (hinterlandref17_joined.calls k1 a0_0 a0_1 _ _ l0_2 _ _ l0_3 a1 x8_1 false _ ?_ ?_ ?_ ?_ A7.out).mono ?_);exact cq HR0_2;exact HC0_2.out;exact cq HR0_3;exact HC0_3.out;rintro e w14 ⟨rfl,hb⟩;replace HO_7:=rbw HO_7 hb;replace BK175:=bkb BK175 hb;replace HB:=hbs hb))
     go_roundg k1
     case measure => have:=HK1.out;omega
     case rel => exact ⟨(x7_1),(wrap64 (x8_1 + 1)),(by first|rfl|(simp;done)|(simp [*];done)),H',⟨by have:=HK1.out;omega⟩,⟨Kd.R_up HO_7.out⟩,⟨blk_up BK175.out⟩,⟨hb_⟩⟩
   rw [if_neg c5] at H
   have c5b0 : decide (x8_1 < 4) = false:=decide_eq_false c5
   clear c5
   by_cases c15 : (x7_1.length : Int) = 0
   rotate_left
   ·rw [if_neg c15] at H
    have c15b0:=bqf c15
    have c15b1:=bnt c15
    have c15b2 : ¬ (x7_1 = []):=fun h_ => c15 (by rw [h_];rfl)
    obtain rfl:=Option.some.inj H
    obtain ⟨Ao28,co28,eo28⟩:=Kd.R_slice HO_7.out
    subst eo28
    go_wp2
    go_ret
    exact ⟨_,er_,Kd.R_up HO_7.out,hb_⟩
   rw [if_pos c15] at H
   have c15b0:=bqt c15
   have c15b1:=bnf c15
   clear c15
   by_cases c16 : a2 ≥ 0
   rotate_left
   ·rw [if_neg c16] at H
    have c16b0 : decide (0 ≤ a2) = false:=decide_eq_false c16
    clear c16
    obtain rfl:=Option.some.inj H
    obtain ⟨Ao27,co27,eo27⟩:=Kd.R_slice HO_7.out
    subst eo27
    go_wp2
    go_ret
    exact ⟨_,er_,Kd.R_up HO_7.out,hb_⟩
   rw [if_pos c16] at H
   have c16b0 : decide (0 ≤ a2) = true:=decide_eq_true c16
   clear c16
   replace H:=Option.bind_eq_some_iff.mp H
   obtain ⟨t180,A170,H⟩:=H
   replace H : (if t180 = true then (if x7_1.length < 17592186044416 then (some (x7_1 ++ [a2])) else (none)) else (some x7_1)) = some r:=H
   have A17:=Aside0.mk A170
   clear A170
   by_cases c18 : t180 = true
   ·subst c18
    have H1 : (if x7_1.length < 17592186044416 then (some (x7_1 ++ [a2])) else (none)) = some r:=by rw [if_pos rfl] at H;exact H
    clear H
    have H:=H1
    clear H1
    replace H:=ifp_ H;obtain ⟨c19,H⟩:=H
    have LMc19:=Aside0.mk c19
    clear c19
    obtain ⟨y181,hy181⟩ : ∃ y_ : List Int,y_ = (x7_1 ++ [a2]):=⟨_,rfl⟩
    replace H : (some y181) = some r:=by first|(rw [hy181];with_reducible exact H)|(have H2_:=(Option.bind_some _ _).symm.trans H;rw [hy181];with_reducible exact H2_)|(have H2_:=(Option.bind_some _ _).symm.trans H;with_reducible exact H2_)|with_reducible exact H|(rw [hy181];exact H)|exact H
    have Ny181:=Aside0.mk hy181
    clear hy181
    obtain rfl:=Option.some.inj H
    obtain ⟨Ao20,co20,eo20⟩:=Kd.R_slice HO_7.out
    subst eo20
    obtain ⟨_,_,_,_,_,_,_,_⟩:=cells4 BK175.out
    go_wp2_with (first|(go_at_call 84;(with_reducible refine (hinterlandref17_joined.calls k1 a0_0 a0_1 _ _ l0_2 _ _ l0_3 a1 a2 true _ ?_ ?_ ?_ ?_ A17.out).mono ?_);exact cq HR0_2;exact HC0_2.out;exact cq HR0_3;exact HC0_3.out;rintro e w22 ⟨rfl,hb⟩;replace HO_7:=rbw HO_7 hb;replace BK175:=bkb BK175 hb;replace HB:=hbs hb)|((with_reducible refine gate_builtin (b:=.append) (xs:=#[.tmp 39,.tmp 41]) rfl ?_);at_builtin;refine Kd.R_append (Kd.int .i64) (w0:=w) w.heap.size rfl (.tmp 39) (.tmp 41) 22 3 (.int .i64 0) 8 rfl Try.underlying22 info3 rfl (by decide) (by omega) (.slice Ao20 x7_1.length co20) x7_1 a2 [.int .i64 a2] (fun _ => True) (fun _ => False) rfl rfl ?aP (fun _ hk => hk.elim) ?aF ?aO ?aB ?aS ?aL ?_;(case aP => exact rfl);(case aB => exact (hb_));(case aF => exact (fun _ _ => trivial));(case aO => exact (Kd.R_up HO_7.out));(case aS => exact (below_size (hb_)));(case aL => have:=LMc19.out;omega);intro v182 w23 ho hb hg hat;rw [← Ny181.out] at ho;have HO183:=Aside0.mk (ho);replace BK175:=Aside0.mk (blk_grown (blk_up BK175.out) hg (Kd.R_ne HO_7.out BK175.out (by decide)));replace HB:=Aside0.mk (hb);clear HO_7;clear ho hb hg hat))
    go_ret
    exact ⟨_,er_,Kd.R_up HO183.out,hb_⟩
   ·replace c18:=Bool.eq_false_iff.mpr c18
    subst c18
    have H1 : (some x7_1) = some r:=by rw [if_neg (show ¬ (false = true) by decide)] at H;exact H
    clear H
    have H:=H1
    clear H1
    obtain rfl:=Option.some.inj H
    obtain ⟨Ao24,co24,eo24⟩:=Kd.R_slice HO_7.out
    subst eo24
    obtain ⟨_,_,_,_,_,_,_,_⟩:=cells4 BK175.out
    go_wp2_with (first|(go_at_call 84;(with_reducible refine (hinterlandref17_joined.calls k1 a0_0 a0_1 _ _ l0_2 _ _ l0_3 a1 a2 false _ ?_ ?_ ?_ ?_ A17.out).mono ?_);exact cq HR0_2;exact HC0_2.out;exact cq HR0_3;exact HC0_3.out;rintro e w26 ⟨rfl,hb⟩;replace HO_7:=rbw HO_7 hb;replace BK175:=bkb BK175 hb;replace HB:=hbs hb))
    go_ret
    exact ⟨_,er_,Kd.R_up HO_7.out,hb_⟩

end Go.Proofs.Ythjmdpekcleihaa.P

/- Functions of this seat as plain Lean functions, with proofs that the Go code comes to just their answers, or what stands between them and a law's statement; no conditions. (Laid by a program of this session, out of the kit's print.) -/
import Derived.Test.YthjmdpekcleihaaPx0
import Derived.Test.YthjmdpekcleihaaPx8
import Derived.Test.YthjmdpekcleihaaPx10
import Derived.Test.YthjmdpekcleihaaPx11
namespace Go.Proofs.Ythjmdpekcleihaa.P
open Go.RowKit Go.Proofs.YthjmdpekcleihaaW.PrintWords Go.Proofs.YthjmdpekcleihaaW.PrintLast Go.Proofs.YthjmdpekcleihaaW.PrintMore
attribute [local go_sem] max2_int min2_int max_two min_two max_three min_three max_four min_four   -- for this text's walks alone
set_option linter.unusedVariables false
set_option linter.unusedSimpArgs false

/-! ### hinterlandref17_choose: function 35 -/
def hinterlandref17_choose.l0 : Nat → Int → Int → List Int → Int → Int → Int → Int → Int → List Int → List Int → Option (Int × Bool)
 | 0,_,_,_,_,_,_,_,_,_,_ => none
 | k + 1,x1,x3,x10,x11,x12,x13,x210000,x210001,x210002,x210003 => if x13 < (x10.length : Int) then (if 0 ≤ x13 then ((hinterlandref17_far.f k x210000 x210001 x210002 x210003 x1 (rd x10 x13) x3).bind fun t215 => (if t215 ≥ 0 then (if x12 < 0 then (hinterlandref17_choose.l0 k x1 x3 x10 (rd x10 x13) t215 (wrap64 (x13 + 1)) x210000 x210001 x210002 x210003) else (if t215 < x12 then (hinterlandref17_choose.l0 k x1 x3 x10 (rd x10 x13) t215 (wrap64 (x13 + 1)) x210000 x210001 x210002 x210003) else (hinterlandref17_choose.l0 k x1 x3 x10 x11 x12 (wrap64 (x13 + 1)) x210000 x210001 x210002 x210003))) else (hinterlandref17_choose.l0 k x1 x3 x10 x11 x12 (wrap64 (x13 + 1)) x210000 x210001 x210002 x210003))) else (none)) else (some (x11,true))
def hinterlandref17_choose.f (k : Nat) (a0_0 : Int) (a0_1 : Int) (l0_2 : List Int) (l0_3 : List Int) (a1 : Int) (a2 : Int) (a3 : Int) : Option (Int × Bool) := (hinterlandref17_leave.f k a0_0 a0_1 l0_2 l0_3 a1 a2).bind fun t210 => (if (t210.length : Int) = 0 then (some (0, false)) else (if 0 < (t210.length : Int) then (hinterlandref17_choose.l0 k a1 a3 t210 (rd t210 0) (-1) 0 a0_0 a0_1 l0_2 l0_3) else (none)))
theorem hinterlandref17_choose.mono_l : ∀ k, (∀ y0 y1 y2 y3 y4 y5 y6 y7 y8 y9, LeO (hinterlandref17_choose.l0 k y0 y1 y2 y3 y4 y5 y6 y7 y8 y9) (hinterlandref17_choose.l0 (k + 1) y0 y1 y2 y3 y4 y5 y6 y7 y8 y9))
 | 0 => fun _ _ _ _ _ _ _ _ _ _ r h => by simp [hinterlandref17_choose.l0] at h
 | k + 1 => by
  have ih0:=hinterlandref17_choose.mono_l k
  ·intro y0 y1 y2 y3 y4 y5 y6 y7 y8 y9
   unfold hinterlandref17_choose.l0
   repeat' first
   | (with_reducible exact ih0 _ _ _ _ _ _ _ _ _ _)
   | (with_reducible exact hinterlandref17_far.mono _ _ _ _ _ _ _ _)
   | (with_reducible exact hinterlandref17_leave.mono _ _ _ _ _ _ _)
   | (with_reducible exact LeO.refl _)
   | (with_reducible exact LeO.none _)
   | (with_reducible refine LeO.ite ?_ ?_)
   | (with_reducible refine LeO.bind ?_ (fun _ => ?_))
   | exact ih0 _ _ _ _ _ _ _ _ _ _
   | exact hinterlandref17_far.mono _ _ _ _ _ _ _ _
   | exact hinterlandref17_leave.mono _ _ _ _ _ _ _
   | exact LeO.none _
   | refine LeO.ite ?_ ?_
   | refine LeO.bind ?_ (fun _ => ?_)
theorem hinterlandref17_choose.mono : ∀ a0 a1 a2 a3 a4 a5 a6 k, LeO (hinterlandref17_choose.f k a0 a1 a2 a3 a4 a5 a6) (hinterlandref17_choose.f (k + 1) a0 a1 a2 a3 a4 a5 a6) := by
 intro a0 a1 a2 a3 a4 a5 a6 k
 have ih0:=hinterlandref17_choose.mono_l k
 unfold hinterlandref17_choose.f
 repeat' first
   | (with_reducible exact ih0 _ _ _ _ _ _ _ _ _ _)
   | (with_reducible exact hinterlandref17_far.mono _ _ _ _ _ _ _ _)
   | (with_reducible exact hinterlandref17_leave.mono _ _ _ _ _ _ _)
   | (with_reducible exact LeO.refl _)
   | (with_reducible exact LeO.none _)
   | (with_reducible refine LeO.ite ?_ ?_)
   | (with_reducible refine LeO.bind ?_ (fun _ => ?_))
   | exact ih0 _ _ _ _ _ _ _ _ _ _
   | exact hinterlandref17_far.mono _ _ _ _ _ _ _ _
   | exact hinterlandref17_leave.mono _ _ _ _ _ _ _
   | exact LeO.none _
   | refine LeO.ite ?_ ?_
   | refine LeO.bind ?_ (fun _ => ?_)
def hinterlandref17_choose.T8 : Bool × List (List Nat × List Nat) := (true, [([], []), ([], []), ([], []), ([], []), ([2, 3], [2, 3]), ([4], [4]), ([], []), ([0, 1, 5, 6], [0, 1, 5, 6]), ([7, 7, 0, 1, 2, 3, 4, 5, 6, 7], [7])])
def hinterlandref17_choose.B8 : List Nat := [0, 0, 0, 0, 12, 28, 0, 127, 255]
theorem hinterlandref17_choose.tab8 : rtab .any (opsOf Try.f35 8) = hinterlandref17_choose.T8 := by kernel_rfl
theorem hinterlandref17_choose.bits8 : waitsOk hinterlandref17_choose.T8.2 hinterlandref17_choose.B8 = true := by kernel_rfl
set_option maxHeartbeats 8000000 in
set_option maxRecDepth 100000 in
theorem hinterlandref17_choose.calls (k : Nat) (a0_0 : Int) (a0_1 : Int) (A0_2 : Option Addr) (c0_2 : Nat) (l0_2 : List Int) (A0_3 : Option Addr) (c0_3 : Nat) (l0_3 : List Int) (a1 : Int) (a2 : Int) (a3 : Int) (r1 : Int) (r2 : Bool) (w : World) (hr0_2 : Kd.C (Kd.int .i64) w A0_2 l0_2.length l0_2) (hc0_2 : l0_2.length ≤ c0_2) (hr0_3 : Kd.C (Kd.int .i64) w A0_3 l0_3.length l0_3) (hc0_3 : l0_3.length ≤ c0_3) (h : hinterlandref17_choose.f k a0_0 a0_1 l0_2 l0_3 a1 a2 a3 = some (r1, r2)) :
  Calls Try.prog 35 #[.agg #[.int .i64 a0_0,.int .i64 a0_1,.slice A0_2 l0_2.length c0_2,.slice A0_3 l0_3.length c0_3],.int .i64 a1,.int .i64 a2,.int .i64 a3] w fun e w' => e = .returned (.tuple #[.int .i64 r1,.bool r2]) ∧ Below w.heap.size w w':=by
 have hu24:=Try.underlying24
 have HR0_2:=Aside0.mk hr0_2
 have HC0_2:=Aside0.mk hc0_2
 clear hr0_2 hc0_2
 have HR0_3:=Aside0.mk hr0_3
 have HC0_3:=Aside0.mk hc0_3
 clear hr0_3 hc0_3
 have HB:=Aside0.mk (Below.refl w.heap.size w)
 have H : ((hinterlandref17_leave.f k a0_0 a0_1 l0_2 l0_3 a1 a2).bind fun t210 => (if (t210.length : Int) = 0 then (some (0,false)) else (if 0 < (t210.length : Int) then (hinterlandref17_choose.l0 k a1 a3 t210 (rd t210 0) (-1) 0 a0_0 a0_1 l0_2 l0_3) else (none)))) = some (r1,r2):=h
 clear h
 replace H:=Option.bind_eq_some_iff.mp H
 obtain ⟨t210,A50,H⟩:=H
 replace H : (if (t210.length : Int) = 0 then (some (0,false)) else (if 0 < (t210.length : Int) then (hinterlandref17_choose.l0 k a1 a3 t210 (rd t210 0) (-1) 0 a0_0 a0_1 l0_2 l0_3) else (none))) = some (r1,r2):=H
 have A5:=Aside0.mk A50
 clear A50
 by_cases c6 : (t210.length : Int) = 0
 ·rw [if_pos c6] at H
  have c6b0:=bqt c6
  have c6b1:=bnf c6
  clear c6
  simp only [Option.some.injEq,Prod.mk.injEq] at H
  obtain ⟨rfl,rfl⟩:=H
  go_enter Try.func35,Try.ntmps35
  go_wp2_with (first|((with_reducible refine gate_dst (N:=4) rfl ?_);refine box_ev (N:=4) (cs:=#[.int .i64 a0_0,.int .i64 a0_1,.slice A0_2 l0_2.length c0_2,.slice A0_3 l0_3.length c0_3]) (t:=24) ?_;intro gb209 hg w7 hbox hb;have BK209:=Aside0.mk (hbox);have GW209 : Aside0 (w.heap.size ≤ gb209):=gsz hg;have GE209:=GW209;replace HB:=hbs hb;clear hb hbox hg;obtain ⟨_,_,_,_,_,_,_,_⟩:=cells4 BK209.out)|((with_reducible refine gate_callee (f:=63) rfl ?_);refine goesL_ (some 18) rfl rfl Try.func63 (by kernel_rfl) rfl #[.agg #[.int .i64 a0_0,.int .i64 a0_1,.slice A0_2 l0_2.length c0_2,.slice A0_3 l0_3.length c0_3],.int .i64 a1,.int .i64 a2] rfl ga_ ?_;(with_reducible refine (hinterlandref17_leave.calls k a0_0 a0_1 _ _ l0_2 _ _ l0_3 a1 a2 t210 _ ?_ ?_ ?_ ?_ A5.out).mono ?_);exact cq HR0_2;exact HC0_2.out;exact cq HR0_3;exact HC0_3.out;rintro e w9 ⟨v211,rfl,ho0,hb⟩;refine ⟨_,rfl,?_⟩;have HO212:=rlo ho0;replace BK209:=bkb BK209 hb;replace HB:=hbs hb;obtain ⟨Ao10,co10,eo10⟩:=Kd.R_slice HO212.out;subst eo10))
  go_ret2
  exact ⟨er_,hb_⟩
 rw [if_neg c6] at H
 have c6b0:=bqf c6
 have c6b1:=bnt c6
 have c6b2 : ¬ (t210 = []):=fun h_ => c6 (by rw [h_];rfl)
 replace H:=ifp_ H;obtain ⟨c11,H⟩:=H
 have c11b0 : decide (0 < (t210.length : Int)) = true:=decide_eq_true c11
 have c11b1 : decide (0 < t210.length) = true:=decide_eq_true (by omega)
 clear c11
 have H':=Aside0.mk H
 clear H
 go_enter Try.func35,Try.ntmps35
 go_wp2_with (first|((with_reducible refine gate_dst (N:=4) rfl ?_);refine box_ev (N:=4) (cs:=#[.int .i64 a0_0,.int .i64 a0_1,.slice A0_2 l0_2.length c0_2,.slice A0_3 l0_3.length c0_3]) (t:=24) ?_;intro gb209 hg w12 hbox hb;have BK209:=Aside0.mk (hbox);have GW209 : Aside0 (w.heap.size ≤ gb209):=gsz hg;have GE209:=GW209;replace HB:=hbs hb;clear hb hbox hg;obtain ⟨_,_,_,_,_,_,_,_⟩:=cells4 BK209.out)|((with_reducible refine gate_callee (f:=63) rfl ?_);refine goesL_ (some 18) rfl rfl Try.func63 (by kernel_rfl) rfl #[.agg #[.int .i64 a0_0,.int .i64 a0_1,.slice A0_2 l0_2.length c0_2,.slice A0_3 l0_3.length c0_3],.int .i64 a1,.int .i64 a2] rfl ga_ ?_;(with_reducible refine (hinterlandref17_leave.calls k a0_0 a0_1 _ _ l0_2 _ _ l0_3 a1 a2 t210 _ ?_ ?_ ?_ ?_ A5.out).mono ?_);exact cq HR0_2;exact HC0_2.out;exact cq HR0_3;exact HC0_3.out;rintro e w14 ⟨v211,rfl,ho0,hb⟩;refine ⟨_,rfl,?_⟩;have HO212:=rlo ho0;replace BK209:=bkb BK209 hb;replace HB:=hbs hb;obtain ⟨Ao15,co15,eo15⟩:=Kd.R_slice HO212.out;subst eo15;have p213 : 0 ≤ (0 : Int):=(by omega);have q213 : 0 < (t210.length : Int):=of_decide_eq_true (by first|(with_reducible assumption)|assumption);obtain ⟨ad213,e213,hx213_0⟩:=Kd.at_int (Kd.R_reads' HO212.out).2.2 0 p213 q213;cases e213;have qi213 : (0 < t210.length) = True:=eq_true (by omega);(try rw [show ((0 : Int)).toNat = 0 from rfl] at hx213_0);(try rw [Addr.add_zero'] at hx213_0);replace p213:=eq_true p213;replace q213:=eq_true q213))
 go_loopg [11,12,13] k (fun kq v11 v12 v13 w' => ∃ (x11_1 : Int) (x12_1 : Int) (x13_1 : Int),v11 = .int .i64 x11_1 ∧ v12 = .int .i64 x12_1 ∧ v13 = .int .i64 x13_1 ∧ Aside0 (hinterlandref17_choose.l0 kq a1 a3 t210 x11_1 x12_1 x13_1 a0_0 a0_1 l0_2 l0_3 = some (r1,r2)) ∧ Aside0 (kq ≤ k) ∧ Aside0 (Kd.R (Kd.int .i64) 3 w' w.heap.size (fun _ => True) (.slice (some ad213) t210.length co15) t210) ∧ Aside0 (w'.heap[gb209]? = some (.cells #[.int .i64 a0_0,.int .i64 a0_1,(.slice A0_2 l0_2.length c0_2),(.slice A0_3 l0_3.length c0_3)] 24 (0,0))) ∧ Aside0 (Below w.heap.size w w'))
 case atStart => exact ⟨(rd t210 0),((-1)),(0),(by first|rfl|(simp;done)|(simp [*];done)),(by first|rfl|(simp;done)|(simp [*];done)),(by first|rfl|(simp;done)|(simp [*];done)),H',⟨Nat.le_refl _⟩,⟨Kd.R_up HO212.out⟩,⟨blk_up BK209.out⟩,⟨hb_⟩⟩
 case round =>
  clear H'
  obtain ⟨x11_1,x12_1,x13_1,rfl,rfl,rfl,HA,HK1,HO_10,BK209,HB⟩:=hrel
  cases gk with
  | zero => exact absurd HA.out (by simp [hinterlandref17_choose.l0])
  | succ k1 =>
   have H:=HA.out
   clear HA
   simp only [hinterlandref17_choose.l0] at H
   by_cases c16 : x13_1 < (t210.length : Int)
   rotate_left
   ·rw [if_neg c16] at H
    have c16b0 : decide (x13_1 < (t210.length : Int)) = false:=decide_eq_false c16
    clear c16
    simp only [Option.some.injEq,Prod.mk.injEq] at H
    obtain ⟨rfl,rfl⟩:=H
    go_wp2
    go_ret2
    exact ⟨er_,hb_⟩
   rw [if_pos c16] at H
   have c16b0 : decide (x13_1 < (t210.length : Int)) = true:=decide_eq_true c16
   clear c16
   replace H:=ifp_ H;obtain ⟨c17,H⟩:=H
   have c17b0 : decide (0 ≤ x13_1) = true:=decide_eq_true c17
   clear c17
   replace H:=Option.bind_eq_some_iff.mp H
   obtain ⟨t215,A180,H⟩:=H
   replace H : (if t215 ≥ 0 then (if x12_1 < 0 then (hinterlandref17_choose.l0 k1 a1 a3 t210 (rd t210 x13_1) t215 (wrap64 (x13_1 + 1)) a0_0 a0_1 l0_2 l0_3) else (if t215 < x12_1 then (hinterlandref17_choose.l0 k1 a1 a3 t210 (rd t210 x13_1) t215 (wrap64 (x13_1 + 1)) a0_0 a0_1 l0_2 l0_3) else (hinterlandref17_choose.l0 k1 a1 a3 t210 x11_1 x12_1 (wrap64 (x13_1 + 1)) a0_0 a0_1 l0_2 l0_3))) else (hinterlandref17_choose.l0 k1 a1 a3 t210 x11_1 x12_1 (wrap64 (x13_1 + 1)) a0_0 a0_1 l0_2 l0_3)) = some (r1,r2):=H
   have A18:=Aside0.mk A180
   clear A180
   by_cases c19 : t215 ≥ 0
   rotate_left
   ·rw [if_neg c19] at H
    have c19b0 : decide (0 ≤ t215) = false:=decide_eq_false c19
    clear c19
    have H':=Aside0.mk H
    clear H
    try go_wp2
    replace HO_10:=Aside0.mk (Kd.R_drew HO_10.out)
    replace BK209:=Aside0.mk (blk_drew BK209.out)
    replace HB:=Aside0.mk (below_drew1 HB.out)
    have p214 : 0 ≤ (x13_1 : Int):=of_decide_eq_true (by first|(with_reducible assumption)|assumption)
    have q214 : x13_1 < (t210.length : Int):=of_decide_eq_true (by first|(with_reducible assumption)|assumption)
    obtain ⟨ad214,e214,hx214_0⟩:=Kd.at_int (Kd.R_reads' HO_10.out).2.2 x13_1 p214 q214
    obtain rfl : ad213 = ad214:=(by injection e214)
    replace p214:=eq_true p214
    replace q214:=eq_true q214
    refine start_ (n:=9) (S:=fun w' => w'.cell? ⟨gb209,0,none⟩ = some (.int .i64 a0_0) ∧ w'.cell? ⟨gb209,1,none⟩ = some (.int .i64 a0_1) ∧ w'.cell? ⟨gb209,2,none⟩ = some (.slice A0_2 l0_2.length c0_2) ∧ w'.cell? ⟨gb209,3,none⟩ = some (.slice A0_3 l0_3.length c0_3) ∧ w'.cell? (ad213.add (x13_1).toNat) = some (.int .i64 (rd t210 x13_1))) (ds:=[]) #[false,false,false,false,false,false,false,false,false] (by kernel_rfl) rfl rfl ⟨(blk_cell BK209.out 0).trans rfl,(blk_cell BK209.out 1).trans rfl,(blk_cell BK209.out 2).trans rfl,(blk_cell BK209.out 3).trans rfl,hx214_0⟩ (fun hHeld => ?_);refine with_tabW hinterlandref17_choose.tab8 hinterlandref17_choose.bits8 (fun HT_ HW_ => ?_)
    generalize wr.drew = w28 at HO_10 BK209 HB hx214_0 hHeld ⊢
    refine pI 1 (some 32) ?_
    refine pI 2 (some 33) ?_
    refine pI 3 (some 34) ?_
    refine pI 4 (some 35) ?_
    refine pI 6 (some 37) ?_
    refine tI5 0 (some 31) hHeld ?_
    refine tI5 5 (some 36) hHeld ?_
    refine oI 7 (some 38) (fun K hK => ?_)
    refine goes_ Try.func64 (by kernel_rfl) rfl #[.agg #[.int .i64 a0_0,.int .i64 a0_1,.slice A0_2 l0_2.length c0_2,.slice A0_3 l0_3.length c0_3],.int .i64 a1,.int .i64 (rd t210 x13_1),.int .i64 a3] (by rfl) rfl rfl ga_ ?_
    with_reducible refine (hinterlandref17_far.calls k1 a0_0 a0_1 _ _ l0_2 _ _ l0_3 a1 (rd t210 x13_1) a3 t215 _ ?side1 ?side2 ?side3 ?side4 A18.out).mono ?_
    (case side1 => exact cq HR0_2)
    (case side2 => exact HC0_2.out)
    (case side3 => exact cq HR0_3)
    (case side4 => exact HC0_3.out)
    rintro e w29 ⟨rfl,hb⟩
    have HS4_:=(hb.cell (World.block_lt_of_cell? _ _ (hHeld.2.2.2.2))).trans (hHeld.2.2.2.2)
    refine ⟨_,rfl,?_⟩
    have n0_:=rbw HO_10 hb
    have n1_:=bkb BK209 hb
    have n2_:=Aside0.mk (below_step (hb_) hb)
    clear HO_10
    clear BK209
    clear HB
    have HO_10:=n0_
    have BK209:=n1_
    have HB:=n2_
    clear n0_ n1_ n2_
    (try clear hb)
    (try clear hb2)
    (try clear hk)
    (try clear hi)
    refine hK.out _ _ ⟨(blk_cell BK209.out 0).trans rfl,(blk_cell BK209.out 1).trans rfl,(blk_cell BK209.out 2).trans rfl,(blk_cell BK209.out 3).trans rfl,HS4_⟩ (fun hHeld => ?_)
    clear hK K
    refine norm_ (a':=?_) ?_ ?_
    rotate_left
    ·show Act.put _ (some 38) _ = _
     simp only [Act.put,List.setIfInBounds_toArray,List.set_cons_zero,List.set_cons_succ,i64_w,i32_w]
     rfl
    refine pI 8 (some 14) ?_
    refine done_ (done_of HT_.out (by kernel_rfl)) ?_
    try go_wp2
    go_roundg k1
    case measure => have:=HK1.out;omega
    case rel => exact ⟨(x11_1),(x12_1),(wrap64 (x13_1 + 1)),(by first|rfl|(simp;done)|(simp [*];done)),(by first|rfl|(simp;done)|(simp [*];done)),(by first|rfl|(simp;done)|(simp [*];done)),H',⟨by have:=HK1.out;omega⟩,⟨Kd.R_up HO_10.out⟩,⟨blk_up BK209.out⟩,⟨hb_⟩⟩
   rw [if_pos c19] at H
   have c19b0 : decide (0 ≤ t215) = true:=decide_eq_true c19
   clear c19
   by_cases c20 : x12_1 < 0
   ·rw [if_pos c20] at H
    have c20b0 : decide (x12_1 < 0) = true:=decide_eq_true c20
    clear c20
    have H':=Aside0.mk H
    clear H
    try go_wp2
    replace HO_10:=Aside0.mk (Kd.R_drew HO_10.out)
    replace BK209:=Aside0.mk (blk_drew BK209.out)
    replace HB:=Aside0.mk (below_drew1 HB.out)
    have p214 : 0 ≤ (x13_1 : Int):=of_decide_eq_true (by first|(with_reducible assumption)|assumption)
    have q214 : x13_1 < (t210.length : Int):=of_decide_eq_true (by first|(with_reducible assumption)|assumption)
    obtain ⟨ad214,e214,hx214_0⟩:=Kd.at_int (Kd.R_reads' HO_10.out).2.2 x13_1 p214 q214
    obtain rfl : ad213 = ad214:=(by injection e214)
    replace p214:=eq_true p214
    replace q214:=eq_true q214
    refine start_ (n:=9) (S:=fun w' => w'.cell? ⟨gb209,0,none⟩ = some (.int .i64 a0_0) ∧ w'.cell? ⟨gb209,1,none⟩ = some (.int .i64 a0_1) ∧ w'.cell? ⟨gb209,2,none⟩ = some (.slice A0_2 l0_2.length c0_2) ∧ w'.cell? ⟨gb209,3,none⟩ = some (.slice A0_3 l0_3.length c0_3) ∧ w'.cell? (ad213.add (x13_1).toNat) = some (.int .i64 (rd t210 x13_1))) (ds:=[]) #[false,false,false,false,false,false,false,false,false] (by kernel_rfl) rfl rfl ⟨(blk_cell BK209.out 0).trans rfl,(blk_cell BK209.out 1).trans rfl,(blk_cell BK209.out 2).trans rfl,(blk_cell BK209.out 3).trans rfl,hx214_0⟩ (fun hHeld => ?_);refine with_tabW hinterlandref17_choose.tab8 hinterlandref17_choose.bits8 (fun HT_ HW_ => ?_)
    generalize wr.drew = w21 at HO_10 BK209 HB hx214_0 hHeld ⊢
    refine pI 1 (some 32) ?_
    refine pI 2 (some 33) ?_
    refine pI 3 (some 34) ?_
    refine pI 4 (some 35) ?_
    refine pI 6 (some 37) ?_
    refine tI5 0 (some 31) hHeld ?_
    refine tI5 5 (some 36) hHeld ?_
    refine oI 7 (some 38) (fun K hK => ?_)
    refine goes_ Try.func64 (by kernel_rfl) rfl #[.agg #[.int .i64 a0_0,.int .i64 a0_1,.slice A0_2 l0_2.length c0_2,.slice A0_3 l0_3.length c0_3],.int .i64 a1,.int .i64 (rd t210 x13_1),.int .i64 a3] (by rfl) rfl rfl ga_ ?_
    with_reducible refine (hinterlandref17_far.calls k1 a0_0 a0_1 _ _ l0_2 _ _ l0_3 a1 (rd t210 x13_1) a3 t215 _ ?side1 ?side2 ?side3 ?side4 A18.out).mono ?_
    (case side1 => exact cq HR0_2)
    (case side2 => exact HC0_2.out)
    (case side3 => exact cq HR0_3)
    (case side4 => exact HC0_3.out)
    rintro e w22 ⟨rfl,hb⟩
    have HS4_:=(hb.cell (World.block_lt_of_cell? _ _ (hHeld.2.2.2.2))).trans (hHeld.2.2.2.2)
    refine ⟨_,rfl,?_⟩
    have n0_:=rbw HO_10 hb
    have n1_:=bkb BK209 hb
    have n2_:=Aside0.mk (below_step (hb_) hb)
    clear HO_10
    clear BK209
    clear HB
    have HO_10:=n0_
    have BK209:=n1_
    have HB:=n2_
    clear n0_ n1_ n2_
    (try clear hb)
    (try clear hb2)
    (try clear hk)
    (try clear hi)
    refine hK.out _ _ ⟨(blk_cell BK209.out 0).trans rfl,(blk_cell BK209.out 1).trans rfl,(blk_cell BK209.out 2).trans rfl,(blk_cell BK209.out 3).trans rfl,HS4_⟩ (fun hHeld => ?_)
    clear hK K
    refine norm_ (a':=?_) ?_ ?_
    rotate_left
    ·show Act.put _ (some 38) _ = _
     simp only [Act.put,List.setIfInBounds_toArray,List.set_cons_zero,List.set_cons_succ,i64_w,i32_w]
     rfl
    refine pI 8 (some 14) ?_
    refine done_ (done_of HT_.out (by kernel_rfl)) ?_
    have p216 : 0 ≤ (x13_1 : Int):=of_decide_eq_true (by first|(with_reducible assumption)|assumption)
    have q216 : x13_1 < (t210.length : Int):=of_decide_eq_true (by first|(with_reducible assumption)|assumption)
    obtain ⟨ad216,e216,hx216_0⟩:=Kd.at_int (Kd.R_reads' HO_10.out).2.2 x13_1 p216 q216
    obtain rfl : ad213 = ad216:=(by injection e216)
    replace p216:=eq_true p216
    replace q216:=eq_true q216
    try go_wp2
    go_roundg k1
    case measure => have:=HK1.out;omega
    case rel => exact ⟨(rd t210 x13_1),(t215),(wrap64 (x13_1 + 1)),(by first|rfl|(simp;done)|(simp [*];done)),(by first|rfl|(simp;done)|(simp [*];done)),(by first|rfl|(simp;done)|(simp [*];done)),H',⟨by have:=HK1.out;omega⟩,⟨Kd.R_up HO_10.out⟩,⟨blk_up BK209.out⟩,⟨hb_⟩⟩
   rw [if_neg c20] at H
   have c20b0 : decide (x12_1 < 0) = false:=decide_eq_false c20
   clear c20
   by_cases c23 : t215 < x12_1
   rotate_left
   ·rw [if_neg c23] at H
    have c23b0 : decide (t215 < x12_1) = false:=decide_eq_false c23
    clear c23
    have H':=Aside0.mk H
    clear H
    try go_wp2
    replace HO_10:=Aside0.mk (Kd.R_drew HO_10.out)
    replace BK209:=Aside0.mk (blk_drew BK209.out)
    replace HB:=Aside0.mk (below_drew1 HB.out)
    have p214 : 0 ≤ (x13_1 : Int):=of_decide_eq_true (by first|(with_reducible assumption)|assumption)
    have q214 : x13_1 < (t210.length : Int):=of_decide_eq_true (by first|(with_reducible assumption)|assumption)
    obtain ⟨ad214,e214,hx214_0⟩:=Kd.at_int (Kd.R_reads' HO_10.out).2.2 x13_1 p214 q214
    obtain rfl : ad213 = ad214:=(by injection e214)
    replace p214:=eq_true p214
    replace q214:=eq_true q214
    refine start_ (n:=9) (S:=fun w' => w'.cell? ⟨gb209,0,none⟩ = some (.int .i64 a0_0) ∧ w'.cell? ⟨gb209,1,none⟩ = some (.int .i64 a0_1) ∧ w'.cell? ⟨gb209,2,none⟩ = some (.slice A0_2 l0_2.length c0_2) ∧ w'.cell? ⟨gb209,3,none⟩ = some (.slice A0_3 l0_3.length c0_3) ∧ w'.cell? (ad213.add (x13_1).toNat) = some (.int .i64 (rd t210 x13_1))) (ds:=[]) #[false,false,false,false,false,false,false,false,false] (by kernel_rfl) rfl rfl ⟨(blk_cell BK209.out 0).trans rfl,(blk_cell BK209.out 1).trans rfl,(blk_cell BK209.out 2).trans rfl,(blk_cell BK209.out 3).trans rfl,hx214_0⟩ (fun hHeld => ?_);refine with_tabW hinterlandref17_choose.tab8 hinterlandref17_choose.bits8 (fun HT_ HW_ => ?_)
    generalize wr.drew = w26 at HO_10 BK209 HB hx214_0 hHeld ⊢
    refine pI 1 (some 32) ?_
    refine pI 2 (some 33) ?_
    refine pI 3 (some 34) ?_
    refine pI 4 (some 35) ?_
    refine pI 6 (some 37) ?_
    refine tI5 0 (some 31) hHeld ?_
    refine tI5 5 (some 36) hHeld ?_
    refine oI 7 (some 38) (fun K hK => ?_)
    refine goes_ Try.func64 (by kernel_rfl) rfl #[.agg #[.int .i64 a0_0,.int .i64 a0_1,.slice A0_2 l0_2.length c0_2,.slice A0_3 l0_3.length c0_3],.int .i64 a1,.int .i64 (rd t210 x13_1),.int .i64 a3] (by rfl) rfl rfl ga_ ?_
    with_reducible refine (hinterlandref17_far.calls k1 a0_0 a0_1 _ _ l0_2 _ _ l0_3 a1 (rd t210 x13_1) a3 t215 _ ?side1 ?side2 ?side3 ?side4 A18.out).mono ?_
    (case side1 => exact cq HR0_2)
    (case side2 => exact HC0_2.out)
    (case side3 => exact cq HR0_3)
    (case side4 => exact HC0_3.out)
    rintro e w27 ⟨rfl,hb⟩
    have HS4_:=(hb.cell (World.block_lt_of_cell? _ _ (hHeld.2.2.2.2))).trans (hHeld.2.2.2.2)
    refine ⟨_,rfl,?_⟩
    have n0_:=rbw HO_10 hb
    have n1_:=bkb BK209 hb
    have n2_:=Aside0.mk (below_step (hb_) hb)
    clear HO_10
    clear BK209
    clear HB
    have HO_10:=n0_
    have BK209:=n1_
    have HB:=n2_
    clear n0_ n1_ n2_
    (try clear hb)
    (try clear hb2)
    (try clear hk)
    (try clear hi)
    refine hK.out _ _ ⟨(blk_cell BK209.out 0).trans rfl,(blk_cell BK209.out 1).trans rfl,(blk_cell BK209.out 2).trans rfl,(blk_cell BK209.out 3).trans rfl,HS4_⟩ (fun hHeld => ?_)
    clear hK K
    refine norm_ (a':=?_) ?_ ?_
    rotate_left
    ·show Act.put _ (some 38) _ = _
     simp only [Act.put,List.setIfInBounds_toArray,List.set_cons_zero,List.set_cons_succ,i64_w,i32_w]
     rfl
    refine pI 8 (some 14) ?_
    refine done_ (done_of HT_.out (by kernel_rfl)) ?_
    try go_wp2
    go_roundg k1
    case measure => have:=HK1.out;omega
    case rel => exact ⟨(x11_1),(x12_1),(wrap64 (x13_1 + 1)),(by first|rfl|(simp;done)|(simp [*];done)),(by first|rfl|(simp;done)|(simp [*];done)),(by first|rfl|(simp;done)|(simp [*];done)),H',⟨by have:=HK1.out;omega⟩,⟨Kd.R_up HO_10.out⟩,⟨blk_up BK209.out⟩,⟨hb_⟩⟩
   rw [if_pos c23] at H
   have c23b0 : decide (t215 < x12_1) = true:=decide_eq_true c23
   clear c23
   have H':=Aside0.mk H
   clear H
   try go_wp2
   replace HO_10:=Aside0.mk (Kd.R_drew HO_10.out)
   replace BK209:=Aside0.mk (blk_drew BK209.out)
   replace HB:=Aside0.mk (below_drew1 HB.out)
   have p214 : 0 ≤ (x13_1 : Int):=of_decide_eq_true (by first|(with_reducible assumption)|assumption)
   have q214 : x13_1 < (t210.length : Int):=of_decide_eq_true (by first|(with_reducible assumption)|assumption)
   obtain ⟨ad214,e214,hx214_0⟩:=Kd.at_int (Kd.R_reads' HO_10.out).2.2 x13_1 p214 q214
   obtain rfl : ad213 = ad214:=(by injection e214)
   replace p214:=eq_true p214
   replace q214:=eq_true q214
   refine start_ (n:=9) (S:=fun w' => w'.cell? ⟨gb209,0,none⟩ = some (.int .i64 a0_0) ∧ w'.cell? ⟨gb209,1,none⟩ = some (.int .i64 a0_1) ∧ w'.cell? ⟨gb209,2,none⟩ = some (.slice A0_2 l0_2.length c0_2) ∧ w'.cell? ⟨gb209,3,none⟩ = some (.slice A0_3 l0_3.length c0_3) ∧ w'.cell? (ad213.add (x13_1).toNat) = some (.int .i64 (rd t210 x13_1))) (ds:=[]) #[false,false,false,false,false,false,false,false,false] (by kernel_rfl) rfl rfl ⟨(blk_cell BK209.out 0).trans rfl,(blk_cell BK209.out 1).trans rfl,(blk_cell BK209.out 2).trans rfl,(blk_cell BK209.out 3).trans rfl,hx214_0⟩ (fun hHeld => ?_);refine with_tabW hinterlandref17_choose.tab8 hinterlandref17_choose.bits8 (fun HT_ HW_ => ?_)
   generalize wr.drew = w24 at HO_10 BK209 HB hx214_0 hHeld ⊢
   refine pI 1 (some 32) ?_
   refine pI 2 (some 33) ?_
   refine pI 3 (some 34) ?_
   refine pI 4 (some 35) ?_
   refine pI 6 (some 37) ?_
   refine tI5 0 (some 31) hHeld ?_
   refine tI5 5 (some 36) hHeld ?_
   refine oI 7 (some 38) (fun K hK => ?_)
   refine goes_ Try.func64 (by kernel_rfl) rfl #[.agg #[.int .i64 a0_0,.int .i64 a0_1,.slice A0_2 l0_2.length c0_2,.slice A0_3 l0_3.length c0_3],.int .i64 a1,.int .i64 (rd t210 x13_1),.int .i64 a3] (by rfl) rfl rfl ga_ ?_
   with_reducible refine (hinterlandref17_far.calls k1 a0_0 a0_1 _ _ l0_2 _ _ l0_3 a1 (rd t210 x13_1) a3 t215 _ ?side1 ?side2 ?side3 ?side4 A18.out).mono ?_
   (case side1 => exact cq HR0_2)
   (case side2 => exact HC0_2.out)
   (case side3 => exact cq HR0_3)
   (case side4 => exact HC0_3.out)
   rintro e w25 ⟨rfl,hb⟩
   have HS4_:=(hb.cell (World.block_lt_of_cell? _ _ (hHeld.2.2.2.2))).trans (hHeld.2.2.2.2)
   refine ⟨_,rfl,?_⟩
   have n0_:=rbw HO_10 hb
   have n1_:=bkb BK209 hb
   have n2_:=Aside0.mk (below_step (hb_) hb)
   clear HO_10
   clear BK209
   clear HB
   have HO_10:=n0_
   have BK209:=n1_
   have HB:=n2_
   clear n0_ n1_ n2_
   (try clear hb)
   (try clear hb2)
   (try clear hk)
   (try clear hi)
   refine hK.out _ _ ⟨(blk_cell BK209.out 0).trans rfl,(blk_cell BK209.out 1).trans rfl,(blk_cell BK209.out 2).trans rfl,(blk_cell BK209.out 3).trans rfl,HS4_⟩ (fun hHeld => ?_)
   clear hK K
   refine norm_ (a':=?_) ?_ ?_
   rotate_left
   ·show Act.put _ (some 38) _ = _
    simp only [Act.put,List.setIfInBounds_toArray,List.set_cons_zero,List.set_cons_succ,i64_w,i32_w]
    rfl
   refine pI 8 (some 14) ?_
   refine done_ (done_of HT_.out (by kernel_rfl)) ?_
   have p217 : 0 ≤ (x13_1 : Int):=of_decide_eq_true (by first|(with_reducible assumption)|assumption)
   have q217 : x13_1 < (t210.length : Int):=of_decide_eq_true (by first|(with_reducible assumption)|assumption)
   obtain ⟨ad217,e217,hx217_0⟩:=Kd.at_int (Kd.R_reads' HO_10.out).2.2 x13_1 p217 q217
   obtain rfl : ad213 = ad217:=(by injection e217)
   replace p217:=eq_true p217
   replace q217:=eq_true q217
   try go_wp2
   go_roundg k1
   case measure => have:=HK1.out;omega
   case rel => exact ⟨(rd t210 x13_1),(t215),(wrap64 (x13_1 + 1)),(by first|rfl|(simp;done)|(simp [*];done)),(by first|rfl|(simp;done)|(simp [*];done)),(by first|rfl|(simp;done)|(simp [*];done)),H',⟨by have:=HK1.out;omega⟩,⟨Kd.R_up HO_10.out⟩,⟨blk_up BK209.out⟩,⟨hb_⟩⟩

/-! ### hinterlandref17_Choose: function 14 -/
def hinterlandref17_Choose.j0 : Nat → Int → Int → Int → Bool → Int → Int → List Int → List Int → Option (Int × Bool × Int)
 | 0,_,_,_,_,_,_,_,_ => none
 | k + 1,x1,x2,x3,x27,x219000,x219001,x219002,x219003 => if x27 = true then (some (0,false,2)) else (if x2 < (-1) then (some (0,false,1)) else (if x2 > 3 then (some (0,false,1)) else ((hinterlandref17_choose.f k x219000 x219001 x219002 x219003 x1 x2 x3).bind fun bt220 => (some (bt220.1,bt220.2,0)))))
def hinterlandref17_Choose.f (k : Nat) (a0_0 : Int) (a0_1 : Int) (l0_2 : List Int) (l0_3 : List Int) (a1 : Int) (a2 : Int) (a3 : Int) : Option (Int × Bool × Int) := (hinterlandref04_Validate.f k a0_0 a0_1 l0_2 l0_3).bind fun t219 => (if t219 = 0 then (if a1 < 0 then (hinterlandref17_Choose.j0 k a1 a2 a3 true a0_0 a0_1 l0_2 l0_3) else (hinterlandref17_Choose.j0 k a1 a2 a3 (decide (a1 ≥ (l0_2.length : Int))) a0_0 a0_1 l0_2 l0_3)) else (some (0, false, t219)))
theorem hinterlandref17_Choose.mono_l : ∀ k, (∀ y0 y1 y2 y3 y4 y5 y6 y7, LeO (hinterlandref17_Choose.j0 k y0 y1 y2 y3 y4 y5 y6 y7) (hinterlandref17_Choose.j0 (k + 1) y0 y1 y2 y3 y4 y5 y6 y7))
 | 0 => fun _ _ _ _ _ _ _ _ r h => by simp [hinterlandref17_Choose.j0] at h
 | k + 1 => by
  have ih0:=hinterlandref17_Choose.mono_l k
  ·intro y0 y1 y2 y3 y4 y5 y6 y7
   unfold hinterlandref17_Choose.j0
   repeat' first
   | (with_reducible exact ih0 _ _ _ _ _ _ _ _)
   | (with_reducible exact hinterlandref04_Validate.mono _ _ _ _ _)
   | (with_reducible exact hinterlandref17_choose.mono _ _ _ _ _ _ _ _)
   | (with_reducible exact LeO.refl _)
   | (with_reducible exact LeO.none _)
   | (with_reducible refine LeO.ite ?_ ?_)
   | (with_reducible refine LeO.bind ?_ (fun _ => ?_))
   | exact ih0 _ _ _ _ _ _ _ _
   | exact hinterlandref04_Validate.mono _ _ _ _ _
   | exact hinterlandref17_choose.mono _ _ _ _ _ _ _ _
   | exact LeO.none _
   | refine LeO.ite ?_ ?_
   | refine LeO.bind ?_ (fun _ => ?_)
theorem hinterlandref17_Choose.mono : ∀ a0 a1 a2 a3 a4 a5 a6 k, LeO (hinterlandref17_Choose.f k a0 a1 a2 a3 a4 a5 a6) (hinterlandref17_Choose.f (k + 1) a0 a1 a2 a3 a4 a5 a6) := by
 intro a0 a1 a2 a3 a4 a5 a6 k
 have ih0:=hinterlandref17_Choose.mono_l k
 unfold hinterlandref17_Choose.f
 repeat' first
   | (with_reducible exact ih0 _ _ _ _ _ _ _ _)
   | (with_reducible exact hinterlandref04_Validate.mono _ _ _ _ _)
   | (with_reducible exact hinterlandref17_choose.mono _ _ _ _ _ _ _ _)
   | (with_reducible exact LeO.refl _)
   | (with_reducible exact LeO.none _)
   | (with_reducible refine LeO.ite ?_ ?_)
   | (with_reducible refine LeO.bind ?_ (fun _ => ?_))
   | exact ih0 _ _ _ _ _ _ _ _
   | exact hinterlandref04_Validate.mono _ _ _ _ _
   | exact hinterlandref17_choose.mono _ _ _ _ _ _ _ _
   | exact LeO.none _
   | refine LeO.ite ?_ ?_
   | refine LeO.bind ?_ (fun _ => ?_)
set_option maxHeartbeats 8000000 in
set_option maxRecDepth 100000 in
theorem hinterlandref17_Choose.calls (k : Nat) (a0_0 : Int) (a0_1 : Int) (A0_2 : Option Addr) (c0_2 : Nat) (l0_2 : List Int) (A0_3 : Option Addr) (c0_3 : Nat) (l0_3 : List Int) (a1 : Int) (a2 : Int) (a3 : Int) (r1 : Int) (r2 : Bool) (r3 : Int) (w : World) (hr0_2 : Kd.C (Kd.int .i64) w A0_2 l0_2.length l0_2) (hc0_2 : l0_2.length ≤ c0_2) (hr0_3 : Kd.C (Kd.int .i64) w A0_3 l0_3.length l0_3) (hc0_3 : l0_3.length ≤ c0_3) (h : hinterlandref17_Choose.f k a0_0 a0_1 l0_2 l0_3 a1 a2 a3 = some (r1, r2, r3)) :
  Calls Try.prog 14 #[.agg #[.int .i64 a0_0,.int .i64 a0_1,.slice A0_2 l0_2.length c0_2,.slice A0_3 l0_3.length c0_3],.int .i64 a1,.int .i64 a2,.int .i64 a3] w fun e w' => e = .returned (.tuple #[.int .i64 r1,.bool r2,.int .i64 r3]) ∧ Below w.heap.size w w':=by
 have hu24:=Try.underlying24
 have HR0_2:=Aside0.mk hr0_2
 have HC0_2:=Aside0.mk hc0_2
 clear hr0_2 hc0_2
 have HR0_3:=Aside0.mk hr0_3
 have HC0_3:=Aside0.mk hc0_3
 clear hr0_3 hc0_3
 have HB:=Aside0.mk (Below.refl w.heap.size w)
 have H : ((hinterlandref04_Validate.f k a0_0 a0_1 l0_2 l0_3).bind fun t219 => (if t219 = 0 then (if a1 < 0 then (hinterlandref17_Choose.j0 k a1 a2 a3 true a0_0 a0_1 l0_2 l0_3) else (hinterlandref17_Choose.j0 k a1 a2 a3 (decide (a1 ≥ (l0_2.length : Int))) a0_0 a0_1 l0_2 l0_3)) else (some (0,false,t219)))) = some (r1,r2,r3):=h
 clear h
 replace H:=Option.bind_eq_some_iff.mp H
 obtain ⟨t219,A50,H⟩:=H
 replace H : (if t219 = 0 then (if a1 < 0 then (hinterlandref17_Choose.j0 k a1 a2 a3 true a0_0 a0_1 l0_2 l0_3) else (hinterlandref17_Choose.j0 k a1 a2 a3 (decide (a1 ≥ (l0_2.length : Int))) a0_0 a0_1 l0_2 l0_3)) else (some (0,false,t219))) = some (r1,r2,r3):=H
 have A5:=Aside0.mk A50
 clear A50
 by_cases c6 : t219 = 0
 rotate_left
 ·rw [if_neg c6] at H
  have c6b0:=bqf c6
  have c6b1:=bnt c6
  simp only [Option.some.injEq,Prod.mk.injEq] at H
  obtain ⟨rfl,rfl,rfl⟩:=H
  go_enter Try.func14,Try.ntmps14
  go_wp2_with (first|((with_reducible refine gate_dst (N:=4) rfl ?_);(try (refine gate_guard (by rfl) ?_;dsimp only));refine box_ev (N:=4) (cs:=#[.int .i64 a0_0,.int .i64 a0_1,.slice A0_2 l0_2.length c0_2,.slice A0_3 l0_3.length c0_3]) (t:=24) ?_;intro gb218 hg w19 hbox hb;have BK218:=Aside0.mk (hbox);have GW218 : Aside0 (w.heap.size ≤ gb218):=gsz hg;have GE218:=GW218;replace HB:=hbs hb;clear hb hbox hg;obtain ⟨_,_,_,_,_,_,_,_⟩:=cells4 BK218.out)|((with_reducible refine gate_callee (f:=34) rfl ?_);refine goesL_ (some 15) rfl rfl Try.func34 (by kernel_rfl) rfl #[.agg #[.int .i64 a0_0,.int .i64 a0_1,.slice A0_2 l0_2.length c0_2,.slice A0_3 l0_3.length c0_3]] rfl ga_ ?_;(with_reducible refine (hinterlandref04_Validate.calls k a0_0 a0_1 _ _ l0_2 _ _ l0_3 t219 _ ?_ ?_ ?_ ?_ A5.out).mono ?_);exact cq HR0_2;exact HC0_2.out;exact cq HR0_3;exact HC0_3.out;rintro e w21 ⟨rfl,hb⟩;refine ⟨_,rfl,?_⟩;replace BK218:=bkb BK218 hb;replace HB:=hbs hb))
  go_ret3
  exact ⟨er_,hb_⟩
 rw [if_pos c6] at H
 have c6b0:=bqt c6
 have c6b1:=bnf c6
 clear c6
 have HC7:=Aside0.mk H
 clear H
 go_enter Try.func14,Try.ntmps14
 go_upto_region 4 with (first|((with_reducible refine gate_dst (N:=4) rfl ?_);(try (refine gate_guard (by rfl) ?_;dsimp only));refine box_ev (N:=4) (cs:=#[.int .i64 a0_0,.int .i64 a0_1,.slice A0_2 l0_2.length c0_2,.slice A0_3 l0_3.length c0_3]) (t:=24) ?_;intro gb218 hg w8 hbox hb;have BK218:=Aside0.mk (hbox);have GW218 : Aside0 (w.heap.size ≤ gb218):=gsz hg;have GE218:=GW218;replace HB:=hbs hb;clear hb hbox hg;obtain ⟨_,_,_,_,_,_,_,_⟩:=cells4 BK218.out)|((with_reducible refine gate_callee (f:=34) rfl ?_);refine goesL_ (some 15) rfl rfl Try.func34 (by kernel_rfl) rfl #[.agg #[.int .i64 a0_0,.int .i64 a0_1,.slice A0_2 l0_2.length c0_2,.slice A0_3 l0_3.length c0_3]] rfl ga_ ?_;(with_reducible refine (hinterlandref04_Validate.calls k a0_0 a0_1 _ _ l0_2 _ _ l0_3 t219 _ ?_ ?_ ?_ ?_ A5.out).mono ?_);exact cq HR0_2;exact HC0_2.out;exact cq HR0_3;exact HC0_3.out;rintro e w10 ⟨rfl,hb⟩;refine ⟨_,rfl,?_⟩;replace BK218:=bkb BK218 hb;replace HB:=hbs hb))
 (try simp only [Act.put,List.setIfInBounds_toArray,List.set_cons_zero,List.set_cons_succ])
 go_cut [27] (fun v27 wc => ∃ (kq : Nat) (x27_6 : Bool),v27 = .bool x27_6 ∧ Aside0 (hinterlandref17_Choose.j0 kq a1 a2 a3 x27_6 a0_0 a0_1 l0_2 l0_3 = some (r1,r2,r3)) ∧ Aside0 (kq ≤ k) ∧ Aside0 (wc.heap[gb218]? = some (.cells #[.int .i64 a0_0,.int .i64 a0_1,(.slice A0_2 l0_2.length c0_2),(.slice A0_3 l0_3.length c0_3)] 24 (0,0))) ∧ Aside0 (Below w.heap.size w wc))
 case first =>
  have H:=HC7.out
  clear HC7
  by_cases c11 : a1 < 0
  ·rw [if_pos c11] at H
   have c11b0 : decide (a1 < 0) = true:=decide_eq_true c11
   clear c11
   (first|rw [c11b0]|(simp only [i64_w,i32_w];rw [c11b0])|skip)
   have H':=Aside0.mk H
   clear H
   go_wp2
   go_meet
   case rel => exact ⟨_,(true),(by first|rfl|(simp;done)|(simp [*];done)),H',⟨by first|omega|exact Nat.le_refl _⟩,⟨blk_up BK218.out⟩,⟨hb_⟩⟩
  ·rw [if_neg c11] at H
   have c11b0 : decide (a1 < 0) = false:=decide_eq_false c11
   clear c11
   (first|rw [c11b0]|(simp only [i64_w,i32_w];rw [c11b0])|skip)
   have H':=Aside0.mk H
   clear H
   obtain ⟨_,_,_,_,_,_,_,_⟩:=cells4 BK218.out
   go_wp2
   go_meet
   case rel => exact ⟨_,(decide (a1 ≥ (l0_2.length : Int))),(by first|rfl|(simp;done)|(simp [*];done)),H',⟨by first|omega|exact Nat.le_refl _⟩,⟨blk_up BK218.out⟩,⟨hb_⟩⟩
 case rest =>
  clear HC7
  obtain ⟨kq,x27_6,rfl,HA,HJ6,BK218,HB⟩:=hcut
  cases kq with
  | zero => exact absurd HA.out (by simp [hinterlandref17_Choose.j0])
  | succ kj6 =>
   have H:=HA.out
   clear HA
   simp only [hinterlandref17_Choose.j0] at H
   by_cases c13 : x27_6 = true
   ·subst c13
    have H1 : (some (0,false,2)) = some (r1,r2,r3):=by rw [if_pos rfl] at H;exact H
    clear H
    have H:=H1
    clear H1
    simp only [Option.some.injEq,Prod.mk.injEq] at H
    obtain ⟨rfl,rfl,rfl⟩:=H
    go_wp2
    go_ret3
    exact ⟨er_,hb_⟩
   ·replace c13:=Bool.eq_false_iff.mpr c13
    subst c13
    have H1 : (if a2 < (-1) then (some (0,false,1)) else (if a2 > 3 then (some (0,false,1)) else ((hinterlandref17_choose.f kj6 a0_0 a0_1 l0_2 l0_3 a1 a2 a3).bind fun bt220 => (some (bt220.1,bt220.2,0))))) = some (r1,r2,r3):=by rw [if_neg (show ¬ (false = true) by decide)] at H;exact H
    clear H
    have H:=H1
    clear H1
    by_cases c14 : a2 < (-1)
    ·rw [if_pos c14] at H
     have c14b0 : decide (a2 < (-1)) = true:=decide_eq_true c14
     clear c14
     simp only [Option.some.injEq,Prod.mk.injEq] at H
     obtain ⟨rfl,rfl,rfl⟩:=H
     go_wp2
     go_ret3
     exact ⟨er_,hb_⟩
    ·rw [if_neg c14] at H
     have c14b0 : decide (a2 < (-1)) = false:=decide_eq_false c14
     clear c14
     by_cases c15 : a2 > 3
     ·rw [if_pos c15] at H
      have c15b0 : decide (3 < a2) = true:=decide_eq_true c15
      clear c15
      simp only [Option.some.injEq,Prod.mk.injEq] at H
      obtain ⟨rfl,rfl,rfl⟩:=H
      go_wp2
      go_ret3
      exact ⟨er_,hb_⟩
     ·rw [if_neg c15] at H
      have c15b0 : decide (3 < a2) = false:=decide_eq_false c15
      clear c15
      replace H:=Option.bind_eq_some_iff.mp H
      obtain ⟨⟨t220,t221⟩,A160,H⟩:=H
      replace H : (some (t220,t221,0)) = some (r1,r2,r3):=H
      have A16:=Aside0.mk A160
      clear A160
      simp only [Option.some.injEq,Prod.mk.injEq] at H
      obtain ⟨rfl,rfl,rfl⟩:=H
      obtain ⟨_,_,_,_,_,_,_,_⟩:=cells4 BK218.out
      go_wp2_with (first|((with_reducible refine gate_callee (f:=35) rfl ?_);refine goesL_ (some 39) rfl rfl Try.func35 (by kernel_rfl) rfl #[.agg #[.int .i64 a0_0,.int .i64 a0_1,.slice A0_2 l0_2.length c0_2,.slice A0_3 l0_3.length c0_3],.int .i64 a1,.int .i64 a2,.int .i64 a3] rfl ga_ ?_;(with_reducible refine (hinterlandref17_choose.calls kj6 a0_0 a0_1 _ _ l0_2 _ _ l0_3 a1 a2 a3 t220 t221 _ ?_ ?_ ?_ ?_ A16.out).mono ?_);exact cq HR0_2;exact HC0_2.out;exact cq HR0_3;exact HC0_3.out;rintro e w18 ⟨rfl,hb⟩;refine ⟨_,rfl,?_⟩;replace BK218:=bkb BK218 hb;replace HB:=hbs hb))
      go_ret3
      exact ⟨er_,hb_⟩

end Go.Proofs.Ythjmdpekcleihaa.P

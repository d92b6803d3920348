/- Functions of this seat as plain Lean functions, with proofs that the Go code comes to just their answers, or what stands between them and a law's statement; no conditions. (Laid by a program of this session, out of the kit's print.) -/
import Derived.Test.YthjmdpekcleihaaPx0
import Derived.Test.YthjmdpekcleihaaPx3
import Derived.Test.YthjmdpekcleihaaPx4
namespace Go.Proofs.Ythjmdpekcleihaa.P
open Go.RowKit Go.Proofs.YthjmdpekcleihaaW.PrintWords Go.Proofs.YthjmdpekcleihaaW.PrintLast Go.Proofs.YthjmdpekcleihaaW.PrintMore
attribute [local go_sem] max2_int min2_int max_two min_two max_three min_three max_four min_four   -- for this text's walks alone
set_option linter.unusedVariables false
set_option linter.unusedSimpArgs false

/-! ### lane_choose: function 38 -/
def lane_choose.l0 : Nat → Int → Int → Int → Int → List Int → Int → Int → Int → Int → List Int → List Int → Option (Int × Bool)
 | 0,_,_,_,_,_,_,_,_,_,_,_ => none
 | k + 1,x1,x3,x11,x12,x26,x27,x28,x132000,x132001,x132002,x132003 => if x28 < x27 then (if 0 ≤ x28 then (if x28 < (x26.length : Int) then ((lane_far.f k x132000 x132001 x132002 x132003 x1 (rd x26 x28) x3).bind fun t137 => (if t137 ≥ 0 then (if x12 < 0 then (lane_choose.l0 k x1 x3 (rd x26 x28) t137 x26 x27 (wrap64 (x28 + 1)) x132000 x132001 x132002 x132003) else (if t137 < x12 then (lane_choose.l0 k x1 x3 (rd x26 x28) t137 x26 x27 (wrap64 (x28 + 1)) x132000 x132001 x132002 x132003) else (lane_choose.l0 k x1 x3 x11 x12 x26 x27 (wrap64 (x28 + 1)) x132000 x132001 x132002 x132003))) else (lane_choose.l0 k x1 x3 x11 x12 x26 x27 (wrap64 (x28 + 1)) x132000 x132001 x132002 x132003))) else (none)) else (none)) else (some (x11,true))
def lane_choose.f (k : Nat) (a0_0 : Int) (a0_1 : Int) (l0_2 : List Int) (l0_3 : List Int) (a1 : Int) (a2 : Int) (a3 : Int) : Option (Int × Bool) := (lane_leaves.f k a0_0 a0_1 l0_2 l0_3 a1 a2).bind fun t132 => (if (t132.length : Int) = 0 then (some (0, false)) else (if 0 < (t132.length : Int) then (lane_choose.l0 k a1 a3 (rd t132 0) (-1) t132 (t132.length : Int) 0 a0_0 a0_1 l0_2 l0_3) else (none)))
theorem lane_choose.mono_l : ∀ k, (∀ y0 y1 y2 y3 y4 y5 y6 y7 y8 y9 y10, LeO (lane_choose.l0 k y0 y1 y2 y3 y4 y5 y6 y7 y8 y9 y10) (lane_choose.l0 (k + 1) y0 y1 y2 y3 y4 y5 y6 y7 y8 y9 y10))
 | 0 => fun _ _ _ _ _ _ _ _ _ _ _ r h => by simp [lane_choose.l0] at h
 | k + 1 => by
  have ih0:=lane_choose.mono_l k
  ·intro y0 y1 y2 y3 y4 y5 y6 y7 y8 y9 y10
   unfold lane_choose.l0
   repeat' first
   | (with_reducible exact ih0 _ _ _ _ _ _ _ _ _ _ _)
   | (with_reducible exact lane_far.mono _ _ _ _ _ _ _ _)
   | (with_reducible exact lane_leaves.mono _ _ _ _ _ _ _)
   | (with_reducible exact LeO.refl _)
   | (with_reducible exact LeO.none _)
   | (with_reducible refine LeO.ite ?_ ?_)
   | (with_reducible refine LeO.bind ?_ (fun _ => ?_))
   | exact ih0 _ _ _ _ _ _ _ _ _ _ _
   | exact lane_far.mono _ _ _ _ _ _ _ _
   | exact lane_leaves.mono _ _ _ _ _ _ _
   | exact LeO.none _
   | refine LeO.ite ?_ ?_
   | refine LeO.bind ?_ (fun _ => ?_)
theorem lane_choose.mono : ∀ a0 a1 a2 a3 a4 a5 a6 k, LeO (lane_choose.f k a0 a1 a2 a3 a4 a5 a6) (lane_choose.f (k + 1) a0 a1 a2 a3 a4 a5 a6) := by
 intro a0 a1 a2 a3 a4 a5 a6 k
 have ih0:=lane_choose.mono_l k
 unfold lane_choose.f
 repeat' first
   | (with_reducible exact ih0 _ _ _ _ _ _ _ _ _ _ _)
   | (with_reducible exact lane_far.mono _ _ _ _ _ _ _ _)
   | (with_reducible exact lane_leaves.mono _ _ _ _ _ _ _)
   | (with_reducible exact LeO.refl _)
   | (with_reducible exact LeO.none _)
   | (with_reducible refine LeO.ite ?_ ?_)
   | (with_reducible refine LeO.bind ?_ (fun _ => ?_))
   | exact ih0 _ _ _ _ _ _ _ _ _ _ _
   | exact lane_far.mono _ _ _ _ _ _ _ _
   | exact lane_leaves.mono _ _ _ _ _ _ _
   | exact LeO.none _
   | refine LeO.ite ?_ ?_
   | refine LeO.bind ?_ (fun _ => ?_)
set_option maxHeartbeats 8000000 in
set_option maxRecDepth 100000 in
theorem lane_choose.calls (k : Nat) (a0_0 : Int) (a0_1 : Int) (A0_2 : Option Addr) (c0_2 : Nat) (l0_2 : List Int) (A0_3 : Option Addr) (c0_3 : Nat) (l0_3 : List Int) (a1 : Int) (a2 : Int) (a3 : Int) (r1 : Int) (r2 : Bool) (w : World) (hr0_2 : Kd.C (Kd.int .i64) w A0_2 l0_2.length l0_2) (hc0_2 : l0_2.length ≤ c0_2) (hr0_3 : Kd.C (Kd.int .i64) w A0_3 l0_3.length l0_3) (hc0_3 : l0_3.length ≤ c0_3) (h : lane_choose.f k a0_0 a0_1 l0_2 l0_3 a1 a2 a3 = some (r1, r2)) :
  Calls Try.prog 38 #[.agg #[.int .i64 a0_0,.int .i64 a0_1,.slice A0_2 l0_2.length c0_2,.slice A0_3 l0_3.length c0_3],.int .i64 a1,.int .i64 a2,.int .i64 a3] w fun e w' => e = .returned (.tuple #[.int .i64 r1,.bool r2]) ∧ Below w.heap.size w w':=by
 have hu24:=Try.underlying24
 have HR0_2:=Aside0.mk hr0_2
 have HC0_2:=Aside0.mk hc0_2
 clear hr0_2 hc0_2
 have HR0_3:=Aside0.mk hr0_3
 have HC0_3:=Aside0.mk hc0_3
 clear hr0_3 hc0_3
 have HB:=Aside0.mk (Below.refl w.heap.size w)
 have H : ((lane_leaves.f k a0_0 a0_1 l0_2 l0_3 a1 a2).bind fun t132 => (if (t132.length : Int) = 0 then (some (0,false)) else (if 0 < (t132.length : Int) then (lane_choose.l0 k a1 a3 (rd t132 0) (-1) t132 (t132.length : Int) 0 a0_0 a0_1 l0_2 l0_3) else (none)))) = some (r1,r2):=h
 clear h
 replace H:=Option.bind_eq_some_iff.mp H
 obtain ⟨t132,A50,H⟩:=H
 replace H : (if (t132.length : Int) = 0 then (some (0,false)) else (if 0 < (t132.length : Int) then (lane_choose.l0 k a1 a3 (rd t132 0) (-1) t132 (t132.length : Int) 0 a0_0 a0_1 l0_2 l0_3) else (none))) = some (r1,r2):=H
 have A5:=Aside0.mk A50
 clear A50
 by_cases c6 : (t132.length : Int) = 0
 ·rw [if_pos c6] at H
  have c6b0:=bqt c6
  have c6b1:=bnf c6
  clear c6
  simp only [Option.some.injEq,Prod.mk.injEq] at H
  obtain ⟨rfl,rfl⟩:=H
  go_enter Try.func38,Try.ntmps38
  go_wp2_with (first|((with_reducible refine gate_dst (N:=4) rfl ?_);refine box_ev (N:=4) (cs:=#[.int .i64 a0_0,.int .i64 a0_1,.slice A0_2 l0_2.length c0_2,.slice A0_3 l0_3.length c0_3]) (t:=24) ?_;intro gb131 hg w7 hbox hb;have BK131:=Aside0.mk (hbox);have GW131 : Aside0 (w.heap.size ≤ gb131):=gsz hg;have GE131:=GW131;replace HB:=hbs hb;clear hb hbox hg;obtain ⟨_,_,_,_,_,_,_,_⟩:=cells4 BK131.out)|((with_reducible refine gate_callee (f:=65) rfl ?_);refine goesL_ (some 19) rfl rfl Try.func65 (by kernel_rfl) rfl #[.agg #[.int .i64 a0_0,.int .i64 a0_1,.slice A0_2 l0_2.length c0_2,.slice A0_3 l0_3.length c0_3],.int .i64 a1,.int .i64 a2] rfl ga_ ?_;(with_reducible refine (lane_leaves.calls k a0_0 a0_1 _ _ l0_2 _ _ l0_3 a1 a2 t132 _ ?_ ?_ ?_ ?_ A5.out).mono ?_);exact cq HR0_2;exact HC0_2.out;exact cq HR0_3;exact HC0_3.out;rintro e w9 ⟨v133,rfl,ho0,hb⟩;refine ⟨_,rfl,?_⟩;have HO134:=rlo ho0;replace BK131:=bkb BK131 hb;replace HB:=hbs hb;obtain ⟨Ao10,co10,eo10⟩:=Kd.R_slice HO134.out;subst eo10))
  go_ret2
  exact ⟨er_,hb_⟩
 rw [if_neg c6] at H
 have c6b0:=bqf c6
 have c6b1:=bnt c6
 have c6b2 : ¬ (t132 = []):=fun h_ => c6 (by rw [h_];rfl)
 replace H:=ifp_ H;obtain ⟨c11,H⟩:=H
 have c11b0 : decide (0 < (t132.length : Int)) = true:=decide_eq_true c11
 have c11b1 : decide (0 < t132.length) = true:=decide_eq_true (by omega)
 clear c11
 have H':=Aside0.mk H
 clear H
 go_enter Try.func38,Try.ntmps38
 go_wp2_with (first|((with_reducible refine gate_dst (N:=4) rfl ?_);refine box_ev (N:=4) (cs:=#[.int .i64 a0_0,.int .i64 a0_1,.slice A0_2 l0_2.length c0_2,.slice A0_3 l0_3.length c0_3]) (t:=24) ?_;intro gb131 hg w12 hbox hb;have BK131:=Aside0.mk (hbox);have GW131 : Aside0 (w.heap.size ≤ gb131):=gsz hg;have GE131:=GW131;replace HB:=hbs hb;clear hb hbox hg;obtain ⟨_,_,_,_,_,_,_,_⟩:=cells4 BK131.out)|((with_reducible refine gate_callee (f:=65) rfl ?_);refine goesL_ (some 19) rfl rfl Try.func65 (by kernel_rfl) rfl #[.agg #[.int .i64 a0_0,.int .i64 a0_1,.slice A0_2 l0_2.length c0_2,.slice A0_3 l0_3.length c0_3],.int .i64 a1,.int .i64 a2] rfl ga_ ?_;(with_reducible refine (lane_leaves.calls k a0_0 a0_1 _ _ l0_2 _ _ l0_3 a1 a2 t132 _ ?_ ?_ ?_ ?_ A5.out).mono ?_);exact cq HR0_2;exact HC0_2.out;exact cq HR0_3;exact HC0_3.out;rintro e w14 ⟨v133,rfl,ho0,hb⟩;refine ⟨_,rfl,?_⟩;have HO134:=rlo ho0;replace BK131:=bkb BK131 hb;replace HB:=hbs hb;obtain ⟨Ao15,co15,eo15⟩:=Kd.R_slice HO134.out;subst eo15;have p135 : 0 ≤ (0 : Int):=(by omega);have q135 : 0 < (t132.length : Int):=of_decide_eq_true (by first|(with_reducible assumption)|assumption);obtain ⟨ad135,e135,hx135_0⟩:=Kd.at_int (Kd.R_reads' HO134.out).2.2 0 p135 q135;cases e135;have qi135 : (0 < t132.length) = True:=eq_true (by omega);(try rw [show ((0 : Int)).toNat = 0 from rfl] at hx135_0);(try rw [Addr.add_zero'] at hx135_0);replace p135:=eq_true p135;replace q135:=eq_true q135))
 go_loopg [11,12,28] k (fun kq v11 v12 v28 w' => ∃ (x11_1 : Int) (x12_1 : Int) (x28_1 : Int),v11 = .int .i64 x11_1 ∧ v12 = .int .i64 x12_1 ∧ v28 = .int .i64 x28_1 ∧ Aside0 (lane_choose.l0 kq a1 a3 x11_1 x12_1 t132 (t132.length : Int) x28_1 a0_0 a0_1 l0_2 l0_3 = some (r1,r2)) ∧ Aside0 (kq ≤ k) ∧ Aside0 (Kd.R (Kd.int .i64) 3 w' w.heap.size (fun _ => True) (.slice (some ad135) t132.length co15) t132) ∧ Aside0 (w'.heap[gb131]? = some (.cells #[.int .i64 a0_0,.int .i64 a0_1,(.slice A0_2 l0_2.length c0_2),(.slice A0_3 l0_3.length c0_3)] 24 (0,0))) ∧ Aside0 (Below w.heap.size w w'))
 case atStart => exact ⟨(rd t132 0),((-1)),(0),(by first|rfl|(simp;done)|(simp [*];done)),(by first|rfl|(simp;done)|(simp [*];done)),(by first|rfl|(simp;done)|(simp [*];done)),H',⟨Nat.le_refl _⟩,⟨Kd.R_up HO134.out⟩,⟨blk_up BK131.out⟩,⟨hb_⟩⟩
 case round =>
  clear H'
  obtain ⟨x11_1,x12_1,x28_1,rfl,rfl,rfl,HA,HK1,HO_26,BK131,HB⟩:=hrel
  cases gk with
  | zero => exact absurd HA.out (by simp [lane_choose.l0])
  | succ k1 =>
   have H:=HA.out
   clear HA
   simp only [lane_choose.l0] at H
   by_cases c16 : x28_1 < (t132.length : Int)
   rotate_left
   ·rw [if_neg c16] at H
    have c16b0 : decide (x28_1 < (t132.length : Int)) = false:=decide_eq_false c16
    clear c16
    simp only [Option.some.injEq,Prod.mk.injEq] at H
    obtain ⟨rfl,rfl⟩:=H
    go_wp2
    go_ret2
    exact ⟨er_,hb_⟩
   rw [if_pos c16] at H
   have c16b0 : decide (x28_1 < (t132.length : Int)) = true:=decide_eq_true c16
   clear c16
   replace H:=ifp_ H;obtain ⟨c17,H⟩:=H
   have c17b0 : decide (0 ≤ x28_1) = true:=decide_eq_true c17
   clear c17
   replace H:=ifp_ H;obtain ⟨c18,H⟩:=H
   have c18b0 : decide (x28_1 < (t132.length : Int)) = true:=decide_eq_true c18
   clear c18
   replace H:=Option.bind_eq_some_iff.mp H
   obtain ⟨t137,A190,H⟩:=H
   replace H : (if t137 ≥ 0 then (if x12_1 < 0 then (lane_choose.l0 k1 a1 a3 (rd t132 x28_1) t137 t132 (t132.length : Int) (wrap64 (x28_1 + 1)) a0_0 a0_1 l0_2 l0_3) else (if t137 < x12_1 then (lane_choose.l0 k1 a1 a3 (rd t132 x28_1) t137 t132 (t132.length : Int) (wrap64 (x28_1 + 1)) a0_0 a0_1 l0_2 l0_3) else (lane_choose.l0 k1 a1 a3 x11_1 x12_1 t132 (t132.length : Int) (wrap64 (x28_1 + 1)) a0_0 a0_1 l0_2 l0_3))) else (lane_choose.l0 k1 a1 a3 x11_1 x12_1 t132 (t132.length : Int) (wrap64 (x28_1 + 1)) a0_0 a0_1 l0_2 l0_3)) = some (r1,r2):=H
   have A19:=Aside0.mk A190
   clear A190
   by_cases c20 : t137 ≥ 0
   rotate_left
   ·rw [if_neg c20] at H
    have c20b0 : decide (0 ≤ t137) = false:=decide_eq_false c20
    clear c20
    have H':=Aside0.mk H
    clear H
    have p136 : 0 ≤ (x28_1 : Int):=of_decide_eq_true (by first|(with_reducible assumption)|assumption)
    have q136 : x28_1 < (t132.length : Int):=of_decide_eq_true (by first|(with_reducible assumption)|assumption)
    obtain ⟨ad136,e136,hx136_0⟩:=Kd.at_int (Kd.R_reads' HO_26.out).2.2 x28_1 p136 q136
    obtain rfl : ad135 = ad136:=(by injection e136)
    replace p136:=eq_true p136
    replace q136:=eq_true q136
    obtain ⟨_,_,_,_,_,_,_,_⟩:=cells4 BK131.out
    go_wp2_with (first|((with_reducible refine gate_callee (f:=66) rfl ?_);refine goesL_ (some 36) rfl rfl Try.func66 (by kernel_rfl) rfl #[.agg #[.int .i64 a0_0,.int .i64 a0_1,.slice A0_2 l0_2.length c0_2,.slice A0_3 l0_3.length c0_3],.int .i64 a1,.int .i64 (rd t132 x28_1),.int .i64 a3] rfl ga_ ?_;(with_reducible refine (lane_far.calls k1 a0_0 a0_1 _ _ l0_2 _ _ l0_3 a1 (rd t132 x28_1) a3 t137 _ ?_ ?_ ?_ ?_ A19.out).mono ?_);exact cq HR0_2;exact HC0_2.out;exact cq HR0_3;exact HC0_3.out;rintro e w30 ⟨rfl,hb⟩;refine ⟨_,rfl,?_⟩;replace HO_26:=rbw HO_26 hb;replace BK131:=bkb BK131 hb;replace HB:=hbs hb))
    go_roundg k1
    case measure => have:=HK1.out;omega
    case rel => exact ⟨(x11_1),(x12_1),(wrap64 (x28_1 + 1)),(by first|rfl|(simp;done)|(simp [*];done)),(by first|rfl|(simp;done)|(simp [*];done)),(by first|rfl|(simp;done)|(simp [*];done)),H',⟨by have:=HK1.out;omega⟩,⟨Kd.R_up HO_26.out⟩,⟨blk_up BK131.out⟩,⟨hb_⟩⟩
   rw [if_pos c20] at H
   have c20b0 : decide (0 ≤ t137) = true:=decide_eq_true c20
   clear c20
   by_cases c21 : x12_1 < 0
   ·rw [if_pos c21] at H
    have c21b0 : decide (x12_1 < 0) = true:=decide_eq_true c21
    clear c21
    have H':=Aside0.mk H
    clear H
    have p136 : 0 ≤ (x28_1 : Int):=of_decide_eq_true (by first|(with_reducible assumption)|assumption)
    have q136 : x28_1 < (t132.length : Int):=of_decide_eq_true (by first|(with_reducible assumption)|assumption)
    obtain ⟨ad136,e136,hx136_0⟩:=Kd.at_int (Kd.R_reads' HO_26.out).2.2 x28_1 p136 q136
    obtain rfl : ad135 = ad136:=(by injection e136)
    replace p136:=eq_true p136
    replace q136:=eq_true q136
    obtain ⟨_,_,_,_,_,_,_,_⟩:=cells4 BK131.out
    go_wp2_with (first|((with_reducible refine gate_callee (f:=66) rfl ?_);refine goesL_ (some 36) rfl rfl Try.func66 (by kernel_rfl) rfl #[.agg #[.int .i64 a0_0,.int .i64 a0_1,.slice A0_2 l0_2.length c0_2,.slice A0_3 l0_3.length c0_3],.int .i64 a1,.int .i64 (rd t132 x28_1),.int .i64 a3] rfl ga_ ?_;(with_reducible refine (lane_far.calls k1 a0_0 a0_1 _ _ l0_2 _ _ l0_3 a1 (rd t132 x28_1) a3 t137 _ ?_ ?_ ?_ ?_ A19.out).mono ?_);exact cq HR0_2;exact HC0_2.out;exact cq HR0_3;exact HC0_3.out;rintro e w23 ⟨rfl,hb⟩;refine ⟨_,rfl,?_⟩;replace HO_26:=rbw HO_26 hb;replace BK131:=bkb BK131 hb;replace HB:=hbs hb))
    go_roundg k1
    case measure => have:=HK1.out;omega
    case rel => exact ⟨(rd t132 x28_1),(t137),(wrap64 (x28_1 + 1)),(by first|rfl|(simp;done)|(simp [*];done)),(by first|rfl|(simp;done)|(simp [*];done)),(by first|rfl|(simp;done)|(simp [*];done)),H',⟨by have:=HK1.out;omega⟩,⟨Kd.R_up HO_26.out⟩,⟨blk_up BK131.out⟩,⟨hb_⟩⟩
   rw [if_neg c21] at H
   have c21b0 : decide (x12_1 < 0) = false:=decide_eq_false c21
   clear c21
   by_cases c24 : t137 < x12_1
   ·rw [if_pos c24] at H
    have c24b0 : decide (t137 < x12_1) = true:=decide_eq_true c24
    clear c24
    have H':=Aside0.mk H
    clear H
    have p136 : 0 ≤ (x28_1 : Int):=of_decide_eq_true (by first|(with_reducible assumption)|assumption)
    have q136 : x28_1 < (t132.length : Int):=of_decide_eq_true (by first|(with_reducible assumption)|assumption)
    obtain ⟨ad136,e136,hx136_0⟩:=Kd.at_int (Kd.R_reads' HO_26.out).2.2 x28_1 p136 q136
    obtain rfl : ad135 = ad136:=(by injection e136)
    replace p136:=eq_true p136
    replace q136:=eq_true q136
    obtain ⟨_,_,_,_,_,_,_,_⟩:=cells4 BK131.out
    go_wp2_with (first|((with_reducible refine gate_callee (f:=66) rfl ?_);refine goesL_ (some 36) rfl rfl Try.func66 (by kernel_rfl) rfl #[.agg #[.int .i64 a0_0,.int .i64 a0_1,.slice A0_2 l0_2.length c0_2,.slice A0_3 l0_3.length c0_3],.int .i64 a1,.int .i64 (rd t132 x28_1),.int .i64 a3] rfl ga_ ?_;(with_reducible refine (lane_far.calls k1 a0_0 a0_1 _ _ l0_2 _ _ l0_3 a1 (rd t132 x28_1) a3 t137 _ ?_ ?_ ?_ ?_ A19.out).mono ?_);exact cq HR0_2;exact HC0_2.out;exact cq HR0_3;exact HC0_3.out;rintro e w26 ⟨rfl,hb⟩;refine ⟨_,rfl,?_⟩;replace HO_26:=rbw HO_26 hb;replace BK131:=bkb BK131 hb;replace HB:=hbs hb))
    go_roundg k1
    case measure => have:=HK1.out;omega
    case rel => exact ⟨(rd t132 x28_1),(t137),(wrap64 (x28_1 + 1)),(by first|rfl|(simp;done)|(simp [*];done)),(by first|rfl|(simp;done)|(simp [*];done)),(by first|rfl|(simp;done)|(simp [*];done)),H',⟨by have:=HK1.out;omega⟩,⟨Kd.R_up HO_26.out⟩,⟨blk_up BK131.out⟩,⟨hb_⟩⟩
   ·rw [if_neg c24] at H
    have c24b0 : decide (t137 < x12_1) = false:=decide_eq_false c24
    clear c24
    have H':=Aside0.mk H
    clear H
    have p136 : 0 ≤ (x28_1 : Int):=of_decide_eq_true (by first|(with_reducible assumption)|assumption)
    have q136 : x28_1 < (t132.length : Int):=of_decide_eq_true (by first|(with_reducible assumption)|assumption)
    obtain ⟨ad136,e136,hx136_0⟩:=Kd.at_int (Kd.R_reads' HO_26.out).2.2 x28_1 p136 q136
    obtain rfl : ad135 = ad136:=(by injection e136)
    replace p136:=eq_true p136
    replace q136:=eq_true q136
    obtain ⟨_,_,_,_,_,_,_,_⟩:=cells4 BK131.out
    go_wp2_with (first|((with_reducible refine gate_callee (f:=66) rfl ?_);refine goesL_ (some 36) rfl rfl Try.func66 (by kernel_rfl) rfl #[.agg #[.int .i64 a0_0,.int .i64 a0_1,.slice A0_2 l0_2.length c0_2,.slice A0_3 l0_3.length c0_3],.int .i64 a1,.int .i64 (rd t132 x28_1),.int .i64 a3] rfl ga_ ?_;(with_reducible refine (lane_far.calls k1 a0_0 a0_1 _ _ l0_2 _ _ l0_3 a1 (rd t132 x28_1) a3 t137 _ ?_ ?_ ?_ ?_ A19.out).mono ?_);exact cq HR0_2;exact HC0_2.out;exact cq HR0_3;exact HC0_3.out;rintro e w28 ⟨rfl,hb⟩;refine ⟨_,rfl,?_⟩;replace HO_26:=rbw HO_26 hb;replace BK131:=bkb BK131 hb;replace HB:=hbs hb))
    go_roundg k1
    case measure => have:=HK1.out;omega
    case rel => exact ⟨(x11_1),(x12_1),(wrap64 (x28_1 + 1)),(by first|rfl|(simp;done)|(simp [*];done)),(by first|rfl|(simp;done)|(simp [*];done)),(by first|rfl|(simp;done)|(simp [*];done)),H',⟨by have:=HK1.out;omega⟩,⟨Kd.R_up HO_26.out⟩,⟨blk_up BK131.out⟩,⟨hb_⟩⟩

/-! ### lane_Choose: function 15 -/
def lane_Choose.f (k : Nat) (a0_0 : Int) (a0_1 : Int) (l0_2 : List Int) (l0_3 : List Int) (a1 : Int) (a2 : Int) (a3 : Int) : Option (Int × Bool × Int) := (road_Validate.f k a0_0 a0_1 l0_2 l0_3).bind fun t139 => (if t139 = 0 then ((lane_within.f a1 (wrap64 ((wrap64 (a0_0 * a0_1)) - 1))).bind fun t140 => (if t140 = true then (if a2 < (-1) then (some (0, false, 1)) else (if a2 > 3 then (some (0, false, 1)) else ((lane_choose.f k a0_0 a0_1 l0_2 l0_3 a1 a2 a3).bind fun bt141 => (some (bt141.1, bt141.2, 0))))) else (some (0, false, 2)))) else (some (0, false, t139)))
theorem lane_Choose.mono : ∀ a0 a1 a2 a3 a4 a5 a6 k, LeO (lane_Choose.f k a0 a1 a2 a3 a4 a5 a6) (lane_Choose.f (k + 1) a0 a1 a2 a3 a4 a5 a6) := by
 intro a0 a1 a2 a3 a4 a5 a6 k
 unfold lane_Choose.f
 repeat' first
   | (with_reducible exact lane_choose.mono _ _ _ _ _ _ _ _)
   | (with_reducible exact road_Validate.mono _ _ _ _ _)
   | (with_reducible exact LeO.refl _)
   | (with_reducible exact LeO.none _)
   | (with_reducible refine LeO.ite ?_ ?_)
   | (with_reducible refine LeO.bind ?_ (fun _ => ?_))
   | exact lane_choose.mono _ _ _ _ _ _ _ _
   | exact road_Validate.mono _ _ _ _ _
   | exact LeO.none _
   | refine LeO.ite ?_ ?_
   | refine LeO.bind ?_ (fun _ => ?_)
set_option maxHeartbeats 8000000 in
set_option maxRecDepth 100000 in
theorem lane_Choose.calls (k : Nat) (a0_0 : Int) (a0_1 : Int) (A0_2 : Option Addr) (c0_2 : Nat) (l0_2 : List Int) (A0_3 : Option Addr) (c0_3 : Nat) (l0_3 : List Int) (a1 : Int) (a2 : Int) (a3 : Int) (r1 : Int) (r2 : Bool) (r3 : Int) (w : World) (hr0_2 : Kd.C (Kd.int .i64) w A0_2 l0_2.length l0_2) (hc0_2 : l0_2.length ≤ c0_2) (hr0_3 : Kd.C (Kd.int .i64) w A0_3 l0_3.length l0_3) (hc0_3 : l0_3.length ≤ c0_3) (h : lane_Choose.f k a0_0 a0_1 l0_2 l0_3 a1 a2 a3 = some (r1, r2, r3)) :
  Calls Try.prog 15 #[.agg #[.int .i64 a0_0,.int .i64 a0_1,.slice A0_2 l0_2.length c0_2,.slice A0_3 l0_3.length c0_3],.int .i64 a1,.int .i64 a2,.int .i64 a3] w fun e w' => e = .returned (.tuple #[.int .i64 r1,.bool r2,.int .i64 r3]) ∧ Below w.heap.size w w':=by
 have hu24:=Try.underlying24
 have HR0_2:=Aside0.mk hr0_2
 have HC0_2:=Aside0.mk hc0_2
 clear hr0_2 hc0_2
 have HR0_3:=Aside0.mk hr0_3
 have HC0_3:=Aside0.mk hc0_3
 clear hr0_3 hc0_3
 have HB:=Aside0.mk (Below.refl w.heap.size w)
 have H : ((road_Validate.f k a0_0 a0_1 l0_2 l0_3).bind fun t139 => (if t139 = 0 then ((lane_within.f a1 (wrap64 ((wrap64 (a0_0 * a0_1)) - 1))).bind fun t140 => (if t140 = true then (if a2 < (-1) then (some (0,false,1)) else (if a2 > 3 then (some (0,false,1)) else ((lane_choose.f k a0_0 a0_1 l0_2 l0_3 a1 a2 a3).bind fun bt141 => (some (bt141.1,bt141.2,0))))) else (some (0,false,2)))) else (some (0,false,t139)))) = some (r1,r2,r3):=h
 clear h
 replace H:=Option.bind_eq_some_iff.mp H
 obtain ⟨t139,A50,H⟩:=H
 replace H : (if t139 = 0 then ((lane_within.f a1 (wrap64 ((wrap64 (a0_0 * a0_1)) - 1))).bind fun t140 => (if t140 = true then (if a2 < (-1) then (some (0,false,1)) else (if a2 > 3 then (some (0,false,1)) else ((lane_choose.f k a0_0 a0_1 l0_2 l0_3 a1 a2 a3).bind fun bt141 => (some (bt141.1,bt141.2,0))))) else (some (0,false,2)))) else (some (0,false,t139))) = some (r1,r2,r3):=H
 have A5:=Aside0.mk A50
 clear A50
 by_cases c6 : t139 = 0
 rotate_left
 ·rw [if_neg c6] at H
  have c6b0:=bqf c6
  have c6b1:=bnt c6
  simp only [Option.some.injEq,Prod.mk.injEq] at H
  obtain ⟨rfl,rfl,rfl⟩:=H
  go_enter Try.func15,Try.ntmps15
  go_wp2_with (first|((with_reducible refine gate_dst (N:=4) rfl ?_);refine box_ev (N:=4) (cs:=#[.int .i64 a0_0,.int .i64 a0_1,.slice A0_2 l0_2.length c0_2,.slice A0_3 l0_3.length c0_3]) (t:=24) ?_;intro gb138 hg w29 hbox hb;have BK138:=Aside0.mk (hbox);have GW138 : Aside0 (w.heap.size ≤ gb138):=gsz hg;have GE138:=GW138;replace HB:=hbs hb;clear hb hbox hg;obtain ⟨_,_,_,_,_,_,_,_⟩:=cells4 BK138.out)|((with_reducible refine gate_callee (f:=36) rfl ?_);refine goesL_ (some 15) rfl rfl Try.func36 (by kernel_rfl) rfl #[.agg #[.int .i64 a0_0,.int .i64 a0_1,.slice A0_2 l0_2.length c0_2,.slice A0_3 l0_3.length c0_3]] rfl ga_ ?_;(with_reducible refine (road_Validate.calls k a0_0 a0_1 _ _ l0_2 _ _ l0_3 t139 _ ?_ ?_ ?_ ?_ A5.out).mono ?_);exact cq HR0_2;exact HC0_2.out;exact cq HR0_3;exact HC0_3.out;rintro e w31 ⟨rfl,hb⟩;refine ⟨_,rfl,?_⟩;replace BK138:=bkb BK138 hb;replace HB:=hbs hb))
  go_ret3
  exact ⟨er_,hb_⟩
 rw [if_pos c6] at H
 have c6b0:=bqt c6
 have c6b1:=bnf c6
 clear c6
 replace H:=Option.bind_eq_some_iff.mp H
 obtain ⟨t140,A70,H⟩:=H
 replace H : (if t140 = true then (if a2 < (-1) then (some (0,false,1)) else (if a2 > 3 then (some (0,false,1)) else ((lane_choose.f k a0_0 a0_1 l0_2 l0_3 a1 a2 a3).bind fun bt141 => (some (bt141.1,bt141.2,0))))) else (some (0,false,2))) = some (r1,r2,r3):=H
 have A7:=Aside0.mk A70
 clear A70
 by_cases c8 : t140 = true
 ·subst c8
  have H1 : (if a2 < (-1) then (some (0,false,1)) else (if a2 > 3 then (some (0,false,1)) else ((lane_choose.f k a0_0 a0_1 l0_2 l0_3 a1 a2 a3).bind fun bt141 => (some (bt141.1,bt141.2,0))))) = some (r1,r2,r3):=by rw [if_pos rfl] at H;exact H
  clear H
  have H:=H1
  clear H1
  by_cases c9 : a2 < (-1)
  ·rw [if_pos c9] at H
   have c9b0 : decide (a2 < (-1)) = true:=decide_eq_true c9
   clear c9
   simp only [Option.some.injEq,Prod.mk.injEq] at H
   obtain ⟨rfl,rfl,rfl⟩:=H
   go_enter Try.func15,Try.ntmps15
   go_wp2_with (first|((with_reducible refine gate_dst (N:=4) rfl ?_);refine box_ev (N:=4) (cs:=#[.int .i64 a0_0,.int .i64 a0_1,.slice A0_2 l0_2.length c0_2,.slice A0_3 l0_3.length c0_3]) (t:=24) ?_;intro gb138 hg w10 hbox hb;have BK138:=Aside0.mk (hbox);have GW138 : Aside0 (w.heap.size ≤ gb138):=gsz hg;have GE138:=GW138;replace HB:=hbs hb;clear hb hbox hg;obtain ⟨_,_,_,_,_,_,_,_⟩:=cells4 BK138.out)|((with_reducible refine gate_callee (f:=36) rfl ?_);refine goesL_ (some 15) rfl rfl Try.func36 (by kernel_rfl) rfl #[.agg #[.int .i64 a0_0,.int .i64 a0_1,.slice A0_2 l0_2.length c0_2,.slice A0_3 l0_3.length c0_3]] rfl ga_ ?_;(with_reducible refine (road_Validate.calls k a0_0 a0_1 _ _ l0_2 _ _ l0_3 t139 _ ?_ ?_ ?_ ?_ A5.out).mono ?_);exact cq HR0_2;exact HC0_2.out;exact cq HR0_3;exact HC0_3.out;rintro e w12 ⟨rfl,hb⟩;refine ⟨_,rfl,?_⟩;replace BK138:=bkb BK138 hb;replace HB:=hbs hb;obtain ⟨_,_,_,_,_,_,_,_⟩:=cells4 BK138.out)|((with_reducible refine gate_callee (f:=37) rfl ?_);refine goesL_ (some 27) rfl rfl Try.func37 (by kernel_rfl) rfl #[.int .i64 a1,.int .i64 (wrap64 ((wrap64 (a0_0 * a0_1)) - 1))] rfl ga_ ?_;(with_reducible refine (lane_within.calls a1 (wrap64 ((wrap64 (a0_0 * a0_1)) - 1)) true _ A7.out).mono ?_);rintro e w' ⟨rfl,⟨nd,rfl⟩⟩;refine ⟨_,rfl,?_⟩))
   go_ret3
   exact ⟨er_,hb_⟩
  ·rw [if_neg c9] at H
   have c9b0 : decide (a2 < (-1)) = false:=decide_eq_false c9
   clear c9
   by_cases c14 : a2 > 3
   ·rw [if_pos c14] at H
    have c14b0 : decide (3 < a2) = true:=decide_eq_true c14
    clear c14
    simp only [Option.some.injEq,Prod.mk.injEq] at H
    obtain ⟨rfl,rfl,rfl⟩:=H
    go_enter Try.func15,Try.ntmps15
    go_wp2_with (first|((with_reducible refine gate_dst (N:=4) rfl ?_);refine box_ev (N:=4) (cs:=#[.int .i64 a0_0,.int .i64 a0_1,.slice A0_2 l0_2.length c0_2,.slice A0_3 l0_3.length c0_3]) (t:=24) ?_;intro gb138 hg w15 hbox hb;have BK138:=Aside0.mk (hbox);have GW138 : Aside0 (w.heap.size ≤ gb138):=gsz hg;have GE138:=GW138;replace HB:=hbs hb;clear hb hbox hg;obtain ⟨_,_,_,_,_,_,_,_⟩:=cells4 BK138.out)|((with_reducible refine gate_callee (f:=36) rfl ?_);refine goesL_ (some 15) rfl rfl Try.func36 (by kernel_rfl) rfl #[.agg #[.int .i64 a0_0,.int .i64 a0_1,.slice A0_2 l0_2.length c0_2,.slice A0_3 l0_3.length c0_3]] rfl ga_ ?_;(with_reducible refine (road_Validate.calls k a0_0 a0_1 _ _ l0_2 _ _ l0_3 t139 _ ?_ ?_ ?_ ?_ A5.out).mono ?_);exact cq HR0_2;exact HC0_2.out;exact cq HR0_3;exact HC0_3.out;rintro e w17 ⟨rfl,hb⟩;refine ⟨_,rfl,?_⟩;replace BK138:=bkb BK138 hb;replace HB:=hbs hb;obtain ⟨_,_,_,_,_,_,_,_⟩:=cells4 BK138.out)|((with_reducible refine gate_callee (f:=37) rfl ?_);refine goesL_ (some 27) rfl rfl Try.func37 (by kernel_rfl) rfl #[.int .i64 a1,.int .i64 (wrap64 ((wrap64 (a0_0 * a0_1)) - 1))] rfl ga_ ?_;(with_reducible refine (lane_within.calls a1 (wrap64 ((wrap64 (a0_0 * a0_1)) - 1)) true _ A7.out).mono ?_);rintro e w' ⟨rfl,⟨nd,rfl⟩⟩;refine ⟨_,rfl,?_⟩))
    go_ret3
    exact ⟨er_,hb_⟩
   ·rw [if_neg c14] at H
    have c14b0 : decide (3 < a2) = false:=decide_eq_false c14
    clear c14
    replace H:=Option.bind_eq_some_iff.mp H
    obtain ⟨⟨t141,t142⟩,A190,H⟩:=H
    replace H : (some (t141,t142,0)) = some (r1,r2,r3):=H
    have A19:=Aside0.mk A190
    clear A190
    simp only [Option.some.injEq,Prod.mk.injEq] at H
    obtain ⟨rfl,rfl,rfl⟩:=H
    go_enter Try.func15,Try.ntmps15
    go_wp2_with (first|((with_reducible refine gate_dst (N:=4) rfl ?_);refine box_ev (N:=4) (cs:=#[.int .i64 a0_0,.int .i64 a0_1,.slice A0_2 l0_2.length c0_2,.slice A0_3 l0_3.length c0_3]) (t:=24) ?_;intro gb138 hg w20 hbox hb;have BK138:=Aside0.mk (hbox);have GW138 : Aside0 (w.heap.size ≤ gb138):=gsz hg;have GE138:=GW138;replace HB:=hbs hb;clear hb hbox hg;obtain ⟨_,_,_,_,_,_,_,_⟩:=cells4 BK138.out)|((with_reducible refine gate_callee (f:=36) rfl ?_);refine goesL_ (some 15) rfl rfl Try.func36 (by kernel_rfl) rfl #[.agg #[.int .i64 a0_0,.int .i64 a0_1,.slice A0_2 l0_2.length c0_2,.slice A0_3 l0_3.length c0_3]] rfl ga_ ?_;(with_reducible refine (road_Validate.calls k a0_0 a0_1 _ _ l0_2 _ _ l0_3 t139 _ ?_ ?_ ?_ ?_ A5.out).mono ?_);exact cq HR0_2;exact HC0_2.out;exact cq HR0_3;exact HC0_3.out;rintro e w22 ⟨rfl,hb⟩;refine ⟨_,rfl,?_⟩;replace BK138:=bkb BK138 hb;replace HB:=hbs hb;obtain ⟨_,_,_,_,_,_,_,_⟩:=cells4 BK138.out)|((with_reducible refine gate_callee (f:=37) rfl ?_);refine goesL_ (some 27) rfl rfl Try.func37 (by kernel_rfl) rfl #[.int .i64 a1,.int .i64 (wrap64 ((wrap64 (a0_0 * a0_1)) - 1))] rfl ga_ ?_;(with_reducible refine (lane_within.calls a1 (wrap64 ((wrap64 (a0_0 * a0_1)) - 1)) true _ A7.out).mono ?_);rintro e w' ⟨rfl,⟨nd,rfl⟩⟩;refine ⟨_,rfl,?_⟩)|((with_reducible refine gate_callee (f:=38) rfl ?_);refine goesL_ (some 41) rfl rfl Try.func38 (by kernel_rfl) rfl #[.agg #[.int .i64 a0_0,.int .i64 a0_1,.slice A0_2 l0_2.length c0_2,.slice A0_3 l0_3.length c0_3],.int .i64 a1,.int .i64 a2,.int .i64 a3] rfl ga_ ?_;(with_reducible refine (lane_choose.calls k a0_0 a0_1 _ _ l0_2 _ _ l0_3 a1 a2 a3 t141 t142 _ ?_ ?_ ?_ ?_ A19.out).mono ?_);(focus (repeat (first|exact (Kd.C_below HR0_2.out (hb_))|(with_reducible refine Kd.C_alloc ?_ _)|(with_reducible refine Kd.C_drewN ?_ _)|(with_reducible refine Kd.C_drew ?_))));exact HC0_2.out;(focus (repeat (first|exact (Kd.C_below HR0_3.out (hb_))|(with_reducible refine Kd.C_alloc ?_ _)|(with_reducible refine Kd.C_drewN ?_ _)|(with_reducible refine Kd.C_drew ?_))));exact HC0_3.out;rintro e w24 ⟨rfl,hb⟩;refine ⟨_,rfl,?_⟩;replace BK138:=bkb BK138 hb;replace HB:=hbs hb))
    go_ret3
    exact ⟨er_,hb_⟩
 ·replace c8:=Bool.eq_false_iff.mpr c8
  subst c8
  have H1 : (some (0,false,2)) = some (r1,r2,r3):=by rw [if_neg (show ¬ (false = true) by decide)] at H;exact H
  clear H
  have H:=H1
  clear H1
  simp only [Option.some.injEq,Prod.mk.injEq] at H
  obtain ⟨rfl,rfl,rfl⟩:=H
  go_enter Try.func15,Try.ntmps15
  go_wp2_with (first|((with_reducible refine gate_dst (N:=4) rfl ?_);refine box_ev (N:=4) (cs:=#[.int .i64 a0_0,.int .i64 a0_1,.slice A0_2 l0_2.length c0_2,.slice A0_3 l0_3.length c0_3]) (t:=24) ?_;intro gb138 hg w25 hbox hb;have BK138:=Aside0.mk (hbox);have GW138 : Aside0 (w.heap.size ≤ gb138):=gsz hg;have GE138:=GW138;replace HB:=hbs hb;clear hb hbox hg;obtain ⟨_,_,_,_,_,_,_,_⟩:=cells4 BK138.out)|((with_reducible refine gate_callee (f:=36) rfl ?_);refine goesL_ (some 15) rfl rfl Try.func36 (by kernel_rfl) rfl #[.agg #[.int .i64 a0_0,.int .i64 a0_1,.slice A0_2 l0_2.length c0_2,.slice A0_3 l0_3.length c0_3]] rfl ga_ ?_;(with_reducible refine (road_Validate.calls k a0_0 a0_1 _ _ l0_2 _ _ l0_3 t139 _ ?_ ?_ ?_ ?_ A5.out).mono ?_);exact cq HR0_2;exact HC0_2.out;exact cq HR0_3;exact HC0_3.out;rintro e w27 ⟨rfl,hb⟩;refine ⟨_,rfl,?_⟩;replace BK138:=bkb BK138 hb;replace HB:=hbs hb;obtain ⟨_,_,_,_,_,_,_,_⟩:=cells4 BK138.out)|((with_reducible refine gate_callee (f:=37) rfl ?_);refine goesL_ (some 27) rfl rfl Try.func37 (by kernel_rfl) rfl #[.int .i64 a1,.int .i64 (wrap64 ((wrap64 (a0_0 * a0_1)) - 1))] rfl ga_ ?_;(with_reducible refine (lane_within.calls a1 (wrap64 ((wrap64 (a0_0 * a0_1)) - 1)) false _ A7.out).mono ?_);rintro e w' ⟨rfl,⟨nd,rfl⟩⟩;refine ⟨_,rfl,?_⟩))
  go_ret3
  exact ⟨er_,hb_⟩

/-! ### hinterlandlaw17_known: function 13 -/
def hinterlandlaw17_known.j0 : Nat → Bool → Option (Bool)
 | 0,_ => none
 | k + 1,x0 => some x0
def hinterlandlaw17_known.f (k : Nat)  : Option (Bool) := if 16 ≤ 35184372088832 then ((some (List.replicate 16 0 : List Int)).bind fun y143 => (if 0 < (y143.length : Int) then (if 1 < (y143.length : Int) then ((lane_Choose.f k 4 4 ((y143.set (0 : Int).toNat 1).set (1 : Int).toNat 4) (List.replicate 16 0) 1 (-1) 0).bind fun bt152 => (if bt152.1 = 2 then (if bt152.2.1 = true then (hinterlandlaw17_known.j0 k (bt152.2.2 == 0)) else (hinterlandlaw17_known.j0 k false)) else (hinterlandlaw17_known.j0 k false))) else (none)) else (none))) else (none)
theorem hinterlandlaw17_known.mono_l : ∀ k, (∀ y0, LeO (hinterlandlaw17_known.j0 k y0) (hinterlandlaw17_known.j0 (k + 1) y0))
 | 0 => fun _ r h => by simp [hinterlandlaw17_known.j0] at h
 | k + 1 => by
  have ih0:=hinterlandlaw17_known.mono_l k
  ·intro y0
   unfold hinterlandlaw17_known.j0
   repeat' first
   | (with_reducible exact ih0 _)
   | (with_reducible exact lane_Choose.mono _ _ _ _ _ _ _ _)
   | (with_reducible exact LeO.refl _)
   | (with_reducible exact LeO.none _)
   | (with_reducible refine LeO.ite ?_ ?_)
   | (with_reducible refine LeO.bind ?_ (fun _ => ?_))
   | exact ih0 _
   | exact lane_Choose.mono _ _ _ _ _ _ _ _
   | exact LeO.none _
   | refine LeO.ite ?_ ?_
   | refine LeO.bind ?_ (fun _ => ?_)
theorem hinterlandlaw17_known.mono : ∀ k, LeO (hinterlandlaw17_known.f k ) (hinterlandlaw17_known.f (k + 1) ) := by
 intro  k
 have ih0:=hinterlandlaw17_known.mono_l k
 unfold hinterlandlaw17_known.f
 repeat' first
   | (with_reducible exact ih0 _)
   | (with_reducible exact lane_Choose.mono _ _ _ _ _ _ _ _)
   | (with_reducible exact LeO.refl _)
   | (with_reducible exact LeO.none _)
   | (with_reducible refine LeO.ite ?_ ?_)
   | (with_reducible refine LeO.bind ?_ (fun _ => ?_))
   | exact ih0 _
   | exact lane_Choose.mono _ _ _ _ _ _ _ _
   | exact LeO.none _
   | refine LeO.ite ?_ ?_
   | refine LeO.bind ?_ (fun _ => ?_)
set_option maxHeartbeats 8000000 in
set_option maxRecDepth 100000 in
theorem hinterlandlaw17_known.calls (k : Nat)  (r : Bool) (w : World) (h : hinterlandlaw17_known.f k  = some r) :
  Calls Try.prog 13 #[] w fun e w' => e = .returned (.bool r) ∧ Below w.heap.size w w':=by
 have hu24:=Try.underlying24
 have HB:=Aside0.mk (Below.refl w.heap.size w)
 have H : (if 16 ≤ 35184372088832 then ((some (List.replicate 16 0 : List Int)).bind fun y143 => (if 0 < (y143.length : Int) then (if 1 < (y143.length : Int) then ((lane_Choose.f k 4 4 ((y143.set (0 : Int).toNat 1).set (1 : Int).toNat 4) (List.replicate 16 0) 1 (-1) 0).bind fun bt152 => (if bt152.1 = 2 then (if bt152.2.1 = true then (hinterlandlaw17_known.j0 k (bt152.2.2 == 0)) else (hinterlandlaw17_known.j0 k false)) else (hinterlandlaw17_known.j0 k false))) else (none)) else (none))) else (none)) = some r:=h
 clear h
 replace H:=ifp_ H;obtain ⟨c1,H⟩:=H
 have c1b0:=eq_true c1
 have c1b1 : decide (16 ≤ 35184372088832) = true:=decide_eq_true c1
 clear c1
 obtain ⟨y143,hy143⟩ : ∃ y_ : List Int,y_ = (List.replicate 16 0):=⟨_,rfl⟩
 replace H : (if 0 < (y143.length : Int) then (if 1 < (y143.length : Int) then ((lane_Choose.f k 4 4 ((y143.set (0 : Int).toNat 1).set (1 : Int).toNat 4) (List.replicate 16 0) 1 (-1) 0).bind fun bt152 => (if bt152.1 = 2 then (if bt152.2.1 = true then (hinterlandlaw17_known.j0 k (bt152.2.2 == 0)) else (hinterlandlaw17_known.j0 k false)) else (hinterlandlaw17_known.j0 k false))) else (none)) else (none)) = some r:=by first|(rw [hy143];with_reducible exact H)|(have H2_:=(Option.bind_some _ _).symm.trans H;rw [hy143];with_reducible exact H2_)|(have H2_:=(Option.bind_some _ _).symm.trans H;with_reducible exact H2_)|with_reducible exact H|(rw [hy143];exact H)|exact H
 have Ny143:=Aside0.mk hy143
 clear hy143
 obtain ⟨y146,hy146⟩ : ∃ y_ : List Int,y_ = (List.replicate 16 0):=⟨_,rfl⟩
 replace H : (if 0 < (y143.length : Int) then (if 1 < (y143.length : Int) then ((lane_Choose.f k 4 4 ((y143.set (0 : Int).toNat 1).set (1 : Int).toNat 4) y146 1 (-1) 0).bind fun bt152 => (if bt152.1 = 2 then (if bt152.2.1 = true then (hinterlandlaw17_known.j0 k (bt152.2.2 == 0)) else (hinterlandlaw17_known.j0 k false)) else (hinterlandlaw17_known.j0 k false))) else (none)) else (none)) = some r:=by first|(rw [hy146];with_reducible exact H)|(have H2_:=(Option.bind_some _ _).symm.trans H;rw [hy146];with_reducible exact H2_)|(have H2_:=(Option.bind_some _ _).symm.trans H;with_reducible exact H2_)|with_reducible exact H|(rw [hy146];exact H)|exact H
 have Ny146:=Aside0.mk hy146
 clear hy146
 replace H:=ifp_ H;obtain ⟨c2,H⟩:=H
 have c2b0 : decide (0 < (y143.length : Int)) = true:=decide_eq_true c2
 have c2b1 : decide (0 < y143.length) = true:=decide_eq_true (by omega)
 clear c2
 obtain ⟨y150,hy150⟩ : ∃ y_ : List Int,y_ = (y143.set (0 : Int).toNat 1):=⟨_,rfl⟩
 replace H : (if 1 < (y143.length : Int) then ((lane_Choose.f k 4 4 (y150.set (1 : Int).toNat 4) y146 1 (-1) 0).bind fun bt152 => (if bt152.1 = 2 then (if bt152.2.1 = true then (hinterlandlaw17_known.j0 k (bt152.2.2 == 0)) else (hinterlandlaw17_known.j0 k false)) else (hinterlandlaw17_known.j0 k false))) else (none)) = some r:=by first|(rw [hy150];with_reducible exact H)|(have H2_:=(Option.bind_some _ _).symm.trans H;rw [hy150];with_reducible exact H2_)|(have H2_:=(Option.bind_some _ _).symm.trans H;with_reducible exact H2_)|with_reducible exact H|(rw [hy150];exact H)|exact H
 have Ny150:=Aside0.mk hy150
 clear hy150
 replace H:=ifp_ H;obtain ⟨c4,H⟩:=H
 have c4b0 : decide (1 < (y143.length : Int)) = true:=decide_eq_true c4
 have c4b1 : decide (1 < y143.length) = true:=decide_eq_true (by omega)
 clear c4
 obtain ⟨y151,hy151⟩ : ∃ y_ : List Int,y_ = (y150.set (1 : Int).toNat 4):=⟨_,rfl⟩
 replace H : ((lane_Choose.f k 4 4 y151 y146 1 (-1) 0).bind fun bt152 => (if bt152.1 = 2 then (if bt152.2.1 = true then (hinterlandlaw17_known.j0 k (bt152.2.2 == 0)) else (hinterlandlaw17_known.j0 k false)) else (hinterlandlaw17_known.j0 k false))) = some r:=by first|(rw [hy151];with_reducible exact H)|(have H2_:=(Option.bind_some _ _).symm.trans H;rw [hy151];with_reducible exact H2_)|(have H2_:=(Option.bind_some _ _).symm.trans H;with_reducible exact H2_)|with_reducible exact H|(rw [hy151];exact H)|exact H
 have Ny151:=Aside0.mk hy151
 clear hy151
 replace H:=Option.bind_eq_some_iff.mp H
 obtain ⟨⟨t152,t153,t154⟩,A60,H⟩:=H
 replace H : (if t152 = 2 then (if t153 = true then (hinterlandlaw17_known.j0 k (t154 == 0)) else (hinterlandlaw17_known.j0 k false)) else (hinterlandlaw17_known.j0 k false)) = some r:=H
 have A6:=Aside0.mk A60
 clear A60
 have HC7:=Aside0.mk H
 clear H
 go_enter Try.func13,Try.ntmps13
 try go_wp2
 replace HB:=Aside0.mk (below_drew1 HB.out)
 refine start_ (n:=5) (S:=fun w' => True) (ds:=[]) #[false,false,false,false,false] (by kernel_rfl) rfl rfl trivial (fun hHeld => ?_)
 generalize w.drew = w8 at HB hHeld ⊢
 refine join_ (σ:=Value × Value × Nat) 1 #[true,true,true,true,false] (fun s_ => [(5,s_.1),(6,s_.2.1),(1,.pointer (some ⟨s_.2.2,0,none⟩)),(7,.agg #[.int .i64 4,.int .i64 4,s_.1,s_.2.1])]) (fun s_ w' => (Kd.R (Kd.int .i64) 3 w' w.heap.size (fun k_ => some k_ ≠ (s_.2.1 : Value).ownBlock) s_.1 y143) ∧ (Kd.R (Kd.int .i64) 3 w' w.heap.size (fun k_ => some k_ ≠ (s_.1 : Value).ownBlock) s_.2.1 y146) ∧ (w'.heap[s_.2.2]? = some (.cells #[.int .i64 0,.int .i64 0,.slice none 0 0,.slice none 0 0] 24 (0,0))) ∧ (w.heap.size ≤ s_.2.2) ∧ (w.heap.size ≤ s_.2.2) ∧ (Below w.heap.size w w')) ?_ ?_
 rotate_left
 ·intro hJ0_1_3
  refine join_ (σ:=Value × Value) 2 #[true,true,true,false,false] (fun s_ => [(5,s_.1),(6,s_.2),(7,.agg #[.int .i64 4,.int .i64 4,s_.1,s_.2])]) (fun s_ w' => (Kd.R (Kd.int .i64) 3 w' w.heap.size (fun k_ => some k_ ≠ (s_.2 : Value).ownBlock) s_.1 y143) ∧ (Kd.R (Kd.int .i64) 3 w' w.heap.size (fun k_ => some k_ ≠ (s_.1 : Value).ownBlock) s_.2 y146) ∧ (Below w.heap.size w w')) ?_ ?_
  rotate_left
  ·intro hJ0_1
   refine join_ (σ:=Value × Nat) 3 #[true,false,false,true,false] (fun s_ => [(5,s_.1),(1,.pointer (some ⟨s_.2,0,none⟩))]) (fun s_ w' => (Kd.R (Kd.int .i64) 3 w' w.heap.size (fun _ => True) s_.1 y143) ∧ (w'.heap[s_.2]? = some (.cells #[.int .i64 0,.int .i64 0,.slice none 0 0,.slice none 0 0] 24 (0,0))) ∧ (w.heap.size ≤ s_.2) ∧ (w.heap.size ≤ s_.2) ∧ (Below w.heap.size w w')) ?_ ?_
   rotate_left
   ·intro hJ0_3
    refine join_ (σ:=Value × Nat) 3 #[false,true,false,true,false] (fun s_ => [(6,s_.1),(1,.pointer (some ⟨s_.2,0,none⟩))]) (fun s_ w' => (Kd.R (Kd.int .i64) 3 w' w.heap.size (fun _ => True) s_.1 y146) ∧ (w'.heap[s_.2]? = some (.cells #[.int .i64 0,.int .i64 0,.slice none 0 0,.slice none 0 0] 24 (0,0))) ∧ (w.heap.size ≤ s_.2) ∧ (w.heap.size ≤ s_.2) ∧ (Below w.heap.size w w')) ?_ ?_
    rotate_left
    ·intro hJ1_3
     refine join_ (σ:=Value) 4 #[true,false,false,false,false] (fun s_ => [(5,s_)]) (fun s_ w' => (Kd.R (Kd.int .i64) 3 w' w.heap.size (fun _ => True) s_ y143) ∧ (Below w.heap.size w w')) ?_ ?_
     rotate_left
     ·intro hJ0
      refine join_ (σ:=Value) 4 #[false,true,false,false,false] (fun s_ => [(6,s_)]) (fun s_ w' => (Kd.R (Kd.int .i64) 3 w' w.heap.size (fun _ => True) s_ y146) ∧ (Below w.heap.size w w')) ?_ ?_
      rotate_left
      ·intro hJ1
       refine join_ (σ:=Nat) 4 #[false,false,false,true,false] (fun s_ => [(1,.pointer (some ⟨s_,0,none⟩))]) (fun s_ w' => (w'.heap[s_]? = some (.cells #[.int .i64 0,.int .i64 0,.slice none 0 0,.slice none 0 0] 24 (0,0))) ∧ (w.heap.size ≤ s_) ∧ (w.heap.size ≤ s_) ∧ (Below w.heap.size w w')) ?_ ?_
       rotate_left
       ·intro hJ3
        refine three_ (i:=0) (j:=1) (k:=3) (Ni:=some 5) (Nj:=some 6) (Nk:=some 1) #[true,false,false,false,false] #[false,true,false,false,false] #[false,false,false,true,false] rfl rfl rfl rfl rfl rfl (by kernel_rfl) (by decide) (by decide) (by decide) (fun K hK => ?_) (fun K hK => ?_) (fun K hK => ?_)
        ·skip
         refine Kd.R_make_step (Kd.int .i64) _ 3 (by rfl) (N:=5) rfl 22 _ _ rfl 16 rfl rfl Try.underlying22 (.int .i64 0) 8 info3 rfl (by decide) (by omega) 0 (ok:=fun _ => True) (okp:=fun _ => True) rfl (fun _ hk => hk) trivial (by omega) (by omega) (Below.refl _ _) (Nat.le_refl _) ?_
         intro v144 w9 ho10 hb hg_ hnew_
         clear hg_ hnew_
         (first|rw [← Ny143.out] at ho10|(simp only [Int.reduceToNat] at ho10;rw [← Ny143.out] at ho10))
         have n0_:=rlo ho10
         have n1_:=Aside0.mk (below_step (hb_) hb)
         clear HB
         have HO145:=n0_
         have HB:=n1_
         clear n0_ n1_
         clear hb ho10
         refine hK.out _ _ trivial (fun hHeld => ?_)
         clear hK K
         refine norm_ (a':=?_) ?_ ?_
         rotate_left
         ·show Act.put _ (some 5) _ = _
          simp only [Act.put,List.setIfInBounds_toArray,List.set_cons_zero,List.set_cons_succ,i64_w,i32_w]
          rfl
         exact norm_ (by first|(simp only [putAll,Act.put,List.setIfInBounds_toArray,List.set_cons_zero,List.set_cons_succ];done)|(simp only [putAll,Act.put,List.setIfInBounds_toArray,List.set_cons_zero,List.set_cons_succ];rfl)) (hJ0 (v144) _ ⟨(Kd.R_up HO145.out),(hb_)⟩)
        ·skip
         refine Kd.R_make_step (Kd.int .i64) _ 3 (by rfl) (N:=6) rfl 22 _ _ rfl 16 rfl rfl Try.underlying22 (.int .i64 0) 8 info3 rfl (by decide) (by omega) 0 (ok:=fun _ => True) (okp:=fun _ => True) rfl (fun _ hk => hk) trivial (by omega) (by omega) (Below.refl _ _) (Nat.le_refl _) ?_
         intro v147 w9 ho10 hb hg_ hnew_
         clear hg_ hnew_
         (first|rw [← Ny146.out] at ho10|(simp only [Int.reduceToNat] at ho10;rw [← Ny146.out] at ho10))
         have n0_:=rlo ho10
         have n1_:=Aside0.mk (below_step (hb_) hb)
         clear HB
         have HO148:=n0_
         have HB:=n1_
         clear n0_ n1_
         clear hb ho10
         refine hK.out _ _ trivial (fun hHeld => ?_)
         clear hK K
         refine norm_ (a':=?_) ?_ ?_
         rotate_left
         ·show Act.put _ (some 6) _ = _
          simp only [Act.put,List.setIfInBounds_toArray,List.set_cons_zero,List.set_cons_succ,i64_w,i32_w]
          rfl
         exact norm_ (by first|(simp only [putAll,Act.put,List.setIfInBounds_toArray,List.set_cons_zero,List.set_cons_succ];done)|(simp only [putAll,Act.put,List.setIfInBounds_toArray,List.set_cons_zero,List.set_cons_succ];rfl)) (hJ1 (v147) _ ⟨(Kd.R_up HO148.out),(hb_)⟩)
        ·skip
         refine box_step ?hg (N:=1) ?hd (cs:=#[.int .i64 0,.int .i64 0,.slice none 0 0,.slice none 0 0]) (t:=24) ?hr ?_;(case hd => rfl);(case hg => rfl);(case hr => first|(go_simp;done)|(go_simp;rfl))
         intro gb149 hg w9 hbox hb
         have n0_:=Aside0.mk (below_step (hb_) hb)
         have n1_:=Aside0.mk (hbox)
         have n2_:=Aside0.mk ((by rw [hg];exact (below_size (hb_)) : w.heap.size ≤ gb149))
         have n3_:=Aside0.mk ((by rw [hg];exact (below_size (hb_)) : w.heap.size ≤ gb149))
         clear HB
         have HB:=n0_
         have BK149:=n1_
         have GW149:=n2_
         have GE149:=n3_
         clear n0_ n1_ n2_ n3_
         clear hb hbox hg
         refine hK.out _ _ trivial (fun hHeld => ?_)
         clear hK K
         refine norm_ (a':=?_) ?_ ?_
         rotate_left
         ·show Act.put _ (some 1) _ = _
          simp only [Act.put,List.setIfInBounds_toArray,List.set_cons_zero,List.set_cons_succ,i64_w,i32_w]
          rfl
         exact norm_ (by first|(simp only [putAll,Act.put,List.setIfInBounds_toArray,List.set_cons_zero,List.set_cons_succ];done)|(simp only [putAll,Act.put,List.setIfInBounds_toArray,List.set_cons_zero,List.set_cons_succ];rfl)) (hJ3 (gb149) _ ⟨(blk_up BK149.out),GW149.out,GE149.out,(hb_)⟩)
       ·skip
        rintro gb149 w10 ⟨h0_,h1_,h2_,h3_⟩
        have n0_ : Aside0 (w10.heap[gb149]? = some (.cells #[.int .i64 0,.int .i64 0,.slice none 0 0,.slice none 0 0] 24 (0,0))):=⟨h0_⟩
        have n1_ : Aside0 (w.heap.size ≤ gb149):=⟨h1_⟩
        have n2_ : Aside0 (w.heap.size ≤ gb149):=⟨h2_⟩
        have n3_ : Aside0 (Below w.heap.size w w10):=⟨h3_⟩
        clear HB
        clear h0_ h1_ h2_ h3_
        have BK149:=n0_
        have GW149:=n1_
        have GE149:=n2_
        have HB:=n3_
        clear n0_ n1_ n2_ n3_
        have hHeld:=trivial
        refine norm_ (a':=?_) ?_ ?_
        rotate_left
        ·simp only [putAll,Act.put,List.setIfInBounds_toArray,List.set_cons_zero,List.set_cons_succ]
         rfl
        refine two_ (i:=0) (j:=1) (Ni:=some 5) (Nj:=some 6) #[true,false,false,true,false] #[false,true,false,true,false] rfl rfl rfl rfl (by kernel_rfl) (by decide) (by decide) (fun K hK => ?_) (fun K hK => ?_)
        ·skip
         refine Kd.R_make_step (Kd.int .i64) _ 3 (by rfl) (N:=5) rfl 22 _ _ rfl 16 rfl rfl Try.underlying22 (.int .i64 0) 8 info3 rfl (by decide) (by omega) 0 (ok:=fun _ => True) (okp:=fun _ => True) rfl (fun _ hk => hk) trivial (by omega) (by omega) (Below.refl _ _) (Nat.le_refl _) ?_
         intro v144 w11 ho12 hb hg_ hnew_
         clear hg_ hnew_
         (first|rw [← Ny143.out] at ho12|(simp only [Int.reduceToNat] at ho12;rw [← Ny143.out] at ho12))
         have n0_:=rlo ho12
         have n1_:=bkb BK149 hb
         have n2_:=Aside0.mk (below_step (hb_) hb)
         clear BK149
         clear HB
         have HO145:=n0_
         have BK149:=n1_
         have HB:=n2_
         clear n0_ n1_ n2_
         clear hb ho12
         refine hK.out _ _ trivial (fun hHeld => ?_)
         clear hK K
         refine norm_ (a':=?_) ?_ ?_
         rotate_left
         ·show Act.put _ (some 5) _ = _
          simp only [Act.put,List.setIfInBounds_toArray,List.set_cons_zero,List.set_cons_succ,i64_w,i32_w]
          rfl
         exact norm_ (by first|(simp only [putAll,Act.put,List.setIfInBounds_toArray,List.set_cons_zero,List.set_cons_succ];done)|(simp only [putAll,Act.put,List.setIfInBounds_toArray,List.set_cons_zero,List.set_cons_succ];rfl)) (hJ0_3 (v144,gb149) _ ⟨(Kd.R_up HO145.out),(blk_up BK149.out),GW149.out,GE149.out,(hb_)⟩)
        ·skip
         refine Kd.R_make_step (Kd.int .i64) _ 3 (by rfl) (N:=6) rfl 22 _ _ rfl 16 rfl rfl Try.underlying22 (.int .i64 0) 8 info3 rfl (by decide) (by omega) 0 (ok:=fun _ => True) (okp:=fun _ => True) rfl (fun _ hk => hk) trivial (by omega) (by omega) (Below.refl _ _) (Nat.le_refl _) ?_
         intro v147 w11 ho12 hb hg_ hnew_
         clear hg_ hnew_
         (first|rw [← Ny146.out] at ho12|(simp only [Int.reduceToNat] at ho12;rw [← Ny146.out] at ho12))
         have n0_:=rlo ho12
         have n1_:=bkb BK149 hb
         have n2_:=Aside0.mk (below_step (hb_) hb)
         clear BK149
         clear HB
         have HO148:=n0_
         have BK149:=n1_
         have HB:=n2_
         clear n0_ n1_ n2_
         clear hb ho12
         refine hK.out _ _ trivial (fun hHeld => ?_)
         clear hK K
         refine norm_ (a':=?_) ?_ ?_
         rotate_left
         ·show Act.put _ (some 6) _ = _
          simp only [Act.put,List.setIfInBounds_toArray,List.set_cons_zero,List.set_cons_succ,i64_w,i32_w]
          rfl
         exact norm_ (by first|(simp only [putAll,Act.put,List.setIfInBounds_toArray,List.set_cons_zero,List.set_cons_succ];done)|(simp only [putAll,Act.put,List.setIfInBounds_toArray,List.set_cons_zero,List.set_cons_succ];rfl)) (hJ1_3 (v147,gb149) _ ⟨(Kd.R_up HO148.out),(blk_up BK149.out),GW149.out,GE149.out,(hb_)⟩)
      ·skip
       rintro v147 w11 ⟨h0_,h1_⟩
       have n0_ : Aside0 (Kd.R (Kd.int .i64) 3 w11 w.heap.size (fun _ => True) v147 y146):=⟨h0_⟩
       have n1_ : Aside0 (Below w.heap.size w w11):=⟨h1_⟩
       clear HB
       clear h0_ h1_
       have HO148:=n0_
       have HB:=n1_
       clear n0_ n1_
       have hHeld:=trivial
       refine norm_ (a':=?_) ?_ ?_
       rotate_left
       ·simp only [putAll,Act.put,List.setIfInBounds_toArray,List.set_cons_zero,List.set_cons_succ]
        rfl
       refine two_ (i:=0) (j:=3) (Ni:=some 5) (Nj:=some 1) #[true,true,false,false,false] #[false,true,false,true,false] rfl rfl rfl rfl (by kernel_rfl) (by decide) (by decide) (fun K hK => ?_) (fun K hK => ?_)
       ·skip
        refine Kd.R_make_step (Kd.int .i64) _ 3 (by rfl) (N:=5) rfl 22 _ _ rfl 16 rfl rfl Try.underlying22 (.int .i64 0) 8 info3 rfl (by decide) (by omega) 0 (ok:=fun _ => True) (okp:=fun _ => True) rfl (fun _ hk => hk) trivial (by omega) (by omega) (Below.refl _ _) (Nat.le_refl _) ?_
        intro v144 w12 ho13 hb hg_ hnew_
        clear hg_ hnew_
        (first|rw [← Ny143.out] at ho13|(simp only [Int.reduceToNat] at ho13;rw [← Ny143.out] at ho13))
        have n0_:=Aside0.mk (Kd.R_elder' (Kd.R_up HO148.out) (Kd.R_base ho13) hb)
        have n1_:=Aside0.mk (Kd.R_lower (Kd.R_new' ho13 (Kd.R_lt (Kd.R_up HO148.out))) (below_size (hb_)))
        have n2_:=Aside0.mk (below_step (hb_) hb)
        clear HO148
        clear HB
        have HO148:=n0_
        have HO145:=n1_
        have HB:=n2_
        clear n0_ n1_ n2_
        clear hb ho13
        obtain ⟨Ao14,co14,eo14⟩:=Kd.R_slice HO148.out
        (first|subst eo14|(injection eo14 with f1_ f2_ f3_;have f4_:=f1_.symm;have f5_:=f3_.symm;clear f1_ f2_ f3_;subst f4_;subst f5_))
        obtain ⟨Ao15,co15,eo15⟩:=Kd.R_slice HO145.out
        (first|subst eo15|(injection eo15 with f1_ f2_ f3_;have f4_:=f1_.symm;have f5_:=f3_.symm;clear f1_ f2_ f3_;subst f4_;subst f5_))
        refine hK.out _ _ trivial (fun hHeld => ?_)
        clear hK K
        refine norm_ (a':=?_) ?_ ?_
        rotate_left
        ·show Act.put _ (some 5) _ = _
         simp only [Act.put,List.setIfInBounds_toArray,List.set_cons_zero,List.set_cons_succ,i64_w,i32_w]
         rfl
        refine pI 2 (some 7) ?_
        exact norm_ (by first|(simp only [putAll,Act.put,List.setIfInBounds_toArray,List.set_cons_zero,List.set_cons_succ];done)|(simp only [putAll,Act.put,List.setIfInBounds_toArray,List.set_cons_zero,List.set_cons_succ];rfl)) (hJ0_1 (.slice Ao15 y143.length co15,.slice Ao14 y146.length co14) _ ⟨(by (with_reducible repeat (first|apply Kd.R_alloc|apply Kd.R_drewN|apply Kd.R_drew));exact Kd.R_mono HO145.out (fun _ hk => hk.2)),(by (with_reducible repeat (first|apply Kd.R_alloc|apply Kd.R_drewN|apply Kd.R_drew));exact Kd.R_mono HO148.out (fun _ hk => hk.2)),(hb_)⟩)
       ·skip
        refine box_step ?hg (N:=1) ?hd (cs:=#[.int .i64 0,.int .i64 0,.slice none 0 0,.slice none 0 0]) (t:=24) ?hr ?_;(case hd => rfl);(case hg => rfl);(case hr => first|(go_simp;done)|(go_simp;rfl))
        intro gb149 hg w12 hbox hb
        have n0_:=rbw HO148 hb
        have n1_:=Aside0.mk (below_step (hb_) hb)
        have n2_:=Aside0.mk (hbox)
        have n3_:=Aside0.mk ((by rw [hg];exact (below_size (hb_)) : w.heap.size ≤ gb149))
        have n4_:=Aside0.mk ((by rw [hg];exact (below_size (hb_)) : w.heap.size ≤ gb149))
        clear HO148
        clear HB
        have HO148:=n0_
        have HB:=n1_
        have BK149:=n2_
        have GW149:=n3_
        have GE149:=n4_
        clear n0_ n1_ n2_ n3_ n4_
        clear hb hbox hg
        refine hK.out _ _ trivial (fun hHeld => ?_)
        clear hK K
        refine norm_ (a':=?_) ?_ ?_
        rotate_left
        ·show Act.put _ (some 1) _ = _
         simp only [Act.put,List.setIfInBounds_toArray,List.set_cons_zero,List.set_cons_succ,i64_w,i32_w]
         rfl
        exact norm_ (by first|(simp only [putAll,Act.put,List.setIfInBounds_toArray,List.set_cons_zero,List.set_cons_succ];done)|(simp only [putAll,Act.put,List.setIfInBounds_toArray,List.set_cons_zero,List.set_cons_succ];rfl)) (hJ1_3 (v147,gb149) _ ⟨(Kd.R_up HO148.out),(blk_up BK149.out),GW149.out,GE149.out,(hb_)⟩)
     ·skip
      rintro v144 w11 ⟨h0_,h1_⟩
      have n0_ : Aside0 (Kd.R (Kd.int .i64) 3 w11 w.heap.size (fun _ => True) v144 y143):=⟨h0_⟩
      have n1_ : Aside0 (Below w.heap.size w w11):=⟨h1_⟩
      clear HB
      clear h0_ h1_
      have HO145:=n0_
      have HB:=n1_
      clear n0_ n1_
      have hHeld:=trivial
      refine norm_ (a':=?_) ?_ ?_
      rotate_left
      ·simp only [putAll,Act.put,List.setIfInBounds_toArray,List.set_cons_zero,List.set_cons_succ]
       rfl
      refine two_ (i:=1) (j:=3) (Ni:=some 6) (Nj:=some 1) #[true,true,false,false,false] #[true,false,false,true,false] rfl rfl rfl rfl (by kernel_rfl) (by decide) (by decide) (fun K hK => ?_) (fun K hK => ?_)
      ·skip
       refine Kd.R_make_step (Kd.int .i64) _ 3 (by rfl) (N:=6) rfl 22 _ _ rfl 16 rfl rfl Try.underlying22 (.int .i64 0) 8 info3 rfl (by decide) (by omega) 0 (ok:=fun _ => True) (okp:=fun _ => True) rfl (fun _ hk => hk) trivial (by omega) (by omega) (Below.refl _ _) (Nat.le_refl _) ?_
       intro v147 w12 ho13 hb hg_ hnew_
       clear hg_ hnew_
       (first|rw [← Ny146.out] at ho13|(simp only [Int.reduceToNat] at ho13;rw [← Ny146.out] at ho13))
       have n0_:=Aside0.mk (Kd.R_elder' (Kd.R_up HO145.out) (Kd.R_base ho13) hb)
       have n1_:=Aside0.mk (Kd.R_lower (Kd.R_new' ho13 (Kd.R_lt (Kd.R_up HO145.out))) (below_size (hb_)))
       have n2_:=Aside0.mk (below_step (hb_) hb)
       clear HO145
       clear HB
       have HO145:=n0_
       have HO148:=n1_
       have HB:=n2_
       clear n0_ n1_ n2_
       clear hb ho13
       obtain ⟨Ao14,co14,eo14⟩:=Kd.R_slice HO148.out
       (first|subst eo14|(injection eo14 with f1_ f2_ f3_;have f4_:=f1_.symm;have f5_:=f3_.symm;clear f1_ f2_ f3_;subst f4_;subst f5_))
       obtain ⟨Ao15,co15,eo15⟩:=Kd.R_slice HO145.out
       (first|subst eo15|(injection eo15 with f1_ f2_ f3_;have f4_:=f1_.symm;have f5_:=f3_.symm;clear f1_ f2_ f3_;subst f4_;subst f5_))
       refine hK.out _ _ trivial (fun hHeld => ?_)
       clear hK K
       refine norm_ (a':=?_) ?_ ?_
       rotate_left
       ·show Act.put _ (some 6) _ = _
        simp only [Act.put,List.setIfInBounds_toArray,List.set_cons_zero,List.set_cons_succ,i64_w,i32_w]
        rfl
       refine pI 2 (some 7) ?_
       exact norm_ (by first|(simp only [putAll,Act.put,List.setIfInBounds_toArray,List.set_cons_zero,List.set_cons_succ];done)|(simp only [putAll,Act.put,List.setIfInBounds_toArray,List.set_cons_zero,List.set_cons_succ];rfl)) (hJ0_1 (.slice Ao15 y143.length co15,.slice Ao14 y146.length co14) _ ⟨(by (with_reducible repeat (first|apply Kd.R_alloc|apply Kd.R_drewN|apply Kd.R_drew));exact Kd.R_mono HO145.out (fun _ hk => hk.2)),(by (with_reducible repeat (first|apply Kd.R_alloc|apply Kd.R_drewN|apply Kd.R_drew));exact Kd.R_mono HO148.out (fun _ hk => hk.2)),(hb_)⟩)
      ·skip
       refine box_step ?hg (N:=1) ?hd (cs:=#[.int .i64 0,.int .i64 0,.slice none 0 0,.slice none 0 0]) (t:=24) ?hr ?_;(case hd => rfl);(case hg => rfl);(case hr => first|(go_simp;done)|(go_simp;rfl))
       intro gb149 hg w12 hbox hb
       have n0_:=rbw HO145 hb
       have n1_:=Aside0.mk (below_step (hb_) hb)
       have n2_:=Aside0.mk (hbox)
       have n3_:=Aside0.mk ((by rw [hg];exact (below_size (hb_)) : w.heap.size ≤ gb149))
       have n4_:=Aside0.mk ((by rw [hg];exact (below_size (hb_)) : w.heap.size ≤ gb149))
       clear HO145
       clear HB
       have HO145:=n0_
       have HB:=n1_
       have BK149:=n2_
       have GW149:=n3_
       have GE149:=n4_
       clear n0_ n1_ n2_ n3_ n4_
       clear hb hbox hg
       refine hK.out _ _ trivial (fun hHeld => ?_)
       clear hK K
       refine norm_ (a':=?_) ?_ ?_
       rotate_left
       ·show Act.put _ (some 1) _ = _
        simp only [Act.put,List.setIfInBounds_toArray,List.set_cons_zero,List.set_cons_succ,i64_w,i32_w]
        rfl
       exact norm_ (by first|(simp only [putAll,Act.put,List.setIfInBounds_toArray,List.set_cons_zero,List.set_cons_succ];done)|(simp only [putAll,Act.put,List.setIfInBounds_toArray,List.set_cons_zero,List.set_cons_succ];rfl)) (hJ0_3 (v144,gb149) _ ⟨(Kd.R_up HO145.out),(blk_up BK149.out),GW149.out,GE149.out,(hb_)⟩)
    ·skip
     rintro ⟨v147,gb149⟩ w12 ⟨h0_,h1_,h2_,h3_,h4_⟩
     have n0_ : Aside0 (Kd.R (Kd.int .i64) 3 w12 w.heap.size (fun _ => True) v147 y146):=⟨h0_⟩
     have n1_ : Aside0 (w12.heap[gb149]? = some (.cells #[.int .i64 0,.int .i64 0,.slice none 0 0,.slice none 0 0] 24 (0,0))):=⟨h1_⟩
     have n2_ : Aside0 (w.heap.size ≤ gb149):=⟨h2_⟩
     have n3_ : Aside0 (w.heap.size ≤ gb149):=⟨h3_⟩
     have n4_ : Aside0 (Below w.heap.size w w12):=⟨h4_⟩
     clear HB
     clear h0_ h1_ h2_ h3_ h4_
     have HO148:=n0_
     have BK149:=n1_
     have GW149:=n2_
     have GE149:=n3_
     have HB:=n4_
     clear n0_ n1_ n2_ n3_ n4_
     have hHeld:=trivial
     refine norm_ (a':=?_) ?_ ?_
     rotate_left
     ·simp only [putAll,Act.put,List.setIfInBounds_toArray,List.set_cons_zero,List.set_cons_succ]
      rfl
     refine oI 0 (some 5) (fun K hK => ?_)
     refine Kd.R_make_step (Kd.int .i64) _ 3 (by rfl) (N:=5) rfl 22 _ _ rfl 16 rfl rfl Try.underlying22 (.int .i64 0) 8 info3 rfl (by decide) (by omega) 0 (ok:=fun _ => True) (okp:=fun _ => True) rfl (fun _ hk => hk) trivial (by omega) (by omega) (Below.refl _ _) (Nat.le_refl _) ?_
     intro v144 w13 ho14 hb hg_ hnew_
     clear hg_ hnew_
     (first|rw [← Ny143.out] at ho14|(simp only [Int.reduceToNat] at ho14;rw [← Ny143.out] at ho14))
     have n0_:=Aside0.mk (Kd.R_elder' (Kd.R_up HO148.out) (Kd.R_base ho14) hb)
     have n1_:=Aside0.mk (Kd.R_lower (Kd.R_new' ho14 (Kd.R_lt (Kd.R_up HO148.out))) (below_size (hb_)))
     have n2_:=bkb BK149 hb
     have n3_:=Aside0.mk (below_step (hb_) hb)
     clear HO148
     clear BK149
     clear HB
     have HO148:=n0_
     have HO145:=n1_
     have BK149:=n2_
     have HB:=n3_
     clear n0_ n1_ n2_ n3_
     clear hb ho14
     obtain ⟨Ao15,co15,eo15⟩:=Kd.R_slice HO148.out
     (first|subst eo15|(injection eo15 with f1_ f2_ f3_;have f4_:=f1_.symm;have f5_:=f3_.symm;clear f1_ f2_ f3_;subst f4_;subst f5_))
     obtain ⟨Ao16,co16,eo16⟩:=Kd.R_slice HO145.out
     (first|subst eo16|(injection eo16 with f1_ f2_ f3_;have f4_:=f1_.symm;have f5_:=f3_.symm;clear f1_ f2_ f3_;subst f4_;subst f5_))
     refine hK.out _ _ trivial (fun hHeld => ?_)
     clear hK K
     refine norm_ (a':=?_) ?_ ?_
     rotate_left
     ·show Act.put _ (some 5) _ = _
      simp only [Act.put,List.setIfInBounds_toArray,List.set_cons_zero,List.set_cons_succ,i64_w,i32_w]
      rfl
     refine pI 2 (some 7) ?_
     exact norm_ (by first|(simp only [putAll,Act.put,List.setIfInBounds_toArray,List.set_cons_zero,List.set_cons_succ];done)|(simp only [putAll,Act.put,List.setIfInBounds_toArray,List.set_cons_zero,List.set_cons_succ];rfl)) (hJ0_1_3 (.slice Ao16 y143.length co16,.slice Ao15 y146.length co15,gb149) _ ⟨(by (with_reducible repeat (first|apply Kd.R_alloc|apply Kd.R_drewN|apply Kd.R_drew));exact Kd.R_mono HO145.out (fun _ hk => hk.2)),(by (with_reducible repeat (first|apply Kd.R_alloc|apply Kd.R_drewN|apply Kd.R_drew));exact Kd.R_mono HO148.out (fun _ hk => hk.2)),(blk_up BK149.out),GW149.out,GE149.out,(hb_)⟩)
   ·skip
    rintro ⟨v144,gb149⟩ w12 ⟨h0_,h1_,h2_,h3_,h4_⟩
    have n0_ : Aside0 (Kd.R (Kd.int .i64) 3 w12 w.heap.size (fun _ => True) v144 y143):=⟨h0_⟩
    have n1_ : Aside0 (w12.heap[gb149]? = some (.cells #[.int .i64 0,.int .i64 0,.slice none 0 0,.slice none 0 0] 24 (0,0))):=⟨h1_⟩
    have n2_ : Aside0 (w.heap.size ≤ gb149):=⟨h2_⟩
    have n3_ : Aside0 (w.heap.size ≤ gb149):=⟨h3_⟩
    have n4_ : Aside0 (Below w.heap.size w w12):=⟨h4_⟩
    clear HB
    clear h0_ h1_ h2_ h3_ h4_
    have HO145:=n0_
    have BK149:=n1_
    have GW149:=n2_
    have GE149:=n3_
    have HB:=n4_
    clear n0_ n1_ n2_ n3_ n4_
    have hHeld:=trivial
    refine norm_ (a':=?_) ?_ ?_
    rotate_left
    ·simp only [putAll,Act.put,List.setIfInBounds_toArray,List.set_cons_zero,List.set_cons_succ]
     rfl
    refine oI 1 (some 6) (fun K hK => ?_)
    refine Kd.R_make_step (Kd.int .i64) _ 3 (by rfl) (N:=6) rfl 22 _ _ rfl 16 rfl rfl Try.underlying22 (.int .i64 0) 8 info3 rfl (by decide) (by omega) 0 (ok:=fun _ => True) (okp:=fun _ => True) rfl (fun _ hk => hk) trivial (by omega) (by omega) (Below.refl _ _) (Nat.le_refl _) ?_
    intro v147 w13 ho14 hb hg_ hnew_
    clear hg_ hnew_
    (first|rw [← Ny146.out] at ho14|(simp only [Int.reduceToNat] at ho14;rw [← Ny146.out] at ho14))
    have n0_:=Aside0.mk (Kd.R_elder' (Kd.R_up HO145.out) (Kd.R_base ho14) hb)
    have n1_:=Aside0.mk (Kd.R_lower (Kd.R_new' ho14 (Kd.R_lt (Kd.R_up HO145.out))) (below_size (hb_)))
    have n2_:=bkb BK149 hb
    have n3_:=Aside0.mk (below_step (hb_) hb)
    clear HO145
    clear BK149
    clear HB
    have HO145:=n0_
    have HO148:=n1_
    have BK149:=n2_
    have HB:=n3_
    clear n0_ n1_ n2_ n3_
    clear hb ho14
    obtain ⟨Ao15,co15,eo15⟩:=Kd.R_slice HO148.out
    (first|subst eo15|(injection eo15 with f1_ f2_ f3_;have f4_:=f1_.symm;have f5_:=f3_.symm;clear f1_ f2_ f3_;subst f4_;subst f5_))
    obtain ⟨Ao16,co16,eo16⟩:=Kd.R_slice HO145.out
    (first|subst eo16|(injection eo16 with f1_ f2_ f3_;have f4_:=f1_.symm;have f5_:=f3_.symm;clear f1_ f2_ f3_;subst f4_;subst f5_))
    refine hK.out _ _ trivial (fun hHeld => ?_)
    clear hK K
    refine norm_ (a':=?_) ?_ ?_
    rotate_left
    ·show Act.put _ (some 6) _ = _
     simp only [Act.put,List.setIfInBounds_toArray,List.set_cons_zero,List.set_cons_succ,i64_w,i32_w]
     rfl
    refine pI 2 (some 7) ?_
    exact norm_ (by first|(simp only [putAll,Act.put,List.setIfInBounds_toArray,List.set_cons_zero,List.set_cons_succ];done)|(simp only [putAll,Act.put,List.setIfInBounds_toArray,List.set_cons_zero,List.set_cons_succ];rfl)) (hJ0_1_3 (.slice Ao16 y143.length co16,.slice Ao15 y146.length co15,gb149) _ ⟨(by (with_reducible repeat (first|apply Kd.R_alloc|apply Kd.R_drewN|apply Kd.R_drew));exact Kd.R_mono HO145.out (fun _ hk => hk.2)),(by (with_reducible repeat (first|apply Kd.R_alloc|apply Kd.R_drewN|apply Kd.R_drew));exact Kd.R_mono HO148.out (fun _ hk => hk.2)),(blk_up BK149.out),GW149.out,GE149.out,(hb_)⟩)
  ·skip
   rintro ⟨v144,v147⟩ w15 ⟨h0_,h1_,h2_⟩
   have n0_ : Aside0 (Kd.R (Kd.int .i64) 3 w15 w.heap.size (fun k_ => some k_ ≠ (v147 : Value).ownBlock) v144 y143):=⟨h0_⟩
   have n1_ : Aside0 (Kd.R (Kd.int .i64) 3 w15 w.heap.size (fun k_ => some k_ ≠ (v144 : Value).ownBlock) v147 y146):=⟨h1_⟩
   have n2_ : Aside0 (Below w.heap.size w w15):=⟨h2_⟩
   clear HB
   clear h0_ h1_ h2_
   have HO145:=n0_
   have HO148:=n1_
   have HB:=n2_
   clear n0_ n1_ n2_
   have hHeld:=trivial
   obtain ⟨Ao16,co16,eo16⟩:=Kd.R_slice HO148.out
   (first|subst eo16|(injection eo16 with f1_ f2_ f3_;have f4_:=f1_.symm;have f5_:=f3_.symm;clear f1_ f2_ f3_;subst f4_;subst f5_))
   obtain ⟨Ao17,co17,eo17⟩:=Kd.R_slice HO145.out
   (first|subst eo17|(injection eo17 with f1_ f2_ f3_;have f4_:=f1_.symm;have f5_:=f3_.symm;clear f1_ f2_ f3_;subst f4_;subst f5_))
   refine norm_ (a':=?_) ?_ ?_
   rotate_left
   ·simp only [putAll,Act.put,List.setIfInBounds_toArray,List.set_cons_zero,List.set_cons_succ]
    rfl
   refine oI 3 (some 1) (fun K hK => ?_)
   refine box_step ?hg (N:=1) ?hd (cs:=#[.int .i64 0,.int .i64 0,.slice none 0 0,.slice none 0 0]) (t:=24) ?hr ?_;(case hd => rfl);(case hg => rfl);(case hr => first|(go_simp;done)|(go_simp;rfl))
   intro gb149 hg w18 hbox hb
   have n0_:=rbw HO145 hb
   have n1_:=rbw HO148 hb
   have n2_:=Aside0.mk (below_step (hb_) hb)
   have n3_:=Aside0.mk (hbox)
   have n4_:=Aside0.mk ((by rw [hg];exact (below_size (hb_)) : w.heap.size ≤ gb149))
   have n5_:=Aside0.mk ((by rw [hg];exact (below_size (hb_)) : w.heap.size ≤ gb149))
   clear HO145
   clear HO148
   clear HB
   have HO145:=n0_
   have HO148:=n1_
   have HB:=n2_
   have BK149:=n3_
   have GW149:=n4_
   have GE149:=n5_
   clear n0_ n1_ n2_ n3_ n4_ n5_
   clear hb hbox hg
   refine hK.out _ _ trivial (fun hHeld => ?_)
   clear hK K
   refine norm_ (a':=?_) ?_ ?_
   rotate_left
   ·show Act.put _ (some 1) _ = _
    simp only [Act.put,List.setIfInBounds_toArray,List.set_cons_zero,List.set_cons_succ,i64_w,i32_w]
    rfl
   exact norm_ (by first|(simp only [putAll,Act.put,List.setIfInBounds_toArray,List.set_cons_zero,List.set_cons_succ];done)|(simp only [putAll,Act.put,List.setIfInBounds_toArray,List.set_cons_zero,List.set_cons_succ];rfl)) (hJ0_1_3 (.slice Ao17 y143.length co17,.slice Ao16 y146.length co16,gb149) _ ⟨(Kd.R_up HO145.out),(Kd.R_up HO148.out),(blk_up BK149.out),GW149.out,GE149.out,(hb_)⟩)
 rintro ⟨v144,v147,gb149⟩ w16 ⟨h0_,h1_,h2_,h3_,h4_,h5_⟩
 have n0_ : Aside0 (Kd.R (Kd.int .i64) 3 w16 w.heap.size (fun k_ => some k_ ≠ (v147 : Value).ownBlock) v144 y143):=⟨h0_⟩
 have n1_ : Aside0 (Kd.R (Kd.int .i64) 3 w16 w.heap.size (fun k_ => some k_ ≠ (v144 : Value).ownBlock) v147 y146):=⟨h1_⟩
 have n2_ : Aside0 (w16.heap[gb149]? = some (.cells #[.int .i64 0,.int .i64 0,.slice none 0 0,.slice none 0 0] 24 (0,0))):=⟨h2_⟩
 have n3_ : Aside0 (w.heap.size ≤ gb149):=⟨h3_⟩
 have n4_ : Aside0 (w.heap.size ≤ gb149):=⟨h4_⟩
 have n5_ : Aside0 (Below w.heap.size w w16):=⟨h5_⟩
 clear HB
 clear h0_ h1_ h2_ h3_ h4_ h5_
 have HO145:=n0_
 have HO148:=n1_
 have BK149:=n2_
 have GW149:=n3_
 have GE149:=n4_
 have HB:=n5_
 clear n0_ n1_ n2_ n3_ n4_ n5_
 have hHeld:=trivial
 obtain ⟨Ao17,co17,eo17⟩:=Kd.R_slice HO148.out
 (first|subst eo17|(injection eo17 with f1_ f2_ f3_;have f4_:=f1_.symm;have f5_:=f3_.symm;clear f1_ f2_ f3_;subst f4_;subst f5_))
 obtain ⟨Ao18,co18,eo18⟩:=Kd.R_slice HO145.out
 (first|subst eo18|(injection eo18 with f1_ f2_ f3_;have f4_:=f1_.symm;have f5_:=f3_.symm;clear f1_ f2_ f3_;subst f4_;subst f5_))
 refine norm_ (a':=?_) ?_ ?_
 rotate_left
 ·simp only [putAll,Act.put,List.setIfInBounds_toArray,List.set_cons_zero,List.set_cons_succ]
  rfl
 refine oI 4 (none) (fun K hK => ?_)
 have hs19 : w16.cell? ⟨gb149,0,none⟩ = some (.int .i64 0):=(blk_cell BK149.out 0).trans rfl
 have hfs19:=blk_frozen BK149.out 0
 have hs20 : w16.cell? ⟨gb149,1,none⟩ = some (.int .i64 0):=(blk_cell BK149.out 1).trans rfl
 have hfs20:=blk_frozen BK149.out 1
 have hs21 : w16.cell? ⟨gb149,2,none⟩ = some (.slice none 0 0):=(blk_cell BK149.out 2).trans rfl
 have hfs21:=blk_frozen BK149.out 2
 have hs22 : w16.cell? ⟨gb149,3,none⟩ = some (.slice none 0 0):=(blk_cell BK149.out 3).trans rfl
 have hfs22:=blk_frozen BK149.out 3
 refine skip_ (w1:=?_) (by rfl) rfl ?_ ?_
 rotate_left
 ·go_simp
  rfl
 refine hK.out _ _ trivial (fun hHeld => ?_)
 clear hK K
 refine done_ (by kernel_rfl) ?_
 have n0_ : Aside0 (Kd.R (Kd.int .i64) 3 ((((w16.setCell ⟨gb149,0,none⟩ (.int .i64 4)).setCell ⟨gb149,1,none⟩ (.int .i64 4)).setCell ⟨gb149,2,none⟩ (.slice Ao18 y143.length co18)).setCell ⟨gb149,3,none⟩ (.slice Ao17 y146.length co17)) w.heap.size (fun k_ => some k_ ≠ (.slice Ao17 y146.length co17 : Value).ownBlock) (.slice Ao18 y143.length co18) y143):=⟨by (with_reducible repeat (first|apply Kd.R_alloc|apply Kd.R_drewN|apply Kd.R_drew));exact Kd.R_mono (Kd.R_fars gb149 (Kd.R_types HO145.out BK149.out (by decide)) (fun _ hk => hk.2)) (fun _ hk => hk.1)⟩
 have n1_ : Aside0 (Kd.R (Kd.int .i64) 3 ((((w16.setCell ⟨gb149,0,none⟩ (.int .i64 4)).setCell ⟨gb149,1,none⟩ (.int .i64 4)).setCell ⟨gb149,2,none⟩ (.slice Ao18 y143.length co18)).setCell ⟨gb149,3,none⟩ (.slice Ao17 y146.length co17)) w.heap.size (fun k_ => some k_ ≠ (.slice Ao18 y143.length co18 : Value).ownBlock) (.slice Ao17 y146.length co17) y146):=⟨by (with_reducible repeat (first|apply Kd.R_alloc|apply Kd.R_drewN|apply Kd.R_drew));exact Kd.R_mono (Kd.R_fars gb149 (Kd.R_types HO148.out BK149.out (by decide)) (fun _ hk => hk.2)) (fun _ hk => hk.1)⟩
 have n2_ : Aside0 (((((w16.setCell ⟨gb149,0,none⟩ (.int .i64 4)).setCell ⟨gb149,1,none⟩ (.int .i64 4)).setCell ⟨gb149,2,none⟩ (.slice Ao18 y143.length co18)).setCell ⟨gb149,3,none⟩ (.slice Ao17 y146.length co17)).heap[gb149]? = some (.cells #[.int .i64 4,.int .i64 4,.slice Ao18 y143.length co18,.slice Ao17 y146.length co17] 24 (0,0))):=⟨by (with_reducible repeat (first|refine blk_drewN ?_ _|refine blk_drew ?_|refine blk_alloc ?_ _));exact blk_puts4 (blk_up BK149.out)⟩
 have n3_ : Aside0 (Below w.heap.size w ((((w16.setCell ⟨gb149,0,none⟩ (.int .i64 4)).setCell ⟨gb149,1,none⟩ (.int .i64 4)).setCell ⟨gb149,2,none⟩ (.slice Ao18 y143.length co18)).setCell ⟨gb149,3,none⟩ (.slice Ao17 y146.length co17))):=⟨hb_⟩
 (try clear HO145)
 (try clear HO148)
 (try clear BK149)
 (try clear HB)
 generalize ((((w16.setCell ⟨gb149,0,none⟩ (.int .i64 4)).setCell ⟨gb149,1,none⟩ (.int .i64 4)).setCell ⟨gb149,2,none⟩ (.slice Ao18 y143.length co18)).setCell ⟨gb149,3,none⟩ (.slice Ao17 y146.length co17)) = w23 at n0_ n1_ n2_ n3_ ⊢
 have HO145:=n0_
 have HO148:=n1_
 have BK149:=n2_
 have HB:=n3_
 clear n0_ n1_ n2_ n3_
 obtain ⟨_,_,_,_,_,_,_,_⟩:=cells4 BK149.out
 have p3 : 0 ≤ (0 : Int):=(by omega)
 have q3 : (0 : Int) < ((y143.length : Int) : Int):=of_decide_eq_true (by first|(with_reducible assumption)|assumption)
 have qi3 : (0 < y143.length) = True:=eq_true (by omega)
 obtain ⟨go3,co3,eo3,gb3,gl3,cl3,HG3⟩:=Kd.R_form HO145.out (by omega)
 (first|cases eo3|(injection eo3 with ea_ en_ ec_;(first|subst ea_|(injection ea_ with ea_;subst ea_));subst ec_;clear en_))
 have GB3:=Aside0.mk gb3
 have GG3:=Aside0.mk HG3
 clear gb3 gl3 HG3
 obtain ⟨hx3_0,hf3_0⟩:=Kd.R_celln 0 HO145.out (0 : Int) p3 q3
 (try rw [show ((0 : Int)).toNat = 0 from rfl] at hx3_0)
 (try simp only [Nat.reduceMul,Nat.zero_mul,Nat.zero_add,Nat.reduceAdd] at hx3_0)
 (try rw [show ((0 : Int)).toNat = 0 from rfl] at hf3_0)
 (try simp only [Nat.reduceMul,Nat.zero_mul,Nat.zero_add,Nat.reduceAdd] at hf3_0)
 replace p3:=eq_true p3
 replace q3:=eq_true q3
 obtain ⟨hy25_,hz25_⟩:=Kd.R_celln 0 HO145.out (0 : Int) (by omega) (of_decide_eq_true (by first|(with_reducible assumption)|assumption))
 (try simp only [Int.reduceToNat,Int.toNat_zero,Int.toNat_ofNat,Nat.reduceMul,Nat.zero_mul,Nat.zero_add] at hy25_ hz25_)
 (try rw [show ((0 : Int)).toNat = 0 from rfl] at hy25_)
 (try rw [show ((0 : Int)).toNat = 0 from rfl] at hz25_)
 have HP25:=Kd.R_putg HO145.out (0 : Int) 1
 go_upto_region 5 with (first|((with_reducible refine gate_store (t:=3) (p:=10) rfl ?_);refine store_event (t:=3) (p:=10) (v:=?vo_w26) (w1:=(w23.setCell ⟨go3,(0 : Int).toNat,none⟩ (.int .i64 1))) ?hg ?ho ?hn ?hr ?_;(case ho => rfl);(case hg => rfl);(case hn => rfl);(case hr => first|(go_simp;done)|(go_simp;rfl));intro w26 hw;have hg : w23.grownBy w26 (some go3):=(by rw [hw];exact HP25.2);have hp_ : Kd.R (Kd.int .i64) 3 w26 w.heap.size (fun k_ => some k_ ≠ (.slice Ao17 y146.length co17 : Value).ownBlock) (.slice (some ⟨go3,0,none⟩) y143.length co18) y150:=(by rw [hw,Ny150.out];exact HP25.1);clear HP25;replace HO148:=Aside0.mk (Kd.R_after (v:=(.slice (some ⟨go3,0,none⟩) y143.length co18)) (v1:=(.slice (some ⟨go3,0,none⟩) y143.length co18)) (ok:=(fun _ => True)) (by (with_reducible repeat (first|apply Kd.R_alloc|apply Kd.R_drewN|apply Kd.R_drew));exact Kd.R_mono HO148.out (fun _ hk => ⟨trivial,hk⟩)) hg (.inl rfl));replace BK149:=Aside0.mk (blk_grown (blk_up BK149.out) hg (Kd.R_ne HO145.out BK149.out (by decide)));replace HO145:=Aside0.mk (hp_);replace HB:=Aside0.mk ((by rw [hw];exact below_set (HB.out) GB3.out : Below w.heap.size w w26));clear hg hw hp_;obtain ⟨_,_,_,_,_,_,_,_⟩:=cells4 BK149.out;have p5 : 0 ≤ (1 : Int):=(by omega);have q5 : (1 : Int) < ((y143.length : Int) : Int):=of_decide_eq_true (by first|(with_reducible assumption)|assumption);have qi5 : (1 < y143.length) = True:=eq_true (by omega);obtain ⟨hx5_0,hf5_0⟩:=Kd.R_celln 0 HO145.out (1 : Int) p5 q5;(try rw [show ((1 : Int)).toNat = 1 from rfl] at hx5_0);(try simp only [Nat.reduceMul,Nat.zero_mul,Nat.zero_add,Nat.reduceAdd] at hx5_0);(try rw [show ((1 : Int)).toNat = 1 from rfl] at hf5_0);(try simp only [Nat.reduceMul,Nat.zero_mul,Nat.zero_add,Nat.reduceAdd] at hf5_0);replace p5:=eq_true p5;replace q5:=eq_true q5;obtain ⟨hy28_,hz28_⟩:=Kd.R_celln 0 HO145.out (1 : Int) (by omega) (of_decide_eq_true (by first|(with_reducible assumption)|assumption));(try simp only [Int.reduceToNat,Int.toNat_zero,Int.toNat_ofNat,Nat.reduceMul,Nat.zero_mul,Nat.zero_add] at hy28_ hz28_);(try rw [show ((1 : Int)).toNat = 1 from rfl] at hy28_);(try rw [show ((1 : Int)).toNat = 1 from rfl] at hz28_);have HP28:=Kd.R_putg HO145.out (1 : Int) 4)|((with_reducible refine gate_store (t:=3) (p:=13) rfl ?_);refine store_event (t:=3) (p:=13) (v:=?vo_w29) (w1:=(w26.setCell ⟨go3,(1 : Int).toNat,none⟩ (.int .i64 4))) ?hg ?ho ?hn ?hr ?_;(case ho => rfl);(case hg => rfl);(case hn => rfl);(case hr => first|(go_simp;done)|(go_simp;rfl));intro w29 hw;have hg : w26.grownBy w29 (some go3):=(by rw [hw];exact HP28.2);have hp_ : Kd.R (Kd.int .i64) 3 w29 w.heap.size (fun k_ => some k_ ≠ (.slice Ao17 y146.length co17 : Value).ownBlock) (.slice (some ⟨go3,0,none⟩) y143.length co18) y151:=(by rw [hw,Ny151.out];exact HP28.1);clear HP28;replace HO148:=Aside0.mk (Kd.R_after (v:=(.slice (some ⟨go3,0,none⟩) y143.length co18)) (v1:=(.slice (some ⟨go3,0,none⟩) y143.length co18)) (ok:=(fun _ => True)) (Kd.R_up HO148.out) hg (.inl rfl));replace BK149:=Aside0.mk (blk_grown (blk_up BK149.out) hg (Kd.R_ne HO145.out BK149.out (by decide)));replace HO145:=Aside0.mk (hp_);replace HB:=Aside0.mk ((by rw [hw];exact below_set (HB.out) GB3.out : Below w.heap.size w w29));clear hg hw hp_;obtain ⟨_,_,_,_,_,_,_,_⟩:=cells4 BK149.out)|((with_reducible refine gate_callee (f:=15) rfl ?_);refine goesL_ (some 16) rfl rfl Try.func15 (by kernel_rfl) rfl #[.agg #[.int .i64 4,.int .i64 4,.slice (some ⟨go3,0,none⟩) y151.length co18,.slice Ao17 y146.length co17],.int .i64 1,.int .i64 (-1),.int .i64 0] rfl (by (try simp only [List.map_toArray,List.map_cons,List.map_nil]);first|done|(rw [show y151.length = y143.length from (Kd.R_reads' HO145.out).1.symm] <;> rfl)|rfl|(simp only [List.length_drop,List.length_take];rfl)) ?_;(with_reducible refine (lane_Choose.calls k 4 4 _ _ y151 _ _ y146 1 (-1) 0 t152 t153 t154 _ ?_ ?_ ?_ ?_ A6.out).mono ?_);exact Kd.C_up (Kd.R_reads' HO145.out).2.2;(focus (rw [show y151.length = y143.length from (Kd.R_reads' HO145.out).1.symm];exact (Kd.R_reads' HO145.out).2.1));exact Kd.C_up (Kd.R_reads' HO148.out).2.2;exact (Kd.R_reads' HO148.out).2.1;rintro e w31 ⟨rfl,hb⟩;refine ⟨_,rfl,?_⟩;replace HO145:=rbw HO145 hb;replace HO148:=rbw HO148 hb;replace BK149:=bkb BK149 hb;replace HB:=hbs hb))
 (try simp only [Act.put,List.setIfInBounds_toArray,List.set_cons_zero,List.set_cons_succ])
 go_cut [0] (fun v0 wc => ∃ (kq : Nat) (x0_6 : Bool),v0 = .bool x0_6 ∧ Aside0 (hinterlandlaw17_known.j0 kq x0_6 = some r) ∧ Aside0 (kq ≤ k) ∧ Aside0 (Kd.R (Kd.int .i64) 3 wc w.heap.size (fun k_ => some k_ ≠ ((.slice Ao17 y146.length co17) : Value).ownBlock) (.slice (some ⟨go3,0,none⟩) y143.length co18) y151) ∧ Aside0 (Kd.R (Kd.int .i64) 3 wc w.heap.size (fun k_ => some k_ ≠ ((.slice (some ⟨go3,0,none⟩) y143.length co18) : Value).ownBlock) (.slice Ao17 y146.length co17) y146) ∧ Aside0 (wc.heap[gb149]? = some (.cells #[.int .i64 4,.int .i64 4,(.slice (some ⟨go3,0,none⟩) y143.length co18),(.slice Ao17 y146.length co17)] 24 (0,0))) ∧ Aside0 (Below w.heap.size w wc))
 case first =>
  have H:=HC7.out
  clear HC7
  by_cases c32 : t152 = 2
  ·rw [if_pos c32] at H
   have c32b0:=bqt c32
   have c32b1:=bnf c32
   clear c32
   (first|rw [c32b0]|(simp only [i64_w,i32_w];rw [c32b0])|skip)
   by_cases c33 : t153 = true
   ·subst c33
    have H1 : (hinterlandlaw17_known.j0 k (t154 == 0)) = some r:=by rw [if_pos rfl] at H;exact H
    clear H
    have H:=H1
    clear H1
    have H':=Aside0.mk H
    clear H
    go_wp2
    go_meet
    case rel => exact ⟨_,((t154 == 0)),(by first|rfl|(simp;done)|(simp [*];done)),H',⟨by first|omega|exact Nat.le_refl _⟩,⟨Kd.R_up HO145.out⟩,⟨by (with_reducible repeat (first|apply Kd.R_alloc|apply Kd.R_drewN|apply Kd.R_drew));exact Kd.R_mono HO148.out (fun _ hk => hk.2)⟩,⟨blk_up BK149.out⟩,⟨hb_⟩⟩
   ·replace c33:=Bool.eq_false_iff.mpr c33
    subst c33
    have H1 : (hinterlandlaw17_known.j0 k false) = some r:=by rw [if_neg (show ¬ (false = true) by decide)] at H;exact H
    clear H
    have H:=H1
    clear H1
    have H':=Aside0.mk H
    clear H
    go_wp2
    go_meet
    case rel => exact ⟨_,(false),(by first|rfl|(simp;done)|(simp [*];done)),H',⟨by first|omega|exact Nat.le_refl _⟩,⟨Kd.R_up HO145.out⟩,⟨by (with_reducible repeat (first|apply Kd.R_alloc|apply Kd.R_drewN|apply Kd.R_drew));exact Kd.R_mono HO148.out (fun _ hk => hk.2)⟩,⟨blk_up BK149.out⟩,⟨hb_⟩⟩
  ·rw [if_neg c32] at H
   have c32b0:=bqf c32
   have c32b1:=bnt c32
   (first|rw [c32b0]|(simp only [i64_w,i32_w];rw [c32b0])|skip)
   have H':=Aside0.mk H
   clear H
   go_wp2
   go_meet
   case rel => exact ⟨_,(false),(by first|rfl|(simp;done)|(simp [*];done)),H',⟨by first|omega|exact Nat.le_refl _⟩,⟨Kd.R_up HO145.out⟩,⟨by (with_reducible repeat (first|apply Kd.R_alloc|apply Kd.R_drewN|apply Kd.R_drew));exact Kd.R_mono HO148.out (fun _ hk => hk.2)⟩,⟨blk_up BK149.out⟩,⟨hb_⟩⟩
 case rest =>
  clear HC7
  obtain ⟨kq,x0_6,rfl,HA,HJ6,HO_150002,HO_150003,BK149,HB⟩:=hcut
  have hl150002_6:=(Kd.R_reads' HO_150002.out).1
  rw [hl150002_6] at HO_150002
  (try simp only [hl150002_6])
  (try simp only [hl150002_6] at BK149)
  (try simp only [hl150002_6] at HO_150003)
  cases kq with
  | zero => exact absurd HA.out (by simp [hinterlandlaw17_known.j0])
  | succ kj6 =>
   have H:=HA.out
   clear HA
   simp only [hinterlandlaw17_known.j0] at H
   obtain rfl:=Option.some.inj H
   go_wp2
   go_ret
   exact ⟨er_,hb_⟩

end Go.Proofs.Ythjmdpekcleihaa.P

/- Functions of this seat as plain Lean functions, with proofs that the Go code comes to just their answers, or what stands between them and a law's statement; no conditions. (Laid by a program of this session, out of the kit's print.) -/
import Derived.Test.YthjmdpekcleihaaPx0
import Derived.Test.YthjmdpekcleihaaPx3
import Derived.Test.YthjmdpekcleihaaPx4
import Derived.Test.YthjmdpekcleihaaPx5
namespace Go.Proofs.Ythjmdpekcleihaa.P
open Go.RowKit Go.Proofs.YthjmdpekcleihaaW.PrintWords Go.Proofs.YthjmdpekcleihaaW.PrintLast Go.Proofs.YthjmdpekcleihaaW.PrintMore
attribute [local go_sem] max2_int min2_int max_two min_two max_three min_three max_four min_four   -- for this text's walks alone
set_option linter.unusedVariables false
set_option linter.unusedSimpArgs false

/-! ### lane_choose: function 38 -/
def lane_choose.l0 : Nat → Int → Int → Int → Int → List Int → Int → Int → Int → Int → List Int → List Int → Option (Int × Bool)
 | 0,_,_,_,_,_,_,_,_,_,_,_ => none
 | k + 1,x1,x3,x11,x12,x26,x27,x28,x132000,x132001,x132002,x132003 => if x28 < x27 then (if 0 ≤ x28 then (if x28 < (x26.length : Int) then ((lane_far.f k x132000 x132001 x132002 x132003 x1 (rd x26 x28) x3).bind fun t137 => (if t137 ≥ 0 then (if x12 < 0 then (lane_choose.l0 k x1 x3 (rd x26 x28) t137 x26 x27 (wrap64 (x28 + 1)) x132000 x132001 x132002 x132003) else (if t137 < x12 then (lane_choose.l0 k x1 x3 (rd x26 x28) t137 x26 x27 (wrap64 (x28 + 1)) x132000 x132001 x132002 x132003) else (lane_choose.l0 k x1 x3 x11 x12 x26 x27 (wrap64 (x28 + 1)) x132000 x132001 x132002 x132003))) else (lane_choose.l0 k x1 x3 x11 x12 x26 x27 (wrap64 (x28 + 1)) x132000 x132001 x132002 x132003))) else (none)) else (none)) else (some (x11,true))
def lane_choose.f (k : Nat) (a0_0 : Int) (a0_1 : Int) (l0_2 : List Int) (l0_3 : List Int) (a1 : Int) (a2 : Int) (a3 : Int) : Option (Int × Bool) := (lane_leaves.f k a0_0 a0_1 l0_2 l0_3 a1 a2).bind fun t132 => (if (t132.length : Int) = 0 then (some (0, false)) else (if 0 < (t132.length : Int) then (lane_choose.l0 k a1 a3 (rd t132 0) (-1) t132 (t132.length : Int) 0 a0_0 a0_1 l0_2 l0_3) else (none)))
theorem lane_choose.mono_l : ∀ k, (∀ y0 y1 y2 y3 y4 y5 y6 y7 y8 y9 y10, LeO (lane_choose.l0 k y0 y1 y2 y3 y4 y5 y6 y7 y8 y9 y10) (lane_choose.l0 (k + 1) y0 y1 y2 y3 y4 y5 y6 y7 y8 y9 y10))
 | 0 => fun _ _ _ _ _ _ _ _ _ _ _ r h => by simp [lane_choose.l0] at h
 | k + 1 => by
  have ih0:=lane_choose.mono_l k
  ·intro y0 y1 y2 y3 y4 y5 y6 y7 y8 y9 y10
   unfold lane_choose.l0
   repeat' first
   | (with_reducible exact ih0 _ _ _ _ _ _ _ _ _ _ _)
   | (with_reducible exact lane_far.mono _ _ _ _ _ _ _ _)
   | (with_reducible exact lane_leaves.mono _ _ _ _ _ _ _)
   | (with_reducible exact LeO.refl _)
   | (with_reducible exact LeO.none _)
   | (with_reducible refine LeO.ite ?_ ?_)
   | (with_reducible refine LeO.bind ?_ (fun _ => ?_))
   | exact ih0 _ _ _ _ _ _ _ _ _ _ _
   | exact lane_far.mono _ _ _ _ _ _ _ _
   | exact lane_leaves.mono _ _ _ _ _ _ _
   | exact LeO.none _
   | refine LeO.ite ?_ ?_
   | refine LeO.bind ?_ (fun _ => ?_)
theorem lane_choose.mono : ∀ a0 a1 a2 a3 a4 a5 a6 k, LeO (lane_choose.f k a0 a1 a2 a3 a4 a5 a6) (lane_choose.f (k + 1) a0 a1 a2 a3 a4 a5 a6) := by
 intro a0 a1 a2 a3 a4 a5 a6 k
 have ih0:=lane_choose.mono_l k
 unfold lane_choose.f
 repeat' first
   | (with_reducible exact ih0 _ _ _ _ _ _ _ _ _ _ _)
   | (with_reducible exact lane_far.mono _ _ _ _ _ _ _ _)
   | (with_reducible exact lane_leaves.mono _ _ _ _ _ _ _)
   | (with_reducible exact LeO.refl _)
   | (with_reducible exact LeO.none _)
   | (with_reducible refine LeO.ite ?_ ?_)
   | (with_reducible refine LeO.bind ?_ (fun _ => ?_))
   | exact ih0 _ _ _ _ _ _ _ _ _ _ _
   | exact lane_far.mono _ _ _ _ _ _ _ _
   | exact lane_leaves.mono _ _ _ _ _ _ _
   | exact LeO.none _
   | refine LeO.ite ?_ ?_
   | refine LeO.bind ?_ (fun _ => ?_)
set_option maxHeartbeats 8000000 in
set_option maxRecDepth 100000 in
theorem lane_choose.calls (k : Nat) (a0_0 : Int) (a0_1 : Int) (A0_2 : Option Addr) (c0_2 : Nat) (l0_2 : List Int) (A0_3 : Option Addr) (c0_3 : Nat) (l0_3 : List Int) (a1 : Int) (a2 : Int) (a3 : Int) (r1 : Int) (r2 : Bool) (w : World) (hr0_2 : Kd.C (Kd.int .i64) w A0_2 l0_2.length l0_2) (hc0_2 : l0_2.length ≤ c0_2) (hr0_3 : Kd.C (Kd.int .i64) w A0_3 l0_3.length l0_3) (hc0_3 : l0_3.length ≤ c0_3) (h : lane_choose.f k a0_0 a0_1 l0_2 l0_3 a1 a2 a3 = some (r1, r2)) :
  Calls Try.prog 38 #[.agg #[.int .i64 a0_0,.int .i64 a0_1,.slice A0_2 l0_2.length c0_2,.slice A0_3 l0_3.length c0_3],.int .i64 a1,.int .i64 a2,.int .i64 a3] w fun e w' => e = .returned (.tuple #[.int .i64 r1,.bool r2]) ∧ Below w.heap.size w w':=by
 have hu24:=Try.underlying24
 have HR0_2:=Aside0.mk hr0_2
 have HC0_2:=Aside0.mk hc0_2
 clear hr0_2 hc0_2
 have HR0_3:=Aside0.mk hr0_3
 have HC0_3:=Aside0.mk hc0_3
 clear hr0_3 hc0_3
 have HB:=Aside0.mk (Below.refl w.heap.size w)
 have H : ((lane_leaves.f k a0_0 a0_1 l0_2 l0_3 a1 a2).bind fun t132 => (if (t132.length : Int) = 0 then (some (0,false)) else (if 0 < (t132.length : Int) then (lane_choose.l0 k a1 a3 (rd t132 0) (-1) t132 (t132.length : Int) 0 a0_0 a0_1 l0_2 l0_3) else (none)))) = some (r1,r2):=h
 clear h
 replace H:=Option.bind_eq_some_iff.mp H
 obtain ⟨t132,A50,H⟩:=H
 replace H : (if (t132.length : Int) = 0 then (some (0,false)) else (if 0 < (t132.length : Int) then (lane_choose.l0 k a1 a3 (rd t132 0) (-1) t132 (t132.length : Int) 0 a0_0 a0_1 l0_2 l0_3) else (none))) = some (r1,r2):=H
 have A5:=Aside0.mk A50
 clear A50
 by_cases c6 : (t132.length : Int) = 0
 ·rw [if_pos c6] at H
  have c6b0:=bqt c6
  have c6b1:=bnf c6
  clear c6
  simp only [Option.some.injEq,Prod.mk.injEq] at H
  obtain ⟨rfl,rfl⟩:=H
  go_enter Try.func38,Try.ntmps38
  go_wp2_with (first|((with_reducible refine gate_dst (N:=4) rfl ?_);refine box_ev (N:=4) (cs:=#[.int .i64 a0_0,.int .i64 a0_1,.slice A0_2 l0_2.length c0_2,.slice A0_3 l0_3.length c0_3]) (t:=24) ?_;intro gb131 hg w7 hbox hb;have BK131:=Aside0.mk (hbox);have GW131 : Aside0 (w.heap.size ≤ gb131):=gsz hg;have GE131:=GW131;replace HB:=hbs hb;clear hb hbox hg;obtain ⟨_,_,_,_,_,_,_,_⟩:=cells4 BK131.out)|((with_reducible refine gate_callee (f:=65) rfl ?_);refine goesL_ (some 19) rfl rfl Try.func65 (by kernel_rfl) rfl #[.agg #[.int .i64 a0_0,.int .i64 a0_1,.slice A0_2 l0_2.length c0_2,.slice A0_3 l0_3.length c0_3],.int .i64 a1,.int .i64 a2] rfl ga_ ?_;(with_reducible refine (lane_leaves.calls k a0_0 a0_1 _ _ l0_2 _ _ l0_3 a1 a2 t132 _ ?_ ?_ ?_ ?_ A5.out).mono ?_);exact cq HR0_2;exact HC0_2.out;exact cq HR0_3;exact HC0_3.out;rintro e w9 ⟨v133,rfl,ho0,hb⟩;refine ⟨_,rfl,?_⟩;have HO134:=rlo ho0;replace BK131:=bkb BK131 hb;replace HB:=hbs hb;obtain ⟨Ao10,co10,eo10⟩:=Kd.R_slice HO134.out;subst eo10))
  go_ret2
  exact ⟨er_,hb_⟩
 rw [if_neg c6] at H
 have c6b0:=bqf c6
 have c6b1:=bnt c6
 have c6b2 : ¬ (t132 = []):=fun h_ => c6 (by rw [h_];rfl)
 replace H:=ifp_ H;obtain ⟨c11,H⟩:=H
 have c11b0 : decide (0 < (t132.length : Int)) = true:=decide_eq_true c11
 have c11b1 : decide (0 < t132.length) = true:=decide_eq_true (by omega)
 clear c11
 have H':=Aside0.mk H
 clear H
 go_enter Try.func38,Try.ntmps38
 go_wp2_with (first|((with_reducible refine gate_dst (N:=4) rfl ?_);refine box_ev (N:=4) (cs:=#[.int .i64 a0_0,.int .i64 a0_1,.slice A0_2 l0_2.length c0_2,.slice A0_3 l0_3.length c0_3]) (t:=24) ?_;intro gb131 hg w12 hbox hb;have BK131:=Aside0.mk (hbox);have GW131 : Aside0 (w.heap.size ≤ gb131):=gsz hg;have GE131:=GW131;replace HB:=hbs hb;clear hb hbox hg;obtain ⟨_,_,_,_,_,_,_,_⟩:=cells4 BK131.out)|((with_reducible refine gate_callee (f:=65) rfl ?_);refine goesL_ (some 19) rfl rfl Try.func65 (by kernel_rfl) rfl #[.agg #[.int .i64 a0_0,.int .i64 a0_1,.slice A0_2 l0_2.length c0_2,.slice A0_3 l0_3.length c0_3],.int .i64 a1,.int .i64 a2] rfl ga_ ?_;(with_reducible refine (lane_leaves.calls k a0_0 a0_1 _ _ l0_2 _ _ l0_3 a1 a2 t132 _ ?_ ?_ ?_ ?_ A5.out).mono ?_);exact cq HR0_2;exact HC0_2.out;exact cq HR0_3;exact HC0_3.out;rintro e w14 ⟨v133,rfl,ho0,hb⟩;refine ⟨_,rfl,?_⟩;have HO134:=rlo ho0;replace BK131:=bkb BK131 hb;replace HB:=hbs hb;obtain ⟨Ao15,co15,eo15⟩:=Kd.R_slice HO134.out;subst eo15;have p135 : 0 ≤ (0 : Int):=(by omega);have q135 : 0 < (t132.length : Int):=of_decide_eq_true (by first|(with_reducible assumption)|assumption);obtain ⟨ad135,e135,hx135_0⟩:=Kd.at_int (Kd.R_reads' HO134.out).2.2 0 p135 q135;cases e135;have qi135 : (0 < t132.length) = True:=eq_true (by omega);(try rw [show ((0 : Int)).toNat = 0 from rfl] at hx135_0);(try rw [Addr.add_zero'] at hx135_0);replace p135:=eq_true p135;replace q135:=eq_true q135))
 go_loopg [11,12,28] k (fun kq v11 v12 v28 w' => ∃ (x11_1 : Int) (x12_1 : Int) (x28_1 : Int),v11 = .int .i64 x11_1 ∧ v12 = .int .i64 x12_1 ∧ v28 = .int .i64 x28_1 ∧ Aside0 (lane_choose.l0 kq a1 a3 x11_1 x12_1 t132 (t132.length : Int) x28_1 a0_0 a0_1 l0_2 l0_3 = some (r1,r2)) ∧ Aside0 (kq ≤ k) ∧ Aside0 (Kd.R (Kd.int .i64) 3 w' w.heap.size (fun _ => True) (.slice (some ad135) t132.length co15) t132) ∧ Aside0 (w'.heap[gb131]? = some (.cells #[.int .i64 a0_0,.int .i64 a0_1,(.slice A0_2 l0_2.length c0_2),(.slice A0_3 l0_3.length c0_3)] 24 (0,0))) ∧ Aside0 (Below w.heap.size w w'))
 case atStart => exact ⟨(rd t132 0),((-1)),(0),(by first|rfl|(simp;done)|(simp [*];done)),(by first|rfl|(simp;done)|(simp [*];done)),(by first|rfl|(simp;done)|(simp [*];done)),H',⟨Nat.le_refl _⟩,⟨Kd.R_up HO134.out⟩,⟨blk_up BK131.out⟩,⟨hb_⟩⟩
 case round =>
  clear H'
  obtain ⟨x11_1,x12_1,x28_1,rfl,rfl,rfl,HA,HK1,HO_26,BK131,HB⟩:=hrel
  cases gk with
  | zero => exact absurd HA.out (by simp [lane_choose.l0])
  | succ k1 =>
   have H:=HA.out
   clear HA
   simp only [lane_choose.l0] at H
   by_cases c16 : x28_1 < (t132.length : Int)
   rotate_left
   ·rw [if_neg c16] at H
    have c16b0 : decide (x28_1 < (t132.length : Int)) = false:=decide_eq_false c16
    clear c16
    simp only [Option.some.injEq,Prod.mk.injEq] at H
    obtain ⟨rfl,rfl⟩:=H
    go_wp2
    go_ret2
    exact ⟨er_,hb_⟩
   rw [if_pos c16] at H
   have c16b0 : decide (x28_1 < (t132.length : Int)) = true:=decide_eq_true c16
   clear c16
   replace H:=ifp_ H;obtain ⟨c17,H⟩:=H
   have c17b0 : decide (0 ≤ x28_1) = true:=decide_eq_true c17
   clear c17
   replace H:=ifp_ H;obtain ⟨c18,H⟩:=H
   have c18b0 : decide (x28_1 < (t132.length : Int)) = true:=decide_eq_true c18
   clear c18
   replace H:=Option.bind_eq_some_iff.mp H
   obtain ⟨t137,A190,H⟩:=H
   replace H : (if t137 ≥ 0 then (if x12_1 < 0 then (lane_choose.l0 k1 a1 a3 (rd t132 x28_1) t137 t132 (t132.length : Int) (wrap64 (x28_1 + 1)) a0_0 a0_1 l0_2 l0_3) else (if t137 < x12_1 then (lane_choose.l0 k1 a1 a3 (rd t132 x28_1) t137 t132 (t132.length : Int) (wrap64 (x28_1 + 1)) a0_0 a0_1 l0_2 l0_3) else (lane_choose.l0 k1 a1 a3 x11_1 x12_1 t132 (t132.length : Int) (wrap64 (x28_1 + 1)) a0_0 a0_1 l0_2 l0_3))) else (lane_choose.l0 k1 a1 a3 x11_1 x12_1 t132 (t132.length : Int) (wrap64 (x28_1 + 1)) a0_0 a0_1 l0_2 l0_3)) = some (r1,r2):=H
   have A19:=Aside0.mk A190
   clear A190
   by_cases c20 : t137 ≥ 0
   rotate_left
   ·rw [if_neg c20] at H
    have c20b0 : decide (0 ≤ t137) = false:=decide_eq_false c20
    clear c20
    have H':=Aside0.mk H
    clear H
    have p136 : 0 ≤ (x28_1 : Int):=of_decide_eq_true (by first|(with_reducible assumption)|assumption)
    have q136 : x28_1 < (t132.length : Int):=of_decide_eq_true (by first|(with_reducible assumption)|assumption)
    obtain ⟨ad136,e136,hx136_0⟩:=Kd.at_int (Kd.R_reads' HO_26.out).2.2 x28_1 p136 q136
    obtain rfl : ad135 = ad136:=(by injection e136)
    replace p136:=eq_true p136
    replace q136:=eq_true q136
    obtain ⟨_,_,_,_,_,_,_,_⟩:=cells4 BK131.out
    go_wp2_with (first|((with_reducible refine gate_callee (f:=66) rfl ?_);refine goesL_ (some 36) rfl rfl Try.func66 (by kernel_rfl) rfl #[.agg #[.int .i64 a0_0,.int .i64 a0_1,.slice A0_2 l0_2.length c0_2,.slice A0_3 l0_3.length c0_3],.int .i64 a1,.int .i64 (rd t132 x28_1),.int .i64 a3] rfl ga_ ?_;(with_reducible refine (lane_far.calls k1 a0_0 a0_1 _ _ l0_2 _ _ l0_3 a1 (rd t132 x28_1) a3 t137 _ ?_ ?_ ?_ ?_ A19.out).mono ?_);exact cq HR0_2;exact HC0_2.out;exact cq HR0_3;exact HC0_3.out;rintro e w30 ⟨rfl,hb⟩;refine ⟨_,rfl,?_⟩;replace HO_26:=rbw HO_26 hb;replace BK131:=bkb BK131 hb;replace HB:=hbs hb))
    go_roundg k1
    case measure => have:=HK1.out;omega
    case rel => exact ⟨(x11_1),(x12_1),(wrap64 (x28_1 + 1)),(by first|rfl|(simp;done)|(simp [*];done)),(by first|rfl|(simp;done)|(simp [*];done)),(by first|rfl|(simp;done)|(simp [*];done)),H',⟨by have:=HK1.out;omega⟩,⟨Kd.R_up HO_26.out⟩,⟨blk_up BK131.out⟩,⟨hb_⟩⟩
   rw [if_pos c20] at H
   have c20b0 : decide (0 ≤ t137) = true:=decide_eq_true c20
   clear c20
   by_cases c21 : x12_1 < 0
   ·rw [if_pos c21] at H
    have c21b0 : decide (x12_1 < 0) = true:=decide_eq_true c21
    clear c21
    have H':=Aside0.mk H
    clear H
    have p136 : 0 ≤ (x28_1 : Int):=of_decide_eq_true (by first|(with_reducible assumption)|assumption)
    have q136 : x28_1 < (t132.length : Int):=of_decide_eq_true (by first|(with_reducible assumption)|assumption)
    obtain ⟨ad136,e136,hx136_0⟩:=Kd.at_int (Kd.R_reads' HO_26.out).2.2 x28_1 p136 q136
    obtain rfl : ad135 = ad136:=(by injection e136)
    replace p136:=eq_true p136
    replace q136:=eq_true q136
    obtain ⟨_,_,_,_,_,_,_,_⟩:=cells4 BK131.out
    go_wp2_with (first|((with_reducible refine gate_callee (f:=66) rfl ?_);refine goesL_ (some 36) rfl rfl Try.func66 (by kernel_rfl) rfl #[.agg #[.int .i64 a0_0,.int .i64 a0_1,.slice A0_2 l0_2.length c0_2,.slice A0_3 l0_3.length c0_3],.int .i64 a1,.int .i64 (rd t132 x28_1),.int .i64 a3] rfl ga_ ?_;(with_reducible refine (lane_far.calls k1 a0_0 a0_1 _ _ l0_2 _ _ l0_3 a1 (rd t132 x28_1) a3 t137 _ ?_ ?_ ?_ ?_ A19.out).mono ?_);exact cq HR0_2;exact HC0_2.out;exact cq HR0_3;exact HC0_3.out;rintro e w23 ⟨rfl,hb⟩;refine ⟨_,rfl,?_⟩;replace HO_26:=rbw HO_26 hb;replace BK131:=bkb BK131 hb;replace HB:=hbs hb))
    go_roundg k1
    case measure => have:=HK1.out;omega
    case rel => exact ⟨(rd t132 x28_1),(t137),(wrap64 (x28_1 + 1)),(by first|rfl|(simp;done)|(simp [*];done)),(by first|rfl|(simp;done)|(simp [*];done)),(by first|rfl|(simp;done)|(simp [*];done)),H',⟨by have:=HK1.out;omega⟩,⟨Kd.R_up HO_26.out⟩,⟨blk_up BK131.out⟩,⟨hb_⟩⟩
   rw [if_neg c21] at H
   have c21b0 : decide (x12_1 < 0) = false:=decide_eq_false c21
   clear c21
   by_cases c24 : t137 < x12_1
   ·rw [if_pos c24] at H
    have c24b0 : decide (t137 < x12_1) = true:=decide_eq_true c24
    clear c24
    have H':=Aside0.mk H
    clear H
    have p136 : 0 ≤ (x28_1 : Int):=of_decide_eq_true (by first|(with_reducible assumption)|assumption)
    have q136 : x28_1 < (t132.length : Int):=of_decide_eq_true (by first|(with_reducible assumption)|assumption)
    obtain ⟨ad136,e136,hx136_0⟩:=Kd.at_int (Kd.R_reads' HO_26.out).2.2 x28_1 p136 q136
    obtain rfl : ad135 = ad136:=(by injection e136)
    replace p136:=eq_true p136
    replace q136:=eq_true q136
    obtain ⟨_,_,_,_,_,_,_,_⟩:=cells4 BK131.out
    go_wp2_with (first|((with_reducible refine gate_callee (f:=66) rfl ?_);refine goesL_ (some 36) rfl rfl Try.func66 (by kernel_rfl) rfl #[.agg #[.int .i64 a0_0,.int .i64 a0_1,.slice A0_2 l0_2.length c0_2,.slice A0_3 l0_3.length c0_3],.int .i64 a1,.int .i64 (rd t132 x28_1),.int .i64 a3] rfl ga_ ?_;(with_reducible refine (lane_far.calls k1 a0_0 a0_1 _ _ l0_2 _ _ l0_3 a1 (rd t132 x28_1) a3 t137 _ ?_ ?_ ?_ ?_ A19.out).mono ?_);exact cq HR0_2;exact HC0_2.out;exact cq HR0_3;exact HC0_3.out;rintro e w26 ⟨rfl,hb⟩;refine ⟨_,rfl,?_⟩;replace HO_26:=rbw HO_26 hb;replace BK131:=bkb BK131 hb;replace HB:=hbs hb))
    go_roundg k1
    case measure => have:=HK1.out;omega
    case rel => exact ⟨(rd t132 x28_1),(t137),(wrap64 (x28_1 + 1)),(by first|rfl|(simp;done)|(simp [*];done)),(by first|rfl|(simp;done)|(simp [*];done)),(by first|rfl|(simp;done)|(simp [*];done)),H',⟨by have:=HK1.out;omega⟩,⟨Kd.R_up HO_26.out⟩,⟨blk_up BK131.out⟩,⟨hb_⟩⟩
   ·rw [if_neg c24] at H
    have c24b0 : decide (t137 < x12_1) = false:=decide_eq_false c24
    clear c24
    have H':=Aside0.mk H
    clear H
    have p136 : 0 ≤ (x28_1 : Int):=of_decide_eq_true (by first|(with_reducible assumption)|assumption)
    have q136 : x28_1 < (t132.length : Int):=of_decide_eq_true (by first|(with_reducible assumption)|assumption)
    obtain ⟨ad136,e136,hx136_0⟩:=Kd.at_int (Kd.R_reads' HO_26.out).2.2 x28_1 p136 q136
    obtain rfl : ad135 = ad136:=(by injection e136)
    replace p136:=eq_true p136
    replace q136:=eq_true q136
    obtain ⟨_,_,_,_,_,_,_,_⟩:=cells4 BK131.out
    go_wp2_with (first|((with_reducible refine gate_callee (f:=66) rfl ?_);refine goesL_ (some 36) rfl rfl Try.func66 (by kernel_rfl) rfl #[.agg #[.int .i64 a0_0,.int .i64 a0_1,.slice A0_2 l0_2.length c0_2,.slice A0_3 l0_3.length c0_3],.int .i64 a1,.int .i64 (rd t132 x28_1),.int .i64 a3] rfl ga_ ?_;(with_reducible refine (lane_far.calls k1 a0_0 a0_1 _ _ l0_2 _ _ l0_3 a1 (rd t132 x28_1) a3 t137 _ ?_ ?_ ?_ ?_ A19.out).mono ?_);exact cq HR0_2;exact HC0_2.out;exact cq HR0_3;exact HC0_3.out;rintro e w28 ⟨rfl,hb⟩;refine ⟨_,rfl,?_⟩;replace HO_26:=rbw HO_26 hb;replace BK131:=bkb BK131 hb;replace HB:=hbs hb))
    go_roundg k1
    case measure => have:=HK1.out;omega
    case rel => exact ⟨(x11_1),(x12_1),(wrap64 (x28_1 + 1)),(by first|rfl|(simp;done)|(simp [*];done)),(by first|rfl|(simp;done)|(simp [*];done)),(by first|rfl|(simp;done)|(simp [*];done)),H',⟨by have:=HK1.out;omega⟩,⟨Kd.R_up HO_26.out⟩,⟨blk_up BK131.out⟩,⟨hb_⟩⟩

/-! ### lane_Choose: function 15 -/
def lane_Choose.f (k : Nat) (a0_0 : Int) (a0_1 : Int) (l0_2 : List Int) (l0_3 : List Int) (a1 : Int) (a2 : Int) (a3 : Int) : Option (Int × Bool × Int) := (road_Validate.f k a0_0 a0_1 l0_2 l0_3).bind fun t139 => (if t139 = 0 then ((lane_within.f a1 (wrap64 ((wrap64 (a0_0 * a0_1)) - 1))).bind fun t140 => (if t140 = true then (if a2 < (-1) then (some (0, false, 1)) else (if a2 > 3 then (some (0, false, 1)) else ((lane_choose.f k a0_0 a0_1 l0_2 l0_3 a1 a2 a3).bind fun bt141 => (some (bt141.1, bt141.2, 0))))) else (some (0, false, 2)))) else (some (0, false, t139)))
theorem lane_Choose.mono : ∀ a0 a1 a2 a3 a4 a5 a6 k, LeO (lane_Choose.f k a0 a1 a2 a3 a4 a5 a6) (lane_Choose.f (k + 1) a0 a1 a2 a3 a4 a5 a6) := by
 intro a0 a1 a2 a3 a4 a5 a6 k
 unfold lane_Choose.f
 repeat' first
   | (with_reducible exact lane_choose.mono _ _ _ _ _ _ _ _)
   | (with_reducible exact road_Validate.mono _ _ _ _ _)
   | (with_reducible exact LeO.refl _)
   | (with_reducible exact LeO.none _)
   | (with_reducible refine LeO.ite ?_ ?_)
   | (with_reducible refine LeO.bind ?_ (fun _ => ?_))
   | exact lane_choose.mono _ _ _ _ _ _ _ _
   | exact road_Validate.mono _ _ _ _ _
   | exact LeO.none _
   | refine LeO.ite ?_ ?_
   | refine LeO.bind ?_ (fun _ => ?_)
set_option maxHeartbeats 8000000 in
set_option maxRecDepth 100000 in
theorem lane_Choose.calls (k : Nat) (a0_0 : Int) (a0_1 : Int) (A0_2 : Option Addr) (c0_2 : Nat) (l0_2 : List Int) (A0_3 : Option Addr) (c0_3 : Nat) (l0_3 : List Int) (a1 : Int) (a2 : Int) (a3 : Int) (r1 : Int) (r2 : Bool) (r3 : Int) (w : World) (hr0_2 : Kd.C (Kd.int .i64) w A0_2 l0_2.length l0_2) (hc0_2 : l0_2.length ≤ c0_2) (hr0_3 : Kd.C (Kd.int .i64) w A0_3 l0_3.length l0_3) (hc0_3 : l0_3.length ≤ c0_3) (h : lane_Choose.f k a0_0 a0_1 l0_2 l0_3 a1 a2 a3 = some (r1, r2, r3)) :
  Calls Try.prog 15 #[.agg #[.int .i64 a0_0,.int .i64 a0_1,.slice A0_2 l0_2.length c0_2,.slice A0_3 l0_3.length c0_3],.int .i64 a1,.int .i64 a2,.int .i64 a3] w fun e w' => e = .returned (.tuple #[.int .i64 r1,.bool r2,.int .i64 r3]) ∧ Below w.heap.size w w':=by
 have hu24:=Try.underlying24
 have HR0_2:=Aside0.mk hr0_2
 have HC0_2:=Aside0.mk hc0_2
 clear hr0_2 hc0_2
 have HR0_3:=Aside0.mk hr0_3
 have HC0_3:=Aside0.mk hc0_3
 clear hr0_3 hc0_3
 have HB:=Aside0.mk (Below.refl w.heap.size w)
 have H : ((road_Validate.f k a0_0 a0_1 l0_2 l0_3).bind fun t139 => (if t139 = 0 then ((lane_within.f a1 (wrap64 ((wrap64 (a0_0 * a0_1)) - 1))).bind fun t140 => (if t140 = true then (if a2 < (-1) then (some (0,false,1)) else (if a2 > 3 then (some (0,false,1)) else ((lane_choose.f k a0_0 a0_1 l0_2 l0_3 a1 a2 a3).bind fun bt141 => (some (bt141.1,bt141.2,0))))) else (some (0,false,2)))) else (some (0,false,t139)))) = some (r1,r2,r3):=h
 clear h
 replace H:=Option.bind_eq_some_iff.mp H
 obtain ⟨t139,A50,H⟩:=H
 replace H : (if t139 = 0 then ((lane_within.f a1 (wrap64 ((wrap64 (a0_0 * a0_1)) - 1))).bind fun t140 => (if t140 = true then (if a2 < (-1) then (some (0,false,1)) else (if a2 > 3 then (some (0,false,1)) else ((lane_choose.f k a0_0 a0_1 l0_2 l0_3 a1 a2 a3).bind fun bt141 => (some (bt141.1,bt141.2,0))))) else (some (0,false,2)))) else (some (0,false,t139))) = some (r1,r2,r3):=H
 have A5:=Aside0.mk A50
 clear A50
 by_cases c6 : t139 = 0
 rotate_left
 ·rw [if_neg c6] at H
  have c6b0:=bqf c6
  have c6b1:=bnt c6
  simp only [Option.some.injEq,Prod.mk.injEq] at H
  obtain ⟨rfl,rfl,rfl⟩:=H
  go_enter Try.func15,Try.ntmps15
  go_wp2_with (first|((with_reducible refine gate_dst (N:=4) rfl ?_);refine box_ev (N:=4) (cs:=#[.int .i64 a0_0,.int .i64 a0_1,.slice A0_2 l0_2.length c0_2,.slice A0_3 l0_3.length c0_3]) (t:=24) ?_;intro gb138 hg w29 hbox hb;have BK138:=Aside0.mk (hbox);have GW138 : Aside0 (w.heap.size ≤ gb138):=gsz hg;have GE138:=GW138;replace HB:=hbs hb;clear hb hbox hg;obtain ⟨_,_,_,_,_,_,_,_⟩:=cells4 BK138.out)|((with_reducible refine gate_callee (f:=36) rfl ?_);refine goesL_ (some 15) rfl rfl Try.func36 (by kernel_rfl) rfl #[.agg #[.int .i64 a0_0,.int .i64 a0_1,.slice A0_2 l0_2.length c0_2,.slice A0_3 l0_3.length c0_3]] rfl ga_ ?_;(with_reducible refine (road_Validate.calls k a0_0 a0_1 _ _ l0_2 _ _ l0_3 t139 _ ?_ ?_ ?_ ?_ A5.out).mono ?_);exact cq HR0_2;exact HC0_2.out;exact cq HR0_3;exact HC0_3.out;rintro e w31 ⟨rfl,hb⟩;refine ⟨_,rfl,?_⟩;replace BK138:=bkb BK138 hb;replace HB:=hbs hb))
  go_ret3
  exact ⟨er_,hb_⟩
 rw [if_pos c6] at H
 have c6b0:=bqt c6
 have c6b1:=bnf c6
 clear c6
 replace H:=Option.bind_eq_some_iff.mp H
 obtain ⟨t140,A70,H⟩:=H
 replace H : (if t140 = true then (if a2 < (-1) then (some (0,false,1)) else (if a2 > 3 then (some (0,false,1)) else ((lane_choose.f k a0_0 a0_1 l0_2 l0_3 a1 a2 a3).bind fun bt141 => (some (bt141.1,bt141.2,0))))) else (some (0,false,2))) = some (r1,r2,r3):=H
 have A7:=Aside0.mk A70
 clear A70
 by_cases c8 : t140 = true
 ·subst c8
  have H1 : (if a2 < (-1) then (some (0,false,1)) else (if a2 > 3 then (some (0,false,1)) else ((lane_choose.f k a0_0 a0_1 l0_2 l0_3 a1 a2 a3).bind fun bt141 => (some (bt141.1,bt141.2,0))))) = some (r1,r2,r3):=by rw [if_pos rfl] at H;exact H
  clear H
  have H:=H1
  clear H1
  by_cases c9 : a2 < (-1)
  ·rw [if_pos c9] at H
   have c9b0 : decide (a2 < (-1)) = true:=decide_eq_true c9
   clear c9
   simp only [Option.some.injEq,Prod.mk.injEq] at H
   obtain ⟨rfl,rfl,rfl⟩:=H
   go_enter Try.func15,Try.ntmps15
   go_wp2_with (first|((with_reducible refine gate_dst (N:=4) rfl ?_);refine box_ev (N:=4) (cs:=#[.int .i64 a0_0,.int .i64 a0_1,.slice A0_2 l0_2.length c0_2,.slice A0_3 l0_3.length c0_3]) (t:=24) ?_;intro gb138 hg w10 hbox hb;have BK138:=Aside0.mk (hbox);have GW138 : Aside0 (w.heap.size ≤ gb138):=gsz hg;have GE138:=GW138;replace HB:=hbs hb;clear hb hbox hg;obtain ⟨_,_,_,_,_,_,_,_⟩:=cells4 BK138.out)|((with_reducible refine gate_callee (f:=36) rfl ?_);refine goesL_ (some 15) rfl rfl Try.func36 (by kernel_rfl) rfl #[.agg #[.int .i64 a0_0,.int .i64 a0_1,.slice A0_2 l0_2.length c0_2,.slice A0_3 l0_3.length c0_3]] rfl ga_ ?_;(with_reducible refine (road_Validate.calls k a0_0 a0_1 _ _ l0_2 _ _ l0_3 t139 _ ?_ ?_ ?_ ?_ A5.out).mono ?_);exact cq HR0_2;exact HC0_2.out;exact cq HR0_3;exact HC0_3.out;rintro e w12 ⟨rfl,hb⟩;refine ⟨_,rfl,?_⟩;replace BK138:=bkb BK138 hb;replace HB:=hbs hb;obtain ⟨_,_,_,_,_,_,_,_⟩:=cells4 BK138.out)|((with_reducible refine gate_callee (f:=37) rfl ?_);refine goesL_ (some 27) rfl rfl Try.func37 (by kernel_rfl) rfl #[.int .i64 a1,.int .i64 (wrap64 ((wrap64 (a0_0 * a0_1)) - 1))] rfl ga_ ?_;(with_reducible refine (lane_within.calls a1 (wrap64 ((wrap64 (a0_0 * a0_1)) - 1)) true _ A7.out).mono ?_);rintro e w' ⟨rfl,⟨nd,rfl⟩⟩;refine ⟨_,rfl,?_⟩))
   go_ret3
   exact ⟨er_,hb_⟩
  ·rw [if_neg c9] at H
   have c9b0 : decide (a2 < (-1)) = false:=decide_eq_false c9
   clear c9
   by_cases c14 : a2 > 3
   ·rw [if_pos c14] at H
    have c14b0 : decide (3 < a2) = true:=decide_eq_true c14
    clear c14
    simp only [Option.some.injEq,Prod.mk.injEq] at H
    obtain ⟨rfl,rfl,rfl⟩:=H
    go_enter Try.func15,Try.ntmps15
    go_wp2_with (first|((with_reducible refine gate_dst (N:=4) rfl ?_);refine box_ev (N:=4) (cs:=#[.int .i64 a0_0,.int .i64 a0_1,.slice A0_2 l0_2.length c0_2,.slice A0_3 l0_3.length c0_3]) (t:=24) ?_;intro gb138 hg w15 hbox hb;have BK138:=Aside0.mk (hbox);have GW138 : Aside0 (w.heap.size ≤ gb138):=gsz hg;have GE138:=GW138;replace HB:=hbs hb;clear hb hbox hg;obtain ⟨_,_,_,_,_,_,_,_⟩:=cells4 BK138.out)|((with_reducible refine gate_callee (f:=36) rfl ?_);refine goesL_ (some 15) rfl rfl Try.func36 (by kernel_rfl) rfl #[.agg #[.int .i64 a0_0,.int .i64 a0_1,.slice A0_2 l0_2.length c0_2,.slice A0_3 l0_3.length c0_3]] rfl ga_ ?_;(with_reducible refine (road_Validate.calls k a0_0 a0_1 _ _ l0_2 _ _ l0_3 t139 _ ?_ ?_ ?_ ?_ A5.out).mono ?_);exact cq HR0_2;exact HC0_2.out;exact cq HR0_3;exact HC0_3.out;rintro e w17 ⟨rfl,hb⟩;refine ⟨_,rfl,?_⟩;replace BK138:=bkb BK138 hb;replace HB:=hbs hb;obtain ⟨_,_,_,_,_,_,_,_⟩:=cells4 BK138.out)|((with_reducible refine gate_callee (f:=37) rfl ?_);refine goesL_ (some 27) rfl rfl Try.func37 (by kernel_rfl) rfl #[.int .i64 a1,.int .i64 (wrap64 ((wrap64 (a0_0 * a0_1)) - 1))] rfl ga_ ?_;(with_reducible refine (lane_within.calls a1 (wrap64 ((wrap64 (a0_0 * a0_1)) - 1)) true _ A7.out).mono ?_);rintro e w' ⟨rfl,⟨nd,rfl⟩⟩;refine ⟨_,rfl,?_⟩))
    go_ret3
    exact ⟨er_,hb_⟩
   ·rw [if_neg c14] at H
    have c14b0 : decide (3 < a2) = false:=decide_eq_false c14
    clear c14
    replace H:=Option.bind_eq_some_iff.mp H
    obtain ⟨⟨t141,t142⟩,A190,H⟩:=H
    replace H : (some (t141,t142,0)) = some (r1,r2,r3):=H
    have A19:=Aside0.mk A190
    clear A190
    simp only [Option.some.injEq,Prod.mk.injEq] at H
    obtain ⟨rfl,rfl,rfl⟩:=H
    go_enter Try.func15,Try.ntmps15
    go_wp2_with (first|((with_reducible refine gate_dst (N:=4) rfl ?_);refine box_ev (N:=4) (cs:=#[.int .i64 a0_0,.int .i64 a0_1,.slice A0_2 l0_2.length c0_2,.slice A0_3 l0_3.length c0_3]) (t:=24) ?_;intro gb138 hg w20 hbox hb;have BK138:=Aside0.mk (hbox);have GW138 : Aside0 (w.heap.size ≤ gb138):=gsz hg;have GE138:=GW138;replace HB:=hbs hb;clear hb hbox hg;obtain ⟨_,_,_,_,_,_,_,_⟩:=cells4 BK138.out)|((with_reducible refine gate_callee (f:=36) rfl ?_);refine goesL_ (some 15) rfl rfl Try.func36 (by kernel_rfl) rfl #[.agg #[.int .i64 a0_0,.int .i64 a0_1,.slice A0_2 l0_2.length c0_2,.slice A0_3 l0_3.length c0_3]] rfl ga_ ?_;(with_reducible refine (road_Validate.calls k a0_0 a0_1 _ _ l0_2 _ _ l0_3 t139 _ ?_ ?_ ?_ ?_ A5.out).mono ?_);exact cq HR0_2;exact HC0_2.out;exact cq HR0_3;exact HC0_3.out;rintro e w22 ⟨rfl,hb⟩;refine ⟨_,rfl,?_⟩;replace BK138:=bkb BK138 hb;replace HB:=hbs hb;obtain ⟨_,_,_,_,_,_,_,_⟩:=cells4 BK138.out)|((with_reducible refine gate_callee (f:=37) rfl ?_);refine goesL_ (some 27) rfl rfl Try.func37 (by kernel_rfl) rfl #[.int .i64 a1,.int .i64 (wrap64 ((wrap64 (a0_0 * a0_1)) - 1))] rfl ga_ ?_;(with_reducible refine (lane_within.calls a1 (wrap64 ((wrap64 (a0_0 * a0_1)) - 1)) true _ A7.out).mono ?_);rintro e w' ⟨rfl,⟨nd,rfl⟩⟩;refine ⟨_,rfl,?_⟩)|((with_reducible refine gate_callee (f:=38) rfl ?_);refine goesL_ (some 41) rfl rfl Try.func38 (by kernel_rfl) rfl #[.agg #[.int .i64 a0_0,.int .i64 a0_1,.slice A0_2 l0_2.length c0_2,.slice A0_3 l0_3.length c0_3],.int .i64 a1,.int .i64 a2,.int .i64 a3] rfl ga_ ?_;(with_reducible refine (lane_choose.calls k a0_0 a0_1 _ _ l0_2 _ _ l0_3 a1 a2 a3 t141 t142 _ ?_ ?_ ?_ ?_ A19.out).mono ?_);(focus (repeat (first|exact (Kd.C_below HR0_2.out (hb_))|(with_reducible refine Kd.C_alloc ?_ _)|(with_reducible refine Kd.C_drewN ?_ _)|(with_reducible refine Kd.C_drew ?_))));exact HC0_2.out;(focus (repeat (first|exact (Kd.C_below HR0_3.out (hb_))|(with_reducible refine Kd.C_alloc ?_ _)|(with_reducible refine Kd.C_drewN ?_ _)|(with_reducible refine Kd.C_drew ?_))));exact HC0_3.out;rintro e w24 ⟨rfl,hb⟩;refine ⟨_,rfl,?_⟩;replace BK138:=bkb BK138 hb;replace HB:=hbs hb))
    go_ret3
    exact ⟨er_,hb_⟩
 ·replace c8:=Bool.eq_false_iff.mpr c8
  subst c8
  have H1 : (some (0,false,2)) = some (r1,r2,r3):=by rw [if_neg (show ¬ (false = true) by decide)] at H;exact H
  clear H
  have H:=H1
  clear H1
  simp only [Option.some.injEq,Prod.mk.injEq] at H
  obtain ⟨rfl,rfl,rfl⟩:=H
  go_enter Try.func15,Try.ntmps15
  go_wp2_with (first|((with_reducible refine gate_dst (N:=4) rfl ?_);refine box_ev (N:=4) (cs:=#[.int .i64 a0_0,.int .i64 a0_1,.slice A0_2 l0_2.length c0_2,.slice A0_3 l0_3.length c0_3]) (t:=24) ?_;intro gb138 hg w25 hbox hb;have BK138:=Aside0.mk (hbox);have GW138 : Aside0 (w.heap.size ≤ gb138):=gsz hg;have GE138:=GW138;replace HB:=hbs hb;clear hb hbox hg;obtain ⟨_,_,_,_,_,_,_,_⟩:=cells4 BK138.out)|((with_reducible refine gate_callee (f:=36) rfl ?_);refine goesL_ (some 15) rfl rfl Try.func36 (by kernel_rfl) rfl #[.agg #[.int .i64 a0_0,.int .i64 a0_1,.slice A0_2 l0_2.length c0_2,.slice A0_3 l0_3.length c0_3]] rfl ga_ ?_;(with_reducible refine (road_Validate.calls k a0_0 a0_1 _ _ l0_2 _ _ l0_3 t139 _ ?_ ?_ ?_ ?_ A5.out).mono ?_);exact cq HR0_2;exact HC0_2.out;exact cq HR0_3;exact HC0_3.out;rintro e w27 ⟨rfl,hb⟩;refine ⟨_,rfl,?_⟩;replace BK138:=bkb BK138 hb;replace HB:=hbs hb;obtain ⟨_,_,_,_,_,_,_,_⟩:=cells4 BK138.out)|((with_reducible refine gate_callee (f:=37) rfl ?_);refine goesL_ (some 27) rfl rfl Try.func37 (by kernel_rfl) rfl #[.int .i64 a1,.int .i64 (wrap64 ((wrap64 (a0_0 * a0_1)) - 1))] rfl ga_ ?_;(with_reducible refine (lane_within.calls a1 (wrap64 ((wrap64 (a0_0 * a0_1)) - 1)) false _ A7.out).mono ?_);rintro e w' ⟨rfl,⟨nd,rfl⟩⟩;refine ⟨_,rfl,?_⟩))
  go_ret3
  exact ⟨er_,hb_⟩

end Go.Proofs.Ythjmdpekcleihaa.P

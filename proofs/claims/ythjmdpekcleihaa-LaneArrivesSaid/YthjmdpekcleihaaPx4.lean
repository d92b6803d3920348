/- Functions of this seat as plain Lean functions, with proofs that the Go code comes to just their answers, or what stands between them and a law's statement; no conditions. (Laid by a program of this session, out of the kit's print.) -/
import Derived.Test.YthjmdpekcleihaaPx0
import Derived.Test.YthjmdpekcleihaaPx2
import Derived.Test.YthjmdpekcleihaaPx3
namespace Go.Proofs.Ythjmdpekcleihaa.P
open Go.RowKit Go.Proofs.YthjmdpekcleihaaW.PrintWords Go.Proofs.YthjmdpekcleihaaW.PrintLast Go.Proofs.YthjmdpekcleihaaW.PrintMore
attribute [local go_sem] max2_int min2_int max_two min_two max_three min_three max_four min_four   -- for this text's walks alone
set_option linter.unusedVariables false
set_option linter.unusedSimpArgs false

/-! ### lane_choose: function 38 -/
def lane_choose.l0 : Nat → Int → Int → Int → Int → List Int → Int → Int → Int → Int → List Int → List Int → Option (Int × Bool)
 | 0,_,_,_,_,_,_,_,_,_,_,_ => none
 | k + 1,x1,x3,x11,x12,x26,x27,x28,x131000,x131001,x131002,x131003 => if x28 < x27 then (if 0 ≤ x28 then (if x28 < (x26.length : Int) then ((lane_far.f k x131000 x131001 x131002 x131003 x1 (rd x26 x28) x3).bind fun t136 => (if t136 ≥ 0 then (if x12 < 0 then (lane_choose.l0 k x1 x3 (rd x26 x28) t136 x26 x27 (wrap64 (x28 + 1)) x131000 x131001 x131002 x131003) else (if t136 < x12 then (lane_choose.l0 k x1 x3 (rd x26 x28) t136 x26 x27 (wrap64 (x28 + 1)) x131000 x131001 x131002 x131003) else (lane_choose.l0 k x1 x3 x11 x12 x26 x27 (wrap64 (x28 + 1)) x131000 x131001 x131002 x131003))) else (lane_choose.l0 k x1 x3 x11 x12 x26 x27 (wrap64 (x28 + 1)) x131000 x131001 x131002 x131003))) else (none)) else (none)) else (some (x11,true))
def lane_choose.f (k : Nat) (a0_0 : Int) (a0_1 : Int) (l0_2 : List Int) (l0_3 : List Int) (a1 : Int) (a2 : Int) (a3 : Int) : Option (Int × Bool) := (lane_leaves.f k a0_0 a0_1 l0_2 l0_3 a1 a2).bind fun t131 => (if (t131.length : Int) = 0 then (some (0, false)) else (if 0 < (t131.length : Int) then (lane_choose.l0 k a1 a3 (rd t131 0) (-1) t131 (t131.length : Int) 0 a0_0 a0_1 l0_2 l0_3) else (none)))
theorem lane_choose.mono_l : ∀ k, (∀ y0 y1 y2 y3 y4 y5 y6 y7 y8 y9 y10, LeO (lane_choose.l0 k y0 y1 y2 y3 y4 y5 y6 y7 y8 y9 y10) (lane_choose.l0 (k + 1) y0 y1 y2 y3 y4 y5 y6 y7 y8 y9 y10))
 | 0 => fun _ _ _ _ _ _ _ _ _ _ _ r h => by simp [lane_choose.l0] at h
 | k + 1 => by
  have ih0:=lane_choose.mono_l k
  ·intro y0 y1 y2 y3 y4 y5 y6 y7 y8 y9 y10
   unfold lane_choose.l0
   repeat' first
   | (with_reducible exact ih0 _ _ _ _ _ _ _ _ _ _ _)
   | (with_reducible exact lane_far.mono _ _ _ _ _ _ _ _)
   | (with_reducible exact lane_leaves.mono _ _ _ _ _ _ _)
   | (with_reducible exact LeO.refl _)
   | (with_reducible exact LeO.none _)
   | (with_reducible refine LeO.ite ?_ ?_)
   | (with_reducible refine LeO.bind ?_ (fun _ => ?_))
   | exact ih0 _ _ _ _ _ _ _ _ _ _ _
   | exact lane_far.mono _ _ _ _ _ _ _ _
   | exact lane_leaves.mono _ _ _ _ _ _ _
   | exact LeO.none _
   | refine LeO.ite ?_ ?_
   | refine LeO.bind ?_ (fun _ => ?_)
theorem lane_choose.mono : ∀ a0 a1 a2 a3 a4 a5 a6 k, LeO (lane_choose.f k a0 a1 a2 a3 a4 a5 a6) (lane_choose.f (k + 1) a0 a1 a2 a3 a4 a5 a6) := by
 intro a0 a1 a2 a3 a4 a5 a6 k
 have ih0:=lane_choose.mono_l k
 unfold lane_choose.f
 repeat' first
   | (with_reducible exact ih0 _ _ _ _ _ _ _ _ _ _ _)
   | (with_reducible exact lane_far.mono _ _ _ _ _ _ _ _)
   | (with_reducible exact lane_leaves.mono _ _ _ _ _ _ _)
   | (with_reducible exact LeO.refl _)
   | (with_reducible exact LeO.none _)
   | (with_reducible refine LeO.ite ?_ ?_)
   | (with_reducible refine LeO.bind ?_ (fun _ => ?_))
   | exact ih0 _ _ _ _ _ _ _ _ _ _ _
   | exact lane_far.mono _ _ _ _ _ _ _ _
   | exact lane_leaves.mono _ _ _ _ _ _ _
   | exact LeO.none _
   | refine LeO.ite ?_ ?_
   | refine LeO.bind ?_ (fun _ => ?_)
set_option maxHeartbeats 8000000 in
set_option maxRecDepth 100000 in
theorem lane_choose.calls (k : Nat) (a0_0 : Int) (a0_1 : Int) (A0_2 : Option Addr) (c0_2 : Nat) (l0_2 : List Int) (A0_3 : Option Addr) (c0_3 : Nat) (l0_3 : List Int) (a1 : Int) (a2 : Int) (a3 : Int) (r1 : Int) (r2 : Bool) (w : World) (hr0_2 : Kd.C (Kd.int .i64) w A0_2 l0_2.length l0_2) (hc0_2 : l0_2.length ≤ c0_2) (hr0_3 : Kd.C (Kd.int .i64) w A0_3 l0_3.length l0_3) (hc0_3 : l0_3.length ≤ c0_3) (h : lane_choose.f k a0_0 a0_1 l0_2 l0_3 a1 a2 a3 = some (r1, r2)) :
  Calls Try.prog 38 #[.agg #[.int .i64 a0_0,.int .i64 a0_1,.slice A0_2 l0_2.length c0_2,.slice A0_3 l0_3.length c0_3],.int .i64 a1,.int .i64 a2,.int .i64 a3] w fun e w' => e = .returned (.tuple #[.int .i64 r1,.bool r2]) ∧ Below w.heap.size w w':=by
 have hu24:=Try.underlying24
 have HR0_2:=Aside0.mk hr0_2
 have HC0_2:=Aside0.mk hc0_2
 clear hr0_2 hc0_2
 have HR0_3:=Aside0.mk hr0_3
 have HC0_3:=Aside0.mk hc0_3
 clear hr0_3 hc0_3
 have HB:=Aside0.mk (Below.refl w.heap.size w)
 have H : ((lane_leaves.f k a0_0 a0_1 l0_2 l0_3 a1 a2).bind fun t131 => (if (t131.length : Int) = 0 then (some (0,false)) else (if 0 < (t131.length : Int) then (lane_choose.l0 k a1 a3 (rd t131 0) (-1) t131 (t131.length : Int) 0 a0_0 a0_1 l0_2 l0_3) else (none)))) = some (r1,r2):=h
 clear h
 replace H:=Option.bind_eq_some_iff.mp H
 obtain ⟨t131,A50,H⟩:=H
 replace H : (if (t131.length : Int) = 0 then (some (0,false)) else (if 0 < (t131.length : Int) then (lane_choose.l0 k a1 a3 (rd t131 0) (-1) t131 (t131.length : Int) 0 a0_0 a0_1 l0_2 l0_3) else (none))) = some (r1,r2):=H
 have A5:=Aside0.mk A50
 clear A50
 by_cases c6 : (t131.length : Int) = 0
 ·rw [if_pos c6] at H
  have c6b0:=bqt c6
  have c6b1:=bnf c6
  clear c6
  simp only [Option.some.injEq,Prod.mk.injEq] at H
  obtain ⟨rfl,rfl⟩:=H
  go_enter Try.func38,Try.ntmps38
  go_wp2_with (first|((with_reducible refine gate_dst (N:=4) rfl ?_);refine box_ev (N:=4) (cs:=#[.int .i64 a0_0,.int .i64 a0_1,.slice A0_2 l0_2.length c0_2,.slice A0_3 l0_3.length c0_3]) (t:=24) ?_;intro gb130 hg w7 hbox hb;have BK130:=Aside0.mk (hbox);have GW130 : Aside0 (w.heap.size ≤ gb130):=gsz hg;have GE130:=GW130;replace HB:=hbs hb;clear hb hbox hg;obtain ⟨_,_,_,_,_,_,_,_⟩:=cells4 BK130.out)|((with_reducible refine gate_callee (f:=65) rfl ?_);refine goesL_ (some 19) rfl rfl Try.func65 (by kernel_rfl) rfl #[.agg #[.int .i64 a0_0,.int .i64 a0_1,.slice A0_2 l0_2.length c0_2,.slice A0_3 l0_3.length c0_3],.int .i64 a1,.int .i64 a2] rfl ga_ ?_;(with_reducible refine (lane_leaves.calls k a0_0 a0_1 _ _ l0_2 _ _ l0_3 a1 a2 t131 _ ?_ ?_ ?_ ?_ A5.out).mono ?_);exact cq HR0_2;exact HC0_2.out;exact cq HR0_3;exact HC0_3.out;rintro e w9 ⟨v132,rfl,ho0,hb⟩;refine ⟨_,rfl,?_⟩;have HO133:=rlo ho0;replace BK130:=bkb BK130 hb;replace HB:=hbs hb;obtain ⟨Ao10,co10,eo10⟩:=Kd.R_slice HO133.out;subst eo10))
  go_ret2
  exact ⟨er_,hb_⟩
 rw [if_neg c6] at H
 have c6b0:=bqf c6
 have c6b1:=bnt c6
 have c6b2 : ¬ (t131 = []):=fun h_ => c6 (by rw [h_];rfl)
 replace H:=ifp_ H;obtain ⟨c11,H⟩:=H
 have c11b0 : decide (0 < (t131.length : Int)) = true:=decide_eq_true c11
 have c11b1 : decide (0 < t131.length) = true:=decide_eq_true (by omega)
 clear c11
 have H':=Aside0.mk H
 clear H
 go_enter Try.func38,Try.ntmps38
 go_wp2_with (first|((with_reducible refine gate_dst (N:=4) rfl ?_);refine box_ev (N:=4) (cs:=#[.int .i64 a0_0,.int .i64 a0_1,.slice A0_2 l0_2.length c0_2,.slice A0_3 l0_3.length c0_3]) (t:=24) ?_;intro gb130 hg w12 hbox hb;have BK130:=Aside0.mk (hbox);have GW130 : Aside0 (w.heap.size ≤ gb130):=gsz hg;have GE130:=GW130;replace HB:=hbs hb;clear hb hbox hg;obtain ⟨_,_,_,_,_,_,_,_⟩:=cells4 BK130.out)|((with_reducible refine gate_callee (f:=65) rfl ?_);refine goesL_ (some 19) rfl rfl Try.func65 (by kernel_rfl) rfl #[.agg #[.int .i64 a0_0,.int .i64 a0_1,.slice A0_2 l0_2.length c0_2,.slice A0_3 l0_3.length c0_3],.int .i64 a1,.int .i64 a2] rfl ga_ ?_;(with_reducible refine (lane_leaves.calls k a0_0 a0_1 _ _ l0_2 _ _ l0_3 a1 a2 t131 _ ?_ ?_ ?_ ?_ A5.out).mono ?_);exact cq HR0_2;exact HC0_2.out;exact cq HR0_3;exact HC0_3.out;rintro e w14 ⟨v132,rfl,ho0,hb⟩;refine ⟨_,rfl,?_⟩;have HO133:=rlo ho0;replace BK130:=bkb BK130 hb;replace HB:=hbs hb;obtain ⟨Ao15,co15,eo15⟩:=Kd.R_slice HO133.out;subst eo15;have p134 : 0 ≤ (0 : Int):=(by omega);have q134 : 0 < (t131.length : Int):=of_decide_eq_true (by first|(with_reducible assumption)|assumption);obtain ⟨ad134,e134,hx134_0⟩:=Kd.at_int (Kd.R_reads' HO133.out).2.2 0 p134 q134;cases e134;have qi134 : (0 < t131.length) = True:=eq_true (by omega);(try rw [show ((0 : Int)).toNat = 0 from rfl] at hx134_0);(try rw [Addr.add_zero'] at hx134_0);replace p134:=eq_true p134;replace q134:=eq_true q134))
 go_loopg [11,12,28] k (fun kq v11 v12 v28 w' => ∃ (x11_1 : Int) (x12_1 : Int) (x28_1 : Int),v11 = .int .i64 x11_1 ∧ v12 = .int .i64 x12_1 ∧ v28 = .int .i64 x28_1 ∧ Aside0 (lane_choose.l0 kq a1 a3 x11_1 x12_1 t131 (t131.length : Int) x28_1 a0_0 a0_1 l0_2 l0_3 = some (r1,r2)) ∧ Aside0 (kq ≤ k) ∧ Aside0 (Kd.R (Kd.int .i64) 3 w' w.heap.size (fun _ => True) (.slice (some ad134) t131.length co15) t131) ∧ Aside0 (w'.heap[gb130]? = some (.cells #[.int .i64 a0_0,.int .i64 a0_1,(.slice A0_2 l0_2.length c0_2),(.slice A0_3 l0_3.length c0_3)] 24 (0,0))) ∧ Aside0 (Below w.heap.size w w'))
 case atStart => exact ⟨(rd t131 0),((-1)),(0),(by first|rfl|(simp;done)|(simp [*];done)),(by first|rfl|(simp;done)|(simp [*];done)),(by first|rfl|(simp;done)|(simp [*];done)),H',⟨Nat.le_refl _⟩,⟨Kd.R_up HO133.out⟩,⟨blk_up BK130.out⟩,⟨hb_⟩⟩
 case round =>
  clear H'
  obtain ⟨x11_1,x12_1,x28_1,rfl,rfl,rfl,HA,HK1,HO_26,BK130,HB⟩:=hrel
  cases gk with
  | zero => exact absurd HA.out (by simp [lane_choose.l0])
  | succ k1 =>
   have H:=HA.out
   clear HA
   simp only [lane_choose.l0] at H
   by_cases c16 : x28_1 < (t131.length : Int)
   rotate_left
   ·rw [if_neg c16] at H
    have c16b0 : decide (x28_1 < (t131.length : Int)) = false:=decide_eq_false c16
    clear c16
    simp only [Option.some.injEq,Prod.mk.injEq] at H
    obtain ⟨rfl,rfl⟩:=H
    go_wp2
    go_ret2
    exact ⟨er_,hb_⟩
   rw [if_pos c16] at H
   have c16b0 : decide (x28_1 < (t131.length : Int)) = true:=decide_eq_true c16
   clear c16
   replace H:=ifp_ H;obtain ⟨c17,H⟩:=H
   have c17b0 : decide (0 ≤ x28_1) = true:=decide_eq_true c17
   clear c17
   replace H:=ifp_ H;obtain ⟨c18,H⟩:=H
   have c18b0 : decide (x28_1 < (t131.length : Int)) = true:=decide_eq_true c18
   clear c18
   replace H:=Option.bind_eq_some_iff.mp H
   obtain ⟨t136,A190,H⟩:=H
   replace H : (if t136 ≥ 0 then (if x12_1 < 0 then (lane_choose.l0 k1 a1 a3 (rd t131 x28_1) t136 t131 (t131.length : Int) (wrap64 (x28_1 + 1)) a0_0 a0_1 l0_2 l0_3) else (if t136 < x12_1 then (lane_choose.l0 k1 a1 a3 (rd t131 x28_1) t136 t131 (t131.length : Int) (wrap64 (x28_1 + 1)) a0_0 a0_1 l0_2 l0_3) else (lane_choose.l0 k1 a1 a3 x11_1 x12_1 t131 (t131.length : Int) (wrap64 (x28_1 + 1)) a0_0 a0_1 l0_2 l0_3))) else (lane_choose.l0 k1 a1 a3 x11_1 x12_1 t131 (t131.length : Int) (wrap64 (x28_1 + 1)) a0_0 a0_1 l0_2 l0_3)) = some (r1,r2):=H
   have A19:=Aside0.mk A190
   clear A190
   by_cases c20 : t136 ≥ 0
   rotate_left
   ·rw [if_neg c20] at H
    have c20b0 : decide (0 ≤ t136) = false:=decide_eq_false c20
    clear c20
    have H':=Aside0.mk H
    clear H
    have p135 : 0 ≤ (x28_1 : Int):=of_decide_eq_true (by first|(with_reducible assumption)|assumption)
    have q135 : x28_1 < (t131.length : Int):=of_decide_eq_true (by first|(with_reducible assumption)|assumption)
    obtain ⟨ad135,e135,hx135_0⟩:=Kd.at_int (Kd.R_reads' HO_26.out).2.2 x28_1 p135 q135
    obtain rfl : ad134 = ad135:=(by injection e135)
    replace p135:=eq_true p135
    replace q135:=eq_true q135
    obtain ⟨_,_,_,_,_,_,_,_⟩:=cells4 BK130.out
    go_wp2_with (first|((with_reducible refine gate_callee (f:=66) rfl ?_);refine goesL_ (some 36) rfl rfl Try.func66 (by kernel_rfl) rfl #[.agg #[.int .i64 a0_0,.int .i64 a0_1,.slice A0_2 l0_2.length c0_2,.slice A0_3 l0_3.length c0_3],.int .i64 a1,.int .i64 (rd t131 x28_1),.int .i64 a3] rfl ga_ ?_;(with_reducible refine (lane_far.calls k1 a0_0 a0_1 _ _ l0_2 _ _ l0_3 a1 (rd t131 x28_1) a3 t136 _ ?_ ?_ ?_ ?_ A19.out).mono ?_);exact cq HR0_2;exact HC0_2.out;exact cq HR0_3;exact HC0_3.out;rintro e w30 ⟨rfl,hb⟩;refine ⟨_,rfl,?_⟩;replace HO_26:=rbw HO_26 hb;replace BK130:=bkb BK130 hb;replace HB:=hbs hb))
    go_roundg k1
    case measure => have:=HK1.out;omega
    case rel => exact ⟨(x11_1),(x12_1),(wrap64 (x28_1 + 1)),(by first|rfl|(simp;done)|(simp [*];done)),(by first|rfl|(simp;done)|(simp [*];done)),(by first|rfl|(simp;done)|(simp [*];done)),H',⟨by have:=HK1.out;omega⟩,⟨Kd.R_up HO_26.out⟩,⟨blk_up BK130.out⟩,⟨hb_⟩⟩
   rw [if_pos c20] at H
   have c20b0 : decide (0 ≤ t136) = true:=decide_eq_true c20
   clear c20
   by_cases c21 : x12_1 < 0
   ·rw [if_pos c21] at H
    have c21b0 : decide (x12_1 < 0) = true:=decide_eq_true c21
    clear c21
    have H':=Aside0.mk H
    clear H
    have p135 : 0 ≤ (x28_1 : Int):=of_decide_eq_true (by first|(with_reducible assumption)|assumption)
    have q135 : x28_1 < (t131.length : Int):=of_decide_eq_true (by first|(with_reducible assumption)|assumption)
    obtain ⟨ad135,e135,hx135_0⟩:=Kd.at_int (Kd.R_reads' HO_26.out).2.2 x28_1 p135 q135
    obtain rfl : ad134 = ad135:=(by injection e135)
    replace p135:=eq_true p135
    replace q135:=eq_true q135
    obtain ⟨_,_,_,_,_,_,_,_⟩:=cells4 BK130.out
    go_wp2_with (first|((with_reducible refine gate_callee (f:=66) rfl ?_);refine goesL_ (some 36) rfl rfl Try.func66 (by kernel_rfl) rfl #[.agg #[.int .i64 a0_0,.int .i64 a0_1,.slice A0_2 l0_2.length c0_2,.slice A0_3 l0_3.length c0_3],.int .i64 a1,.int .i64 (rd t131 x28_1),.int .i64 a3] rfl ga_ ?_;(with_reducible refine (lane_far.calls k1 a0_0 a0_1 _ _ l0_2 _ _ l0_3 a1 (rd t131 x28_1) a3 t136 _ ?_ ?_ ?_ ?_ A19.out).mono ?_);exact cq HR0_2;exact HC0_2.out;exact cq HR0_3;exact HC0_3.out;rintro e w23 ⟨rfl,hb⟩;refine ⟨_,rfl,?_⟩;replace HO_26:=rbw HO_26 hb;replace BK130:=bkb BK130 hb;replace HB:=hbs hb))
    go_roundg k1
    case measure => have:=HK1.out;omega
    case rel => exact ⟨(rd t131 x28_1),(t136),(wrap64 (x28_1 + 1)),(by first|rfl|(simp;done)|(simp [*];done)),(by first|rfl|(simp;done)|(simp [*];done)),(by first|rfl|(simp;done)|(simp [*];done)),H',⟨by have:=HK1.out;omega⟩,⟨Kd.R_up HO_26.out⟩,⟨blk_up BK130.out⟩,⟨hb_⟩⟩
   rw [if_neg c21] at H
   have c21b0 : decide (x12_1 < 0) = false:=decide_eq_false c21
   clear c21
   by_cases c24 : t136 < x12_1
   ·rw [if_pos c24] at H
    have c24b0 : decide (t136 < x12_1) = true:=decide_eq_true c24
    clear c24
    have H':=Aside0.mk H
    clear H
    have p135 : 0 ≤ (x28_1 : Int):=of_decide_eq_true (by first|(with_reducible assumption)|assumption)
    have q135 : x28_1 < (t131.length : Int):=of_decide_eq_true (by first|(with_reducible assumption)|assumption)
    obtain ⟨ad135,e135,hx135_0⟩:=Kd.at_int (Kd.R_reads' HO_26.out).2.2 x28_1 p135 q135
    obtain rfl : ad134 = ad135:=(by injection e135)
    replace p135:=eq_true p135
    replace q135:=eq_true q135
    obtain ⟨_,_,_,_,_,_,_,_⟩:=cells4 BK130.out
    go_wp2_with (first|((with_reducible refine gate_callee (f:=66) rfl ?_);refine goesL_ (some 36) rfl rfl Try.func66 (by kernel_rfl) rfl #[.agg #[.int .i64 a0_0,.int .i64 a0_1,.slice A0_2 l0_2.length c0_2,.slice A0_3 l0_3.length c0_3],.int .i64 a1,.int .i64 (rd t131 x28_1),.int .i64 a3] rfl ga_ ?_;(with_reducible refine (lane_far.calls k1 a0_0 a0_1 _ _ l0_2 _ _ l0_3 a1 (rd t131 x28_1) a3 t136 _ ?_ ?_ ?_ ?_ A19.out).mono ?_);exact cq HR0_2;exact HC0_2.out;exact cq HR0_3;exact HC0_3.out;rintro e w26 ⟨rfl,hb⟩;refine ⟨_,rfl,?_⟩;replace HO_26:=rbw HO_26 hb;replace BK130:=bkb BK130 hb;replace HB:=hbs hb))
    go_roundg k1
    case measure => have:=HK1.out;omega
    case rel => exact ⟨(rd t131 x28_1),(t136),(wrap64 (x28_1 + 1)),(by first|rfl|(simp;done)|(simp [*];done)),(by first|rfl|(simp;done)|(simp [*];done)),(by first|rfl|(simp;done)|(simp [*];done)),H',⟨by have:=HK1.out;omega⟩,⟨Kd.R_up HO_26.out⟩,⟨blk_up BK130.out⟩,⟨hb_⟩⟩
   ·rw [if_neg c24] at H
    have c24b0 : decide (t136 < x12_1) = false:=decide_eq_false c24
    clear c24
    have H':=Aside0.mk H
    clear H
    have p135 : 0 ≤ (x28_1 : Int):=of_decide_eq_true (by first|(with_reducible assumption)|assumption)
    have q135 : x28_1 < (t131.length : Int):=of_decide_eq_true (by first|(with_reducible assumption)|assumption)
    obtain ⟨ad135,e135,hx135_0⟩:=Kd.at_int (Kd.R_reads' HO_26.out).2.2 x28_1 p135 q135
    obtain rfl : ad134 = ad135:=(by injection e135)
    replace p135:=eq_true p135
    replace q135:=eq_true q135
    obtain ⟨_,_,_,_,_,_,_,_⟩:=cells4 BK130.out
    go_wp2_with (first|((with_reducible refine gate_callee (f:=66) rfl ?_);refine goesL_ (some 36) rfl rfl Try.func66 (by kernel_rfl) rfl #[.agg #[.int .i64 a0_0,.int .i64 a0_1,.slice A0_2 l0_2.length c0_2,.slice A0_3 l0_3.length c0_3],.int .i64 a1,.int .i64 (rd t131 x28_1),.int .i64 a3] rfl ga_ ?_;(with_reducible refine (lane_far.calls k1 a0_0 a0_1 _ _ l0_2 _ _ l0_3 a1 (rd t131 x28_1) a3 t136 _ ?_ ?_ ?_ ?_ A19.out).mono ?_);exact cq HR0_2;exact HC0_2.out;exact cq HR0_3;exact HC0_3.out;rintro e w28 ⟨rfl,hb⟩;refine ⟨_,rfl,?_⟩;replace HO_26:=rbw HO_26 hb;replace BK130:=bkb BK130 hb;replace HB:=hbs hb))
    go_roundg k1
    case measure => have:=HK1.out;omega
    case rel => exact ⟨(x11_1),(x12_1),(wrap64 (x28_1 + 1)),(by first|rfl|(simp;done)|(simp [*];done)),(by first|rfl|(simp;done)|(simp [*];done)),(by first|rfl|(simp;done)|(simp [*];done)),H',⟨by have:=HK1.out;omega⟩,⟨Kd.R_up HO_26.out⟩,⟨blk_up BK130.out⟩,⟨hb_⟩⟩

/-! ### lane_Choose: function 15 -/
def lane_Choose.f (k : Nat) (a0_0 : Int) (a0_1 : Int) (l0_2 : List Int) (l0_3 : List Int) (a1 : Int) (a2 : Int) (a3 : Int) : Option (Int × Bool × Int) := (road_Validate.f k a0_0 a0_1 l0_2 l0_3).bind fun t138 => (if t138 = 0 then ((lane_within.f a1 (wrap64 ((wrap64 (a0_0 * a0_1)) - 1))).bind fun t139 => (if t139 = true then (if a2 < (-1) then (some (0, false, 1)) else (if a2 > 3 then (some (0, false, 1)) else ((lane_choose.f k a0_0 a0_1 l0_2 l0_3 a1 a2 a3).bind fun bt140 => (some (bt140.1, bt140.2, 0))))) else (some (0, false, 2)))) else (some (0, false, t138)))
theorem lane_Choose.mono : ∀ a0 a1 a2 a3 a4 a5 a6 k, LeO (lane_Choose.f k a0 a1 a2 a3 a4 a5 a6) (lane_Choose.f (k + 1) a0 a1 a2 a3 a4 a5 a6) := by
 intro a0 a1 a2 a3 a4 a5 a6 k
 unfold lane_Choose.f
 repeat' first
   | (with_reducible exact lane_choose.mono _ _ _ _ _ _ _ _)
   | (with_reducible exact road_Validate.mono _ _ _ _ _)
   | (with_reducible exact LeO.refl _)
   | (with_reducible exact LeO.none _)
   | (with_reducible refine LeO.ite ?_ ?_)
   | (with_reducible refine LeO.bind ?_ (fun _ => ?_))
   | exact lane_choose.mono _ _ _ _ _ _ _ _
   | exact road_Validate.mono _ _ _ _ _
   | exact LeO.none _
   | refine LeO.ite ?_ ?_
   | refine LeO.bind ?_ (fun _ => ?_)
set_option maxHeartbeats 8000000 in
set_option maxRecDepth 100000 in
theorem lane_Choose.calls (k : Nat) (a0_0 : Int) (a0_1 : Int) (A0_2 : Option Addr) (c0_2 : Nat) (l0_2 : List Int) (A0_3 : Option Addr) (c0_3 : Nat) (l0_3 : List Int) (a1 : Int) (a2 : Int) (a3 : Int) (r1 : Int) (r2 : Bool) (r3 : Int) (w : World) (hr0_2 : Kd.C (Kd.int .i64) w A0_2 l0_2.length l0_2) (hc0_2 : l0_2.length ≤ c0_2) (hr0_3 : Kd.C (Kd.int .i64) w A0_3 l0_3.length l0_3) (hc0_3 : l0_3.length ≤ c0_3) (h : lane_Choose.f k a0_0 a0_1 l0_2 l0_3 a1 a2 a3 = some (r1, r2, r3)) :
  Calls Try.prog 15 #[.agg #[.int .i64 a0_0,.int .i64 a0_1,.slice A0_2 l0_2.length c0_2,.slice A0_3 l0_3.length c0_3],.int .i64 a1,.int .i64 a2,.int .i64 a3] w fun e w' => e = .returned (.tuple #[.int .i64 r1,.bool r2,.int .i64 r3]) ∧ Below w.heap.size w w':=by
 have hu24:=Try.underlying24
 have HR0_2:=Aside0.mk hr0_2
 have HC0_2:=Aside0.mk hc0_2
 clear hr0_2 hc0_2
 have HR0_3:=Aside0.mk hr0_3
 have HC0_3:=Aside0.mk hc0_3
 clear hr0_3 hc0_3
 have HB:=Aside0.mk (Below.refl w.heap.size w)
 have H : ((road_Validate.f k a0_0 a0_1 l0_2 l0_3).bind fun t138 => (if t138 = 0 then ((lane_within.f a1 (wrap64 ((wrap64 (a0_0 * a0_1)) - 1))).bind fun t139 => (if t139 = true then (if a2 < (-1) then (some (0,false,1)) else (if a2 > 3 then (some (0,false,1)) else ((lane_choose.f k a0_0 a0_1 l0_2 l0_3 a1 a2 a3).bind fun bt140 => (some (bt140.1,bt140.2,0))))) else (some (0,false,2)))) else (some (0,false,t138)))) = some (r1,r2,r3):=h
 clear h
 replace H:=Option.bind_eq_some_iff.mp H
 obtain ⟨t138,A50,H⟩:=H
 replace H : (if t138 = 0 then ((lane_within.f a1 (wrap64 ((wrap64 (a0_0 * a0_1)) - 1))).bind fun t139 => (if t139 = true then (if a2 < (-1) then (some (0,false,1)) else (if a2 > 3 then (some (0,false,1)) else ((lane_choose.f k a0_0 a0_1 l0_2 l0_3 a1 a2 a3).bind fun bt140 => (some (bt140.1,bt140.2,0))))) else (some (0,false,2)))) else (some (0,false,t138))) = some (r1,r2,r3):=H
 have A5:=Aside0.mk A50
 clear A50
 by_cases c6 : t138 = 0
 rotate_left
 ·rw [if_neg c6] at H
  have c6b0:=bqf c6
  have c6b1:=bnt c6
  simp only [Option.some.injEq,Prod.mk.injEq] at H
  obtain ⟨rfl,rfl,rfl⟩:=H
  go_enter Try.func15,Try.ntmps15
  go_wp2_with (first|((with_reducible refine gate_dst (N:=4) rfl ?_);refine box_ev (N:=4) (cs:=#[.int .i64 a0_0,.int .i64 a0_1,.slice A0_2 l0_2.length c0_2,.slice A0_3 l0_3.length c0_3]) (t:=24) ?_;intro gb137 hg w29 hbox hb;have BK137:=Aside0.mk (hbox);have GW137 : Aside0 (w.heap.size ≤ gb137):=gsz hg;have GE137:=GW137;replace HB:=hbs hb;clear hb hbox hg;obtain ⟨_,_,_,_,_,_,_,_⟩:=cells4 BK137.out)|((with_reducible refine gate_callee (f:=36) rfl ?_);refine goesL_ (some 15) rfl rfl Try.func36 (by kernel_rfl) rfl #[.agg #[.int .i64 a0_0,.int .i64 a0_1,.slice A0_2 l0_2.length c0_2,.slice A0_3 l0_3.length c0_3]] rfl ga_ ?_;(with_reducible refine (road_Validate.calls k a0_0 a0_1 _ _ l0_2 _ _ l0_3 t138 _ ?_ ?_ ?_ ?_ A5.out).mono ?_);exact cq HR0_2;exact HC0_2.out;exact cq HR0_3;exact HC0_3.out;rintro e w31 ⟨rfl,hb⟩;refine ⟨_,rfl,?_⟩;replace BK137:=bkb BK137 hb;replace HB:=hbs hb))
  go_ret3
  exact ⟨er_,hb_⟩
 rw [if_pos c6] at H
 have c6b0:=bqt c6
 have c6b1:=bnf c6
 clear c6
 replace H:=Option.bind_eq_some_iff.mp H
 obtain ⟨t139,A70,H⟩:=H
 replace H : (if t139 = true then (if a2 < (-1) then (some (0,false,1)) else (if a2 > 3 then (some (0,false,1)) else ((lane_choose.f k a0_0 a0_1 l0_2 l0_3 a1 a2 a3).bind fun bt140 => (some (bt140.1,bt140.2,0))))) else (some (0,false,2))) = some (r1,r2,r3):=H
 have A7:=Aside0.mk A70
 clear A70
 by_cases c8 : t139 = true
 ·subst c8
  have H1 : (if a2 < (-1) then (some (0,false,1)) else (if a2 > 3 then (some (0,false,1)) else ((lane_choose.f k a0_0 a0_1 l0_2 l0_3 a1 a2 a3).bind fun bt140 => (some (bt140.1,bt140.2,0))))) = some (r1,r2,r3):=by rw [if_pos rfl] at H;exact H
  clear H
  have H:=H1
  clear H1
  by_cases c9 : a2 < (-1)
  ·rw [if_pos c9] at H
   have c9b0 : decide (a2 < (-1)) = true:=decide_eq_true c9
   clear c9
   simp only [Option.some.injEq,Prod.mk.injEq] at H
   obtain ⟨rfl,rfl,rfl⟩:=H
   go_enter Try.func15,Try.ntmps15
   go_wp2_with (first|((with_reducible refine gate_dst (N:=4) rfl ?_);refine box_ev (N:=4) (cs:=#[.int .i64 a0_0,.int .i64 a0_1,.slice A0_2 l0_2.length c0_2,.slice A0_3 l0_3.length c0_3]) (t:=24) ?_;intro gb137 hg w10 hbox hb;have BK137:=Aside0.mk (hbox);have GW137 : Aside0 (w.heap.size ≤ gb137):=gsz hg;have GE137:=GW137;replace HB:=hbs hb;clear hb hbox hg;obtain ⟨_,_,_,_,_,_,_,_⟩:=cells4 BK137.out)|((with_reducible refine gate_callee (f:=36) rfl ?_);refine goesL_ (some 15) rfl rfl Try.func36 (by kernel_rfl) rfl #[.agg #[.int .i64 a0_0,.int .i64 a0_1,.slice A0_2 l0_2.length c0_2,.slice A0_3 l0_3.length c0_3]] rfl ga_ ?_;(with_reducible refine (road_Validate.calls k a0_0 a0_1 _ _ l0_2 _ _ l0_3 t138 _ ?_ ?_ ?_ ?_ A5.out).mono ?_);exact cq HR0_2;exact HC0_2.out;exact cq HR0_3;exact HC0_3.out;rintro e w12 ⟨rfl,hb⟩;refine ⟨_,rfl,?_⟩;replace BK137:=bkb BK137 hb;replace HB:=hbs hb;obtain ⟨_,_,_,_,_,_,_,_⟩:=cells4 BK137.out)|((with_reducible refine gate_callee (f:=37) rfl ?_);refine goesL_ (some 27) rfl rfl Try.func37 (by kernel_rfl) rfl #[.int .i64 a1,.int .i64 (wrap64 ((wrap64 (a0_0 * a0_1)) - 1))] rfl ga_ ?_;(with_reducible refine (lane_within.calls a1 (wrap64 ((wrap64 (a0_0 * a0_1)) - 1)) true _ A7.out).mono ?_);rintro e w' ⟨rfl,⟨nd,rfl⟩⟩;refine ⟨_,rfl,?_⟩))
   go_ret3
   exact ⟨er_,hb_⟩
  ·rw [if_neg c9] at H
   have c9b0 : decide (a2 < (-1)) = false:=decide_eq_false c9
   clear c9
   by_cases c14 : a2 > 3
   ·rw [if_pos c14] at H
    have c14b0 : decide (3 < a2) = true:=decide_eq_true c14
    clear c14
    simp only [Option.some.injEq,Prod.mk.injEq] at H
    obtain ⟨rfl,rfl,rfl⟩:=H
    go_enter Try.func15,Try.ntmps15
    go_wp2_with (first|((with_reducible refine gate_dst (N:=4) rfl ?_);refine box_ev (N:=4) (cs:=#[.int .i64 a0_0,.int .i64 a0_1,.slice A0_2 l0_2.length c0_2,.slice A0_3 l0_3.length c0_3]) (t:=24) ?_;intro gb137 hg w15 hbox hb;have BK137:=Aside0.mk (hbox);have GW137 : Aside0 (w.heap.size ≤ gb137):=gsz hg;have GE137:=GW137;replace HB:=hbs hb;clear hb hbox hg;obtain ⟨_,_,_,_,_,_,_,_⟩:=cells4 BK137.out)|((with_reducible refine gate_callee (f:=36) rfl ?_);refine goesL_ (some 15) rfl rfl Try.func36 (by kernel_rfl) rfl #[.agg #[.int .i64 a0_0,.int .i64 a0_1,.slice A0_2 l0_2.length c0_2,.slice A0_3 l0_3.length c0_3]] rfl ga_ ?_;(with_reducible refine (road_Validate.calls k a0_0 a0_1 _ _ l0_2 _ _ l0_3 t138 _ ?_ ?_ ?_ ?_ A5.out).mono ?_);exact cq HR0_2;exact HC0_2.out;exact cq HR0_3;exact HC0_3.out;rintro e w17 ⟨rfl,hb⟩;refine ⟨_,rfl,?_⟩;replace BK137:=bkb BK137 hb;replace HB:=hbs hb;obtain ⟨_,_,_,_,_,_,_,_⟩:=cells4 BK137.out)|((with_reducible refine gate_callee (f:=37) rfl ?_);refine goesL_ (some 27) rfl rfl Try.func37 (by kernel_rfl) rfl #[.int .i64 a1,.int .i64 (wrap64 ((wrap64 (a0_0 * a0_1)) - 1))] rfl ga_ ?_;(with_reducible refine (lane_within.calls a1 (wrap64 ((wrap64 (a0_0 * a0_1)) - 1)) true _ A7.out).mono ?_);rintro e w' ⟨rfl,⟨nd,rfl⟩⟩;refine ⟨_,rfl,?_⟩))
    go_ret3
    exact ⟨er_,hb_⟩
   ·rw [if_neg c14] at H
    have c14b0 : decide (3 < a2) = false:=decide_eq_false c14
    clear c14
    replace H:=Option.bind_eq_some_iff.mp H
    obtain ⟨⟨t140,t141⟩,A190,H⟩:=H
    replace H : (some (t140,t141,0)) = some (r1,r2,r3):=H
    have A19:=Aside0.mk A190
    clear A190
    simp only [Option.some.injEq,Prod.mk.injEq] at H
    obtain ⟨rfl,rfl,rfl⟩:=H
    go_enter Try.func15,Try.ntmps15
    go_wp2_with (first|((with_reducible refine gate_dst (N:=4) rfl ?_);refine box_ev (N:=4) (cs:=#[.int .i64 a0_0,.int .i64 a0_1,.slice A0_2 l0_2.length c0_2,.slice A0_3 l0_3.length c0_3]) (t:=24) ?_;intro gb137 hg w20 hbox hb;have BK137:=Aside0.mk (hbox);have GW137 : Aside0 (w.heap.size ≤ gb137):=gsz hg;have GE137:=GW137;replace HB:=hbs hb;clear hb hbox hg;obtain ⟨_,_,_,_,_,_,_,_⟩:=cells4 BK137.out)|((with_reducible refine gate_callee (f:=36) rfl ?_);refine goesL_ (some 15) rfl rfl Try.func36 (by kernel_rfl) rfl #[.agg #[.int .i64 a0_0,.int .i64 a0_1,.slice A0_2 l0_2.length c0_2,.slice A0_3 l0_3.length c0_3]] rfl ga_ ?_;(with_reducible refine (road_Validate.calls k a0_0 a0_1 _ _ l0_2 _ _ l0_3 t138 _ ?_ ?_ ?_ ?_ A5.out).mono ?_);exact cq HR0_2;exact HC0_2.out;exact cq HR0_3;exact HC0_3.out;rintro e w22 ⟨rfl,hb⟩;refine ⟨_,rfl,?_⟩;replace BK137:=bkb BK137 hb;replace HB:=hbs hb;obtain ⟨_,_,_,_,_,_,_,_⟩:=cells4 BK137.out)|((with_reducible refine gate_callee (f:=37) rfl ?_);refine goesL_ (some 27) rfl rfl Try.func37 (by kernel_rfl) rfl #[.int .i64 a1,.int .i64 (wrap64 ((wrap64 (a0_0 * a0_1)) - 1))] rfl ga_ ?_;(with_reducible refine (lane_within.calls a1 (wrap64 ((wrap64 (a0_0 * a0_1)) - 1)) true _ A7.out).mono ?_);rintro e w' ⟨rfl,⟨nd,rfl⟩⟩;refine ⟨_,rfl,?_⟩)|((with_reducible refine gate_callee (f:=38) rfl ?_);refine goesL_ (some 41) rfl rfl Try.func38 (by kernel_rfl) rfl #[.agg #[.int .i64 a0_0,.int .i64 a0_1,.slice A0_2 l0_2.length c0_2,.slice A0_3 l0_3.length c0_3],.int .i64 a1,.int .i64 a2,.int .i64 a3] rfl ga_ ?_;(with_reducible refine (lane_choose.calls k a0_0 a0_1 _ _ l0_2 _ _ l0_3 a1 a2 a3 t140 t141 _ ?_ ?_ ?_ ?_ A19.out).mono ?_);(focus (repeat (first|exact (Kd.C_below HR0_2.out (hb_))|(with_reducible refine Kd.C_alloc ?_ _)|(with_reducible refine Kd.C_drewN ?_ _)|(with_reducible refine Kd.C_drew ?_))));exact HC0_2.out;(focus (repeat (first|exact (Kd.C_below HR0_3.out (hb_))|(with_reducible refine Kd.C_alloc ?_ _)|(with_reducible refine Kd.C_drewN ?_ _)|(with_reducible refine Kd.C_drew ?_))));exact HC0_3.out;rintro e w24 ⟨rfl,hb⟩;refine ⟨_,rfl,?_⟩;replace BK137:=bkb BK137 hb;replace HB:=hbs hb))
    go_ret3
    exact ⟨er_,hb_⟩
 ·replace c8:=Bool.eq_false_iff.mpr c8
  subst c8
  have H1 : (some (0,false,2)) = some (r1,r2,r3):=by rw [if_neg (show ¬ (false = true) by decide)] at H;exact H
  clear H
  have H:=H1
  clear H1
  simp only [Option.some.injEq,Prod.mk.injEq] at H
  obtain ⟨rfl,rfl,rfl⟩:=H
  go_enter Try.func15,Try.ntmps15
  go_wp2_with (first|((with_reducible refine gate_dst (N:=4) rfl ?_);refine box_ev (N:=4) (cs:=#[.int .i64 a0_0,.int .i64 a0_1,.slice A0_2 l0_2.length c0_2,.slice A0_3 l0_3.length c0_3]) (t:=24) ?_;intro gb137 hg w25 hbox hb;have BK137:=Aside0.mk (hbox);have GW137 : Aside0 (w.heap.size ≤ gb137):=gsz hg;have GE137:=GW137;replace HB:=hbs hb;clear hb hbox hg;obtain ⟨_,_,_,_,_,_,_,_⟩:=cells4 BK137.out)|((with_reducible refine gate_callee (f:=36) rfl ?_);refine goesL_ (some 15) rfl rfl Try.func36 (by kernel_rfl) rfl #[.agg #[.int .i64 a0_0,.int .i64 a0_1,.slice A0_2 l0_2.length c0_2,.slice A0_3 l0_3.length c0_3]] rfl ga_ ?_;(with_reducible refine (road_Validate.calls k a0_0 a0_1 _ _ l0_2 _ _ l0_3 t138 _ ?_ ?_ ?_ ?_ A5.out).mono ?_);exact cq HR0_2;exact HC0_2.out;exact cq HR0_3;exact HC0_3.out;rintro e w27 ⟨rfl,hb⟩;refine ⟨_,rfl,?_⟩;replace BK137:=bkb BK137 hb;replace HB:=hbs hb;obtain ⟨_,_,_,_,_,_,_,_⟩:=cells4 BK137.out)|((with_reducible refine gate_callee (f:=37) rfl ?_);refine goesL_ (some 27) rfl rfl Try.func37 (by kernel_rfl) rfl #[.int .i64 a1,.int .i64 (wrap64 ((wrap64 (a0_0 * a0_1)) - 1))] rfl ga_ ?_;(with_reducible refine (lane_within.calls a1 (wrap64 ((wrap64 (a0_0 * a0_1)) - 1)) false _ A7.out).mono ?_);rintro e w' ⟨rfl,⟨nd,rfl⟩⟩;refine ⟨_,rfl,?_⟩))
  go_ret3
  exact ⟨er_,hb_⟩

/-! ### hinterlandlaw17_known: function 13 -/
def hinterlandlaw17_known.j0 : Nat → Bool → Option (Bool)
 | 0,_ => none
 | k + 1,x0 => some x0
def hinterlandlaw17_known.f (k : Nat)  : Option (Bool) := if 16 ≤ 35184372088832 then ((some (List.replicate 16 0 : List Int)).bind fun y142 => (if 0 < (y142.length : Int) then (if 1 < (y142.length : Int) then ((lane_Choose.f k 4 4 ((y142.set (0 : Int).toNat 1).set (1 : Int).toNat 4) (List.replicate 16 0) 1 (-1) 0).bind fun bt151 => (if bt151.1 = 2 then (if bt151.2.1 = true then (hinterlandlaw17_known.j0 k (bt151.2.2 == 0)) else (hinterlandlaw17_known.j0 k false)) else (hinterlandlaw17_known.j0 k false))) else (none)) else (none))) else (none)
theorem hinterlandlaw17_known.mono_l : ∀ k, (∀ y0, LeO (hinterlandlaw17_known.j0 k y0) (hinterlandlaw17_known.j0 (k + 1) y0))
 | 0 => fun _ r h => by simp [hinterlandlaw17_known.j0] at h
 | k + 1 => by
  have ih0:=hinterlandlaw17_known.mono_l k
  ·intro y0
   unfold hinterlandlaw17_known.j0
   repeat' first
   | (with_reducible exact ih0 _)
   | (with_reducible exact lane_Choose.mono _ _ _ _ _ _ _ _)
   | (with_reducible exact LeO.refl _)
   | (with_reducible exact LeO.none _)
   | (with_reducible refine LeO.ite ?_ ?_)
   | (with_reducible refine LeO.bind ?_ (fun _ => ?_))
   | exact ih0 _
   | exact lane_Choose.mono _ _ _ _ _ _ _ _
   | exact LeO.none _
   | refine LeO.ite ?_ ?_
   | refine LeO.bind ?_ (fun _ => ?_)
theorem hinterlandlaw17_known.mono : ∀ k, LeO (hinterlandlaw17_known.f k ) (hinterlandlaw17_known.f (k + 1) ) := by
 intro  k
 have ih0:=hinterlandlaw17_known.mono_l k
 unfold hinterlandlaw17_known.f
 repeat' first
   | (with_reducible exact ih0 _)
   | (with_reducible exact lane_Choose.mono _ _ _ _ _ _ _ _)
   | (with_reducible exact LeO.refl _)
   | (with_reducible exact LeO.none _)
   | (with_reducible refine LeO.ite ?_ ?_)
   | (with_reducible refine LeO.bind ?_ (fun _ => ?_))
   | exact ih0 _
   | exact lane_Choose.mono _ _ _ _ _ _ _ _
   | exact LeO.none _
   | refine LeO.ite ?_ ?_
   | refine LeO.bind ?_ (fun _ => ?_)
set_option maxHeartbeats 8000000 in
set_option maxRecDepth 100000 in
theorem hinterlandlaw17_known.calls (k : Nat)  (r : Bool) (w : World) (h : hinterlandlaw17_known.f k  = some r) :
  Calls Try.prog 13 #[] w fun e w' => e = .returned (.bool r) ∧ Below w.heap.size w w':=by
 have hu24:=Try.underlying24
 have HB:=Aside0.mk (Below.refl w.heap.size w)
 have H : (if 16 ≤ 35184372088832 then ((some (List.replicate 16 0 : List Int)).bind fun y142 => (if 0 < (y142.length : Int) then (if 1 < (y142.length : Int) then ((lane_Choose.f k 4 4 ((y142.set (0 : Int).toNat 1).set (1 : Int).toNat 4) (List.replicate 16 0) 1 (-1) 0).bind fun bt151 => (if bt151.1 = 2 then (if bt151.2.1 = true then (hinterlandlaw17_known.j0 k (bt151.2.2 == 0)) else (hinterlandlaw17_known.j0 k false)) else (hinterlandlaw17_known.j0 k false))) else (none)) else (none))) else (none)) = some r:=h
 clear h
 replace H:=ifp_ H;obtain ⟨c1,H⟩:=H
 have c1b0:=eq_true c1
 have c1b1 : decide (16 ≤ 35184372088832) = true:=decide_eq_true c1
 clear c1
 obtain ⟨y142,hy142⟩ : ∃ y_ : List Int,y_ = (List.replicate 16 0):=⟨_,rfl⟩
 replace H : (if 0 < (y142.length : Int) then (if 1 < (y142.length : Int) then ((lane_Choose.f k 4 4 ((y142.set (0 : Int).toNat 1).set (1 : Int).toNat 4) (List.replicate 16 0) 1 (-1) 0).bind fun bt151 => (if bt151.1 = 2 then (if bt151.2.1 = true then (hinterlandlaw17_known.j0 k (bt151.2.2 == 0)) else (hinterlandlaw17_known.j0 k false)) else (hinterlandlaw17_known.j0 k false))) else (none)) else (none)) = some r:=by first|(rw [hy142];with_reducible exact H)|(have H2_:=(Option.bind_some _ _).symm.trans H;rw [hy142];with_reducible exact H2_)|(have H2_:=(Option.bind_some _ _).symm.trans H;with_reducible exact H2_)|with_reducible exact H|(rw [hy142];exact H)|exact H
 have Ny142:=Aside0.mk hy142
 clear hy142
 obtain ⟨y145,hy145⟩ : ∃ y_ : List Int,y_ = (List.replicate 16 0):=⟨_,rfl⟩
 replace H : (if 0 < (y142.length : Int) then (if 1 < (y142.length : Int) then ((lane_Choose.f k 4 4 ((y142.set (0 : Int).toNat 1).set (1 : Int).toNat 4) y145 1 (-1) 0).bind fun bt151 => (if bt151.1 = 2 then (if bt151.2.1 = true then (hinterlandlaw17_known.j0 k (bt151.2.2 == 0)) else (hinterlandlaw17_known.j0 k false)) else (hinterlandlaw17_known.j0 k false))) else (none)) else (none)) = some r:=by first|(rw [hy145];with_reducible exact H)|(have H2_:=(Option.bind_some _ _).symm.trans H;rw [hy145];with_reducible exact H2_)|(have H2_:=(Option.bind_some _ _).symm.trans H;with_reducible exact H2_)|with_reducible exact H|(rw [hy145];exact H)|exact H
 have Ny145:=Aside0.mk hy145
 clear hy145
 replace H:=ifp_ H;obtain ⟨c2,H⟩:=H
 have c2b0 : decide (0 < (y142.length : Int)) = true:=decide_eq_true c2
 have c2b1 : decide (0 < y142.length) = true:=decide_eq_true (by omega)
 clear c2
 obtain ⟨y149,hy149⟩ : ∃ y_ : List Int,y_ = (y142.set (0 : Int).toNat 1):=⟨_,rfl⟩
 replace H : (if 1 < (y142.length : Int) then ((lane_Choose.f k 4 4 (y149.set (1 : Int).toNat 4) y145 1 (-1) 0).bind fun bt151 => (if bt151.1 = 2 then (if bt151.2.1 = true then (hinterlandlaw17_known.j0 k (bt151.2.2 == 0)) else (hinterlandlaw17_known.j0 k false)) else (hinterlandlaw17_known.j0 k false))) else (none)) = some r:=by first|(rw [hy149];with_reducible exact H)|(have H2_:=(Option.bind_some _ _).symm.trans H;rw [hy149];with_reducible exact H2_)|(have H2_:=(Option.bind_some _ _).symm.trans H;with_reducible exact H2_)|with_reducible exact H|(rw [hy149];exact H)|exact H
 have Ny149:=Aside0.mk hy149
 clear hy149
 replace H:=ifp_ H;obtain ⟨c4,H⟩:=H
 have c4b0 : decide (1 < (y142.length : Int)) = true:=decide_eq_true c4
 have c4b1 : decide (1 < y142.length) = true:=decide_eq_true (by omega)
 clear c4
 obtain ⟨y150,hy150⟩ : ∃ y_ : List Int,y_ = (y149.set (1 : Int).toNat 4):=⟨_,rfl⟩
 replace H : ((lane_Choose.f k 4 4 y150 y145 1 (-1) 0).bind fun bt151 => (if bt151.1 = 2 then (if bt151.2.1 = true then (hinterlandlaw17_known.j0 k (bt151.2.2 == 0)) else (hinterlandlaw17_known.j0 k false)) else (hinterlandlaw17_known.j0 k false))) = some r:=by first|(rw [hy150];with_reducible exact H)|(have H2_:=(Option.bind_some _ _).symm.trans H;rw [hy150];with_reducible exact H2_)|(have H2_:=(Option.bind_some _ _).symm.trans H;with_reducible exact H2_)|with_reducible exact H|(rw [hy150];exact H)|exact H
 have Ny150:=Aside0.mk hy150
 clear hy150
 replace H:=Option.bind_eq_some_iff.mp H
 obtain ⟨⟨t151,t152,t153⟩,A60,H⟩:=H
 replace H : (if t151 = 2 then (if t152 = true then (hinterlandlaw17_known.j0 k (t153 == 0)) else (hinterlandlaw17_known.j0 k false)) else (hinterlandlaw17_known.j0 k false)) = some r:=H
 have A6:=Aside0.mk A60
 clear A60
 have HC7:=Aside0.mk H
 clear H
 go_enter Try.func13,Try.ntmps13
 try go_wp2
 replace HB:=Aside0.mk (below_drew1 HB.out)
 refine start_ (n:=5) (S:=fun w' => True) (ds:=[]) #[false,false,false,false,false] (by kernel_rfl) rfl rfl trivial (fun hHeld => ?_)
 generalize w.drew = w8 at HB hHeld ⊢
 refine join_ (σ:=Value × Value × Nat) 1 #[true,true,true,true,false] (fun s_ => [(5,s_.1),(6,s_.2.1),(1,.pointer (some ⟨s_.2.2,0,none⟩)),(7,.agg #[.int .i64 4,.int .i64 4,s_.1,s_.2.1])]) (fun s_ w' => (Kd.R (Kd.int .i64) 3 w' w.heap.size (fun k_ => some k_ ≠ (s_.2.1 : Value).ownBlock) s_.1 y142) ∧ (Kd.R (Kd.int .i64) 3 w' w.heap.size (fun k_ => some k_ ≠ (s_.1 : Value).ownBlock) s_.2.1 y145) ∧ (w'.heap[s_.2.2]? = some (.cells #[.int .i64 0,.int .i64 0,.slice none 0 0,.slice none 0 0] 24 (0,0))) ∧ (w.heap.size ≤ s_.2.2) ∧ (w.heap.size ≤ s_.2.2) ∧ (Below w.heap.size w w')) ?_ ?_
 rotate_left
 ·intro hJ0_1_3
  refine join_ (σ:=Value × Value) 2 #[true,true,true,false,false] (fun s_ => [(5,s_.1),(6,s_.2),(7,.agg #[.int .i64 4,.int .i64 4,s_.1,s_.2])]) (fun s_ w' => (Kd.R (Kd.int .i64) 3 w' w.heap.size (fun k_ => some k_ ≠ (s_.2 : Value).ownBlock) s_.1 y142) ∧ (Kd.R (Kd.int .i64) 3 w' w.heap.size (fun k_ => some k_ ≠ (s_.1 : Value).ownBlock) s_.2 y145) ∧ (Below w.heap.size w w')) ?_ ?_
  rotate_left
  ·intro hJ0_1
   refine join_ (σ:=Value × Nat) 3 #[true,false,false,true,false] (fun s_ => [(5,s_.1),(1,.pointer (some ⟨s_.2,0,none⟩))]) (fun s_ w' => (Kd.R (Kd.int .i64) 3 w' w.heap.size (fun _ => True) s_.1 y142) ∧ (w'.heap[s_.2]? = some (.cells #[.int .i64 0,.int .i64 0,.slice none 0 0,.slice none 0 0] 24 (0,0))) ∧ (w.heap.size ≤ s_.2) ∧ (w.heap.size ≤ s_.2) ∧ (Below w.heap.size w w')) ?_ ?_
   rotate_left
   ·intro hJ0_3
    refine join_ (σ:=Value × Nat) 3 #[false,true,false,true,false] (fun s_ => [(6,s_.1),(1,.pointer (some ⟨s_.2,0,none⟩))]) (fun s_ w' => (Kd.R (Kd.int .i64) 3 w' w.heap.size (fun _ => True) s_.1 y145) ∧ (w'.heap[s_.2]? = some (.cells #[.int .i64 0,.int .i64 0,.slice none 0 0,.slice none 0 0] 24 (0,0))) ∧ (w.heap.size ≤ s_.2) ∧ (w.heap.size ≤ s_.2) ∧ (Below w.heap.size w w')) ?_ ?_
    rotate_left
    ·intro hJ1_3
     refine join_ (σ:=Value) 4 #[true,false,false,false,false] (fun s_ => [(5,s_)]) (fun s_ w' => (Kd.R (Kd.int .i64) 3 w' w.heap.size (fun _ => True) s_ y142) ∧ (Below w.heap.size w w')) ?_ ?_
     rotate_left
     ·intro hJ0
      refine join_ (σ:=Value) 4 #[false,true,false,false,false] (fun s_ => [(6,s_)]) (fun s_ w' => (Kd.R (Kd.int .i64) 3 w' w.heap.size (fun _ => True) s_ y145) ∧ (Below w.heap.size w w')) ?_ ?_
      rotate_left
      ·intro hJ1
       refine join_ (σ:=Nat) 4 #[false,false,false,true,false] (fun s_ => [(1,.pointer (some ⟨s_,0,none⟩))]) (fun s_ w' => (w'.heap[s_]? = some (.cells #[.int .i64 0,.int .i64 0,.slice none 0 0,.slice none 0 0] 24 (0,0))) ∧ (w.heap.size ≤ s_) ∧ (w.heap.size ≤ s_) ∧ (Below w.heap.size w w')) ?_ ?_
       rotate_left
       ·intro hJ3
        refine three_ (i:=0) (j:=1) (k:=3) (Ni:=some 5) (Nj:=some 6) (Nk:=some 1) #[true,false,false,false,false] #[false,true,false,false,false] #[false,false,false,true,false] rfl rfl rfl rfl rfl rfl (by kernel_rfl) (by decide) (by decide) (by decide) (fun K hK => ?_) (fun K hK => ?_) (fun K hK => ?_)
        ·skip
         refine Kd.R_make_step (Kd.int .i64) _ 3 (by rfl) (N:=5) rfl 22 _ _ rfl 16 rfl rfl Try.underlying22 (.int .i64 0) 8 info3 rfl (by decide) (by omega) 0 (ok:=fun _ => True) (okp:=fun _ => True) rfl (fun _ hk => hk) trivial (by omega) (by omega) (Below.refl _ _) (Nat.le_refl _) ?_
         intro v143 w9 ho10 hb hg_ hnew_
         clear hg_ hnew_
         (first|rw [← Ny142.out] at ho10|(simp only [Int.reduceToNat] at ho10;rw [← Ny142.out] at ho10))
         have n0_:=rlo ho10
         have n1_:=Aside0.mk (below_step (hb_) hb)
         clear HB
         have HO144:=n0_
         have HB:=n1_
         clear n0_ n1_
         clear hb ho10
         refine hK.out _ _ trivial (fun hHeld => ?_)
         clear hK K
         refine norm_ (a':=?_) ?_ ?_
         rotate_left
         ·show Act.put _ (some 5) _ = _
          simp only [Act.put,List.setIfInBounds_toArray,List.set_cons_zero,List.set_cons_succ,i64_w,i32_w]
          rfl
         exact norm_ (by first|(simp only [putAll,Act.put,List.setIfInBounds_toArray,List.set_cons_zero,List.set_cons_succ];done)|(simp only [putAll,Act.put,List.setIfInBounds_toArray,List.set_cons_zero,List.set_cons_succ];rfl)) (hJ0 (v143) _ ⟨(Kd.R_up HO144.out),(hb_)⟩)
        ·skip
         refine Kd.R_make_step (Kd.int .i64) _ 3 (by rfl) (N:=6) rfl 22 _ _ rfl 16 rfl rfl Try.underlying22 (.int .i64 0) 8 info3 rfl (by decide) (by omega) 0 (ok:=fun _ => True) (okp:=fun _ => True) rfl (fun _ hk => hk) trivial (by omega) (by omega) (Below.refl _ _) (Nat.le_refl _) ?_
         intro v146 w9 ho10 hb hg_ hnew_
         clear hg_ hnew_
         (first|rw [← Ny145.out] at ho10|(simp only [Int.reduceToNat] at ho10;rw [← Ny145.out] at ho10))
         have n0_:=rlo ho10
         have n1_:=Aside0.mk (below_step (hb_) hb)
         clear HB
         have HO147:=n0_
         have HB:=n1_
         clear n0_ n1_
         clear hb ho10
         refine hK.out _ _ trivial (fun hHeld => ?_)
         clear hK K
         refine norm_ (a':=?_) ?_ ?_
         rotate_left
         ·show Act.put _ (some 6) _ = _
          simp only [Act.put,List.setIfInBounds_toArray,List.set_cons_zero,List.set_cons_succ,i64_w,i32_w]
          rfl
         exact norm_ (by first|(simp only [putAll,Act.put,List.setIfInBounds_toArray,List.set_cons_zero,List.set_cons_succ];done)|(simp only [putAll,Act.put,List.setIfInBounds_toArray,List.set_cons_zero,List.set_cons_succ];rfl)) (hJ1 (v146) _ ⟨(Kd.R_up HO147.out),(hb_)⟩)
        ·skip
         refine box_step ?hg (N:=1) ?hd (cs:=#[.int .i64 0,.int .i64 0,.slice none 0 0,.slice none 0 0]) (t:=24) ?hr ?_;(case hd => rfl);(case hg => rfl);(case hr => first|(go_simp;done)|(go_simp;rfl))
         intro gb148 hg w9 hbox hb
         have n0_:=Aside0.mk (below_step (hb_) hb)
         have n1_:=Aside0.mk (hbox)
         have n2_:=Aside0.mk ((by rw [hg];exact (below_size (hb_)) : w.heap.size ≤ gb148))
         have n3_:=Aside0.mk ((by rw [hg];exact (below_size (hb_)) : w.heap.size ≤ gb148))
         clear HB
         have HB:=n0_
         have BK148:=n1_
         have GW148:=n2_
         have GE148:=n3_
         clear n0_ n1_ n2_ n3_
         clear hb hbox hg
         refine hK.out _ _ trivial (fun hHeld => ?_)
         clear hK K
         refine norm_ (a':=?_) ?_ ?_
         rotate_left
         ·show Act.put _ (some 1) _ = _
          simp only [Act.put,List.setIfInBounds_toArray,List.set_cons_zero,List.set_cons_succ,i64_w,i32_w]
          rfl
         exact norm_ (by first|(simp only [putAll,Act.put,List.setIfInBounds_toArray,List.set_cons_zero,List.set_cons_succ];done)|(simp only [putAll,Act.put,List.setIfInBounds_toArray,List.set_cons_zero,List.set_cons_succ];rfl)) (hJ3 (gb148) _ ⟨(blk_up BK148.out),GW148.out,GE148.out,(hb_)⟩)
       ·skip
        rintro gb148 w10 ⟨h0_,h1_,h2_,h3_⟩
        have n0_ : Aside0 (w10.heap[gb148]? = some (.cells #[.int .i64 0,.int .i64 0,.slice none 0 0,.slice none 0 0] 24 (0,0))):=⟨h0_⟩
        have n1_ : Aside0 (w.heap.size ≤ gb148):=⟨h1_⟩
        have n2_ : Aside0 (w.heap.size ≤ gb148):=⟨h2_⟩
        have n3_ : Aside0 (Below w.heap.size w w10):=⟨h3_⟩
        clear HB
        clear h0_ h1_ h2_ h3_
        have BK148:=n0_
        have GW148:=n1_
        have GE148:=n2_
        have HB:=n3_
        clear n0_ n1_ n2_ n3_
        have hHeld:=trivial
        refine norm_ (a':=?_) ?_ ?_
        rotate_left
        ·simp only [putAll,Act.put,List.setIfInBounds_toArray,List.set_cons_zero,List.set_cons_succ]
         rfl
        refine two_ (i:=0) (j:=1) (Ni:=some 5) (Nj:=some 6) #[true,false,false,true,false] #[false,true,false,true,false] rfl rfl rfl rfl (by kernel_rfl) (by decide) (by decide) (fun K hK => ?_) (fun K hK => ?_)
        ·skip
         refine Kd.R_make_step (Kd.int .i64) _ 3 (by rfl) (N:=5) rfl 22 _ _ rfl 16 rfl rfl Try.underlying22 (.int .i64 0) 8 info3 rfl (by decide) (by omega) 0 (ok:=fun _ => True) (okp:=fun _ => True) rfl (fun _ hk => hk) trivial (by omega) (by omega) (Below.refl _ _) (Nat.le_refl _) ?_
         intro v143 w11 ho12 hb hg_ hnew_
         clear hg_ hnew_
         (first|rw [← Ny142.out] at ho12|(simp only [Int.reduceToNat] at ho12;rw [← Ny142.out] at ho12))
         have n0_:=rlo ho12
         have n1_:=bkb BK148 hb
         have n2_:=Aside0.mk (below_step (hb_) hb)
         clear BK148
         clear HB
         have HO144:=n0_
         have BK148:=n1_
         have HB:=n2_
         clear n0_ n1_ n2_
         clear hb ho12
         refine hK.out _ _ trivial (fun hHeld => ?_)
         clear hK K
         refine norm_ (a':=?_) ?_ ?_
         rotate_left
         ·show Act.put _ (some 5) _ = _
          simp only [Act.put,List.setIfInBounds_toArray,List.set_cons_zero,List.set_cons_succ,i64_w,i32_w]
          rfl
         exact norm_ (by first|(simp only [putAll,Act.put,List.setIfInBounds_toArray,List.set_cons_zero,List.set_cons_succ];done)|(simp only [putAll,Act.put,List.setIfInBounds_toArray,List.set_cons_zero,List.set_cons_succ];rfl)) (hJ0_3 (v143,gb148) _ ⟨(Kd.R_up HO144.out),(blk_up BK148.out),GW148.out,GE148.out,(hb_)⟩)
        ·skip
         refine Kd.R_make_step (Kd.int .i64) _ 3 (by rfl) (N:=6) rfl 22 _ _ rfl 16 rfl rfl Try.underlying22 (.int .i64 0) 8 info3 rfl (by decide) (by omega) 0 (ok:=fun _ => True) (okp:=fun _ => True) rfl (fun _ hk => hk) trivial (by omega) (by omega) (Below.refl _ _) (Nat.le_refl _) ?_
         intro v146 w11 ho12 hb hg_ hnew_
         clear hg_ hnew_
         (first|rw [← Ny145.out] at ho12|(simp only [Int.reduceToNat] at ho12;rw [← Ny145.out] at ho12))
         have n0_:=rlo ho12
         have n1_:=bkb BK148 hb
         have n2_:=Aside0.mk (below_step (hb_) hb)
         clear BK148
         clear HB
         have HO147:=n0_
         have BK148:=n1_
         have HB:=n2_
         clear n0_ n1_ n2_
         clear hb ho12
         refine hK.out _ _ trivial (fun hHeld => ?_)
         clear hK K
         refine norm_ (a':=?_) ?_ ?_
         rotate_left
         ·show Act.put _ (some 6) _ = _
          simp only [Act.put,List.setIfInBounds_toArray,List.set_cons_zero,List.set_cons_succ,i64_w,i32_w]
          rfl
         exact norm_ (by first|(simp only [putAll,Act.put,List.setIfInBounds_toArray,List.set_cons_zero,List.set_cons_succ];done)|(simp only [putAll,Act.put,List.setIfInBounds_toArray,List.set_cons_zero,List.set_cons_succ];rfl)) (hJ1_3 (v146,gb148) _ ⟨(Kd.R_up HO147.out),(blk_up BK148.out),GW148.out,GE148.out,(hb_)⟩)
      ·skip
       rintro v146 w11 ⟨h0_,h1_⟩
       have n0_ : Aside0 (Kd.R (Kd.int .i64) 3 w11 w.heap.size (fun _ => True) v146 y145):=⟨h0_⟩
       have n1_ : Aside0 (Below w.heap.size w w11):=⟨h1_⟩
       clear HB
       clear h0_ h1_
       have HO147:=n0_
       have HB:=n1_
       clear n0_ n1_
       have hHeld:=trivial
       refine norm_ (a':=?_) ?_ ?_
       rotate_left
       ·simp only [putAll,Act.put,List.setIfInBounds_toArray,List.set_cons_zero,List.set_cons_succ]
        rfl
       refine two_ (i:=0) (j:=3) (Ni:=some 5) (Nj:=some 1) #[true,true,false,false,false] #[false,true,false,true,false] rfl rfl rfl rfl (by kernel_rfl) (by decide) (by decide) (fun K hK => ?_) (fun K hK => ?_)
       ·skip
        refine Kd.R_make_step (Kd.int .i64) _ 3 (by rfl) (N:=5) rfl 22 _ _ rfl 16 rfl rfl Try.underlying22 (.int .i64 0) 8 info3 rfl (by decide) (by omega) 0 (ok:=fun _ => True) (okp:=fun _ => True) rfl (fun _ hk => hk) trivial (by omega) (by omega) (Below.refl _ _) (Nat.le_refl _) ?_
        intro v143 w12 ho13 hb hg_ hnew_
        clear hg_ hnew_
        (first|rw [← Ny142.out] at ho13|(simp only [Int.reduceToNat] at ho13;rw [← Ny142.out] at ho13))
        have n0_:=Aside0.mk (Kd.R_elder' (Kd.R_up HO147.out) (Kd.R_base ho13) hb)
        have n1_:=Aside0.mk (Kd.R_lower (Kd.R_new' ho13 (Kd.R_lt (Kd.R_up HO147.out))) (below_size (hb_)))
        have n2_:=Aside0.mk (below_step (hb_) hb)
        clear HO147
        clear HB
        have HO147:=n0_
        have HO144:=n1_
        have HB:=n2_
        clear n0_ n1_ n2_
        clear hb ho13
        obtain ⟨Ao14,co14,eo14⟩:=Kd.R_slice HO147.out
        (first|subst eo14|(injection eo14 with f1_ f2_ f3_;have f4_:=f1_.symm;have f5_:=f3_.symm;clear f1_ f2_ f3_;subst f4_;subst f5_))
        obtain ⟨Ao15,co15,eo15⟩:=Kd.R_slice HO144.out
        (first|subst eo15|(injection eo15 with f1_ f2_ f3_;have f4_:=f1_.symm;have f5_:=f3_.symm;clear f1_ f2_ f3_;subst f4_;subst f5_))
        refine hK.out _ _ trivial (fun hHeld => ?_)
        clear hK K
        refine norm_ (a':=?_) ?_ ?_
        rotate_left
        ·show Act.put _ (some 5) _ = _
         simp only [Act.put,List.setIfInBounds_toArray,List.set_cons_zero,List.set_cons_succ,i64_w,i32_w]
         rfl
        refine pI 2 (some 7) ?_
        exact norm_ (by first|(simp only [putAll,Act.put,List.setIfInBounds_toArray,List.set_cons_zero,List.set_cons_succ];done)|(simp only [putAll,Act.put,List.setIfInBounds_toArray,List.set_cons_zero,List.set_cons_succ];rfl)) (hJ0_1 (.slice Ao15 y142.length co15,.slice Ao14 y145.length co14) _ ⟨(by (with_reducible repeat (first|apply Kd.R_alloc|apply Kd.R_drewN|apply Kd.R_drew));exact Kd.R_mono HO144.out (fun _ hk => hk.2)),(by (with_reducible repeat (first|apply Kd.R_alloc|apply Kd.R_drewN|apply Kd.R_drew));exact Kd.R_mono HO147.out (fun _ hk => hk.2)),(hb_)⟩)
       ·skip
        refine box_step ?hg (N:=1) ?hd (cs:=#[.int .i64 0,.int .i64 0,.slice none 0 0,.slice none 0 0]) (t:=24) ?hr ?_;(case hd => rfl);(case hg => rfl);(case hr => first|(go_simp;done)|(go_simp;rfl))
        intro gb148 hg w12 hbox hb
        have n0_:=rbw HO147 hb
        have n1_:=Aside0.mk (below_step (hb_) hb)
        have n2_:=Aside0.mk (hbox)
        have n3_:=Aside0.mk ((by rw [hg];exact (below_size (hb_)) : w.heap.size ≤ gb148))
        have n4_:=Aside0.mk ((by rw [hg];exact (below_size (hb_)) : w.heap.size ≤ gb148))
        clear HO147
        clear HB
        have HO147:=n0_
        have HB:=n1_
        have BK148:=n2_
        have GW148:=n3_
        have GE148:=n4_
        clear n0_ n1_ n2_ n3_ n4_
        clear hb hbox hg
        refine hK.out _ _ trivial (fun hHeld => ?_)
        clear hK K
        refine norm_ (a':=?_) ?_ ?_
        rotate_left
        ·show Act.put _ (some 1) _ = _
         simp only [Act.put,List.setIfInBounds_toArray,List.set_cons_zero,List.set_cons_succ,i64_w,i32_w]
         rfl
        exact norm_ (by first|(simp only [putAll,Act.put,List.setIfInBounds_toArray,List.set_cons_zero,List.set_cons_succ];done)|(simp only [putAll,Act.put,List.setIfInBounds_toArray,List.set_cons_zero,List.set_cons_succ];rfl)) (hJ1_3 (v146,gb148) _ ⟨(Kd.R_up HO147.out),(blk_up BK148.out),GW148.out,GE148.out,(hb_)⟩)
     ·skip
      rintro v143 w11 ⟨h0_,h1_⟩
      have n0_ : Aside0 (Kd.R (Kd.int .i64) 3 w11 w.heap.size (fun _ => True) v143 y142):=⟨h0_⟩
      have n1_ : Aside0 (Below w.heap.size w w11):=⟨h1_⟩
      clear HB
      clear h0_ h1_
      have HO144:=n0_
      have HB:=n1_
      clear n0_ n1_
      have hHeld:=trivial
      refine norm_ (a':=?_) ?_ ?_
      rotate_left
      ·simp only [putAll,Act.put,List.setIfInBounds_toArray,List.set_cons_zero,List.set_cons_succ]
       rfl
      refine two_ (i:=1) (j:=3) (Ni:=some 6) (Nj:=some 1) #[true,true,false,false,false] #[true,false,false,true,false] rfl rfl rfl rfl (by kernel_rfl) (by decide) (by decide) (fun K hK => ?_) (fun K hK => ?_)
      ·skip
       refine Kd.R_make_step (Kd.int .i64) _ 3 (by rfl) (N:=6) rfl 22 _ _ rfl 16 rfl rfl Try.underlying22 (.int .i64 0) 8 info3 rfl (by decide) (by omega) 0 (ok:=fun _ => True) (okp:=fun _ => True) rfl (fun _ hk => hk) trivial (by omega) (by omega) (Below.refl _ _) (Nat.le_refl _) ?_
       intro v146 w12 ho13 hb hg_ hnew_
       clear hg_ hnew_
       (first|rw [← Ny145.out] at ho13|(simp only [Int.reduceToNat] at ho13;rw [← Ny145.out] at ho13))
       have n0_:=Aside0.mk (Kd.R_elder' (Kd.R_up HO144.out) (Kd.R_base ho13) hb)
       have n1_:=Aside0.mk (Kd.R_lower (Kd.R_new' ho13 (Kd.R_lt (Kd.R_up HO144.out))) (below_size (hb_)))
       have n2_:=Aside0.mk (below_step (hb_) hb)
       clear HO144
       clear HB
       have HO144:=n0_
       have HO147:=n1_
       have HB:=n2_
       clear n0_ n1_ n2_
       clear hb ho13
       obtain ⟨Ao14,co14,eo14⟩:=Kd.R_slice HO147.out
       (first|subst eo14|(injection eo14 with f1_ f2_ f3_;have f4_:=f1_.symm;have f5_:=f3_.symm;clear f1_ f2_ f3_;subst f4_;subst f5_))
       obtain ⟨Ao15,co15,eo15⟩:=Kd.R_slice HO144.out
       (first|subst eo15|(injection eo15 with f1_ f2_ f3_;have f4_:=f1_.symm;have f5_:=f3_.symm;clear f1_ f2_ f3_;subst f4_;subst f5_))
       refine hK.out _ _ trivial (fun hHeld => ?_)
       clear hK K
       refine norm_ (a':=?_) ?_ ?_
       rotate_left
       ·show Act.put _ (some 6) _ = _
        simp only [Act.put,List.setIfInBounds_toArray,List.set_cons_zero,List.set_cons_succ,i64_w,i32_w]
        rfl
       refine pI 2 (some 7) ?_
       exact norm_ (by first|(simp only [putAll,Act.put,List.setIfInBounds_toArray,List.set_cons_zero,List.set_cons_succ];done)|(simp only [putAll,Act.put,List.setIfInBounds_toArray,List.set_cons_zero,List.set_cons_succ];rfl)) (hJ0_1 (.slice Ao15 y142.length co15,.slice Ao14 y145.length co14) _ ⟨(by (with_reducible repeat (first|apply Kd.R_alloc|apply Kd.R_drewN|apply Kd.R_drew));exact Kd.R_mono HO144.out (fun _ hk => hk.2)),(by (with_reducible repeat (first|apply Kd.R_alloc|apply Kd.R_drewN|apply Kd.R_drew));exact Kd.R_mono HO147.out (fun _ hk => hk.2)),(hb_)⟩)
      ·skip
       refine box_step ?hg (N:=1) ?hd (cs:=#[.int .i64 0,.int .i64 0,.slice none 0 0,.slice none 0 0]) (t:=24) ?hr ?_;(case hd => rfl);(case hg => rfl);(case hr => first|(go_simp;done)|(go_simp;rfl))
       intro gb148 hg w12 hbox hb
       have n0_:=rbw HO144 hb
       have n1_:=Aside0.mk (below_step (hb_) hb)
       have n2_:=Aside0.mk (hbox)
       have n3_:=Aside0.mk ((by rw [hg];exact (below_size (hb_)) : w.heap.size ≤ gb148))
       have n4_:=Aside0.mk ((by rw [hg];exact (below_size (hb_)) : w.heap.size ≤ gb148))
       clear HO144
       clear HB
       have HO144:=n0_
       have HB:=n1_
       have BK148:=n2_
       have GW148:=n3_
       have GE148:=n4_
       clear n0_ n1_ n2_ n3_ n4_
       clear hb hbox hg
       refine hK.out _ _ trivial (fun hHeld => ?_)
       clear hK K
       refine norm_ (a':=?_) ?_ ?_
       rotate_left
       ·show Act.put _ (some 1) _ = _
        simp only [Act.put,List.setIfInBounds_toArray,List.set_cons_zero,List.set_cons_succ,i64_w,i32_w]
        rfl
       exact norm_ (by first|(simp only [putAll,Act.put,List.setIfInBounds_toArray,List.set_cons_zero,List.set_cons_succ];done)|(simp only [putAll,Act.put,List.setIfInBounds_toArray,List.set_cons_zero,List.set_cons_succ];rfl)) (hJ0_3 (v143,gb148) _ ⟨(Kd.R_up HO144.out),(blk_up BK148.out),GW148.out,GE148.out,(hb_)⟩)
    ·skip
     rintro ⟨v146,gb148⟩ w12 ⟨h0_,h1_,h2_,h3_,h4_⟩
     have n0_ : Aside0 (Kd.R (Kd.int .i64) 3 w12 w.heap.size (fun _ => True) v146 y145):=⟨h0_⟩
     have n1_ : Aside0 (w12.heap[gb148]? = some (.cells #[.int .i64 0,.int .i64 0,.slice none 0 0,.slice none 0 0] 24 (0,0))):=⟨h1_⟩
     have n2_ : Aside0 (w.heap.size ≤ gb148):=⟨h2_⟩
     have n3_ : Aside0 (w.heap.size ≤ gb148):=⟨h3_⟩
     have n4_ : Aside0 (Below w.heap.size w w12):=⟨h4_⟩
     clear HB
     clear h0_ h1_ h2_ h3_ h4_
     have HO147:=n0_
     have BK148:=n1_
     have GW148:=n2_
     have GE148:=n3_
     have HB:=n4_
     clear n0_ n1_ n2_ n3_ n4_
     have hHeld:=trivial
     refine norm_ (a':=?_) ?_ ?_
     rotate_left
     ·simp only [putAll,Act.put,List.setIfInBounds_toArray,List.set_cons_zero,List.set_cons_succ]
      rfl
     refine oI 0 (some 5) (fun K hK => ?_)
     refine Kd.R_make_step (Kd.int .i64) _ 3 (by rfl) (N:=5) rfl 22 _ _ rfl 16 rfl rfl Try.underlying22 (.int .i64 0) 8 info3 rfl (by decide) (by omega) 0 (ok:=fun _ => True) (okp:=fun _ => True) rfl (fun _ hk => hk) trivial (by omega) (by omega) (Below.refl _ _) (Nat.le_refl _) ?_
     intro v143 w13 ho14 hb hg_ hnew_
     clear hg_ hnew_
     (first|rw [← Ny142.out] at ho14|(simp only [Int.reduceToNat] at ho14;rw [← Ny142.out] at ho14))
     have n0_:=Aside0.mk (Kd.R_elder' (Kd.R_up HO147.out) (Kd.R_base ho14) hb)
     have n1_:=Aside0.mk (Kd.R_lower (Kd.R_new' ho14 (Kd.R_lt (Kd.R_up HO147.out))) (below_size (hb_)))
     have n2_:=bkb BK148 hb
     have n3_:=Aside0.mk (below_step (hb_) hb)
     clear HO147
     clear BK148
     clear HB
     have HO147:=n0_
     have HO144:=n1_
     have BK148:=n2_
     have HB:=n3_
     clear n0_ n1_ n2_ n3_
     clear hb ho14
     obtain ⟨Ao15,co15,eo15⟩:=Kd.R_slice HO147.out
     (first|subst eo15|(injection eo15 with f1_ f2_ f3_;have f4_:=f1_.symm;have f5_:=f3_.symm;clear f1_ f2_ f3_;subst f4_;subst f5_))
     obtain ⟨Ao16,co16,eo16⟩:=Kd.R_slice HO144.out
     (first|subst eo16|(injection eo16 with f1_ f2_ f3_;have f4_:=f1_.symm;have f5_:=f3_.symm;clear f1_ f2_ f3_;subst f4_;subst f5_))
     refine hK.out _ _ trivial (fun hHeld => ?_)
     clear hK K
     refine norm_ (a':=?_) ?_ ?_
     rotate_left
     ·show Act.put _ (some 5) _ = _
      simp only [Act.put,List.setIfInBounds_toArray,List.set_cons_zero,List.set_cons_succ,i64_w,i32_w]
      rfl
     refine pI 2 (some 7) ?_
     exact norm_ (by first|(simp only [putAll,Act.put,List.setIfInBounds_toArray,List.set_cons_zero,List.set_cons_succ];done)|(simp only [putAll,Act.put,List.setIfInBounds_toArray,List.set_cons_zero,List.set_cons_succ];rfl)) (hJ0_1_3 (.slice Ao16 y142.length co16,.slice Ao15 y145.length co15,gb148) _ ⟨(by (with_reducible repeat (first|apply Kd.R_alloc|apply Kd.R_drewN|apply Kd.R_drew));exact Kd.R_mono HO144.out (fun _ hk => hk.2)),(by (with_reducible repeat (first|apply Kd.R_alloc|apply Kd.R_drewN|apply Kd.R_drew));exact Kd.R_mono HO147.out (fun _ hk => hk.2)),(blk_up BK148.out),GW148.out,GE148.out,(hb_)⟩)
   ·skip
    rintro ⟨v143,gb148⟩ w12 ⟨h0_,h1_,h2_,h3_,h4_⟩
    have n0_ : Aside0 (Kd.R (Kd.int .i64) 3 w12 w.heap.size (fun _ => True) v143 y142):=⟨h0_⟩
    have n1_ : Aside0 (w12.heap[gb148]? = some (.cells #[.int .i64 0,.int .i64 0,.slice none 0 0,.slice none 0 0] 24 (0,0))):=⟨h1_⟩
    have n2_ : Aside0 (w.heap.size ≤ gb148):=⟨h2_⟩
    have n3_ : Aside0 (w.heap.size ≤ gb148):=⟨h3_⟩
    have n4_ : Aside0 (Below w.heap.size w w12):=⟨h4_⟩
    clear HB
    clear h0_ h1_ h2_ h3_ h4_
    have HO144:=n0_
    have BK148:=n1_
    have GW148:=n2_
    have GE148:=n3_
    have HB:=n4_
    clear n0_ n1_ n2_ n3_ n4_
    have hHeld:=trivial
    refine norm_ (a':=?_) ?_ ?_
    rotate_left
    ·simp only [putAll,Act.put,List.setIfInBounds_toArray,List.set_cons_zero,List.set_cons_succ]
     rfl
    refine oI 1 (some 6) (fun K hK => ?_)
    refine Kd.R_make_step (Kd.int .i64) _ 3 (by rfl) (N:=6) rfl 22 _ _ rfl 16 rfl rfl Try.underlying22 (.int .i64 0) 8 info3 rfl (by decide) (by omega) 0 (ok:=fun _ => True) (okp:=fun _ => True) rfl (fun _ hk => hk) trivial (by omega) (by omega) (Below.refl _ _) (Nat.le_refl _) ?_
    intro v146 w13 ho14 hb hg_ hnew_
    clear hg_ hnew_
    (first|rw [← Ny145.out] at ho14|(simp only [Int.reduceToNat] at ho14;rw [← Ny145.out] at ho14))
    have n0_:=Aside0.mk (Kd.R_elder' (Kd.R_up HO144.out) (Kd.R_base ho14) hb)
    have n1_:=Aside0.mk (Kd.R_lower (Kd.R_new' ho14 (Kd.R_lt (Kd.R_up HO144.out))) (below_size (hb_)))
    have n2_:=bkb BK148 hb
    have n3_:=Aside0.mk (below_step (hb_) hb)
    clear HO144
    clear BK148
    clear HB
    have HO144:=n0_
    have HO147:=n1_
    have BK148:=n2_
    have HB:=n3_
    clear n0_ n1_ n2_ n3_
    clear hb ho14
    obtain ⟨Ao15,co15,eo15⟩:=Kd.R_slice HO147.out
    (first|subst eo15|(injection eo15 with f1_ f2_ f3_;have f4_:=f1_.symm;have f5_:=f3_.symm;clear f1_ f2_ f3_;subst f4_;subst f5_))
    obtain ⟨Ao16,co16,eo16⟩:=Kd.R_slice HO144.out
    (first|subst eo16|(injection eo16 with f1_ f2_ f3_;have f4_:=f1_.symm;have f5_:=f3_.symm;clear f1_ f2_ f3_;subst f4_;subst f5_))
    refine hK.out _ _ trivial (fun hHeld => ?_)
    clear hK K
    refine norm_ (a':=?_) ?_ ?_
    rotate_left
    ·show Act.put _ (some 6) _ = _
     simp only [Act.put,List.setIfInBounds_toArray,List.set_cons_zero,List.set_cons_succ,i64_w,i32_w]
     rfl
    refine pI 2 (some 7) ?_
    exact norm_ (by first|(simp only [putAll,Act.put,List.setIfInBounds_toArray,List.set_cons_zero,List.set_cons_succ];done)|(simp only [putAll,Act.put,List.setIfInBounds_toArray,List.set_cons_zero,List.set_cons_succ];rfl)) (hJ0_1_3 (.slice Ao16 y142.length co16,.slice Ao15 y145.length co15,gb148) _ ⟨(by (with_reducible repeat (first|apply Kd.R_alloc|apply Kd.R_drewN|apply Kd.R_drew));exact Kd.R_mono HO144.out (fun _ hk => hk.2)),(by (with_reducible repeat (first|apply Kd.R_alloc|apply Kd.R_drewN|apply Kd.R_drew));exact Kd.R_mono HO147.out (fun _ hk => hk.2)),(blk_up BK148.out),GW148.out,GE148.out,(hb_)⟩)
  ·skip
   rintro ⟨v143,v146⟩ w15 ⟨h0_,h1_,h2_⟩
   have n0_ : Aside0 (Kd.R (Kd.int .i64) 3 w15 w.heap.size (fun k_ => some k_ ≠ (v146 : Value).ownBlock) v143 y142):=⟨h0_⟩
   have n1_ : Aside0 (Kd.R (Kd.int .i64) 3 w15 w.heap.size (fun k_ => some k_ ≠ (v143 : Value).ownBlock) v146 y145):=⟨h1_⟩
   have n2_ : Aside0 (Below w.heap.size w w15):=⟨h2_⟩
   clear HB
   clear h0_ h1_ h2_
   have HO144:=n0_
   have HO147:=n1_
   have HB:=n2_
   clear n0_ n1_ n2_
   have hHeld:=trivial
   obtain ⟨Ao16,co16,eo16⟩:=Kd.R_slice HO147.out
   (first|subst eo16|(injection eo16 with f1_ f2_ f3_;have f4_:=f1_.symm;have f5_:=f3_.symm;clear f1_ f2_ f3_;subst f4_;subst f5_))
   obtain ⟨Ao17,co17,eo17⟩:=Kd.R_slice HO144.out
   (first|subst eo17|(injection eo17 with f1_ f2_ f3_;have f4_:=f1_.symm;have f5_:=f3_.symm;clear f1_ f2_ f3_;subst f4_;subst f5_))
   refine norm_ (a':=?_) ?_ ?_
   rotate_left
   ·simp only [putAll,Act.put,List.setIfInBounds_toArray,List.set_cons_zero,List.set_cons_succ]
    rfl
   refine oI 3 (some 1) (fun K hK => ?_)
   refine box_step ?hg (N:=1) ?hd (cs:=#[.int .i64 0,.int .i64 0,.slice none 0 0,.slice none 0 0]) (t:=24) ?hr ?_;(case hd => rfl);(case hg => rfl);(case hr => first|(go_simp;done)|(go_simp;rfl))
   intro gb148 hg w18 hbox hb
   have n0_:=rbw HO144 hb
   have n1_:=rbw HO147 hb
   have n2_:=Aside0.mk (below_step (hb_) hb)
   have n3_:=Aside0.mk (hbox)
   have n4_:=Aside0.mk ((by rw [hg];exact (below_size (hb_)) : w.heap.size ≤ gb148))
   have n5_:=Aside0.mk ((by rw [hg];exact (below_size (hb_)) : w.heap.size ≤ gb148))
   clear HO144
   clear HO147
   clear HB
   have HO144:=n0_
   have HO147:=n1_
   have HB:=n2_
   have BK148:=n3_
   have GW148:=n4_
   have GE148:=n5_
   clear n0_ n1_ n2_ n3_ n4_ n5_
   clear hb hbox hg
   refine hK.out _ _ trivial (fun hHeld => ?_)
   clear hK K
   refine norm_ (a':=?_) ?_ ?_
   rotate_left
   ·show Act.put _ (some 1) _ = _
    simp only [Act.put,List.setIfInBounds_toArray,List.set_cons_zero,List.set_cons_succ,i64_w,i32_w]
    rfl
   exact norm_ (by first|(simp only [putAll,Act.put,List.setIfInBounds_toArray,List.set_cons_zero,List.set_cons_succ];done)|(simp only [putAll,Act.put,List.setIfInBounds_toArray,List.set_cons_zero,List.set_cons_succ];rfl)) (hJ0_1_3 (.slice Ao17 y142.length co17,.slice Ao16 y145.length co16,gb148) _ ⟨(Kd.R_up HO144.out),(Kd.R_up HO147.out),(blk_up BK148.out),GW148.out,GE148.out,(hb_)⟩)
 rintro ⟨v143,v146,gb148⟩ w16 ⟨h0_,h1_,h2_,h3_,h4_,h5_⟩
 have n0_ : Aside0 (Kd.R (Kd.int .i64) 3 w16 w.heap.size (fun k_ => some k_ ≠ (v146 : Value).ownBlock) v143 y142):=⟨h0_⟩
 have n1_ : Aside0 (Kd.R (Kd.int .i64) 3 w16 w.heap.size (fun k_ => some k_ ≠ (v143 : Value).ownBlock) v146 y145):=⟨h1_⟩
 have n2_ : Aside0 (w16.heap[gb148]? = some (.cells #[.int .i64 0,.int .i64 0,.slice none 0 0,.slice none 0 0] 24 (0,0))):=⟨h2_⟩
 have n3_ : Aside0 (w.heap.size ≤ gb148):=⟨h3_⟩
 have n4_ : Aside0 (w.heap.size ≤ gb148):=⟨h4_⟩
 have n5_ : Aside0 (Below w.heap.size w w16):=⟨h5_⟩
 clear HB
 clear h0_ h1_ h2_ h3_ h4_ h5_
 have HO144:=n0_
 have HO147:=n1_
 have BK148:=n2_
 have GW148:=n3_
 have GE148:=n4_
 have HB:=n5_
 clear n0_ n1_ n2_ n3_ n4_ n5_
 have hHeld:=trivial
 obtain ⟨Ao17,co17,eo17⟩:=Kd.R_slice HO147.out
 (first|subst eo17|(injection eo17 with f1_ f2_ f3_;have f4_:=f1_.symm;have f5_:=f3_.symm;clear f1_ f2_ f3_;subst f4_;subst f5_))
 obtain ⟨Ao18,co18,eo18⟩:=Kd.R_slice HO144.out
 (first|subst eo18|(injection eo18 with f1_ f2_ f3_;have f4_:=f1_.symm;have f5_:=f3_.symm;clear f1_ f2_ f3_;subst f4_;subst f5_))
 refine norm_ (a':=?_) ?_ ?_
 rotate_left
 ·simp only [putAll,Act.put,List.setIfInBounds_toArray,List.set_cons_zero,List.set_cons_succ]
  rfl
 refine oI 4 (none) (fun K hK => ?_)
 have hs19 : w16.cell? ⟨gb148,0,none⟩ = some (.int .i64 0):=(blk_cell BK148.out 0).trans rfl
 have hfs19:=blk_frozen BK148.out 0
 have hs20 : w16.cell? ⟨gb148,1,none⟩ = some (.int .i64 0):=(blk_cell BK148.out 1).trans rfl
 have hfs20:=blk_frozen BK148.out 1
 have hs21 : w16.cell? ⟨gb148,2,none⟩ = some (.slice none 0 0):=(blk_cell BK148.out 2).trans rfl
 have hfs21:=blk_frozen BK148.out 2
 have hs22 : w16.cell? ⟨gb148,3,none⟩ = some (.slice none 0 0):=(blk_cell BK148.out 3).trans rfl
 have hfs22:=blk_frozen BK148.out 3
 refine skip_ (w1:=?_) (by rfl) rfl ?_ ?_
 rotate_left
 ·go_simp
  rfl
 refine hK.out _ _ trivial (fun hHeld => ?_)
 clear hK K
 refine done_ (by kernel_rfl) ?_
 have n0_ : Aside0 (Kd.R (Kd.int .i64) 3 ((((w16.setCell ⟨gb148,0,none⟩ (.int .i64 4)).setCell ⟨gb148,1,none⟩ (.int .i64 4)).setCell ⟨gb148,2,none⟩ (.slice Ao18 y142.length co18)).setCell ⟨gb148,3,none⟩ (.slice Ao17 y145.length co17)) w.heap.size (fun k_ => some k_ ≠ (.slice Ao17 y145.length co17 : Value).ownBlock) (.slice Ao18 y142.length co18) y142):=⟨by (with_reducible repeat (first|apply Kd.R_alloc|apply Kd.R_drewN|apply Kd.R_drew));exact Kd.R_mono (Kd.R_fars gb148 (Kd.R_types HO144.out BK148.out (by decide)) (fun _ hk => hk.2)) (fun _ hk => hk.1)⟩
 have n1_ : Aside0 (Kd.R (Kd.int .i64) 3 ((((w16.setCell ⟨gb148,0,none⟩ (.int .i64 4)).setCell ⟨gb148,1,none⟩ (.int .i64 4)).setCell ⟨gb148,2,none⟩ (.slice Ao18 y142.length co18)).setCell ⟨gb148,3,none⟩ (.slice Ao17 y145.length co17)) w.heap.size (fun k_ => some k_ ≠ (.slice Ao18 y142.length co18 : Value).ownBlock) (.slice Ao17 y145.length co17) y145):=⟨by (with_reducible repeat (first|apply Kd.R_alloc|apply Kd.R_drewN|apply Kd.R_drew));exact Kd.R_mono (Kd.R_fars gb148 (Kd.R_types HO147.out BK148.out (by decide)) (fun _ hk => hk.2)) (fun _ hk => hk.1)⟩
 have n2_ : Aside0 (((((w16.setCell ⟨gb148,0,none⟩ (.int .i64 4)).setCell ⟨gb148,1,none⟩ (.int .i64 4)).setCell ⟨gb148,2,none⟩ (.slice Ao18 y142.length co18)).setCell ⟨gb148,3,none⟩ (.slice Ao17 y145.length co17)).heap[gb148]? = some (.cells #[.int .i64 4,.int .i64 4,.slice Ao18 y142.length co18,.slice Ao17 y145.length co17] 24 (0,0))):=⟨by (with_reducible repeat (first|refine blk_drewN ?_ _|refine blk_drew ?_|refine blk_alloc ?_ _));exact blk_puts4 (blk_up BK148.out)⟩
 have n3_ : Aside0 (Below w.heap.size w ((((w16.setCell ⟨gb148,0,none⟩ (.int .i64 4)).setCell ⟨gb148,1,none⟩ (.int .i64 4)).setCell ⟨gb148,2,none⟩ (.slice Ao18 y142.length co18)).setCell ⟨gb148,3,none⟩ (.slice Ao17 y145.length co17))):=⟨hb_⟩
 (try clear HO144)
 (try clear HO147)
 (try clear BK148)
 (try clear HB)
 generalize ((((w16.setCell ⟨gb148,0,none⟩ (.int .i64 4)).setCell ⟨gb148,1,none⟩ (.int .i64 4)).setCell ⟨gb148,2,none⟩ (.slice Ao18 y142.length co18)).setCell ⟨gb148,3,none⟩ (.slice Ao17 y145.length co17)) = w23 at n0_ n1_ n2_ n3_ ⊢
 have HO144:=n0_
 have HO147:=n1_
 have BK148:=n2_
 have HB:=n3_
 clear n0_ n1_ n2_ n3_
 obtain ⟨_,_,_,_,_,_,_,_⟩:=cells4 BK148.out
 have p3 : 0 ≤ (0 : Int):=(by omega)
 have q3 : (0 : Int) < ((y142.length : Int) : Int):=of_decide_eq_true (by first|(with_reducible assumption)|assumption)
 have qi3 : (0 < y142.length) = True:=eq_true (by omega)
 obtain ⟨go3,co3,eo3,gb3,gl3,cl3,HG3⟩:=Kd.R_form HO144.out (by omega)
 (first|cases eo3|(injection eo3 with ea_ en_ ec_;(first|subst ea_|(injection ea_ with ea_;subst ea_));subst ec_;clear en_))
 have GB3:=Aside0.mk gb3
 have GG3:=Aside0.mk HG3
 clear gb3 gl3 HG3
 obtain ⟨hx3_0,hf3_0⟩:=Kd.R_celln 0 HO144.out (0 : Int) p3 q3
 (try rw [show ((0 : Int)).toNat = 0 from rfl] at hx3_0)
 (try simp only [Nat.reduceMul,Nat.zero_mul,Nat.zero_add,Nat.reduceAdd] at hx3_0)
 (try rw [show ((0 : Int)).toNat = 0 from rfl] at hf3_0)
 (try simp only [Nat.reduceMul,Nat.zero_mul,Nat.zero_add,Nat.reduceAdd] at hf3_0)
 replace p3:=eq_true p3
 replace q3:=eq_true q3
 obtain ⟨hy25_,hz25_⟩:=Kd.R_celln 0 HO144.out (0 : Int) (by omega) (of_decide_eq_true (by first|(with_reducible assumption)|assumption))
 (try simp only [Int.reduceToNat,Int.toNat_zero,Int.toNat_ofNat,Nat.reduceMul,Nat.zero_mul,Nat.zero_add] at hy25_ hz25_)
 (try rw [show ((0 : Int)).toNat = 0 from rfl] at hy25_)
 (try rw [show ((0 : Int)).toNat = 0 from rfl] at hz25_)
 have HP25:=Kd.R_putg HO144.out (0 : Int) 1
 go_upto_region 5 with (first|((with_reducible refine gate_store (t:=3) (p:=10) rfl ?_);refine store_event (t:=3) (p:=10) (v:=?vo_w26) (w1:=(w23.setCell ⟨go3,(0 : Int).toNat,none⟩ (.int .i64 1))) ?hg ?ho ?hn ?hr ?_;(case ho => rfl);(case hg => rfl);(case hn => rfl);(case hr => first|(go_simp;done)|(go_simp;rfl));intro w26 hw;have hg : w23.grownBy w26 (some go3):=(by rw [hw];exact HP25.2);have hp_ : Kd.R (Kd.int .i64) 3 w26 w.heap.size (fun k_ => some k_ ≠ (.slice Ao17 y145.length co17 : Value).ownBlock) (.slice (some ⟨go3,0,none⟩) y142.length co18) y149:=(by rw [hw,Ny149.out];exact HP25.1);clear HP25;replace HO147:=Aside0.mk (Kd.R_after (v:=(.slice (some ⟨go3,0,none⟩) y142.length co18)) (v1:=(.slice (some ⟨go3,0,none⟩) y142.length co18)) (ok:=(fun _ => True)) (by (with_reducible repeat (first|apply Kd.R_alloc|apply Kd.R_drewN|apply Kd.R_drew));exact Kd.R_mono HO147.out (fun _ hk => ⟨trivial,hk⟩)) hg (.inl rfl));replace BK148:=Aside0.mk (blk_grown (blk_up BK148.out) hg (Kd.R_ne HO144.out BK148.out (by decide)));replace HO144:=Aside0.mk (hp_);replace HB:=Aside0.mk ((by rw [hw];exact below_set (HB.out) GB3.out : Below w.heap.size w w26));clear hg hw hp_;obtain ⟨_,_,_,_,_,_,_,_⟩:=cells4 BK148.out;have p5 : 0 ≤ (1 : Int):=(by omega);have q5 : (1 : Int) < ((y142.length : Int) : Int):=of_decide_eq_true (by first|(with_reducible assumption)|assumption);have qi5 : (1 < y142.length) = True:=eq_true (by omega);obtain ⟨hx5_0,hf5_0⟩:=Kd.R_celln 0 HO144.out (1 : Int) p5 q5;(try rw [show ((1 : Int)).toNat = 1 from rfl] at hx5_0);(try simp only [Nat.reduceMul,Nat.zero_mul,Nat.zero_add,Nat.reduceAdd] at hx5_0);(try rw [show ((1 : Int)).toNat = 1 from rfl] at hf5_0);(try simp only [Nat.reduceMul,Nat.zero_mul,Nat.zero_add,Nat.reduceAdd] at hf5_0);replace p5:=eq_true p5;replace q5:=eq_true q5;obtain ⟨hy28_,hz28_⟩:=Kd.R_celln 0 HO144.out (1 : Int) (by omega) (of_decide_eq_true (by first|(with_reducible assumption)|assumption));(try simp only [Int.reduceToNat,Int.toNat_zero,Int.toNat_ofNat,Nat.reduceMul,Nat.zero_mul,Nat.zero_add] at hy28_ hz28_);(try rw [show ((1 : Int)).toNat = 1 from rfl] at hy28_);(try rw [show ((1 : Int)).toNat = 1 from rfl] at hz28_);have HP28:=Kd.R_putg HO144.out (1 : Int) 4)|((with_reducible refine gate_store (t:=3) (p:=13) rfl ?_);refine store_event (t:=3) (p:=13) (v:=?vo_w29) (w1:=(w26.setCell ⟨go3,(1 : Int).toNat,none⟩ (.int .i64 4))) ?hg ?ho ?hn ?hr ?_;(case ho => rfl);(case hg => rfl);(case hn => rfl);(case hr => first|(go_simp;done)|(go_simp;rfl));intro w29 hw;have hg : w26.grownBy w29 (some go3):=(by rw [hw];exact HP28.2);have hp_ : Kd.R (Kd.int .i64) 3 w29 w.heap.size (fun k_ => some k_ ≠ (.slice Ao17 y145.length co17 : Value).ownBlock) (.slice (some ⟨go3,0,none⟩) y142.length co18) y150:=(by rw [hw,Ny150.out];exact HP28.1);clear HP28;replace HO147:=Aside0.mk (Kd.R_after (v:=(.slice (some ⟨go3,0,none⟩) y142.length co18)) (v1:=(.slice (some ⟨go3,0,none⟩) y142.length co18)) (ok:=(fun _ => True)) (Kd.R_up HO147.out) hg (.inl rfl));replace BK148:=Aside0.mk (blk_grown (blk_up BK148.out) hg (Kd.R_ne HO144.out BK148.out (by decide)));replace HO144:=Aside0.mk (hp_);replace HB:=Aside0.mk ((by rw [hw];exact below_set (HB.out) GB3.out : Below w.heap.size w w29));clear hg hw hp_;obtain ⟨_,_,_,_,_,_,_,_⟩:=cells4 BK148.out)|((with_reducible refine gate_callee (f:=15) rfl ?_);refine goesL_ (some 16) rfl rfl Try.func15 (by kernel_rfl) rfl #[.agg #[.int .i64 4,.int .i64 4,.slice (some ⟨go3,0,none⟩) y150.length co18,.slice Ao17 y145.length co17],.int .i64 1,.int .i64 (-1),.int .i64 0] rfl (by (try simp only [List.map_toArray,List.map_cons,List.map_nil]);first|done|(rw [show y150.length = y142.length from (Kd.R_reads' HO144.out).1.symm] <;> rfl)|rfl|(simp only [List.length_drop,List.length_take];rfl)) ?_;(with_reducible refine (lane_Choose.calls k 4 4 _ _ y150 _ _ y145 1 (-1) 0 t151 t152 t153 _ ?_ ?_ ?_ ?_ A6.out).mono ?_);exact Kd.C_up (Kd.R_reads' HO144.out).2.2;(focus (rw [show y150.length = y142.length from (Kd.R_reads' HO144.out).1.symm];exact (Kd.R_reads' HO144.out).2.1));exact Kd.C_up (Kd.R_reads' HO147.out).2.2;exact (Kd.R_reads' HO147.out).2.1;rintro e w31 ⟨rfl,hb⟩;refine ⟨_,rfl,?_⟩;replace HO144:=rbw HO144 hb;replace HO147:=rbw HO147 hb;replace BK148:=bkb BK148 hb;replace HB:=hbs hb))
 (try simp only [Act.put,List.setIfInBounds_toArray,List.set_cons_zero,List.set_cons_succ])
 go_cut [0] (fun v0 wc => ∃ (kq : Nat) (x0_6 : Bool),v0 = .bool x0_6 ∧ Aside0 (hinterlandlaw17_known.j0 kq x0_6 = some r) ∧ Aside0 (kq ≤ k) ∧ Aside0 (Kd.R (Kd.int .i64) 3 wc w.heap.size (fun k_ => some k_ ≠ ((.slice Ao17 y145.length co17) : Value).ownBlock) (.slice (some ⟨go3,0,none⟩) y142.length co18) y150) ∧ Aside0 (Kd.R (Kd.int .i64) 3 wc w.heap.size (fun k_ => some k_ ≠ ((.slice (some ⟨go3,0,none⟩) y142.length co18) : Value).ownBlock) (.slice Ao17 y145.length co17) y145) ∧ Aside0 (wc.heap[gb148]? = some (.cells #[.int .i64 4,.int .i64 4,(.slice (some ⟨go3,0,none⟩) y142.length co18),(.slice Ao17 y145.length co17)] 24 (0,0))) ∧ Aside0 (Below w.heap.size w wc))
 case first =>
  have H:=HC7.out
  clear HC7
  by_cases c32 : t151 = 2
  ·rw [if_pos c32] at H
   have c32b0:=bqt c32
   have c32b1:=bnf c32
   clear c32
   (first|rw [c32b0]|(simp only [i64_w,i32_w];rw [c32b0])|skip)
   by_cases c33 : t152 = true
   ·subst c33
    have H1 : (hinterlandlaw17_known.j0 k (t153 == 0)) = some r:=by rw [if_pos rfl] at H;exact H
    clear H
    have H:=H1
    clear H1
    have H':=Aside0.mk H
    clear H
    go_wp2
    go_meet
    case rel => exact ⟨_,((t153 == 0)),(by first|rfl|(simp;done)|(simp [*];done)),H',⟨by first|omega|exact Nat.le_refl _⟩,⟨Kd.R_up HO144.out⟩,⟨by (with_reducible repeat (first|apply Kd.R_alloc|apply Kd.R_drewN|apply Kd.R_drew));exact Kd.R_mono HO147.out (fun _ hk => hk.2)⟩,⟨blk_up BK148.out⟩,⟨hb_⟩⟩
   ·replace c33:=Bool.eq_false_iff.mpr c33
    subst c33
    have H1 : (hinterlandlaw17_known.j0 k false) = some r:=by rw [if_neg (show ¬ (false = true) by decide)] at H;exact H
    clear H
    have H:=H1
    clear H1
    have H':=Aside0.mk H
    clear H
    go_wp2
    go_meet
    case rel => exact ⟨_,(false),(by first|rfl|(simp;done)|(simp [*];done)),H',⟨by first|omega|exact Nat.le_refl _⟩,⟨Kd.R_up HO144.out⟩,⟨by (with_reducible repeat (first|apply Kd.R_alloc|apply Kd.R_drewN|apply Kd.R_drew));exact Kd.R_mono HO147.out (fun _ hk => hk.2)⟩,⟨blk_up BK148.out⟩,⟨hb_⟩⟩
  ·rw [if_neg c32] at H
   have c32b0:=bqf c32
   have c32b1:=bnt c32
   (first|rw [c32b0]|(simp only [i64_w,i32_w];rw [c32b0])|skip)
   have H':=Aside0.mk H
   clear H
   go_wp2
   go_meet
   case rel => exact ⟨_,(false),(by first|rfl|(simp;done)|(simp [*];done)),H',⟨by first|omega|exact Nat.le_refl _⟩,⟨Kd.R_up HO144.out⟩,⟨by (with_reducible repeat (first|apply Kd.R_alloc|apply Kd.R_drewN|apply Kd.R_drew));exact Kd.R_mono HO147.out (fun _ hk => hk.2)⟩,⟨blk_up BK148.out⟩,⟨hb_⟩⟩
 case rest =>
  clear HC7
  obtain ⟨kq,x0_6,rfl,HA,HJ6,HO_149002,HO_149003,BK148,HB⟩:=hcut
  have hl149002_6:=(Kd.R_reads' HO_149002.out).1
  rw [hl149002_6] at HO_149002
  (try simp only [hl149002_6])
  (try simp only [hl149002_6] at BK148)
  (try simp only [hl149002_6] at HO_149003)
  cases kq with
  | zero => exact absurd HA.out (by simp [hinterlandlaw17_known.j0])
  | succ kj6 =>
   have H:=HA.out
   clear HA
   simp only [hinterlandlaw17_known.j0] at H
   obtain rfl:=Option.some.inj H
   go_wp2
   go_ret
   exact ⟨er_,hb_⟩

/-! ### hinterlandlaw17_vast: function 29 -/
def hinterlandlaw17_vast.f (a0_0 : Int) (a0_1 : Int) (l0_2 : List Int) (l1_0 : List Int) (l1_1 : List Int) : Option (Bool) := if (l0_2.length : Int) > 1200 then (some true) else (if (l1_0.length : Int) > 1200 then (some true) else (some (decide ((l1_1.length : Int) > 1200))))
set_option maxHeartbeats 8000000 in
set_option maxRecDepth 100000 in
theorem hinterlandlaw17_vast.calls (a0_0 : Int) (a0_1 : Int) (A0_2 : Option Addr) (c0_2 : Nat) (l0_2 : List Int) (A1_0 : Option Addr) (c1_0 : Nat) (l1_0 : List Int) (A1_1 : Option Addr) (c1_1 : Nat) (l1_1 : List Int) (r : Bool) (w : World) (hr0_2 : Kd.C (Kd.int .i64) w A0_2 l0_2.length l0_2) (hc0_2 : l0_2.length ≤ c0_2) (hr1_0 : Kd.C (Kd.int .i64) w A1_0 l1_0.length l1_0) (hc1_0 : l1_0.length ≤ c1_0) (hr1_1 : Kd.C (Kd.int .i64) w A1_1 l1_1.length l1_1) (hc1_1 : l1_1.length ≤ c1_1) (h : hinterlandlaw17_vast.f a0_0 a0_1 l0_2 l1_0 l1_1 = some r) :
  Calls Try.prog 29 #[.agg #[.int .i64 a0_0,.int .i64 a0_1,.slice A0_2 l0_2.length c0_2],.agg #[.slice A1_0 l1_0.length c1_0,.slice A1_1 l1_1.length c1_1]] w fun e w' => e = .returned (.bool r) ∧ Below w.heap.size w w':=by
 have hu53:=Try.underlying53
 have hu55:=Try.underlying55
 have HR0_2:=Aside0.mk hr0_2
 have HC0_2:=Aside0.mk hc0_2
 clear hr0_2 hc0_2
 have HR1_0:=Aside0.mk hr1_0
 have HC1_0:=Aside0.mk hc1_0
 clear hr1_0 hc1_0
 have HR1_1:=Aside0.mk hr1_1
 have HC1_1:=Aside0.mk hc1_1
 clear hr1_1 hc1_1
 have HB:=Aside0.mk (Below.refl w.heap.size w)
 have H : (if (l0_2.length : Int) > 1200 then (some true) else (if (l1_0.length : Int) > 1200 then (some true) else (some (decide ((l1_1.length : Int) > 1200))))) = some r:=h
 clear h
 by_cases c3 : (l0_2.length : Int) > 1200
 ·rw [if_pos c3] at H
  have c3b0 : decide (1200 < (l0_2.length : Int)) = true:=decide_eq_true c3
  have c3b1 : decide (1200 < l0_2.length) = true:=decide_eq_true (by omega)
  clear c3
  obtain rfl:=Option.some.inj H
  go_enter Try.func29,Try.ntmps29
  go_wp2_with (first|((with_reducible refine gate_dst (N:=2) rfl ?_);(try (refine gate_guard (by rfl) ?_;dsimp only));refine box_ev (N:=2) (cs:=#[.int .i64 a0_0,.int .i64 a0_1,.slice A0_2 l0_2.length c0_2]) (t:=53) ?_;intro gb154 hg w4 hbox hb;have BK154:=Aside0.mk (hbox);have GW154 : Aside0 (w.heap.size ≤ gb154):=gsz hg;have GE154:=GW154;replace HB:=hbs hb;clear hb hbox hg)|((with_reducible refine gate_dst (N:=3) rfl ?_);(try (refine gate_guard (by rfl) ?_;dsimp only));refine box_ev (N:=3) (cs:=#[.slice A1_0 l1_0.length c1_0,.slice A1_1 l1_1.length c1_1]) (t:=55) ?_;intro gb155 hg w5 hbox hb;have BK155:=Aside0.mk (hbox);have GW155 : Aside0 (w.heap.size ≤ gb155):=gsz hg;have GE155:=GW155;have NB154_155:=nbl BK154 hg;have NB155_154:=nbr BK154 hg;replace BK154:=bkb BK154 hb;replace HB:=hbs hb;clear hb hbox hg;have hnb6:=NB154_155.out;have hnc6:=NB155_154.out;obtain ⟨_,_,_,_,_,_⟩:=cells3 BK154.out))
  go_ret
  exact ⟨er_,hb_⟩
 ·rw [if_neg c3] at H
  have c3b0 : decide (1200 < (l0_2.length : Int)) = false:=decide_eq_false c3
  have c3b1 : decide (1200 < l0_2.length) = false:=decide_eq_false (by omega)
  clear c3
  by_cases c8 : (l1_0.length : Int) > 1200
  ·rw [if_pos c8] at H
   have c8b0 : decide (1200 < (l1_0.length : Int)) = true:=decide_eq_true c8
   have c8b1 : decide (1200 < l1_0.length) = true:=decide_eq_true (by omega)
   clear c8
   obtain rfl:=Option.some.inj H
   go_enter Try.func29,Try.ntmps29
   go_wp2_with (first|((with_reducible refine gate_dst (N:=2) rfl ?_);(try (refine gate_guard (by rfl) ?_;dsimp only));refine box_ev (N:=2) (cs:=#[.int .i64 a0_0,.int .i64 a0_1,.slice A0_2 l0_2.length c0_2]) (t:=53) ?_;intro gb154 hg w9 hbox hb;have BK154:=Aside0.mk (hbox);have GW154 : Aside0 (w.heap.size ≤ gb154):=gsz hg;have GE154:=GW154;replace HB:=hbs hb;clear hb hbox hg)|((with_reducible refine gate_dst (N:=3) rfl ?_);(try (refine gate_guard (by rfl) ?_;dsimp only));refine box_ev (N:=3) (cs:=#[.slice A1_0 l1_0.length c1_0,.slice A1_1 l1_1.length c1_1]) (t:=55) ?_;intro gb155 hg w10 hbox hb;have BK155:=Aside0.mk (hbox);have GW155 : Aside0 (w.heap.size ≤ gb155):=gsz hg;have GE155:=GW155;have NB154_155:=nbl BK154 hg;have NB155_154:=nbr BK154 hg;replace BK154:=bkb BK154 hb;replace HB:=hbs hb;clear hb hbox hg;have hnb11:=NB154_155.out;have hnc11:=NB155_154.out;obtain ⟨_,_,_,_,_,_⟩:=cells3 BK154.out;obtain ⟨_,_,_,_⟩:=cells2 BK155.out))
   go_ret
   exact ⟨er_,hb_⟩
  ·rw [if_neg c8] at H
   have c8b0 : decide (1200 < (l1_0.length : Int)) = false:=decide_eq_false c8
   have c8b1 : decide (1200 < l1_0.length) = false:=decide_eq_false (by omega)
   clear c8
   obtain rfl:=Option.some.inj H
   go_enter Try.func29,Try.ntmps29
   go_wp2_with (first|((with_reducible refine gate_dst (N:=2) rfl ?_);(try (refine gate_guard (by rfl) ?_;dsimp only));refine box_ev (N:=2) (cs:=#[.int .i64 a0_0,.int .i64 a0_1,.slice A0_2 l0_2.length c0_2]) (t:=53) ?_;intro gb154 hg w14 hbox hb;have BK154:=Aside0.mk (hbox);have GW154 : Aside0 (w.heap.size ≤ gb154):=gsz hg;have GE154:=GW154;replace HB:=hbs hb;clear hb hbox hg)|((with_reducible refine gate_dst (N:=3) rfl ?_);(try (refine gate_guard (by rfl) ?_;dsimp only));refine box_ev (N:=3) (cs:=#[.slice A1_0 l1_0.length c1_0,.slice A1_1 l1_1.length c1_1]) (t:=55) ?_;intro gb155 hg w15 hbox hb;have BK155:=Aside0.mk (hbox);have GW155 : Aside0 (w.heap.size ≤ gb155):=gsz hg;have GE155:=GW155;have NB154_155:=nbl BK154 hg;have NB155_154:=nbr BK154 hg;replace BK154:=bkb BK154 hb;replace HB:=hbs hb;clear hb hbox hg;have hnb16:=NB154_155.out;have hnc16:=NB155_154.out;obtain ⟨_,_,_,_,_,_⟩:=cells3 BK154.out;obtain ⟨_,_,_,_⟩:=cells2 BK155.out))
   go_ret
   exact ⟨er_,hb_⟩

/-! ### api_Errno: function 54 -/
def api_Errno.l0 : Nat → Int → List Int → Int → Int → Option (Int)
 | 0,_,_,_,_ => none
 | k + 1,x3,x6,x7,x8 => if x8 < x7 then (if 0 ≤ x8 then (if x8 < (x6.length : Int) then (if (rd x6 x8) = x3 then (api_Errno.l0 k x3 x6 x7 (wrap64 (x8 + 1))) else (some (rd x6 x8))) else (none)) else (none)) else (some x3)
def api_Errno.f (k : Nat) (l0 : List Int) : Option (Int) := api_Errno.l0 k 0 l0 (l0.length : Int) 0
theorem api_Errno.mono_l : ∀ k, (∀ y0 y1 y2 y3, LeO (api_Errno.l0 k y0 y1 y2 y3) (api_Errno.l0 (k + 1) y0 y1 y2 y3))
 | 0 => fun _ _ _ _ r h => by simp [api_Errno.l0] at h
 | k + 1 => by
  have ih0:=api_Errno.mono_l k
  ·intro y0 y1 y2 y3
   unfold api_Errno.l0
   repeat' first
   | (with_reducible exact ih0 _ _ _ _)
   | (with_reducible exact LeO.refl _)
   | (with_reducible exact LeO.none _)
   | (with_reducible refine LeO.ite ?_ ?_)
   | (with_reducible refine LeO.bind ?_ (fun _ => ?_))
   | exact ih0 _ _ _ _
   | exact LeO.none _
   | refine LeO.ite ?_ ?_
   | refine LeO.bind ?_ (fun _ => ?_)
theorem api_Errno.mono : ∀ a0 k, LeO (api_Errno.f k a0) (api_Errno.f (k + 1) a0) := by
 intro a0 k
 have ih0:=api_Errno.mono_l k
 unfold api_Errno.f
 repeat' first
   | (with_reducible exact ih0 _ _ _ _)
   | (with_reducible exact LeO.refl _)
   | (with_reducible exact LeO.none _)
   | (with_reducible refine LeO.ite ?_ ?_)
   | (with_reducible refine LeO.bind ?_ (fun _ => ?_))
   | exact ih0 _ _ _ _
   | exact LeO.none _
   | refine LeO.ite ?_ ?_
   | refine LeO.bind ?_ (fun _ => ?_)
set_option maxHeartbeats 8000000 in
set_option maxRecDepth 100000 in
theorem api_Errno.calls (k : Nat) (A0 : Option Addr) (c0 : Nat) (l0 : List Int) (r : Int) (w : World) (hr0 : Kd.C (Kd.int .i64) w A0 l0.length l0) (hc0 : l0.length ≤ c0) (h : api_Errno.f k l0 = some r) :
  Calls Try.prog 54 #[.slice A0 l0.length c0] w fun e w' => e = .returned (.int .i64 r) ∧ Drawn0 w w':=by
 have HR0:=Aside0.mk hr0
 have HC0:=Aside0.mk hc0
 clear hr0 hc0
 have H : (api_Errno.l0 k 0 l0 (l0.length : Int) 0) = some r:=h
 clear h
 have H':=Aside0.mk H
 clear H
 go_enter Try.func54,Try.ntmps54
 go_wp2
 go_loopg [8] k (fun kq v8 w' => ∃ (x8_1 : Int),v8 = .int .i64 x8_1 ∧ Aside0 (api_Errno.l0 kq 0 l0 (l0.length : Int) x8_1 = some r) ∧ Aside0 (kq ≤ k) ∧ Drawn0 w w')
 case atStart => exact ⟨(0),(by first|rfl|(simp;done)|(simp [*];done)),H',⟨Nat.le_refl _⟩,by repeat (first|exact Drawn0.refl _|apply Drawn0.step)⟩
 case round =>
  clear H'
  obtain ⟨x8_1,rfl,HA,HK1,⟨m1,rfl⟩⟩:=hrel
  cases gk with
  | zero => exact absurd HA.out (by simp [api_Errno.l0])
  | succ k1 =>
   have H:=HA.out
   clear HA
   simp only [api_Errno.l0] at H
   by_cases c2 : x8_1 < (l0.length : Int)
   rotate_left
   ·rw [if_neg c2] at H
    have c2b0 : decide (x8_1 < (l0.length : Int)) = false:=decide_eq_false c2
    clear c2
    obtain rfl:=Option.some.inj H
    go_wp2
    go_ret
    exact ⟨by first|rfl|(simp;done)|(simp [*];done),by repeat (first|exact Drawn0.refl _|apply Drawn0.step)⟩
   rw [if_pos c2] at H
   have c2b0 : decide (x8_1 < (l0.length : Int)) = true:=decide_eq_true c2
   clear c2
   replace H:=ifp_ H;obtain ⟨c3,H⟩:=H
   have c3b0 : decide (0 ≤ x8_1) = true:=decide_eq_true c3
   clear c3
   replace H:=ifp_ H;obtain ⟨c4,H⟩:=H
   have c4b0 : decide (x8_1 < (l0.length : Int)) = true:=decide_eq_true c4
   clear c4
   by_cases c5 : (rd l0 x8_1) = 0
   ·rw [if_pos c5] at H
    have c5b0:=bqt c5
    have c5b1:=bnf c5
    clear c5
    have H':=Aside0.mk H
    clear H
    have p156 : 0 ≤ (x8_1 : Int):=of_decide_eq_true (by first|(with_reducible assumption)|assumption)
    have q156 : x8_1 < (l0.length : Int):=of_decide_eq_true (by first|(with_reducible assumption)|assumption)
    obtain ⟨ad156,e156,hx156_0⟩:=Kd.at_int HR0.out x8_1 p156 q156
    cases e156
    replace p156:=eq_true p156
    replace q156:=eq_true q156
    go_wp2
    go_roundg k1
    case measure => have:=HK1.out;omega
    case rel => exact ⟨(wrap64 (x8_1 + 1)),(by first|rfl|(simp;done)|(simp [*];done)),H',⟨by have:=HK1.out;omega⟩,by repeat (first|exact Drawn0.refl _|apply Drawn0.step)⟩
   ·rw [if_neg c5] at H
    have c5b0:=bqf c5
    have c5b1:=bnt c5
    obtain rfl:=Option.some.inj H
    have p156 : 0 ≤ (x8_1 : Int):=of_decide_eq_true (by first|(with_reducible assumption)|assumption)
    have q156 : x8_1 < (l0.length : Int):=of_decide_eq_true (by first|(with_reducible assumption)|assumption)
    obtain ⟨ad156,e156,hx156_0⟩:=Kd.at_int HR0.out x8_1 p156 q156
    cases e156
    replace p156:=eq_true p156
    replace q156:=eq_true q156
    go_wp2
    go_ret
    exact ⟨by first|rfl|(simp;done)|(simp [*];done),by repeat (first|exact Drawn0.refl _|apply Drawn0.step)⟩

/-! ### land_apart: function 78 -/
def land_apart.f (a0 : Int) (a1 : Int) : Option (Bool) := if (wrap64 (a0 - a1)) > 1 then (some true) else (some (decide ((wrap64 (a1 - a0)) > 1)))
set_option maxHeartbeats 8000000 in
set_option maxRecDepth 100000 in
theorem land_apart.calls (a0 : Int) (a1 : Int) (r : Bool) (w : World) (h : land_apart.f a0 a1 = some r) :
  Calls Try.prog 78 #[.int .i64 a0,.int .i64 a1] w fun e w' => e = .returned (.bool r) ∧ Drawn0 w w':=by
 have H : (if (wrap64 (a0 - a1)) > 1 then (some true) else (some (decide ((wrap64 (a1 - a0)) > 1)))) = some r:=h
 clear h
 by_cases c3 : (wrap64 (a0 - a1)) > 1
 ·rw [if_pos c3] at H
  have c3b0 : decide (1 < (wrap64 (a0 - a1))) = true:=decide_eq_true c3
  clear c3
  obtain rfl:=Option.some.inj H
  go_enter Try.func78,Try.ntmps78
  go_wp2
  go_ret
  exact ⟨by first|rfl|(simp;done)|(simp [*];done),by repeat (first|exact Drawn0.refl _|apply Drawn0.step)⟩
 ·rw [if_neg c3] at H
  have c3b0 : decide (1 < (wrap64 (a0 - a1))) = false:=decide_eq_false c3
  clear c3
  obtain rfl:=Option.some.inj H
  go_enter Try.func78,Try.ntmps78
  go_wp2
  go_ret
  exact ⟨by first|rfl|(simp;done)|(simp [*];done),by repeat (first|exact Drawn0.refl _|apply Drawn0.step)⟩

/-! ### land_Validate: function 55 -/
mutual
def land_Validate.j0 : Nat → Bool → Int → Int → List Int → Option (Int)
 | 0,_,_,_,_ => none
 | k + 1,x38,x158000,x158001,x158002 => if x38 = true then (some 1) else (land_Validate.l0 k x158002 (x158002.length : Int) 0 x158000 x158001 x158002)
def land_Validate.l0 : Nat → List Int → Int → Int → Int → Int → List Int → Option (Int)
 | 0,_,_,_,_,_,_ => none
 | k + 1,x40,x41,x42,x158000,x158001,x158002 => if x42 < x41 then (if 0 ≤ x42 then (if x42 < (x40.length : Int) then (if (rd x40 x42) < 0 then (some 1) else (if (rd x40 x42) > 15 then (some 1) else (land_Validate.l0 k x40 x41 (wrap64 (x42 + 1)) x158000 x158001 x158002))) else (none)) else (none)) else (land_Validate.l1 k 0 x158000 x158001 x158002)
def land_Validate.l1 : Nat → Int → Int → Int → List Int → Option (Int)
 | 0,_,_,_,_ => none
 | k + 1,x5,x158000,x158001,x158002 => if x5 ≤ x158001 then (land_Validate.l2 k x5 0 x158000 x158001 x158002) else (some 0)
def land_Validate.l2 : Nat → Int → Int → Int → Int → List Int → Option (Int)
 | 0,_,_,_,_,_ => none
 | k + 1,x5,x6,x158000,x158001,x158002 => if x6 ≤ x158000 then (if 0 ≤ (wrap64 ((wrap64 (x5 * (wrap64 (x158000 + 1)))) + x6)) then (if (wrap64 ((wrap64 (x5 * (wrap64 (x158000 + 1)))) + x6)) < (x158002.length : Int) then (if x6 < x158000 then (if 0 ≤ (wrap64 ((wrap64 ((wrap64 (x5 * (wrap64 (x158000 + 1)))) + x6)) + 1)) then (if (wrap64 ((wrap64 ((wrap64 (x5 * (wrap64 (x158000 + 1)))) + x6)) + 1)) < (x158002.length : Int) then ((land_apart.f (rd x158002 (wrap64 ((wrap64 (x5 * (wrap64 (x158000 + 1)))) + x6))) (rd x158002 (wrap64 ((wrap64 ((wrap64 (x5 * (wrap64 (x158000 + 1)))) + x6)) + 1)))).bind fun t161 => (if t161 = true then (some 5) else (if x5 < x158001 then (if 0 ≤ (wrap64 ((wrap64 ((wrap64 (x5 + 1)) * (wrap64 (x158000 + 1)))) + x6)) then (if (wrap64 ((wrap64 ((wrap64 (x5 + 1)) * (wrap64 (x158000 + 1)))) + x6)) < (x158002.length : Int) then ((land_apart.f (rd x158002 (wrap64 ((wrap64 (x5 * (wrap64 (x158000 + 1)))) + x6))) (rd x158002 (wrap64 ((wrap64 ((wrap64 (x5 + 1)) * (wrap64 (x158000 + 1)))) + x6)))).bind fun t163 => (if t163 = true then (some 5) else (land_Validate.l2 k x5 (wrap64 (x6 + 1)) x158000 x158001 x158002))) else (none)) else (none)) else (land_Validate.l2 k x5 (wrap64 (x6 + 1)) x158000 x158001 x158002)))) else (none)) else (none)) else (if x5 < x158001 then (if 0 ≤ (wrap64 ((wrap64 ((wrap64 (x5 + 1)) * (wrap64 (x158000 + 1)))) + x6)) then (if (wrap64 ((wrap64 ((wrap64 (x5 + 1)) * (wrap64 (x158000 + 1)))) + x6)) < (x158002.length : Int) then ((land_apart.f (rd x158002 (wrap64 ((wrap64 (x5 * (wrap64 (x158000 + 1)))) + x6))) (rd x158002 (wrap64 ((wrap64 ((wrap64 (x5 + 1)) * (wrap64 (x158000 + 1)))) + x6)))).bind fun t165 => (if t165 = true then (some 5) else (land_Validate.l2 k x5 (wrap64 (x6 + 1)) x158000 x158001 x158002))) else (none)) else (none)) else (land_Validate.l2 k x5 (wrap64 (x6 + 1)) x158000 x158001 x158002))) else (none)) else (none)) else (land_Validate.l1 k (wrap64 (x5 + 1)) x158000 x158001 x158002)
end
def land_Validate.f (k : Nat) (a0_0 : Int) (a0_1 : Int) (l0_2 : List Int) : Option (Int) := if a0_0 < 4 then (land_Validate.j0 k true a0_0 a0_1 l0_2) else (if a0_0 > 32 then (land_Validate.j0 k true a0_0 a0_1 l0_2) else (if a0_1 < 4 then (land_Validate.j0 k true a0_0 a0_1 l0_2) else (if a0_1 > 32 then (land_Validate.j0 k true a0_0 a0_1 l0_2) else (land_Validate.j0 k ((l0_2.length : Int) != (wrap64 ((wrap64 (a0_0 + 1)) * (wrap64 (a0_1 + 1))))) a0_0 a0_1 l0_2))))
theorem land_Validate.mono_l : ∀ k, (∀ y0 y1 y2 y3, LeO (land_Validate.j0 k y0 y1 y2 y3) (land_Validate.j0 (k + 1) y0 y1 y2 y3)) ∧ (∀ y0 y1 y2 y3 y4 y5, LeO (land_Validate.l0 k y0 y1 y2 y3 y4 y5) (land_Validate.l0 (k + 1) y0 y1 y2 y3 y4 y5)) ∧ (∀ y0 y1 y2 y3, LeO (land_Validate.l1 k y0 y1 y2 y3) (land_Validate.l1 (k + 1) y0 y1 y2 y3)) ∧ (∀ y0 y1 y2 y3 y4, LeO (land_Validate.l2 k y0 y1 y2 y3 y4) (land_Validate.l2 (k + 1) y0 y1 y2 y3 y4))
 | 0 => ⟨fun _ _ _ _ r h => by simp [land_Validate.j0] at h,fun _ _ _ _ _ _ r h => by simp [land_Validate.l0] at h,fun _ _ _ _ r h => by simp [land_Validate.l1] at h,fun _ _ _ _ _ r h => by simp [land_Validate.l2] at h⟩
 | k + 1 => by
  obtain ⟨ih0,ih1,ih2,ih3⟩:=land_Validate.mono_l k
  refine ⟨?_,?_,?_,?_⟩
  ·intro y0 y1 y2 y3
   unfold land_Validate.j0
   repeat' first
   | (with_reducible exact ih0 _ _ _ _)
   | (with_reducible exact ih1 _ _ _ _ _ _)
   | (with_reducible exact ih2 _ _ _ _)
   | (with_reducible exact ih3 _ _ _ _ _)
   | (with_reducible exact LeO.refl _)
   | (with_reducible exact LeO.none _)
   | (with_reducible refine LeO.ite ?_ ?_)
   | (with_reducible refine LeO.bind ?_ (fun _ => ?_))
   | exact ih0 _ _ _ _
   | exact ih1 _ _ _ _ _ _
   | exact ih2 _ _ _ _
   | exact ih3 _ _ _ _ _
   | exact LeO.none _
   | refine LeO.ite ?_ ?_
   | refine LeO.bind ?_ (fun _ => ?_)
  ·intro y0 y1 y2 y3 y4 y5
   unfold land_Validate.l0
   repeat' first
   | (with_reducible exact ih0 _ _ _ _)
   | (with_reducible exact ih1 _ _ _ _ _ _)
   | (with_reducible exact ih2 _ _ _ _)
   | (with_reducible exact ih3 _ _ _ _ _)
   | (with_reducible exact LeO.refl _)
   | (with_reducible exact LeO.none _)
   | (with_reducible refine LeO.ite ?_ ?_)
   | (with_reducible refine LeO.bind ?_ (fun _ => ?_))
   | exact ih0 _ _ _ _
   | exact ih1 _ _ _ _ _ _
   | exact ih2 _ _ _ _
   | exact ih3 _ _ _ _ _
   | exact LeO.none _
   | refine LeO.ite ?_ ?_
   | refine LeO.bind ?_ (fun _ => ?_)
  ·intro y0 y1 y2 y3
   unfold land_Validate.l1
   repeat' first
   | (with_reducible exact ih0 _ _ _ _)
   | (with_reducible exact ih1 _ _ _ _ _ _)
   | (with_reducible exact ih2 _ _ _ _)
   | (with_reducible exact ih3 _ _ _ _ _)
   | (with_reducible exact LeO.refl _)
   | (with_reducible exact LeO.none _)
   | (with_reducible refine LeO.ite ?_ ?_)
   | (with_reducible refine LeO.bind ?_ (fun _ => ?_))
   | exact ih0 _ _ _ _
   | exact ih1 _ _ _ _ _ _
   | exact ih2 _ _ _ _
   | exact ih3 _ _ _ _ _
   | exact LeO.none _
   | refine LeO.ite ?_ ?_
   | refine LeO.bind ?_ (fun _ => ?_)
  ·intro y0 y1 y2 y3 y4
   unfold land_Validate.l2
   repeat' first
   | (with_reducible exact ih0 _ _ _ _)
   | (with_reducible exact ih1 _ _ _ _ _ _)
   | (with_reducible exact ih2 _ _ _ _)
   | (with_reducible exact ih3 _ _ _ _ _)
   | (with_reducible exact LeO.refl _)
   | (with_reducible exact LeO.none _)
   | (with_reducible refine LeO.ite ?_ ?_)
   | (with_reducible refine LeO.bind ?_ (fun _ => ?_))
   | exact ih0 _ _ _ _
   | exact ih1 _ _ _ _ _ _
   | exact ih2 _ _ _ _
   | exact ih3 _ _ _ _ _
   | exact LeO.none _
   | refine LeO.ite ?_ ?_
   | refine LeO.bind ?_ (fun _ => ?_)
theorem land_Validate.mono : ∀ a0 a1 a2 k, LeO (land_Validate.f k a0 a1 a2) (land_Validate.f (k + 1) a0 a1 a2) := by
 intro a0 a1 a2 k
 obtain ⟨ih0,ih1,ih2,ih3⟩:=land_Validate.mono_l k
 unfold land_Validate.f
 repeat' first
   | (with_reducible exact ih0 _ _ _ _)
   | (with_reducible exact ih1 _ _ _ _ _ _)
   | (with_reducible exact ih2 _ _ _ _)
   | (with_reducible exact ih3 _ _ _ _ _)
   | (with_reducible exact LeO.refl _)
   | (with_reducible exact LeO.none _)
   | (with_reducible refine LeO.ite ?_ ?_)
   | (with_reducible refine LeO.bind ?_ (fun _ => ?_))
   | exact ih0 _ _ _ _
   | exact ih1 _ _ _ _ _ _
   | exact ih2 _ _ _ _
   | exact ih3 _ _ _ _ _
   | exact LeO.none _
   | refine LeO.ite ?_ ?_
   | refine LeO.bind ?_ (fun _ => ?_)
set_option maxHeartbeats 8000000 in
set_option maxRecDepth 100000 in
theorem land_Validate.calls (k : Nat) (a0_0 : Int) (a0_1 : Int) (A0_2 : Option Addr) (c0_2 : Nat) (l0_2 : List Int) (r : Int) (w : World) (hr0_2 : Kd.C (Kd.int .i64) w A0_2 l0_2.length l0_2) (hc0_2 : l0_2.length ≤ c0_2) (h : land_Validate.f k a0_0 a0_1 l0_2 = some r) :
  Calls Try.prog 55 #[.agg #[.int .i64 a0_0,.int .i64 a0_1,.slice A0_2 l0_2.length c0_2]] w fun e w' => e = .returned (.int .i64 r) ∧ Below w.heap.size w w':=by
 have hu53:=Try.underlying53
 have HR0_2:=Aside0.mk hr0_2
 have HC0_2:=Aside0.mk hc0_2
 clear hr0_2 hc0_2
 have HB:=Aside0.mk (Below.refl w.heap.size w)
 have H : (if a0_0 < 4 then (land_Validate.j0 k true a0_0 a0_1 l0_2) else (if a0_0 > 32 then (land_Validate.j0 k true a0_0 a0_1 l0_2) else (if a0_1 < 4 then (land_Validate.j0 k true a0_0 a0_1 l0_2) else (if a0_1 > 32 then (land_Validate.j0 k true a0_0 a0_1 l0_2) else (land_Validate.j0 k ((l0_2.length : Int) != (wrap64 ((wrap64 (a0_0 + 1)) * (wrap64 (a0_1 + 1))))) a0_0 a0_1 l0_2))))) = some r:=h
 clear h
 have HC2:=Aside0.mk H
 clear H
 go_enter Try.func55,Try.ntmps55
 go_upto_region 1 with (first|((with_reducible refine gate_dst (N:=1) rfl ?_);(try (refine gate_guard (by rfl) ?_;dsimp only));refine box_ev (N:=1) (cs:=#[.int .i64 a0_0,.int .i64 a0_1,.slice A0_2 l0_2.length c0_2]) (t:=53) ?_;intro gb157 hg w3 hbox hb;have BK157:=Aside0.mk (hbox);have GW157 : Aside0 (w.heap.size ≤ gb157):=gsz hg;have GE157:=GW157;replace HB:=hbs hb;clear hb hbox hg))
 (try simp only [Act.put,List.setIfInBounds_toArray,List.set_cons_zero,List.set_cons_succ])
 go_cut [38] (fun v38 wc => ∃ (kq : Nat) (x38_1 : Bool),v38 = .bool x38_1 ∧ Aside0 (land_Validate.j0 kq x38_1 a0_0 a0_1 l0_2 = some r) ∧ Aside0 (kq ≤ k) ∧ Aside0 (wc.heap[gb157]? = some (.cells #[.int .i64 a0_0,.int .i64 a0_1,(.slice A0_2 l0_2.length c0_2)] 53 (0,0))) ∧ Aside0 (Below w.heap.size w wc))
 case first =>
  have H:=HC2.out
  clear HC2
  by_cases c4 : a0_0 < 4
  ·rw [if_pos c4] at H
   have c4b0 : decide (a0_0 < 4) = true:=decide_eq_true c4
   clear c4
   (first|rw [c4b0]|(simp only [i64_w,i32_w];rw [c4b0])|skip)
   have H':=Aside0.mk H
   clear H
   obtain ⟨_,_,_,_,_,_⟩:=cells3 BK157.out
   go_wp2
   go_meet
   case rel => exact ⟨_,(true),(by first|rfl|(simp;done)|(simp [*];done)),H',⟨by first|omega|exact Nat.le_refl _⟩,⟨blk_up BK157.out⟩,⟨hb_⟩⟩
  rw [if_neg c4] at H
  have c4b0 : decide (a0_0 < 4) = false:=decide_eq_false c4
  clear c4
  (first|rw [c4b0]|(simp only [i64_w,i32_w];rw [c4b0])|skip)
  by_cases c6 : a0_0 > 32
  ·rw [if_pos c6] at H
   have c6b0 : decide (32 < a0_0) = true:=decide_eq_true c6
   clear c6
   have H':=Aside0.mk H
   clear H
   obtain ⟨_,_,_,_,_,_⟩:=cells3 BK157.out
   go_wp2
   go_meet
   case rel => exact ⟨_,(true),(by first|rfl|(simp;done)|(simp [*];done)),H',⟨by first|omega|exact Nat.le_refl _⟩,⟨blk_up BK157.out⟩,⟨hb_⟩⟩
  rw [if_neg c6] at H
  have c6b0 : decide (32 < a0_0) = false:=decide_eq_false c6
  clear c6
  by_cases c8 : a0_1 < 4
  ·rw [if_pos c8] at H
   have c8b0 : decide (a0_1 < 4) = true:=decide_eq_true c8
   clear c8
   have H':=Aside0.mk H
   clear H
   obtain ⟨_,_,_,_,_,_⟩:=cells3 BK157.out
   go_wp2
   go_meet
   case rel => exact ⟨_,(true),(by first|rfl|(simp;done)|(simp [*];done)),H',⟨by first|omega|exact Nat.le_refl _⟩,⟨blk_up BK157.out⟩,⟨hb_⟩⟩
  ·rw [if_neg c8] at H
   have c8b0 : decide (a0_1 < 4) = false:=decide_eq_false c8
   clear c8
   by_cases c10 : a0_1 > 32
   ·rw [if_pos c10] at H
    have c10b0 : decide (32 < a0_1) = true:=decide_eq_true c10
    clear c10
    have H':=Aside0.mk H
    clear H
    obtain ⟨_,_,_,_,_,_⟩:=cells3 BK157.out
    go_wp2
    go_meet
    case rel => exact ⟨_,(true),(by first|rfl|(simp;done)|(simp [*];done)),H',⟨by first|omega|exact Nat.le_refl _⟩,⟨blk_up BK157.out⟩,⟨hb_⟩⟩
   ·rw [if_neg c10] at H
    have c10b0 : decide (32 < a0_1) = false:=decide_eq_false c10
    clear c10
    have H':=Aside0.mk H
    clear H
    obtain ⟨_,_,_,_,_,_⟩:=cells3 BK157.out
    go_wp2
    go_meet
    case rel => exact ⟨_,(((l0_2.length : Int) != (wrap64 ((wrap64 (a0_0 + 1)) * (wrap64 (a0_1 + 1)))))),(by first|rfl|(simp;done)|(simp [*];done)),H',⟨by first|omega|exact Nat.le_refl _⟩,⟨blk_up BK157.out⟩,⟨hb_⟩⟩
 case rest =>
  clear HC2
  obtain ⟨kq,x38_1,rfl,HA,HJ1,BK157,HB⟩:=hcut
  cases kq with
  | zero => exact absurd HA.out (by simp [land_Validate.j0])
  | succ kj1 =>
   have H:=HA.out
   clear HA
   simp only [land_Validate.j0] at H
   by_cases c13 : x38_1 = true
   ·subst c13
    have H1 : (some 1) = some r:=by rw [if_pos rfl] at H;exact H
    clear H
    have H:=H1
    clear H1
    obtain rfl:=Option.some.inj H
    go_wp2
    go_ret
    exact ⟨er_,hb_⟩
   ·replace c13:=Bool.eq_false_iff.mpr c13
    subst c13
    have H1 : (land_Validate.l0 kj1 l0_2 (l0_2.length : Int) 0 a0_0 a0_1 l0_2) = some r:=by rw [if_neg (show ¬ (false = true) by decide)] at H;exact H
    clear H
    have H:=H1
    clear H1
    have H':=Aside0.mk H
    clear H
    obtain ⟨_,_,_,_,_,_⟩:=cells3 BK157.out
    go_wp2
    go_loopg [42] kj1 (fun kq v42 w' => ∃ (x42_2 : Int),v42 = .int .i64 x42_2 ∧ Aside0 (land_Validate.l0 kq l0_2 (l0_2.length : Int) x42_2 a0_0 a0_1 l0_2 = some r) ∧ Aside0 (kq ≤ kj1) ∧ Aside0 (w'.heap[gb157]? = some (.cells #[.int .i64 a0_0,.int .i64 a0_1,(.slice A0_2 l0_2.length c0_2)] 53 (0,0))) ∧ Aside0 (Below w.heap.size w w'))
    case atStart => exact ⟨(0),(by first|rfl|(simp;done)|(simp [*];done)),H',⟨Nat.le_refl _⟩,⟨blk_up BK157.out⟩,⟨hb_⟩⟩
    case round =>
     clear H'
     obtain ⟨x42_2,rfl,HA,HK2,BK157,HB⟩:=hrel
     cases gk with
     | zero => exact absurd HA.out (by simp [land_Validate.l0])
     | succ k2 =>
      have H:=HA.out
      clear HA
      simp only [land_Validate.l0] at H
      by_cases c15 : x42_2 < (l0_2.length : Int)
      ·rw [if_pos c15] at H
       have c15b0 : decide (x42_2 < (l0_2.length : Int)) = true:=decide_eq_true c15
       clear c15
       replace H:=ifp_ H;obtain ⟨c16,H⟩:=H
       have c16b0 : decide (0 ≤ x42_2) = true:=decide_eq_true c16
       clear c16
       replace H:=ifp_ H;obtain ⟨c17,H⟩:=H
       have c17b0 : decide (x42_2 < (l0_2.length : Int)) = true:=decide_eq_true c17
       clear c17
       by_cases c18 : (rd l0_2 x42_2) < 0
       ·rw [if_pos c18] at H
        have c18b0 : decide ((rd l0_2 x42_2) < 0) = true:=decide_eq_true c18
        clear c18
        obtain rfl:=Option.some.inj H
        have p158 : 0 ≤ (x42_2 : Int):=of_decide_eq_true (by first|(with_reducible assumption)|assumption)
        have q158 : x42_2 < (l0_2.length : Int):=of_decide_eq_true (by first|(with_reducible assumption)|assumption)
        obtain ⟨ad158,e158,hx158_0⟩:=Kd.at_int HR0_2.out x42_2 p158 q158
        cases e158
        replace hx158_0:=(HB.out.cell (World.block_lt_of_cell? w _ hx158_0)).trans hx158_0
        replace p158:=eq_true p158
        replace q158:=eq_true q158
        go_wp2
        go_ret
        exact ⟨er_,hb_⟩
       rw [if_neg c18] at H
       have c18b0 : decide ((rd l0_2 x42_2) < 0) = false:=decide_eq_false c18
       clear c18
       by_cases c19 : (rd l0_2 x42_2) > 15
       ·rw [if_pos c19] at H
        have c19b0 : decide (15 < (rd l0_2 x42_2)) = true:=decide_eq_true c19
        clear c19
        obtain rfl:=Option.some.inj H
        have p158 : 0 ≤ (x42_2 : Int):=of_decide_eq_true (by first|(with_reducible assumption)|assumption)
        have q158 : x42_2 < (l0_2.length : Int):=of_decide_eq_true (by first|(with_reducible assumption)|assumption)
        obtain ⟨ad158,e158,hx158_0⟩:=Kd.at_int HR0_2.out x42_2 p158 q158
        cases e158
        replace hx158_0:=(HB.out.cell (World.block_lt_of_cell? w _ hx158_0)).trans hx158_0
        replace p158:=eq_true p158
        replace q158:=eq_true q158
        go_wp2
        go_ret
        exact ⟨er_,hb_⟩
       ·rw [if_neg c19] at H
        have c19b0 : decide (15 < (rd l0_2 x42_2)) = false:=decide_eq_false c19
        clear c19
        have H':=Aside0.mk H
        clear H
        have p158 : 0 ≤ (x42_2 : Int):=of_decide_eq_true (by first|(with_reducible assumption)|assumption)
        have q158 : x42_2 < (l0_2.length : Int):=of_decide_eq_true (by first|(with_reducible assumption)|assumption)
        obtain ⟨ad158,e158,hx158_0⟩:=Kd.at_int HR0_2.out x42_2 p158 q158
        cases e158
        replace hx158_0:=(HB.out.cell (World.block_lt_of_cell? w _ hx158_0)).trans hx158_0
        replace p158:=eq_true p158
        replace q158:=eq_true q158
        go_wp2
        go_roundg k2
        case measure => have:=HJ1.out;have:=HK2.out;omega
        case rel => exact ⟨(wrap64 (x42_2 + 1)),(by first|rfl|(simp;done)|(simp [*];done)),H',⟨by have:=HJ1.out;have:=HK2.out;omega⟩,⟨blk_up BK157.out⟩,⟨hb_⟩⟩
      rw [if_neg c15] at H
      have c15b0 : decide (x42_2 < (l0_2.length : Int)) = false:=decide_eq_false c15
      clear c15
      have H':=Aside0.mk H
      clear H
      go_wp2
      go_loopg [5] k2 (fun kq v5 w' => ∃ (x5_3 : Int),v5 = .int .i64 x5_3 ∧ Aside0 (land_Validate.l1 kq x5_3 a0_0 a0_1 l0_2 = some r) ∧ Aside0 (kq ≤ k2) ∧ Aside0 (w'.heap[gb157]? = some (.cells #[.int .i64 a0_0,.int .i64 a0_1,(.slice A0_2 l0_2.length c0_2)] 53 (0,0))) ∧ Aside0 (Below w.heap.size w w'))
      case atStart => exact ⟨(0),(by first|rfl|(simp;done)|(simp [*];done)),H',⟨Nat.le_refl _⟩,⟨blk_up BK157.out⟩,⟨hb_⟩⟩
      case round =>
       clear H'
       obtain ⟨x5_3,rfl,HA,HK3,BK157,HB⟩:=hrel
       cases gk with
       | zero => exact absurd HA.out (by simp [land_Validate.l1])
       | succ k3 =>
        have H:=HA.out
        clear HA
        simp only [land_Validate.l1] at H
        by_cases c20 : x5_3 ≤ a0_1
        rotate_left
        ·rw [if_neg c20] at H
         have c20b0 : decide (x5_3 ≤ a0_1) = false:=decide_eq_false c20
         clear c20
         obtain rfl:=Option.some.inj H
         obtain ⟨_,_,_,_,_,_⟩:=cells3 BK157.out
         go_wp2
         go_ret
         exact ⟨er_,hb_⟩
        rw [if_pos c20] at H
        have c20b0 : decide (x5_3 ≤ a0_1) = true:=decide_eq_true c20
        clear c20
        have H':=Aside0.mk H
        clear H
        obtain ⟨_,_,_,_,_,_⟩:=cells3 BK157.out
        go_wp2
        go_loopg [6] k3 (fun kq v6 w' => ∃ (x6_4 : Int),v6 = .int .i64 x6_4 ∧ Aside0 (land_Validate.l2 kq x5_3 x6_4 a0_0 a0_1 l0_2 = some r) ∧ Aside0 (kq ≤ k3) ∧ Aside0 (w'.heap[gb157]? = some (.cells #[.int .i64 a0_0,.int .i64 a0_1,(.slice A0_2 l0_2.length c0_2)] 53 (0,0))) ∧ Aside0 (Below w.heap.size w w'))
        case atStart => exact ⟨(0),(by first|rfl|(simp;done)|(simp [*];done)),H',⟨Nat.le_refl _⟩,⟨blk_up BK157.out⟩,⟨hb_⟩⟩
        case round =>
         clear H'
         obtain ⟨x6_4,rfl,HA,HK4,BK157,HB⟩:=hrel
         cases gk with
         | zero => exact absurd HA.out (by simp [land_Validate.l2])
         | succ k4 =>
          have H:=HA.out
          clear HA
          simp only [land_Validate.l2] at H
          by_cases c22 : x6_4 ≤ a0_0
          rotate_left
          ·rw [if_neg c22] at H
           have c22b0 : decide (x6_4 ≤ a0_0) = false:=decide_eq_false c22
           clear c22
           have H':=Aside0.mk H
           clear H
           obtain ⟨_,_,_,_,_,_⟩:=cells3 BK157.out
           go_wp2
           go_roundg k4
           case measure => have:=HJ1.out;have:=HK2.out;have:=HK3.out;have:=HK4.out;omega
           case rel => exact ⟨(wrap64 (x5_3 + 1)),(by first|rfl|(simp;done)|(simp [*];done)),H',⟨by have:=HJ1.out;have:=HK2.out;have:=HK3.out;have:=HK4.out;omega⟩,⟨blk_up BK157.out⟩,⟨hb_⟩⟩
          rw [if_pos c22] at H
          have c22b0 : decide (x6_4 ≤ a0_0) = true:=decide_eq_true c22
          clear c22
          obtain ⟨ji23,hji23⟩ : ∃ j_ : Int,(wrap64 ((wrap64 (x5_3 * (wrap64 (a0_0 + 1)))) + x6_4)) = j_:=⟨_,rfl⟩
          replace H : (if 0 ≤ (ji23) then (if (ji23) < (l0_2.length : Int) then (if x6_4 < a0_0 then (if 0 ≤ (wrap64 ((ji23) + 1)) then (if (wrap64 ((ji23) + 1)) < (l0_2.length : Int) then ((land_apart.f (rd l0_2 (ji23)) (rd l0_2 (wrap64 ((ji23) + 1)))).bind fun t161 => (if t161 = true then (some 5) else (if x5_3 < a0_1 then (if 0 ≤ (wrap64 ((wrap64 ((wrap64 (x5_3 + 1)) * (wrap64 (a0_0 + 1)))) + x6_4)) then (if (wrap64 ((wrap64 ((wrap64 (x5_3 + 1)) * (wrap64 (a0_0 + 1)))) + x6_4)) < (l0_2.length : Int) then ((land_apart.f (rd l0_2 (ji23)) (rd l0_2 (wrap64 ((wrap64 ((wrap64 (x5_3 + 1)) * (wrap64 (a0_0 + 1)))) + x6_4)))).bind fun t163 => (if t163 = true then (some 5) else (land_Validate.l2 k4 x5_3 (wrap64 (x6_4 + 1)) a0_0 a0_1 l0_2))) else (none)) else (none)) else (land_Validate.l2 k4 x5_3 (wrap64 (x6_4 + 1)) a0_0 a0_1 l0_2)))) else (none)) else (none)) else (if x5_3 < a0_1 then (if 0 ≤ (wrap64 ((wrap64 ((wrap64 (x5_3 + 1)) * (wrap64 (a0_0 + 1)))) + x6_4)) then (if (wrap64 ((wrap64 ((wrap64 (x5_3 + 1)) * (wrap64 (a0_0 + 1)))) + x6_4)) < (l0_2.length : Int) then ((land_apart.f (rd l0_2 (ji23)) (rd l0_2 (wrap64 ((wrap64 ((wrap64 (x5_3 + 1)) * (wrap64 (a0_0 + 1)))) + x6_4)))).bind fun t165 => (if t165 = true then (some 5) else (land_Validate.l2 k4 x5_3 (wrap64 (x6_4 + 1)) a0_0 a0_1 l0_2))) else (none)) else (none)) else (land_Validate.l2 k4 x5_3 (wrap64 (x6_4 + 1)) a0_0 a0_1 l0_2))) else (none)) else (none)) = some r:=by first|(rw [hji23] at H;exact H)|(simp only [hji23] at H ⊢;exact H)
          have hji23w : (IntKind.i64.wrap ((wrap64 (x5_3 * (wrap64 (a0_0 + 1)))) + x6_4)) = ji23:=(i64_w _).trans hji23
          replace H:=ifp_ H;obtain ⟨c24,H⟩:=H
          have c24b0 : decide (0 ≤ (ji23)) = true:=decide_eq_true c24
          clear c24
          replace H:=ifp_ H;obtain ⟨c25,H⟩:=H
          have c25b0 : decide ((ji23) < (l0_2.length : Int)) = true:=decide_eq_true c25
          clear c25
          by_cases c26 : x6_4 < a0_0
          rotate_left
          ·rw [if_neg c26] at H
           have c26b0 : decide (x6_4 < a0_0) = false:=decide_eq_false c26
           clear c26
           by_cases c42 : x5_3 < a0_1
           rotate_left
           ·rw [if_neg c42] at H
            have c42b0 : decide (x5_3 < a0_1) = false:=decide_eq_false c42
            clear c42
            have H':=Aside0.mk H
            clear H
            obtain ⟨_,_,_,_,_,_⟩:=cells3 BK157.out
            have p159 : 0 ≤ ((ji23) : Int):=of_decide_eq_true (by first|(with_reducible assumption)|assumption)
            have q159 : (ji23) < (l0_2.length : Int):=of_decide_eq_true (by first|(with_reducible assumption)|assumption)
            obtain ⟨ad159,e159,hx159_0⟩:=Kd.at_int HR0_2.out (ji23) p159 q159
            cases e159
            replace hx159_0:=(HB.out.cell (World.block_lt_of_cell? w _ hx159_0)).trans hx159_0
            replace p159:=eq_true p159
            replace q159:=eq_true q159
            go_wp2
            go_roundg k4
            case measure => have:=HJ1.out;have:=HK2.out;have:=HK3.out;have:=HK4.out;omega
            case rel => exact ⟨(wrap64 (x6_4 + 1)),(by first|rfl|(simp;done)|(simp [*];done)),H',⟨by have:=HJ1.out;have:=HK2.out;have:=HK3.out;have:=HK4.out;omega⟩,⟨blk_up BK157.out⟩,⟨hb_⟩⟩
           rw [if_pos c42] at H
           have c42b0 : decide (x5_3 < a0_1) = true:=decide_eq_true c42
           clear c42
           obtain ⟨ji43,hji43⟩ : ∃ j_ : Int,(wrap64 ((wrap64 ((wrap64 (x5_3 + 1)) * (wrap64 (a0_0 + 1)))) + x6_4)) = j_:=⟨_,rfl⟩
           replace H : (if 0 ≤ (ji43) then (if (ji43) < (l0_2.length : Int) then ((land_apart.f (rd l0_2 (ji23)) (rd l0_2 (ji43))).bind fun t165 => (if t165 = true then (some 5) else (land_Validate.l2 k4 x5_3 (wrap64 (x6_4 + 1)) a0_0 a0_1 l0_2))) else (none)) else (none)) = some r:=by first|(rw [hji43] at H;exact H)|(simp only [hji43] at H ⊢;exact H)
           have hji43w : (IntKind.i64.wrap ((wrap64 ((wrap64 (x5_3 + 1)) * (wrap64 (a0_0 + 1)))) + x6_4)) = ji43:=(i64_w _).trans hji43
           replace H:=ifp_ H;obtain ⟨c44,H⟩:=H
           have c44b0 : decide (0 ≤ (ji43)) = true:=decide_eq_true c44
           clear c44
           replace H:=ifp_ H;obtain ⟨c45,H⟩:=H
           have c45b0 : decide ((ji43) < (l0_2.length : Int)) = true:=decide_eq_true c45
           clear c45
           replace H:=Option.bind_eq_some_iff.mp H
           obtain ⟨t165,A460,H⟩:=H
           replace H : (if t165 = true then (some 5) else (land_Validate.l2 k4 x5_3 (wrap64 (x6_4 + 1)) a0_0 a0_1 l0_2)) = some r:=H
           have A46:=Aside0.mk A460
           clear A460
           by_cases c47 : t165 = true
           ·subst c47
            have H1 : (some 5) = some r:=by rw [if_pos rfl] at H;exact H
            clear H
            have H:=H1
            clear H1
            obtain rfl:=Option.some.inj H
            obtain ⟨_,_,_,_,_,_⟩:=cells3 BK157.out
            have p159 : 0 ≤ ((ji23) : Int):=of_decide_eq_true (by first|(with_reducible assumption)|assumption)
            have q159 : (ji23) < (l0_2.length : Int):=of_decide_eq_true (by first|(with_reducible assumption)|assumption)
            obtain ⟨ad159,e159,hx159_0⟩:=Kd.at_int HR0_2.out (ji23) p159 q159
            cases e159
            replace hx159_0:=(HB.out.cell (World.block_lt_of_cell? w _ hx159_0)).trans hx159_0
            replace p159:=eq_true p159
            replace q159:=eq_true q159
            have p164 : 0 ≤ ((ji43) : Int):=of_decide_eq_true (by first|(with_reducible assumption)|assumption)
            have q164 : (ji43) < (l0_2.length : Int):=of_decide_eq_true (by first|(with_reducible assumption)|assumption)
            obtain ⟨ad164,e164,hx164_0⟩:=Kd.at_int HR0_2.out (ji43) p164 q164
            obtain rfl : ad159 = ad164:=(by injection e164)
            replace hx164_0:=(HB.out.cell (World.block_lt_of_cell? w _ hx164_0)).trans hx164_0
            replace p164:=eq_true p164
            replace q164:=eq_true q164
            go_wp2_with (first|(go_at_call 78;(with_reducible refine (land_apart.calls (rd l0_2 (ji23)) (rd l0_2 (ji43)) true _ A46.out).mono ?_);rintro e w' ⟨rfl,⟨nd,rfl⟩⟩))
            go_ret
            exact ⟨by first|rfl|(simp [errW_none,errW_some] <;> rfl)|(simp only [← hji23,← hji43];first|rfl|(simp [errW_none,errW_some] <;> rfl))|(simp [*,errW_none,errW_some] <;> rfl),hb_⟩
           ·replace c47:=Bool.eq_false_iff.mpr c47
            subst c47
            have H1 : (land_Validate.l2 k4 x5_3 (wrap64 (x6_4 + 1)) a0_0 a0_1 l0_2) = some r:=by rw [if_neg (show ¬ (false = true) by decide)] at H;exact H
            clear H
            have H:=H1
            clear H1
            have H':=Aside0.mk H
            clear H
            obtain ⟨_,_,_,_,_,_⟩:=cells3 BK157.out
            have p159 : 0 ≤ ((ji23) : Int):=of_decide_eq_true (by first|(with_reducible assumption)|assumption)
            have q159 : (ji23) < (l0_2.length : Int):=of_decide_eq_true (by first|(with_reducible assumption)|assumption)
            obtain ⟨ad159,e159,hx159_0⟩:=Kd.at_int HR0_2.out (ji23) p159 q159
            cases e159
            replace hx159_0:=(HB.out.cell (World.block_lt_of_cell? w _ hx159_0)).trans hx159_0
            replace p159:=eq_true p159
            replace q159:=eq_true q159
            have p164 : 0 ≤ ((ji43) : Int):=of_decide_eq_true (by first|(with_reducible assumption)|assumption)
            have q164 : (ji43) < (l0_2.length : Int):=of_decide_eq_true (by first|(with_reducible assumption)|assumption)
            obtain ⟨ad164,e164,hx164_0⟩:=Kd.at_int HR0_2.out (ji43) p164 q164
            obtain rfl : ad159 = ad164:=(by injection e164)
            replace hx164_0:=(HB.out.cell (World.block_lt_of_cell? w _ hx164_0)).trans hx164_0
            replace p164:=eq_true p164
            replace q164:=eq_true q164
            go_wp2_with (first|(go_at_call 78;(with_reducible refine (land_apart.calls (rd l0_2 (ji23)) (rd l0_2 (ji43)) false _ A46.out).mono ?_);rintro e w' ⟨rfl,⟨nd,rfl⟩⟩))
            go_roundg k4
            case measure => have:=HJ1.out;have:=HK2.out;have:=HK3.out;have:=HK4.out;omega
            case rel => exact ⟨(wrap64 (x6_4 + 1)),(by first|rfl|(simp;done)|(simp [*];done)),H',⟨by have:=HJ1.out;have:=HK2.out;have:=HK3.out;have:=HK4.out;omega⟩,⟨blk_up BK157.out⟩,⟨hb_⟩⟩
          rw [if_pos c26] at H
          have c26b0 : decide (x6_4 < a0_0) = true:=decide_eq_true c26
          clear c26
          obtain ⟨ji27,hji27⟩ : ∃ j_ : Int,(wrap64 ((ji23) + 1)) = j_:=⟨_,rfl⟩
          replace H : (if 0 ≤ (ji27) then (if (ji27) < (l0_2.length : Int) then ((land_apart.f (rd l0_2 (ji23)) (rd l0_2 (ji27))).bind fun t161 => (if t161 = true then (some 5) else (if x5_3 < a0_1 then (if 0 ≤ (wrap64 ((wrap64 ((wrap64 (x5_3 + 1)) * (wrap64 (a0_0 + 1)))) + x6_4)) then (if (wrap64 ((wrap64 ((wrap64 (x5_3 + 1)) * (wrap64 (a0_0 + 1)))) + x6_4)) < (l0_2.length : Int) then ((land_apart.f (rd l0_2 (ji23)) (rd l0_2 (wrap64 ((wrap64 ((wrap64 (x5_3 + 1)) * (wrap64 (a0_0 + 1)))) + x6_4)))).bind fun t163 => (if t163 = true then (some 5) else (land_Validate.l2 k4 x5_3 (wrap64 (x6_4 + 1)) a0_0 a0_1 l0_2))) else (none)) else (none)) else (land_Validate.l2 k4 x5_3 (wrap64 (x6_4 + 1)) a0_0 a0_1 l0_2)))) else (none)) else (none)) = some r:=by first|(rw [hji27] at H;exact H)|(simp only [hji27] at H ⊢;exact H)
          have hji27w : (IntKind.i64.wrap ((ji23) + 1)) = ji27:=(i64_w _).trans hji27
          replace H:=ifp_ H;obtain ⟨c28,H⟩:=H
          have c28b0 : decide (0 ≤ (ji27)) = true:=decide_eq_true c28
          clear c28
          replace H:=ifp_ H;obtain ⟨c29,H⟩:=H
          have c29b0 : decide ((ji27) < (l0_2.length : Int)) = true:=decide_eq_true c29
          clear c29
          replace H:=Option.bind_eq_some_iff.mp H
          obtain ⟨t161,A300,H⟩:=H
          replace H : (if t161 = true then (some 5) else (if x5_3 < a0_1 then (if 0 ≤ (wrap64 ((wrap64 ((wrap64 (x5_3 + 1)) * (wrap64 (a0_0 + 1)))) + x6_4)) then (if (wrap64 ((wrap64 ((wrap64 (x5_3 + 1)) * (wrap64 (a0_0 + 1)))) + x6_4)) < (l0_2.length : Int) then ((land_apart.f (rd l0_2 (ji23)) (rd l0_2 (wrap64 ((wrap64 ((wrap64 (x5_3 + 1)) * (wrap64 (a0_0 + 1)))) + x6_4)))).bind fun t163 => (if t163 = true then (some 5) else (land_Validate.l2 k4 x5_3 (wrap64 (x6_4 + 1)) a0_0 a0_1 l0_2))) else (none)) else (none)) else (land_Validate.l2 k4 x5_3 (wrap64 (x6_4 + 1)) a0_0 a0_1 l0_2))) = some r:=H
          have A30:=Aside0.mk A300
          clear A300
          by_cases c31 : t161 = true
          ·subst c31
           have H1 : (some 5) = some r:=by rw [if_pos rfl] at H;exact H
           clear H
           have H:=H1
           clear H1
           obtain rfl:=Option.some.inj H
           obtain ⟨_,_,_,_,_,_⟩:=cells3 BK157.out
           have p159 : 0 ≤ ((ji23) : Int):=of_decide_eq_true (by first|(with_reducible assumption)|assumption)
           have q159 : (ji23) < (l0_2.length : Int):=of_decide_eq_true (by first|(with_reducible assumption)|assumption)
           obtain ⟨ad159,e159,hx159_0⟩:=Kd.at_int HR0_2.out (ji23) p159 q159
           cases e159
           replace hx159_0:=(HB.out.cell (World.block_lt_of_cell? w _ hx159_0)).trans hx159_0
           replace p159:=eq_true p159
           replace q159:=eq_true q159
           have p160 : 0 ≤ ((ji27) : Int):=of_decide_eq_true (by first|(with_reducible assumption)|assumption)
           have q160 : (ji27) < (l0_2.length : Int):=of_decide_eq_true (by first|(with_reducible assumption)|assumption)
           obtain ⟨ad160,e160,hx160_0⟩:=Kd.at_int HR0_2.out (ji27) p160 q160
           obtain rfl : ad159 = ad160:=(by injection e160)
           replace hx160_0:=(HB.out.cell (World.block_lt_of_cell? w _ hx160_0)).trans hx160_0
           replace p160:=eq_true p160
           replace q160:=eq_true q160
           go_wp2_with (first|(go_at_call 78;(with_reducible refine (land_apart.calls (rd l0_2 (ji23)) (rd l0_2 (ji27)) true _ A30.out).mono ?_);rintro e w' ⟨rfl,⟨nd,rfl⟩⟩))
           go_ret
           exact ⟨by first|rfl|(simp [errW_none,errW_some] <;> rfl)|(simp only [← hji23,← hji27];first|rfl|(simp [errW_none,errW_some] <;> rfl))|(simp [*,errW_none,errW_some] <;> rfl),hb_⟩
          ·replace c31:=Bool.eq_false_iff.mpr c31
           subst c31
           have H1 : (if x5_3 < a0_1 then (if 0 ≤ (wrap64 ((wrap64 ((wrap64 (x5_3 + 1)) * (wrap64 (a0_0 + 1)))) + x6_4)) then (if (wrap64 ((wrap64 ((wrap64 (x5_3 + 1)) * (wrap64 (a0_0 + 1)))) + x6_4)) < (l0_2.length : Int) then ((land_apart.f (rd l0_2 (ji23)) (rd l0_2 (wrap64 ((wrap64 ((wrap64 (x5_3 + 1)) * (wrap64 (a0_0 + 1)))) + x6_4)))).bind fun t163 => (if t163 = true then (some 5) else (land_Validate.l2 k4 x5_3 (wrap64 (x6_4 + 1)) a0_0 a0_1 l0_2))) else (none)) else (none)) else (land_Validate.l2 k4 x5_3 (wrap64 (x6_4 + 1)) a0_0 a0_1 l0_2)) = some r:=by rw [if_neg (show ¬ (false = true) by decide)] at H;exact H
           clear H
           have H:=H1
           clear H1
           by_cases c33 : x5_3 < a0_1
           rotate_left
           ·rw [if_neg c33] at H
            have c33b0 : decide (x5_3 < a0_1) = false:=decide_eq_false c33
            clear c33
            have H':=Aside0.mk H
            clear H
            obtain ⟨_,_,_,_,_,_⟩:=cells3 BK157.out
            have p159 : 0 ≤ ((ji23) : Int):=of_decide_eq_true (by first|(with_reducible assumption)|assumption)
            have q159 : (ji23) < (l0_2.length : Int):=of_decide_eq_true (by first|(with_reducible assumption)|assumption)
            obtain ⟨ad159,e159,hx159_0⟩:=Kd.at_int HR0_2.out (ji23) p159 q159
            cases e159
            replace hx159_0:=(HB.out.cell (World.block_lt_of_cell? w _ hx159_0)).trans hx159_0
            replace p159:=eq_true p159
            replace q159:=eq_true q159
            have p160 : 0 ≤ ((ji27) : Int):=of_decide_eq_true (by first|(with_reducible assumption)|assumption)
            have q160 : (ji27) < (l0_2.length : Int):=of_decide_eq_true (by first|(with_reducible assumption)|assumption)
            obtain ⟨ad160,e160,hx160_0⟩:=Kd.at_int HR0_2.out (ji27) p160 q160
            obtain rfl : ad159 = ad160:=(by injection e160)
            replace hx160_0:=(HB.out.cell (World.block_lt_of_cell? w _ hx160_0)).trans hx160_0
            replace p160:=eq_true p160
            replace q160:=eq_true q160
            go_wp2_with (first|(go_at_call 78;(with_reducible refine (land_apart.calls (rd l0_2 (ji23)) (rd l0_2 (ji27)) false _ A30.out).mono ?_);rintro e w' ⟨rfl,⟨nd,rfl⟩⟩))
            go_roundg k4
            case measure => have:=HJ1.out;have:=HK2.out;have:=HK3.out;have:=HK4.out;omega
            case rel => exact ⟨(wrap64 (x6_4 + 1)),(by first|rfl|(simp;done)|(simp [*];done)),H',⟨by have:=HJ1.out;have:=HK2.out;have:=HK3.out;have:=HK4.out;omega⟩,⟨blk_up BK157.out⟩,⟨hb_⟩⟩
           rw [if_pos c33] at H
           have c33b0 : decide (x5_3 < a0_1) = true:=decide_eq_true c33
           clear c33
           obtain ⟨ji34,hji34⟩ : ∃ j_ : Int,(wrap64 ((wrap64 ((wrap64 (x5_3 + 1)) * (wrap64 (a0_0 + 1)))) + x6_4)) = j_:=⟨_,rfl⟩
           replace H : (if 0 ≤ (ji34) then (if (ji34) < (l0_2.length : Int) then ((land_apart.f (rd l0_2 (ji23)) (rd l0_2 (ji34))).bind fun t163 => (if t163 = true then (some 5) else (land_Validate.l2 k4 x5_3 (wrap64 (x6_4 + 1)) a0_0 a0_1 l0_2))) else (none)) else (none)) = some r:=by first|(rw [hji34] at H;exact H)|(simp only [hji34] at H ⊢;exact H)
           (try rw [hji34] at A30)
           have hji34w : (IntKind.i64.wrap ((wrap64 ((wrap64 (x5_3 + 1)) * (wrap64 (a0_0 + 1)))) + x6_4)) = ji34:=(i64_w _).trans hji34
           replace H:=ifp_ H;obtain ⟨c35,H⟩:=H
           have c35b0 : decide (0 ≤ (ji34)) = true:=decide_eq_true c35
           clear c35
           replace H:=ifp_ H;obtain ⟨c36,H⟩:=H
           have c36b0 : decide ((ji34) < (l0_2.length : Int)) = true:=decide_eq_true c36
           clear c36
           replace H:=Option.bind_eq_some_iff.mp H
           obtain ⟨t163,A370,H⟩:=H
           replace H : (if t163 = true then (some 5) else (land_Validate.l2 k4 x5_3 (wrap64 (x6_4 + 1)) a0_0 a0_1 l0_2)) = some r:=H
           have A37:=Aside0.mk A370
           clear A370
           by_cases c38 : t163 = true
           ·subst c38
            have H1 : (some 5) = some r:=by rw [if_pos rfl] at H;exact H
            clear H
            have H:=H1
            clear H1
            obtain rfl:=Option.some.inj H
            obtain ⟨_,_,_,_,_,_⟩:=cells3 BK157.out
            have p159 : 0 ≤ ((ji23) : Int):=of_decide_eq_true (by first|(with_reducible assumption)|assumption)
            have q159 : (ji23) < (l0_2.length : Int):=of_decide_eq_true (by first|(with_reducible assumption)|assumption)
            obtain ⟨ad159,e159,hx159_0⟩:=Kd.at_int HR0_2.out (ji23) p159 q159
            cases e159
            replace hx159_0:=(HB.out.cell (World.block_lt_of_cell? w _ hx159_0)).trans hx159_0
            replace p159:=eq_true p159
            replace q159:=eq_true q159
            have p160 : 0 ≤ ((ji27) : Int):=of_decide_eq_true (by first|(with_reducible assumption)|assumption)
            have q160 : (ji27) < (l0_2.length : Int):=of_decide_eq_true (by first|(with_reducible assumption)|assumption)
            obtain ⟨ad160,e160,hx160_0⟩:=Kd.at_int HR0_2.out (ji27) p160 q160
            obtain rfl : ad159 = ad160:=(by injection e160)
            replace hx160_0:=(HB.out.cell (World.block_lt_of_cell? w _ hx160_0)).trans hx160_0
            replace p160:=eq_true p160
            replace q160:=eq_true q160
            go_wp2_with (first|(go_at_call 78;(with_reducible refine (land_apart.calls (rd l0_2 (ji23)) (rd l0_2 (ji27)) false _ A30.out).mono ?_);rintro e w' ⟨rfl,⟨nd,rfl⟩⟩;have p162 : 0 ≤ ((ji34) : Int):=of_decide_eq_true (by first|(with_reducible assumption)|assumption);have q162 : (ji34) < (l0_2.length : Int):=of_decide_eq_true (by first|(with_reducible assumption)|assumption);obtain ⟨ad162,e162,hx162_0⟩:=Kd.at_int HR0_2.out (ji34) p162 q162;obtain rfl : ad159 = ad162:=(by injection e162);replace hx162_0:=(HB.out.cell (World.block_lt_of_cell? w _ hx162_0)).trans hx162_0;replace p162:=eq_true p162;replace q162:=eq_true q162)|(go_at_call 78;(with_reducible refine (land_apart.calls (rd l0_2 (ji23)) (rd l0_2 (ji34)) true _ A37.out).mono ?_);rintro e w' ⟨rfl,⟨nd,rfl⟩⟩))
            go_ret
            exact ⟨by first|rfl|(simp [errW_none,errW_some] <;> rfl)|(simp only [← hji23,← hji27,← hji34];first|rfl|(simp [errW_none,errW_some] <;> rfl))|(simp [*,errW_none,errW_some] <;> rfl),hb_⟩
           ·replace c38:=Bool.eq_false_iff.mpr c38
            subst c38
            have H1 : (land_Validate.l2 k4 x5_3 (wrap64 (x6_4 + 1)) a0_0 a0_1 l0_2) = some r:=by rw [if_neg (show ¬ (false = true) by decide)] at H;exact H
            clear H
            have H:=H1
            clear H1
            have H':=Aside0.mk H
            clear H
            obtain ⟨_,_,_,_,_,_⟩:=cells3 BK157.out
            have p159 : 0 ≤ ((ji23) : Int):=of_decide_eq_true (by first|(with_reducible assumption)|assumption)
            have q159 : (ji23) < (l0_2.length : Int):=of_decide_eq_true (by first|(with_reducible assumption)|assumption)
            obtain ⟨ad159,e159,hx159_0⟩:=Kd.at_int HR0_2.out (ji23) p159 q159
            cases e159
            replace hx159_0:=(HB.out.cell (World.block_lt_of_cell? w _ hx159_0)).trans hx159_0
            replace p159:=eq_true p159
            replace q159:=eq_true q159
            have p160 : 0 ≤ ((ji27) : Int):=of_decide_eq_true (by first|(with_reducible assumption)|assumption)
            have q160 : (ji27) < (l0_2.length : Int):=of_decide_eq_true (by first|(with_reducible assumption)|assumption)
            obtain ⟨ad160,e160,hx160_0⟩:=Kd.at_int HR0_2.out (ji27) p160 q160
            obtain rfl : ad159 = ad160:=(by injection e160)
            replace hx160_0:=(HB.out.cell (World.block_lt_of_cell? w _ hx160_0)).trans hx160_0
            replace p160:=eq_true p160
            replace q160:=eq_true q160
            go_wp2_with (first|(go_at_call 78;(with_reducible refine (land_apart.calls (rd l0_2 (ji23)) (rd l0_2 (ji27)) false _ A30.out).mono ?_);rintro e w' ⟨rfl,⟨nd,rfl⟩⟩;have p162 : 0 ≤ ((ji34) : Int):=of_decide_eq_true (by first|(with_reducible assumption)|assumption);have q162 : (ji34) < (l0_2.length : Int):=of_decide_eq_true (by first|(with_reducible assumption)|assumption);obtain ⟨ad162,e162,hx162_0⟩:=Kd.at_int HR0_2.out (ji34) p162 q162;obtain rfl : ad159 = ad162:=(by injection e162);replace hx162_0:=(HB.out.cell (World.block_lt_of_cell? w _ hx162_0)).trans hx162_0;replace p162:=eq_true p162;replace q162:=eq_true q162)|(go_at_call 78;(with_reducible refine (land_apart.calls (rd l0_2 (ji23)) (rd l0_2 (ji34)) false _ A37.out).mono ?_);rintro e w' ⟨rfl,⟨nd,rfl⟩⟩))
            go_roundg k4
            case measure => have:=HJ1.out;have:=HK2.out;have:=HK3.out;have:=HK4.out;omega
            case rel => exact ⟨(wrap64 (x6_4 + 1)),(by first|rfl|(simp;done)|(simp [*];done)),H',⟨by have:=HJ1.out;have:=HK2.out;have:=HK3.out;have:=HK4.out;omega⟩,⟨blk_up BK157.out⟩,⟨hb_⟩⟩

/-! ### water_ground_wet: function 80 -/
def water_ground_wet.f (a0_0 : Int) (a0_1 : Int) (l0_2 : List Int) (l0_3 : List Int) (l0_4 : List Bool) (l1_0 : List Int) (l1_1 : List Int) (a2 : Int) : Option (Bool) := if 0 ≤ a2 then (if a2 < (l0_4.length : Int) then (if rdOf false l0_4 a2 = true then (some true) else (if a2 < (l1_0.length : Int) then (some ((rd l1_0 a2) != 0)) else (none))) else (none)) else (none)
set_option maxHeartbeats 8000000 in
set_option maxRecDepth 100000 in
theorem water_ground_wet.calls (a0_0 : Int) (a0_1 : Int) (A0_2 : Option Addr) (c0_2 : Nat) (l0_2 : List Int) (A0_3 : Option Addr) (c0_3 : Nat) (l0_3 : List Int) (A0_4 : Option Addr) (c0_4 : Nat) (l0_4 : List Bool) (A1_0 : Option Addr) (c1_0 : Nat) (l1_0 : List Int) (A1_1 : Option Addr) (c1_1 : Nat) (l1_1 : List Int) (a2 : Int) (r : Bool) (w : World) (hr0_2 : Kd.C (Kd.int .i64) w A0_2 l0_2.length l0_2) (hc0_2 : l0_2.length ≤ c0_2) (hr0_3 : Kd.C (Kd.int .i64) w A0_3 l0_3.length l0_3) (hc0_3 : l0_3.length ≤ c0_3) (hr0_4 : Kd.C Kd.bool w A0_4 l0_4.length l0_4) (hc0_4 : l0_4.length ≤ c0_4) (hr1_0 : Kd.C (Kd.int .i64) w A1_0 l1_0.length l1_0) (hc1_0 : l1_0.length ≤ c1_0) (hr1_1 : Kd.C (Kd.int .i64) w A1_1 l1_1.length l1_1) (hc1_1 : l1_1.length ≤ c1_1) (h : water_ground_wet.f a0_0 a0_1 l0_2 l0_3 l0_4 l1_0 l1_1 a2 = some r) :
  Calls Try.prog 80 #[.agg #[.int .i64 a0_0,.int .i64 a0_1,.slice A0_2 l0_2.length c0_2,.slice A0_3 l0_3.length c0_3,.slice A0_4 l0_4.length c0_4],.agg #[.slice A1_0 l1_0.length c1_0,.slice A1_1 l1_1.length c1_1],.int .i64 a2] w fun e w' => e = .returned (.bool r) ∧ Below w.heap.size w w':=by
 have hu104:=Try.underlying104
 have hu55:=Try.underlying55
 have HR0_2:=Aside0.mk hr0_2
 have HC0_2:=Aside0.mk hc0_2
 clear hr0_2 hc0_2
 have HR0_3:=Aside0.mk hr0_3
 have HC0_3:=Aside0.mk hc0_3
 clear hr0_3 hc0_3
 have HR0_4:=Aside0.mk hr0_4
 have HC0_4:=Aside0.mk hc0_4
 clear hr0_4 hc0_4
 have HR1_0:=Aside0.mk hr1_0
 have HC1_0:=Aside0.mk hc1_0
 clear hr1_0 hc1_0
 have HR1_1:=Aside0.mk hr1_1
 have HC1_1:=Aside0.mk hc1_1
 clear hr1_1 hc1_1
 have HB:=Aside0.mk (Below.refl w.heap.size w)
 have H : (if 0 ≤ a2 then (if a2 < (l0_4.length : Int) then (if rdOf false l0_4 a2 = true then (some true) else (if a2 < (l1_0.length : Int) then (some ((rd l1_0 a2) != 0)) else (none))) else (none)) else (none)) = some r:=h
 clear h
 replace H:=ifp_ H;obtain ⟨c4,H⟩:=H
 have c4b0 : decide (0 ≤ a2) = true:=decide_eq_true c4
 clear c4
 replace H:=ifp_ H;obtain ⟨c5,H⟩:=H
 have c5b0 : decide (a2 < (l0_4.length : Int)) = true:=decide_eq_true c5
 clear c5
 obtain ⟨bq6,hbq6⟩ : ∃ b_ : Bool,b_ = (rdOf false l0_4 a2):=⟨_,rfl⟩
 replace H : (if bq6 = true then (some true) else (if a2 < (l1_0.length : Int) then (some ((rd l1_0 a2) != 0)) else (none))) = some r:=by rw [← hbq6] at H;exact H
 have Nbq6:=Aside0.mk hbq6
 clear hbq6
 by_cases c7 : bq6 = true
 ·subst c7
  have H1 : (some true) = some r:=by rw [if_pos rfl] at H;exact H
  clear H
  have H:=H1
  clear H1
  obtain rfl:=Option.some.inj H
  go_enter Try.func80,Try.ntmps80
  go_wp2_with (first|((with_reducible refine gate_dst (N:=3) rfl ?_);refine box_ev (N:=3) (cs:=#[.int .i64 a0_0,.int .i64 a0_1,.slice A0_2 l0_2.length c0_2,.slice A0_3 l0_3.length c0_3,.slice A0_4 l0_4.length c0_4]) (t:=104) ?_;intro gb166 hg w8 hbox hb;have BK166:=Aside0.mk (hbox);have GW166 : Aside0 (w.heap.size ≤ gb166):=gsz hg;have GE166:=GW166;replace HB:=hbs hb;clear hb hbox hg)|((with_reducible refine gate_dst (N:=4) rfl ?_);refine box_ev (N:=4) (cs:=#[.slice A1_0 l1_0.length c1_0,.slice A1_1 l1_1.length c1_1]) (t:=55) ?_;intro gb167 hg w9 hbox hb;have BK167:=Aside0.mk (hbox);have GW167 : Aside0 (w.heap.size ≤ gb167):=gsz hg;have GE167:=GW167;have NB166_167:=nbl BK166 hg;have NB167_166:=nbr BK166 hg;replace BK166:=bkb BK166 hb;replace HB:=hbs hb;clear hb hbox hg;have hnb10:=NB166_167.out;have hnc10:=NB167_166.out;obtain ⟨_,_,_,_,_,_,_,_,_,_⟩:=cells5 BK166.out;have p168 : 0 ≤ (a2 : Int):=of_decide_eq_true (by first|(with_reducible assumption)|assumption);have q168 : a2 < (l0_4.length : Int):=of_decide_eq_true (by first|(with_reducible assumption)|assumption);obtain ⟨ad168,e168,hx168_0⟩:=Kd.at_bool HR0_4.out a2 p168 q168;(try rw [← Nbq6.out] at hx168_0);cases e168;replace hx168_0:=(HB.out.cell (World.block_lt_of_cell? w _ hx168_0)).trans hx168_0;replace p168:=eq_true p168;replace q168:=eq_true q168))
  go_ret
  exact ⟨er_,hb_⟩
 ·replace c7:=Bool.eq_false_iff.mpr c7
  subst c7
  have H1 : (if a2 < (l1_0.length : Int) then (some ((rd l1_0 a2) != 0)) else (none)) = some r:=by rw [if_neg (show ¬ (false = true) by decide)] at H;exact H
  clear H
  have H:=H1
  clear H1
  replace H:=ifp_ H;obtain ⟨c12,H⟩:=H
  have c12b0 : decide (a2 < (l1_0.length : Int)) = true:=decide_eq_true c12
  clear c12
  obtain rfl:=Option.some.inj H
  go_enter Try.func80,Try.ntmps80
  go_wp2_with (first|((with_reducible refine gate_dst (N:=3) rfl ?_);refine box_ev (N:=3) (cs:=#[.int .i64 a0_0,.int .i64 a0_1,.slice A0_2 l0_2.length c0_2,.slice A0_3 l0_3.length c0_3,.slice A0_4 l0_4.length c0_4]) (t:=104) ?_;intro gb166 hg w13 hbox hb;have BK166:=Aside0.mk (hbox);have GW166 : Aside0 (w.heap.size ≤ gb166):=gsz hg;have GE166:=GW166;replace HB:=hbs hb;clear hb hbox hg)|((with_reducible refine gate_dst (N:=4) rfl ?_);refine box_ev (N:=4) (cs:=#[.slice A1_0 l1_0.length c1_0,.slice A1_1 l1_1.length c1_1]) (t:=55) ?_;intro gb167 hg w14 hbox hb;have BK167:=Aside0.mk (hbox);have GW167 : Aside0 (w.heap.size ≤ gb167):=gsz hg;have GE167:=GW167;have NB166_167:=nbl BK166 hg;have NB167_166:=nbr BK166 hg;replace BK166:=bkb BK166 hb;replace HB:=hbs hb;clear hb hbox hg;have hnb15:=NB166_167.out;have hnc15:=NB167_166.out;obtain ⟨_,_,_,_,_,_,_,_,_,_⟩:=cells5 BK166.out;have p168 : 0 ≤ (a2 : Int):=of_decide_eq_true (by first|(with_reducible assumption)|assumption);have q168 : a2 < (l0_4.length : Int):=of_decide_eq_true (by first|(with_reducible assumption)|assumption);obtain ⟨ad168,e168,hx168_0⟩:=Kd.at_bool HR0_4.out a2 p168 q168;(try rw [← Nbq6.out] at hx168_0);cases e168;replace hx168_0:=(HB.out.cell (World.block_lt_of_cell? w _ hx168_0)).trans hx168_0;replace p168:=eq_true p168;replace q168:=eq_true q168;obtain ⟨_,_,_,_⟩:=cells2 BK167.out;have p169 : 0 ≤ (a2 : Int):=of_decide_eq_true (by first|(with_reducible assumption)|assumption);have q169 : a2 < (l1_0.length : Int):=of_decide_eq_true (by first|(with_reducible assumption)|assumption);obtain ⟨ad169,e169,hx169_0⟩:=Kd.at_int HR1_0.out a2 p169 q169;cases e169;replace hx169_0:=(HB.out.cell (World.block_lt_of_cell? w _ hx169_0)).trans hx169_0;replace p169:=eq_true p169;replace q169:=eq_true q169))
  go_ret
  exact ⟨er_,hb_⟩

end Go.Proofs.Ythjmdpekcleihaa.P

/- Functions of this seat as plain Lean functions, with proofs that the Go code comes to just their answers, or what stands between them and a law's statement; no conditions. (Laid by a program of this session, out of the kit's print.) -/
import Derived.Test.YtiencnnkphipoaaPx0
import Derived.Test.YtiencnnkphipoaaPx6
import Derived.Test.YtiencnnkphipoaaPx8
import Derived.Test.YtiencnnkphipoaaPx26
namespace Go.Proofs.Ytiencnnkphipoaa.P
open Go.RowKit Go.Proofs.YtiencnnkphipoaaW.PrintWords Go.Proofs.YtiencnnkphipoaaW.PrintLast Go.Proofs.YtiencnnkphipoaaW.PrintMore
attribute [local go_sem] max2_int min2_int max_two min_two max_three min_three max_four min_four   -- for this text's walks alone
set_option linter.unusedVariables false
set_option linter.unusedSimpArgs false

/-! ### hinterlandlaw06_beside: function 55 -/
def hinterlandlaw06_beside.l0 : Nat → Int → Int → Int → Int → Int → List Int → Option (Int)
 | 0,_,_,_,_,_,_ => none
 | k + 1,x1,x2,x8,x728000,x728001,x728002 => if x8 < 4 then ((hinterlandref02_Is.f x728000 x728001 x728002 x1).bind fun t728 => (if t728 = true then ((hinterlandref02_Beyond.f x728000 x728001 x1 x8).bind fun t729 => (if t729 = x2 then (if x2 ≥ 0 then (some x8) else (hinterlandlaw06_beside.l0 k x1 x2 (wrap64 (x8 + 1)) x728000 x728001 x728002)) else (hinterlandlaw06_beside.l0 k x1 x2 (wrap64 (x8 + 1)) x728000 x728001 x728002))) else (hinterlandlaw06_beside.l0 k x1 x2 (wrap64 (x8 + 1)) x728000 x728001 x728002))) else (some (-1))
def hinterlandlaw06_beside.f (k : Nat) (a0_0 : Int) (a0_1 : Int) (l0_2 : List Int) (a1 : Int) (a2 : Int) : Option (Int) := hinterlandlaw06_beside.l0 k a1 a2 0 a0_0 a0_1 l0_2
theorem hinterlandlaw06_beside.mono_l : ∀ k, (∀ y0 y1 y2 y3 y4 y5, LeO (hinterlandlaw06_beside.l0 k y0 y1 y2 y3 y4 y5) (hinterlandlaw06_beside.l0 (k + 1) y0 y1 y2 y3 y4 y5))
 | 0 => fun _ _ _ _ _ _ r h => by simp [hinterlandlaw06_beside.l0] at h
 | k + 1 => by
  have ih0:=hinterlandlaw06_beside.mono_l k
  ·intro y0 y1 y2 y3 y4 y5
   unfold hinterlandlaw06_beside.l0
   repeat' first
   | (with_reducible exact ih0 _ _ _ _ _ _)
   | (with_reducible exact LeO.refl _)
   | (with_reducible exact LeO.none _)
   | (with_reducible refine LeO.ite ?_ ?_)
   | (with_reducible refine LeO.bind ?_ (fun _ => ?_))
   | exact ih0 _ _ _ _ _ _
   | exact LeO.none _
   | refine LeO.ite ?_ ?_
   | refine LeO.bind ?_ (fun _ => ?_)
theorem hinterlandlaw06_beside.mono : ∀ a0 a1 a2 a3 a4 k, LeO (hinterlandlaw06_beside.f k a0 a1 a2 a3 a4) (hinterlandlaw06_beside.f (k + 1) a0 a1 a2 a3 a4) := by
 intro a0 a1 a2 a3 a4 k
 have ih0:=hinterlandlaw06_beside.mono_l k
 unfold hinterlandlaw06_beside.f
 repeat' first
   | (with_reducible exact ih0 _ _ _ _ _ _)
   | (with_reducible exact LeO.refl _)
   | (with_reducible exact LeO.none _)
   | (with_reducible refine LeO.ite ?_ ?_)
   | (with_reducible refine LeO.bind ?_ (fun _ => ?_))
   | exact ih0 _ _ _ _ _ _
   | exact LeO.none _
   | refine LeO.ite ?_ ?_
   | refine LeO.bind ?_ (fun _ => ?_)
set_option maxHeartbeats 8000000 in
set_option maxRecDepth 100000 in
theorem hinterlandlaw06_beside.calls (k : Nat) (a0_0 : Int) (a0_1 : Int) (A0_2 : Option Addr) (c0_2 : Nat) (l0_2 : List Int) (a1 : Int) (a2 : Int) (r : Int) (w : World) (hr0_2 : Kd.C (Kd.int .i64) w A0_2 l0_2.length l0_2) (hc0_2 : l0_2.length ≤ c0_2) (h : hinterlandlaw06_beside.f k a0_0 a0_1 l0_2 a1 a2 = some r) :
  Calls Try.prog 55 #[.agg #[.int .i64 a0_0,.int .i64 a0_1,.slice A0_2 l0_2.length c0_2],.int .i64 a1,.int .i64 a2] w fun e w' => e = .returned (.int .i64 r) ∧ Below w.heap.size w w':=by
 have hu24:=Try.underlying24
 have HR0_2:=Aside0.mk hr0_2
 have HC0_2:=Aside0.mk hc0_2
 clear hr0_2 hc0_2
 have HB:=Aside0.mk (Below.refl w.heap.size w)
 have H : (hinterlandlaw06_beside.l0 k a1 a2 0 a0_0 a0_1 l0_2) = some r:=h
 clear h
 have H':=Aside0.mk H
 clear H
 go_enter Try.func55,Try.ntmps55
 go_wp2_with (first|((with_reducible refine gate_dst (N:=3) rfl ?_);refine box_ev (N:=3) (cs:=#[.int .i64 a0_0,.int .i64 a0_1,.slice A0_2 l0_2.length c0_2]) (t:=24) ?_;intro gb727 hg w4 hbox hb;have BK727:=Aside0.mk (hbox);have GW727 : Aside0 (w.heap.size ≤ gb727):=gsz hg;have GE727:=GW727;replace HB:=Aside0.mk (below_step (hb_) hb);clear hb hbox hg))
 go_loopg [8] k (fun kq v8 w' => ∃ (x8_1 : Int),v8 = .int .i64 x8_1 ∧ Aside0 (hinterlandlaw06_beside.l0 kq a1 a2 x8_1 a0_0 a0_1 l0_2 = some r) ∧ Aside0 (kq ≤ k) ∧ Aside0 (w'.heap[gb727]? = some (.cells #[.int .i64 a0_0,.int .i64 a0_1,(.slice A0_2 l0_2.length c0_2)] 24 (0,0))) ∧ Aside0 (Below w.heap.size w w'))
 case atStart => exact ⟨(0),(by first|rfl|(simp;done)|(simp [*];done)),H',⟨Nat.le_refl _⟩,⟨blk_up BK727.out⟩,⟨hb_⟩⟩
 case round =>
  clear H'
  obtain ⟨x8_1,rfl,HA,HK1,BK727,HB⟩:=hrel
  cases gk with
  | zero => exact absurd HA.out (by simp [hinterlandlaw06_beside.l0])
  | succ k1 =>
   have H:=HA.out
   clear HA
   simp only [hinterlandlaw06_beside.l0] at H
   by_cases c5 : x8_1 < 4
   rotate_left
   ·rw [if_neg c5] at H
    have c5b0 : decide (x8_1 < 4) = false:=decide_eq_false c5
    clear c5
    obtain rfl:=Option.some.inj H
    go_wp2
    go_ret
    exact ⟨by first|rfl|(simp [errW_none,errW_some] <;> rfl)|(simp [*,errW_none,errW_some] <;> rfl),hb_⟩
   rw [if_pos c5] at H
   have c5b0 : decide (x8_1 < 4) = true:=decide_eq_true c5
   clear c5
   replace H:=Option.bind_eq_some_iff.mp H
   obtain ⟨t728,A60,H⟩:=H
   replace H : (if t728 = true then ((hinterlandref02_Beyond.f a0_0 a0_1 a1 x8_1).bind fun t729 => (if t729 = a2 then (if a2 ≥ 0 then (some x8_1) else (hinterlandlaw06_beside.l0 k1 a1 a2 (wrap64 (x8_1 + 1)) a0_0 a0_1 l0_2)) else (hinterlandlaw06_beside.l0 k1 a1 a2 (wrap64 (x8_1 + 1)) a0_0 a0_1 l0_2))) else (hinterlandlaw06_beside.l0 k1 a1 a2 (wrap64 (x8_1 + 1)) a0_0 a0_1 l0_2)) = some r:=H
   have A6:=Aside0.mk A60
   clear A60
   by_cases c7 : t728 = true
   ·subst c7
    have H1 : ((hinterlandref02_Beyond.f a0_0 a0_1 a1 x8_1).bind fun t729 => (if t729 = a2 then (if a2 ≥ 0 then (some x8_1) else (hinterlandlaw06_beside.l0 k1 a1 a2 (wrap64 (x8_1 + 1)) a0_0 a0_1 l0_2)) else (hinterlandlaw06_beside.l0 k1 a1 a2 (wrap64 (x8_1 + 1)) a0_0 a0_1 l0_2))) = some r:=by rw [if_pos rfl] at H;exact H
    clear H
    have H:=H1
    clear H1
    replace H:=Option.bind_eq_some_iff.mp H
    obtain ⟨t729,A80,H⟩:=H
    replace H : (if t729 = a2 then (if a2 ≥ 0 then (some x8_1) else (hinterlandlaw06_beside.l0 k1 a1 a2 (wrap64 (x8_1 + 1)) a0_0 a0_1 l0_2)) else (hinterlandlaw06_beside.l0 k1 a1 a2 (wrap64 (x8_1 + 1)) a0_0 a0_1 l0_2)) = some r:=H
    have A8:=Aside0.mk A80
    clear A80
    by_cases c9 : t729 = a2
    ·rw [if_pos c9] at H
     have c9b0 : (t729 == a2) = true:=beq_iff_eq.mpr c9
     have c9b1 : (t729 != a2) = false:=bne_eq_false_iff_eq.mpr c9
     clear c9
     by_cases c10 : a2 ≥ 0
     ·rw [if_pos c10] at H
      have c10b0 : decide (0 ≤ a2) = true:=decide_eq_true c10
      clear c10
      obtain rfl:=Option.some.inj H
      obtain ⟨hcz11_0,hcz11_1,hcz11_2,hfz11_0,hfz11_1,hfz11_2⟩:=cells3 BK727.out
      go_wp2_with (first|((with_reducible refine gate_callee (f:=33) rfl ?_);refine goesL_ (some 13) rfl rfl Try.func33 (by kernel_rfl) rfl #[.agg #[.int .i64 a0_0,.int .i64 a0_1,.slice A0_2 l0_2.length c0_2],.int .i64 a1] rfl (by (try simp only [List.map_toArray,List.map_cons,List.map_nil]);first|done|rfl|(simp only [List.length_drop,List.length_take];rfl)) ?_;(with_reducible refine (hinterlandref02_Is.calls a0_0 a0_1 _ _ l0_2 a1 true _ ?side1 ?side2 A6.out).mono ?_);(case side1 => exact Kd.C_up (Kd.C_below HR0_2.out HB.out));(case side2 => exact HC0_2.out);rintro e w12 ⟨rfl,hb⟩;refine ⟨_,rfl,?_⟩;replace BK727:=bkb BK727 hb;replace HB:=Aside0.mk (below_step (hb_) hb);obtain ⟨hcz13_0,hcz13_1,hcz13_2,hfz13_0,hfz13_1,hfz13_2⟩:=cells3 BK727.out)|(go_at_call 18;(with_reducible refine (hinterlandref02_Beyond.calls a0_0 a0_1 a1 x8_1 t729 _ A8.out).mono ?_);rintro e w' ⟨rfl,⟨nd,rfl⟩⟩))
      go_ret
      exact ⟨by first|rfl|(simp [errW_none,errW_some] <;> rfl)|(simp [*,errW_none,errW_some] <;> rfl),hb_⟩
     ·rw [if_neg c10] at H
      have c10b0 : decide (0 ≤ a2) = false:=decide_eq_false c10
      clear c10
      have H':=Aside0.mk H
      clear H
      obtain ⟨hcz14_0,hcz14_1,hcz14_2,hfz14_0,hfz14_1,hfz14_2⟩:=cells3 BK727.out
      go_wp2_with (first|((with_reducible refine gate_callee (f:=33) rfl ?_);refine goesL_ (some 13) rfl rfl Try.func33 (by kernel_rfl) rfl #[.agg #[.int .i64 a0_0,.int .i64 a0_1,.slice A0_2 l0_2.length c0_2],.int .i64 a1] rfl (by (try simp only [List.map_toArray,List.map_cons,List.map_nil]);first|done|rfl|(simp only [List.length_drop,List.length_take];rfl)) ?_;(with_reducible refine (hinterlandref02_Is.calls a0_0 a0_1 _ _ l0_2 a1 true _ ?side1 ?side2 A6.out).mono ?_);(case side1 => exact Kd.C_up (Kd.C_below HR0_2.out HB.out));(case side2 => exact HC0_2.out);rintro e w15 ⟨rfl,hb⟩;refine ⟨_,rfl,?_⟩;replace BK727:=bkb BK727 hb;replace HB:=Aside0.mk (below_step (hb_) hb);obtain ⟨hcz16_0,hcz16_1,hcz16_2,hfz16_0,hfz16_1,hfz16_2⟩:=cells3 BK727.out)|(go_at_call 18;(with_reducible refine (hinterlandref02_Beyond.calls a0_0 a0_1 a1 x8_1 t729 _ A8.out).mono ?_);rintro e w' ⟨rfl,⟨nd,rfl⟩⟩))
      go_roundg k1
      case measure => have:=HK1.out;omega
      case rel => exact ⟨(wrap64 (x8_1 + 1)),(by first|rfl|(simp;done)|(simp [*];done)),H',⟨by have:=HK1.out;omega⟩,⟨blk_up BK727.out⟩,⟨hb_⟩⟩
    ·rw [if_neg c9] at H
     have c9b0 : (t729 == a2) = false:=beq_eq_false_iff_ne.mpr c9
     have c9b1 : (t729 != a2) = true:=bne_iff_ne.mpr c9
     have H':=Aside0.mk H
     clear H
     obtain ⟨hcz17_0,hcz17_1,hcz17_2,hfz17_0,hfz17_1,hfz17_2⟩:=cells3 BK727.out
     go_wp2_with (first|((with_reducible refine gate_callee (f:=33) rfl ?_);refine goesL_ (some 13) rfl rfl Try.func33 (by kernel_rfl) rfl #[.agg #[.int .i64 a0_0,.int .i64 a0_1,.slice A0_2 l0_2.length c0_2],.int .i64 a1] rfl (by (try simp only [List.map_toArray,List.map_cons,List.map_nil]);first|done|rfl|(simp only [List.length_drop,List.length_take];rfl)) ?_;(with_reducible refine (hinterlandref02_Is.calls a0_0 a0_1 _ _ l0_2 a1 true _ ?side1 ?side2 A6.out).mono ?_);(case side1 => exact Kd.C_up (Kd.C_below HR0_2.out HB.out));(case side2 => exact HC0_2.out);rintro e w18 ⟨rfl,hb⟩;refine ⟨_,rfl,?_⟩;replace BK727:=bkb BK727 hb;replace HB:=Aside0.mk (below_step (hb_) hb);obtain ⟨hcz19_0,hcz19_1,hcz19_2,hfz19_0,hfz19_1,hfz19_2⟩:=cells3 BK727.out)|(go_at_call 18;(with_reducible refine (hinterlandref02_Beyond.calls a0_0 a0_1 a1 x8_1 t729 _ A8.out).mono ?_);rintro e w' ⟨rfl,⟨nd,rfl⟩⟩))
     go_roundg k1
     case measure => have:=HK1.out;omega
     case rel => exact ⟨(wrap64 (x8_1 + 1)),(by first|rfl|(simp;done)|(simp [*];done)),H',⟨by have:=HK1.out;omega⟩,⟨blk_up BK727.out⟩,⟨hb_⟩⟩
   ·replace c7:=Bool.eq_false_iff.mpr c7
    subst c7
    have H1 : (hinterlandlaw06_beside.l0 k1 a1 a2 (wrap64 (x8_1 + 1)) a0_0 a0_1 l0_2) = some r:=by rw [if_neg (show ¬ (false = true) by decide)] at H;exact H
    clear H
    have H:=H1
    clear H1
    have H':=Aside0.mk H
    clear H
    obtain ⟨hcz20_0,hcz20_1,hcz20_2,hfz20_0,hfz20_1,hfz20_2⟩:=cells3 BK727.out
    go_wp2_with (first|((with_reducible refine gate_callee (f:=33) rfl ?_);refine goesL_ (some 13) rfl rfl Try.func33 (by kernel_rfl) rfl #[.agg #[.int .i64 a0_0,.int .i64 a0_1,.slice A0_2 l0_2.length c0_2],.int .i64 a1] rfl (by (try simp only [List.map_toArray,List.map_cons,List.map_nil]);first|done|rfl|(simp only [List.length_drop,List.length_take];rfl)) ?_;(with_reducible refine (hinterlandref02_Is.calls a0_0 a0_1 _ _ l0_2 a1 false _ ?side1 ?side2 A6.out).mono ?_);(case side1 => exact Kd.C_up (Kd.C_below HR0_2.out HB.out));(case side2 => exact HC0_2.out);rintro e w21 ⟨rfl,hb⟩;refine ⟨_,rfl,?_⟩;replace BK727:=bkb BK727 hb;replace HB:=Aside0.mk (below_step (hb_) hb)))
    go_roundg k1
    case measure => have:=HK1.out;omega
    case rel => exact ⟨(wrap64 (x8_1 + 1)),(by first|rfl|(simp;done)|(simp [*];done)),H',⟨by have:=HK1.out;omega⟩,⟨blk_up BK727.out⟩,⟨hb_⟩⟩

/-! ### hinterlandlaw06_joins: function 34 -/
mutual
def hinterlandlaw06_joins.l0 : Nat → List Int → Int → Int → Int → List Int → List Int → List Int → Option (Bool)
 | 0,_,_,_,_,_,_,_ => none
 | k + 1,x2,x7,x731000,x731001,x731002,x732000,x732001 => if x7 < (x2.length : Int) then (if 0 ≤ (wrap64 (x7 - 1)) then (if (wrap64 (x7 - 1)) < (x2.length : Int) then (if 0 ≤ x7 then ((hinterlandlaw06_beside.f k x731000 x731001 x731002 (rd x2 (wrap64 (x7 - 1))) (rd x2 x7)).bind fun t734 => (if t734 < 0 then (some false) else ((water_Joined.f k x731000 x731001 x731002 x732000 x732001 (rd x2 (wrap64 (x7 - 1))) t734).bind fun bt736 => (if bt736.1 = true then (hinterlandlaw06_joins.j1 k x2 x7 (bt736.2 != 0) x731000 x731001 x731002 x732000 x732001) else (hinterlandlaw06_joins.j1 k x2 x7 true x731000 x731001 x731002 x732000 x732001))))) else (none)) else (none)) else (none)) else (some true)
def hinterlandlaw06_joins.j1 : Nat → List Int → Int → Bool → Int → Int → List Int → List Int → List Int → Option (Bool)
 | 0,_,_,_,_,_,_,_,_ => none
 | k + 1,x2,x7,x47,x731000,x731001,x731002,x732000,x732001 => if x47 = true then (some false) else (hinterlandlaw06_joins.l0 k x2 (wrap64 (x7 + 1)) x731000 x731001 x731002 x732000 x732001)
end
def hinterlandlaw06_joins.f (k : Nat) (a0_0 : Int) (a0_1 : Int) (l0_2 : List Int) (l1_0 : List Int) (l1_1 : List Int) (l2 : List Int) : Option (Bool) := hinterlandlaw06_joins.l0 k l2 1 a0_0 a0_1 l0_2 l1_0 l1_1
theorem hinterlandlaw06_joins.mono_l : ∀ k, (∀ y0 y1 y2 y3 y4 y5 y6, LeO (hinterlandlaw06_joins.l0 k y0 y1 y2 y3 y4 y5 y6) (hinterlandlaw06_joins.l0 (k + 1) y0 y1 y2 y3 y4 y5 y6)) ∧ (∀ y0 y1 y2 y3 y4 y5 y6 y7, LeO (hinterlandlaw06_joins.j1 k y0 y1 y2 y3 y4 y5 y6 y7) (hinterlandlaw06_joins.j1 (k + 1) y0 y1 y2 y3 y4 y5 y6 y7))
 | 0 => ⟨fun _ _ _ _ _ _ _ r h => by simp [hinterlandlaw06_joins.l0] at h,fun _ _ _ _ _ _ _ _ r h => by simp [hinterlandlaw06_joins.j1] at h⟩
 | k + 1 => by
  obtain ⟨ih0,ih1⟩:=hinterlandlaw06_joins.mono_l k
  refine ⟨?_,?_⟩
  ·intro y0 y1 y2 y3 y4 y5 y6
   unfold hinterlandlaw06_joins.l0
   repeat' first
   | (with_reducible exact ih0 _ _ _ _ _ _ _)
   | (with_reducible exact ih1 _ _ _ _ _ _ _ _)
   | (with_reducible exact hinterlandlaw06_beside.mono _ _ _ _ _ _)
   | (with_reducible exact water_Joined.mono _ _ _ _ _ _ _ _)
   | (with_reducible exact LeO.refl _)
   | (with_reducible exact LeO.none _)
   | (with_reducible refine LeO.ite ?_ ?_)
   | (with_reducible refine LeO.bind ?_ (fun _ => ?_))
   | exact ih0 _ _ _ _ _ _ _
   | exact ih1 _ _ _ _ _ _ _ _
   | exact hinterlandlaw06_beside.mono _ _ _ _ _ _
   | exact water_Joined.mono _ _ _ _ _ _ _ _
   | exact LeO.none _
   | refine LeO.ite ?_ ?_
   | refine LeO.bind ?_ (fun _ => ?_)
  ·intro y0 y1 y2 y3 y4 y5 y6 y7
   unfold hinterlandlaw06_joins.j1
   repeat' first
   | (with_reducible exact ih0 _ _ _ _ _ _ _)
   | (with_reducible exact ih1 _ _ _ _ _ _ _ _)
   | (with_reducible exact hinterlandlaw06_beside.mono _ _ _ _ _ _)
   | (with_reducible exact water_Joined.mono _ _ _ _ _ _ _ _)
   | (with_reducible exact LeO.refl _)
   | (with_reducible exact LeO.none _)
   | (with_reducible refine LeO.ite ?_ ?_)
   | (with_reducible refine LeO.bind ?_ (fun _ => ?_))
   | exact ih0 _ _ _ _ _ _ _
   | exact ih1 _ _ _ _ _ _ _ _
   | exact hinterlandlaw06_beside.mono _ _ _ _ _ _
   | exact water_Joined.mono _ _ _ _ _ _ _ _
   | exact LeO.none _
   | refine LeO.ite ?_ ?_
   | refine LeO.bind ?_ (fun _ => ?_)
theorem hinterlandlaw06_joins.mono : ∀ a0 a1 a2 a3 a4 a5 k, LeO (hinterlandlaw06_joins.f k a0 a1 a2 a3 a4 a5) (hinterlandlaw06_joins.f (k + 1) a0 a1 a2 a3 a4 a5) := by
 intro a0 a1 a2 a3 a4 a5 k
 obtain ⟨ih0,ih1⟩:=hinterlandlaw06_joins.mono_l k
 unfold hinterlandlaw06_joins.f
 repeat' first
   | (with_reducible exact ih0 _ _ _ _ _ _ _)
   | (with_reducible exact ih1 _ _ _ _ _ _ _ _)
   | (with_reducible exact hinterlandlaw06_beside.mono _ _ _ _ _ _)
   | (with_reducible exact water_Joined.mono _ _ _ _ _ _ _ _)
   | (with_reducible exact LeO.refl _)
   | (with_reducible exact LeO.none _)
   | (with_reducible refine LeO.ite ?_ ?_)
   | (with_reducible refine LeO.bind ?_ (fun _ => ?_))
   | exact ih0 _ _ _ _ _ _ _
   | exact ih1 _ _ _ _ _ _ _ _
   | exact hinterlandlaw06_beside.mono _ _ _ _ _ _
   | exact water_Joined.mono _ _ _ _ _ _ _ _
   | exact LeO.none _
   | refine LeO.ite ?_ ?_
   | refine LeO.bind ?_ (fun _ => ?_)
def hinterlandlaw06_joins.T4 : Bool × List (List Nat × List Nat) := (true, [([], []), ([], []), ([], []), ([2], [2]), ([1, 3], [1, 3]), ([4], [4]), ([], []), ([], []), ([6, 7], [6, 7]), ([8], [8]), ([0, 5, 9], [0, 5, 9]), ([10, 10, 0, 1, 2, 3, 4, 5, 6, 7, 8, 9, 10], [10])])
def hinterlandlaw06_joins.B4 : List Nat := [0, 0, 0, 4, 14, 30, 0, 0, 192, 448, 1023, 2047]
theorem hinterlandlaw06_joins.tab4 : rtab .any (opsOf Try.f34 4) = hinterlandlaw06_joins.T4 := by kernel_rfl
theorem hinterlandlaw06_joins.bits4 : waitsOk hinterlandlaw06_joins.T4.2 hinterlandlaw06_joins.B4 = true := by kernel_rfl
def hinterlandlaw06_joins.T7 : Bool × List (List Nat × List Nat) := (true, [([], []), ([], []), ([], []), ([], []), ([3], [3]), ([2, 4], [2, 4]), ([5], [5]), ([], []), ([0, 1, 6, 7], [0, 1, 6, 7]), ([8], [8]), ([9], [9]), ([9], [9]), ([10, 8, 0, 1, 2, 3, 4, 5, 6, 7, 8, 9, 10], [10]), ([11, 12, 0, 1, 2, 3, 4, 5, 6, 7, 8, 9, 10, 11, 12], [11])])
def hinterlandlaw06_joins.B7 : List Nat := [0, 0, 0, 0, 8, 28, 60, 0, 255, 511, 1023, 1023, 2047, 8191]
theorem hinterlandlaw06_joins.tab7 : rtab .any (opsOf Try.f34 7) = hinterlandlaw06_joins.T7 := by kernel_rfl
theorem hinterlandlaw06_joins.bits7 : waitsOk hinterlandlaw06_joins.T7.2 hinterlandlaw06_joins.B7 = true := by kernel_rfl
set_option maxHeartbeats 8000000 in
set_option maxRecDepth 100000 in
theorem hinterlandlaw06_joins.calls (k : Nat) (a0_0 : Int) (a0_1 : Int) (A0_2 : Option Addr) (c0_2 : Nat) (l0_2 : List Int) (A1_0 : Option Addr) (c1_0 : Nat) (l1_0 : List Int) (A1_1 : Option Addr) (c1_1 : Nat) (l1_1 : List Int) (A2 : Option Addr) (c2 : Nat) (l2 : List Int) (r : Bool) (w : World) (hr0_2 : Kd.C (Kd.int .i64) w A0_2 l0_2.length l0_2) (hc0_2 : l0_2.length ≤ c0_2) (hr1_0 : Kd.C (Kd.int .i64) w A1_0 l1_0.length l1_0) (hc1_0 : l1_0.length ≤ c1_0) (hr1_1 : Kd.C (Kd.int .i64) w A1_1 l1_1.length l1_1) (hc1_1 : l1_1.length ≤ c1_1) (hr2 : Kd.C (Kd.int .i64) w A2 l2.length l2) (hc2 : l2.length ≤ c2) (h : hinterlandlaw06_joins.f k a0_0 a0_1 l0_2 l1_0 l1_1 l2 = some r) :
  Calls Try.prog 34 #[.agg #[.int .i64 a0_0,.int .i64 a0_1,.slice A0_2 l0_2.length c0_2],.agg #[.slice A1_0 l1_0.length c1_0,.slice A1_1 l1_1.length c1_1],.slice A2 l2.length c2] w fun e w' => e = .returned (.bool r) ∧ Below w.heap.size w w':=by
 have hu24:=Try.underlying24
 have hu26:=Try.underlying26
 have HR0_2:=Aside0.mk hr0_2
 have HC0_2:=Aside0.mk hc0_2
 clear hr0_2 hc0_2
 have HR1_0:=Aside0.mk hr1_0
 have HC1_0:=Aside0.mk hc1_0
 clear hr1_0 hc1_0
 have HR1_1:=Aside0.mk hr1_1
 have HC1_1:=Aside0.mk hc1_1
 clear hr1_1 hc1_1
 have HR2:=Aside0.mk hr2
 have HC2:=Aside0.mk hc2
 clear hr2 hc2
 have HB:=Aside0.mk (Below.refl w.heap.size w)
 have H : (hinterlandlaw06_joins.l0 k l2 1 a0_0 a0_1 l0_2 l1_0 l1_1) = some r:=h
 clear h
 have H':=Aside0.mk H
 clear H
 go_enter Try.func34,Try.ntmps34
 go_wp2_with (first|((with_reducible refine gate_dst (N:=3) rfl ?_);refine box_ev (N:=3) (cs:=#[.int .i64 a0_0,.int .i64 a0_1,.slice A0_2 l0_2.length c0_2]) (t:=24) ?_;intro gb730 hg w4 hbox hb;have BK730:=Aside0.mk (hbox);have GW730 : Aside0 (w.heap.size ≤ gb730):=gsz hg;have GE730:=GW730;replace HB:=Aside0.mk (below_step (hb_) hb);clear hb hbox hg)|((with_reducible refine gate_dst (N:=4) rfl ?_);refine box_ev (N:=4) (cs:=#[.slice A1_0 l1_0.length c1_0,.slice A1_1 l1_1.length c1_1]) (t:=26) ?_;intro gb731 hg w5 hbox hb;have BK731:=Aside0.mk (hbox);have GW731 : Aside0 (w.heap.size ≤ gb731):=gsz hg;have GE731:=GW731;have NB730_731:=nbl BK730 hg;have NB731_730:=nbr BK730 hg;replace BK730:=bkb BK730 hb;replace HB:=Aside0.mk (below_step (hb_) hb);clear hb hbox hg))
 go_loopg [7] k (fun kq v7 w' => ∃ (x7_1 : Int),v7 = .int .i64 x7_1 ∧ Aside0 (hinterlandlaw06_joins.l0 kq l2 x7_1 a0_0 a0_1 l0_2 l1_0 l1_1 = some r) ∧ Aside0 (kq ≤ k) ∧ Aside0 (w'.heap[gb730]? = some (.cells #[.int .i64 a0_0,.int .i64 a0_1,(.slice A0_2 l0_2.length c0_2)] 24 (0,0))) ∧ Aside0 (w'.heap[gb731]? = some (.cells #[(.slice A1_0 l1_0.length c1_0),(.slice A1_1 l1_1.length c1_1)] 26 (0,0))) ∧ Aside0 (Below w.heap.size w w'))
 case atStart => exact ⟨(1),(by first|rfl|(simp;done)|(simp [*];done)),H',⟨Nat.le_refl _⟩,⟨blk_up BK730.out⟩,⟨blk_up BK731.out⟩,⟨hb_⟩⟩
 case round =>
  clear H'
  obtain ⟨x7_1,rfl,HA,HK1,BK730,BK731,HB⟩:=hrel
  cases gk with
  | zero => exact absurd HA.out (by simp [hinterlandlaw06_joins.l0])
  | succ k1 =>
   have H:=HA.out
   clear HA
   simp only [hinterlandlaw06_joins.l0] at H
   by_cases c6 : x7_1 < (l2.length : Int)
   rotate_left
   ·rw [if_neg c6] at H
    have c6b0 : decide (x7_1 < (l2.length : Int)) = false:=decide_eq_false c6
    clear c6
    obtain rfl:=Option.some.inj H
    go_wp2
    go_ret
    exact ⟨by first|rfl|(simp [errW_none,errW_some] <;> rfl)|(simp [*,errW_none,errW_some] <;> rfl),hb_⟩
   rw [if_pos c6] at H
   have c6b0 : decide (x7_1 < (l2.length : Int)) = true:=decide_eq_true c6
   clear c6
   obtain ⟨ji7,hji7⟩ : ∃ j_ : Int,(wrap64 (x7_1 - 1)) = j_:=⟨_,rfl⟩
   replace H : (if 0 ≤ (ji7) then (if (ji7) < (l2.length : Int) then (if 0 ≤ x7_1 then ((hinterlandlaw06_beside.f k1 a0_0 a0_1 l0_2 (rd l2 (ji7)) (rd l2 x7_1)).bind fun t734 => (if t734 < 0 then (some false) else ((water_Joined.f k1 a0_0 a0_1 l0_2 l1_0 l1_1 (rd l2 (ji7)) t734).bind fun bt736 => (if bt736.1 = true then (hinterlandlaw06_joins.j1 k1 l2 x7_1 (bt736.2 != 0) a0_0 a0_1 l0_2 l1_0 l1_1) else (hinterlandlaw06_joins.j1 k1 l2 x7_1 true a0_0 a0_1 l0_2 l1_0 l1_1))))) else (none)) else (none)) else (none)) = some r:=by first|(rw [hji7] at H;exact H)|(simp only [hji7] at H ⊢;exact H)
   have hji7w : (IntKind.i64.wrap (x7_1 - 1)) = ji7:=(i64_w _).trans hji7
   replace H:=ifp_ H;obtain ⟨c8,H⟩:=H
   have c8b0 : decide (0 ≤ (ji7)) = true:=decide_eq_true c8
   clear c8
   replace H:=ifp_ H;obtain ⟨c9,H⟩:=H
   have c9b0 : decide ((ji7) < (l2.length : Int)) = true:=decide_eq_true c9
   clear c9
   replace H:=ifp_ H;obtain ⟨c10,H⟩:=H
   have c10b0 : decide (0 ≤ x7_1) = true:=decide_eq_true c10
   clear c10
   replace H:=Option.bind_eq_some_iff.mp H
   obtain ⟨t734,A110,H⟩:=H
   replace H : (if t734 < 0 then (some false) else ((water_Joined.f k1 a0_0 a0_1 l0_2 l1_0 l1_1 (rd l2 (ji7)) t734).bind fun bt736 => (if bt736.1 = true then (hinterlandlaw06_joins.j1 k1 l2 x7_1 (bt736.2 != 0) a0_0 a0_1 l0_2 l1_0 l1_1) else (hinterlandlaw06_joins.j1 k1 l2 x7_1 true a0_0 a0_1 l0_2 l1_0 l1_1)))) = some r:=H
   have A11:=Aside0.mk A110
   clear A110
   by_cases c12 : t734 < 0
   ·rw [if_pos c12] at H
    have c12b0 : decide (t734 < 0) = true:=decide_eq_true c12
    clear c12
    obtain rfl:=Option.some.inj H
    try go_wp2
    replace BK730:=Aside0.mk (blk_drew BK730.out)
    replace BK731:=Aside0.mk (blk_drew BK731.out)
    replace HB:=Aside0.mk (below_drew1 HB.out)
    have p732 : 0 ≤ ((ji7) : Int):=of_decide_eq_true (by first|(with_reducible assumption)|assumption)
    have q732 : (ji7) < (l2.length : Int):=of_decide_eq_true (by first|(with_reducible assumption)|assumption)
    obtain ⟨ad732,e732,hx732_0⟩:=Kd.at_int HR2.out (ji7) p732 q732
    have hw732_0:=hx732_0
    cases e732
    replace hx732_0:=(HB.out.cell (World.block_lt_of_cell? w _ hx732_0)).trans hx732_0
    replace p732:=eq_true p732
    replace q732:=eq_true q732
    have p733 : 0 ≤ (x7_1 : Int):=of_decide_eq_true (by first|(with_reducible assumption)|assumption)
    have q733 : x7_1 < (l2.length : Int):=of_decide_eq_true (by first|(with_reducible assumption)|assumption)
    obtain ⟨ad733,e733,hx733_0⟩:=Kd.at_int HR2.out x7_1 p733 q733
    have hw733_0:=hx733_0
    obtain rfl : ad732 = ad733:=(by injection e733)
    replace hx733_0:=(HB.out.cell (World.block_lt_of_cell? w _ hx733_0)).trans hx733_0
    replace p733:=eq_true p733
    replace q733:=eq_true q733
    refine start_ (n:=12) (S:=fun w' => w'.cell? ⟨gb730,0,none⟩ = some (.int .i64 a0_0) ∧ w'.cell? ⟨gb730,1,none⟩ = some (.int .i64 a0_1) ∧ w'.cell? ⟨gb730,2,none⟩ = some (.slice A0_2 l0_2.length c0_2) ∧ w'.cell? (ad732.add ((ji7)).toNat) = some (.int .i64 (rd l2 (ji7))) ∧ w'.cell? (ad732.add (x7_1).toNat) = some (.int .i64 (rd l2 x7_1))) (ds:=[]) #[false,false,false,false,false,false,false,false,false,false,false,false] (by kernel_rfl) rfl rfl ⟨(blk_cell BK730.out 0).trans rfl,(blk_cell BK730.out 1).trans rfl,(blk_cell BK730.out 2).trans rfl,((HB.out.cell (World.block_lt_of_cell? w _ hw732_0)).trans hw732_0),((HB.out.cell (World.block_lt_of_cell? w _ hw733_0)).trans hw733_0)⟩ (fun hHeld => ?_);refine with_tabW hinterlandlaw06_joins.tab4 hinterlandlaw06_joins.bits4 (fun HT_ HW_ => ?_)
    generalize wr.drew = w13 at BK730 BK731 HB hx732_0 hx733_0 hHeld ⊢
    refine pI 1 (some 18) ?_
    refine pI 2 (some 19) ?_
    refine pI 3 (some 20) ?_
    refine pI 4 (some 21) ?_
    refine pI 6 (some 23) ?_
    refine pI 7 (some 24) ?_
    refine pI 8 (some 25) ?_
    refine tI5 0 (some 17) hHeld ?_
    refine tI5 5 (some 22) hHeld ?_
    refine tI5 9 (some 26) hHeld ?_
    refine oI 10 (some 27) (fun K hK => ?_)
    refine goes_ Try.func55 (by kernel_rfl) rfl #[.agg #[.int .i64 a0_0,.int .i64 a0_1,.slice A0_2 l0_2.length c0_2],.int .i64 (rd l2 (ji7)),.int .i64 (rd l2 x7_1)] (by rfl) rfl rfl (by (try simp only [List.map_toArray,List.map_cons,List.map_nil]);first|done|(simp only [hji7];rfl)|rfl|(simp only [List.length_drop,List.length_take];rfl)) ?_
    with_reducible refine (hinterlandlaw06_beside.calls k1 a0_0 a0_1 _ _ l0_2 (rd l2 (ji7)) (rd l2 x7_1) t734 _ ?side1 ?side2 A11.out).mono ?_
    (case side1 => exact Kd.C_up (Kd.C_below HR0_2.out HB.out))
    (case side2 => exact HC0_2.out)
    rintro e w14 ⟨rfl,hb⟩
    refine ⟨_,rfl,?_⟩
    have n0_:=bkb BK730 hb
    have n1_:=bkb BK731 hb
    have n2_:=Aside0.mk (below_step (hb_) hb)
    clear BK730
    clear BK731
    clear HB
    have BK730:=n0_
    have BK731:=n1_
    have HB:=n2_
    clear n0_ n1_ n2_
    (try clear hb)
    (try clear hb2)
    (try clear hk)
    (try clear hi)
    refine hK.out _ _ ⟨(blk_cell BK730.out 0).trans rfl,(blk_cell BK730.out 1).trans rfl,(blk_cell BK730.out 2).trans rfl,((HB.out.cell (World.block_lt_of_cell? w _ hw732_0)).trans hw732_0),((HB.out.cell (World.block_lt_of_cell? w _ hw733_0)).trans hw733_0)⟩ (fun hHeld => ?_)
    clear hK K
    refine norm_ (a':=?_) ?_ ?_
    rotate_left
    ·show Act.put _ (some 27) _ = _
     simp only [Act.put,List.setIfInBounds_toArray,List.set_cons_zero,List.set_cons_succ,i64_w,i32_w]
     rfl
    refine pI 11 (some 8) ?_
    refine done_ (done_of HT_.out (by kernel_rfl)) ?_
    try go_wp2
    go_ret
    exact ⟨by first|rfl|(simp [errW_none,errW_some] <;> rfl)|(simp only [← hji7];first|rfl|(simp [errW_none,errW_some] <;> rfl))|(simp [*,errW_none,errW_some] <;> rfl),hb_⟩
   rw [if_neg c12] at H
   have c12b0 : decide (t734 < 0) = false:=decide_eq_false c12
   clear c12
   replace H:=Option.bind_eq_some_iff.mp H
   obtain ⟨⟨t736,t737⟩,A150,H⟩:=H
   replace H : (if t736 = true then (hinterlandlaw06_joins.j1 k1 l2 x7_1 (t737 != 0) a0_0 a0_1 l0_2 l1_0 l1_1) else (hinterlandlaw06_joins.j1 k1 l2 x7_1 true a0_0 a0_1 l0_2 l1_0 l1_1)) = some r:=H
   have A15:=Aside0.mk A150
   clear A150
   have HC16:=Aside0.mk H
   clear H
   try go_wp2
   replace BK730:=Aside0.mk (blk_drew BK730.out)
   replace BK731:=Aside0.mk (blk_drew BK731.out)
   replace HB:=Aside0.mk (below_drew1 HB.out)
   have p732 : 0 ≤ ((ji7) : Int):=of_decide_eq_true (by first|(with_reducible assumption)|assumption)
   have q732 : (ji7) < (l2.length : Int):=of_decide_eq_true (by first|(with_reducible assumption)|assumption)
   obtain ⟨ad732,e732,hx732_0⟩:=Kd.at_int HR2.out (ji7) p732 q732
   have hw732_0:=hx732_0
   cases e732
   replace hx732_0:=(HB.out.cell (World.block_lt_of_cell? w _ hx732_0)).trans hx732_0
   replace p732:=eq_true p732
   replace q732:=eq_true q732
   have p733 : 0 ≤ (x7_1 : Int):=of_decide_eq_true (by first|(with_reducible assumption)|assumption)
   have q733 : x7_1 < (l2.length : Int):=of_decide_eq_true (by first|(with_reducible assumption)|assumption)
   obtain ⟨ad733,e733,hx733_0⟩:=Kd.at_int HR2.out x7_1 p733 q733
   have hw733_0:=hx733_0
   obtain rfl : ad732 = ad733:=(by injection e733)
   replace hx733_0:=(HB.out.cell (World.block_lt_of_cell? w _ hx733_0)).trans hx733_0
   replace p733:=eq_true p733
   replace q733:=eq_true q733
   refine start_ (n:=12) (S:=fun w' => w'.cell? ⟨gb730,0,none⟩ = some (.int .i64 a0_0) ∧ w'.cell? ⟨gb730,1,none⟩ = some (.int .i64 a0_1) ∧ w'.cell? ⟨gb730,2,none⟩ = some (.slice A0_2 l0_2.length c0_2) ∧ w'.cell? (ad732.add ((ji7)).toNat) = some (.int .i64 (rd l2 (ji7))) ∧ w'.cell? (ad732.add (x7_1).toNat) = some (.int .i64 (rd l2 x7_1))) (ds:=[]) #[false,false,false,false,false,false,false,false,false,false,false,false] (by kernel_rfl) rfl rfl ⟨(blk_cell BK730.out 0).trans rfl,(blk_cell BK730.out 1).trans rfl,(blk_cell BK730.out 2).trans rfl,((HB.out.cell (World.block_lt_of_cell? w _ hw732_0)).trans hw732_0),((HB.out.cell (World.block_lt_of_cell? w _ hw733_0)).trans hw733_0)⟩ (fun hHeld => ?_);refine with_tabW hinterlandlaw06_joins.tab4 hinterlandlaw06_joins.bits4 (fun HT_ HW_ => ?_)
   generalize wr.drew = w17 at BK730 BK731 HB hx732_0 hx733_0 hHeld ⊢
   refine pI 1 (some 18) ?_
   refine pI 2 (some 19) ?_
   refine pI 3 (some 20) ?_
   refine pI 4 (some 21) ?_
   refine pI 6 (some 23) ?_
   refine pI 7 (some 24) ?_
   refine pI 8 (some 25) ?_
   refine tI5 0 (some 17) hHeld ?_
   refine tI5 5 (some 22) hHeld ?_
   refine tI5 9 (some 26) hHeld ?_
   refine oI 10 (some 27) (fun K hK => ?_)
   refine goes_ Try.func55 (by kernel_rfl) rfl #[.agg #[.int .i64 a0_0,.int .i64 a0_1,.slice A0_2 l0_2.length c0_2],.int .i64 (rd l2 (ji7)),.int .i64 (rd l2 x7_1)] (by rfl) rfl rfl (by (try simp only [List.map_toArray,List.map_cons,List.map_nil]);first|done|(simp only [hji7];rfl)|rfl|(simp only [List.length_drop,List.length_take];rfl)) ?_
   with_reducible refine (hinterlandlaw06_beside.calls k1 a0_0 a0_1 _ _ l0_2 (rd l2 (ji7)) (rd l2 x7_1) t734 _ ?side1 ?side2 A11.out).mono ?_
   (case side1 => exact Kd.C_up (Kd.C_below HR0_2.out HB.out))
   (case side2 => exact HC0_2.out)
   rintro e w18 ⟨rfl,hb⟩
   refine ⟨_,rfl,?_⟩
   have n0_:=bkb BK730 hb
   have n1_:=bkb BK731 hb
   have n2_:=Aside0.mk (below_step (hb_) hb)
   clear BK730
   clear BK731
   clear HB
   have BK730:=n0_
   have BK731:=n1_
   have HB:=n2_
   clear n0_ n1_ n2_
   (try clear hb)
   (try clear hb2)
   (try clear hk)
   (try clear hi)
   refine hK.out _ _ ⟨(blk_cell BK730.out 0).trans rfl,(blk_cell BK730.out 1).trans rfl,(blk_cell BK730.out 2).trans rfl,((HB.out.cell (World.block_lt_of_cell? w _ hw732_0)).trans hw732_0),((HB.out.cell (World.block_lt_of_cell? w _ hw733_0)).trans hw733_0)⟩ (fun hHeld => ?_)
   clear hK K
   refine norm_ (a':=?_) ?_ ?_
   rotate_left
   ·show Act.put _ (some 27) _ = _
    simp only [Act.put,List.setIfInBounds_toArray,List.set_cons_zero,List.set_cons_succ,i64_w,i32_w]
    rfl
   refine pI 11 (some 8) ?_
   refine done_ (done_of HT_.out (by kernel_rfl)) ?_
   try go_wp2
   replace BK730:=Aside0.mk (blk_drew BK730.out)
   replace BK731:=Aside0.mk (blk_drew BK731.out)
   replace HB:=Aside0.mk (below_drew1 HB.out)
   have p735 : 0 ≤ ((ji7) : Int):=of_decide_eq_true (by first|(with_reducible assumption)|assumption)
   have q735 : (ji7) < (l2.length : Int):=of_decide_eq_true (by first|(with_reducible assumption)|assumption)
   obtain ⟨ad735,e735,hx735_0⟩:=Kd.at_int HR2.out (ji7) p735 q735
   have hw735_0:=hx735_0
   obtain rfl : ad732 = ad735:=(by injection e735)
   replace hx735_0:=(HB.out.cell (World.block_lt_of_cell? w _ hx735_0)).trans hx735_0
   replace p735:=eq_true p735
   replace q735:=eq_true q735
   refine start_ (n:=14) (S:=fun w' => w'.cell? ⟨gb730,0,none⟩ = some (.int .i64 a0_0) ∧ w'.cell? ⟨gb730,1,none⟩ = some (.int .i64 a0_1) ∧ w'.cell? ⟨gb730,2,none⟩ = some (.slice A0_2 l0_2.length c0_2) ∧ w'.cell? ⟨gb731,0,none⟩ = some (.slice A1_0 l1_0.length c1_0) ∧ w'.cell? ⟨gb731,1,none⟩ = some (.slice A1_1 l1_1.length c1_1) ∧ w'.cell? (ad732.add ((ji7)).toNat) = some (.int .i64 (rd l2 (ji7)))) (ds:=[]) #[false,false,false,false,false,false,false,false,false,false,false,false,false,false] (by kernel_rfl) rfl rfl ⟨(blk_cell BK730.out 0).trans rfl,(blk_cell BK730.out 1).trans rfl,(blk_cell BK730.out 2).trans rfl,(blk_cell BK731.out 0).trans rfl,(blk_cell BK731.out 1).trans rfl,((HB.out.cell (World.block_lt_of_cell? w _ hw735_0)).trans hw735_0)⟩ (fun hHeld => ?_);refine with_tabW hinterlandlaw06_joins.tab7 hinterlandlaw06_joins.bits7 (fun HT_ HW_ => ?_)
   generalize w18.drew = w19 at BK730 BK731 HB hx735_0 hHeld ⊢
   refine pI 2 (some 33) ?_
   refine pI 3 (some 34) ?_
   refine pI 4 (some 35) ?_
   refine pI 5 (some 36) ?_
   refine pI 7 (some 38) ?_
   refine tI6 0 (some 31) hHeld ?_
   refine tI6 1 (some 32) hHeld ?_
   refine tI6 6 (some 37) hHeld ?_
   refine oI 8 (some 39) (fun K hK => ?_)
   refine goes_ Try.func16 (by kernel_rfl) rfl #[.agg #[.int .i64 a0_0,.int .i64 a0_1,.slice A0_2 l0_2.length c0_2],.agg #[.slice A1_0 l1_0.length c1_0,.slice A1_1 l1_1.length c1_1],.int .i64 (rd l2 (ji7)),.int .i64 t734] (by rfl) rfl rfl (by (try simp only [List.map_toArray,List.map_cons,List.map_nil]);first|done|(simp only [hji7];rfl)|rfl|(simp only [List.length_drop,List.length_take];rfl)) ?_
   with_reducible refine (water_Joined.calls k1 a0_0 a0_1 _ _ l0_2 _ _ l1_0 _ _ l1_1 (rd l2 (ji7)) t734 t736 t737 _ ?side1 ?side2 ?side3 ?side4 ?side5 ?side6 A15.out).mono ?_
   (case side1 => exact Kd.C_up (Kd.C_below HR0_2.out HB.out))
   (case side2 => exact HC0_2.out)
   (case side3 => exact Kd.C_up (Kd.C_below HR1_0.out HB.out))
   (case side4 => exact HC1_0.out)
   (case side5 => exact Kd.C_up (Kd.C_below HR1_1.out HB.out))
   (case side6 => exact HC1_1.out)
   rintro e w20 ⟨rfl,hb⟩
   refine ⟨_,rfl,?_⟩
   have n0_:=bkb BK730 hb
   have n1_:=bkb BK731 hb
   have n2_:=Aside0.mk (below_step (hb_) hb)
   clear BK730
   clear BK731
   clear HB
   have BK730:=n0_
   have BK731:=n1_
   have HB:=n2_
   clear n0_ n1_ n2_
   (try clear hb)
   (try clear hb2)
   (try clear hk)
   (try clear hi)
   refine hK.out _ _ ⟨(blk_cell BK730.out 0).trans rfl,(blk_cell BK730.out 1).trans rfl,(blk_cell BK730.out 2).trans rfl,(blk_cell BK731.out 0).trans rfl,(blk_cell BK731.out 1).trans rfl,((HB.out.cell (World.block_lt_of_cell? w _ hw735_0)).trans hw735_0)⟩ (fun hHeld => ?_)
   clear hK K
   refine norm_ (a':=?_) ?_ ?_
   rotate_left
   ·show Act.put _ (some 39) _ = _
    simp only [Act.put,List.setIfInBounds_toArray,List.set_cons_zero,List.set_cons_succ,i64_w,i32_w]
    rfl
   refine pI 9 (some 30) ?_
   refine pI 10 (some 40) ?_
   refine pI 11 (some 41) ?_
   refine pI 12 (some 9) ?_
   refine pI 13 (some 10) ?_
   refine done_ (done_of HT_.out (by kernel_rfl)) ?_
   go_upto_region 8 with (fail)
   go_cut [47] (fun v47 wc => ∃ (kq : Nat) (x47_15 : Bool),v47 = .bool x47_15 ∧ Aside0 (hinterlandlaw06_joins.j1 kq l2 x7_1 x47_15 a0_0 a0_1 l0_2 l1_0 l1_1 = some r) ∧ Aside0 (kq ≤ k1) ∧ Aside0 (wc.heap[gb730]? = some (.cells #[.int .i64 a0_0,.int .i64 a0_1,(.slice A0_2 l0_2.length c0_2)] 24 (0,0))) ∧ Aside0 (wc.heap[gb731]? = some (.cells #[(.slice A1_0 l1_0.length c1_0),(.slice A1_1 l1_1.length c1_1)] 26 (0,0))) ∧ Aside0 (Below w.heap.size w wc))
   case first =>
    have H:=HC16.out
    clear HC16
    by_cases c21 : t736 = true
    ·subst c21
     have H1 : (hinterlandlaw06_joins.j1 k1 l2 x7_1 (t737 != 0) a0_0 a0_1 l0_2 l1_0 l1_1) = some r:=by rw [if_pos rfl] at H;exact H
     clear H
     have H:=H1
     clear H1
     have H':=Aside0.mk H
     clear H
     go_wp2
     go_meet
     case rel => exact ⟨_,((t737 != 0)),(by first|rfl|(simp;done)|(simp [*];done)),H',⟨by have:=HK1.out;first|omega|exact Nat.le_refl _⟩,⟨blk_up BK730.out⟩,⟨blk_up BK731.out⟩,⟨hb_⟩⟩
    ·replace c21:=Bool.eq_false_iff.mpr c21
     subst c21
     have H1 : (hinterlandlaw06_joins.j1 k1 l2 x7_1 true a0_0 a0_1 l0_2 l1_0 l1_1) = some r:=by rw [if_neg (show ¬ (false = true) by decide)] at H;exact H
     clear H
     have H:=H1
     clear H1
     have H':=Aside0.mk H
     clear H
     go_wp2
     go_meet
     case rel => exact ⟨_,(true),(by first|rfl|(simp;done)|(simp [*];done)),H',⟨by have:=HK1.out;first|omega|exact Nat.le_refl _⟩,⟨blk_up BK730.out⟩,⟨blk_up BK731.out⟩,⟨hb_⟩⟩
   case rest =>
    clear HC16
    obtain ⟨kq,x47_15,rfl,HA,HJ15,BK730,BK731,HB⟩:=hcut
    cases kq with
    | zero => exact absurd HA.out (by simp [hinterlandlaw06_joins.j1])
    | succ kj15 =>
     have H:=HA.out
     clear HA
     simp only [hinterlandlaw06_joins.j1] at H
     by_cases c22 : x47_15 = true
     ·subst c22
      have H1 : (some false) = some r:=by rw [if_pos rfl] at H;exact H
      clear H
      have H:=H1
      clear H1
      obtain rfl:=Option.some.inj H
      go_wp2
      go_ret
      exact ⟨by first|rfl|(simp [errW_none,errW_some] <;> rfl)|(simp only [← hji7];first|rfl|(simp [errW_none,errW_some] <;> rfl))|(simp [*,errW_none,errW_some] <;> rfl),hb_⟩
     ·replace c22:=Bool.eq_false_iff.mpr c22
      subst c22
      have H1 : (hinterlandlaw06_joins.l0 kj15 l2 (wrap64 (x7_1 + 1)) a0_0 a0_1 l0_2 l1_0 l1_1) = some r:=by rw [if_neg (show ¬ (false = true) by decide)] at H;exact H
      clear H
      have H:=H1
      clear H1
      have H':=Aside0.mk H
      clear H
      go_wp2
      go_roundg kj15
      case measure => have:=HK1.out;have:=HJ15.out;omega
      case rel => exact ⟨(wrap64 (x7_1 + 1)),(by first|rfl|(simp;done)|(simp [*];done)),H',⟨by have:=HK1.out;have:=HJ15.out;omega⟩,⟨blk_up BK730.out⟩,⟨blk_up BK731.out⟩,⟨hb_⟩⟩

end Go.Proofs.Ytiencnnkphipoaa.P

/- Functions of this seat as plain Lean functions, with proofs that the Go code comes to just their answers, or what stands between them and a law's statement; no conditions. (Laid by a program of this session, out of the kit's print.) -/
import Derived.Test.YtiencnnkphipoaaPx0
import Derived.Test.YtiencnnkphipoaaPx8
import Derived.Test.YtiencnnkphipoaaPx9
namespace Go.Proofs.Ytiencnnkphipoaa.P
open Go.RowKit Go.Proofs.YtiencnnkphipoaaW.PrintWords Go.Proofs.YtiencnnkphipoaaW.PrintLast Go.Proofs.YtiencnnkphipoaaW.PrintMore
attribute [local go_sem] max2_int min2_int max_two min_two max_three min_three max_four min_four   -- for this text's walks alone
set_option linter.unusedVariables false
set_option linter.unusedSimpArgs false

/-! ### hinterlandref06_lies: function 49 -/
def hinterlandref06_lies.j0 : Nat → Int → Int → Bool → Int → Bool → Option (Int)
 | 0,_,_,_,_,_ => none
 | k + 1,x2,x7,x9,x19,x20 => if x20 = true then (if x9 = true then (some 9) else (if x2 = 1 then (if x7 = 0 then (if x2 = 2 then ((hinterlandref06_upper.f x7).bind fun t344 => (if t344 < 0 then (some 5) else (some 0))) else (some 0)) else (some 5)) else (if x2 = 2 then ((hinterlandref06_upper.f x7).bind fun t345 => (if t345 < 0 then (some 5) else (some 0))) else (some 0)))) else (if x19 = 3 then (if x9 = true then (some 0) else (if x7 = 0 then (some 0) else (some 9))) else (some 0))
def hinterlandref06_lies.f (k : Nat) (a0_0 : Int) (a0_1 : Int) (l0_2 : List Int) (a1 : Int) (a2 : Int) : Option (Int) := (hinterlandref02_Face.f k a0_0 a0_1 l0_2 a1).bind fun bt341 => ((hinterlandref02_Sea.f k a0_0 a0_1 l0_2 a1).bind fun t343 => (if a2 = 1 then (hinterlandref06_lies.j0 k a2 bt341.1 t343 a2 (a2 == 1)) else (hinterlandref06_lies.j0 k a2 bt341.1 t343 a2 (a2 == 2))))
theorem hinterlandref06_lies.mono_l : ∀ k, (∀ y0 y1 y2 y3 y4, LeO (hinterlandref06_lies.j0 k y0 y1 y2 y3 y4) (hinterlandref06_lies.j0 (k + 1) y0 y1 y2 y3 y4))
 | 0 => fun _ _ _ _ _ r h => by simp [hinterlandref06_lies.j0] at h
 | k + 1 => by
  have ih0:=hinterlandref06_lies.mono_l k
  ·intro y0 y1 y2 y3 y4
   unfold hinterlandref06_lies.j0
   repeat' first
   | (with_reducible exact ih0 _ _ _ _ _)
   | (with_reducible exact hinterlandref02_Face.mono _ _ _ _ _)
   | (with_reducible exact hinterlandref02_Sea.mono _ _ _ _ _)
   | (with_reducible exact LeO.refl _)
   | (with_reducible exact LeO.none _)
   | (with_reducible refine LeO.ite ?_ ?_)
   | (with_reducible refine LeO.bind ?_ (fun _ => ?_))
   | exact ih0 _ _ _ _ _
   | exact hinterlandref02_Face.mono _ _ _ _ _
   | exact hinterlandref02_Sea.mono _ _ _ _ _
   | exact LeO.none _
   | refine LeO.ite ?_ ?_
   | refine LeO.bind ?_ (fun _ => ?_)
theorem hinterlandref06_lies.mono : ∀ a0 a1 a2 a3 a4 k, LeO (hinterlandref06_lies.f k a0 a1 a2 a3 a4) (hinterlandref06_lies.f (k + 1) a0 a1 a2 a3 a4) := by
 intro a0 a1 a2 a3 a4 k
 have ih0:=hinterlandref06_lies.mono_l k
 unfold hinterlandref06_lies.f
 repeat' first
   | (with_reducible exact ih0 _ _ _ _ _)
   | (with_reducible exact hinterlandref02_Face.mono _ _ _ _ _)
   | (with_reducible exact hinterlandref02_Sea.mono _ _ _ _ _)
   | (with_reducible exact LeO.refl _)
   | (with_reducible exact LeO.none _)
   | (with_reducible refine LeO.ite ?_ ?_)
   | (with_reducible refine LeO.bind ?_ (fun _ => ?_))
   | exact ih0 _ _ _ _ _
   | exact hinterlandref02_Face.mono _ _ _ _ _
   | exact hinterlandref02_Sea.mono _ _ _ _ _
   | exact LeO.none _
   | refine LeO.ite ?_ ?_
   | refine LeO.bind ?_ (fun _ => ?_)
set_option maxHeartbeats 8000000 in
set_option maxRecDepth 100000 in
theorem hinterlandref06_lies.calls (k : Nat) (a0_0 : Int) (a0_1 : Int) (A0_2 : Option Addr) (c0_2 : Nat) (l0_2 : List Int) (a1 : Int) (a2 : Int) (r : Int) (w : World) (hr0_2 : Kd.C (Kd.int .i64) w A0_2 l0_2.length l0_2) (hc0_2 : l0_2.length ≤ c0_2) (h : hinterlandref06_lies.f k a0_0 a0_1 l0_2 a1 a2 = some r) :
  Calls Try.prog 49 #[.agg #[.int .i64 a0_0,.int .i64 a0_1,.slice A0_2 l0_2.length c0_2],.int .i64 a1,.int .i64 a2] w fun e w' => e = .returned (.int .i64 r) ∧ Below w.heap.size w w':=by
 have hu24:=Try.underlying24
 have HR0_2:=Aside0.mk hr0_2
 have HC0_2:=Aside0.mk hc0_2
 clear hr0_2 hc0_2
 have HB:=Aside0.mk (Below.refl w.heap.size w)
 have H : ((hinterlandref02_Face.f k a0_0 a0_1 l0_2 a1).bind fun bt341 => ((hinterlandref02_Sea.f k a0_0 a0_1 l0_2 a1).bind fun t343 => (if a2 = 1 then (hinterlandref06_lies.j0 k a2 bt341.1 t343 a2 (a2 == 1)) else (hinterlandref06_lies.j0 k a2 bt341.1 t343 a2 (a2 == 2))))) = some r:=h
 clear h
 replace H:=Option.bind_eq_some_iff.mp H
 obtain ⟨⟨t341,t342⟩,A40,H⟩:=H
 replace H : ((hinterlandref02_Sea.f k a0_0 a0_1 l0_2 a1).bind fun t343 => (if a2 = 1 then (hinterlandref06_lies.j0 k a2 t341 t343 a2 (a2 == 1)) else (hinterlandref06_lies.j0 k a2 t341 t343 a2 (a2 == 2)))) = some r:=H
 have A4:=Aside0.mk A40
 clear A40
 replace H:=Option.bind_eq_some_iff.mp H
 obtain ⟨t343,A50,H⟩:=H
 replace H : (if a2 = 1 then (hinterlandref06_lies.j0 k a2 t341 t343 a2 (a2 == 1)) else (hinterlandref06_lies.j0 k a2 t341 t343 a2 (a2 == 2))) = some r:=H
 have A5:=Aside0.mk A50
 clear A50
 have HC6:=Aside0.mk H
 clear H
 go_enter Try.func49,Try.ntmps49
 go_upto_if 20 with (first|((with_reducible refine gate_dst (N:=3) rfl ?_);refine box_ev (N:=3) (cs:=#[.int .i64 a0_0,.int .i64 a0_1,.slice A0_2 l0_2.length c0_2]) (t:=24) ?_;intro gb340 hg w7 hbox hb;have BK340:=Aside0.mk (hbox);have GW340 : Aside0 (w.heap.size ≤ gb340):=gsz hg;have GE340:=GW340;replace HB:=Aside0.mk (below_step (hb_) hb);clear hb hbox hg;obtain ⟨hcz8_0,hcz8_1,hcz8_2,hfz8_0,hfz8_1,hfz8_2⟩:=cells3 BK340.out)|((with_reducible refine gate_callee (f:=50) rfl ?_);refine goesL_ (some 13) rfl rfl Try.func50 (by kernel_rfl) rfl #[.agg #[.int .i64 a0_0,.int .i64 a0_1,.slice A0_2 l0_2.length c0_2],.int .i64 a1] rfl (by (try simp only [List.map_toArray,List.map_cons,List.map_nil]);first|done|rfl|(simp only [List.length_drop,List.length_take];rfl)) ?_;(with_reducible refine (hinterlandref02_Face.calls k a0_0 a0_1 _ _ l0_2 a1 t341 t342 _ ?side1 ?side2 A4.out).mono ?_);(case side1 => exact Kd.C_up (Kd.C_below HR0_2.out HB.out));(case side2 => exact HC0_2.out);rintro e w9 ⟨rfl,hb⟩;refine ⟨_,rfl,?_⟩;replace BK340:=bkb BK340 hb;replace HB:=Aside0.mk (below_step (hb_) hb);obtain ⟨hcz10_0,hcz10_1,hcz10_2,hfz10_0,hfz10_1,hfz10_2⟩:=cells3 BK340.out)|((with_reducible refine gate_callee (f:=51) rfl ?_);refine goesL_ (some 18) rfl rfl Try.func51 (by kernel_rfl) rfl #[.agg #[.int .i64 a0_0,.int .i64 a0_1,.slice A0_2 l0_2.length c0_2],.int .i64 a1] rfl (by (try simp only [List.map_toArray,List.map_cons,List.map_nil]);first|done|rfl|(simp only [List.length_drop,List.length_take];rfl)) ?_;(with_reducible refine (hinterlandref02_Sea.calls k a0_0 a0_1 _ _ l0_2 a1 t343 _ ?side1 ?side2 A5.out).mono ?_);(case side1 => exact Kd.C_up (Kd.C_below HR0_2.out HB.out));(case side2 => exact HC0_2.out);rintro e w11 ⟨rfl,hb⟩;refine ⟨_,rfl,?_⟩;replace BK340:=bkb BK340 hb;replace HB:=Aside0.mk (below_step (hb_) hb)))
 (try simp only [Act.put,List.setIfInBounds_toArray,List.set_cons_zero,List.set_cons_succ])
 go_cut [20] (fun v20 wc => ∃ (kq : Nat) (x20_5 : Bool),v20 = .bool x20_5 ∧ Aside0 (hinterlandref06_lies.j0 kq a2 t341 t343 a2 x20_5 = some r) ∧ Aside0 (kq ≤ k) ∧ Aside0 (wc.heap[gb340]? = some (.cells #[.int .i64 a0_0,.int .i64 a0_1,(.slice A0_2 l0_2.length c0_2)] 24 (0,0))) ∧ Aside0 (Below w.heap.size w wc))
 case first =>
  have H:=HC6.out
  clear HC6
  by_cases c12 : a2 = 1
  ·rw [if_pos c12] at H
   have c12b0 : (a2 == 1) = true:=beq_iff_eq.mpr c12
   have c12b1 : (a2 != 1) = false:=bne_eq_false_iff_eq.mpr c12
   clear c12
   (first|rw [c12b0]|(simp only [i64_w,i32_w];rw [c12b0])|skip)
   have H':=Aside0.mk H
   clear H
   go_wp2
   go_meet
   case rel => exact ⟨_,((a2 == 1)),(by first|rfl|(simp;done)|(simp [*];done)),H',⟨by first|omega|exact Nat.le_refl _⟩,⟨blk_up BK340.out⟩,⟨hb_⟩⟩
  ·rw [if_neg c12] at H
   have c12b0 : (a2 == 1) = false:=beq_eq_false_iff_ne.mpr c12
   have c12b1 : (a2 != 1) = true:=bne_iff_ne.mpr c12
   (first|rw [c12b0]|(simp only [i64_w,i32_w];rw [c12b0])|skip)
   have H':=Aside0.mk H
   clear H
   go_wp2
   go_meet
   case rel => exact ⟨_,((a2 == 2)),(by first|rfl|(simp;done)|(simp [*];done)),H',⟨by first|omega|exact Nat.le_refl _⟩,⟨blk_up BK340.out⟩,⟨hb_⟩⟩
 case rest =>
  clear HC6
  obtain ⟨kq,x20_5,rfl,HA,HJ5,BK340,HB⟩:=hcut
  cases kq with
  | zero => exact absurd HA.out (by simp [hinterlandref06_lies.j0])
  | succ kj5 =>
   have H:=HA.out
   clear HA
   simp only [hinterlandref06_lies.j0] at H
   by_cases c13 : x20_5 = true
   ·subst c13
    have H1 : (if t343 = true then (some 9) else (if a2 = 1 then (if t341 = 0 then (if a2 = 2 then ((hinterlandref06_upper.f t341).bind fun t344 => (if t344 < 0 then (some 5) else (some 0))) else (some 0)) else (some 5)) else (if a2 = 2 then ((hinterlandref06_upper.f t341).bind fun t345 => (if t345 < 0 then (some 5) else (some 0))) else (some 0)))) = some r:=by rw [if_pos rfl] at H;exact H
    clear H
    have H:=H1
    clear H1
    by_cases c14 : t343 = true
    ·subst c14
     have H1 : (some 9) = some r:=by rw [if_pos rfl] at H;exact H
     clear H
     have H:=H1
     clear H1
     obtain rfl:=Option.some.inj H
     go_wp2
     go_ret
     exact ⟨by first|rfl|(simp [errW_none,errW_some] <;> rfl)|(simp [*,errW_none,errW_some] <;> rfl),hb_⟩
    ·replace c14:=Bool.eq_false_iff.mpr c14
     subst c14
     have H1 : (if a2 = 1 then (if t341 = 0 then (if a2 = 2 then ((hinterlandref06_upper.f t341).bind fun t344 => (if t344 < 0 then (some 5) else (some 0))) else (some 0)) else (some 5)) else (if a2 = 2 then ((hinterlandref06_upper.f t341).bind fun t345 => (if t345 < 0 then (some 5) else (some 0))) else (some 0))) = some r:=by rw [if_neg (show ¬ (false = true) by decide)] at H;exact H
     clear H
     have H:=H1
     clear H1
     by_cases c15 : a2 = 1
     ·rw [if_pos c15] at H
      have c15b0 : (a2 == 1) = true:=beq_iff_eq.mpr c15
      have c15b1 : (a2 != 1) = false:=bne_eq_false_iff_eq.mpr c15
      clear c15
      by_cases c16 : t341 = 0
      ·rw [if_pos c16] at H
       have c16b0 : (t341 == 0) = true:=beq_iff_eq.mpr c16
       have c16b1 : (t341 != 0) = false:=bne_eq_false_iff_eq.mpr c16
       clear c16
       by_cases c17 : a2 = 2
       ·rw [if_pos c17] at H
        have c17b0 : (a2 == 2) = true:=beq_iff_eq.mpr c17
        have c17b1 : (a2 != 2) = false:=bne_eq_false_iff_eq.mpr c17
        clear c17
        replace H:=Option.bind_eq_some_iff.mp H
        obtain ⟨t344,A180,H⟩:=H
        replace H : (if t344 < 0 then (some 5) else (some 0)) = some r:=H
        have A18:=Aside0.mk A180
        clear A180
        by_cases c19 : t344 < 0
        ·rw [if_pos c19] at H
         have c19b0 : decide (t344 < 0) = true:=decide_eq_true c19
         clear c19
         obtain rfl:=Option.some.inj H
         go_wp2_with (first|(go_at_call 63;(with_reducible refine (hinterlandref06_upper.calls t341 t344 _ A18.out).mono ?_);rintro e w' ⟨rfl,⟨nd,rfl⟩⟩))
         go_ret
         exact ⟨by first|rfl|(simp [errW_none,errW_some] <;> rfl)|(simp [*,errW_none,errW_some] <;> rfl),hb_⟩
        ·rw [if_neg c19] at H
         have c19b0 : decide (t344 < 0) = false:=decide_eq_false c19
         clear c19
         obtain rfl:=Option.some.inj H
         go_wp2_with (first|(go_at_call 63;(with_reducible refine (hinterlandref06_upper.calls t341 t344 _ A18.out).mono ?_);rintro e w' ⟨rfl,⟨nd,rfl⟩⟩))
         go_ret
         exact ⟨by first|rfl|(simp [errW_none,errW_some] <;> rfl)|(simp [*,errW_none,errW_some] <;> rfl),hb_⟩
       ·rw [if_neg c17] at H
        have c17b0 : (a2 == 2) = false:=beq_eq_false_iff_ne.mpr c17
        have c17b1 : (a2 != 2) = true:=bne_iff_ne.mpr c17
        obtain rfl:=Option.some.inj H
        go_wp2
        go_ret
        exact ⟨by first|rfl|(simp [errW_none,errW_some] <;> rfl)|(simp [*,errW_none,errW_some] <;> rfl),hb_⟩
      ·rw [if_neg c16] at H
       have c16b0 : (t341 == 0) = false:=beq_eq_false_iff_ne.mpr c16
       have c16b1 : (t341 != 0) = true:=bne_iff_ne.mpr c16
       obtain rfl:=Option.some.inj H
       go_wp2
       go_ret
       exact ⟨by first|rfl|(simp [errW_none,errW_some] <;> rfl)|(simp [*,errW_none,errW_some] <;> rfl),hb_⟩
     ·rw [if_neg c15] at H
      have c15b0 : (a2 == 1) = false:=beq_eq_false_iff_ne.mpr c15
      have c15b1 : (a2 != 1) = true:=bne_iff_ne.mpr c15
      by_cases c20 : a2 = 2
      ·rw [if_pos c20] at H
       have c20b0 : (a2 == 2) = true:=beq_iff_eq.mpr c20
       have c20b1 : (a2 != 2) = false:=bne_eq_false_iff_eq.mpr c20
       clear c20
       replace H:=Option.bind_eq_some_iff.mp H
       obtain ⟨t345,A210,H⟩:=H
       replace H : (if t345 < 0 then (some 5) else (some 0)) = some r:=H
       have A21:=Aside0.mk A210
       clear A210
       by_cases c22 : t345 < 0
       ·rw [if_pos c22] at H
        have c22b0 : decide (t345 < 0) = true:=decide_eq_true c22
        clear c22
        obtain rfl:=Option.some.inj H
        go_wp2_with (first|(go_at_call 63;(with_reducible refine (hinterlandref06_upper.calls t341 t345 _ A21.out).mono ?_);rintro e w' ⟨rfl,⟨nd,rfl⟩⟩))
        go_ret
        exact ⟨by first|rfl|(simp [errW_none,errW_some] <;> rfl)|(simp [*,errW_none,errW_some] <;> rfl),hb_⟩
       ·rw [if_neg c22] at H
        have c22b0 : decide (t345 < 0) = false:=decide_eq_false c22
        clear c22
        obtain rfl:=Option.some.inj H
        go_wp2_with (first|(go_at_call 63;(with_reducible refine (hinterlandref06_upper.calls t341 t345 _ A21.out).mono ?_);rintro e w' ⟨rfl,⟨nd,rfl⟩⟩))
        go_ret
        exact ⟨by first|rfl|(simp [errW_none,errW_some] <;> rfl)|(simp [*,errW_none,errW_some] <;> rfl),hb_⟩
      ·rw [if_neg c20] at H
       have c20b0 : (a2 == 2) = false:=beq_eq_false_iff_ne.mpr c20
       have c20b1 : (a2 != 2) = true:=bne_iff_ne.mpr c20
       obtain rfl:=Option.some.inj H
       go_wp2
       go_ret
       exact ⟨by first|rfl|(simp [errW_none,errW_some] <;> rfl)|(simp [*,errW_none,errW_some] <;> rfl),hb_⟩
   ·replace c13:=Bool.eq_false_iff.mpr c13
    subst c13
    have H1 : (if a2 = 3 then (if t343 = true then (some 0) else (if t341 = 0 then (some 0) else (some 9))) else (some 0)) = some r:=by rw [if_neg (show ¬ (false = true) by decide)] at H;exact H
    clear H
    have H:=H1
    clear H1
    by_cases c23 : a2 = 3
    ·rw [if_pos c23] at H
     have c23b0 : (a2 == 3) = true:=beq_iff_eq.mpr c23
     have c23b1 : (a2 != 3) = false:=bne_eq_false_iff_eq.mpr c23
     clear c23
     by_cases c24 : t343 = true
     ·subst c24
      have H1 : (some 0) = some r:=by rw [if_pos rfl] at H;exact H
      clear H
      have H:=H1
      clear H1
      obtain rfl:=Option.some.inj H
      go_wp2
      go_ret
      exact ⟨by first|rfl|(simp [errW_none,errW_some] <;> rfl)|(simp [*,errW_none,errW_some] <;> rfl),hb_⟩
     ·replace c24:=Bool.eq_false_iff.mpr c24
      subst c24
      have H1 : (if t341 = 0 then (some 0) else (some 9)) = some r:=by rw [if_neg (show ¬ (false = true) by decide)] at H;exact H
      clear H
      have H:=H1
      clear H1
      by_cases c25 : t341 = 0
      ·rw [if_pos c25] at H
       have c25b0 : (t341 == 0) = true:=beq_iff_eq.mpr c25
       have c25b1 : (t341 != 0) = false:=bne_eq_false_iff_eq.mpr c25
       clear c25
       obtain rfl:=Option.some.inj H
       go_wp2
       go_ret
       exact ⟨by first|rfl|(simp [errW_none,errW_some] <;> rfl)|(simp [*,errW_none,errW_some] <;> rfl),hb_⟩
      ·rw [if_neg c25] at H
       have c25b0 : (t341 == 0) = false:=beq_eq_false_iff_ne.mpr c25
       have c25b1 : (t341 != 0) = true:=bne_iff_ne.mpr c25
       obtain rfl:=Option.some.inj H
       go_wp2
       go_ret
       exact ⟨by first|rfl|(simp [errW_none,errW_some] <;> rfl)|(simp [*,errW_none,errW_some] <;> rfl),hb_⟩
    ·rw [if_neg c23] at H
     have c23b0 : (a2 == 3) = false:=beq_eq_false_iff_ne.mpr c23
     have c23b1 : (a2 != 3) = true:=bne_iff_ne.mpr c23
     obtain rfl:=Option.some.inj H
     go_wp2
     go_ret
     exact ⟨by first|rfl|(simp [errW_none,errW_some] <;> rfl)|(simp [*,errW_none,errW_some] <;> rfl),hb_⟩

end Go.Proofs.Ytiencnnkphipoaa.P

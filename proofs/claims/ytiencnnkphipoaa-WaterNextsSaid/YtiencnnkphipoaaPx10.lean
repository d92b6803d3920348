/- Functions of this seat as plain Lean functions, with proofs that the Go code comes to just their answers, or what stands between them and a law's statement; no conditions. (Laid by a program of this session, out of the kit's print.) -/
import Derived.Test.YtiencnnkphipoaaPx0
import Derived.Test.YtiencnnkphipoaaPx8
import Derived.Test.YtiencnnkphipoaaPx9
namespace Go.Proofs.Ytiencnnkphipoaa.P
open Go.RowKit Go.Proofs.YtiencnnkphipoaaW.PrintWords Go.Proofs.YtiencnnkphipoaaW.PrintLast Go.Proofs.YtiencnnkphipoaaW.PrintMore
attribute [local go_sem] max2_int min2_int max_two min_two max_three min_three max_four min_four   -- for this text's walks alone
set_option linter.unusedVariables false
set_option linter.unusedSimpArgs false

/-! ### hinterlandref06_lies: function 49 -/
def hinterlandref06_lies.j0 : Nat → Int → Int → Bool → Int → Bool → Option (Int)
 | 0,_,_,_,_,_ => none
 | k + 1,x2,x7,x9,x19,x20 => if x20 = true then (if x9 = true then (some 9) else (if x2 = 1 then (if x7 = 0 then (if x2 = 2 then ((hinterlandref06_upper.f x7).bind fun t344 => (if t344 < 0 then (some 5) else (some 0))) else (some 0)) else (some 5)) else (if x2 = 2 then ((hinterlandref06_upper.f x7).bind fun t345 => (if t345 < 0 then (some 5) else (some 0))) else (some 0)))) else (if x19 = 3 then (if x9 = true then (some 0) else (if x7 = 0 then (some 0) else (some 9))) else (some 0))
def hinterlandref06_lies.f (k : Nat) (a0_0 : Int) (a0_1 : Int) (l0_2 : List Int) (a1 : Int) (a2 : Int) : Option (Int) := (hinterlandref02_Face.f k a0_0 a0_1 l0_2 a1).bind fun bt341 => ((hinterlandref02_Sea.f k a0_0 a0_1 l0_2 a1).bind fun t343 => (if a2 = 1 then (hinterlandref06_lies.j0 k a2 bt341.1 t343 a2 (a2 == 1)) else (hinterlandref06_lies.j0 k a2 bt341.1 t343 a2 (a2 == 2))))
theorem hinterlandref06_lies.mono_l : ∀ k, (∀ y0 y1 y2 y3 y4, LeO (hinterlandref06_lies.j0 k y0 y1 y2 y3 y4) (hinterlandref06_lies.j0 (k + 1) y0 y1 y2 y3 y4))
 | 0 => fun _ _ _ _ _ r h => by simp [hinterlandref06_lies.j0] at h
 | k + 1 => by
  have ih0:=hinterlandref06_lies.mono_l k
  ·intro y0 y1 y2 y3 y4
   unfold hinterlandref06_lies.j0
   repeat' first
   | (with_reducible exact ih0 _ _ _ _ _)
   | (with_reducible exact hinterlandref02_Face.mono _ _ _ _ _)
   | (with_reducible exact hinterlandref02_Sea.mono _ _ _ _ _)
   | (with_reducible exact LeO.refl _)
   | (with_reducible exact LeO.none _)
   | (with_reducible refine LeO.ite ?_ ?_)
   | (with_reducible refine LeO.bind ?_ (fun _ => ?_))
   | exact ih0 _ _ _ _ _
   | exact hinterlandref02_Face.mono _ _ _ _ _
   | exact hinterlandref02_Sea.mono _ _ _ _ _
   | exact LeO.none _
   | refine LeO.ite ?_ ?_
   | refine LeO.bind ?_ (fun _ => ?_)
theorem hinterlandref06_lies.mono : ∀ a0 a1 a2 a3 a4 k, LeO (hinterlandref06_lies.f k a0 a1 a2 a3 a4) (hinterlandref06_lies.f (k + 1) a0 a1 a2 a3 a4) := by
 intro a0 a1 a2 a3 a4 k
 have ih0:=hinterlandref06_lies.mono_l k
 unfold hinterlandref06_lies.f
 repeat' first
   | (with_reducible exact ih0 _ _ _ _ _)
   | (with_reducible exact hinterlandref02_Face.mono _ _ _ _ _)
   | (with_reducible exact hinterlandref02_Sea.mono _ _ _ _ _)
   | (with_reducible exact LeO.refl _)
   | (with_reducible exact LeO.none _)
   | (with_reducible refine LeO.ite ?_ ?_)
   | (with_reducible refine LeO.bind ?_ (fun _ => ?_))
   | exact ih0 _ _ _ _ _
   | exact hinterlandref02_Face.mono _ _ _ _ _
   | exact hinterlandref02_Sea.mono _ _ _ _ _
   | exact LeO.none _
   | refine LeO.ite ?_ ?_
   | refine LeO.bind ?_ (fun _ => ?_)
set_option maxHeartbeats 8000000 in
set_option maxRecDepth 100000 in
theorem hinterlandref06_lies.calls (k : Nat) (a0_0 : Int) (a0_1 : Int) (A0_2 : Option Addr) (c0_2 : Nat) (l0_2 : List Int) (a1 : Int) (a2 : Int) (r : Int) (w : World) (hr0_2 : Kd.C (Kd.int .i64) w A0_2 l0_2.length l0_2) (hc0_2 : l0_2.length ≤ c0_2) (h : hinterlandref06_lies.f k a0_0 a0_1 l0_2 a1 a2 = some r) :
  Calls Try.prog 49 #[.agg #[.int .i64 a0_0,.int .i64 a0_1,.slice A0_2 l0_2.length c0_2],.int .i64 a1,.int .i64 a2] w fun e w' => e = .returned (.int .i64 r) ∧ Below w.heap.size w w':=by
 have hu24:=Try.underlying24
 have HR0_2:=Aside0.mk hr0_2
 have HC0_2:=Aside0.mk hc0_2
 clear hr0_2 hc0_2
 have HB:=Aside0.mk (Below.refl w.heap.size w)
 have H : ((hinterlandref02_Face.f k a0_0 a0_1 l0_2 a1).bind fun bt341 => ((hinterlandref02_Sea.f k a0_0 a0_1 l0_2 a1).bind fun t343 => (if a2 = 1 then (hinterlandref06_lies.j0 k a2 bt341.1 t343 a2 (a2 == 1)) else (hinterlandref06_lies.j0 k a2 bt341.1 t343 a2 (a2 == 2))))) = some r:=h
 clear h
 replace H:=Option.bind_eq_some_iff.mp H
 obtain ⟨⟨t341,t342⟩,A40,H⟩:=H
 replace H : ((hinterlandref02_Sea.f k a0_0 a0_1 l0_2 a1).bind fun t343 => (if a2 = 1 then (hinterlandref06_lies.j0 k a2 t341 t343 a2 (a2 == 1)) else (hinterlandref06_lies.j0 k a2 t341 t343 a2 (a2 == 2)))) = some r:=H
 have A4:=Aside0.mk A40
 clear A40
 replace H:=Option.bind_eq_some_iff.mp H
 obtain ⟨t343,A50,H⟩:=H
 replace H : (if a2 = 1 then (hinterlandref06_lies.j0 k a2 t341 t343 a2 (a2 == 1)) else (hinterlandref06_lies.j0 k a2 t341 t343 a2 (a2 == 2))) = some r:=H
 have A5:=Aside0.mk A50
 clear A50
 have HC6:=Aside0.mk H
 clear H
 go_enter Try.func49,Try.ntmps49
 go_upto_if 20 with (first|((with_reducible refine gate_dst (N:=3) rfl ?_);refine box_ev (N:=3) (cs:=#[.int .i64 a0_0,.int .i64 a0_1,.slice A0_2 l0_2.length c0_2]) (t:=24) ?_;intro gb340 hg w7 hbox hb;have BK340:=Aside0.mk (hbox);have GW340 : Aside0 (w.heap.size ≤ gb340):=gsz hg;have GE340:=GW340;replace HB:=Aside0.mk (below_step (hb_) hb);clear hb hbox hg;obtain ⟨hcz8_0,hcz8_1,hcz8_2,hfz8_0,hfz8_1,hfz8_2⟩:=cells3 BK340.out)|((with_reducible refine gate_callee (f:=50) rfl ?_);refine goesL_ (some 13) rfl rfl Try.func50 (by kernel_rfl) rfl #[.agg #[.int .i64 a0_0,.int .i64 a0_1,.slice A0_2 l0_2.length c0_2],.int .i64 a1] rfl (by (try simp only [List.map_toArray,List.map_cons,List.map_nil]);first|done|rfl|(simp only [List.length_drop,List.length_take];rfl)) ?_;(with_reducible refine (hinterlandref02_Face.calls k a0_0 a0_1 _ _ l0_2 a1 t341 t342 _ ?side1 ?side2 A4.out).mono ?_);(case side1 => exact Kd.C_up (Kd.C_below HR0_2.out HB.out));(case side2 => exact HC0_2.out);rintro e w9 ⟨rfl,hb⟩;refine ⟨_,rfl,?_⟩;replace BK340:=bkb BK340 hb;replace HB:=Aside0.mk (below_step (hb_) hb);obtain ⟨hcz10_0,hcz10_1,hcz10_2,hfz10_0,hfz10_1,hfz10_2⟩:=cells3 BK340.out)|((with_reducible refine gate_callee (f:=51) rfl ?_);refine goesL_ (some 18) rfl rfl Try.func51 (by kernel_rfl) rfl #[.agg #[.int .i64 a0_0,.int .i64 a0_1,.slice A0_2 l0_2.length c0_2],.int .i64 a1] rfl (by (try simp only [List.map_toArray,List.map_cons,List.map_nil]);first|done|rfl|(simp only [List.length_drop,List.length_take];rfl)) ?_;(with_reducible refine (hinterlandref02_Sea.calls k a0_0 a0_1 _ _ l0_2 a1 t343 _ ?side1 ?side2 A5.out).mono ?_);(case side1 => exact Kd.C_up (Kd.C_below HR0_2.out HB.out));(case side2 => exact HC0_2.out);rintro e w11 ⟨rfl,hb⟩;refine ⟨_,rfl,?_⟩;replace BK340:=bkb BK340 hb;replace HB:=Aside0.mk (below_step (hb_) hb)))
 (try simp only [Act.put,List.setIfInBounds_toArray,List.set_cons_zero,List.set_cons_succ])
 go_cut [20] (fun v20 wc => ∃ (kq : Nat) (x20_5 : Bool),v20 = .bool x20_5 ∧ Aside0 (hinterlandref06_lies.j0 kq a2 t341 t343 a2 x20_5 = some r) ∧ Aside0 (kq ≤ k) ∧ Aside0 (wc.heap[gb340]? = some (.cells #[.int .i64 a0_0,.int .i64 a0_1,(.slice A0_2 l0_2.length c0_2)] 24 (0,0))) ∧ Aside0 (Below w.heap.size w wc))
 case first =>
  have H:=HC6.out
  clear HC6
  by_cases c12 : a2 = 1
  ·rw [if_pos c12] at H
   have c12b0 : (a2 == 1) = true:=beq_iff_eq.mpr c12
   have c12b1 : (a2 != 1) = false:=bne_eq_false_iff_eq.mpr c12
   clear c12
   (first|rw [c12b0]|(simp only [i64_w,i32_w];rw [c12b0])|skip)
   have H':=Aside0.mk H
   clear H
   go_wp2
   go_meet
   case rel => exact ⟨_,((a2 == 1)),(by first|rfl|(simp;done)|(simp [*];done)),H',⟨by first|omega|exact Nat.le_refl _⟩,⟨blk_up BK340.out⟩,⟨hb_⟩⟩
  ·rw [if_neg c12] at H
   have c12b0 : (a2 == 1) = false:=beq_eq_false_iff_ne.mpr c12
   have c12b1 : (a2 != 1) = true:=bne_iff_ne.mpr c12
   (first|rw [c12b0]|(simp only [i64_w,i32_w];rw [c12b0])|skip)
   have H':=Aside0.mk H
   clear H
   go_wp2
   go_meet
   case rel => exact ⟨_,((a2 == 2)),(by first|rfl|(simp;done)|(simp [*];done)),H',⟨by first|omega|exact Nat.le_refl _⟩,⟨blk_up BK340.out⟩,⟨hb_⟩⟩
 case rest =>
  clear HC6
  obtain ⟨kq,x20_5,rfl,HA,HJ5,BK340,HB⟩:=hcut
  cases kq with
  | zero => exact absurd HA.out (by simp [hinterlandref06_lies.j0])
  | succ kj5 =>
   have H:=HA.out
   clear HA
   simp only [hinterlandref06_lies.j0] at H
   by_cases c13 : x20_5 = true
   ·subst c13
    have H1 : (if t343 = true then (some 9) else (if a2 = 1 then (if t341 = 0 then (if a2 = 2 then ((hinterlandref06_upper.f t341).bind fun t344 => (if t344 < 0 then (some 5) else (some 0))) else (some 0)) else (some 5)) else (if a2 = 2 then ((hinterlandref06_upper.f t341).bind fun t345 => (if t345 < 0 then (some 5) else (some 0))) else (some 0)))) = some r:=by rw [if_pos rfl] at H;exact H
    clear H
    have H:=H1
    clear H1
    by_cases c14 : t343 = true
    ·subst c14
     have H1 : (some 9) = some r:=by rw [if_pos rfl] at H;exact H
     clear H
     have H:=H1
     clear H1
     obtain rfl:=Option.some.inj H
     go_wp2
     go_ret
     exact ⟨by first|rfl|(simp [errW_none,errW_some] <;> rfl)|(simp [*,errW_none,errW_some] <;> rfl),hb_⟩
    ·replace c14:=Bool.eq_false_iff.mpr c14
     subst c14
     have H1 : (if a2 = 1 then (if t341 = 0 then (if a2 = 2 then ((hinterlandref06_upper.f t341).bind fun t344 => (if t344 < 0 then (some 5) else (some 0))) else (some 0)) else (some 5)) else (if a2 = 2 then ((hinterlandref06_upper.f t341).bind fun t345 => (if t345 < 0 then (some 5) else (some 0))) else (some 0))) = some r:=by rw [if_neg (show ¬ (false = true) by decide)] at H;exact H
     clear H
     have H:=H1
     clear H1
     by_cases c15 : a2 = 1
     rotate_left
     ·rw [if_neg c15] at H
      have c15b0 : (a2 == 1) = false:=beq_eq_false_iff_ne.mpr c15
      have c15b1 : (a2 != 1) = true:=bne_iff_ne.mpr c15
      by_cases c20 : a2 = 2
      ·rw [if_pos c20] at H
       have c20b0 : (a2 == 2) = true:=beq_iff_eq.mpr c20
       have c20b1 : (a2 != 2) = false:=bne_eq_false_iff_eq.mpr c20
       clear c20
       replace H:=Option.bind_eq_some_iff.mp H
       obtain ⟨t345,A210,H⟩:=H
       replace H : (if t345 < 0 then (some 5) else (some 0)) = some r:=H
       have A21:=Aside0.mk A210
       clear A210
       by_cases c22 : t345 < 0
       ·rw [if_pos c22] at H
        have c22b0 : decide (t345 < 0) = true:=decide_eq_true c22
        clear c22
        obtain rfl:=Option.some.inj H
        go_wp2_with (first|(go_at_call 63;(with_reducible refine (hinterlandref06_upper.calls t341 t345 _ A21.out).mono ?_);rintro e w' ⟨rfl,⟨nd,rfl⟩⟩))
        go_ret
        exact ⟨by first|rfl|(simp [errW_none,errW_some] <;> rfl)|(simp [*,errW_none,errW_some] <;> rfl),hb_⟩
       ·rw [if_neg c22] at H
        have c22b0 : decide (t345 < 0) = false:=decide_eq_false c22
        clear c22
        obtain rfl:=Option.some.inj H
        go_wp2_with (first|(go_at_call 63;(with_reducible refine (hinterlandref06_upper.calls t341 t345 _ A21.out).mono ?_);rintro e w' ⟨rfl,⟨nd,rfl⟩⟩))
        go_ret
        exact ⟨by first|rfl|(simp [errW_none,errW_some] <;> rfl)|(simp [*,errW_none,errW_some] <;> rfl),hb_⟩
      ·rw [if_neg c20] at H
       have c20b0 : (a2 == 2) = false:=beq_eq_false_iff_ne.mpr c20
       have c20b1 : (a2 != 2) = true:=bne_iff_ne.mpr c20
       obtain rfl:=Option.some.inj H
       go_wp2
       go_ret
       exact ⟨by first|rfl|(simp [errW_none,errW_some] <;> rfl)|(simp [*,errW_none,errW_some] <;> rfl),hb_⟩
     rw [if_pos c15] at H
     have c15b0 : (a2 == 1) = true:=beq_iff_eq.mpr c15
     have c15b1 : (a2 != 1) = false:=bne_eq_false_iff_eq.mpr c15
     clear c15
     by_cases c16 : t341 = 0
     ·rw [if_pos c16] at H
      have c16b0 : (t341 == 0) = true:=beq_iff_eq.mpr c16
      have c16b1 : (t341 != 0) = false:=bne_eq_false_iff_eq.mpr c16
      clear c16
      by_cases c17 : a2 = 2
      ·rw [if_pos c17] at H
       have c17b0 : (a2 == 2) = true:=beq_iff_eq.mpr c17
       have c17b1 : (a2 != 2) = false:=bne_eq_false_iff_eq.mpr c17
       clear c17
       replace H:=Option.bind_eq_some_iff.mp H
       obtain ⟨t344,A180,H⟩:=H
       replace H : (if t344 < 0 then (some 5) else (some 0)) = some r:=H
       have A18:=Aside0.mk A180
       clear A180
       by_cases c19 : t344 < 0
       ·rw [if_pos c19] at H
        have c19b0 : decide (t344 < 0) = true:=decide_eq_true c19
        clear c19
        obtain rfl:=Option.some.inj H
        go_wp2_with (first|(go_at_call 63;(with_reducible refine (hinterlandref06_upper.calls t341 t344 _ A18.out).mono ?_);rintro e w' ⟨rfl,⟨nd,rfl⟩⟩))
        go_ret
        exact ⟨by first|rfl|(simp [errW_none,errW_some] <;> rfl)|(simp [*,errW_none,errW_some] <;> rfl),hb_⟩
       ·rw [if_neg c19] at H
        have c19b0 : decide (t344 < 0) = false:=decide_eq_false c19
        clear c19
        obtain rfl:=Option.some.inj H
        go_wp2_with (first|(go_at_call 63;(with_reducible refine (hinterlandref06_upper.calls t341 t344 _ A18.out).mono ?_);rintro e w' ⟨rfl,⟨nd,rfl⟩⟩))
        go_ret
        exact ⟨by first|rfl|(simp [errW_none,errW_some] <;> rfl)|(simp [*,errW_none,errW_some] <;> rfl),hb_⟩
      ·rw [if_neg c17] at H
       have c17b0 : (a2 == 2) = false:=beq_eq_false_iff_ne.mpr c17
       have c17b1 : (a2 != 2) = true:=bne_iff_ne.mpr c17
       obtain rfl:=Option.some.inj H
       go_wp2
       go_ret
       exact ⟨by first|rfl|(simp [errW_none,errW_some] <;> rfl)|(simp [*,errW_none,errW_some] <;> rfl),hb_⟩
     ·rw [if_neg c16] at H
      have c16b0 : (t341 == 0) = false:=beq_eq_false_iff_ne.mpr c16
      have c16b1 : (t341 != 0) = true:=bne_iff_ne.mpr c16
      obtain rfl:=Option.some.inj H
      go_wp2
      go_ret
      exact ⟨by first|rfl|(simp [errW_none,errW_some] <;> rfl)|(simp [*,errW_none,errW_some] <;> rfl),hb_⟩
   ·replace c13:=Bool.eq_false_iff.mpr c13
    subst c13
    have H1 : (if a2 = 3 then (if t343 = true then (some 0) else (if t341 = 0 then (some 0) else (some 9))) else (some 0)) = some r:=by rw [if_neg (show ¬ (false = true) by decide)] at H;exact H
    clear H
    have H:=H1
    clear H1
    by_cases c23 : a2 = 3
    ·rw [if_pos c23] at H
     have c23b0 : (a2 == 3) = true:=beq_iff_eq.mpr c23
     have c23b1 : (a2 != 3) = false:=bne_eq_false_iff_eq.mpr c23
     clear c23
     by_cases c24 : t343 = true
     ·subst c24
      have H1 : (some 0) = some r:=by rw [if_pos rfl] at H;exact H
      clear H
      have H:=H1
      clear H1
      obtain rfl:=Option.some.inj H
      go_wp2
      go_ret
      exact ⟨by first|rfl|(simp [errW_none,errW_some] <;> rfl)|(simp [*,errW_none,errW_some] <;> rfl),hb_⟩
     ·replace c24:=Bool.eq_false_iff.mpr c24
      subst c24
      have H1 : (if t341 = 0 then (some 0) else (some 9)) = some r:=by rw [if_neg (show ¬ (false = true) by decide)] at H;exact H
      clear H
      have H:=H1
      clear H1
      by_cases c25 : t341 = 0
      ·rw [if_pos c25] at H
       have c25b0 : (t341 == 0) = true:=beq_iff_eq.mpr c25
       have c25b1 : (t341 != 0) = false:=bne_eq_false_iff_eq.mpr c25
       clear c25
       obtain rfl:=Option.some.inj H
       go_wp2
       go_ret
       exact ⟨by first|rfl|(simp [errW_none,errW_some] <;> rfl)|(simp [*,errW_none,errW_some] <;> rfl),hb_⟩
      ·rw [if_neg c25] at H
       have c25b0 : (t341 == 0) = false:=beq_eq_false_iff_ne.mpr c25
       have c25b1 : (t341 != 0) = true:=bne_iff_ne.mpr c25
       obtain rfl:=Option.some.inj H
       go_wp2
       go_ret
       exact ⟨by first|rfl|(simp [errW_none,errW_some] <;> rfl)|(simp [*,errW_none,errW_some] <;> rfl),hb_⟩
    ·rw [if_neg c23] at H
     have c23b0 : (a2 == 3) = false:=beq_eq_false_iff_ne.mpr c23
     have c23b1 : (a2 != 3) = true:=bne_iff_ne.mpr c23
     obtain rfl:=Option.some.inj H
     go_wp2
     go_ret
     exact ⟨by first|rfl|(simp [errW_none,errW_some] <;> rfl)|(simp [*,errW_none,errW_some] <;> rfl),hb_⟩

/-! ### hinterlandref06_Validate: function 23 -/
mutual
def hinterlandref06_Validate.l0 : Nat → List Int → Int → Int → Int → Int → List Int → List Int → List Int → Option (Int)
 | 0,_,_,_,_,_,_,_,_ => none
 | k + 1,x30,x31,x32,x347000,x347001,x347002,x348000,x348001 => if x32 < x31 then (if 0 ≤ x32 then (if x32 < (x30.length : Int) then (if (rd x30 x32) < 0 then (some 1) else (if (rd x30 x32) > 3 then (some 1) else (hinterlandref06_Validate.l0 k x30 x31 (wrap64 (x32 + 1)) x347000 x347001 x347002 x348000 x348001))) else (none)) else (none)) else (hinterlandref06_Validate.l1 k 1 x347000 x347001 x347002 x348000 x348001)
def hinterlandref06_Validate.l1 : Nat → Int → Int → Int → List Int → List Int → List Int → Option (Int)
 | 0,_,_,_,_,_,_ => none
 | k + 1,x8,x347000,x347001,x347002,x348000,x348001 => if x8 < (x348001.length : Int) then (if 0 ≤ (wrap64 (x8 - 1)) then (if (wrap64 (x8 - 1)) < (x348001.length : Int) then (if 0 ≤ x8 then (if (rd x348001 (wrap64 (x8 - 1))) ≥ (rd x348001 x8) then (some 1) else (hinterlandref06_Validate.l1 k (wrap64 (x8 + 1)) x347000 x347001 x347002 x348000 x348001)) else (none)) else (none)) else (none)) else (hinterlandref06_Validate.l2 k x348001 (x348001.length : Int) 0 x347000 x347001 x347002 x348000 x348001)
def hinterlandref06_Validate.l2 : Nat → List Int → Int → Int → Int → Int → List Int → List Int → List Int → Option (Int)
 | 0,_,_,_,_,_,_,_,_ => none
 | k + 1,x63,x64,x65,x347000,x347001,x347002,x348000,x348001 => if x65 < x64 then (if 0 ≤ x65 then (if x65 < (x63.length : Int) then ((hinterlandref02_Is.f x347000 x347001 x347002 (rd x63 x65)).bind fun t353 => (if t353 = true then (hinterlandref06_Validate.l2 k x63 x64 (wrap64 (x65 + 1)) x347000 x347001 x347002 x348000 x348001) else (some 2))) else (none)) else (none)) else (hinterlandref06_Validate.l3 k x348000 (x348000.length : Int) 0 x347000 x347001 x347002 x348000 x348001)
def hinterlandref06_Validate.l3 : Nat → List Int → Int → Int → Int → Int → List Int → List Int → List Int → Option (Int)
 | 0,_,_,_,_,_,_,_,_ => none
 | k + 1,x75,x76,x77,x347000,x347001,x347002,x348000,x348001 => if x77 < x76 then (if 0 ≤ x77 then (if x77 < (x75.length : Int) then ((hinterlandref06_lies.f k x347000 x347001 x347002 x77 (rd x75 x77)).bind fun t355 => (if t355 = 0 then (hinterlandref06_Validate.l3 k x75 x76 (wrap64 (x77 + 1)) x347000 x347001 x347002 x348000 x348001) else (some 9))) else (none)) else (none)) else (hinterlandref06_Validate.l4 k x348001 (x348001.length : Int) 0 x347000 x347001 x347002 x348000 x348001)
def hinterlandref06_Validate.l4 : Nat → List Int → Int → Int → Int → Int → List Int → List Int → List Int → Option (Int)
 | 0,_,_,_,_,_,_,_,_ => none
 | k + 1,x89,x90,x91,x347000,x347001,x347002,x348000,x348001 => if x91 < x90 then (if 0 ≤ x91 then (if x91 < (x89.length : Int) then ((hinterlandref06_Wet.f k x347000 x347001 x347002 x348000 (rd x89 x91)).bind fun t357 => (if t357 = true then (hinterlandref06_Validate.l4 k x89 x90 (wrap64 (x91 + 1)) x347000 x347001 x347002 x348000 x348001) else (some 9))) else (none)) else (none)) else (some 0)
end
def hinterlandref06_Validate.f (k : Nat) (a0_0 : Int) (a0_1 : Int) (l0_2 : List Int) (l1_0 : List Int) (l1_1 : List Int) : Option (Int) := (hinterlandref02_Validate.f k a0_0 a0_1 l0_2).bind fun t348 => (if t348 = 0 then (if (l1_0.length : Int) = (wrap64 (a0_0 * a0_1)) then (hinterlandref06_Validate.l0 k l1_0 (l1_0.length : Int) 0 a0_0 a0_1 l0_2 l1_0 l1_1) else (some 1)) else (some t348))
theorem hinterlandref06_Validate.mono_l : ∀ k, (∀ y0 y1 y2 y3 y4 y5 y6 y7, LeO (hinterlandref06_Validate.l0 k y0 y1 y2 y3 y4 y5 y6 y7) (hinterlandref06_Validate.l0 (k + 1) y0 y1 y2 y3 y4 y5 y6 y7)) ∧ (∀ y0 y1 y2 y3 y4 y5, LeO (hinterlandref06_Validate.l1 k y0 y1 y2 y3 y4 y5) (hinterlandref06_Validate.l1 (k + 1) y0 y1 y2 y3 y4 y5)) ∧ (∀ y0 y1 y2 y3 y4 y5 y6 y7, LeO (hinterlandref06_Validate.l2 k y0 y1 y2 y3 y4 y5 y6 y7) (hinterlandref06_Validate.l2 (k + 1) y0 y1 y2 y3 y4 y5 y6 y7)) ∧ (∀ y0 y1 y2 y3 y4 y5 y6 y7, LeO (hinterlandref06_Validate.l3 k y0 y1 y2 y3 y4 y5 y6 y7) (hinterlandref06_Validate.l3 (k + 1) y0 y1 y2 y3 y4 y5 y6 y7)) ∧ (∀ y0 y1 y2 y3 y4 y5 y6 y7, LeO (hinterlandref06_Validate.l4 k y0 y1 y2 y3 y4 y5 y6 y7) (hinterlandref06_Validate.l4 (k + 1) y0 y1 y2 y3 y4 y5 y6 y7))
 | 0 => ⟨fun _ _ _ _ _ _ _ _ r h => by simp [hinterlandref06_Validate.l0] at h,fun _ _ _ _ _ _ r h => by simp [hinterlandref06_Validate.l1] at h,fun _ _ _ _ _ _ _ _ r h => by simp [hinterlandref06_Validate.l2] at h,fun _ _ _ _ _ _ _ _ r h => by simp [hinterlandref06_Validate.l3] at h,fun _ _ _ _ _ _ _ _ r h => by simp [hinterlandref06_Validate.l4] at h⟩
 | k + 1 => by
  obtain ⟨ih0,ih1,ih2,ih3,ih4⟩:=hinterlandref06_Validate.mono_l k
  refine ⟨?_,?_,?_,?_,?_⟩
  ·intro y0 y1 y2 y3 y4 y5 y6 y7
   unfold hinterlandref06_Validate.l0
   repeat' first
   | (with_reducible exact ih0 _ _ _ _ _ _ _ _)
   | (with_reducible exact ih1 _ _ _ _ _ _)
   | (with_reducible exact ih2 _ _ _ _ _ _ _ _)
   | (with_reducible exact ih3 _ _ _ _ _ _ _ _)
   | (with_reducible exact ih4 _ _ _ _ _ _ _ _)
   | (with_reducible exact hinterlandref02_Validate.mono _ _ _ _)
   | (with_reducible exact hinterlandref06_Wet.mono _ _ _ _ _ _)
   | (with_reducible exact hinterlandref06_lies.mono _ _ _ _ _ _)
   | (with_reducible exact LeO.refl _)
   | (with_reducible exact LeO.none _)
   | (with_reducible refine LeO.ite ?_ ?_)
   | (with_reducible refine LeO.bind ?_ (fun _ => ?_))
   | exact ih0 _ _ _ _ _ _ _ _
   | exact ih1 _ _ _ _ _ _
   | exact ih2 _ _ _ _ _ _ _ _
   | exact ih3 _ _ _ _ _ _ _ _
   | exact ih4 _ _ _ _ _ _ _ _
   | exact hinterlandref02_Validate.mono _ _ _ _
   | exact hinterlandref06_Wet.mono _ _ _ _ _ _
   | exact hinterlandref06_lies.mono _ _ _ _ _ _
   | exact LeO.none _
   | refine LeO.ite ?_ ?_
   | refine LeO.bind ?_ (fun _ => ?_)
  ·intro y0 y1 y2 y3 y4 y5
   unfold hinterlandref06_Validate.l1
   repeat' first
   | (with_reducible exact ih0 _ _ _ _ _ _ _ _)
   | (with_reducible exact ih1 _ _ _ _ _ _)
   | (with_reducible exact ih2 _ _ _ _ _ _ _ _)
   | (with_reducible exact ih3 _ _ _ _ _ _ _ _)
   | (with_reducible exact ih4 _ _ _ _ _ _ _ _)
   | (with_reducible exact hinterlandref02_Validate.mono _ _ _ _)
   | (with_reducible exact hinterlandref06_Wet.mono _ _ _ _ _ _)
   | (with_reducible exact hinterlandref06_lies.mono _ _ _ _ _ _)
   | (with_reducible exact LeO.refl _)
   | (with_reducible exact LeO.none _)
   | (with_reducible refine LeO.ite ?_ ?_)
   | (with_reducible refine LeO.bind ?_ (fun _ => ?_))
   | exact ih0 _ _ _ _ _ _ _ _
   | exact ih1 _ _ _ _ _ _
   | exact ih2 _ _ _ _ _ _ _ _
   | exact ih3 _ _ _ _ _ _ _ _
   | exact ih4 _ _ _ _ _ _ _ _
   | exact hinterlandref02_Validate.mono _ _ _ _
   | exact hinterlandref06_Wet.mono _ _ _ _ _ _
   | exact hinterlandref06_lies.mono _ _ _ _ _ _
   | exact LeO.none _
   | refine LeO.ite ?_ ?_
   | refine LeO.bind ?_ (fun _ => ?_)
  ·intro y0 y1 y2 y3 y4 y5 y6 y7
   unfold hinterlandref06_Validate.l2
   repeat' first
   | (with_reducible exact ih0 _ _ _ _ _ _ _ _)
   | (with_reducible exact ih1 _ _ _ _ _ _)
   | (with_reducible exact ih2 _ _ _ _ _ _ _ _)
   | (with_reducible exact ih3 _ _ _ _ _ _ _ _)
   | (with_reducible exact ih4 _ _ _ _ _ _ _ _)
   | (with_reducible exact hinterlandref02_Validate.mono _ _ _ _)
   | (with_reducible exact hinterlandref06_Wet.mono _ _ _ _ _ _)
   | (with_reducible exact hinterlandref06_lies.mono _ _ _ _ _ _)
   | (with_reducible exact LeO.refl _)
   | (with_reducible exact LeO.none _)
   | (with_reducible refine LeO.ite ?_ ?_)
   | (with_reducible refine LeO.bind ?_ (fun _ => ?_))
   | exact ih0 _ _ _ _ _ _ _ _
   | exact ih1 _ _ _ _ _ _
   | exact ih2 _ _ _ _ _ _ _ _
   | exact ih3 _ _ _ _ _ _ _ _
   | exact ih4 _ _ _ _ _ _ _ _
   | exact hinterlandref02_Validate.mono _ _ _ _
   | exact hinterlandref06_Wet.mono _ _ _ _ _ _
   | exact hinterlandref06_lies.mono _ _ _ _ _ _
   | exact LeO.none _
   | refine LeO.ite ?_ ?_
   | refine LeO.bind ?_ (fun _ => ?_)
  ·intro y0 y1 y2 y3 y4 y5 y6 y7
   unfold hinterlandref06_Validate.l3
   repeat' first
   | (with_reducible exact ih0 _ _ _ _ _ _ _ _)
   | (with_reducible exact ih1 _ _ _ _ _ _)
   | (with_reducible exact ih2 _ _ _ _ _ _ _ _)
   | (with_reducible exact ih3 _ _ _ _ _ _ _ _)
   | (with_reducible exact ih4 _ _ _ _ _ _ _ _)
   | (with_reducible exact hinterlandref02_Validate.mono _ _ _ _)
   | (with_reducible exact hinterlandref06_Wet.mono _ _ _ _ _ _)
   | (with_reducible exact hinterlandref06_lies.mono _ _ _ _ _ _)
   | (with_reducible exact LeO.refl _)
   | (with_reducible exact LeO.none _)
   | (with_reducible refine LeO.ite ?_ ?_)
   | (with_reducible refine LeO.bind ?_ (fun _ => ?_))
   | exact ih0 _ _ _ _ _ _ _ _
   | exact ih1 _ _ _ _ _ _
   | exact ih2 _ _ _ _ _ _ _ _
   | exact ih3 _ _ _ _ _ _ _ _
   | exact ih4 _ _ _ _ _ _ _ _
   | exact hinterlandref02_Validate.mono _ _ _ _
   | exact hinterlandref06_Wet.mono _ _ _ _ _ _
   | exact hinterlandref06_lies.mono _ _ _ _ _ _
   | exact LeO.none _
   | refine LeO.ite ?_ ?_
   | refine LeO.bind ?_ (fun _ => ?_)
  ·intro y0 y1 y2 y3 y4 y5 y6 y7
   unfold hinterlandref06_Validate.l4
   repeat' first
   | (with_reducible exact ih0 _ _ _ _ _ _ _ _)
   | (with_reducible exact ih1 _ _ _ _ _ _)
   | (with_reducible exact ih2 _ _ _ _ _ _ _ _)
   | (with_reducible exact ih3 _ _ _ _ _ _ _ _)
   | (with_reducible exact ih4 _ _ _ _ _ _ _ _)
   | (with_reducible exact hinterlandref02_Validate.mono _ _ _ _)
   | (with_reducible exact hinterlandref06_Wet.mono _ _ _ _ _ _)
   | (with_reducible exact hinterlandref06_lies.mono _ _ _ _ _ _)
   | (with_reducible exact LeO.refl _)
   | (with_reducible exact LeO.none _)
   | (with_reducible refine LeO.ite ?_ ?_)
   | (with_reducible refine LeO.bind ?_ (fun _ => ?_))
   | exact ih0 _ _ _ _ _ _ _ _
   | exact ih1 _ _ _ _ _ _
   | exact ih2 _ _ _ _ _ _ _ _
   | exact ih3 _ _ _ _ _ _ _ _
   | exact ih4 _ _ _ _ _ _ _ _
   | exact hinterlandref02_Validate.mono _ _ _ _
   | exact hinterlandref06_Wet.mono _ _ _ _ _ _
   | exact hinterlandref06_lies.mono _ _ _ _ _ _
   | exact LeO.none _
   | refine LeO.ite ?_ ?_
   | refine LeO.bind ?_ (fun _ => ?_)
theorem hinterlandref06_Validate.mono : ∀ a0 a1 a2 a3 a4 k, LeO (hinterlandref06_Validate.f k a0 a1 a2 a3 a4) (hinterlandref06_Validate.f (k + 1) a0 a1 a2 a3 a4) := by
 intro a0 a1 a2 a3 a4 k
 obtain ⟨ih0,ih1,ih2,ih3,ih4⟩:=hinterlandref06_Validate.mono_l k
 unfold hinterlandref06_Validate.f
 repeat' first
   | (with_reducible exact ih0 _ _ _ _ _ _ _ _)
   | (with_reducible exact ih1 _ _ _ _ _ _)
   | (with_reducible exact ih2 _ _ _ _ _ _ _ _)
   | (with_reducible exact ih3 _ _ _ _ _ _ _ _)
   | (with_reducible exact ih4 _ _ _ _ _ _ _ _)
   | (with_reducible exact hinterlandref02_Validate.mono _ _ _ _)
   | (with_reducible exact hinterlandref06_Wet.mono _ _ _ _ _ _)
   | (with_reducible exact hinterlandref06_lies.mono _ _ _ _ _ _)
   | (with_reducible exact LeO.refl _)
   | (with_reducible exact LeO.none _)
   | (with_reducible refine LeO.ite ?_ ?_)
   | (with_reducible refine LeO.bind ?_ (fun _ => ?_))
   | exact ih0 _ _ _ _ _ _ _ _
   | exact ih1 _ _ _ _ _ _
   | exact ih2 _ _ _ _ _ _ _ _
   | exact ih3 _ _ _ _ _ _ _ _
   | exact ih4 _ _ _ _ _ _ _ _
   | exact hinterlandref02_Validate.mono _ _ _ _
   | exact hinterlandref06_Wet.mono _ _ _ _ _ _
   | exact hinterlandref06_lies.mono _ _ _ _ _ _
   | exact LeO.none _
   | refine LeO.ite ?_ ?_
   | refine LeO.bind ?_ (fun _ => ?_)
set_option maxHeartbeats 8000000 in
set_option maxRecDepth 100000 in
theorem hinterlandref06_Validate.calls (k : Nat) (a0_0 : Int) (a0_1 : Int) (A0_2 : Option Addr) (c0_2 : Nat) (l0_2 : List Int) (A1_0 : Option Addr) (c1_0 : Nat) (l1_0 : List Int) (A1_1 : Option Addr) (c1_1 : Nat) (l1_1 : List Int) (r : Int) (w : World) (hr0_2 : Kd.C (Kd.int .i64) w A0_2 l0_2.length l0_2) (hc0_2 : l0_2.length ≤ c0_2) (hr1_0 : Kd.C (Kd.int .i64) w A1_0 l1_0.length l1_0) (hc1_0 : l1_0.length ≤ c1_0) (hr1_1 : Kd.C (Kd.int .i64) w A1_1 l1_1.length l1_1) (hc1_1 : l1_1.length ≤ c1_1) (h : hinterlandref06_Validate.f k a0_0 a0_1 l0_2 l1_0 l1_1 = some r) :
  Calls Try.prog 23 #[.agg #[.int .i64 a0_0,.int .i64 a0_1,.slice A0_2 l0_2.length c0_2],.agg #[.slice A1_0 l1_0.length c1_0,.slice A1_1 l1_1.length c1_1]] w fun e w' => e = .returned (.int .i64 r) ∧ Below w.heap.size w w':=by
 have hu24:=Try.underlying24
 have hu26:=Try.underlying26
 have HR0_2:=Aside0.mk hr0_2
 have HC0_2:=Aside0.mk hc0_2
 clear hr0_2 hc0_2
 have HR1_0:=Aside0.mk hr1_0
 have HC1_0:=Aside0.mk hc1_0
 clear hr1_0 hc1_0
 have HR1_1:=Aside0.mk hr1_1
 have HC1_1:=Aside0.mk hc1_1
 clear hr1_1 hc1_1
 have HB:=Aside0.mk (Below.refl w.heap.size w)
 have H : ((hinterlandref02_Validate.f k a0_0 a0_1 l0_2).bind fun t348 => (if t348 = 0 then (if (l1_0.length : Int) = (wrap64 (a0_0 * a0_1)) then (hinterlandref06_Validate.l0 k l1_0 (l1_0.length : Int) 0 a0_0 a0_1 l0_2 l1_0 l1_1) else (some 1)) else (some t348))) = some r:=h
 clear h
 replace H:=Option.bind_eq_some_iff.mp H
 obtain ⟨t348,A30,H⟩:=H
 replace H : (if t348 = 0 then (if (l1_0.length : Int) = (wrap64 (a0_0 * a0_1)) then (hinterlandref06_Validate.l0 k l1_0 (l1_0.length : Int) 0 a0_0 a0_1 l0_2 l1_0 l1_1) else (some 1)) else (some t348)) = some r:=H
 have A3:=Aside0.mk A30
 clear A30
 by_cases c4 : t348 = 0
 rotate_left
 ·rw [if_neg c4] at H
  have c4b0 : (t348 == 0) = false:=beq_eq_false_iff_ne.mpr c4
  have c4b1 : (t348 != 0) = true:=bne_iff_ne.mpr c4
  obtain rfl:=Option.some.inj H
  go_enter Try.func23,Try.ntmps23
  go_wp2_with (first|((with_reducible refine gate_dst (N:=2) rfl ?_);refine box_ev (N:=2) (cs:=#[.int .i64 a0_0,.int .i64 a0_1,.slice A0_2 l0_2.length c0_2]) (t:=24) ?_;intro gb346 hg w76 hbox hb;have BK346:=Aside0.mk (hbox);have GW346 : Aside0 (w.heap.size ≤ gb346):=gsz hg;have GE346:=GW346;replace HB:=Aside0.mk (below_step (hb_) hb);clear hb hbox hg)|((with_reducible refine gate_dst (N:=3) rfl ?_);refine box_ev (N:=3) (cs:=#[.slice A1_0 l1_0.length c1_0,.slice A1_1 l1_1.length c1_1]) (t:=26) ?_;intro gb347 hg w77 hbox hb;have BK347:=Aside0.mk (hbox);have GW347 : Aside0 (w.heap.size ≤ gb347):=gsz hg;have GE347:=GW347;have NB346_347:=nbl BK346 hg;have NB347_346:=nbr BK346 hg;replace BK346:=bkb BK346 hb;replace HB:=Aside0.mk (below_step (hb_) hb);clear hb hbox hg;have hnb78:=NB346_347.out;have hnc78:=NB347_346.out;obtain ⟨hcz79_0,hcz79_1,hcz79_2,hfz79_0,hfz79_1,hfz79_2⟩:=cells3 BK346.out)|(go_at_call 48;(with_reducible refine (hinterlandref02_Validate.calls k a0_0 a0_1 _ _ l0_2 t348 _ ?side1 ?side2 A3.out).mono ?_);(case side1 => exact Kd.C_up (Kd.C_below HR0_2.out HB.out));(case side2 => exact HC0_2.out);rintro e w80 ⟨rfl,hb⟩;replace BK346:=bkb BK346 hb;replace BK347:=bkb BK347 hb;replace HB:=Aside0.mk (below_step (hb_) hb)))
  go_ret
  exact ⟨by first|rfl|(simp [errW_none,errW_some] <;> rfl)|(simp [*,errW_none,errW_some] <;> rfl),hb_⟩
 rw [if_pos c4] at H
 have c4b0 : (t348 == 0) = true:=beq_iff_eq.mpr c4
 have c4b1 : (t348 != 0) = false:=bne_eq_false_iff_eq.mpr c4
 clear c4
 by_cases c5 : (l1_0.length : Int) = (wrap64 (a0_0 * a0_1))
 rotate_left
 ·rw [if_neg c5] at H
  have c5b0 : ((l1_0.length : Int) == (wrap64 (a0_0 * a0_1))) = false:=beq_eq_false_iff_ne.mpr c5
  have c5b1 : ((l1_0.length : Int) != (wrap64 (a0_0 * a0_1))) = true:=bne_iff_ne.mpr c5
  obtain rfl:=Option.some.inj H
  go_enter Try.func23,Try.ntmps23
  go_wp2_with (first|((with_reducible refine gate_dst (N:=2) rfl ?_);refine box_ev (N:=2) (cs:=#[.int .i64 a0_0,.int .i64 a0_1,.slice A0_2 l0_2.length c0_2]) (t:=24) ?_;intro gb346 hg w69 hbox hb;have BK346:=Aside0.mk (hbox);have GW346 : Aside0 (w.heap.size ≤ gb346):=gsz hg;have GE346:=GW346;replace HB:=Aside0.mk (below_step (hb_) hb);clear hb hbox hg)|((with_reducible refine gate_dst (N:=3) rfl ?_);refine box_ev (N:=3) (cs:=#[.slice A1_0 l1_0.length c1_0,.slice A1_1 l1_1.length c1_1]) (t:=26) ?_;intro gb347 hg w70 hbox hb;have BK347:=Aside0.mk (hbox);have GW347 : Aside0 (w.heap.size ≤ gb347):=gsz hg;have GE347:=GW347;have NB346_347:=nbl BK346 hg;have NB347_346:=nbr BK346 hg;replace BK346:=bkb BK346 hb;replace HB:=Aside0.mk (below_step (hb_) hb);clear hb hbox hg;have hnb71:=NB346_347.out;have hnc71:=NB347_346.out;obtain ⟨hcz72_0,hcz72_1,hcz72_2,hfz72_0,hfz72_1,hfz72_2⟩:=cells3 BK346.out)|(go_at_call 48;(with_reducible refine (hinterlandref02_Validate.calls k a0_0 a0_1 _ _ l0_2 t348 _ ?side1 ?side2 A3.out).mono ?_);(case side1 => exact Kd.C_up (Kd.C_below HR0_2.out HB.out));(case side2 => exact HC0_2.out);rintro e w73 ⟨rfl,hb⟩;replace BK346:=bkb BK346 hb;replace BK347:=bkb BK347 hb;replace HB:=Aside0.mk (below_step (hb_) hb);obtain ⟨hcz74_0,hcz74_1,hfz74_0,hfz74_1⟩:=cells2 BK347.out;obtain ⟨hcz75_0,hcz75_1,hcz75_2,hfz75_0,hfz75_1,hfz75_2⟩:=cells3 BK346.out))
  go_ret
  exact ⟨by first|rfl|(simp [errW_none,errW_some] <;> rfl)|(simp [*,errW_none,errW_some] <;> rfl),hb_⟩
 rw [if_pos c5] at H
 have c5b0 : ((l1_0.length : Int) == (wrap64 (a0_0 * a0_1))) = true:=beq_iff_eq.mpr c5
 have c5b1 : ((l1_0.length : Int) != (wrap64 (a0_0 * a0_1))) = false:=bne_eq_false_iff_eq.mpr c5
 clear c5
 have H':=Aside0.mk H
 clear H
 go_enter Try.func23,Try.ntmps23
 go_wp2_with (first|((with_reducible refine gate_dst (N:=2) rfl ?_);refine box_ev (N:=2) (cs:=#[.int .i64 a0_0,.int .i64 a0_1,.slice A0_2 l0_2.length c0_2]) (t:=24) ?_;intro gb346 hg w6 hbox hb;have BK346:=Aside0.mk (hbox);have GW346 : Aside0 (w.heap.size ≤ gb346):=gsz hg;have GE346:=GW346;replace HB:=Aside0.mk (below_step (hb_) hb);clear hb hbox hg)|((with_reducible refine gate_dst (N:=3) rfl ?_);refine box_ev (N:=3) (cs:=#[.slice A1_0 l1_0.length c1_0,.slice A1_1 l1_1.length c1_1]) (t:=26) ?_;intro gb347 hg w7 hbox hb;have BK347:=Aside0.mk (hbox);have GW347 : Aside0 (w.heap.size ≤ gb347):=gsz hg;have GE347:=GW347;have NB346_347:=nbl BK346 hg;have NB347_346:=nbr BK346 hg;replace BK346:=bkb BK346 hb;replace HB:=Aside0.mk (below_step (hb_) hb);clear hb hbox hg;have hnb8:=NB346_347.out;have hnc8:=NB347_346.out;obtain ⟨hcz9_0,hcz9_1,hcz9_2,hfz9_0,hfz9_1,hfz9_2⟩:=cells3 BK346.out)|(go_at_call 48;(with_reducible refine (hinterlandref02_Validate.calls k a0_0 a0_1 _ _ l0_2 t348 _ ?side1 ?side2 A3.out).mono ?_);(case side1 => exact Kd.C_up (Kd.C_below HR0_2.out HB.out));(case side2 => exact HC0_2.out);rintro e w10 ⟨rfl,hb⟩;replace BK346:=bkb BK346 hb;replace BK347:=bkb BK347 hb;replace HB:=Aside0.mk (below_step (hb_) hb);obtain ⟨hcz11_0,hcz11_1,hfz11_0,hfz11_1⟩:=cells2 BK347.out;obtain ⟨hcz12_0,hcz12_1,hcz12_2,hfz12_0,hfz12_1,hfz12_2⟩:=cells3 BK346.out))
 go_loopg [32] k (fun kq v32 w' => ∃ (x32_1 : Int),v32 = .int .i64 x32_1 ∧ Aside0 (hinterlandref06_Validate.l0 kq l1_0 (l1_0.length : Int) x32_1 a0_0 a0_1 l0_2 l1_0 l1_1 = some r) ∧ Aside0 (kq ≤ k) ∧ Aside0 (w'.heap[gb346]? = some (.cells #[.int .i64 a0_0,.int .i64 a0_1,(.slice A0_2 l0_2.length c0_2)] 24 (0,0))) ∧ Aside0 (w'.heap[gb347]? = some (.cells #[(.slice A1_0 l1_0.length c1_0),(.slice A1_1 l1_1.length c1_1)] 26 (0,0))) ∧ Aside0 (Below w.heap.size w w'))
 case atStart => exact ⟨(0),(by first|rfl|(simp;done)|(simp [*];done)),H',⟨Nat.le_refl _⟩,⟨blk_up BK346.out⟩,⟨blk_up BK347.out⟩,⟨hb_⟩⟩
 case round =>
  clear H'
  obtain ⟨x32_1,rfl,HA,HK1,BK346,BK347,HB⟩:=hrel
  cases gk with
  | zero => exact absurd HA.out (by simp [hinterlandref06_Validate.l0])
  | succ k1 =>
   have H:=HA.out
   clear HA
   simp only [hinterlandref06_Validate.l0] at H
   by_cases c13 : x32_1 < (l1_0.length : Int)
   ·rw [if_pos c13] at H
    have c13b0 : decide (x32_1 < (l1_0.length : Int)) = true:=decide_eq_true c13
    clear c13
    replace H:=ifp_ H;obtain ⟨c14,H⟩:=H
    have c14b0 : decide (0 ≤ x32_1) = true:=decide_eq_true c14
    clear c14
    replace H:=ifp_ H;obtain ⟨c15,H⟩:=H
    have c15b0 : decide (x32_1 < (l1_0.length : Int)) = true:=decide_eq_true c15
    clear c15
    by_cases c16 : (rd l1_0 x32_1) < 0
    ·rw [if_pos c16] at H
     have c16b0 : decide ((rd l1_0 x32_1) < 0) = true:=decide_eq_true c16
     clear c16
     obtain rfl:=Option.some.inj H
     have p349 : 0 ≤ (x32_1 : Int):=of_decide_eq_true (by first|(with_reducible assumption)|assumption)
     have q349 : x32_1 < (l1_0.length : Int):=of_decide_eq_true (by first|(with_reducible assumption)|assumption)
     obtain ⟨ad349,e349,hx349_0⟩:=Kd.at_int HR1_0.out x32_1 p349 q349
     cases e349
     replace hx349_0:=(HB.out.cell (World.block_lt_of_cell? w _ hx349_0)).trans hx349_0
     replace p349:=eq_true p349
     replace q349:=eq_true q349
     go_wp2
     go_ret
     exact ⟨by first|rfl|(simp [errW_none,errW_some] <;> rfl)|(simp [*,errW_none,errW_some] <;> rfl),hb_⟩
    rw [if_neg c16] at H
    have c16b0 : decide ((rd l1_0 x32_1) < 0) = false:=decide_eq_false c16
    clear c16
    by_cases c17 : (rd l1_0 x32_1) > 3
    ·rw [if_pos c17] at H
     have c17b0 : decide (3 < (rd l1_0 x32_1)) = true:=decide_eq_true c17
     clear c17
     obtain rfl:=Option.some.inj H
     have p349 : 0 ≤ (x32_1 : Int):=of_decide_eq_true (by first|(with_reducible assumption)|assumption)
     have q349 : x32_1 < (l1_0.length : Int):=of_decide_eq_true (by first|(with_reducible assumption)|assumption)
     obtain ⟨ad349,e349,hx349_0⟩:=Kd.at_int HR1_0.out x32_1 p349 q349
     cases e349
     replace hx349_0:=(HB.out.cell (World.block_lt_of_cell? w _ hx349_0)).trans hx349_0
     replace p349:=eq_true p349
     replace q349:=eq_true q349
     go_wp2
     go_ret
     exact ⟨by first|rfl|(simp [errW_none,errW_some] <;> rfl)|(simp [*,errW_none,errW_some] <;> rfl),hb_⟩
    ·rw [if_neg c17] at H
     have c17b0 : decide (3 < (rd l1_0 x32_1)) = false:=decide_eq_false c17
     clear c17
     have H':=Aside0.mk H
     clear H
     have p349 : 0 ≤ (x32_1 : Int):=of_decide_eq_true (by first|(with_reducible assumption)|assumption)
     have q349 : x32_1 < (l1_0.length : Int):=of_decide_eq_true (by first|(with_reducible assumption)|assumption)
     obtain ⟨ad349,e349,hx349_0⟩:=Kd.at_int HR1_0.out x32_1 p349 q349
     cases e349
     replace hx349_0:=(HB.out.cell (World.block_lt_of_cell? w _ hx349_0)).trans hx349_0
     replace p349:=eq_true p349
     replace q349:=eq_true q349
     go_wp2
     go_roundg k1
     case measure => have:=HK1.out;omega
     case rel => exact ⟨(wrap64 (x32_1 + 1)),(by first|rfl|(simp;done)|(simp [*];done)),H',⟨by have:=HK1.out;omega⟩,⟨blk_up BK346.out⟩,⟨blk_up BK347.out⟩,⟨hb_⟩⟩
   rw [if_neg c13] at H
   have c13b0 : decide (x32_1 < (l1_0.length : Int)) = false:=decide_eq_false c13
   clear c13
   have H':=Aside0.mk H
   clear H
   go_wp2
   go_loopg [8] k1 (fun kq v8 w' => ∃ (x8_2 : Int),v8 = .int .i64 x8_2 ∧ Aside0 (hinterlandref06_Validate.l1 kq x8_2 a0_0 a0_1 l0_2 l1_0 l1_1 = some r) ∧ Aside0 (kq ≤ k1) ∧ Aside0 (w'.heap[gb346]? = some (.cells #[.int .i64 a0_0,.int .i64 a0_1,(.slice A0_2 l0_2.length c0_2)] 24 (0,0))) ∧ Aside0 (w'.heap[gb347]? = some (.cells #[(.slice A1_0 l1_0.length c1_0),(.slice A1_1 l1_1.length c1_1)] 26 (0,0))) ∧ Aside0 (Below w.heap.size w w'))
   case atStart => exact ⟨(1),(by first|rfl|(simp;done)|(simp [*];done)),H',⟨Nat.le_refl _⟩,⟨blk_up BK346.out⟩,⟨blk_up BK347.out⟩,⟨hb_⟩⟩
   case round =>
    clear H'
    obtain ⟨x8_2,rfl,HA,HK2,BK346,BK347,HB⟩:=hrel
    cases gk with
    | zero => exact absurd HA.out (by simp [hinterlandref06_Validate.l1])
    | succ k2 =>
     have H:=HA.out
     clear HA
     simp only [hinterlandref06_Validate.l1] at H
     by_cases c18 : x8_2 < (l1_1.length : Int)
     ·rw [if_pos c18] at H
      have c18b0 : decide (x8_2 < (l1_1.length : Int)) = true:=decide_eq_true c18
      clear c18
      obtain ⟨ji19,hji19⟩ : ∃ j_ : Int,(wrap64 (x8_2 - 1)) = j_:=⟨_,rfl⟩
      replace H : (if 0 ≤ (ji19) then (if (ji19) < (l1_1.length : Int) then (if 0 ≤ x8_2 then (if (rd l1_1 (ji19)) ≥ (rd l1_1 x8_2) then (some 1) else (hinterlandref06_Validate.l1 k2 (wrap64 (x8_2 + 1)) a0_0 a0_1 l0_2 l1_0 l1_1)) else (none)) else (none)) else (none)) = some r:=by first|(rw [hji19] at H;exact H)|(simp only [hji19] at H ⊢;exact H)
      have hji19w : (IntKind.i64.wrap (x8_2 - 1)) = ji19:=(i64_w _).trans hji19
      replace H:=ifp_ H;obtain ⟨c20,H⟩:=H
      have c20b0 : decide (0 ≤ (ji19)) = true:=decide_eq_true c20
      clear c20
      replace H:=ifp_ H;obtain ⟨c21,H⟩:=H
      have c21b0 : decide ((ji19) < (l1_1.length : Int)) = true:=decide_eq_true c21
      clear c21
      replace H:=ifp_ H;obtain ⟨c22,H⟩:=H
      have c22b0 : decide (0 ≤ x8_2) = true:=decide_eq_true c22
      clear c22
      by_cases c23 : (rd l1_1 (ji19)) ≥ (rd l1_1 x8_2)
      ·rw [if_pos c23] at H
       have c23b0 : decide ((rd l1_1 x8_2) ≤ (rd l1_1 (ji19))) = true:=decide_eq_true c23
       clear c23
       obtain rfl:=Option.some.inj H
       have hnb24:=NB347_346.out
       have hnc24:=NB346_347.out
       obtain ⟨hcz25_0,hcz25_1,hfz25_0,hfz25_1⟩:=cells2 BK347.out
       have p350 : 0 ≤ ((ji19) : Int):=of_decide_eq_true (by first|(with_reducible assumption)|assumption)
       have q350 : (ji19) < (l1_1.length : Int):=of_decide_eq_true (by first|(with_reducible assumption)|assumption)
       obtain ⟨ad350,e350,hx350_0⟩:=Kd.at_int HR1_1.out (ji19) p350 q350
       cases e350
       replace hx350_0:=(HB.out.cell (World.block_lt_of_cell? w _ hx350_0)).trans hx350_0
       replace p350:=eq_true p350
       replace q350:=eq_true q350
       have p351 : 0 ≤ (x8_2 : Int):=of_decide_eq_true (by first|(with_reducible assumption)|assumption)
       have q351 : x8_2 < (l1_1.length : Int):=of_decide_eq_true (by first|(with_reducible assumption)|assumption)
       obtain ⟨ad351,e351,hx351_0⟩:=Kd.at_int HR1_1.out x8_2 p351 q351
       obtain rfl : ad350 = ad351:=(by injection e351)
       replace hx351_0:=(HB.out.cell (World.block_lt_of_cell? w _ hx351_0)).trans hx351_0
       replace p351:=eq_true p351
       replace q351:=eq_true q351
       go_wp2
       go_quiet (fail)
       go_wp2
       go_ret
       exact ⟨by first|rfl|(simp [errW_none,errW_some] <;> rfl)|(simp only [← hji19];first|rfl|(simp [errW_none,errW_some] <;> rfl))|(simp [*,errW_none,errW_some] <;> rfl),hb_⟩
      ·rw [if_neg c23] at H
       have c23b0 : decide ((rd l1_1 x8_2) ≤ (rd l1_1 (ji19))) = false:=decide_eq_false c23
       clear c23
       have H':=Aside0.mk H
       clear H
       have hnb26:=NB347_346.out
       have hnc26:=NB346_347.out
       obtain ⟨hcz27_0,hcz27_1,hfz27_0,hfz27_1⟩:=cells2 BK347.out
       have p350 : 0 ≤ ((ji19) : Int):=of_decide_eq_true (by first|(with_reducible assumption)|assumption)
       have q350 : (ji19) < (l1_1.length : Int):=of_decide_eq_true (by first|(with_reducible assumption)|assumption)
       obtain ⟨ad350,e350,hx350_0⟩:=Kd.at_int HR1_1.out (ji19) p350 q350
       cases e350
       replace hx350_0:=(HB.out.cell (World.block_lt_of_cell? w _ hx350_0)).trans hx350_0
       replace p350:=eq_true p350
       replace q350:=eq_true q350
       have p351 : 0 ≤ (x8_2 : Int):=of_decide_eq_true (by first|(with_reducible assumption)|assumption)
       have q351 : x8_2 < (l1_1.length : Int):=of_decide_eq_true (by first|(with_reducible assumption)|assumption)
       obtain ⟨ad351,e351,hx351_0⟩:=Kd.at_int HR1_1.out x8_2 p351 q351
       obtain rfl : ad350 = ad351:=(by injection e351)
       replace hx351_0:=(HB.out.cell (World.block_lt_of_cell? w _ hx351_0)).trans hx351_0
       replace p351:=eq_true p351
       replace q351:=eq_true q351
       go_wp2
       go_quiet (fail)
       go_wp2
       go_roundg k2
       case measure => have:=HK1.out;have:=HK2.out;omega
       case rel => exact ⟨(wrap64 (x8_2 + 1)),(by first|rfl|(simp;done)|(simp [*];done)),H',⟨by have:=HK1.out;have:=HK2.out;omega⟩,⟨blk_up BK346.out⟩,⟨blk_up BK347.out⟩,⟨hb_⟩⟩
     rw [if_neg c18] at H
     have c18b0 : decide (x8_2 < (l1_1.length : Int)) = false:=decide_eq_false c18
     clear c18
     have H':=Aside0.mk H
     clear H
     have hnb28:=NB347_346.out
     have hnc28:=NB346_347.out
     obtain ⟨hcz29_0,hcz29_1,hfz29_0,hfz29_1⟩:=cells2 BK347.out
     go_wp2
     go_loopg [65] k2 (fun kq v65 w' => ∃ (x65_3 : Int),v65 = .int .i64 x65_3 ∧ Aside0 (hinterlandref06_Validate.l2 kq l1_1 (l1_1.length : Int) x65_3 a0_0 a0_1 l0_2 l1_0 l1_1 = some r) ∧ Aside0 (kq ≤ k2) ∧ Aside0 (w'.heap[gb346]? = some (.cells #[.int .i64 a0_0,.int .i64 a0_1,(.slice A0_2 l0_2.length c0_2)] 24 (0,0))) ∧ Aside0 (w'.heap[gb347]? = some (.cells #[(.slice A1_0 l1_0.length c1_0),(.slice A1_1 l1_1.length c1_1)] 26 (0,0))) ∧ Aside0 (Below w.heap.size w w'))
     case atStart => exact ⟨(0),(by first|rfl|(simp;done)|(simp [*];done)),H',⟨Nat.le_refl _⟩,⟨blk_up BK346.out⟩,⟨blk_up BK347.out⟩,⟨hb_⟩⟩
     case round =>
      clear H'
      obtain ⟨x65_3,rfl,HA,HK3,BK346,BK347,HB⟩:=hrel
      cases gk with
      | zero => exact absurd HA.out (by simp [hinterlandref06_Validate.l2])
      | succ k3 =>
       have H:=HA.out
       clear HA
       simp only [hinterlandref06_Validate.l2] at H
       by_cases c30 : x65_3 < (l1_1.length : Int)
       ·rw [if_pos c30] at H
        have c30b0 : decide (x65_3 < (l1_1.length : Int)) = true:=decide_eq_true c30
        clear c30
        replace H:=ifp_ H;obtain ⟨c31,H⟩:=H
        have c31b0 : decide (0 ≤ x65_3) = true:=decide_eq_true c31
        clear c31
        replace H:=ifp_ H;obtain ⟨c32,H⟩:=H
        have c32b0 : decide (x65_3 < (l1_1.length : Int)) = true:=decide_eq_true c32
        clear c32
        replace H:=Option.bind_eq_some_iff.mp H
        obtain ⟨t353,A330,H⟩:=H
        replace H : (if t353 = true then (hinterlandref06_Validate.l2 k3 l1_1 (l1_1.length : Int) (wrap64 (x65_3 + 1)) a0_0 a0_1 l0_2 l1_0 l1_1) else (some 2)) = some r:=H
        have A33:=Aside0.mk A330
        clear A330
        by_cases c34 : t353 = true
        ·subst c34
         have H1 : (hinterlandref06_Validate.l2 k3 l1_1 (l1_1.length : Int) (wrap64 (x65_3 + 1)) a0_0 a0_1 l0_2 l1_0 l1_1) = some r:=by rw [if_pos rfl] at H;exact H
         clear H
         have H:=H1
         clear H1
         have H':=Aside0.mk H
         clear H
         have p352 : 0 ≤ (x65_3 : Int):=of_decide_eq_true (by first|(with_reducible assumption)|assumption)
         have q352 : x65_3 < (l1_1.length : Int):=of_decide_eq_true (by first|(with_reducible assumption)|assumption)
         obtain ⟨ad352,e352,hx352_0⟩:=Kd.at_int HR1_1.out x65_3 p352 q352
         cases e352
         replace hx352_0:=(HB.out.cell (World.block_lt_of_cell? w _ hx352_0)).trans hx352_0
         replace p352:=eq_true p352
         replace q352:=eq_true q352
         have hnb35:=NB346_347.out
         have hnc35:=NB347_346.out
         obtain ⟨hcz36_0,hcz36_1,hcz36_2,hfz36_0,hfz36_1,hfz36_2⟩:=cells3 BK346.out
         go_wp2_with (first|(go_at_call 33;(with_reducible refine (hinterlandref02_Is.calls a0_0 a0_1 _ _ l0_2 (rd l1_1 x65_3) true _ ?side1 ?side2 A33.out).mono ?_);(case side1 => exact Kd.C_up (Kd.C_below HR0_2.out HB.out));(case side2 => exact HC0_2.out);rintro e w37 ⟨rfl,hb⟩;replace BK346:=bkb BK346 hb;replace BK347:=bkb BK347 hb;replace HB:=Aside0.mk (below_step (hb_) hb)))
         go_roundg k3
         case measure => have:=HK1.out;have:=HK2.out;have:=HK3.out;omega
         case rel => exact ⟨(wrap64 (x65_3 + 1)),(by first|rfl|(simp;done)|(simp [*];done)),H',⟨by have:=HK1.out;have:=HK2.out;have:=HK3.out;omega⟩,⟨blk_up BK346.out⟩,⟨blk_up BK347.out⟩,⟨hb_⟩⟩
        ·replace c34:=Bool.eq_false_iff.mpr c34
         subst c34
         have H1 : (some 2) = some r:=by rw [if_neg (show ¬ (false = true) by decide)] at H;exact H
         clear H
         have H:=H1
         clear H1
         obtain rfl:=Option.some.inj H
         have p352 : 0 ≤ (x65_3 : Int):=of_decide_eq_true (by first|(with_reducible assumption)|assumption)
         have q352 : x65_3 < (l1_1.length : Int):=of_decide_eq_true (by first|(with_reducible assumption)|assumption)
         obtain ⟨ad352,e352,hx352_0⟩:=Kd.at_int HR1_1.out x65_3 p352 q352
         cases e352
         replace hx352_0:=(HB.out.cell (World.block_lt_of_cell? w _ hx352_0)).trans hx352_0
         replace p352:=eq_true p352
         replace q352:=eq_true q352
         have hnb38:=NB346_347.out
         have hnc38:=NB347_346.out
         obtain ⟨hcz39_0,hcz39_1,hcz39_2,hfz39_0,hfz39_1,hfz39_2⟩:=cells3 BK346.out
         go_wp2_with (first|(go_at_call 33;(with_reducible refine (hinterlandref02_Is.calls a0_0 a0_1 _ _ l0_2 (rd l1_1 x65_3) false _ ?side1 ?side2 A33.out).mono ?_);(case side1 => exact Kd.C_up (Kd.C_below HR0_2.out HB.out));(case side2 => exact HC0_2.out);rintro e w40 ⟨rfl,hb⟩;replace BK346:=bkb BK346 hb;replace BK347:=bkb BK347 hb;replace HB:=Aside0.mk (below_step (hb_) hb)))
         go_ret
         exact ⟨by first|rfl|(simp [errW_none,errW_some] <;> rfl)|(simp [*,errW_none,errW_some] <;> rfl),hb_⟩
       rw [if_neg c30] at H
       have c30b0 : decide (x65_3 < (l1_1.length : Int)) = false:=decide_eq_false c30
       clear c30
       have H':=Aside0.mk H
       clear H
       have hnb41:=NB347_346.out
       have hnc41:=NB346_347.out
       obtain ⟨hcz42_0,hcz42_1,hfz42_0,hfz42_1⟩:=cells2 BK347.out
       go_wp2
       go_loopg [77] k3 (fun kq v77 w' => ∃ (x77_4 : Int),v77 = .int .i64 x77_4 ∧ Aside0 (hinterlandref06_Validate.l3 kq l1_0 (l1_0.length : Int) x77_4 a0_0 a0_1 l0_2 l1_0 l1_1 = some r) ∧ Aside0 (kq ≤ k3) ∧ Aside0 (w'.heap[gb346]? = some (.cells #[.int .i64 a0_0,.int .i64 a0_1,(.slice A0_2 l0_2.length c0_2)] 24 (0,0))) ∧ Aside0 (w'.heap[gb347]? = some (.cells #[(.slice A1_0 l1_0.length c1_0),(.slice A1_1 l1_1.length c1_1)] 26 (0,0))) ∧ Aside0 (Below w.heap.size w w'))
       case atStart => exact ⟨(0),(by first|rfl|(simp;done)|(simp [*];done)),H',⟨Nat.le_refl _⟩,⟨blk_up BK346.out⟩,⟨blk_up BK347.out⟩,⟨hb_⟩⟩
       case round =>
        clear H'
        obtain ⟨x77_4,rfl,HA,HK4,BK346,BK347,HB⟩:=hrel
        cases gk with
        | zero => exact absurd HA.out (by simp [hinterlandref06_Validate.l3])
        | succ k4 =>
         have H:=HA.out
         clear HA
         simp only [hinterlandref06_Validate.l3] at H
         by_cases c43 : x77_4 < (l1_0.length : Int)
         ·rw [if_pos c43] at H
          have c43b0 : decide (x77_4 < (l1_0.length : Int)) = true:=decide_eq_true c43
          clear c43
          replace H:=ifp_ H;obtain ⟨c44,H⟩:=H
          have c44b0 : decide (0 ≤ x77_4) = true:=decide_eq_true c44
          clear c44
          replace H:=ifp_ H;obtain ⟨c45,H⟩:=H
          have c45b0 : decide (x77_4 < (l1_0.length : Int)) = true:=decide_eq_true c45
          clear c45
          replace H:=Option.bind_eq_some_iff.mp H
          obtain ⟨t355,A460,H⟩:=H
          replace H : (if t355 = 0 then (hinterlandref06_Validate.l3 k4 l1_0 (l1_0.length : Int) (wrap64 (x77_4 + 1)) a0_0 a0_1 l0_2 l1_0 l1_1) else (some 9)) = some r:=H
          have A46:=Aside0.mk A460
          clear A460
          by_cases c47 : t355 = 0
          ·rw [if_pos c47] at H
           have c47b0 : (t355 == 0) = true:=beq_iff_eq.mpr c47
           have c47b1 : (t355 != 0) = false:=bne_eq_false_iff_eq.mpr c47
           clear c47
           have H':=Aside0.mk H
           clear H
           have p354 : 0 ≤ (x77_4 : Int):=of_decide_eq_true (by first|(with_reducible assumption)|assumption)
           have q354 : x77_4 < (l1_0.length : Int):=of_decide_eq_true (by first|(with_reducible assumption)|assumption)
           obtain ⟨ad354,e354,hx354_0⟩:=Kd.at_int HR1_0.out x77_4 p354 q354
           cases e354
           replace hx354_0:=(HB.out.cell (World.block_lt_of_cell? w _ hx354_0)).trans hx354_0
           replace p354:=eq_true p354
           replace q354:=eq_true q354
           have hnb48:=NB346_347.out
           have hnc48:=NB347_346.out
           obtain ⟨hcz49_0,hcz49_1,hcz49_2,hfz49_0,hfz49_1,hfz49_2⟩:=cells3 BK346.out
           go_wp2_with (first|(go_at_call 49;(with_reducible refine (hinterlandref06_lies.calls k4 a0_0 a0_1 _ _ l0_2 x77_4 (rd l1_0 x77_4) t355 _ ?side1 ?side2 A46.out).mono ?_);(case side1 => exact Kd.C_up (Kd.C_below HR0_2.out HB.out));(case side2 => exact HC0_2.out);rintro e w50 ⟨rfl,hb⟩;replace BK346:=bkb BK346 hb;replace BK347:=bkb BK347 hb;replace HB:=Aside0.mk (below_step (hb_) hb)))
           go_roundg k4
           case measure => have:=HK1.out;have:=HK2.out;have:=HK3.out;have:=HK4.out;omega
           case rel => exact ⟨(wrap64 (x77_4 + 1)),(by first|rfl|(simp;done)|(simp [*];done)),H',⟨by have:=HK1.out;have:=HK2.out;have:=HK3.out;have:=HK4.out;omega⟩,⟨blk_up BK346.out⟩,⟨blk_up BK347.out⟩,⟨hb_⟩⟩
          ·rw [if_neg c47] at H
           have c47b0 : (t355 == 0) = false:=beq_eq_false_iff_ne.mpr c47
           have c47b1 : (t355 != 0) = true:=bne_iff_ne.mpr c47
           obtain rfl:=Option.some.inj H
           have p354 : 0 ≤ (x77_4 : Int):=of_decide_eq_true (by first|(with_reducible assumption)|assumption)
           have q354 : x77_4 < (l1_0.length : Int):=of_decide_eq_true (by first|(with_reducible assumption)|assumption)
           obtain ⟨ad354,e354,hx354_0⟩:=Kd.at_int HR1_0.out x77_4 p354 q354
           cases e354
           replace hx354_0:=(HB.out.cell (World.block_lt_of_cell? w _ hx354_0)).trans hx354_0
           replace p354:=eq_true p354
           replace q354:=eq_true q354
           have hnb51:=NB346_347.out
           have hnc51:=NB347_346.out
           obtain ⟨hcz52_0,hcz52_1,hcz52_2,hfz52_0,hfz52_1,hfz52_2⟩:=cells3 BK346.out
           go_wp2_with (first|(go_at_call 49;(with_reducible refine (hinterlandref06_lies.calls k4 a0_0 a0_1 _ _ l0_2 x77_4 (rd l1_0 x77_4) t355 _ ?side1 ?side2 A46.out).mono ?_);(case side1 => exact Kd.C_up (Kd.C_below HR0_2.out HB.out));(case side2 => exact HC0_2.out);rintro e w53 ⟨rfl,hb⟩;replace BK346:=bkb BK346 hb;replace BK347:=bkb BK347 hb;replace HB:=Aside0.mk (below_step (hb_) hb)))
           go_ret
           exact ⟨by first|rfl|(simp [errW_none,errW_some] <;> rfl)|(simp [*,errW_none,errW_some] <;> rfl),hb_⟩
         rw [if_neg c43] at H
         have c43b0 : decide (x77_4 < (l1_0.length : Int)) = false:=decide_eq_false c43
         clear c43
         have H':=Aside0.mk H
         clear H
         have hnb54:=NB347_346.out
         have hnc54:=NB346_347.out
         obtain ⟨hcz55_0,hcz55_1,hfz55_0,hfz55_1⟩:=cells2 BK347.out
         go_wp2
         go_loopg [91] k4 (fun kq v91 w' => ∃ (x91_5 : Int),v91 = .int .i64 x91_5 ∧ Aside0 (hinterlandref06_Validate.l4 kq l1_1 (l1_1.length : Int) x91_5 a0_0 a0_1 l0_2 l1_0 l1_1 = some r) ∧ Aside0 (kq ≤ k4) ∧ Aside0 (w'.heap[gb346]? = some (.cells #[.int .i64 a0_0,.int .i64 a0_1,(.slice A0_2 l0_2.length c0_2)] 24 (0,0))) ∧ Aside0 (w'.heap[gb347]? = some (.cells #[(.slice A1_0 l1_0.length c1_0),(.slice A1_1 l1_1.length c1_1)] 26 (0,0))) ∧ Aside0 (Below w.heap.size w w'))
         case atStart => exact ⟨(0),(by first|rfl|(simp;done)|(simp [*];done)),H',⟨Nat.le_refl _⟩,⟨blk_up BK346.out⟩,⟨blk_up BK347.out⟩,⟨hb_⟩⟩
         case round =>
          clear H'
          obtain ⟨x91_5,rfl,HA,HK5,BK346,BK347,HB⟩:=hrel
          cases gk with
          | zero => exact absurd HA.out (by simp [hinterlandref06_Validate.l4])
          | succ k5 =>
           have H:=HA.out
           clear HA
           simp only [hinterlandref06_Validate.l4] at H
           by_cases c56 : x91_5 < (l1_1.length : Int)
           ·rw [if_pos c56] at H
            have c56b0 : decide (x91_5 < (l1_1.length : Int)) = true:=decide_eq_true c56
            clear c56
            replace H:=ifp_ H;obtain ⟨c57,H⟩:=H
            have c57b0 : decide (0 ≤ x91_5) = true:=decide_eq_true c57
            clear c57
            replace H:=ifp_ H;obtain ⟨c58,H⟩:=H
            have c58b0 : decide (x91_5 < (l1_1.length : Int)) = true:=decide_eq_true c58
            clear c58
            replace H:=Option.bind_eq_some_iff.mp H
            obtain ⟨t357,A590,H⟩:=H
            replace H : (if t357 = true then (hinterlandref06_Validate.l4 k5 l1_1 (l1_1.length : Int) (wrap64 (x91_5 + 1)) a0_0 a0_1 l0_2 l1_0 l1_1) else (some 9)) = some r:=H
            have A59:=Aside0.mk A590
            clear A590
            by_cases c60 : t357 = true
            ·subst c60
             have H1 : (hinterlandref06_Validate.l4 k5 l1_1 (l1_1.length : Int) (wrap64 (x91_5 + 1)) a0_0 a0_1 l0_2 l1_0 l1_1) = some r:=by rw [if_pos rfl] at H;exact H
             clear H
             have H:=H1
             clear H1
             have H':=Aside0.mk H
             clear H
             have p356 : 0 ≤ (x91_5 : Int):=of_decide_eq_true (by first|(with_reducible assumption)|assumption)
             have q356 : x91_5 < (l1_1.length : Int):=of_decide_eq_true (by first|(with_reducible assumption)|assumption)
             obtain ⟨ad356,e356,hx356_0⟩:=Kd.at_int HR1_1.out x91_5 p356 q356
             cases e356
             replace hx356_0:=(HB.out.cell (World.block_lt_of_cell? w _ hx356_0)).trans hx356_0
             replace p356:=eq_true p356
             replace q356:=eq_true q356
             have hnb61:=NB346_347.out
             have hnc61:=NB347_346.out
             obtain ⟨hcz62_0,hcz62_1,hcz62_2,hfz62_0,hfz62_1,hfz62_2⟩:=cells3 BK346.out
             obtain ⟨hcz63_0,hcz63_1,hfz63_0,hfz63_1⟩:=cells2 BK347.out
             go_wp2_with (first|(go_at_call 47;(with_reducible refine (hinterlandref06_Wet.calls k5 a0_0 a0_1 _ _ l0_2 _ _ l1_0 (rd l1_1 x91_5) true _ ?side1 ?side2 ?side3 ?side4 A59.out).mono ?_);(case side1 => exact Kd.C_up (Kd.C_below HR0_2.out HB.out));(case side2 => exact HC0_2.out);(case side3 => exact Kd.C_up (Kd.C_below HR1_0.out HB.out));(case side4 => exact HC1_0.out);rintro e w64 ⟨rfl,hb⟩;replace BK346:=bkb BK346 hb;replace BK347:=bkb BK347 hb;replace HB:=Aside0.mk (below_step (hb_) hb)))
             go_roundg k5
             case measure => have:=HK1.out;have:=HK2.out;have:=HK3.out;have:=HK4.out;have:=HK5.out;omega
             case rel => exact ⟨(wrap64 (x91_5 + 1)),(by first|rfl|(simp;done)|(simp [*];done)),H',⟨by have:=HK1.out;have:=HK2.out;have:=HK3.out;have:=HK4.out;have:=HK5.out;omega⟩,⟨blk_up BK346.out⟩,⟨blk_up BK347.out⟩,⟨hb_⟩⟩
            ·replace c60:=Bool.eq_false_iff.mpr c60
             subst c60
             have H1 : (some 9) = some r:=by rw [if_neg (show ¬ (false = true) by decide)] at H;exact H
             clear H
             have H:=H1
             clear H1
             obtain rfl:=Option.some.inj H
             have p356 : 0 ≤ (x91_5 : Int):=of_decide_eq_true (by first|(with_reducible assumption)|assumption)
             have q356 : x91_5 < (l1_1.length : Int):=of_decide_eq_true (by first|(with_reducible assumption)|assumption)
             obtain ⟨ad356,e356,hx356_0⟩:=Kd.at_int HR1_1.out x91_5 p356 q356
             cases e356
             replace hx356_0:=(HB.out.cell (World.block_lt_of_cell? w _ hx356_0)).trans hx356_0
             replace p356:=eq_true p356
             replace q356:=eq_true q356
             have hnb65:=NB346_347.out
             have hnc65:=NB347_346.out
             obtain ⟨hcz66_0,hcz66_1,hcz66_2,hfz66_0,hfz66_1,hfz66_2⟩:=cells3 BK346.out
             obtain ⟨hcz67_0,hcz67_1,hfz67_0,hfz67_1⟩:=cells2 BK347.out
             go_wp2_with (first|(go_at_call 47;(with_reducible refine (hinterlandref06_Wet.calls k5 a0_0 a0_1 _ _ l0_2 _ _ l1_0 (rd l1_1 x91_5) false _ ?side1 ?side2 ?side3 ?side4 A59.out).mono ?_);(case side1 => exact Kd.C_up (Kd.C_below HR0_2.out HB.out));(case side2 => exact HC0_2.out);(case side3 => exact Kd.C_up (Kd.C_below HR1_0.out HB.out));(case side4 => exact HC1_0.out);rintro e w68 ⟨rfl,hb⟩;replace BK346:=bkb BK346 hb;replace BK347:=bkb BK347 hb;replace HB:=Aside0.mk (below_step (hb_) hb)))
             go_ret
             exact ⟨by first|rfl|(simp [errW_none,errW_some] <;> rfl)|(simp [*,errW_none,errW_some] <;> rfl),hb_⟩
           ·rw [if_neg c56] at H
            have c56b0 : decide (x91_5 < (l1_1.length : Int)) = false:=decide_eq_false c56
            clear c56
            obtain rfl:=Option.some.inj H
            go_wp2
            go_ret
            exact ⟨by first|rfl|(simp [errW_none,errW_some] <;> rfl)|(simp [*,errW_none,errW_some] <;> rfl),hb_⟩

end Go.Proofs.Ytiencnnkphipoaa.P

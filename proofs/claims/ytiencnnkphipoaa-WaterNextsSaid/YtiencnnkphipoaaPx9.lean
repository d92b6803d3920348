/- Functions of this seat as plain Lean functions, with proofs that the Go code comes to just their answers, or what stands between them and a law's statement; no conditions. (Laid by a program of this session, out of the kit's print.) -/
import Derived.Test.YtiencnnkphipoaaPx0
import Derived.Test.YtiencnnkphipoaaPx8
namespace Go.Proofs.Ytiencnnkphipoaa.P
open Go.RowKit Go.Proofs.YtiencnnkphipoaaW.PrintWords Go.Proofs.YtiencnnkphipoaaW.PrintLast Go.Proofs.YtiencnnkphipoaaW.PrintMore
attribute [local go_sem] max2_int min2_int max_two min_two max_three min_three max_four min_four   -- for this text's walks alone
set_option linter.unusedVariables false
set_option linter.unusedSimpArgs false

/-! ### hinterlandref02_Validate: function 48 -/
mutual
def hinterlandref02_Validate.j0 : Nat → Bool → Int → Int → List Int → Option (Int)
 | 0,_,_,_,_ => none
 | k + 1,x29,x322000,x322001,x322002 => if x29 = true then (some 1) else (hinterlandref02_Validate.l0 k x322002 (x322002.length : Int) 0 x322000 x322001 x322002)
def hinterlandref02_Validate.l0 : Nat → List Int → Int → Int → Int → Int → List Int → Option (Int)
 | 0,_,_,_,_,_,_ => none
 | k + 1,x31,x32,x33,x322000,x322001,x322002 => if x33 < x32 then (if 0 ≤ x33 then (if x33 < (x31.length : Int) then (if (rd x31 x33) < 0 then (some 1) else (if (rd x31 x33) > 15 then (some 1) else (hinterlandref02_Validate.l0 k x31 x32 (wrap64 (x33 + 1)) x322000 x322001 x322002))) else (none)) else (none)) else (hinterlandref02_Validate.l1 k x322002 (x322002.length : Int) 0 x322000 x322001 x322002)
def hinterlandref02_Validate.l1 : Nat → List Int → Int → Int → Int → Int → List Int → Option (Int)
 | 0,_,_,_,_,_,_ => none
 | k + 1,x45,x46,x47,x322000,x322001,x322002 => if x47 < x46 then (if 0 ≤ x47 then (if x47 < (x45.length : Int) then (if (wrap64 (x322000 + 1)) = 0 then (none) else (if (Int.tmod x47 (wrap64 (x322000 + 1))) > 0 then (if 0 ≤ (wrap64 (x47 - 1)) then (if (wrap64 (x47 - 1)) < (x322002.length : Int) then ((hinterlandref02_Apart.f (rd x45 x47) (rd x322002 (wrap64 (x47 - 1)))).bind fun t327 => (if t327 > 1 then (some 5) else (if x47 > x322000 then (if 0 ≤ (wrap64 ((wrap64 (x47 - x322000)) - 1)) then (if (wrap64 ((wrap64 (x47 - x322000)) - 1)) < (x322002.length : Int) then ((hinterlandref02_Apart.f (rd x45 x47) (rd x322002 (wrap64 ((wrap64 (x47 - x322000)) - 1)))).bind fun t329 => (if t329 > 1 then (some 5) else (hinterlandref02_Validate.l1 k x45 x46 (wrap64 (x47 + 1)) x322000 x322001 x322002))) else (none)) else (none)) else (hinterlandref02_Validate.l1 k x45 x46 (wrap64 (x47 + 1)) x322000 x322001 x322002)))) else (none)) else (none)) else (if x47 > x322000 then (if 0 ≤ (wrap64 ((wrap64 (x47 - x322000)) - 1)) then (if (wrap64 ((wrap64 (x47 - x322000)) - 1)) < (x322002.length : Int) then ((hinterlandref02_Apart.f (rd x45 x47) (rd x322002 (wrap64 ((wrap64 (x47 - x322000)) - 1)))).bind fun t331 => (if t331 > 1 then (some 5) else (hinterlandref02_Validate.l1 k x45 x46 (wrap64 (x47 + 1)) x322000 x322001 x322002))) else (none)) else (none)) else (hinterlandref02_Validate.l1 k x45 x46 (wrap64 (x47 + 1)) x322000 x322001 x322002)))) else (none)) else (none)) else (some 0)
end
def hinterlandref02_Validate.f (k : Nat) (a0_0 : Int) (a0_1 : Int) (l0_2 : List Int) : Option (Int) := (hinterlandref02_side.f a0_0).bind fun t322 => (if t322 = true then ((hinterlandref02_side.f a0_1).bind fun t323 => (if t323 = true then (hinterlandref02_Validate.j0 k ((l0_2.length : Int) != (wrap64 ((wrap64 (a0_0 + 1)) * (wrap64 (a0_1 + 1))))) a0_0 a0_1 l0_2) else (hinterlandref02_Validate.j0 k true a0_0 a0_1 l0_2))) else (hinterlandref02_Validate.j0 k true a0_0 a0_1 l0_2))
theorem hinterlandref02_Validate.mono_l : ∀ k, (∀ y0 y1 y2 y3, LeO (hinterlandref02_Validate.j0 k y0 y1 y2 y3) (hinterlandref02_Validate.j0 (k + 1) y0 y1 y2 y3)) ∧ (∀ y0 y1 y2 y3 y4 y5, LeO (hinterlandref02_Validate.l0 k y0 y1 y2 y3 y4 y5) (hinterlandref02_Validate.l0 (k + 1) y0 y1 y2 y3 y4 y5)) ∧ (∀ y0 y1 y2 y3 y4 y5, LeO (hinterlandref02_Validate.l1 k y0 y1 y2 y3 y4 y5) (hinterlandref02_Validate.l1 (k + 1) y0 y1 y2 y3 y4 y5))
 | 0 => ⟨fun _ _ _ _ r h => by simp [hinterlandref02_Validate.j0] at h,fun _ _ _ _ _ _ r h => by simp [hinterlandref02_Validate.l0] at h,fun _ _ _ _ _ _ r h => by simp [hinterlandref02_Validate.l1] at h⟩
 | k + 1 => by
  obtain ⟨ih0,ih1,ih2⟩:=hinterlandref02_Validate.mono_l k
  refine ⟨?_,?_,?_⟩
  ·intro y0 y1 y2 y3
   unfold hinterlandref02_Validate.j0
   repeat' first
   | (with_reducible exact ih0 _ _ _ _)
   | (with_reducible exact ih1 _ _ _ _ _ _)
   | (with_reducible exact ih2 _ _ _ _ _ _)
   | (with_reducible exact LeO.refl _)
   | (with_reducible exact LeO.none _)
   | (with_reducible refine LeO.ite ?_ ?_)
   | (with_reducible refine LeO.bind ?_ (fun _ => ?_))
   | exact ih0 _ _ _ _
   | exact ih1 _ _ _ _ _ _
   | exact ih2 _ _ _ _ _ _
   | exact LeO.none _
   | refine LeO.ite ?_ ?_
   | refine LeO.bind ?_ (fun _ => ?_)
  ·intro y0 y1 y2 y3 y4 y5
   unfold hinterlandref02_Validate.l0
   repeat' first
   | (with_reducible exact ih0 _ _ _ _)
   | (with_reducible exact ih1 _ _ _ _ _ _)
   | (with_reducible exact ih2 _ _ _ _ _ _)
   | (with_reducible exact LeO.refl _)
   | (with_reducible exact LeO.none _)
   | (with_reducible refine LeO.ite ?_ ?_)
   | (with_reducible refine LeO.bind ?_ (fun _ => ?_))
   | exact ih0 _ _ _ _
   | exact ih1 _ _ _ _ _ _
   | exact ih2 _ _ _ _ _ _
   | exact LeO.none _
   | refine LeO.ite ?_ ?_
   | refine LeO.bind ?_ (fun _ => ?_)
  ·intro y0 y1 y2 y3 y4 y5
   unfold hinterlandref02_Validate.l1
   repeat' first
   | (with_reducible exact ih0 _ _ _ _)
   | (with_reducible exact ih1 _ _ _ _ _ _)
   | (with_reducible exact ih2 _ _ _ _ _ _)
   | (with_reducible exact LeO.refl _)
   | (with_reducible exact LeO.none _)
   | (with_reducible refine LeO.ite ?_ ?_)
   | (with_reducible refine LeO.bind ?_ (fun _ => ?_))
   | exact ih0 _ _ _ _
   | exact ih1 _ _ _ _ _ _
   | exact ih2 _ _ _ _ _ _
   | exact LeO.none _
   | refine LeO.ite ?_ ?_
   | refine LeO.bind ?_ (fun _ => ?_)
theorem hinterlandref02_Validate.mono : ∀ a0 a1 a2 k, LeO (hinterlandref02_Validate.f k a0 a1 a2) (hinterlandref02_Validate.f (k + 1) a0 a1 a2) := by
 intro a0 a1 a2 k
 obtain ⟨ih0,ih1,ih2⟩:=hinterlandref02_Validate.mono_l k
 unfold hinterlandref02_Validate.f
 repeat' first
   | (with_reducible exact ih0 _ _ _ _)
   | (with_reducible exact ih1 _ _ _ _ _ _)
   | (with_reducible exact ih2 _ _ _ _ _ _)
   | (with_reducible exact LeO.refl _)
   | (with_reducible exact LeO.none _)
   | (with_reducible refine LeO.ite ?_ ?_)
   | (with_reducible refine LeO.bind ?_ (fun _ => ?_))
   | exact ih0 _ _ _ _
   | exact ih1 _ _ _ _ _ _
   | exact ih2 _ _ _ _ _ _
   | exact LeO.none _
   | refine LeO.ite ?_ ?_
   | refine LeO.bind ?_ (fun _ => ?_)
set_option maxHeartbeats 8000000 in
set_option maxRecDepth 100000 in
theorem hinterlandref02_Validate.calls (k : Nat) (a0_0 : Int) (a0_1 : Int) (A0_2 : Option Addr) (c0_2 : Nat) (l0_2 : List Int) (r : Int) (w : World) (hr0_2 : Kd.C (Kd.int .i64) w A0_2 l0_2.length l0_2) (hc0_2 : l0_2.length ≤ c0_2) (h : hinterlandref02_Validate.f k a0_0 a0_1 l0_2 = some r) :
  Calls Try.prog 48 #[.agg #[.int .i64 a0_0,.int .i64 a0_1,.slice A0_2 l0_2.length c0_2]] w fun e w' => e = .returned (.int .i64 r) ∧ Below w.heap.size w w':=by
 have hu24:=Try.underlying24
 have HR0_2:=Aside0.mk hr0_2
 have HC0_2:=Aside0.mk hc0_2
 clear hr0_2 hc0_2
 have HB:=Aside0.mk (Below.refl w.heap.size w)
 have H : ((hinterlandref02_side.f a0_0).bind fun t322 => (if t322 = true then ((hinterlandref02_side.f a0_1).bind fun t323 => (if t323 = true then (hinterlandref02_Validate.j0 k ((l0_2.length : Int) != (wrap64 ((wrap64 (a0_0 + 1)) * (wrap64 (a0_1 + 1))))) a0_0 a0_1 l0_2) else (hinterlandref02_Validate.j0 k true a0_0 a0_1 l0_2))) else (hinterlandref02_Validate.j0 k true a0_0 a0_1 l0_2))) = some r:=h
 clear h
 have HC2:=Aside0.mk H
 clear H
 go_enter Try.func48,Try.ntmps48
 go_upto_region 1 with (first|((with_reducible refine gate_dst (N:=1) rfl ?_);(try (refine gate_guard (by rfl) ?_;dsimp only));refine box_ev (N:=1) (cs:=#[.int .i64 a0_0,.int .i64 a0_1,.slice A0_2 l0_2.length c0_2]) (t:=24) ?_;intro gb321 hg w3 hbox hb;have BK321:=Aside0.mk (hbox);have GW321 : Aside0 (w.heap.size ≤ gb321):=gsz hg;have GE321:=GW321;replace HB:=Aside0.mk (below_step (hb_) hb);clear hb hbox hg))
 (try simp only [Act.put,List.setIfInBounds_toArray,List.set_cons_zero,List.set_cons_succ])
 go_cut [29] (fun v29 wc => ∃ (kq : Nat) (x29_1 : Bool),v29 = .bool x29_1 ∧ Aside0 (hinterlandref02_Validate.j0 kq x29_1 a0_0 a0_1 l0_2 = some r) ∧ Aside0 (kq ≤ k) ∧ Aside0 (wc.heap[gb321]? = some (.cells #[.int .i64 a0_0,.int .i64 a0_1,(.slice A0_2 l0_2.length c0_2)] 24 (0,0))) ∧ Aside0 (Below w.heap.size w wc))
 case first =>
  have H:=HC2.out
  clear HC2
  replace H:=Option.bind_eq_some_iff.mp H
  obtain ⟨t322,A40,H⟩:=H
  replace H : (if t322 = true then ((hinterlandref02_side.f a0_1).bind fun t323 => (if t323 = true then (hinterlandref02_Validate.j0 k ((l0_2.length : Int) != (wrap64 ((wrap64 (a0_0 + 1)) * (wrap64 (a0_1 + 1))))) a0_0 a0_1 l0_2) else (hinterlandref02_Validate.j0 k true a0_0 a0_1 l0_2))) else (hinterlandref02_Validate.j0 k true a0_0 a0_1 l0_2)) = some r:=H
  have A4:=Aside0.mk A40
  clear A40
  by_cases c5 : t322 = true
  ·subst c5
   have H1 : ((hinterlandref02_side.f a0_1).bind fun t323 => (if t323 = true then (hinterlandref02_Validate.j0 k ((l0_2.length : Int) != (wrap64 ((wrap64 (a0_0 + 1)) * (wrap64 (a0_1 + 1))))) a0_0 a0_1 l0_2) else (hinterlandref02_Validate.j0 k true a0_0 a0_1 l0_2))) = some r:=by rw [if_pos rfl] at H;exact H
   clear H
   have H:=H1
   clear H1
   replace H:=Option.bind_eq_some_iff.mp H
   obtain ⟨t323,A60,H⟩:=H
   replace H : (if t323 = true then (hinterlandref02_Validate.j0 k ((l0_2.length : Int) != (wrap64 ((wrap64 (a0_0 + 1)) * (wrap64 (a0_1 + 1))))) a0_0 a0_1 l0_2) else (hinterlandref02_Validate.j0 k true a0_0 a0_1 l0_2)) = some r:=H
   have A6:=Aside0.mk A60
   clear A60
   by_cases c7 : t323 = true
   ·subst c7
    have H1 : (hinterlandref02_Validate.j0 k ((l0_2.length : Int) != (wrap64 ((wrap64 (a0_0 + 1)) * (wrap64 (a0_1 + 1))))) a0_0 a0_1 l0_2) = some r:=by rw [if_pos rfl] at H;exact H
    clear H
    have H:=H1
    clear H1
    have H':=Aside0.mk H
    clear H
    obtain ⟨hcz8_0,hcz8_1,hcz8_2,hfz8_0,hfz8_1,hfz8_2⟩:=cells3 BK321.out
    go_wp2_with (first|((with_reducible refine gate_callee (f:=66) rfl ?_);refine goesL_ (some 9) rfl rfl Try.func66 (by kernel_rfl) rfl #[.int .i64 a0_0] rfl (by (try simp only [List.map_toArray,List.map_cons,List.map_nil]);first|done|rfl|(simp only [List.length_drop,List.length_take];rfl)) ?_;(with_reducible refine (hinterlandref02_side.calls a0_0 true _ A4.out).mono ?_);rintro e w' ⟨rfl,⟨nd,rfl⟩⟩;refine ⟨_,rfl,?_⟩)|(go_at_call 66;(with_reducible refine (hinterlandref02_side.calls a0_1 true _ A6.out).mono ?_);rintro e w' ⟨rfl,⟨nd,rfl⟩⟩))
    go_meet
    case rel => exact ⟨_,(((l0_2.length : Int) != (wrap64 ((wrap64 (a0_0 + 1)) * (wrap64 (a0_1 + 1)))))),(by first|rfl|(simp;done)|(simp [*];done)),H',⟨by first|omega|exact Nat.le_refl _⟩,⟨blk_up BK321.out⟩,⟨hb_⟩⟩
   ·replace c7:=Bool.eq_false_iff.mpr c7
    subst c7
    have H1 : (hinterlandref02_Validate.j0 k true a0_0 a0_1 l0_2) = some r:=by rw [if_neg (show ¬ (false = true) by decide)] at H;exact H
    clear H
    have H:=H1
    clear H1
    have H':=Aside0.mk H
    clear H
    obtain ⟨hcz9_0,hcz9_1,hcz9_2,hfz9_0,hfz9_1,hfz9_2⟩:=cells3 BK321.out
    go_wp2_with (first|((with_reducible refine gate_callee (f:=66) rfl ?_);refine goesL_ (some 9) rfl rfl Try.func66 (by kernel_rfl) rfl #[.int .i64 a0_0] rfl (by (try simp only [List.map_toArray,List.map_cons,List.map_nil]);first|done|rfl|(simp only [List.length_drop,List.length_take];rfl)) ?_;(with_reducible refine (hinterlandref02_side.calls a0_0 true _ A4.out).mono ?_);rintro e w' ⟨rfl,⟨nd,rfl⟩⟩;refine ⟨_,rfl,?_⟩)|(go_at_call 66;(with_reducible refine (hinterlandref02_side.calls a0_1 false _ A6.out).mono ?_);rintro e w' ⟨rfl,⟨nd,rfl⟩⟩))
    go_meet
    case rel => exact ⟨_,(true),(by first|rfl|(simp;done)|(simp [*];done)),H',⟨by first|omega|exact Nat.le_refl _⟩,⟨blk_up BK321.out⟩,⟨hb_⟩⟩
  ·replace c5:=Bool.eq_false_iff.mpr c5
   subst c5
   have H1 : (hinterlandref02_Validate.j0 k true a0_0 a0_1 l0_2) = some r:=by rw [if_neg (show ¬ (false = true) by decide)] at H;exact H
   clear H
   have H:=H1
   clear H1
   have H':=Aside0.mk H
   clear H
   obtain ⟨hcz10_0,hcz10_1,hcz10_2,hfz10_0,hfz10_1,hfz10_2⟩:=cells3 BK321.out
   go_wp2_with (first|((with_reducible refine gate_callee (f:=66) rfl ?_);refine goesL_ (some 9) rfl rfl Try.func66 (by kernel_rfl) rfl #[.int .i64 a0_0] rfl (by (try simp only [List.map_toArray,List.map_cons,List.map_nil]);first|done|rfl|(simp only [List.length_drop,List.length_take];rfl)) ?_;(with_reducible refine (hinterlandref02_side.calls a0_0 false _ A4.out).mono ?_);rintro e w' ⟨rfl,⟨nd,rfl⟩⟩;refine ⟨_,rfl,?_⟩))
   go_meet
   case rel => exact ⟨_,(true),(by first|rfl|(simp;done)|(simp [*];done)),H',⟨by first|omega|exact Nat.le_refl _⟩,⟨blk_up BK321.out⟩,⟨hb_⟩⟩
 case rest =>
  clear HC2
  obtain ⟨kq,x29_1,rfl,HA,HJ1,BK321,HB⟩:=hcut
  cases kq with
  | zero => exact absurd HA.out (by simp [hinterlandref02_Validate.j0])
  | succ kj1 =>
   have H:=HA.out
   clear HA
   simp only [hinterlandref02_Validate.j0] at H
   by_cases c11 : x29_1 = true
   ·subst c11
    have H1 : (some 1) = some r:=by rw [if_pos rfl] at H;exact H
    clear H
    have H:=H1
    clear H1
    obtain rfl:=Option.some.inj H
    go_wp2
    go_ret
    exact ⟨by first|rfl|(simp [errW_none,errW_some] <;> rfl)|(simp [*,errW_none,errW_some] <;> rfl),hb_⟩
   ·replace c11:=Bool.eq_false_iff.mpr c11
    subst c11
    have H1 : (hinterlandref02_Validate.l0 kj1 l0_2 (l0_2.length : Int) 0 a0_0 a0_1 l0_2) = some r:=by rw [if_neg (show ¬ (false = true) by decide)] at H;exact H
    clear H
    have H:=H1
    clear H1
    have H':=Aside0.mk H
    clear H
    obtain ⟨hcz12_0,hcz12_1,hcz12_2,hfz12_0,hfz12_1,hfz12_2⟩:=cells3 BK321.out
    go_wp2
    go_loopg [33] kj1 (fun kq v33 w' => ∃ (x33_2 : Int),v33 = .int .i64 x33_2 ∧ Aside0 (hinterlandref02_Validate.l0 kq l0_2 (l0_2.length : Int) x33_2 a0_0 a0_1 l0_2 = some r) ∧ Aside0 (kq ≤ kj1) ∧ Aside0 (w'.heap[gb321]? = some (.cells #[.int .i64 a0_0,.int .i64 a0_1,(.slice A0_2 l0_2.length c0_2)] 24 (0,0))) ∧ Aside0 (Below w.heap.size w w'))
    case atStart => exact ⟨(0),(by first|rfl|(simp;done)|(simp [*];done)),H',⟨Nat.le_refl _⟩,⟨blk_up BK321.out⟩,⟨hb_⟩⟩
    case round =>
     clear H'
     obtain ⟨x33_2,rfl,HA,HK2,BK321,HB⟩:=hrel
     cases gk with
     | zero => exact absurd HA.out (by simp [hinterlandref02_Validate.l0])
     | succ k2 =>
      have H:=HA.out
      clear HA
      simp only [hinterlandref02_Validate.l0] at H
      by_cases c13 : x33_2 < (l0_2.length : Int)
      ·rw [if_pos c13] at H
       have c13b0 : decide (x33_2 < (l0_2.length : Int)) = true:=decide_eq_true c13
       clear c13
       replace H:=ifp_ H;obtain ⟨c14,H⟩:=H
       have c14b0 : decide (0 ≤ x33_2) = true:=decide_eq_true c14
       clear c14
       replace H:=ifp_ H;obtain ⟨c15,H⟩:=H
       have c15b0 : decide (x33_2 < (l0_2.length : Int)) = true:=decide_eq_true c15
       clear c15
       by_cases c16 : (rd l0_2 x33_2) < 0
       ·rw [if_pos c16] at H
        have c16b0 : decide ((rd l0_2 x33_2) < 0) = true:=decide_eq_true c16
        clear c16
        obtain rfl:=Option.some.inj H
        have p324 : 0 ≤ (x33_2 : Int):=of_decide_eq_true (by first|(with_reducible assumption)|assumption)
        have q324 : x33_2 < (l0_2.length : Int):=of_decide_eq_true (by first|(with_reducible assumption)|assumption)
        obtain ⟨ad324,e324,hx324_0⟩:=Kd.at_int HR0_2.out x33_2 p324 q324
        cases e324
        replace hx324_0:=(HB.out.cell (World.block_lt_of_cell? w _ hx324_0)).trans hx324_0
        replace p324:=eq_true p324
        replace q324:=eq_true q324
        go_wp2
        go_ret
        exact ⟨by first|rfl|(simp [errW_none,errW_some] <;> rfl)|(simp [*,errW_none,errW_some] <;> rfl),hb_⟩
       rw [if_neg c16] at H
       have c16b0 : decide ((rd l0_2 x33_2) < 0) = false:=decide_eq_false c16
       clear c16
       by_cases c17 : (rd l0_2 x33_2) > 15
       ·rw [if_pos c17] at H
        have c17b0 : decide (15 < (rd l0_2 x33_2)) = true:=decide_eq_true c17
        clear c17
        obtain rfl:=Option.some.inj H
        have p324 : 0 ≤ (x33_2 : Int):=of_decide_eq_true (by first|(with_reducible assumption)|assumption)
        have q324 : x33_2 < (l0_2.length : Int):=of_decide_eq_true (by first|(with_reducible assumption)|assumption)
        obtain ⟨ad324,e324,hx324_0⟩:=Kd.at_int HR0_2.out x33_2 p324 q324
        cases e324
        replace hx324_0:=(HB.out.cell (World.block_lt_of_cell? w _ hx324_0)).trans hx324_0
        replace p324:=eq_true p324
        replace q324:=eq_true q324
        go_wp2
        go_ret
        exact ⟨by first|rfl|(simp [errW_none,errW_some] <;> rfl)|(simp [*,errW_none,errW_some] <;> rfl),hb_⟩
       ·rw [if_neg c17] at H
        have c17b0 : decide (15 < (rd l0_2 x33_2)) = false:=decide_eq_false c17
        clear c17
        have H':=Aside0.mk H
        clear H
        have p324 : 0 ≤ (x33_2 : Int):=of_decide_eq_true (by first|(with_reducible assumption)|assumption)
        have q324 : x33_2 < (l0_2.length : Int):=of_decide_eq_true (by first|(with_reducible assumption)|assumption)
        obtain ⟨ad324,e324,hx324_0⟩:=Kd.at_int HR0_2.out x33_2 p324 q324
        cases e324
        replace hx324_0:=(HB.out.cell (World.block_lt_of_cell? w _ hx324_0)).trans hx324_0
        replace p324:=eq_true p324
        replace q324:=eq_true q324
        go_wp2
        go_roundg k2
        case measure => have:=HJ1.out;have:=HK2.out;omega
        case rel => exact ⟨(wrap64 (x33_2 + 1)),(by first|rfl|(simp;done)|(simp [*];done)),H',⟨by have:=HJ1.out;have:=HK2.out;omega⟩,⟨blk_up BK321.out⟩,⟨hb_⟩⟩
      rw [if_neg c13] at H
      have c13b0 : decide (x33_2 < (l0_2.length : Int)) = false:=decide_eq_false c13
      clear c13
      have H':=Aside0.mk H
      clear H
      obtain ⟨hcz18_0,hcz18_1,hcz18_2,hfz18_0,hfz18_1,hfz18_2⟩:=cells3 BK321.out
      go_wp2
      go_loopg [47] k2 (fun kq v47 w' => ∃ (x47_3 : Int),v47 = .int .i64 x47_3 ∧ Aside0 (hinterlandref02_Validate.l1 kq l0_2 (l0_2.length : Int) x47_3 a0_0 a0_1 l0_2 = some r) ∧ Aside0 (kq ≤ k2) ∧ Aside0 (w'.heap[gb321]? = some (.cells #[.int .i64 a0_0,.int .i64 a0_1,(.slice A0_2 l0_2.length c0_2)] 24 (0,0))) ∧ Aside0 (Below w.heap.size w w'))
      case atStart => exact ⟨(0),(by first|rfl|(simp;done)|(simp [*];done)),H',⟨Nat.le_refl _⟩,⟨blk_up BK321.out⟩,⟨hb_⟩⟩
      case round =>
       clear H'
       obtain ⟨x47_3,rfl,HA,HK3,BK321,HB⟩:=hrel
       cases gk with
       | zero => exact absurd HA.out (by simp [hinterlandref02_Validate.l1])
       | succ k3 =>
        have H:=HA.out
        clear HA
        simp only [hinterlandref02_Validate.l1] at H
        by_cases c19 : x47_3 < (l0_2.length : Int)
        rotate_left
        ·rw [if_neg c19] at H
         have c19b0 : decide (x47_3 < (l0_2.length : Int)) = false:=decide_eq_false c19
         clear c19
         obtain rfl:=Option.some.inj H
         go_wp2
         go_ret
         exact ⟨by first|rfl|(simp [errW_none,errW_some] <;> rfl)|(simp [*,errW_none,errW_some] <;> rfl),hb_⟩
        rw [if_pos c19] at H
        have c19b0 : decide (x47_3 < (l0_2.length : Int)) = true:=decide_eq_true c19
        clear c19
        replace H:=ifp_ H;obtain ⟨c20,H⟩:=H
        have c20b0 : decide (0 ≤ x47_3) = true:=decide_eq_true c20
        clear c20
        replace H:=ifp_ H;obtain ⟨c21,H⟩:=H
        have c21b0 : decide (x47_3 < (l0_2.length : Int)) = true:=decide_eq_true c21
        clear c21
        replace H:=ifn_ H;obtain ⟨c22,H⟩:=H
        have c22b0 : ((wrap64 (a0_0 + 1)) == 0) = false:=beq_eq_false_iff_ne.mpr c22
        have c22b1 : ((wrap64 (a0_0 + 1)) != 0) = true:=bne_iff_ne.mpr c22
        by_cases c23 : (Int.tmod x47_3 (wrap64 (a0_0 + 1))) > 0
        rotate_left
        ·rw [if_neg c23] at H
         have c23b0 : decide (0 < (Int.tmod x47_3 (wrap64 (a0_0 + 1)))) = false:=decide_eq_false c23
         clear c23
         by_cases c39 : x47_3 > a0_0
         rotate_left
         ·rw [if_neg c39] at H
          have c39b0 : decide (a0_0 < x47_3) = false:=decide_eq_false c39
          clear c39
          have H':=Aside0.mk H
          clear H
          have p325 : 0 ≤ (x47_3 : Int):=of_decide_eq_true (by first|(with_reducible assumption)|assumption)
          have q325 : x47_3 < (l0_2.length : Int):=of_decide_eq_true (by first|(with_reducible assumption)|assumption)
          obtain ⟨ad325,e325,hx325_0⟩:=Kd.at_int HR0_2.out x47_3 p325 q325
          cases e325
          replace hx325_0:=(HB.out.cell (World.block_lt_of_cell? w _ hx325_0)).trans hx325_0
          replace p325:=eq_true p325
          replace q325:=eq_true q325
          obtain ⟨hcz47_0,hcz47_1,hcz47_2,hfz47_0,hfz47_1,hfz47_2⟩:=cells3 BK321.out
          go_wp2
          go_roundg k3
          case measure => have:=HJ1.out;have:=HK2.out;have:=HK3.out;omega
          case rel => exact ⟨(wrap64 (x47_3 + 1)),(by first|rfl|(simp;done)|(simp [*];done)),H',⟨by have:=HJ1.out;have:=HK2.out;have:=HK3.out;omega⟩,⟨blk_up BK321.out⟩,⟨hb_⟩⟩
         rw [if_pos c39] at H
         have c39b0 : decide (a0_0 < x47_3) = true:=decide_eq_true c39
         clear c39
         obtain ⟨ji40,hji40⟩ : ∃ j_ : Int,(wrap64 ((wrap64 (x47_3 - a0_0)) - 1)) = j_:=⟨_,rfl⟩
         replace H : (if 0 ≤ (ji40) then (if (ji40) < (l0_2.length : Int) then ((hinterlandref02_Apart.f (rd l0_2 x47_3) (rd l0_2 (ji40))).bind fun t331 => (if t331 > 1 then (some 5) else (hinterlandref02_Validate.l1 k3 l0_2 (l0_2.length : Int) (wrap64 (x47_3 + 1)) a0_0 a0_1 l0_2))) else (none)) else (none)) = some r:=by first|(rw [hji40] at H;exact H)|(simp only [hji40] at H ⊢;exact H)
         have hji40w : (IntKind.i64.wrap ((wrap64 (x47_3 - a0_0)) - 1)) = ji40:=(i64_w _).trans hji40
         replace H:=ifp_ H;obtain ⟨c41,H⟩:=H
         have c41b0 : decide (0 ≤ (ji40)) = true:=decide_eq_true c41
         clear c41
         replace H:=ifp_ H;obtain ⟨c42,H⟩:=H
         have c42b0 : decide ((ji40) < (l0_2.length : Int)) = true:=decide_eq_true c42
         clear c42
         replace H:=Option.bind_eq_some_iff.mp H
         obtain ⟨t331,A430,H⟩:=H
         replace H : (if t331 > 1 then (some 5) else (hinterlandref02_Validate.l1 k3 l0_2 (l0_2.length : Int) (wrap64 (x47_3 + 1)) a0_0 a0_1 l0_2)) = some r:=H
         have A43:=Aside0.mk A430
         clear A430
         by_cases c44 : t331 > 1
         ·rw [if_pos c44] at H
          have c44b0 : decide (1 < t331) = true:=decide_eq_true c44
          clear c44
          obtain rfl:=Option.some.inj H
          have p325 : 0 ≤ (x47_3 : Int):=of_decide_eq_true (by first|(with_reducible assumption)|assumption)
          have q325 : x47_3 < (l0_2.length : Int):=of_decide_eq_true (by first|(with_reducible assumption)|assumption)
          obtain ⟨ad325,e325,hx325_0⟩:=Kd.at_int HR0_2.out x47_3 p325 q325
          cases e325
          replace hx325_0:=(HB.out.cell (World.block_lt_of_cell? w _ hx325_0)).trans hx325_0
          replace p325:=eq_true p325
          replace q325:=eq_true q325
          obtain ⟨hcz45_0,hcz45_1,hcz45_2,hfz45_0,hfz45_1,hfz45_2⟩:=cells3 BK321.out
          have p330 : 0 ≤ ((ji40) : Int):=of_decide_eq_true (by first|(with_reducible assumption)|assumption)
          have q330 : (ji40) < (l0_2.length : Int):=of_decide_eq_true (by first|(with_reducible assumption)|assumption)
          obtain ⟨ad330,e330,hx330_0⟩:=Kd.at_int HR0_2.out (ji40) p330 q330
          obtain rfl : ad325 = ad330:=(by injection e330)
          replace hx330_0:=(HB.out.cell (World.block_lt_of_cell? w _ hx330_0)).trans hx330_0
          replace p330:=eq_true p330
          replace q330:=eq_true q330
          go_wp2_with (first|(go_at_call 67;(with_reducible refine (hinterlandref02_Apart.calls (rd l0_2 x47_3) (rd l0_2 (ji40)) t331 _ A43.out).mono ?_);rintro e w' ⟨rfl,⟨nd,rfl⟩⟩))
          go_ret
          exact ⟨by first|rfl|(simp [errW_none,errW_some] <;> rfl)|(simp only [← hji40];first|rfl|(simp [errW_none,errW_some] <;> rfl))|(simp [*,errW_none,errW_some] <;> rfl),hb_⟩
         ·rw [if_neg c44] at H
          have c44b0 : decide (1 < t331) = false:=decide_eq_false c44
          clear c44
          have H':=Aside0.mk H
          clear H
          have p325 : 0 ≤ (x47_3 : Int):=of_decide_eq_true (by first|(with_reducible assumption)|assumption)
          have q325 : x47_3 < (l0_2.length : Int):=of_decide_eq_true (by first|(with_reducible assumption)|assumption)
          obtain ⟨ad325,e325,hx325_0⟩:=Kd.at_int HR0_2.out x47_3 p325 q325
          cases e325
          replace hx325_0:=(HB.out.cell (World.block_lt_of_cell? w _ hx325_0)).trans hx325_0
          replace p325:=eq_true p325
          replace q325:=eq_true q325
          obtain ⟨hcz46_0,hcz46_1,hcz46_2,hfz46_0,hfz46_1,hfz46_2⟩:=cells3 BK321.out
          have p330 : 0 ≤ ((ji40) : Int):=of_decide_eq_true (by first|(with_reducible assumption)|assumption)
          have q330 : (ji40) < (l0_2.length : Int):=of_decide_eq_true (by first|(with_reducible assumption)|assumption)
          obtain ⟨ad330,e330,hx330_0⟩:=Kd.at_int HR0_2.out (ji40) p330 q330
          obtain rfl : ad325 = ad330:=(by injection e330)
          replace hx330_0:=(HB.out.cell (World.block_lt_of_cell? w _ hx330_0)).trans hx330_0
          replace p330:=eq_true p330
          replace q330:=eq_true q330
          go_wp2_with (first|(go_at_call 67;(with_reducible refine (hinterlandref02_Apart.calls (rd l0_2 x47_3) (rd l0_2 (ji40)) t331 _ A43.out).mono ?_);rintro e w' ⟨rfl,⟨nd,rfl⟩⟩))
          go_roundg k3
          case measure => have:=HJ1.out;have:=HK2.out;have:=HK3.out;omega
          case rel => exact ⟨(wrap64 (x47_3 + 1)),(by first|rfl|(simp;done)|(simp [*];done)),H',⟨by have:=HJ1.out;have:=HK2.out;have:=HK3.out;omega⟩,⟨blk_up BK321.out⟩,⟨hb_⟩⟩
        rw [if_pos c23] at H
        have c23b0 : decide (0 < (Int.tmod x47_3 (wrap64 (a0_0 + 1)))) = true:=decide_eq_true c23
        clear c23
        obtain ⟨ji24,hji24⟩ : ∃ j_ : Int,(wrap64 (x47_3 - 1)) = j_:=⟨_,rfl⟩
        replace H : (if 0 ≤ (ji24) then (if (ji24) < (l0_2.length : Int) then ((hinterlandref02_Apart.f (rd l0_2 x47_3) (rd l0_2 (ji24))).bind fun t327 => (if t327 > 1 then (some 5) else (if x47_3 > a0_0 then (if 0 ≤ (wrap64 ((wrap64 (x47_3 - a0_0)) - 1)) then (if (wrap64 ((wrap64 (x47_3 - a0_0)) - 1)) < (l0_2.length : Int) then ((hinterlandref02_Apart.f (rd l0_2 x47_3) (rd l0_2 (wrap64 ((wrap64 (x47_3 - a0_0)) - 1)))).bind fun t329 => (if t329 > 1 then (some 5) else (hinterlandref02_Validate.l1 k3 l0_2 (l0_2.length : Int) (wrap64 (x47_3 + 1)) a0_0 a0_1 l0_2))) else (none)) else (none)) else (hinterlandref02_Validate.l1 k3 l0_2 (l0_2.length : Int) (wrap64 (x47_3 + 1)) a0_0 a0_1 l0_2)))) else (none)) else (none)) = some r:=by first|(rw [hji24] at H;exact H)|(simp only [hji24] at H ⊢;exact H)
        have hji24w : (IntKind.i64.wrap (x47_3 - 1)) = ji24:=(i64_w _).trans hji24
        replace H:=ifp_ H;obtain ⟨c25,H⟩:=H
        have c25b0 : decide (0 ≤ (ji24)) = true:=decide_eq_true c25
        clear c25
        replace H:=ifp_ H;obtain ⟨c26,H⟩:=H
        have c26b0 : decide ((ji24) < (l0_2.length : Int)) = true:=decide_eq_true c26
        clear c26
        replace H:=Option.bind_eq_some_iff.mp H
        obtain ⟨t327,A270,H⟩:=H
        replace H : (if t327 > 1 then (some 5) else (if x47_3 > a0_0 then (if 0 ≤ (wrap64 ((wrap64 (x47_3 - a0_0)) - 1)) then (if (wrap64 ((wrap64 (x47_3 - a0_0)) - 1)) < (l0_2.length : Int) then ((hinterlandref02_Apart.f (rd l0_2 x47_3) (rd l0_2 (wrap64 ((wrap64 (x47_3 - a0_0)) - 1)))).bind fun t329 => (if t329 > 1 then (some 5) else (hinterlandref02_Validate.l1 k3 l0_2 (l0_2.length : Int) (wrap64 (x47_3 + 1)) a0_0 a0_1 l0_2))) else (none)) else (none)) else (hinterlandref02_Validate.l1 k3 l0_2 (l0_2.length : Int) (wrap64 (x47_3 + 1)) a0_0 a0_1 l0_2))) = some r:=H
        have A27:=Aside0.mk A270
        clear A270
        by_cases c28 : t327 > 1
        ·rw [if_pos c28] at H
         have c28b0 : decide (1 < t327) = true:=decide_eq_true c28
         clear c28
         obtain rfl:=Option.some.inj H
         have p325 : 0 ≤ (x47_3 : Int):=of_decide_eq_true (by first|(with_reducible assumption)|assumption)
         have q325 : x47_3 < (l0_2.length : Int):=of_decide_eq_true (by first|(with_reducible assumption)|assumption)
         obtain ⟨ad325,e325,hx325_0⟩:=Kd.at_int HR0_2.out x47_3 p325 q325
         cases e325
         replace hx325_0:=(HB.out.cell (World.block_lt_of_cell? w _ hx325_0)).trans hx325_0
         replace p325:=eq_true p325
         replace q325:=eq_true q325
         obtain ⟨hcz29_0,hcz29_1,hcz29_2,hfz29_0,hfz29_1,hfz29_2⟩:=cells3 BK321.out
         have p326 : 0 ≤ ((ji24) : Int):=of_decide_eq_true (by first|(with_reducible assumption)|assumption)
         have q326 : (ji24) < (l0_2.length : Int):=of_decide_eq_true (by first|(with_reducible assumption)|assumption)
         obtain ⟨ad326,e326,hx326_0⟩:=Kd.at_int HR0_2.out (ji24) p326 q326
         obtain rfl : ad325 = ad326:=(by injection e326)
         replace hx326_0:=(HB.out.cell (World.block_lt_of_cell? w _ hx326_0)).trans hx326_0
         replace p326:=eq_true p326
         replace q326:=eq_true q326
         go_wp2_with (first|(go_at_call 67;(with_reducible refine (hinterlandref02_Apart.calls (rd l0_2 x47_3) (rd l0_2 (ji24)) t327 _ A27.out).mono ?_);rintro e w' ⟨rfl,⟨nd,rfl⟩⟩))
         go_ret
         exact ⟨by first|rfl|(simp [errW_none,errW_some] <;> rfl)|(simp only [← hji24];first|rfl|(simp [errW_none,errW_some] <;> rfl))|(simp [*,errW_none,errW_some] <;> rfl),hb_⟩
        rw [if_neg c28] at H
        have c28b0 : decide (1 < t327) = false:=decide_eq_false c28
        clear c28
        by_cases c30 : x47_3 > a0_0
        rotate_left
        ·rw [if_neg c30] at H
         have c30b0 : decide (a0_0 < x47_3) = false:=decide_eq_false c30
         clear c30
         have H':=Aside0.mk H
         clear H
         have p325 : 0 ≤ (x47_3 : Int):=of_decide_eq_true (by first|(with_reducible assumption)|assumption)
         have q325 : x47_3 < (l0_2.length : Int):=of_decide_eq_true (by first|(with_reducible assumption)|assumption)
         obtain ⟨ad325,e325,hx325_0⟩:=Kd.at_int HR0_2.out x47_3 p325 q325
         cases e325
         replace hx325_0:=(HB.out.cell (World.block_lt_of_cell? w _ hx325_0)).trans hx325_0
         replace p325:=eq_true p325
         replace q325:=eq_true q325
         obtain ⟨hcz38_0,hcz38_1,hcz38_2,hfz38_0,hfz38_1,hfz38_2⟩:=cells3 BK321.out
         have p326 : 0 ≤ ((ji24) : Int):=of_decide_eq_true (by first|(with_reducible assumption)|assumption)
         have q326 : (ji24) < (l0_2.length : Int):=of_decide_eq_true (by first|(with_reducible assumption)|assumption)
         obtain ⟨ad326,e326,hx326_0⟩:=Kd.at_int HR0_2.out (ji24) p326 q326
         obtain rfl : ad325 = ad326:=(by injection e326)
         replace hx326_0:=(HB.out.cell (World.block_lt_of_cell? w _ hx326_0)).trans hx326_0
         replace p326:=eq_true p326
         replace q326:=eq_true q326
         go_wp2_with (first|(go_at_call 67;(with_reducible refine (hinterlandref02_Apart.calls (rd l0_2 x47_3) (rd l0_2 (ji24)) t327 _ A27.out).mono ?_);rintro e w' ⟨rfl,⟨nd,rfl⟩⟩))
         go_roundg k3
         case measure => have:=HJ1.out;have:=HK2.out;have:=HK3.out;omega
         case rel => exact ⟨(wrap64 (x47_3 + 1)),(by first|rfl|(simp;done)|(simp [*];done)),H',⟨by have:=HJ1.out;have:=HK2.out;have:=HK3.out;omega⟩,⟨blk_up BK321.out⟩,⟨hb_⟩⟩
        rw [if_pos c30] at H
        have c30b0 : decide (a0_0 < x47_3) = true:=decide_eq_true c30
        clear c30
        obtain ⟨ji31,hji31⟩ : ∃ j_ : Int,(wrap64 ((wrap64 (x47_3 - a0_0)) - 1)) = j_:=⟨_,rfl⟩
        replace H : (if 0 ≤ (ji31) then (if (ji31) < (l0_2.length : Int) then ((hinterlandref02_Apart.f (rd l0_2 x47_3) (rd l0_2 (ji31))).bind fun t329 => (if t329 > 1 then (some 5) else (hinterlandref02_Validate.l1 k3 l0_2 (l0_2.length : Int) (wrap64 (x47_3 + 1)) a0_0 a0_1 l0_2))) else (none)) else (none)) = some r:=by first|(rw [hji31] at H;exact H)|(simp only [hji31] at H ⊢;exact H)
        (try rw [hji31] at A27)
        have hji31w : (IntKind.i64.wrap ((wrap64 (x47_3 - a0_0)) - 1)) = ji31:=(i64_w _).trans hji31
        replace H:=ifp_ H;obtain ⟨c32,H⟩:=H
        have c32b0 : decide (0 ≤ (ji31)) = true:=decide_eq_true c32
        clear c32
        replace H:=ifp_ H;obtain ⟨c33,H⟩:=H
        have c33b0 : decide ((ji31) < (l0_2.length : Int)) = true:=decide_eq_true c33
        clear c33
        replace H:=Option.bind_eq_some_iff.mp H
        obtain ⟨t329,A340,H⟩:=H
        replace H : (if t329 > 1 then (some 5) else (hinterlandref02_Validate.l1 k3 l0_2 (l0_2.length : Int) (wrap64 (x47_3 + 1)) a0_0 a0_1 l0_2)) = some r:=H
        have A34:=Aside0.mk A340
        clear A340
        by_cases c35 : t329 > 1
        ·rw [if_pos c35] at H
         have c35b0 : decide (1 < t329) = true:=decide_eq_true c35
         clear c35
         obtain rfl:=Option.some.inj H
         have p325 : 0 ≤ (x47_3 : Int):=of_decide_eq_true (by first|(with_reducible assumption)|assumption)
         have q325 : x47_3 < (l0_2.length : Int):=of_decide_eq_true (by first|(with_reducible assumption)|assumption)
         obtain ⟨ad325,e325,hx325_0⟩:=Kd.at_int HR0_2.out x47_3 p325 q325
         cases e325
         replace hx325_0:=(HB.out.cell (World.block_lt_of_cell? w _ hx325_0)).trans hx325_0
         replace p325:=eq_true p325
         replace q325:=eq_true q325
         obtain ⟨hcz36_0,hcz36_1,hcz36_2,hfz36_0,hfz36_1,hfz36_2⟩:=cells3 BK321.out
         have p326 : 0 ≤ ((ji24) : Int):=of_decide_eq_true (by first|(with_reducible assumption)|assumption)
         have q326 : (ji24) < (l0_2.length : Int):=of_decide_eq_true (by first|(with_reducible assumption)|assumption)
         obtain ⟨ad326,e326,hx326_0⟩:=Kd.at_int HR0_2.out (ji24) p326 q326
         obtain rfl : ad325 = ad326:=(by injection e326)
         replace hx326_0:=(HB.out.cell (World.block_lt_of_cell? w _ hx326_0)).trans hx326_0
         replace p326:=eq_true p326
         replace q326:=eq_true q326
         go_wp2_with (first|(go_at_call 67;(with_reducible refine (hinterlandref02_Apart.calls (rd l0_2 x47_3) (rd l0_2 (ji24)) t327 _ A27.out).mono ?_);rintro e w' ⟨rfl,⟨nd,rfl⟩⟩;have p328 : 0 ≤ ((ji31) : Int):=of_decide_eq_true (by first|(with_reducible assumption)|assumption);have q328 : (ji31) < (l0_2.length : Int):=of_decide_eq_true (by first|(with_reducible assumption)|assumption);obtain ⟨ad328,e328,hx328_0⟩:=Kd.at_int HR0_2.out (ji31) p328 q328;obtain rfl : ad325 = ad328:=(by injection e328);replace hx328_0:=(HB.out.cell (World.block_lt_of_cell? w _ hx328_0)).trans hx328_0;replace p328:=eq_true p328;replace q328:=eq_true q328)|(go_at_call 67;(with_reducible refine (hinterlandref02_Apart.calls (rd l0_2 x47_3) (rd l0_2 (ji31)) t329 _ A34.out).mono ?_);rintro e w' ⟨rfl,⟨nd,rfl⟩⟩))
         go_ret
         exact ⟨by first|rfl|(simp [errW_none,errW_some] <;> rfl)|(simp only [← hji24,← hji31];first|rfl|(simp [errW_none,errW_some] <;> rfl))|(simp [*,errW_none,errW_some] <;> rfl),hb_⟩
        ·rw [if_neg c35] at H
         have c35b0 : decide (1 < t329) = false:=decide_eq_false c35
         clear c35
         have H':=Aside0.mk H
         clear H
         have p325 : 0 ≤ (x47_3 : Int):=of_decide_eq_true (by first|(with_reducible assumption)|assumption)
         have q325 : x47_3 < (l0_2.length : Int):=of_decide_eq_true (by first|(with_reducible assumption)|assumption)
         obtain ⟨ad325,e325,hx325_0⟩:=Kd.at_int HR0_2.out x47_3 p325 q325
         cases e325
         replace hx325_0:=(HB.out.cell (World.block_lt_of_cell? w _ hx325_0)).trans hx325_0
         replace p325:=eq_true p325
         replace q325:=eq_true q325
         obtain ⟨hcz37_0,hcz37_1,hcz37_2,hfz37_0,hfz37_1,hfz37_2⟩:=cells3 BK321.out
         have p326 : 0 ≤ ((ji24) : Int):=of_decide_eq_true (by first|(with_reducible assumption)|assumption)
         have q326 : (ji24) < (l0_2.length : Int):=of_decide_eq_true (by first|(with_reducible assumption)|assumption)
         obtain ⟨ad326,e326,hx326_0⟩:=Kd.at_int HR0_2.out (ji24) p326 q326
         obtain rfl : ad325 = ad326:=(by injection e326)
         replace hx326_0:=(HB.out.cell (World.block_lt_of_cell? w _ hx326_0)).trans hx326_0
         replace p326:=eq_true p326
         replace q326:=eq_true q326
         go_wp2_with (first|(go_at_call 67;(with_reducible refine (hinterlandref02_Apart.calls (rd l0_2 x47_3) (rd l0_2 (ji24)) t327 _ A27.out).mono ?_);rintro e w' ⟨rfl,⟨nd,rfl⟩⟩;have p328 : 0 ≤ ((ji31) : Int):=of_decide_eq_true (by first|(with_reducible assumption)|assumption);have q328 : (ji31) < (l0_2.length : Int):=of_decide_eq_true (by first|(with_reducible assumption)|assumption);obtain ⟨ad328,e328,hx328_0⟩:=Kd.at_int HR0_2.out (ji31) p328 q328;obtain rfl : ad325 = ad328:=(by injection e328);replace hx328_0:=(HB.out.cell (World.block_lt_of_cell? w _ hx328_0)).trans hx328_0;replace p328:=eq_true p328;replace q328:=eq_true q328)|(go_at_call 67;(with_reducible refine (hinterlandref02_Apart.calls (rd l0_2 x47_3) (rd l0_2 (ji31)) t329 _ A34.out).mono ?_);rintro e w' ⟨rfl,⟨nd,rfl⟩⟩))
         go_roundg k3
         case measure => have:=HJ1.out;have:=HK2.out;have:=HK3.out;omega
         case rel => exact ⟨(wrap64 (x47_3 + 1)),(by first|rfl|(simp;done)|(simp [*];done)),H',⟨by have:=HJ1.out;have:=HK2.out;have:=HK3.out;omega⟩,⟨blk_up BK321.out⟩,⟨hb_⟩⟩

/-! ### hinterlandref02_Face: function 50 -/
mutual
def hinterlandref02_Face.l0 : Nat → Int → Int → S71 → Int → Int → Int → List Int → Int → Int → Int → Int → Option (Int × Int)
 | 0,_,_,_,_,_,_,_,_,_,_,_ => none
 | k + 1,x7,x8,x30,x31,x333000,x333001,x333002,x335000,x335001,x335002,x335003 => if x31 < 4 then (if 0 ≤ x31 then (if 0 ≤ (ix71 x30 x31) then (if (ix71 x30 x31) < (x333002.length : Int) then (hinterlandref02_Face.l0 k (mn x7 (rd x333002 (ix71 x30 x31))) (mx x8 (rd x333002 (ix71 x30 x31))) x30 (wrap64 (x31 + 1)) x333000 x333001 x333002 x335000 x335001 x335002 x335003) else (none)) else (none)) else (none)) else (hinterlandref02_Face.l1 k x7 x8 0 1 (⟨x335000,x335001,x335002,x335003⟩ : S71) 0 x333000 x333001 x333002)
def hinterlandref02_Face.l1 : Nat → Int → Int → Int → Int → S71 → Int → Int → Int → List Int → Option (Int × Int)
 | 0,_,_,_,_,_,_,_,_,_ => none
 | k + 1,x7,x8,x11,x12,x49,x50,x333000,x333001,x333002 => if x50 < 4 then (if 0 ≤ x50 then (if 0 ≤ (ix71 x49 x50) then (if (ix71 x49 x50) < (x333002.length : Int) then (if (rd x333002 (ix71 x49 x50)) > x7 then (hinterlandref02_Face.l1 k x7 x8 (wrap64 (x11 + x12)) (wrap64 (x12 * 2)) x49 (wrap64 (x50 + 1)) x333000 x333001 x333002) else (hinterlandref02_Face.l1 k x7 x8 x11 (wrap64 (x12 * 2)) x49 (wrap64 (x50 + 1)) x333000 x333001 x333002)) else (none)) else (none)) else (none)) else (if (wrap64 (x8 - x7)) = 2 then (some (wrap64 (x11 + 16),x7)) else (some (x11,x7)))
end
def hinterlandref02_Face.f (k : Nat) (a0_0 : Int) (a0_1 : Int) (l0_2 : List Int) (a1 : Int) : Option (Int × Int) := (hinterlandref02_Places.f a0_0 a0_1 l0_2 a1).bind fun t333 => (if 0 ≤ t333.f0 then (if t333.f0 < (l0_2.length : Int) then (hinterlandref02_Face.l0 k (rd l0_2 t333.f0) (rd l0_2 t333.f0) (⟨t333.f0, t333.f1, t333.f2, t333.f3⟩ : S71) 0 a0_0 a0_1 l0_2 t333.f0 t333.f1 t333.f2 t333.f3) else (none)) else (none))
theorem hinterlandref02_Face.mono_l : ∀ k, (∀ y0 y1 y2 y3 y4 y5 y6 y7 y8 y9 y10, LeO (hinterlandref02_Face.l0 k y0 y1 y2 y3 y4 y5 y6 y7 y8 y9 y10) (hinterlandref02_Face.l0 (k + 1) y0 y1 y2 y3 y4 y5 y6 y7 y8 y9 y10)) ∧ (∀ y0 y1 y2 y3 y4 y5 y6 y7 y8, LeO (hinterlandref02_Face.l1 k y0 y1 y2 y3 y4 y5 y6 y7 y8) (hinterlandref02_Face.l1 (k + 1) y0 y1 y2 y3 y4 y5 y6 y7 y8))
 | 0 => ⟨fun _ _ _ _ _ _ _ _ _ _ _ r h => by simp [hinterlandref02_Face.l0] at h,fun _ _ _ _ _ _ _ _ _ r h => by simp [hinterlandref02_Face.l1] at h⟩
 | k + 1 => by
  obtain ⟨ih0,ih1⟩:=hinterlandref02_Face.mono_l k
  refine ⟨?_,?_⟩
  ·intro y0 y1 y2 y3 y4 y5 y6 y7 y8 y9 y10
   unfold hinterlandref02_Face.l0
   repeat' first
   | (with_reducible exact ih0 _ _ _ _ _ _ _ _ _ _ _)
   | (with_reducible exact ih1 _ _ _ _ _ _ _ _ _)
   | (with_reducible exact LeO.refl _)
   | (with_reducible exact LeO.none _)
   | (with_reducible refine LeO.ite ?_ ?_)
   | (with_reducible refine LeO.bind ?_ (fun _ => ?_))
   | exact ih0 _ _ _ _ _ _ _ _ _ _ _
   | exact ih1 _ _ _ _ _ _ _ _ _
   | exact LeO.none _
   | refine LeO.ite ?_ ?_
   | refine LeO.bind ?_ (fun _ => ?_)
  ·intro y0 y1 y2 y3 y4 y5 y6 y7 y8
   unfold hinterlandref02_Face.l1
   repeat' first
   | (with_reducible exact ih0 _ _ _ _ _ _ _ _ _ _ _)
   | (with_reducible exact ih1 _ _ _ _ _ _ _ _ _)
   | (with_reducible exact LeO.refl _)
   | (with_reducible exact LeO.none _)
   | (with_reducible refine LeO.ite ?_ ?_)
   | (with_reducible refine LeO.bind ?_ (fun _ => ?_))
   | exact ih0 _ _ _ _ _ _ _ _ _ _ _
   | exact ih1 _ _ _ _ _ _ _ _ _
   | exact LeO.none _
   | refine LeO.ite ?_ ?_
   | refine LeO.bind ?_ (fun _ => ?_)
theorem hinterlandref02_Face.mono : ∀ a0 a1 a2 a3 k, LeO (hinterlandref02_Face.f k a0 a1 a2 a3) (hinterlandref02_Face.f (k + 1) a0 a1 a2 a3) := by
 intro a0 a1 a2 a3 k
 obtain ⟨ih0,ih1⟩:=hinterlandref02_Face.mono_l k
 unfold hinterlandref02_Face.f
 repeat' first
   | (with_reducible exact ih0 _ _ _ _ _ _ _ _ _ _ _)
   | (with_reducible exact ih1 _ _ _ _ _ _ _ _ _)
   | (with_reducible exact LeO.refl _)
   | (with_reducible exact LeO.none _)
   | (with_reducible refine LeO.ite ?_ ?_)
   | (with_reducible refine LeO.bind ?_ (fun _ => ?_))
   | exact ih0 _ _ _ _ _ _ _ _ _ _ _
   | exact ih1 _ _ _ _ _ _ _ _ _
   | exact LeO.none _
   | refine LeO.ite ?_ ?_
   | refine LeO.bind ?_ (fun _ => ?_)
set_option maxHeartbeats 8000000 in
set_option maxRecDepth 100000 in
theorem hinterlandref02_Face.calls (k : Nat) (a0_0 : Int) (a0_1 : Int) (A0_2 : Option Addr) (c0_2 : Nat) (l0_2 : List Int) (a1 : Int) (r1 : Int) (r2 : Int) (w : World) (hr0_2 : Kd.C (Kd.int .i64) w A0_2 l0_2.length l0_2) (hc0_2 : l0_2.length ≤ c0_2) (h : hinterlandref02_Face.f k a0_0 a0_1 l0_2 a1 = some (r1, r2)) :
  Calls Try.prog 50 #[.agg #[.int .i64 a0_0,.int .i64 a0_1,.slice A0_2 l0_2.length c0_2],.int .i64 a1] w fun e w' => e = .returned (.tuple #[.int .i64 r1,.int .i64 r2]) ∧ Below w.heap.size w w':=by
 have hu24:=Try.underlying24
 have hu71:=Try.underlying71
 have HR0_2:=Aside0.mk hr0_2
 have HC0_2:=Aside0.mk hc0_2
 clear hr0_2 hc0_2
 have HB:=Aside0.mk (Below.refl w.heap.size w)
 have H : ((hinterlandref02_Places.f a0_0 a0_1 l0_2 a1).bind fun t333 => (if 0 ≤ t333.f0 then (if t333.f0 < (l0_2.length : Int) then (hinterlandref02_Face.l0 k (rd l0_2 t333.f0) (rd l0_2 t333.f0) (⟨t333.f0,t333.f1,t333.f2,t333.f3⟩ : S71) 0 a0_0 a0_1 l0_2 t333.f0 t333.f1 t333.f2 t333.f3) else (none)) else (none))) = some (r1,r2):=h
 clear h
 replace H:=Option.bind_eq_some_iff.mp H
 obtain ⟨t333,A30,H⟩:=H
 replace H : (if 0 ≤ t333.f0 then (if t333.f0 < (l0_2.length : Int) then (hinterlandref02_Face.l0 k (rd l0_2 t333.f0) (rd l0_2 t333.f0) (⟨t333.f0,t333.f1,t333.f2,t333.f3⟩ : S71) 0 a0_0 a0_1 l0_2 t333.f0 t333.f1 t333.f2 t333.f3) else (none)) else (none)) = some (r1,r2):=H
 have A3:=Aside0.mk A30
 clear A30
 replace H:=ifp_ H;obtain ⟨c4,H⟩:=H
 have c4b0 : decide (0 ≤ t333.f0) = true:=decide_eq_true c4
 clear c4
 replace H:=ifp_ H;obtain ⟨c5,H⟩:=H
 have c5b0 : decide (t333.f0 < (l0_2.length : Int)) = true:=decide_eq_true c5
 clear c5
 have H':=Aside0.mk H
 clear H
 go_enter Try.func50,Try.ntmps50
 go_wp2_with (first|((with_reducible refine gate_dst (N:=2) rfl ?_);refine box_ev (N:=2) (cs:=#[.int .i64 a0_0,.int .i64 a0_1,.slice A0_2 l0_2.length c0_2]) (t:=24) ?_;intro gb332 hg w6 hbox hb;have BK332:=Aside0.mk (hbox);have GW332 : Aside0 (w.heap.size ≤ gb332):=gsz hg;have GE332:=GW332;replace HB:=Aside0.mk (below_step (hb_) hb);clear hb hbox hg;obtain ⟨hcz7_0,hcz7_1,hcz7_2,hfz7_0,hfz7_1,hfz7_2⟩:=cells3 BK332.out)|(go_at_call 68;(with_reducible refine (hinterlandref02_Places.calls a0_0 a0_1 _ _ l0_2 a1 t333 _ ?side1 ?side2 A3.out).mono ?_);(case side1 => exact Kd.C_up (Kd.C_below HR0_2.out HB.out));(case side2 => exact HC0_2.out);rintro e w8 ⟨rfl,hb⟩;replace BK332:=bkb BK332 hb;replace HB:=Aside0.mk (below_step (hb_) hb))|((with_reducible refine gate_dst (N:=6) rfl ?_);refine box_ev (N:=6) (cs:=#[.int .i64 0,.int .i64 0,.int .i64 0,.int .i64 0]) (t:=71) ?_;intro gb334 hg w9 hbox hb;have BK334:=Aside0.mk (hbox);have GW334 : Aside0 (w.heap.size ≤ gb334):=gsz hg;have GE334:=GW334;have NB332_334:=nbl BK332 hg;have NB334_332:=nbr BK332 hg;replace BK332:=bkb BK332 hb;replace HB:=Aside0.mk (below_step (hb_) hb);clear hb hbox hg;have hnb10:=NB334_332.out;have hnc10:=NB332_334.out;obtain ⟨hcz11_0,hcz11_1,hcz11_2,hcz11_3,hfz11_0,hfz11_1,hfz11_2,hfz11_3⟩:=cells4 BK334.out;obtain ⟨hcz12_0,hcz12_1,hcz12_2,hfz12_0,hfz12_1,hfz12_2⟩:=cells3 BK332.out;have p335 : 0 ≤ (t333.f0 : Int):=of_decide_eq_true (by first|(with_reducible assumption)|assumption);have q335 : t333.f0 < (l0_2.length : Int):=of_decide_eq_true (by first|(with_reducible assumption)|assumption);obtain ⟨ad335,e335,hx335_0⟩:=Kd.at_int HR0_2.out t333.f0 p335 q335;cases e335;have hn335_0 : ad335.block ≠ gb334:=Nat.ne_of_lt (Nat.lt_of_lt_of_le (by have:=World.block_lt_of_cell? _ _ hx335_0;first|rwa [add_block] at this|exact this) GW334.out);have hn335_1 : ad335.block ≠ gb334:=Nat.ne_of_lt (Nat.lt_of_lt_of_le (by have:=World.block_lt_of_cell? _ _ hx335_0;first|rwa [add_block] at this|exact this) GW334.out);have hn335_2 : ad335.block ≠ gb334:=Nat.ne_of_lt (Nat.lt_of_lt_of_le (by have:=World.block_lt_of_cell? _ _ hx335_0;first|rwa [add_block] at this|exact this) GW334.out);have hn335_3 : ad335.block ≠ gb334:=Nat.ne_of_lt (Nat.lt_of_lt_of_le (by have:=World.block_lt_of_cell? _ _ hx335_0;first|rwa [add_block] at this|exact this) GW334.out);replace hx335_0:=(HB.out.cell (World.block_lt_of_cell? w _ hx335_0)).trans hx335_0;replace hx335_0:=(cell_far (p:=⟨gb334,0,none⟩) (by first|(rw [add_block];exact hn335_0)|(show (Addr.add _ _).block ≠ _;rw [add_block];exact hn335_0)|exact hn335_0) (.int .i64 t333.f0)).trans hx335_0;replace hx335_0:=(cell_far (p:=⟨gb334,1,none⟩) (by first|(rw [add_block];exact hn335_1)|(show (Addr.add _ _).block ≠ _;rw [add_block];exact hn335_1)|exact hn335_1) (.int .i64 t333.f1)).trans hx335_0;replace hx335_0:=(cell_far (p:=⟨gb334,2,none⟩) (by first|(rw [add_block];exact hn335_2)|(show (Addr.add _ _).block ≠ _;rw [add_block];exact hn335_2)|exact hn335_2) (.int .i64 t333.f2)).trans hx335_0;replace hx335_0:=(cell_far (p:=⟨gb334,3,none⟩) (by first|(rw [add_block];exact hn335_3)|(show (Addr.add _ _).block ≠ _;rw [add_block];exact hn335_3)|exact hn335_3) (.int .i64 t333.f3)).trans hx335_0;(try have hy335_0:=fun (n_ : Nat) => (show ((((((w9.drewN n_).setCell ⟨gb334,0,none⟩ (.int .i64 t333.f0)).setCell ⟨gb334,1,none⟩ (.int .i64 t333.f1)).setCell ⟨gb334,2,none⟩ (.int .i64 t333.f2)).setCell ⟨gb334,3,none⟩ (.int .i64 t333.f3))).cell? _ = some _ from hx335_0));clear hn335_0;clear hn335_1;clear hn335_2;clear hn335_3;replace p335:=eq_true p335;replace q335:=eq_true q335;have p336 : 0 ≤ (t333.f0 : Int):=of_decide_eq_true (by first|(with_reducible assumption)|assumption);have q336 : t333.f0 < (l0_2.length : Int):=of_decide_eq_true (by first|(with_reducible assumption)|assumption);obtain ⟨ad336,e336,hx336_0⟩:=Kd.at_int HR0_2.out t333.f0 p336 q336;obtain rfl : ad335 = ad336:=(by injection e336);have hn336_0 : ad335.block ≠ gb334:=Nat.ne_of_lt (Nat.lt_of_lt_of_le (by have:=World.block_lt_of_cell? _ _ hx336_0;first|rwa [add_block] at this|exact this) GW334.out);have hn336_1 : ad335.block ≠ gb334:=Nat.ne_of_lt (Nat.lt_of_lt_of_le (by have:=World.block_lt_of_cell? _ _ hx336_0;first|rwa [add_block] at this|exact this) GW334.out);have hn336_2 : ad335.block ≠ gb334:=Nat.ne_of_lt (Nat.lt_of_lt_of_le (by have:=World.block_lt_of_cell? _ _ hx336_0;first|rwa [add_block] at this|exact this) GW334.out);have hn336_3 : ad335.block ≠ gb334:=Nat.ne_of_lt (Nat.lt_of_lt_of_le (by have:=World.block_lt_of_cell? _ _ hx336_0;first|rwa [add_block] at this|exact this) GW334.out);replace hx336_0:=(HB.out.cell (World.block_lt_of_cell? w _ hx336_0)).trans hx336_0;replace hx336_0:=(cell_far (p:=⟨gb334,0,none⟩) (by first|(rw [add_block];exact hn336_0)|(show (Addr.add _ _).block ≠ _;rw [add_block];exact hn336_0)|exact hn336_0) (.int .i64 t333.f0)).trans hx336_0;replace hx336_0:=(cell_far (p:=⟨gb334,1,none⟩) (by first|(rw [add_block];exact hn336_1)|(show (Addr.add _ _).block ≠ _;rw [add_block];exact hn336_1)|exact hn336_1) (.int .i64 t333.f1)).trans hx336_0;replace hx336_0:=(cell_far (p:=⟨gb334,2,none⟩) (by first|(rw [add_block];exact hn336_2)|(show (Addr.add _ _).block ≠ _;rw [add_block];exact hn336_2)|exact hn336_2) (.int .i64 t333.f2)).trans hx336_0;replace hx336_0:=(cell_far (p:=⟨gb334,3,none⟩) (by first|(rw [add_block];exact hn336_3)|(show (Addr.add _ _).block ≠ _;rw [add_block];exact hn336_3)|exact hn336_3) (.int .i64 t333.f3)).trans hx336_0;(try have hy336_0:=fun (n_ : Nat) => (show ((((((w9.drewN n_).setCell ⟨gb334,0,none⟩ (.int .i64 t333.f0)).setCell ⟨gb334,1,none⟩ (.int .i64 t333.f1)).setCell ⟨gb334,2,none⟩ (.int .i64 t333.f2)).setCell ⟨gb334,3,none⟩ (.int .i64 t333.f3))).cell? _ = some _ from hx336_0));clear hn336_0;clear hn336_1;clear hn336_2;clear hn336_3;replace p336:=eq_true p336;replace q336:=eq_true q336))
 go_quiet (fail)
 go_wp2
 go_loopg [7,8,31] k (fun kq v7 v8 v31 w' => ∃ (x7_1 : Int) (x8_1 : Int) (x31_1 : Int),v7 = .int .i64 x7_1 ∧ v8 = .int .i64 x8_1 ∧ v31 = .int .i64 x31_1 ∧ Aside0 (hinterlandref02_Face.l0 kq x7_1 x8_1 (⟨t333.f0,t333.f1,t333.f2,t333.f3⟩ : S71) x31_1 a0_0 a0_1 l0_2 t333.f0 t333.f1 t333.f2 t333.f3 = some (r1,r2)) ∧ Aside0 (kq ≤ k) ∧ Aside0 (w'.heap[gb332]? = some (.cells #[.int .i64 a0_0,.int .i64 a0_1,(.slice (some ad335) l0_2.length c0_2)] 24 (0,0))) ∧ Aside0 (w'.heap[gb334]? = some (.cells #[.int .i64 t333.f0,.int .i64 t333.f1,.int .i64 t333.f2,.int .i64 t333.f3] 71 (0,0))) ∧ Aside0 (Below w.heap.size w w'))
 case atStart => exact ⟨(rd l0_2 t333.f0),(rd l0_2 t333.f0),(0),(by first|rfl|(simp;done)|(simp [*];done)),(by first|rfl|(simp;done)|(simp [*];done)),(by first|rfl|(simp;done)|(simp [*];done)),H',⟨Nat.le_refl _⟩,⟨by (with_reducible repeat (first|refine blk_drewN ?_ _|refine blk_drew ?_|refine blk_alloc ?_ _));refine blk_far ?_ NB332_334.out _;(with_reducible repeat (first|refine blk_drewN ?_ _|refine blk_drew ?_|refine blk_alloc ?_ _));refine blk_far ?_ NB332_334.out _;(with_reducible repeat (first|refine blk_drewN ?_ _|refine blk_drew ?_|refine blk_alloc ?_ _));refine blk_far ?_ NB332_334.out _;(with_reducible repeat (first|refine blk_drewN ?_ _|refine blk_drew ?_|refine blk_alloc ?_ _));refine blk_far ?_ NB332_334.out _;(with_reducible repeat (first|refine blk_drewN ?_ _|refine blk_drew ?_|refine blk_alloc ?_ _));exact BK332.out⟩,⟨by (with_reducible repeat (first|refine blk_drewN ?_ _|refine blk_drew ?_|refine blk_alloc ?_ _));exact blk_puts4 (blk_up BK334.out)⟩,⟨hb_⟩⟩
 case round =>
  clear H'
  obtain ⟨x7_1,x8_1,x31_1,rfl,rfl,rfl,HA,HK1,BK332,BK334,HB⟩:=hrel
  cases gk with
  | zero => exact absurd HA.out (by simp [hinterlandref02_Face.l0])
  | succ k1 =>
   have H:=HA.out
   clear HA
   simp only [hinterlandref02_Face.l0] at H
   by_cases c13 : x31_1 < 4
   ·rw [if_pos c13] at H
    have c13b0 : decide (x31_1 < 4) = true:=decide_eq_true c13
    clear c13
    replace H:=ifp_ H;obtain ⟨c14,H⟩:=H
    have c14b0 : decide (0 ≤ x31_1) = true:=decide_eq_true c14
    clear c14
    have hix15:=fun (W_ : World) => (ix71_run t333.f0 t333.f1 t333.f2 t333.f3 x31_1 (of_decide_eq_true (by first|(with_reducible assumption)|assumption)) (of_decide_eq_true (by first|(with_reducible assumption)|assumption)) W_ : (Instr.index 71 (.agg #[.int .i64 t333.f0,.int .i64 t333.f1,.int .i64 t333.f2,.int .i64 t333.f3]) (.int .i64 x31_1)).run Try.prog W_ = .ok (.int .i64 (ix71 (⟨t333.f0,t333.f1,t333.f2,t333.f3⟩ : S71) x31_1)) W_)
    replace H:=ifp_ H;obtain ⟨c16,H⟩:=H
    have c16b0 : decide (0 ≤ (ix71 (⟨t333.f0,t333.f1,t333.f2,t333.f3⟩ : S71) x31_1)) = true:=decide_eq_true c16
    clear c16
    replace H:=ifp_ H;obtain ⟨c17,H⟩:=H
    have c17b0 : decide ((ix71 (⟨t333.f0,t333.f1,t333.f2,t333.f3⟩ : S71) x31_1) < (l0_2.length : Int)) = true:=decide_eq_true c17
    clear c17
    obtain ⟨ji18,hji18⟩ : ∃ j_ : Int,(mn x7_1 (rd l0_2 (ix71 (⟨t333.f0,t333.f1,t333.f2,t333.f3⟩ : S71) x31_1))) = j_:=⟨_,rfl⟩
    replace H : (hinterlandref02_Face.l0 k1 ji18 (mx x8_1 (rd l0_2 (ix71 (⟨t333.f0,t333.f1,t333.f2,t333.f3⟩ : S71) x31_1))) (⟨t333.f0,t333.f1,t333.f2,t333.f3⟩ : S71) (wrap64 (x31_1 + 1)) a0_0 a0_1 l0_2 t333.f0 t333.f1 t333.f2 t333.f3) = some (r1,r2):=by first|(rw [hji18] at H;exact H)|(simp only [hji18] at H ⊢;exact H)
    have hji18_ : (if (rd l0_2 (ix71 (⟨t333.f0,t333.f1,t333.f2,t333.f3⟩ : S71) x31_1)) < x7_1 then (rd l0_2 (ix71 (⟨t333.f0,t333.f1,t333.f2,t333.f3⟩ : S71) x31_1)) else x7_1) = ji18:=hji18
    obtain ⟨ji19,hji19⟩ : ∃ j_ : Int,(mx x8_1 (rd l0_2 (ix71 (⟨t333.f0,t333.f1,t333.f2,t333.f3⟩ : S71) x31_1))) = j_:=⟨_,rfl⟩
    replace H : (hinterlandref02_Face.l0 k1 ji18 ji19 (⟨t333.f0,t333.f1,t333.f2,t333.f3⟩ : S71) (wrap64 (x31_1 + 1)) a0_0 a0_1 l0_2 t333.f0 t333.f1 t333.f2 t333.f3) = some (r1,r2):=by first|(rw [hji19] at H;exact H)|(simp only [hji19] at H ⊢;exact H)
    have hji19_ : (if x8_1 < (rd l0_2 (ix71 (⟨t333.f0,t333.f1,t333.f2,t333.f3⟩ : S71) x31_1)) then (rd l0_2 (ix71 (⟨t333.f0,t333.f1,t333.f2,t333.f3⟩ : S71) x31_1)) else x8_1) = ji19:=hji19
    have H':=Aside0.mk H
    clear H
    have hnb20:=NB332_334.out
    have hnc20:=NB334_332.out
    obtain ⟨hcz21_0,hcz21_1,hcz21_2,hfz21_0,hfz21_1,hfz21_2⟩:=cells3 BK332.out
    have p337 : 0 ≤ ((ix71 (⟨t333.f0,t333.f1,t333.f2,t333.f3⟩ : S71) x31_1) : Int):=of_decide_eq_true (by first|(with_reducible assumption)|assumption)
    have q337 : (ix71 (⟨t333.f0,t333.f1,t333.f2,t333.f3⟩ : S71) x31_1) < (l0_2.length : Int):=of_decide_eq_true (by first|(with_reducible assumption)|assumption)
    obtain ⟨ad337,e337,hx337_0⟩:=Kd.at_int HR0_2.out (ix71 (⟨t333.f0,t333.f1,t333.f2,t333.f3⟩ : S71) x31_1) p337 q337
    obtain rfl : ad335 = ad337:=(by injection e337)
    replace hx337_0:=(HB.out.cell (World.block_lt_of_cell? w _ hx337_0)).trans hx337_0
    replace p337:=eq_true p337
    replace q337:=eq_true q337
    have p338 : 0 ≤ ((ix71 (⟨t333.f0,t333.f1,t333.f2,t333.f3⟩ : S71) x31_1) : Int):=of_decide_eq_true (by first|(with_reducible assumption)|assumption)
    have q338 : (ix71 (⟨t333.f0,t333.f1,t333.f2,t333.f3⟩ : S71) x31_1) < (l0_2.length : Int):=of_decide_eq_true (by first|(with_reducible assumption)|assumption)
    obtain ⟨ad338,e338,hx338_0⟩:=Kd.at_int HR0_2.out (ix71 (⟨t333.f0,t333.f1,t333.f2,t333.f3⟩ : S71) x31_1) p338 q338
    obtain rfl : ad335 = ad338:=(by injection e338)
    replace hx338_0:=(HB.out.cell (World.block_lt_of_cell? w _ hx338_0)).trans hx338_0
    replace p338:=eq_true p338
    replace q338:=eq_true q338
    go_wp2
    go_quiet (fail)
    go_wp2
    go_roundg k1
    case measure => have:=HK1.out;omega
    case rel => exact ⟨(ji18),(ji19),(wrap64 (x31_1 + 1)),(by first|rfl|(simp;done)|(simp only [← hji18] <;> (first|rfl|simp))|(simp [*];done)),(by first|rfl|(simp;done)|(simp only [← hji19] <;> (first|rfl|simp))|(simp [*];done)),(by first|rfl|(simp;done)|(simp [*];done)),H',⟨by have:=HK1.out;omega⟩,⟨blk_up BK332.out⟩,⟨blk_up BK334.out⟩,⟨hb_⟩⟩
   rw [if_neg c13] at H
   have c13b0 : decide (x31_1 < 4) = false:=decide_eq_false c13
   clear c13
   have H':=Aside0.mk H
   clear H
   have hnb22:=NB334_332.out
   have hnc22:=NB332_334.out
   obtain ⟨hcz23_0,hcz23_1,hcz23_2,hcz23_3,hfz23_0,hfz23_1,hfz23_2,hfz23_3⟩:=cells4 BK334.out
   go_wp2
   go_loopg [11,12,50] k1 (fun kq v11 v12 v50 w' => ∃ (x11_2 : Int) (x12_2 : Int) (x50_2 : Int),v11 = .int .i64 x11_2 ∧ v12 = .int .i64 x12_2 ∧ v50 = .int .i64 x50_2 ∧ Aside0 (hinterlandref02_Face.l1 kq x7_1 x8_1 x11_2 x12_2 (⟨t333.f0,t333.f1,t333.f2,t333.f3⟩ : S71) x50_2 a0_0 a0_1 l0_2 = some (r1,r2)) ∧ Aside0 (kq ≤ k1) ∧ Aside0 (w'.heap[gb332]? = some (.cells #[.int .i64 a0_0,.int .i64 a0_1,(.slice (some ad335) l0_2.length c0_2)] 24 (0,0))) ∧ Aside0 (w'.heap[gb334]? = some (.cells #[.int .i64 t333.f0,.int .i64 t333.f1,.int .i64 t333.f2,.int .i64 t333.f3] 71 (0,0))) ∧ Aside0 (Below w.heap.size w w'))
   case atStart => exact ⟨(0),(1),(0),(by first|rfl|(simp;done)|(simp [*];done)),(by first|rfl|(simp;done)|(simp [*];done)),(by first|rfl|(simp;done)|(simp [*];done)),H',⟨Nat.le_refl _⟩,⟨blk_up BK332.out⟩,⟨blk_up BK334.out⟩,⟨hb_⟩⟩
   case round =>
    clear H'
    obtain ⟨x11_2,x12_2,x50_2,rfl,rfl,rfl,HA,HK2,BK332,BK334,HB⟩:=hrel
    cases gk with
    | zero => exact absurd HA.out (by simp [hinterlandref02_Face.l1])
    | succ k2 =>
     have H:=HA.out
     clear HA
     simp only [hinterlandref02_Face.l1] at H
     by_cases c24 : x50_2 < 4
     rotate_left
     ·rw [if_neg c24] at H
      have c24b0 : decide (x50_2 < 4) = false:=decide_eq_false c24
      clear c24
      by_cases c34 : (wrap64 (x8_1 - x7_1)) = 2
      ·rw [if_pos c34] at H
       have c34b0 : ((wrap64 (x8_1 - x7_1)) == 2) = true:=beq_iff_eq.mpr c34
       have c34b1 : ((wrap64 (x8_1 - x7_1)) != 2) = false:=bne_eq_false_iff_eq.mpr c34
       clear c34
       simp only [Option.some.injEq,Prod.mk.injEq] at H
       obtain ⟨rfl,rfl⟩:=H
       go_wp2
       go_ret2
       exact ⟨by first|rfl|(simp [errW_none,errW_some] <;> rfl)|(simp [*,errW_none,errW_some] <;> rfl),hb_⟩
      ·rw [if_neg c34] at H
       have c34b0 : ((wrap64 (x8_1 - x7_1)) == 2) = false:=beq_eq_false_iff_ne.mpr c34
       have c34b1 : ((wrap64 (x8_1 - x7_1)) != 2) = true:=bne_iff_ne.mpr c34
       simp only [Option.some.injEq,Prod.mk.injEq] at H
       obtain ⟨rfl,rfl⟩:=H
       go_wp2
       go_ret2
       exact ⟨by first|rfl|(simp [errW_none,errW_some] <;> rfl)|(simp [*,errW_none,errW_some] <;> rfl),hb_⟩
     rw [if_pos c24] at H
     have c24b0 : decide (x50_2 < 4) = true:=decide_eq_true c24
     clear c24
     replace H:=ifp_ H;obtain ⟨c25,H⟩:=H
     have c25b0 : decide (0 ≤ x50_2) = true:=decide_eq_true c25
     clear c25
     have hix26:=fun (W_ : World) => (ix71_run t333.f0 t333.f1 t333.f2 t333.f3 x50_2 (of_decide_eq_true (by first|(with_reducible assumption)|assumption)) (of_decide_eq_true (by first|(with_reducible assumption)|assumption)) W_ : (Instr.index 71 (.agg #[.int .i64 t333.f0,.int .i64 t333.f1,.int .i64 t333.f2,.int .i64 t333.f3]) (.int .i64 x50_2)).run Try.prog W_ = .ok (.int .i64 (ix71 (⟨t333.f0,t333.f1,t333.f2,t333.f3⟩ : S71) x50_2)) W_)
     replace H:=ifp_ H;obtain ⟨c27,H⟩:=H
     have c27b0 : decide (0 ≤ (ix71 (⟨t333.f0,t333.f1,t333.f2,t333.f3⟩ : S71) x50_2)) = true:=decide_eq_true c27
     clear c27
     replace H:=ifp_ H;obtain ⟨c28,H⟩:=H
     have c28b0 : decide ((ix71 (⟨t333.f0,t333.f1,t333.f2,t333.f3⟩ : S71) x50_2) < (l0_2.length : Int)) = true:=decide_eq_true c28
     clear c28
     by_cases c29 : (rd l0_2 (ix71 (⟨t333.f0,t333.f1,t333.f2,t333.f3⟩ : S71) x50_2)) > x7_1
     ·rw [if_pos c29] at H
      have c29b0 : decide (x7_1 < (rd l0_2 (ix71 (⟨t333.f0,t333.f1,t333.f2,t333.f3⟩ : S71) x50_2))) = true:=decide_eq_true c29
      clear c29
      have H':=Aside0.mk H
      clear H
      have hnb30:=NB332_334.out
      have hnc30:=NB334_332.out
      obtain ⟨hcz31_0,hcz31_1,hcz31_2,hfz31_0,hfz31_1,hfz31_2⟩:=cells3 BK332.out
      have p339 : 0 ≤ ((ix71 (⟨t333.f0,t333.f1,t333.f2,t333.f3⟩ : S71) x50_2) : Int):=of_decide_eq_true (by first|(with_reducible assumption)|assumption)
      have q339 : (ix71 (⟨t333.f0,t333.f1,t333.f2,t333.f3⟩ : S71) x50_2) < (l0_2.length : Int):=of_decide_eq_true (by first|(with_reducible assumption)|assumption)
      obtain ⟨ad339,e339,hx339_0⟩:=Kd.at_int HR0_2.out (ix71 (⟨t333.f0,t333.f1,t333.f2,t333.f3⟩ : S71) x50_2) p339 q339
      obtain rfl : ad335 = ad339:=(by injection e339)
      replace hx339_0:=(HB.out.cell (World.block_lt_of_cell? w _ hx339_0)).trans hx339_0
      replace p339:=eq_true p339
      replace q339:=eq_true q339
      go_wp2
      go_roundg k2
      case measure => have:=HK1.out;have:=HK2.out;omega
      case rel => exact ⟨(wrap64 (x11_2 + x12_2)),(wrap64 (x12_2 * 2)),(wrap64 (x50_2 + 1)),(by first|rfl|(simp;done)|(simp [*];done)),(by first|rfl|(simp;done)|(simp [*];done)),(by first|rfl|(simp;done)|(simp [*];done)),H',⟨by have:=HK1.out;have:=HK2.out;omega⟩,⟨blk_up BK332.out⟩,⟨blk_up BK334.out⟩,⟨hb_⟩⟩
     ·rw [if_neg c29] at H
      have c29b0 : decide (x7_1 < (rd l0_2 (ix71 (⟨t333.f0,t333.f1,t333.f2,t333.f3⟩ : S71) x50_2))) = false:=decide_eq_false c29
      clear c29
      have H':=Aside0.mk H
      clear H
      have hnb32:=NB332_334.out
      have hnc32:=NB334_332.out
      obtain ⟨hcz33_0,hcz33_1,hcz33_2,hfz33_0,hfz33_1,hfz33_2⟩:=cells3 BK332.out
      have p339 : 0 ≤ ((ix71 (⟨t333.f0,t333.f1,t333.f2,t333.f3⟩ : S71) x50_2) : Int):=of_decide_eq_true (by first|(with_reducible assumption)|assumption)
      have q339 : (ix71 (⟨t333.f0,t333.f1,t333.f2,t333.f3⟩ : S71) x50_2) < (l0_2.length : Int):=of_decide_eq_true (by first|(with_reducible assumption)|assumption)
      obtain ⟨ad339,e339,hx339_0⟩:=Kd.at_int HR0_2.out (ix71 (⟨t333.f0,t333.f1,t333.f2,t333.f3⟩ : S71) x50_2) p339 q339
      obtain rfl : ad335 = ad339:=(by injection e339)
      replace hx339_0:=(HB.out.cell (World.block_lt_of_cell? w _ hx339_0)).trans hx339_0
      replace p339:=eq_true p339
      replace q339:=eq_true q339
      go_wp2
      go_roundg k2
      case measure => have:=HK1.out;have:=HK2.out;omega
      case rel => exact ⟨(x11_2),(wrap64 (x12_2 * 2)),(wrap64 (x50_2 + 1)),(by first|rfl|(simp;done)|(simp [*];done)),(by first|rfl|(simp;done)|(simp [*];done)),(by first|rfl|(simp;done)|(simp [*];done)),H',⟨by have:=HK1.out;have:=HK2.out;omega⟩,⟨blk_up BK332.out⟩,⟨blk_up BK334.out⟩,⟨hb_⟩⟩

/-! ### hinterlandref06_upper: function 63 -/
def hinterlandref06_upper.f (a0 : Int) : Option (Int) := if a0 = 6 then (some 0) else (if a0 = 12 then (some 1) else (if a0 = 9 then (some 2) else (if a0 = 3 then (some 3) else (some (-1)))))
set_option maxHeartbeats 8000000 in
set_option maxRecDepth 100000 in
theorem hinterlandref06_upper.calls (a0 : Int) (r : Int) (w : World) (h : hinterlandref06_upper.f a0 = some r) :
  Calls Try.prog 63 #[.int .i64 a0] w fun e w' => e = .returned (.int .i64 r) ∧ Drawn0 w w':=by
 have H : (if a0 = 6 then (some 0) else (if a0 = 12 then (some 1) else (if a0 = 9 then (some 2) else (if a0 = 3 then (some 3) else (some (-1)))))) = some r:=h
 clear h
 by_cases c2 : a0 = 6
 ·rw [if_pos c2] at H
  have c2b0 : (a0 == 6) = true:=beq_iff_eq.mpr c2
  have c2b1 : (a0 != 6) = false:=bne_eq_false_iff_eq.mpr c2
  clear c2
  obtain rfl:=Option.some.inj H
  go_enter Try.func63,Try.ntmps63
  go_wp2
  go_ret
  exact ⟨by first|rfl|(simp;done)|(simp [*];done),by repeat (first|exact Drawn0.refl _|apply Drawn0.step)⟩
 rw [if_neg c2] at H
 have c2b0 : (a0 == 6) = false:=beq_eq_false_iff_ne.mpr c2
 have c2b1 : (a0 != 6) = true:=bne_iff_ne.mpr c2
 by_cases c3 : a0 = 12
 ·rw [if_pos c3] at H
  have c3b0 : (a0 == 12) = true:=beq_iff_eq.mpr c3
  have c3b1 : (a0 != 12) = false:=bne_eq_false_iff_eq.mpr c3
  clear c3
  obtain rfl:=Option.some.inj H
  go_enter Try.func63,Try.ntmps63
  go_wp2
  go_ret
  exact ⟨by first|rfl|(simp;done)|(simp [*];done),by repeat (first|exact Drawn0.refl _|apply Drawn0.step)⟩
 rw [if_neg c3] at H
 have c3b0 : (a0 == 12) = false:=beq_eq_false_iff_ne.mpr c3
 have c3b1 : (a0 != 12) = true:=bne_iff_ne.mpr c3
 by_cases c4 : a0 = 9
 ·rw [if_pos c4] at H
  have c4b0 : (a0 == 9) = true:=beq_iff_eq.mpr c4
  have c4b1 : (a0 != 9) = false:=bne_eq_false_iff_eq.mpr c4
  clear c4
  obtain rfl:=Option.some.inj H
  go_enter Try.func63,Try.ntmps63
  go_wp2
  go_ret
  exact ⟨by first|rfl|(simp;done)|(simp [*];done),by repeat (first|exact Drawn0.refl _|apply Drawn0.step)⟩
 ·rw [if_neg c4] at H
  have c4b0 : (a0 == 9) = false:=beq_eq_false_iff_ne.mpr c4
  have c4b1 : (a0 != 9) = true:=bne_iff_ne.mpr c4
  by_cases c5 : a0 = 3
  ·rw [if_pos c5] at H
   have c5b0 : (a0 == 3) = true:=beq_iff_eq.mpr c5
   have c5b1 : (a0 != 3) = false:=bne_eq_false_iff_eq.mpr c5
   clear c5
   obtain rfl:=Option.some.inj H
   go_enter Try.func63,Try.ntmps63
   go_wp2
   go_ret
   exact ⟨by first|rfl|(simp;done)|(simp [*];done),by repeat (first|exact Drawn0.refl _|apply Drawn0.step)⟩
  ·rw [if_neg c5] at H
   have c5b0 : (a0 == 3) = false:=beq_eq_false_iff_ne.mpr c5
   have c5b1 : (a0 != 3) = true:=bne_iff_ne.mpr c5
   obtain rfl:=Option.some.inj H
   go_enter Try.func63,Try.ntmps63
   go_wp2
   go_ret
   exact ⟨by first|rfl|(simp;done)|(simp [*];done),by repeat (first|exact Drawn0.refl _|apply Drawn0.step)⟩

end Go.Proofs.Ytiencnnkphipoaa.P

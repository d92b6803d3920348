/- Functions of this seat as plain Lean functions, with proofs that the Go code comes to just their answers, or what stands between them and a law's statement; no conditions. (Laid by a program of this session, out of the kit's print.) -/
import Derived.Test.YtiencnnkphipoaaPx0
namespace Go.Proofs.Ytiencnnkphipoaa.P
open Go.RowKit Go.Proofs.YtiencnnkphipoaaW.PrintWords Go.Proofs.YtiencnnkphipoaaW.PrintLast Go.Proofs.YtiencnnkphipoaaW.PrintMore
attribute [local go_sem] max2_int min2_int max_two min_two max_three min_three max_four min_four   -- for this text's walks alone
set_option linter.unusedVariables false
set_option linter.unusedSimpArgs false

/-! ### hinterlandref02_side: function 66 -/
def hinterlandref02_side.f (a0 : Int) : Option (Bool) := if a0 ≥ 4 then (some (decide (a0 ≤ 32))) else (some false)
set_option maxHeartbeats 8000000 in
set_option maxRecDepth 100000 in
theorem hinterlandref02_side.calls (a0 : Int) (r : Bool) (w : World) (h : hinterlandref02_side.f a0 = some r) :
  Calls Try.prog 66 #[.int .i64 a0] w fun e w' => e = .returned (.bool r) ∧ Drawn0 w w':=by
 have H : (if a0 ≥ 4 then (some (decide (a0 ≤ 32))) else (some false)) = some r:=h
 clear h
 by_cases c2 : a0 ≥ 4
 ·rw [if_pos c2] at H
  have c2b0 : decide (4 ≤ a0) = true:=decide_eq_true c2
  clear c2
  obtain rfl:=Option.some.inj H
  go_enter Try.func66,Try.ntmps66
  go_wp2
  go_ret
  exact ⟨by first|rfl|(simp;done)|(simp [*];done),by repeat (first|exact Drawn0.refl _|apply Drawn0.step)⟩
 ·rw [if_neg c2] at H
  have c2b0 : decide (4 ≤ a0) = false:=decide_eq_false c2
  clear c2
  obtain rfl:=Option.some.inj H
  go_enter Try.func66,Try.ntmps66
  go_wp2
  go_ret
  exact ⟨by first|rfl|(simp;done)|(simp [*];done),by repeat (first|exact Drawn0.refl _|apply Drawn0.step)⟩

/-! ### hinterlandref02_Apart: function 67 -/
def hinterlandref02_Apart.f (a0 : Int) (a1 : Int) : Option (Int) := if a0 < a1 then (some (wrap64 (a1 - a0))) else (some (wrap64 (a0 - a1)))
set_option maxHeartbeats 8000000 in
set_option maxRecDepth 100000 in
theorem hinterlandref02_Apart.calls (a0 : Int) (a1 : Int) (r : Int) (w : World) (h : hinterlandref02_Apart.f a0 a1 = some r) :
  Calls Try.prog 67 #[.int .i64 a0,.int .i64 a1] w fun e w' => e = .returned (.int .i64 r) ∧ Drawn0 w w':=by
 have H : (if a0 < a1 then (some (wrap64 (a1 - a0))) else (some (wrap64 (a0 - a1)))) = some r:=h
 clear h
 by_cases c3 : a0 < a1
 ·rw [if_pos c3] at H
  have c3b0 : decide (a0 < a1) = true:=decide_eq_true c3
  clear c3
  obtain rfl:=Option.some.inj H
  go_enter Try.func67,Try.ntmps67
  go_wp2
  go_ret
  exact ⟨by first|rfl|(simp;done)|(simp [*];done),by repeat (first|exact Drawn0.refl _|apply Drawn0.step)⟩
 ·rw [if_neg c3] at H
  have c3b0 : decide (a0 < a1) = false:=decide_eq_false c3
  clear c3
  obtain rfl:=Option.some.inj H
  go_enter Try.func67,Try.ntmps67
  go_wp2
  go_ret
  exact ⟨by first|rfl|(simp;done)|(simp [*];done),by repeat (first|exact Drawn0.refl _|apply Drawn0.step)⟩

/-! ### hinterlandref02_Validate: function 48 -/
mutual
def hinterlandref02_Validate.j0 : Nat → Bool → Int → Int → List Int → Option (Int)
 | 0,_,_,_,_ => none
 | k + 1,x29,x322000,x322001,x322002 => if x29 = true then (some 1) else (hinterlandref02_Validate.l0 k x322002 (x322002.length : Int) 0 x322000 x322001 x322002)
def hinterlandref02_Validate.l0 : Nat → List Int → Int → Int → Int → Int → List Int → Option (Int)
 | 0,_,_,_,_,_,_ => none
 | k + 1,x31,x32,x33,x322000,x322001,x322002 => if x33 < x32 then (if 0 ≤ x33 then (if x33 < (x31.length : Int) then (if (rd x31 x33) < 0 then (some 1) else (if (rd x31 x33) > 15 then (some 1) else (hinterlandref02_Validate.l0 k x31 x32 (wrap64 (x33 + 1)) x322000 x322001 x322002))) else (none)) else (none)) else (hinterlandref02_Validate.l1 k x322002 (x322002.length : Int) 0 x322000 x322001 x322002)
def hinterlandref02_Validate.l1 : Nat → List Int → Int → Int → Int → Int → List Int → Option (Int)
 | 0,_,_,_,_,_,_ => none
 | k + 1,x45,x46,x47,x322000,x322001,x322002 => if x47 < x46 then (if 0 ≤ x47 then (if x47 < (x45.length : Int) then (if (wrap64 (x322000 + 1)) = 0 then (none) else (if (Int.tmod x47 (wrap64 (x322000 + 1))) > 0 then (if 0 ≤ (wrap64 (x47 - 1)) then (if (wrap64 (x47 - 1)) < (x322002.length : Int) then ((hinterlandref02_Apart.f (rd x45 x47) (rd x322002 (wrap64 (x47 - 1)))).bind fun t327 => (if t327 > 1 then (some 5) else (if x47 > x322000 then (if 0 ≤ (wrap64 ((wrap64 (x47 - x322000)) - 1)) then (if (wrap64 ((wrap64 (x47 - x322000)) - 1)) < (x322002.length : Int) then ((hinterlandref02_Apart.f (rd x45 x47) (rd x322002 (wrap64 ((wrap64 (x47 - x322000)) - 1)))).bind fun t329 => (if t329 > 1 then (some 5) else (hinterlandref02_Validate.l1 k x45 x46 (wrap64 (x47 + 1)) x322000 x322001 x322002))) else (none)) else (none)) else (hinterlandref02_Validate.l1 k x45 x46 (wrap64 (x47 + 1)) x322000 x322001 x322002)))) else (none)) else (none)) else (if x47 > x322000 then (if 0 ≤ (wrap64 ((wrap64 (x47 - x322000)) - 1)) then (if (wrap64 ((wrap64 (x47 - x322000)) - 1)) < (x322002.length : Int) then ((hinterlandref02_Apart.f (rd x45 x47) (rd x322002 (wrap64 ((wrap64 (x47 - x322000)) - 1)))).bind fun t331 => (if t331 > 1 then (some 5) else (hinterlandref02_Validate.l1 k x45 x46 (wrap64 (x47 + 1)) x322000 x322001 x322002))) else (none)) else (none)) else (hinterlandref02_Validate.l1 k x45 x46 (wrap64 (x47 + 1)) x322000 x322001 x322002)))) else (none)) else (none)) else (some 0)
end
def hinterlandref02_Validate.f (k : Nat) (a0_0 : Int) (a0_1 : Int) (l0_2 : List Int) : Option (Int) := (hinterlandref02_side.f a0_0).bind fun t322 => (if t322 = true then ((hinterlandref02_side.f a0_1).bind fun t323 => (if t323 = true then (hinterlandref02_Validate.j0 k ((l0_2.length : Int) != (wrap64 ((wrap64 (a0_0 + 1)) * (wrap64 (a0_1 + 1))))) a0_0 a0_1 l0_2) else (hinterlandref02_Validate.j0 k true a0_0 a0_1 l0_2))) else (hinterlandref02_Validate.j0 k true a0_0 a0_1 l0_2))
theorem hinterlandref02_Validate.mono_l : ∀ k, (∀ y0 y1 y2 y3, LeO (hinterlandref02_Validate.j0 k y0 y1 y2 y3) (hinterlandref02_Validate.j0 (k + 1) y0 y1 y2 y3)) ∧ (∀ y0 y1 y2 y3 y4 y5, LeO (hinterlandref02_Validate.l0 k y0 y1 y2 y3 y4 y5) (hinterlandref02_Validate.l0 (k + 1) y0 y1 y2 y3 y4 y5)) ∧ (∀ y0 y1 y2 y3 y4 y5, LeO (hinterlandref02_Validate.l1 k y0 y1 y2 y3 y4 y5) (hinterlandref02_Validate.l1 (k + 1) y0 y1 y2 y3 y4 y5))
 | 0 => ⟨fun _ _ _ _ r h => by simp [hinterlandref02_Validate.j0] at h,fun _ _ _ _ _ _ r h => by simp [hinterlandref02_Validate.l0] at h,fun _ _ _ _ _ _ r h => by simp [hinterlandref02_Validate.l1] at h⟩
 | k + 1 => by
  obtain ⟨ih0,ih1,ih2⟩:=hinterlandref02_Validate.mono_l k
  refine ⟨?_,?_,?_⟩
  ·intro y0 y1 y2 y3
   unfold hinterlandref02_Validate.j0
   repeat' first
   | (with_reducible exact ih0 _ _ _ _)
   | (with_reducible exact ih1 _ _ _ _ _ _)
   | (with_reducible exact ih2 _ _ _ _ _ _)
   | (with_reducible exact LeO.refl _)
   | (with_reducible exact LeO.none _)
   | (with_reducible refine LeO.ite ?_ ?_)
   | (with_reducible refine LeO.bind ?_ (fun _ => ?_))
   | exact ih0 _ _ _ _
   | exact ih1 _ _ _ _ _ _
   | exact ih2 _ _ _ _ _ _
   | exact LeO.none _
   | refine LeO.ite ?_ ?_
   | refine LeO.bind ?_ (fun _ => ?_)
  ·intro y0 y1 y2 y3 y4 y5
   unfold hinterlandref02_Validate.l0
   repeat' first
   | (with_reducible exact ih0 _ _ _ _)
   | (with_reducible exact ih1 _ _ _ _ _ _)
   | (with_reducible exact ih2 _ _ _ _ _ _)
   | (with_reducible exact LeO.refl _)
   | (with_reducible exact LeO.none _)
   | (with_reducible refine LeO.ite ?_ ?_)
   | (with_reducible refine LeO.bind ?_ (fun _ => ?_))
   | exact ih0 _ _ _ _
   | exact ih1 _ _ _ _ _ _
   | exact ih2 _ _ _ _ _ _
   | exact LeO.none _
   | refine LeO.ite ?_ ?_
   | refine LeO.bind ?_ (fun _ => ?_)
  ·intro y0 y1 y2 y3 y4 y5
   unfold hinterlandref02_Validate.l1
   repeat' first
   | (with_reducible exact ih0 _ _ _ _)
   | (with_reducible exact ih1 _ _ _ _ _ _)
   | (with_reducible exact ih2 _ _ _ _ _ _)
   | (with_reducible exact LeO.refl _)
   | (with_reducible exact LeO.none _)
   | (with_reducible refine LeO.ite ?_ ?_)
   | (with_reducible refine LeO.bind ?_ (fun _ => ?_))
   | exact ih0 _ _ _ _
   | exact ih1 _ _ _ _ _ _
   | exact ih2 _ _ _ _ _ _
   | exact LeO.none _
   | refine LeO.ite ?_ ?_
   | refine LeO.bind ?_ (fun _ => ?_)
theorem hinterlandref02_Validate.mono : ∀ a0 a1 a2 k, LeO (hinterlandref02_Validate.f k a0 a1 a2) (hinterlandref02_Validate.f (k + 1) a0 a1 a2) := by
 intro a0 a1 a2 k
 obtain ⟨ih0,ih1,ih2⟩:=hinterlandref02_Validate.mono_l k
 unfold hinterlandref02_Validate.f
 repeat' first
   | (with_reducible exact ih0 _ _ _ _)
   | (with_reducible exact ih1 _ _ _ _ _ _)
   | (with_reducible exact ih2 _ _ _ _ _ _)
   | (with_reducible exact LeO.refl _)
   | (with_reducible exact LeO.none _)
   | (with_reducible refine LeO.ite ?_ ?_)
   | (with_reducible refine LeO.bind ?_ (fun _ => ?_))
   | exact ih0 _ _ _ _
   | exact ih1 _ _ _ _ _ _
   | exact ih2 _ _ _ _ _ _
   | exact LeO.none _
   | refine LeO.ite ?_ ?_
   | refine LeO.bind ?_ (fun _ => ?_)
set_option maxHeartbeats 8000000 in
set_option maxRecDepth 100000 in
theorem hinterlandref02_Validate.calls (k : Nat) (a0_0 : Int) (a0_1 : Int) (A0_2 : Option Addr) (c0_2 : Nat) (l0_2 : List Int) (r : Int) (w : World) (hr0_2 : Kd.C (Kd.int .i64) w A0_2 l0_2.length l0_2) (hc0_2 : l0_2.length ≤ c0_2) (h : hinterlandref02_Validate.f k a0_0 a0_1 l0_2 = some r) :
  Calls Try.prog 48 #[.agg #[.int .i64 a0_0,.int .i64 a0_1,.slice A0_2 l0_2.length c0_2]] w fun e w' => e = .returned (.int .i64 r) ∧ Below w.heap.size w w':=by
 have hu24:=Try.underlying24
 have HR0_2:=Aside0.mk hr0_2
 have HC0_2:=Aside0.mk hc0_2
 clear hr0_2 hc0_2
 have HB:=Aside0.mk (Below.refl w.heap.size w)
 have H : ((hinterlandref02_side.f a0_0).bind fun t322 => (if t322 = true then ((hinterlandref02_side.f a0_1).bind fun t323 => (if t323 = true then (hinterlandref02_Validate.j0 k ((l0_2.length : Int) != (wrap64 ((wrap64 (a0_0 + 1)) * (wrap64 (a0_1 + 1))))) a0_0 a0_1 l0_2) else (hinterlandref02_Validate.j0 k true a0_0 a0_1 l0_2))) else (hinterlandref02_Validate.j0 k true a0_0 a0_1 l0_2))) = some r:=h
 clear h
 have HC2:=Aside0.mk H
 clear H
 go_enter Try.func48,Try.ntmps48
 go_upto_region 1 with (first|((with_reducible refine gate_dst (N:=1) rfl ?_);(try (refine gate_guard (by rfl) ?_;dsimp only));refine box_event ?hg (N:=1) ?hd (cs:=#[.int .i64 a0_0,.int .i64 a0_1,.slice A0_2 l0_2.length c0_2]) (t:=24) ?hr ?_;(case hd => rfl);(case hg => rfl);(case hr => first|(go_simp;done)|(go_simp;rfl));intro gb321 hg w3 hbox hb;have BK321:=Aside0.mk (hbox);have GW321:=Aside0.mk ((by rw [hg];exact (below_size (hb_)) : w.heap.size ≤ gb321));have GE321:=Aside0.mk ((by rw [hg];exact (below_size (hb_)) : w.heap.size ≤ gb321));replace HB:=Aside0.mk (below_step (hb_) hb);clear hb hbox hg))
 (try simp only [Act.put,List.setIfInBounds_toArray,List.set_cons_zero,List.set_cons_succ])
 go_cut [29] (fun v29 wc => ∃ (kq : Nat) (x29_1 : Bool),v29 = .bool x29_1 ∧ Aside0 (hinterlandref02_Validate.j0 kq x29_1 a0_0 a0_1 l0_2 = some r) ∧ Aside0 (kq ≤ k) ∧ Aside0 (wc.heap[gb321]? = some (.cells #[.int .i64 a0_0,.int .i64 a0_1,(.slice A0_2 l0_2.length c0_2)] 24 (0,0))) ∧ Aside0 (Below w.heap.size w wc))
 case first =>
  have H:=HC2.out
  clear HC2
  replace H:=Option.bind_eq_some_iff.mp H
  obtain ⟨t322,A40,H⟩:=H
  replace H : (if t322 = true then ((hinterlandref02_side.f a0_1).bind fun t323 => (if t323 = true then (hinterlandref02_Validate.j0 k ((l0_2.length : Int) != (wrap64 ((wrap64 (a0_0 + 1)) * (wrap64 (a0_1 + 1))))) a0_0 a0_1 l0_2) else (hinterlandref02_Validate.j0 k true a0_0 a0_1 l0_2))) else (hinterlandref02_Validate.j0 k true a0_0 a0_1 l0_2)) = some r:=H
  have A4:=Aside0.mk A40
  clear A40
  by_cases c5 : t322 = true
  ·subst c5
   have H1 : ((hinterlandref02_side.f a0_1).bind fun t323 => (if t323 = true then (hinterlandref02_Validate.j0 k ((l0_2.length : Int) != (wrap64 ((wrap64 (a0_0 + 1)) * (wrap64 (a0_1 + 1))))) a0_0 a0_1 l0_2) else (hinterlandref02_Validate.j0 k true a0_0 a0_1 l0_2))) = some r:=by rw [if_pos rfl] at H;exact H
   clear H
   have H:=H1
   clear H1
   replace H:=Option.bind_eq_some_iff.mp H
   obtain ⟨t323,A60,H⟩:=H
   replace H : (if t323 = true then (hinterlandref02_Validate.j0 k ((l0_2.length : Int) != (wrap64 ((wrap64 (a0_0 + 1)) * (wrap64 (a0_1 + 1))))) a0_0 a0_1 l0_2) else (hinterlandref02_Validate.j0 k true a0_0 a0_1 l0_2)) = some r:=H
   have A6:=Aside0.mk A60
   clear A60
   by_cases c7 : t323 = true
   ·subst c7
    have H1 : (hinterlandref02_Validate.j0 k ((l0_2.length : Int) != (wrap64 ((wrap64 (a0_0 + 1)) * (wrap64 (a0_1 + 1))))) a0_0 a0_1 l0_2) = some r:=by rw [if_pos rfl] at H;exact H
    clear H
    have H:=H1
    clear H1
    have H':=Aside0.mk H
    clear H
    obtain ⟨hcz8_0,hcz8_1,hcz8_2,hfz8_0,hfz8_1,hfz8_2⟩:=cells3 BK321.out
    go_wp2_with (first|((with_reducible refine gate_callee (f:=66) rfl ?_);refine goesL_ (some 9) rfl rfl Try.func66 (by kernel_rfl) rfl #[.int .i64 a0_0] rfl (by (try simp only [List.map_toArray,List.map_cons,List.map_nil]);first|done|rfl|(simp only [List.length_drop,List.length_take];rfl)) ?_;(with_reducible refine (hinterlandref02_side.calls a0_0 true _ A4.out).mono ?_);rintro e w' ⟨rfl,⟨nd,rfl⟩⟩;refine ⟨_,rfl,?_⟩)|(go_at_call 66;(with_reducible refine (hinterlandref02_side.calls a0_1 true _ A6.out).mono ?_);rintro e w' ⟨rfl,⟨nd,rfl⟩⟩))
    go_meet
    case rel => exact ⟨_,(((l0_2.length : Int) != (wrap64 ((wrap64 (a0_0 + 1)) * (wrap64 (a0_1 + 1)))))),(by first|rfl|(simp;done)|(simp [*];done)),H',⟨by first|omega|exact Nat.le_refl _⟩,⟨blk_up BK321.out⟩,⟨hb_⟩⟩
   ·replace c7:=Bool.eq_false_iff.mpr c7
    subst c7
    have H1 : (hinterlandref02_Validate.j0 k true a0_0 a0_1 l0_2) = some r:=by rw [if_neg (show ¬ (false = true) by decide)] at H;exact H
    clear H
    have H:=H1
    clear H1
    have H':=Aside0.mk H
    clear H
    obtain ⟨hcz9_0,hcz9_1,hcz9_2,hfz9_0,hfz9_1,hfz9_2⟩:=cells3 BK321.out
    go_wp2_with (first|((with_reducible refine gate_callee (f:=66) rfl ?_);refine goesL_ (some 9) rfl rfl Try.func66 (by kernel_rfl) rfl #[.int .i64 a0_0] rfl (by (try simp only [List.map_toArray,List.map_cons,List.map_nil]);first|done|rfl|(simp only [List.length_drop,List.length_take];rfl)) ?_;(with_reducible refine (hinterlandref02_side.calls a0_0 true _ A4.out).mono ?_);rintro e w' ⟨rfl,⟨nd,rfl⟩⟩;refine ⟨_,rfl,?_⟩)|(go_at_call 66;(with_reducible refine (hinterlandref02_side.calls a0_1 false _ A6.out).mono ?_);rintro e w' ⟨rfl,⟨nd,rfl⟩⟩))
    go_meet
    case rel => exact ⟨_,(true),(by first|rfl|(simp;done)|(simp [*];done)),H',⟨by first|omega|exact Nat.le_refl _⟩,⟨blk_up BK321.out⟩,⟨hb_⟩⟩
  ·replace c5:=Bool.eq_false_iff.mpr c5
   subst c5
   have H1 : (hinterlandref02_Validate.j0 k true a0_0 a0_1 l0_2) = some r:=by rw [if_neg (show ¬ (false = true) by decide)] at H;exact H
   clear H
   have H:=H1
   clear H1
   have H':=Aside0.mk H
   clear H
   obtain ⟨hcz10_0,hcz10_1,hcz10_2,hfz10_0,hfz10_1,hfz10_2⟩:=cells3 BK321.out
   go_wp2_with (first|((with_reducible refine gate_callee (f:=66) rfl ?_);refine goesL_ (some 9) rfl rfl Try.func66 (by kernel_rfl) rfl #[.int .i64 a0_0] rfl (by (try simp only [List.map_toArray,List.map_cons,List.map_nil]);first|done|rfl|(simp only [List.length_drop,List.length_take];rfl)) ?_;(with_reducible refine (hinterlandref02_side.calls a0_0 false _ A4.out).mono ?_);rintro e w' ⟨rfl,⟨nd,rfl⟩⟩;refine ⟨_,rfl,?_⟩))
   go_meet
   case rel => exact ⟨_,(true),(by first|rfl|(simp;done)|(simp [*];done)),H',⟨by first|omega|exact Nat.le_refl _⟩,⟨blk_up BK321.out⟩,⟨hb_⟩⟩
 case rest =>
  clear HC2
  try clear p2
  try clear c4
  try clear c5
  try clear c6
  try clear p6
  try clear c7
  try clear hcz10_0
  try clear hcz10_1
  try clear hcz10_2
  try clear hcz8_0
  try clear hcz8_1
  try clear hcz8_2
  try clear hcz9_0
  try clear hcz9_1
  try clear hcz9_2
  try clear hfz10_0
  try clear hfz10_1
  try clear hfz10_2
  try clear hfz8_0
  try clear hfz8_1
  try clear hfz8_2
  try clear hfz9_0
  try clear hfz9_1
  try clear hfz9_2
  obtain ⟨kq,x29_1,rfl,HA,HJ1,BK321,HB⟩:=hcut
  cases kq with
  | zero => exact absurd HA.out (by simp [hinterlandref02_Validate.j0])
  | succ kj1 =>
   have H:=HA.out
   clear HA
   simp only [hinterlandref02_Validate.j0] at H
   by_cases c11 : x29_1 = true
   ·subst c11
    have H1 : (some 1) = some r:=by rw [if_pos rfl] at H;exact H
    clear H
    have H:=H1
    clear H1
    obtain rfl:=Option.some.inj H
    go_wp2
    go_ret
    exact ⟨by first|rfl|(simp [errW_none,errW_some] <;> rfl)|(simp [*,errW_none,errW_some] <;> rfl),hb_⟩
   ·replace c11:=Bool.eq_false_iff.mpr c11
    subst c11
    have H1 : (hinterlandref02_Validate.l0 kj1 l0_2 (l0_2.length : Int) 0 a0_0 a0_1 l0_2) = some r:=by rw [if_neg (show ¬ (false = true) by decide)] at H;exact H
    clear H
    have H:=H1
    clear H1
    have H':=Aside0.mk H
    clear H
    obtain ⟨hcz12_0,hcz12_1,hcz12_2,hfz12_0,hfz12_1,hfz12_2⟩:=cells3 BK321.out
    go_wp2
    go_loopg [33] kj1 (fun kq v33 w' => ∃ (x33_2 : Int),v33 = .int .i64 x33_2 ∧ Aside0 (hinterlandref02_Validate.l0 kq l0_2 (l0_2.length : Int) x33_2 a0_0 a0_1 l0_2 = some r) ∧ Aside0 (kq ≤ kj1) ∧ Aside0 (w'.heap[gb321]? = some (.cells #[.int .i64 a0_0,.int .i64 a0_1,(.slice A0_2 l0_2.length c0_2)] 24 (0,0))) ∧ Aside0 (Below w.heap.size w w'))
    case atStart => exact ⟨(0),(by first|rfl|(simp;done)|(simp [*];done)),H',⟨Nat.le_refl _⟩,⟨blk_up BK321.out⟩,⟨hb_⟩⟩
    case round =>
     clear H'
     try clear c1
     try clear p2
     try clear c4
     try clear c5
     try clear c6
     try clear p6
     try clear c7
     try clear c11
     try clear hcz10_0
     try clear hcz10_1
     try clear hcz10_2
     try clear hcz12_0
     try clear hcz12_1
     try clear hcz12_2
     try clear hcz8_0
     try clear hcz8_1
     try clear hcz8_2
     try clear hcz9_0
     try clear hcz9_1
     try clear hcz9_2
     try clear hfz10_0
     try clear hfz10_1
     try clear hfz10_2
     try clear hfz12_0
     try clear hfz12_1
     try clear hfz12_2
     try clear hfz8_0
     try clear hfz8_1
     try clear hfz8_2
     try clear hfz9_0
     try clear hfz9_1
     try clear hfz9_2
     try clear p2
     try clear p6
     obtain ⟨x33_2,rfl,HA,HK2,BK321,HB⟩:=hrel
     cases gk with
     | zero => exact absurd HA.out (by simp [hinterlandref02_Validate.l0])
     | succ k2 =>
      have H:=HA.out
      clear HA
      simp only [hinterlandref02_Validate.l0] at H
      by_cases c13 : x33_2 < (l0_2.length : Int)
      ·rw [if_pos c13] at H
       have c13b0 : decide (x33_2 < (l0_2.length : Int)) = true:=decide_eq_true c13
       clear c13
       by_cases c14 : 0 ≤ x33_2
       ·rw [if_pos c14] at H
        have c14b0 : decide (0 ≤ x33_2) = true:=decide_eq_true c14
        clear c14
        by_cases c15 : x33_2 < (l0_2.length : Int)
        ·rw [if_pos c15] at H
         have c15b0 : decide (x33_2 < (l0_2.length : Int)) = true:=decide_eq_true c15
         clear c15
         by_cases c16 : (rd l0_2 x33_2) < 0
         ·rw [if_pos c16] at H
          have c16b0 : decide ((rd l0_2 x33_2) < 0) = true:=decide_eq_true c16
          clear c16
          obtain rfl:=Option.some.inj H
          have p324 : 0 ≤ (x33_2 : Int):=of_decide_eq_true (by first|(with_reducible assumption)|assumption)
          have q324 : x33_2 < (l0_2.length : Int):=of_decide_eq_true (by first|(with_reducible assumption)|assumption)
          obtain ⟨ad324,e324,hx324_0⟩:=Kd.at_int HR0_2.out x33_2 p324 q324
          cases e324
          replace hx324_0:=(HB.out.cell (World.block_lt_of_cell? w _ hx324_0)).trans hx324_0
          replace p324:=eq_true p324
          replace q324:=eq_true q324
          go_wp2
          go_ret
          exact ⟨by first|rfl|(simp [errW_none,errW_some] <;> rfl)|(simp [*,errW_none,errW_some] <;> rfl),hb_⟩
         ·rw [if_neg c16] at H
          have c16b0 : decide ((rd l0_2 x33_2) < 0) = false:=decide_eq_false c16
          clear c16
          by_cases c17 : (rd l0_2 x33_2) > 15
          ·rw [if_pos c17] at H
           have c17b0 : decide (15 < (rd l0_2 x33_2)) = true:=decide_eq_true c17
           clear c17
           obtain rfl:=Option.some.inj H
           have p324 : 0 ≤ (x33_2 : Int):=of_decide_eq_true (by first|(with_reducible assumption)|assumption)
           have q324 : x33_2 < (l0_2.length : Int):=of_decide_eq_true (by first|(with_reducible assumption)|assumption)
           obtain ⟨ad324,e324,hx324_0⟩:=Kd.at_int HR0_2.out x33_2 p324 q324
           cases e324
           replace hx324_0:=(HB.out.cell (World.block_lt_of_cell? w _ hx324_0)).trans hx324_0
           replace p324:=eq_true p324
           replace q324:=eq_true q324
           go_wp2
           go_ret
           exact ⟨by first|rfl|(simp [errW_none,errW_some] <;> rfl)|(simp [*,errW_none,errW_some] <;> rfl),hb_⟩
          ·rw [if_neg c17] at H
           have c17b0 : decide (15 < (rd l0_2 x33_2)) = false:=decide_eq_false c17
           clear c17
           have H':=Aside0.mk H
           clear H
           have p324 : 0 ≤ (x33_2 : Int):=of_decide_eq_true (by first|(with_reducible assumption)|assumption)
           have q324 : x33_2 < (l0_2.length : Int):=of_decide_eq_true (by first|(with_reducible assumption)|assumption)
           obtain ⟨ad324,e324,hx324_0⟩:=Kd.at_int HR0_2.out x33_2 p324 q324
           cases e324
           replace hx324_0:=(HB.out.cell (World.block_lt_of_cell? w _ hx324_0)).trans hx324_0
           replace p324:=eq_true p324
           replace q324:=eq_true q324
           go_wp2
           go_roundg k2
           case measure => have:=HJ1.out;have:=HK2.out;omega
           case rel => exact ⟨(wrap64 (x33_2 + 1)),(by first|rfl|(simp;done)|(simp [*];done)),H',⟨by have:=HJ1.out;have:=HK2.out;omega⟩,⟨blk_up BK321.out⟩,⟨hb_⟩⟩
        ·rw [if_neg c15] at H
         exact absurd H (by simp)
       ·rw [if_neg c14] at H
        exact absurd H (by simp)
      ·rw [if_neg c13] at H
       have c13b0 : decide (x33_2 < (l0_2.length : Int)) = false:=decide_eq_false c13
       clear c13
       have H':=Aside0.mk H
       clear H
       obtain ⟨hcz18_0,hcz18_1,hcz18_2,hfz18_0,hfz18_1,hfz18_2⟩:=cells3 BK321.out
       go_wp2
       go_loopg [47] k2 (fun kq v47 w' => ∃ (x47_3 : Int),v47 = .int .i64 x47_3 ∧ Aside0 (hinterlandref02_Validate.l1 kq l0_2 (l0_2.length : Int) x47_3 a0_0 a0_1 l0_2 = some r) ∧ Aside0 (kq ≤ k2) ∧ Aside0 (w'.heap[gb321]? = some (.cells #[.int .i64 a0_0,.int .i64 a0_1,(.slice A0_2 l0_2.length c0_2)] 24 (0,0))) ∧ Aside0 (Below w.heap.size w w'))
       case atStart => exact ⟨(0),(by first|rfl|(simp;done)|(simp [*];done)),H',⟨Nat.le_refl _⟩,⟨blk_up BK321.out⟩,⟨hb_⟩⟩
       case round =>
        clear H'
        try clear c1
        try clear p2
        try clear p3
        try clear q3
        try clear hx3
        try clear c4
        try clear c5
        try clear c6
        try clear p6
        try clear c7
        try clear c11
        try clear c13
        try clear c13b0
        try clear c14
        try clear c14b0
        try clear c15
        try clear c15b0
        try clear c16
        try clear c16b0
        try clear c17
        try clear c17b0
        try clear hcz10_0
        try clear hcz10_1
        try clear hcz10_2
        try clear hcz12_0
        try clear hcz12_1
        try clear hcz12_2
        try clear hcz18_0
        try clear hcz18_1
        try clear hcz18_2
        try clear hcz8_0
        try clear hcz8_1
        try clear hcz8_2
        try clear hcz9_0
        try clear hcz9_1
        try clear hcz9_2
        try clear hfz10_0
        try clear hfz10_1
        try clear hfz10_2
        try clear hfz12_0
        try clear hfz12_1
        try clear hfz12_2
        try clear hfz18_0
        try clear hfz18_1
        try clear hfz18_2
        try clear hfz8_0
        try clear hfz8_1
        try clear hfz8_2
        try clear hfz9_0
        try clear hfz9_1
        try clear hfz9_2
        try clear hx324_0
        try clear p2
        try clear p324
        try clear p6
        try clear q324
        obtain ⟨x47_3,rfl,HA,HK3,BK321,HB⟩:=hrel
        cases gk with
        | zero => exact absurd HA.out (by simp [hinterlandref02_Validate.l1])
        | succ k3 =>
         have H:=HA.out
         clear HA
         simp only [hinterlandref02_Validate.l1] at H
         by_cases c19 : x47_3 < (l0_2.length : Int)
         ·rw [if_pos c19] at H
          have c19b0 : decide (x47_3 < (l0_2.length : Int)) = true:=decide_eq_true c19
          clear c19
          by_cases c20 : 0 ≤ x47_3
          ·rw [if_pos c20] at H
           have c20b0 : decide (0 ≤ x47_3) = true:=decide_eq_true c20
           clear c20
           by_cases c21 : x47_3 < (l0_2.length : Int)
           ·rw [if_pos c21] at H
            have c21b0 : decide (x47_3 < (l0_2.length : Int)) = true:=decide_eq_true c21
            clear c21
            by_cases c22 : (wrap64 (a0_0 + 1)) = 0
            ·rw [if_pos c22] at H
             exact absurd H (by simp)
            ·rw [if_neg c22] at H
             have c22b0 : ((wrap64 (a0_0 + 1)) == 0) = false:=beq_eq_false_iff_ne.mpr c22
             have c22b1 : ((wrap64 (a0_0 + 1)) != 0) = true:=bne_iff_ne.mpr c22
             by_cases c23 : (Int.tmod x47_3 (wrap64 (a0_0 + 1))) > 0
             ·rw [if_pos c23] at H
              have c23b0 : decide (0 < (Int.tmod x47_3 (wrap64 (a0_0 + 1)))) = true:=decide_eq_true c23
              clear c23
              obtain ⟨ji24,hji24⟩ : ∃ j_ : Int,(wrap64 (x47_3 - 1)) = j_:=⟨_,rfl⟩
              replace H : (if 0 ≤ (ji24) then (if (ji24) < (l0_2.length : Int) then ((hinterlandref02_Apart.f (rd l0_2 x47_3) (rd l0_2 (ji24))).bind fun t327 => (if t327 > 1 then (some 5) else (if x47_3 > a0_0 then (if 0 ≤ (wrap64 ((wrap64 (x47_3 - a0_0)) - 1)) then (if (wrap64 ((wrap64 (x47_3 - a0_0)) - 1)) < (l0_2.length : Int) then ((hinterlandref02_Apart.f (rd l0_2 x47_3) (rd l0_2 (wrap64 ((wrap64 (x47_3 - a0_0)) - 1)))).bind fun t329 => (if t329 > 1 then (some 5) else (hinterlandref02_Validate.l1 k3 l0_2 (l0_2.length : Int) (wrap64 (x47_3 + 1)) a0_0 a0_1 l0_2))) else (none)) else (none)) else (hinterlandref02_Validate.l1 k3 l0_2 (l0_2.length : Int) (wrap64 (x47_3 + 1)) a0_0 a0_1 l0_2)))) else (none)) else (none)) = some r:=by first|(rw [hji24] at H;exact H)|(simp only [hji24] at H ⊢;exact H)
              have hji24w : (IntKind.i64.wrap (x47_3 - 1)) = ji24:=(i64_w _).trans hji24
              by_cases c25 : 0 ≤ (ji24)
              ·rw [if_pos c25] at H
               have c25b0 : decide (0 ≤ (ji24)) = true:=decide_eq_true c25
               clear c25
               by_cases c26 : (ji24) < (l0_2.length : Int)
               ·rw [if_pos c26] at H
                have c26b0 : decide ((ji24) < (l0_2.length : Int)) = true:=decide_eq_true c26
                clear c26
                replace H:=Option.bind_eq_some_iff.mp H
                obtain ⟨t327,A270,H⟩:=H
                replace H : (if t327 > 1 then (some 5) else (if x47_3 > a0_0 then (if 0 ≤ (wrap64 ((wrap64 (x47_3 - a0_0)) - 1)) then (if (wrap64 ((wrap64 (x47_3 - a0_0)) - 1)) < (l0_2.length : Int) then ((hinterlandref02_Apart.f (rd l0_2 x47_3) (rd l0_2 (wrap64 ((wrap64 (x47_3 - a0_0)) - 1)))).bind fun t329 => (if t329 > 1 then (some 5) else (hinterlandref02_Validate.l1 k3 l0_2 (l0_2.length : Int) (wrap64 (x47_3 + 1)) a0_0 a0_1 l0_2))) else (none)) else (none)) else (hinterlandref02_Validate.l1 k3 l0_2 (l0_2.length : Int) (wrap64 (x47_3 + 1)) a0_0 a0_1 l0_2))) = some r:=H
                have A27:=Aside0.mk A270
                clear A270
                by_cases c28 : t327 > 1
                ·rw [if_pos c28] at H
                 have c28b0 : decide (1 < t327) = true:=decide_eq_true c28
                 clear c28
                 obtain rfl:=Option.some.inj H
                 have p325 : 0 ≤ (x47_3 : Int):=of_decide_eq_true (by first|(with_reducible assumption)|assumption)
                 have q325 : x47_3 < (l0_2.length : Int):=of_decide_eq_true (by first|(with_reducible assumption)|assumption)
                 obtain ⟨ad325,e325,hx325_0⟩:=Kd.at_int HR0_2.out x47_3 p325 q325
                 cases e325
                 replace hx325_0:=(HB.out.cell (World.block_lt_of_cell? w _ hx325_0)).trans hx325_0
                 replace p325:=eq_true p325
                 replace q325:=eq_true q325
                 obtain ⟨hcz29_0,hcz29_1,hcz29_2,hfz29_0,hfz29_1,hfz29_2⟩:=cells3 BK321.out
                 have p326 : 0 ≤ ((ji24) : Int):=of_decide_eq_true (by first|(with_reducible assumption)|assumption)
                 have q326 : (ji24) < (l0_2.length : Int):=of_decide_eq_true (by first|(with_reducible assumption)|assumption)
                 obtain ⟨ad326,e326,hx326_0⟩:=Kd.at_int HR0_2.out (ji24) p326 q326
                 obtain rfl : ad325 = ad326:=(by injection e326)
                 replace hx326_0:=(HB.out.cell (World.block_lt_of_cell? w _ hx326_0)).trans hx326_0
                 replace p326:=eq_true p326
                 replace q326:=eq_true q326
                 go_wp2_with (first|(go_at_call 67;(with_reducible refine (hinterlandref02_Apart.calls (rd l0_2 x47_3) (rd l0_2 (ji24)) t327 _ A27.out).mono ?_);rintro e w' ⟨rfl,⟨nd,rfl⟩⟩))
                 go_ret
                 exact ⟨by first|rfl|(simp [errW_none,errW_some] <;> rfl)|(simp only [← hji24];first|rfl|(simp [errW_none,errW_some] <;> rfl))|(simp [*,errW_none,errW_some] <;> rfl),hb_⟩
                ·rw [if_neg c28] at H
                 have c28b0 : decide (1 < t327) = false:=decide_eq_false c28
                 clear c28
                 by_cases c30 : x47_3 > a0_0
                 ·rw [if_pos c30] at H
                  have c30b0 : decide (a0_0 < x47_3) = true:=decide_eq_true c30
                  clear c30
                  obtain ⟨ji31,hji31⟩ : ∃ j_ : Int,(wrap64 ((wrap64 (x47_3 - a0_0)) - 1)) = j_:=⟨_,rfl⟩
                  replace H : (if 0 ≤ (ji31) then (if (ji31) < (l0_2.length : Int) then ((hinterlandref02_Apart.f (rd l0_2 x47_3) (rd l0_2 (ji31))).bind fun t329 => (if t329 > 1 then (some 5) else (hinterlandref02_Validate.l1 k3 l0_2 (l0_2.length : Int) (wrap64 (x47_3 + 1)) a0_0 a0_1 l0_2))) else (none)) else (none)) = some r:=by first|(rw [hji31] at H;exact H)|(simp only [hji31] at H ⊢;exact H)
                  (try rw [hji31] at A27)
                  have hji31w : (IntKind.i64.wrap ((wrap64 (x47_3 - a0_0)) - 1)) = ji31:=(i64_w _).trans hji31
                  by_cases c32 : 0 ≤ (ji31)
                  ·rw [if_pos c32] at H
                   have c32b0 : decide (0 ≤ (ji31)) = true:=decide_eq_true c32
                   clear c32
                   by_cases c33 : (ji31) < (l0_2.length : Int)
                   ·rw [if_pos c33] at H
                    have c33b0 : decide ((ji31) < (l0_2.length : Int)) = true:=decide_eq_true c33
                    clear c33
                    replace H:=Option.bind_eq_some_iff.mp H
                    obtain ⟨t329,A340,H⟩:=H
                    replace H : (if t329 > 1 then (some 5) else (hinterlandref02_Validate.l1 k3 l0_2 (l0_2.length : Int) (wrap64 (x47_3 + 1)) a0_0 a0_1 l0_2)) = some r:=H
                    have A34:=Aside0.mk A340
                    clear A340
                    by_cases c35 : t329 > 1
                    ·rw [if_pos c35] at H
                     have c35b0 : decide (1 < t329) = true:=decide_eq_true c35
                     clear c35
                     obtain rfl:=Option.some.inj H
                     have p325 : 0 ≤ (x47_3 : Int):=of_decide_eq_true (by first|(with_reducible assumption)|assumption)
                     have q325 : x47_3 < (l0_2.length : Int):=of_decide_eq_true (by first|(with_reducible assumption)|assumption)
                     obtain ⟨ad325,e325,hx325_0⟩:=Kd.at_int HR0_2.out x47_3 p325 q325
                     cases e325
                     replace hx325_0:=(HB.out.cell (World.block_lt_of_cell? w _ hx325_0)).trans hx325_0
                     replace p325:=eq_true p325
                     replace q325:=eq_true q325
                     obtain ⟨hcz36_0,hcz36_1,hcz36_2,hfz36_0,hfz36_1,hfz36_2⟩:=cells3 BK321.out
                     have p326 : 0 ≤ ((ji24) : Int):=of_decide_eq_true (by first|(with_reducible assumption)|assumption)
                     have q326 : (ji24) < (l0_2.length : Int):=of_decide_eq_true (by first|(with_reducible assumption)|assumption)
                     obtain ⟨ad326,e326,hx326_0⟩:=Kd.at_int HR0_2.out (ji24) p326 q326
                     obtain rfl : ad325 = ad326:=(by injection e326)
                     replace hx326_0:=(HB.out.cell (World.block_lt_of_cell? w _ hx326_0)).trans hx326_0
                     replace p326:=eq_true p326
                     replace q326:=eq_true q326
                     go_wp2_with (first|(go_at_call 67;(with_reducible refine (hinterlandref02_Apart.calls (rd l0_2 x47_3) (rd l0_2 (ji24)) t327 _ A27.out).mono ?_);rintro e w' ⟨rfl,⟨nd,rfl⟩⟩;have p328 : 0 ≤ ((ji31) : Int):=of_decide_eq_true (by first|(with_reducible assumption)|assumption);have q328 : (ji31) < (l0_2.length : Int):=of_decide_eq_true (by first|(with_reducible assumption)|assumption);obtain ⟨ad328,e328,hx328_0⟩:=Kd.at_int HR0_2.out (ji31) p328 q328;obtain rfl : ad325 = ad328:=(by injection e328);replace hx328_0:=(HB.out.cell (World.block_lt_of_cell? w _ hx328_0)).trans hx328_0;replace p328:=eq_true p328;replace q328:=eq_true q328)|(go_at_call 67;(with_reducible refine (hinterlandref02_Apart.calls (rd l0_2 x47_3) (rd l0_2 (ji31)) t329 _ A34.out).mono ?_);rintro e w' ⟨rfl,⟨nd,rfl⟩⟩))
                     go_ret
                     exact ⟨by first|rfl|(simp [errW_none,errW_some] <;> rfl)|(simp only [← hji24,← hji31];first|rfl|(simp [errW_none,errW_some] <;> rfl))|(simp [*,errW_none,errW_some] <;> rfl),hb_⟩
                    ·rw [if_neg c35] at H
                     have c35b0 : decide (1 < t329) = false:=decide_eq_false c35
                     clear c35
                     have H':=Aside0.mk H
                     clear H
                     have p325 : 0 ≤ (x47_3 : Int):=of_decide_eq_true (by first|(with_reducible assumption)|assumption)
                     have q325 : x47_3 < (l0_2.length : Int):=of_decide_eq_true (by first|(with_reducible assumption)|assumption)
                     obtain ⟨ad325,e325,hx325_0⟩:=Kd.at_int HR0_2.out x47_3 p325 q325
                     cases e325
                     replace hx325_0:=(HB.out.cell (World.block_lt_of_cell? w _ hx325_0)).trans hx325_0
                     replace p325:=eq_true p325
                     replace q325:=eq_true q325
                     obtain ⟨hcz37_0,hcz37_1,hcz37_2,hfz37_0,hfz37_1,hfz37_2⟩:=cells3 BK321.out
                     have p326 : 0 ≤ ((ji24) : Int):=of_decide_eq_true (by first|(with_reducible assumption)|assumption)
                     have q326 : (ji24) < (l0_2.length : Int):=of_decide_eq_true (by first|(with_reducible assumption)|assumption)
                     obtain ⟨ad326,e326,hx326_0⟩:=Kd.at_int HR0_2.out (ji24) p326 q326
                     obtain rfl : ad325 = ad326:=(by injection e326)
                     replace hx326_0:=(HB.out.cell (World.block_lt_of_cell? w _ hx326_0)).trans hx326_0
                     replace p326:=eq_true p326
                     replace q326:=eq_true q326
                     go_wp2_with (first|(go_at_call 67;(with_reducible refine (hinterlandref02_Apart.calls (rd l0_2 x47_3) (rd l0_2 (ji24)) t327 _ A27.out).mono ?_);rintro e w' ⟨rfl,⟨nd,rfl⟩⟩;have p328 : 0 ≤ ((ji31) : Int):=of_decide_eq_true (by first|(with_reducible assumption)|assumption);have q328 : (ji31) < (l0_2.length : Int):=of_decide_eq_true (by first|(with_reducible assumption)|assumption);obtain ⟨ad328,e328,hx328_0⟩:=Kd.at_int HR0_2.out (ji31) p328 q328;obtain rfl : ad325 = ad328:=(by injection e328);replace hx328_0:=(HB.out.cell (World.block_lt_of_cell? w _ hx328_0)).trans hx328_0;replace p328:=eq_true p328;replace q328:=eq_true q328)|(go_at_call 67;(with_reducible refine (hinterlandref02_Apart.calls (rd l0_2 x47_3) (rd l0_2 (ji31)) t329 _ A34.out).mono ?_);rintro e w' ⟨rfl,⟨nd,rfl⟩⟩))
                     go_roundg k3
                     case measure => have:=HJ1.out;have:=HK2.out;have:=HK3.out;omega
                     case rel => exact ⟨(wrap64 (x47_3 + 1)),(by first|rfl|(simp;done)|(simp [*];done)),H',⟨by have:=HJ1.out;have:=HK2.out;have:=HK3.out;omega⟩,⟨blk_up BK321.out⟩,⟨hb_⟩⟩
                   ·rw [if_neg c33] at H
                    exact absurd H (by simp)
                  ·rw [if_neg c32] at H
                   exact absurd H (by simp)
                 ·rw [if_neg c30] at H
                  have c30b0 : decide (a0_0 < x47_3) = false:=decide_eq_false c30
                  clear c30
                  have H':=Aside0.mk H
                  clear H
                  have p325 : 0 ≤ (x47_3 : Int):=of_decide_eq_true (by first|(with_reducible assumption)|assumption)
                  have q325 : x47_3 < (l0_2.length : Int):=of_decide_eq_true (by first|(with_reducible assumption)|assumption)
                  obtain ⟨ad325,e325,hx325_0⟩:=Kd.at_int HR0_2.out x47_3 p325 q325
                  cases e325
                  replace hx325_0:=(HB.out.cell (World.block_lt_of_cell? w _ hx325_0)).trans hx325_0
                  replace p325:=eq_true p325
                  replace q325:=eq_true q325
                  obtain ⟨hcz38_0,hcz38_1,hcz38_2,hfz38_0,hfz38_1,hfz38_2⟩:=cells3 BK321.out
                  have p326 : 0 ≤ ((ji24) : Int):=of_decide_eq_true (by first|(with_reducible assumption)|assumption)
                  have q326 : (ji24) < (l0_2.length : Int):=of_decide_eq_true (by first|(with_reducible assumption)|assumption)
                  obtain ⟨ad326,e326,hx326_0⟩:=Kd.at_int HR0_2.out (ji24) p326 q326
                  obtain rfl : ad325 = ad326:=(by injection e326)
                  replace hx326_0:=(HB.out.cell (World.block_lt_of_cell? w _ hx326_0)).trans hx326_0
                  replace p326:=eq_true p326
                  replace q326:=eq_true q326
                  go_wp2_with (first|(go_at_call 67;(with_reducible refine (hinterlandref02_Apart.calls (rd l0_2 x47_3) (rd l0_2 (ji24)) t327 _ A27.out).mono ?_);rintro e w' ⟨rfl,⟨nd,rfl⟩⟩))
                  go_roundg k3
                  case measure => have:=HJ1.out;have:=HK2.out;have:=HK3.out;omega
                  case rel => exact ⟨(wrap64 (x47_3 + 1)),(by first|rfl|(simp;done)|(simp [*];done)),H',⟨by have:=HJ1.out;have:=HK2.out;have:=HK3.out;omega⟩,⟨blk_up BK321.out⟩,⟨hb_⟩⟩
               ·rw [if_neg c26] at H
                exact absurd H (by simp)
              ·rw [if_neg c25] at H
               exact absurd H (by simp)
             ·rw [if_neg c23] at H
              have c23b0 : decide (0 < (Int.tmod x47_3 (wrap64 (a0_0 + 1)))) = false:=decide_eq_false c23
              clear c23
              by_cases c39 : x47_3 > a0_0
              ·rw [if_pos c39] at H
               have c39b0 : decide (a0_0 < x47_3) = true:=decide_eq_true c39
               clear c39
               obtain ⟨ji40,hji40⟩ : ∃ j_ : Int,(wrap64 ((wrap64 (x47_3 - a0_0)) - 1)) = j_:=⟨_,rfl⟩
               replace H : (if 0 ≤ (ji40) then (if (ji40) < (l0_2.length : Int) then ((hinterlandref02_Apart.f (rd l0_2 x47_3) (rd l0_2 (ji40))).bind fun t331 => (if t331 > 1 then (some 5) else (hinterlandref02_Validate.l1 k3 l0_2 (l0_2.length : Int) (wrap64 (x47_3 + 1)) a0_0 a0_1 l0_2))) else (none)) else (none)) = some r:=by first|(rw [hji40] at H;exact H)|(simp only [hji40] at H ⊢;exact H)
               have hji40w : (IntKind.i64.wrap ((wrap64 (x47_3 - a0_0)) - 1)) = ji40:=(i64_w _).trans hji40
               by_cases c41 : 0 ≤ (ji40)
               ·rw [if_pos c41] at H
                have c41b0 : decide (0 ≤ (ji40)) = true:=decide_eq_true c41
                clear c41
                by_cases c42 : (ji40) < (l0_2.length : Int)
                ·rw [if_pos c42] at H
                 have c42b0 : decide ((ji40) < (l0_2.length : Int)) = true:=decide_eq_true c42
                 clear c42
                 replace H:=Option.bind_eq_some_iff.mp H
                 obtain ⟨t331,A430,H⟩:=H
                 replace H : (if t331 > 1 then (some 5) else (hinterlandref02_Validate.l1 k3 l0_2 (l0_2.length : Int) (wrap64 (x47_3 + 1)) a0_0 a0_1 l0_2)) = some r:=H
                 have A43:=Aside0.mk A430
                 clear A430
                 by_cases c44 : t331 > 1
                 ·rw [if_pos c44] at H
                  have c44b0 : decide (1 < t331) = true:=decide_eq_true c44
                  clear c44
                  obtain rfl:=Option.some.inj H
                  have p325 : 0 ≤ (x47_3 : Int):=of_decide_eq_true (by first|(with_reducible assumption)|assumption)
                  have q325 : x47_3 < (l0_2.length : Int):=of_decide_eq_true (by first|(with_reducible assumption)|assumption)
                  obtain ⟨ad325,e325,hx325_0⟩:=Kd.at_int HR0_2.out x47_3 p325 q325
                  cases e325
                  replace hx325_0:=(HB.out.cell (World.block_lt_of_cell? w _ hx325_0)).trans hx325_0
                  replace p325:=eq_true p325
                  replace q325:=eq_true q325
                  obtain ⟨hcz45_0,hcz45_1,hcz45_2,hfz45_0,hfz45_1,hfz45_2⟩:=cells3 BK321.out
                  have p330 : 0 ≤ ((ji40) : Int):=of_decide_eq_true (by first|(with_reducible assumption)|assumption)
                  have q330 : (ji40) < (l0_2.length : Int):=of_decide_eq_true (by first|(with_reducible assumption)|assumption)
                  obtain ⟨ad330,e330,hx330_0⟩:=Kd.at_int HR0_2.out (ji40) p330 q330
                  obtain rfl : ad325 = ad330:=(by injection e330)
                  replace hx330_0:=(HB.out.cell (World.block_lt_of_cell? w _ hx330_0)).trans hx330_0
                  replace p330:=eq_true p330
                  replace q330:=eq_true q330
                  go_wp2_with (first|(go_at_call 67;(with_reducible refine (hinterlandref02_Apart.calls (rd l0_2 x47_3) (rd l0_2 (ji40)) t331 _ A43.out).mono ?_);rintro e w' ⟨rfl,⟨nd,rfl⟩⟩))
                  go_ret
                  exact ⟨by first|rfl|(simp [errW_none,errW_some] <;> rfl)|(simp only [← hji40];first|rfl|(simp [errW_none,errW_some] <;> rfl))|(simp [*,errW_none,errW_some] <;> rfl),hb_⟩
                 ·rw [if_neg c44] at H
                  have c44b0 : decide (1 < t331) = false:=decide_eq_false c44
                  clear c44
                  have H':=Aside0.mk H
                  clear H
                  have p325 : 0 ≤ (x47_3 : Int):=of_decide_eq_true (by first|(with_reducible assumption)|assumption)
                  have q325 : x47_3 < (l0_2.length : Int):=of_decide_eq_true (by first|(with_reducible assumption)|assumption)
                  obtain ⟨ad325,e325,hx325_0⟩:=Kd.at_int HR0_2.out x47_3 p325 q325
                  cases e325
                  replace hx325_0:=(HB.out.cell (World.block_lt_of_cell? w _ hx325_0)).trans hx325_0
                  replace p325:=eq_true p325
                  replace q325:=eq_true q325
                  obtain ⟨hcz46_0,hcz46_1,hcz46_2,hfz46_0,hfz46_1,hfz46_2⟩:=cells3 BK321.out
                  have p330 : 0 ≤ ((ji40) : Int):=of_decide_eq_true (by first|(with_reducible assumption)|assumption)
                  have q330 : (ji40) < (l0_2.length : Int):=of_decide_eq_true (by first|(with_reducible assumption)|assumption)
                  obtain ⟨ad330,e330,hx330_0⟩:=Kd.at_int HR0_2.out (ji40) p330 q330
                  obtain rfl : ad325 = ad330:=(by injection e330)
                  replace hx330_0:=(HB.out.cell (World.block_lt_of_cell? w _ hx330_0)).trans hx330_0
                  replace p330:=eq_true p330
                  replace q330:=eq_true q330
                  go_wp2_with (first|(go_at_call 67;(with_reducible refine (hinterlandref02_Apart.calls (rd l0_2 x47_3) (rd l0_2 (ji40)) t331 _ A43.out).mono ?_);rintro e w' ⟨rfl,⟨nd,rfl⟩⟩))
                  go_roundg k3
                  case measure => have:=HJ1.out;have:=HK2.out;have:=HK3.out;omega
                  case rel => exact ⟨(wrap64 (x47_3 + 1)),(by first|rfl|(simp;done)|(simp [*];done)),H',⟨by have:=HJ1.out;have:=HK2.out;have:=HK3.out;omega⟩,⟨blk_up BK321.out⟩,⟨hb_⟩⟩
                ·rw [if_neg c42] at H
                 exact absurd H (by simp)
               ·rw [if_neg c41] at H
                exact absurd H (by simp)
              ·rw [if_neg c39] at H
               have c39b0 : decide (a0_0 < x47_3) = false:=decide_eq_false c39
               clear c39
               have H':=Aside0.mk H
               clear H
               have p325 : 0 ≤ (x47_3 : Int):=of_decide_eq_true (by first|(with_reducible assumption)|assumption)
               have q325 : x47_3 < (l0_2.length : Int):=of_decide_eq_true (by first|(with_reducible assumption)|assumption)
               obtain ⟨ad325,e325,hx325_0⟩:=Kd.at_int HR0_2.out x47_3 p325 q325
               cases e325
               replace hx325_0:=(HB.out.cell (World.block_lt_of_cell? w _ hx325_0)).trans hx325_0
               replace p325:=eq_true p325
               replace q325:=eq_true q325
               obtain ⟨hcz47_0,hcz47_1,hcz47_2,hfz47_0,hfz47_1,hfz47_2⟩:=cells3 BK321.out
               go_wp2
               go_roundg k3
               case measure => have:=HJ1.out;have:=HK2.out;have:=HK3.out;omega
               case rel => exact ⟨(wrap64 (x47_3 + 1)),(by first|rfl|(simp;done)|(simp [*];done)),H',⟨by have:=HJ1.out;have:=HK2.out;have:=HK3.out;omega⟩,⟨blk_up BK321.out⟩,⟨hb_⟩⟩
           ·rw [if_neg c21] at H
            exact absurd H (by simp)
          ·rw [if_neg c20] at H
           exact absurd H (by simp)
         ·rw [if_neg c19] at H
          have c19b0 : decide (x47_3 < (l0_2.length : Int)) = false:=decide_eq_false c19
          clear c19
          obtain rfl:=Option.some.inj H
          go_wp2
          go_ret
          exact ⟨by first|rfl|(simp [errW_none,errW_some] <;> rfl)|(simp [*,errW_none,errW_some] <;> rfl),hb_⟩

end Go.Proofs.Ytiencnnkphipoaa.P

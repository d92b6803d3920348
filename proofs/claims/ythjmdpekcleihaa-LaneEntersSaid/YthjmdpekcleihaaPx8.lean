/- Functions of this seat as plain Lean functions, with proofs that the Go code comes to just their answers, or what stands between them and a law's statement; no conditions. (Laid by a program of this session, out of the kit's print.) -/
import Derived.Test.YthjmdpekcleihaaPx0
import Derived.Test.YthjmdpekcleihaaPx7
namespace Go.Proofs.Ythjmdpekcleihaa.P
open Go.RowKit Go.Proofs.YthjmdpekcleihaaW.PrintWords Go.Proofs.YthjmdpekcleihaaW.PrintLast Go.Proofs.YthjmdpekcleihaaW.PrintMore
attribute [local go_sem] max2_int min2_int max_two min_two max_three min_three max_four min_four   -- for this text's walks alone
set_option linter.unusedVariables false
set_option linter.unusedSimpArgs false

/-! ### hinterlandref04_Validate: function 34 -/
mutual
def hinterlandref04_Validate.j0 : Nat → Bool → Int → Int → List Int → List Int → Option (Int)
 | 0,_,_,_,_,_ => none
 | k + 1,x40,x156000,x156001,x156002,x156003 => if x40 = true then (some 1) else (hinterlandref04_Validate.l0 k x156002 (x156002.length : Int) 0 x156000 x156001 x156002 x156003)
def hinterlandref04_Validate.l0 : Nat → List Int → Int → Int → Int → Int → List Int → List Int → Option (Int)
 | 0,_,_,_,_,_,_,_ => none
 | k + 1,x42,x43,x44,x156000,x156001,x156002,x156003 => if x44 < x43 then (if 0 ≤ x44 then (if x44 < (x42.length : Int) then (if (rd x42 x44) < 0 then (some 1) else (if (rd x42 x44) > 15 then (some 1) else (hinterlandref04_Validate.l0 k x42 x43 (wrap64 (x44 + 1)) x156000 x156001 x156002 x156003))) else (none)) else (none)) else (hinterlandref04_Validate.l1 k x156003 (x156003.length : Int) 0 x156000 x156001 x156002 x156003)
def hinterlandref04_Validate.l1 : Nat → List Int → Int → Int → Int → Int → List Int → List Int → Option (Int)
 | 0,_,_,_,_,_,_,_ => none
 | k + 1,x56,x57,x58,x156000,x156001,x156002,x156003 => if x58 < x57 then (if 0 ≤ x58 then (if x58 < (x56.length : Int) then (if (rd x56 x58) < 0 then (some 1) else (if (rd x56 x58) > 2 then (some 1) else (hinterlandref04_Validate.l1 k x56 x57 (wrap64 (x58 + 1)) x156000 x156001 x156002 x156003))) else (none)) else (none)) else (hinterlandref04_Validate.l2 k x156003 (x156003.length : Int) 0 x156000 x156001 x156002 x156003)
def hinterlandref04_Validate.l2 : Nat → List Int → Int → Int → Int → Int → List Int → List Int → Option (Int)
 | 0,_,_,_,_,_,_,_ => none
 | k + 1,x70,x71,x72,x156000,x156001,x156002,x156003 => if x72 < x71 then (if 0 ≤ x72 then (if x72 < (x70.length : Int) then (if (rd x70 x72) = 0 then (hinterlandref04_Validate.l2 k x70 x71 (wrap64 (x72 + 1)) x156000 x156001 x156002 x156003) else (if x72 < (x156002.length : Int) then ((hinterlandref04_straight.f (rd x156002 x72)).bind fun t162 => (if t162 = true then (hinterlandref04_Validate.l2 k x70 x71 (wrap64 (x72 + 1)) x156000 x156001 x156002 x156003) else (some 9))) else (none))) else (none)) else (none)) else (some 0)
end
def hinterlandref04_Validate.f (k : Nat) (a0_0 : Int) (a0_1 : Int) (l0_2 : List Int) (l0_3 : List Int) : Option (Int) := (hinterlandref04_side.f a0_0).bind fun t156 => (if t156 = true then ((hinterlandref04_side.f a0_1).bind fun t157 => (if t157 = true then (if (l0_2.length : Int) = (wrap64 (a0_0 * a0_1)) then (hinterlandref04_Validate.j0 k ((l0_3.length : Int) != (wrap64 (a0_0 * a0_1))) a0_0 a0_1 l0_2 l0_3) else (hinterlandref04_Validate.j0 k true a0_0 a0_1 l0_2 l0_3)) else (hinterlandref04_Validate.j0 k true a0_0 a0_1 l0_2 l0_3))) else (hinterlandref04_Validate.j0 k true a0_0 a0_1 l0_2 l0_3))
theorem hinterlandref04_Validate.mono_l : ∀ k, (∀ y0 y1 y2 y3 y4, LeO (hinterlandref04_Validate.j0 k y0 y1 y2 y3 y4) (hinterlandref04_Validate.j0 (k + 1) y0 y1 y2 y3 y4)) ∧ (∀ y0 y1 y2 y3 y4 y5 y6, LeO (hinterlandref04_Validate.l0 k y0 y1 y2 y3 y4 y5 y6) (hinterlandref04_Validate.l0 (k + 1) y0 y1 y2 y3 y4 y5 y6)) ∧ (∀ y0 y1 y2 y3 y4 y5 y6, LeO (hinterlandref04_Validate.l1 k y0 y1 y2 y3 y4 y5 y6) (hinterlandref04_Validate.l1 (k + 1) y0 y1 y2 y3 y4 y5 y6)) ∧ (∀ y0 y1 y2 y3 y4 y5 y6, LeO (hinterlandref04_Validate.l2 k y0 y1 y2 y3 y4 y5 y6) (hinterlandref04_Validate.l2 (k + 1) y0 y1 y2 y3 y4 y5 y6))
 | 0 => ⟨fun _ _ _ _ _ r h => by simp [hinterlandref04_Validate.j0] at h,fun _ _ _ _ _ _ _ r h => by simp [hinterlandref04_Validate.l0] at h,fun _ _ _ _ _ _ _ r h => by simp [hinterlandref04_Validate.l1] at h,fun _ _ _ _ _ _ _ r h => by simp [hinterlandref04_Validate.l2] at h⟩
 | k + 1 => by
  obtain ⟨ih0,ih1,ih2,ih3⟩:=hinterlandref04_Validate.mono_l k
  refine ⟨?_,?_,?_,?_⟩
  ·intro y0 y1 y2 y3 y4
   unfold hinterlandref04_Validate.j0
   repeat' first
   | (with_reducible exact ih0 _ _ _ _ _)
   | (with_reducible exact ih1 _ _ _ _ _ _ _)
   | (with_reducible exact ih2 _ _ _ _ _ _ _)
   | (with_reducible exact ih3 _ _ _ _ _ _ _)
   | (with_reducible exact LeO.refl _)
   | (with_reducible exact LeO.none _)
   | (with_reducible refine LeO.ite ?_ ?_)
   | (with_reducible refine LeO.bind ?_ (fun _ => ?_))
   | exact ih0 _ _ _ _ _
   | exact ih1 _ _ _ _ _ _ _
   | exact ih2 _ _ _ _ _ _ _
   | exact ih3 _ _ _ _ _ _ _
   | exact LeO.none _
   | refine LeO.ite ?_ ?_
   | refine LeO.bind ?_ (fun _ => ?_)
  ·intro y0 y1 y2 y3 y4 y5 y6
   unfold hinterlandref04_Validate.l0
   repeat' first
   | (with_reducible exact ih0 _ _ _ _ _)
   | (with_reducible exact ih1 _ _ _ _ _ _ _)
   | (with_reducible exact ih2 _ _ _ _ _ _ _)
   | (with_reducible exact ih3 _ _ _ _ _ _ _)
   | (with_reducible exact LeO.refl _)
   | (with_reducible exact LeO.none _)
   | (with_reducible refine LeO.ite ?_ ?_)
   | (with_reducible refine LeO.bind ?_ (fun _ => ?_))
   | exact ih0 _ _ _ _ _
   | exact ih1 _ _ _ _ _ _ _
   | exact ih2 _ _ _ _ _ _ _
   | exact ih3 _ _ _ _ _ _ _
   | exact LeO.none _
   | refine LeO.ite ?_ ?_
   | refine LeO.bind ?_ (fun _ => ?_)
  ·intro y0 y1 y2 y3 y4 y5 y6
   unfold hinterlandref04_Validate.l1
   repeat' first
   | (with_reducible exact ih0 _ _ _ _ _)
   | (with_reducible exact ih1 _ _ _ _ _ _ _)
   | (with_reducible exact ih2 _ _ _ _ _ _ _)
   | (with_reducible exact ih3 _ _ _ _ _ _ _)
   | (with_reducible exact LeO.refl _)
   | (with_reducible exact LeO.none _)
   | (with_reducible refine LeO.ite ?_ ?_)
   | (with_reducible refine LeO.bind ?_ (fun _ => ?_))
   | exact ih0 _ _ _ _ _
   | exact ih1 _ _ _ _ _ _ _
   | exact ih2 _ _ _ _ _ _ _
   | exact ih3 _ _ _ _ _ _ _
   | exact LeO.none _
   | refine LeO.ite ?_ ?_
   | refine LeO.bind ?_ (fun _ => ?_)
  ·intro y0 y1 y2 y3 y4 y5 y6
   unfold hinterlandref04_Validate.l2
   repeat' first
   | (with_reducible exact ih0 _ _ _ _ _)
   | (with_reducible exact ih1 _ _ _ _ _ _ _)
   | (with_reducible exact ih2 _ _ _ _ _ _ _)
   | (with_reducible exact ih3 _ _ _ _ _ _ _)
   | (with_reducible exact LeO.refl _)
   | (with_reducible exact LeO.none _)
   | (with_reducible refine LeO.ite ?_ ?_)
   | (with_reducible refine LeO.bind ?_ (fun _ => ?_))
   | exact ih0 _ _ _ _ _
   | exact ih1 _ _ _ _ _ _ _
   | exact ih2 _ _ _ _ _ _ _
   | exact ih3 _ _ _ _ _ _ _
   | exact LeO.none _
   | refine LeO.ite ?_ ?_
   | refine LeO.bind ?_ (fun _ => ?_)
theorem hinterlandref04_Validate.mono : ∀ a0 a1 a2 a3 k, LeO (hinterlandref04_Validate.f k a0 a1 a2 a3) (hinterlandref04_Validate.f (k + 1) a0 a1 a2 a3) := by
 intro a0 a1 a2 a3 k
 obtain ⟨ih0,ih1,ih2,ih3⟩:=hinterlandref04_Validate.mono_l k
 unfold hinterlandref04_Validate.f
 repeat' first
   | (with_reducible exact ih0 _ _ _ _ _)
   | (with_reducible exact ih1 _ _ _ _ _ _ _)
   | (with_reducible exact ih2 _ _ _ _ _ _ _)
   | (with_reducible exact ih3 _ _ _ _ _ _ _)
   | (with_reducible exact LeO.refl _)
   | (with_reducible exact LeO.none _)
   | (with_reducible refine LeO.ite ?_ ?_)
   | (with_reducible refine LeO.bind ?_ (fun _ => ?_))
   | exact ih0 _ _ _ _ _
   | exact ih1 _ _ _ _ _ _ _
   | exact ih2 _ _ _ _ _ _ _
   | exact ih3 _ _ _ _ _ _ _
   | exact LeO.none _
   | refine LeO.ite ?_ ?_
   | refine LeO.bind ?_ (fun _ => ?_)
set_option maxHeartbeats 8000000 in
set_option maxRecDepth 100000 in
theorem hinterlandref04_Validate.calls (k : Nat) (a0_0 : Int) (a0_1 : Int) (A0_2 : Option Addr) (c0_2 : Nat) (l0_2 : List Int) (A0_3 : Option Addr) (c0_3 : Nat) (l0_3 : List Int) (r : Int) (w : World) (hr0_2 : Kd.C (Kd.int .i64) w A0_2 l0_2.length l0_2) (hc0_2 : l0_2.length ≤ c0_2) (hr0_3 : Kd.C (Kd.int .i64) w A0_3 l0_3.length l0_3) (hc0_3 : l0_3.length ≤ c0_3) (h : hinterlandref04_Validate.f k a0_0 a0_1 l0_2 l0_3 = some r) :
  Calls Try.prog 34 #[.agg #[.int .i64 a0_0,.int .i64 a0_1,.slice A0_2 l0_2.length c0_2,.slice A0_3 l0_3.length c0_3]] w fun e w' => e = .returned (.int .i64 r) ∧ Below w.heap.size w w':=by
 have hu24:=Try.underlying24
 have HR0_2:=Aside0.mk hr0_2
 have HC0_2:=Aside0.mk hc0_2
 clear hr0_2 hc0_2
 have HR0_3:=Aside0.mk hr0_3
 have HC0_3:=Aside0.mk hc0_3
 clear hr0_3 hc0_3
 have HB:=Aside0.mk (Below.refl w.heap.size w)
 have H : ((hinterlandref04_side.f a0_0).bind fun t156 => (if t156 = true then ((hinterlandref04_side.f a0_1).bind fun t157 => (if t157 = true then (if (l0_2.length : Int) = (wrap64 (a0_0 * a0_1)) then (hinterlandref04_Validate.j0 k ((l0_3.length : Int) != (wrap64 (a0_0 * a0_1))) a0_0 a0_1 l0_2 l0_3) else (hinterlandref04_Validate.j0 k true a0_0 a0_1 l0_2 l0_3)) else (hinterlandref04_Validate.j0 k true a0_0 a0_1 l0_2 l0_3))) else (hinterlandref04_Validate.j0 k true a0_0 a0_1 l0_2 l0_3))) = some r:=h
 clear h
 have HC2:=Aside0.mk H
 clear H
 go_enter Try.func34,Try.ntmps34
 go_upto_region 1 with (first|((with_reducible refine gate_dst (N:=1) rfl ?_);(try (refine gate_guard (by rfl) ?_;dsimp only));refine box_ev (N:=1) (cs:=#[.int .i64 a0_0,.int .i64 a0_1,.slice A0_2 l0_2.length c0_2,.slice A0_3 l0_3.length c0_3]) (t:=24) ?_;intro gb155 hg w3 hbox hb;have BK155:=Aside0.mk (hbox);have GW155 : Aside0 (w.heap.size ≤ gb155):=gsz hg;have GE155:=GW155;replace HB:=hbs hb;clear hb hbox hg))
 (try simp only [Act.put,List.setIfInBounds_toArray,List.set_cons_zero,List.set_cons_succ])
 go_cut [40] (fun v40 wc => ∃ (kq : Nat) (x40_1 : Bool),v40 = .bool x40_1 ∧ Aside0 (hinterlandref04_Validate.j0 kq x40_1 a0_0 a0_1 l0_2 l0_3 = some r) ∧ Aside0 (kq ≤ k) ∧ Aside0 (wc.heap[gb155]? = some (.cells #[.int .i64 a0_0,.int .i64 a0_1,(.slice A0_2 l0_2.length c0_2),(.slice A0_3 l0_3.length c0_3)] 24 (0,0))) ∧ Aside0 (Below w.heap.size w wc))
 case first =>
  have H:=HC2.out
  clear HC2
  replace H:=Option.bind_eq_some_iff.mp H
  obtain ⟨t156,A40,H⟩:=H
  replace H : (if t156 = true then ((hinterlandref04_side.f a0_1).bind fun t157 => (if t157 = true then (if (l0_2.length : Int) = (wrap64 (a0_0 * a0_1)) then (hinterlandref04_Validate.j0 k ((l0_3.length : Int) != (wrap64 (a0_0 * a0_1))) a0_0 a0_1 l0_2 l0_3) else (hinterlandref04_Validate.j0 k true a0_0 a0_1 l0_2 l0_3)) else (hinterlandref04_Validate.j0 k true a0_0 a0_1 l0_2 l0_3))) else (hinterlandref04_Validate.j0 k true a0_0 a0_1 l0_2 l0_3)) = some r:=H
  have A4:=Aside0.mk A40
  clear A40
  by_cases c5 : t156 = true
  ·subst c5
   have H1 : ((hinterlandref04_side.f a0_1).bind fun t157 => (if t157 = true then (if (l0_2.length : Int) = (wrap64 (a0_0 * a0_1)) then (hinterlandref04_Validate.j0 k ((l0_3.length : Int) != (wrap64 (a0_0 * a0_1))) a0_0 a0_1 l0_2 l0_3) else (hinterlandref04_Validate.j0 k true a0_0 a0_1 l0_2 l0_3)) else (hinterlandref04_Validate.j0 k true a0_0 a0_1 l0_2 l0_3))) = some r:=by rw [if_pos rfl] at H;exact H
   clear H
   have H:=H1
   clear H1
   replace H:=Option.bind_eq_some_iff.mp H
   obtain ⟨t157,A60,H⟩:=H
   replace H : (if t157 = true then (if (l0_2.length : Int) = (wrap64 (a0_0 * a0_1)) then (hinterlandref04_Validate.j0 k ((l0_3.length : Int) != (wrap64 (a0_0 * a0_1))) a0_0 a0_1 l0_2 l0_3) else (hinterlandref04_Validate.j0 k true a0_0 a0_1 l0_2 l0_3)) else (hinterlandref04_Validate.j0 k true a0_0 a0_1 l0_2 l0_3)) = some r:=H
   have A6:=Aside0.mk A60
   clear A60
   by_cases c7 : t157 = true
   ·subst c7
    have H1 : (if (l0_2.length : Int) = (wrap64 (a0_0 * a0_1)) then (hinterlandref04_Validate.j0 k ((l0_3.length : Int) != (wrap64 (a0_0 * a0_1))) a0_0 a0_1 l0_2 l0_3) else (hinterlandref04_Validate.j0 k true a0_0 a0_1 l0_2 l0_3)) = some r:=by rw [if_pos rfl] at H;exact H
    clear H
    have H:=H1
    clear H1
    by_cases c8 : (l0_2.length : Int) = (wrap64 (a0_0 * a0_1))
    ·rw [if_pos c8] at H
     have c8b0:=bqt c8
     have c8b1:=bnf c8
     clear c8
     (first|rw [c8b0]|(simp only [i64_w,i32_w];rw [c8b0])|skip)
     have H':=Aside0.mk H
     clear H
     obtain ⟨_,_,_,_,_,_,_,_⟩:=cells4 BK155.out
     go_wp2_with (first|((with_reducible refine gate_callee (f:=61) rfl ?_);refine goesL_ (some 11) rfl rfl Try.func61 (by kernel_rfl) rfl #[.int .i64 a0_0] rfl ga_ ?_;(with_reducible refine (hinterlandref04_side.calls a0_0 true _ A4.out).mono ?_);rintro e w' ⟨rfl,⟨nd,rfl⟩⟩;refine ⟨_,rfl,?_⟩)|(go_at_call 61;(with_reducible refine (hinterlandref04_side.calls a0_1 true _ A6.out).mono ?_);rintro e w' ⟨rfl,⟨nd,rfl⟩⟩))
     go_meet
     case rel => exact ⟨_,(((l0_3.length : Int) != (wrap64 (a0_0 * a0_1)))),(by first|rfl|(simp;done)|(simp [*];done)),H',⟨by first|omega|exact Nat.le_refl _⟩,⟨blk_up BK155.out⟩,⟨hb_⟩⟩
    ·rw [if_neg c8] at H
     have c8b0:=bqf c8
     have c8b1:=bnt c8
     (first|rw [c8b0]|(simp only [i64_w,i32_w];rw [c8b0])|skip)
     have H':=Aside0.mk H
     clear H
     obtain ⟨_,_,_,_,_,_,_,_⟩:=cells4 BK155.out
     go_wp2_with (first|((with_reducible refine gate_callee (f:=61) rfl ?_);refine goesL_ (some 11) rfl rfl Try.func61 (by kernel_rfl) rfl #[.int .i64 a0_0] rfl ga_ ?_;(with_reducible refine (hinterlandref04_side.calls a0_0 true _ A4.out).mono ?_);rintro e w' ⟨rfl,⟨nd,rfl⟩⟩;refine ⟨_,rfl,?_⟩)|(go_at_call 61;(with_reducible refine (hinterlandref04_side.calls a0_1 true _ A6.out).mono ?_);rintro e w' ⟨rfl,⟨nd,rfl⟩⟩))
     go_meet
     case rel => exact ⟨_,(true),(by first|rfl|(simp;done)|(simp [*];done)),H',⟨by first|omega|exact Nat.le_refl _⟩,⟨blk_up BK155.out⟩,⟨hb_⟩⟩
   ·replace c7:=Bool.eq_false_iff.mpr c7
    subst c7
    have H1 : (hinterlandref04_Validate.j0 k true a0_0 a0_1 l0_2 l0_3) = some r:=by rw [if_neg (show ¬ (false = true) by decide)] at H;exact H
    clear H
    have H:=H1
    clear H1
    have H':=Aside0.mk H
    clear H
    obtain ⟨_,_,_,_,_,_,_,_⟩:=cells4 BK155.out
    go_wp2_with (first|((with_reducible refine gate_callee (f:=61) rfl ?_);refine goesL_ (some 11) rfl rfl Try.func61 (by kernel_rfl) rfl #[.int .i64 a0_0] rfl ga_ ?_;(with_reducible refine (hinterlandref04_side.calls a0_0 true _ A4.out).mono ?_);rintro e w' ⟨rfl,⟨nd,rfl⟩⟩;refine ⟨_,rfl,?_⟩)|(go_at_call 61;(with_reducible refine (hinterlandref04_side.calls a0_1 false _ A6.out).mono ?_);rintro e w' ⟨rfl,⟨nd,rfl⟩⟩))
    go_meet
    case rel => exact ⟨_,(true),(by first|rfl|(simp;done)|(simp [*];done)),H',⟨by first|omega|exact Nat.le_refl _⟩,⟨blk_up BK155.out⟩,⟨hb_⟩⟩
  ·replace c5:=Bool.eq_false_iff.mpr c5
   subst c5
   have H1 : (hinterlandref04_Validate.j0 k true a0_0 a0_1 l0_2 l0_3) = some r:=by rw [if_neg (show ¬ (false = true) by decide)] at H;exact H
   clear H
   have H:=H1
   clear H1
   have H':=Aside0.mk H
   clear H
   obtain ⟨_,_,_,_,_,_,_,_⟩:=cells4 BK155.out
   go_wp2_with (first|((with_reducible refine gate_callee (f:=61) rfl ?_);refine goesL_ (some 11) rfl rfl Try.func61 (by kernel_rfl) rfl #[.int .i64 a0_0] rfl ga_ ?_;(with_reducible refine (hinterlandref04_side.calls a0_0 false _ A4.out).mono ?_);rintro e w' ⟨rfl,⟨nd,rfl⟩⟩;refine ⟨_,rfl,?_⟩))
   go_meet
   case rel => exact ⟨_,(true),(by first|rfl|(simp;done)|(simp [*];done)),H',⟨by first|omega|exact Nat.le_refl _⟩,⟨blk_up BK155.out⟩,⟨hb_⟩⟩
 case rest =>
  clear HC2
  obtain ⟨kq,x40_1,rfl,HA,HJ1,BK155,HB⟩:=hcut
  cases kq with
  | zero => exact absurd HA.out (by simp [hinterlandref04_Validate.j0])
  | succ kj1 =>
   have H:=HA.out
   clear HA
   simp only [hinterlandref04_Validate.j0] at H
   by_cases c13 : x40_1 = true
   ·subst c13
    have H1 : (some 1) = some r:=by rw [if_pos rfl] at H;exact H
    clear H
    have H:=H1
    clear H1
    obtain rfl:=Option.some.inj H
    go_wp2
    go_ret
    exact ⟨er_,hb_⟩
   ·replace c13:=Bool.eq_false_iff.mpr c13
    subst c13
    have H1 : (hinterlandref04_Validate.l0 kj1 l0_2 (l0_2.length : Int) 0 a0_0 a0_1 l0_2 l0_3) = some r:=by rw [if_neg (show ¬ (false = true) by decide)] at H;exact H
    clear H
    have H:=H1
    clear H1
    have H':=Aside0.mk H
    clear H
    obtain ⟨_,_,_,_,_,_,_,_⟩:=cells4 BK155.out
    go_wp2
    go_loopg [44] kj1 (fun kq v44 w' => ∃ (x44_2 : Int),v44 = .int .i64 x44_2 ∧ Aside0 (hinterlandref04_Validate.l0 kq l0_2 (l0_2.length : Int) x44_2 a0_0 a0_1 l0_2 l0_3 = some r) ∧ Aside0 (kq ≤ kj1) ∧ Aside0 (w'.heap[gb155]? = some (.cells #[.int .i64 a0_0,.int .i64 a0_1,(.slice A0_2 l0_2.length c0_2),(.slice A0_3 l0_3.length c0_3)] 24 (0,0))) ∧ Aside0 (Below w.heap.size w w'))
    case atStart => exact ⟨(0),(by first|rfl|(simp;done)|(simp [*];done)),H',⟨Nat.le_refl _⟩,⟨blk_up BK155.out⟩,⟨hb_⟩⟩
    case round =>
     clear H'
     obtain ⟨x44_2,rfl,HA,HK2,BK155,HB⟩:=hrel
     cases gk with
     | zero => exact absurd HA.out (by simp [hinterlandref04_Validate.l0])
     | succ k2 =>
      have H:=HA.out
      clear HA
      simp only [hinterlandref04_Validate.l0] at H
      by_cases c15 : x44_2 < (l0_2.length : Int)
      ·rw [if_pos c15] at H
       have c15b0 : decide (x44_2 < (l0_2.length : Int)) = true:=decide_eq_true c15
       clear c15
       replace H:=ifp_ H;obtain ⟨c16,H⟩:=H
       have c16b0 : decide (0 ≤ x44_2) = true:=decide_eq_true c16
       clear c16
       replace H:=ifp_ H;obtain ⟨c17,H⟩:=H
       have c17b0 : decide (x44_2 < (l0_2.length : Int)) = true:=decide_eq_true c17
       clear c17
       by_cases c18 : (rd l0_2 x44_2) < 0
       ·rw [if_pos c18] at H
        have c18b0 : decide ((rd l0_2 x44_2) < 0) = true:=decide_eq_true c18
        clear c18
        obtain rfl:=Option.some.inj H
        have p158 : 0 ≤ (x44_2 : Int):=of_decide_eq_true (by first|(with_reducible assumption)|assumption)
        have q158 : x44_2 < (l0_2.length : Int):=of_decide_eq_true (by first|(with_reducible assumption)|assumption)
        obtain ⟨ad158,e158,hx158_0⟩:=Kd.at_int HR0_2.out x44_2 p158 q158
        cases e158
        replace hx158_0:=(HB.out.cell (World.block_lt_of_cell? w _ hx158_0)).trans hx158_0
        replace p158:=eq_true p158
        replace q158:=eq_true q158
        go_wp2
        go_ret
        exact ⟨er_,hb_⟩
       rw [if_neg c18] at H
       have c18b0 : decide ((rd l0_2 x44_2) < 0) = false:=decide_eq_false c18
       clear c18
       by_cases c19 : (rd l0_2 x44_2) > 15
       ·rw [if_pos c19] at H
        have c19b0 : decide (15 < (rd l0_2 x44_2)) = true:=decide_eq_true c19
        clear c19
        obtain rfl:=Option.some.inj H
        have p158 : 0 ≤ (x44_2 : Int):=of_decide_eq_true (by first|(with_reducible assumption)|assumption)
        have q158 : x44_2 < (l0_2.length : Int):=of_decide_eq_true (by first|(with_reducible assumption)|assumption)
        obtain ⟨ad158,e158,hx158_0⟩:=Kd.at_int HR0_2.out x44_2 p158 q158
        cases e158
        replace hx158_0:=(HB.out.cell (World.block_lt_of_cell? w _ hx158_0)).trans hx158_0
        replace p158:=eq_true p158
        replace q158:=eq_true q158
        go_wp2
        go_ret
        exact ⟨er_,hb_⟩
       ·rw [if_neg c19] at H
        have c19b0 : decide (15 < (rd l0_2 x44_2)) = false:=decide_eq_false c19
        clear c19
        have H':=Aside0.mk H
        clear H
        have p158 : 0 ≤ (x44_2 : Int):=of_decide_eq_true (by first|(with_reducible assumption)|assumption)
        have q158 : x44_2 < (l0_2.length : Int):=of_decide_eq_true (by first|(with_reducible assumption)|assumption)
        obtain ⟨ad158,e158,hx158_0⟩:=Kd.at_int HR0_2.out x44_2 p158 q158
        cases e158
        replace hx158_0:=(HB.out.cell (World.block_lt_of_cell? w _ hx158_0)).trans hx158_0
        replace p158:=eq_true p158
        replace q158:=eq_true q158
        go_wp2
        go_roundg k2
        case measure => have:=HJ1.out;have:=HK2.out;omega
        case rel => exact ⟨(wrap64 (x44_2 + 1)),(by first|rfl|(simp;done)|(simp [*];done)),H',⟨by have:=HJ1.out;have:=HK2.out;omega⟩,⟨blk_up BK155.out⟩,⟨hb_⟩⟩
      rw [if_neg c15] at H
      have c15b0 : decide (x44_2 < (l0_2.length : Int)) = false:=decide_eq_false c15
      clear c15
      have H':=Aside0.mk H
      clear H
      obtain ⟨_,_,_,_,_,_,_,_⟩:=cells4 BK155.out
      go_wp2
      go_loopg [58] k2 (fun kq v58 w' => ∃ (x58_3 : Int),v58 = .int .i64 x58_3 ∧ Aside0 (hinterlandref04_Validate.l1 kq l0_3 (l0_3.length : Int) x58_3 a0_0 a0_1 l0_2 l0_3 = some r) ∧ Aside0 (kq ≤ k2) ∧ Aside0 (w'.heap[gb155]? = some (.cells #[.int .i64 a0_0,.int .i64 a0_1,(.slice A0_2 l0_2.length c0_2),(.slice A0_3 l0_3.length c0_3)] 24 (0,0))) ∧ Aside0 (Below w.heap.size w w'))
      case atStart => exact ⟨(0),(by first|rfl|(simp;done)|(simp [*];done)),H',⟨Nat.le_refl _⟩,⟨blk_up BK155.out⟩,⟨hb_⟩⟩
      case round =>
       clear H'
       obtain ⟨x58_3,rfl,HA,HK3,BK155,HB⟩:=hrel
       cases gk with
       | zero => exact absurd HA.out (by simp [hinterlandref04_Validate.l1])
       | succ k3 =>
        have H:=HA.out
        clear HA
        simp only [hinterlandref04_Validate.l1] at H
        by_cases c21 : x58_3 < (l0_3.length : Int)
        ·rw [if_pos c21] at H
         have c21b0 : decide (x58_3 < (l0_3.length : Int)) = true:=decide_eq_true c21
         clear c21
         replace H:=ifp_ H;obtain ⟨c22,H⟩:=H
         have c22b0 : decide (0 ≤ x58_3) = true:=decide_eq_true c22
         clear c22
         replace H:=ifp_ H;obtain ⟨c23,H⟩:=H
         have c23b0 : decide (x58_3 < (l0_3.length : Int)) = true:=decide_eq_true c23
         clear c23
         by_cases c24 : (rd l0_3 x58_3) < 0
         ·rw [if_pos c24] at H
          have c24b0 : decide ((rd l0_3 x58_3) < 0) = true:=decide_eq_true c24
          clear c24
          obtain rfl:=Option.some.inj H
          have p159 : 0 ≤ (x58_3 : Int):=of_decide_eq_true (by first|(with_reducible assumption)|assumption)
          have q159 : x58_3 < (l0_3.length : Int):=of_decide_eq_true (by first|(with_reducible assumption)|assumption)
          obtain ⟨ad159,e159,hx159_0⟩:=Kd.at_int HR0_3.out x58_3 p159 q159
          cases e159
          replace hx159_0:=(HB.out.cell (World.block_lt_of_cell? w _ hx159_0)).trans hx159_0
          replace p159:=eq_true p159
          replace q159:=eq_true q159
          go_wp2
          go_ret
          exact ⟨er_,hb_⟩
         rw [if_neg c24] at H
         have c24b0 : decide ((rd l0_3 x58_3) < 0) = false:=decide_eq_false c24
         clear c24
         by_cases c25 : (rd l0_3 x58_3) > 2
         ·rw [if_pos c25] at H
          have c25b0 : decide (2 < (rd l0_3 x58_3)) = true:=decide_eq_true c25
          clear c25
          obtain rfl:=Option.some.inj H
          have p159 : 0 ≤ (x58_3 : Int):=of_decide_eq_true (by first|(with_reducible assumption)|assumption)
          have q159 : x58_3 < (l0_3.length : Int):=of_decide_eq_true (by first|(with_reducible assumption)|assumption)
          obtain ⟨ad159,e159,hx159_0⟩:=Kd.at_int HR0_3.out x58_3 p159 q159
          cases e159
          replace hx159_0:=(HB.out.cell (World.block_lt_of_cell? w _ hx159_0)).trans hx159_0
          replace p159:=eq_true p159
          replace q159:=eq_true q159
          go_wp2
          go_ret
          exact ⟨er_,hb_⟩
         ·rw [if_neg c25] at H
          have c25b0 : decide (2 < (rd l0_3 x58_3)) = false:=decide_eq_false c25
          clear c25
          have H':=Aside0.mk H
          clear H
          have p159 : 0 ≤ (x58_3 : Int):=of_decide_eq_true (by first|(with_reducible assumption)|assumption)
          have q159 : x58_3 < (l0_3.length : Int):=of_decide_eq_true (by first|(with_reducible assumption)|assumption)
          obtain ⟨ad159,e159,hx159_0⟩:=Kd.at_int HR0_3.out x58_3 p159 q159
          cases e159
          replace hx159_0:=(HB.out.cell (World.block_lt_of_cell? w _ hx159_0)).trans hx159_0
          replace p159:=eq_true p159
          replace q159:=eq_true q159
          go_wp2
          go_roundg k3
          case measure => have:=HJ1.out;have:=HK2.out;have:=HK3.out;omega
          case rel => exact ⟨(wrap64 (x58_3 + 1)),(by first|rfl|(simp;done)|(simp [*];done)),H',⟨by have:=HJ1.out;have:=HK2.out;have:=HK3.out;omega⟩,⟨blk_up BK155.out⟩,⟨hb_⟩⟩
        rw [if_neg c21] at H
        have c21b0 : decide (x58_3 < (l0_3.length : Int)) = false:=decide_eq_false c21
        clear c21
        have H':=Aside0.mk H
        clear H
        obtain ⟨_,_,_,_,_,_,_,_⟩:=cells4 BK155.out
        go_wp2
        go_loopg [72] k3 (fun kq v72 w' => ∃ (x72_4 : Int),v72 = .int .i64 x72_4 ∧ Aside0 (hinterlandref04_Validate.l2 kq l0_3 (l0_3.length : Int) x72_4 a0_0 a0_1 l0_2 l0_3 = some r) ∧ Aside0 (kq ≤ k3) ∧ Aside0 (w'.heap[gb155]? = some (.cells #[.int .i64 a0_0,.int .i64 a0_1,(.slice A0_2 l0_2.length c0_2),(.slice A0_3 l0_3.length c0_3)] 24 (0,0))) ∧ Aside0 (Below w.heap.size w w'))
        case atStart => exact ⟨(0),(by first|rfl|(simp;done)|(simp [*];done)),H',⟨Nat.le_refl _⟩,⟨blk_up BK155.out⟩,⟨hb_⟩⟩
        case round =>
         clear H'
         obtain ⟨x72_4,rfl,HA,HK4,BK155,HB⟩:=hrel
         cases gk with
         | zero => exact absurd HA.out (by simp [hinterlandref04_Validate.l2])
         | succ k4 =>
          have H:=HA.out
          clear HA
          simp only [hinterlandref04_Validate.l2] at H
          by_cases c27 : x72_4 < (l0_3.length : Int)
          rotate_left
          ·rw [if_neg c27] at H
           have c27b0 : decide (x72_4 < (l0_3.length : Int)) = false:=decide_eq_false c27
           clear c27
           obtain rfl:=Option.some.inj H
           go_wp2
           go_ret
           exact ⟨er_,hb_⟩
          rw [if_pos c27] at H
          have c27b0 : decide (x72_4 < (l0_3.length : Int)) = true:=decide_eq_true c27
          clear c27
          replace H:=ifp_ H;obtain ⟨c28,H⟩:=H
          have c28b0 : decide (0 ≤ x72_4) = true:=decide_eq_true c28
          clear c28
          replace H:=ifp_ H;obtain ⟨c29,H⟩:=H
          have c29b0 : decide (x72_4 < (l0_3.length : Int)) = true:=decide_eq_true c29
          clear c29
          by_cases c30 : (rd l0_3 x72_4) = 0
          ·rw [if_pos c30] at H
           have c30b0:=bqt c30
           have c30b1:=bnf c30
           clear c30
           have H':=Aside0.mk H
           clear H
           have p160 : 0 ≤ (x72_4 : Int):=of_decide_eq_true (by first|(with_reducible assumption)|assumption)
           have q160 : x72_4 < (l0_3.length : Int):=of_decide_eq_true (by first|(with_reducible assumption)|assumption)
           obtain ⟨ad160,e160,hx160_0⟩:=Kd.at_int HR0_3.out x72_4 p160 q160
           cases e160
           replace hx160_0:=(HB.out.cell (World.block_lt_of_cell? w _ hx160_0)).trans hx160_0
           replace p160:=eq_true p160
           replace q160:=eq_true q160
           go_wp2
           go_roundg k4
           case measure => have:=HJ1.out;have:=HK2.out;have:=HK3.out;have:=HK4.out;omega
           case rel => exact ⟨(wrap64 (x72_4 + 1)),(by first|rfl|(simp;done)|(simp [*];done)),H',⟨by have:=HJ1.out;have:=HK2.out;have:=HK3.out;have:=HK4.out;omega⟩,⟨blk_up BK155.out⟩,⟨hb_⟩⟩
          rw [if_neg c30] at H
          have c30b0:=bqf c30
          have c30b1:=bnt c30
          replace H:=ifp_ H;obtain ⟨c31,H⟩:=H
          have c31b0 : decide (x72_4 < (l0_2.length : Int)) = true:=decide_eq_true c31
          clear c31
          replace H:=Option.bind_eq_some_iff.mp H
          obtain ⟨t162,A320,H⟩:=H
          replace H : (if t162 = true then (hinterlandref04_Validate.l2 k4 l0_3 (l0_3.length : Int) (wrap64 (x72_4 + 1)) a0_0 a0_1 l0_2 l0_3) else (some 9)) = some r:=H
          have A32:=Aside0.mk A320
          clear A320
          by_cases c33 : t162 = true
          ·subst c33
           have H1 : (hinterlandref04_Validate.l2 k4 l0_3 (l0_3.length : Int) (wrap64 (x72_4 + 1)) a0_0 a0_1 l0_2 l0_3) = some r:=by rw [if_pos rfl] at H;exact H
           clear H
           have H:=H1
           clear H1
           have H':=Aside0.mk H
           clear H
           have p160 : 0 ≤ (x72_4 : Int):=of_decide_eq_true (by first|(with_reducible assumption)|assumption)
           have q160 : x72_4 < (l0_3.length : Int):=of_decide_eq_true (by first|(with_reducible assumption)|assumption)
           obtain ⟨ad160,e160,hx160_0⟩:=Kd.at_int HR0_3.out x72_4 p160 q160
           cases e160
           replace hx160_0:=(HB.out.cell (World.block_lt_of_cell? w _ hx160_0)).trans hx160_0
           replace p160:=eq_true p160
           replace q160:=eq_true q160
           obtain ⟨_,_,_,_,_,_,_,_⟩:=cells4 BK155.out
           have p161 : 0 ≤ (x72_4 : Int):=of_decide_eq_true (by first|(with_reducible assumption)|assumption)
           have q161 : x72_4 < (l0_2.length : Int):=of_decide_eq_true (by first|(with_reducible assumption)|assumption)
           obtain ⟨ad161,e161,hx161_0⟩:=Kd.at_int HR0_2.out x72_4 p161 q161
           cases e161
           replace hx161_0:=(HB.out.cell (World.block_lt_of_cell? w _ hx161_0)).trans hx161_0
           replace p161:=eq_true p161
           replace q161:=eq_true q161
           go_wp2_with (first|(go_at_call 62;(with_reducible refine (hinterlandref04_straight.calls (rd l0_2 x72_4) true _ A32.out).mono ?_);rintro e w' ⟨rfl,⟨nd,rfl⟩⟩))
           go_roundg k4
           case measure => have:=HJ1.out;have:=HK2.out;have:=HK3.out;have:=HK4.out;omega
           case rel => exact ⟨(wrap64 (x72_4 + 1)),(by first|rfl|(simp;done)|(simp [*];done)),H',⟨by have:=HJ1.out;have:=HK2.out;have:=HK3.out;have:=HK4.out;omega⟩,⟨blk_up BK155.out⟩,⟨hb_⟩⟩
          ·replace c33:=Bool.eq_false_iff.mpr c33
           subst c33
           have H1 : (some 9) = some r:=by rw [if_neg (show ¬ (false = true) by decide)] at H;exact H
           clear H
           have H:=H1
           clear H1
           obtain rfl:=Option.some.inj H
           have p160 : 0 ≤ (x72_4 : Int):=of_decide_eq_true (by first|(with_reducible assumption)|assumption)
           have q160 : x72_4 < (l0_3.length : Int):=of_decide_eq_true (by first|(with_reducible assumption)|assumption)
           obtain ⟨ad160,e160,hx160_0⟩:=Kd.at_int HR0_3.out x72_4 p160 q160
           cases e160
           replace hx160_0:=(HB.out.cell (World.block_lt_of_cell? w _ hx160_0)).trans hx160_0
           replace p160:=eq_true p160
           replace q160:=eq_true q160
           obtain ⟨_,_,_,_,_,_,_,_⟩:=cells4 BK155.out
           have p161 : 0 ≤ (x72_4 : Int):=of_decide_eq_true (by first|(with_reducible assumption)|assumption)
           have q161 : x72_4 < (l0_2.length : Int):=of_decide_eq_true (by first|(with_reducible assumption)|assumption)
           obtain ⟨ad161,e161,hx161_0⟩:=Kd.at_int HR0_2.out x72_4 p161 q161
           cases e161
           replace hx161_0:=(HB.out.cell (World.block_lt_of_cell? w _ hx161_0)).trans hx161_0
           replace p161:=eq_true p161
           replace q161:=eq_true q161
           go_wp2_with (first|(go_at_call 62;(with_reducible refine (hinterlandref04_straight.calls (rd l0_2 x72_4) false _ A32.out).mono ?_);rintro e w' ⟨rfl,⟨nd,rfl⟩⟩))
           go_ret
           exact ⟨er_,hb_⟩

/-! ### hinterlandref17_beyond: function 67 -/
def hinterlandref17_beyond.f (a0_0 : Int) (a0_1 : Int) (l0_2 : List Int) (l0_3 : List Int) (a1 : Int) (a2 : Int) : Option (Int) := if a2 = 0 then (some (wrap64 (a1 + 1))) else (if a2 = 1 then (some (wrap64 (a1 + a0_0))) else (if a2 = 2 then (some (wrap64 (a1 - 1))) else (some (wrap64 (a1 - a0_0)))))
set_option maxHeartbeats 8000000 in
set_option maxRecDepth 100000 in
theorem hinterlandref17_beyond.calls (a0_0 : Int) (a0_1 : Int) (A0_2 : Option Addr) (c0_2 : Nat) (l0_2 : List Int) (A0_3 : Option Addr) (c0_3 : Nat) (l0_3 : List Int) (a1 : Int) (a2 : Int) (r : Int) (w : World) (hr0_2 : Kd.C (Kd.int .i64) w A0_2 l0_2.length l0_2) (hc0_2 : l0_2.length ≤ c0_2) (hr0_3 : Kd.C (Kd.int .i64) w A0_3 l0_3.length l0_3) (hc0_3 : l0_3.length ≤ c0_3) (h : hinterlandref17_beyond.f a0_0 a0_1 l0_2 l0_3 a1 a2 = some r) :
  Calls Try.prog 67 #[.agg #[.int .i64 a0_0,.int .i64 a0_1,.slice A0_2 l0_2.length c0_2,.slice A0_3 l0_3.length c0_3],.int .i64 a1,.int .i64 a2] w fun e w' => e = .returned (.int .i64 r) ∧ Below w.heap.size w w':=by
 have hu24:=Try.underlying24
 have HR0_2:=Aside0.mk hr0_2
 have HC0_2:=Aside0.mk hc0_2
 clear hr0_2 hc0_2
 have HR0_3:=Aside0.mk hr0_3
 have HC0_3:=Aside0.mk hc0_3
 clear hr0_3 hc0_3
 have HB:=Aside0.mk (Below.refl w.heap.size w)
 have H : (if a2 = 0 then (some (wrap64 (a1 + 1))) else (if a2 = 1 then (some (wrap64 (a1 + a0_0))) else (if a2 = 2 then (some (wrap64 (a1 - 1))) else (some (wrap64 (a1 - a0_0)))))) = some r:=h
 clear h
 by_cases c4 : a2 = 0
 ·rw [if_pos c4] at H
  have c4b0:=bqt c4
  have c4b1:=bnf c4
  clear c4
  obtain rfl:=Option.some.inj H
  go_enter Try.func67,Try.ntmps67
  go_wp2_with (first|((with_reducible refine gate_dst (N:=3) rfl ?_);refine box_ev (N:=3) (cs:=#[.int .i64 a0_0,.int .i64 a0_1,.slice A0_2 l0_2.length c0_2,.slice A0_3 l0_3.length c0_3]) (t:=24) ?_;intro gb163 hg w5 hbox hb;have BK163:=Aside0.mk (hbox);have GW163 : Aside0 (w.heap.size ≤ gb163):=gsz hg;have GE163:=GW163;replace HB:=hbs hb;clear hb hbox hg))
  go_ret
  exact ⟨er_,hb_⟩
 rw [if_neg c4] at H
 have c4b0:=bqf c4
 have c4b1:=bnt c4
 by_cases c6 : a2 = 1
 ·rw [if_pos c6] at H
  have c6b0:=bqt c6
  have c6b1:=bnf c6
  clear c6
  obtain rfl:=Option.some.inj H
  go_enter Try.func67,Try.ntmps67
  go_wp2_with (first|((with_reducible refine gate_dst (N:=3) rfl ?_);refine box_ev (N:=3) (cs:=#[.int .i64 a0_0,.int .i64 a0_1,.slice A0_2 l0_2.length c0_2,.slice A0_3 l0_3.length c0_3]) (t:=24) ?_;intro gb163 hg w7 hbox hb;have BK163:=Aside0.mk (hbox);have GW163 : Aside0 (w.heap.size ≤ gb163):=gsz hg;have GE163:=GW163;replace HB:=hbs hb;clear hb hbox hg;obtain ⟨_,_,_,_,_,_,_,_⟩:=cells4 BK163.out))
  go_ret
  exact ⟨er_,hb_⟩
 ·rw [if_neg c6] at H
  have c6b0:=bqf c6
  have c6b1:=bnt c6
  by_cases c9 : a2 = 2
  ·rw [if_pos c9] at H
   have c9b0:=bqt c9
   have c9b1:=bnf c9
   clear c9
   obtain rfl:=Option.some.inj H
   go_enter Try.func67,Try.ntmps67
   go_wp2_with (first|((with_reducible refine gate_dst (N:=3) rfl ?_);refine box_ev (N:=3) (cs:=#[.int .i64 a0_0,.int .i64 a0_1,.slice A0_2 l0_2.length c0_2,.slice A0_3 l0_3.length c0_3]) (t:=24) ?_;intro gb163 hg w10 hbox hb;have BK163:=Aside0.mk (hbox);have GW163 : Aside0 (w.heap.size ≤ gb163):=gsz hg;have GE163:=GW163;replace HB:=hbs hb;clear hb hbox hg))
   go_ret
   exact ⟨er_,hb_⟩
  ·rw [if_neg c9] at H
   have c9b0:=bqf c9
   have c9b1:=bnt c9
   obtain rfl:=Option.some.inj H
   go_enter Try.func67,Try.ntmps67
   go_wp2_with (first|((with_reducible refine gate_dst (N:=3) rfl ?_);refine box_ev (N:=3) (cs:=#[.int .i64 a0_0,.int .i64 a0_1,.slice A0_2 l0_2.length c0_2,.slice A0_3 l0_3.length c0_3]) (t:=24) ?_;intro gb163 hg w11 hbox hb;have BK163:=Aside0.mk (hbox);have GW163 : Aside0 (w.heap.size ≤ gb163):=gsz hg;have GE163:=GW163;replace HB:=hbs hb;clear hb hbox hg;obtain ⟨_,_,_,_,_,_,_,_⟩:=cells4 BK163.out))
   go_ret
   exact ⟨er_,hb_⟩

end Go.Proofs.Ythjmdpekcleihaa.P

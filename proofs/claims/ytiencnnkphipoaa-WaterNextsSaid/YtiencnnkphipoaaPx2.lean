/- Functions of this seat as plain Lean functions, with proofs that the Go code comes to just their answers, or what stands between them and a law's statement; no conditions. (Laid by a program of this session, out of the kit's print.) -/
import Derived.Test.YtiencnnkphipoaaPx0
import Derived.Test.YtiencnnkphipoaaPx1
namespace Go.Proofs.Ytiencnnkphipoaa.P
open Go.RowKit Go.Proofs.YtiencnnkphipoaaW.PrintWords Go.Proofs.YtiencnnkphipoaaW.PrintLast Go.Proofs.YtiencnnkphipoaaW.PrintMore
attribute [local go_sem] max2_int min2_int max_two min_two max_three min_three max_four min_four   -- for this text's walks alone
set_option linter.unusedVariables false
set_option linter.unusedSimpArgs false

/-! ### land_Validate: function 76 -/
mutual
def land_Validate.j0 : Nat → Bool → Int → Int → List Int → Option (Int)
 | 0,_,_,_,_ => none
 | k + 1,x38,x118000,x118001,x118002 => if x38 = true then (some 1) else (land_Validate.l0 k x118002 (x118002.length : Int) 0 x118000 x118001 x118002)
def land_Validate.l0 : Nat → List Int → Int → Int → Int → Int → List Int → Option (Int)
 | 0,_,_,_,_,_,_ => none
 | k + 1,x40,x41,x42,x118000,x118001,x118002 => if x42 < x41 then (if 0 ≤ x42 then (if x42 < (x40.length : Int) then (if (rd x40 x42) < 0 then (some 1) else (if (rd x40 x42) > 15 then (some 1) else (land_Validate.l0 k x40 x41 (wrap64 (x42 + 1)) x118000 x118001 x118002))) else (none)) else (none)) else (land_Validate.l1 k 0 x118000 x118001 x118002)
def land_Validate.l1 : Nat → Int → Int → Int → List Int → Option (Int)
 | 0,_,_,_,_ => none
 | k + 1,x5,x118000,x118001,x118002 => if x5 ≤ x118001 then (land_Validate.l2 k x5 0 x118000 x118001 x118002) else (some 0)
def land_Validate.l2 : Nat → Int → Int → Int → Int → List Int → Option (Int)
 | 0,_,_,_,_,_ => none
 | k + 1,x5,x6,x118000,x118001,x118002 => if x6 ≤ x118000 then (if 0 ≤ (wrap64 ((wrap64 (x5 * (wrap64 (x118000 + 1)))) + x6)) then (if (wrap64 ((wrap64 (x5 * (wrap64 (x118000 + 1)))) + x6)) < (x118002.length : Int) then (if x6 < x118000 then (if 0 ≤ (wrap64 ((wrap64 ((wrap64 (x5 * (wrap64 (x118000 + 1)))) + x6)) + 1)) then (if (wrap64 ((wrap64 ((wrap64 (x5 * (wrap64 (x118000 + 1)))) + x6)) + 1)) < (x118002.length : Int) then ((land_apart.f (rd x118002 (wrap64 ((wrap64 (x5 * (wrap64 (x118000 + 1)))) + x6))) (rd x118002 (wrap64 ((wrap64 ((wrap64 (x5 * (wrap64 (x118000 + 1)))) + x6)) + 1)))).bind fun t121 => (if t121 = true then (some 5) else (if x5 < x118001 then (if 0 ≤ (wrap64 ((wrap64 ((wrap64 (x5 + 1)) * (wrap64 (x118000 + 1)))) + x6)) then (if (wrap64 ((wrap64 ((wrap64 (x5 + 1)) * (wrap64 (x118000 + 1)))) + x6)) < (x118002.length : Int) then ((land_apart.f (rd x118002 (wrap64 ((wrap64 (x5 * (wrap64 (x118000 + 1)))) + x6))) (rd x118002 (wrap64 ((wrap64 ((wrap64 (x5 + 1)) * (wrap64 (x118000 + 1)))) + x6)))).bind fun t123 => (if t123 = true then (some 5) else (land_Validate.l2 k x5 (wrap64 (x6 + 1)) x118000 x118001 x118002))) else (none)) else (none)) else (land_Validate.l2 k x5 (wrap64 (x6 + 1)) x118000 x118001 x118002)))) else (none)) else (none)) else (if x5 < x118001 then (if 0 ≤ (wrap64 ((wrap64 ((wrap64 (x5 + 1)) * (wrap64 (x118000 + 1)))) + x6)) then (if (wrap64 ((wrap64 ((wrap64 (x5 + 1)) * (wrap64 (x118000 + 1)))) + x6)) < (x118002.length : Int) then ((land_apart.f (rd x118002 (wrap64 ((wrap64 (x5 * (wrap64 (x118000 + 1)))) + x6))) (rd x118002 (wrap64 ((wrap64 ((wrap64 (x5 + 1)) * (wrap64 (x118000 + 1)))) + x6)))).bind fun t125 => (if t125 = true then (some 5) else (land_Validate.l2 k x5 (wrap64 (x6 + 1)) x118000 x118001 x118002))) else (none)) else (none)) else (land_Validate.l2 k x5 (wrap64 (x6 + 1)) x118000 x118001 x118002))) else (none)) else (none)) else (land_Validate.l1 k (wrap64 (x5 + 1)) x118000 x118001 x118002)
end
def land_Validate.f (k : Nat) (a0_0 : Int) (a0_1 : Int) (l0_2 : List Int) : Option (Int) := if a0_0 < 4 then (land_Validate.j0 k true a0_0 a0_1 l0_2) else (if a0_0 > 32 then (land_Validate.j0 k true a0_0 a0_1 l0_2) else (if a0_1 < 4 then (land_Validate.j0 k true a0_0 a0_1 l0_2) else (if a0_1 > 32 then (land_Validate.j0 k true a0_0 a0_1 l0_2) else (land_Validate.j0 k ((l0_2.length : Int) != (wrap64 ((wrap64 (a0_0 + 1)) * (wrap64 (a0_1 + 1))))) a0_0 a0_1 l0_2))))
theorem land_Validate.mono_l : ∀ k, (∀ y0 y1 y2 y3, LeO (land_Validate.j0 k y0 y1 y2 y3) (land_Validate.j0 (k + 1) y0 y1 y2 y3)) ∧ (∀ y0 y1 y2 y3 y4 y5, LeO (land_Validate.l0 k y0 y1 y2 y3 y4 y5) (land_Validate.l0 (k + 1) y0 y1 y2 y3 y4 y5)) ∧ (∀ y0 y1 y2 y3, LeO (land_Validate.l1 k y0 y1 y2 y3) (land_Validate.l1 (k + 1) y0 y1 y2 y3)) ∧ (∀ y0 y1 y2 y3 y4, LeO (land_Validate.l2 k y0 y1 y2 y3 y4) (land_Validate.l2 (k + 1) y0 y1 y2 y3 y4))
 | 0 => ⟨fun _ _ _ _ r h => by simp [land_Validate.j0] at h,fun _ _ _ _ _ _ r h => by simp [land_Validate.l0] at h,fun _ _ _ _ r h => by simp [land_Validate.l1] at h,fun _ _ _ _ _ r h => by simp [land_Validate.l2] at h⟩
 | k + 1 => by
  obtain ⟨ih0,ih1,ih2,ih3⟩:=land_Validate.mono_l k
  refine ⟨?_,?_,?_,?_⟩
  ·intro y0 y1 y2 y3
   unfold land_Validate.j0
   repeat' first
   | (with_reducible exact ih0 _ _ _ _)
   | (with_reducible exact ih1 _ _ _ _ _ _)
   | (with_reducible exact ih2 _ _ _ _)
   | (with_reducible exact ih3 _ _ _ _ _)
   | (with_reducible exact LeO.refl _)
   | (with_reducible exact LeO.none _)
   | (with_reducible refine LeO.ite ?_ ?_)
   | (with_reducible refine LeO.bind ?_ (fun _ => ?_))
   | exact ih0 _ _ _ _
   | exact ih1 _ _ _ _ _ _
   | exact ih2 _ _ _ _
   | exact ih3 _ _ _ _ _
   | exact LeO.none _
   | refine LeO.ite ?_ ?_
   | refine LeO.bind ?_ (fun _ => ?_)
  ·intro y0 y1 y2 y3 y4 y5
   unfold land_Validate.l0
   repeat' first
   | (with_reducible exact ih0 _ _ _ _)
   | (with_reducible exact ih1 _ _ _ _ _ _)
   | (with_reducible exact ih2 _ _ _ _)
   | (with_reducible exact ih3 _ _ _ _ _)
   | (with_reducible exact LeO.refl _)
   | (with_reducible exact LeO.none _)
   | (with_reducible refine LeO.ite ?_ ?_)
   | (with_reducible refine LeO.bind ?_ (fun _ => ?_))
   | exact ih0 _ _ _ _
   | exact ih1 _ _ _ _ _ _
   | exact ih2 _ _ _ _
   | exact ih3 _ _ _ _ _
   | exact LeO.none _
   | refine LeO.ite ?_ ?_
   | refine LeO.bind ?_ (fun _ => ?_)
  ·intro y0 y1 y2 y3
   unfold land_Validate.l1
   repeat' first
   | (with_reducible exact ih0 _ _ _ _)
   | (with_reducible exact ih1 _ _ _ _ _ _)
   | (with_reducible exact ih2 _ _ _ _)
   | (with_reducible exact ih3 _ _ _ _ _)
   | (with_reducible exact LeO.refl _)
   | (with_reducible exact LeO.none _)
   | (with_reducible refine LeO.ite ?_ ?_)
   | (with_reducible refine LeO.bind ?_ (fun _ => ?_))
   | exact ih0 _ _ _ _
   | exact ih1 _ _ _ _ _ _
   | exact ih2 _ _ _ _
   | exact ih3 _ _ _ _ _
   | exact LeO.none _
   | refine LeO.ite ?_ ?_
   | refine LeO.bind ?_ (fun _ => ?_)
  ·intro y0 y1 y2 y3 y4
   unfold land_Validate.l2
   repeat' first
   | (with_reducible exact ih0 _ _ _ _)
   | (with_reducible exact ih1 _ _ _ _ _ _)
   | (with_reducible exact ih2 _ _ _ _)
   | (with_reducible exact ih3 _ _ _ _ _)
   | (with_reducible exact LeO.refl _)
   | (with_reducible exact LeO.none _)
   | (with_reducible refine LeO.ite ?_ ?_)
   | (with_reducible refine LeO.bind ?_ (fun _ => ?_))
   | exact ih0 _ _ _ _
   | exact ih1 _ _ _ _ _ _
   | exact ih2 _ _ _ _
   | exact ih3 _ _ _ _ _
   | exact LeO.none _
   | refine LeO.ite ?_ ?_
   | refine LeO.bind ?_ (fun _ => ?_)
theorem land_Validate.mono : ∀ a0 a1 a2 k, LeO (land_Validate.f k a0 a1 a2) (land_Validate.f (k + 1) a0 a1 a2) := by
 intro a0 a1 a2 k
 obtain ⟨ih0,ih1,ih2,ih3⟩:=land_Validate.mono_l k
 unfold land_Validate.f
 repeat' first
   | (with_reducible exact ih0 _ _ _ _)
   | (with_reducible exact ih1 _ _ _ _ _ _)
   | (with_reducible exact ih2 _ _ _ _)
   | (with_reducible exact ih3 _ _ _ _ _)
   | (with_reducible exact LeO.refl _)
   | (with_reducible exact LeO.none _)
   | (with_reducible refine LeO.ite ?_ ?_)
   | (with_reducible refine LeO.bind ?_ (fun _ => ?_))
   | exact ih0 _ _ _ _
   | exact ih1 _ _ _ _ _ _
   | exact ih2 _ _ _ _
   | exact ih3 _ _ _ _ _
   | exact LeO.none _
   | refine LeO.ite ?_ ?_
   | refine LeO.bind ?_ (fun _ => ?_)
set_option maxHeartbeats 8000000 in
set_option maxRecDepth 100000 in
theorem land_Validate.calls (k : Nat) (a0_0 : Int) (a0_1 : Int) (A0_2 : Option Addr) (c0_2 : Nat) (l0_2 : List Int) (r : Int) (w : World) (hr0_2 : Kd.C (Kd.int .i64) w A0_2 l0_2.length l0_2) (hc0_2 : l0_2.length ≤ c0_2) (h : land_Validate.f k a0_0 a0_1 l0_2 = some r) :
  Calls Try.prog 76 #[.agg #[.int .i64 a0_0,.int .i64 a0_1,.slice A0_2 l0_2.length c0_2]] w fun e w' => e = .returned (.int .i64 r) ∧ Below w.heap.size w w':=by
 have hu24:=Try.underlying24
 have HR0_2:=Aside0.mk hr0_2
 have HC0_2:=Aside0.mk hc0_2
 clear hr0_2 hc0_2
 have HB:=Aside0.mk (Below.refl w.heap.size w)
 have H : (if a0_0 < 4 then (land_Validate.j0 k true a0_0 a0_1 l0_2) else (if a0_0 > 32 then (land_Validate.j0 k true a0_0 a0_1 l0_2) else (if a0_1 < 4 then (land_Validate.j0 k true a0_0 a0_1 l0_2) else (if a0_1 > 32 then (land_Validate.j0 k true a0_0 a0_1 l0_2) else (land_Validate.j0 k ((l0_2.length : Int) != (wrap64 ((wrap64 (a0_0 + 1)) * (wrap64 (a0_1 + 1))))) a0_0 a0_1 l0_2))))) = some r:=h
 clear h
 have HC2:=Aside0.mk H
 clear H
 go_enter Try.func76,Try.ntmps76
 go_upto_region 1 with (first|((with_reducible refine gate_dst (N:=1) rfl ?_);(try (refine gate_guard (by rfl) ?_;dsimp only));refine box_ev (N:=1) (cs:=#[.int .i64 a0_0,.int .i64 a0_1,.slice A0_2 l0_2.length c0_2]) (t:=24) ?_;intro gb117 hg w3 hbox hb;have BK117:=Aside0.mk (hbox);have GW117 : Aside0 (w.heap.size ≤ gb117):=gsz hg;have GE117:=GW117;replace HB:=Aside0.mk (below_step (hb_) hb);clear hb hbox hg))
 (try simp only [Act.put,List.setIfInBounds_toArray,List.set_cons_zero,List.set_cons_succ])
 go_cut [38] (fun v38 wc => ∃ (kq : Nat) (x38_1 : Bool),v38 = .bool x38_1 ∧ Aside0 (land_Validate.j0 kq x38_1 a0_0 a0_1 l0_2 = some r) ∧ Aside0 (kq ≤ k) ∧ Aside0 (wc.heap[gb117]? = some (.cells #[.int .i64 a0_0,.int .i64 a0_1,(.slice A0_2 l0_2.length c0_2)] 24 (0,0))) ∧ Aside0 (Below w.heap.size w wc))
 case first =>
  have H:=HC2.out
  clear HC2
  by_cases c4 : a0_0 < 4
  ·rw [if_pos c4] at H
   have c4b0 : decide (a0_0 < 4) = true:=decide_eq_true c4
   clear c4
   (first|rw [c4b0]|(simp only [i64_w,i32_w];rw [c4b0])|skip)
   have H':=Aside0.mk H
   clear H
   obtain ⟨hcz5_0,hcz5_1,hcz5_2,hfz5_0,hfz5_1,hfz5_2⟩:=cells3 BK117.out
   go_wp2
   go_meet
   case rel => exact ⟨_,(true),(by first|rfl|(simp;done)|(simp [*];done)),H',⟨by first|omega|exact Nat.le_refl _⟩,⟨blk_up BK117.out⟩,⟨hb_⟩⟩
  rw [if_neg c4] at H
  have c4b0 : decide (a0_0 < 4) = false:=decide_eq_false c4
  clear c4
  (first|rw [c4b0]|(simp only [i64_w,i32_w];rw [c4b0])|skip)
  by_cases c6 : a0_0 > 32
  ·rw [if_pos c6] at H
   have c6b0 : decide (32 < a0_0) = true:=decide_eq_true c6
   clear c6
   have H':=Aside0.mk H
   clear H
   obtain ⟨hcz7_0,hcz7_1,hcz7_2,hfz7_0,hfz7_1,hfz7_2⟩:=cells3 BK117.out
   go_wp2
   go_meet
   case rel => exact ⟨_,(true),(by first|rfl|(simp;done)|(simp [*];done)),H',⟨by first|omega|exact Nat.le_refl _⟩,⟨blk_up BK117.out⟩,⟨hb_⟩⟩
  rw [if_neg c6] at H
  have c6b0 : decide (32 < a0_0) = false:=decide_eq_false c6
  clear c6
  by_cases c8 : a0_1 < 4
  ·rw [if_pos c8] at H
   have c8b0 : decide (a0_1 < 4) = true:=decide_eq_true c8
   clear c8
   have H':=Aside0.mk H
   clear H
   obtain ⟨hcz9_0,hcz9_1,hcz9_2,hfz9_0,hfz9_1,hfz9_2⟩:=cells3 BK117.out
   go_wp2
   go_meet
   case rel => exact ⟨_,(true),(by first|rfl|(simp;done)|(simp [*];done)),H',⟨by first|omega|exact Nat.le_refl _⟩,⟨blk_up BK117.out⟩,⟨hb_⟩⟩
  ·rw [if_neg c8] at H
   have c8b0 : decide (a0_1 < 4) = false:=decide_eq_false c8
   clear c8
   by_cases c10 : a0_1 > 32
   ·rw [if_pos c10] at H
    have c10b0 : decide (32 < a0_1) = true:=decide_eq_true c10
    clear c10
    have H':=Aside0.mk H
    clear H
    obtain ⟨hcz11_0,hcz11_1,hcz11_2,hfz11_0,hfz11_1,hfz11_2⟩:=cells3 BK117.out
    go_wp2
    go_meet
    case rel => exact ⟨_,(true),(by first|rfl|(simp;done)|(simp [*];done)),H',⟨by first|omega|exact Nat.le_refl _⟩,⟨blk_up BK117.out⟩,⟨hb_⟩⟩
   ·rw [if_neg c10] at H
    have c10b0 : decide (32 < a0_1) = false:=decide_eq_false c10
    clear c10
    have H':=Aside0.mk H
    clear H
    obtain ⟨hcz12_0,hcz12_1,hcz12_2,hfz12_0,hfz12_1,hfz12_2⟩:=cells3 BK117.out
    go_wp2
    go_meet
    case rel => exact ⟨_,(((l0_2.length : Int) != (wrap64 ((wrap64 (a0_0 + 1)) * (wrap64 (a0_1 + 1)))))),(by first|rfl|(simp;done)|(simp [*];done)),H',⟨by first|omega|exact Nat.le_refl _⟩,⟨blk_up BK117.out⟩,⟨hb_⟩⟩
 case rest =>
  clear HC2
  obtain ⟨kq,x38_1,rfl,HA,HJ1,BK117,HB⟩:=hcut
  cases kq with
  | zero => exact absurd HA.out (by simp [land_Validate.j0])
  | succ kj1 =>
   have H:=HA.out
   clear HA
   simp only [land_Validate.j0] at H
   by_cases c13 : x38_1 = true
   ·subst c13
    have H1 : (some 1) = some r:=by rw [if_pos rfl] at H;exact H
    clear H
    have H:=H1
    clear H1
    obtain rfl:=Option.some.inj H
    go_wp2
    go_ret
    exact ⟨by first|rfl|(simp [errW_none,errW_some] <;> rfl)|(simp [*,errW_none,errW_some] <;> rfl),hb_⟩
   ·replace c13:=Bool.eq_false_iff.mpr c13
    subst c13
    have H1 : (land_Validate.l0 kj1 l0_2 (l0_2.length : Int) 0 a0_0 a0_1 l0_2) = some r:=by rw [if_neg (show ¬ (false = true) by decide)] at H;exact H
    clear H
    have H:=H1
    clear H1
    have H':=Aside0.mk H
    clear H
    obtain ⟨hcz14_0,hcz14_1,hcz14_2,hfz14_0,hfz14_1,hfz14_2⟩:=cells3 BK117.out
    go_wp2
    go_loopg [42] kj1 (fun kq v42 w' => ∃ (x42_2 : Int),v42 = .int .i64 x42_2 ∧ Aside0 (land_Validate.l0 kq l0_2 (l0_2.length : Int) x42_2 a0_0 a0_1 l0_2 = some r) ∧ Aside0 (kq ≤ kj1) ∧ Aside0 (w'.heap[gb117]? = some (.cells #[.int .i64 a0_0,.int .i64 a0_1,(.slice A0_2 l0_2.length c0_2)] 24 (0,0))) ∧ Aside0 (Below w.heap.size w w'))
    case atStart => exact ⟨(0),(by first|rfl|(simp;done)|(simp [*];done)),H',⟨Nat.le_refl _⟩,⟨blk_up BK117.out⟩,⟨hb_⟩⟩
    case round =>
     clear H'
     obtain ⟨x42_2,rfl,HA,HK2,BK117,HB⟩:=hrel
     cases gk with
     | zero => exact absurd HA.out (by simp [land_Validate.l0])
     | succ k2 =>
      have H:=HA.out
      clear HA
      simp only [land_Validate.l0] at H
      by_cases c15 : x42_2 < (l0_2.length : Int)
      ·rw [if_pos c15] at H
       have c15b0 : decide (x42_2 < (l0_2.length : Int)) = true:=decide_eq_true c15
       clear c15
       replace H:=ifp_ H;obtain ⟨c16,H⟩:=H
       have c16b0 : decide (0 ≤ x42_2) = true:=decide_eq_true c16
       clear c16
       replace H:=ifp_ H;obtain ⟨c17,H⟩:=H
       have c17b0 : decide (x42_2 < (l0_2.length : Int)) = true:=decide_eq_true c17
       clear c17
       by_cases c18 : (rd l0_2 x42_2) < 0
       ·rw [if_pos c18] at H
        have c18b0 : decide ((rd l0_2 x42_2) < 0) = true:=decide_eq_true c18
        clear c18
        obtain rfl:=Option.some.inj H
        have p118 : 0 ≤ (x42_2 : Int):=of_decide_eq_true (by first|(with_reducible assumption)|assumption)
        have q118 : x42_2 < (l0_2.length : Int):=of_decide_eq_true (by first|(with_reducible assumption)|assumption)
        obtain ⟨ad118,e118,hx118_0⟩:=Kd.at_int HR0_2.out x42_2 p118 q118
        cases e118
        replace hx118_0:=(HB.out.cell (World.block_lt_of_cell? w _ hx118_0)).trans hx118_0
        replace p118:=eq_true p118
        replace q118:=eq_true q118
        go_wp2
        go_ret
        exact ⟨by first|rfl|(simp [errW_none,errW_some] <;> rfl)|(simp [*,errW_none,errW_some] <;> rfl),hb_⟩
       rw [if_neg c18] at H
       have c18b0 : decide ((rd l0_2 x42_2) < 0) = false:=decide_eq_false c18
       clear c18
       by_cases c19 : (rd l0_2 x42_2) > 15
       ·rw [if_pos c19] at H
        have c19b0 : decide (15 < (rd l0_2 x42_2)) = true:=decide_eq_true c19
        clear c19
        obtain rfl:=Option.some.inj H
        have p118 : 0 ≤ (x42_2 : Int):=of_decide_eq_true (by first|(with_reducible assumption)|assumption)
        have q118 : x42_2 < (l0_2.length : Int):=of_decide_eq_true (by first|(with_reducible assumption)|assumption)
        obtain ⟨ad118,e118,hx118_0⟩:=Kd.at_int HR0_2.out x42_2 p118 q118
        cases e118
        replace hx118_0:=(HB.out.cell (World.block_lt_of_cell? w _ hx118_0)).trans hx118_0
        replace p118:=eq_true p118
        replace q118:=eq_true q118
        go_wp2
        go_ret
        exact ⟨by first|rfl|(simp [errW_none,errW_some] <;> rfl)|(simp [*,errW_none,errW_some] <;> rfl),hb_⟩
       ·rw [if_neg c19] at H
        have c19b0 : decide (15 < (rd l0_2 x42_2)) = false:=decide_eq_false c19
        clear c19
        have H':=Aside0.mk H
        clear H
        have p118 : 0 ≤ (x42_2 : Int):=of_decide_eq_true (by first|(with_reducible assumption)|assumption)
        have q118 : x42_2 < (l0_2.length : Int):=of_decide_eq_true (by first|(with_reducible assumption)|assumption)
        obtain ⟨ad118,e118,hx118_0⟩:=Kd.at_int HR0_2.out x42_2 p118 q118
        cases e118
        replace hx118_0:=(HB.out.cell (World.block_lt_of_cell? w _ hx118_0)).trans hx118_0
        replace p118:=eq_true p118
        replace q118:=eq_true q118
        go_wp2
        go_roundg k2
        case measure => have:=HJ1.out;have:=HK2.out;omega
        case rel => exact ⟨(wrap64 (x42_2 + 1)),(by first|rfl|(simp;done)|(simp [*];done)),H',⟨by have:=HJ1.out;have:=HK2.out;omega⟩,⟨blk_up BK117.out⟩,⟨hb_⟩⟩
      rw [if_neg c15] at H
      have c15b0 : decide (x42_2 < (l0_2.length : Int)) = false:=decide_eq_false c15
      clear c15
      have H':=Aside0.mk H
      clear H
      go_wp2
      go_loopg [5] k2 (fun kq v5 w' => ∃ (x5_3 : Int),v5 = .int .i64 x5_3 ∧ Aside0 (land_Validate.l1 kq x5_3 a0_0 a0_1 l0_2 = some r) ∧ Aside0 (kq ≤ k2) ∧ Aside0 (w'.heap[gb117]? = some (.cells #[.int .i64 a0_0,.int .i64 a0_1,(.slice A0_2 l0_2.length c0_2)] 24 (0,0))) ∧ Aside0 (Below w.heap.size w w'))
      case atStart => exact ⟨(0),(by first|rfl|(simp;done)|(simp [*];done)),H',⟨Nat.le_refl _⟩,⟨blk_up BK117.out⟩,⟨hb_⟩⟩
      case round =>
       clear H'
       obtain ⟨x5_3,rfl,HA,HK3,BK117,HB⟩:=hrel
       cases gk with
       | zero => exact absurd HA.out (by simp [land_Validate.l1])
       | succ k3 =>
        have H:=HA.out
        clear HA
        simp only [land_Validate.l1] at H
        by_cases c20 : x5_3 ≤ a0_1
        rotate_left
        ·rw [if_neg c20] at H
         have c20b0 : decide (x5_3 ≤ a0_1) = false:=decide_eq_false c20
         clear c20
         obtain rfl:=Option.some.inj H
         obtain ⟨hcz52_0,hcz52_1,hcz52_2,hfz52_0,hfz52_1,hfz52_2⟩:=cells3 BK117.out
         go_wp2
         go_ret
         exact ⟨by first|rfl|(simp [errW_none,errW_some] <;> rfl)|(simp [*,errW_none,errW_some] <;> rfl),hb_⟩
        rw [if_pos c20] at H
        have c20b0 : decide (x5_3 ≤ a0_1) = true:=decide_eq_true c20
        clear c20
        have H':=Aside0.mk H
        clear H
        obtain ⟨hcz21_0,hcz21_1,hcz21_2,hfz21_0,hfz21_1,hfz21_2⟩:=cells3 BK117.out
        go_wp2
        go_loopg [6] k3 (fun kq v6 w' => ∃ (x6_4 : Int),v6 = .int .i64 x6_4 ∧ Aside0 (land_Validate.l2 kq x5_3 x6_4 a0_0 a0_1 l0_2 = some r) ∧ Aside0 (kq ≤ k3) ∧ Aside0 (w'.heap[gb117]? = some (.cells #[.int .i64 a0_0,.int .i64 a0_1,(.slice A0_2 l0_2.length c0_2)] 24 (0,0))) ∧ Aside0 (Below w.heap.size w w'))
        case atStart => exact ⟨(0),(by first|rfl|(simp;done)|(simp [*];done)),H',⟨Nat.le_refl _⟩,⟨blk_up BK117.out⟩,⟨hb_⟩⟩
        case round =>
         clear H'
         obtain ⟨x6_4,rfl,HA,HK4,BK117,HB⟩:=hrel
         cases gk with
         | zero => exact absurd HA.out (by simp [land_Validate.l2])
         | succ k4 =>
          have H:=HA.out
          clear HA
          simp only [land_Validate.l2] at H
          by_cases c22 : x6_4 ≤ a0_0
          rotate_left
          ·rw [if_neg c22] at H
           have c22b0 : decide (x6_4 ≤ a0_0) = false:=decide_eq_false c22
           clear c22
           have H':=Aside0.mk H
           clear H
           obtain ⟨hcz51_0,hcz51_1,hcz51_2,hfz51_0,hfz51_1,hfz51_2⟩:=cells3 BK117.out
           go_wp2
           go_roundg k4
           case measure => have:=HJ1.out;have:=HK2.out;have:=HK3.out;have:=HK4.out;omega
           case rel => exact ⟨(wrap64 (x5_3 + 1)),(by first|rfl|(simp;done)|(simp [*];done)),H',⟨by have:=HJ1.out;have:=HK2.out;have:=HK3.out;have:=HK4.out;omega⟩,⟨blk_up BK117.out⟩,⟨hb_⟩⟩
          rw [if_pos c22] at H
          have c22b0 : decide (x6_4 ≤ a0_0) = true:=decide_eq_true c22
          clear c22
          obtain ⟨ji23,hji23⟩ : ∃ j_ : Int,(wrap64 ((wrap64 (x5_3 * (wrap64 (a0_0 + 1)))) + x6_4)) = j_:=⟨_,rfl⟩
          replace H : (if 0 ≤ (ji23) then (if (ji23) < (l0_2.length : Int) then (if x6_4 < a0_0 then (if 0 ≤ (wrap64 ((ji23) + 1)) then (if (wrap64 ((ji23) + 1)) < (l0_2.length : Int) then ((land_apart.f (rd l0_2 (ji23)) (rd l0_2 (wrap64 ((ji23) + 1)))).bind fun t121 => (if t121 = true then (some 5) else (if x5_3 < a0_1 then (if 0 ≤ (wrap64 ((wrap64 ((wrap64 (x5_3 + 1)) * (wrap64 (a0_0 + 1)))) + x6_4)) then (if (wrap64 ((wrap64 ((wrap64 (x5_3 + 1)) * (wrap64 (a0_0 + 1)))) + x6_4)) < (l0_2.length : Int) then ((land_apart.f (rd l0_2 (ji23)) (rd l0_2 (wrap64 ((wrap64 ((wrap64 (x5_3 + 1)) * (wrap64 (a0_0 + 1)))) + x6_4)))).bind fun t123 => (if t123 = true then (some 5) else (land_Validate.l2 k4 x5_3 (wrap64 (x6_4 + 1)) a0_0 a0_1 l0_2))) else (none)) else (none)) else (land_Validate.l2 k4 x5_3 (wrap64 (x6_4 + 1)) a0_0 a0_1 l0_2)))) else (none)) else (none)) else (if x5_3 < a0_1 then (if 0 ≤ (wrap64 ((wrap64 ((wrap64 (x5_3 + 1)) * (wrap64 (a0_0 + 1)))) + x6_4)) then (if (wrap64 ((wrap64 ((wrap64 (x5_3 + 1)) * (wrap64 (a0_0 + 1)))) + x6_4)) < (l0_2.length : Int) then ((land_apart.f (rd l0_2 (ji23)) (rd l0_2 (wrap64 ((wrap64 ((wrap64 (x5_3 + 1)) * (wrap64 (a0_0 + 1)))) + x6_4)))).bind fun t125 => (if t125 = true then (some 5) else (land_Validate.l2 k4 x5_3 (wrap64 (x6_4 + 1)) a0_0 a0_1 l0_2))) else (none)) else (none)) else (land_Validate.l2 k4 x5_3 (wrap64 (x6_4 + 1)) a0_0 a0_1 l0_2))) else (none)) else (none)) = some r:=by first|(rw [hji23] at H;exact H)|(simp only [hji23] at H ⊢;exact H)
          have hji23w : (IntKind.i64.wrap ((wrap64 (x5_3 * (wrap64 (a0_0 + 1)))) + x6_4)) = ji23:=(i64_w _).trans hji23
          replace H:=ifp_ H;obtain ⟨c24,H⟩:=H
          have c24b0 : decide (0 ≤ (ji23)) = true:=decide_eq_true c24
          clear c24
          replace H:=ifp_ H;obtain ⟨c25,H⟩:=H
          have c25b0 : decide ((ji23) < (l0_2.length : Int)) = true:=decide_eq_true c25
          clear c25
          by_cases c26 : x6_4 < a0_0
          rotate_left
          ·rw [if_neg c26] at H
           have c26b0 : decide (x6_4 < a0_0) = false:=decide_eq_false c26
           clear c26
           by_cases c42 : x5_3 < a0_1
           rotate_left
           ·rw [if_neg c42] at H
            have c42b0 : decide (x5_3 < a0_1) = false:=decide_eq_false c42
            clear c42
            have H':=Aside0.mk H
            clear H
            obtain ⟨hcz50_0,hcz50_1,hcz50_2,hfz50_0,hfz50_1,hfz50_2⟩:=cells3 BK117.out
            have p119 : 0 ≤ ((ji23) : Int):=of_decide_eq_true (by first|(with_reducible assumption)|assumption)
            have q119 : (ji23) < (l0_2.length : Int):=of_decide_eq_true (by first|(with_reducible assumption)|assumption)
            obtain ⟨ad119,e119,hx119_0⟩:=Kd.at_int HR0_2.out (ji23) p119 q119
            cases e119
            replace hx119_0:=(HB.out.cell (World.block_lt_of_cell? w _ hx119_0)).trans hx119_0
            replace p119:=eq_true p119
            replace q119:=eq_true q119
            go_wp2
            go_roundg k4
            case measure => have:=HJ1.out;have:=HK2.out;have:=HK3.out;have:=HK4.out;omega
            case rel => exact ⟨(wrap64 (x6_4 + 1)),(by first|rfl|(simp;done)|(simp [*];done)),H',⟨by have:=HJ1.out;have:=HK2.out;have:=HK3.out;have:=HK4.out;omega⟩,⟨blk_up BK117.out⟩,⟨hb_⟩⟩
           rw [if_pos c42] at H
           have c42b0 : decide (x5_3 < a0_1) = true:=decide_eq_true c42
           clear c42
           obtain ⟨ji43,hji43⟩ : ∃ j_ : Int,(wrap64 ((wrap64 ((wrap64 (x5_3 + 1)) * (wrap64 (a0_0 + 1)))) + x6_4)) = j_:=⟨_,rfl⟩
           replace H : (if 0 ≤ (ji43) then (if (ji43) < (l0_2.length : Int) then ((land_apart.f (rd l0_2 (ji23)) (rd l0_2 (ji43))).bind fun t125 => (if t125 = true then (some 5) else (land_Validate.l2 k4 x5_3 (wrap64 (x6_4 + 1)) a0_0 a0_1 l0_2))) else (none)) else (none)) = some r:=by first|(rw [hji43] at H;exact H)|(simp only [hji43] at H ⊢;exact H)
           have hji43w : (IntKind.i64.wrap ((wrap64 ((wrap64 (x5_3 + 1)) * (wrap64 (a0_0 + 1)))) + x6_4)) = ji43:=(i64_w _).trans hji43
           replace H:=ifp_ H;obtain ⟨c44,H⟩:=H
           have c44b0 : decide (0 ≤ (ji43)) = true:=decide_eq_true c44
           clear c44
           replace H:=ifp_ H;obtain ⟨c45,H⟩:=H
           have c45b0 : decide ((ji43) < (l0_2.length : Int)) = true:=decide_eq_true c45
           clear c45
           replace H:=Option.bind_eq_some_iff.mp H
           obtain ⟨t125,A460,H⟩:=H
           replace H : (if t125 = true then (some 5) else (land_Validate.l2 k4 x5_3 (wrap64 (x6_4 + 1)) a0_0 a0_1 l0_2)) = some r:=H
           have A46:=Aside0.mk A460
           clear A460
           by_cases c47 : t125 = true
           ·subst c47
            have H1 : (some 5) = some r:=by rw [if_pos rfl] at H;exact H
            clear H
            have H:=H1
            clear H1
            obtain rfl:=Option.some.inj H
            obtain ⟨hcz48_0,hcz48_1,hcz48_2,hfz48_0,hfz48_1,hfz48_2⟩:=cells3 BK117.out
            have p119 : 0 ≤ ((ji23) : Int):=of_decide_eq_true (by first|(with_reducible assumption)|assumption)
            have q119 : (ji23) < (l0_2.length : Int):=of_decide_eq_true (by first|(with_reducible assumption)|assumption)
            obtain ⟨ad119,e119,hx119_0⟩:=Kd.at_int HR0_2.out (ji23) p119 q119
            cases e119
            replace hx119_0:=(HB.out.cell (World.block_lt_of_cell? w _ hx119_0)).trans hx119_0
            replace p119:=eq_true p119
            replace q119:=eq_true q119
            have p124 : 0 ≤ ((ji43) : Int):=of_decide_eq_true (by first|(with_reducible assumption)|assumption)
            have q124 : (ji43) < (l0_2.length : Int):=of_decide_eq_true (by first|(with_reducible assumption)|assumption)
            obtain ⟨ad124,e124,hx124_0⟩:=Kd.at_int HR0_2.out (ji43) p124 q124
            obtain rfl : ad119 = ad124:=(by injection e124)
            replace hx124_0:=(HB.out.cell (World.block_lt_of_cell? w _ hx124_0)).trans hx124_0
            replace p124:=eq_true p124
            replace q124:=eq_true q124
            go_wp2_with (first|(go_at_call 79;(with_reducible refine (land_apart.calls (rd l0_2 (ji23)) (rd l0_2 (ji43)) true _ A46.out).mono ?_);rintro e w' ⟨rfl,⟨nd,rfl⟩⟩))
            go_ret
            exact ⟨by first|rfl|(simp [errW_none,errW_some] <;> rfl)|(simp only [← hji23,← hji43];first|rfl|(simp [errW_none,errW_some] <;> rfl))|(simp [*,errW_none,errW_some] <;> rfl),hb_⟩
           ·replace c47:=Bool.eq_false_iff.mpr c47
            subst c47
            have H1 : (land_Validate.l2 k4 x5_3 (wrap64 (x6_4 + 1)) a0_0 a0_1 l0_2) = some r:=by rw [if_neg (show ¬ (false = true) by decide)] at H;exact H
            clear H
            have H:=H1
            clear H1
            have H':=Aside0.mk H
            clear H
            obtain ⟨hcz49_0,hcz49_1,hcz49_2,hfz49_0,hfz49_1,hfz49_2⟩:=cells3 BK117.out
            have p119 : 0 ≤ ((ji23) : Int):=of_decide_eq_true (by first|(with_reducible assumption)|assumption)
            have q119 : (ji23) < (l0_2.length : Int):=of_decide_eq_true (by first|(with_reducible assumption)|assumption)
            obtain ⟨ad119,e119,hx119_0⟩:=Kd.at_int HR0_2.out (ji23) p119 q119
            cases e119
            replace hx119_0:=(HB.out.cell (World.block_lt_of_cell? w _ hx119_0)).trans hx119_0
            replace p119:=eq_true p119
            replace q119:=eq_true q119
            have p124 : 0 ≤ ((ji43) : Int):=of_decide_eq_true (by first|(with_reducible assumption)|assumption)
            have q124 : (ji43) < (l0_2.length : Int):=of_decide_eq_true (by first|(with_reducible assumption)|assumption)
            obtain ⟨ad124,e124,hx124_0⟩:=Kd.at_int HR0_2.out (ji43) p124 q124
            obtain rfl : ad119 = ad124:=(by injection e124)
            replace hx124_0:=(HB.out.cell (World.block_lt_of_cell? w _ hx124_0)).trans hx124_0
            replace p124:=eq_true p124
            replace q124:=eq_true q124
            go_wp2_with (first|(go_at_call 79;(with_reducible refine (land_apart.calls (rd l0_2 (ji23)) (rd l0_2 (ji43)) false _ A46.out).mono ?_);rintro e w' ⟨rfl,⟨nd,rfl⟩⟩))
            go_roundg k4
            case measure => have:=HJ1.out;have:=HK2.out;have:=HK3.out;have:=HK4.out;omega
            case rel => exact ⟨(wrap64 (x6_4 + 1)),(by first|rfl|(simp;done)|(simp [*];done)),H',⟨by have:=HJ1.out;have:=HK2.out;have:=HK3.out;have:=HK4.out;omega⟩,⟨blk_up BK117.out⟩,⟨hb_⟩⟩
          rw [if_pos c26] at H
          have c26b0 : decide (x6_4 < a0_0) = true:=decide_eq_true c26
          clear c26
          obtain ⟨ji27,hji27⟩ : ∃ j_ : Int,(wrap64 ((ji23) + 1)) = j_:=⟨_,rfl⟩
          replace H : (if 0 ≤ (ji27) then (if (ji27) < (l0_2.length : Int) then ((land_apart.f (rd l0_2 (ji23)) (rd l0_2 (ji27))).bind fun t121 => (if t121 = true then (some 5) else (if x5_3 < a0_1 then (if 0 ≤ (wrap64 ((wrap64 ((wrap64 (x5_3 + 1)) * (wrap64 (a0_0 + 1)))) + x6_4)) then (if (wrap64 ((wrap64 ((wrap64 (x5_3 + 1)) * (wrap64 (a0_0 + 1)))) + x6_4)) < (l0_2.length : Int) then ((land_apart.f (rd l0_2 (ji23)) (rd l0_2 (wrap64 ((wrap64 ((wrap64 (x5_3 + 1)) * (wrap64 (a0_0 + 1)))) + x6_4)))).bind fun t123 => (if t123 = true then (some 5) else (land_Validate.l2 k4 x5_3 (wrap64 (x6_4 + 1)) a0_0 a0_1 l0_2))) else (none)) else (none)) else (land_Validate.l2 k4 x5_3 (wrap64 (x6_4 + 1)) a0_0 a0_1 l0_2)))) else (none)) else (none)) = some r:=by first|(rw [hji27] at H;exact H)|(simp only [hji27] at H ⊢;exact H)
          have hji27w : (IntKind.i64.wrap ((ji23) + 1)) = ji27:=(i64_w _).trans hji27
          replace H:=ifp_ H;obtain ⟨c28,H⟩:=H
          have c28b0 : decide (0 ≤ (ji27)) = true:=decide_eq_true c28
          clear c28
          replace H:=ifp_ H;obtain ⟨c29,H⟩:=H
          have c29b0 : decide ((ji27) < (l0_2.length : Int)) = true:=decide_eq_true c29
          clear c29
          replace H:=Option.bind_eq_some_iff.mp H
          obtain ⟨t121,A300,H⟩:=H
          replace H : (if t121 = true then (some 5) else (if x5_3 < a0_1 then (if 0 ≤ (wrap64 ((wrap64 ((wrap64 (x5_3 + 1)) * (wrap64 (a0_0 + 1)))) + x6_4)) then (if (wrap64 ((wrap64 ((wrap64 (x5_3 + 1)) * (wrap64 (a0_0 + 1)))) + x6_4)) < (l0_2.length : Int) then ((land_apart.f (rd l0_2 (ji23)) (rd l0_2 (wrap64 ((wrap64 ((wrap64 (x5_3 + 1)) * (wrap64 (a0_0 + 1)))) + x6_4)))).bind fun t123 => (if t123 = true then (some 5) else (land_Validate.l2 k4 x5_3 (wrap64 (x6_4 + 1)) a0_0 a0_1 l0_2))) else (none)) else (none)) else (land_Validate.l2 k4 x5_3 (wrap64 (x6_4 + 1)) a0_0 a0_1 l0_2))) = some r:=H
          have A30:=Aside0.mk A300
          clear A300
          by_cases c31 : t121 = true
          ·subst c31
           have H1 : (some 5) = some r:=by rw [if_pos rfl] at H;exact H
           clear H
           have H:=H1
           clear H1
           obtain rfl:=Option.some.inj H
           obtain ⟨hcz32_0,hcz32_1,hcz32_2,hfz32_0,hfz32_1,hfz32_2⟩:=cells3 BK117.out
           have p119 : 0 ≤ ((ji23) : Int):=of_decide_eq_true (by first|(with_reducible assumption)|assumption)
           have q119 : (ji23) < (l0_2.length : Int):=of_decide_eq_true (by first|(with_reducible assumption)|assumption)
           obtain ⟨ad119,e119,hx119_0⟩:=Kd.at_int HR0_2.out (ji23) p119 q119
           cases e119
           replace hx119_0:=(HB.out.cell (World.block_lt_of_cell? w _ hx119_0)).trans hx119_0
           replace p119:=eq_true p119
           replace q119:=eq_true q119
           have p120 : 0 ≤ ((ji27) : Int):=of_decide_eq_true (by first|(with_reducible assumption)|assumption)
           have q120 : (ji27) < (l0_2.length : Int):=of_decide_eq_true (by first|(with_reducible assumption)|assumption)
           obtain ⟨ad120,e120,hx120_0⟩:=Kd.at_int HR0_2.out (ji27) p120 q120
           obtain rfl : ad119 = ad120:=(by injection e120)
           replace hx120_0:=(HB.out.cell (World.block_lt_of_cell? w _ hx120_0)).trans hx120_0
           replace p120:=eq_true p120
           replace q120:=eq_true q120
           go_wp2_with (first|(go_at_call 79;(with_reducible refine (land_apart.calls (rd l0_2 (ji23)) (rd l0_2 (ji27)) true _ A30.out).mono ?_);rintro e w' ⟨rfl,⟨nd,rfl⟩⟩))
           go_ret
           exact ⟨by first|rfl|(simp [errW_none,errW_some] <;> rfl)|(simp only [← hji23,← hji27];first|rfl|(simp [errW_none,errW_some] <;> rfl))|(simp [*,errW_none,errW_some] <;> rfl),hb_⟩
          ·replace c31:=Bool.eq_false_iff.mpr c31
           subst c31
           have H1 : (if x5_3 < a0_1 then (if 0 ≤ (wrap64 ((wrap64 ((wrap64 (x5_3 + 1)) * (wrap64 (a0_0 + 1)))) + x6_4)) then (if (wrap64 ((wrap64 ((wrap64 (x5_3 + 1)) * (wrap64 (a0_0 + 1)))) + x6_4)) < (l0_2.length : Int) then ((land_apart.f (rd l0_2 (ji23)) (rd l0_2 (wrap64 ((wrap64 ((wrap64 (x5_3 + 1)) * (wrap64 (a0_0 + 1)))) + x6_4)))).bind fun t123 => (if t123 = true then (some 5) else (land_Validate.l2 k4 x5_3 (wrap64 (x6_4 + 1)) a0_0 a0_1 l0_2))) else (none)) else (none)) else (land_Validate.l2 k4 x5_3 (wrap64 (x6_4 + 1)) a0_0 a0_1 l0_2)) = some r:=by rw [if_neg (show ¬ (false = true) by decide)] at H;exact H
           clear H
           have H:=H1
           clear H1
           by_cases c33 : x5_3 < a0_1
           rotate_left
           ·rw [if_neg c33] at H
            have c33b0 : decide (x5_3 < a0_1) = false:=decide_eq_false c33
            clear c33
            have H':=Aside0.mk H
            clear H
            obtain ⟨hcz41_0,hcz41_1,hcz41_2,hfz41_0,hfz41_1,hfz41_2⟩:=cells3 BK117.out
            have p119 : 0 ≤ ((ji23) : Int):=of_decide_eq_true (by first|(with_reducible assumption)|assumption)
            have q119 : (ji23) < (l0_2.length : Int):=of_decide_eq_true (by first|(with_reducible assumption)|assumption)
            obtain ⟨ad119,e119,hx119_0⟩:=Kd.at_int HR0_2.out (ji23) p119 q119
            cases e119
            replace hx119_0:=(HB.out.cell (World.block_lt_of_cell? w _ hx119_0)).trans hx119_0
            replace p119:=eq_true p119
            replace q119:=eq_true q119
            have p120 : 0 ≤ ((ji27) : Int):=of_decide_eq_true (by first|(with_reducible assumption)|assumption)
            have q120 : (ji27) < (l0_2.length : Int):=of_decide_eq_true (by first|(with_reducible assumption)|assumption)
            obtain ⟨ad120,e120,hx120_0⟩:=Kd.at_int HR0_2.out (ji27) p120 q120
            obtain rfl : ad119 = ad120:=(by injection e120)
            replace hx120_0:=(HB.out.cell (World.block_lt_of_cell? w _ hx120_0)).trans hx120_0
            replace p120:=eq_true p120
            replace q120:=eq_true q120
            go_wp2_with (first|(go_at_call 79;(with_reducible refine (land_apart.calls (rd l0_2 (ji23)) (rd l0_2 (ji27)) false _ A30.out).mono ?_);rintro e w' ⟨rfl,⟨nd,rfl⟩⟩))
            go_roundg k4
            case measure => have:=HJ1.out;have:=HK2.out;have:=HK3.out;have:=HK4.out;omega
            case rel => exact ⟨(wrap64 (x6_4 + 1)),(by first|rfl|(simp;done)|(simp [*];done)),H',⟨by have:=HJ1.out;have:=HK2.out;have:=HK3.out;have:=HK4.out;omega⟩,⟨blk_up BK117.out⟩,⟨hb_⟩⟩
           rw [if_pos c33] at H
           have c33b0 : decide (x5_3 < a0_1) = true:=decide_eq_true c33
           clear c33
           obtain ⟨ji34,hji34⟩ : ∃ j_ : Int,(wrap64 ((wrap64 ((wrap64 (x5_3 + 1)) * (wrap64 (a0_0 + 1)))) + x6_4)) = j_:=⟨_,rfl⟩
           replace H : (if 0 ≤ (ji34) then (if (ji34) < (l0_2.length : Int) then ((land_apart.f (rd l0_2 (ji23)) (rd l0_2 (ji34))).bind fun t123 => (if t123 = true then (some 5) else (land_Validate.l2 k4 x5_3 (wrap64 (x6_4 + 1)) a0_0 a0_1 l0_2))) else (none)) else (none)) = some r:=by first|(rw [hji34] at H;exact H)|(simp only [hji34] at H ⊢;exact H)
           (try rw [hji34] at A30)
           have hji34w : (IntKind.i64.wrap ((wrap64 ((wrap64 (x5_3 + 1)) * (wrap64 (a0_0 + 1)))) + x6_4)) = ji34:=(i64_w _).trans hji34
           replace H:=ifp_ H;obtain ⟨c35,H⟩:=H
           have c35b0 : decide (0 ≤ (ji34)) = true:=decide_eq_true c35
           clear c35
           replace H:=ifp_ H;obtain ⟨c36,H⟩:=H
           have c36b0 : decide ((ji34) < (l0_2.length : Int)) = true:=decide_eq_true c36
           clear c36
           replace H:=Option.bind_eq_some_iff.mp H
           obtain ⟨t123,A370,H⟩:=H
           replace H : (if t123 = true then (some 5) else (land_Validate.l2 k4 x5_3 (wrap64 (x6_4 + 1)) a0_0 a0_1 l0_2)) = some r:=H
           have A37:=Aside0.mk A370
           clear A370
           by_cases c38 : t123 = true
           ·subst c38
            have H1 : (some 5) = some r:=by rw [if_pos rfl] at H;exact H
            clear H
            have H:=H1
            clear H1
            obtain rfl:=Option.some.inj H
            obtain ⟨hcz39_0,hcz39_1,hcz39_2,hfz39_0,hfz39_1,hfz39_2⟩:=cells3 BK117.out
            have p119 : 0 ≤ ((ji23) : Int):=of_decide_eq_true (by first|(with_reducible assumption)|assumption)
            have q119 : (ji23) < (l0_2.length : Int):=of_decide_eq_true (by first|(with_reducible assumption)|assumption)
            obtain ⟨ad119,e119,hx119_0⟩:=Kd.at_int HR0_2.out (ji23) p119 q119
            cases e119
            replace hx119_0:=(HB.out.cell (World.block_lt_of_cell? w _ hx119_0)).trans hx119_0
            replace p119:=eq_true p119
            replace q119:=eq_true q119
            have p120 : 0 ≤ ((ji27) : Int):=of_decide_eq_true (by first|(with_reducible assumption)|assumption)
            have q120 : (ji27) < (l0_2.length : Int):=of_decide_eq_true (by first|(with_reducible assumption)|assumption)
            obtain ⟨ad120,e120,hx120_0⟩:=Kd.at_int HR0_2.out (ji27) p120 q120
            obtain rfl : ad119 = ad120:=(by injection e120)
            replace hx120_0:=(HB.out.cell (World.block_lt_of_cell? w _ hx120_0)).trans hx120_0
            replace p120:=eq_true p120
            replace q120:=eq_true q120
            go_wp2_with (first|(go_at_call 79;(with_reducible refine (land_apart.calls (rd l0_2 (ji23)) (rd l0_2 (ji27)) false _ A30.out).mono ?_);rintro e w' ⟨rfl,⟨nd,rfl⟩⟩;have p122 : 0 ≤ ((ji34) : Int):=of_decide_eq_true (by first|(with_reducible assumption)|assumption);have q122 : (ji34) < (l0_2.length : Int):=of_decide_eq_true (by first|(with_reducible assumption)|assumption);obtain ⟨ad122,e122,hx122_0⟩:=Kd.at_int HR0_2.out (ji34) p122 q122;obtain rfl : ad119 = ad122:=(by injection e122);replace hx122_0:=(HB.out.cell (World.block_lt_of_cell? w _ hx122_0)).trans hx122_0;replace p122:=eq_true p122;replace q122:=eq_true q122)|(go_at_call 79;(with_reducible refine (land_apart.calls (rd l0_2 (ji23)) (rd l0_2 (ji34)) true _ A37.out).mono ?_);rintro e w' ⟨rfl,⟨nd,rfl⟩⟩))
            go_ret
            exact ⟨by first|rfl|(simp [errW_none,errW_some] <;> rfl)|(simp only [← hji23,← hji27,← hji34];first|rfl|(simp [errW_none,errW_some] <;> rfl))|(simp [*,errW_none,errW_some] <;> rfl),hb_⟩
           ·replace c38:=Bool.eq_false_iff.mpr c38
            subst c38
            have H1 : (land_Validate.l2 k4 x5_3 (wrap64 (x6_4 + 1)) a0_0 a0_1 l0_2) = some r:=by rw [if_neg (show ¬ (false = true) by decide)] at H;exact H
            clear H
            have H:=H1
            clear H1
            have H':=Aside0.mk H
            clear H
            obtain ⟨hcz40_0,hcz40_1,hcz40_2,hfz40_0,hfz40_1,hfz40_2⟩:=cells3 BK117.out
            have p119 : 0 ≤ ((ji23) : Int):=of_decide_eq_true (by first|(with_reducible assumption)|assumption)
            have q119 : (ji23) < (l0_2.length : Int):=of_decide_eq_true (by first|(with_reducible assumption)|assumption)
            obtain ⟨ad119,e119,hx119_0⟩:=Kd.at_int HR0_2.out (ji23) p119 q119
            cases e119
            replace hx119_0:=(HB.out.cell (World.block_lt_of_cell? w _ hx119_0)).trans hx119_0
            replace p119:=eq_true p119
            replace q119:=eq_true q119
            have p120 : 0 ≤ ((ji27) : Int):=of_decide_eq_true (by first|(with_reducible assumption)|assumption)
            have q120 : (ji27) < (l0_2.length : Int):=of_decide_eq_true (by first|(with_reducible assumption)|assumption)
            obtain ⟨ad120,e120,hx120_0⟩:=Kd.at_int HR0_2.out (ji27) p120 q120
            obtain rfl : ad119 = ad120:=(by injection e120)
            replace hx120_0:=(HB.out.cell (World.block_lt_of_cell? w _ hx120_0)).trans hx120_0
            replace p120:=eq_true p120
            replace q120:=eq_true q120
            go_wp2_with (first|(go_at_call 79;(with_reducible refine (land_apart.calls (rd l0_2 (ji23)) (rd l0_2 (ji27)) false _ A30.out).mono ?_);rintro e w' ⟨rfl,⟨nd,rfl⟩⟩;have p122 : 0 ≤ ((ji34) : Int):=of_decide_eq_true (by first|(with_reducible assumption)|assumption);have q122 : (ji34) < (l0_2.length : Int):=of_decide_eq_true (by first|(with_reducible assumption)|assumption);obtain ⟨ad122,e122,hx122_0⟩:=Kd.at_int HR0_2.out (ji34) p122 q122;obtain rfl : ad119 = ad122:=(by injection e122);replace hx122_0:=(HB.out.cell (World.block_lt_of_cell? w _ hx122_0)).trans hx122_0;replace p122:=eq_true p122;replace q122:=eq_true q122)|(go_at_call 79;(with_reducible refine (land_apart.calls (rd l0_2 (ji23)) (rd l0_2 (ji34)) false _ A37.out).mono ?_);rintro e w' ⟨rfl,⟨nd,rfl⟩⟩))
            go_roundg k4
            case measure => have:=HJ1.out;have:=HK2.out;have:=HK3.out;have:=HK4.out;omega
            case rel => exact ⟨(wrap64 (x6_4 + 1)),(by first|rfl|(simp;done)|(simp [*];done)),H',⟨by have:=HJ1.out;have:=HK2.out;have:=HK3.out;have:=HK4.out;omega⟩,⟨blk_up BK117.out⟩,⟨hb_⟩⟩

end Go.Proofs.Ytiencnnkphipoaa.P
